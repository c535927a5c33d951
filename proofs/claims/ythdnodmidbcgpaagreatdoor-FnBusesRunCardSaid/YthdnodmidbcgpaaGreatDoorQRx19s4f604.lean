import Derived.Test.YthdnodmidbcgpaaGreatDoorQRx19s4r
namespace Go.Proofs.YthdnodmidbcgpaaGreatDoor.QR
open Go.Proofs.YthdnodmidbcgpaaGreatDoor.X Go.RowKit Go.Proofs.YthdnodmidbcgpaaGreatDoorW.PrintWords Go.Proofs.YthdnodmidbcgpaaGreatDoorW.PrintLast Go.Proofs.YthdnodmidbcgpaaGreatDoorW.PrintMore
attribute [local go_sem] max2_int min2_int max_two min_two max_three min_three max_four min_four
set_option linter.unusedVariables false
set_option linter.unusedSimpArgs false
set_option maxHeartbeats 16000000 in
set_option maxRecDepth 1000000 in
theorem lw_.first604 {Ab Fz Ac Aa K9 Fb CU DU CV CW CX Ad Ae Af CY Ag Ah Ai DV DW Aj Ak Fc Fd Al Am CZ C0 C1 C2 DX DY DZ D0 D1 D2 D3 D4 Fe Ff KI KJ H0 KK La Lb Lc Ld FA FB FC FD FE FF Le H1 H2 KL KM Lf Lg Lh Li Lj Lk An Ao Ap Aq Ar As Au Av Aw Ax Ay Az AA AB AC AD AE AF AG AH AJ AK AL AM AN AO AP AQ AR AU AV AW AX AY AZ Ba Bb Bc Bd Be Bf Bg Bh Bi Bj Bk Bl Bm Bn Bo Bp Bq Br Bs Bt Bu Bv Bw Bx Bz BA BB BC BD BE BF BG BH BI BJ BK BL BM BN BO BP BQ BR BS BT BU BV BW BX BZ B0 B2 B4 B5 B6 B9 Ca Cb Cc Cd Ce Cf Cg Ch Ci Cj Ck Cl Cm Cn Co Cp Cq Cr Cs Ct Cu Cv Cw Cx Cy Cz CA CB CC CD CE CF CG CH CI CJ CK CL CM CN CO CP CQ CR CS CT C3 C4 C5 C6 C7 C8 C9 Da Db Dc Dd De Df Dg Dh Di Dj Dk Dl Dm Dn Dp Dq Dr Ds Dt Du Dv Dw Dx Dy Dz DA DB DC DD DE DF DG DH DI DJ DK DL DM DN DO DP DQ DR DS DT D5 D6 D7 D8 D9 Ea Eb Ec Ed Ee Ef Eg Eh Ei Ej Ek El Em En Eo Ep Er Es Et Eu Ew Ex Ey Ez EA EB EC ED EE EF EG EH EI EJ EK EL EM EN EO EP EQ ER ES ET EU EV EW EX EY EZ E0 E1 E2 E3 E4 E5 E6 E7 E8 E9 Fa Fg Fh Fi Fj Fk Fl Fm Fn Fo Fp Fq Fr Fs Ft Fu Fv Fw Fx Fy FG FH FI FJ FL FM FN FO FP FQ FR FS FT FU FV FW FX FY FZ F0 F1 F2 F3 F4 F5 F6 F7 F8 F9 Ga Gb Gc Gd Ge Gf Gg Gh Gi Gj Gk Gl Gm Gn Gp Gq Gr Gs Gt Gu Gv Gw Gx Gy Gz GA GB GC GD GE GF GG GH GI GJ GK GL GM GN GO GP GQ GR GS GT GU GV GW GX GY GZ G0 G1 G2 G3 G4 G5 G6 G7 G8 G9 Ha Hb Hc Hd He Hf Hg Hh Hi Hj Hk Hl Hm Hn Ho Hp Hq Hr Hs Ht Hu Hv Hw Hx Hy Hz HD HE HF HG HH HI HJ HM HN HP HQ HR HS HU HV HW HX HY HZ H3 H4 H5 H6 H7 H8 H9 Ia Ib Ic Id Ie Ig Ih Ii Ij Ik Il Im Io Ip Iq Ir Is It Iu Iv Iw Ix Iy Iz IA IB IC ID IE IF KN KO KP KQ KR KS KT KU KV KW KX KY KZ K0 K1 K2 K3 K4 K5 Ll Lm Ln Lo Lp Lq Lr Ls Lt Lu Lv Lw Lx Ly Lz LA LB LC LD LE LF LG LH LI LJ LK LL LM LN LO LP LQ LR LS LT LU LV LW LX:Value} {Kz0_:Act→World→Prop} (k:Nat) (r:Bool) (w:World) (HR_:Aside0 (r=Bool.true)) (hu26:Program.underlying Tryz.prog (26:Nat)=Option.some (TypeDesc.struct #[Field.mk "First" (3:Nat) (0:Nat) Bool.false "" "" (0:Nat),Field.mk "Every" (3:Nat) (1:Nat) Bool.false "" "" (8:Nat),Field.mk "Count" (3:Nat) (2:Nat) Bool.false "" "" (16:Nat),Field.mk "Stops" (24:Nat) (3:Nat) Bool.false "" "" (24:Nat)])) (j5v j5w j5x:Int) (j1i:List Int) (jx:Nat) (w16:World) (jd2 j3a:Aside0 (Array.size (World.heap w)≤jx)) (Ao18:Option Addr) (co18:Nat) (w19:World) (w21:World) (w23:World) (w25:World) (w27:World) (w29:World) (w31:World) (kj13:Nat) (HJ13:Aside0 (kj13+(1:Nat)≤k)) (kj71:Nat) (HJ71:Aside0 (kj71+(1:Nat)≤kj13)) (kj89:Nat) (HJ89:Aside0 (kj89+(1:Nat)≤kj71)) (kj118:Nat) (HJ118:Aside0 (kj118+(1:Nat)≤kj89)) (kj120:Nat) (HJ120:Aside0 (kj120+(1:Nat)≤kj118)) (j1l j1m j1n:Int) (jd:List Int) (j1t j1u j1v:Int) (j1c j1d:Int) (ji:Bool) (j3x j3y:Int) (j3h:Bool) (j1e:Int) (j2z:Bool) (j3z:Int) (j3i:Bool) (j1f:Int) (jh:Bool) (j4a:Int) (j3j:Bool) (j1o j1p j1q:Int) (je:List Int) (j1w j1x j1y:Int) (j1g j1h:Int) (jk:Bool) (j4b j4c:Int) (j3k:Bool) (j5y j5z j6a:Int) (j1j:List Int) (j4d:Int) (j3l j3m:Bool) (j4e:Int) (j3n j3o:Bool) (j6b j6c j6d:Int) (j1k:List Int) (j4f:Int) (j3p:Bool) (j4g:Int) (j3q:Bool) (j1z:ByteArray) (ju jv jw:Int) (jc:List Int) (jl:Bool) (j3r j3s j3t:Int) (jj:List Int) (j3u:Bool) (HC153:Aside0 ((if (ji != j3h)=Bool.true then lw_.j8 kj120 j1t j1u j1v j1c j1d ji j1e j1f jh j1w j1x j1y j1g j1h jk j1z jl Bool.true j1l j1m j1n jd j1o j1p j1q je ju jv jw jc else if j1c=j3x then if j1d=j3y then if (j2z != j3i)=Bool.true then lw_.j8 kj120 j1t j1u j1v j1c j1d ji j1e j1f jh j1w j1x j1y j1g j1h jk j1z jl Bool.true j1l j1m j1n jd j1o j1p j1q je ju jv jw jc else if j1e=j3z then if (jh != j3j)=Bool.true then lw_.j8 kj120 j1t j1u j1v j1c j1d ji j1e j1f jh j1w j1x j1y j1g j1h jk j1z jl Bool.true j1l j1m j1n jd j1o j1p j1q je ju jv jw jc else if j1f=j4a then if (jk != j3k)=Bool.true then lw_.j8 kj120 j1t j1u j1v j1c j1d ji j1e j1f jh j1w j1x j1y j1g j1h jk j1z jl Bool.true j1l j1m j1n jd j1o j1p j1q je ju jv jw jc else if j1g=j4b then if j1h=j4c then if (j3m != j3o)=Bool.true then lw_.j8 kj120 j1t j1u j1v j1c j1d ji j1e j1f jh j1w j1x j1y j1g j1h jk j1z jl Bool.true j1l j1m j1n jd j1o j1p j1q je ju jv jw jc else if j4d=j4e then if (j3l != j3n)=Bool.true then lw_.j8 kj120 j1t j1u j1v j1c j1d ji j1e j1f jh j1w j1x j1y j1g j1h jk j1z jl Bool.true j1l j1m j1n jd j1o j1p j1q je ju jv jw jc else if (j3p != j3q)=Bool.true then lw_.j8 kj120 j1t j1u j1v j1c j1d ji j1e j1f jh j1w j1x j1y j1g j1h jk j1z jl Bool.true j1l j1m j1n jd j1o j1p j1q je ju jv jw jc else if j4f=j4g then if (jl != j3u)=Bool.true then lw_.j8 kj120 j1t j1u j1v j1c j1d ji j1e j1f jh j1w j1x j1y j1g j1h jk j1z jl Bool.true j1l j1m j1n jd j1o j1p j1q je ju jv jw jc else Option.bind (laws_qLine.f kj120 ju jv jw jc j3r j3s j3t jj) fun j4h=>if j4h=Bool.true then if ji=Bool.true then if j2z=Bool.true then if jh=Bool.true then lw_.j8 kj120 j1t j1u j1v j1c j1d ji j1e j1f jh j1w j1x j1y j1g j1h jk j1z jl (!j2z) j1l j1m j1n jd j1o j1p j1q je ju jv jw jc else lw_.j8 kj120 j1t j1u j1v j1c j1d ji j1e j1f jh j1w j1x j1y j1g j1h jk j1z jl Bool.false j1l j1m j1n jd j1o j1p j1q je ju jv jw jc else lw_.j8 kj120 j1t j1u j1v j1c j1d ji j1e j1f jh j1w j1x j1y j1g j1h jk j1z jl Bool.true j1l j1m j1n jd j1o j1p j1q je ju jv jw jc else if jh=Bool.true then lw_.j8 kj120 j1t j1u j1v j1c j1d ji j1e j1f jh j1w j1x j1y j1g j1h jk j1z jl (!j2z) j1l j1m j1n jd j1o j1p j1q je ju jv jw jc else lw_.j8 kj120 j1t j1u j1v j1c j1d ji j1e j1f jh j1w j1x j1y j1g j1h jk j1z jl Bool.false j1l j1m j1n jd j1o j1p j1q je ju jv jw jc else lw_.j8 kj120 j1t j1u j1v j1c j1d ji j1e j1f jh j1w j1x j1y j1g j1h jk j1z jl Bool.true j1l j1m j1n jd j1o j1p j1q je ju jv jw jc else lw_.j8 kj120 j1t j1u j1v j1c j1d ji j1e j1f jh j1w j1x j1y j1g j1h jk j1z jl Bool.true j1l j1m j1n jd j1o j1p j1q je ju jv jw jc else lw_.j8 kj120 j1t j1u j1v j1c j1d ji j1e j1f jh j1w j1x j1y j1g j1h jk j1z jl Bool.true j1l j1m j1n jd j1o j1p j1q je ju jv jw jc else lw_.j8 kj120 j1t j1u j1v j1c j1d ji j1e j1f jh j1w j1x j1y j1g j1h jk j1z jl Bool.true j1l j1m j1n jd j1o j1p j1q je ju jv jw jc else lw_.j8 kj120 j1t j1u j1v j1c j1d ji j1e j1f jh j1w j1x j1y j1g j1h jk j1z jl Bool.true j1l j1m j1n jd j1o j1p j1q je ju jv jw jc else lw_.j8 kj120 j1t j1u j1v j1c j1d ji j1e j1f jh j1w j1x j1y j1g j1h jk j1z jl Bool.true j1l j1m j1n jd j1o j1p j1q je ju jv jw jc else lw_.j8 kj120 j1t j1u j1v j1c j1d ji j1e j1f jh j1w j1x j1y j1g j1h jk j1z jl Bool.true j1l j1m j1n jd j1o j1p j1q je ju jv jw jc else lw_.j8 kj120 j1t j1u j1v j1c j1d ji j1e j1f jh j1w j1x j1y j1g j1h jk j1z jl Bool.true j1l j1m j1n jd j1o j1p j1q je ju jv jw jc else lw_.j8 kj120 j1t j1u j1v j1c j1d ji j1e j1f jh j1w j1x j1y j1g j1h jk j1z jl Bool.true j1l j1m j1n jd j1o j1p j1q je ju jv jw jc)=Option.some r)) (jy:Nat) (jd9:World) (jd3 j3b:Aside0 (Array.size (World.heap w)≤jy)) (j8y:jy≠jx) (j8z:jx≠jy) (Ao158:Option Addr) (co158:Nat) (jda:World) (jdb:World) (jdc:World) (jdd:World) (jde:World) (jz:Nat) (jdf:World) (jd4 j3c:Aside0 (Array.size (World.heap w)≤jz)) (j9a:jz≠jx) (j9b:jx≠jz) (j9c:jz≠jy) (j9d:jy≠jz) (Ao175:Option Addr) (co175:Nat) (jdg:World) (j1a:Nat) (jdh:World) (jd5 j3d:Aside0 (Array.size (World.heap w)≤j1a)) (j9e:j1a≠jx) (j9f:jx≠j1a) (j9g:j1a≠jy) (j9h:jy≠j1a) (j9i:j1a≠jz) (j9j:jz≠j1a) (Ao185:Option Addr) (co185:Nat) (jdi:World) (j1b:Nat) (jdj:World) (jd6 j3e:Aside0 (Array.size (World.heap w)≤j1b)) (j9k:j1b≠jx) (j9l:jx≠j1b) (j9m:j1b≠jy) (j9n:jy≠j1b) (j9o:j1b≠jz) (j9p:jz≠j1b) (j9q:j1b≠j1a) (j9r:j1a≠j1b) (Ao196:Option Addr) (co196:Nat) (jdk:World) (jg:Nat) (jdl:World) (jd7 j3f:Aside0 (Array.size (World.heap w)≤jg)) (j2j:Aside0 (jx≠jg)) (j2k:Aside0 (jg≠jx)) (j2l:Aside0 (jy≠jg)) (j2m:Aside0 (jg≠jy)) (j2n:Aside0 (jz≠jg)) (j2o:Aside0 (jg≠jz)) (j2p:Aside0 (j1a≠jg)) (j2q:Aside0 (jg≠j1a)) (j2r:Aside0 (j1b≠jg)) (j2s:Aside0 (jg≠j1b)) (j9s:jg≠jx) (j9t:jx≠jg) (j9u:jg≠jy) (j9v:jy≠jg) (j9w:jg≠jz) (j9x:jz≠jg) (j9y:jg≠j1a) (j9z:j1a≠jg) (ja0:jg≠j1b) (ja1:j1b≠jg) (Ao209:Option Addr) (co209:Nat) (jb:Nat) (j1s:World) (j2a:Aside0 ((World.heap j1s)[jx]?=Option.some (Obj.cells #[Value.int IntKind.i64 j5v,Value.int IntKind.i64 j5w,Value.int IntKind.i64 j5x,Value.slice Ao18 (List.length j1i) co18] (26:TypeId)))) (j2b:Aside0 ((World.heap j1s)[jy]?=Option.some (Obj.cells #[Value.int IntKind.i64 j1l,Value.int IntKind.i64 j1m,Value.int IntKind.i64 j1n,Value.slice Ao158 (List.length jd) co158] (26:TypeId)))) (j2c:Aside0 ((World.heap j1s)[jz]?=Option.some (Obj.cells #[Value.int IntKind.i64 j1o,Value.int IntKind.i64 j1p,Value.int IntKind.i64 j1q,Value.slice Ao175 (List.length je) co175] (26:TypeId)))) (j2d:Aside0 ((World.heap j1s)[j1a]?=Option.some (Obj.cells #[Value.int IntKind.i64 j5y,Value.int IntKind.i64 j5z,Value.int IntKind.i64 j6a,Value.slice Ao185 (List.length j1j) co185] (26:TypeId)))) (j2e:Aside0 ((World.heap j1s)[j1b]?=Option.some (Obj.cells #[Value.int IntKind.i64 j6b,Value.int IntKind.i64 j6c,Value.int IntKind.i64 j6d,Value.slice Ao196 (List.length j1k) co196] (26:TypeId)))) (j1r:Aside0 ((World.heap j1s)[jg]?=Option.some (Obj.cells #[Value.int IntKind.i64 ju,Value.int IntKind.i64 jv,Value.int IntKind.i64 jw,Value.slice Ao209 (List.length jc) co209] (26:TypeId)))) (HB:Aside0 (Below (Array.size (World.heap w)) w j1s)) (ja:Aside0 ((World.heap j1s)[jb]?=Option.some (Obj.cells #[Value.int IntKind.i64 (0:Int),Value.int IntKind.i64 (0:Int),Value.int IntKind.i64 (0:Int),Value.slice Option.none (0:Nat) (0:Nat)] (26:TypeId)))) (jd8 j3g:Aside0 (Array.size (World.heap w)≤jb)) (jm:Aside0 (jx≠jb)) (j2t:Aside0 (jb≠jx)) (jn:Aside0 (jy≠jb)) (j2u:Aside0 (jb≠jy)) (jo:Aside0 (jz≠jb)) (j2v:Aside0 (jb≠jz)) (jp:Aside0 (j1a≠jb)) (j2w:Aside0 (jb≠j1a)) (jq:Aside0 (j1b≠jb)) (j2x:Aside0 (jb≠j1b)) (jr:Aside0 (jg≠jb)) (j2y:Aside0 (jb≠jg)) (ja2:jb≠jx) (ja3:jx≠jb) (ja4:jb≠jy) (ja5:jy≠jb) (ja6:jb≠jz) (ja7:jz≠jb) (ja8:jb≠j1a) (ja9:j1a≠jb) (jaa:jb≠j1b) (jab:j1b≠jb) (jac:jb≠jg) (jad:jg≠jb) (j6e:World.cell? j1s (Addr.mk jb (0:Nat) Option.none)=Option.some (Value.int IntKind.i64 (0:Int))) (j6f:World.cell? j1s (Addr.mk jb (1:Nat) Option.none)=Option.some (Value.int IntKind.i64 (0:Int))) (j6g:World.cell? j1s (Addr.mk jb (2:Nat) Option.none)=Option.some (Value.int IntKind.i64 (0:Int))) (j6h:World.cell? j1s (Addr.mk jb (3:Nat) Option.none)=Option.some (Value.slice Option.none (0:Nat) (0:Nat))) (j6i:World.frozen? j1s (Addr.mk jb (0:Nat) Option.none)=Bool.false) (j6j:World.frozen? j1s (Addr.mk jb (1:Nat) Option.none)=Bool.false) (j6k:World.frozen? j1s (Addr.mk jb (2:Nat) Option.none)=Bool.false) (j6l:World.frozen? j1s (Addr.mk jb (3:Nat) Option.none)=Bool.false) (Ao219:Option Addr) (co219:Nat) (jf:Aside0 (Kd.R (Kd.int IntKind.i64) (3:Nat) j1s (Array.size (World.heap w)) (fun k=>(((((True∧Option.some k≠Value.ownBlock (Value.slice Ao158 (List.length jd) co158))∧Option.some k≠Value.ownBlock (Value.slice Ao175 (List.length je) co175))∧Option.some k≠Value.ownBlock (Value.slice Ao185 (List.length j1j) co185))∧Option.some k≠Value.ownBlock (Value.slice Ao196 (List.length j1k) co196))∧Option.some k≠Value.ownBlock (Value.slice Ao209 (List.length jc) co209))∧Option.some k≠Value.ownBlock (Value.slice Ao219 (List.length jj) co219)) (Value.slice Ao18 (List.length j1i) co18) j1i)) (j2f:Aside0 (Kd.R (Kd.int IntKind.i64) (3:Nat) j1s (Array.size (World.heap w)) (fun k=>(((((True∧Option.some k≠Value.ownBlock (Value.slice Ao18 (List.length j1i) co18))∧Option.some k≠Value.ownBlock (Value.slice Ao175 (List.length je) co175))∧Option.some k≠Value.ownBlock (Value.slice Ao185 (List.length j1j) co185))∧Option.some k≠Value.ownBlock (Value.slice Ao196 (List.length j1k) co196))∧Option.some k≠Value.ownBlock (Value.slice Ao209 (List.length jc) co209))∧Option.some k≠Value.ownBlock (Value.slice Ao219 (List.length jj) co219)) (Value.slice Ao158 (List.length jd) co158) jd)) (j2g:Aside0 (Kd.R (Kd.int IntKind.i64) (3:Nat) j1s (Array.size (World.heap w)) (fun k=>(((((True∧Option.some k≠Value.ownBlock (Value.slice Ao18 (List.length j1i) co18))∧Option.some k≠Value.ownBlock (Value.slice Ao158 (List.length jd) co158))∧Option.some k≠Value.ownBlock (Value.slice Ao185 (List.length j1j) co185))∧Option.some k≠Value.ownBlock (Value.slice Ao196 (List.length j1k) co196))∧Option.some k≠Value.ownBlock (Value.slice Ao209 (List.length jc) co209))∧Option.some k≠Value.ownBlock (Value.slice Ao219 (List.length jj) co219)) (Value.slice Ao175 (List.length je) co175) je)) (j2h:Aside0 (Kd.R (Kd.int IntKind.i64) (3:Nat) j1s (Array.size (World.heap w)) (fun k=>(((((True∧Option.some k≠Value.ownBlock (Value.slice Ao18 (List.length j1i) co18))∧Option.some k≠Value.ownBlock (Value.slice Ao158 (List.length jd) co158))∧Option.some k≠Value.ownBlock (Value.slice Ao175 (List.length je) co175))∧Option.some k≠Value.ownBlock (Value.slice Ao196 (List.length j1k) co196))∧Option.some k≠Value.ownBlock (Value.slice Ao209 (List.length jc) co209))∧Option.some k≠Value.ownBlock (Value.slice Ao219 (List.length jj) co219)) (Value.slice Ao185 (List.length j1j) co185) j1j)) (j2i:Aside0 (Kd.R (Kd.int IntKind.i64) (3:Nat) j1s (Array.size (World.heap w)) (fun k=>(((((True∧Option.some k≠Value.ownBlock (Value.slice Ao18 (List.length j1i) co18))∧Option.some k≠Value.ownBlock (Value.slice Ao158 (List.length jd) co158))∧Option.some k≠Value.ownBlock (Value.slice Ao175 (List.length je) co175))∧Option.some k≠Value.ownBlock (Value.slice Ao185 (List.length j1j) co185))∧Option.some k≠Value.ownBlock (Value.slice Ao209 (List.length jc) co209))∧Option.some k≠Value.ownBlock (Value.slice Ao219 (List.length jj) co219)) (Value.slice Ao196 (List.length j1k) co196) j1k)) (js:Aside0 (Kd.R (Kd.int IntKind.i64) (3:Nat) j1s (Array.size (World.heap w)) (fun k=>(((((True∧Option.some k≠Value.ownBlock (Value.slice Ao18 (List.length j1i) co18))∧Option.some k≠Value.ownBlock (Value.slice Ao158 (List.length jd) co158))∧Option.some k≠Value.ownBlock (Value.slice Ao175 (List.length je) co175))∧Option.some k≠Value.ownBlock (Value.slice Ao185 (List.length j1j) co185))∧Option.some k≠Value.ownBlock (Value.slice Ao196 (List.length j1k) co196))∧Option.some k≠Value.ownBlock (Value.slice Ao219 (List.length jj) co219)) (Value.slice Ao209 (List.length jc) co209) jc)) (jt:Aside0 (Kd.R (Kd.int IntKind.i64) (3:Nat) j1s (Array.size (World.heap w)) (fun k=>(((((True∧Option.some k≠Value.ownBlock (Value.slice Ao18 (List.length j1i) co18))∧Option.some k≠Value.ownBlock (Value.slice Ao158 (List.length jd) co158))∧Option.some k≠Value.ownBlock (Value.slice Ao175 (List.length je) co175))∧Option.some k≠Value.ownBlock (Value.slice Ao185 (List.length j1j) co185))∧Option.some k≠Value.ownBlock (Value.slice Ao196 (List.length j1k) co196))∧Option.some k≠Value.ownBlock (Value.slice Ao209 (List.length jc) co209)) (Value.slice Ao219 (List.length jj) co219) jj)) (J_ K_:Act→World→Prop) (hJ_:∀ (a':Act) (w':World),(∃ u507 u508 u509 u510 u511 u512 u513 u514 u515 u516 u517 u518 u519 u520 u521 u522 u523 u524 u525 u526 u527 u528 u529 u530 u531 u532 u533 u534 u535 u536 u537 u538 u539 u540 u541 u542 u543 u544 u545 u546 u547 u548 u549 u550 u551 u552 u553 u554 u555 u556 u557 u558 u559 u560 u561 u562 u563 u564 u565 u566 u567 u568 u569 u570 u571 u572 u573 u574 u575 u576 u577 u578 u579 u580 u581 u582 u583 u584 u585 u586 u587 u588 u589 u590 u591 u592 u593 u594 u595 u596 u597 u598 u599 u600 u601 u602 u603 u604,(∃ kq j3w,u604=Value.bool j3w∧Aside0 (lw_.j8 kq j1t j1u j1v j1c j1d ji j1e j1f jh j1w j1x j1y j1g j1h jk j1z jl j3w j1l j1m j1n jd j1o j1p j1q je ju jv jw jc=Option.some r)∧Aside0 (kq≤kj120)∧Aside0 (Kd.R (Kd.int IntKind.i64) (3:Nat) w' (Array.size (World.heap w)) (fun k_=>Option.some k_≠Value.ownBlock (Value.slice Ao158 (List.length jd) co158)∧Option.some k_≠Value.ownBlock (Value.slice Ao175 (List.length je) co175)∧Option.some k_≠Value.ownBlock (Value.slice Ao185 (List.length j1j) co185)∧Option.some k_≠Value.ownBlock (Value.slice Ao196 (List.length j1k) co196)∧Option.some k_≠Value.ownBlock (Value.slice Ao209 (List.length jc) co209)∧Option.some k_≠Value.ownBlock (Value.slice Ao219 (List.length jj) co219)) (Value.slice Ao18 (List.length j1i) co18) j1i)∧Aside0 (Kd.R (Kd.int IntKind.i64) (3:Nat) w' (Array.size (World.heap w)) (fun k_=>Option.some k_≠Value.ownBlock (Value.slice Ao18 (List.length j1i) co18)∧Option.some k_≠Value.ownBlock (Value.slice Ao175 (List.length je) co175)∧Option.some k_≠Value.ownBlock (Value.slice Ao185 (List.length j1j) co185)∧Option.some k_≠Value.ownBlock (Value.slice Ao196 (List.length j1k) co196)∧Option.some k_≠Value.ownBlock (Value.slice Ao209 (List.length jc) co209)∧Option.some k_≠Value.ownBlock (Value.slice Ao219 (List.length jj) co219)) (Value.slice Ao158 (List.length jd) co158) jd)∧Aside0 (Kd.R (Kd.int IntKind.i64) (3:Nat) w' (Array.size (World.heap w)) (fun k_=>Option.some k_≠Value.ownBlock (Value.slice Ao18 (List.length j1i) co18)∧Option.some k_≠Value.ownBlock (Value.slice Ao158 (List.length jd) co158)∧Option.some k_≠Value.ownBlock (Value.slice Ao185 (List.length j1j) co185)∧Option.some k_≠Value.ownBlock (Value.slice Ao196 (List.length j1k) co196)∧Option.some k_≠Value.ownBlock (Value.slice Ao209 (List.length jc) co209)∧Option.some k_≠Value.ownBlock (Value.slice Ao219 (List.length jj) co219)) (Value.slice Ao175 (List.length je) co175) je)∧Aside0 (Kd.R (Kd.int IntKind.i64) (3:Nat) w' (Array.size (World.heap w)) (fun k_=>Option.some k_≠Value.ownBlock (Value.slice Ao18 (List.length j1i) co18)∧Option.some k_≠Value.ownBlock (Value.slice Ao158 (List.length jd) co158)∧Option.some k_≠Value.ownBlock (Value.slice Ao175 (List.length je) co175)∧Option.some k_≠Value.ownBlock (Value.slice Ao196 (List.length j1k) co196)∧Option.some k_≠Value.ownBlock (Value.slice Ao209 (List.length jc) co209)∧Option.some k_≠Value.ownBlock (Value.slice Ao219 (List.length jj) co219)) (Value.slice Ao185 (List.length j1j) co185) j1j)∧Aside0 (Kd.R (Kd.int IntKind.i64) (3:Nat) w' (Array.size (World.heap w)) (fun k_=>Option.some k_≠Value.ownBlock (Value.slice Ao18 (List.length j1i) co18)∧Option.some k_≠Value.ownBlock (Value.slice Ao158 (List.length jd) co158)∧Option.some k_≠Value.ownBlock (Value.slice Ao175 (List.length je) co175)∧Option.some k_≠Value.ownBlock (Value.slice Ao185 (List.length j1j) co185)∧Option.some k_≠Value.ownBlock (Value.slice Ao209 (List.length jc) co209)∧Option.some k_≠Value.ownBlock (Value.slice Ao219 (List.length jj) co219)) (Value.slice Ao196 (List.length j1k) co196) j1k)∧Aside0 (Kd.R (Kd.int IntKind.i64) (3:Nat) w' (Array.size (World.heap w)) (fun k_=>Option.some k_≠Value.ownBlock (Value.slice Ao18 (List.length j1i) co18)∧Option.some k_≠Value.ownBlock (Value.slice Ao158 (List.length jd) co158)∧Option.some k_≠Value.ownBlock (Value.slice Ao175 (List.length je) co175)∧Option.some k_≠Value.ownBlock (Value.slice Ao185 (List.length j1j) co185)∧Option.some k_≠Value.ownBlock (Value.slice Ao196 (List.length j1k) co196)∧Option.some k_≠Value.ownBlock (Value.slice Ao219 (List.length jj) co219)) (Value.slice Ao209 (List.length jc) co209) jc)∧Aside0 (Kd.R (Kd.int IntKind.i64) (3:Nat) w' (Array.size (World.heap w)) (fun k_=>Option.some k_≠Value.ownBlock (Value.slice Ao18 (List.length j1i) co18)∧Option.some k_≠Value.ownBlock (Value.slice Ao158 (List.length jd) co158)∧Option.some k_≠Value.ownBlock (Value.slice Ao175 (List.length je) co175)∧Option.some k_≠Value.ownBlock (Value.slice Ao185 (List.length j1j) co185)∧Option.some k_≠Value.ownBlock (Value.slice Ao196 (List.length j1k) co196)∧Option.some k_≠Value.ownBlock (Value.slice Ao209 (List.length jc) co209)) (Value.slice Ao219 (List.length jj) co219) jj)∧Aside0 ((World.heap w')[jx]?=Option.some (Obj.cells #[Value.int IntKind.i64 j5v,Value.int IntKind.i64 j5w,Value.int IntKind.i64 j5x,Value.slice Ao18 (List.length j1i) co18] (26:TypeId)))∧Aside0 ((World.heap w')[jy]?=Option.some (Obj.cells #[Value.int IntKind.i64 j1l,Value.int IntKind.i64 j1m,Value.int IntKind.i64 j1n,Value.slice Ao158 (List.length jd) co158] (26:TypeId)))∧Aside0 ((World.heap w')[jz]?=Option.some (Obj.cells #[Value.int IntKind.i64 j1o,Value.int IntKind.i64 j1p,Value.int IntKind.i64 j1q,Value.slice Ao175 (List.length je) co175] (26:TypeId)))∧Aside0 ((World.heap w')[j1a]?=Option.some (Obj.cells #[Value.int IntKind.i64 j5y,Value.int IntKind.i64 j5z,Value.int IntKind.i64 j6a,Value.slice Ao185 (List.length j1j) co185] (26:TypeId)))∧Aside0 ((World.heap w')[j1b]?=Option.some (Obj.cells #[Value.int IntKind.i64 j6b,Value.int IntKind.i64 j6c,Value.int IntKind.i64 j6d,Value.slice Ao196 (List.length j1k) co196] (26:TypeId)))∧Aside0 ((World.heap w')[jg]?=Option.some (Obj.cells #[Value.int IntKind.i64 ju,Value.int IntKind.i64 jv,Value.int IntKind.i64 jw,Value.slice Ao209 (List.length jc) co209] (26:TypeId)))∧Aside0 ((World.heap w')[jb]?=Option.some (Obj.cells #[Value.int IntKind.i64 j3r,Value.int IntKind.i64 j3s,Value.int IntKind.i64 j3t,Value.slice Ao219 (List.length jj) co219] (26:TypeId)))∧Aside0 (Below (Array.size (World.heap w)) w w'))∧a'=Act.mk #[Ab,Fz,Ac,Aa,K9,Fb,CU,DU,CV,CW,CX,Ad,Ae,Af,CY,Ag,Ah,Ai,DV,DW,Aj,Ak,Fc,Fd,Al,Am,CZ,C0,C1,C2,DX,DY,DZ,D0,D1,D2,D3,D4,Fe,Ff,KI,KJ,H0,KK,Value.int IntKind.i64 j1c,Value.int IntKind.i64 j1d,Value.bool ji,Value.int IntKind.i64 j3x,Value.int IntKind.i64 j3y,Value.bool j3h,Value.int IntKind.i64 j1e,Value.bool j2z,Value.int IntKind.i64 j3z,Value.bool j3i,Value.int IntKind.i64 j1f,Value.bool jh,Value.int IntKind.i64 j4a,Value.bool j3j,La,Lb,Lc,Ld,Value.int IntKind.i64 j1g,Value.int IntKind.i64 j1h,Value.bool jk,Value.int IntKind.i64 j4b,Value.int IntKind.i64 j4c,Value.bool j3k,FA,FB,FC,Value.int IntKind.i64 j4d,Value.bool j3l,Value.bool j3m,Value.int IntKind.i64 j4e,Value.bool j3n,Value.bool j3o,FD,FE,FF,Value.int IntKind.i64 j4f,Value.bool j3p,Value.int IntKind.i64 j4g,Value.bool j3q,Le,Value.pointer (Option.some (Addr.mk jg (0:Nat) Option.none)),Value.bool jl,Value.pointer (Option.some (Addr.mk jb (0:Nat) Option.none)),Value.bool j3u,H1,H2,KL,KM,Lf,Lg,Lh,Li,Lj,Lk,An,Ao,Ap,Aq,Ar,As,Au,Av,Aw,Ax,Ay,Az,AA,AB,AC,AD,AE,AF,AG,AH,AJ,AK,AL,AM,AN,AO,AP,AQ,AR,AU,AV,AW,AX,AY,AZ,Ba,Bb,Bc,Bd,Be,Bf,Bg,Bh,Bi,Bj,Bk,Bl,Bm,Bn,Bo,Bp,Bq,Br,Bs,Bt,Bu,Bv,Bw,Bx,Bz,BA,BB,BC,BD,BE,BF,BG,BH,BI,BJ,BK,BL,BM,BN,BO,BP,BQ,BR,BS,BT,BU,BV,BW,BX,BZ,B0,B2,B4,B5,B6,B9,Ca,Cb,Cc,Cd,Ce,Cf,Cg,Ch,Ci,Cj,Ck,Cl,Cm,Cn,Co,Cp,Cq,Cr,Cs,Ct,Cu,Cv,Cw,Cx,Cy,Cz,CA,CB,CC,CD,CE,CF,CG,CH,CI,CJ,CK,CL,CM,CN,CO,CP,CQ,CR,CS,CT,C3,C4,C5,C6,C7,C8,C9,Da,Db,Dc,Dd,De,Df,Dg,Dh,Di,Dj,Dk,Dl,Dm,Dn,Dp,Dq,Dr,Ds,Dt,Du,Dv,Dw,Dx,Dy,Dz,DA,DB,DC,DD,DE,DF,DG,DH,DI,DJ,DK,DL,DM,DN,DO,DP,DQ,DR,DS,DT,D5,D6,D7,D8,D9,Ea,Eb,Ec,Ed,Ee,Ef,Eg,Eh,Ei,Ej,Ek,El,Em,En,Eo,Ep,Er,Es,Et,Eu,Ew,Ex,Ey,Ez,EA,EB,EC,ED,EE,EF,EG,EH,EI,EJ,EK,EL,EM,EN,EO,EP,EQ,ER,ES,ET,EU,EV,EW,EX,EY,EZ,E0,E1,E2,E3,E4,E5,E6,E7,E8,E9,Fa,Fg,Fh,Fi,Fj,Fk,Fl,Fm,Fn,Fo,Fp,Fq,Fr,Fs,Ft,Fu,Fv,Fw,Fx,Fy,FG,FH,FI,FJ,FL,FM,FN,FO,FP,FQ,FR,FS,FT,FU,FV,FW,FX,FY,FZ,F0,F1,F2,F3,F4,F5,F6,F7,F8,F9,Ga,Gb,Gc,Gd,Ge,Gf,Gg,Gh,Gi,Gj,Gk,Gl,Gm,Gn,Gp,Gq,Gr,Gs,Gt,Gu,Gv,Gw,Gx,Gy,Gz,GA,GB,GC,GD,GE,GF,GG,GH,GI,GJ,GK,GL,GM,GN,GO,GP,GQ,GR,GS,GT,GU,GV,GW,GX,GY,GZ,G0,G1,G2,G3,G4,G5,G6,G7,G8,G9,Ha,Hb,Hc,Hd,He,Hf,Hg,Hh,Hi,Hj,Hk,Hl,Hm,Hn,Ho,Hp,Hq,Hr,Hs,Ht,Hu,Hv,Hw,Hx,Hy,Hz,HD,HE,HF,HG,HH,HI,HJ,HM,HN,HP,HQ,HR,HS,HU,HV,HW,HX,HY,u507,u508,u509,u510,u511,u512,u513,u514,u515,u516,u517,u518,u519,u520,u521,u522,u523,u524,u525,u526,u527,u528,u529,u530,u531,u532,u533,u534,u535,u536,u537,u538,u539,u540,u541,u542,u543,u544,u545,u546,u547,u548,u549,u550,u551,u552,u553,u554,u555,u556,u557,u558,u559,u560,u561,u562,u563,u564,u565,u566,u567,u568,u569,u570,u571,u572,u573,u574,u575,u576,u577,u578,u579,u580,u581,u582,u583,u584,u585,u586,u587,u588,u589,u590,u591,u592,u593,u594,u595,u596,u597,u598,u599,u600,u601,u602,u603,u604,H3,H4,H5,H6,H7,H8,H9,Ia,Ib,Ic,Id,Ie,Ig,Ih,Ii,Ij,Ik,Il,Im,Io,Ip,Iq,Ir,Is,It,Iu,Iv,Iw,Ix,Iy,Iz,IA,IB,IC,ID,IE,IF,KN,KO,KP,KQ,KR,KS,KT,KU,KV,KW,KX,KY,KZ,K0,K1,K2,K3,K4,K5,Ll,Lm,Ln,Lo,Lp,Lq,Lr,Ls,Lt,Lu,Lv,Lw,Lx,Ly,Lz,LA,LB,LC,LD,LE,LF,LG,LH,LI,LJ,LK,LL,LM,LN,LO,LP,LQ,LR,LS,LT,LU,LV,LW,LX] [])→J_ a' w') (hK_:∀ a' w',Met J_ a' w'→K_ a' w') :
    Code.wp Tryz.prog ((lw_.reg 62 lw_.body).getD .skip) (Exit.then K_ (Exit.then Kz0_ (bodyPost Tryz.prog Tryz.f3 fun e w'=>e=Ending.returned (Value.bool r)∧Below (Array.size (World.heap w)) w w'))) (Act.mk #[Ab,Fz,Ac,Aa,K9,Fb,CU,DU,CV,CW,CX,Ad,Ae,Af,CY,Ag,Ah,Ai,DV,DW,Aj,Ak,Fc,Fd,Al,Am,CZ,C0,C1,C2,DX,DY,DZ,D0,D1,D2,D3,D4,Fe,Ff,KI,KJ,H0,KK,Value.int IntKind.i64 j1c,Value.int IntKind.i64 j1d,Value.bool ji,Value.int IntKind.i64 j3x,Value.int IntKind.i64 j3y,Value.bool j3h,Value.int IntKind.i64 j1e,Value.bool j2z,Value.int IntKind.i64 j3z,Value.bool j3i,Value.int IntKind.i64 j1f,Value.bool jh,Value.int IntKind.i64 j4a,Value.bool j3j,La,Lb,Lc,Ld,Value.int IntKind.i64 j1g,Value.int IntKind.i64 j1h,Value.bool jk,Value.int IntKind.i64 j4b,Value.int IntKind.i64 j4c,Value.bool j3k,FA,FB,FC,Value.int IntKind.i64 j4d,Value.bool j3l,Value.bool j3m,Value.int IntKind.i64 j4e,Value.bool j3n,Value.bool j3o,FD,FE,FF,Value.int IntKind.i64 j4f,Value.bool j3p,Value.int IntKind.i64 j4g,Value.bool j3q,Le,Value.pointer (Option.some (Addr.mk jg (0:Nat) Option.none)),Value.bool jl,Value.pointer (Option.some (Addr.mk jb (0:Nat) Option.none)),Value.bool j3u,H1,H2,KL,KM,Lf,Lg,Lh,Li,Lj,Lk,An,Ao,Ap,Aq,Ar,As,Au,Av,Aw,Ax,Ay,Az,AA,AB,AC,AD,AE,AF,AG,AH,AJ,AK,AL,AM,AN,AO,AP,AQ,AR,AU,AV,AW,AX,AY,AZ,Ba,Bb,Bc,Bd,Be,Bf,Bg,Bh,Bi,Bj,Bk,Bl,Bm,Bn,Bo,Bp,Bq,Br,Bs,Bt,Bu,Bv,Bw,Bx,Bz,BA,BB,BC,BD,BE,BF,BG,BH,BI,BJ,BK,BL,BM,BN,BO,BP,BQ,BR,BS,BT,BU,BV,BW,BX,BZ,B0,B2,B4,B5,B6,B9,Ca,Cb,Cc,Cd,Ce,Cf,Cg,Ch,Ci,Cj,Ck,Cl,Cm,Cn,Co,Cp,Cq,Cr,Cs,Ct,Cu,Cv,Cw,Cx,Cy,Cz,CA,CB,CC,CD,CE,CF,CG,CH,CI,CJ,CK,CL,CM,CN,CO,CP,CQ,CR,CS,CT,C3,C4,C5,C6,C7,C8,C9,Da,Db,Dc,Dd,De,Df,Dg,Dh,Di,Dj,Dk,Dl,Dm,Dn,Dp,Dq,Dr,Ds,Dt,Du,Dv,Dw,Dx,Dy,Dz,DA,DB,DC,DD,DE,DF,DG,DH,DI,DJ,DK,DL,DM,DN,DO,DP,DQ,DR,DS,DT,D5,D6,D7,D8,D9,Ea,Eb,Ec,Ed,Ee,Ef,Eg,Eh,Ei,Ej,Ek,El,Em,En,Eo,Ep,Er,Es,Et,Eu,Ew,Ex,Ey,Ez,EA,EB,EC,ED,EE,EF,EG,EH,EI,EJ,EK,EL,EM,EN,EO,EP,EQ,ER,ES,ET,EU,EV,EW,EX,EY,EZ,E0,E1,E2,E3,E4,E5,E6,E7,E8,E9,Fa,Fg,Fh,Fi,Fj,Fk,Fl,Fm,Fn,Fo,Fp,Fq,Fr,Fs,Ft,Fu,Fv,Fw,Fx,Fy,FG,FH,FI,FJ,FL,FM,FN,FO,FP,FQ,FR,FS,FT,FU,FV,FW,FX,FY,FZ,F0,F1,F2,F3,F4,F5,F6,F7,F8,F9,Ga,Gb,Gc,Gd,Ge,Gf,Gg,Gh,Gi,Gj,Gk,Gl,Gm,Gn,Gp,Gq,Gr,Gs,Gt,Gu,Gv,Gw,Gx,Gy,Gz,GA,GB,GC,GD,GE,GF,GG,GH,GI,GJ,GK,GL,GM,GN,GO,GP,GQ,GR,GS,GT,GU,GV,GW,GX,GY,GZ,G0,G1,G2,G3,G4,G5,G6,G7,G8,G9,Ha,Hb,Hc,Hd,He,Hf,Hg,Hh,Hi,Hj,Hk,Hl,Hm,Hn,Ho,Hp,Hq,Hr,Hs,Ht,Hu,Hv,Hw,Hx,Hy,Hz,HD,HE,HF,HG,HH,HI,HJ,HM,HN,HP,HQ,HR,HS,HU,HV,HW,HX,HY,undef,undef,undef,undef,undef,undef,undef,undef,undef,undef,undef,undef,undef,undef,undef,undef,undef,undef,undef,undef,undef,undef,undef,undef,undef,undef,undef,undef,undef,undef,undef,undef,undef,undef,undef,undef,undef,undef,undef,undef,undef,undef,undef,undef,undef,undef,undef,undef,undef,undef,undef,undef,undef,undef,undef,undef,undef,undef,undef,undef,undef,undef,undef,undef,undef,undef,undef,undef,undef,undef,undef,undef,undef,undef,undef,undef,undef,undef,undef,undef,undef,undef,undef,undef,undef,undef,undef,undef,undef,undef,undef,undef,undef,undef,undef,undef,undef,HZ,H3,H4,H5,H6,H7,H8,H9,Ia,Ib,Ic,Id,Ie,Ig,Ih,Ii,Ij,Ik,Il,Im,Io,Ip,Iq,Ir,Is,It,Iu,Iv,Iw,Ix,Iy,Iz,IA,IB,IC,ID,IE,IF,KN,KO,KP,KQ,KR,KS,KT,KU,KV,KW,KX,KY,KZ,K0,K1,K2,K3,K4,K5,Ll,Lm,Ln,Lo,Lp,Lq,Lr,Ls,Lt,Lu,Lv,Lw,Lx,Ly,Lz,LA,LB,LC,LD,LE,LF,LG,LH,LI,LJ,LK,LL,LM,LN,LO,LP,LQ,LR,LS,LT,LU,LV,LW,LX] []) (World.setCell (World.setCell (World.setCell (World.setCell j1s (Addr.mk jb (0:Nat) Option.none) (Value.int IntKind.i64 j3r)) (Addr.mk jb (1:Nat) Option.none) (Value.int IntKind.i64 j3s)) (Addr.mk jb (2:Nat) Option.none) (Value.int IntKind.i64 j3t)) (Addr.mk jb (3:Nat) Option.none) (Value.slice Ao219 (List.length jj) co219)):=by
  conv=>arg 2;whnf
  (try conv=>arg 4;dsimp only)
  (try conv=>arg 2;dsimp only [List.append_eq,List.cons_append,List.nil_append])
  have H:=HC153.out
  clear HC153
  by_cases c220:(ji != j3h)=true
  ·rw [if_pos c220] at H
   have j3v:(ji != j3h)=true:=c220
   (try (have j4i:decide (ji=j3h)=false:=by simpa using c220))
   (try (have j4j:(ji == j3h)=false:=by simpa using c220))
   (try (have jae:¬ (ji=j3h):=by simpa using c220))
   clear c220
   (first|rw [j3v]|(simp only [i64_w,i32_w];rw [j3v])|skip)
   exact absurd H (by rw [HR_.out];cases kj120 <;> simp [lw_.j8])
  rw [if_neg c220] at H
  have j3v:(ji != j3h)=false:=by simpa using c220
  (try (have j4i:decide (ji=j3h)=true:=by simpa using c220))
  (try (have j4j:(ji == j3h)=true:=by simpa using c220))
  clear c220
  (first|rw [j3v]|(simp only [i64_w,i32_w];rw [j3v])|skip)
  by_cases c221:j1c=j3x
  rotate_left
  ·rw [if_neg c221] at H
   have j4k:=beq_eq_false_iff_ne.mpr c221
   have j4l:=bne_iff_ne.mpr c221
   exact absurd H (by rw [HR_.out];cases kj120 <;> simp [lw_.j8])
  rw [if_pos c221] at H
  have j4k:=beq_iff_eq.mpr c221
  have j4l:=bne_eq_false_iff_eq.mpr c221
  clear c221
  by_cases c222:j1d=j3y
  rotate_left
  ·rw [if_neg c222] at H
   have j4m:=beq_eq_false_iff_ne.mpr c222
   have j4n:=bne_iff_ne.mpr c222
   exact absurd H (by rw [HR_.out];cases kj120 <;> simp [lw_.j8])
  rw [if_pos c222] at H
  have j4m:=beq_iff_eq.mpr c222
  have j4n:=bne_eq_false_iff_eq.mpr c222
  clear c222
  by_cases c223:(j2z != j3i)=true
  ·rw [if_pos c223] at H
   have j4o:(j2z != j3i)=true:=c223
   (try (have j4p:decide (j2z=j3i)=false:=by simpa using c223))
   (try (have j4q:(j2z == j3i)=false:=by simpa using c223))
   (try (have jaf:¬ (j2z=j3i):=by simpa using c223))
   clear c223
   exact absurd H (by rw [HR_.out];cases kj120 <;> simp [lw_.j8])
  rw [if_neg c223] at H
  have j4o:(j2z != j3i)=false:=by simpa using c223
  (try (have j4p:decide (j2z=j3i)=true:=by simpa using c223))
  (try (have j4q:(j2z == j3i)=true:=by simpa using c223))
  clear c223
  by_cases c224:j1e=j3z
  rotate_left
  ·rw [if_neg c224] at H
   have j4r:=beq_eq_false_iff_ne.mpr c224
   have j4s:=bne_iff_ne.mpr c224
   exact absurd H (by rw [HR_.out];cases kj120 <;> simp [lw_.j8])
  rw [if_pos c224] at H
  have j4r:=beq_iff_eq.mpr c224
  have j4s:=bne_eq_false_iff_eq.mpr c224
  clear c224
  by_cases c225:(jh != j3j)=true
  ·rw [if_pos c225] at H
   have j4t:(jh != j3j)=true:=c225
   (try (have j4u:decide (jh=j3j)=false:=by simpa using c225))
   (try (have j4v:(jh == j3j)=false:=by simpa using c225))
   (try (have jag:¬ (jh=j3j):=by simpa using c225))
   clear c225
   exact absurd H (by rw [HR_.out];cases kj120 <;> simp [lw_.j8])
  rw [if_neg c225] at H
  have j4t:(jh != j3j)=false:=by simpa using c225
  (try (have j4u:decide (jh=j3j)=true:=by simpa using c225))
  (try (have j4v:(jh == j3j)=true:=by simpa using c225))
  clear c225
  by_cases c226:j1f=j4a
  rotate_left
  ·rw [if_neg c226] at H
   have j4w:=beq_eq_false_iff_ne.mpr c226
   have j4x:=bne_iff_ne.mpr c226
   exact absurd H (by rw [HR_.out];cases kj120 <;> simp [lw_.j8])
  rw [if_pos c226] at H
  have j4w:=beq_iff_eq.mpr c226
  have j4x:=bne_eq_false_iff_eq.mpr c226
  clear c226
  by_cases c227:(jk != j3k)=true
  ·rw [if_pos c227] at H
   have j4y:(jk != j3k)=true:=c227
   (try (have j4z:decide (jk=j3k)=false:=by simpa using c227))
   (try (have j5a:(jk == j3k)=false:=by simpa using c227))
   (try (have jah:¬ (jk=j3k):=by simpa using c227))
   clear c227
   exact absurd H (by rw [HR_.out];cases kj120 <;> simp [lw_.j8])
  rw [if_neg c227] at H
  have j4y:(jk != j3k)=false:=by simpa using c227
  (try (have j4z:decide (jk=j3k)=true:=by simpa using c227))
  (try (have j5a:(jk == j3k)=true:=by simpa using c227))
  clear c227
  by_cases c228:j1g=j4b
  rotate_left
  ·rw [if_neg c228] at H
   have j5b:=beq_eq_false_iff_ne.mpr c228
   have j5c:=bne_iff_ne.mpr c228
   exact absurd H (by rw [HR_.out];cases kj120 <;> simp [lw_.j8])
  rw [if_pos c228] at H
  have j5b:=beq_iff_eq.mpr c228
  have j5c:=bne_eq_false_iff_eq.mpr c228
  clear c228
  by_cases c229:j1h=j4c
  rotate_left
  ·rw [if_neg c229] at H
   have j5d:=beq_eq_false_iff_ne.mpr c229
   have j5e:=bne_iff_ne.mpr c229
   exact absurd H (by rw [HR_.out];cases kj120 <;> simp [lw_.j8])
  rw [if_pos c229] at H
  have j5d:=beq_iff_eq.mpr c229
  have j5e:=bne_eq_false_iff_eq.mpr c229
  clear c229
  by_cases c230:(j3m != j3o)=true
  ·rw [if_pos c230] at H
   have j5f:(j3m != j3o)=true:=c230
   (try (have j5g:decide (j3m=j3o)=false:=by simpa using c230))
   (try (have j5h:(j3m == j3o)=false:=by simpa using c230))
   (try (have jai:¬ (j3m=j3o):=by simpa using c230))
   clear c230
   exact absurd H (by rw [HR_.out];cases kj120 <;> simp [lw_.j8])
  rw [if_neg c230] at H
  have j5f:(j3m != j3o)=false:=by simpa using c230
  (try (have j5g:decide (j3m=j3o)=true:=by simpa using c230))
  (try (have j5h:(j3m == j3o)=true:=by simpa using c230))
  clear c230
  by_cases c231:j4d=j4e
  rotate_left
  ·rw [if_neg c231] at H
   have j5i:=beq_eq_false_iff_ne.mpr c231
   have j5j:=bne_iff_ne.mpr c231
   exact absurd H (by rw [HR_.out];cases kj120 <;> simp [lw_.j8])
  rw [if_pos c231] at H
  have j5i:=beq_iff_eq.mpr c231
  have j5j:=bne_eq_false_iff_eq.mpr c231
  clear c231
  by_cases c232:(j3l != j3n)=true
  ·rw [if_pos c232] at H
   have j5k:(j3l != j3n)=true:=c232
   (try (have j5l:decide (j3l=j3n)=false:=by simpa using c232))
   (try (have j5m:(j3l == j3n)=false:=by simpa using c232))
   (try (have jaj:¬ (j3l=j3n):=by simpa using c232))
   clear c232
   exact absurd H (by rw [HR_.out];cases kj120 <;> simp [lw_.j8])
  rw [if_neg c232] at H
  have j5k:(j3l != j3n)=false:=by simpa using c232
  (try (have j5l:decide (j3l=j3n)=true:=by simpa using c232))
  (try (have j5m:(j3l == j3n)=true:=by simpa using c232))
  clear c232
  by_cases c233:(j3p != j3q)=true
  ·rw [if_pos c233] at H
   have j5n:(j3p != j3q)=true:=c233
   (try (have j5o:decide (j3p=j3q)=false:=by simpa using c233))
   (try (have j5p:(j3p == j3q)=false:=by simpa using c233))
   (try (have jak:¬ (j3p=j3q):=by simpa using c233))
   clear c233
   exact absurd H (by rw [HR_.out];cases kj120 <;> simp [lw_.j8])
  rw [if_neg c233] at H
  have j5n:(j3p != j3q)=false:=by simpa using c233
  (try (have j5o:decide (j3p=j3q)=true:=by simpa using c233))
  (try (have j5p:(j3p == j3q)=true:=by simpa using c233))
  clear c233
  by_cases c234:j4f=j4g
  rotate_left
  ·rw [if_neg c234] at H
   have j5q:=beq_eq_false_iff_ne.mpr c234
   have j5r:=bne_iff_ne.mpr c234
   exact absurd H (by rw [HR_.out];cases kj120 <;> simp [lw_.j8])
  rw [if_pos c234] at H
  have j5q:=beq_iff_eq.mpr c234
  have j5r:=bne_eq_false_iff_eq.mpr c234
  clear c234
  by_cases c235:(jl != j3u)=true
  ·rw [if_pos c235] at H
   have j5s:(jl != j3u)=true:=c235
   (try (have j5t:decide (jl=j3u)=false:=by simpa using c235))
   (try (have j5u:(jl == j3u)=false:=by simpa using c235))
   (try (have jal:¬ (jl=j3u):=by simpa using c235))
   clear c235
   exact absurd H (by rw [HR_.out];cases kj120 <;> simp [lw_.j8])
  rw [if_neg c235] at H
  have j5s:(jl != j3u)=false:=by simpa using c235
  (try (have j5t:decide (jl=j3u)=true:=by simpa using c235))
  (try (have j5u:(jl == j3u)=true:=by simpa using c235))
  clear c235
  obtain ⟨j4h,A236,H⟩:=bs_ H
  (try dsimp only at H)
  by_cases c237:j4h=true
  rotate_left
  ·replace c237:=Bool.eq_false_iff.mpr c237
   subst c237
   rw [if_neg ft_] at H
   exact absurd H (by rw [HR_.out];cases kj120 <;> simp [lw_.j8])
  subst c237
  rw [if_pos rfl] at H
  by_cases c238:ji=true
  rotate_left
  ·replace c238:=Bool.eq_false_iff.mpr c238
   subst c238
   rw [if_neg ft_] at H
   by_cases c269:jh=true
   ·subst c269
    rw [if_pos rfl] at H
    have H':=ai_ H
    clear H
    have jam:=j2k.out
    have jan:=j2j.out
    have jao:=j2m.out
    have jap:=j2l.out
    have jaq:=j2o.out
    have jar:=j2n.out
    have jas:=j2q.out
    have jat:=j2p.out
    have jau:=j2s.out
    have jav:=j2r.out
    have jaw:=jr.out
    have jax:=j2y.out
    obtain ⟨j6m,j6n,j6o,j6p,j6q,j6r,j6s,j6t⟩:=blk4_ j1r
    have jay:=j2t.out
    have jaz:=jm.out
    have jb0:=j2u.out
    have jb1:=jn.out
    have jb2:=j2v.out
    have jb3:=jo.out
    have jb4:=j2w.out
    have jb5:=jp.out
    have jb6:=j2x.out
    have jb7:=jq.out
    obtain ⟨j6u,j6v,j6w,j6x,j6y,j6z,j7a,j7b⟩:=blk4_ ja
    go_wp2_with (first|(go_at_call 22;(with_reducible refine (laws_qLine.calls kj120 ju jv jw _ _ jc j3r j3s j3t _ _ jj true _ ?side1 ?side2 ?side3 ?side4 A236.out).mono ?_);(case side1=>refine (Kd.R_reads' (e:=3) (base:=w.heap.size) (ok:=fun k_=>((((((True∧some k_≠(.slice Ao18 j1i.length co18:Value).ownBlock)∧some k_≠(.slice Ao158 jd.length co158:Value).ownBlock)∧some k_≠(.slice Ao175 je.length co175:Value).ownBlock)∧some k_≠(.slice Ao185 j1j.length co185:Value).ownBlock)∧some k_≠(.slice Ao196 j1k.length co196:Value).ownBlock)∧some k_≠(.slice Ao219 jj.length co219:Value).ownBlock)) (n:=jc.length) (c:=co209) ?_).2.2;exact (rtf_ js ja));(case side2=>exact (Kd.R_reads' js.out).2.1);(case side3=>refine (Kd.R_reads' (e:=3) (base:=w.heap.size) (ok:=fun k_=>((((((True∧some k_≠(.slice Ao18 j1i.length co18:Value).ownBlock)∧some k_≠(.slice Ao158 jd.length co158:Value).ownBlock)∧some k_≠(.slice Ao175 je.length co175:Value).ownBlock)∧some k_≠(.slice Ao185 j1j.length co185:Value).ownBlock)∧some k_≠(.slice Ao196 j1k.length co196:Value).ownBlock)∧some k_≠(.slice Ao209 jc.length co209:Value).ownBlock)) (n:=jj.length) (c:=co219) ?_).2.2;exact (rtf_ jt ja));(case side4=>exact (Kd.R_reads' jt.out).2.1);rintro e jdm ⟨rfl,hb⟩;replace jf:=ai_ (Kd.R_below (rtf_ jf ja) hb);replace j2f:=ai_ (Kd.R_below (rtf_ j2f ja) hb);replace j2g:=ai_ (Kd.R_below (rtf_ j2g ja) hb);replace j2h:=ai_ (Kd.R_below (rtf_ j2h ja) hb);replace j2i:=ai_ (Kd.R_below (rtf_ j2i ja) hb);replace js:=ai_ (Kd.R_below (rtf_ js ja) hb);replace jt:=ai_ (Kd.R_below (rtf_ jt ja) hb);replace j2a:=ai_ (blk_below (blk_f1 j2a jm) hb);replace j2b:=ai_ (blk_below (blk_f1 j2b jn) hb);replace j2c:=ai_ (blk_below (blk_f1 j2c jo) hb);replace j2d:=ai_ (blk_below (blk_f1 j2d jp) hb);replace j2e:=ai_ (blk_below (blk_f1 j2e jq) hb);replace j1r:=ai_ (blk_below (blk_f1 j1r jr) hb);replace ja:=ai_ (blk_below (g:=jb) (o:=.cells #[.int .i64 j3r,.int .i64 j3s,.int .i64 j3t,.slice Ao219 jj.length co219] 26 (0,0)) (bput4 ja) hb);replace HB:=ai_ (below_step (below_to7 HB j3a.out j3b.out j3c.out j3d.out j3e.out j3f.out j3g.out) hb);(try clear hb)))
    go_meet
    case rel=>exact ⟨_,(!j2z),rt_,H',⟨by have:=HJ13.out;have:=HJ71.out;have:=HJ89.out;have:=HJ118.out;have:=HJ120.out;first|omega|exact Nat.le_refl _⟩,⟨by (with_reducible repeat (first|apply Kd.R_alloc|apply Kd.R_drewN|apply Kd.R_drew));exact Kd.R_mono jf.out (fun _ hk=>⟨hk.1.1.1.1.1.2,⟨hk.1.1.1.1.2,⟨hk.1.1.1.2,⟨hk.1.1.2,⟨hk.1.2,hk.2⟩⟩⟩⟩⟩)⟩,⟨by (with_reducible repeat (first|apply Kd.R_alloc|apply Kd.R_drewN|apply Kd.R_drew));exact Kd.R_mono j2f.out (fun _ hk=>⟨hk.1.1.1.1.1.2,⟨hk.1.1.1.1.2,⟨hk.1.1.1.2,⟨hk.1.1.2,⟨hk.1.2,hk.2⟩⟩⟩⟩⟩)⟩,⟨by (with_reducible repeat (first|apply Kd.R_alloc|apply Kd.R_drewN|apply Kd.R_drew));exact Kd.R_mono j2g.out (fun _ hk=>⟨hk.1.1.1.1.1.2,⟨hk.1.1.1.1.2,⟨hk.1.1.1.2,⟨hk.1.1.2,⟨hk.1.2,hk.2⟩⟩⟩⟩⟩)⟩,⟨by (with_reducible repeat (first|apply Kd.R_alloc|apply Kd.R_drewN|apply Kd.R_drew));exact Kd.R_mono j2h.out (fun _ hk=>⟨hk.1.1.1.1.1.2,⟨hk.1.1.1.1.2,⟨hk.1.1.1.2,⟨hk.1.1.2,⟨hk.1.2,hk.2⟩⟩⟩⟩⟩)⟩,⟨by (with_reducible repeat (first|apply Kd.R_alloc|apply Kd.R_drewN|apply Kd.R_drew));exact Kd.R_mono j2i.out (fun _ hk=>⟨hk.1.1.1.1.1.2,⟨hk.1.1.1.1.2,⟨hk.1.1.1.2,⟨hk.1.1.2,⟨hk.1.2,hk.2⟩⟩⟩⟩⟩)⟩,⟨by (with_reducible repeat (first|apply Kd.R_alloc|apply Kd.R_drewN|apply Kd.R_drew));exact Kd.R_mono js.out (fun _ hk=>⟨hk.1.1.1.1.1.2,⟨hk.1.1.1.1.2,⟨hk.1.1.1.2,⟨hk.1.1.2,⟨hk.1.2,hk.2⟩⟩⟩⟩⟩)⟩,⟨by (with_reducible repeat (first|apply Kd.R_alloc|apply Kd.R_drewN|apply Kd.R_drew));exact Kd.R_mono jt.out (fun _ hk=>⟨hk.1.1.1.1.1.2,⟨hk.1.1.1.1.2,⟨hk.1.1.1.2,⟨hk.1.1.2,⟨hk.1.2,hk.2⟩⟩⟩⟩⟩)⟩,⟨blk_to j2a⟩,⟨blk_to j2b⟩,⟨blk_to j2c⟩,⟨blk_to j2d⟩,⟨blk_to j2e⟩,⟨blk_to j1r⟩,⟨blk_to ja⟩,⟨below_to7 HB j3a.out j3b.out j3c.out j3d.out j3e.out j3f.out j3g.out⟩⟩
   replace c269:=Bool.eq_false_iff.mpr c269
   subst c269
   rw [if_neg ft_] at H
   have H':=ai_ H
   clear H
   have jb8:=j2k.out
   have jb9:=j2j.out
   have jba:=j2m.out
   have jbb:=j2l.out
   have jbc:=j2o.out
   have jbd:=j2n.out
   have jbe:=j2q.out
   have jbf:=j2p.out
   have jbg:=j2s.out
   have jbh:=j2r.out
   have jbi:=jr.out
   have jbj:=j2y.out
   obtain ⟨j7c,j7d,j7e,j7f,j7g,j7h,j7i,j7j⟩:=blk4_ j1r
   have jbk:=j2t.out
   have jbl:=jm.out
   have jbm:=j2u.out
   have jbn:=jn.out
   have jbo:=j2v.out
   have jbp:=jo.out
   have jbq:=j2w.out
   have jbr:=jp.out
   have jbs:=j2x.out
   have jbt:=jq.out
   obtain ⟨j7k,j7l,j7m,j7n,j7o,j7p,j7q,j7r⟩:=blk4_ ja
   go_wp2_with (first|(go_at_call 22;(with_reducible refine (laws_qLine.calls kj120 ju jv jw _ _ jc j3r j3s j3t _ _ jj true _ ?side1 ?side2 ?side3 ?side4 A236.out).mono ?_);(case side1=>refine (Kd.R_reads' (e:=3) (base:=w.heap.size) (ok:=fun k_=>((((((True∧some k_≠(.slice Ao18 j1i.length co18:Value).ownBlock)∧some k_≠(.slice Ao158 jd.length co158:Value).ownBlock)∧some k_≠(.slice Ao175 je.length co175:Value).ownBlock)∧some k_≠(.slice Ao185 j1j.length co185:Value).ownBlock)∧some k_≠(.slice Ao196 j1k.length co196:Value).ownBlock)∧some k_≠(.slice Ao219 jj.length co219:Value).ownBlock)) (n:=jc.length) (c:=co209) ?_).2.2;exact (rtf_ js ja));(case side2=>exact (Kd.R_reads' js.out).2.1);(case side3=>refine (Kd.R_reads' (e:=3) (base:=w.heap.size) (ok:=fun k_=>((((((True∧some k_≠(.slice Ao18 j1i.length co18:Value).ownBlock)∧some k_≠(.slice Ao158 jd.length co158:Value).ownBlock)∧some k_≠(.slice Ao175 je.length co175:Value).ownBlock)∧some k_≠(.slice Ao185 j1j.length co185:Value).ownBlock)∧some k_≠(.slice Ao196 j1k.length co196:Value).ownBlock)∧some k_≠(.slice Ao209 jc.length co209:Value).ownBlock)) (n:=jj.length) (c:=co219) ?_).2.2;exact (rtf_ jt ja));(case side4=>exact (Kd.R_reads' jt.out).2.1);rintro e jdn ⟨rfl,hb⟩;replace jf:=ai_ (Kd.R_below (rtf_ jf ja) hb);replace j2f:=ai_ (Kd.R_below (rtf_ j2f ja) hb);replace j2g:=ai_ (Kd.R_below (rtf_ j2g ja) hb);replace j2h:=ai_ (Kd.R_below (rtf_ j2h ja) hb);replace j2i:=ai_ (Kd.R_below (rtf_ j2i ja) hb);replace js:=ai_ (Kd.R_below (rtf_ js ja) hb);replace jt:=ai_ (Kd.R_below (rtf_ jt ja) hb);replace j2a:=ai_ (blk_below (blk_f1 j2a jm) hb);replace j2b:=ai_ (blk_below (blk_f1 j2b jn) hb);replace j2c:=ai_ (blk_below (blk_f1 j2c jo) hb);replace j2d:=ai_ (blk_below (blk_f1 j2d jp) hb);replace j2e:=ai_ (blk_below (blk_f1 j2e jq) hb);replace j1r:=ai_ (blk_below (blk_f1 j1r jr) hb);replace ja:=ai_ (blk_below (g:=jb) (o:=.cells #[.int .i64 j3r,.int .i64 j3s,.int .i64 j3t,.slice Ao219 jj.length co219] 26 (0,0)) (bput4 ja) hb);replace HB:=ai_ (below_step (below_to7 HB j3a.out j3b.out j3c.out j3d.out j3e.out j3f.out j3g.out) hb);(try clear hb)))
   go_meet
   case rel=>exact ⟨_,(false),rt_,H',⟨by have:=HJ13.out;have:=HJ71.out;have:=HJ89.out;have:=HJ118.out;have:=HJ120.out;first|omega|exact Nat.le_refl _⟩,⟨by (with_reducible repeat (first|apply Kd.R_alloc|apply Kd.R_drewN|apply Kd.R_drew));exact Kd.R_mono jf.out (fun _ hk=>⟨hk.1.1.1.1.1.2,⟨hk.1.1.1.1.2,⟨hk.1.1.1.2,⟨hk.1.1.2,⟨hk.1.2,hk.2⟩⟩⟩⟩⟩)⟩,⟨by (with_reducible repeat (first|apply Kd.R_alloc|apply Kd.R_drewN|apply Kd.R_drew));exact Kd.R_mono j2f.out (fun _ hk=>⟨hk.1.1.1.1.1.2,⟨hk.1.1.1.1.2,⟨hk.1.1.1.2,⟨hk.1.1.2,⟨hk.1.2,hk.2⟩⟩⟩⟩⟩)⟩,⟨by (with_reducible repeat (first|apply Kd.R_alloc|apply Kd.R_drewN|apply Kd.R_drew));exact Kd.R_mono j2g.out (fun _ hk=>⟨hk.1.1.1.1.1.2,⟨hk.1.1.1.1.2,⟨hk.1.1.1.2,⟨hk.1.1.2,⟨hk.1.2,hk.2⟩⟩⟩⟩⟩)⟩,⟨by (with_reducible repeat (first|apply Kd.R_alloc|apply Kd.R_drewN|apply Kd.R_drew));exact Kd.R_mono j2h.out (fun _ hk=>⟨hk.1.1.1.1.1.2,⟨hk.1.1.1.1.2,⟨hk.1.1.1.2,⟨hk.1.1.2,⟨hk.1.2,hk.2⟩⟩⟩⟩⟩)⟩,⟨by (with_reducible repeat (first|apply Kd.R_alloc|apply Kd.R_drewN|apply Kd.R_drew));exact Kd.R_mono j2i.out (fun _ hk=>⟨hk.1.1.1.1.1.2,⟨hk.1.1.1.1.2,⟨hk.1.1.1.2,⟨hk.1.1.2,⟨hk.1.2,hk.2⟩⟩⟩⟩⟩)⟩,⟨by (with_reducible repeat (first|apply Kd.R_alloc|apply Kd.R_drewN|apply Kd.R_drew));exact Kd.R_mono js.out (fun _ hk=>⟨hk.1.1.1.1.1.2,⟨hk.1.1.1.1.2,⟨hk.1.1.1.2,⟨hk.1.1.2,⟨hk.1.2,hk.2⟩⟩⟩⟩⟩)⟩,⟨by (with_reducible repeat (first|apply Kd.R_alloc|apply Kd.R_drewN|apply Kd.R_drew));exact Kd.R_mono jt.out (fun _ hk=>⟨hk.1.1.1.1.1.2,⟨hk.1.1.1.1.2,⟨hk.1.1.1.2,⟨hk.1.1.2,⟨hk.1.2,hk.2⟩⟩⟩⟩⟩)⟩,⟨blk_to j2a⟩,⟨blk_to j2b⟩,⟨blk_to j2c⟩,⟨blk_to j2d⟩,⟨blk_to j2e⟩,⟨blk_to j1r⟩,⟨blk_to ja⟩,⟨below_to7 HB j3a.out j3b.out j3c.out j3d.out j3e.out j3f.out j3g.out⟩⟩
  subst c238
  rw [if_pos rfl] at H
  by_cases c239:j2z=true
  rotate_left
  ·replace c239:=Bool.eq_false_iff.mpr c239
   subst c239
   rw [if_neg ft_] at H
   exact absurd H (by rw [HR_.out];cases kj120 <;> simp [lw_.j8])
  subst c239
  rw [if_pos rfl] at H
  by_cases c240:jh=true
  ·subst c240
   rw [if_pos rfl] at H
   have H':=ai_ H
   clear H
   have jbu:=j2k.out
   have jbv:=j2j.out
   have jbw:=j2m.out
   have jbx:=j2l.out
   have jby:=j2o.out
   have jbz:=j2n.out
   have jc0:=j2q.out
   have jc1:=j2p.out
   have jc2:=j2s.out
   have jc3:=j2r.out
   have jc4:=jr.out
   have jc5:=j2y.out
   obtain ⟨j7s,j7t,j7u,j7v,j7w,j7x,j7y,j7z⟩:=blk4_ j1r
   have jc6:=j2t.out
   have jc7:=jm.out
   have jc8:=j2u.out
   have jc9:=jn.out
   have jca:=j2v.out
   have jcb:=jo.out
   have jcc:=j2w.out
   have jcd:=jp.out
   have jce:=j2x.out
   have jcf:=jq.out
   obtain ⟨j8a,j8b,j8c,j8d,j8e,j8f,j8g,j8h⟩:=blk4_ ja
   go_wp2_with (first|(go_at_call 22;(with_reducible refine (laws_qLine.calls kj120 ju jv jw _ _ jc j3r j3s j3t _ _ jj true _ ?side1 ?side2 ?side3 ?side4 A236.out).mono ?_);(case side1=>refine (Kd.R_reads' (e:=3) (base:=w.heap.size) (ok:=fun k_=>((((((True∧some k_≠(.slice Ao18 j1i.length co18:Value).ownBlock)∧some k_≠(.slice Ao158 jd.length co158:Value).ownBlock)∧some k_≠(.slice Ao175 je.length co175:Value).ownBlock)∧some k_≠(.slice Ao185 j1j.length co185:Value).ownBlock)∧some k_≠(.slice Ao196 j1k.length co196:Value).ownBlock)∧some k_≠(.slice Ao219 jj.length co219:Value).ownBlock)) (n:=jc.length) (c:=co209) ?_).2.2;exact (rtf_ js ja));(case side2=>exact (Kd.R_reads' js.out).2.1);(case side3=>refine (Kd.R_reads' (e:=3) (base:=w.heap.size) (ok:=fun k_=>((((((True∧some k_≠(.slice Ao18 j1i.length co18:Value).ownBlock)∧some k_≠(.slice Ao158 jd.length co158:Value).ownBlock)∧some k_≠(.slice Ao175 je.length co175:Value).ownBlock)∧some k_≠(.slice Ao185 j1j.length co185:Value).ownBlock)∧some k_≠(.slice Ao196 j1k.length co196:Value).ownBlock)∧some k_≠(.slice Ao209 jc.length co209:Value).ownBlock)) (n:=jj.length) (c:=co219) ?_).2.2;exact (rtf_ jt ja));(case side4=>exact (Kd.R_reads' jt.out).2.1);rintro e jdo ⟨rfl,hb⟩;replace jf:=ai_ (Kd.R_below (rtf_ jf ja) hb);replace j2f:=ai_ (Kd.R_below (rtf_ j2f ja) hb);replace j2g:=ai_ (Kd.R_below (rtf_ j2g ja) hb);replace j2h:=ai_ (Kd.R_below (rtf_ j2h ja) hb);replace j2i:=ai_ (Kd.R_below (rtf_ j2i ja) hb);replace js:=ai_ (Kd.R_below (rtf_ js ja) hb);replace jt:=ai_ (Kd.R_below (rtf_ jt ja) hb);replace j2a:=ai_ (blk_below (blk_f1 j2a jm) hb);replace j2b:=ai_ (blk_below (blk_f1 j2b jn) hb);replace j2c:=ai_ (blk_below (blk_f1 j2c jo) hb);replace j2d:=ai_ (blk_below (blk_f1 j2d jp) hb);replace j2e:=ai_ (blk_below (blk_f1 j2e jq) hb);replace j1r:=ai_ (blk_below (blk_f1 j1r jr) hb);replace ja:=ai_ (blk_below (g:=jb) (o:=.cells #[.int .i64 j3r,.int .i64 j3s,.int .i64 j3t,.slice Ao219 jj.length co219] 26 (0,0)) (bput4 ja) hb);replace HB:=ai_ (below_step (below_to7 HB j3a.out j3b.out j3c.out j3d.out j3e.out j3f.out j3g.out) hb);(try clear hb)))
   go_meet
   case rel=>exact ⟨_,(!true),rt_,H',⟨by have:=HJ13.out;have:=HJ71.out;have:=HJ89.out;have:=HJ118.out;have:=HJ120.out;first|omega|exact Nat.le_refl _⟩,⟨by (with_reducible repeat (first|apply Kd.R_alloc|apply Kd.R_drewN|apply Kd.R_drew));exact Kd.R_mono jf.out (fun _ hk=>⟨hk.1.1.1.1.1.2,⟨hk.1.1.1.1.2,⟨hk.1.1.1.2,⟨hk.1.1.2,⟨hk.1.2,hk.2⟩⟩⟩⟩⟩)⟩,⟨by (with_reducible repeat (first|apply Kd.R_alloc|apply Kd.R_drewN|apply Kd.R_drew));exact Kd.R_mono j2f.out (fun _ hk=>⟨hk.1.1.1.1.1.2,⟨hk.1.1.1.1.2,⟨hk.1.1.1.2,⟨hk.1.1.2,⟨hk.1.2,hk.2⟩⟩⟩⟩⟩)⟩,⟨by (with_reducible repeat (first|apply Kd.R_alloc|apply Kd.R_drewN|apply Kd.R_drew));exact Kd.R_mono j2g.out (fun _ hk=>⟨hk.1.1.1.1.1.2,⟨hk.1.1.1.1.2,⟨hk.1.1.1.2,⟨hk.1.1.2,⟨hk.1.2,hk.2⟩⟩⟩⟩⟩)⟩,⟨by (with_reducible repeat (first|apply Kd.R_alloc|apply Kd.R_drewN|apply Kd.R_drew));exact Kd.R_mono j2h.out (fun _ hk=>⟨hk.1.1.1.1.1.2,⟨hk.1.1.1.1.2,⟨hk.1.1.1.2,⟨hk.1.1.2,⟨hk.1.2,hk.2⟩⟩⟩⟩⟩)⟩,⟨by (with_reducible repeat (first|apply Kd.R_alloc|apply Kd.R_drewN|apply Kd.R_drew));exact Kd.R_mono j2i.out (fun _ hk=>⟨hk.1.1.1.1.1.2,⟨hk.1.1.1.1.2,⟨hk.1.1.1.2,⟨hk.1.1.2,⟨hk.1.2,hk.2⟩⟩⟩⟩⟩)⟩,⟨by (with_reducible repeat (first|apply Kd.R_alloc|apply Kd.R_drewN|apply Kd.R_drew));exact Kd.R_mono js.out (fun _ hk=>⟨hk.1.1.1.1.1.2,⟨hk.1.1.1.1.2,⟨hk.1.1.1.2,⟨hk.1.1.2,⟨hk.1.2,hk.2⟩⟩⟩⟩⟩)⟩,⟨by (with_reducible repeat (first|apply Kd.R_alloc|apply Kd.R_drewN|apply Kd.R_drew));exact Kd.R_mono jt.out (fun _ hk=>⟨hk.1.1.1.1.1.2,⟨hk.1.1.1.1.2,⟨hk.1.1.1.2,⟨hk.1.1.2,⟨hk.1.2,hk.2⟩⟩⟩⟩⟩)⟩,⟨blk_to j2a⟩,⟨blk_to j2b⟩,⟨blk_to j2c⟩,⟨blk_to j2d⟩,⟨blk_to j2e⟩,⟨blk_to j1r⟩,⟨blk_to ja⟩,⟨below_to7 HB j3a.out j3b.out j3c.out j3d.out j3e.out j3f.out j3g.out⟩⟩
  replace c240:=Bool.eq_false_iff.mpr c240
  subst c240
  rw [if_neg ft_] at H
  have H':=ai_ H
  clear H
  have jcg:=j2k.out
  have jch:=j2j.out
  have jci:=j2m.out
  have jcj:=j2l.out
  have jck:=j2o.out
  have jcl:=j2n.out
  have jcm:=j2q.out
  have jcn:=j2p.out
  have jco:=j2s.out
  have jcp:=j2r.out
  have jcq:=jr.out
  have jcr:=j2y.out
  obtain ⟨j8i,j8j,j8k,j8l,j8m,j8n,j8o,j8p⟩:=blk4_ j1r
  have jcs:=j2t.out
  have jct:=jm.out
  have jcu:=j2u.out
  have jcv:=jn.out
  have jcw:=j2v.out
  have jcx:=jo.out
  have jcy:=j2w.out
  have jcz:=jp.out
  have jd0:=j2x.out
  have jd1:=jq.out
  obtain ⟨j8q,j8r,j8s,j8t,j8u,j8v,j8w,j8x⟩:=blk4_ ja
  go_wp2_with (first|(go_at_call 22;(with_reducible refine (laws_qLine.calls kj120 ju jv jw _ _ jc j3r j3s j3t _ _ jj true _ ?side1 ?side2 ?side3 ?side4 A236.out).mono ?_);(case side1=>refine (Kd.R_reads' (e:=3) (base:=w.heap.size) (ok:=fun k_=>((((((True∧some k_≠(.slice Ao18 j1i.length co18:Value).ownBlock)∧some k_≠(.slice Ao158 jd.length co158:Value).ownBlock)∧some k_≠(.slice Ao175 je.length co175:Value).ownBlock)∧some k_≠(.slice Ao185 j1j.length co185:Value).ownBlock)∧some k_≠(.slice Ao196 j1k.length co196:Value).ownBlock)∧some k_≠(.slice Ao219 jj.length co219:Value).ownBlock)) (n:=jc.length) (c:=co209) ?_).2.2;exact (rtf_ js ja));(case side2=>exact (Kd.R_reads' js.out).2.1);(case side3=>refine (Kd.R_reads' (e:=3) (base:=w.heap.size) (ok:=fun k_=>((((((True∧some k_≠(.slice Ao18 j1i.length co18:Value).ownBlock)∧some k_≠(.slice Ao158 jd.length co158:Value).ownBlock)∧some k_≠(.slice Ao175 je.length co175:Value).ownBlock)∧some k_≠(.slice Ao185 j1j.length co185:Value).ownBlock)∧some k_≠(.slice Ao196 j1k.length co196:Value).ownBlock)∧some k_≠(.slice Ao209 jc.length co209:Value).ownBlock)) (n:=jj.length) (c:=co219) ?_).2.2;exact (rtf_ jt ja));(case side4=>exact (Kd.R_reads' jt.out).2.1);rintro e jdp ⟨rfl,hb⟩;replace jf:=ai_ (Kd.R_below (rtf_ jf ja) hb);replace j2f:=ai_ (Kd.R_below (rtf_ j2f ja) hb);replace j2g:=ai_ (Kd.R_below (rtf_ j2g ja) hb);replace j2h:=ai_ (Kd.R_below (rtf_ j2h ja) hb);replace j2i:=ai_ (Kd.R_below (rtf_ j2i ja) hb);replace js:=ai_ (Kd.R_below (rtf_ js ja) hb);replace jt:=ai_ (Kd.R_below (rtf_ jt ja) hb);replace j2a:=ai_ (blk_below (blk_f1 j2a jm) hb);replace j2b:=ai_ (blk_below (blk_f1 j2b jn) hb);replace j2c:=ai_ (blk_below (blk_f1 j2c jo) hb);replace j2d:=ai_ (blk_below (blk_f1 j2d jp) hb);replace j2e:=ai_ (blk_below (blk_f1 j2e jq) hb);replace j1r:=ai_ (blk_below (blk_f1 j1r jr) hb);replace ja:=ai_ (blk_below (g:=jb) (o:=.cells #[.int .i64 j3r,.int .i64 j3s,.int .i64 j3t,.slice Ao219 jj.length co219] 26 (0,0)) (bput4 ja) hb);replace HB:=ai_ (below_step (below_to7 HB j3a.out j3b.out j3c.out j3d.out j3e.out j3f.out j3g.out) hb);(try clear hb)))
  go_meet
  case rel=>exact ⟨_,(false),rt_,H',⟨by have:=HJ13.out;have:=HJ71.out;have:=HJ89.out;have:=HJ118.out;have:=HJ120.out;first|omega|exact Nat.le_refl _⟩,⟨by (with_reducible repeat (first|apply Kd.R_alloc|apply Kd.R_drewN|apply Kd.R_drew));exact Kd.R_mono jf.out (fun _ hk=>⟨hk.1.1.1.1.1.2,⟨hk.1.1.1.1.2,⟨hk.1.1.1.2,⟨hk.1.1.2,⟨hk.1.2,hk.2⟩⟩⟩⟩⟩)⟩,⟨by (with_reducible repeat (first|apply Kd.R_alloc|apply Kd.R_drewN|apply Kd.R_drew));exact Kd.R_mono j2f.out (fun _ hk=>⟨hk.1.1.1.1.1.2,⟨hk.1.1.1.1.2,⟨hk.1.1.1.2,⟨hk.1.1.2,⟨hk.1.2,hk.2⟩⟩⟩⟩⟩)⟩,⟨by (with_reducible repeat (first|apply Kd.R_alloc|apply Kd.R_drewN|apply Kd.R_drew));exact Kd.R_mono j2g.out (fun _ hk=>⟨hk.1.1.1.1.1.2,⟨hk.1.1.1.1.2,⟨hk.1.1.1.2,⟨hk.1.1.2,⟨hk.1.2,hk.2⟩⟩⟩⟩⟩)⟩,⟨by (with_reducible repeat (first|apply Kd.R_alloc|apply Kd.R_drewN|apply Kd.R_drew));exact Kd.R_mono j2h.out (fun _ hk=>⟨hk.1.1.1.1.1.2,⟨hk.1.1.1.1.2,⟨hk.1.1.1.2,⟨hk.1.1.2,⟨hk.1.2,hk.2⟩⟩⟩⟩⟩)⟩,⟨by (with_reducible repeat (first|apply Kd.R_alloc|apply Kd.R_drewN|apply Kd.R_drew));exact Kd.R_mono j2i.out (fun _ hk=>⟨hk.1.1.1.1.1.2,⟨hk.1.1.1.1.2,⟨hk.1.1.1.2,⟨hk.1.1.2,⟨hk.1.2,hk.2⟩⟩⟩⟩⟩)⟩,⟨by (with_reducible repeat (first|apply Kd.R_alloc|apply Kd.R_drewN|apply Kd.R_drew));exact Kd.R_mono js.out (fun _ hk=>⟨hk.1.1.1.1.1.2,⟨hk.1.1.1.1.2,⟨hk.1.1.1.2,⟨hk.1.1.2,⟨hk.1.2,hk.2⟩⟩⟩⟩⟩)⟩,⟨by (with_reducible repeat (first|apply Kd.R_alloc|apply Kd.R_drewN|apply Kd.R_drew));exact Kd.R_mono jt.out (fun _ hk=>⟨hk.1.1.1.1.1.2,⟨hk.1.1.1.1.2,⟨hk.1.1.1.2,⟨hk.1.1.2,⟨hk.1.2,hk.2⟩⟩⟩⟩⟩)⟩,⟨blk_to j2a⟩,⟨blk_to j2b⟩,⟨blk_to j2c⟩,⟨blk_to j2d⟩,⟨blk_to j2e⟩,⟨blk_to j1r⟩,⟨blk_to ja⟩,⟨below_to7 HB j3a.out j3b.out j3c.out j3d.out j3e.out j3f.out j3g.out⟩⟩
end Go.Proofs.YthdnodmidbcgpaaGreatDoor.QR
