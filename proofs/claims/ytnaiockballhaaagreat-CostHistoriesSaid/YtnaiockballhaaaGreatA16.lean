/- A part of the texts of this claim: every theorem says what it proves, with its conditions. -/
import Derived.Test.YtnaiockballhaaaGreatA15
import Derived.Test.YtnaiockballhaaaGreatProg
set_option linter.unusedSimpArgs false
set_option linter.unusedVariables false
set_option linter.unusedSectionVars false
open Option (bind_eq_some_iff)
open And (intro)
namespace Go.Proofs
open Go.Ev
section
variable (P:Program) (t:Nat)
abbrev fS(n:Nat)(z:List AV):Prop:=bW P t=some (n,true)/\dm P t=some (.agg z)/\Np P t=some none/\OE P t=none/\nW P t=true
abbrev fL(e n:Nat):Prop:=bW P t=some (1,false)/\dm P t=some (.slice none 0 0 (some 0))/\GC P t=some (e,n)/\OE P t=none/\gV P t=.sl/\nW P t=true
abbrev fA(n k e s:Nat)(z:AV):Prop:=bW P t=some (n,true)/\dm P t=some (.agg (List.replicate k z))/\OE P t=some (k,e,s)/\Np P t=some (some s)/\gV P t=.other
abbrev fM(k e:Nat):Prop:=bW P t=some (1,false)/\dm P t=some (.map none)/\di P t=some (k,e)/\gV P t=.map
abbrev fT:Prop:=bW P t=some (1,false)/\dm P t=some (.str [])/\gV P t=.str/\nW P t=true
abbrev fI(k:IntKind):Prop:=bW P t=some (1,false)/\dm P t=some (.int k 0)/\nW P t=true/\gV P t=.other/\isInt P t=true
abbrev fB(z:AV):Prop:=bW P t=some (1,false)/\dm P t=some z/\nW P t=true
end
abbrev Rq(P:Program):Prop:=bW P 1=some (1,false)/\fI P 2 .i64/\fI P 3 .i64/\fB P 4 (.bool false)/\fI P 5 .u8/\fT P 9/\fI P 21 .i32/\fL P 22 70 3/\fS P 23 1 [.slice none 0 0 (some 0)]/\aY P 23 0=some (0,22,1)/\fS P 24 1 [.slice none 0 0 (some 0)]/\aY P 24 0=some (0,22,1)/\fL P 25 27 3/\fS P 26 3 [.int .i64 0,.int .i64 0,.slice none 0 0 (some 0)]/\aY P 26 0=some (0,3,1)/\aY P 26 1=some (1,3,1)/\aY P 26 2=some (2,25,1)/\fS P 27 3 [.int .i64 0,.int .i64 0,.slice none 0 0 (some 0)]/\aY P 27 0=some (0,3,1)/\aY P 27 1=some (1,3,1)/\aY P 27 2=some (2,25,1)/\fS P 28 4 [.slice none 0 0 (some 0),.int .i64 0,.int .i64 0,.slice none 0 0 (some 0)]/\aY P 28 0=some (0,24,1)/\aY P 28 1=some (1,27,3)/\fS P 29 4 [.slice none 0 0 (some 0),.int .i64 0,.int .i64 0,.slice none 0 0 (some 0)]/\aY P 29 0=some (0,24,1)/\aY P 29 1=some (1,27,3)
theorem FV:Rq Tryz.prog:=by
 (repeat' apply intro)<;>kernel_rfl
abbrev Rr(P:Program):Prop:=fL P 30 50 5/\fL P 31 44 2/\fS P 32 4 [.str [],.str [],.int .i64 0,.int .i64 0]/\aY P 32 0=some (0,9,1)/\aY P 32 1=some (1,9,1)/\aY P 32 2=some (2,3,1)/\aY P 32 3=some (3,3,1)/\fS P 33 4 [.str [],.str [],.int .i64 0,.int .i64 0]/\aY P 33 0=some (0,9,1)/\aY P 33 1=some (1,9,1)/\aY P 33 2=some (2,3,1)/\aY P 33 3=some (3,3,1)/\bW P 34=some (1,false)/\bW P 35=some (1,false)/\fL P 36 61 2/\fI P 37 .i64/\bW P 39=some (1,false)/\fL P 40 3 1/\bW P 41=some (1,false)/\fL P 42 76 14/\fS P 43 2 [.slice none 0 0 (some 0),.bool false]/\aY P 43 0=some (0,42,1)/\aY P 43 1=some (1,4,1)/\fS P 44 2 [.slice none 0 0 (some 0),.bool false]/\aY P 44 0=some (0,42,1)/\aY P 44 1=some (1,4,1)
theorem FW:Rr Tryz.prog:=by
 (repeat' apply intro)<;>kernel_rfl
abbrev Rs(P:Program):Prop:=fL P 45 40 1/\bW P 47=some (1,false)/\fL P 48 9 1/\fS P 49 5 [.str [],.str [],.int .i64 0,.int .i64 0,.int .i64 0]/\aY P 49 0=some (0,9,1)/\aY P 49 1=some (1,9,1)/\aY P 49 2=some (2,3,1)/\aY P 49 3=some (3,3,1)/\aY P 49 4=some (4,3,1)/\fS P 50 5 [.str [],.str [],.int .i64 0,.int .i64 0,.int .i64 0]/\aY P 50 0=some (0,9,1)/\aY P 50 1=some (1,9,1)/\aY P 50 2=some (2,3,1)/\aY P 50 3=some (3,3,1)/\aY P 50 4=some (4,3,1)/\bW P 52=some (1,false)/\fL P 53 116 14/\fS P 54 1 [.slice none 0 0 (some 0)]/\aY P 54 0=some (0,53,1)/\fS P 55 1 [.slice none 0 0 (some 0)]/\aY P 55 0=some (0,53,1)/\bW P 57=some (1,false)/\bW P 59=some (1,false)/\fS P 60 2 [.str [],.int .i64 0]/\aY P 60 0=some (0,9,1)/\aY P 60 1=some (1,3,1)
theorem FX:Rs Tryz.prog:=by
 (repeat' apply intro)<;>kernel_rfl
abbrev Rt(P:Program):Prop:=fS P 61 2 [.str [],.int .i64 0]/\aY P 61 0=some (0,9,1)/\aY P 61 1=some (1,3,1)/\bW P 62=some (1,false)/\bW P 64=some (1,false)/\bW P 65=some (1,false)/\fS P 66 3 [.str [],.slice none 0 0 (some 0),.int .i64 0]/\aY P 66 0=some (0,9,1)/\aY P 66 1=some (1,48,1)/\aY P 66 2=some (2,3,1)/\fS P 67 3 [.str [],.slice none 0 0 (some 0),.int .i64 0]/\aY P 67 0=some (0,9,1)/\aY P 67 1=some (1,48,1)/\aY P 67 2=some (2,3,1)/\fL P 68 67 3/\fS P 69 3 [.str [],.bool false,.slice none 0 0 (some 0)]/\aY P 69 0=some (0,9,1)/\aY P 69 1=some (1,4,1)/\aY P 69 2=some (2,68,1)/\fS P 70 3 [.str [],.bool false,.slice none 0 0 (some 0)]/\aY P 70 0=some (0,9,1)/\aY P 70 1=some (1,4,1)/\aY P 70 2=some (2,68,1)/\fS P 71 2 [.int .i64 0,.int .i64 0]/\aY P 71 0=some (0,3,1)/\aY P 71 1=some (1,3,1)
theorem FY:Rt Tryz.prog:=by
 (repeat' apply intro)<;>kernel_rfl
abbrev Ru(P:Program):Prop:=fS P 72 2 [.int .i64 0,.int .i64 0]/\aY P 72 0=some (0,3,1)/\aY P 72 1=some (1,3,1)/\fS P 73 6 [.int .i64 0,.int .i64 0,.int .i64 0,.int .i64 0,.int .i64 0,.int .i64 0]/\aY P 73 0=some (0,72,2)/\aY P 73 1=some (2,72,2)/\aY P 73 2=some (4,72,2)/\fS P 74 6 [.int .i64 0,.int .i64 0,.int .i64 0,.int .i64 0,.int .i64 0,.int .i64 0]/\aY P 74 0=some (0,72,2)/\aY P 74 1=some (2,72,2)/\aY P 74 2=some (4,72,2)/\fS P 75 14 [.int .i64 0,.int .i64 0,.str [],.str [],.str [],.str [],.str [],.str [],.int .i64 0,.int .i64 0,.int .i64 0,.int .i64 0,.int .i64 0,.int .i64 0]/\aY P 75 0=some (0,3,1)/\aY P 75 1=some (1,3,1)/\aY P 75 2=some (2,9,1)/\aY P 75 3=some (3,9,1)/\aY P 75 4=some (4,9,1)/\aY P 75 5=some (5,9,1)/\aY P 75 6=some (6,9,1)/\aY P 75 7=some (7,9,1)/\aY P 75 8=some (8,74,6)/\fS P 76 14 [.int .i64 0,.int .i64 0,.str [],.str [],.str [],.str [],.str [],.str [],.int .i64 0,.int .i64 0,.int .i64 0,.int .i64 0,.int .i64 0,.int .i64 0]/\aY P 76 0=some (0,3,1)/\aY P 76 1=some (1,3,1)/\aY P 76 2=some (2,9,1)/\aY P 76 3=some (3,9,1)/\aY P 76 4=some (4,9,1)/\aY P 76 5=some (5,9,1)/\aY P 76 6=some (6,9,1)/\aY P 76 7=some (7,9,1)/\aY P 76 8=some (8,74,6)
theorem FZ:Ru Tryz.prog:=by
 (repeat' apply intro)<;>kernel_rfl
abbrev Rv(P:Program):Prop:=bW P 77=some (1,false)/\bW P 78=some (1,false)/\bW P 79=some (1,false)/\bW P 80=some (1,false)/\bW P 81=some (1,false)/\bW P 82=some (1,false)/\bW P 83=some (1,false)/\bW P 84=some (1,false)/\fL P 85 87 1/\fM P 86 9 3/\fM P 87 9 3/\bW P 89=some (1,false)/\bW P 90=some (1,false)/\bW P 91=some (1,false)/\fL P 92 3 1/\bW P 94=some (1,false)/\bW P 96=some (1,false)/\bW P 97=some (1,false)/\bW P 98=some (1,false)/\bW P 99=some (1,false)/\bW P 100=some (1,false)/\bW P 101=some (1,false)/\bW P 102=some (1,false)/\bW P 103=some (1,false)/\bW P 104=some (1,false)
theorem F0:Rv Tryz.prog:=by
 (repeat' apply intro)<;>kernel_rfl
abbrev Rw(P:Program):Prop:=bW P 105=some (1,false)/\bW P 106=some (1,false)/\bW P 108=some (1,false)/\bW P 109=some (1,false)/\bW P 110=some (1,false)/\bW P 111=some (1,false)/\fL P 112 167 2/\fS P 113 6 [.int .i64 0,.int .i64 0,.int .i64 0,.int .i64 0,.int .i64 0,.int .i64 0]/\aY P 113 0=some (0,72,2)/\aY P 113 1=some (2,72,2)/\aY P 113 2=some (4,72,2)/\fS P 114 6 [.int .i64 0,.int .i64 0,.int .i64 0,.int .i64 0,.int .i64 0,.int .i64 0]/\aY P 114 0=some (0,72,2)/\aY P 114 1=some (2,72,2)/\aY P 114 2=some (4,72,2)/\fS P 115 14 [.str [],.str [],.str [],.str [],.int .i64 0,.int .i64 0,.bool false,.slice none 0 0 (some 0),.int .i64 0,.int .i64 0,.int .i64 0,.int .i64 0,.int .i64 0,.int .i64 0]/\aY P 115 0=some (0,9,1)/\aY P 115 1=some (1,9,1)/\aY P 115 2=some (2,9,1)/\aY P 115 3=some (3,9,1)/\aY P 115 4=some (4,3,1)/\aY P 115 5=some (5,3,1)/\aY P 115 6=some (6,4,1)/\aY P 115 7=some (7,112,1)/\aY P 115 8=some (8,114,6)
theorem F2:Rw Tryz.prog:=by
 (repeat' apply intro)<;>kernel_rfl
abbrev Rx(P:Program):Prop:=fS P 116 14 [.str [],.str [],.str [],.str [],.int .i64 0,.int .i64 0,.bool false,.slice none 0 0 (some 0),.int .i64 0,.int .i64 0,.int .i64 0,.int .i64 0,.int .i64 0,.int .i64 0]/\aY P 116 0=some (0,9,1)/\aY P 116 1=some (1,9,1)/\aY P 116 2=some (2,9,1)/\aY P 116 3=some (3,9,1)/\aY P 116 4=some (4,3,1)/\aY P 116 5=some (5,3,1)/\aY P 116 6=some (6,4,1)/\aY P 116 7=some (7,112,1)/\aY P 116 8=some (8,114,6)/\bW P 117=some (1,false)/\bW P 118=some (1,false)/\fB P 119 (.ptr none)/\bW P 120=some (1,false)/\bW P 121=some (1,false)/\bW P 122=some (1,false)/\bW P 123=some (1,false)/\fM P 124 76 4/\bW P 126=some (1,false)/\bW P 128=some (1,false)/\bW P 129=some (1,false)/\bW P 130=some (1,false)/\bW P 132=some (1,false)/\bW P 133=some (1,false)/\bW P 134=some (1,false)
theorem F3:Rx Tryz.prog:=by
 (repeat' apply intro)<;>kernel_rfl
abbrev Ry(P:Program):Prop:=bW P 135=some (1,false)/\bW P 136=some (1,false)/\bW P 137=some (1,false)/\bW P 138=some (1,false)/\bW P 139=some (1,false)/\bW P 140=some (1,false)/\bW P 141=some (1,false)/\bW P 142=some (1,false)/\fM P 143 9 4/\bW P 145=some (1,false)/\bW P 146=some (1,false)/\bW P 147=some (1,false)/\bW P 148=some (1,false)/\bW P 149=some (1,false)/\bW P 150=some (1,false)/\fS P 151 2 [.slice none 0 0 (some 0),.map none]/\aY P 151 0=some (0,53,1)/\aY P 151 1=some (1,86,1)/\fS P 152 2 [.slice none 0 0 (some 0),.map none]/\aY P 152 0=some (0,53,1)/\aY P 152 1=some (1,86,1)/\bW P 153=some (1,false)/\bW P 154=some (1,false)/\bW P 155=some (1,false)/\bW P 156=some (1,false)
theorem F4:Ry Tryz.prog:=by
 (repeat' apply intro)<;>kernel_rfl
abbrev Rz(P:Program):Prop:=bW P 157=some (1,false)/\bW P 158=some (1,false)/\bW P 160=some (1,false)/\bW P 161=some (1,false)/\bW P 162=some (1,false)/\bW P 163=some (1,false)/\bW P 164=some (1,false)/\bW P 165=some (1,false)/\fS P 166 2 [.str [],.str []]/\aY P 166 0=some (0,9,1)/\aY P 166 1=some (1,9,1)/\fS P 167 2 [.str [],.str []]/\aY P 167 0=some (0,9,1)/\aY P 167 1=some (1,9,1)/\bW P 168=some (1,false)/\fM P 169 9 9/\bW P 170=some (1,false)/\fL P 171 72 2/\bW P 172=some (1,false)/\fS P 173 6 [.int .i64 0,.int .i64 0,.int .i64 0,.int .i64 0,.int .i64 0,.int .i64 0]/\aY P 173 0=some (0,74,6)/\fS P 174 6 [.int .i64 0,.int .i64 0,.int .i64 0,.int .i64 0,.int .i64 0,.int .i64 0]/\aY P 174 0=some (0,74,6)/\bW P 175=some (1,false)/\bW P 176=some (1,false)
theorem F5:Rz Tryz.prog:=by
 (repeat' apply intro)<;>kernel_rfl
abbrev QR(P:Program):Prop:=bW P 177=some (1,false)/\fA P 178 256 256 5 1 (.int .u8 0)/\bW P 179=some (1,false)/\bW P 180=some (1,false)/\fB P 181 (.ptr none)/\fA P 182 3 3 181 1 (.ptr none)/\bW P 183=some (1,false)/\fB P 184 (.ptr none)/\bW P 185=some (1,false)/\bW P 186=some (1,false)/\fM P 188 9 186/\bW P 189=some (1,false)/\bW P 190=some (1,false)/\bW P 191=some (1,false)/\fL P 192 48 1/\bW P 193=some (1,false)/\bW P 194=some (1,false)/\bW P 195=some (1,false)/\bW P 196=some (1,false)/\bW P 197=some (1,false)/\bW P 198=some (1,false)/\bW P 199=some (1,false)/\bW P 200=some (1,false)/\bW P 201=some (1,false)/\bW P 202=some (1,false)
theorem Bs:QR Tryz.prog:=by
 (repeat' apply intro)<;>kernel_rfl
abbrev QS(P:Program):Prop:=fM P 203 206 4/\bW P 204=some (1,false)/\fS P 205 2 [.str [],.str []]/\aY P 205 0=some (0,9,1)/\aY P 205 1=some (1,9,1)/\fS P 206 2 [.str [],.str []]/\aY P 206 0=some (0,9,1)/\aY P 206 1=some (1,9,1)/\bW P 207=some (1,false)/\bW P 208=some (1,false)/\bW P 209=some (1,false)/\bW P 210=some (1,false)/\bW P 211=some (1,false)/\bW P 212=some (1,false)/\bW P 213=some (1,false)/\bW P 215=some (1,false)/\bW P 216=some (1,false)/\bW P 217=some (1,false)/\bW P 218=some (1,false)/\bW P 219=some (1,false)/\bW P 220=some (1,false)/\bW P 221=some (1,false)/\fI P 222 .u64/\bW P 223=some (1,false)/\bW P 224=some (1,false)
theorem Bt:QS Tryz.prog:=by
 (repeat' apply intro)<;>kernel_rfl
abbrev QT(P:Program):Prop:=bW P 225=some (1,false)/\bW P 226=some (1,false)/\bW P 227=some (1,false)/\bW P 228=some (1,false)/\bW P 229=some (1,false)/\bW P 230=some (1,false)/\fI P 231 .i64/\bW P 232=some (1,false)/\fA P 233 8 8 9 1 (.str [])/\bW P 234=some (1,false)/\bW P 235=some (1,false)/\bW P 236=some (1,false)/\bW P 237=some (1,false)/\fL P 238 240 15/\fS P 239 15 [.int .i64 0,.int .i64 0,.str [],.str [],.str [],.str [],.str [],.str [],.int .i64 0,.int .i64 0,.int .i64 0,.int .i64 0,.int .i64 0,.int .i64 0,.int .i64 0]/\aY P 239 0=some (0,76,14)/\aY P 239 1=some (14,3,1)/\fS P 240 15 [.int .i64 0,.int .i64 0,.str [],.str [],.str [],.str [],.str [],.str [],.int .i64 0,.int .i64 0,.int .i64 0,.int .i64 0,.int .i64 0,.int .i64 0,.int .i64 0]/\aY P 240 0=some (0,76,14)/\aY P 240 1=some (14,3,1)/\bW P 241=some (1,false)/\bW P 242=some (1,false)/\bW P 243=some (1,false)/\bW P 244=some (1,false)/\bW P 245=some (1,false)
theorem Bu:QT Tryz.prog:=by
 (repeat' apply intro)<;>kernel_rfl
abbrev QU(P:Program):Prop:=bW P 246=some (1,false)/\bW P 247=some (1,false)/\bW P 248=some (1,false)/\bW P 249=some (1,false)/\bW P 250=some (1,false)/\bW P 251=some (1,false)/\bW P 252=some (1,false)/\bW P 253=some (1,false)/\bW P 254=some (1,false)/\bW P 255=some (1,false)/\bW P 256=some (1,false)/\fI P 257 .i64/\bW P 259=some (1,false)/\bW P 260=some (1,false)/\bW P 261=some (1,false)/\bW P 262=some (1,false)/\bW P 263=some (1,false)/\bW P 264=some (1,false)/\fI P 265 .u32/\bW P 266=some (1,false)/\fI P 267 .u64/\bW P 268=some (1,false)/\bW P 269=some (1,false)/\bW P 270=some (1,false)/\bW P 271=some (1,false)
theorem Bv:QU Tryz.prog:=by
 (repeat' apply intro)<;>kernel_rfl
abbrev QV(P:Program):Prop:=bW P 272=some (1,false)/\bW P 273=some (1,false)/\bW P 274=some (1,false)/\bW P 275=some (1,false)/\fI P 276 .u64/\bW P 277=some (1,false)/\bW P 278=some (1,false)/\bW P 279=some (1,false)/\fB P 280 (.ptr none)/\bW P 281=some (1,false)/\fL P 282 231 1/\bW P 283=some (1,false)/\bW P 284=some (1,false)/\bW P 285=some (1,false)/\bW P 286=some (1,false)/\bW P 287=some (1,false)/\bW P 288=some (1,false)/\fB P 289 (.ptr none)/\bW P 291=some (1,false)/\bW P 292=some (1,false)/\bW P 293=some (1,false)/\fS P 294 4 [.ptr none,.ptr none,.ptr none,.str []]/\aY P 294 0=some (0,17,1)/\aY P 294 1=some (1,17,1)/\aY P 294 2=some (2,17,1)/\aY P 294 3=some (3,9,1)
theorem Bw:QV Tryz.prog:=by
 (repeat' apply intro)<;>kernel_rfl
abbrev QW(P:Program):Prop:=fS P 295 4 [.ptr none,.ptr none,.ptr none,.str []]/\aY P 295 0=some (0,17,1)/\aY P 295 1=some (1,17,1)/\aY P 295 2=some (2,17,1)/\aY P 295 3=some (3,9,1)/\fA P 296 0 0 16 1 (.ptr none)/\fS P 297 0 []/\aY P 297 0=some (0,296,0)/\fS P 298 0 []/\aY P 298 0=some (0,296,0)/\bW P 299=some (1,false)/\fI P 300 .u8/\fI P 301 .u8/\bW P 302=some (1,false)/\fB P 303 (.ptr none)/\fI P 304 .i32/\fI P 305 .i32/\fS P 306 11 [.int .u64 0,.int .u64 0,.int .u32 0,.int .u8 0,.int .u8 0,.int .u8 0,.int .u8 0,.ga,.ptr none,.int .i32 0,.int .i32 0]/\aY P 306 0=some (0,12,1)/\aY P 306 1=some (1,12,1)/\aY P 306 2=some (2,265,1)/\aY P 306 3=some (3,300,1)/\aY P 306 4=some (4,5,1)/\aY P 306 5=some (5,5,1)/\aY P 306 6=some (6,301,1)/\aY P 306 7=some (7,302,1)/\aY P 306 8=some (8,303,1)/\aY P 306 9=some (9,304,1)/\aY P 306 10=some (10,305,1)
theorem Bx:QW Tryz.prog:=by
 (repeat' apply intro)<;>kernel_rfl
abbrev QX(P:Program):Prop:=fS P 307 11 [.int .u64 0,.int .u64 0,.int .u32 0,.int .u8 0,.int .u8 0,.int .u8 0,.int .u8 0,.ga,.ptr none,.int .i32 0,.int .i32 0]/\aY P 307 0=some (0,12,1)/\aY P 307 1=some (1,12,1)/\aY P 307 2=some (2,265,1)/\aY P 307 3=some (3,300,1)/\aY P 307 4=some (4,5,1)/\aY P 307 5=some (5,5,1)/\aY P 307 6=some (6,301,1)/\aY P 307 7=some (7,302,1)/\aY P 307 8=some (8,303,1)/\aY P 307 9=some (9,304,1)/\aY P 307 10=some (10,305,1)/\fI P 308 .i64/\bW P 309=some (1,false)/\bW P 311=some (1,false)
theorem By:QX Tryz.prog:=by
 (repeat' apply intro)<;>kernel_rfl
theorem aw:type_of% FV/\type_of% FW/\type_of% FX/\type_of% FY/\type_of% FZ/\type_of% F0/\type_of% F2/\type_of% F3/\type_of% F4/\type_of% F5/\type_of% Bs/\type_of% Bt/\type_of% Bu/\type_of% Bv/\type_of% Bw/\type_of% Bx/\type_of% By:=⟨FV,FW,FX,FY,FZ,F0,F2,F3,F4,F5,Bs,Bt,Bu,Bv,Bw,Bx,By⟩
end Go.Proofs
namespace Go.Ev
section
variable {P:Program} {f:Fm} {S:List SO} {o:Nat}
theorem ko(v:AV):names o (.a v)=false:=by rw[names];all_goals (intros;contradiction)
theorem xW(n e:Nat)(cs:List SV):names o (.sl n e cs)=false:=by rw[names];all_goals (intros;contradiction)
theorem xU(ks:List AV)(vs:List SV):names o (.im ks vs)=false:=by rw[names];all_goals (intros;contradiction)
theorem xV(cs:List SV):names o (.ip cs)=false:=by rw[names];all_goals (intros;contradiction)
theorem ur:names o .any=false:=by rw[names];all_goals (intros;contradiction)
theorem Ir(k:IntKind)(n:Int):cG (.a (.int k n))=some [.a (.int k n)]:=rfl
theorem Is(s:List Nat):cG (.a (.str s))=some [.a (.str s)]:=rfl
theorem Iq(b:Bool):cG (.a (.bool b))=some [.a (.bool b)]:=rfl
theorem An(o:Option (Nat×Nat))(n e:Nat)(c:Option Nat):cG (.a (.slice o n e c))=some [.a (.slice o n e c)]:=rfl
theorem DK(n e:Nat)(cs:List SV):cG (.sl n e cs)=some [.sl n e cs]:=rfl
theorem DI(ks:List AV)(vs:List SV):cG (.im ks vs)=some [.im ks vs]:=rfl
theorem DJ(cs:List SV):cG (.ip cs)=some [.ip cs]:=rfl
theorem wU(o off:Nat):cG (.ptr o off)=some [.ptr o off]:=rfl
theorem wT(o:Nat):cG (.map o)=some [.map o]:=rfl
theorem xT(e:Nat):names o (.e0 e)=false:=by rw[names];all_goals (intros;contradiction)
theorem As(o off n e:Nat)(c:Option Nat):cG (.sub o off n e c)=some [.sub o off n e c]:=rfl
theorem DG(e:Nat):cG (.e0 e)=some [.e0 e]:=rfl
theorem Aq(o n e:Nat)(c:Option Nat):cG (.buf o n e c)=some [.buf o n e c]:=rfl
theorem Ar(g:FuncId)(a b:List SV):cG (.fn g a b)=some [.fn g a b]:=rfl
theorem DH(t:TypeId)(v:SV):cG (.iface t v)=some [.iface t v]:=rfl
theorem IX(n e:Nat)(cs:List SV):dU (.sl n e cs)=true:=rfl
theorem IV(ks:List AV)(vs:List SV):dU (.im ks vs)=true:=rfl
theorem IW(cs:List SV):dU (.ip cs)=true:=rfl
theorem EF(o off:Nat):dU (.ptr o off)=true:=rfl
theorem EE(o:Nat):dU (.map o)=true:=rfl
theorem EG(o off n e:Nat)(c:Option Nat):dU (.sub o off n e c)=true:=rfl
theorem IS(e:Nat):dU (.e0 e)=true:=rfl
theorem ED(o n e:Nat)(c:Option Nat):dU (.buf o n e c)=true:=rfl
theorem IT(g:FuncId)(a b:List SV):dU (.fn g a b)=true:=rfl
theorem IU(t:TypeId)(v:SV):dU (.iface t v)=true:=rfl
theorem Mc(k:IntKind)(n:Int):j7 (.int k n)=true:=rfl
theorem Md(s:List Nat):j7 (.str s)=true:=rfl
theorem Mb(b:Bool):j7 (.bool b)=true:=rfl
theorem IQ(o:Option (Nat×Nat))(n e:Nat)(c:Option Nat):j7 (.slice o n e c)=true:=rfl
theorem OY(k:IntKind)(n:Int):yT (.int k n)=.a (.int k n):=rfl
theorem OZ(s:List Nat):yT (.str s)=.a (.str s):=rfl
theorem OX(b:Bool):yT (.bool b)=.a (.bool b):=rfl
theorem MV(o:Option (Nat×Nat))(n e:Nat)(c:Option Nat):yT (.slice o n e c)=.a (.slice o n e c):=rfl
theorem Jr(o:Option (Nat×Nat)):yT (.ptr o)=.a (.ptr o):=rfl
theorem Jq(o:Option Nat):yT (.map o)=.a (.map o):=rfl
theorem MU:yT .ga=.a .ga:=rfl
theorem ab(v w:SV)(l:List SV):aC (v::w::l)=.bI (v::w::l):=rfl
theorem MN(x:Operand)(aS:Array Operand)(ats:Array TypeId):db P f S (.call { callee:=.value x,args:=aS,argTypes:=ats })=none:=rfl
theorem MM(x:Operand)(m:String)(aS:Array Operand)(ats:Array TypeId):db P f S (.call { callee:=.invoke x m,args:=aS,argTypes:=ats })=none:=rfl
theorem kM(k:IntKind)(n:Nat):c9 (.int k (n:Int))=some n:=rfl
theorem A1(k:IntKind)(n:Nat):c9 (.int k (OfNat.ofNat n))=some n:=rfl
theorem Ao(cs:List AV):(AV.agg cs).cells=cs:=rfl
theorem Qq:(type_of% (@kP.eq_1))/\(type_of% (@kP.eq_2))/\(type_of% (@db.eq_1))/\(type_of% (@db.eq_2))/\(type_of% (@db.eq_3))/\(type_of% (@db.eq_4))/\(type_of% (@db.eq_5))/\(type_of% (@db.eq_6))/\(type_of% (@db.eq_7))/\(type_of% (@db.eq_8))/\(type_of% (@db.eq_9))/\(type_of% (@db.eq_10))/\(type_of% (@db.eq_11))/\(type_of% (@db.eq_12))/\(type_of% (@db.eq_13))/\(type_of% (@db.eq_14))/\(type_of% (@db.eq_15))/\(type_of% (@db.eq_16))/\(type_of% (@db.eq_17))/\(type_of% (@db.eq_18))/\(type_of% (@db.eq_19))/\(type_of% (@db.eq_20))/\(type_of% (@db.eq_21))/\(type_of% (@db.eq_22))/\(type_of% (@db.eq_23))/\(type_of% (@db.eq_24))/\(type_of% (@db.eq_25))/\(type_of% (@db.eq_26))/\(type_of% (@db.eq_27))/\(type_of% (@sw.eq_1))/\(type_of% (@sw.eq_2))/\(type_of% (@sL.eq_1))/\(type_of% (@aR.eq_1))/\(type_of% (@aR.eq_2))/\(type_of% (@se.eq_1))/\(type_of% (@se.eq_2))/\(type_of% (@ia.eq_1))/\(type_of% (@ia.eq_2))/\(type_of% (@da.eq_1))/\(type_of% (@da.eq_2)):=
 ⟨@kP.eq_1,@kP.eq_2,@db.eq_1,@db.eq_2,@db.eq_3,@db.eq_4,@db.eq_5,@db.eq_6,@db.eq_7,@db.eq_8,@db.eq_9,@db.eq_10,@db.eq_11,@db.eq_12,@db.eq_13,@db.eq_14,@db.eq_15,@db.eq_16,@db.eq_17,@db.eq_18,@db.eq_19,@db.eq_20,@db.eq_21,@db.eq_22,@db.eq_23,@db.eq_24,@db.eq_25,@db.eq_26,@db.eq_27,@sw.eq_1,@sw.eq_2,@sL.eq_1,@aR.eq_1,@aR.eq_2,@se.eq_1,@se.eq_2,@ia.eq_1,@ia.eq_2,@da.eq_1,@da.eq_2⟩
theorem Qt:(type_of% (@Bz.eq_1))/\(type_of% (@Bz.eq_2))/\(type_of% (@eY.eq_1))/\(type_of% (@eY.eq_2))/\(type_of% (@eY.eq_3))/\(type_of% (@eY.eq_4))/\(type_of% (@ma.eq_1))/\(type_of% (@ma.eq_2))/\(type_of% (@jE.eq_1))/\(type_of% (@jE.eq_2))/\(type_of% (@s9.eq_1))/\(type_of% (@s9.eq_2))/\(type_of% (@pg.eq_1))/\(type_of% (@pg.eq_2))/\(type_of% (@wP.eq_1))/\(type_of% (@kE.eq_1))/\(type_of% (@cH.eq_1))/\(type_of% (@cH.eq_2))/\(type_of% (@cH.eq_3))/\(type_of% (@jL.eq_1))/\(type_of% (@jL.eq_2))/\(type_of% (@G5.eq_1))/\(type_of% (@rU.eq_1))/\(type_of% (@rU.eq_2))/\(type_of% (@rU.eq_3))/\(type_of% (@oS.eq_1))/\(type_of% (@oS.eq_2))/\(type_of% (@oS.eq_3))/\(type_of% (@oS.eq_4))/\(type_of% (@oS.eq_5))/\(type_of% (@mO.eq_1))/\(type_of% (@mO.eq_2))/\(type_of% (@mO.eq_3))/\(type_of% (@dq.eq_1))/\(type_of% (@gi.eq_1))/\(type_of% (@vL.eq_1))/\(type_of% (@vL.eq_2))/\(type_of% (@dC.eq_1)):=
 ⟨@Bz.eq_1,@Bz.eq_2,@eY.eq_1,@eY.eq_2,@eY.eq_3,@eY.eq_4,@ma.eq_1,@ma.eq_2,@jE.eq_1,@jE.eq_2,@s9.eq_1,@s9.eq_2,@pg.eq_1,@pg.eq_2,@wP.eq_1,@kE.eq_1,@cH.eq_1,@cH.eq_2,@cH.eq_3,@jL.eq_1,@jL.eq_2,@G5.eq_1,@rU.eq_1,@rU.eq_2,@rU.eq_3,@oS.eq_1,@oS.eq_2,@oS.eq_3,@oS.eq_4,@oS.eq_5,@mO.eq_1,@mO.eq_2,@mO.eq_3,@dq.eq_1,@gi.eq_1,@vL.eq_1,@vL.eq_2,@dC.eq_1⟩
theorem Qu:(type_of% (@dC.eq_2))/\(type_of% (@dC.eq_3))/\(type_of% (@dC.eq_4))/\(type_of% (@dC.eq_5))/\(type_of% (@EN.eq_1))/\(type_of% (@yj.eq_1))/\(type_of% (@cC.eq_1))/\(type_of% (@cC.eq_2))/\(type_of% (@cC.eq_3))/\(type_of% (@cC.eq_4))/\(type_of% (@cC.eq_5))/\(type_of% (@lQ.eq_1))/\(type_of% (@tZ.eq_1))/\(type_of% (@lS.eq_1))/\(type_of% (@xB.eq_1))/\(type_of% (@fK.eq_1))/\(type_of% (@fK.eq_2))/\(type_of% (@fK.eq_3))/\(type_of% (@fK.eq_4))/\(type_of% (@bP.eq_1))/\(type_of% (@bP.eq_2))/\(type_of% (@bP.eq_3))/\(type_of% (@bP.eq_4))/\(type_of% (@bP.eq_5))/\(type_of% (@bP.eq_6))/\(type_of% (@bP.eq_7))/\(type_of% (@dz.eq_1))/\(type_of% (@nd.eq_1))/\(type_of% (@nd.eq_2))/\(type_of% (@nd.eq_3))/\(type_of% (@aC.eq_1))/\(type_of% (@gr.eq_1))/\(type_of% (@yT.eq_1))/\(type_of% (@cG.eq_1))/\(type_of% (@cG.eq_2))/\(type_of% (@cG.eq_3))/\(type_of% (@dU.eq_1))/\(type_of% (@dU.eq_2))/\(type_of% (@dU.eq_3))/\(type_of% (@dU.eq_4))/\(type_of% (@names.eq_1))/\(type_of% (@names.eq_2))/\(type_of% (@names.eq_3))/\(type_of% (@names.eq_4)):=
 ⟨@dC.eq_2,@dC.eq_3,@dC.eq_4,@dC.eq_5,@EN.eq_1,@yj.eq_1,@cC.eq_1,@cC.eq_2,@cC.eq_3,@cC.eq_4,@cC.eq_5,@lQ.eq_1,@tZ.eq_1,@lS.eq_1,@xB.eq_1,@fK.eq_1,@fK.eq_2,@fK.eq_3,@fK.eq_4,@bP.eq_1,@bP.eq_2,@bP.eq_3,@bP.eq_4,@bP.eq_5,@bP.eq_6,@bP.eq_7,@dz.eq_1,@nd.eq_1,@nd.eq_2,@nd.eq_3,@aC.eq_1,@gr.eq_1,@yT.eq_1,@cG.eq_1,@cG.eq_2,@cG.eq_3,@dU.eq_1,@dU.eq_2,@dU.eq_3,@dU.eq_4,@names.eq_1,@names.eq_2,@names.eq_3,@names.eq_4⟩
theorem Qv:(type_of% (@names.eq_5))/\(type_of% (@names.eq_6))/\(type_of% (@names.eq_7))/\(type_of% (@fF.eq_1))/\(type_of% (@fF.eq_2))/\(type_of% (@bf.eq_1))/\(type_of% (@qC.eq_1))/\(type_of% (@qC.eq_2))/\(type_of% (@wD.eq_1))/\(type_of% (@wD.eq_2))/\(type_of% (@jI.eq_1))/\(type_of% (@jI.eq_2))/\(type_of% (@ko))/\(type_of% (@xW))/\(type_of% (@xU))/\(type_of% (@xV))/\(type_of% (@ur))/\(type_of% (@An))/\(type_of% (@Ir))/\(type_of% (@Is))/\(type_of% (@Iq))/\(type_of% (@DK))/\(type_of% (@DI))/\(type_of% (@DJ))/\(type_of% (@Aq))/\(type_of% (@DH))/\(type_of% (@IX))/\(type_of% (@IV))/\(type_of% (@IW))/\(type_of% (@EF))/\(type_of% (@EE))/\(type_of% (@ED))/\(type_of% (@IT))/\(type_of% (@IU))/\(type_of% (@Mc))/\(type_of% (@Md))/\(type_of% (@Mb))/\(type_of% (@IQ))/\(type_of% (@OY))/\(type_of% (@OZ)):=
 ⟨@names.eq_5,@names.eq_6,@names.eq_7,@fF.eq_1,@fF.eq_2,@bf.eq_1,@qC.eq_1,@qC.eq_2,@wD.eq_1,@wD.eq_2,@jI.eq_1,@jI.eq_2,@ko,@xW,@xU,@xV,@ur,@An,@Ir,@Is,@Iq,@DK,@DI,@DJ,@Aq,@DH,@IX,@IV,@IW,@EF,@EE,@ED,@IT,@IU,@Mc,@Md,@Mb,@IQ,@OY,@OZ⟩
theorem Qw:(type_of% (@OX))/\(type_of% (@MV))/\(type_of% (@Jr))/\(type_of% (@Jq))/\(type_of% (@MU))/\(type_of% (@ab))/\(type_of% (@MN))/\(type_of% (@MM))/\(type_of% (@kM))/\(type_of% (@wU))/\(type_of% (@wT))/\(type_of% (@Ar))/\(type_of% (@A1))/\(type_of% (@Ao))/\(type_of% (@Ap))/\(type_of% (@M3))/\(type_of% (@Dv))/\(type_of% (@Dz))/\(type_of% (@Dy))/\(type_of% (@Dw))/\(type_of% (@o6))/\(type_of% (@Dx))/\(type_of% ((λ{P:Program} {t:TypeId} {a b:Int}=>@wa P t a b _ oP)))/\(type_of% ((λ{P:Program} {t:TypeId} {a b:Int}=>@rQ P t a b _ oP)))/\(type_of% ((λ{P:Program} {t:TypeId} {a b:Int}=>@vZ P t a b _ oP)))/\(type_of% ((λ{P:Program} {t:TypeId} {a b:Int}=>@vY P t a b _ oP)))/\(type_of% ((λ{P:Program} {t:TypeId} {a b:Int}=>@rP P t a b _ oP)))/\(type_of% ((λ{P:Program} {t:TypeId} {a b:Int}=>@nU P t a b _ oP)))/\(type_of% ((λ{P:Program} {t:TypeId} {a b:Int}=>@wa P t a b _ vI)))/\(type_of% ((λ{P:Program} {t:TypeId} {a b:Int}=>@rQ P t a b _ vI)))/\(type_of% ((λ{P:Program} {t:TypeId} {a b:Int}=>@vZ P t a b _ vI)))/\(type_of% ((λ{P:Program} {t:TypeId} {a b:Int}=>@vY P t a b _ vI)))/\(type_of% ((λ{P:Program} {t:TypeId} {a b:Int}=>@rP P t a b _ vI)))/\(type_of% ((λ{P:Program} {t:TypeId} {a b:Int}=>@nU P t a b _ vI)))/\(type_of% (@names.eq_8))/\(type_of% (@oS.eq_6))/\(type_of% (@oS.eq_7))/\(type_of% (@mO.eq_4))/\(type_of% (@mO.eq_5))/\(type_of% (@cC.eq_6))/\(type_of% (@cC.eq_7))/\(type_of% (@fK.eq_6))/\(type_of% (@fK.eq_8))/\(type_of% (@fK.eq_9))/\(type_of% (@fK.eq_10))/\(type_of% (@dC.eq_6))/\(type_of% (@dC.eq_7))/\(type_of% (@dC.eq_8))/\(type_of% (@Dl.eq_1))/\(type_of% (@Dl.eq_2))/\(type_of% (@Dl.eq_3))/\(type_of% (@yX.eq_1))/\(type_of% (@yX.eq_2))/\(type_of% (@yX.eq_3))/\(type_of% (@yX.eq_4))/\(type_of% (@DN.eq_1))/\(type_of% (@Iu.eq_1))/\(type_of% (@wW.eq_1))/\(type_of% (@OG.eq_1))/\(type_of% (@OG.eq_2))/\(type_of% (@wS.eq_1))/\(type_of% (@wS.eq_2))/\(type_of% (@wS.eq_3))/\(type_of% (@wS.eq_4))/\(type_of% (@xT))/\(type_of% (@As))/\(type_of% (@DG))/\(type_of% (@EG))/\(type_of% (@IS))/\(type_of% (@rM.eq_1))/\(type_of% (@sC.eq_1)):=
 ⟨@OX,@MV,@Jr,@Jq,@MU,@ab,@MN,@MM,@kM,@wU,@wT,@Ar,@A1,@Ao,@Ap,@M3,@Dv,@Dz,@Dy,@Dw,@o6,@Dx,(λ{P:Program} {t:TypeId} {a b:Int}=>@wa P t a b _ oP),(λ{P:Program} {t:TypeId} {a b:Int}=>@rQ P t a b _ oP),(λ{P:Program} {t:TypeId} {a b:Int}=>@vZ P t a b _ oP),(λ{P:Program} {t:TypeId} {a b:Int}=>@vY P t a b _ oP),(λ{P:Program} {t:TypeId} {a b:Int}=>@rP P t a b _ oP),(λ{P:Program} {t:TypeId} {a b:Int}=>@nU P t a b _ oP),(λ{P:Program} {t:TypeId} {a b:Int}=>@wa P t a b _ vI),(λ{P:Program} {t:TypeId} {a b:Int}=>@rQ P t a b _ vI),(λ{P:Program} {t:TypeId} {a b:Int}=>@vZ P t a b _ vI),(λ{P:Program} {t:TypeId} {a b:Int}=>@vY P t a b _ vI),(λ{P:Program} {t:TypeId} {a b:Int}=>@rP P t a b _ vI),(λ{P:Program} {t:TypeId} {a b:Int}=>@nU P t a b _ vI),@names.eq_8,@oS.eq_6,@oS.eq_7,@mO.eq_4,@mO.eq_5,@cC.eq_6,@cC.eq_7,@fK.eq_6,@fK.eq_8,@fK.eq_9,@fK.eq_10,@dC.eq_6,@dC.eq_7,@dC.eq_8,@Dl.eq_1,@Dl.eq_2,@Dl.eq_3,@yX.eq_1,@yX.eq_2,@yX.eq_3,@yX.eq_4,@DN.eq_1,@Iu.eq_1,@wW.eq_1,@OG.eq_1,@OG.eq_2,@wS.eq_1,@wS.eq_2,@wS.eq_3,@wS.eq_4,@xT,@As,@DG,@EG,@IS,@rM.eq_1,@sC.eq_1⟩
theorem bx:type_of% Qq/\type_of% Qt/\type_of% Qu/\type_of% Qv/\type_of% Qw:=⟨Qq,Qt,Qu,Qv,Qw⟩
end
noncomputable section
def m7:Op->Bool
 | .move _ | .assign _ | .pick _ _ _ | .build _ _ | .nilCheck _ | .binOp _ _ _ _ _ | .unOp _ _ _ | .convert _ _ _ | .fieldAddr _ _ _ | .field _ _ _ | .indexAddr _ _ _ | .index _ _ _ | .extract _ _ | .load _ _ | .lookup _ _ _ _ | .slice _ _ _ _ _=>true
 | .makeFunc (.func _) _ _=>true
 | .makeFunc (.method _) _ _=>true
 | .call { callee:=.builtin .len,.. }=>true
 | _=>false
def LL:Op->Bool
 | .load _ _ | .lookup _ _ _ _ | .call _ | .slice _ _ _ _ _=>true
 | _=>false
theorem E9{P:Program}{f:Fm}{S S':List SO}{op:Op}(hr:m7 op=true){v:SV}{kill:Option Nat}(h:db P f S op=some (v,S',kill)):S'=S/\kill=none:=by
 cases op with
 | move x=>obtain⟨_,_,e⟩:=au h;cases e;exact⟨rfl,rfl⟩
 | assign x=>obtain⟨_,_,e⟩:=au h;cases e;exact⟨rfl,rfl⟩
 | pick c a b=>obtain⟨_,_,e⟩:=au h;cases e;exact⟨rfl,rfl⟩
 | build tt ps=>obtain⟨_,_,h⟩:=bind_eq_some_iff.1 h;obtain⟨_,_,e⟩:=au h;cases e;exact⟨rfl,rfl⟩
 | nilCheck x=>obtain⟨_,_,h⟩:=bind_eq_some_iff.1 h;obtain⟨_,_,e⟩:=au h;cases e;exact⟨rfl,rfl⟩
 | binOp op xt x y yt=>
  obtain⟨_,_,h⟩:=bind_eq_some_iff.1 h;obtain⟨_,_,h⟩:=bind_eq_some_iff.1 h;obtain⟨_,_,h⟩:=bind_eq_some_iff.1 h;obtain⟨_,_,h⟩:=bind_eq_some_iff.1 h;obtain⟨_,_,e⟩:=au h;cases e;exact⟨rfl,rfl⟩
 | unOp op xt x=>
  obtain⟨_,_,h⟩:=bind_eq_some_iff.1 h;obtain⟨_,_,h⟩:=bind_eq_some_iff.1 h;obtain⟨_,_,e⟩:=au h;cases e;exact⟨rfl,rfl⟩
 | convert s d x=>
  obtain⟨_,_,h⟩:=bind_eq_some_iff.1 h;obtain⟨_,_,h⟩:=bind_eq_some_iff.1 h;obtain⟨_,_,e⟩:=au h;cases e;exact⟨rfl,rfl⟩
 | fieldAddr s x fl=>obtain⟨_,_,h⟩:=bind_eq_some_iff.1 h;obtain⟨_,_,e⟩:=au h;cases e;exact⟨rfl,rfl⟩
 | field s x fl=>obtain⟨_,_,h⟩:=bind_eq_some_iff.1 h;obtain⟨_,_,e⟩:=au h;cases e;exact⟨rfl,rfl⟩
 | indexAddr s x i=>
  obtain⟨_,_,h⟩:=bind_eq_some_iff.1 h;obtain⟨_,_,h⟩:=bind_eq_some_iff.1 h;obtain⟨_,_,e⟩:=au h;cases e;exact⟨rfl,rfl⟩
 | index s x i=>
  obtain⟨_,_,h⟩:=bind_eq_some_iff.1 h;obtain⟨_,_,h⟩:=bind_eq_some_iff.1 h;obtain⟨_,_,e⟩:=au h;cases e;exact⟨rfl,rfl⟩
 | extract x i=>
  simp only[db] at h;split at h
  ·obtain⟨_,_,e⟩:=au h;cases e;exact⟨rfl,rfl⟩
  ·cases h
 | makeFunc g first cap=>
  cases g with
  | func g=>obtain⟨_,_,h⟩:=bind_eq_some_iff.1 h;obtain⟨_,_,e⟩:=au h;cases e;exact⟨rfl,rfl⟩
  | method nm=>
   obtain⟨_,_,h⟩:=bind_eq_some_iff.1 h;obtain⟨_,_,h⟩:=bind_eq_some_iff.1 h;obtain⟨_,_,h⟩:=bind_eq_some_iff.1 h;obtain⟨_,_,e⟩:=au h;cases e;exact⟨rfl,rfl⟩
  | _=>simp[m7] at hr
 | load tt a=>obtain⟨_,_,h⟩:=bind_eq_some_iff.1 h;obtain⟨_,_,e⟩:=au h;cases e;exact⟨rfl,rfl⟩
 | lookup tt x k ok=>
  obtain⟨_,_,h⟩:=bind_eq_some_iff.1 h;obtain⟨_,_,h⟩:=bind_eq_some_iff.1 h;obtain⟨_,_,e⟩:=au h;cases e;exact⟨rfl,rfl⟩
 | slice tt x lo hi mx=>
  obtain⟨_,_,h⟩:=bind_eq_some_iff.1 h;obtain⟨_,_,h⟩:=bind_eq_some_iff.1 h;obtain⟨_,_,h⟩:=bind_eq_some_iff.1 h;obtain⟨_,_,h⟩:=bind_eq_some_iff.1 h;obtain⟨_,_,e⟩:=au h;cases e;exact⟨rfl,rfl⟩
 | call c=>
  obtain⟨callee,aS,ats⟩:=c
  cases callee with
  | builtin b=>
   cases b with
   | len=>
    obtain⟨_,_,h⟩:=bind_eq_some_iff.1 h;rename_i vs _
    cases hats:ats.toList with
    | nil=>rw[hats] at h;cases h
    | cons tt l=>
     rw[hats] at h
     cases vs with
     | nil=>cases h
     | cons x l'=>
      have h:(oS P S tt x).map (λ(n:Nat)=>((SV.a (.int .i64 (n:Int)),S,none):SV×List SO×Option Nat))=some (v,S',kill):=h;obtain⟨_,_,e⟩:=au h;cases e;exact⟨rfl,rfl⟩
   | _=>simp[m7] at hr
  | _=>simp[m7] at hr
 | _=>simp[m7] at hr
section
variable {θ:Nat->Loc} {ρ ρ0:jP} {P:Program}
mutual
theorem D0:∀{r:SV} {v:AV},cH r=some v->VS θ ρ r v
 | .a w,v,h=>by rw[cH] at h;cases h;rw[VS]
 | .ag cs,v,h=>by rw[cH] at h;obtain⟨aS,h1,rfl⟩:=au h;rw[VS];exact⟨aS,rfl,xn h1⟩
 | .any,_,h=>by simp[cH] at h
 | .sl _ _ _,_,h=>by simp[cH] at h
 | .im _ _,_,h=>by simp[cH] at h
 | .ip _,_,h=>by simp[cH] at h
 | .ptr _ _,_,h=>by simp[cH] at h
 | .map _,_,h=>by simp[cH] at h
 | .buf _ _ _ _,_,h=>by simp[cH] at h
 | .sub _ _ _ _ _,_,h=>by simp[cH] at h
 | .e0 _,_,h=>by simp[cH] at h
 | .bI _,_,h=>by simp[cH] at h
 | .fn _ _ _,_,h=>by simp[cH] at h
 | .iface t w,v,h=>by rw[cH] at h;obtain⟨a,h1,rfl⟩:=au h;rw[VS];exact⟨a,rfl,D0 h1⟩
theorem xn:∀{rs:List SV} {vs:List AV},jL rs=some vs->c8 θ ρ rs vs
 | [],vs,h=>by rw[jL] at h;cases h;rw[bg]
 | d::ds,vs,h=>by
  rw[jL] at h;obtain⟨a,ha,h⟩:=bind_eq_some_iff.1 h;obtain⟨b,hb,rfl⟩:=au h;rw[aL];exact⟨a,b,rfl,D0 ha,xn hb⟩
end
end
end
end Go.Ev
