/- A part of the texts of this claim: every theorem says what it proves, with its conditions. -/
import Derived.Test.YtnaiockballhaaaGreatA23
import Derived.Test.YtnaiockballhaaaGreatA22
import Derived.Test.YtnaiockballhaaaGreatA18
import Derived.Test.YtnaiockballhaaaGreatA17
import Derived.Test.YtnaiockballhaaaGreatA16
set_option linter.unusedSimpArgs false
set_option linter.unusedVariables false
set_option linter.unusedSectionVars false
open Nat (ble reduceAdd reduceEqDiff reduceLT reduceLeDiff reduceMul mul_one zero_le blt)
open Option (map_some bind_some)
open List (range mem_iff_getElem? getElem?_map drop_length length_set)
namespace Go.Proofs
open Go.Ev
set_option maxRecDepth 100000
set_option maxHeartbeats 4000000 in
theorem KG(s:List Nat)(b:Nat)(hb:b<256):PC Tryz.prog 199 [ak s,JH b] (·=aa (fD b s 0)):=
 PC.of (xs:=[.str s,.int .u8 (b:Int)]) (λh=>dT.P6 Ga (by
  show cond (blt b 256) (some (AV.int .i64 (fD b s 0),h)) none=_
  rw[show blt b 256=true from JE hb];rfl)) λρ avs ha=>by
  rw[dZ] at ha;obtain⟨a,r,rfl,h1,ha⟩:=ha;rw[dZ] at ha;obtain⟨a2,r,rfl,h2,ha⟩:=ha;rw[GS] at h1 h2;rw[fX] at ha;rw[h1,h2,ha]
theorem KF(s:List Nat)(b:Nat)(hb:b<256):PC Tryz.prog 181 [ak s,JH b] (·=aa (fD b s 0)):=by
 refine pB 8 Tryz.func181 ?_;refine ki ?_;refine zK (KG s b hb) ?_;refine zR ?_;refine zE ?_;exact zO [.tmp 4]
theorem Bk(s:List Nat)(b:Nat)(hb:b<256):PC Tryz.prog 137 [ak s,JH b] (·=aa (fD b s 0)):=by
 refine pB 8 Tryz.func137 ?_;refine ki ?_;refine zK (KF s b hb) ?_;refine zR ?_;refine zE ?_;exact zO [.tmp 4]
def wX(b:Nat):Nat:=bif cZ b then 3 else bif ble 48 b&&ble b 57 then 4 else bif decide (0<=fD b [32,9,10] 0) then 1 else bif decide (0<=fD b [59,44,46,58,40,41,123,125,91,93,61,60,62,47,43,45,42] 0) then 6 else 0
def kO(k:Nat):List SV:=(range 256).map λi=>JH (if i<k then wX i else 0)
def Ig:List SV:=(range 256).map λ_=>JH 0
theorem sV(k:Nat):(kO k).length=256:=by simp[kO]
theorem Pv{k:Nat}(hk:k<256):(kO k).take k++(JH (wX k)::(kO k).drop (k+1))=kO (k+1):=by
 have h:(kO k).set k (JH (wX k))=kO (k+1):=by
  apply List.ext_getElem?;intro i;by_cases hik:k=i
  ·subst hik;rw[List.getElem?_set_self (by rw[sV];exact hk)];unfold kO;rw[getElem?_map,List.getElem?_range hk];simp
  ·rw[List.getElem?_set_ne hik];unfold kO;rw[getElem?_map,getElem?_map]
   cases hr:(range 256)[i]? with
   | none=>rfl
   | some j=>
    have hj:j=i:=by
     obtain⟨h1,h2⟩:=List.getElem?_eq_some_iff.1 hr;simpa using h2.symm
    subst hj;simp only[map_some];by_cases h:j<k
    ·rw[if_pos h,if_pos (by omega)]
    ·rw[if_neg h,if_neg (by omega)]
 rw[<-h,List.set_eq_take_append_cons_drop,if_pos (by rw[sV];exact hk)]
theorem Pu{k:Nat}(hk:k<256)(h:wX k=0):kO (k+1)=kO k:=by
 unfold kO;refine List.map_congr_left λi _=>?_;by_cases hik:i<k
 ·rw[if_pos hik,if_pos (by omega)]
 ·rw[if_neg hik];by_cases he:i=k
  ·subst he;rw[if_pos (by omega),h]
  ·rw[if_neg (by omega)]
theorem Nu{k:Nat}(hk:k<256):lO Tryz.prog 3 5 (.int .i64 (k:Int))=some (.int .u8 (k:Int)):=by
 have h1:lO Tryz.prog 3 5 (.int .i64 (k:Int))=some (.int .u8 (dH .u8 (k:Int))):=by kernel_rfl
 rw[h1]
 congr 2
 have h2:(qP 0 (k:Int)&&qP (k:Int) 255)=true:=by rw[eE,eE];simp;omega
 simp only[dH,LX,LJ,h2,ah]
set_option maxHeartbeats 4000000 in
theorem zo:PC Tryz.prog 98 [] (·=.ag (GA.map SV.a)):=by
 refine pB 50 Tryz.func98 ?_;refine kQ ?_;refine zV ?_;have hl:(range 256).length=256:=List.length_range
 have hlen:(range 256).length<=1000000:=by rw[hl];decide
 refine ai.fg (st':=⟨[(0,.ptr 0 0),(1,.ptr 1 0),(4,aa 0)],50,[.cells Ig,.cells (kO 0)],[]⟩) (by exact zH) ?_
 (try change ai _ _ _ _ _)
 refine zs ?_;refine zL (range 256) (λk=>True) (λk=>[(0,.ptr 0 0),(1,.ptr 1 0),(4,aa k)]) (λk=>[.cells Ig,.cells (kO k)]) zH zp ?_;intro k hk hall;by_cases hlt:k<(range 256).length
 ·have hk6:k<256:=by rw[<-hl];exact hlt
  have hk7:k+1<=256:=hk6;have e1:decide ((97:Int)<=(k:Int))=ble 97 k:=iK 97 k;have e2:decide ((k:Int)<=122)=ble k 122:=iK k 122;have e3:decide ((65:Int)<=(k:Int))=ble 65 k:=iK 65 k;have e4:decide ((k:Int)<=90)=ble k 90:=iK k 90;have e5:decide ((48:Int)<=(k:Int))=ble 48 k:=iK 48 k;have e6:decide ((k:Int)<=57)=ble k 57:=iK k 57;have hset:=Pv hk6;have hrl:=sV k;refine aE (show decide ((k:Int)<256)=true by simp only[decide_eq_true_eq];omega) ?_;refine zY ?_
  (repeat refine ai.seq ?_)
  refine ai.block ?_;refine zV ?_;refine aE (Nu hk6) ?_
  (repeat refine ai.seq ?_)
  refine ai.block ?_;refine ai.seq ?_;refine ai.mono (Q:=λex st=>ex=.normal/\Fg st ⟨[(0,.ptr 0 0),(1,.ptr 1 0),(2,aa k),(3,JH k),(4,aa k),(9,aA (cZ k))],50,[.cells Ig,.cells (kO k)],[]⟩) ?_ ?_
  ·unfold cZ;cases h1:ble 97 k<;>cases h2:ble k 122<;>cases h3:ble 65 k<;>cases h4:ble k 90
   all_goals
    rw[h1] at e1;rw[h2] at e2;rw[h3] at e3;rw[h4] at e4;refine aE (n2 e1 e2) ?_
    first
     | (
      refine zN ?_;refine aE (n2 e3 e4) ?_
      exact⟨rfl,zH⟩)
     | (
      refine zY ?_
      exact⟨rfl,zH⟩)
  rintro ex st ⟨rfl,hf⟩;refine ai.fg hf ?_;clear hf
  (try change ai _ _ _ _ _)
  cases hL:cZ k;rotate_left
  ·have hc:wX k=3:=by unfold wX;rw[hL];rfl
   rw[hc] at hset;change (kO k).take k++(SV.a (.int .u8 3)::(kO k).drop (k+1))=_ at hset;refine zY ?_;refine aE (n5 hk6 hk7 hrl @mul_one hset) ?_;refine aE (zi hlt hlen) ?_;refine zX hlt zH trivial
  have c0:wX k=bif ble 48 k&&ble k 57 then 4 else bif decide (0<=fD k [32,9,10] 0) then 1 else bif decide (0<=fD k [59,44,46,58,40,41,123,125,91,93,61,60,62,47,43,45,42] 0) then 6 else 0:=by unfold wX;rw[hL];rfl
  clear hL e1 e2 e3 e4;refine zN ?_
  (repeat refine ai.seq ?_)
  refine ai.mono (Q:=λex st=>ex=.normal/\Fg st ⟨[(0,.ptr 0 0),(1,.ptr 1 0),(2,aa k),(3,JH k),(4,aa k),(24,aA (ble 48 k&&ble k 57))],50,[.cells Ig,.cells (kO k)],[]⟩) ?_ ?_
  ·cases h5:ble 48 k<;>cases h6:ble k 57
   all_goals
    rw[h5] at e5;rw[h6] at e6;refine aE (n2 e5 e6) ?_;exact⟨rfl,zH⟩
  rintro ex st ⟨rfl,hf⟩;refine ai.fg hf ?_;clear hf e5 e6
  (try change ai _ _ _ _ _)
  cases hD:ble 48 k&&ble k 57;rotate_left
  ·rw[hD] at c0;rw[show wX k=4 from c0] at hset;change (kO k).take k++(SV.a (.int .u8 4)::(kO k).drop (k+1))=_ at hset;refine zY ?_;refine aE (n5 hk6 hk7 hrl @mul_one hset) ?_;refine aE (zi hlt hlen) ?_;refine zX hlt zH trivial
  rw[hD] at c0;refine M9 ?_;refine zK (Bk [32,9,10] k hk6) ?_;refine zR ?_;cases hB:decide (0<=fD k [32,9,10] 0);rotate_left
  ·rw[hB] at c0;rw[show wX k=1 from c0] at hset;change (kO k).take k++(SV.a (.int .u8 1)::(kO k).drop (k+1))=_ at hset;refine zY ?_;refine aE (n5 hk6 hk7 hrl @mul_one hset) ?_;refine aE (zi hlt hlen) ?_;refine zX hlt zH trivial
  rw[hB] at c0;refine M9 ?_;refine zK (Bk [59,44,46,58,40,41,123,125,91,93,61,60,62,47,43,45,42] k hk6) ?_;refine zR ?_;cases hS:decide (0<=fD k [59,44,46,58,40,41,123,125,91,93,61,60,62,47,43,45,42] 0);rotate_left
  ·rw[hS] at c0;rw[show wX k=6 from c0] at hset;change (kO k).take k++(SV.a (.int .u8 6)::(kO k).drop (k+1))=_ at hset;refine zY ?_;refine aE (n5 hk6 hk7 hrl @mul_one hset) ?_;refine aE (zi hlt hlen) ?_;refine zX hlt zH trivial
  rw[hS] at c0;have hs0:=Pu hk6 c0;refine zN ?_
  (try (refine ai.skip ?_))
  refine aE (zi hlt hlen) ?_;refine zX hlt (cI hs0) trivial
 ·obtain rfl:k=256:=by omega
  refine aE (show decide (((256:Nat):Int)<256)=false from rfl) ?_;refine zN ?_;refine ai.exit ?_
  have set_at:∀{l:List SV} {i:Nat} (v:SV),i<l.length->l.take i++(v::l.drop (i+1))=l.set i v:=λv h=>by rw[List.set_eq_take_append_cons_drop,if_pos h]
  have hfin:(((kO 256).set 35 (.a (.int .u8 2))).set 95 (.a (.int .u8 5))).set 34 (.a (.int .u8 7))=GA.map SV.a:=by kernel_rfl
  have l0:=sV 256
  have hz0:Ig.length=256:=by simp[Ig]
  generalize kO 256=R at hfin l0 ⊢;have s1:=set_at (l:=R) (i:=35) (.a (.int .u8 2)) (by omega)
  have l1:(R.set 35 (.a (.int .u8 2))).length=256:=by rw[length_set];exact l0
  generalize R.set 35 (.a (.int .u8 2))=R1 at hfin s1 l1;have s2:=set_at (l:=R1) (i:=95) (.a (.int .u8 5)) (by omega)
  have l2:(R1.set 95 (.a (.int .u8 5))).length=256:=by rw[length_set];exact l1
  generalize R1.set 95 (.a (.int .u8 5))=R2 at hfin s2 l2;have s3:=set_at (l:=R2) (i:=34) (.a (.int .u8 7)) (by omega)
  have l3:(R2.set 34 (.a (.int .u8 7))).length=256:=by rw[length_set];exact l2
  generalize R2.set 34 (.a (.int .u8 7))=R3 at hfin s3 l3;have t3:R3.take 256=R3:=List.take_of_length_le (by omega);have d0:Ig.drop 256=[]:=List.drop_of_length_le (by omega);refine aE (n10 (show c9 (.int .i64 35)=some 35 from rfl) (show c9 (.int .i64 95)=some 95 from rfl) (show c9 (.int .i64 34)=some 34 from rfl) l0 l1 l2 @mul_one s1 s2 s3) ?_
  have ho:R3.all dU=true:=by rw[hfin];kernel_rfl
  refine aE (n9 l3 t3 ho hz0 d0 @List.append_nil.{0} @List.take_zero.{0} @List.nil_append.{0} @Nat.le_refl) ?_;subst hfin;refine zE ?_;exact zO [.cell 0 178] (h:=gY (n2 l3 t3))
theorem drop_cons{α:Type}{l:List α}{k:Nat}{x:α}(h:l[k]?=some x):l.drop k=x::l.drop (k+1):=by
 obtain⟨hlt,he⟩:=List.getElem?_eq_some_iff.1 h;rw[List.drop_eq_getElem_cons hlt,he]
theorem z8(s:List Nat)(hs:s.length<=1000000)(hb:∀b∈s,b<256):PC Tryz.prog 51 [ak s] (·=aA (cO s)):=by
 refine pB 39 Tryz.func51 ?_;have hcl:=zo;obtain⟨C,hC⟩:∃C,C=GA.map SV.a:=⟨_,rfl⟩
 have ho:C.all dU=true:=by rw[hC];kernel_rfl
 have hl:C.length=256:=by rw[hC,List.length_map,Li]
 have hg:cr C=true:=by rw[hC];kernel_rfl
 have hfl:Az (.ag C)=true:=by rw[hC];kernel_rfl
 have hCg:∀b,b<256->C[b]?=some (JH (qE b)):=λb h=>by rw[hC,getElem?_map,Lh b h];rfl
 rw[<-hC] at hcl;clear hC;have ht:C.take 256=C:=List.take_of_length_le (by omega);have hnk:=λo:Nat=>du (o:=o) hg;have hkk:=λo:Nat=>bK (o:=o) hg;refine ki ?_;refine zK hcl ?_ (hfl:=.inl hfl);refine aM.r0 (by rfl) (by simp only[bx,aX,an,aw,bind_some,map_some,↓reduceIte,reduceEqDiff,reduceAdd,reduceMul,reduceLeDiff,reduceLT,ah,ao,aP,hl,ho,ht,hkk,hnk,List.length_map,List.length_replicate,List.drop_of_length_le,List.append_nil,Nat.le_refl];first | done | rfl) ?_;refine ai.fg (Fg.freeze (f':=[(0,ak s),(3,.ip C)]) 0 rfl (λh=>by cases h) ⟨.inl rfl,.inr (.ptr rfl (bn.refl hg) (zero_le _)),trivial⟩) ?_;refine ai.fg (st':=⟨[(0,ak s),(3,.ip C)],39,[],[]⟩) zH ?_
 (try change ai _ _ _ _ _)
 refine zV ?_;refine zs ?_;refine zL s (λk=>((∀(i b:Nat),i<k->s[i]?=some b->fZ b=true)/\(0<k->∀b,s[0]?=some b->cZ b=true))) (λk=>[(0,ak s),(3,.ip C),(8,aa s.length),(9,aa k)]) (λk=>[]) zH (by exact⟨λi b h=>absurd h (Nat.not_lt_zero _),λh=>absurd h (Nat.not_lt_zero _)⟩) ?_;intro k hk hall;refine zV ?_;by_cases hlt:k<s.length;rotate_left;obtain rfl:k=s.length:=(by omega);rw[zf];rotate_left;rw[zt hlt];obtain⟨b,hx⟩:=zx hlt;rotate_left
 ·refine zN ?_;refine ai.exit ?_
  cases hs0:s with
  | nil=>
   refine aE (show decide (([]:List Nat)=[])=true from rfl) ?_;refine zE ?_;exact zO [.tmp 2]
  | cons b l=>
   have h0:s[0]?=some b:=by rw[hs0];rfl
   have hlt0:0<s.length:=by rw[hs0];exact Nat.zero_lt_succ _
   have hn:=Es s (λi b' hb'=>hall.1 i b' (List.getElem?_eq_some_iff.1 hb').1 hb') b h0;rw[hall.2 hlt0 b h0,Bool.and_true,hs0] at hn;have c2:decide ((b::l)=[])=false:=rfl;cases c3:decide (((b::l).length:Int)<=24)
   ·have e24:decide ((b::l).length<=24)=false:=by have:=of_decide_eq_false c3;simp only[decide_eq_false_iff_not];omega
    refine aE (n2 c2 c3) ?_;refine zE ?_;exact zO [.tmp 2] (hq:=by (try simp only[aC,ab]);first | done | (rw[hn,e24]))
   ·have e24:decide ((b::l).length<=24)=true:=by have:=of_decide_eq_true c3;simp only[decide_eq_true_eq];omega
    refine aE (n2 c2 c3) ?_;refine zE ?_;exact zO [.tmp 2] (hq:=by (try simp only[aC,ab]);first | done | (rw[hn,e24]))
 have hb6:=hb b (List.mem_of_getElem? hx);obtain⟨sp1,sp2⟩:=Lj b hb6;have hdr:=drop_cons (hCg b hb6)
 have hbl:b<=C.length:=by omega
 have q3:decide ((qE b:Int)=3)=cZ b:=by rw[<-sp1];simp only[decide_eq_decide];omega
 have q4:decide ((qE b:Int)=4)=decide (qE b=4):=by simp only[decide_eq_decide];omega
 have q5:decide ((qE b:Int)=5)=decide (qE b=5):=by simp only[decide_eq_decide];omega
 rw[sp1] at sp2;refine zY ?_
 (repeat refine ai.seq ?_)
 refine ai.block ?_;refine zV ?_;refine aE (n6 hx (show c9 (.int .u8 (Int.ofNat b))=some b from rfl) @mul_one hb6 hbl hdr) ?_;refine ai.fg (st':=⟨[(0,ak s),(3,.ip C),(4,aa k),(5,.a (.int .u8 (qE b:Int))),(8,aa s.length),(9,aa k)],39,[],[]⟩) zH ?_
 (try change ai _ _ _ _ _)
 generalize (qE b:Int)=cb at q3 q4 q5 ⊢;generalize decide (qE b=4)=c4 at sp2 q4;generalize decide (qE b=5)=c5 at sp2 q5
 have m3:cM Tryz.prog .neq 5 (.int .u8 cb) (.int .u8 3)=some (.bool (!cZ b)):=by rw[<-q3];exact nU rfl
 have m4:cM Tryz.prog .neq 5 (.int .u8 cb) (.int .u8 4)=some (.bool (!c4)):=by rw[<-q4];exact nU rfl
 have m5:cM Tryz.prog .neq 5 (.int .u8 cb) (.int .u8 5)=some (.bool (!c5)):=by rw[<-q5];exact nU rfl
 clear q3 q4 q5
 have hmore:fZ b=true->∀(i b':Nat),i<k+1->s[i]?=some b'->fZ b'=true:=λhm i b' hi hb'=>by
  by_cases e:i=k
  ·subst e;rw[hx] at hb';cases hb';exact hm
  ·exact hall.1 i b' (by omega) hb'
 have hfirst:(k=0->cZ b=true)->0<k+1->∀b',s[0]?=some b'->cZ b'=true:=λh _ b' hb'=>by
  by_cases hk0:k=0
  ·subst hk0;rw[hx] at hb';cases hb';exact h rfl
  ·exact hall.2 (by omega) b' hb'
 cases hL:cZ b;rotate_left
 ·rw[hL] at m3 sp2;refine aE m3 ?_;refine zN ?_;refine aE (zi hlt hs) ?_;refine zX hlt zH (⟨hmore sp2.symm,hfirst λ_=>hL⟩)
 rw[hL] at m3 sp2;by_cases hk0:k=0
 ·have hn:cO s=false:=NW s b (by rw[<-hk0];exact hx) hL;refine aE (n2 m3 (show decide ((k:Int)=0)=true by simp only[decide_eq_true_eq];omega)) ?_;refine cE ?_;refine zE ?_;exact zO [.tmp 2] (hq:=by (try simp only[aC,ab]);first | done | (rw[hn]))
 have k0:=show decide ((k:Int)=0)=false by simp only[decide_eq_false_iff_not];omega
 have hbad:fZ b=false->cO s=false:=λhm=>by
  cases hc:cO s
  ·rfl
  ·rw[A0 s hc k b hx] at hm;cases hm
 cases c4
 ·cases c5
  ·have hn:=hbad sp2.symm;refine aE (n4 m3 m4 m5 k0) ?_;refine cE ?_;refine zE ?_;exact zO [.tmp 2] (hq:=by (try simp only[aC,ab]);first | done | (rw[hn]))
  ·refine aE (n4 m3 m4 m5 k0) ?_;refine zN ?_;refine aE (zi hlt hs) ?_;refine zX hlt zH (⟨hmore sp2.symm,hfirst λh=>absurd h hk0⟩)
 ·refine aE (n3 m3 m4 k0) ?_;refine zN ?_;refine aE (zi hlt hs) ?_;refine zX hlt zH (⟨hmore sp2.symm,hfirst λh=>absurd h hk0⟩)
structure ku where
 name:List Nat
 kinds:List (List Nat)
 normal:Int
structure aU where
 name:List Nat
 fN:Bool
 bJ:List ku
def bH(s:ku):List SV:=[ak s.name,an 1 s.kinds (az ak),aa s.normal]
def aq(k:aU):List SV:=[ak k.name,aA k.fN,an 3 k.bJ bH]
theorem CL{l:List (aU)}(p:aU->Bool){fid:FuncId}{first cap:List SV}(hlen:l.length<=1000000)(hp:∀x∈l,PC Tryz.prog fid ((first++[.ag (aq x)])++cap) (·=aA (p x)))(hg:cr first=true/\cr cap=true):PC Tryz.prog 160 [an 3 l aq,.fn fid first cap] (·=aa (jf p l)):=by
 refine pB 19 Tryz.func160 ?_;refine aE @an.eq_1 ?_;refine zV ?_;refine zs ?_;refine zL l (λk=>∀(i:Nat) y,i<k->l[i]?=some y->p y=false) (λk=>[(0,.sl l.length 3 (l.flatMap aq)),(1,.fn fid first cap),(7,aa l.length),(8,aa k)]) (λk=>[]) zH zp ?_;intro k hk hall;refine zV ?_;by_cases hlt:k<l.length;rotate_left;obtain rfl:k=l.length:=(by omega);rw[zf];rotate_left;rw[zt hlt];obtain⟨x,hx⟩:=zx hlt;rotate_left
 ·refine zN ?_;refine ai.exit ?_;refine zV ?_;refine zE ?_;exact zO [.tmp 4] (hq:=by (try simp only[aC,ab]);first | done | (rw[iW hall]))
 ·refine zY ?_
  (repeat refine ai.seq ?_)
  refine ai.block ?_;refine zV ?_;refine gl (n3 hlt (aH (e:=3) (enc:=aq) (λ_=>rfl) hx) @aq.eq_1) ?_;refine zK (hp x (mem_iff_getElem?.2 ⟨k,hx⟩)) ?_ (hwk:=((bn.refl hg.1).app (bn.refl rfl)).app (bn.refl hg.2));refine aM.nil ?_;change ai _ _ _ _ _;cases hpx:p x
  ·refine zN ?_;refine aE (zi hlt hlen) ?_;refine zX hlt zH ?_;intro i y hi hy;by_cases hik:i=k
   ·subst hik;rw[hx] at hy;cases hy;exact hpx
   ·exact hall i y (by omega) hy
  ·refine cE ?_;refine zE ?_;exact zO [.tmp 4] (hq:=by (try simp only[aC,ab]);first | done | (rw[mG hx hpx hall]))
theorem CN{l:List (ku)}(p:ku->Bool){fid:FuncId}{first cap:List SV}(hlen:l.length<=1000000)(hp:∀x∈l,PC Tryz.prog fid ((first++[.ag (bH x)])++cap) (·=aA (p x)))(hg:cr first=true/\cr cap=true):PC Tryz.prog 187 [an 3 l bH,.fn fid first cap] (·=aa (jf p l)):=by
 refine pB 19 Tryz.func187 ?_;refine aE @an.eq_1 ?_;refine zV ?_;refine zs ?_;refine zL l (λk=>∀(i:Nat) y,i<k->l[i]?=some y->p y=false) (λk=>[(0,.sl l.length 3 (l.flatMap bH)),(1,.fn fid first cap),(7,aa l.length),(8,aa k)]) (λk=>[]) zH zp ?_;intro k hk hall;refine zV ?_;by_cases hlt:k<l.length;rotate_left;obtain rfl:k=l.length:=(by omega);rw[zf];rotate_left;rw[zt hlt];obtain⟨x,hx⟩:=zx hlt;rotate_left
 ·refine zN ?_;refine ai.exit ?_;refine zV ?_;refine zE ?_;exact zO [.tmp 4] (hq:=by (try simp only[aC,ab]);first | done | (rw[iW hall]))
 ·refine zY ?_
  (repeat refine ai.seq ?_)
  refine ai.block ?_;refine zV ?_;refine gl (n3 hlt (aH (e:=3) (enc:=bH) (λ_=>rfl) hx) @bH.eq_1) ?_;refine zK (hp x (mem_iff_getElem?.2 ⟨k,hx⟩)) ?_ (hwk:=((bn.refl hg.1).app (bn.refl rfl)).app (bn.refl hg.2));refine aM.nil ?_;change ai _ _ _ _ _;cases hpx:p x
  ·refine zN ?_;refine aE (zi hlt hlen) ?_;refine zX hlt zH ?_;intro i y hi hy;by_cases hik:i=k
   ·subst hik;rw[hx] at hy;cases hy;exact hpx
   ·exact hall i y (by omega) hy
  ·refine cE ?_;refine zE ?_;exact zO [.tmp 4] (hq:=by (try simp only[aC,ab]);first | done | (rw[mG hx hpx hall]))
theorem FC{l:List (List Nat)}(p:List Nat->Bool){fid:FuncId}{first cap:List SV}(hlen:l.length<=1000000)(hp:∀x∈l,PC Tryz.prog fid ((first++[ak x])++cap) (·=aA (p x)))(hg:cr first=true/\cr cap=true):PC Tryz.prog 138 [an 1 l (az ak),.fn fid first cap] (·=aa (jf p l)):=by
 refine pB 19 Tryz.func138 ?_;refine aE @an.eq_1 ?_;refine zV ?_;refine zs ?_;refine zL l (λk=>∀(i:Nat) y,i<k->l[i]?=some y->p y=false) (λk=>[(0,.sl l.length 1 (l.flatMap (az ak))),(1,.fn fid first cap),(7,aa l.length),(8,aa k)]) (λk=>[]) zH zp ?_;intro k hk hall;refine zV ?_;by_cases hlt:k<l.length;rotate_left;obtain rfl:k=l.length:=(by omega);rw[zf];rotate_left;rw[zt hlt];obtain⟨x,hx⟩:=zx hlt;rotate_left
 ·refine zN ?_;refine ai.exit ?_;refine zV ?_;refine zE ?_;exact zO [.tmp 4] (hq:=by (try simp only[aC,ab]);first | done | (rw[iW hall]))
 ·refine zY ?_
  (repeat refine ai.seq ?_)
  refine ai.block ?_;refine zV ?_;refine gl (n3 hlt (aH (e:=1) (enc:=(az ak)) (λ_=>rfl) hx) @az.eq_1) ?_;refine zK (hp x (mem_iff_getElem?.2 ⟨k,hx⟩)) ?_ (hwk:=((bn.refl hg.1).app (bn.refl rfl)).app (bn.refl hg.2));refine aM.nil ?_;change ai _ _ _ _ _;cases hpx:p x
  ·refine zN ?_;refine aE (zi hlt hlen) ?_;refine zX hlt zH ?_;intro i y hi hy;by_cases hik:i=k
   ·subst hik;rw[hx] at hy;cases hy;exact hpx
   ·exact hall i y (by omega) hy
  ·refine cE ?_;refine zE ?_;exact zO [.tmp 4] (hq:=by (try simp only[aC,ab]);first | done | (rw[mG hx hpx hall]))
theorem z7(s:List Nat):PC Tryz.prog 124 [.ag [ak s,.any,.any]] (·=ak s):=by
 refine pB 5 Tryz.func124 ?_;refine kQ ?_;refine zE ?_;exact zO [.tmp 2]
theorem Ab(s:List Nat):PC Tryz.prog 163 [.ag [ak s,.any,.any]] (·=ak s):=by
 refine pB 5 Tryz.func163 ?_;refine kQ ?_;refine zE ?_;exact zO [.tmp 2]
theorem FF(k:aU)(s:List Nat):PC Tryz.prog 161 [.ag (aq k),.ip [.fn 124 [] []],.ip [ak s]] (·=aA (decide (k.name=s))):=by
 refine pB 10 Tryz.func161 ?_;refine aE @aq.eq_1 ?_;refine zs ?_;refine oW [0,0,3,0,15,31] ?_;refine zD ?_;refine SD.k (by rfl) rfl rfl (by rfl) rfl rfl zc (z7 k.name) (.cons (.ag (.cons (.a _) (.cons (.any _) (.cons (.any _) .nil)))) .nil) rfl ?_;refine zD ?_;refine zM ?_;refine zE ?_;exact zO [.tmp 4]
theorem FP(k:ku)(s:List Nat):PC Tryz.prog 188 [.ag (bH k),.ip [.fn 163 [] []],.ip [ak s]] (·=aA (decide (k.name=s))):=by
 refine pB 10 Tryz.func188 ?_;refine aE @bH.eq_1 ?_;refine zs ?_;refine oW [0,0,3,0,15,31] ?_;refine zD ?_;refine SD.k (by rfl) rfl rfl (by rfl) rfl rfl zc (Ab k.name) (.cons (.ag (.cons (.a _) (.cons (.any _) (.cons (.any _) .nil)))) .nil) rfl ?_;refine zD ?_;refine zM ?_;refine zE ?_;exact zO [.tmp 4]
theorem CO(l:List aU)(s:List Nat)(hlen:l.length<=1000000):PC Tryz.prog 123 [an 3 l aq,.fn 124 [] [],ak s] (·=aa (jf (λk=>decide (k.name=s)) l)):=by
 refine pB 10 Tryz.func123 ?_;refine ki ?_;refine zK (CL (λk=>decide (k.name=s)) (first:=[]) (cap:=[.ip [.fn 124 [] []],.ip [ak s]]) hlen (λx _=>FF x s) ⟨rfl,rfl⟩) ?_;refine zR ?_;refine zE ?_;exact zO [.tmp 6]
theorem C4(l:List ku)(s:List Nat)(hlen:l.length<=1000000):PC Tryz.prog 162 [an 3 l bH,.fn 163 [] [],ak s] (·=aa (jf (λk=>decide (k.name=s)) l)):=by
 refine pB 10 Tryz.func162 ?_;refine ki ?_;refine zK (CN (λk=>decide (k.name=s)) (first:=[]) (cap:=[.ip [.fn 163 [] []],.ip [ak s]]) hlen (λx _=>FP x s) ⟨rfl,rfl⟩) ?_;refine zR ?_;refine zE ?_;exact zO [.tmp 6]
theorem sn{α:Type}(p:α->Bool)(l:List α):(jf p l = -1/\l.find? p=none)\/∃(k:Nat) (x:α),jf p l=(k:Int)/\k<l.length/\l[k]?=some x/\l.find? p=some x:=by
 unfold jf
 cases hf:l.findIdx? p with
 | none=>
  rw[List.findIdx?_eq_none_iff] at hf;exact .inl ⟨rfl,by rw[List.find?_eq_none];intro x hx;rw[hf x hx];decide⟩
 | some k=>
  obtain⟨hlt,h1,h2⟩:=List.findIdx?_eq_some_iff_getElem.1 hf;refine .inr ⟨k,l[k],rfl,hlt,List.getElem?_eq_getElem hlt,?_⟩;rw[List.find?_eq_some_iff_getElem];exact⟨h1,k,hlt,rfl,λj hj=>by simpa using h2 j hj⟩
def aU.zero:aU:=⟨[],false,[]⟩
def ku.zero:ku:=⟨[],[],0⟩
def eD(l:List aU)(s:List Nat):Option aU:=l.find? λk=>decide (k.name=s)
def q7(l:List ku)(s:List Nat):Option ku:=l.find? λk=>decide (k.name=s)
def nG{α:Type}(enc:α->List SV)(z:α):Option α->SV
 | some x=>.bI [.ag (enc x),aA true]
 | none=>.bI [.ag (enc z),aA false]
theorem mi(l:List aU)(s:List Nat)(hlen:l.length<=1000000):PC Tryz.prog 83 [.ag [an 3 l aq],ak s] (·=nG aq aU.zero (eD l s)):=by
 refine pB 19 Tryz.func83 ?_;refine ki ?_;refine zK (CO l s hlen) ?_;refine zR ?_
 rcases sn (λk:aU=>decide (k.name=s)) l with⟨h1,h2⟩ | ⟨k,x,h1,hlt,hx,h2⟩
 ·rw[h1];refine wy ?_;refine zV ?_;refine zE ?_;exact tH.of (rs:=[.cell 4 70,.tmp 5]) (r:=.bI [.ag [ak [],aA false,.sl 0 3 []],aA false]) rfl rfl zl zv (by (try simp only[aC,ab]);first | done | (unfold eD;rw[h2];rfl))
 ·rw[h1];refine aE (show decide ((k:Int)<0)=false by simp) ?_;refine zN ?_;refine aE (n3 hlt (aH (e:=3) (enc:=aq) (λ_=>rfl) hx) @aq.eq_1) ?_;refine zE ?_;exact zO [.cell 4 70,.tmp 5] (hq:=by (try simp only[aC,ab]);first | done | (unfold eD;rw[h2];rfl))
theorem HZ(l:List aU)(kind name:List Nat)(hlen:l.length<=1000000)(hs:∀k∈l,k.bJ.length<=1000000):PC Tryz.prog 126 [.ag [an 3 l aq],ak kind,ak name] (·=nG bH ku.zero ((eD l kind).bind λk=>q7 k.bJ name)):=by
 refine pB 29 Tryz.func126 ?_
 obtain⟨q,b,h1,h2,h3⟩:∃(q:aU) (b:Bool),nG aq aU.zero (eD l kind)=.bI [.ag (aq q),aA b]/\q.bJ.length<=1000000/\((eD l kind).bind λk=>q7 k.bJ name)=q7 q.bJ name:=by
  cases hf:eD l kind with
  | none=>exact⟨aU.zero,false,rfl,zero_le _,rfl⟩
  | some q=>exact⟨q,true,rfl,hs q (List.mem_of_find?_eq_some hf),rfl⟩
 rw[h3];have hF:=mi l kind hlen;rw[h1] at hF;refine ki ?_;refine zK hF ?_ (hfl:=.inr (bn.refl rfl));refine cS @aq.eq_1 ?_;refine zC ?_;refine zK (C4 q.bJ name h2) ?_;refine zR ?_
 rcases sn (λk:ku=>decide (k.name=name)) q.bJ with⟨g1,g2⟩ | ⟨k,x,g1,hlt,hx,g2⟩
 ·rw[g1];refine wy ?_;refine zV ?_;refine zE ?_;exact tH.of (rs:=[.cell 6 67,.tmp 7]) (r:=.bI [.ag [ak [],.sl 0 1 [],aa 0],aA false]) rfl rfl zl zv (by (try simp only[aC,ab]);first | done | (unfold q7;rw[g2];rfl))
 ·rw[g1];refine aE (show decide ((k:Int)<0)=false by simp) ?_;refine zN ?_;refine aE (n3 hlt (aH (e:=3) (enc:=bH) (λ_=>rfl) hx) @bH.eq_1) ?_;refine zE ?_;exact zO [.cell 6 67,.tmp 7] (hq:=by (try simp only[aC,ab]);first | done | (unfold q7;rw[g2];rfl))
theorem zT(l:List (List Nat))(s:List Nat)(hlen:l.length<=1000000):PC Tryz.prog 93 [an 1 l (az ak),ak s] (·=aa (jf (λx=>decide (s=x)) l)):=by
 refine pB 19 Tryz.func93 ?_;refine kQ ?_;refine zs ?_;refine zL l (λk=>∀(i:Nat) y,i<k->l[i]?=some y->decide (s=y)=false) (λk=>[(0,.sl l.length 1 (l.flatMap (az ak))),(1,ak s),(7,aa l.length),(8,aa k)]) (λk=>[]) zH zp ?_;intro k hk hall;refine zV ?_;by_cases hlt:k<l.length;rotate_left;obtain rfl:k=l.length:=(by omega);rw[zf];rotate_left;rw[zt hlt];obtain⟨x,hx⟩:=zx hlt;rotate_left
 ·refine zN ?_;refine ai.exit ?_;refine zV ?_;refine zE ?_;exact zO [.tmp 4] (hq:=by (try simp only[aC,ab]);first | done | (rw[iW hall]))
 ·refine zY ?_
  (repeat refine ai.seq ?_)
  refine ai.block ?_;refine zV ?_;refine aE (n3 hlt (aH (e:=1) (enc:=az ak) (λ_=>rfl) hx) @az.eq_1) ?_;cases hpx:decide (s=x)
  ·refine zN ?_;refine aE (zi hlt hlen) ?_;refine zX hlt zH ?_;intro i y hi hy;by_cases hik:i=k
   ·subst hik;rw[hx] at hy;cases hy;exact hpx
   ·exact hall i y (by omega) hy
  ·refine cE ?_;refine zE ?_;exact zO [.tmp 4] (hq:=by (try simp only[aC,ab]);first | done | (rw[mG hx hpx hall]))
theorem BY{l:List (List Nat)}{s:List Nat}:decide (0<=jf (λx=>decide (s=x)) l)=l.contains s:=by
 rcases sn (λx=>decide (s=x)) l with⟨g1,g2⟩ | ⟨k,x,g1,hlt,hx,g2⟩
 ·rw[g1];rw[List.find?_eq_none] at g2
  have:s∉l:=λhm=>by simpa using g2 s hm
  simp[this]
 ·rw[g1];have h:=List.find?_some g2;have hm:=List.mem_of_find?_eq_some g2;simp only[decide_eq_true_eq] at h;subst h;simp[hm]
theorem kg(l:List (List Nat))(s:List Nat)(hlen:l.length<=1000000):PC Tryz.prog 43 [an 1 l (az ak),ak s] (·=aA (l.contains s)):=by
 refine pB 9 Tryz.func43 ?_;refine ki ?_;refine zK (zT l s hlen) ?_;refine zR ?_;refine zE ?_;exact zO [.tmp 4] (hq:=by (try simp only[aC,ab]);first | done | (rw[BY]))
def uK(l:List aU)(kind name other:List Nat):Bool:=match (eD l kind).bind λk=>q7 k.bJ name with
 | some s=>s.kinds.contains other
 | none=>false
theorem vB(l:List aU)(kind name other:List Nat)(hlen:l.length<=1000000)(hs:∀k∈l,k.bJ.length<=1000000/\∀s∈k.bJ,s.kinds.length<=1000000):PC Tryz.prog 86 [.ag [an 3 l aq],ak kind,ak name,ak other] (·=aA (uK l kind name other)):=by
 refine pB 25 Tryz.func86 ?_;have hF:=HZ l kind name hlen λk hk=>(hs k hk).1;refine ki ?_;unfold Proofs.uK
 cases hf:(eD l kind).bind λk=>q7 k.bJ name with
 | none=>
  rw[hf] at hF;refine zK hF ?_ (hfl:=.inr (bn.refl rfl));refine cS (n3 @nG.eq_1 @bH.eq_1 @ku.zero.eq_1) ?_;refine zV ?_;refine zE ?_;exact zO [.tmp 8]
 | some q=>
  have hq:q.kinds.length<=1000000:=by
   obtain⟨k,hk,h2⟩:=Option.bind_eq_some_iff.1 hf;exact(hs k (List.mem_of_find?_eq_some hk)).2 q (List.mem_of_find?_eq_some h2)
  rw[hf] at hF;refine zK hF ?_ (hfl:=.inr (bn.refl rfl));refine cS (n2 @nG.eq_1 @bH.eq_1) ?_;refine zC ?_;refine zK (kg q.kinds other hq) ?_;refine zR ?_;refine zE ?_;exact zO [.tmp 8]
def iV(s:List Nat):Prop:=s.length<=1000000/\∀b∈s,b<256
theorem eV(s:List Nat)(h:iV s):PC Tryz.prog 51 [ak s] (·=aA (cO s)):=z8 s h.1 h.2
theorem fa:wz Tryz.prog 9 AV.str:=LP (by kernel_rfl)
theorem gJ{S:List SO}{o:Nat}{l:List (List Nat×Bool)}(s:List Nat)(ok:Bool)(hS:S[o]?=some (bO AV.str aA l)):eN Tryz.prog S 143 (.map o) (.a (.str s)) ok=some (cond ok (.bI [aA (getM false s l),aA (dh s l)]) (aA (getM false s l))):=
 AU (uv:=aA) (u0:=false) (k:=s) (kt:=9) (et:=4) (z:=.bool false) (by simp only[aw]) fa (by simp only[aw]) rfl hS rfl ok
theorem uP{S:List SO}{o:Nat}{l:List (List Nat×Bool)}(s:List Nat)(u:Bool)(hS:S[o]?=some (bO AV.str aA l)):e7 Tryz.prog S 143 (.map o) (.a (.str s)) (.a (.bool u))=some (S.set o (bO AV.str aA (dk s u l))):=
 EW (uv:=aA) (kt:=9) (et:=4) (by simp only[aw]) fa hS rfl u
def kZ(parts:List (List Nat×Bool)):List (List Nat×Bool)->List (List Nat)->Bool
 | _,[]=>true
 | taken,x::xs=>!(getM false x taken||!getM false x parts)&&kZ parts (dk x true taken) xs
def ie(parts:List (List Nat×Bool)):List (List Nat×Bool)->List ku->Bool
 | _,[]=>true
 | seen,s::ss=>!(getM false s.name seen||(!cO s.name||(decide (s.normal<1)||decide ((s.kinds.length:Int)<s.normal))))&&(kZ parts [] s.kinds&&ie parts (dk s.name true seen) ss)
def gO:List (List Nat×Bool)->List aU->Bool
 | _,[]=>true
 | parts,k::ks=>!(dh k.name parts||(!cO k.name||decide (12<(k.bJ.length:Int))))&&(ie parts [] k.bJ&&gO (dk k.name (!k.fN) parts) ks)
def mX(l:List aU):Bool:=gO [] l&&decide ((l.length:Int)<=60)
structure jJ (l:List aU):Prop where
 len:l.length<=1000000
 kind:∀k∈l,iV k.name/\k.bJ.length<=1000000
 slot:∀k∈l,∀s∈k.bJ,iV s.name/\s.kinds.length<=1000000
theorem eZ{α:Type}{l:List α}{k:Nat}{x:α}(h:l[k]?=some x):l.drop k=x::l.drop (k+1):=by
 obtain⟨hlt,he⟩:=List.getElem?_eq_some_iff.1 h;rw[List.drop_eq_getElem_cons hlt,he]
set_option maxHeartbeats 1000000 in
theorem mU(l:List aU)(hl:jJ l):PC Tryz.prog 33 [.ag [an 3 l aq]] (·=aA (mX l)):=by
 have hlen:=hl.len;refine pB 108 Tryz.func33 ?_;refine kQ ?_;refine zV ?_;refine zs ?_;refine ai.block (ai.loop (λm st=>∃k:Nat,∃parts:List (List Nat×Bool),k<=l.length/\m=l.length-k/\(gO [] l=gO parts (l.drop k))/\st=⟨[(1,.ptr 0 0),(3,.map 1),(16,an 3 l aq),(17,aa l.length),(18,aa k)],108,[.cells [an 3 l aq],bO AV.str aA parts],[]⟩) l.length (Fg.less uR yS) ⟨0,[],zero_le _,rfl,(by rfl),rfl⟩ (by rintro m st ⟨k,_,_,_,_,rfl⟩;rfl) ?_);rintro m st ⟨k,parts,hk,rfl,hall,rfl⟩;refine zs ?_;refine ai.r0 (by rfl) zl ?_;by_cases hlt:k<l.length;rotate_left;obtain rfl:k=l.length:=(by omega);rw[show decide ((l.length:Int)<(l.length:Int))=false by simp];rotate_left;rw[show decide ((k:Int)<(l.length:Int))=true by simp only[decide_eq_true_eq];omega];obtain⟨x,hx⟩:∃zz,l[k]?=some zz:=⟨l[k],List.getElem?_eq_getElem hlt⟩;rotate_left
 ·refine zN ?_;refine ai.exit ?_;refine zV ?_;refine zE ?_;exact zO [.tmp 2] (hq:=by (try simp only[aC,ab]);first | done | (rw[show mX l=decide ((l.length:Int)<=60) from by unfold mX;rw[hall,drop_length];rfl]))
 have no:gO parts (l.drop k)=false->mX l=false:=λh=>by unfold mX;rw[hall,h];rfl
 rw[eZ hx] at no hall;have hgx:=hl.kind x (mem_iff_getElem?.2 ⟨k,hx⟩);have hsx:=hl.slot x (mem_iff_getElem?.2 ⟨k,hx⟩);refine zY ?_
 (repeat refine ai.seq ?_)
 refine ai.block ?_;refine aE (n4 hlt (aH (e:=3) (enc:=aq) (λ_=>rfl) hx) @aq.eq_1 @B2) ?_;refine zs ?_;refine ai.r0 (by rfl) (by simp only[bx,aX,an,aw,bind_some,map_some,↓reduceIte,reduceEqDiff,reduceAdd,reduceMul,reduceLeDiff,reduceLT,ah,ao,aP,gJ (l:=parts)];first | done | rfl) ?_;cases h1:dh x.name parts;rotate_left
 ·refine wy ?_;refine zV ?_;refine zE ?_;exact zO [.tmp 2] (hq:=by (try simp only[aC,ab]);first | done | (rw[no (by simp[gO,h1])]))
 refine zC ?_;refine zK (eV x.name hgx.1) ?_;cases h2:cO x.name
 ·refine zR ?_;refine cE ?_;refine zE ?_;exact zO [.tmp 2] (hq:=by (try simp only[aC,ab]);first | done | (rw[no (by simp[gO,h2])]))
 cases h3:decide (12<(x.bJ.length:Int));rotate_left
 ·refine cS h3 ?_;refine cE ?_;refine zE ?_;exact zO [.tmp 2] (hq:=by (try simp only[aC,ab]);first | done | (rw[no (by simp only[gO,h3,Bool.or_true,Bool.not_true,Bool.false_and])]))
 refine cS h3 ?_;refine zN ?_;refine aE @B2 ?_;refine zV ?_
 have hq2:gO [] l=(ie parts [] x.bJ&&gO (dk x.name (!x.fN) parts) (l.drop (k+1))):=by rw[hall,gO,h1,h2,h3];rfl
 have hnx:True:=trivial
 have no2:ie parts [] x.bJ=false->mX l=false:=λh=>by unfold mX;rw[hq2,h];rfl
 have hlen2:=hgx.2;refine zs ?_;refine ai.block (ai.loop (λm st=>∃k2:Nat,∃seen:List (List Nat×Bool),k2<=x.bJ.length/\m=x.bJ.length-k2/\(ie parts [] x.bJ=ie parts seen (x.bJ.drop k2))/\st=⟨[(1,.ptr 0 0),(3,.map 1),(16,an 3 l aq),(17,aa l.length),(18,aa k),(5,.ptr 2 0),(8,.map 3),(44,an 3 x.bJ bH),(45,aa x.bJ.length),(46,aa k2)],108,[.cells [an 3 l aq],bO AV.str aA parts,.cells (aq x),bO AV.str aA seen],[]⟩) x.bJ.length (Fg.less uR yS) ⟨0,[],zero_le _,rfl,(by rfl),rfl⟩ (by rintro m st ⟨k2,_,_,_,_,rfl⟩;rfl) ?_);rintro m st ⟨k2,seen,hk2,rfl,hall2,rfl⟩;refine zs ?_;refine ai.r0 (by rfl) zl ?_;by_cases hlt2:k2<x.bJ.length;rotate_left;obtain rfl:k2=x.bJ.length:=(by omega);rw[show decide ((x.bJ.length:Int)<(x.bJ.length:Int))=false by simp];rotate_left;rw[show decide ((k2:Int)<(x.bJ.length:Int))=true by simp only[decide_eq_true_eq];omega];obtain⟨y,hx2⟩:∃zz,x.bJ[k2]?=some zz:=⟨x.bJ[k2],List.getElem?_eq_getElem hlt2⟩;rotate_left
 ·refine zN ?_;refine ai.exit ?_
  have hall3:gO [] l=gO (dk x.name (!x.fN) parts) (l.drop (k+1)):=by rw[hq2,hall2,drop_length];rfl
  refine zs ?_;refine ai.r0 (by rfl) (by simp only[bx,aX,an,aw,bind_some,map_some,↓reduceIte,reduceEqDiff,reduceAdd,reduceMul,reduceLeDiff,reduceLT,ah,ao,aP,aq,uP (l:=parts)];first | done | rfl) ?_;refine zs ?_;refine ai.r0 (by rfl) (gY (nh (dX hlt hlen (by decide)))) ?_;refine⟨l.length-(k+1),_,by omega,(Fg.less uR yS),k+1,dk x.name (!x.fN) parts,by omega,rfl,hall3,rfl⟩
 have no3:ie parts seen (x.bJ.drop k2)=false->mX l=false:=λh=>no2 (by rw[hall2,h]);rw[eZ hx2] at no3 hall2;have hgy:=hsx y (mem_iff_getElem?.2 ⟨k2,hx2⟩);refine zY ?_
 (repeat refine ai.seq ?_)
 refine ai.block ?_;refine aE (n5 hlt2 (aH (e:=3) (enc:=bH) (λ_=>rfl) hx2) @bH.eq_1 @aq.eq_1 @B2) ?_;cases g1:getM false y.name seen;rotate_left
 ·refine zs ?_;refine ai.r0 (by rfl) (by simp only[bx,aX,an,aw,bind_some,map_some,↓reduceIte,reduceEqDiff,reduceAdd,reduceMul,reduceLeDiff,reduceLT,ah,ao,aP,gJ (l:=seen),g1];first | done | rfl) ?_;refine cE ?_;refine zE ?_;exact zO [.tmp 2] (hq:=by (try simp only[aC,ab]);first | done | (rw[no3 (by simp[ie,g1])]))
 refine zs ?_;refine ai.M8 (by rfl) (by simp only[bx,aX,an,aw,bind_some,map_some,↓reduceIte,reduceEqDiff,reduceAdd,reduceMul,reduceLeDiff,reduceLT,ah,ao,aP,gJ (l:=seen),g1];first | done | rfl) ?_;refine zK (eV y.name hgy.1) ?_;cases g2:cO y.name
 ·refine zR ?_;refine cE ?_;refine zE ?_;exact zO [.tmp 2] (hq:=by (try simp only[aC,ab]);first | done | (rw[no3 (by simp[ie,g2])]))
 cases g3:decide (y.normal<1);rotate_left
 ·refine cS g3 ?_;refine cE ?_;refine zE ?_;exact zO [.tmp 2] (hq:=by (try simp only[aC,ab]);first | done | (rw[no3 (by simp only[ie,g3,Bool.or_true,Bool.true_or,Bool.not_true,Bool.false_and])]))
 cases g4:decide ((y.kinds.length:Int)<y.normal);rotate_left
 ·refine cS (n2 g3 g4) ?_;refine cE ?_;refine zE ?_;exact zO [.tmp 2] (hq:=by (try simp only[aC,ab]);first | done | (rw[no3 (by simp only[ie,g4,Bool.or_true,Bool.true_or,Bool.not_true,Bool.false_and])]))
 refine cS (n2 g3 g4) ?_;refine zN ?_;refine zs ?_;refine ai.r0 (by rfl) (by simp only[bx,aX,an,aw,bind_some,map_some,↓reduceIte,reduceEqDiff,reduceAdd,reduceMul,reduceLeDiff,reduceLT,ah,ao,aP,uP (l:=seen)];first | done | rfl) ?_;refine aE @B2 ?_;refine zV ?_
 have hq3:ie parts [] x.bJ=(kZ parts [] y.kinds&&ie parts (dk y.name true seen) (x.bJ.drop (k2+1))):=by rw[hall2,ie,g1,g2,g3,g4];rfl
 have no4:kZ parts [] y.kinds=false->mX l=false:=λh=>no2 (by rw[hq3,h];rfl);have hlen3:=hgy.2;refine zs ?_;refine ai.block (ai.loop (λm st=>∃k3:Nat,∃taken:List (List Nat×Bool),k3<=y.kinds.length/\m=y.kinds.length-k3/\(kZ parts [] y.kinds=kZ parts taken (y.kinds.drop k3))/\st=⟨[(1,.ptr 0 0),(3,.map 1),(16,an 3 l aq),(17,aa l.length),(18,aa k),(5,.ptr 2 0),(8,.map 3),(44,an 3 x.bJ bH),(45,aa x.bJ.length),(46,aa k2),(11,.map 5),(78,an 1 y.kinds (az ak)),(79,aa y.kinds.length),(80,aa k3)],108,[.cells [an 3 l aq],bO AV.str aA parts,.cells (aq x),bO AV.str aA (dk y.name true seen),.gone,bO AV.str aA taken],[]⟩) y.kinds.length (Fg.less (nM (n2 @az.eq_1 @aq.eq_1)) (nN (n2 @az.eq_1 @aq.eq_1))) ⟨0,[],zero_le _,rfl,(by rfl),rfl⟩ (by rintro m st ⟨k3,_,_,_,_,rfl⟩;rfl) ?_);rintro m st ⟨k3,taken,hk3,rfl,hall3,rfl⟩;refine zs ?_;refine ai.r0 (by rfl) zl ?_;by_cases hlt3:k3<y.kinds.length;rotate_left;obtain rfl:k3=y.kinds.length:=(by omega);rw[show decide ((y.kinds.length:Int)<(y.kinds.length:Int))=false by simp];rotate_left;rw[show decide ((k3:Int)<(y.kinds.length:Int))=true by simp only[decide_eq_true_eq];omega];obtain⟨z,hx3⟩:∃zz,y.kinds[k3]?=some zz:=⟨y.kinds[k3],List.getElem?_eq_getElem hlt3⟩;rotate_left
 ·refine zN ?_;refine ai.exit ?_
  have hall4:ie parts [] x.bJ=ie parts (dk y.name true seen) (x.bJ.drop (k2+1)):=by rw[hq3,hall3,drop_length];rfl
  refine zs ?_;refine ai.r0 (by rfl) (gY (nh (dX hlt2 hlen2 (by decide)))) ?_;refine⟨x.bJ.length-(k2+1),_,by omega,(Fg.less (nM @aq.eq_1) (nN @aq.eq_1)),k2+1,dk y.name true seen,by omega,rfl,hall4,rfl⟩
 have no5:kZ parts taken (y.kinds.drop k3)=false->mX l=false:=λh=>no4 (by rw[hall3,h]);rw[eZ hx3] at no5 hall3;refine zY ?_
 (repeat refine ai.seq ?_)
 refine ai.block ?_;refine aE (n3 hlt3 (aH (e:=1) (enc:=az ak) (λ_=>rfl) hx3) @az.eq_1) ?_;cases f1:getM false z taken;rotate_left
 ·refine zs ?_;refine ai.r0 (by rfl) (by simp only[bx,aX,an,aw,bind_some,map_some,↓reduceIte,reduceEqDiff,reduceAdd,reduceMul,reduceLeDiff,reduceLT,ah,ao,aP,gJ (l:=taken),f1];first | done | rfl) ?_;refine cE ?_;refine zE ?_;exact zO [.tmp 2] (hq:=by (try simp only[aC,ab]);first | done | (rw[no5 (by simp[kZ,f1])]))
 cases f2:getM false z parts
 ·refine zs ?_;refine ai.r0 (by rfl) (by simp only[bx,aX,an,aw,bind_some,map_some,↓reduceIte,reduceEqDiff,reduceAdd,reduceMul,reduceLeDiff,reduceLT,ah,ao,aP,gJ (l:=taken),gJ (l:=parts),f1,f2];first | done | rfl) ?_;refine cE ?_;refine zE ?_;exact zO [.tmp 2] (hq:=by (try simp only[aC,ab]);first | done | (rw[no5 (by simp[kZ,f2])]))
 refine zs ?_;refine ai.r0 (by rfl) (by simp only[bx,aX,an,aw,bind_some,map_some,↓reduceIte,reduceEqDiff,reduceAdd,reduceMul,reduceLeDiff,reduceLT,ah,ao,aP,gJ (l:=taken),gJ (l:=parts),f1,f2];first | done | rfl) ?_;refine zN ?_
 have hall5:kZ parts [] y.kinds=kZ parts (dk z true taken) (y.kinds.drop (k3+1)):=by rw[hall3,kZ,f1,f2];rfl
 refine zs ?_;refine ai.r0 (by rfl) (by simp only[bx,aX,an,aw,bind_some,map_some,↓reduceIte,reduceEqDiff,reduceAdd,reduceMul,reduceLeDiff,reduceLT,ah,ao,aP,uP (l:=taken)];first | done | rfl) ?_;refine zs ?_;refine ai.r0 (by rfl) (gY (nh (dX hlt3 hlen3 (by decide)))) ?_;refine⟨y.kinds.length-(k3+1),_,by omega,(Fg.less (nM (n2 @az.eq_1 @aq.eq_1)) (nN (n2 @az.eq_1 @aq.eq_1))),k3+1,dk z true taken,by omega,rfl,hall5,rfl⟩
end Go.Proofs
