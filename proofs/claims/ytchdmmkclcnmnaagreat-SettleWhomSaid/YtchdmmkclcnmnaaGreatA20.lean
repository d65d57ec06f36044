/- Lemmas of this claim, each with its conditions. -/
import Derived.Test.YtchdmmkclcnmnaaGreatA19
import Derived.Test.YtchdmmkclcnmnaaGreatA18
import Derived.Test.YtchdmmkclcnmnaaGreatA14
import Derived.Test.YtchdmmkclcnmnaaGreatA13
set_option linter.all false
open List (mem_iff_getElem?)
open Nat renaming reduceEqDiff -> aa, reduceLeDiff -> ac, reduceAdd -> ad, reduceMul -> af, reduceLT -> ap
open Option renaming bind_some -> aj, map_some -> al
open List renaming mem_of_find?_eq_some -> ax, getElem?_eq_getElem -> ay, getElem?_map -> aR, drop_length -> aS, find?_eq_none -> a0, find?_some -> bh, replicate -> bi
open Bool renaming and_false -> ba, false_and -> bb, not_true -> bc, true_and -> bd, or_true -> be, true_or -> bk
namespace Go.Proofs
open Go.Ev
set_option maxRecDepth 100000
structure lP where
 name:List Nat
 kinds:List (List Nat)
 normal:Int
structure aP where
 name:List Nat
 gn:Bool
 cm:List lP
def bU(s:lP):List SV:=[ae s.name,ak 1 s.kinds (aA ae),ab s.normal]
def ao(k:aP):List SV:=[ae k.name,az k.gn,ak 3 k.cm bU]
def Em{l:List (aP)}(p:aP->Bool){fid:FuncId}{first cap:List SV}(hlen:l.length<=1000000)(hp:∀x∈l,PC Tryz.prog fid ((first++[.ag (ao x)])++cap) (·=az (p x)))(hg:cr first=true/\cr cap=true):PC Tryz.prog 188 [ak 3 l ao,.fn fid first cap] (·=ab (js p l)):=by
 refine pB 19 Tryz.func188 ?_;refine aC @ak.eq_1 ?_;refine zV ?_;refine zs ?_;refine zL l (λk=>∀(i:Nat) y,i<k->l[i]?=some y->p y=false) (λk=>[(0,.sl l.length 3 (l.flatMap ao)),(1,.fn fid first cap),(7,ab l.length),(8,ab k)]) (λk=>[]) zH zp ?_;intro k hk hall;refine zT l k ?_ ?_;rintro rfl;rotate_left;intro x hx hlt;rotate_left
 ·refine dZ ?_;refine zV ?_;exact zo [.tmp 4] (hq:=by rw[iC hall])
 ·refine eQ ?_;refine zV ?_;refine gG (n3 hlt (aG (e:=3) (enc:=ao) (λ_=>rfl) hx) @ao.eq_1) ?_;refine zK (hp x (mem_iff_getElem?.2 ⟨k,hx⟩)) ?_ (hwk:=((bp.refl hg.1).app (bp.refl rfl)).app (bp.refl hg.2));refine aI.nil ?_;change ar _ _ _ _ _;cases hpx:p x
  ·refine zN ?_;refine aC (zi hlt hlen) ?_;refine zX hlt zH ?_;intro i y hi hy;by_cases hik:i=k
   ·subst hik;rw[hx] at hy;cases hy;exact hpx
   ·exact hall i y (by omega) hy
  ·refine cL ?_;exact zo [.tmp 4] (hq:=by rw[lY hx hpx hall])
def Ep{l:List (lP)}(p:lP->Bool){fid:FuncId}{first cap:List SV}(hlen:l.length<=1000000)(hp:∀x∈l,PC Tryz.prog fid ((first++[.ag (bU x)])++cap) (·=az (p x)))(hg:cr first=true/\cr cap=true):PC Tryz.prog 222 [ak 3 l bU,.fn fid first cap] (·=ab (js p l)):=by
 refine pB 19 Tryz.func222 ?_;refine aC @ak.eq_1 ?_;refine zV ?_;refine zs ?_;refine zL l (λk=>∀(i:Nat) y,i<k->l[i]?=some y->p y=false) (λk=>[(0,.sl l.length 3 (l.flatMap bU)),(1,.fn fid first cap),(7,ab l.length),(8,ab k)]) (λk=>[]) zH zp ?_;intro k hk hall;refine zT l k ?_ ?_;rintro rfl;rotate_left;intro x hx hlt;rotate_left
 ·refine dZ ?_;refine zV ?_;exact zo [.tmp 4] (hq:=by rw[iC hall])
 ·refine eQ ?_;refine zV ?_;refine gG (n3 hlt (aG (e:=3) (enc:=bU) (λ_=>rfl) hx) @bU.eq_1) ?_;refine zK (hp x (mem_iff_getElem?.2 ⟨k,hx⟩)) ?_ (hwk:=((bp.refl hg.1).app (bp.refl rfl)).app (bp.refl hg.2));refine aI.nil ?_;change ar _ _ _ _ _;cases hpx:p x
  ·refine zN ?_;refine aC (zi hlt hlen) ?_;refine zX hlt zH ?_;intro i y hi hy;by_cases hik:i=k
   ·subst hik;rw[hx] at hy;cases hy;exact hpx
   ·exact hall i y (by omega) hy
  ·refine cL ?_;exact zo [.tmp 4] (hq:=by rw[lY hx hpx hall])
def Hi{l:List (List Nat)}(p:List Nat->Bool){fid:FuncId}{first cap:List SV}(hlen:l.length<=1000000)(hp:∀x∈l,PC Tryz.prog fid ((first++[ae x])++cap) (·=az (p x)))(hg:cr first=true/\cr cap=true):PC Tryz.prog 142 [ak 1 l (aA ae),.fn fid first cap] (·=ab (js p l)):=by
 refine pB 19 Tryz.func142 ?_;refine aC @ak.eq_1 ?_;refine zV ?_;refine zs ?_;refine zL l (λk=>∀(i:Nat) y,i<k->l[i]?=some y->p y=false) (λk=>[(0,.sl l.length 1 (l.flatMap (aA ae))),(1,.fn fid first cap),(7,ab l.length),(8,ab k)]) (λk=>[]) zH zp ?_;intro k hk hall;refine zT l k ?_ ?_;rintro rfl;rotate_left;intro x hx hlt;rotate_left
 ·refine dZ ?_;refine zV ?_;exact zo [.tmp 4] (hq:=by rw[iC hall])
 ·refine eQ ?_;refine zV ?_;refine gG (n3 hlt (aG (e:=1) (enc:=(aA ae)) (λ_=>rfl) hx) @aA.eq_1) ?_;refine zK (hp x (mem_iff_getElem?.2 ⟨k,hx⟩)) ?_ (hwk:=((bp.refl hg.1).app (bp.refl rfl)).app (bp.refl hg.2));refine aI.nil ?_;change ar _ _ _ _ _;cases hpx:p x
  ·refine zN ?_;refine aC (zi hlt hlen) ?_;refine zX hlt zH ?_;intro i y hi hy;by_cases hik:i=k
   ·subst hik;rw[hx] at hy;cases hy;exact hpx
   ·exact hall i y (by omega) hy
  ·refine cL ?_;exact zo [.tmp 4] (hq:=by rw[lY hx hpx hall])
def Bv(s:List Nat):PC Tryz.prog 132 [.ag [ae s,.any,.any]] (·=ae s):=by
 refine pB 5 Tryz.func132 ?_;refine lC ?_;exact zo [.tmp 2]
def Bx(s:List Nat):PC Tryz.prog 191 [.ag [ae s,.any,.any]] (·=ae s):=by
 refine pB 5 Tryz.func191 ?_;refine lC ?_;exact zo [.tmp 2]
def Hl(k:aP)(s:List Nat):PC Tryz.prog 189 [.ag (ao k),.ip [.fn 132 [] []],.ip [ae s]] (·=az (decide (k.name=s))):=by
 refine pB 10 Tryz.func189 ?_;refine aC @ao.eq_1 ?_;refine zs ?_;refine oz [0,0,3,0,15,31] ?_;refine zD ?_;refine SD.k (by rfl) rfl rfl (by rfl) rfl rfl zc (Bv k.name) (.cons (.ag (.cons (.a _) (.cons (.any _) (.cons (.any _) .nil)))) .nil) rfl ?_;refine zD ?_;refine zM ?_;exact zo [.tmp 4]
def Hv(k:lP)(s:List Nat):PC Tryz.prog 223 [.ag (bU k),.ip [.fn 191 [] []],.ip [ae s]] (·=az (decide (k.name=s))):=by
 refine pB 10 Tryz.func223 ?_;refine aC @bU.eq_1 ?_;refine zs ?_;refine oz [0,0,3,0,15,31] ?_;refine zD ?_;refine SD.k (by rfl) rfl rfl (by rfl) rfl rfl zc (Bx k.name) (.cons (.ag (.cons (.a _) (.cons (.any _) (.cons (.any _) .nil)))) .nil) rfl ?_;refine zD ?_;refine zM ?_;exact zo [.tmp 4]
def Er(l:List aP)(s:List Nat)(hlen:l.length<=1000000):PC Tryz.prog 131 [ak 3 l ao,.fn 132 [] [],ae s] (·=ab (js (λk=>decide (k.name=s)) l)):=by
 refine pB 10 Tryz.func131 ?_;refine kD ?_;refine zK (Em (λk=>decide (k.name=s)) (first:=[]) (cap:=[.ip [.fn 132 [] []],.ip [ae s]]) hlen (λx _=>Hl x s) ⟨rfl,rfl⟩) ?_;refine zR ?_;exact zo [.tmp 6]
def EJ(l:List lP)(s:List Nat)(hlen:l.length<=1000000):PC Tryz.prog 190 [ak 3 l bU,.fn 191 [] [],ae s] (·=ab (js (λk=>decide (k.name=s)) l)):=by
 refine pB 10 Tryz.func190 ?_;refine kD ?_;refine zK (Ep (λk=>decide (k.name=s)) (first:=[]) (cap:=[.ip [.fn 191 [] []],.ip [ae s]]) hlen (λx _=>Hv x s) ⟨rfl,rfl⟩) ?_;refine zR ?_;exact zo [.tmp 6]
def tF{α:Type}(p:α->Bool)(l:List α):(js p l = -1/\l.find? p=none)\/∃(k:Nat) (x:α),js p l=(k:Int)/\k<l.length/\l[k]?=some x/\l.find? p=some x:=by
 unfold js
 cases hf:l.findIdx? p with
 | none=>
  rw[List.findIdx?_eq_none_iff] at hf;exact .inl ⟨rfl,by rw[a0];intro x hx;rw[hf x hx];decide⟩
 | some k=>
  obtain⟨hlt,h1,h2⟩:=List.findIdx?_eq_some_iff_getElem.1 hf;refine .inr ⟨k,l[k],rfl,hlt,ay hlt,?_⟩;rw[List.find?_eq_some_iff_getElem];exact⟨h1,k,hlt,rfl,λj hj=>by simpa using h2 j hj⟩
def aP.zero:aP:=⟨[],false,[]⟩
def lP.zero:lP:=⟨[],[],0⟩
def eS(l:List aP)(s:List Nat):Option aP:=l.find? λk=>decide (k.name=s)
def sz(l:List lP)(s:List Nat):Option lP:=l.find? λk=>decide (k.name=s)
def oS{α:Type}(enc:α->List SV)(z:α):Option α->SV
 | some x=>.bE [.ag (enc x),az true]
 | none=>.bE [.ag (enc z),az false]
def nf(l:List aP)(s:List Nat)(hlen:l.length<=1000000):PC Tryz.prog 88 [.ag [ak 3 l ao],ae s] (·=oS ao aP.zero (eS l s)):=by
 refine pB 19 Tryz.func88 ?_;refine kD ?_;refine zK (Er l s hlen) ?_;refine zR ?_
 rcases tF (λk:aP=>decide (k.name=s)) l with⟨h1,h2⟩ | ⟨k,x,h1,hlt,hx,h2⟩
 ·rw[h1];refine xd ?_;refine zV ?_;refine zE ?_;exact sf.of (rs:=[.cell 4 52,.tmp 5]) (r:=.bE [.ag [ae [],az false,.sl 0 3 []],az false]) rfl rfl zl zv (by (try simp only[dh,aW]);first | done | (unfold eS;rw[h2];rfl))
 ·rw[h1];refine aC (show decide ((k:Int)<0)=false by simp) ?_;refine zN ?_;refine aC (n3 hlt (aG (e:=3) (enc:=ao) (λ_=>rfl) hx) @ao.eq_1) ?_;exact iA [.cell 4 52,.tmp 5] (hq:=by unfold eS;rw[h2];rfl)
def JP(l:List aP)(kind name:List Nat)(hlen:l.length<=1000000)(hs:∀k∈l,k.cm.length<=1000000):PC Tryz.prog 134 [.ag [ak 3 l ao],ae kind,ae name] (·=oS bU lP.zero ((eS l kind).bind λk=>sz k.cm name)):=by
 refine pB 29 Tryz.func134 ?_
 obtain⟨q,b,h1,h2,h3⟩:∃(q:aP) (b:Bool),oS ao aP.zero (eS l kind)=.bE [.ag (ao q),az b]/\q.cm.length<=1000000/\((eS l kind).bind λk=>sz k.cm name)=sz q.cm name:=by
  cases hf:eS l kind with
  | none=>exact⟨aP.zero,false,rfl,Nat.zero_le _,rfl⟩
  | some q=>exact⟨q,true,rfl,hs q (ax hf),rfl⟩
 rw[h3];have hF:=nf l kind hlen;rw[h1] at hF;refine kD ?_;refine zK hF ?_ (hfl:=.inr (bp.refl rfl));refine cM @ao.eq_1 ?_;refine zC ?_;refine zK (EJ q.cm name h2) ?_;refine zR ?_
 rcases tF (λk:lP=>decide (k.name=name)) q.cm with⟨g1,g2⟩ | ⟨k,x,g1,hlt,hx,g2⟩
 ·rw[g1];refine xd ?_;refine zV ?_;refine zE ?_;exact sf.of (rs:=[.cell 6 137,.tmp 7]) (r:=.bE [.ag [ae [],.sl 0 1 [],ab 0],az false]) rfl rfl zl zv (by (try simp only[dh,aW]);first | done | (unfold sz;rw[g2];rfl))
 ·rw[g1];refine aC (show decide ((k:Int)<0)=false by simp) ?_;refine zN ?_;refine aC (n3 hlt (aG (e:=3) (enc:=bU) (λ_=>rfl) hx) @bU.eq_1) ?_;exact iA [.cell 6 137,.tmp 7] (hq:=by unfold sz;rw[g2];rfl)
def Bp(l:List (List Nat))(s:List Nat)(hlen:l.length<=1000000):PC Tryz.prog 98 [ak 1 l (aA ae),ae s] (·=ab (js (λx=>decide (s=x)) l)):=by
 refine pB 19 Tryz.func98 ?_;refine lC ?_;refine zs ?_;refine zL l (λk=>∀(i:Nat) y,i<k->l[i]?=some y->decide (s=y)=false) (λk=>[(0,.sl l.length 1 (l.flatMap (aA ae))),(1,ae s),(7,ab l.length),(8,ab k)]) (λk=>[]) zH zp ?_;intro k hk hall;refine zT l k ?_ ?_;rintro rfl;rotate_left;intro x hx hlt;rotate_left
 ·refine dZ ?_;refine zV ?_;exact zo [.tmp 4] (hq:=by rw[iC hall])
 ·refine eQ ?_;refine zV ?_;refine aC (n3 hlt (aG (e:=1) (enc:=aA ae) (λ_=>rfl) hx) @aA.eq_1) ?_;cases hpx:decide (s=x)
  ·refine zN ?_;refine aC (zi hlt hlen) ?_;refine zX hlt zH ?_;intro i y hi hy;by_cases hik:i=k
   ·subst hik;rw[hx] at hy;cases hy;exact hpx
   ·exact hall i y (by omega) hy
  ·refine cL ?_;exact zo [.tmp 4] (hq:=by rw[lY hx hpx hall])
def Dl{l:List (List Nat)}{s:List Nat}:decide (0<=js (λx=>decide (s=x)) l)=l.contains s:=by
 rcases tF (λx=>decide (s=x)) l with⟨g1,g2⟩ | ⟨k,x,g1,hlt,hx,g2⟩
 ·rw[g1];rw[a0] at g2
  have:s∉l:=λhm=>by simpa using g2 s hm
  simp[this]
 ·rw[g1];have h:=bh g2;have hm:=ax g2;simp only[wr] at h;subst h;simp[hm]
def kV(l:List (List Nat))(s:List Nat)(hlen:l.length<=1000000):PC Tryz.prog 47 [ak 1 l (aA ae),ae s] (·=az (l.contains s)):=by
 refine pB 9 Tryz.func47 ?_;refine kD ?_;refine zK (Bp l s hlen) ?_;refine zR ?_;exact zo [.tmp 4] (hq:=by rw[Dl])
def vV(l:List aP)(kind name other:List Nat):Bool:=match (eS l kind).bind λk=>sz k.cm name with
 | some s=>s.kinds.contains other
 | none=>false
def w9(l:List aP)(kind name other:List Nat)(hlen:l.length<=1000000)(hs:∀k∈l,k.cm.length<=1000000/\∀s∈k.cm,s.kinds.length<=1000000):PC Tryz.prog 91 [.ag [ak 3 l ao],ae kind,ae name,ae other] (·=az (vV l kind name other)):=by
 refine pB 25 Tryz.func91 ?_;have hF:=JP l kind name hlen λk hk=>(hs k hk).1;refine kD ?_;unfold Proofs.vV
 cases hf:(eS l kind).bind λk=>sz k.cm name with
 | none=>
  rw[hf] at hF;refine zK hF ?_ (hfl:=.inr (bp.refl rfl));refine cM (n3 @oS.eq_1 @bU.eq_1 @lP.zero.eq_1) ?_;refine zV ?_;exact zo [.tmp 8]
 | some q=>
  have hq:q.kinds.length<=1000000:=by
   obtain⟨k,hk,h2⟩:=Option.bind_eq_some_iff.1 hf;exact(hs k (ax hk)).2 q (ax h2)
  rw[hf] at hF;refine zK hF ?_ (hfl:=.inr (bp.refl rfl));refine cM (n2 @oS.eq_1 @bU.eq_1) ?_;refine zC ?_;refine zK (kV q.kinds other hq) ?_;refine zR ?_;exact zo [.tmp 8]
def jw(s:List Nat):Prop:=s.length<=1000000/\∀b∈s,b<256
def fj(s:List Nat)(h:jw s):PC Tryz.prog 28 [ae s] (·=az (cD s)):=ou s h.1 h.2
def fz:Keys Tryz.prog 9 AV.str:=N1 (by kernel_rfl)
def iu{S:List SO}{o:Nat}{l:List (List Nat×Bool)}(s:List Nat)(ok:Bool)(hS:S[o]?=some (bz AV.str az l)):dW Tryz.prog S 151 (.map o) (.a (.str s)) ok=some (cond ok (.bE [az (getM false s l),az (dy s l)]) (az (getM false s l))):=
 Ce (uv:=az) (u0:=false) (k:=s) (kt:=9) (et:=4) (z:=.bool false) (by simp only[aw]) fz (by simp only[aw]) rfl hS rfl ok
def wg{S:List SO}{o:Nat}{l:List (List Nat×Bool)}(s:List Nat)(u:Bool)(hS:S[o]?=some (bz AV.str az l)):fv Tryz.prog S 151 (.map o) (.a (.str s)) (.a (.bool u))=some (S.set o (bz AV.str az (cw s u l))):=
 GG (uv:=az) (kt:=9) (et:=4) (by simp only[aw]) fz hS rfl u
def lK(parts:List (List Nat×Bool)):List (List Nat×Bool)->List (List Nat)->Bool
 | _,[]=>true
 | taken,x::xs=>!(getM false x taken||!getM false x parts)&&lK parts (cw x true taken) xs
def iS(parts:List (List Nat×Bool)):List (List Nat×Bool)->List lP->Bool
 | _,[]=>true
 | seen,s::ss=>!(getM false s.name seen||(!cD s.name||(decide (s.normal<1)||decide ((s.kinds.length:Int)<s.normal))))&&(lK parts [] s.kinds&&iS parts (cw s.name true seen) ss)
def iD:List (List Nat×Bool)->List aP->Bool
 | _,[]=>true
 | parts,k::ks=>!(dy k.name parts||(!cD k.name||decide (12<(k.cm.length:Int))))&&(iS parts [] k.cm&&iD (cw k.name (!k.gn) parts) ks)
def lT(l:List aP):Bool:=iD [] l&&decide ((l.length:Int)<=60)
structure jD (l:List aP):Prop where
 len:l.length<=1000000
 kind:∀k∈l,jw k.name/\k.cm.length<=1000000
 slot:∀k∈l,∀s∈k.cm,jw s.name/\s.kinds.length<=1000000
def ft{α:Type}{l:List α}{k:Nat}{x:α}(h:l[k]?=some x):l.drop k=x::l.drop (k+1):=by
 obtain⟨hlt,he⟩:=List.getElem?_eq_some_iff.1 h;rw[List.drop_eq_getElem_cons hlt,he]
set_option maxHeartbeats 1000000 in
def nQ(l:List aP)(hl:jD l):PC Tryz.prog 37 [.ag [ak 3 l ao]] (·=az (lT l)):=by
 have hlen:=hl.len;refine pB 108 Tryz.func37 ?_;refine lC ?_;refine zV ?_;refine zs ?_;refine MX l (λk (parts:List (List Nat×Bool))=>iD [] l=iD parts (l.drop k)) (λk parts=>[(1,.ptr 0 0),(3,.map 1),(16,ak 3 l ao),(17,ab l.length),(18,ab k)]) (λk parts=>[.cells [ak 3 l ao],bz AV.str az parts]) ([]) zH (by rfl) ?_;intro k parts hk hall;refine zT l k ?_ ?_;rintro rfl;rotate_left;intro x hx hlt;rotate_left
 ·refine dZ ?_;refine zV ?_;exact zo [.tmp 2] (hq:=by rw[show lT l=decide ((l.length:Int)<=60) from by unfold lT;rw[hall,aS];rfl])
 have no:iD parts (l.drop k)=false->lT l=false:=λh=>by unfold lT;rw[hall,h];rfl
 rw[ft hx] at no hall;have hgx:=hl.kind x (mem_iff_getElem?.2 ⟨k,hx⟩);have hsx:=hl.slot x (mem_iff_getElem?.2 ⟨k,hx⟩);refine eQ ?_;refine aC (n4 hlt (aG (e:=3) (enc:=ao) (λ_=>rfl) hx) @ao.eq_1 @Ds) ?_;refine zs ?_;refine ar.r0 (by rfl) (by simp only[bP,bg,ak,aw,aj,al,↓reduceIte,aa,ad,af,ac,ap,ai,an,aU,iu (l:=parts)];first | done | rfl) ?_;cases h1:dy x.name parts;rotate_left
 ·refine xd ?_;refine zV ?_;exact zo [.tmp 2] (hq:=by rw[no (by simp[iD,h1])])
 refine zC ?_;refine zK (fj x.name hgx.1) ?_;cases h2:cD x.name
 ·refine zR ?_;refine cL ?_;exact zo [.tmp 2] (hq:=by rw[no (by simp[iD,h2])])
 cases h3:decide (12<(x.cm.length:Int));rotate_left
 ·refine cM h3 ?_;refine cL ?_;exact zo [.tmp 2] (hq:=by rw[no (by simp only[iD,h3,be,bc,bb])])
 refine cM h3 ?_;refine zN ?_;refine aC @Ds ?_;refine zV ?_
 have hq2:iD [] l=(iS parts [] x.cm&&iD (cw x.name (!x.gn) parts) (l.drop (k+1))):=by rw[hall,iD,h1,h2,h3];rfl
 have hnx:True:=trivial
 have no2:iS parts [] x.cm=false->lT l=false:=λh=>by unfold lT;rw[hq2,h];rfl
 have hlen2:=hgx.2;refine zs ?_;refine MX x.cm (λk2 (seen:List (List Nat×Bool))=>iS parts [] x.cm=iS parts seen (x.cm.drop k2)) (λk2 seen=>[(1,.ptr 0 0),(3,.map 1),(16,ak 3 l ao),(17,ab l.length),(18,ab k),(5,.ptr 2 0),(8,.map 3),(44,ak 3 x.cm bU),(45,ab x.cm.length),(46,ab k2)]) (λk2 seen=>[.cells [ak 3 l ao],bz AV.str az parts,.cells (ao x),bz AV.str az seen]) ([]) zH (by rfl) ?_;intro k2 seen hk2 hall2;refine zT x.cm k2 ?_ ?_;rintro rfl;rotate_left;intro y hx2 hlt2;rotate_left
 ·refine dZ ?_
  have hall3:iD [] l=iD (cw x.name (!x.gn) parts) (l.drop (k+1)):=by rw[hq2,hall2,aS];rfl
  refine zs ?_;refine ar.r0 (by rfl) (by simp only[bP,bg,ak,aw,aj,al,↓reduceIte,aa,ad,af,ac,ap,ai,an,aU,ao,wg (l:=parts)];first | done | rfl) ?_;refine aC (zi hlt hlen) ?_;refine H3 hlt (cw x.name (!x.gn) parts) zH hall3
 have no3:iS parts seen (x.cm.drop k2)=false->lT l=false:=λh=>no2 (by rw[hall2,h]);rw[ft hx2] at no3 hall2;have hgy:=hsx y (mem_iff_getElem?.2 ⟨k2,hx2⟩);refine eQ ?_;refine aC (n5 hlt2 (aG (e:=3) (enc:=bU) (λ_=>rfl) hx2) @bU.eq_1 @ao.eq_1 @Ds) ?_;cases g1:getM false y.name seen;rotate_left
 ·refine zs ?_;refine ar.r0 (by rfl) (by simp only[bP,bg,ak,aw,aj,al,↓reduceIte,aa,ad,af,ac,ap,ai,an,aU,iu (l:=seen),g1];first | done | rfl) ?_;refine cL ?_;exact zo [.tmp 2] (hq:=by rw[no3 (by simp[iS,g1])])
 refine zs ?_;refine ar.Pz (by rfl) (by simp only[bP,bg,ak,aw,aj,al,↓reduceIte,aa,ad,af,ac,ap,ai,an,aU,iu (l:=seen),g1];first | done | rfl) ?_;refine zK (fj y.name hgy.1) ?_;cases g2:cD y.name
 ·refine zR ?_;refine cL ?_;exact zo [.tmp 2] (hq:=by rw[no3 (by simp[iS,g2])])
 cases g3:decide (y.normal<1);rotate_left
 ·refine cM g3 ?_;refine cL ?_;exact zo [.tmp 2] (hq:=by rw[no3 (by simp only[iS,g3,be,bk,bc,bb])])
 cases g4:decide ((y.kinds.length:Int)<y.normal);rotate_left
 ·refine cM (n2 g3 g4) ?_;refine cL ?_;exact zo [.tmp 2] (hq:=by rw[no3 (by simp only[iS,g4,be,bk,bc,bb])])
 refine cM (n2 g3 g4) ?_;refine zN ?_;refine zs ?_;refine ar.r0 (by rfl) (by simp only[bP,bg,ak,aw,aj,al,↓reduceIte,aa,ad,af,ac,ap,ai,an,aU,wg (l:=seen)];first | done | rfl) ?_;refine aC @Ds ?_;refine zV ?_
 have hq3:iS parts [] x.cm=(lK parts [] y.kinds&&iS parts (cw y.name true seen) (x.cm.drop (k2+1))):=by rw[hall2,iS,g1,g2,g3,g4];rfl
 have no4:lK parts [] y.kinds=false->lT l=false:=λh=>no2 (by rw[hq3,h];rfl);have hlen3:=hgy.2;refine zs ?_;refine MX y.kinds (λk3 (taken:List (List Nat×Bool))=>lK parts [] y.kinds=lK parts taken (y.kinds.drop k3)) (λk3 taken=>[(1,.ptr 0 0),(3,.map 1),(16,ak 3 l ao),(17,ab l.length),(18,ab k),(5,.ptr 2 0),(8,.map 3),(44,ak 3 x.cm bU),(45,ab x.cm.length),(46,ab k2),(11,.map 5),(78,ak 1 y.kinds (aA ae)),(79,ab y.kinds.length),(80,ab k3)]) (λk3 taken=>[.cells [ak 3 l ao],bz AV.str az parts,.cells (ao x),bz AV.str az (cw y.name true seen),.gone,bz AV.str az taken]) ([]) (bL (n2 @aA.eq_1 @ao.eq_1)) (by rfl) ?_;intro k3 taken hk3 hall3;refine zT y.kinds k3 ?_ ?_;rintro rfl;rotate_left;intro z hx3 hlt3;rotate_left
 ·refine dZ ?_
  have hall4:iS parts [] x.cm=iS parts (cw y.name true seen) (x.cm.drop (k2+1)):=by rw[hq3,hall3,aS];rfl
  refine aC (zi hlt2 hlen2) ?_;refine H3 hlt2 (cw y.name true seen) (bL @ao.eq_1) hall4
 have no5:lK parts taken (y.kinds.drop k3)=false->lT l=false:=λh=>no4 (by rw[hall3,h]);rw[ft hx3] at no5 hall3;refine eQ ?_;refine aC (n3 hlt3 (aG (e:=1) (enc:=aA ae) (λ_=>rfl) hx3) @aA.eq_1) ?_;cases f1:getM false z taken;rotate_left
 ·refine zs ?_;refine ar.r0 (by rfl) (by simp only[bP,bg,ak,aw,aj,al,↓reduceIte,aa,ad,af,ac,ap,ai,an,aU,iu (l:=taken),f1];first | done | rfl) ?_;refine cL ?_;exact zo [.tmp 2] (hq:=by rw[no5 (by simp[lK,f1])])
 cases f2:getM false z parts
 ·refine zs ?_;refine ar.r0 (by rfl) (by simp only[bP,bg,ak,aw,aj,al,↓reduceIte,aa,ad,af,ac,ap,ai,an,aU,iu (l:=taken),iu (l:=parts),f1,f2];first | done | rfl) ?_;refine cL ?_;exact zo [.tmp 2] (hq:=by rw[no5 (by simp[lK,f2])])
 refine zs ?_;refine ar.r0 (by rfl) (by simp only[bP,bg,ak,aw,aj,al,↓reduceIte,aa,ad,af,ac,ap,ai,an,aU,iu (l:=taken),iu (l:=parts),f1,f2];first | done | rfl) ?_;refine zN ?_
 have hall5:lK parts [] y.kinds=lK parts (cw z true taken) (y.kinds.drop (k3+1)):=by rw[hall3,lK,f1,f2];rfl
 refine zs ?_;refine ar.r0 (by rfl) (by simp only[bP,bg,ak,aw,aj,al,↓reduceIte,aa,ad,af,ac,ap,ai,an,aU,wg (l:=taken)];first | done | rfl) ?_;refine aC (zi hlt3 hlen3) ?_;refine H3 hlt3 (cw z true taken) (bL (n2 @aA.eq_1 @ao.eq_1)) hall5
def xU{α:Type}{p:α->Bool}{l:List α}:decide (0<=js p l)=l.any p:=by
 rcases tF p l with⟨g1,g2⟩ | ⟨k,x,g1,hlt,hx,g2⟩
 ·rw[g1];rw[a0] at g2
  have:l.any p=false:=by
   rw[List.any_eq_false];exact g2
  rw[this];rfl
 ·rw[g1];have:l.any p=true:=List.any_eq_true.2 ⟨x,ax g2,bh g2⟩;rw[this];simp
def G3{l:List (List Nat)}(p:List Nat->Bool){fid:FuncId}{first cap:List SV}(hlen:l.length<=1000000)(hp:∀x∈l,PC Tryz.prog fid ((first++[ae x])++cap) (·=az (p x)))(hg:cr first=true/\cr cap=true):PC Tryz.prog 102 [ak 1 l (aA ae),.fn fid first cap] (·=az (l.any p)):=by
 refine pB 9 Tryz.func102 ?_;refine kD ?_;refine zK (Hi p hlen hp hg) ?_ (hwk:=.cons (Wk.sl _ _ _) (.cons (.fn (bp.refl hg.1) (bp.refl hg.2)) .nil));refine zR ?_;exact zo [.tmp 4] (hq:=by rw[xU])
structure bJ where
 op:Int
 day:Int
 part:List Nat
 kind:List Nat
 bN:List Nat
 slot:List Nat
 key:List Nat
 value:List Nat
 u1:Int
 u2:Int
 u3:Int
 u4:Int
 u5:Int
 u6:Int
 deriving DecidableEq
def aF(e:bJ):List SV:=[ab e.op,ab e.day,ae e.part,ae e.kind,ae e.bN,ae e.slot,ae e.key,ae e.value,ab e.u1,ab e.u2,ab e.u3,ab e.u4,ab e.u5,ab e.u6]
def bJ.av(e:bJ):List AV:=[.int .i64 e.op,.int .i64 e.day,.str e.part,.str e.kind,.str e.bN,.str e.slot,.str e.key,.str e.value,.int .i64 e.u1,.int .i64 e.u2,.int .i64 e.u3,.int .i64 e.u4,.int .i64 e.u5,.int .i64 e.u6]
def bJ.zero:bJ:=⟨0,0,[],[],[],[],[],[],0,0,0,0,0,0⟩
def bJ.Ul:List Kd:=[.i .i64,.i .i64,.s,.s,.s,.s,.s,.s,.i .i64,.i .i64,.i .i64,.i .i64,.i .i64,.i .i64]
def bJ.eq(a b:bJ):gT gd a.av b.av=decide (a=b):=by
 obtain⟨a1,a2,a3,a4,a5,a6,a7,a8,a9,a10,a11,a12,a13,a14⟩:=a;obtain⟨b1,b2,b3,b4,b5,b6,b7,b8,b9,b10,b11,b12,b13,b14⟩:=b;simp only[bJ.av,gT,gd,yV,yB,mG,bd,Bool.and_true,bJ.mk.injEq,Bool.decide_and]
def Hk:Keys Tryz.prog 58 λe:bJ=>.agg e.av:=
 vu (ks:=bJ.Ul) (by kernel_rfl) (by simp only[aw,al]) (λ_=>rfl) bJ.eq λ_=>rfl
def CH(a b:bJ):cS Tryz.prog .eql 58 (.agg a.av) (.agg b.av)=some (.bool (decide (a=b))):=
 E9 (ks:=bJ.Ul) (by kernel_rfl) (by kernel_rfl) (by simp only[aw,al]) rfl rfl (bJ.eq a b)
def R4:List (List Nat):=[[],[109,97,107,101],[102,105,116],[114,101,109,111,118,101],[114,117,110],[111,118,101,114,104,97,117,108],[110,111,116,101],[115,99,114,97,112]]
def HV(op:Int):List Nat:=if op<0\/8<=op then [] else (R4[op.toNat]?).getD []
def JV(op:Int):PC Tryz.prog 100 [ab op] (·=ae (HV op)):=by
 refine pB 14 Tryz.func100 ?_;refine lC ?_;cases h1:decide (op<0);rotate_left
 ·refine aC h1 ?_;refine cL ?_;exact zo [.tmp 2] (hq:=by rw[HV,ul (.inl (ww h1))])
 cases h2:decide (8<=op);rotate_left
 ·refine aC (n2 h1 h2) ?_;refine cL ?_;exact zo [.tmp 2] (hq:=by rw[HV,ul (.inr (ww h2))])
 refine aC (n2 h1 h2) ?_;refine zN ?_
 have hop:op=0\/op=1\/op=2\/op=3\/op=4\/op=5\/op=6\/op=7:=by simp only[wp] at h1 h2;omega
 rcases hop with rfl | rfl | rfl | rfl | rfl | rfl | rfl | rfl<;>(refine zV ?_ ;exact zo [.tmp 2])
def AJ(a b c d e f:SV):PC Tryz.prog 101 [.ip [a,b,c,d,e,f]] (·=.ag [.ip [a,b,c,d,e,f],.ip [c,d,e,f],.ip [e,f]]):=by
 refine pB 13 Tryz.func101 ?_;refine zV ?_;refine zs ?_;refine oz [0,1,3,0,8,24,0,64,192,511,1023] ?_;refine zD ?_;refine SD.e (by rfl) rfl (by rfl) rfl rfl (by rfl) zl ?_;refine zM ?_;exact zo [.cell 2 187]
def Ey(s:List Nat)(h:jw s):PC Tryz.prog 103 [ae s] (·=az (!cD s)):=by
 refine pB 6 Tryz.func103 ?_;refine kD ?_;refine zK (fj s h) ?_;refine zR ?_;exact zo [.tmp 2]
def jQ(a b:Int):Bool:=!(decide (a<0))&&(!(decide (b<a))&&!(decide (1000000<b)))
def bJ.use(e:bJ):Bool:=jQ e.u1 e.u2&&(jQ e.u3 e.u4&&jQ e.u5 e.u6)
def bJ.rest(e:bJ):bJ:=
 if e.op=1 then ⟨0,0,[],[],e.bN,e.slot,e.key,e.value,e.u1,e.u2,e.u3,e.u4,e.u5,e.u6⟩
 else if e.op=2 then ⟨0,0,[],e.kind,[],[],e.key,e.value,e.u1,e.u2,e.u3,e.u4,e.u5,e.u6⟩
 else if e.op=6 then ⟨0,0,[],e.kind,e.bN,e.slot,[],[],e.u1,e.u2,e.u3,e.u4,e.u5,e.u6⟩
 else if e.op=4 then ⟨0,0,[],e.kind,e.bN,e.slot,e.key,e.value,0,0,0,0,0,0⟩
 else ⟨0,0,[],e.kind,e.bN,e.slot,e.key,e.value,e.u1,e.u2,e.u3,e.u4,e.u5,e.u6⟩
def bJ.names(e:bJ):List (List Nat):=if e.op=1 then [e.kind] else if e.op=2 then [e.bN,e.slot] else if e.op=6 then [e.key] else []
def bJ.kY(e:bJ):Bool:=
 if e.op=1 then true else if e.op=2 then !(decide (e.bN=e.part)) else if e.op=6 then !(decide (e.value=[]))&&!(decide (200<(e.value.length:Int))) else if e.op=4 then e.use else true
def gM(e:bJ):Bool:=!(decide (HV e.op=[]))&&(!(decide (e.day<0))&&(!(decide (40000<e.day))&&(cD e.part&&(e.kY&&(decide (e.rest=bJ.zero)&&!(e.names.any λs=>!cD s))))))
structure p8 (e:bJ):Prop where
 part:jw e.part
 kind:jw e.kind
 bN:jw e.bN
 slot:jw e.slot
 key:jw e.key
 value:jw e.value
def Az(a1 a2:Int)(a3 a4 a5 a6 a7 a8:List Nat)(a9 a10 a11 a12 a13 a14:Int):cS Tryz.prog .eql 58 (.agg [.int .i64 a1,.int .i64 a2,.str a3,.str a4,.str a5,.str a6,.str a7,.str a8,.int .i64 a9,.int .i64 a10,.int .i64 a11,.int .i64 a12,.int .i64 a13,.int .i64 a14]) (.agg [.int .i64 0,.int .i64 0,.str [],.str [],.str [],.str [],.str [],.str [],.int .i64 0,.int .i64 0,.int .i64 0,.int .i64 0,.int .i64 0,.int .i64 0])=some (.bool (decide ((⟨a1,a2,a3,a4,a5,a6,a7,a8,a9,a10,a11,a12,a13,a14⟩:bJ)=bJ.zero))):=
 CH ⟨a1,a2,a3,a4,a5,a6,a7,a8,a9,a10,a11,a12,a13,a14⟩ bJ.zero
set_option maxHeartbeats 2000000 in
def qU(e:bJ)(he:p8 e):PC Tryz.prog 50 [.ag (aF e)] (·=az (gM e)):=by
 refine pB 111 Tryz.func50 ?_;refine aC @aF.eq_1 ?_;refine zC ?_;refine zK (JV e.op) ?_;cases h1:decide (HV e.op=[]);rotate_left
 ·refine cM h1 ?_;refine cL ?_;exact zo [.tmp 2] (hq:=by rw[gM,h1];rfl)
 cases h2:decide (e.day<0);rotate_left
 ·refine cM (n2 h1 h2) ?_;refine cL ?_;exact zo [.tmp 2] (hq:=by rw[gM,h1,h2];rfl)
 cases h3:decide (40000<e.day);rotate_left
 ·refine cM (n3 h1 h2 h3) ?_;refine cL ?_;exact zo [.tmp 2] (hq:=by rw[gM,h1,h2,h3];rfl)
 refine QT (n3 h1 h2 h3) ?_;refine zK (fj e.part he.part) ?_;cases h4:cD e.part
 ·refine zR ?_;refine cL ?_;exact zo [.tmp 2] (hq:=by rw[gM,h1,h2,h3,h4];rfl)
 refine zR ?_;refine zN ?_
 have hv:gM e=(e.kY&&(decide (e.rest=bJ.zero)&&!(e.names.any λs=>!cD s))):=by rw[gM,h1,h2,h3,h4];rfl
 clear h1 h2 h3 h4
 have hn:∀s∈e.names,jw s:=by
  intro s hs;unfold bJ.names at hs;split at hs
  ·rw[List.mem_singleton.1 hs];exact he.kind
  split at hs
  ·rcases List.mem_cons.1 hs with rfl | hs
   ·exact he.bN
   ·rw[List.mem_singleton.1 hs];exact he.slot
  split at hs
  ·rw[List.mem_singleton.1 hs];exact he.key
  ·cases hs
 have hnl:e.names.length<=1000000:=by
  unfold bJ.names
  repeat' split
  all_goals simp
 refine lC ?_;refine lC ?_
 (repeat refine ar.seq ?_)
 refine ar.mono (Q:=λex st=>(ex=.normal/\e.kY=true/\Fg st ⟨[(3,.sl e.names.length 1 (e.names.flatMap (aA ae))),(4,.ptr 2 0)],111,[.gone,.gone,.cells (aF e.rest)],[]⟩)\/(ex=.ret/\sf Tryz.prog Tryz.f50 (·=az (gM e)) .ret st)) ?_ ?_;rotate_left
 ·rintro ex st (⟨rfl,hm,hf⟩ | ⟨rfl,hs⟩);rotate_left
  ·exact hs
  change ar _ _ _ _ _;refine ar.fg hf ?_;rw[hv,hm,bd];cases r:decide (e.rest=bJ.zero)
  ·refine aC (n3 @aF.eq_1 @Az r) ?_;exact zo [.tmp 2]
  ·refine gG (n3 @aF.eq_1 @Az r) ?_;refine zK (G3 (λs=>!cD s) (l:=e.names) (first:=[]) (cap:=[]) hnl (λx hx=>Ey x (hn x hx)) ⟨rfl,rfl⟩) ?_;refine zR ?_;exact zo [.tmp 2]
 have hrest:∀a1 a2 a3 a4 a5 a6 a7 a8 a9 a10 a11 a12 a13 a14,e.rest=(⟨a1,a2,a3,a4,a5,a6,a7,a8,a9,a10,a11,a12,a13,a14⟩:bJ)->aF e.rest=[ab a1,ab a2,ae a3,ae a4,ae a5,ae a6,ae a7,ae a8,ab a9,ab a10,ab a11,ab a12,ab a13,ab a14]:=by
  intros;simp only[*,aF]
 refine ar.block ?_;refine zV ?_;cases k1:decide (e.op=1);rotate_left
 ·have k1':=ww k1;refine cL ?_;have hr:=hrest _ _ _ _ _ _ _ _ _ _ _ _ _ _ (show e.rest=_ by unfold bJ.rest;rw[ul k1'])
  have hnm:e.names=[e.kind]:=by unfold bJ.names;rw[ul k1']
  refine .inl ⟨rfl,by unfold bJ.kY;rw[ul k1'],?_⟩;rw[hr,hnm];exact Fg.trans (Fg.freeze (f':=[(3,.sl 1 1 [ae e.kind]),(4,.ptr 2 0)]) 3 rfl (λh=>by cases h) zG) zH
 have n1:=wt k1;refine iK ?_;cases k2:decide (e.op=2);rotate_left
 ·have k2':=ww k2
  have hmid:e.kY=!(decide (e.bN=e.part)):=by unfold bJ.kY;rw[un n1,ul k2']
  refine cL ?_;cases j1:decide (e.bN=e.part);rotate_left
  ·refine cL ?_;refine ar.ret ?_;refine .inr ⟨rfl,?_⟩;exact zO [.tmp 2] (hq:=by (try simp only[dh,aW]);first | done | (rw[hv,hmid,j1];rfl))
  refine iK ?_;have hr:=hrest _ _ _ _ _ _ _ _ _ _ _ _ _ _ (show e.rest=_ by unfold bJ.rest;rw[un n1,ul k2'])
  have hnm:e.names=[e.bN,e.slot]:=by unfold bJ.names;rw[un n1,ul k2']
  refine .inl ⟨rfl,by rw[hmid,j1];rfl,?_⟩;rw[hr,hnm];exact Fg.trans (Fg.freeze (f':=[(3,.sl 2 1 [ae e.bN,ae e.slot]),(4,.ptr 2 0)]) 3 rfl (λh=>by cases h) zG) zH
 have n2:=wt k2;refine iK ?_;cases k6:decide (e.op=6);rotate_left
 ·have k6':=ww k6
  have hmid:e.kY=(!(decide (e.value=[]))&&!(decide (200<(e.value.length:Int)))):=by unfold bJ.kY;rw[un n1,un n2,ul k6']
  refine zY ?_;cases j1:decide (e.value=[]);rotate_left
  ·refine aC j1 ?_;refine cL ?_;refine ar.ret ?_;refine .inr ⟨rfl,?_⟩;exact zO [.tmp 2] (hq:=by (try simp only[dh,aW]);first | done | (rw[hv,hmid,j1];rfl))
  cases j2:decide (200<(e.value.length:Int));rotate_left
  ·refine zs ?_;refine ar.r0 (by rfl) (by simp only[bP,bg,ak,aw,aj,al,↓reduceIte,aa,ad,af,ac,ap,ai,an,aU,j1,j2];first | done | rfl) ?_;refine cL ?_;refine ar.ret ?_;refine .inr ⟨rfl,?_⟩;exact zO [.tmp 2] (hq:=by (try simp only[dh,aW]);first | done | (rw[hv,hmid,j1,j2];rfl))
  refine zs ?_;refine ar.r0 (by rfl) (by simp only[bP,bg,ak,aw,aj,al,↓reduceIte,aa,ad,af,ac,ap,ai,an,aU,j1,j2];first | done | rfl) ?_;refine iK ?_;have hr:=hrest _ _ _ _ _ _ _ _ _ _ _ _ _ _ (show e.rest=_ by unfold bJ.rest;rw[un n1,un n2,ul k6'])
  have hnm:e.names=[e.key]:=by unfold bJ.names;rw[un n1,un n2,ul k6']
  refine .inl ⟨rfl,by rw[hmid,j1,j2];rfl,?_⟩;rw[hr,hnm];exact Fg.trans (Fg.freeze (f':=[(3,.sl 1 1 [ae e.key]),(4,.ptr 2 0)]) 3 rfl (λh=>by cases h) zG) zH
 have n6:=wt k6
 have hnm:e.names=[]:=by unfold bJ.names;rw[un n1,un n2,un n6]
 refine iK ?_;cases k4:decide (e.op=4)
 ·have n4:=wt k4;refine zN ?_;have hr:=hrest _ _ _ _ _ _ _ _ _ _ _ _ _ _ (show e.rest=_ by unfold bJ.rest;rw[un n1,un n2,un n6,un n4]);refine .inl ⟨rfl,by unfold bJ.kY;rw[un n1,un n2,un n6,un n4],?_⟩;rw[hr,hnm];exact Fg.trans (Fg.freeze (f':=[(3,.sl 0 1 []),(4,.ptr 2 0)]) 1 rfl (λh=>by cases h) zG) zH
 have k4':=ww k4
 have hmid:e.kY=e.use:=by unfold bJ.kY;rw[un n1,un n2,un n6,ul k4']
 refine zY ?_;refine ar.fg (Fg.freeze (f':=[(1,.ip (aF e)),(3,.buf 1 0 1 (some 0)),(4,.ptr 2 0)]) 0 rfl (λh=>by cases h) (rK @aF.eq_1)) ?_;refine gG @aF.eq_1 ?_;refine zK (AJ (ab e.u1) (ab e.u2) (ab e.u3) (ab e.u4) (ab e.u5) (ab e.u6)) ?_ (hfl:=.inr (bp.refl rfl));refine zR ?_
 (repeat refine ar.seq ?_)
 refine ar.block (ar.loop (λm st=>∃k:Nat,k<=3/\m=3-k/\(0<k->jQ e.u1 e.u2=true)/\(1<k->jQ e.u3 e.u4=true)/\(2<k->jQ e.u5 e.u6=true)/\st=⟨[(3,.buf 1 0 1 (some 0)),(4,.ptr 2 0),(73,.ag [.ip [ab e.u1,ab e.u2,ab e.u3,ab e.u4,ab e.u5,ab e.u6],.ip [ab e.u3,ab e.u4,ab e.u5,ab e.u6],.ip [ab e.u5,ab e.u6]]),(74,ab k)],111,[.gone,.cells [],.cells [ab 0,ab 0,ae [],ae e.kind,ae e.bN,ae e.slot,ae e.key,ae e.value,ab e.u1,ab e.u2,ab e.u3,ab e.u4,ab e.u5,ab e.u6]],[]⟩) 3 zH ⟨0,by omega,rfl,λh=>t8 h (by omega),λh=>t8 h (by omega),λh=>t8 h (by omega),rfl⟩ (by rintro m st ⟨k,_,_,_,_,_,rfl⟩;rfl) ?_);rintro m st ⟨k,hk,rfl,u1,u2,u3,rfl⟩;refine zV ?_;by_cases hlt:k<3;rotate_left
 ·obtain rfl:k=3:=by omega
  refine dZ ?_;refine aC (show du Tryz.prog 56=some (.agg [.int .i64 0,.int .i64 0,.int .i64 0,.int .i64 0,.int .i64 0,.int .i64 0]) by simp only[aw]) ?_;have hr:=hrest _ _ _ _ _ _ _ _ _ _ _ _ _ _ (show e.rest=_ by unfold bJ.rest;rw[un n1,un n2,un n6,ul k4']);refine .inl ⟨rfl,by rw[hmid,bJ.use,u1 (by omega),u2 (by omega),u3 (by omega)];rfl,?_⟩;rw[hr,hnm];exact Fg.trans (Fg.freeze (f':=[(3,.sl 0 1 []),(4,.ptr 2 0)]) 1 rfl (λh=>by cases h) zG) zH
 rw[show decide ((k:Int)<3)=true by simp only[wr];omega]
 obtain⟨a,b,l,hab,hno,hyes⟩:∃(a b:Int) (l:List SV),([.ip [ab e.u1,ab e.u2,ab e.u3,ab e.u4,ab e.u5,ab e.u6],.ip [ab e.u3,ab e.u4,ab e.u5,ab e.u6],.ip [ab e.u5,ab e.u6]]:List SV)[k*1]?=some (.ip (ab a::ab b::l))/\(jQ a b=false->e.use=false)/\(jQ a b=true->(0<k+1->jQ e.u1 e.u2=true)/\(1<k+1->jQ e.u3 e.u4=true)/\(2<k+1->jQ e.u5 e.u6=true)):=by
  have:k=0\/k=1\/k=2:=by omega
  rcases this with rfl | rfl | rfl
  ·exact⟨_,_,_,rfl,λh=>by rw[bJ.use,h];rfl,λh=>⟨λ_=>h,λh=>by omega,λh=>by omega⟩⟩
  ·exact⟨_,_,_,rfl,λh=>by rw[bJ.use,h,bb,ba],λh=>⟨λ_=>u1 (by omega),λ_=>h,λh=>by omega⟩⟩
  ·exact⟨_,_,_,rfl,λh=>by rw[bJ.use,h,ba,ba],λh=>⟨λ_=>u1 (by omega),λ_=>u2 (by omega),λ_=>h⟩⟩
 refine eQ ?_;refine zs ?_;refine ar.r0 (by rfl) (by simp only[bP,bg,ak,aw,aj,al,↓reduceIte,aa,ad,af,ac,ap,ai,an,aU,hlt,hab];first | done | rfl) ?_;cases c1:decide (a<0);rotate_left
 ·refine zs ?_;refine oz [0,1,3,7,15,31,63,127,255,511,63,1087,3135,7231,16383,32767,65535,131071,262143,524287,1048575,2097151,4194303] ?_;refine ni c1 ?_;refine zM ?_;refine cL ?_;refine ar.ret ?_;refine .inr ⟨rfl,?_⟩;exact zO [.tmp 2] (hq:=by (try simp only[dh,aW]);first | done | (rw[hv,hmid,hno (by simp[jQ,ww c1])];rfl))
 cases c2:decide (b<a);rotate_left
 ·refine zs ?_;refine oz [0,1,3,7,15,31,63,127,255,511,63,1087,3135,7231,16383,32767,65535,131071,262143,524287,1048575,2097151,4194303] ?_
  (repeat (first | refine SD.r (by rfl) rfl (by rfl) (by rfl) (by simp only[bP,bg,ak,aw,aj,al,↓reduceIte,aa,ad,af,ac,ap,ai,an,aU,c1,c2];first | done | rfl) ?_ | refine SD.s (by rfl) rfl (by rfl) (by rfl) ?_ | fail))
  refine zM ?_;refine cL ?_;refine ar.ret ?_;refine .inr ⟨rfl,?_⟩;exact zO [.tmp 2] (hq:=by (try simp only[dh,aW]);first | done | (rw[hv,hmid,hno (by simp[jQ,ww c2])];rfl))
 cases c3:decide (1000000<b);rotate_left
 ·refine zs ?_;refine oz [0,1,3,7,15,31,63,127,255,511,63,1087,3135,7231,16383,32767,65535,131071,262143,524287,1048575,2097151,4194303] ?_;refine ni (n3 c1 c2 c3) ?_;refine zM ?_;refine cL ?_;refine ar.ret ?_;refine .inr ⟨rfl,?_⟩;exact zO [.tmp 2] (hq:=by (try simp only[dh,aW]);first | done | (rw[hv,hmid,hno (by simp[jQ,ww c3])];rfl))
 refine zs ?_;refine oz [0,1,3,7,15,31,63,127,255,511,63,1087,3135,7231,16383,32767,65535,131071,262143,524287,1048575,2097151,4194303] ?_;refine ni (n3 c1 c2 c3) ?_;refine zM ?_;refine zN ?_;obtain⟨y1,y2,y3⟩:=hyes (by rw[jQ,c1,c2,c3];rfl);refine aC (p9 (show -9223372036854775808<=(k:Int)+1/\(k:Int)+1<=9223372036854775807 from⟨by omega,by omega⟩)) ?_;refine⟨3-(k+1),_,by omega,zH,k+1,by omega,rfl,y1,y2,y3,rfl⟩
def II(a b:List Nat):List Nat:=cond (gJ a b||uN a b) a b
def IG(a b:List Nat):List Nat:=cond (gJ a b) b a
def cO(e:bJ):List (List Nat):=if gM e=false then [] else if e.op=2 then [II e.part e.bN,IG e.part e.bN] else [e.part]
def Qh(a b:List Nat):sH false (.str a) (.str b)=some (.str (II a b)):=rfl
def Qd(a b:List Nat):sH true (.str a) (.str b)=some (.str (IG a b)):=rfl
def uF(e:bJ)(he:p8 e):PC Tryz.prog 206 [.ag (aF e)] (·=ak 1 (Proofs.cO e) (aA ae)):=by
 refine pB 25 Tryz.func206 ?_;refine aC @aF.eq_1 ?_;refine zB ?_;refine zC ?_;refine zK (qU e he) ?_;cases h1:gM e
 ·refine zR ?_;refine cL ?_;exact zo [.tmp 2] (r:=.sl 0 1 []) (hw:=zv) (hq:=by rw[Proofs.cO,ul h1];rfl)
 refine zR ?_;refine iK ?_;cases h2:decide (e.op=2)
 ·refine iK ?_;exact zo [.tmp 2] (r:=.sl 1 1 [ae e.part]) (hw:=zv) (hq:=by rw[Proofs.cO,un (by rw[h1];decide),un (wt h2)];rfl)
 ·refine zY ?_;refine aC (n2 @Qh @Qd) ?_;exact zo [.tmp 2] (r:=.sl 2 1 [ae (II e.part e.bN),ae (IG e.part e.bN)]) (hw:=zv) (hq:=by rw[Proofs.cO,un (by rw[h1];decide),ul (ww h2)];rfl)
structure bu where
 opts:List bJ
 qi:Bool
def aD(r:bu):List SV:=[ak 14 r.opts aF,az r.qi]
structure ea (r:bu):Prop where
 len:r.opts.length<=1000000
 ev:∀e∈r.opts,p8 e
def Sc(e:bJ):AV:=.agg e.av
def AN{S:List SO}{o:Nat}{l:List (bJ×Bool)}(a1 a2:Int)(a3 a4 a5 a6 a7 a8:List Nat)(a9 a10 a11 a12 a13 a14:Int)(ok:Bool)(hS:S[o]?=some (bz Sc az l)):dW Tryz.prog S 118 (.map o) (.ag [ab a1,ab a2,ae a3,ae a4,ae a5,ae a6,ae a7,ae a8,ab a9,ab a10,ab a11,ab a12,ab a13,ab a14]) ok=some (cond ok (.bE [az (getM false (⟨a1,a2,a3,a4,a5,a6,a7,a8,a9,a10,a11,a12,a13,a14⟩:bJ) l),az (dy (⟨a1,a2,a3,a4,a5,a6,a7,a8,a9,a10,a11,a12,a13,a14⟩:bJ) l)]) (az (getM false (⟨a1,a2,a3,a4,a5,a6,a7,a8,a9,a10,a11,a12,a13,a14⟩:bJ) l))):=
 Ce (uv:=az) (u0:=false) (k:=(⟨a1,a2,a3,a4,a5,a6,a7,a8,a9,a10,a11,a12,a13,a14⟩:bJ)) (kt:=58) (et:=4) (z:=.bool false) (by simp only[aw]) Hk (by simp only[aw]) rfl hS rfl ok
def MS{S:List SO}{o:Nat}{l:List (bJ×Bool)}(a1 a2:Int)(a3 a4 a5 a6 a7 a8:List Nat)(a9 a10 a11 a12 a13 a14:Int)(u:Bool)(hS:S[o]?=some (bz Sc az l)):fv Tryz.prog S 118 (.map o) (.ag [ab a1,ab a2,ae a3,ae a4,ae a5,ae a6,ae a7,ae a8,ab a9,ab a10,ab a11,ab a12,ab a13,ab a14]) (.a (.bool u))=some (S.set o (bz Sc az (cw (⟨a1,a2,a3,a4,a5,a6,a7,a8,a9,a10,a11,a12,a13,a14⟩:bJ) u l))):=
 GG (uv:=az) (k:=(⟨a1,a2,a3,a4,a5,a6,a7,a8,a9,a10,a11,a12,a13,a14⟩:bJ)) (kt:=58) (et:=4) (by simp only[aw]) Hk hS rfl u
def RD{n:Nat}{l:List (bJ×Bool)}:bQ n (bz Sc az l)=bz Sc az l:=kM λ_=>jo _
def qG:List (bJ×Bool)->List bJ->Bool
 | _,[]=>true
 | seen,e::es=>!(getM false e seen||!gM e)&&qG (cw e true seen) es
def fR(r:bu):Bool:=!(decide ((r.opts.length:Int)=0))&&(!(decide (4<(r.opts.length:Int)))&&qG [] r.opts)
set_option maxHeartbeats 1000000 in
def nS(r:bu)(hr:ea r):PC Tryz.prog 20 [.ag (aD r)] (·=az (Proofs.fR r)):=by
 have hlen:=hr.len;refine pB 35 Tryz.func20 ?_;refine aC @aD.eq_1 ?_;cases h1:decide ((r.opts.length:Int)=0);rotate_left
 ·refine aC h1 ?_;refine cL ?_;exact zo [.tmp 2] (hq:=by rw[Proofs.fR,h1];rfl)
 cases h2:decide (4<(r.opts.length:Int));rotate_left
 ·refine aC (n2 h1 h2) ?_;refine cL ?_;exact zo [.tmp 2] (hq:=by rw[Proofs.fR,h1,h2];rfl)
 refine aC (n2 h1 h2) ?_;refine zN ?_
 have hv:Proofs.fR r=qG [] r.opts:=by rw[Proofs.fR,h1,h2];rfl
 refine lC ?_;refine zs ?_;refine MX r.opts (λk (seen:List (bJ×Bool))=>qG [] r.opts=qG seen (r.opts.drop k)) (λk seen=>[(3,.map 1),(18,ak 14 r.opts aF),(19,ab r.opts.length),(20,ab k)]) (λk seen=>[.gone,bz Sc az seen]) ([]) zH (by rfl) ?_;intro k seen hk hall;refine zT r.opts k ?_ ?_;rintro rfl;rotate_left;intro e hx hlt;rotate_left
 ·refine dZ ?_;refine zV ?_;exact zo [.tmp 2] (hq:=by rw[hv,hall,aS];rfl)
 have no:qG seen (r.opts.drop k)=false->Proofs.fR r=false:=λh=>by rw[hv,hall,h]
 rw[ft hx] at no hall;have he:=hr.ev e (mem_iff_getElem?.2 ⟨k,hx⟩);refine eQ ?_;refine aC (n4 hlt (aG (e:=14) (enc:=aF) (λ_=>rfl) hx) @aF.eq_1 @RD) ?_;cases g1:getM false e seen;rotate_left
 ·have g1':getM false (⟨e.op,e.day,e.part,e.kind,e.bN,e.slot,e.key,e.value,e.u1,e.u2,e.u3,e.u4,e.u5,e.u6⟩:bJ) seen=true:=g1;refine zs ?_;refine ar.r0 (by rfl) (by simp only[bP,bg,ak,aw,aj,al,↓reduceIte,aa,ad,af,ac,ap,ai,an,aU,AN (l:=seen),g1'];first | done | rfl) ?_;refine zs ?_;refine ar.yes rfl ?_;(try (refine ar.skip ?_;try change ar _ _ _ _ _));refine zs ?_;refine ar.r0 (by rfl) zl ?_;refine zE ?_;exact sf.of (rs:=[.tmp 2]) rfl rfl zl (Wk.refl rfl) (by (try simp only[dh,aW]);first | done | (rw[no (by simp[qG,g1])]))
 have g1':getM false (⟨e.op,e.day,e.part,e.kind,e.bN,e.slot,e.key,e.value,e.u1,e.u2,e.u3,e.u4,e.u5,e.u6⟩:bJ) seen=false:=g1;refine zs ?_;refine ar.Pz (by rfl) (by simp only[bP,bg,ak,aw,aj,al,↓reduceIte,aa,ad,af,ac,ap,ai,an,aU,AN (l:=seen),g1'];first | done | rfl) ?_;refine zK (qU e he) ?_;cases g2:gM e
 ·refine zR ?_;refine cL ?_;exact zo [.tmp 2] (hq:=by rw[no (by simp[qG,g2])])
 refine zR ?_;refine zN ?_
 have hn:qG [] r.opts=qG (cw e true seen) (r.opts.drop (k+1)):=by rw[hall,qG,g1,g2];rfl
 refine zs ?_;refine ar.r0 (by rfl) (by simp only[bP,bg,ak,aw,aj,al,↓reduceIte,aa,ad,af,ac,ap,ai,an,aU,MS (l:=seen)];first | done | rfl) ?_;refine aC (zi hlt hlen) ?_;refine H3 hlt (cw e true seen) zH hn
def bF(r:bu):Int:=if fR r=false then 0 else if r.qi=true then (r.opts.length:Int)+1 else r.opts.length
def iJ(r:bu)(hr:ea r):PC Tryz.prog 108 [.ag (aD r)] (·=ab (bF r)):=by
 refine pB 17 Tryz.func108 ?_;have hlen:=hr.len;refine aC @aD.eq_1 ?_;refine zB ?_;refine zC ?_;refine zK (nS r hr) ?_;cases h1:Proofs.fR r
 ·refine zR ?_;refine cL ?_;exact zo [.tmp 2] (hq:=by rw[bF,ul h1])
 refine zR ?_;refine iK ?_;cases h2:r.qi
 ·refine iK ?_;exact zo [.tmp 2] (hq:=by rw[bF,un (by rw[h1];decide),un (by rw[h2];decide)])
 ·refine zY ?_;refine zs ?_;refine ar.r0 (by rfl) (gQ (bA (r.opts.length:Int) 1 (by omega))) ?_;exact zo [.tmp 2] (hq:=by rw[bF,un (by rw[h1];decide),ul h2])
structure bO where
 key:List Nat
 value:List Nat
structure aH where
 name:List Nat
 kind:List Nat
 bN:List Nat
 slot:List Nat
 made:Int
 since:Int
 eI:Bool
 props:List bO
 l1:Int
 l2:Int
 l3:Int
 l4:Int
 l5:Int
 l6:Int
def au(p:bO):List SV:=[ae p.key,ae p.value]
def ah(p:aH):List SV:=[ae p.name,ae p.kind,ae p.bN,ae p.slot,ab p.made,ab p.since,az p.eI,ak 2 p.props au,ab p.l1,ab p.l2,ab p.l3,ab p.l4,ab p.l5,ab p.l6]
def aH.zero:aH:=⟨[],[],[],[],0,0,false,[],0,0,0,0,0,0⟩
def kS:List (List Nat)->Bool
 | a::b::r=>gJ a b&&kS (b::r)
 | _=>true
def zJ:∀{l:List (List Nat)},(∀(i:Nat) a b,l[i]?=some a->l[i+1]?=some b->gJ a b=true)->kS l=true
 | [],_=>rfl
 | [_],_=>rfl
 | a::b::r,h=>by
  rw[kS,h 0 a b rfl rfl,bd];exact zJ λi x y h1 h2=>h (i+1) x y h1 h2
def DO:∀{l:List (List Nat)} {i:Nat} {a b:List Nat},l[i]?=some a->l[i+1]?=some b->gJ a b=false->kS l=false
 | [],i,_,_,h,_,_=>by simp at h
 | [_],i,_,_,_,h,_=>by simp at h
 | x::y::r,0,a,b,h1,h2,h3=>by cases h1;cases h2;rw[kS,h3];rfl
 | x::y::r,i+1,a,b,h1,h2,h3=>by
  rw[kS,DO (l:=y::r) (i:=i) h1 h2 h3,ba]
def Dk{α β:Type}{f:α->β}{l:List α}{i:Nat}{b:β}(h:(l.map f)[i]?=some b):∃a,l[i]?=some a/\f a=b:=by
 rw[aR] at h;obtain⟨a,h1,h2⟩:=aq h;exact⟨a,h1,h2⟩
def uB(s:List Nat):PC Tryz.prog 184 [.ag (ae s::bi 1 .any)] (·=ae s):=by
 refine pB 5 Tryz.func184 ?_;refine aC qK ?_;refine zV ?_;refine zE ?_;exact sf.of (rs:=[.tmp 2]) rfl rfl zl (Wk.refl rfl) zq
def EB(l:List bO)(hlen:l.length<=1000000):PC Tryz.prog 183 [ak 2 l au,.fn 184 [] []] (·=az (kS (l.map bO.key))):=by
 refine pB 26 Tryz.func183 ?_;refine lC ?_
 (repeat refine ar.seq ?_)
 refine ar.block (ar.loop (λm st=>∃k:Nat,1<=k/\m=l.length-k/\(∀(i:Nat) a b,i+1<k->l[i]?=some a->l[i+1]?=some b->gJ a.key b.key=true)/\st=⟨[(0,ak 2 l au),(1,.fn 184 [] []),(5,ab k)],26,[],[]⟩) (l.length-1) zH ⟨1,by omega,rfl,λi a b h=>t8 h (by omega),rfl⟩ (by rintro m st ⟨k,_,_,_,rfl⟩;rfl) ?_);rintro m st ⟨k,hk,rfl,hall,rfl⟩;refine zV ?_;by_cases hlt:k<l.length;rotate_left
 ·rw[show decide ((k:Int)<(l.length:Int))=false by simp only[wp];omega];refine dZ ?_;refine zV ?_
  exact zo [.tmp 4] (hq:=by rw[zJ λi a b h1 h2=>by
   obtain⟨x,hx,rfl⟩:=Dk h1;obtain⟨y,hy,rfl⟩:=Dk h2
   exact hall i x y (by have:=bD hy;omega) hx hy])
 rw[show decide ((k:Int)<(l.length:Int))=true by simp only[wr];omega];obtain⟨j,rfl⟩:∃j,k=j+1:=⟨k-1,by omega⟩;obtain⟨x,hx⟩:∃x,l[j]?=some x:=⟨l[j],ay (by omega)⟩;obtain⟨y,hy⟩:∃y,l[j+1]?=some y:=⟨l[j+1],ay hlt⟩
 have hj:j<l.length:=by omega
 refine eQ ?_;refine zs ?_;refine oz [0,0,0,4,14,30,63,0,0,0,768,1792,4095,8191] ?_
 (repeat (first | refine SD.r (by rfl) rfl (by rfl) (by rfl) (gQ (n5 (bS (((j+1:Nat):Int)) 1 (by omega)) (show((j+1:Nat):Int)-1=(j:Int) from by omega) hj (aG (e:=2) (enc:=au) (λ_=>rfl) hx) @au.eq_1)) ?_ | refine SD.s (by rfl) rfl (by rfl) (by rfl) ?_ | fail))
 refine SD.k (by rfl) rfl rfl (by rfl) rfl rfl zc (uB x.key) (.cons (.ag (.cons (.a _) (.cons (.any _) .nil))) .nil) rfl ?_;refine ni (n3 hlt (aG (e:=2) (enc:=au) (λ_=>rfl) hy) @au.eq_1) ?_;refine SD.k (by rfl) rfl rfl (by rfl) rfl rfl zc (uB y.key) (.cons (.ag (.cons (.a _) (.cons (.any _) .nil))) .nil) rfl ?_;refine ni @td ?_;refine zM ?_;cases g:gJ x.key y.key
 ·refine cL ?_;exact zo [.tmp 4] (hq:=by rw[DO (i:=j) (a:=x.key) (b:=y.key) (by rw[aR,hx];rfl) (by rw[aR,hy];rfl) g])
 ·refine zN ?_;refine zs ?_;refine ar.r0 (by rfl) (gQ (bA (((j+1:Nat):Int)) 1 (by omega))) ?_;refine⟨l.length-(j+1+1),_,by omega,zH,j+1+1,by omega,rfl,?_,rfl⟩;intro i a b hi ha hb;by_cases hij:i=j
  ·subst hij;rw[hx] at ha;rw[hy] at hb;cases ha;cases hb;exact g
  ·exact hall i a b (by omega) ha hb
def uA(s:List Nat):PC Tryz.prog 125 [.ag (ae s::bi 13 .any)] (·=ae s):=by
 refine pB 5 Tryz.func125 ?_;refine aC qK ?_;refine zV ?_;refine zE ?_;exact sf.of (rs:=[.tmp 2]) rfl rfl zl (Wk.refl rfl) zq
def EA(l:List aH)(hlen:l.length<=1000000):PC Tryz.prog 124 [ak 14 l ah,.fn 125 [] []] (·=az (kS (l.map aH.name))):=by
 refine pB 26 Tryz.func124 ?_;refine lC ?_
 (repeat refine ar.seq ?_)
 refine ar.block (ar.loop (λm st=>∃k:Nat,1<=k/\m=l.length-k/\(∀(i:Nat) a b,i+1<k->l[i]?=some a->l[i+1]?=some b->gJ a.name b.name=true)/\st=⟨[(0,ak 14 l ah),(1,.fn 125 [] []),(5,ab k)],26,[],[]⟩) (l.length-1) zH ⟨1,by omega,rfl,λi a b h=>t8 h (by omega),rfl⟩ (by rintro m st ⟨k,_,_,_,rfl⟩;rfl) ?_);rintro m st ⟨k,hk,rfl,hall,rfl⟩;refine zV ?_;by_cases hlt:k<l.length;rotate_left
 ·rw[show decide ((k:Int)<(l.length:Int))=false by simp only[wp];omega];refine dZ ?_;refine zV ?_
  exact zo [.tmp 4] (hq:=by rw[zJ λi a b h1 h2=>by
   obtain⟨x,hx,rfl⟩:=Dk h1;obtain⟨y,hy,rfl⟩:=Dk h2
   exact hall i x y (by have:=bD hy;omega) hx hy])
 rw[show decide ((k:Int)<(l.length:Int))=true by simp only[wr];omega];obtain⟨j,rfl⟩:∃j,k=j+1:=⟨k-1,by omega⟩;obtain⟨x,hx⟩:∃x,l[j]?=some x:=⟨l[j],ay (by omega)⟩;obtain⟨y,hy⟩:∃y,l[j+1]?=some y:=⟨l[j+1],ay hlt⟩
 have hj:j<l.length:=by omega
 refine eQ ?_;refine zs ?_;refine oz [0,0,0,4,14,30,63,0,0,0,768,1792,4095,8191] ?_
 (repeat (first | refine SD.r (by rfl) rfl (by rfl) (by rfl) (gQ (n5 (bS (((j+1:Nat):Int)) 1 (by omega)) (show((j+1:Nat):Int)-1=(j:Int) from by omega) hj (aG (e:=14) (enc:=ah) (λ_=>rfl) hx) @ah.eq_1)) ?_ | refine SD.s (by rfl) rfl (by rfl) (by rfl) ?_ | fail))
 refine SD.k (by rfl) rfl rfl (by rfl) rfl rfl zc (uA x.name) (.cons (.ag (.cons (.a _) (.cons (.any _) (.cons (.any _) (.cons (.any _) (.cons (.any _) (.cons (.any _) (.cons (.any _) (.cons (.any _) (.cons (.any _) (.cons (.any _) (.cons (.any _) (.cons (.any _) (.cons (.any _) (.cons (.any _) .nil))))))))))))))) .nil) rfl ?_;refine ni (n3 hlt (aG (e:=14) (enc:=ah) (λ_=>rfl) hy) @ah.eq_1) ?_;refine SD.k (by rfl) rfl rfl (by rfl) rfl rfl zc (uA y.name) (.cons (.ag (.cons (.a _) (.cons (.any _) (.cons (.any _) (.cons (.any _) (.cons (.any _) (.cons (.any _) (.cons (.any _) (.cons (.any _) (.cons (.any _) (.cons (.any _) (.cons (.any _) (.cons (.any _) (.cons (.any _) (.cons (.any _) .nil))))))))))))))) .nil) rfl ?_;refine ni @td ?_;refine zM ?_;cases g:gJ x.name y.name
 ·refine cL ?_;exact zo [.tmp 4] (hq:=by rw[DO (i:=j) (a:=x.name) (b:=y.name) (by rw[aR,hx];rfl) (by rw[aR,hy];rfl) g])
 ·refine zN ?_;refine zs ?_;refine ar.r0 (by rfl) (gQ (bA (((j+1:Nat):Int)) 1 (by omega))) ?_;refine⟨l.length-(j+1+1),_,by omega,zH,j+1+1,by omega,rfl,?_,rfl⟩;intro i a b hi ha hb;by_cases hij:i=j
  ·subst hij;rw[hx] at ha;rw[hy] at hb;cases ha;cases hb;exact g
  ·exact hall i a b (by omega) ha hb
end Go.Proofs
