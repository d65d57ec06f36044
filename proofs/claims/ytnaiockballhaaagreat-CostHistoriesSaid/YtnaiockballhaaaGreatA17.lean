/- A part of the texts of this claim: every theorem says what it proves, with its conditions. -/
import Derived.Test.YtnaiockballhaaaGreatA16
set_option linter.unusedSimpArgs false
set_option linter.unusedVariables false
set_option linter.unusedSectionVars false
open Option (bind_some map_some)
open Bool (and_eq_true)
open List (getElem?_eq_getElem mem_cons_of_mem mem_cons_self drop_drop length_cons mem_cons map_cons range)
open Nat (le_refl le_of_not_lt sub_zero beq)
namespace Go.Ev
section
variable {P:Program} {ro:Option Nat} {Q:Ex->en->Prop} {f f':Fm} {n:Nat} {S S':List SO} {ds:List jd}
theorem ai.M8{id:Nat}{ops:Array Oper}{l':List Oper}(hs:eH ops.toList n ops.toList=true)(h:kP P ops.toList ops.toList f S=(l',f',S'))(hk:aM P ro ops.toList l' ⟨f',n,S',ds⟩ (Q .normal)):ai P ro (.region id ops false) ⟨f,n,S,ds⟩ Q:=.region (.run hs h hk)
theorem ai.r0{id:Nat}{ops:Array Oper}(hs:eH ops.toList n ops.toList=true)(h:kP P ops.toList ops.toList f S=([],f',S'))(hk:Q .normal ⟨f',n,S',ds⟩):ai P ro (.region id ops false) ⟨f,n,S,ds⟩ Q:=.M8 hs h (.nil hk)
theorem aM.r0{all l:List Oper}{K:en->Prop}(hs:eH all n l=true)(h:kP P all l f S=([],f',S'))(hk:K ⟨f',n,S',ds⟩):aM P ro all l ⟨f,n,S,ds⟩ K:=.run hs h (.nil hk)
theorem aM.k{all:List Oper}{o:Oper}{l:List Oper}{K:en->Prop}{d:Nat}{c:Call}{g:FuncId}{vs ws:List SV}{r:SV}(hst:eH all n [o]=true)(hop:o.op=.call c)(hdst:o.dst=some d)(hw:da all f o.guard=some true)(hdy:kH (.call c)=true)
 (hc:gr P f c=some (g,vs)) (hq:PC P g ws (·=r)) (hwk:bn S vs ws) (hfl:Az r=true\/bn [] vs ws) (hk:aM P ro all l ⟨(d,r)::f,n,S,ds⟩ K):aM P ro all (o::l) ⟨f,n,S,ds⟩ K:=by
 have hd:=(eQ hst).1;rw[hdst] at hd;exact .call hop hdst (ee hst hw) hdy hd hc hq hwk (hfl.imp (λh r hr=>by rw[hr];exact h) id) (λr hr=>by rw[hr];exact hk)
end
theorem Qi:(∀(a:SV) (l:List SV) (i:Nat),(a::l)[i+1]?=l[i]?)/\(∀(a:SV) (l:List SV),(a::l)[0]?=some a)/\(∀(a:AV) (l:List AV) (i:Nat),(a::l)[i+1]?=l[i]?)/\(∀(a:AV) (l:List AV),(a::l)[0]?=some a)/\(∀(a:SO) (l:List SO) (i:Nat),(a::l)[i+1]?=l[i]?)/\(∀(a:SO) (l:List SO),(a::l)[0]?=some a)/\(∀(a:Oper) (l:List Oper) (i:Nat),(a::l)[i+1]?=l[i]?)/\(∀(a:Oper) (l:List Oper),(a::l)[0]?=some a)/\(∀(a:SV) (l:List SV) (i:Nat),(a::l).drop (i+1)=l.drop i)/\(∀l:List SV,l.drop 0=l)/\(∀i:Nat,([]:List SV).drop i=[])/\(∀(i:Nat) (a:SV) (l:List SV),(a::l).take (i+1)=a::l.take i)/\(∀l:List SV,l.take 0=[])/\(∀i:Nat,([]:List SV).take i=[])/\(∀(p:SV->Bool) (a:SV) (l:List SV),(a::l).all p=(p a&&l.all p))/\(∀p:SV->Bool,([]:List SV).all p=true)/\(∀l:List SV,[]++l=l)/\(∀(a:SV) (l m:List SV),(a::l)++m=a::(l++m))/\(∀(a b:SV) (l:List SV),(a::l).set 0 b=b::l)/\(∀(a b:SV) (l:List SV) (i:Nat),(a::l).set (i+1) b=a::l.set i b)/\(∀l:List SO,[]++l=l)/\(∀(a:SO) (l m:List SO),(a::l)++m=a::(l++m))/\(∀(a b:SO) (l:List SO),(a::l).set 0 b=b::l)/\(∀(a b:SO) (l:List SO) (i:Nat),(a::l).set (i+1) b=a::l.set i b)/\(∀(a:SV) (l:List SV),(a::l).length=l.length+1)/\(([]:List SV).length=0)/\(∀(a:SO) (l:List SO),(a::l).length=l.length+1)/\(([]:List SO).length=0)/\(∀(a:AV) (l:List AV),(a::l).length=l.length+1)/\(([]:List AV).length=0):=by
 (repeat' apply And.intro)<;>intros<;>first | rfl | (simp;done) | (unfold o9;rfl)
theorem Qj:(∀(f:AV->SV) (a:AV) (l:List AV),(a::l).map f=f a::l.map f)/\(∀f:AV->SV,([]:List AV).map f=[])/\(∀(f:SV->SV) (a:SV) (l:List SV),(a::l).map f=f a::l.map f)/\(∀f:SV->SV,([]:List SV).map f=[])/\(∀(f:SO->SO) (a:SO) (l:List SO),(a::l).map f=f a::l.map f)/\(∀f:SO->SO,([]:List SO).map f=[])/\(∀(f:(Nat×SV)->(Nat×SV)) (a:(Nat×SV)) (l:List (Nat×SV)),(a::l).map f=f a::l.map f)/\(∀f:(Nat×SV)->(Nat×SV),([]:List (Nat×SV)).map f=[])/\(∀l:List Oper,l.toArray.toList=l)/\(∀l:List Operand,l.toArray.toList=l)/\(∀l:List TypeId,l.toArray.toList=l)/\(∀l:List (Nat×Operand),l.toArray.toList=l)/\(∀l:List ResultVar,l.toArray.toList=l)/\(∀x y:SV,cond true x y=x)/\(∀x y:SV,cond false x y=y)/\(∀x y:Bool,cond true x y=x)/\(∀x y:Bool,cond false x y=y)/\(∀x y:Option (SV×List SO×Option Nat),cond true x y=x)/\(∀x y:Option (SV×List SO×Option Nat),cond false x y=y)/\(∀x y:Option SV,cond true x y=x)/\(∀x y:Option SV,cond false x y=y)/\(∀x y:Option (List SO),cond true x y=x)/\(∀x y:Option (List SO),cond false x y=y)/\(∀n:Nat,0+n=n)/\(∀n:Nat,n+0=n)/\(∀n:Nat,0*n=0)/\(∀b,(b||false)=b)/\(∀b,(false||b)=b)/\(∀b,(b||true)=true)/\(∀b,(true||b)=true):=by
 (repeat' apply And.intro)<;>intros<;>first | rfl | (simp;done) | (unfold o9;rfl)
theorem Qk:(∀b,(b&&true)=b)/\(∀b,(true&&b)=b)/\(∀b,(b&&false)=false)/\(∀b,(false&&b)=false)/\((!true)=false)/\((!false)=true)/\(∀p:Prop,(p/\True)=p)/\(∀p:Prop,(True/\p)=p)/\((¬False)=True)/\((¬True)=False)/\(∀a b:Nat,(a≠b)=¬(a=b))/\(∀b:Bool,(b=b)=True)/\(∀n:Nat,(n=n)=True)/\((false=true)=False)/\((true=false)=False)/\(∀{α:Type} (p:Prop) [Decidable p] (x:Option α),o9 p x=if p then x else none):=by
 (repeat' apply And.intro)<;>intros<;>first | rfl | (simp;done) | (unfold o9;rfl)
theorem Ql:(∀(k:IntKind) (n:Int),kT kW (.int k n)=some (.int k n))/\(∀b,kT kW (.bool b)=some (.bool b))/\(kT kW (.pointer none)=some (.ptr none))/\(kT kW (.slice none 0 0)=some (.slice none 0 0 (some 0)))/\(kT kW (.map none)=some (.map none))/\(kT kW .nilFunc=some .ga)/\(∀s,kT kW (.string s)=some (.str (s.data.toList.map (·.toNat))))/\(∀l:List UInt8,l.toArray.toList=l)/\(∀(f:UInt8->Nat) (a:UInt8) (l:List UInt8),(a::l).map f=f a::l.map f)/\(∀f:UInt8->Nat,([]:List UInt8).map f=[])/\(∀h:Decidable False,@decide False h=false)/\(∀h:Decidable True,@decide True h=true):=by
 (repeat' apply And.intro)<;>intros<;>first | rfl | (simp;done)
theorem Qm:(∀l:List (Nat×SV),[]++l=l)/\(∀(a:Nat×SV) (l m:List (Nat×SV)),(a::l)++m=a::(l++m))/\(∀z:List AV,rep z 0=[])/\(∀(z:List AV) (n:Nat),rep z (n+1)=z++rep z n)/\(∀l:List AV,[]++l=l)/\(∀(a:AV) (l m:List AV),(a::l)++m=a::(l++m))/\(∀s,(AV.str s).cells=[.str s])/\(∀k n,(AV.int k n).cells=[.int k n])/\(∀b,(AV.bool b).cells=[.bool b])/\(∀o n e c,(AV.slice o n e c).cells=[.slice o n e c])/\(∀o,(AV.ptr o).cells=[.ptr o])/\(∀o,(AV.map o).cells=[.map o])/\(AV.ga.cells=[.ga])/\(AV.vM.cells=[.vM]):=by
 (repeat' apply And.intro)<;>intros<;>first | rfl | (simp;done)
theorem aX:type_of% Qi/\type_of% Qj/\type_of% Qk/\type_of% Ql/\type_of% Qm:=⟨Qi,Qj,Qk,Ql,Qm⟩
theorem cw(k:Nat):((k+1:Nat):Int)=(k:Int)+1:=rfl
theorem dX{k l B:Nat}(h1:k<l)(h2:l<=B)(hB:B<=9223372036854775807) : -9223372036854775808<=(k:Int)+1/\(k:Int)+1<=9223372036854775807:=⟨by omega,by omega⟩
theorem tH.of{P:Program}{fn:Func}{Q:SV->Prop}{e:Ex}{f:Fm}{n:Nat}{S:List SO}{rs:List ResultVar}{vs:List SV}{r:SV}(he:jU e=true)(hr:fn.results.toList=rs)(h:nd P f S rs=some vs)(hw:Wk S (aC vs) r)(hq:Q r):tH P fn Q e ⟨f,n,S,[]⟩:=by
 subst hr;exact⟨he,rfl,vs,r,h,hw,hq⟩
abbrev ak(s:List Nat):SV:=.a (.str s)
abbrev aa(n:Int):SV:=.a (.int .i64 n)
abbrev aA(b:Bool):SV:=.a (.bool b)
def an{α:Type}(e:Nat)(l:List α)(enc:α->List SV):SV:=.sl l.length e (l.flatMap enc)
theorem aH{α:Type}{e:Nat}{enc:α->List SV}(he:∀x,(enc x).length=e):∀{l:List α} {i:Nat} {x:α},l[i]?=some x->((l.flatMap enc).drop (i*e)).take e=enc x
 | [],i,x,h=>by simp at h
 | a::l,0,x,h=>by
  simp only[List.getElem?_cons_zero,Option.some.injEq] at h;subst h;rw[Nat.zero_mul,List.drop_zero,List.flatMap_cons,List.take_append_of_le_length (by rw[he];exact le_refl _),List.take_of_length_le (by rw[he];exact le_refl _)]
 | a::l,i+1,x,h=>by
  simp only[List.getElem?_cons_succ] at h;have ih:=aH he h;rw[List.flatMap_cons,Nat.succ_mul,Nat.add_comm,<-drop_drop,show List.drop e (enc a++l.flatMap enc)=l.flatMap enc from by rw[List.drop_append_of_le_length (by rw[he];exact le_refl _),List.drop_of_length_le (by rw[he];exact le_refl _),List.nil_append]];exact ih
def jf{α:Type}(p:α->Bool)(l:List α):Int:=match l.findIdx? p with
 | some k=>(k:Int)
 | none => -1
theorem mG{α:Type}{p:α->Bool}{l:List α}{k:Nat}{x:α}(h1:l[k]?=some x)(h2:p x=true)(h3:∀(i:Nat) y,i<k->l[i]?=some y->p y=false):jf p l=(k:Int):=by
 have:l.findIdx? p=some k:=by
  rw[List.findIdx?_eq_some_iff_getElem];obtain⟨hlt,he⟩:=List.getElem?_eq_some_iff.1 h1;refine⟨hlt,by rw[he];exact h2,λj hj=>?_⟩;rw[h3 j _ hj (getElem?_eq_getElem (by omega))];decide
 unfold jf;rw[this]
theorem iW{α:Type}{p:α->Bool}{l:List α}(h3:∀(i:Nat) y,i<l.length->l[i]?=some y->p y=false):jf p l = -1:=by
 have:l.findIdx? p=none:=by
  rw[List.findIdx?_eq_none_iff];intro x hx;obtain⟨i,hi⟩:=List.mem_iff_getElem?.1 hx;exact h3 i x (bl hi) hi
 unfold jf;rw[this]
def az{α:Type}(c:α->SV)(x:α):List SV:=[c x]
theorem PC.of{P:Program}{g:FuncId}{aS:List SV}{xs:List AV}{v:AV}(h:∀h,dT P (.func g) xs h (λa h'=>a=v/\h'=h))(hx:∀ρ avs,jH ρ aS avs->avs=xs):PC P g aS (·=.a v):=
 λρ hh avs h1 h2=>by
  have:=hx ρ avs h2;subst this;exact(h hh).mono λa h' ⟨e1,e2⟩=>⟨.a v,ρ,rfl,by rw[e2];exact .refl _ _,λid ob hi=>.inl hi,by rw[GS];exact e1⟩
theorem mc{α:Type}(e:Nat)(l:List α)(enc:α->List SV):an e l enc=.sl l.length e (l.flatMap enc):=rfl
section
variable {P:Program} {K U:Type} [DecidableEq K] {kv:K->AV} {uv:U->SV} {S:List SO} {t kt et:TypeId} {z:AV} {u0:U} {l:List (K×U)} {o:Nat} {x:SV} {k:K}
def bO(kv:K->AV)(uv:U->SV)(l:List (K×U)):SO:=.map (l.map λe=>kv e.1) (l.map λe=>uv e.2) none
abbrev qG(kv:K->AV)(uv:U->SV)(l:List (K×U)):SV:=.im (l.map λe=>kv e.1) (l.map λe=>uv e.2)
theorem nu(hk:wz P kt kv)(k:K):∀(l:List (K×U)) (j:Nat),sa P kt (kv k) (l.map λe=>kv e.1) j=some (rm k l j)
 | [],_=>rfl
 | e::l,j=>by
  rw[map_cons,sa,hk.eq];by_cases h:k=e.1
  ·simp only[h,decide_true,rm,if_true]
  ·simp only[h,decide_false,rm,if_false];exact nu hk k l (j+1)
theorem xL(hm:di P t=some (kt,et))(hk:wz P kt kv)(hz:dm P et=some z)(hu:yT z=uv u0)(hS:rU S x=some (l.map (λe=>kv e.1),l.map λe=>uv e.2)){y:SV}(hf:cH y=some (kv k))(ok:Bool):
 eN P S t x y ok=some (_root_.cond ok (.bI [uv (getM u0 k l),aA (dh k l)]) (uv (getM u0 k l))):=by
 unfold eN;rw[hm,bind_some];simp only;rw[hf,bind_some,hk.ck,ah,hS,bind_some];simp only;rw[nu hk,bind_some]
 cases hp:rm k l 0 with
 | none=>
  have hn:=lK hp;simp only[hz,map_some,sf hn,hn,hu]
 | some i=>
  obtain⟨_,u,h2,h3,_,h5⟩:=j9 hp;rw[sub_zero] at h2;simp only[List.getElem?_map,h2,map_some,h3,h5]
theorem AU(hm:di P t=some (kt,et))(hk:wz P kt kv)(hz:dm P et=some z)(hu:yT z=uv u0)(hS:S[o]?=some (bO kv uv l))(hf:cH x=some (kv k))(ok:Bool):
 eN P S t (.map o) x ok=some (_root_.cond ok (.bI [uv (getM u0 k l),aA (dh k l)]) (uv (getM u0 k l))):=
 xL hm hk hz hu (by simp only[rU,hS,bO]) hf ok
theorem LY(hm:di P t=some (kt,et))(hk:wz P kt kv)(hz:dm P et=some z)(hu:yT z=uv u0)(hf:cH x=some (kv k))(ok:Bool):
 eN P S t (qG kv uv l) x ok=some (_root_.cond ok (.bI [uv (getM u0 k l),aA (dh k l)]) (uv (getM u0 k l))):=
 xL hm hk hz hu (by simp only[qG,rU]) hf ok
theorem EW(hm:di P t=some (kt,et))(hk:wz P kt kv)(hS:S[o]?=some (bO kv uv l))(hf:cH x=some (kv k))(u:U):
 e7 P S t (.map o) x (uv u)=some (S.set o (bO kv uv (dk k u l))):=by
 unfold e7;rw[hm,bind_some];simp only;rw[hf,bind_some,hk.ck,ah,hS];simp only[bO];rw[nu hk,bind_some]
 cases hp:rm k l 0 with
 | none=>
  have hn:=lK hp;simp only[pN hn,List.map_append,map_cons,List.map_nil,Option.map_none]
 | some i=>
  obtain⟨_,u',h2,_,h4,_⟩:=j9 hp;rw[sub_zero] at h2;have h4:=h4 u;rw[sub_zero] at h4;simp only[List.getElem?_map,h2,map_some,bind_some,hk.st,ah,h4,List.map_set]
omit [DecidableEq K] in
theorem lH{n:Nat}(h:∀u,names n (uv u)=false):bP n (bO kv uv l)=bO kv uv l:=by
 simp only[bP,bO,List.map_map]
 congr 1
 refine List.map_congr_left λe _=>?_;simp only[Function.comp,bf,h,ao]
omit [DecidableEq K] in
theorem iL(h:∀u,ld (uv u)=true):∀l:List (K×U),cr (l.map λe=>uv e.2)=true
 | []=>rfl
 | e::l=>by rw[map_cons,cr,h,Bool.true_and];exact iL h l
omit [DecidableEq K] in
theorem tC(h:∀u,ld (uv u)=true)(hS:S[o]?=some (bO kv uv l)):Wk S (.map o) (qG kv uv l):=Wk.map hS (bn.refl (iL h l))
end
theorem LP{P:Program}{kt:TypeId}(h:P.underlying kt=some .string):wz P kt AV.str where
 eq a b:=by unfold kR;rw[h];simp only[mY]
 ck a:=by unfold vJ DL;rw[h]
 st a:=by unfold stays Ck;simp only[lR,Bool.true_and];exact Av _ _
theorem B2{n:Nat}{l:List (List Nat×Bool)}:bP n (bO AV.str aA l)=bO AV.str aA l:=lH λ_=>ko _
theorem Pg{n:Nat}{l:List (List Nat×Int)}:bP n (bO AV.str aa l)=bO AV.str aa l:=lH λ_=>ko _
noncomputable section
inductive Kd where
 | b
 | i (k:IntKind)
 | s
def KR:Kd->AV->Bool
 | .b,.bool _=>true
 | .i k,.int k' _=>xF k k'
 | .s,.str _=>true
 | _,_=>false
def qH:List Kd->List AV->Bool
 | [],[]=>true
 | k::ks,x::xs=>KR k x&&qH ks xs
 | _,_=>false
def xl(P:Program)(rec:TypeId->Option (List Kd)):List Field->Nat->Option (List Kd)
 | [],_=>some []
 | f::fs,off=>cond (!(f.name== "_")&&beq f.offset off) ((rec f.type).bind λks=>(xl P rec fs (off+ks.length)).map λr=>ks++r) none
def uW(P:Program):Nat->TypeId->Option (List Kd)
 | 0,_=>none
 | d+1,t=>match P.underlying t,bW P t with
  | some .bool,some (1,false)=>some [.b]
  | some (.int k),some (1,false)=>some [.i k]
  | some .string,some (1,false)=>some [.s]
  | some (.struct fs),some (n,true)=>cond (P.stoodInHeld t) none ((xl P (uW P d) fs.toList 0).bind λks=>cond (beq ks.length n) (some ks) none)
  | _,_=>none
theorem xG:∀{ks:List Kd} {xs:List AV},qH ks xs=true->xs.length=ks.length
 | [],[],_=>rfl
 | [],_::_,h=>by cases h
 | _::_,[],h=>by cases h
 | k::ks,x::xs,h=>by
  rw[qH,and_eq_true] at h;simp[xG h.2]
theorem re:∀{k1 k2:List Kd} {xs:List AV},qH (k1++k2) xs=true->qH k1 (xs.take k1.length)=true/\qH k2 (xs.drop k1.length)=true
 | [],k2,xs,h=>⟨rfl,h⟩
 | k::k1,k2,[],h=>by cases h
 | k::k1,k2,x::xs,h=>by
  have h:(KR k x&&qH (k1++k2) xs)=true:=h;rw[and_eq_true] at h;obtain⟨h1,h2⟩:=re h.2;exact⟨by show(KR k x&&qH k1 (xs.take k1.length))=true;rw[h.1,h1];rfl,h2⟩
theorem wG(e:AV->AV->Bool):∀(n:Nat) {xs ys:List AV},xs.length=ys.length->hY e xs ys=(hY e (xs.take n) (ys.take n)&&hY e (xs.drop n) (ys.drop n))
 | 0,xs,ys,_=>by rw[List.take_zero,List.take_zero];rfl
 | n+1,[],[],_=>rfl
 | n+1,x::xs,y::ys,h=>by
  have h:xs.length=ys.length:=by simpa using h
  show(e x y&&hY e xs ys)=((e x y&&hY e (xs.take n) (ys.take n))&&hY e (xs.drop n) (ys.drop n));rw[wG e n h,Bool.and_assoc]
 | n+1,[],y::ys,h=>by simp at h
 | n+1,x::xs,[],h=>by simp at h
section
variable {P:Program}
def EqAt(P:Program)(d:Nat)(t:TypeId)(ks:List Kd):Prop:=
 (∃k,ks=[k]/\bW P t=some (1,false)/\∀x y,KR k x=true->KR k y=true->kR P d t x y=some (gx x y)/\DL P d t x=true)\/
 (bW P t=some (ks.length,true)/\∀xs ys,qH ks xs=true->qH ks ys=true->kR P d t (.agg xs) (.agg ys)=some (hY gx xs ys)/\DL P d t (.agg xs)=true)
theorem AA{d:Nat}(hrec:∀t ks,uW P d t=some ks->EqAt P d t ks):∀{fs:List Field} {off:Nat} {ks:List Kd},xl P (uW P d) fs off=some ks->∀xs ys,xs.length=ys.length->off+ks.length=xs.length->qH ks (xs.drop off)=true->qH ks (ys.drop off)=true->
 eqFields P (kR P d) fs xs ys=some (hY gx (xs.drop off) (ys.drop off))/\nq P (DL P d) fs xs=true
 | [],off,ks,h,xs,ys,hl,hle,h1,h2=>by
  simp only[xl,Option.some.injEq] at h;subst h;have e1:xs.drop off=[]:=List.drop_of_length_le (by simp at hle;omega);have e2:ys.drop off=[]:=List.drop_of_length_le (by simp at hle;omega);rw[e1,e2];exact⟨rfl,rfl⟩
 | f::fs,off,ks,h,xs,ys,hl,hle,h1,h2=>by
  simp only[xl] at h;obtain⟨hb,h⟩:=aK h;rw[Bool.and_eq_true] at hb;have hoff:=cP hb.2
  have hnm:(f.name== "_")=false:=by have:=hb.1;cases hq:(f.name== "_");rfl;rw[hq] at this;cases this
  obtain⟨k1,hk1,h⟩:=Option.bind_eq_some_iff.1 h;obtain⟨r,hr,rfl⟩:=au h;obtain⟨a1,a2⟩:=re h1;obtain⟨b1,b2⟩:=re h2;rw[List.drop_drop] at a2 b2;rw[List.length_append] at hle;obtain⟨ih1,ih2⟩:=AA hrec hr xs ys hl (by omega) a2 b2;have hs:=wG gx k1.length (xs:=xs.drop off) (ys:=ys.drop off) (by rw[List.length_drop,List.length_drop,hl]);rw[List.drop_drop,List.drop_drop] at hs
  have hpart:∃p q,dI P f.type xs f.offset=some p/\dI P f.type ys f.offset=some q/\kR P d f.type p q=some (hY gx ((xs.drop off).take k1.length) ((ys.drop off).take k1.length))/\DL P d f.type p=true:=by
   rw[hoff]
   rcases hrec _ _ hk1 with⟨k,rfl,hz,hq⟩ | ⟨hz,hq⟩
   ·obtain⟨z1,z2⟩:=tv hz;simp only[List.length_cons,List.length_nil,Nat.zero_add] at hle a1 b1 ⊢;obtain⟨x,hx⟩:∃x,xs[off]?=some x:=⟨xs[off],List.getElem?_eq_getElem (by omega)⟩;obtain⟨y,hy⟩:∃y,ys[off]?=some y:=⟨ys[off],List.getElem?_eq_getElem (by omega)⟩
    have ex:(xs.drop off).take 1=[x]:=by rw[List.take_one,List.head?_drop,hx];rfl
    have ey:(ys.drop off).take 1=[y]:=by rw[List.take_one,List.head?_drop,hy];rfl
    rw[ex] at a1;rw[ey] at b1;simp only[qH,Bool.and_true] at a1 b1;obtain⟨q1,q2⟩:=hq x y a1 b1;refine⟨x,y,?_,?_,?_,q2⟩
    ·unfold dI;rw[z1];exact hx
    ·unfold dI;rw[z1];exact hy
    ·rw[ex,ey,q1];simp only[hY,Bool.and_true]
   ·obtain⟨z1,z2⟩:=tv hz;obtain⟨q1,q2⟩:=hq _ _ a1 b1;refine⟨_,_,?_,?_,q1,q2⟩
    ·unfold dI;rw[z1];simp only;rw[z2,Option.bind_some,ek (by simp only;omega),ah]
    ·unfold dI;rw[z1];simp only;rw[z2,Option.bind_some,ek (by simp only;omega),ah]
  obtain⟨p,q,g1,g2,g3,g4⟩:=hpart;refine⟨?_,?_⟩
  ·unfold eqFields;rw[hnm,ao,g1,g2];simp only;rw[g3,hs];cases hY gx ((xs.drop off).take k1.length) ((ys.drop off).take k1.length)
   ·rfl
   ·simp only[Bool.true_and];exact ih1
  ·unfold nq;rw[hnm,g1];simp only;rw[g4,ih2];rfl
theorem xm:∀(d:Nat) (t:TypeId) (ks:List Kd),uW P d t=some ks->EqAt P d t ks
 | 0,t,ks,h=>by simp[uW] at h
 | d+1,t,ks,h=>by
  unfold uW at h;split at h
  ·rename_i hu hz;cases h;refine .inl ⟨.b,rfl,hz,λx y hx hy=>?_⟩
   cases x<;>first | (simp[KR] at hx;done) | skip
   cases y<;>first | (simp[KR] at hy;done) | skip
   rename_i a b;constructor
   ·unfold kR;rw[hu];simp only[gx];cases a<;>cases b<;>rfl
   ·unfold DL;rw[hu]
  ·rename_i k hu hz;cases h;refine .inl ⟨.i k,rfl,hz,λx y hx hy=>?_⟩
   cases x<;>first | (simp[KR] at hx;done) | skip
   cases y<;>first | (simp[KR] at hy;done) | skip
   rename_i k1 a k2 b;simp only[KR] at hx hy
   have e1:k=k1:=by cases k<;>cases k1<;>first | rfl | cases hx
   have e2:k=k2:=by cases k<;>cases k2<;>first | rfl | cases hy
   subst e1;subst e2;constructor
   ·unfold kR;rw[hu];simp only[gx,hx,ah,Bool.true_and]
   ·unfold DL;rw[hu]
  ·rename_i hu hz;cases h;refine .inl ⟨.s,rfl,hz,λx y hx hy=>?_⟩
   cases x<;>first | (simp[KR] at hx;done) | skip
   cases y<;>first | (simp[KR] at hy;done) | skip
   constructor
   ·unfold kR;rw[hu];rfl
   ·unfold DL;rw[hu]
  ·rename_i fs n hu hz;cases hst:P.stoodInHeld t
   ·rw[hst,ao] at h;obtain⟨ks',hk,h⟩:=Option.bind_eq_some_iff.1 h;obtain⟨hn,h⟩:=aK h;cases h;have hn:=cP hn;subst hn;refine .inr ⟨hz,λxs ys hx hy=>?_⟩;have l1:=xG hx;have l2:=xG hy;obtain⟨r1,r2⟩:=AA (xm d) hk xs ys (by omega) (by omega) hx hy;constructor
    ·unfold kR;rw[hu];simp only;rw[hst,ao];exact r1
    ·unfold DL;rw[hu];exact r2
   ·rw[hst] at h;cases h
  ·cases h
theorem AN{K:Type}[DecidableEq K]{t:TypeId}{ks:List Kd}{cells:K->List AV}(hf:uW P 4 t=some ks)(ha:(bW P t).map (·.2)=some true)(hk:∀a,qH ks (cells a)=true)(he:∀a b,hY gx (cells a) (cells b)=decide (a=b))(hfl:∀a,(cells a).all lR=true):wz P t λa=>.agg (cells a):=by
 have key:∀a b,kR P 4 t (.agg (cells a)) (.agg (cells b))=some (decide (a=b))/\DL P 4 t (.agg (cells a))=true:=by
  intro a b
  rcases xm 4 t ks hf with⟨k,rfl,hz,_⟩ | ⟨_,hq⟩
  ·rw[hz] at ha;cases ha
  ·rw[<-he a b];exact hq _ _ (hk a) (hk b)
 refine⟨λa b=>(key a b).1,λa=>(key a a).2,λa=>?_⟩;unfold stays Ck;show((cells a).all lR&&gy 3 (.agg (cells a)) (.agg (cells a)))=true;rw[hfl a,Bool.true_and];refine JS _ _ ?_
 have:∀l:List AV,l.all lR=true->hY (gy 2) l l=true:=by
  intro l
  induction l with
  | nil=>intro _;rfl
  | cons x l ih=>
   intro h;rw[List.all_cons,and_eq_true] at h;show(gy 2 x x&&hY (gy 2) l l)=true;rw[ih h.2,Bool.and_true]
   cases x<;>first | (cases h.1;done) | exact GF _ _ | exact JT _ _ _ | exact Av _ _
 exact this _ (hfl a)
theorem Du{t:TypeId}{ks:List Kd}{xs ys:List AV}{b:Bool}(hg:P.eqGuardType P.depth t=false)(hf:uW P 8 t=some ks)(ha:(bW P t).map (·.2)=some true)(hx:qH ks xs=true)(hy:qH ks ys=true)(he:hY gx xs ys=b):cM P .eql t (.agg xs) (.agg ys)=some (.bool b):=by
 have:kR P 8 t (.agg xs) (.agg ys)=some b:=by
  rcases xm 8 t ks hf with⟨k,rfl,hz,_⟩ | ⟨_,hq⟩
  ·rw[hz] at ha;cases ha
  ·rw[<-he];exact(hq _ _ hx hy).1
 show cond (P.eqGuardType P.depth t) none ((kR P 8 t (.agg xs) (.agg ys)).map AV.bool)=_;rw[hg,ao,this];rfl
end
mutual
def fv(r:Nat->Nat):SV->SV
 | .any=>.any
 | .a v=>.a v
 | .sl n e cs=>.sl n e cs
 | .im ks vs=>.im ks vs
 | .ip cs=>.ip cs
 | .ptr o off=>.ptr (r o) off
 | .map o=>.map (r o)
 | .buf o n e c=>.buf (r o) n e c
 | .sub o off n e c=>.sub (r o) off n e c
 | .e0 e=>.e0 e
 | .ag cs=>.ag (jM r cs)
 | .bI cs=>.bI (jM r cs)
 | .fn g a b=>.fn g (jM r a) (jM r b)
 | .iface t v=>.iface t (fv r v)
def jM(r:Nat->Nat):List SV->List SV
 | []=>[]
 | d::ds=>fv r d::jM r ds
end
def Oi(r:Nat->Nat):Fm->Fm
 | []=>[]
 | (d,v)::f=>(d,fv r v)::Oi r f
def nO(r:Nat->Nat):SO->SO
 | .cells cs=>.cells (jM r cs)
 | .map ks vs b=>.map ks (jM r vs) b
 | .iter m bs c pos=>.iter (fv r m) bs c pos
 | .rI ks vs bs c pos=>.rI ks vs bs c pos
 | .gone=>.gone
 | .loop c ls p f=>.loop c ls p (Oi r f)
 | .ni N=>.ni N
def jg(os:List Nat)(B i:Nat):Nat:=match os[i]? with
 | some o=>o
 | none=>B+(i-os.length)
mutual
def dx(B:Nat):SV->Bool
 | .ptr o _=>decide (o<B)
 | .map o=>decide (o<B)
 | .buf o _ _ _=>decide (o<B)
 | .sub o _ _ _ _=>decide (o<B)
 | .ag cs=>fc B cs
 | .bI cs=>fc B cs
 | .fn _ a b=>fc B a&&fc B b
 | .iface _ v=>dx B v
 | _=>true
def fc(B:Nat):List SV->Bool
 | []=>true
 | d::ds=>dx B d&&fc B ds
end
def BI(B:Nat):Fm->Bool
 | []=>true
 | (_,v)::f=>dx B v&&BI B f
def kD(B:Nat):SO->Bool
 | .cells cs=>fc B cs
 | .map _ vs _=>fc B vs
 | .iter m _ _ _=>dx B m
 | .rI _ _ _ _ _=>true
 | .gone=>true
 | .loop _ _ _ f=>BI B f
 | .ni _=>true
def tK(B:Nat):List SO->Bool
 | []=>true
 | s::l=>kD B s&&tK B l
def lU:List Nat->SV->SV
 | [],v=>v
 | k::ks,v=>lU ks (bf k v)
def m8:List Nat->Fm->Fm
 | [],f=>f
 | k::ks,f=>m8 ks (dz k f)
def iQ:List Nat->List SO->List SO
 | [],S=>S
 | k::ks,S=>iQ ks (dq k S)
def jc:List SO->List Nat->List SO->List SO
 | S,[],ss=>S++ss
 | S,o::os,s::ss=>jc (S.set o s) os ss
 | S,_::_,[]=>S
section
variable {θ θ':Nat->Loc} {ρ ρ0 ρ':jP} {P:Program} {h0:En} {h h1:H} {S S' S0:List SO}
mutual
theorem VS.rn(r:Nat->Nat):∀{v:SV} {x:AV},VS θ ρ (fv r v) x↔VS (λp=>θ (r p)) ρ v x
 | .any,_=>by rw[fv,VS,VS]
 | .a v,x=>by rw[fv,VS,VS]
 | .sl n e cs,x=>by rw[fv,VS,VS]
 | .im ks vs,x=>by rw[fv,VS,VS]
 | .ip cs,x=>by rw[fv,VS,VS]
 | .ptr p _,_=>by rw[fv,VS,VS]
 | .map p,_=>by rw[fv,VS,VS]
 | .buf p _ _ _,_=>by rw[fv,VS,VS]
 | .sub p _ _ _ _,_=>by rw[fv,VS,VS]
 | .e0 _,_=>by rw[fv,VS,VS]
 | .ag cs,x=>by rw[fv,VS,VS];exact exists_congr λ_=>and_congr_right λ_=>c8.rn r
 | .bI cs,x=>by rw[fv,VS,VS];exact exists_congr λ_=>and_congr_right λ_=>c8.rn r
 | .fn g f c,x=>by rw[fv,VS,VS];exact exists_congr λ_=>exists_congr λ_=>and_congr_right λ_=>and_congr (c8.rn r) (c8.rn r)
 | .iface t v,x=>by rw[fv,VS,VS];exact exists_congr λ_=>and_congr_right λ_=>VS.rn r
theorem c8.rn(r:Nat->Nat):∀{ds:List SV} {aS:List AV},c8 θ ρ (jM r ds) aS↔c8 (λp=>θ (r p)) ρ ds aS
 | [],aS=>by rw[jM,bg,bg]
 | d::ds,aS=>by rw[jM,aL,aL];exact exists_congr λ_=>exists_congr λ_=>and_congr_right λ_=>and_congr (VS.rn r) (c8.rn r)
end
theorem wi(r:Nat->Nat):∀(f:Fm) (i:Nat),aR (Oi r f) i=fv r (aR f i)
 | [],i=>by rw[show aR [] i=.any from rfl,fv];rfl
 | (d,v)::f,i=>by
  show(if d=i then fv r v else aR (Oi r f) i)=fv r (if d=i then v else aR f i);rw[wi r f i];by_cases h:d=i
  ·rw[if_pos h,if_pos h]
  ·rw[if_neg h,if_neg h]
theorem DB{B:Nat}:∀{f:Fm} {i:Nat},BI B f=true->dx B (aR f i)=true
 | [],i,_=>by rw[show aR ([]:Fm) i=.any from rfl];simp[dx]
 | (d,v)::f,i,h=>by
  rw[BI,and_eq_true] at h;show dx B (if d=i then v else aR f i)=true;by_cases e:d=i
  ·rw[if_pos e];exact h.1
  ·rw[if_neg e];exact DB h.2
theorem mu.rn(r:Nat->Nat){L:Loc}{so:SO}:mu θ ρ h L (nO r so)↔mu (λp=>θ (r p)) ρ h L so:=by
 cases so with
 | cells cs=>exact exists_congr λ_=>and_congr_right λ_=>and_congr_left λ_=>c8.rn r
 | map ks vs b=>exact exists_congr λ_=>exists_congr λ_=>and_congr_right λ_=>and_congr_right λ_=>c8.rn r
 | iter m bs c pos=>exact exists_congr λ_=>and_congr_left λ_=>VS.rn r
 | rI ks vs bs c pos=>exact Iff.rfl
 | gone=>exact Iff.rfl
 | loop c ls p f=>exact and_congr_right λ_=>and_congr_right λ_=>forall_congr' λi=>forall_congr' λ_=>by rw[wi];exact VS.rn r
 | ni N=>exact Iff.rfl
theorem eP{r:Nat->Nat}{so:SO}:nO r so≠.gone↔so≠.gone:=by
 cases so<;>simp[nO]
mutual
theorem VS.kU{B:Nat}(hθ:∀q,q<B->(θ' q).id=(θ q).id):∀{v:SV} {x:AV},dx B v=true->VS θ ρ v x->VS θ' ρ v x
 | .any,_,_,_=>by rw[VS];trivial
 | .a v,x,_,h=>by rw[VS] at h ⊢;exact h
 | .sl n e cs,x,_,h=>by rw[VS] at h ⊢;exact h
 | .im ks vs,x,_,h=>by rw[VS] at h ⊢;exact h
 | .ip cs,x,_,h=>by rw[VS] at h ⊢;exact h
 | .ptr p _,_,hn,h=>by rw[VS] at h ⊢;rw[dx] at hn;rw[hθ p (of_decide_eq_true hn)];exact h
 | .map p,_,hn,h=>by rw[VS] at h ⊢;rw[dx] at hn;rw[hθ p (of_decide_eq_true hn)];exact h
 | .buf p _ _ _,_,hn,h=>by rw[VS] at h ⊢;rw[dx] at hn;rw[hθ p (of_decide_eq_true hn)];exact h
 | .sub p _ _ _ _,_,hn,h=>by rw[VS] at h ⊢;rw[dx] at hn;rw[hθ p (of_decide_eq_true hn)];exact h
 | .e0 e,x,_,h=>by rw[VS] at h ⊢;exact h
 | .ag cs,x,hn,h=>by rw[VS] at h ⊢;rw[dx] at hn;obtain⟨aS,h1,h2⟩:=h;exact⟨aS,h1,c8.kU hθ hn h2⟩
 | .bI cs,x,hn,h=>by rw[VS] at h ⊢;rw[dx] at hn;obtain⟨aS,h1,h2⟩:=h;exact⟨aS,h1,c8.kU hθ hn h2⟩
 | .fn g f c,x,hn,h=>by
  rw[VS] at h ⊢;rw[dx,and_eq_true] at hn;obtain⟨xs,ys,h1,h2,h3⟩:=h;exact⟨xs,ys,h1,c8.kU hθ hn.1 h2,c8.kU hθ hn.2 h3⟩
 | .iface t v,x,hn,h=>by rw[VS] at h ⊢;rw[dx] at hn;obtain⟨y,h1,h2⟩:=h;exact⟨y,h1,VS.kU hθ hn h2⟩
theorem c8.kU{B:Nat}(hθ:∀q,q<B->(θ' q).id=(θ q).id):∀{ds:List SV} {aS:List AV},fc B ds=true->c8 θ ρ ds aS->c8 θ' ρ ds aS
 | [],aS,_,h=>by rw[bg] at h ⊢;exact h
 | d::ds,aS,hn,h=>by
  rw[aL] at h ⊢;rw[fc,and_eq_true] at hn;obtain⟨a,r,h1,h2,h3⟩:=h;exact⟨a,r,h1,VS.kU hθ hn.1 h2,c8.kU hθ hn.2 h3⟩
end
theorem mu.kU{B:Nat}(hθ:∀q,q<B->(θ' q).id=(θ q).id){L:Loc}{so:SO}(hn:kD B so=true)(hx:mu θ ρ h L so):mu θ' ρ h L so:=by
 cases so with
 | cells cs=>obtain⟨aS,h1,h2,h3⟩:=hx;exact⟨aS,h1,h2.kU hθ hn,h3⟩
 | map ks vs b=>obtain⟨l,c,h1,h2,h3⟩:=hx;exact⟨l,c,h1,h2,h3.kU hθ hn⟩
 | iter m bs c pos=>obtain⟨kn,h1,h2⟩:=hx;exact⟨kn,h1.kU hθ hn,h2⟩
 | rI ks vs bs c pos=>exact hx
 | gone=>trivial
 | loop c ls p f=>
  obtain⟨h1,h2,h3⟩:=hx;exact⟨h1,h2,λi hi=>(h3 i hi).kU hθ (DB hn)⟩
 | ni N=>exact hx
theorem DC{B:Nat}:∀{S:List SO} {i:Nat} {so:SO},tK B S=true->S[i]?=some so->kD B so=true
 | [],i,so,_,h=>by simp at h
 | s::l,0,so,hb,h=>by rw[tK,and_eq_true] at hb;simp only[List.getElem?_cons_zero,Option.some.injEq] at h;subst h;exact hb.1
 | s::l,i+1,so,hb,h=>by rw[tK,and_eq_true] at hb;exact DC hb.2 (by simpa using h)
def Gc(θ:Nat->Loc):List Nat->(Nat->Loc)->Nat->Loc
 | [],_=>θ
 | k::ks,θ'=>Gc (gj θ k (θ' k)) ks θ'
theorem wx:∀{ks:List Nat} {θ:Nat->Loc} {p:Nat},(p∈ks\/θ p=θ' p)->Gc θ ks θ' p=θ' p
 | [],θ,p,h=>by rcases h with h | h;(· simp at h);(· exact h)
 | k::ks,θ,p,h=>by
  rw[Gc];by_cases e:p=k
  ·subst e;exact wx (.inr (cz _ _ _))
  ·rcases h with h | h
   ·rcases mem_cons.1 h with h | h
    ·exact absurd h e
    ·exact wx (.inl h)
   ·exact wx (.inr (by rw[bY _ _ e];exact h))
theorem Gd:∀{ks:List Nat} {θ:Nat->Loc} {p:Nat},p∉ks->Gc θ ks θ' p=θ p
 | [],θ,p,h=>rfl
 | k::ks,θ,p,h=>by
  rw[Gc,Gd (λe=>h (mem_cons_of_mem _ e)),bY _ _ (λe=>h (by rw[e];exact mem_cons_self))]
theorem Eb:∀{ks:List Nat} {θ:Nat->Loc} {v:SV} {x:AV},VS θ ρ v x->VS (Gc θ ks θ') ρ (lU ks v) x
 | [],θ,v,x,h=>h
 | k::ks,θ,v,x,h=>by
  rw[Gc,lU];exact Eb (iD (θ':=gj θ k (θ' k)) (λp hp=>bY _ _ hp) h)
theorem xg:∀(ks:List Nat) (f:Fm) (i:Nat),aR (m8 ks f) i=lU ks (aR f i)
 | [],f,i=>rfl
 | k::ks,f,i=>by rw[m8,lU,xg ks,lG]
theorem iR:∀(ks:List Nat) (S:List SO),(iQ ks S).length=S.length
 | [],S=>rfl
 | k::ks,S=>by rw[iQ,iR ks];unfold dq;rw[List.length_map]
theorem J9{f g:SV->SV}(so:SO):rh f (rh g so)=rh (λv=>f (g v)) so:=by cases so<;>simp[rh]
theorem xH:∀(ks:List Nat) (S:List SO) (p:Nat),(iQ ks S)[p]?=(S[p]?).map (rh (lU ks))
 | [],S,p=>by
  show S[p]?=_
  cases S[p]? with
  | none=>rfl
  | some s=>rw[map_some];exact congrArg some (sz s).symm
 | k::ks,S,p=>by
  rw[iQ,xH ks,qh]
  cases S[p]? with
  | none=>rfl
  | some s=>simp only[map_some,J9];rfl
theorem Be:∀{os:List Nat} {S ss:List SO} (p:Nat),os.Nodup->(∀o∈os,o<S.length)->os.length<=ss.length->
 (∀i:Nat,os[i]?=some p->(jc S os ss)[p]?=ss[i]?)/\(p∉os->p<S.length->(jc S os ss)[p]?=S[p]?)/\(S.length<=p->(jc S os ss)[p]?=ss[os.length+(p-S.length)]?)
 | [],S,ss,p,_,_,_=>by
  refine⟨λi h=>by simp at h,λ_ hl=>?_,λhl=>?_⟩
  ·rw[jc,List.getElem?_append_left hl]
  ·rw[jc,List.getElem?_append_right hl,List.length_nil,Nat.zero_add]
 | o::os,S,[],p,_,_,hl=>by simp at hl
 | o::os,S,s::ss,p,hn,ho,hl=>by
  rw[List.nodup_cons] at hn;have ih:=Be (os:=os) (S:=S.set o s) (ss:=ss) p hn.2 (λx hx=>by rw[List.length_set];exact ho x (mem_cons_of_mem _ hx)) (by simpa using hl);have hol:=ho o mem_cons_self;rw[List.length_set] at ih;refine⟨λi h=>?_,λh1 h2=>?_,λh1=>?_⟩
  ·cases i with
   | zero=>
    simp only[List.getElem?_cons_zero,Option.some.injEq] at h;subst h;rw[jc,ih.2.1 hn.1 hol,List.getElem?_set_self hol];rfl
   | succ i=>
    simp only[List.getElem?_cons_succ] at h;rw[jc,ih.1 i h];rfl
  ·rw[jc,ih.2.1 (λe=>h1 (mem_cons_of_mem _ e)) h2,List.getElem?_set_ne (λe=>h1 (by rw[e];exact mem_cons_self))]
  ·rw[jc,ih.2.2 h1,length_cons,show os.length+1+(p-S.length)=os.length+(p-S.length)+1 by omega,List.getElem?_cons_succ]
def SC(P:Program)(g:FuncId)(args:List SV)(S0:List SO)(mv:List Nat)(Q:SV->List SO->Prop):Prop:=
 ∀(E:En) θ ρ h avs,E.h={ h with low:=h.next }->RS θ ρ ρ E E.h S0->c8 θ ρ args avs->
  dT P (.func g) avs h (λv h'=>∃r S' θ' ρ' h1,Q r S'/\h'={ h1 with low:=gh h.low h1.low }/\RS θ' ρ ρ' E h1 S'/\VS θ' ρ' r v/\S0.length<=S'.length/\∀i,i<S0.length->i∉mv->(θ' i).id=(θ i).id)
end
section
variable {θ θ':Nat->Loc} {ρ ρ0 ρ':jP} {P:Program} {h0:En} {h h1:H} {S S' S0:List SO}
def ng(K:Nat):Fm:=(range K).map λi=>(1000000+i,SV.ptr i 0)
theorem DZ(g:Nat->SV):∀(l:List Nat) (j:Nat),aR (l.map λi=>(1000000+i,g i)) j=if j≥1000000/\(j-1000000)∈l then g (j-1000000) else .any
 | [],j=>by simp[aR]
 | i::l,j=>by
  show(if 1000000+i=j then g i else aR (l.map λi=>(1000000+i,g i)) j)=_;rw[DZ g l j];by_cases h:1000000+i=j
  ·subst h;rw[if_pos rfl,if_pos ⟨by omega,by rw[Nat.add_sub_cancel_left];exact mem_cons_self⟩,Nat.add_sub_cancel_left]
  ·rw[if_neg h];by_cases h2:j≥1000000/\(j-1000000)∈l
   ·rw[if_pos h2,if_pos ⟨h2.1,mem_cons_of_mem _ h2.2⟩]
   ·rw[if_neg h2,if_neg];rintro⟨h3,h4⟩
    rcases mem_cons.1 h4 with e | e
    ·omega
    ·exact h2 ⟨h3,e⟩
theorem r4:∀(f g:Fm) (j:Nat),(∀v,(j,v)∉f)->aR (f++g) j=aR g j
 | [],g,j,_=>rfl
 | (d,v)::f,g,j,h=>by
  show(if d=j then v else aR (f++g) j)=_;rw[if_neg (λe=>h v (by rw[e];exact mem_cons_self)),r4 f g j λw hw=>h w (mem_cons_of_mem _ hw)]
theorem tX:∀(f g:Fm) (j:Nat) {v:SV},(j,v)∈f->aR (f++g) j=aR f j
 | [],g,j,v,h=>by simp at h
 | (d,w)::f,g,j,v,h=>by
  show(if d=j then w else aR (f++g) j)=(if d=j then w else aR f j);by_cases e:d=j
  ·rw[if_pos e,if_pos e]
  ·rw[if_neg e,if_neg e]
   rcases mem_cons.1 h with h | h
   ·simp only[Prod.mk.injEq] at h;exact absurd h.1.symm e
   ·exact tX f g j h
theorem wH:∀(vs:List SV) (i j:Nat),i<=j->j<i+vs.length->∃v,(j,v)∈jI i vs
 | [],i,j,h1,h2=>by simp at h2;omega
 | v::vs,i,j,h1,h2=>by
  by_cases e:i=j
  ·subst e;exact⟨v,mem_cons_self⟩
  ·simp only[length_cons] at h2;obtain⟨w,hw⟩:=wH vs (i+1) j (by omega) (by omega);exact⟨w,mem_cons_of_mem _ hw⟩
theorem tJ:∀(vs:List SV) (i j:Nat) (v:SV),i+vs.length<=j->(j,v)∉jI i vs
 | [],i,j,v,h=>by simp[jI]
 | w::vs,i,j,v,h=>by
  simp only[length_cons] at h;intro hm
  rcases mem_cons.1 hm with e | e
  ·simp only[Prod.mk.injEq] at e;omega
  ·exact tJ vs (i+1) j v (by omega) e
def KO(P:Program)(fn:Func)(K:Nat)(mv:List Nat)(Q:SV->List SO->Prop):Ex->en->Prop:=λe st=>jU e=true/\st.ds=[]/\(∃vs,nd P st.f st.S fn.results.toList=some vs/\Q (aC vs) st.S)/\K<=st.S.length/\∀i,i<K->i∉mv->aR st.f (1000000+i)=.ptr i 0
theorem lZ{os:List Nat}{B i o:Nat}(h:os[i]?=some o):jg os B i=o:=by unfold jg;rw[h]
theorem mN{os:List Nat}{B i:Nat}(h:os.length<=i):jg os B i=B+(i-os.length):=by unfold jg;rw[List.getElem?_eq_none h]
theorem Cp{os:List Nat}{B i j:Nat}(hn:os.Nodup)(hB:∀o∈os,o<B)(h:jg os B i=jg os B j):i=j:=by
 by_cases hi:i<os.length
 ·have e1:=lZ (B:=B) (getElem?_eq_getElem hi);by_cases hj:j<os.length
  ·have e2:=lZ (B:=B) (getElem?_eq_getElem hj);rw[e1,e2] at h;exact(List.getElem_inj hn).1 h
  ·have e2:=mN (B:=B) (le_of_not_lt hj);rw[e1,e2] at h;have:=hB _ (List.getElem_mem hi);omega
 ·have e1:=mN (B:=B) (le_of_not_lt hi);by_cases hj:j<os.length
  ·have e2:=lZ (B:=B) (getElem?_eq_getElem hj);rw[e1,e2] at h;have:=hB _ (List.getElem_mem hj);omega
  ·have e2:=mN (B:=B) (le_of_not_lt hj);rw[e1,e2] at h;omega
def dK(os mv:List Nat)(B J:Nat):List Nat:=mv.map (λi=>jg os B i)++(range J).map λj=>B+j
def fb(S:List SO)(os mv:List Nat)(S':List SO):List SO:=
 jc (iQ (dK os mv S.length (S'.length-os.length)) S) os (S'.map (nO (jg os S.length)))
theorem Ey{α:Type}{p q:α->Prop}(h:¬∀x,p x->q x):∃x,p x/\¬q x:=by
 apply Classical.byContradiction;intro hn;exact h λx hp=>Classical.byContradiction λhq=>hn ⟨x,hp,hq⟩
def Lr(θ:Nat->Loc)(h0:En)(h:H)(S0:List SO):En where
 h:={ h with low:=h.next }
 pr:=λj=>j<h.next/\∀i so,S0[i]?=some so->so≠.gone->j≠(θ i).x/\j≠(θ i).y
 pf:=λj=>j<h.next/\∀i so,S0[i]?=some so->so≠.gone->j≠(θ i).bZ
 lo:=h0.lo
 w:=λ_=>kh
theorem RS.enter(hR:RS θ ρ0 ρ h0 h S){r:Nat->Nat}(hr:∀i so,S0[i]?=some so->S[r i]?=some (nO r so))(hi:∀i j,r i=r j->i=j):
 RS (λp=>θ (r p)) ρ ρ (Lr (λp=>θ (r p)) h0 h S0) { h with low:=h.next } S0:=by
 have hlo:h0.lo<=h.next:=Nat.le_trans hR.lw hR.ln;refine⟨⟨λj hj=>hj.1,λj hj=>hj.1,λj hj=>?_,hlo⟩,le_refl _,λ_ _=>rfl,λ_ _=>rfl,hlo,le_refl _,?_,?_,?_,λid ob h=>.inl h⟩
 ·show h0.lo<=j;by_cases hlt:j<h.next
  ·have:¬∀(q:Nat×SO),(S0[q.1]?=some q.2/\q.2≠.gone)->(j≠(θ (r q.1)).x/\j≠(θ (r q.1)).y):=λhall=>hj ⟨hlt,λi so h1 h2=>hall (i,so) ⟨h1,h2⟩⟩;obtain⟨⟨i,so⟩,⟨h1,h2⟩,h3⟩:=Ey this;obtain⟨k,_⟩:=hR.obj _ _ (hr i so h1) (eP.2 h2);by_cases hx:j=(θ (r i)).x
   ·rw[hx];exact hR.ok.lo _ k.x.1
   ·have:j=(θ (r i)).y:=Decidable.byContradiction λhy=>h3 ⟨hx,hy⟩;rw[this];exact hR.ok.lo _ k.y.1
  ·exact Nat.le_trans hlo (le_of_not_lt hlt)
 ·intro i so h1 h2;obtain⟨k,k2⟩:=hR.obj _ _ (hr i so h1) (eP.2 h2);exact⟨⟨k.e,⟨λhp=>(hp.2 i so h1 h2).1 rfl,k.x.2⟩,⟨λhp=>(hp.2 i so h1 h2).2 rfl,k.y.2⟩,⟨λhp=>hp.2 i so h1 h2 rfl,k.f.2⟩⟩,(mu.rn r).1 k2⟩
 ·intro i j so so' hij h1 h2 h3 h4;exact hR.sep _ _ _ _ (λe=>hij (hi _ _ e)) (hr i so h1) (eP.2 h2) (hr j so' h3) (eP.2 h4)
 ·intro id ob h1;obtain⟨r1,r2,r3⟩:=hR.row id ob h1;exact⟨r1,r2,λi so h2 h3=>r3 _ _ (hr i so h2) (eP.2 h3)⟩
end
end
end Go.Ev
