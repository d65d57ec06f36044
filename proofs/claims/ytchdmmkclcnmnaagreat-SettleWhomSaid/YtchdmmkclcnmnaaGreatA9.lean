/- Lemmas of this claim, each with its conditions. -/
import Derived.Test.YtchdmmkclcnmnaaGreatA8
import Derived.SizedLaws
set_option linter.all false
open List (mem_range getD mem_map map_nil set_nil)
open Nat (beq ble)
open List renaming getElem?_eq_getElem -> aa, mem_cons_of_mem -> ac, take_succ_cons -> ad, mem_cons_self -> aj, flatten_cons -> al, length_range -> ap, range -> ax, getElem?_append_right -> a0, getElem?_append_left -> a5, getElem?_cons_succ -> a6, getElem?_cons_zero -> a7, getElem?_map -> a8, take_zero -> a9, drop_nil -> ba, mem_append_right -> bb, take_nil -> bc, length_map -> be, mem_append_left -> bh, set_cons_succ -> bk, set_cons_zero -> bo, map_cons -> bt, ext_getElem -> bw, flatten_nil -> bx, not_mem_nil -> bN
open Option renaming bind_some -> ay
open Bool renaming or_eq_false_iff -> bd, and_eq_true -> bv
open Nat renaming eq_zero_or_pos -> bi, succ_mul -> b0
namespace Go.Ev
open Go.RowKit Go.ChangeShapes Go.WideShapes Go.Deep
noncomputable section
inductive Ty where
 | bool
 | int (k:IntKind)
 | str
 | sl (t:Ty)
 | st (ts:List Ty)
 | no (s:Nat)
mutual
def Ty.size:Ty->Nat
 | .st ts=>Ty.wK ts
 | .no s=>s
 | _=>1
def Ty.wK:List Ty->Nat
 | []=>0
 | t::ts=>t.size+Ty.wK ts
end
mutual
def nJ(B:Nat):Ty->List DV->Prop
 | .bool,ds=>∃b,ds=[.fl (.bool b)]
 | .int k,ds=>∃n,ds=[.fl (.int k n)]/\(Lit.int k n).wf=true
 | .str,ds=>∃s:List Nat,ds=[.fl (.str s)]/\(∀x∈s,x<256)/\s.length<=B
 | .sl t,ds=>∃(nl:Bool) (rows:List (List DV)),ds=[.sl nl rows.length t.size rows.flatten]/\rows.length<=B/\∀r∈rows,nJ B t r
 | .st ts,ds=>eV B ts ds
 | .no _,_=>False
def eV(B:Nat):List Ty->List DV->Prop
 | [],ds=>ds=[]
 | t::ts,ds=>∃d1 d2,ds=d1++d2/\nJ B t d1/\eV B ts d2
end
def Un(B:Nat):Ty->DV->Prop
 | .st ts,d=>∃ds,d=.ag ds/\eV B ts ds
 | t,d=>nJ B t [d]
def jM(P:Program)(rec:TypeId->Option Ty):List Field->Nat->Option (List Ty)
 | [],_=>some []
 | f::fs,off=>cond (beq f.offset off) ((rec f.type).bind λt=>cond (beq (P.cellsOf f.type) t.size) ((jM P rec fs (off+t.size)).map (t::·)) none) none
def np(P:Program):Nat->TypeId->Option Ty
 | 0,t=>some (.no (P.cellsOf t))
 | k+1,t=>match P.underlying t with
  | some .bool=>some .bool
  | some (.int i)=>some (.int i)
  | some .string=>some .str
  | some (.slice e)=>(np P k e).bind λte=>cond (beq (P.cellsOf e) te.size&&(ble 1 te.size&&ble 1 (P.bytesOf e))) (some (.sl te)) none
  | some (.struct fs)=>(jM P (np P k) fs.toList 0).bind λts=>cond (beq (P.cellsOf t) (Ty.wK ts)) (some (.st ts)) none
  | _=>none
def nr.append{w:World}:∀{a b:List DV} {x y:List Value},nr w a x->nr w b y->nr w (a++b) (x++y)
 | [],b,x,y,h1,h2=>by rw[jk] at h1;subst h1;exact h2
 | d::a,b,x,y,h1,h2=>by
  rw[eG] at h1;obtain⟨u,r,rfl,k1,k2⟩:=h1;rw[List.cons_append,eG];exact⟨u,r++y,rfl,k1,nr.append k2 h2⟩
def nr.rows{w:World}{n:Nat}{G:Nat->List DV}{F:Nat->List Value}(h:∀i,i<n->nr w (G i) (F i)):nr w ((ax n).map G).flatten ((ax n).map F).flatten:=by
 have key:∀l:List Nat,(∀i∈l,i<n)->nr w (l.map G).flatten (l.map F).flatten:=by
  intro l
  induction l with
  | nil=>intro _;rw[map_nil,map_nil,bx,bx,jk]
  | cons a l ih=>
   intro hl;rw[bt,bt,al,al];exact nr.append (h a (hl a (aj ..))) (ih λi hi=>hl i (ac _ hi))
 exact key _ λi hi=>mem_range.1 hi
def FJ{α:Type}{s:Nat}:∀{rows:List (List α)},(∀r∈rows,r.length=s)->∀{j:Nat} {x:α},rows.flatten[j]?=some x->∃i k r,j=i*s+k/\k<s/\rows[i]?=some r/\r[k]?=some x
 | [],_,j,x,h=>by simp at h
 | a::rows,hw,j,x,h=>by
  have ha:=hw a (aj ..);rw[al,List.getElem?_append] at h;split at h
  ·rename_i hj;exact⟨0,j,a,by omega,by omega,rfl,h⟩
  ·obtain⟨i,k,r,e1,e2,e3,e4⟩:=FJ (λr hr=>hw r (ac _ hr)) h;exact⟨i+1,k,r,by rw[b0];omega,e2,e3,e4⟩
variable {Hh:Type} {enc:TypeId×Value->Hh} {P:Program} {w:World} {held:Bool}
variable {B:Nat}
def Qo:∀{t:Ty} {ds:List DV},nJ B t ds->(∀ts,t≠.st ts)->ds.length=1:=by
 intro t ds h hn
 cases t with
 | bool=>rw[nJ] at h;obtain⟨b,rfl⟩:=h;rfl
 | int k=>rw[nJ] at h;obtain⟨n,rfl,_⟩:=h;rfl
 | str=>rw[nJ] at h;obtain⟨s,rfl,_⟩:=h;rfl
 | sl t=>rw[nJ] at h;obtain⟨nl,rows,rfl,_,_⟩:=h;rfl
 | st ts=>exact t8 rfl (hn ts)
 | no s=>rw[nJ] at h;exact h.elim
def nh{e:TypeId}{x:DataW Hh}{n:Nat}(hn:n∈x.weights P e):∀{l:List (DataW Hh)},x∈l->n∈DataW.weightsAll P e l
 | [],h=>by cases h
 | d::l,h=>by
  unfold DataW.weightsAll
  rcases List.mem_cons.1 h with rfl | h
  ·exact bh _ hn
  ·exact bb _ (nh hn h)
def SQ{t e:TypeId}{n:Nat}{cs:List Value}{x:DataW Hh×List MemPlace}(ht:P.underlying t=some (.slice e))(h:DataW.trod enc P w 0 (λ_=>true) held n t cs=some x):
 (cs=[.slice none 0 0]/\x=(.nil,[]))\/∃(a:Addr) (len cap n':Nat) (D:Nat->DataW Hh),n=n'+1/\cs=[.slice (some a) len cap]/\len<=cap/\x.1=.slice ((ax len).map D) ((ax (cap-len)).map λj=>D (len+j))/\
  ∀i,i<cap->∃cs' y,w.cells? 0 (a.add (i*P.cellsOf e)) (P.cellsOf e)=some cs'/\DataW.trod enc P w 0 (λ_=>true) held n' e cs'=some y/\y.1=D i:=by
 rcases DataW.trod_slice ht h with h0 | ⟨a,len,cap,elems,rest,n',hn,hcs,hx,_,hl,_,hlen,hel,hsp,_⟩
 ·exact .inl h0
 obtain⟨hrl,hre⟩:=hsp rfl;refine .inr ⟨a,len,cap,n',λi=>((elems++rest).getD i (.nil,[])).1,hn,hcs,hl,?_,λi hi=>?_⟩
 ·rw[hx];show DataW.slice _ _=_
  congr 1
  ·refine bw (by simp[hlen]) λi h1 h2=>?_
   have h3:i<elems.length:=by simpa using h1
   simp[getD,a5 h3,aa h3]
  ·refine bw (by simp[hrl]) λi h1 h2=>?_
   have h3:i<rest.length:=by simpa using h1
   have h4:elems.length<=len+i:=by omega
   have h5:len+i-elems.length=i:=by omega
   simp[getD,a0 h4,h5,aa h3]
 ·by_cases hil:i<len
  ·have h3:i<elems.length:=by omega
   have k:=hel i hil;rw[aa h3] at k;obtain⟨cs',h1,h2⟩:=Option.bind_eq_some_iff.1 k;exact⟨cs',_,h1,h2,by simp[getD,a5 h3,aa h3]⟩
  ·have h3:i-len<rest.length:=by omega
   have k:=hre (i-len) (by omega);rw[aa h3,show len+(i-len)=i by omega] at k;obtain⟨cs',h1,h2⟩:=Option.bind_eq_some_iff.1 k
   have h4:elems.length<=i:=by omega
   have h5:i-elems.length=i-len:=by omega
   exact⟨cs',_,h1,h2,by simp[getD,a0 h4,h5,aa h3]⟩
def wM{rec:TypeId->Option Ty}{cs:List Value}{m:Nat}(hrec:∀(t:TypeId) (ty:Ty),rec t=some ty->∀(n:Nat),n<=m->∀(c:List Value) (y:DataW Hh×List MemPlace),DataW.trod enc P w 0 (λ_=>true) held n t c=some y->(∀x∈y.1.weights P t,x<=B)->∃ds,nJ B ty ds/\nr w ds c):
 ∀(fs:List Field) (off:Nat) (ts:List Ty),jM P rec fs off=some ts->off+Ty.wK ts=cs.length->(∀f∈fs,∃n y,n<=m/\DataW.trod enc P w 0 (λ_=>true) held n f.type ((cs.drop f.offset).take (P.cellsOf f.type))=some y/\∀x∈y.1.weights P f.type,x<=B)->∃ds,eV B ts ds/\nr w ds (cs.drop off)
 | [],off,ts,h,hl,_=>by
  simp only[jM,Option.some.injEq] at h;subst h;simp only[Ty.wK] at hl;exact⟨[],by rw[eV],by rw[jk,List.drop_of_length_le (by omega)]⟩
 | f::fs,off,ts,h,hl,hf=>by
  unfold jM at h;obtain⟨ho,h⟩:=aL h;have ho:=cU ho
  cases hr:rec f.type with
  | none=>rw[hr] at h;cases h
  | some t=>
   rw[hr] at h;simp only[ay] at h;obtain⟨hc,h⟩:=aL h;have hc:=cU hc;obtain⟨ts',h',rfl⟩:=aq h;simp only[Ty.wK] at hl;obtain⟨n,y,hnm,hy,hwt⟩:=hf f (aj ..);rw[ho,hc] at hy;obtain⟨d1,k1,k2⟩:=hrec _ _ hr n hnm _ y hy hwt;obtain⟨d2,k3,k4⟩:=wM hrec fs (off+t.size) ts' h' (by omega) (λg hg=>hf g (ac _ hg));refine⟨d1++d2,by rw[eV];exact⟨d1,d2,rfl,k1,k3⟩,?_⟩
   have e:cs.drop off=(cs.drop off).take t.size++cs.drop (off+t.size):=by
    rw[<-List.drop_drop,List.take_append_drop]
   rw[e];exact k2.append k4
def vX:∀(k:Nat) (t:TypeId) (ty:Ty),np P k t=some ty->∀(n:Nat),n<=k->∀(c:List Value) (y:DataW Hh×List MemPlace),DataW.trod enc P w 0 (λ_=>true) held n t c=some y->(∀x∈y.1.weights P t,x<=B)->∃ds,nJ B ty ds/\nr w ds c
 | 0,t,ty,h,n,hnk,_,_,hy,_=>by
  rw[Nat.le_zero.1 hnk] at hy;simp[DataW.trod] at hy
 | k+1,t,ty,h,n,hnk,c,y,hy,hwt=>by
  unfold np at h
  cases hu:P.underlying t with
  | none=>rw[hu] at h;cases h
  | some u=>
   rw[hu] at h
   cases u with
   | bool=>
    cases h;obtain⟨b,rfl,_⟩:=DataW.trod_bool hu hy;exact⟨[.fl (.bool b)],by rw[nJ];exact⟨b,rfl⟩,by rw[eG];exact⟨_,_,rfl,by rw[EY];exact⟨rfl,λσ=>.bool b⟩,by rw[jk]⟩⟩
   | int i=>
    cases h;obtain⟨m,rfl,_,wf⟩:=DataW.trod_int hu hy;exact⟨[.fl (.int i m)],by rw[nJ];exact⟨m,rfl,wf⟩,by rw[eG];exact⟨_,_,rfl,by rw[EY];exact⟨rfl,λσ=>.int _ _⟩,by rw[jk]⟩⟩
   | string=>
    cases h;obtain⟨s,rfl,rfl,hs⟩:=DataW.trod_string hu hy
    have hlen:(qf s).length<=B:=by
     unfold qf;rw[be];exact hwt _ (by simp[DataW.weights])
    exact⟨[.fl (.str (qf s))],by rw[nJ];exact⟨_,rfl,Nr s,hlen⟩,by rw[eG];exact⟨_,_,rfl,by rw[EY];exact⟨rfl,λσ=>.str rfl⟩,by rw[jk]⟩⟩
   | slice e=>
    simp only at h
    cases he:np P k e with
    | none=>rw[he] at h;cases h
    | some te=>
     rw[he] at h;simp only[ay] at h;obtain⟨hb,h⟩:=aL h;cases h;rw[bv] at hb;have hs:P.cellsOf e=te.size:=cU hb.1;obtain⟨hb1,hb2⟩:=hb;rw[bv] at hb2;have hs0:0<te.size:=jq hb2.1;have hby:1<=P.bytesOf e:=jq hb2.2
     rcases SQ hu hy with⟨rfl,_⟩ | ⟨a,len,m,n',D,hnn,rfl,hl,hyx,hx⟩
     ·exact⟨[.sl true 0 te.size []],by rw[nJ];exact⟨true,[],rfl,Nat.zero_le _,λr hr=>(bN hr).elim⟩,by rw[eG];exact⟨_,_,rfl,by rw[EZ];exact .inl ⟨rfl,rfl,rfl,rfl⟩,by rw[jk]⟩⟩
     ·rw[hs] at hx
      rcases bi m with hm0 | hm0
      ·subst hm0
       have:len=0:=by omega
       subst this
       exact⟨[.sl false 0 te.size []],by rw[nJ];exact⟨false,[],rfl,Nat.zero_le _,λr hr=>(bN hr).elim⟩,
        by rw[eG];exact⟨_,_,rfl,by rw[EZ];exact .inr ⟨rfl,a,0,rfl,Nat.le_refl _,.inl ⟨rfl,rfl,.inr rfl⟩⟩,by rw[jk]⟩⟩
      ·have hspot:a.spot=none:=by
        obtain⟨cs',_,h1,_⟩:=hx 0 hm0;obtain⟨_,h2,h3⟩:=World.cells?_some h1;have h4:=h3 0 (by omega)
        have h5:0<cs'.length:=by omega
        rw[aa h5] at h4;have:=World.cell?_spot h4;simpa [Addr.add] using this
       obtain⟨b,o,sp⟩:=a;simp only at hspot;subst hspot
       have hcell:∀i,i<m->∃cs',cs'.length=te.size/\(∀k,k<te.size->w.cell? ⟨b,o+(i*te.size+k),none⟩=cs'[k]?)/\∃y,DataW.trod enc P w 0 (λ_=>true) held n' e cs'=some y/\y.1=D i:=by
        intro i hi;obtain⟨cs',y,h1,h2⟩:=hx i hi;obtain⟨_,h3,h4⟩:=World.cells?_some h1;refine⟨cs',h3,λk hk=>?_,y,h2⟩;have:=h4 k (by omega);rw[gS,gS] at this;rw[<-this];congr 2;omega
       obtain⟨cs0,hc1,hc2,_⟩:=hcell 0 hm0;have h00:=hc2 0 hs0;rw[aa (by omega)] at h00;obtain⟨arr,e',f,hb',_⟩:=BJ h00
       have hgc:∀k v,w.cell? ⟨b,k,none⟩=some v->arr[k]?=some v:=by
        intro k v hk;obtain⟨c',e'',f',hb'',hv'⟩:=BJ hk;rw[hb'] at hb'';cases hb'';exact hv'
       have hsz:o+m*te.size<=arr.size:=by
        obtain⟨cs1,g1,g2,_⟩:=hcell (m-1) (by omega);have h01:=g2 (te.size-1) (by omega);rw[aa (by omega)] at h01;have:=hgc _ _ h01
        have hlt:o+((m-1)*te.size+(te.size-1))<arr.size:=by
         apply Decidable.byContradiction;intro hn;rw[Array.getElem?_eq_none (by omega)] at this;cases this
        have hmul:m*te.size=(m-1)*te.size+te.size:=by
         have h9:=Nat.add_mul (m-1) 1 te.size;rw[Nat.sub_add_cancel hm0,Nat.one_mul] at h9;exact h9
        omega
       have hD:∀i,i<m->∀x∈(D i).weights P e,x<=B:=by
        intro i hi x hxw;refine hwt x ?_;rw[hyx];show x∈DataW.weights P t _;rw[DataW.weights,hu];simp only;refine ac _ ?_;by_cases hil:i<len
        ·exact bh _ (nh hxw (mem_map.2 ⟨i,mem_range.2 hil,rfl⟩))
        ·exact bb _ (nh hxw (mem_map.2 ⟨i-len,mem_range.2 (by omega),by rw[show len+(i-len)=i by omega]⟩))
       have hlenB:len<=B:=by
        have:=hwt ((len+(m-len))*P.bytesOf e) (by
         rw[hyx];show _∈DataW.weights P t _;rw[DataW.weights,hu]
         simp)
        have h2:len+(m-len)<=(len+(m-len))*P.bytesOf e:=Nat.le_mul_of_pos_right _ hby;omega
       obtain⟨F,hF⟩:=choose_lt (α:=List Value×List DV) (n:=len) (p:=λi x=>x.1.length=te.size/\(∀k,k<te.size->w.cell? ⟨b,o+(i*te.size+k),none⟩=x.1[k]?)/\nJ B te x.2/\nr w x.2 x.1) (λi hi=>by
        obtain⟨cs',g1,g2,y,g3,g4⟩:=hcell i (by omega);obtain⟨ds,k1,k2⟩:=vX k e te he n' (by omega) cs' _ g3 (by rw[g4];exact hD i (by omega))
        exact⟨(cs',ds),g1,g2,k1,k2⟩)
       have hw1:∀r∈(ax len).map λi=>(F i).1,r.length=te.size:=by
        intro r hr;obtain⟨i,hi,rfl⟩:=mem_map.1 hr;exact(hF i (mem_range.1 hi)).1
       refine⟨[.sl false len te.size ((ax len).map λi=>(F i).2).flatten],?_,?_⟩
       ·rw[nJ];refine⟨false,(ax len).map λi=>(F i).2,by rw[be,ap],by rw[be,ap];exact hlenB,λr hr=>?_⟩;obtain⟨i,hi,rfl⟩:=mem_map.1 hr;exact(hF i (mem_range.1 hi)).2.2.1
       ·rw[eG];refine⟨_,_,rfl,?_,by rw[jk]⟩;rw[EZ];refine .inr ⟨rfl,_,m,rfl,hl,?_⟩
        rcases bi len with hl0 | hl0
        ·subst hl0;exact .inl ⟨rfl,rfl,.inl rfl⟩
        ·refine .inr ⟨hl0,rfl,arr,e',f,((ax len).map λi=>(F i).1).flatten,hb',hsz,?_,?_,nr.rows λi hi=>(hF i hi).2.2.2⟩
         ·have:∀l:List Nat,(∀i∈l,i<len)->(l.map λi=>(F i).1).flatten.length=l.length*te.size:=by
           intro l
           induction l with
           | nil=>intro _;simp
           | cons a l ih=>
            intro hl;rw[bt,al,List.length_append,ih λi hi=>hl i (ac _ hi),(hF a (hl a (aj ..))).1,List.length_cons,b0];omega
          rw[this _ λi hi=>mem_range.1 hi,ap]
         ·intro j u hu;obtain⟨i,q,r,rfl,hq,hr,hru⟩:=FJ hw1 hu;rw[a8] at hr
          cases hri:(ax len)[i]? with
          | none=>rw[hri] at hr;cases hr
          | some i'=>
           rw[hri] at hr;have hil:=(List.getElem?_eq_some_iff.1 hri).1;rw[ap] at hil;rw[List.getElem?_range hil] at hri;cases hri;cases hr;exact hgc _ _ (((hF i hil).2.1 q hq).trans hru)
   | struct fs=>
    simp only at h
    cases hfs:jM P (np P k) fs.toList 0 with
    | none=>rw[hfs] at h;cases h
    | some ts=>
     rw[hfs] at h;simp only[ay] at h;obtain⟨hb,h⟩:=aL h;cases h;have hb:=cU hb;obtain⟨xs,n',hnn,hyx,hl,hlen,hf⟩:=DataW.trod_struct hu hy
     obtain⟨ds,k1,k2⟩:=wM (cs:=c) (m:=k) (λt ty ht n hn c y hy hw=>vX k t ty ht n hn c y hy hw) fs.toList 0 ts hfs (by omega) (λf hfm=>by
      obtain⟨i,hi⟩:=List.mem_iff_getElem?.1 hfm
      have hi':fs[i]?=some f:=by rw[<-Array.getElem?_toList];exact hi
      have:=hf i f hi'
      have hil:i<fs.size:=by
       have:=(List.getElem?_eq_some_iff.1 hi).1;rw[Array.length_toList] at this;exact this
      rw[aa (by omega)] at this;refine⟨n',_,by omega,this,λx hx=>hwt x ?_⟩;rw[hyx];show x∈DataW.weights P t _;rw[DataW.weights,hu];simp only
      exact DataW.weights_mem_each (j:=i) (by rw[a8,hi];rfl) (by rw[a8,aa (show i<xs.length by omega)];rfl) x hx)
     rw[List.drop_zero] at k2;exact⟨ds,by rw[nJ];exact k1,k2⟩
   | _=>cases h
def PH{d:DV}{v:Value}:nr w [d] [v]↔Wd w d v:=by
 rw[eG];constructor
 ·rintro⟨u,r,e,h,_⟩;simp only[List.cons.injEq] at e;rw[e.1];exact h
 ·intro h;exact⟨v,[],rfl,h,by rw[jk]⟩
def Qp{t:Ty}{ds:List DV}(h:nJ B t ds)(hn:∀ts,t≠.st ts):∃d,ds=[d]:=by
 have:=Qo h hn
 match ds,this with
 | [d],_=>exact⟨d,rfl⟩
def s9{t:TypeId}{tys:Nat->Ty}{v:Value}{d:DataW Hh}{ps:List MemPlace}{base:Nat}(ht:∀j,np P (j+12) t=some (tys j))(hval:Value.okWide P w .any base t v)(hd:DataW.Trod enc P w 0 (λ_=>true) held t v d ps)(hwt:∀x∈d.weights P t,x<=B):∃j dv,Un B (tys j) dv/\Wd w dv v:=by
 obtain⟨fuel,hf⟩:=hd;refine⟨fuel,?_⟩;have ht:=ht fuel;generalize tys fuel=ty at ht ⊢;obtain⟨ds,k1,k2⟩:=vX (fuel+12) t ty ht fuel (by omega) _ _ hf hwt
 have hflat:∀{v:Value},v.cells.toList=[v]->(∀ts,ty≠.st ts)->nr w ds v.cells.toList->∃dv,Un B ty dv/\Wd w dv v:=by
  intro v he hn k2;obtain⟨dv,rfl⟩:=Qp k1 hn;rw[he,PH] at k2;refine⟨dv,?_,k2⟩
  cases ty with
  | st ts=>exact t8 rfl (hn ts)
  | _=>exact k1
 unfold np at ht
 cases hu:P.underlying t with
 | none=>rw[hu] at ht;cases ht
 | some u=>
  rw[hu] at ht
  cases u with
  | bool=>obtain⟨b,rfl⟩:=okWide_bool hu hval;cases ht;exact hflat rfl (λts h=>by cases h) k2
  | int i=>obtain⟨b,rfl⟩:=okWide_int hu hval;cases ht;exact hflat rfl (λts h=>by cases h) k2
  | string=>obtain⟨b,rfl⟩:=okWide_string hu hval;cases ht;exact hflat rfl (λts h=>by cases h) k2
  | slice e=>
   obtain⟨a,l,c,rfl⟩:=okWide_slice hu hval;simp only at ht
   cases he:np P (fuel+11) e with
   | none=>rw[he] at ht;cases ht
   | some te=>
    rw[he] at ht;simp only[ay] at ht;obtain⟨_,ht⟩:=aL ht;cases ht;exact hflat rfl (λts h=>by cases h) k2
  | struct fs=>
   obtain⟨cs,rfl,_⟩:=okWide_struct hu hval;simp only at ht
   cases hfs:jM P (np P (fuel+11)) fs.toList 0 with
   | none=>rw[hfs] at ht;cases ht
   | some ts=>
    rw[hfs] at ht;simp only[ay] at ht;obtain⟨_,ht⟩:=aL ht;cases ht;rw[nJ] at k1;refine⟨.ag ds,⟨ds,rfl,k1⟩,?_⟩;rw[Nb];exact⟨cs,rfl,k2⟩
  | _=>cases ht
end
open Go.RowKit
section
variable {B:Nat} {ts:List Ty} {ds:List DV} {s:Bool} {h:H}
def mR(hk:eV B [] ds):ds=[]:=by rw[eV] at hk;exact hk
def gx(hk:eV B (.str::ts) ds):∃(x:List Nat) (r:List DV),ds=.fl (.str x)::r/\(∀b∈x,b<256)/\x.length<=B/\eV B ts r:=by
 rw[eV] at hk;obtain⟨d1,d2,rfl,h1,h2⟩:=hk;rw[nJ] at h1;obtain⟨x,rfl,h3,h4⟩:=h1;exact⟨x,d2,rfl,h3,h4,h2⟩
def ew{k:IntKind}(hk:eV B (.int k::ts) ds):∃(n:Int) (r:List DV),ds=.fl (.int k n)::r/\(Lit.int k n).wf=true/\eV B ts r:=by
 rw[eV] at hk;obtain⟨d1,d2,rfl,h1,h2⟩:=hk;rw[nJ] at h1;obtain⟨n,rfl,h3⟩:=h1;exact⟨n,d2,rfl,h3,h2⟩
def Cq(hk:eV B (.bool::ts) ds):∃(b:Bool) (r:List DV),ds=.fl (.bool b)::r/\eV B ts r:=by
 rw[eV] at hk;obtain⟨d1,d2,rfl,h1,h2⟩:=hk;rw[nJ] at h1;obtain⟨b,rfl⟩:=h1;exact⟨b,d2,rfl,h2⟩
def tQ{t:Ty}(hk:eV B (.sl t::ts) ds):∃(nl:Bool) (rows:List (List DV)) (r:List DV),ds=.sl nl rows.length t.size rows.flatten::r/\rows.length<=B/\(∀x∈rows,nJ B t x)/\eV B ts r:=by
 rw[eV] at hk;obtain⟨d1,d2,rfl,h1,h2⟩:=hk;rw[nJ] at h1;obtain⟨nl,rows,rfl,h3,h4⟩:=h1;exact⟨nl,rows,d2,rfl,h3,h4,h2⟩
def Gl:∀{us:List Ty} {d1 d2:List DV},eV B us d1->eV B ts d2->eV B (us++ts) (d1++d2)
 | [],d1,d2,h1,h2=>by rw[eV] at h1;subst h1;exact h2
 | u::us,d1,d2,h1,h2=>by
  rw[eV] at h1;obtain⟨e1,e2,rfl,h3,h4⟩:=h1;show eV B (u::(us++ts)) _;rw[eV];exact⟨e1,e2++d2,List.append_assoc ..,h3,Gl h4 h2⟩
def tR{us:List Ty}(hk:eV B (.st us::ts) ds):eV B (us++ts) ds:=by
 rw[eV] at hk;obtain⟨d1,d2,rfl,h1,h2⟩:=hk;rw[nJ] at h1;exact Gl h1 h2
end
def vc:Ex->Bool
 | .normal=>true
 | _=>false
def vd:Ex->LoopState
 | .normal=>.ready
 | _=>.done
def vb:Ex->Option Code
 | .normal=>none
 | .ret=>some .ret
 | .exit i=>some (.exit i)
 | .goto l=>some (.goto l)
noncomputable def MC(t:Tr AV):Nat->AV:=λi=>(t.get i).getD kn
def Rp(id:Nat)(Q:AV->H->Prop):Ex->gq->Prop:=λex st=>st.ds=[]/\∃ls p t n ps a b d,st.h.pC id=some (ls,p,t,n,ps,a,b,d)/\Q (.bool (vc ex)) (st.h.set id (.loop (vd ex) (vb ex) t n ps a b d))
def PB(P:Program)(id:Nat)(b:Code)(Q:AV->H->Prop):Ex->gq->Prop:=λex st=>ex=.normal/\∃p t n ps a' b' d,st.h.pC id=some (.ready,p,t,n,ps,a',b',d)/\
 kX P (some id) b ⟨st.f,st.n,st.h.set id (.loop .busy p t n ps a' b' d),st.ds⟩ (Rp id Q)
def dC.yield{P:Program}{id:Nat}{args:List AV}{h:H}{Q:AV->H->Prop}{pend:Option Code}{t:Tr AV}{n:Nat}{ps:Array Tmp}{a b:Code}{dd:Nat}{t1:Tr AV}{f1:Nat->AV}
 (hlo:h.pC id=some (.ready,pend,t,n,ps,a,b,dd)) (hsz:ps.toList.length=args.length) (ht1:jA (ps.toList.zip args) n t=some t1) (hf1:∀i,i<n->f1 i=MC t1 i)
 (hw:kX P (some id) a ⟨f1,n,h,[]⟩ (PB P id b Q)):dC P (.yield id) args h Q:=by
 intro σ w p args' hp hv hr;obtain⟨hob,q,hq,f,tmps,qd,hwp,hqd,hT⟩:=uj hr hlo;rw[hp] at hq;cases hq
 have hsz':args'.size=ps.size:=by have:=hv.1;simp at this hsz;omega
 rw[MU hwp hsz'];intro m;refine roundIn_of_wpIn trivial ?_
 have hT1:TR σ t1 n ((ps.zip args').foldl (λtmps (x:Tmp×Value)=>tmps.setIfInBounds x.1 x.2) tmps):=by
  have:=uh ps.toList args args'.toList n t t1 tmps ht1 hv hT;rw[<-Array.foldl_toList,Array.toList_zip];exact this
 have hTF:TF σ f1 n ((ps.zip args').foldl (λtmps (x:Tmp×Value)=>tmps.setIfInBounds x.1 x.2) tmps):=⟨hT1.1,λi hi=>by rw[hf1 i hi];exact hT1.2 i⟩;have hassign:=hw (Fence.wide.inRound p.b) m σ { tmps:=(ps.zip args').foldl (λtmps (x:Tmp×Value)=>tmps.setIfInBounds x.1 x.2) tmps,defers:=[] } w ⟨hTF,hr,trivial⟩ ⟨p,hp,rfl⟩;refine wpIn_mono hassign ?_;rintro e a1 w1 ⟨ex1,st1,⟨rfl,pend2,t2,n2,ps2,a2,b2,dd2,hlo2,hb2⟩,hex1,σ1,hs1,hE1,hn1⟩;have:e=.normal:=hex1;subst this;obtain⟨hob2,q2,hq2,f2,tmps2,qd2,hw2,hqd2,hT2⟩:=uj hs1.h hlo2;rw[hE1.le _ _ hp] at hq2;cases hq2;have hbegin:=yh (P:=P) hw2 rfl;obtain⟨s1,s2⟩:=hs1.h.j8 (o':=.loop .busy pend2 t2 n2 ps2 a2 b2 dd2) (ob:=.loop { state:=.busy,pending:=pend2,fn:=f2,tmps:=tmps2,params:=ps2,assign:=a2,body:=b2,defers:=qd2.b }) hob2 rfl rfl (hE1.le _ _ hp) ⟨f2,tmps2,qd2,rfl,hqd2,hT2⟩;refine⟨_,hbegin,?_⟩;have hbody:=hb2 (Fence.wide.inRound p.b) m σ1 a1 _ ⟨hs1.t,s1,hs1.ds⟩ ⟨p,hE1.le _ _ hp,rfl⟩;refine wpIn_mono hbody ?_;rintro e3 a3 w3 ⟨ex3,st3,⟨hds3,ls4,p4,t4,n4,ps4,a4,b4,dd4,hlo4,hQ⟩,hex3,σ3,hs3,hE3,hn3⟩;have hE13:=(hE1.trans s2).trans hE3;obtain⟨hob4,q4,hq4,f4,tmps4,qd4,hw4,hqd4,hT4⟩:=uj hs3.h hlo4;rw[hE13.le _ _ hp] at hq4;cases hq4
 have fin:∀(s:LoopState) (j:Option Code) (r:Bool),Q (.bool r) (st3.h.set id (.loop s j t4 n4 ps4 a4 b4 dd4))->r=j.isNone->s=(if j.isNone then .ready else .done)->
  ∃v w'',(Instr.endRound p.b j).run P w3=.ok v w''/\∃v',Ending.returned v=.returned v'/\EU σ h w Q v' w'':=by
  intro s j r e1 e2 e3;obtain⟨u1,u2⟩:=hs3.h.j8 (o':=.loop s j t4 n4 ps4 a4 b4 dd4) (ob:=.loop { state:=s,pending:=j,fn:=f4,tmps:=tmps4,params:=ps4,assign:=a4,body:=b4,defers:=qd4.b }) hob4 rfl rfl (hE13.le _ _ hp) ⟨f4,tmps4,qd4,rfl,hqd4,hT4⟩;refine⟨_,_,De hw4 j,_,rfl,.bool r,_,e1,σ3,by rw[e2];exact .bool _,?_,?_⟩
  ·rw[<-e3];exact u1
  ·rw[<-e3];exact hE13.trans u2
 cases ex3 with
 | normal=>
  have:e3=.normal:=hex3;subst this;exact fin _ _ _ hQ rfl rfl
 | ret=>
  have:e3=.ret:=hex3;subst this;exact fin _ _ _ hQ rfl rfl
 | exit i=>
  have:e3=.exit i:=hex3;subst this;exact fin _ _ _ hQ rfl rfl
 | goto l=>
  have:e3=.goto l:=hex3;subst this;exact fin _ _ _ hQ rfl rfl
def M6(P:Program)(ro:Option Nat)(f:Nat->AV)(n:Nat)(ds:List iV)(id:Nat)(Q:Ex->gq->Prop)(h':H):Prop:=∃ls p' t' m' ps' a' b' d',h'.pC id=some (ls,p',t',m',ps',a',b',d')/\ls≠.busy/\
 match p' with
 | none=>Q .normal ⟨f,n,h'.set id (.loop .exhausted none t' m' ps' a' b' d'),ds⟩
 | some c=>kX P ro c ⟨f,n,h'.set id (.loop .exhausted (some c) t' m' ps' a' b' d'),ds⟩ Q
def kX.rangeFunc{P:Program}(hng:sY P){ro:Option Nat}{g:Operand}{ps:Array Tmp}{assign body:Code}{f:Nat->AV}{n:Nat}{h:H}{ds:List iV}{Q:Ex->gq->Prop}{fid:FuncId}{fn':Func}{first cap:List AV}{id:Nat}{h1:H}{ds1:List iV}
 (hg:ev (dj f n) g=some (.fn (.func fid) first cap)) (hfn:P.funcs[fid]?=some fn') (hb:fn'.body.isSome=true) (hen:Df ro ps assign body ⟨dj f n,n,h,ds⟩=some (id,⟨dj f n,n,h1,ds1⟩)) {Q1:AV->H->Prop}
 (hc:dC P (.func fid) (first++[.fn (.yield id) [] []]++cap) h1 Q1) (hk:∀v h',Q1 v h'->M6 P ro f n ds1 id Q h'):kX P ro (.rangeFunc g ps assign body) ⟨f,n,h,ds⟩ Q:=by
 intro F m σ a w hs hF;have hgV:=hs.sr.t.ev _ _ hg;refine wpIn_rangeFunc λfn _=>?_;obtain⟨lb,mark,w1,σ1,p,e1,hp,rfl,hs1,hE1,hn1⟩:=LF (P:=P) hF hs.sr hen fn;generalize hgv:a.eval g=gv at hgV
 cases hgV with
 | @fn _ _ _ fs' cs' hfy k1 k2 k3 k4=>
  have hfs:VL σ1 first fs'.toList:=⟨by simpa using k1,λi a v x y=>(k2 i a v x (by simpa using y)).mono hE1.le⟩
  have hcs:VL σ1 cap cs'.toList:=⟨by simpa using k3,λi a v x y=>(k4 i a v x (by simpa using y)).mono hE1.le⟩
  have hargs:VL σ1 (first++[.fn (.yield id) [] []]++cap) (fs'++#[Value.func (.yield p.b) #[] #[]]++cs').toList:=by
   simp only[Array.toList_append];exact(hfs.append (.cons (.yield hp) .nil)).append hcs
  have hfine:=hc σ1 w1 _ hargs hs1.h
  have hev:#[Operand.const (Value.func (.yield p.b) #[] #[])].map a.eval=#[Value.func (.yield p.b) #[] #[]]:=by simp[Act.eval]
  have hres:(resolve a.eval (rangeCall g p.b) 0).run P w1=.ok { target:=.fn (.func fid) cs',args:=fs'++#[Value.func (.yield p.b) #[] #[]] } w1:=by
   simp only[resolve,hgv,Deferred.ofValue,Sem.run_pure,hev]
  have hcall:=eb hng hfn hb (fs'++#[Value.func (.yield p.b) #[] #[]]++cs') w1;rw[hcall] at hfine;refine⟨p.b,mark,w1,_,w1,fid,_,w1,e1,hres,λf' _=>hF.fn f',by simpa only[invoke] using hcall,λh=>by rw[hF.depth] at h;simp at h,?_⟩;have h2:=hF.calls (n:=m-1) hfine;refine⟨h2.1,λcs hr=>?_⟩;obtain⟨e,w3,fr,⟨v,rfl,av,h',hQ1,σ3,hV,hh3,hE3⟩,h3⟩:=h2.2 cs hr;refine⟨.returned v,w3,fr,?_,h3⟩;obtain⟨ls,p',t',m',ps',a',b',d',hlo,hnb,hq⟩:=hk _ _ hQ1;obtain⟨ho',q,hq',f0,tm0,qd,g1,g2,g3⟩:=uj hh3 hlo;rw[hE3.le _ _ hp] at hq';cases hq'
  obtain⟨s1,s2⟩:=hh3.j8 (o':=.loop .exhausted p' t' m' ps' a' b' d') (ob:=.loop { state:=.exhausted,pending:=p',fn:=f0,tmps:=tm0,params:=ps',assign:=a',body:=b',defers:=qd.b }) ho' rfl rfl (hE3.le _ _ hp)
   ⟨f0,tm0,qd,rfl,g2,g3⟩
  have hend:(Instr.endLoop p.b).run P w3=.ok p' { w3 with heap:=w3.heap.setIfInBounds p.b (.loop { state:=.exhausted,pending:=p',fn:=f0,tmps:=tm0,params:=ps',assign:=a',body:=b',defers:=qd.b }) }:=by
   have hbz:(ls==LoopState.busy)=false:=by cases ls<;>first | rfl | exact t8 rfl hnb
   simp only[Instr.endLoop,Instr.getLoop,Sem.run_bind,cA g1 (by simp),Result.andThen_ok,Sem.run_pure,hbz,Bool.false_eq_true,if_false,eo g1 (by simp)]
  refine⟨p',_,hend,?_⟩;have hext:=(hE1.trans hE3).trans s2
  have hsf:SF σ3 ⟨f,n,h'.set id (.loop .exhausted p' t' m' ps' a' b' d'),ds1⟩ { a with defers:=mark++a.defers } { w3 with heap:=w3.heap.setIfInBounds p.b (.loop { state:=.exhausted,pending:=p',fn:=f0,tmps:=tm0,params:=ps',assign:=a',body:=b',defers:=qd.b }) }:=
   ⟨hs.t.mono (λi q hi=>hE3.le _ _ (hE1.le _ _ hi)),s1,hs1.ds.mono hE3.le⟩
  cases p' with
  | none=>exact⟨_,_,hq,rfl,σ3,hsf,hext,rfl⟩
  | some c=>exact kX.wide (st:=⟨f,n,_,ds1⟩) hq hsf (hF.mono hext.le) hext rfl
def kX.tW{P:Program}(hng:sY P){g:Operand}{ps:Array Tmp}{assign body:Code}{f:Nat->AV}{n:Nat}{O:Tr AO}{F:Tr (Nat×Nat)}{N lw:Nat}{ds:List iV}{Q:Ex->gq->Prop}{fid:FuncId}{fn':Func}{first cap:List AV}
 (hg:ev (dj f n) g=some (.fn (.func fid) first cap)) (hfn:P.funcs[fid]?=some fn') (hb:fn'.body.isSome=true) {Q1:AO->AV->H->Prop}
 (hc:∀lp,lp=AO.loop .ready none (dj f n) n ps assign body N->dC P (.func fid) (first++[.fn (.yield (N+1)) [] []]++cap) ⟨(O.put N (some (.ox false))).put (N+1) (some lp),F,N+2,lw⟩ (Q1 lp))
 (hk:∀lp v h',lp=AO.loop .ready none (dj f n) n ps assign body N->Q1 lp v h'->M6 P none f n ({ fn:=none,qe:=N,args:=[],cap:=[] }::ds) (N+1) Q h'):kX P none (.rangeFunc g ps assign body) ⟨f,n,⟨O,F,N,lw⟩,ds⟩ Q:=
 kX.rangeFunc hng hg hfn hb rfl (hc _ rfl) λv h' h1=>hk _ v h' rfl h1
noncomputable section
inductive SV where
 | any
 | a (v:AV)
 | sl (n e:Nat) (cs:List SV)
 | im (ks:List AV) (vs:List SV)
 | ip (cs:List SV)
 | ptr (o off:Nat)
 | map (o:Nat)
 | buf (o n e:Nat) (c:Option Nat)
 | sub (o off n e:Nat) (c:Option Nat)
 | e0 (e:Nat)
 | ag (cs:List SV)
 | bE (vs:List SV)
 | fn (g:FuncId) (first cap:List SV)
 | iface (t:TypeId) (v:SV)
 deriving Inhabited
abbrev Fm:=List (Nat×SV)
def aX:Fm->Nat->SV
 | [],_=>.any
 | (d,v)::l,i=>if d=i then v else aX l i
structure gr where
 id:Nat
 t:Tr AV
 n:Nat
 ps:Array Tmp
 a:Code
 b:Code
 d:Nat
inductive SO where
 | cells (cs:List SV)
 | map (ks:List AV) (vs:List SV) (b:Option (List Nat×Nat))
 | iter (m:SV) (bs:List Nat) (c:Nat) (pos:List Nat)
 | oL (ks:List AV) (vs:List SV) (bs:List Nat) (c:Nat) (pos:List Nat)
 | gone
 | loop (c:gr) (ls:LoopState) (p:Option Code) (f:List (Nat×SV))
 | ox (N:Nat)
structure Loc where
 id:Nat
 cg:Nat
 x:Nat
 y:Nat
abbrev kg:=Nat->Option AO
def nV(l:List (AV×AV×Nat))(c:Nat):Prop:=(l.map (·.2.2)).Nodup/\∀e∈l,e.2.2<c
def PE(l:List (AV×AV×Nat))(c:Nat)(ks:List AV)(b:Option (List Nat×Nat)):Prop:=l.map (·.1)=ks/\nV l c/\∀p,b=some p->l.map (·.2.2)=p.1/\c=p.2
def pJ(ρ:kg)(id:Nat):Option (List AV):=match ρ id with
 | some (.cells cs _)=>some cs
 | some (.ro cs)=>some cs
 | _=>none
mutual
def GS(ρ:kg):SV->AV->Prop
 | .any,_=>True
 | .a v,x=>x=v
 | .sl n e cs,x=>(n=0/\cs=[]/\∃o e' c,x=.slice o 0 e' c/\(o=none->c=some 0)/\(o≠none->e'=e))\/
  (∃id off cap row,x=.slice (some (id,off)) n e cap/\pJ ρ id=some row/\off+n*e<=row.length/\ki ρ cs ((row.drop off).take (n*e)))
 | .im ks vs,x=>∃id l c,x=.map (some id)/\ρ id=some (.map l c)/\PE l c ks none/\ki ρ vs (l.map (·.2.1))
 | .ip cs,x=>∃id off row r,x=.ptr (some (id,off))/\pJ ρ id=some row/\off+r<=row.length/\ki ρ cs ((row.drop off).take r)
 | .ptr _ _,_=>False
 | .map _,_=>False
 | .buf _ _ _ _,_=>False
 | .sub _ _ _ _ _,_=>False
 | .e0 e,x=>∃o e',x=.slice o 0 e' (some 0)/\(o≠none->e'=e)
 | .ag cs,x=>∃aS,x=.agg aS/\ki ρ cs aS
 | .bE cs,x=>∃aS,x=.bE aS/\ki ρ cs aS
 | .fn g first cap,x=>∃xs ys,x=.fn (.func g) xs ys/\ki ρ first xs/\ki ρ cap ys
 | .iface t v,x=>∃y,x=.iface t y/\GS ρ v y
def ki(ρ:kg):List SV->List AV->Prop
 | [],aS=>aS=[]
 | d::ds,aS=>∃a r,aS=a::r/\GS ρ d a/\ki ρ ds r
end
mutual
def VS(θ:Nat->Loc)(ρ:kg):SV->AV->Prop
 | .any,_=>True
 | .a v,x=>x=v
 | .sl n e cs,x=>GS ρ (.sl n e cs) x
 | .im ks vs,x=>GS ρ (.im ks vs) x
 | .ip cs,x=>GS ρ (.ip cs) x
 | .ptr o off,x=>x=.ptr (some ((θ o).id,off))
 | .map o,x=>x=.map (some (θ o).id)
 | .buf o n e c,x=>x=.slice (some ((θ o).id,0)) n e c
 | .sub o off n e c,x=>x=.slice (some ((θ o).id,off)) n e c
 | .e0 e,x=>∃o e',x=.slice o 0 e' (some 0)/\(o≠none->e'=e)
 | .ag cs,x=>∃aS,x=.agg aS/\c7 θ ρ cs aS
 | .bE cs,x=>∃aS,x=.bE aS/\c7 θ ρ cs aS
 | .fn g first cap,x=>∃xs ys,x=.fn (.func g) xs ys/\c7 θ ρ first xs/\c7 θ ρ cap ys
 | .iface t v,x=>∃y,x=.iface t y/\VS θ ρ v y
def c7(θ:Nat->Loc)(ρ:kg):List SV->List AV->Prop
 | [],aS=>aS=[]
 | d::ds,aS=>∃a r,aS=a::r/\VS θ ρ d a/\c7 θ ρ ds r
end
section
variable {θ:Nat->Loc} {ρ:kg} {x:AV}
def gH{aS:List AV}:ki ρ [] aS↔aS=[]:=by rw[ki]
def ep{d:SV}{ds:List SV}{aS:List AV}:ki ρ (d::ds) aS↔∃a r,aS=a::r/\GS ρ d a/\ki ρ ds r:=by rw[ki]
def aQ{aS:List AV}:c7 θ ρ [] aS↔aS=[]:=by rw[c7]
def aK{d:SV}{ds:List SV}{aS:List AV}:c7 θ ρ (d::ds) aS↔∃a r,aS=a::r/\VS θ ρ d a/\c7 θ ρ ds r:=by rw[c7]
def ki.length:∀{ds:List SV} {aS:List AV},ki ρ ds aS->aS.length=ds.length
 | [],aS,h=>by rw[gH] at h;subst h;rfl
 | d::ds,aS,h=>by
  rw[ep] at h;obtain⟨a,r,rfl,_,h2⟩:=h;simp[ki.length h2]
def c7.length:∀{ds:List SV} {aS:List AV},c7 θ ρ ds aS->aS.length=ds.length
 | [],aS,h=>by rw[aQ] at h;subst h;rfl
 | d::ds,aS,h=>by
  rw[aK] at h;obtain⟨a,r,rfl,_,h2⟩:=h;simp[c7.length h2]
mutual
def GS.vs:∀{v:SV} {x:AV},GS ρ v x->VS θ ρ v x
 | .any,_,_=>by rw[VS];trivial
 | .a v,x,h=>by rw[VS];rw[GS] at h;exact h
 | .sl n e cs,x,h=>by rw[VS];exact h
 | .im ks vs,x,h=>by rw[VS];exact h
 | .ip cs,x,h=>by rw[VS];exact h
 | .ptr _ _,_,h=>by rw[GS] at h;exact h.elim
 | .map _,_,h=>by rw[GS] at h;exact h.elim
 | .buf _ _ _ _,_,h=>by rw[GS] at h;exact h.elim
 | .sub _ _ _ _ _,_,h=>by rw[GS] at h;exact h.elim
 | .e0 e,x,h=>by rw[GS] at h;rw[VS];exact h
 | .ag cs,x,h=>by rw[VS];rw[GS] at h;obtain⟨aS,h1,h2⟩:=h;exact⟨aS,h1,ki.vs h2⟩
 | .bE cs,x,h=>by rw[VS];rw[GS] at h;obtain⟨aS,h1,h2⟩:=h;exact⟨aS,h1,ki.vs h2⟩
 | .fn g f c,x,h=>by rw[VS];rw[GS] at h;obtain⟨xs,ys,h1,h2,h3⟩:=h;exact⟨xs,ys,h1,ki.vs h2,ki.vs h3⟩
 | .iface t v,x,h=>by rw[VS];rw[GS] at h;obtain⟨y,h1,h2⟩:=h;exact⟨y,h1,GS.vs h2⟩
def ki.vs:∀{ds:List SV} {aS:List AV},ki ρ ds aS->c7 θ ρ ds aS
 | [],aS,h=>by rw[aQ];rw[gH] at h;exact h
 | d::ds,aS,h=>by
  rw[aK];rw[ep] at h;obtain⟨a,r,h1,h2,h3⟩:=h;exact⟨a,r,h1,GS.vs h2,ki.vs h3⟩
end
def CA{ρ':kg}(hm:∀id ob,ρ id=some ob->ρ' id=some ob){id:Nat}{row:List AV}(h:pJ ρ id=some row):pJ ρ' id=some row:=by
 unfold pJ at h ⊢
 cases hr:ρ id with
 | none=>rw[hr] at h;cases h
 | some ob=>rw[hm id ob hr];rw[hr] at h;exact h
mutual
def GS.mono{ρ':kg}(hm:∀id ob,ρ id=some ob->ρ' id=some ob):∀{v:SV} {x:AV},GS ρ v x->GS ρ' v x
 | .any,_,_=>by rw[GS];trivial
 | .a v,x,h=>by rw[GS] at h ⊢;exact h
 | .sl n e cs,x,h=>by
  rw[GS] at h ⊢
  rcases h with h | ⟨id,off,cap,row,h1,h2,h3,h4⟩
  ·exact .inl h
  ·exact .inr ⟨id,off,cap,row,h1,CA hm h2,h3,ki.mono hm h4⟩
 | .im ks vs,x,h=>by
  rw[GS] at h ⊢;obtain⟨id,l,c,h1,h2,h3,h4⟩:=h;exact⟨id,l,c,h1,hm _ _ h2,h3,ki.mono hm h4⟩
 | .ip cs,x,h=>by
  rw[GS] at h ⊢;obtain⟨id,off,row,r,h1,h2,h3,h4⟩:=h;exact⟨id,off,row,r,h1,CA hm h2,h3,ki.mono hm h4⟩
 | .ptr _ _,_,h=>by rw[GS] at h;exact h.elim
 | .map _,_,h=>by rw[GS] at h;exact h.elim
 | .buf _ _ _ _,_,h=>by rw[GS] at h;exact h.elim
 | .sub _ _ _ _ _,_,h=>by rw[GS] at h;exact h.elim
 | .e0 e,x,h=>by rw[GS] at h ⊢;exact h
 | .ag cs,x,h=>by rw[GS] at h ⊢;obtain⟨aS,h1,h2⟩:=h;exact⟨aS,h1,ki.mono hm h2⟩
 | .bE cs,x,h=>by rw[GS] at h ⊢;obtain⟨aS,h1,h2⟩:=h;exact⟨aS,h1,ki.mono hm h2⟩
 | .fn g f c,x,h=>by rw[GS] at h ⊢;obtain⟨xs,ys,h1,h2,h3⟩:=h;exact⟨xs,ys,h1,ki.mono hm h2,ki.mono hm h3⟩
 | .iface t v,x,h=>by rw[GS] at h ⊢;obtain⟨y,h1,h2⟩:=h;exact⟨y,h1,GS.mono hm h2⟩
def ki.mono{ρ':kg}(hm:∀id ob,ρ id=some ob->ρ' id=some ob):∀{ds:List SV} {aS:List AV},ki ρ ds aS->ki ρ' ds aS
 | [],aS,h=>by rw[gH] at h ⊢;exact h
 | d::ds,aS,h=>by
  rw[ep] at h ⊢;obtain⟨a,r,h1,h2,h3⟩:=h;exact⟨a,r,h1,GS.mono hm h2,ki.mono hm h3⟩
end
mutual
def VS.mono{ρ':kg}(hm:∀id ob,ρ id=some ob->ρ' id=some ob):∀{v:SV} {x:AV},VS θ ρ v x->VS θ ρ' v x
 | .any,_,_=>by rw[VS];trivial
 | .a v,x,h=>by rw[VS] at h ⊢;exact h
 | .sl n e cs,x,h=>by rw[VS] at h ⊢;exact h.mono hm
 | .im ks vs,x,h=>by rw[VS] at h ⊢;exact h.mono hm
 | .ip cs,x,h=>by rw[VS] at h ⊢;exact h.mono hm
 | .ptr _ _,_,h=>by rw[VS] at h ⊢;exact h
 | .map _,_,h=>by rw[VS] at h ⊢;exact h
 | .buf _ _ _ _,_,h=>by rw[VS] at h ⊢;exact h
 | .sub _ _ _ _ _,_,h=>by rw[VS] at h ⊢;exact h
 | .e0 e,x,h=>by rw[VS] at h ⊢;exact h
 | .ag cs,x,h=>by rw[VS] at h ⊢;obtain⟨aS,h1,h2⟩:=h;exact⟨aS,h1,c7.mono hm h2⟩
 | .bE cs,x,h=>by rw[VS] at h ⊢;obtain⟨aS,h1,h2⟩:=h;exact⟨aS,h1,c7.mono hm h2⟩
 | .fn g f c,x,h=>by rw[VS] at h ⊢;obtain⟨xs,ys,h1,h2,h3⟩:=h;exact⟨xs,ys,h1,c7.mono hm h2,c7.mono hm h3⟩
 | .iface t v,x,h=>by rw[VS] at h ⊢;obtain⟨y,h1,h2⟩:=h;exact⟨y,h1,VS.mono hm h2⟩
def c7.mono{ρ':kg}(hm:∀id ob,ρ id=some ob->ρ' id=some ob):∀{ds:List SV} {aS:List AV},c7 θ ρ ds aS->c7 θ ρ' ds aS
 | [],aS,h=>by rw[aQ] at h ⊢;exact h
 | d::ds,aS,h=>by
  rw[aK] at h ⊢;obtain⟨a,r,h1,h2,h3⟩:=h;exact⟨a,r,h1,VS.mono hm h2,c7.mono hm h3⟩
end
mutual
def names(o:Nat):SV->Bool
 | .ptr p _=>decide (p=o)
 | .map p=>decide (p=o)
 | .buf p _ _ _=>decide (p=o)
 | .sub p _ _ _ _=>decide (p=o)
 | .ag cs=>gh o cs
 | .bE cs=>gh o cs
 | .fn _ f c=>gh o f||gh o c
 | .iface _ v=>names o v
 | _=>false
def gh(o:Nat):List SV->Bool
 | []=>false
 | d::ds=>names o d||gh o ds
end
mutual
def VS.uu{θ':Nat->Loc}{o:Nat}(hθ:∀p,p≠o->θ' p=θ p):∀{v:SV} {x:AV},names o v=false->VS θ ρ v x->VS θ' ρ v x
 | .any,_,_,_=>by rw[VS];trivial
 | .a v,x,_,h=>by rw[VS] at h ⊢;exact h
 | .sl n e cs,x,_,h=>by rw[VS] at h ⊢;exact h
 | .im ks vs,x,_,h=>by rw[VS] at h ⊢;exact h
 | .ip cs,x,_,h=>by rw[VS] at h ⊢;exact h
 | .ptr p _,_,hn,h=>by rw[VS] at h ⊢;rw[names] at hn;rw[hθ p (wt hn)];exact h
 | .map p,_,hn,h=>by rw[VS] at h ⊢;rw[names] at hn;rw[hθ p (wt hn)];exact h
 | .buf p _ _ _,_,hn,h=>by rw[VS] at h ⊢;rw[names] at hn;rw[hθ p (wt hn)];exact h
 | .sub p _ _ _ _,_,hn,h=>by rw[VS] at h ⊢;rw[names] at hn;rw[hθ p (wt hn)];exact h
 | .e0 e,x,_,h=>by rw[VS] at h ⊢;exact h
 | .ag cs,x,hn,h=>by rw[VS] at h ⊢;rw[names] at hn;obtain⟨aS,h1,h2⟩:=h;exact⟨aS,h1,c7.uu hθ hn h2⟩
 | .bE cs,x,hn,h=>by rw[VS] at h ⊢;rw[names] at hn;obtain⟨aS,h1,h2⟩:=h;exact⟨aS,h1,c7.uu hθ hn h2⟩
 | .fn g f c,x,hn,h=>by
  rw[VS] at h ⊢;rw[names,bd] at hn;obtain⟨xs,ys,h1,h2,h3⟩:=h;exact⟨xs,ys,h1,c7.uu hθ hn.1 h2,c7.uu hθ hn.2 h3⟩
 | .iface t v,x,hn,h=>by rw[VS] at h ⊢;rw[names] at hn;obtain⟨y,h1,h2⟩:=h;exact⟨y,h1,VS.uu hθ hn h2⟩
def c7.uu{θ':Nat->Loc}{o:Nat}(hθ:∀p,p≠o->θ' p=θ p):∀{ds:List SV} {aS:List AV},gh o ds=false->c7 θ ρ ds aS->c7 θ' ρ ds aS
 | [],aS,_,h=>by rw[aQ] at h ⊢;exact h
 | d::ds,aS,hn,h=>by
  rw[aK] at h ⊢;rw[gh,bd] at hn;obtain⟨a,r,h1,h2,h3⟩:=h;exact⟨a,r,h1,VS.uu hθ hn.1 h2,c7.uu hθ hn.2 h3⟩
end
def c7.app:∀{d1 d2:List SV} {a1 a2:List AV},c7 θ ρ d1 a1->c7 θ ρ d2 a2->c7 θ ρ (d1++d2) (a1++a2)
 | [],d2,a1,a2,h1,h2=>by rw[aQ] at h1;subst h1;exact h2
 | d::ds,d2,a1,a2,h1,h2=>by
  rw[aK] at h1;obtain⟨a,r,rfl,g1,g2⟩:=h1;show c7 θ ρ (d::(ds++d2)) _;rw[aK];exact⟨a,r++a2,rfl,g1,c7.app g2 h2⟩
def c7.drop:∀(k:Nat) {ds:List SV} {aS:List AV},c7 θ ρ ds aS->c7 θ ρ (ds.drop k) (aS.drop k)
 | 0,_,_,h=>h
 | k+1,[],aS,h=>by rw[aQ] at h;subst h;rw[ba,ba,aQ]
 | k+1,d::ds,aS,h=>by
  rw[aK] at h;obtain⟨a,r,rfl,_,h2⟩:=h;exact c7.drop k h2
def c7.take:∀(k:Nat) {ds:List SV} {aS:List AV},c7 θ ρ ds aS->c7 θ ρ (ds.take k) (aS.take k)
 | 0,_,_,h=>by rw[a9,a9,aQ]
 | k+1,[],aS,h=>by rw[aQ] at h;subst h;rw[bc,bc,aQ]
 | k+1,d::ds,aS,h=>by
  rw[aK] at h;obtain⟨a,r,rfl,h1,h2⟩:=h;rw[ad,ad,aK];exact⟨a,_,rfl,h1,c7.take k h2⟩
def ki.drop:∀(k:Nat) {ds:List SV} {aS:List AV},ki ρ ds aS->ki ρ (ds.drop k) (aS.drop k)
 | 0,_,_,h=>h
 | k+1,[],aS,h=>by rw[gH] at h;subst h;rw[ba,ba,gH]
 | k+1,d::ds,aS,h=>by
  rw[ep] at h;obtain⟨a,r,rfl,_,h2⟩:=h;exact ki.drop k h2
def ki.take:∀(k:Nat) {ds:List SV} {aS:List AV},ki ρ ds aS->ki ρ (ds.take k) (aS.take k)
 | 0,_,_,h=>by rw[a9,a9,gH]
 | k+1,[],aS,h=>by rw[gH] at h;subst h;rw[bc,bc,gH]
 | k+1,d::ds,aS,h=>by
  rw[ep] at h;obtain⟨a,r,rfl,h1,h2⟩:=h;rw[ad,ad,ep];exact⟨a,_,rfl,h1,ki.take k h2⟩
def c7.get:∀{ds:List SV} {aS:List AV},c7 θ ρ ds aS->∀{i:Nat} {d:SV},ds[i]?=some d->∃a,aS[i]?=some a/\VS θ ρ d a
 | [],_,_,i,d,h=>by simp at h
 | d0::ds,aS,h,i,d,hd=>by
  rw[aK] at h;obtain⟨a,r,rfl,h1,h2⟩:=h
  cases i with
  | zero=>simp only[a7,Option.some.injEq] at hd;subst hd;exact⟨a,rfl,h1⟩
  | succ i=>simp only[a6] at hd ⊢;exact c7.get h2 hd
def ki.get:∀{ds:List SV} {aS:List AV},ki ρ ds aS->∀{i:Nat} {d:SV},ds[i]?=some d->∃a,aS[i]?=some a/\GS ρ d a
 | [],_,_,i,d,h=>by simp at h
 | d0::ds,aS,h,i,d,hd=>by
  rw[ep] at h;obtain⟨a,r,rfl,h1,h2⟩:=h
  cases i with
  | zero=>simp only[a7,Option.some.injEq] at hd;subst hd;exact⟨a,rfl,h1⟩
  | succ i=>simp only[a6] at hd ⊢;exact ki.get h2 hd
def c7.set:∀{ds:List SV} {aS:List AV},c7 θ ρ ds aS->∀(i:Nat) {d:SV} {a:AV},VS θ ρ d a->c7 θ ρ (ds.set i d) (aS.set i a)
 | [],_,h,i,d,a,_=>by rw[aQ] at h;subst h;rw[set_nil,set_nil,aQ]
 | d0::ds,aS,h,i,d,a,hv=>by
  rw[aK] at h;obtain⟨b,r,rfl,h1,h2⟩:=h
  cases i with
  | zero=>rw[bo,bo,aK];exact⟨a,r,rfl,hv,h2⟩
  | succ i=>rw[bk,bk,aK];exact⟨b,_,rfl,h1,c7.set h2 i hv⟩
end
def nj(θ:Nat->Loc)(ρ:kg)(h:H)(L:Loc):SO->Prop
 | .cells cs=>∃aS,h.aR.get L.id=some (.cells aS L.cg)/\c7 θ ρ cs aS/\h.dE.get L.cg=some (L.x,L.y)
 | .map ks vs b=>∃l c,h.aR.get L.id=some (.map l c)/\PE l c ks b/\c7 θ ρ vs (l.map (·.2.1))
 | .gone=>True
 | .iter m bs c pos=>∃kY,VS θ ρ m (.map (some kY))/\h.aR.get L.id=some (.jg (some kY) c (pos.map λj=>bs.getD j 0) c)
 | .oL ks vs bs c pos=>∃kY l,ρ kY=some (.map l c)/\PE l c ks (some (bs,c))/\ki ρ vs (l.map (·.2.1))/\h.aR.get L.id=some (.jg (some kY) c (pos.map λj=>bs.getD j 0) c)
 | .loop c ls p f=>L.id=c.id/\h.aR.get L.id=some (.loop ls p c.t c.n c.ps c.a c.b c.d)/\∀i,i<c.n->VS θ ρ (aX f i) (MC c.t i)
 | .ox N=>L.id=N/\h.aR.get L.id=some (.ox false)
structure En where
 h:H
 pr:Nat->Prop
 pf:Nat->Prop
 lo:Nat
 w:Nat->AV
structure TD (e:En):Prop where
 pr:∀j,e.pr j->j<e.h.next
 pf:∀j,e.pf j->j<e.h.next
 lo:∀j,¬e.pr j->e.lo<=j
 ln:e.lo<=e.h.next
structure EV (b:En) (n:Nat) (L:Loc):Prop where
 e:L.id=L.x\/L.id=L.y
 x:¬b.pr L.x/\L.x<n
 y:¬b.pr L.y/\L.y<n
 f:¬b.pf L.cg/\L.cg<n
structure uP (L M:Loc):Prop where
 xx:L.x≠M.x
 xy:L.x≠M.y
 yx:L.y≠M.x
 yy:L.y≠M.y
 f:L.cg≠M.cg
structure RS (θ:Nat->Loc) (ρ0 ρ:kg) (h0:En) (h:H) (S:List SO):Prop where
 ok:TD h0
 nx:h0.h.next<=h.next
 ob:∀j,h0.pr j->h.aR.get j=h0.h.aR.get j
 fm:∀j,h0.pf j->h.dE.get j=h0.h.dE.get j
 lw:h0.lo<=h.low
 ln:h.low<=h.next
 obj:∀o so,S[o]?=some so->so≠.gone->EV h0 h.next (θ o)/\nj θ ρ h (θ o) so
 sep:∀o o' so so',o≠o'->S[o]?=some so->so≠.gone->S[o']?=some so'->so'≠.gone->uP (θ o) (θ o')
 row:∀id ob,ρ id=some ob->id<h.next/\h.aR.get id=some ob/\∀o so,S[o]?=some so->so≠.gone->id≠(θ o).x/\id≠(θ o).y
 mB:∀id ob,ρ id=some ob->ρ0 id=some ob\/¬h0.pr id
structure FR (θ:Nat->Loc) (ρ:kg) (f:Nat->SV) (af:Nat->AV) (n:Nat) (w:Nat->AV):Prop where
 v:∀i,VS θ ρ (f i) (if i<n then af i else w i)
 u:∀i,i<1000000->w i=kn
theorem RS.w{θ:Nat->Loc}{ρ0 ρ:kg}{h0:En}{h:H}{S:List SO}(hR:RS θ ρ0 ρ h0 h S)(w:Nat->AV):RS θ ρ0 ρ { h0 with w:=w } h S:=
 ⟨⟨hR.ok.pr,hR.ok.pf,hR.ok.lo,hR.ok.ln⟩,hR.nx,hR.ob,hR.fm,hR.lw,hR.ln,λo so h1 h2=>by
  obtain⟨⟨k1,k2,k3,k4⟩,k5⟩:=hR.obj o so h1 h2
  exact⟨⟨k1,k2,k3,k4⟩,k5⟩,hR.sep,hR.row,hR.mB⟩
end
end Go.Ev
