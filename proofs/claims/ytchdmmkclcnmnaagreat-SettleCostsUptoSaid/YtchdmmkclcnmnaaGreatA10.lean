/- Lemmas of this claim, each with its conditions. -/
import Derived.Test.YtchdmmkclcnmnaaGreatA9
import Derived.Test.YtchdmmkclcnmnaaGreatA5
import Derived.ProofKit
import Derived.SizedLaws
import Derived.Carry
import Derived.Deep.CondSized
import Derived.Deep.Slices
import Derived.Lib.SmallJoins
import Derived.Test.YtchdmmkclcnmnaaGreatRows
set_option linter.all false
open Go.Proofs.Tryz (prog func3)
open Option (bind_eq_some_iff)
open List (map_nil)
open Nat (ble)
open Option renaming bind_some -> ac, map_some -> ay
open List renaming map_cons -> ad, length_map -> aj, length -> aS
open Go.Proofs.Tryz renaming checked -> af
open Nat renaming reduceAdd -> al, beq_refl -> ap, zero_add -> ax
namespace Go.Proofs.YtchdmmkclcnmnaaGreat
open Go.Proofs Go.Ev Go.ChangeShapes Go.WideShapes Go.ChangeAt Go.RowKit Go.Deep Go.Lib
set_option maxRecDepth 100000
def VM:ownKnob prog.godebug=none:=by kernel_rfl
def P5:laidOutB prog=true:=by kernel_rfl
def T8{α:Type}:∀{l:List α},l.length=2->∃a b,l=[a,b]
 | [a,b],_=>⟨a,b,rfl⟩
def Ry{α:Type}:∀{l:List α},l.length=4->∃a b c d,l=[a,b,c,d]
 | [a,b,c,d],_=>⟨a,b,c,d,rfl⟩
def QO{α:Type}:∀{l:List α},l.length=3->∃a b c,l=[a,b,c]
 | [a,b,c],_=>⟨a,b,c,rfl⟩
def QR:∀k,nP prog k 27=some (o8 k)
 | 0=>by kernel_rfl
 | 1=>by kernel_rfl
 | k+2=>by
  have ih:=QR k
  have h1:nP prog (k+1) 25=some (.sl (o8 k)):=by
   unfold nP;rw[show prog.underlying 25=some (.slice 27) by kernel_rfl];simp only;rw[ih,ac,s8,show(Nat.beq (prog.cellsOf 27) 3&&(ble 1 3&&ble 1 (prog.bytesOf 27)))=true by kernel_rfl];rfl
  have h2:nP prog (k+1) 3=some i6:=by kernel_rfl
  obtain⟨fs,hu,hfs⟩:∃fs,prog.underlying 27=some (.struct fs)/\fs.toList.map (λf=>(f.type,f.offset))=[(3,0),(3,1),(25,2)]:=by
   have q:(prog.underlying 27).bind (λu=>match u with | .struct fs=>some (fs.toList.map (λf=>(f.type,f.offset))) | _=>none)=some [(3,0),(3,1),(25,2)]:=by kernel_rfl
   obtain⟨u,e1,e2⟩:=bind_eq_some_iff.1 q
   cases u<;>first | (cases e2;done) | exact⟨_,e1,Option.some.inj e2⟩
  unfold nP;rw[hu];simp only;generalize fs.toList=l at hfs;obtain⟨a,b,c,rfl⟩:=QO (by have:=congrArg aS hfs;rwa [aj] at this)
  ·simp only[ad,map_nil,List.cons.injEq,Prod.mk.injEq,and_true] at hfs;obtain⟨⟨a1,a2⟩,⟨b1,b2⟩,c1,c2⟩:=hfs
   have n1:prog.cellsOf 3=1:=by kernel_rfl
   have n2:prog.cellsOf 25=1:=by kernel_rfl
   have n3:prog.cellsOf 27=3:=by kernel_rfl
   simp only[jS,a1,a2,b1,b2,c1,c2,h1,h2,n1,n2,n3,ac,ay,Ty.size,Ty.xu,ap,cond_true,ax,al,o8]
def QS(j:Nat):nP prog (j+12) 29=some (.st [.st [.sl (.st we)],o8 (j+11)]):=by
 obtain⟨fs,hu,hfs⟩:∃fs,prog.underlying 29=some (.struct fs)/\fs.toList.map (λf=>(f.type,f.offset))=[(24,0),(27,1)]:=by
  have q:(prog.underlying 29).bind (λu=>match u with | .struct fs=>some (fs.toList.map (λf=>(f.type,f.offset))) | _=>none)=some [(24,0),(27,1)]:=by kernel_rfl
  obtain⟨u,e1,e2⟩:=bind_eq_some_iff.1 q
  cases u<;>first | (cases e2;done) | exact⟨_,e1,Option.some.inj e2⟩
 have h1:nP prog (j+11) 24=some (.st [.sl (.st we)]):=by kernel_rfl
 have h2:=QR (j+11);unfold nP;rw[hu];simp only;generalize fs.toList=l at hfs;obtain⟨a,b,rfl⟩:=T8 (by have:=congrArg aS hfs;rwa [aj] at this)
 ·simp only[ad,map_nil,List.cons.injEq,Prod.mk.injEq,and_true] at hfs;obtain⟨⟨a1,a2⟩,b1,b2⟩:=hfs
  have n1:prog.cellsOf 24=1:=by kernel_rfl
  have n2:prog.cellsOf 27=3:=by kernel_rfl
  have n3:prog.cellsOf 29=4:=by kernel_rfl
  have h2:nP prog (j+11) 27=some (o8 (j+11)):=h2;simp only[jS,a1,a2,b1,b2,h1,h2,n1,n2,n3,ac,ay,Ty.size,Ty.xu,s8,ap,cond_true,ax,al]
def Vg(j:Nat):nP Tryz.prog (j+12) 30=some (.sl (.st Od)):=by kernel_rfl
def V6(j:Nat):nP Tryz.prog (j+12) 31=some (.sl (.st Dg)):=by kernel_rfl
def Tn(j:Nat):nP Tryz.prog (j+12) 32=some (.sl (.st D5)):=by kernel_rfl
def params5:Tryz.f3.params.toList=[29,30,31,32,32]:=by kernel_rfl
def wB:reachBytes<=l7:=by decide
section
variable {H:Type} {enc:TypeId×Value->H} {P:Program} {w:World} {base:Nat} {spare:Nat->Bool} {held:Bool}
def E0{t t' t2 t3 t4:TypeId}{args:Array Value}{ds:List (DataW H)}{ps:List MemPlace}(h:DataW.TrodAll enc P w base spare held [t,t',t2,t3,t4] args.toList ds ps):
 ∃v v' v2 v3 v4 d d' d2 d3 d4 p p' p2 p3 p4,args=#[v,v',v2,v3,v4]/\ds=[d,d',d2,d3,d4]/\ps=p++p'++p2++p3++p4/\DataW.Trod enc P w base spare held t v d p/\DataW.Trod enc P w base spare held t' v' d' p'/\DataW.Trod enc P w base spare held t2 v2 d2 p2/\DataW.Trod enc P w base spare held t3 v3 d3 p3/\DataW.Trod enc P w base spare held t4 v4 d4 p4:=by
 obtain⟨v,_,d,_,p,_,hargs,rfl,rfl,hd,h⟩:=trodAll_cons h;obtain⟨v',_,d',_,p',_,rfl,rfl,rfl,hd',h⟩:=trodAll_cons h;obtain⟨v2,_,d2,_,p2,_,rfl,rfl,rfl,hd2,h⟩:=trodAll_cons h;obtain⟨v3,_,d3,_,p3,_,rfl,rfl,rfl,hd3,h⟩:=trodAll_cons h;obtain⟨v4,_,d4,_,p4,_,rfl,rfl,rfl,hd4,h⟩:=trodAll_cons h;obtain⟨rfl,rfl,rfl⟩:=trodAll_nil h;exact⟨v,v',v2,v3,v4,d,d',d2,d3,d4,p,p',p2,p3,p4,by cases args;simp_all,rfl,by simp,hd,hd',hd2,hd3,hd4⟩
def HU{t t' t2 t3 t4:TypeId}{v v' v2 v3 v4:Value}{d d' d2 d3 d4:DataW H}{p p' p2 p3 p4:List MemPlace}(h:DataW.Trod enc P w base spare held t v d p)(h':DataW.Trod enc P w base spare held t' v' d' p')
 (h2:DataW.Trod enc P w base spare held t2 v2 d2 p2) (h3:DataW.Trod enc P w base spare held t3 v3 d3 p3) (h4:DataW.Trod enc P w base spare held t4 v4 d4 p4):DataW.TrodAll enc P w base spare held [t,t',t2,t3,t4] [v,v',v2,v3,v4] [d,d',d2,d3,d4] (p++(p'++(p2++(p3++p4)))):=⟨p,p'++(p2++(p3++p4)),h,trodAll_mk4 h' h2 h3 h4,rfl⟩
end
def OM{H:Type}{D:Nat->DataW H}{l:List Nat}(h:∀i∈l,4<=Rows.uptoBulk (D i)):4*l.length<=Rows.uptoBulkAll (l.map D):=by
 induction l with
 | nil=>simp
 | cons x l ih=>
  have h1:=ih λi hi=>h i (List.mem_cons_of_mem _ hi);have h2:=h x (List.mem_cons_self ..);simp only[ad,Rows.uptoBulkAll,List.length_cons];omega
def tO{H:Type}(d:DataW H):1<=Rows.uptoBulk d:=by
 cases d with
 | lit l=>cases l<;>simp[Rows.uptoBulk]
 | _=>simp[Rows.uptoBulk]
def SM{H:Type}{enc:TypeId×Value->H}{W:World}{nl:Bool}{n e:Nat}{cs:List DV}{v:Value}{d:DataW H}{ps:List MemPlace}(hw:Wd W (.sl nl n e cs) v)(hd:DataW.Trod enc prog W 0 (λ_=>true) true 32 v d ps):4*n<=Rows.uptoBulk d:=by
 rcases Ch.1 hw with⟨_,rfl,_⟩ | ⟨_,a,c,rfl,_⟩
 ·omega
 obtain⟨fuel,hf⟩:=hd
 obtain⟨f0,f1,f2,f3,hu⟩:∃f0 f1 f2 f3,prog.underlying 47=some (.struct #[f0,f1,f2,f3]):=by
  have q:(prog.underlying 47).bind (λu=>match u with | .struct fs=>some fs.toList.length | _=>none)=some 4:=by kernel_rfl
  obtain⟨u,e1,e2⟩:=bind_eq_some_iff.1 q
  cases u<;>first | (cases e2;done) | skip
  rename_i fs;obtain⟨fs⟩:=fs;obtain⟨f0,f1,f2,f3,rfl⟩:=Ry (Option.some.inj e2);exact⟨f0,f1,f2,f3,e1⟩
 rcases open_slice Tryz.underlying32 hf with⟨hcs,_⟩ | ⟨a',len,cap,m,k,D,Pl,hcs,_,hl,_,hm,hx,hall⟩
 ·have hcs:([Value.slice (some a) n c]:List Value)=[.slice none 0 0]:=hcs;simp only[List.cons.injEq,Value.slice.injEq,and_true] at hcs;exact nomatch hcs.1
 ·have hcs:([Value.slice (some a) n c]:List Value)=[.slice (some a') len cap]:=hcs;simp only[List.cons.injEq,Value.slice.injEq,and_true] at hcs;obtain⟨_,rfl,rfl⟩:=hcs;simp only[if_true] at hm;simp only[Prod.mk.injEq] at hx;obtain⟨rfl,_⟩:=hx
  have:=OM (D:=D) (l:=List.range n) (λi hi=>by
   obtain⟨cs',_,h2⟩:=hall i (by have:=List.mem_range.1 hi;omega);obtain⟨y0,y1,y2,y3,m',he,_⟩:=Go.Joins.trod_struct4 hu h2;simp only[Prod.mk.injEq] at he;rw[he.1];have h0:=tO y0.1;have h1:=tO y1.1;have h3:=tO y2.1;have h4:=tO y3.1
   simp only[Rows.uptoBulk,Rows.uptoBulkAll];omega)
  rw[List.length_range] at this;simp only[Rows.uptoBulk];omega
def costs_lifted(os:Os)(started:os.Started)(H:Type)(enc:TypeId×Value->H)(F:Stop.Interp):
 ReturnsInHanded {} af os 3 .any ((Rows.OpenSpec.upto Rows.settleCostsSpec).pre6 enc prog Tryz.f3 Rows.settleCostsUptoRow.domain false) (((Rows.OpenSpec.upto Rows.settleCostsSpec).at F).post enc prog Tryz.f3 false true false false):=by
 refine returnsInHanded_of_cond_sized (C:=af) (s:=Rows.OpenSpec.upto Rows.settleCostsSpec) (k:=Rows.uptoSmall) rfl VM started (by kernel_rfl) func3
  (OpenSpec.witness (enc:=enc) (C:=af) (s:=Rows.OpenSpec.upto Rows.settleCostsSpec) (k:=Rows.uptoSmall) rfl false ⟨#[],#[.agg #[.slice none 0 0,.int .i64 0,.int .i64 0,.slice none 0 0],.slice none 0 0,.slice none 0 0,.slice none 0 0,.slice none 0 0],[]⟩ 8 (by kernel_rfl) (by kernel_rfl) (by kernel_rfl)
   (x:=([.agg [.agg [.nil],.agg [.lit (.int .i64 0),.lit (.int .i64 0),.nil]],.nil,.nil,.nil,.nil],[],[])) (by kernel_rfl) (by kernel_rfl) (by kernel_rfl)) ?_
 intro W base args ds gs before hval0 hW _ hk hwt0 _;have hval:∀(j:Nat) t v,Tryz.f3.params[j]?=some t->args[j]?=some v->Value.okWide prog W .any base t v:=hval0;have hW':=hW;obtain⟨p,q,hA0,hV,rfl,hfz,hnd⟩:=hW;have hA:DataW.TrodAll enc prog W 0 (λ_=>true) true Tryz.f3.params.toList args.toList ds p:=hA0;rw[params5] at hA;obtain⟨v0,v1,v2,v3,v4,d0,d1,d2,d3,d4,p0,p1,p2,p3,p4,rfl,rfl,rfl,h0,h1,h2,h3,h4⟩:=E0 hA;obtain⟨rfl,rfl⟩:=trodVars_none hV;have hwt1:(DataW.weightsEach prog (Tryz.f3.params.toList++(Rows.OpenSpec.upto Rows.settleCostsSpec).bare.plain.varTypes prog) ([d0,d1,d2,d3,d4]++[])).all (·<=reachBytes)=true:=hwt0
 have hwt:∀{j:Nat} {t:TypeId} {d:DataW H},(Tryz.f3.params.toList++(Rows.OpenSpec.upto Rows.settleCostsSpec).bare.plain.varTypes prog)[j]?=some t->([d0,d1,d2,d3,d4]++[])[j]?=some d->∀x∈d.weights prog t,x<=reachBytes:=by
  intro j t d ht hd x hx;have:=List.all_eq_true.1 hwt1 x (DataW.weights_mem_each ht hd x hx);simpa using this
 obtain⟨j0,y0,o0,w0⟩:=qD QS (hval 0 29 v0 (by kernel_rfl) rfl) h0 (hwt (j:=0) (by kernel_rfl) rfl);obtain⟨_,y1,o1,w1⟩:=qD Vg (hval 1 30 v1 (by kernel_rfl) rfl) h1 (hwt (j:=1) (by kernel_rfl) rfl);obtain⟨_,y2,o2,w2⟩:=qD V6 (hval 2 31 v2 (by kernel_rfl) rfl) h2 (hwt (j:=2) (by kernel_rfl) rfl);obtain⟨_,y3,o3,w3⟩:=qD Tn (hval 3 32 v3 (by kernel_rfl) rfl) h3 (hwt (j:=3) (by kernel_rfl) rfl);obtain⟨_,y4,o4,w4⟩:=qD Tn (hval 4 32 v4 (by kernel_rfl) rfl) h4 (hwt (j:=4) (by kernel_rfl) rfl);obtain⟨e0,rfl,o0⟩:=o0;have o1:nJ reachBytes (.sl (.st Od)) [y1]:=o1;have o2:nJ reachBytes (.sl (.st Dg)) [y2]:=o2;have o3:nJ reachBytes (.sl (.st D5)) [y3]:=o3;have o4:nJ reachBytes (.sl (.st D5)) [y4]:=o4;rw[nJ] at o1 o2 o3 o4;obtain⟨n1,rows1,e1,b1,k1⟩:=o1;obtain⟨n2,rows2,e2,b2,k2⟩:=o2;obtain⟨n3,rows3,e3,b3,k3⟩:=o3;obtain⟨n4,rows4,e4,b4,k4⟩:=o4;simp only[List.cons.injEq,and_true] at e1 e2 e3 e4;subst e1;subst e2;subst e3;subst e4;obtain⟨c,dmg,s0,f0,f1⟩:=QG wB o0;obtain⟨ws,s1,t1,g1⟩:=sL bJ (λw=>(w.kind.length<=l7/\w.cR.length<=l7)/\((∀b∈w.kind,b<256)/\∀b∈w.cR,b<256)) λr hr=>Ud wB (by have:=k1 r hr;rw[nJ] at this;exact this);obtain⟨l,s2,t2,g2⟩:=sL aB (λr=>r.opts.length<=l7/\∀e∈r.opts,SB e) λr hr=>TW wB (by have:=k2 r hr;rw[nJ] at this;exact this);obtain⟨one,s3,t3,g3⟩:=sL bN (λw=>(w.part.length<=l7/\w.owner.length<=l7)/\((∀b∈w.part,b<256)/\∀b∈w.owner,b<256)) λr hr=>OW wB (by have:=k3 r hr;rw[nJ] at this;exact this);obtain⟨two,s4,t4,g4⟩:=sL bN (λw=>(w.part.length<=l7/\w.owner.length<=l7)/\((∀b∈w.part,b<256)/\∀b∈w.owner,b<256)) λr hr=>OW wB (by have:=k4 r hr;rw[nJ] at this;exact this);have hr:=wB;have hbk:Rows.uptoBulkAll ([d0,d1,d2,d3,d4]++[])<=1048576:=ww hk;simp only[List.cons_append,List.nil_append,Rows.uptoBulkAll] at hbk;have hn3:=SM w3 h3;have hn4:=SM w4 h4;have hlaw:=wU c dmg ws l one two ⟨f0,f1,by omega,λw hw=>(g1 w hw).1,λw hw=>(g1 w hw).2,by rw[List.length_append];exact Nat.le_trans (show one.length+two.length<=1000000 by omega) (by decide),λw hw=>(List.mem_append.1 hw).elim (λh=>(g3 w h).1) λh=>(g4 w h).1,λw hw=>(List.mem_append.1 hw).elim (λh=>(g3 w h).2) λh=>(g4 w h).2,by omega,λr hr=>(g2 r hr).1,λr hr=>(g2 r hr).2⟩ (by omega) (by omega)
 have hwd:nS W [.ag e0,.sl n1 rows1.length (Ty.st Od).size rows1.flatten,.sl n2 rows2.length (Ty.st Dg).size rows2.flatten,.sl n3 rows3.length (Ty.st D5).size rows3.flatten,.sl n4 rows4.length (Ty.st D5).size rows4.flatten] (#[v0,v1,v2,v3,v4]:Array Value).toList:=by
  rw[eF];refine⟨_,_,rfl,w0,?_⟩;rw[eF];refine⟨_,_,rfl,w1,?_⟩;rw[eF];refine⟨_,_,rfl,w2,?_⟩;rw[eF];refine⟨_,_,rfl,w3,?_⟩;rw[eF];refine⟨_,_,rfl,w4,?_⟩;rw[jm]
 have hdv:gR [.ag e0,.sl n1 rows1.length (Ty.st Od).size rows1.flatten,.sl n2 rows2.length (Ty.st Dg).size rows2.flatten,.sl n3 rows3.length (Ty.st D5).size rows3.flatten,.sl n4 rows4.length (Ty.st D5).size rows4.flatten]=[.ag (ah 3 c ao::aD dmg),ah 5 ws bJ,ah 2 l aB,ah 4 one bN,ah 4 two bN]:=by
  simp only[gR,tQ s1 t1,tQ s2 t2,tQ s3 t3,tQ s4 t4];rw[MS,s0];rfl
 refine(TN dE func3 rfl hwd (by rw[hdv];exact hlaw)).mono λe W' ⟨he,hb⟩=>?_;subst he
 have hlt:∀x∈p0++p1++p2++p3++p4,x.block<W.heap.size:=λx hx=>by simpa using hW'.lt x (by simpa using hx)
 have z0:=Below.trod P5 (by kernel_rfl) (ww (by kernel_rfl)) h0 hb (λx hx=>hlt x (by simp[hx]));have z1:=Below.trod P5 (by kernel_rfl) (ww (by kernel_rfl)) h1 hb (λx hx=>hlt x (by simp[hx]));have z2:=Below.trod P5 (by kernel_rfl) (ww (by kernel_rfl)) h2 hb (λx hx=>hlt x (by simp[hx]));have z3:=Below.trod P5 (by kernel_rfl) (ww (by kernel_rfl)) h3 hb (λx hx=>hlt x (by simp[hx]));have z4:=Below.trod P5 (by kernel_rfl) (ww (by kernel_rfl)) h4 hb (λx hx=>hlt x (by simp[hx]));exact⟨_,rfl,_,_,_,[],_,[],hW',trodAll_mk1 (shut_bool Tryz.underlying4 true),HU z0 z1 z2 z3 z4,rfl,hb.frame _,λh=>by cases h⟩
end Go.Proofs.YtchdmmkclcnmnaaGreat
