/- Lemmas of this claim, each with its conditions. -/
import Derived.Test.YtchdmmkclcnmnaaGreatA37
import Derived.Test.YtchdmmkclcnmnaaGreatA19
import Derived.ProofKit
import Derived.SizedLaws
import Derived.Carry
import Derived.Test.YtchdmmkclcnmnaaGreatRows
set_option linter.all false
open List (map_nil)
open Nat (ble)
open Option renaming bind_some -> aa, map_some -> ap
open List renaming length_map -> ac, map_cons -> af, length -> ax
open Nat renaming reduceAdd -> ad, beq_refl -> aj, zero_add -> al
namespace Go.Proofs.YtchdmmkclcnmnaaGreat
open Go.Proofs Go.Ev Go.ChangeShapes Go.WideShapes Go.ChangeAt Go.RowKit
set_option maxRecDepth 100000
def TZ:ownKnob Tryz.prog.godebug=none:=by kernel_rfl
def QA:laidOutB Tryz.prog=true:=by kernel_rfl
def RY{α:Type}:∀{l:List α},l.length=2->∃a b,l=[a,b]
 | [a,b],_=>⟨a,b,rfl⟩
def Pl{α:Type}:∀{l:List α},l.length=3->∃a b c,l=[a,b,c]
 | [a,b,c],_=>⟨a,b,c,rfl⟩
def Po:∀k,np Tryz.prog k 27=some (oK k)
 | 0=>by kernel_rfl
 | 1=>by kernel_rfl
 | k+2=>by
  have ih:=Po k
  have h1:np Tryz.prog (k+1) 25=some (.sl (oK k)):=by
   unfold np;rw[show Tryz.prog.underlying 25=some (.slice 27) by kernel_rfl];simp only;rw[ih,aa,sB,show(Nat.beq (Tryz.prog.cellsOf 27) 3&&(ble 1 3&&ble 1 (Tryz.prog.bytesOf 27)))=true by kernel_rfl];rfl
  have h2:np Tryz.prog (k+1) 3=some i6:=by kernel_rfl
  obtain⟨fs,hu,hfs⟩:∃fs,Tryz.prog.underlying 27=some (.struct fs)/\fs.toList.map (λf=>(f.type,f.offset))=[(3,0),(3,1),(25,2)]:=by
   have q:(Tryz.prog.underlying 27).bind (λu=>match u with | .struct fs=>some (fs.toList.map (λf=>(f.type,f.offset))) | _=>none)=some [(3,0),(3,1),(25,2)]:=by kernel_rfl
   obtain⟨u,e1,e2⟩:=Option.bind_eq_some_iff.1 q
   cases u<;>first | (cases e2;done) | exact⟨_,e1,Option.some.inj e2⟩
  unfold np;rw[hu];simp only;generalize fs.toList=l at hfs;obtain⟨a,b,c,rfl⟩:=Pl (by have:=congrArg ax hfs;rwa [ac] at this)
  ·simp only[af,map_nil,List.cons.injEq,Prod.mk.injEq,and_true] at hfs;obtain⟨⟨a1,a2⟩,⟨b1,b2⟩,c1,c2⟩:=hfs
   have n1:Tryz.prog.cellsOf 3=1:=by kernel_rfl
   have n2:Tryz.prog.cellsOf 25=1:=by kernel_rfl
   have n3:Tryz.prog.cellsOf 27=3:=by kernel_rfl
   simp only[jM,a1,a2,b1,b2,c1,c2,h1,h2,n1,n2,n3,aa,ap,Ty.size,Ty.wK,aj,cond_true,al,ad,oK]
def Pp(j:Nat):np Tryz.prog (j+12) 29=some (.st [.st [.sl (.st vz)],oK (j+11)]):=by
 obtain⟨fs,hu,hfs⟩:∃fs,Tryz.prog.underlying 29=some (.struct fs)/\fs.toList.map (λf=>(f.type,f.offset))=[(24,0),(27,1)]:=by
  have q:(Tryz.prog.underlying 29).bind (λu=>match u with | .struct fs=>some (fs.toList.map (λf=>(f.type,f.offset))) | _=>none)=some [(24,0),(27,1)]:=by kernel_rfl
  obtain⟨u,e1,e2⟩:=Option.bind_eq_some_iff.1 q
  cases u<;>first | (cases e2;done) | exact⟨_,e1,Option.some.inj e2⟩
 have h1:np Tryz.prog (j+11) 24=some (.st [.sl (.st vz)]):=by kernel_rfl
 have h2:=Po (j+11);unfold np;rw[hu];simp only;generalize fs.toList=l at hfs;obtain⟨a,b,rfl⟩:=RY (by have:=congrArg ax hfs;rwa [ac] at this)
 ·simp only[af,map_nil,List.cons.injEq,Prod.mk.injEq,and_true] at hfs;obtain⟨⟨a1,a2⟩,b1,b2⟩:=hfs
  have n1:Tryz.prog.cellsOf 24=1:=by kernel_rfl
  have n2:Tryz.prog.cellsOf 27=3:=by kernel_rfl
  have n3:Tryz.prog.cellsOf 29=4:=by kernel_rfl
  have h2:np Tryz.prog (j+11) 27=some (oK (j+11)):=h2;simp only[jM,a1,a2,b1,b2,h1,h2,n1,n2,n3,aa,ap,Ty.size,Ty.wK,sB,aj,cond_true,al,ad]
def Tm(j:Nat):np Tryz.prog (j+12) 30=some (.sl (.st MT)):=by kernel_rfl
def Ue(j:Nat):np Tryz.prog (j+12) 31=some (.sl (.st Cx)):=by kernel_rfl
def Tl(j:Nat):np Tryz.prog (j+12) 32=some (.sl (.st Lw)):=by kernel_rfl
def params4:Tryz.f4.params.toList=[29,30,31,32]:=by kernel_rfl
def z8:reachBytes<=mi:=by decide
def whom_lifted(os:Os)(started:os.Started)(H:Type)(enc:TypeId×Value->H):
 ReturnsInHanded {} Tryz.checked os 4 .any (Rows.settleWhomSpec.pre6 enc Tryz.prog Tryz.f4 Rows.settleWhomRow.domain false) (Rows.settleWhomSpec.post enc Tryz.prog Tryz.f4 false true false false):=by
 refine returnsInHanded_of_change_sized (C:=Tryz.checked) TZ started (by kernel_rfl) Tryz.func4
  (ChangeSpec.witness6 (enc:=enc) (C:=Tryz.checked) false ⟨#[],#[.agg #[.slice none 0 0,.int .i64 0,.int .i64 0,.slice none 0 0],.slice none 0 0,.slice none 0 0,.slice none 0 0],[]⟩ 8 (by kernel_rfl) (by kernel_rfl) (by kernel_rfl) (by kernel_rfl)) ?_
 intro W base args ds gs before hval0 hW _ hwt0 _;have hval:∀(j:Nat) t v,Tryz.f4.params[j]?=some t->args[j]?=some v->Value.okWide Tryz.prog W .any base t v:=hval0;have hW':=hW;obtain⟨p,q,hA0,hV,rfl,hfz,hnd⟩:=hW;have hA:DataW.TrodAll enc Tryz.prog W 0 (λ_=>true) true Tryz.f4.params.toList args.toList ds p:=hA0;rw[params4] at hA;obtain⟨v0,v1,v2,v3,d0,d1,d2,d3,p0,p1,p2,p3,rfl,rfl,rfl,h0,h1,h2,h3⟩:=trodAll_four hA;obtain⟨rfl,rfl⟩:=trodVars_none hV;have hwt1:(DataW.weightsEach Tryz.prog (Tryz.f4.params.toList++Rows.settleWhomSpec.plain.varTypes Tryz.prog) ([d0,d1,d2,d3]++[])).all (·<=reachBytes)=true:=hwt0
 have hwt:∀{j:Nat} {t:TypeId} {d:DataW H},(Tryz.f4.params.toList++Rows.settleWhomSpec.plain.varTypes Tryz.prog)[j]?=some t->([d0,d1,d2,d3]++[])[j]?=some d->∀x∈d.weights Tryz.prog t,x<=reachBytes:=by
  intro j t d ht hd x hx;have:=List.all_eq_true.1 hwt1 x (DataW.weights_mem_each ht hd x hx);simpa using this
 obtain⟨j0,y0,o0,w0⟩:=s9 Pp (hval 0 29 v0 (by kernel_rfl) rfl) h0 (hwt (j:=0) (by kernel_rfl) rfl);obtain⟨_,y1,o1,w1⟩:=s9 Tm (hval 1 30 v1 (by kernel_rfl) rfl) h1 (hwt (j:=1) (by kernel_rfl) rfl);obtain⟨_,y2,o2,w2⟩:=s9 Ue (hval 2 31 v2 (by kernel_rfl) rfl) h2 (hwt (j:=2) (by kernel_rfl) rfl);obtain⟨_,y3,o3,w3⟩:=s9 Tl (hval 3 32 v3 (by kernel_rfl) rfl) h3 (hwt (j:=3) (by kernel_rfl) rfl);obtain⟨e0,rfl,o0⟩:=o0;have o1:nJ reachBytes (.sl (.st MT)) [y1]:=o1;have o2:nJ reachBytes (.sl (.st Cx)) [y2]:=o2;have o3:nJ reachBytes (.sl (.st Lw)) [y3]:=o3;rw[nJ] at o1 o2 o3;obtain⟨n1,rows1,e1,b1,k1⟩:=o1;obtain⟨n2,rows2,e2,b2,k2⟩:=o2;obtain⟨n3,rows3,e3,b3,k3⟩:=o3;simp only[List.cons.injEq,and_true] at e1 e2 e3;subst e1;subst e2;subst e3;obtain⟨c,dmg,s0,f0,f1⟩:=Pd z8 o0;obtain⟨ws,s1,t1,g1⟩:=uo bK (λw=>(w.kind.length<=mi/\w.cH.length<=mi)/\((∀b∈w.kind,b<256)/\∀b∈w.cH,b<256)) λr hr=>R6 z8 (by have:=k1 r hr;rw[nJ] at this;exact this);obtain⟨l,s2,t2,g2⟩:=uo aD (λr=>r.opts.length<=mi/\∀e∈r.opts,QW e) λr hr=>RN z8 (by have:=k2 r hr;rw[nJ] at this;exact this);obtain⟨costs,s3,t3,g3⟩:=uo cF (λw=>(w.part.length<=mi/\w.owner.length<=mi)/\((∀b∈w.part,b<256)/\∀b∈w.owner,b<256)) λr hr=>Rt z8 (by have:=k3 r hr;rw[nJ] at this;exact this);have hr:=z8;have hlaw:=xG c dmg ws l costs ⟨f0,f1,by omega,λw hw=>(g1 w hw).1,λw hw=>(g1 w hw).2,by omega,λw hw=>(g3 w hw).1,λw hw=>(g3 w hw).2,by omega,λr hr=>(g2 r hr).1,λr hr=>(g2 r hr).2⟩
 have hwd:nr W [.ag e0,.sl n1 rows1.length (Ty.st MT).size rows1.flatten,.sl n2 rows2.length (Ty.st Cx).size rows2.flatten,.sl n3 rows3.length (Ty.st Lw).size rows3.flatten] (#[v0,v1,v2,v3]:Array Value).toList:=by
  rw[eG];refine⟨_,_,rfl,w0,?_⟩;rw[eG];refine⟨_,_,rfl,w1,?_⟩;rw[eG];refine⟨_,_,rfl,w2,?_⟩;rw[eG];refine⟨_,_,rfl,w3,?_⟩;rw[jk]
 have hdv:gN [.ag e0,.sl n1 rows1.length (Ty.st MT).size rows1.flatten,.sl n2 rows2.length (Ty.st Cx).size rows2.flatten,.sl n3 rows3.length (Ty.st Lw).size rows3.flatten]=[.ag (ak 3 c ao::aE dmg),ak 5 ws bK,ak 2 l aD,ak 4 costs cF]:=by
  simp only[gN,wm s1 t1,wm s2 t2,wm s3 t3];rw[LD,s0];rfl
 refine(RF dG Tryz.func4 rfl hwd (by rw[hdv];exact hlaw)).mono λe W' ⟨he,hb⟩=>?_;subst he
 have hlt:∀x∈p0++p1++p2++p3,x.block<W.heap.size:=λx hx=>by simpa using hW'.lt x (by simpa using hx)
 have z0:=Below.trod QA (by kernel_rfl) (ww (by kernel_rfl)) h0 hb (λx hx=>hlt x (by simp[hx]));have z1:=Below.trod QA (by kernel_rfl) (ww (by kernel_rfl)) h1 hb (λx hx=>hlt x (by simp[hx]));have z2:=Below.trod QA (by kernel_rfl) (ww (by kernel_rfl)) h2 hb (λx hx=>hlt x (by simp[hx]));have z3:=Below.trod QA (by kernel_rfl) (ww (by kernel_rfl)) h3 hb (λx hx=>hlt x (by simp[hx]));exact⟨_,rfl,_,_,_,[],_,[],hW',trodAll_mk1 (shut_bool Tryz.underlying4 true),trodAll_mk4 z0 z1 z2 z3,rfl,hb.frame _,λh=>by cases h⟩
end Go.Proofs.YtchdmmkclcnmnaaGreat
