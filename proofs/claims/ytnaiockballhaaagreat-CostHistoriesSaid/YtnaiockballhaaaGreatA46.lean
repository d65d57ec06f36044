/- A part of the texts of this claim: every theorem says what it proves, with its conditions. -/
import Derived.Test.YtnaiockballhaaaGreatA45
import Derived.Test.YtnaiockballhaaaGreatA23
import Derived.Test.YtnaiockballhaaaGreatA10
import Derived.ProofKit
import Derived.SizedLaws
import Derived.Carry
import Derived.Test.YtnaiockballhaaaGreatRows
set_option linter.unusedSimpArgs false
set_option linter.unusedVariables false
set_option linter.unusedSectionVars false
open Option (bind_some map_some)
open List (map_nil)
open Nat (ble)
namespace Go.Proofs
open Go.Ev
set_option maxRecDepth 100000
abbrev i6:Ty:=.int .i64
def O8:List Ty:=[i6,i6,.str,.str,.str,.str,.str,.str,.st [.st [i6,i6],.st [i6,i6],.st [i6,i6]]]
def Hj:List Ty:=[.str,.sl .str,i6]
def uh:List Ty:=[.str,.bool,.sl (.st Hj)]
def A9:List Ty:=[.sl (.st O8),.bool]
def KM:List Ty:=[.str,.str,i6,i6,i6]
def O5:List Ty:=[.str,.str,i6,i6]
def nA:Nat->Ty
 | 0=>.no 3
 | 1=>.st [.no 1,.no 1,.no 1]
 | j+2=>.st [i6,i6,.sl (nA j)]
theorem q9:∀j,(nA j).size=3
 | 0=>rfl
 | 1=>rfl
 | j+2=>rfl
theorem vf{α:Type}(enc:α->List SV)(ok:α->Prop):∀{rows:List (List DV)},(∀r∈rows,∃x,gg r=enc x/\ok x)->∃xs:List α,xs.length=rows.length/\gg rows.flatten=xs.flatMap enc/\∀x∈xs,ok x
 | [],_=>⟨[],rfl,rfl,λx hx=>by cases hx⟩
 | r::rows,h=>by
  obtain⟨x,h1,h2⟩:=h r List.mem_cons_self;obtain⟨xs,h3,h4,h5⟩:=vf enc ok (rows:=rows) λq hq=>h q (List.mem_cons_of_mem _ hq);refine⟨x::xs,by rw[List.length_cons,List.length_cons,h3],by rw[List.flatten_cons,DT,h1,h4,List.flatMap_cons],λy hy=>?_⟩
  rcases List.mem_cons.1 hy with rfl | hy
  ·exact h2
  ·exact h5 y hy
theorem xc{α:Type}{enc:α->List SV}{nl:Bool}{e:Nat}{rows:List (List DV)}{xs:List α}(h1:xs.length=rows.length)(h2:gg rows.flatten=xs.flatMap enc):Iy (.sl nl rows.length e rows.flatten)=an e xs enc:=by
 rw[Iy,h2,an,h1]
section
variable {B:Nat} {ds:List DV}
theorem P1(hk:eF B O8 ds):∃e:bB,gg ds=aF e/\Nf e:=by
 unfold O8 at hk;obtain⟨a1,r,rfl,_,hk⟩:=eb hk;obtain⟨a2,r,rfl,_,hk⟩:=eb hk;obtain⟨s1,r,rfl,b1,_,hk⟩:=fU hk;obtain⟨s2,r,rfl,b2,_,hk⟩:=fU hk;obtain⟨s3,r,rfl,b3,_,hk⟩:=fU hk;obtain⟨s4,r,rfl,b4,_,hk⟩:=fU hk;obtain⟨s5,r,rfl,b5,_,hk⟩:=fU hk;obtain⟨s6,r,rfl,b6,_,hk⟩:=fU hk;have hk:eF B [.st [i6,i6],.st [i6,i6],.st [i6,i6]] r:=sI hk;have hk:eF B [i6,i6,.st [i6,i6],.st [i6,i6]] r:=sI hk;obtain⟨u1,r,rfl,_,hk⟩:=eb hk;obtain⟨u2,r,rfl,_,hk⟩:=eb hk;have hk:eF B [i6,i6,.st [i6,i6]] r:=sI hk;obtain⟨u3,r,rfl,_,hk⟩:=eb hk;obtain⟨u4,r,rfl,_,hk⟩:=eb hk;have hk:eF B [i6,i6] r:=sI hk;obtain⟨u5,r,rfl,_,hk⟩:=eb hk;obtain⟨u6,r,rfl,_,hk⟩:=eb hk;have:=lY hk;subst this;exact⟨⟨a1,a2,s1,s2,s3,s4,s5,s6,u1,u2,u3,u4,u5,u6⟩,by simp only[gg,Iy,aF],⟨b1,b2,b3,b4,b5,b6⟩⟩
theorem Py(hk:nk B .str ds):∃s:List Nat,gg ds=az ak s/\∀b∈s,b<256:=by
 rw[nk] at hk;obtain⟨s,rfl,h1,_⟩:=hk;exact⟨s,by simp only[gg,Iy,az],h1⟩
theorem Oq(hk:eF B Hj ds):∃s:ku,gg ds=bH s/\∀b∈s.name,b<256:=by
 unfold Hj at hk;obtain⟨s1,r,rfl,b1,_,hk⟩:=fU hk;obtain⟨nl,rows,r,rfl,_,hr,hk⟩:=sH hk;obtain⟨a2,r,rfl,_,hk⟩:=eb hk;have:=lY hk;subst this;obtain⟨xs,h1,h2,_⟩:=vf (az ak) (λs=>∀b∈s,b<256) λr hrr=>Py (hr r hrr);exact⟨⟨s1,xs,a2⟩,by simp only[gg,xc h1 h2,bH];rfl,b1⟩
theorem NN(hk:eF B uh ds):∃k:aU,gg ds=aq k/\((∀b∈k.name,b<256)/\∀s∈k.bJ,∀b∈s.name,b<256):=by
 unfold uh at hk;obtain⟨s1,r,rfl,b1,_,hk⟩:=fU hk;obtain⟨v,r,rfl,hk2⟩:=A5 hk;obtain⟨nl,rows,r,rfl,_,hr,hk⟩:=sH hk2;have:=lY hk;subst this;obtain⟨xs,h1,h2,h3⟩:=vf bH (λs=>∀b∈s.name,b<256) λr hrr=>Oq (by have:=hr r hrr;rw[nk] at this;exact this);exact⟨⟨s1,v,xs⟩,by simp only[gg,xc h1 h2,aq];rfl,b1,h3⟩
theorem Ps(hB:B<=mr)(hk:eF B A9 ds):∃r:bq,gg ds=aD r/\(r.opts.length<=mr/\∀e∈r.opts,Nf e):=by
 unfold A9 at hk;obtain⟨nl,rows,r,rfl,hl,hr,hk⟩:=sH hk;obtain⟨v,r,rfl,hk2⟩:=A5 hk;have:=lY hk2;subst this;obtain⟨xs,h1,h2,h3⟩:=vf aF Nf λr hrr=>P1 (by have:=hr r hrr;rw[nk] at this;exact this);exact⟨⟨xs,v⟩,by simp only[gg,xc h1 h2,aD];rfl,by show xs.length<=mr;omega,h3⟩
theorem PG(hB:B<=mr)(hk:eF B KM ds):∃w:Wy,gg ds=bN w/\((w.kind.length<=mr/\w.cK.length<=mr)/\((∀b∈w.kind,b<256)/\∀b∈w.cK,b<256)):=by
 unfold KM at hk;obtain⟨s1,r,rfl,b1,l1,hk⟩:=fU hk;obtain⟨s2,r,rfl,b2,l2,hk⟩:=fU hk;obtain⟨a1,r,rfl,_,hk⟩:=eb hk;obtain⟨a2,r,rfl,_,hk⟩:=eb hk;obtain⟨a3,r,rfl,_,hk⟩:=eb hk;have:=lY hk;subst this;exact⟨⟨s1,s2,a1,a2,a3⟩,by simp only[gg,Iy,iA],⟨by show s1.length<=mr;omega,by show s2.length<=mr;omega⟩,b1,b2⟩
theorem O6(hB:B<=mr)(hk:eF B O5 ds):∃w:Co,gg ds=gU w/\((w.part.length<=mr/\w.owner.length<=mr)/\((∀b∈w.part,b<256)/\∀b∈w.owner,b<256)):=by
 unfold O5 at hk;obtain⟨s1,r,rfl,b1,l1,hk⟩:=fU hk;obtain⟨s2,r,rfl,b2,l2,hk⟩:=fU hk;obtain⟨a1,r,rfl,_,hk⟩:=eb hk;obtain⟨a2,r,rfl,_,hk⟩:=eb hk;have:=lY hk;subst this;exact⟨⟨s1,s2,a1,a2⟩,by simp only[gg,Iy,bF],⟨by show s1.length<=mr;omega,by show s2.length<=mr;omega⟩,b1,b2⟩
theorem LF(hB:B<=mr):∀(j:Nat) {ds:List DV},nk B (nA j) ds->∃f:bE,gg ds=aI f/\ji f
 | 0,ds,h=>by
  rw[nA,nk] at h;exact h.elim
 | 1,ds,h=>by
  rw[nA,nk,eF] at h;obtain⟨_,_,_,h,_⟩:=h;rw[nk] at h;exact h.elim
 | j+2,ds,h=>by
  rw[nA,nk] at h;obtain⟨a1,r,rfl,_,hk⟩:=eb h;obtain⟨a2,r,rfl,_,hk⟩:=eb hk;obtain⟨nl,rows,r,rfl,hl,hr,hk⟩:=sH hk;have:=lY hk;subst this;obtain⟨xs,h1,h2,h3⟩:=vf aI ji λr hrr=>LF hB j (hr r hrr);refine⟨.mk a1 a2 xs,?_,.mk (by omega) h3⟩;rw[dr,q9];simp only[gg,Iy,xc h1 h2,h2,h1]
end
theorem MR{B:Nat}(hB:B<=mr){j:Nat}{ds:List DV}(hk:eF B [.st [.sl (.st uh)],nA j] ds):∃(c:List aU) (f:bE),gg ds=an 3 c aq::aI f/\ji f/\∀k∈c,(∀b∈k.name,b<256)/\∀s∈k.bJ,∀b∈s.name,b<256:=by
 have hk:eF B [.sl (.st uh),nA j] ds:=sI hk;obtain⟨nl,rows,r,rfl,hl,hr,hk⟩:=sH hk;rw[eF] at hk;obtain⟨d1,d2,rfl,h1,h2⟩:=hk;rw[eF] at h2;subst h2;obtain⟨f,h3,h4⟩:=LF hB j h1;obtain⟨xs,k1,k2,k3⟩:=vf aq (λk=>(∀b∈k.name,b<256)/\∀s∈k.bJ,∀b∈s.name,b<256) λr hrr=>NN (by have:=hr r hrr;rw[nk] at this;exact this);exact⟨xs,f,by rw[gg,xc k1 k2,List.append_nil,h3];rfl,h4,k3⟩
end Go.Proofs
namespace Go.Proofs.YtnaiockballhaaaGreat
open Go.Proofs Go.Ev Go.ChangeShapes Go.WideShapes Go.ChangeAt Go.RowKit
set_option maxRecDepth 100000
theorem QO:ownKnob Tryz.prog.godebug=none:=by kernel_rfl
theorem Of:laidOutB Tryz.prog=true:=by kernel_rfl
theorem PB{α:Type}:∀{l:List α},l.length=2->∃a b,l=[a,b]
 | [a,b],_=>⟨a,b,rfl⟩
theorem MX{α:Type}:∀{l:List α},l.length=3->∃a b c,l=[a,b,c]
 | [a,b,c],_=>⟨a,b,c,rfl⟩
theorem M0:∀k,mw Tryz.prog k 27=some (nA k)
 | 0=>by kernel_rfl
 | 1=>by kernel_rfl
 | k+2=>by
  have ih:=M0 k
  have h1:mw Tryz.prog (k+1) 25=some (.sl (nA k)):=by
   unfold mw;rw[show Tryz.prog.underlying 25=some (.slice 27) by kernel_rfl];simp only;rw[ih,bind_some,q9,show(Nat.beq (Tryz.prog.cellsOf 27) 3&&(ble 1 3&&ble 1 (Tryz.prog.bytesOf 27)))=true by kernel_rfl];rfl
  have h2:mw Tryz.prog (k+1) 3=some i6:=by kernel_rfl
  obtain⟨fs,hu,hfs⟩:∃fs,Tryz.prog.underlying 27=some (.struct fs)/\fs.toList.map (λf=>(f.type,f.offset))=[(3,0),(3,1),(25,2)]:=by
   have q:(Tryz.prog.underlying 27).bind (λu=>match u with | .struct fs=>some (fs.toList.map (λf=>(f.type,f.offset))) | _=>none)=some [(3,0),(3,1),(25,2)]:=by kernel_rfl
   obtain⟨u,e1,e2⟩:=Option.bind_eq_some_iff.1 q
   cases u<;>first | (cases e2;done) | exact⟨_,e1,Option.some.inj e2⟩
  unfold mw;rw[hu];simp only;generalize fs.toList=l at hfs;obtain⟨a,b,c,rfl⟩:=MX (by have:=congrArg List.length hfs;rwa [List.length_map] at this)
  ·simp only[List.map_cons,map_nil,List.cons.injEq,Prod.mk.injEq,and_true] at hfs;obtain⟨⟨a1,a2⟩,⟨b1,b2⟩,c1,c2⟩:=hfs
   have n1:Tryz.prog.cellsOf 3=1:=by kernel_rfl
   have n2:Tryz.prog.cellsOf 25=1:=by kernel_rfl
   have n3:Tryz.prog.cellsOf 27=3:=by kernel_rfl
   simp only[jr,a1,a2,b1,b2,c1,c2,h1,h2,n1,n2,n3,bind_some,map_some,Ty.size,Ty.ve,Nat.beq_refl,cond_true,Nat.zero_add,Nat.reduceAdd,nA]
theorem M1(j:Nat):mw Tryz.prog (j+12) 29=some (.st [.st [.sl (.st uh)],nA (j+11)]):=by
 obtain⟨fs,hu,hfs⟩:∃fs,Tryz.prog.underlying 29=some (.struct fs)/\fs.toList.map (λf=>(f.type,f.offset))=[(24,0),(27,1)]:=by
  have q:(Tryz.prog.underlying 29).bind (λu=>match u with | .struct fs=>some (fs.toList.map (λf=>(f.type,f.offset))) | _=>none)=some [(24,0),(27,1)]:=by kernel_rfl
  obtain⟨u,e1,e2⟩:=Option.bind_eq_some_iff.1 q
  cases u<;>first | (cases e2;done) | exact⟨_,e1,Option.some.inj e2⟩
 have h1:mw Tryz.prog (j+11) 24=some (.st [.sl (.st uh)]):=by kernel_rfl
 have h2:=M0 (j+11);unfold mw;rw[hu];simp only;generalize fs.toList=l at hfs;obtain⟨a,b,rfl⟩:=PB (by have:=congrArg List.length hfs;rwa [List.length_map] at this)
 ·simp only[List.map_cons,map_nil,List.cons.injEq,Prod.mk.injEq,and_true] at hfs;obtain⟨⟨a1,a2⟩,b1,b2⟩:=hfs
  have n1:Tryz.prog.cellsOf 24=1:=by kernel_rfl
  have n2:Tryz.prog.cellsOf 27=3:=by kernel_rfl
  have n3:Tryz.prog.cellsOf 29=4:=by kernel_rfl
  have h2:mw Tryz.prog (j+11) 27=some (nA (j+11)):=h2;simp only[jr,a1,a2,b1,b2,h1,h2,n1,n2,n3,bind_some,map_some,Ty.size,Ty.ve,q9,Nat.beq_refl,cond_true,Nat.zero_add,Nat.reduceAdd]
theorem Qy(j:Nat):mw Tryz.prog (j+12) 30=some (.sl (.st KM)):=by kernel_rfl
theorem QY(j:Nat):mw Tryz.prog (j+12) 31=some (.sl (.st A9)):=by kernel_rfl
theorem Qx(j:Nat):mw Tryz.prog (j+12) 33=some (.st O5):=by kernel_rfl
theorem params4:Tryz.f3.params.toList=[29,30,31,33]:=by kernel_rfl
theorem x5:reachBytes<=mr:=by decide
theorem hist_lifted(os:Os)(started:os.Started)(H:Type)(enc:TypeId×Value->H):
 ReturnsInHanded {} Tryz.checked os 3 .any (Rows.costHistoriesSpec.pre6 enc Tryz.prog Tryz.f3 Rows.costHistoriesRow.domain false) (Rows.costHistoriesSpec.post enc Tryz.prog Tryz.f3 false true false false):=by
 refine returnsInHanded_of_change_sized (C:=Tryz.checked) QO started (by kernel_rfl) Tryz.func3
  (ChangeSpec.witness6 (enc:=enc) (C:=Tryz.checked) false ⟨#[],#[.agg #[.slice none 0 0,.int .i64 0,.int .i64 0,.slice none 0 0],.slice none 0 0,.slice none 0 0,.agg #[.string ⟨#[]⟩,.string ⟨#[]⟩,.int .i64 0,.int .i64 0]],[]⟩ 8 (by kernel_rfl) (by kernel_rfl) (by kernel_rfl) (by kernel_rfl)) ?_
 intro W base args ds gs before hval0 hW _ hwt0 _;have hval:∀(j:Nat) t v,Tryz.f3.params[j]?=some t->args[j]?=some v->Value.okWide Tryz.prog W .any base t v:=hval0;have hW':=hW;obtain⟨p,q,hA0,hV,rfl,hfz,hnd⟩:=hW;have hA:DataW.TrodAll enc Tryz.prog W 0 (λ_=>true) true Tryz.f3.params.toList args.toList ds p:=hA0;rw[params4] at hA;obtain⟨v0,v1,v2,v3,d0,d1,d2,d3,p0,p1,p2,p3,rfl,rfl,rfl,h0,h1,h2,h3⟩:=trodAll_four hA;obtain⟨rfl,rfl⟩:=trodVars_none hV;have hwt1:(DataW.weightsEach Tryz.prog (Tryz.f3.params.toList++Rows.costHistoriesSpec.plain.varTypes Tryz.prog) ([d0,d1,d2,d3]++[])).all (·<=reachBytes)=true:=hwt0
 have hwt:∀{j:Nat} {t:TypeId} {d:DataW H},(Tryz.f3.params.toList++Rows.costHistoriesSpec.plain.varTypes Tryz.prog)[j]?=some t->([d0,d1,d2,d3]++[])[j]?=some d->∀x∈d.weights Tryz.prog t,x<=reachBytes:=by
  intro j t d ht hd x hx;have:=List.all_eq_true.1 hwt1 x (DataW.weights_mem_each ht hd x hx);simpa using this
 obtain⟨j0,y0,o0,w0⟩:=rO M1 (hval 0 29 v0 (by kernel_rfl) rfl) h0 (hwt (j:=0) (by kernel_rfl) rfl);obtain⟨_,y1,o1,w1⟩:=rO Qy (hval 1 30 v1 (by kernel_rfl) rfl) h1 (hwt (j:=1) (by kernel_rfl) rfl);obtain⟨_,y2,o2,w2⟩:=rO QY (hval 2 31 v2 (by kernel_rfl) rfl) h2 (hwt (j:=2) (by kernel_rfl) rfl);obtain⟨_,y3,o3,w3⟩:=rO Qx (hval 3 33 v3 (by kernel_rfl) rfl) h3 (hwt (j:=3) (by kernel_rfl) rfl);obtain⟨e0,rfl,o0⟩:=o0;obtain⟨e3,rfl,o3⟩:=o3;have o1:nk reachBytes (.sl (.st KM)) [y1]:=o1;have o2:nk reachBytes (.sl (.st A9)) [y2]:=o2;rw[nk] at o1 o2;obtain⟨n1,rows1,e1,b1,k1⟩:=o1;obtain⟨n2,rows2,e2,b2,k2⟩:=o2;simp only[List.cons.injEq,and_true] at e1 e2;subst e1;subst e2;obtain⟨c,dmg,s0,f0,f1⟩:=MR x5 o0;obtain⟨ws,s1,t1,g1⟩:=vf bN (λw=>(w.kind.length<=mr/\w.cK.length<=mr)/\((∀b∈w.kind,b<256)/\∀b∈w.cK,b<256)) λr hr=>PG x5 (by have:=k1 r hr;rw[nk] at this;exact this);obtain⟨l,s2,t2,g2⟩:=vf aD (λr=>r.opts.length<=mr/\∀e∈r.opts,Nf e) λr hr=>Ps x5 (by have:=k2 r hr;rw[nk] at this;exact this);obtain⟨co,s3,f3,f4⟩:=O6 x5 o3;have hr:=x5;have hlaw:=zI c dmg ws l co ⟨f0,f1,by omega,λw hw=>(g1 w hw).1,λw hw=>(g1 w hw).2,f3,f4,by omega,λr hr=>(g2 r hr).1,λr hr=>(g2 r hr).2⟩
 have hwd:my W [.ag e0,.sl n1 rows1.length (Ty.st KM).size rows1.flatten,.sl n2 rows2.length (Ty.st A9).size rows2.flatten,.ag e3] (#[v0,v1,v2,v3]:Array Value).toList:=by
  rw[eo];refine⟨_,_,rfl,w0,?_⟩;rw[eo];refine⟨_,_,rfl,w1,?_⟩;rw[eo];refine⟨_,_,rfl,w2,?_⟩;rw[eo];refine⟨_,_,rfl,w3,?_⟩;rw[iH]
 have hdv:gg [.ag e0,.sl n1 rows1.length (Ty.st KM).size rows1.flatten,.sl n2 rows2.length (Ty.st A9).size rows2.flatten,.ag e3]=[.ag (an 3 c aq::aI dmg),an 5 ws bN,an 2 l aD,.ag (gU co)]:=by
  simp only[gg,xc s1 t1,xc s2 t2];rw[Iy,Iy,s0,s3];rfl
 refine(Ph dP Tryz.func3 rfl hwd (by rw[hdv];exact hlaw)).mono λe W' ⟨he,hb⟩=>?_;subst he
 have hlt:∀x∈p0++p1++p2++p3,x.block<W.heap.size:=λx hx=>by simpa using hW'.lt x (by simpa using hx)
 have z0:=Below.trod Of (by kernel_rfl) (of_decide_eq_true (by kernel_rfl)) h0 hb (λx hx=>hlt x (by simp[hx]));have z1:=Below.trod Of (by kernel_rfl) (of_decide_eq_true (by kernel_rfl)) h1 hb (λx hx=>hlt x (by simp[hx]));have z2:=Below.trod Of (by kernel_rfl) (of_decide_eq_true (by kernel_rfl)) h2 hb (λx hx=>hlt x (by simp[hx]));have z3:=Below.trod Of (by kernel_rfl) (of_decide_eq_true (by kernel_rfl)) h3 hb (λx hx=>hlt x (by simp[hx]));exact⟨_,rfl,_,_,_,[],_,[],hW',trodAll_mk1 (shut_bool Tryz.underlying4 true),trodAll_mk4 z0 z1 z2 z3,rfl,hb.frame _,λh=>by cases h⟩
end Go.Proofs.YtnaiockballhaaaGreat
