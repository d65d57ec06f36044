/- A part of the texts of this claim: every theorem says what it proves, with its conditions. -/
import Derived.Test.YtnaiockballhaaaGreatA27
import Derived.Test.YtnaiockballhaaaGreatA26
import Derived.Test.YtnaiockballhaaaGreatA23
set_option linter.unusedSimpArgs false
set_option linter.unusedVariables false
set_option linter.unusedSectionVars false
open Nat (le_refl reduceEqDiff mul_one reduceAdd reduceLT reduceLeDiff reduceMul)
open List (length_append length_map length_cons getElem?_eq_getElem length_nil flatMap_cons length_set replicate flatMap_nil take_zero length_take map_nil)
open Option (bind_some map_some)
namespace Go.Proofs
open Go.Ev
set_option maxRecDepth 100000
def bm(o e n:Nat):SV:=if n=0 then cC else .buf o n e none
def ow{α:Type}(o:Nat)(l:List α)(enc:α->List SV):List SO:=if l=[] then [] else replicate o .gone++[.cells (l.flatMap enc)]
theorem dy(o e:Nat):bm o e 0=cC:=rfl
theorem Ca(o e n:Nat):bm o e (n+1)=.buf o (n+1) e none:=rfl
theorem bV{o e n:Nat}(h:¬n=0):bm o e n=.buf o n e none:=if_neg h
theorem e9{α:Type}(o:Nat)(enc:α->List SV):ow o [] enc=[]:=rfl
theorem gF{α:Type}{o:Nat}{l:List α}{enc:α->List SV}(h:¬l=[]):ow o l enc=replicate o .gone++[.cells (l.flatMap enc)]:=if_neg h
theorem jz{α:Type}(o:Nat)(l:List α)(x:α)(enc:α->List SV):ow o (l++[x]) enc=replicate o .gone++[.cells ((l++[x]).flatMap enc)]:=if_neg (by simp)
theorem aJ{α:Type}{enc:α->List SV}{e:Nat}(he:∀x,(enc x).length=e):∀l:List α,(l.flatMap enc).length=l.length*e
 | []=>by simp
 | a::l=>by rw[flatMap_cons,length_append,he,aJ he l,length_cons,Nat.succ_mul,Nat.add_comm]
theorem cu{α:Type}{enc:α->List SV}{e:Nat}(he:∀x,(enc x).length=e)(l:List α):(l.flatMap enc).take (l.length*e)=l.flatMap enc:=
 List.take_of_length_le (by rw[aJ he];exact le_refl _)
theorem dO{α:Type}{enc:α->List SV}{e:Nat}(he:∀x,(enc x).length=e)(hg:∀x,cr (enc x)=true)(o:Nat)(l:List α)(x:α):((l.flatMap enc).take (l.length*e)++enc x).map (bf o)=(l++[x]).flatMap enc:=by
 rw[cu he,List.map_append,bK (hg x),bK (aB hg l),List.flatMap_append];simp
theorem aW{α:Type}{enc:α->List SV}(hg:∀x,cr (enc x)=true)(o:Nat)(l:List α):(l.flatMap enc).map (bf o)=l.flatMap enc:=bK (aB hg l)
theorem Jx{α:Type}{enc:α->List SV}{e o:Nat}(he:∀x,(enc x).length=e)(hg:∀x,cr (enc x)=true)(l:List α):Wk (ow o l enc) (bm o e l.length) (an e l enc):=by
 by_cases h:l=[]
 ·subst h;exact Wk.nil _
 ·have h0:¬l.length=0:=λe=>h (List.length_eq_zero_iff.1 e);rw[bV h0,gF h];refine Wk.buf (cs:=l.flatMap enc) ?_ ?_ ?_
  ·rw[List.getElem?_append_right (by rw[List.length_replicate];exact le_refl _),List.length_replicate,Nat.sub_self];rfl
  ·rw[cu he];exact bn.refl (aB hg l)
  ·rw[aJ he];exact le_refl _
theorem tu:PC Tryz.prog 91 [cC] (·=.a (.bI [])):=by
 intro ρ h avs _ hA;rw[dZ] at hA;obtain⟨a,r,rfl,hA1,hA2⟩:=hA;rw[fX] at hA2;subst hA2;rw[GS] at hA1;subst hA1;refine(vz [] _ h.next h ⟨by simp,.inl ⟨rfl,rfl⟩⟩ (by simp)).mono ?_;rintro v h' ⟨rfl,_,_,_,_,ho,_⟩;exact⟨_,ρ,rfl,ho,λid ob hi=>.inl hi,by rw[GS]⟩
theorem vR:PC Tryz.prog 147 [cC] (·=cC):=by
 refine pB 61 Tryz.func147 ?_;refine kQ ?_;refine cE ?_;refine zE ?_;exact zO [.tmp 2]
def Ks(l:List (List Nat)):List (List Nat):=eL (dG l)
theorem MO:Ks []=[]:=rfl
theorem FD(ls:List (List (List Nat)))(hl:ls.length<=1000000)(hb:ls.flatten.length<=1000000):PC Tryz.prog 109 [an 1 ls gW] (·=an 1 (Ks ls.flatten) (az ak)):=by
 refine pB 10 Tryz.func109 ?_;have hc:=Fp ls hl hb;refine ki ?_;by_cases h0:ls.flatten=[]
 ·rw[oC,MK,if_pos h0,if_pos h0] at hc;refine zS [] trivial hc ?_;refine zR ?_;refine zC ?_;refine zK tu ?_;refine zR ?_;refine zC ?_;refine zK vR ?_;refine zR ?_;refine zE ?_;exact zO [.tmp 2] (r:=.sl 0 1 []) (hw:=by exact Wk.nil _) (hq:=by (try simp only[aC,ab]);first | done | (rw[h0,MO];rfl))
 ·rw[oC,MK,if_neg h0,if_neg h0] at hc;have hl2:(dG ls.flatten).length=ls.flatten.length:=(pR ls.flatten).length_eq;have h1:dG ls.flatten≠[]:=λe=>h0 (List.length_eq_zero_iff.1 (by rw[<-hl2,e];rfl));have hcc:=zA (dG ls.flatten) (by rw[hl2];exact hb) h1;rw[hl2] at hcc;refine zS [] trivial hc ?_;refine zR ?_;refine zC ?_;refine zS [0] trivial (rE _ hb h0) ?_;refine zR ?_;refine zC ?_;refine zS [0] trivial hcc ?_;refine zR ?_;refine zE ?_;exact zO [.tmp 2] (r:=an 1 (Ks ls.flatten) (az ak)) (hw:=by exact .buf rfl (by rw[mul_one,tf,List.take_left'];(exact bn.refl (ID _));rfl) (by rw[ly,length_append];omega))
def pI(r:bq):List (List Nat):=if Proofs.iT r=false then [] else Ks (r.opts.map cA).flatten
theorem Et(e:bB):(cA e).length<=2:=by
 unfold cA;split
 ·simp
 ·split<;>simp
theorem BU(k:Nat):∀ls:List bB,(ls.map cA).flatten.length<=2*ls.length
 | []=>by simp
 | a::l=>by
  have:=BU k l;have:=Et a;rw[List.map_cons,List.flatten_cons,length_append,length_cons];omega
theorem qy(l:List (List Nat)):(gW l).length=1:=rfl
theorem uJ(l:List (List Nat)):cr (gW l)=true:=rfl
theorem HN(r:bq)(hr:ea r)(hlen:r.opts.length<=400000):PC Tryz.prog 62 [.ag (aD r)] (·=an 1 (pI r) (az ak)):=by
 refine pB 24 Tryz.func62 ?_;refine aE @aD.eq_1 ?_;refine zC ?_;refine zK (pX r hr) ?_;cases h1:Proofs.iT r
 ·refine zR ?_;refine cE ?_;refine zE ?_;exact zO [.tmp 2] (r:=.sl 0 1 []) (hw:=by exact Wk.nil _) (hq:=by (try simp only[aC,ab]);first | done | (rw[pI,if_pos h1];rfl))
 refine zR ?_;refine gX ?_;refine aE @an.eq_1 ?_;refine zs ?_;refine zL r.opts (λk=>True) (λk=>[(3,bm 2 1 k),(10,an 14 r.opts aF),(11,aa r.opts.length),(12,aa k)]) (λk=>ow 2 ((r.opts.take k).map Proofs.cA) gW) (Fg.less (nM (n4 @take_zero.{0} @map_nil.{0,0} @dy @e9)) (nN (n4 @take_zero.{0} @map_nil.{0,0} @dy @e9))) zp ?_;intro k hk hall;refine zV ?_;by_cases hlt:k<r.opts.length;rotate_left;obtain rfl:k=r.opts.length:=(by omega);rw[zf];rotate_left;rw[zt hlt];obtain⟨e,hx⟩:=zx hlt;rotate_left
 ·refine zN ?_;refine ai.exit ?_
  have hpos:¬r.opts.length=0:=by
   intro h;unfold Proofs.iT at h1;rw[h] at h1;simp at h1
  have hne:¬r.opts.map Proofs.cA=[]:=λh=>hpos (by have:=congrArg List.length h;rwa [length_map] at this);rw[List.take_length,bV hpos,gF hne];refine ai.fg (Fg.freeze (f':=[(3,an 1 (r.opts.map Proofs.cA) gW)]) 2 rfl (λh=>by cases h) ⟨.inr ?_,trivial⟩) ?_
  ·have:=Wk.buf (S:=mf 2 (.cells ((r.opts.map Proofs.cA).flatMap gW))) (o:=2) (n:=r.opts.length) (e:=1) (c:=none) (cs:=(r.opts.map Proofs.cA).flatMap gW) (ds:=(r.opts.map Proofs.cA).flatMap gW) rfl ?_ ?_
   ·rw[an,length_map];exact this
   ·have h2:=cu qy (r.opts.map Proofs.cA);rw[length_map] at h2;rw[h2];exact bn.refl (aB uJ _)
   ·rw[aJ qy,length_map];exact le_refl _
  refine zC ?_;refine zK (FD (r.opts.map Proofs.cA) (by rw[length_map];omega) (by have:=BU 0 r.opts;omega)) ?_ (hfl:=.inr (bn.refl rfl));refine zR ?_;refine zE ?_;exact zO [.tmp 2] (r:=an 1 (Ks (r.opts.map Proofs.cA).flatten) (az ak)) (hw:=by exact Wk.refl rfl) (hq:=by (try simp only[aC,ab]);first | done | (rw[pI,if_neg (by rw[h1];decide)]))
 have he:oZ e:=hr.ev e (List.mem_of_getElem? hx);refine zY ?_
 (repeat refine ai.seq ?_)
 refine ai.block ?_;have ht:=bo hx;by_cases hk0:k=0
 ·rw[show(r.opts.take k).map Proofs.cA=[] by rw[hk0];rfl,e9,show bm 2 1 k=cC by rw[hk0];rfl]
  have ht1:(r.opts.take (k+1)).map Proofs.cA=[]++[Proofs.cA e]:=by rw[ht,hk0];rfl
  have hn1:bm 2 1 (k+1)=.buf 2 1 1 none:=by rw[hk0];rfl
  refine aE (n3 hlt (aH (e:=14) (enc:=aF) (λ_=>rfl) hx) @aF.eq_1) ?_;refine gl @aF.eq_1 ?_;refine zK (tp e he) ?_ (hfl:=.inr (bn.refl rfl));refine zR ?_;refine aE (zi hlt hr.len) ?_;refine zX hlt (Fg.less (nM (n8 ht1 hn1 @jz @flatMap_cons.{0,0} @flatMap_nil.{0,0} @gW.eq_1 @List.nil_append.{0} oU)) (nN (n8 ht1 hn1 @jz @flatMap_cons.{0,0} @flatMap_nil.{0,0} @gW.eq_1 @List.nil_append.{0} oU))) trivial
 have hne:¬(r.opts.take k).map Proofs.cA=[]:=λh=>hk0 (by have:=congrArg List.length h;rw[length_map,length_take,Nat.min_eq_left (by omega)] at this;exact this);rw[gF hne,bV hk0]
 have hlk:((r.opts.take k).map Proofs.cA).length=k:=by rw[length_map,length_take,Nat.min_eq_left (by omega)]
 have ht1:(r.opts.take (k+1)).map Proofs.cA=(r.opts.take k).map Proofs.cA++[Proofs.cA e]:=by rw[ht,List.map_append];rfl
 have hcl:=aJ qy ((r.opts.take k).map Proofs.cA);rw[hlk] at hcl;have happ:=dO qy uJ 2 ((r.opts.take k).map Proofs.cA) (Proofs.cA e);rw[hlk,gW,an] at happ;have hkc:=λo=>aW uJ o ((r.opts.take k).map Proofs.cA);refine aE (n5 hlt (aH (e:=14) (enc:=aF) (λ_=>rfl) hx) @aF.eq_1 oU hkc) ?_;refine gl @aF.eq_1 ?_;refine zK (tp e he) ?_ (hfl:=.inr (bn.refl rfl));refine cS (n5 hcl happ hkc (show k<=1000000 by omega) @le_refl) ?_;refine aE (zi hlt hr.len) ?_;refine zX hlt (cI (n4 ht1 @Ca @jz oU)) trivial
def IP(p:bq×Int):Bool:=!(decide (p.2<0))&&!(decide (bp p.1<=p.2))
def gb(p:bq×Int):List bB:=(p.1.opts[p.2.toNat]?).toList
def jA(l:List bq)(ch:List Int):Option (List bB):=if l.length=ch.length then (if (l.zip ch).all IP then some ((l.zip ch).flatMap gb) else none) else none
def I4:Option (List bB)->SV
 | some es=>.bI [an 14 es aF,aa 0]
 | none=>.bI [.sl 0 14 [],aa 1]
theorem cN(e:bB):(aF e).length=14:=rfl
theorem dg(e:bB):aF e=[aa e.op,aa e.day,ak e.part,ak e.kind,ak e.bD,ak e.slot,ak e.key,ak e.value,aa e.u1,aa e.u2,aa e.u3,aa e.u4,aa e.u5,aa e.u6]:=rfl
theorem cU(e:bB):cr (aF e)=true:=rfl
theorem Mn(p:bq×Int):(gb p).length<=1:=by
 unfold gb;cases p.1.opts[p.2.toNat]?<;>simp
theorem q8:∀l:List (bq×Int),(l.flatMap gb).length<=l.length
 | []=>by simp
 | a::l=>by
  have:=Mn a;have:=q8 l;rw[flatMap_cons,length_append,length_cons];omega
theorem qZ(r:bq):bp r<=(r.opts.length:Int)+1:=by
 unfold bp;split
 ·omega
 ·split<;>omega
set_option maxHeartbeats 1000000 in
theorem vw(l:List bq)(ch:List Int)(hl:∀r∈l,ea r)(hlen:l.length<=1000000)(hlc:ch.length<=1000000):PC Tryz.prog 9 [an 2 l aD,an 1 ch (az aa)] (·=I4 (jA l ch)):=by
 refine pB 49 Tryz.func9 ?_;refine zV ?_
 (repeat refine ai.seq ?_)
 refine ai.scope ?_;refine zV ?_;by_cases heq:l.length=ch.length;rotate_left
 ·rw[show(!decide ((l.length:Int)=(ch.length:Int)))=true by simp;omega];refine cE ?_;refine zE ?_;exact zO [.tmp 4,.tmp 5] (r:=.bI [.sl 0 14 [],aa 1]) (hw:=by exact .bI (.cons (.nil _) (.cons (.a _) .nil))) (hq:=by (try simp only[aC,ab]);first | done | (rw[jA,if_neg heq];rfl))
 rw[show(!decide ((l.length:Int)=(ch.length:Int)))=false by simp;omega];refine gX ?_
 (repeat refine ai.seq ?_)
 refine ai.label ?_
 (try change ai _ _ _ _ _)
 refine zV ?_
 have hz:∀{k:Nat} {r:bq} {n:Int},l[k]?=some r->ch[k]?=some n->(l.zip ch)[k]?=some (r,n):=λh1 h2=>by
  rw[List.getElem?_zip_eq_some];exact⟨h1,h2⟩
 refine zs ?_;refine zL l (λk=>((l.zip ch).take k).all IP=true) (λk=>[(1,an 1 ch (az aa)),(6,bm 2 14 (((l.zip ch).take k).flatMap gb).length),(15,an 2 l aD),(16,aa l.length),(17,aa k)]) (λk=>ow 2 (((l.zip ch).take k).flatMap gb) aF) (Fg.less (nM (n5 @take_zero.{0} @flatMap_nil.{0,0} @length_nil.{0} @dy @e9)) (nN (n5 @take_zero.{0} @flatMap_nil.{0,0} @length_nil.{0} @dy @e9))) zp ?_;intro k hk hall;refine zV ?_;by_cases hlt:k<l.length;rotate_left;obtain rfl:k=l.length:=(by omega);rw[zf];rotate_left;rw[zt hlt];obtain⟨r,hx⟩:=zx hlt;rotate_left
 ·refine zN ?_;refine ai.exit ?_
  have hzl:(l.zip ch).length=l.length:=by rw[List.length_zip,<-heq,Nat.min_self]
  rw[<-hzl,List.take_length] at hall ⊢;refine zV ?_;refine zE ?_;exact zO [.tmp 4,.tmp 5] (r:=.bI [an 14 ((l.zip ch).flatMap gb) aF,aa 0]) (hw:=by exact .bI (.cons (Jx cN cU _) (.cons (.a _) .nil))) (hq:=by (try simp only[aC,ab]);first | done | (rw[jA,if_pos heq,if_pos hall];rfl))
 have hrk:ea r:=hl r (List.mem_of_getElem? hx);have hr1:=hrk.len;obtain⟨n,hn⟩:∃n,ch[k]?=some n:=⟨ch[k],getElem?_eq_getElem (by omega)⟩;have hzk:=hz hx hn;have ht:=bo hzk
 have hlc2:k<ch.length:=by omega
 have hall2:IP (r,n)=true->((l.zip ch).take (k+1)).all IP=true:=λh=>by
  rw[ht,List.all_append,hall];show(true&&(IP (r,n)&&true))=true;rw[h];rfl
 have hbad:IP (r,n)=false->jA l ch=none:=λh=>by
  rw[jA,if_pos heq,if_neg];intro h2;have:=List.all_eq_true.1 h2 _ (List.mem_of_getElem? hzk);rw[h] at this;cases this
 have hol:(((l.zip ch).take k).flatMap gb).length<=k:=by
  have:=q8 ((l.zip ch).take k);rw[length_take] at this;omega
 have hfm:((l.zip ch).take (k+1)).flatMap gb=((l.zip ch).take k).flatMap gb++gb (r,n):=by rw[ht,List.flatMap_append];simp
 generalize hO:((l.zip ch).take k).flatMap gb=out at hol hfm;refine zY ?_
 (repeat refine ai.seq ?_)
 refine ai.block ?_;have hcl:=aJ cN out;have hkc:=λo=>aW cU o out
 have fin:gb (r,n)=[]->bm 2 14 (((l.zip ch).take (k+1)).flatMap gb).length=bm 2 14 out.length/\ow 2 (((l.zip ch).take (k+1)).flatMap gb) aF=ow 2 out aF:=λh=>by rw[hfm,h,List.append_nil];exact⟨rfl,rfl⟩
 by_cases hk0:out=[]
 ·rw[show ow 2 out aF=[] by rw[hk0];rfl,show bm 2 14 out.length=cC by rw[hk0];rfl];refine aE (n3 hlt (aH (e:=2) (enc:=aD) (λ_=>rfl) hx) @aD.eq_1) ?_;refine aE (n3 hlc2 (aH (e:=1) (enc:=az aa) (λ_=>rfl) hn) @az.eq_1) ?_;cases g1:decide (n<0);rotate_left
  ·refine aE g1 ?_;refine cE ?_;refine zE ?_;exact zO [.tmp 4,.tmp 5] (r:=.bI [.sl 0 14 [],aa 1]) (hw:=by exact .bI (.cons (.nil _) (.cons (.a _) .nil))) (hq:=by (try simp only[aC,ab]);first | done | (rw[hbad (by rw[IP,g1];rfl)];rfl))
  have hn0:=of_decide_eq_false g1;obtain⟨i,rfl⟩:∃i:Nat,n=(i:Int):=⟨n.toNat,by omega⟩;refine gl g1 ?_;refine zK (gS r hrk) ?_;cases g2:decide (bp r<=(i:Int));rotate_left
  ·refine cS g2 ?_;refine cE ?_;refine zE ?_;exact zO [.tmp 4,.tmp 5] (r:=.bI [.sl 0 14 [],aa 1]) (hw:=by exact .bI (.cons (.nil _) (.cons (.a _) .nil))) (hq:=by (try simp only[aC,ab]);first | done | (rw[hbad (by rw[IP,g1,g2];rfl)];rfl))
  refine cS g2 ?_;refine zN ?_
  have hok:IP (r,(i:Int))=true:=by rw[IP,g1,g2];rfl
  have hcl2:=qZ r;have hi1:=of_decide_eq_false g2;by_cases g3:i=r.opts.length
  ·have hp:gb (r,(i:Int))=[]:=by
    show(r.opts[i]?).toList=[];rw[List.getElem?_eq_none (by omega)];rfl
   obtain⟨f1,f2⟩:=fin hp;have hE1:bm 2 14 out.length=cC:=(by rw[hk0];rfl);have hE2:ow 2 out aF=[]:=(by rw[hk0];rfl);refine aE (show decide ((i:Int)=(r.opts.length:Int))=true by simp only[decide_eq_true_eq];omega) ?_;refine zY ?_;refine ai.exit ?_;refine aE (zi hlt hlen) ?_;refine zX hlt (cI (n4 f1 f2 hE1 hE2)) (hall2 hok)
  ·have hi2:i<r.opts.length:=by omega
   obtain⟨e,hei⟩:∃e,r.opts[i]?=some e:=⟨r.opts[i],getElem?_eq_getElem hi2⟩
   have hp:gb (r,(i:Int))=[e]:=by
    show(r.opts[i]?).toList=[e];rw[hei];rfl
   refine aE (show decide ((i:Int)=(r.opts.length:Int))=false by simp only[decide_eq_false_iff_not];omega) ?_;refine zN ?_;rw[hp] at hfm
   have hE3:bm 2 14 (((l.zip ch).take (k+1)).flatMap gb).length=.buf 2 1 14 none:=by rw[hfm,hk0];rfl
   have hE4:ow 2 (((l.zip ch).take (k+1)).flatMap gb) aF=[.gone,.gone,.cells (aF e)]:=by rw[hfm,hk0];rfl
   refine aE (n3 hi2 (aH (e:=14) (enc:=aF) (λ_=>rfl) hei) @aF.eq_1) ?_;refine aE (zi hlt hlen) ?_;refine zX hlt (cI (n3 hE3 hE4 @aF.eq_1)) (hall2 hok)
 ·have hk1:¬out.length=0:=λh=>hk0 (List.length_eq_zero_iff.1 h);rw[gF hk0,bV hk1];refine aE (n5 hlt (aH (e:=2) (enc:=aD) (λ_=>rfl) hx) @aD.eq_1 oU hkc) ?_;refine aE (n3 hlc2 (aH (e:=1) (enc:=az aa) (λ_=>rfl) hn) @az.eq_1) ?_;cases g1:decide (n<0);rotate_left
  ·refine aE g1 ?_;refine cE ?_;refine zE ?_;exact zO [.tmp 4,.tmp 5] (r:=.bI [.sl 0 14 [],aa 1]) (hw:=by exact .bI (.cons (.nil _) (.cons (.a _) .nil))) (hq:=by (try simp only[aC,ab]);first | done | (rw[hbad (by rw[IP,g1];rfl)];rfl))
  have hn0:=of_decide_eq_false g1;obtain⟨i,rfl⟩:∃i:Nat,n=(i:Int):=⟨n.toNat,by omega⟩;refine gl g1 ?_;refine zK (gS r hrk) ?_;cases g2:decide (bp r<=(i:Int));rotate_left
  ·refine cS g2 ?_;refine cE ?_;refine zE ?_;exact zO [.tmp 4,.tmp 5] (r:=.bI [.sl 0 14 [],aa 1]) (hw:=by exact .bI (.cons (.nil _) (.cons (.a _) .nil))) (hq:=by (try simp only[aC,ab]);first | done | (rw[hbad (by rw[IP,g1,g2];rfl)];rfl))
  refine cS g2 ?_;refine zN ?_
  have hok:IP (r,(i:Int))=true:=by rw[IP,g1,g2];rfl
  have hcl2:=qZ r;have hi1:=of_decide_eq_false g2;by_cases g3:i=r.opts.length
  ·have hp:gb (r,(i:Int))=[]:=by
    show(r.opts[i]?).toList=[];rw[List.getElem?_eq_none (by omega)];rfl
   obtain⟨f1,f2⟩:=fin hp
   skip
   refine aE (n2 hkc (show decide ((i:Int)=(r.opts.length:Int))=true by simp only[decide_eq_true_eq];omega)) ?_;refine zY ?_;refine ai.exit ?_;refine zs ?_;refine ai.r0 (by rfl) (by simp only[bx,aX,an,aw,bind_some,map_some,↓reduceIte,reduceEqDiff,reduceAdd,reduceMul,reduceLeDiff,reduceLT,ah,ao,aP,iJ (dX hlt hlen (by decide))];first | done | rfl) ?_;refine⟨l.length-(k+1),_,by omega,(Fg.less (by (simp only[bx,aX,cw,↓reduceIte,reduceEqDiff,an,f1,f2,bV hk1,gF hk0,replicate])<;>(repeat' apply And.intro)<;>first | rfl | trivial) (by (simp only[bx,aX,or_true,true_or,an,f1,f2,bV hk1,gF hk0,replicate])<;>(repeat' apply And.intro)<;>first | exact .inr rfl | exact .inl rfl | trivial)),k+1,by omega,rfl,(hall2 hok),rfl⟩
  ·have hi2:i<r.opts.length:=by omega
   obtain⟨e,hei⟩:∃e,r.opts[i]?=some e:=⟨r.opts[i],getElem?_eq_getElem hi2⟩
   have hp:gb (r,(i:Int))=[e]:=by
    show(r.opts[i]?).toList=[e];rw[hei];rfl
   refine aE (n2 hkc (show decide ((i:Int)=(r.opts.length:Int))=false by simp only[decide_eq_false_iff_not];omega)) ?_;refine zN ?_;rw[hp] at hfm;have happ:=dO cN cU 2 out e;rw[dg] at happ
   have hE3:bm 2 14 (((l.zip ch).take (k+1)).flatMap gb).length=.buf 2 (out.length+1) 14 none:=by rw[hfm,length_append];rfl
   have hE4:ow 2 (((l.zip ch).take (k+1)).flatMap gb) aF=[.gone,.gone,.cells ((out++[e]).flatMap aF)]:=by rw[hfm,jz];rfl
   refine aE (n8 hi2 (aH (e:=14) (enc:=aF) (λ_=>rfl) hei) @aF.eq_1 hcl hkc (show out.length<=1000000 by omega) @le_refl happ) ?_;refine aE (zi hlt hlen) ?_;refine zX hlt (cI (n2 hE3 hE4)) (hall2 hok)
section
variable {α:Type} {c:α->SV}
theorem wu(l:List α):l.flatMap (az c)=l.map c:=by
 induction l with
 | nil=>rfl
 | cons a l ih=>rw[flatMap_cons,ih];rfl
theorem rk{l:List α}{i:Nat}{x:α}(h:l[i]?=some x):(l.flatMap (az c))[i]?=some (c x):=by
 rw[wu,List.getElem?_map,h];rfl
theorem ox(l:List α):(l.flatMap (az c)).length=l.length:=by rw[wu,List.length_map]
theorem sJ{l:List α}{i:Nat}(y:α)(h:i<l.length):(l.flatMap (az c)).take i++(c y::(l.flatMap (az c)).drop (i+1))=(l.set i y).flatMap (az c):=by
 rw[wu,wu,List.map_set,List.set_eq_take_append_cons_drop,if_pos (by rw[length_map];exact h)]
end
abbrev bX(n:Nat):SV:=aa (n:Int)
def gZ(f:List Nat):Prop:=∀(j:Nat) x,f[j]?=some x->x<=j
def sU:Nat->List Nat->Nat->Nat×List Nat
 | 0,f,i=>(i,f)
 | s+1,f,i=>if f.getD i 0=i then (i,f) else sU s (f.set i (f.getD (f.getD i 0) 0)) (f.getD (f.getD i 0) 0)
def gd(f:List Nat)(i:Nat):Nat×List Nat:=sU i f i
theorem gZ.set{f:List Nat}(h:gZ f){i y:Nat}(hy:y<=i):gZ (f.set i y):=by
 intro j x hx;by_cases e:i=j
 ·subst e
  have hl:i<f.length:=by
   have:=bl hx;rwa [length_set] at this
  rw[List.getElem?_set_self hl] at hx;cases hx;exact hy
 ·rw[List.getElem?_set_ne e] at hx;exact h j x hx
theorem E4:∀(s:Nat) (f:List Nat) (i:Nat),gZ f->i<f.length->gZ (sU s f i).2/\(sU s f i).2.length=f.length/\(sU s f i).1<=i
 | 0,f,i,h,hi=>⟨h,rfl,Nat.le_refl _⟩
 | s+1,f,i,h,hi=>by
  unfold sU;split
  ·exact⟨h,rfl,Nat.le_refl _⟩
  ·obtain⟨p,hp⟩:∃p,f[i]?=some p:=⟨f[i],List.getElem?_eq_getElem hi⟩;have hpi:=h i p hp;obtain⟨q,hq⟩:∃q,f[p]?=some q:=⟨f[p],List.getElem?_eq_getElem (by omega)⟩;have hqp:=h p q hq
   have e1:f.getD i 0=p:=by rw[List.getD_eq_getElem?_getD,hp];rfl
   have e2:f.getD p 0=q:=by rw[List.getD_eq_getElem?_getD,hq];rfl
   rw[e1,e2];obtain⟨g1,g2,g3⟩:=E4 s (f.set i q) q (h.set (by omega)) (by rw[List.length_set];omega);exact⟨g1,by rw[g2,List.length_set],by omega⟩
theorem oB{f:List Nat}{i:Nat}(h:gZ f)(hi:i<f.length):gZ (gd f i).2/\(gd f i).2.length=f.length/\(gd f i).1<=i:=E4 i f i h hi
theorem qz(f:List Nat)(i:Nat)(hf:gZ f)(hi:i<f.length)(hlen:f.length<=1000000):SC Tryz.prog 29 [.buf 0 f.length 1 none,bX i] [.cells (f.flatMap (az bX))] [] (λr S'=>r=bX (gd f i).1/\S'=[.cells ((gd f i).2.flatMap (az bX))]):=by
 refine Gk 26 Tryz.func29 ?_;refine zV ?_
 (repeat refine ai.seq ?_)
 refine ai.block (ai.loop (λm st=>∃(g:List Nat) (j s:Nat),(gZ g/\g.length=f.length/\j<f.length)/\(j<=s/\sU s g j=gd f i)/\j=m/\st=⟨[(0,.buf 0 f.length 1 none),(1,bX j),(1000000,.ptr 0 0)],26,[.cells (g.flatMap (az bX))],[]⟩) i zH ⟨f,i,i,⟨hf,rfl,hi⟩,⟨le_refl _,rfl⟩,rfl,rfl⟩ (by rintro m st ⟨g,j,s,_,_,_,rfl⟩;rfl) ?_);rintro m st ⟨g,j,s,⟨hg,hgl,hj⟩,⟨hs,hr⟩,rfl,rfl⟩;obtain⟨p,hp⟩:∃p,g[j]?=some p:=⟨g[j],getElem?_eq_getElem (by omega)⟩;have hpj:=hg j p hp;obtain⟨q,hq⟩:∃q,g[p]?=some q:=⟨g[p],getElem?_eq_getElem (by omega)⟩;have hqp:=hg p q hq
 have e1:g.getD j 0=p:=by rw[List.getD_eq_getElem?_getD,hp];rfl
 have e2:g.getD p 0=q:=by rw[List.getD_eq_getElem?_getD,hq];rfl
 refine zs ?_;refine ai.r0 (by rfl) (by simp only[bx,aX,an,aw,bind_some,map_some,↓reduceIte,reduceEqDiff,reduceAdd,reduceMul,reduceLeDiff,reduceLT,ah,ao,aP,hj,mul_one,rk hp];first | done | rfl) ?_;by_cases hpe:p=j
 ·rw[show(!decide ((p:Int)=(j:Int)))=false by simp;omega];refine zN ?_;refine ai.exit ?_;refine zV ?_
  have hr2:gd f i=(j,g):=by
   rw[<-hr]
   cases s with
   | zero=>rfl
   | succ s=>rw[sU,e1,if_pos hpe]
  refine zE ?_;exact zP [.tmp 4] (hq:=by (try simp only[aC,ab]);first | done | (rw[hr2];exact⟨rfl,rfl⟩))
 rw[show(!decide ((p:Int)=(j:Int)))=true by simp;omega];refine zY ?_
 (repeat refine ai.seq ?_)
 refine ai.block ?_
 have hpl:p<f.length:=by omega
 have hjg:j<g.length:=by omega
 refine zs ?_;refine ai.r0 (by rfl) (by simp only[bx,aX,an,aw,bind_some,map_some,↓reduceIte,reduceEqDiff,reduceAdd,reduceMul,reduceLeDiff,reduceLT,ah,ao,aP,hj,hpl,mul_one,rk hp,rk hq,ox,hgl,show j+1<=f.length by omega,sJ q hjg];first | done | rfl) ?_;have hsq:(g.set j q)[j]?=some q:=List.getElem?_set_self hjg;refine zs ?_;refine ai.r0 (by rfl) (by simp only[bx,aX,an,aw,bind_some,map_some,↓reduceIte,reduceEqDiff,reduceAdd,reduceMul,reduceLeDiff,reduceLT,ah,ao,aP,hj,mul_one,rk hsq];first | done | rfl) ?_;obtain⟨s',rfl⟩:∃s',s=s'+1:=⟨s-1,by omega⟩;refine⟨q,_,by omega,zH,g.set j q,q,s',⟨hg.set (by omega),by rw[length_set,hgl],by omega⟩,⟨by omega,?_⟩,rfl,rfl⟩;rw[<-hr,sU,e1,if_neg hpe,e2]
def xE(f:List Nat)(i k:Nat):List Nat:=(gd (gd f i).2 k).2.set (max (gd f i).1 (gd (gd f i).2 k).1) (min (gd f i).1 (gd (gd f i).2 k).1)
theorem NM{f:List Nat}{i k:Nat}(h:gZ f)(hi:i<f.length)(hk:k<f.length):gZ (xE f i k)/\(xE f i k).length=f.length:=by
 obtain⟨a1,a2,a3⟩:=oB h hi;obtain⟨b1,b2,b3⟩:=oB (i:=k) a1 (by rw[a2];exact hk);exact⟨b1.set (by omega),by rw[xE,length_set,b2,a2]⟩
theorem NP(a b:Nat):rj true (.int .i64 (a:Int)) (.int .i64 (b:Int))=some (.int .i64 ((max a b:Nat):Int)):=by
 rw[Eo];congr 2;omega
theorem NS(a b:Nat):rj false (.int .i64 (a:Int)) (.int .i64 (b:Int))=some (.int .i64 ((min a b:Nat):Int)):=by
 rw[Ep];congr 2;omega
theorem pP(r:Nat->Nat)(l:List Nat):jM r (l.flatMap (az bX))=l.flatMap (az bX):=aZ (aB (λ_=>rfl) l)
theorem gB(o:Nat)(l:List Nat):(l.flatMap (az bX)).map (bf o)=l.flatMap (az bX):=bK (aB (λ_=>rfl) l)
theorem mA(B:Nat)(l:List Nat):fc B (l.flatMap (az bX))=true:=bu (aB (λ_=>rfl) l)
theorem KH(f:List Nat)(i k:Nat)(hf:gZ f)(hi:i<f.length)(hk:k<f.length)(hlen:f.length<=1000000):SC Tryz.prog 63 [.buf 0 f.length 1 none,bX i,bX k] [.cells (f.flatMap (az bX))] [] (λr S'=>r=.bI []/\S'=[.cells ((xE f i k).flatMap (az bX))]):=by
 refine Gk 22 Tryz.func63 ?_;have h1:=qz f i hf hi hlen;have k1:=oB hf hi;obtain⟨a,f1,hA⟩:∃a f1,gd f i=(a,f1):=⟨_,_,rfl⟩;rw[hA] at h1 k1;simp only at h1 k1;obtain⟨q1,q2,q3⟩:=k1;have h2:=qz f1 k q1 (by rw[q2];exact hk) (by rw[q2];exact hlen);have k2:=oB (i:=k) q1 (by rw[q2];exact hk);obtain⟨b,f2,hB⟩:∃b f2,gd f1 k=(b,f2):=⟨_,_,rfl⟩;rw[hB] at h2 k2;rw[q2] at h2;simp only at h2 k2;obtain⟨p1,p2,p3⟩:=k2
 have hj:xE f i k=f2.set (max a b) (min a b):=by rw[xE,hA];simp only;rw[hB]
 refine zC ?_;refine zS [0] (n3 @pP @mA @gB) h1 ?_;refine zQ ?_;refine zS [0] (n3 @pP @mA @gB) h2 ?_;refine zR ?_
 have hm:max a b<f.length:=by omega
 have hm2:max a b<f2.length:=by omega
 refine zs ?_;refine ai.r0 (by rfl) (by simp only[bx,aX,an,aw,bind_some,map_some,↓reduceIte,reduceEqDiff,reduceAdd,reduceMul,reduceLeDiff,reduceLT,ah,ao,aP,NP,NS,hm,mul_one,ox,p2,q2,show max a b+1<=f.length by omega,sJ (min a b) hm2];first | done | rfl) ?_;exact zP [] (hq:=by (try simp only[aC,ab]);first | done | (rw[hj];first | exact⟨rfl,rfl⟩ | exact⟨trivial,trivial⟩ | exact⟨trivial,rfl⟩ | exact⟨rfl,trivial⟩))
def oY(a0 a1 d:Int):Int:=dR (pn a0 d) (pn a1 d)
def oX(a0 a1 d:Int):Int:=dQ (pn a0 d) (pn a1 d)
set_option maxHeartbeats 1000000 in
theorem vl(a0 a1 lo hi:Int)(h:lo<=hi):SC Tryz.prog 239 [aa lo,aa hi,.ptr 0 0,.ptr 1 0] [.cells [aa a0,aa a1],.cells [cC]] []
 (λr S'=>r=.bI []/\S'=[.cells [aa a0,aa a1],.cells [.buf 4 2 2 none],.gone,.gone,.cells [aa (oY a0 a1 lo),aa (oX a0 a1 lo),aa (oY a0 a1 hi),aa (oX a0 a1 hi)]]):=by
 refine PQ 40 Tryz.func239 ?_;refine aE (show decide (lo<=hi)=true by simpa using h) ?_
 (repeat refine ai.seq ?_)
 refine ai.yes rfl ?_;refine zV ?_
 (repeat refine ai.seq ?_)
 refine ai.block (ai.loop (λm st=>
  (m=2/\st=⟨[(2,.ptr 0 0),(3,.ptr 1 0),(15,.buf 2 2 1 (some 2)),(16,aa 2),(17,aa 0),(1000000,.ptr 0 0),(1000001,.ptr 1 0)],40,[.cells [aa a0,aa a1],.cells [cC],.cells [aa lo,aa hi]],[]⟩)\/
  (m=1/\st=⟨[(2,.ptr 0 0),(3,.ptr 1 0),(15,.buf 2 2 1 (some 2)),(16,aa 2),(17,aa 1),(1000000,.ptr 0 0),(1000001,.ptr 1 0)],40,[.cells [aa a0,aa a1],.cells [.buf 4 1 2 none],.cells [aa lo,aa hi],.gone,.cells [aa (oY a0 a1 lo),aa (oX a0 a1 lo)]],[]⟩)\/
  (m=0/\st=⟨[(2,.ptr 0 0),(3,.ptr 1 0),(15,.buf 2 2 1 (some 2)),(16,aa 2),(17,aa 2),(1000000,.ptr 0 0),(1000001,.ptr 1 0)],40,[.cells [aa a0,aa a1],.cells [.buf 4 2 2 none],.cells [aa lo,aa hi],.gone,.cells [aa (oY a0 a1 lo),aa (oX a0 a1 lo),aa (oY a0 a1 hi),aa (oX a0 a1 hi)]],[]⟩)) 2 zH (.inl ⟨rfl,rfl⟩) (by rintro m st (⟨_,rfl⟩ | ⟨_,rfl⟩ | ⟨_,rfl⟩)<;>rfl) ?_)
 rintro m st (⟨rfl,rfl⟩ | ⟨rfl,rfl⟩ | ⟨rfl,rfl⟩)
 ·refine wy ?_
  (repeat refine ai.seq ?_)
  refine ai.block ?_;refine zV ?_;refine zs ?_;refine oW [0,1,0,7,0,16,0,127,255,511] ?_;refine zD ?_;refine SD.k (by rfl) rfl rfl (by rfl) rfl rfl zc (gI a0 lo) (zw) rfl ?_;refine zD ?_;refine SD.k (by rfl) rfl rfl (by rfl) rfl rfl zc (gI a1 lo) (zw) rfl ?_;refine zD ?_;refine zM ?_;refine aE (n2 @gQ @e8) ?_;refine zV ?_;exact⟨1,_,by omega,(cI (n2 @oY.eq_1 @oX.eq_1)),.inr (.inl ⟨rfl,rfl⟩)⟩
 ·refine wy ?_
  (repeat refine ai.seq ?_)
  refine ai.block ?_;refine zV ?_;refine zs ?_;refine oW [0,1,0,7,0,16,0,127,255,511] ?_;refine zD ?_;refine SD.k (by rfl) rfl rfl (by rfl) rfl rfl zc (gI a0 hi) (zw) rfl ?_;refine zD ?_;refine SD.k (by rfl) rfl rfl (by rfl) rfl rfl zc (gI a1 hi) (zw) rfl ?_;refine zD ?_;refine zM ?_;refine aE (n2 @gQ @e8) ?_;refine zV ?_;exact⟨0,_,by omega,(cI (n2 @oY.eq_1 @oX.eq_1)),.inr (.inr ⟨rfl,rfl⟩)⟩
 ·refine Gl ?_;refine ai.fg (st':=⟨[(1000000,.ptr 0 0),(1000001,.ptr 1 0)],40,[.cells [aa a0,aa a1],.cells [.buf 4 2 2 none],.gone,.gone,.cells [aa (oY a0 a1 lo),aa (oX a0 a1 lo),aa (oY a0 a1 hi),aa (oX a0 a1 hi)]],[]⟩) zH ?_;refine ai.exit ?_;simp only[iq,eB,df,cL,if_true];exact zP []
theorem Ft(a0 a1 lo hi:Int)(h:¬lo<=hi):SC Tryz.prog 239 [aa lo,aa hi,.ptr 0 0,.ptr 1 0] [.cells [aa a0,aa a1],.cells [cC]] []
 (λr S'=>r=.bI []/\S'=[.cells [aa a0,aa a1],.cells [cC]]):=by
 refine PQ 40 Tryz.func239 ?_;refine aE (show decide (lo<=hi)=false by simpa using h) ?_
 (repeat refine ai.seq ?_)
 refine ai.no rfl ?_;refine ai.skip ?_
 (try simp only[iq,eB,df,cL])
 exact zP []
theorem pS(a0 a1 lo hi:Int)(n:Nat)(cs:List SV)(h:¬lo<=hi):SC Tryz.prog 239 [aa lo,aa hi,.ptr 0 0,.ptr 1 0] [.cells [aa a0,aa a1],.cells [.buf 2 n 2 none],.cells cs] []
 (λr S'=>r=.bI []/\S'=[.cells [aa a0,aa a1],.cells [.buf 2 n 2 none],.cells cs]):=by
 refine QE 40 Tryz.func239 ?_;refine aE (show decide (lo<=hi)=false by simpa using h) ?_
 (repeat refine ai.seq ?_)
 refine ai.no rfl ?_;refine ai.skip ?_
 (try simp only[iq,eB,df,cL])
 exact zP []
def cQ(p:Int×Int):List SV:=[aa p.1,aa p.2]
theorem qc(p:Int×Int):(cQ p).length=2:=rfl
theorem lF(p:Int×Int):cr (cQ p)=true:=rfl
set_option maxHeartbeats 1000000 in
theorem vk(a0 a1 lo hi:Int)(rows:List (Int×Int))(hlen:rows.length<=1000)(h:lo<=hi):SC Tryz.prog 239 [aa lo,aa hi,.ptr 0 0,.ptr 1 0] [.cells [aa a0,aa a1],.cells [.buf 2 rows.length 2 none],.cells (rows.flatMap cQ)] [2]
 (λr S'=>r=.bI []/\S'=[.cells [aa a0,aa a1],.cells [.buf 2 (rows.length+1+1) 2 none],.cells ((rows++[(oY a0 a1 lo,oX a0 a1 lo)]++[(oY a0 a1 hi,oX a0 a1 hi)]).flatMap cQ)]):=by
 refine QE 40 Tryz.func239 ?_;have step:∀(l:List (Int×Int)) (x y:Int),((l.flatMap cQ).take (l.length*2)++[aa x,aa y]).map (bf 2)=(l++[(x,y)]).flatMap cQ:=λl x y=>dO qc lF 2 l (x,y);have hcl:∀l:List (Int×Int),(l.flatMap cQ).length=l.length*2:=aJ qc;have hkc:∀(o:Nat) (l:List (Int×Int)),(l.flatMap cQ).map (bf o)=l.flatMap cQ:=λo l=>aW lF o l;refine aE (show decide (lo<=hi)=true by simpa using h) ?_
 (repeat refine ai.seq ?_)
 refine ai.yes rfl ?_;refine aE hkc ?_
 (repeat refine ai.seq ?_)
 refine ai.block (ai.loop (λm st=>∃q:List (Int×Int),
  (m=2/\q=rows/\st=⟨[(2,.ptr 0 0),(3,.ptr 1 0),(15,.buf 3 2 1 (some 2)),(16,aa 2),(17,aa 0),(1000000,.ptr 0 0),(1000001,.ptr 1 0)],40,[.cells [aa a0,aa a1],.cells [.buf 2 q.length 2 none],.cells (q.flatMap cQ),.cells [aa lo,aa hi]],[]⟩)\/
  (m=1/\q=rows++[(oY a0 a1 lo,oX a0 a1 lo)]/\st=⟨[(2,.ptr 0 0),(3,.ptr 1 0),(15,.buf 3 2 1 (some 2)),(16,aa 2),(17,aa 1),(1000000,.ptr 0 0),(1000001,.ptr 1 0)],40,[.cells [aa a0,aa a1],.cells [.buf 2 q.length 2 none],.cells (q.flatMap cQ),.cells [aa lo,aa hi]],[]⟩)\/
  (m=0/\q=rows++[(oY a0 a1 lo,oX a0 a1 lo)]++[(oY a0 a1 hi,oX a0 a1 hi)]/\st=⟨[(2,.ptr 0 0),(3,.ptr 1 0),(15,.buf 3 2 1 (some 2)),(16,aa 2),(17,aa 2),(1000000,.ptr 0 0),(1000001,.ptr 1 0)],40,[.cells [aa a0,aa a1],.cells [.buf 2 q.length 2 none],.cells (q.flatMap cQ),.cells [aa lo,aa hi]],[]⟩)) 2 zH ⟨rows,.inl ⟨rfl,rfl,rfl⟩⟩ (by rintro m st ⟨q,⟨_,_,rfl⟩ | ⟨_,_,rfl⟩ | ⟨_,_,rfl⟩⟩<;>rfl) ?_)
 rintro m st ⟨q,⟨rfl,hq,rfl⟩ | ⟨rfl,hq,rfl⟩ | ⟨rfl,hq,rfl⟩⟩
 ·have hql:q.length<=1000000:=by rw[hq];omega
  refine wy ?_
  (repeat refine ai.seq ?_)
  refine ai.block ?_;refine zV ?_;refine zs ?_;refine oW [0,1,0,7,0,16,0,127,255,511] ?_;refine zD ?_;refine SD.k (by rfl) rfl rfl (by rfl) rfl rfl zc (gI a0 lo) (zw) rfl ?_;refine zD ?_;refine SD.k (by rfl) rfl rfl (by rfl) rfl rfl zc (gI a1 lo) (zw) rfl ?_;refine zD ?_;refine zM ?_;refine aE (n7 @gQ @e8 hkc hcl step hql @le_refl) ?_;refine zV ?_;refine⟨1,_,by omega,(Fg.less (nM (n6 @oY.eq_1 @oX.eq_1 hq @length_append.{0} @length_cons.{0} @length_nil.{0})) (nN (n6 @oY.eq_1 @oX.eq_1 hq @length_append.{0} @length_cons.{0} @length_nil.{0}))),q++[(oY a0 a1 lo,oX a0 a1 lo)],.inr (.inl ⟨rfl,by rw[hq],rfl⟩)⟩
 ·have hql:q.length<=1000000:=by rw[hq,length_append];simp only[length_cons,length_nil];omega
  refine wy ?_
  (repeat refine ai.seq ?_)
  refine ai.block ?_;refine zV ?_;refine zs ?_;refine oW [0,1,0,7,0,16,0,127,255,511] ?_;refine zD ?_;refine SD.k (by rfl) rfl rfl (by rfl) rfl rfl zc (gI a0 hi) (zw) rfl ?_;refine zD ?_;refine SD.k (by rfl) rfl rfl (by rfl) rfl rfl zc (gI a1 hi) (zw) rfl ?_;refine zD ?_;refine zM ?_;refine aE (n7 @gQ @e8 hkc hcl step hql @le_refl) ?_;refine zV ?_;refine⟨0,_,by omega,(Fg.less (nM (n6 @oY.eq_1 @oX.eq_1 hq @length_append.{0} @length_cons.{0} @length_nil.{0})) (nN (n6 @oY.eq_1 @oX.eq_1 hq @length_append.{0} @length_cons.{0} @length_nil.{0}))),q++[(oY a0 a1 hi,oX a0 a1 hi)],.inr (.inr ⟨rfl,by rw[hq],rfl⟩)⟩
 ·refine Gl ?_;rw[show q.length=rows.length+1+1 by rw[hq];simp];refine ai.fg (st':=⟨[(1000000,.ptr 0 0),(1000001,.ptr 1 0)],40,[.cells [aa a0,aa a1],.cells [.buf 2 (rows.length+1+1) 2 none],.cells (q.flatMap cQ)],[]⟩) zH ?_;refine ai.exit ?_;simp only[iq,eB,df,cL,if_true];exact zP [] (hq:=by (try simp only[aC,ab]);first | done | (rw[hq];first | exact⟨rfl,rfl⟩ | exact⟨trivial,rfl⟩ | exact⟨rfl,trivial⟩ | exact⟨trivial,trivial⟩))
end Go.Proofs
