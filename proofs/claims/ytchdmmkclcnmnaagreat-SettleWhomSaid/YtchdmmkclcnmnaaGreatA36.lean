/- Lemmas of this claim, each with its conditions. -/
import Derived.Test.YtchdmmkclcnmnaaGreatA35
import Derived.Test.YtchdmmkclcnmnaaGreatA34
import Derived.Test.YtchdmmkclcnmnaaGreatA19
set_option linter.all false
open List (all_eq_true mem_singleton)
open Bool (eq_false_iff)
open Nat renaming reduceEqDiff -> aa, le_refl -> af, reduceLeDiff -> aj, reduceAdd -> ax, reduceMul -> ay, zero_le -> aS, reduceLT -> a0, not_lt_zero -> bk
open List renaming getElem?_eq_getElem -> ac, mem_of_getElem? -> ad, getElem?_take -> al, not_mem_nil -> bc, take_length -> bd, mem_iff_getElem? -> be, mem_cons -> bi, all_append -> bo, range -> bs
open And renaming intro -> ap
open Option renaming bind_some -> aR, map_some -> ba
open Bool renaming and_eq_true -> bb, true_and -> bh
namespace Go.Proofs
open Go.Ev
set_option maxRecDepth 100000
def Dt(o:Nat)(L:Nat->Prop)(i:Nat)(x y:SO):bQ o (io L i x y)=io L i (bQ o x) (bQ o y):=by
 unfold io;split<;>rfl
def Cz(r:Nat->Nat)(L:Nat->Prop)(i:Nat)(x y:SO):nk r (io L i x y)=io L i (nk r x) (nk r y):=by
 unfold io;split<;>rfl
abbrev nF:List Nat:=[70,111,114,103,101]
abbrev nR:List Nat:=[82,97,105,108]
abbrev nA:List Nat:=[97,120,108,101]
abbrev xf(n:Int):Xf:=⟨nF,nR,n⟩
abbrev xb(n:Int):Xf:=⟨nR,nF,n⟩
def A1:List aP:=[⟨nA,false,[]⟩]
def Ik:bB:=.mk 2 0 []
def DS:bu:=⟨[⟨1,1,[97,49],nA,[],[],[],[],0,0,0,0,0,0⟩],false⟩
def R5:Wy:=⟨nA,nF,9,9,80⟩
def Pw(k:Nat):Co:=⟨[97,k],nR,5,100⟩
def B3{s:List Nat}(h:(decide (s.length<=1000000)&&s.all λb=>decide (b<256))=true):jw s:=by
 simp only[bb,wr,all_eq_true] at h;exact⟨h.1,h.2⟩
def PR:jD A1:=by
 refine⟨by decide,λk hk=>?_,λk hk s hs=>?_⟩
 ·simp only[A1,bi,bc,or_false] at hk;subst hk;exact⟨B3 (by decide),by decide⟩
 ·simp only[A1,bi,bc,or_false] at hk;subst hk;cases hs
def PZ:gD Ik:=.mk (by decide) λk hk=>by cases hk
def QE:∀r∈[DS],ea r:=by
 intro r hr;cases mem_singleton.1 hr;refine⟨by decide,λe he=>?_⟩;cases mem_singleton.1 he;constructor<;>exact B3 (by decide)
def TH:A2 [xf 80] []=([xf 80],0):=by kernel_rfl
def TI:A2 [xf 80] [xf 100]=([xb 20],0):=by kernel_rfl
def TJ:A2 [xf 80,xb 30] [xf 50]=([],0):=by kernel_rfl
def TL:A2 [⟨nR,nR,0⟩] []=([],1):=by kernel_rfl
def SS:lx A1 Ik [R5] [DS] [Pw 49,Pw 50]=([xf 80],0):=by kernel_rfl
def rG(owed paid:List Xf)(h:((owed++paid).all λt=>decide (t.fr.length<=1000000)&&(t.fr.all (λb=>decide (b<256))&&(decide (t.to.length<=1000000)&&t.to.all λb=>decide (b<256))))=true)(h1:(decide (owed.length<=1000)&&decide (paid.length<=1000))=true):
 PC Tryz.prog 11 [ak 3 owed bj,ak 3 paid bj] (·=Li (A2 owed paid)):=by
 have hf:∀t∈owed++paid,t.fits:=by
  intro t ht;have:=all_eq_true.1 h t ht;simp only[bb,wr,all_eq_true] at this;exact⟨this.1,this.2.1,this.2.2.1,this.2.2.2⟩
 simp only[bb,wr] at h1;exact MH sT Me owed paid (λt ht=>hf t (List.mem_append_left _ ht)) (λt ht=>hf t (List.mem_append_right _ ht)) h1.1 h1.2
def Ag(a:List Xf)(h:a.length<=1000000):PC Tryz.prog 8 [ak 3 a bj,ak 3 a bj] (·=az true):=by
 have:=JM a a h;rw[wd rfl] at this;exact this
abbrev SJ:Fm:=[(4,.ip [ae nF,ae nR,ab 50]),(3,.ptr 0 0),(2,.ip [ae nF,ae nR,ab 100]),(1,.ip [ae nF,ae nR,ab 80]),(0,az false)]
abbrev Sf:Fm:=(5,ak 3 [xf 80] bj)::(6,ab 0)::SJ
abbrev Si:Fm:=(7,ak 3 [xb 20] bj)::(8,ab 0)::Sf
abbrev SK:Fm:=(9,ak 3 ([]:List Xf) bj)::(10,ab 0)::Si
abbrev Tz:Fm:=(12,ab 1)::SK
abbrev SL:Fm:=(13,.ip (ak 3 A1 ao::aE Ik))::Tz
abbrev TA:Fm:=(14,ak 2 [DS] aD)::SL
abbrev Sj:Fm:=(15,ak 5 [R5] bK)::TA
abbrev UC:Fm:=(16,ak 3 [xf 80] bj)::(17,ab 0)::Sj
def Hb:PC Tryz.prog 5 [] (·=az true):=by
 have d0:=rG [xf 80] [] (by decide) (by decide);rw[TH] at d0;have d1:=rG [xf 80] [xf 100] (by decide) (by decide);rw[TI] at d1;have d2:=rG [xf 80,xb 30] [xf 50] (by decide) (by decide);rw[TJ] at d2;have d3:=rG [⟨nR,nR,0⟩] [] (by decide) (by decide);rw[TL] at d3;have ho:=AP sT A1 Ik [R5] [DS] [Pw 49,Pw 50] PR PZ (λw hw=>by cases mem_singleton.1 hw;constructor<;>decide) (λw hw=>by simp only[bi,bc,or_false] at hw;rcases hw with rfl | rfl<;>constructor<;>decide) (by decide) QE (λr hr=>by cases mem_singleton.1 hr;decide) (by decide) (by decide);rw[SS] at ho;have m0:=Ag [xf 80] (by decide);have m1:=Ag [xb 20] (by decide);refine pB 117 Tryz.func5 ?_;refine lC ?_
 (repeat refine ar.seq ?_)
 refine ar.fg (st':=⟨[(1,.ptr 0 0),(0,az false)],117,[.cells [ae nF,ae nR,ab 80]],[]⟩) zH ?_;refine ar.wL 8 12 (λL=>⟨(19,vo L 0 (.ag [ae nF,ae nR,ab 80]))::(20,vo L 1 (.ag [ae nF,ae nR,ab 80]))::(21,vo L 2 (.ag [ae nF,ae nR,ab 80]))::(2,vo L 3 (.ptr 1 0))::(3,vo L 4 (.ptr 2 0))::(4,vo L 5 (.ptr 3 0))::[(1,.ptr 0 0),(0,az false)],117,[.cells [ae nF,ae nR,ab 80],wo L 3 (io L 6 (.cells [ae nF,ae nR,ab 80]) (.cells [ae [],ae [],ab 0])),wo L 4 (io L 7 (.cells [ae nF,ae nR,ab 80]) (.cells [ae [],ae [],ab 0])),wo L 5 (.cells [ae [],ae [],ab 0])],[]⟩) rfl (by kernel_rfl) (by rfl) (by decide) (by kernel_rfl) (bL (n2 @mh @Lh)) (λL=>rfl) ?_ ?_
 ·rintro L i o him hC hr
  rcases i with _ | _ | _ | _ | _ | _ | _ | _ | i
  rotate_right
  ·exact t8 him (by omega)
  ·cases hr.fE;refine zR ?_;exact(bL (n3 @aO @fe @bR))
  ·cases hr.fE;refine zR ?_;exact(bL (n3 @aO @fe @bR))
  ·cases hr.fE;refine zR ?_;exact(bL (n3 @aO @fe @bR))
  ·cases hr.fE;have hn:¬L 3:=hr.new;have hl:¬L 6:=λh=>hn (hC 6 _ rfl h ⟨3,.data⟩ (by simp) rfl);refine aI.r0 (by rfl) (by simp only[bP,bg,ak,aw,aR,ba,↓reduceIte,aa,ax,ay,aj,a0,ai,an,aU,↓jW,Dt,gp hn,cu];first | done | rfl) ?_;exact((Fg.rn (f':=(19,vo L 0 (.ag [ae nF,ae nR,ab 80]))::(20,vo L 1 (.ag [ae nF,ae nR,ab 80]))::(21,vo L 2 (.ag [ae nF,ae nR,ab 80]))::(2,.ptr 1 0)::(3,vo L 4 (.ptr 2 0))::(4,vo L 5 (.ptr 3 0))::[(1,.ptr 0 0),(0,az false)]) (n:=117) (S':=[.cells [ae nF,ae nR,ab 80],.cells [ae [],ae [],ab 0],wo L 4 (io L 7 (.cells [ae nF,ae nR,ab 80]) (.cells [ae [],ae [],ab 0])),wo L 5 (.cells [ae [],ae [],ab 0])]) [0,4,2,3] (by decide) rfl (by (simp only[qw,ef,bg,ak,r6,r7,Cz,cu,↓reduceIte,aa])<;>(repeat' apply ap)<;>first | trivial | exact .inl rfl | exact .inr rfl | exact .inr trivial | exact .inl trivial) (by (simp only[bP,ef,bg,ak,r6,r7,Cz,cu,↓reduceIte,aa])<;>(repeat' apply ap)<;>first | rfl | trivial))).trans (Fg.less (by (simp only[bP,bg,dr,↓reduceIte,aa,ak,aO,fe,bR,fK hl])<;>(repeat' apply ap)<;>first | rfl | trivial) (by (simp only[bP,bg,or_true,true_or,ak,aO,fe,bR,fK hl])<;>(repeat' apply ap)<;>first | exact .inr rfl | exact .inl rfl | trivial))
  ·cases hr.fE;have hn:¬L 4:=hr.new;have hl:¬L 7:=λh=>hn (hC 7 _ rfl h ⟨4,.data⟩ (by simp) rfl);refine aI.r0 (by rfl) (by simp only[bP,bg,ak,aw,aR,ba,↓reduceIte,aa,ax,ay,aj,a0,ai,an,aU,↓jW,Dt,gp hn,cu];first | done | rfl) ?_;exact((Fg.rn (f':=(19,vo L 0 (.ag [ae nF,ae nR,ab 80]))::(20,vo L 1 (.ag [ae nF,ae nR,ab 80]))::(21,vo L 2 (.ag [ae nF,ae nR,ab 80]))::(2,vo L 3 (.ptr 1 0))::(3,.ptr 2 0)::(4,vo L 5 (.ptr 3 0))::[(1,.ptr 0 0),(0,az false)]) (n:=117) (S':=[.cells [ae nF,ae nR,ab 80],wo L 3 (io L 6 (.cells [ae nF,ae nR,ab 80]) (.cells [ae [],ae [],ab 0])),.cells [ae [],ae [],ab 0],wo L 5 (.cells [ae [],ae [],ab 0])]) [0,1,4,3] (by decide) rfl (by (simp only[qw,ef,bg,ak,r6,r7,Cz,cu,↓reduceIte,aa])<;>(repeat' apply ap)<;>first | trivial | exact .inl rfl | exact .inr rfl | exact .inr trivial | exact .inl trivial) (by (simp only[bP,ef,bg,ak,r6,r7,Cz,cu,↓reduceIte,aa])<;>(repeat' apply ap)<;>first | rfl | trivial))).trans (Fg.less (by (simp only[bP,bg,dr,↓reduceIte,aa,ak,aO,fe,bR,fK hl])<;>(repeat' apply ap)<;>first | rfl | trivial) (by (simp only[bP,bg,or_true,true_or,ak,aO,fe,bR,fK hl])<;>(repeat' apply ap)<;>first | exact .inr rfl | exact .inl rfl | trivial))
  ·cases hr.fE;have hn:¬L 5:=hr.new;refine aI.r0 (by rfl) (by simp only[bP,bg,ak,aw,aR,ba,↓reduceIte,aa,ax,ay,aj,a0,ai,an,aU,↓jW,Dt,gp hn,cu];first | done | rfl) ?_;exact((Fg.rn (f':=(19,vo L 0 (.ag [ae nF,ae nR,ab 80]))::(20,vo L 1 (.ag [ae nF,ae nR,ab 80]))::(21,vo L 2 (.ag [ae nF,ae nR,ab 80]))::(2,vo L 3 (.ptr 1 0))::(3,vo L 4 (.ptr 2 0))::(4,.ptr 3 0)::[(1,.ptr 0 0),(0,az false)]) (n:=117) (S':=[.cells [ae nF,ae nR,ab 80],wo L 3 (io L 6 (.cells [ae nF,ae nR,ab 80]) (.cells [ae [],ae [],ab 0])),wo L 4 (io L 7 (.cells [ae nF,ae nR,ab 80]) (.cells [ae [],ae [],ab 0])),.cells [ae [],ae [],ab 0]]) [0,1,2,4] (by decide) rfl (by (simp only[qw,ef,bg,ak,r6,r7,Cz,cu,↓reduceIte,aa])<;>(repeat' apply ap)<;>first | trivial | exact .inl rfl | exact .inr rfl | exact .inr trivial | exact .inl trivial) (by (simp only[bP,ef,bg,ak,r6,r7,Cz,cu,↓reduceIte,aa])<;>(repeat' apply ap)<;>first | rfl | trivial))).trans (bL (n3 @aO @fe @bR))
  ·cases hr.fE;have d3:L 3:=hr.dep ⟨3,.data⟩ (by simp) rfl;have d0:L 0:=hr.dep ⟨0,.data⟩ (by simp) rfl;have hn:¬L 6:=hr.new;refine aI.r0 (by rfl) (by simp only[bP,bg,ak,aw,aR,ba,↓reduceIte,aa,ax,ay,aj,a0,ai,an,aU,dq d3,dq d0,lO d3,fK hn];first | done | rfl) ?_;exact(bL (n6 @aO @fe @bR (dP d3) (dP d0) (Us d3)))
  ·cases hr.fE;have d4:L 4:=hr.dep ⟨4,.data⟩ (by simp) rfl;have d1:L 1:=hr.dep ⟨1,.data⟩ (by simp) rfl;have hn:¬L 7:=hr.new;refine aI.r0 (by rfl) (by simp only[bP,bg,ak,aw,aR,ba,↓reduceIte,aa,ax,ay,aj,a0,ai,an,aU,dq d4,dq d1,lO d4,fK hn];first | done | rfl) ?_;exact(bL (n6 @aO @fe @bR (dP d4) (dP d1) (Us d4)))
 have v8:∀i,i<8->∀v:SV,vo (λj=>j<8) i v=v:=λi h v=>dq h;have w8:∀i,i<8->∀v:SO,wo (λj=>j<8) i v=v:=λi h v=>lO h;have i8:∀i,i<8->∀x y:SO,io (λj=>j<8) i x y=x:=λi h x y=>od h;change aI _ _ _ _ _ _;refine aI.fg (st':=⟨[(21,.ag [ae nF,ae nR,ab 80]),(4,.ptr 3 0),(3,.ptr 2 0),(2,.ptr 1 0),(1,.ptr 0 0),(0,az false)],117,[.cells [ae nF,ae nR,ab 80],.cells [ae nF,ae nR,ab 80],.cells [ae nF,ae nR,ab 80],.cells [ae [],ae [],ab 0]],[]⟩) (bL (n9 (v8 2 (by decide)) (v8 3 (by decide)) (v8 4 (by decide)) (v8 5 (by decide)) (w8 3 (by decide)) (w8 4 (by decide)) (w8 5 (by decide)) (i8 6 (by decide)) (i8 7 (by decide)))) ?_;refine zR ?_
 (try change ar _ _ _ _ _)
 refine lC ?_;refine ar.fg (st':=⟨[(4,.ptr 3 0),(3,.ptr 2 0),(2,.ptr 1 0),(1,.ptr 0 0),(0,az false)],117,[.cells [ae nF,ae nR,ab 80],.cells [ae nF,ae nR,ab 100],.cells [ae nR,ae nF,ab 30],.cells [ae nF,ae nR,ab 50]],[]⟩) zH ?_;refine ar.fg (Fg.freeze (f':=[(4,.ip [ae nF,ae nR,ab 50]),(3,.ptr 2 0),(2,.ptr 1 0),(1,.ptr 0 0),(0,az false)]) 3 rfl (λh=>by cases h) ⟨.inr (.ptr rfl (bp.refl rfl) (aS _)),.inl rfl,.inl rfl,.inl rfl,.inl rfl,trivial⟩) ?_;refine ar.fg (Fg.freeze (f':=[(4,.ip [ae nF,ae nR,ab 50]),(3,.ptr 2 0),(2,.ip [ae nF,ae nR,ab 100]),(1,.ptr 0 0),(0,az false)]) 1 rfl (λh=>by cases h) ⟨.inl rfl,.inl rfl,.inr (.ptr rfl (bp.refl rfl) (aS _)),.inl rfl,.inl rfl,trivial⟩) ?_;refine ar.fg (Fg.freeze (f':=[(4,.ip [ae nF,ae nR,ab 50]),(3,.ptr 2 0),(2,.ip [ae nF,ae nR,ab 100]),(1,.ip [ae nF,ae nR,ab 80]),(0,az false)]) 0 rfl (λh=>by cases h) ⟨.inl rfl,.inl rfl,.inl rfl,.inr (.ptr rfl (bp.refl rfl) (aS _)),.inl rfl,trivial⟩) ?_;refine ar.fg (st':=⟨[(4,.ip [ae nF,ae nR,ab 50]),(3,.ptr 2 0),(2,.ip [ae nF,ae nR,ab 100]),(1,.ip [ae nF,ae nR,ab 80]),(0,az false)],117,[.gone,.gone,.cells [ae nR,ae nF,ab 30]],[]⟩) zH ?_;refine ar.fg (st':=⟨SJ,117,[.cells [ae nR,ae nF,ab 30]],[]⟩) (Fg.rn [2] (by decide) rfl UX UY) ?_
 (try change ar _ _ _ _ _)
 refine zC ?_;refine aI.fg (st':=⟨(27,.buf 1 1 3 (some 1))::SJ,117,[.cells [ae nR,ae nF,ab 30],.cells [ae nF,ae nR,ab 80]],[]⟩) zH ?_;refine aI.fg (Fg.freeze (f':=(27,.sl 1 3 [ae nF,ae nR,ab 80])::SJ) 1 rfl (λh=>by cases h) ⟨.inr (.buf rfl (bp.refl rfl) (af _)),.inl rfl,.inl rfl,.inl rfl,.inl rfl,.inl rfl,trivial⟩) ?_;refine aI.fg (st':=⟨(27,.sl 1 3 [ae nF,ae nR,ab 80])::SJ,117,[.cells [ae nR,ae nF,ab 30]],[]⟩) zH ?_;refine zK d0 ?_ (hwk:=.cons (.sl _ _ _) (.cons (.nil 3) .nil)) (hfl:=.inr (.cons (.sl _ _ _) (.cons (.nil 3) .nil)));refine cM @Li.eq_1 ?_;refine ar.fg (st':=⟨Sf,117,[.cells [ae nR,ae nF,ab 30]],[]⟩) (bL @Li.eq_1) ?_
 (try change ar _ _ _ _ _)
 refine zC ?_;refine aI.fg (st':=⟨(33,.buf 1 1 3 (some 1))::(35,.buf 2 1 3 (some 1))::Sf,117,[.cells [ae nR,ae nF,ab 30],.cells [ae nF,ae nR,ab 80],.cells [ae nF,ae nR,ab 100]],[]⟩) zH ?_;refine aI.fg (Fg.freeze (f':=(33,.buf 1 1 3 (some 1))::(35,.sl 1 3 [ae nF,ae nR,ab 100])::Sf) 2 rfl (λh=>by cases h) ⟨.inl rfl,.inr (.buf rfl (bp.refl rfl) (af _)),.inl rfl,.inl rfl,.inl rfl,.inl rfl,.inl rfl,.inl rfl,.inl rfl,trivial⟩) ?_;refine aI.fg (Fg.freeze (f':=(33,.sl 1 3 [ae nF,ae nR,ab 80])::(35,.sl 1 3 [ae nF,ae nR,ab 100])::Sf) 1 rfl (λh=>by cases h) ⟨.inr (.buf rfl (bp.refl rfl) (af _)),.inl rfl,.inl rfl,.inl rfl,.inl rfl,.inl rfl,.inl rfl,.inl rfl,.inl rfl,trivial⟩) ?_;refine aI.fg (st':=⟨(33,.sl 1 3 [ae nF,ae nR,ab 80])::(35,.sl 1 3 [ae nF,ae nR,ab 100])::Sf,117,[.cells [ae nR,ae nF,ab 30]],[]⟩) zH ?_;refine zK d1 ?_ (hfl:=.inr (bp.refl rfl));refine cM @Li.eq_1 ?_;refine ar.fg (st':=⟨Si,117,[.cells [ae nR,ae nF,ab 30]],[]⟩) (bL @Li.eq_1) ?_
 (try change ar _ _ _ _ _)
 refine zC ?_;refine aI.fg (st':=⟨(42,.buf 1 2 3 (some 2))::(44,.buf 2 1 3 (some 1))::Si,117,[.cells [ae nR,ae nF,ab 30],.cells [ae nF,ae nR,ab 80,ae nR,ae nF,ab 30],.cells [ae nF,ae nR,ab 50]],[]⟩) zH ?_;refine aI.fg (Fg.freeze (f':=(42,.buf 1 2 3 (some 2))::(44,.sl 1 3 [ae nF,ae nR,ab 50])::Si) 2 rfl (λh=>by cases h) ⟨.inl rfl,.inr (.buf rfl (bp.refl rfl) (af _)),.inl rfl,.inl rfl,.inl rfl,.inl rfl,.inl rfl,.inl rfl,.inl rfl,.inl rfl,.inl rfl,trivial⟩) ?_;refine aI.fg (Fg.freeze (f':=(42,.sl 2 3 [ae nF,ae nR,ab 80,ae nR,ae nF,ab 30])::(44,.sl 1 3 [ae nF,ae nR,ab 50])::Si) 1 rfl (λh=>by cases h) ⟨.inr (.buf rfl (bp.refl rfl) (af _)),.inl rfl,.inl rfl,.inl rfl,.inl rfl,.inl rfl,.inl rfl,.inl rfl,.inl rfl,.inl rfl,.inl rfl,trivial⟩) ?_;refine aI.fg (st':=⟨(42,.sl 2 3 [ae nF,ae nR,ab 80,ae nR,ae nF,ab 30])::(44,.sl 1 3 [ae nF,ae nR,ab 50])::Si,117,[.cells [ae nR,ae nF,ab 30]],[]⟩) zH ?_;refine zK d2 ?_ (hfl:=.inr (bp.refl rfl));refine cM @Li.eq_1 ?_;refine ar.fg (st':=⟨SK,117,[.cells [ae nR,ae nF,ab 30]],[]⟩) (bL @Li.eq_1) ?_
 (try change ar _ _ _ _ _)
 refine zC ?_;refine aI.fg (st':=⟨(50,.buf 1 1 3 (some 1))::SK,117,[.cells [ae nR,ae nF,ab 30],.cells [ae nR,ae nR,ab 0]],[]⟩) zH ?_;refine aI.fg (Fg.freeze (f':=(50,.sl 1 3 [ae nR,ae nR,ab 0])::SK) 1 rfl (λh=>by cases h) ⟨.inr (.buf rfl (bp.refl rfl) (af _)),.inl rfl,.inl rfl,.inl rfl,.inl rfl,.inl rfl,.inl rfl,.inl rfl,.inl rfl,.inl rfl,.inl rfl,.inl rfl,trivial⟩) ?_;refine aI.fg (st':=⟨(50,.sl 1 3 [ae nR,ae nR,ab 0])::SK,117,[.cells [ae nR,ae nF,ab 30]],[]⟩) zH ?_;refine zK d3 ?_ (hwk:=.cons (.sl _ _ _) (.cons (.nil 3) .nil)) (hfl:=.inr (.cons (.sl _ _ _) (.cons (.nil 3) .nil)));refine cM @Li.eq_1 ?_;refine ar.fg (st':=⟨Tz,117,[.cells [ae nR,ae nF,ab 30]],[]⟩) (bL @Li.eq_1) ?_
 (try change ar _ _ _ _ _)
 refine zV ?_;refine ar.fg (st':=⟨(13,.ptr 2 0)::Tz,117,[.cells [ae nR,ae nF,ab 30],.cells [ae nA,az false,.a (.slice none 0 0 (some 0))],.cells [.buf 1 1 3 (some 1),ab 2,ab 0,.a (.slice none 0 0 (some 0))]],[]⟩) zH ?_;refine ar.fg (Fg.xT (f':=(13,.ptr 2 0)::Tz) (S':=[.cells [ae nR,ae nF,ab 30],.gone,.cells [ak 3 A1 ao,ab 2,ab 0,.a (.slice none 0 0 (some 0))]]) 1 rfl (λh=>by cases h) ⟨.inl rfl,.inl rfl,.inl rfl,.inl rfl,.inl rfl,.inl rfl,.inl rfl,.inl rfl,.inl rfl,.inl rfl,.inl rfl,.inl rfl,.inl rfl,trivial⟩ ⟨.inr ⟨by decide,.inl rfl⟩,.inl rfl,.inr ⟨by decide,.inr ⟨_,_,rfl,rfl,.cons (.buf rfl (.cons (.a _) (.cons (.a _) (.cons (.nil 3) .nil))) (af _)) (.cons (.a _) (.cons (.a _) (.cons (.a _) .nil)))⟩⟩,trivial⟩) ?_;refine ar.fg (Fg.freeze (f':=SL) 2 rfl (λh=>by cases h) ⟨.inr (.ptr rfl (.cons (.sl _ _ _) (.cons (.a _) (.cons (.a _) (.cons (.nil 3) .nil)))) (aS _)),.inl rfl,.inl rfl,.inl rfl,.inl rfl,.inl rfl,.inl rfl,.inl rfl,.inl rfl,.inl rfl,.inl rfl,.inl rfl,.inl rfl,trivial⟩) ?_;refine ar.fg (st':=⟨SL,117,[.cells [ae nR,ae nF,ab 30]],[]⟩) zH ?_
 (try change ar _ _ _ _ _)
 refine zV ?_;refine ar.fg (st':=⟨(14,.buf 2 1 2 (some 1))::SL,117,[.cells [ae nR,ae nF,ab 30],.cells (DS.opts.flatMap aF),.cells [.buf 1 1 14 (some 1),az false]],[]⟩) zH ?_;refine ar.fg (Fg.xT (f':=(14,.buf 2 1 2 (some 1))::SL) (S':=[.cells [ae nR,ae nF,ab 30],.gone,.cells [ak 14 DS.opts aF,az false]]) 1 rfl (λh=>by cases h) ⟨.inl rfl,.inl rfl,.inl rfl,.inl rfl,.inl rfl,.inl rfl,.inl rfl,.inl rfl,.inl rfl,.inl rfl,.inl rfl,.inl rfl,.inl rfl,.inl rfl,trivial⟩ ⟨.inr ⟨by decide,.inl rfl⟩,.inl rfl,.inr ⟨by decide,.inr ⟨_,_,rfl,rfl,.cons (.buf rfl (bp.refl rfl) (af _)) (.cons (.a _) .nil)⟩⟩,trivial⟩) ?_;refine ar.fg (Fg.freeze (f':=TA) 2 rfl (λh=>by cases h) ⟨.inr (.buf rfl (bp.refl rfl) (af _)),.inl rfl,.inl rfl,.inl rfl,.inl rfl,.inl rfl,.inl rfl,.inl rfl,.inl rfl,.inl rfl,.inl rfl,.inl rfl,.inl rfl,.inl rfl,trivial⟩) ?_;refine ar.fg (st':=⟨TA,117,[.cells [ae nR,ae nF,ab 30]],[]⟩) zH ?_
 (try change ar _ _ _ _ _)
 refine zV ?_;refine ar.fg (st':=⟨(15,.buf 1 1 5 (some 1))::TA,117,[.cells [ae nR,ae nF,ab 30],.cells (bK R5)],[]⟩) zH ?_;refine ar.fg (Fg.freeze (f':=Sj) 1 rfl (λh=>by cases h) ⟨.inr (.buf rfl (bp.refl rfl) (af _)),.inl rfl,.inl rfl,.inl rfl,.inl rfl,.inl rfl,.inl rfl,.inl rfl,.inl rfl,.inl rfl,.inl rfl,.inl rfl,.inl rfl,.inl rfl,.inl rfl,trivial⟩) ?_;refine ar.fg (st':=⟨Sj,117,[.cells [ae nR,ae nF,ab 30]],[]⟩) zH ?_
 (try change ar _ _ _ _ _)
 refine zC ?_;refine aI.fg (st':=⟨(71,.buf 1 2 4 (some 2))::(66,.ag (ak 3 A1 ao::aE Ik))::(67,ak 5 [R5] bK)::(68,ak 2 [DS] aD)::Sj,117,[.cells [ae nR,ae nF,ab 30],.cells ([Pw 49,Pw 50].flatMap cF)],[]⟩) zH ?_;refine aI.fg (Fg.freeze (f':=(71,ak 4 [Pw 49,Pw 50] cF)::(66,.ag (ak 3 A1 ao::aE Ik))::(67,ak 5 [R5] bK)::(68,ak 2 [DS] aD)::Sj) 1 rfl (λh=>by cases h) ⟨.inr (.buf rfl (bp.refl rfl) (af _)),.inl rfl,.inl rfl,.inl rfl,.inl rfl,.inl rfl,.inl rfl,.inl rfl,.inl rfl,.inl rfl,.inl rfl,.inl rfl,.inl rfl,.inl rfl,.inl rfl,.inl rfl,.inl rfl,.inl rfl,.inl rfl,trivial⟩) ?_;refine aI.fg (st':=⟨(71,ak 4 [Pw 49,Pw 50] cF)::(66,.ag (ak 3 A1 ao::aE Ik))::(67,ak 5 [R5] bK)::(68,ak 2 [DS] aD)::Sj,117,[.cells [ae nR,ae nF,ab 30]],[]⟩) zH ?_;refine zK ho ?_ (hfl:=.inr (bp.refl rfl));refine cM @Li.eq_1 ?_;refine ar.fg (st':=⟨UC,117,[.cells [ae nR,ae nF,ab 30]],[]⟩) (bL @Li.eq_1) ?_
 (try change ar _ _ _ _ _)
 refine zV ?_;refine gG (n2 (show decide ((0:Int)=0)=true from rfl) (show decide ((1:Int)=1)=true from rfl)) ?_;refine zK m0 ?_;refine QT (n2 (show decide ((0:Int)=0)=true from rfl) (show decide ((1:Int)=1)=true from rfl)) ?_;refine zK m1 ?_;refine QT (n2 (show decide ((0:Int)=0)=true from rfl) (show decide ((1:Int)=1)=true from rfl)) ?_;refine zK m0 ?_;refine cM (n2 (show decide ((0:Int)=0)=true from rfl) (show decide ((1:Int)=1)=true from rfl)) ?_;exact zo [.tmp 0]
abbrev mi:Nat:=1000000000000000
def pK(e:bJ):Bool:=decide ((e.part.length:Int)<=300)&&(decide ((e.kind.length:Int)<=300)&&(decide ((e.bN.length:Int)<=300)&&(decide ((e.slot.length:Int)<=300)&&(decide ((e.key.length:Int)<=300)&&decide ((e.value.length:Int)<=300)))))
def EI(e:bJ):PC Tryz.prog 64 [.ag (aF e)] (·=az (pK e)):=by
 refine pB 37 Tryz.func64 ?_;rw[dx];unfold pK;refine zV ?_;cases g1:decide ((e.part.length:Int)<=300)
 ·refine aC g1 ?_;exact zo [.tmp 2]
 cases g2:decide ((e.kind.length:Int)<=300)
 ·refine aC (n2 g1 g2) ?_;exact zo [.tmp 2]
 cases g3:decide ((e.bN.length:Int)<=300)
 ·refine aC (n3 g1 g2 g3) ?_;exact zo [.tmp 2]
 cases g4:decide ((e.slot.length:Int)<=300)
 ·refine aC (n4 g1 g2 g3 g4) ?_;exact zo [.tmp 2]
 cases g5:decide ((e.key.length:Int)<=300)
 ·refine aC (n5 g1 g2 g3 g4 g5) ?_;exact zo [.tmp 2]
 refine aC (n5 g1 g2 g3 g4 g5) ?_;exact zo [.tmp 2]
def pQ(l:List bJ)(most:Int):Bool:=(l.take (most+1).toNat).all pK&&decide ((l.length:Int)<=most)
def Pk{α:Type}{p:α->Bool}{l:List α}{n:Nat}{k:Nat}{x:α}(hx:l[k]?=some x)(hk:k<n)(hp:p x=false):(l.take n).all p=false:=by
 refine eq_false_iff.2 λh=>?_;have:=all_eq_true.1 h x (by rw[be];exact⟨k,by rw[al,ul hk];exact hx⟩);rw[hp] at this;cases this
def oX{α:Type}{p:α->Bool}{l:List α}{n k:Nat}(h:(l.take k).all p=true)(hk:n<=k\/l.length<=k):(l.take n).all p=true:=by
 rw[all_eq_true] at h ⊢;intro x hx;refine h x ?_;rw[be] at hx ⊢;obtain⟨i,hi⟩:=hx;rw[al] at hi;split at hi
 ·rename_i h1;have:=bD hi;exact⟨i,by rw[al,ul (by omega)];exact hi⟩
 ·cases hi
def k9{α:Type}{p:α->Bool}{l:List α}{k:Nat}{x:α}(hx:l[k]?=some x)(h:(l.take k).all p=true)(hp:p x=true):(l.take (k+1)).all p=true:=by
 rw[br hx,bo,h];show(true&&(p x&&true))=true;rw[hp];rfl
def Jl(l:List bJ)(most:Int)(hm:0<=most)(hlen:l.length<=mi):PC Tryz.prog 32 [ak 14 l aF,ab most] (·=az (Proofs.pQ l most)):=by
 refine pB 27 Tryz.func32 ?_;refine lC ?_
 have hfin:∀k,(l.take k).all pK=true->(l.length<=k\/most<(k:Int))->Proofs.pQ l most=decide ((l.length:Int)<=most):=λk h hk=>by
  rw[Proofs.pQ,oX h (by omega),bh]
 refine zs ?_;refine zL l (λk=>(l.take k).all pK=true) (λk=>[(0,ak 14 l aF),(1,ab most),(5,ab k)]) (λk=>[]) zH zp ?_;intro k hk hall;by_cases hlt:k<l.length;rotate_left
 ·refine aC (show decide ((k:Int)<(l.length:Int))=false by simp only[wp];omega) ?_;refine dZ ?_;refine zV ?_;exact zo [.tmp 4] (hq:=by rw[hfin k hall (by omega)])
 have hd:=show decide ((k:Int)<(l.length:Int))=true by simp only[wr];omega
 obtain⟨x,hx⟩:∃x,l[k]?=some x:=⟨l[k],ac hlt⟩;cases g:decide ((k:Int)<=most)
 ·refine aC (n2 hd g) ?_;refine dZ ?_;have:=wt g;refine zV ?_;exact zo [.tmp 4] (hq:=by rw[hfin k hall (by omega)])
 refine aC (n2 hd g) ?_;refine eQ ?_;have hg:=ww g;refine gG (n2 hlt (aG (e:=14) (enc:=aF) (λ_=>rfl) hx)) ?_;refine zK (EI x) ?_;cases hs:pK x
 ·refine zR ?_;refine cL ?_;exact zo [.tmp 4] (hq:=by rw[show Proofs.pQ l most=false by rw[Proofs.pQ,Pk hx (by omega) hs];rfl])
 refine zR ?_;refine zN ?_;refine aC (zi hlt hlen) ?_;refine zX hlt zH (k9 hx hall hs)
def tm(l:List bu)(most:Int):Bool:=if (l.length:Int)<=most then l.all λr=>Proofs.pQ r.opts 6 else false
def Jn(l:List bu)(most:Int)(hlen:l.length<=mi)(ho:∀r∈l,r.opts.length<=mi):PC Tryz.prog 14 [ak 2 l aD,ab most] (·=az (Proofs.tm l most)):=by
 refine pB 29 Tryz.func14 ?_;refine lC ?_;cases hm:decide ((l.length:Int)<=most)
 ·refine zs ?_;refine zL l (λk=>True) (λk=>[(0,ak 2 l aD),(1,ab most),(5,ab k)]) (λk=>[]) zH zp ?_;intro k hk hall;cases hb:decide ((k:Int)<(l.length:Int))
  ·refine aC hb ?_;refine dZ ?_;refine aC hm ?_;exact zo [.tmp 4] (hq:=by rw[Proofs.tm,un (wt hm)])
  ·refine aC (n2 hb hm) ?_;refine dZ ?_;refine aC hm ?_;exact zo [.tmp 4] (hq:=by rw[Proofs.tm,un (wt hm)])
 have hN:Proofs.tm l most=l.all λr=>Proofs.pQ r.opts 6:=by rw[Proofs.tm,ul (ww hm)]
 refine zs ?_;refine zL l (λk=>((l.take k).all λr=>Proofs.pQ r.opts 6)=true) (λk=>[(0,ak 2 l aD),(1,ab most),(5,ab k)]) (λk=>[]) zH zp ?_;intro k hk hall;by_cases hlt:k<l.length;rotate_left
 ·refine aC (show decide ((k:Int)<(l.length:Int))=false by simp only[wp];omega) ?_;refine dZ ?_;have h1:=oX (n:=l.length) hall (by omega);rw[bd] at h1;refine aC hm ?_;exact zo [.tmp 4] (hq:=by rw[hN,h1])
 have hd:=show decide ((k:Int)<(l.length:Int))=true by simp only[wr];omega
 obtain⟨x,hx⟩:∃x,l[k]?=some x:=⟨l[k],ac hlt⟩;refine aC (n2 hd hm) ?_;refine eQ ?_;refine gG (n3 hlt (aG (e:=2) (enc:=aD) (λ_=>rfl) hx) @aD.eq_1) ?_;refine zK (Jl x.opts 6 (by decide) (ho x (ad hx))) ?_;cases hs:Proofs.pQ x.opts 6
 ·refine zR ?_;refine cL ?_;exact zo [.tmp 4] (hq:=by rw[hN,show(l.all λr=>Proofs.pQ r.opts 6)=false from eq_false_iff.2 λh=>by have:=all_eq_true.1 h x (ad hx);rw[hs] at this;cases this])
 refine zR ?_;refine zN ?_;refine aC (zi hlt hlen) ?_;refine zX hlt zH (k9 hx hall hs)
def oE(ws:List Wy)(c:Co):Bool:=decide ((ws.length:Int)<=6)&&(ws.all (λw=>decide ((w.kind.length:Int)+(w.cH.length:Int)<=300))&&decide ((c.part.length:Int)+(c.owner.length:Int)<=300))
def AA(ws:List Wy)(c:Co)(hlen:ws.length<=mi)(hw:∀w∈ws,w.kind.length<=mi/\w.cH.length<=mi)(hc:c.part.length<=mi/\c.owner.length<=mi):PC Tryz.prog 12 [ak 5 ws bK,.ag (cF c)] (·=az (Proofs.oE ws c)):=by
 refine pB 44 Tryz.func12 ?_;rw[da];refine zV ?_;refine ar.fg (Fg.freeze (f':=[(0,ak 5 ws bK),(3,.ip [ae c.part,ae c.owner,ab c.day,ab c.am])]) 0 rfl (λh=>by cases h) (rK @ak.eq_1)) ?_;refine ar.fg (st':=⟨[(0,ak 5 ws bK),(3,.ip [ae c.part,ae c.owner,ab c.day,ab c.am])],44,[],[]⟩) zH ?_
 (try change ar _ _ _ _ _)
 refine zV ?_;have hca:=q6 (P:=Tryz.prog) (t:=3) (show -9223372036854775808<=(c.part.length:Int)+(c.owner.length:Int)/\(c.part.length:Int)+(c.owner.length:Int)<=9223372036854775807 from by unfold mi at hc;omega);cases hm:decide ((ws.length:Int)<=6)
 ·refine zs ?_;refine ar.block (ar.loop (λm st=>∃k:Nat,k<=ws.length/\m=ws.length-k/\(True)/\st=⟨[(0,ak 5 ws bK),(3,.ip [ae c.part,ae c.owner,ab c.day,ab c.am]),(5,ab k)],44,[],[]⟩) ws.length (Fg.less Tn Ut) ⟨0,aS _,rfl,(by first | exact λi y h=>t8 h (bk _) | trivial | rfl | assumption),rfl⟩ (by rintro m st ⟨k,_,_,_,rfl⟩;rfl) ?_);rintro m st ⟨k,hk,rfl,hall,rfl⟩
  have hN:Proofs.oE ws c=false:=by rw[Proofs.oE,hm];rfl
  cases hb:decide ((k:Int)<(ws.length:Int))
  ·refine zs ?_;refine ar.r0 (by rfl) (gQ hb) ?_;refine dZ ?_;refine zs ?_;refine ar.r0 (by rfl) (gQ hm) ?_;refine zE ?_;exact sf.of (rs:=[.tmp 4]) rfl rfl zl (Wk.refl rfl) (by (try simp only[dh,aW]);first | done | (rw[hN]))
  ·refine zs ?_;refine ar.r0 (by rfl) (gQ (n2 hb hm)) ?_;refine dZ ?_;refine zs ?_;refine ar.r0 (by rfl) (gQ hm) ?_;refine zE ?_;exact sf.of (rs:=[.tmp 4]) rfl rfl zl (Wk.refl rfl) (by (try simp only[dh,aW]);first | done | (rw[hN]))
 refine zs ?_;refine ar.block (ar.loop (λm st=>∃k:Nat,k<=ws.length/\m=ws.length-k/\(((ws.take k).all λw=>decide ((w.kind.length:Int)+(w.cH.length:Int)<=300))=true)/\st=⟨[(0,ak 5 ws bK),(3,.ip [ae c.part,ae c.owner,ab c.day,ab c.am]),(5,ab k)],44,[],[]⟩) ws.length (Fg.less Tn Ut) ⟨0,aS _,rfl,(by first | exact λi y h=>t8 h (bk _) | trivial | rfl | assumption),rfl⟩ (by rintro m st ⟨k,_,_,_,rfl⟩;rfl) ?_);rintro m st ⟨k,hk,rfl,hall,rfl⟩;by_cases hlt:k<ws.length;rotate_left
 ·refine zs ?_;refine ar.r0 (by rfl) (gQ (show decide ((k:Int)<(ws.length:Int))=false by simp only[wp];omega)) ?_;refine dZ ?_;have h1:=oX (n:=ws.length) hall (by omega);rw[bd] at h1;refine zs ?_;refine ar.r0 (by rfl) (gQ (n2 hm hca)) ?_;refine zE ?_;exact sf.of (rs:=[.tmp 4]) rfl rfl zl (Wk.refl rfl) (by (try simp only[dh,aW]);first | done | (rw[Proofs.oE,hm,h1];rfl))
 have hd:=show decide ((k:Int)<(ws.length:Int))=true by simp only[wr];omega
 obtain⟨x,hx⟩:∃x,ws[k]?=some x:=⟨ws[k],ac hlt⟩;have hwx:=hw x (ad hx);have hwa:=q6 (P:=Tryz.prog) (t:=3) (show -9223372036854775808<=(x.kind.length:Int)+(x.cH.length:Int)/\(x.kind.length:Int)+(x.cH.length:Int)<=9223372036854775807 from by unfold mi at hwx;omega);refine zs ?_;refine ar.r0 (by rfl) (gQ (n2 hd hm)) ?_;refine eQ ?_;cases hs:decide ((x.kind.length:Int)+(x.cH.length:Int)<=300)
 ·refine zs ?_;refine ar.NB (ms:=[0,0,3,7,15,31,0,0,192,448,960,1984,4095,8191]) rfl (by kernel_rfl) (by kernel_rfl) ?_
  (repeat (first | refine SD.r (by rfl) rfl (by rfl) (by rfl) (gQ (n5 hlt (aG (e:=5) (enc:=bK) (λ_=>rfl) hx) @iZ hwa (show decide (300<(x.kind.length:Int)+(x.cH.length:Int))=true by simp only[wr];have:=wt hs;omega))) ?_ | refine SD.s (by rfl) rfl (by rfl) (by rfl) ?_ | fail))
  refine zM ?_;refine cL ?_;refine zE ?_;exact sf.of (rs:=[.tmp 4]) rfl rfl zl (Wk.refl rfl) (by (try simp only[dh,aW]);first | done | (rw[Proofs.oE,hm,show(ws.all λw=>decide ((w.kind.length:Int)+(w.cH.length:Int)<=300))=false from eq_false_iff.2 λh=>by have:=all_eq_true.1 h x (ad hx);rw[hs] at this;cases this];rfl))
 ·refine zs ?_;refine ar.NB (ms:=[0,0,3,7,15,31,0,0,192,448,960,1984,4095,8191]) rfl (by kernel_rfl) (by kernel_rfl) ?_
  (repeat (first | refine SD.r (by rfl) rfl (by rfl) (by rfl) (gQ (n5 hlt (aG (e:=5) (enc:=bK) (λ_=>rfl) hx) @iZ hwa (show decide (300<(x.kind.length:Int)+(x.cH.length:Int))=false by simp only[wp];have:=ww hs;omega))) ?_ | refine SD.s (by rfl) rfl (by rfl) (by rfl) ?_ | fail))
  refine zM ?_;refine zN ?_;refine aC (zi hlt hlen) ?_;refine zX hlt zH (k9 hx hall hs)
def IA(a b:Int):Bool:=decide (0<=a)&&(decide (a<=b)&&decide (b<=1000000))
def wa(a b:Int):PC Tryz.prog 218 [.ag [ab a,ab b]] (·=az (Proofs.IA a b)):=by
 refine pB 18 Tryz.func218 ?_;unfold Proofs.IA;refine zV ?_;cases g1:decide (0<=a)
 ·refine aC g1 ?_;exact zo [.tmp 2]
 cases g2:decide (a<=b)
 ·refine aC (n2 g1 g2) ?_;exact zo [.tmp 2]
 refine aC (n2 g1 g2) ?_;exact zo [.tmp 2]
def Le(u:iW):Bool:=Proofs.IA u.u1 u.u2&&(Proofs.IA u.u3 u.u4&&Proofs.IA u.u5 u.u6)
def JU(u:iW):PC Tryz.prog 172 [.ag (dU u)] (·=az (Proofs.Le u)):=by
 refine pB 16 Tryz.func172 ?_;unfold Proofs.Le;refine aC @dU.eq_1 ?_;refine zC ?_;refine zK (wa u.u1 u.u2) ?_;cases g1:Proofs.IA u.u1 u.u2
 ·refine zR ?_;exact zo [.tmp 2]
 refine zQ ?_;refine zK (wa u.u3 u.u4) ?_;cases g2:Proofs.IA u.u3 u.u4
 ·refine zR ?_;exact zo [.tmp 2]
 refine zQ ?_;refine zK (wa u.u5 u.u6) ?_;refine zR ?_;exact zo [.tmp 2]
def sP(x y:bJ):cS Tryz.prog .eql 58 (.agg [.int .i64 x.op,.int .i64 x.day,.str x.part,.str x.kind,.str x.bN,.str x.slot,.str x.key,.str x.value,.int .i64 x.u1,.int .i64 x.u2,.int .i64 x.u3,.int .i64 x.u4,.int .i64 x.u5,.int .i64 x.u6]) (.agg [.int .i64 y.op,.int .i64 y.day,.str y.part,.str y.kind,.str y.bN,.str y.slot,.str y.key,.str y.value,.int .i64 y.u1,.int .i64 y.u2,.int .i64 y.u3,.int .i64 y.u4,.int .i64 y.u5,.int .i64 y.u6])=some (.bool (decide (x=y))):=CH x y
def iR(e:bJ):bJ:=
 if e.op=1 then ⟨e.op,e.day,e.part,e.kind,[],[],[],[],0,0,0,0,0,0⟩
 else if e.op=2 then ⟨e.op,e.day,e.part,[],e.bN,e.slot,[],[],0,0,0,0,0,0⟩
 else if e.op=4 then ⟨e.op,e.day,e.part,[],[],[],[],[],e.u1,e.u2,e.u3,e.u4,e.u5,e.u6⟩
 else if e.op=6 then ⟨e.op,e.day,e.part,[],[],[],e.key,e.value,0,0,0,0,0,0⟩
 else ⟨e.op,e.day,e.part,[],[],[],[],[],0,0,0,0,0,0⟩
def jP(e:bJ):Bool:=
 if e.op=1 then cD e.kind
 else if e.op=2 then cD e.bN&&(cD e.slot&&!(decide (e.bN=e.part)))
 else if e.op=4 then Proofs.Le (nT e)
 else if e.op=6 then cD e.key&&(decide (1<=(e.value.length:Int))&&decide ((e.value.length:Int)<=200))
 else true
def kc(e:bJ):Bool:=!(decide (e.op<1))&&(!(decide (7<e.op))&&(!(decide (e.day<0))&&(!(decide (40000<e.day))&&(cD e.part&&(jP e&&decide (iR e=e))))))
set_option maxHeartbeats 2000000 in
def EN(e:bJ)(he:p8 e):PC Tryz.prog 117 [.ag (aF e)] (·=az (Proofs.kc e)):=by
 refine pB 106 Tryz.func117 ?_;rw[dx];refine zV ?_;cases h1:decide (e.op<1);rotate_left
 ·refine aC h1 ?_;refine cL ?_;exact zo [.tmp 2] (hq:=by rw[Proofs.kc,h1];rfl)
 cases h2:decide (7<e.op);rotate_left
 ·refine aC (n2 h1 h2) ?_;refine cL ?_;exact zo [.tmp 2] (hq:=by rw[Proofs.kc,h1,h2];rfl)
 cases h3:decide (e.day<0);rotate_left
 ·refine aC (n3 h1 h2 h3) ?_;refine cL ?_;exact zo [.tmp 2] (hq:=by rw[Proofs.kc,h1,h2,h3];rfl)
 cases h4:decide (40000<e.day);rotate_left
 ·refine aC (n4 h1 h2 h3 h4) ?_;refine cL ?_;exact zo [.tmp 2] (hq:=by rw[Proofs.kc,h1,h2,h3,h4];rfl)
 refine gG (n4 h1 h2 h3 h4) ?_;refine zK (gm e.part he.part.1) ?_;cases h5:cD e.part
 ·refine zR ?_;refine cL ?_;exact zo [.tmp 2] (hq:=by rw[Proofs.kc,h1,h2,h3,h4,h5];rfl)
 refine zR ?_;refine zN ?_
 have hv:Proofs.kc e=(jP e&&decide (iR e=e)):=by rw[Proofs.kc,h1,h2,h3,h4,h5];rfl
 clear h1 h2 h3 h4 h5;refine lC ?_;refine zV ?_
 (repeat refine ar.seq ?_)
 refine ar.mono (Q:=λex st=>ex=.normal/\Fg st ⟨[(1,.ptr 0 0),(3,.ptr 1 0),(4,az (jP e))],106,[.cells (aF e),.cells (aF (iR e))],[]⟩) ?_ ?_;rotate_left
 ·rintro ex st ⟨rfl,hf⟩;change ar _ _ _ _ _;refine ar.fg hf ?_;rw[hv];cases hg:jP e
  ·refine zV ?_;exact zo [.tmp 2]
  ·refine aC (n2 @aF.eq_1 (sP (iR e) e)) ?_;exact zo [.tmp 2]
 have hrest:∀a1 a2 a3 a4 a5 a6 a7 a8 a9 a10 a11 a12 a13 a14,iR e=(⟨a1,a2,a3,a4,a5,a6,a7,a8,a9,a10,a11,a12,a13,a14⟩:bJ)->aF (iR e)=[ab a1,ab a2,ae a3,ae a4,ae a5,ae a6,ae a7,ae a8,ab a9,ab a10,ab a11,ab a12,ab a13,ab a14]:=by
  intros;simp only[*,aF]
 refine ar.block ?_;refine zV ?_;cases k1:decide (e.op=1);rotate_left
 ·have k1':=ww k1;have hr:=hrest _ _ _ _ _ _ _ _ _ _ _ _ _ _ (show iR e=_ by unfold iR;rw[ul k1'])
  have hgd:jP e=cD e.kind:=by unfold jP;rw[ul k1']
  refine cL ?_;refine zC ?_;refine zK (gm e.kind he.kind.1) ?_;refine zR ?_;refine⟨rfl,?_⟩;rw[hr,hgd,dx];exact zH
 have n1:=wt k1;refine iK ?_;cases k2:decide (e.op=2);rotate_left
 ·have k2':=ww k2;have hr:=hrest _ _ _ _ _ _ _ _ _ _ _ _ _ _ (show iR e=_ by unfold iR;rw[un n1,ul k2'])
  have hgd:jP e=(cD e.bN&&(cD e.slot&&!(decide (e.bN=e.part)))):=by unfold jP;rw[un n1,ul k2']
  rw[hgd,hr,dx];refine cL ?_;refine kD ?_;refine zK (gm e.bN he.bN.1) ?_;cases j1:cD e.bN
  ·refine zR ?_;refine⟨rfl,?_⟩;exact zH
  refine zQ ?_;refine zK (gm e.slot he.slot.1) ?_;cases j2:cD e.slot
  ·refine zR ?_;refine⟨rfl,?_⟩;exact zH
  refine zR ?_;refine⟨rfl,?_⟩;exact zH
 have n2:=wt k2;refine iK ?_;cases k4:decide (e.op=4);rotate_left
 ·have k4':=ww k4;have hr:=hrest _ _ _ _ _ _ _ _ _ _ _ _ _ _ (show iR e=_ by unfold iR;rw[un n1,un n2,ul k4'])
  have hgd:jP e=Proofs.Le (nT e):=by unfold jP;rw[un n1,un n2,ul k4']
  rw[hgd,hr,dx];refine cL ?_;refine zC ?_;refine zK (JU (nT e)) ?_;refine zR ?_;refine⟨rfl,?_⟩;exact zH
 have n4:=wt k4;refine iK ?_;cases k6:decide (e.op=6);rotate_left
 ·have k6':=ww k6;have hr:=hrest _ _ _ _ _ _ _ _ _ _ _ _ _ _ (show iR e=_ by unfold iR;rw[un n1,un n2,un n4,ul k6'])
  have hgd:jP e=(cD e.key&&(decide (1<=(e.value.length:Int))&&decide ((e.value.length:Int)<=200))):=by unfold jP;rw[un n1,un n2,un n4,ul k6']
  rw[hgd,hr,dx];refine cL ?_;refine kD ?_;refine zK (gm e.key he.key.1) ?_;cases j1:cD e.key
  ·refine zR ?_;refine⟨rfl,?_⟩;exact zH
  cases j2:decide (1<=(e.value.length:Int))
  ·refine cM j2 ?_;refine⟨rfl,?_⟩;exact zH
  refine cM j2 ?_;refine⟨rfl,?_⟩;exact zH
 have n6:=wt k6;have hr:=hrest _ _ _ _ _ _ _ _ _ _ _ _ _ _ (show iR e=_ by unfold iR;rw[un n1,un n2,un n4,un n6])
 have hgd:jP e=true:=by unfold jP;rw[un n1,un n2,un n4,un n6]
 rw[hgd,hr,dx];refine zN ?_
 (try (refine ar.skip ?_))
 refine⟨rfl,?_⟩;exact zH
def Gk(l:List bJ)(i:Nat):Bool:=match l[i]? with
 | some y=>Proofs.kc y&&(l.take i).all λx=>!(decide (x=y))
 | none=>true
def mg(r:bu):Bool:=!(decide ((r.opts.length:Int)<1))&&(!(decide (4<(r.opts.length:Int)))&&(bs r.opts.length).all (Gk r.opts))
set_option maxHeartbeats 1000000 in
def EO(r:bu)(hr:ea r):PC Tryz.prog 65 [.ag (aD r)] (·=az (Proofs.mg r)):=by
 refine pB 45 Tryz.func65 ?_;refine aC @aD.eq_1 ?_;refine ar.fg (Fg.freeze (f':=[(1,.ip [ak 14 r.opts aF,az r.qi])]) 0 rfl (λh=>by cases h) (rK @ak.eq_1)) ?_;refine ar.fg (st':=⟨[(1,.ip [ak 14 r.opts aF,az r.qi])],45,[],[]⟩) zH ?_
 (try change ar _ _ _ _ _)
 cases g1:decide ((r.opts.length:Int)<1);rotate_left
 ·refine aC g1 ?_;refine cL ?_;exact zo [.tmp 2] (hq:=by rw[Proofs.mg,g1];rfl)
 cases g2:decide (4<(r.opts.length:Int));rotate_left
 ·refine aC (n2 g1 g2) ?_;refine cL ?_;exact zo [.tmp 2] (hq:=by rw[Proofs.mg,g1,g2];rfl)
 have hN:Proofs.mg r=(bs r.opts.length).all (Gk r.opts):=by rw[Proofs.mg,g1,g2];rfl
 have hlen:=hr.len;refine aC (n2 g1 g2) ?_;refine iK ?_;refine zs ?_;refine zL r.opts (λk=>(bs k).all (Gk r.opts)=true) (λk=>[(1,.ip [ak 14 r.opts aF,az r.qi]),(3,ab k)]) (λk=>[]) zH zp ?_;intro k hk hall;by_cases hlt:k<r.opts.length;rotate_left
 ·obtain rfl:k=r.opts.length:=by omega
  refine aC (show decide ((r.opts.length:Int)<(r.opts.length:Int))=false by simp) ?_;refine dZ ?_;refine zV ?_;exact zo [.tmp 2] (hq:=by rw[hN,hall])
 have hd:=show decide ((k:Int)<(r.opts.length:Int))=true by simp only[wr];omega
 obtain⟨y,hx⟩:∃x,r.opts[k]?=some x:=⟨r.opts[k],ac hlt⟩
 have hoy:Gk r.opts k=(Proofs.kc y&&(r.opts.take k).all λx=>!(decide (x=y))):=by unfold Gk;rw[hx]
 have hbad:Gk r.opts k=false->Proofs.mg r=false:=λh=>by
  rw[hN];refine eq_false_iff.2 λh2=>?_;have:=all_eq_true.1 h2 k (List.mem_range.2 hlt);rw[h] at this;cases this
 refine aC hd ?_;refine eQ ?_
 (repeat refine ar.seq ?_)
 refine gG (n2 hlt (aG (e:=14) (enc:=aF) (λ_=>rfl) hx)) ?_;refine zK (EN y (hr.ev y (ad hx))) ?_;cases hs:Proofs.kc y
 ·refine zR ?_;refine cL ?_;exact zo [.tmp 2] (hq:=by rw[hbad (by rw[hoy,hs];rfl)])
 rw[hs,bh] at hoy;refine zR ?_;refine iK ?_
 have htl:(r.opts.take k).length=k:=by rw[List.length_take];omega
 refine zs ?_;refine zL (r.opts.take k) (λk2=>(((r.opts.take k).take k2).all λx=>!(decide (x=y)))=true) (λk2=>[(1,.ip [ak 14 r.opts aF,az r.qi]),(3,ab k),(4,ab k2)]) (λk2=>[]) zH zp ?_;intro k2 hk2 hall2;by_cases hlt2:k2<(r.opts.take k).length;rotate_left
 ·have hk2:k2=k:=by omega
  refine aC (show decide ((k2:Int)<(k:Int))=false by simp only[wp];omega) ?_;refine dZ ?_;have h1:=oX (n:=(r.opts.take k).length) hall2 (by omega);rw[bd] at h1
  have hnx:(bs (k+1)).all (Gk r.opts)=true:=by
   rw[List.range_succ,bo,hall,bh];show(Gk r.opts k&&true)=true;rw[hoy,h1];rfl
  refine aC (zi hlt hlen) ?_;refine zX hlt zH hnx
 obtain⟨x,hx2⟩:∃x,(r.opts.take k)[k2]?=some x:=⟨(r.opts.take k)[k2],ac hlt2⟩
 have hx3:r.opts[k2]?=some x:=by
  rw[al] at hx2;split at hx2
  ·exact hx2
  ·cases hx2
 have hlt3:k2<r.opts.length:=by omega
 have hlen2:(r.opts.take k).length<=1000000:=by omega
 refine aC (show decide ((k2:Int)<(k:Int))=true by simp only[wr];omega) ?_;refine eQ ?_;cases he:decide (x=y)
 ·refine zs ?_;refine oz [0,1,0,7,15,0,32,0,224,480,1023] ?_;refine ni (n7 hlt hlt3 (aG (e:=14) (enc:=aF) (λ_=>rfl) hx) (aG (e:=14) (enc:=aF) (λ_=>rfl) hx3) @aF.eq_1 (sP x y) he) ?_;refine zM ?_;refine zN ?_;refine aC (zi hlt2 hlen2) ?_;refine zX hlt2 zH (k9 hx2 hall2 (by rw[he];rfl))
 ·refine zs ?_;refine oz [0,1,0,7,15,0,32,0,224,480,1023] ?_;refine ni (n7 hlt hlt3 (aG (e:=14) (enc:=aF) (λ_=>rfl) hx) (aG (e:=14) (enc:=aF) (λ_=>rfl) hx3) @aF.eq_1 (sP x y) he) ?_;refine zM ?_;refine cL ?_;exact zo [.tmp 2] (hq:=by rw[hbad (by rw[hoy];refine eq_false_iff.2 λh=>?_;have:=all_eq_true.1 h x (ad hx2);rw[he] at this;cases this)])
def ei(r:bu):Int:=if Proofs.mg r=false then 0 else if r.qi=true then (r.opts.length:Int)+1 else r.opts.length
def Dc(r:bu):ei r<=5/\0<=ei r:=by
 unfold ei;split
 ·omega
 ·rename_i h;have h4:¬4<(r.opts.length:Int):=λhg=>h (by rw[Proofs.mg,wd hg];cases decide ((r.opts.length:Int)<1)<;>rfl);split<;>omega
def Aw(r:bu)(hr:ea r):PC Tryz.prog 33 [.ag (aD r)] (·=ab (Proofs.ei r)):=by
 refine pB 15 Tryz.func33 ?_;have hlen:=hr.len;refine aC @aD.eq_1 ?_;refine zC ?_;refine zK (EO r hr) ?_;cases h:Proofs.mg r
 ·refine zR ?_;refine cL ?_;exact zo [.tmp 2] (hq:=by rw[Proofs.ei,ul h])
 have hN:Proofs.ei r=if r.qi=true then (r.opts.length:Int)+1 else r.opts.length:=by rw[Proofs.ei,un (by rw[h];decide)]
 refine zR ?_;refine zN ?_;cases hd:r.qi
 ·rw[hd] at hN;refine H2 ?_;refine zV ?_;exact zo [.tmp 2] (hq:=by rw[hN];rfl)
 ·rw[hd] at hN;refine xd ?_;refine zs ?_;refine ar.r0 (by rfl) (gQ (bA (r.opts.length:Int) 1 (by omega))) ?_;refine zE ?_;exact sf.of (rs:=[.tmp 2]) rfl rfl zl (Wk.refl rfl) (by (try simp only[dh,aW]);first | done | (rw[hN];rfl))
def sV(most:Int):List bu->Int->Int
 | [],n=>n
 | r::l,n=>if n<=most then sV most l (n*dX 1 (ei r)) else n
def HM(l:List bu)(most:Int)(hm:most<=1000)(hl:∀r∈l,ea r)(hlen:l.length<=1000000):PC Tryz.prog 15 [ak 2 l aD,ab most] (·=ab (Proofs.sV most l 1)):=by
 refine pB 27 Tryz.func15 ?_;refine lC ?_;refine zV ?_;refine zs ?_;refine MX l (λk (n:Int)=>(Proofs.sV most l 1=Proofs.sV most (l.drop k) n/\0<=n/\n<=1000000)) (λk n=>[(0,ak 2 l aD),(1,ab most),(5,ab n),(6,ab k)]) (λk n=>[]) (1) zH (by exact⟨rfl,by decide,by decide⟩) ?_;intro k n hk hall;obtain⟨hw,hn0,hn1⟩:=hall;by_cases hlt:k<l.length;rotate_left
 ·refine aC (show decide ((k:Int)<(l.length:Int))=false by simp only[wp];omega) ?_;refine dZ ?_;rw[List.drop_of_length_le (by omega),Proofs.sV] at hw;refine zV ?_;exact zo [.tmp 4] (hq:=by rw[hw])
 have hd:=show decide ((k:Int)<(l.length:Int))=true by simp only[wr];omega
 obtain⟨x,hx⟩:∃x,l[k]?=some x:=⟨l[k],ac hlt⟩;rw[ft hx,Proofs.sV] at hw;cases g:decide (n<=most)
 ·rw[un (wt g)] at hw;refine aC (n2 hd g) ?_;refine dZ ?_;refine zV ?_;exact zo [.tmp 4] (hq:=by rw[hw])
 rw[ul (ww g)] at hw;have hg:=ww g;have hc:=Dc x
 have hmx:0<=dX 1 (Proofs.ei x)/\dX 1 (Proofs.ei x)<=5:=by unfold dX;split<;>omega
 have hch:=Aw x (hl x (ad hx))
 have hnm:0<=n*dX 1 (Proofs.ei x)/\n*dX 1 (Proofs.ei x)<=1000000:=by
  refine⟨Int.mul_nonneg hn0 hmx.1,?_⟩;have h1:=Int.mul_le_mul_of_nonneg_left hmx.2 hn0;omega
 refine aC (n2 hd g) ?_;refine eQ ?_;refine gG (n3 hlt (aG (e:=2) (enc:=aD) (λ_=>rfl) hx) @aD.eq_1) ?_;refine zK hch ?_;refine aI.r0 (by rfl) (gQ (n2 @fw (bM n (dX 1 (Proofs.ei x)) (by omega)))) ?_;refine aC (zi hlt hlen) ?_;refine H3 hlt ((n*dX 1 (Proofs.ei x))) zH (⟨hw,hnm.1,hnm.2⟩)
end Go.Proofs
