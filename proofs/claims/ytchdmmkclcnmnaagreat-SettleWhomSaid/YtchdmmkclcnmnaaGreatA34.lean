/- Lemmas of this claim, each with its conditions. -/
import Derived.Test.YtchdmmkclcnmnaaGreatA33
import Derived.Test.YtchdmmkclcnmnaaGreatA32
import Derived.Test.YtchdmmkclcnmnaaGreatA19
import Derived.Test.YtchdmmkclcnmnaaGreatA14
set_option linter.all false
open List (length_eq_zero_iff length_nil map_nil take_zero)
open List renaming mem_of_getElem? -> aa, length_cons -> ac, take_length -> ad, getElem?_eq_getElem -> aj, mem_cons_self -> ap, take_of_length_le -> ax, length_take -> ay, mem_cons_of_mem -> aR, length_append -> aS, foldl_append -> a0, sum_nil -> a4, map_append -> a5, map_cons -> a8, sum_cons -> a9
open Nat renaming le_refl -> af, zero_le -> al, le_trans -> ba
open Bool renaming and_true -> a6
open Int renaming sub_zero -> a7
namespace Go.Proofs
open Go.Ev
set_option maxRecDepth 100000
def D0{c:List aP}{dmg:bB}:∀(l:List bJ) (i:Nat) (s:List aH),(∀p∈s,gR p)->(∀e∈l,p8 e)->(qO c dmg i l s).1.length<=s.length+l.length
 | [],i,s,_,_=>af _
 | e::l,i,s,hs,hl=>by
  have he:=hl e ap;have hr:=λx hx=>hl x (aR _ hx);obtain⟨h1,h2,_,_⟩:=vm (c:=c) (ps:=s) (e:=e) hs he;rw[qO];split
  ·split
   ·obtain⟨k1,k2⟩:=Lf (dmg:=dmg) (e:=e) h1;have:=D0 (c:=c) (dmg:=dmg) l (i+1) _ k1 hr;rw[k2] at this;rw[ac];omega
   ·have:=D0 (c:=c) (dmg:=dmg) l (i+1) _ h1 hr;rw[ac];omega
  ·exact al _
def O6{c:List aP}{dmg:bB}{l:List bJ}{day:Int}(hl:∀e∈l,p8 e):(runN c dmg l day).1.length<=l.length:=by
 unfold runN;split
 ·have h1:=D0 (c:=c) (dmg:=dmg) (gE (fh (mO day) l)) 0 [] (λp hp=>by cases hp) (λe he=>hl e (K7 he));have h2:=D1 l (mO day);simp only[length_nil] at h1;omega
 ·exact al _
def GR(c:List aP)(dmg:bB)(day:Int):runN c dmg [] day=([],-1,if (lT c&&Proofs.dV dmg)=true then 0 else 1):=by
 unfold runN;split
 ·have:gE (fh (mO day) [])=[]:=length_eq_zero_iff.1 (Nat.le_zero.1 (D1 [] (mO day)));rw[this];rfl
 ·rfl
def Mr(o:Option (List bJ)):∃e,KR o=.bE [ak 14 (o.getD []) aF,ab e]:=by
 cases o with
 | none=>exact⟨1,rfl⟩
 | some es=>exact⟨0,rfl⟩
def LI{own:List bu}{ch:List Int}(h:∀r∈own,ea r):(∀e∈pj own ch,p8 e)/\(pj own ch).length<=own.length:=by
 unfold pj me;split
 ·split
  ·refine⟨λe he=>?_,?_⟩
   ·obtain⟨p,hp,he⟩:=List.mem_flatMap.1 he;unfold gK at he;have hr:=(List.of_mem_zip hp).1;rw[Option.mem_toList] at he;exact(h _ hr).ev e (aa he)
   ·refine ba (sA _) ?_;rw[List.length_zip];exact Nat.min_le_left _ _
  ·exact⟨λe he=>(by cases he),al _⟩
 ·exact⟨λe he=>(by cases he),al _⟩
def Nh:∀(l:List Sh),(∀s∈l,0<s.am/\s.am<=1000000000000)->0<=(l.map Sh.am).sum/\(l.map Sh.am).sum<=l.length*1000000000000
 | [],_=>by simp
 | s::l,h=>by
  have h1:=Nh l λx hx=>h x (aR _ hx);have h2:=h s ap;rw[a8,a9,ac];omega
def Rj(r:List Sh×Int×Int):SV:=.bE [ak 2 r.1 eu,ab r.2.1,ab r.2.2]
def ph(r:bu):(aD r).length=2:=rfl
def sw(r:bu):cr (aD r)=true:=rfl
def ny(b:p7):(dz b).length=1:=rfl
def qj(b:p7):cr (dz b)=true:=rfl
set_option maxHeartbeats 8000000 in
def JS(c:List aP)(dmg:bB)(ws:List Wy)(l:List bu)(co:Co)(hc:jD c)(hf:gD dmg)(hw:∀w∈ws,w.fits)(hco:co.fits)(hlw:ws.length<=1000)(hl:∀r∈l,ea r)(hl2:∀r∈l,r.opts.length<=400000)(hlen:l.length<20):
 PC Tryz.prog 21 [.ag (ak 3 c ao::aE dmg),ak 5 ws bK,ak 2 l aD,.ag (cF co)] (·=Rj (fP c dmg ws l co)):=by
 have hfl:(aE dmg).length=3:=eD dmg;have hft:(aE dmg).take 3=aE dmg:=ax (by rw[hfl];exact af _);have hfk:=λo:Nat=>bI (o:=o) (aM dmg);have hfn:=λo:Nat=>dm (o:=o) (aM dmg)
 have hlen6:l.length<=1000000:=by omega
 refine pB 138 Tryz.func21 ?_;rw[da];refine aC (n2 hfk hfn) ?_;refine ar.fg (Fg.freeze (f':=[(1,ak 5 ws bK),(2,ak 2 l aD),(4,.ip (ak 3 c ao::aE dmg)),(7,.ptr 1 0)]) 0 rfl (λh=>by cases h) ⟨.inl rfl,.inl rfl,.inr (.ptr rfl (bp.refl (aM dmg)) (al _)),.inl rfl,trivial⟩) ?_;refine ar.fg (Fg.freeze (f':=[(1,ak 5 ws bK),(2,ak 2 l aD),(4,.ip (ak 3 c ao::aE dmg)),(7,.ip [ae co.part,ae co.owner,ab co.day,ab co.am])]) 1 rfl (λh=>by cases h) (rK @ak.eq_1)) ?_;refine ar.fg (st':=⟨[(1,ak 5 ws bK),(2,ak 2 l aD),(4,.ip (ak 3 c ao::aE dmg)),(7,.ip [ae co.part,ae co.owner,ab co.day,ab co.am])],138,[],[]⟩) zH ?_
 (try change ar _ _ _ _ _)
 have hrun0:=sR c dmg [] 0 hc hf (by decide) (λe h=>by cases h);rw[GR] at hrun0
 have hN:fP c dmg ws l co=if jH c dmg ws l co=true then ([],0,1) else fP c dmg ws l co:=by
  split
  ·rename_i h;rw[fP,ul h]
  ·rfl
 refine gG (n2 hfl hft) ?_;refine zK hrun0 ?_ (hwk:=(.cons (.ag (bp.refl (aM dmg))) (.cons (.nil 14) (.cons (.a _) .nil)))) (hfl:=.inr (.cons (.ag (bp.refl (aM dmg))) (.cons (.nil 14) (.cons (.a _) .nil))));unfold O7;cases hv:lT c&&Proofs.dV dmg
 ·have hb:jH c dmg ws l co=true:=by rw[jH,hv];rfl
  refine zR ?_;refine xd ?_;refine zV ?_;refine zE ?_;exact zO [.tmp 8,.tmp 9,.tmp 10] (r:=.bE [.sl 0 2 [],ab 0,ab 1]) (hw:=by exact .bE (.cons (.nil _) (.cons (.a _) (.cons (.a _) .nil)))) (hq:=by (try simp only[dh,aW]);first | done | (rw[fP,ul hb];rfl))
 refine zR ?_;refine zC ?_;refine zK (wZ ws co hw hco hlw) ?_;cases hr:ee ws co
 ·have hb:jH c dmg ws l co=true:=by rw[jH,hv,hr];rfl
  refine zR ?_;refine cL ?_;refine zE ?_;exact zO [.tmp 8,.tmp 9,.tmp 10] (r:=.bE [.sl 0 2 [],ab 0,ab 1]) (hw:=by exact .bE (.cons (.nil _) (.cons (.a _) (.cons (.a _) .nil)))) (hq:=by (try simp only[dh,aW]);first | done | (rw[fP,ul hb];rfl))
 refine zQ ?_;refine zK (wO (l:=l) (λr=>!(Proofs.fR r)) (first:=[]) (cap:=[]) hlen6 (λx hx=>JR x (hl x hx)) ⟨rfl,rfl⟩) ?_;cases hva:l.any λr=>!(Proofs.fR r);rotate_left
 ·have hb:jH c dmg ws l co=true:=by rw[jH,hv,hr,hva];rfl
  refine zR ?_;refine cL ?_;refine zE ?_;exact zO [.tmp 8,.tmp 9,.tmp 10] (r:=.bE [.sl 0 2 [],ab 0,ab 1]) (hw:=by exact .bE (.cons (.nil _) (.cons (.a _) (.cons (.a _) .nil)))) (hq:=by (try simp only[dh,aW]);first | done | (rw[fP,ul hb];rfl))
 have hb:jH c dmg ws l co=false:=by rw[jH,hv,hr,hva];rfl
 clear hN;refine zR ?_;refine iK ?_;refine zC ?_;refine zK (MP l co.part hl hl2 hlen6) ?_ (hfl:=.inr (bp.refl rfl));have hlo:=Ca l co.part;have hown:Be l co.part=(pA l co.part).filterMap (l[·]?):=rfl;generalize pA l co.part=is at hlo hown;refine zR ?_
 have hlen7:is.length<=1000000:=by omega
 refine zs ?_;refine zL is (λk=>True) (λk=>[(1,ak 5 ws bK),(2,ak 2 l aD),(4,.ip (ak 3 c ao::aE dmg)),(7,.ip [ae co.part,ae co.owner,ab co.day,ab co.am]),(14,bn 1 2 ((is.take k).filterMap (l[·]?)).length),(53,ak 1 is (aA cx)),(54,ab is.length),(55,ab k)]) (λk=>qF 1 ((is.take k).filterMap (l[·]?)) aD) (bL (n5 @take_zero.{0} @List.filterMap_nil.{0,0} @length_nil.{0} @eH @mc)) zp ?_;intro k hk hall;refine zT is k ?_ ?_;rintro rfl;rotate_left;intro i hx hlt;rotate_left;rotate_left
 ·have hil:i<l.length:=hlo.2 i (aa hx);obtain⟨r,hri⟩:∃r,l[i]?=some r:=⟨l[i],aj hil⟩;have hfm:=OF hx hri;have hol:((is.take k).filterMap (l[·]?)).length<=k:=ba (List.length_filterMap_le _ _) (by rw[ay];omega);generalize hO:(is.take k).filterMap (l[·]?)=out at hol hfm;have hcl:=aJ ph out;have hkc:=λo=>aZ sw o out;refine eQ ?_;refine aC (n3 hlt (aG (e:=1) (enc:=aA cx) (λ_=>rfl) hx) @aA.eq_1) ?_;by_cases hk0:out=[]
  ·rw[show qF 1 out aD=[] by rw[hk0];rfl,show bn 1 2 out.length=cN by rw[hk0];rfl]
   have f1:bn 1 2 ((is.take (k+1)).filterMap (l[·]?)).length=.buf 1 1 2 none:=by rw[hfm,hk0];rfl
   have f2:qF 1 ((is.take (k+1)).filterMap (l[·]?)) aD=[.gone,.cells (aD r)]:=by rw[hfm,hk0];rfl
   refine aC (n3 hil (aG (e:=2) (enc:=aD) (λ_=>rfl) hri) @aD.eq_1) ?_;refine aC (zi hlt hlen7) ?_;refine zX hlt (bL (n3 f1 f2 @aD.eq_1)) trivial
  ·have hk1:¬out.length=0:=λh=>hk0 (length_eq_zero_iff.1 h)
   have f1:bn 1 2 ((is.take (k+1)).filterMap (l[·]?)).length=.buf 1 (out.length+1) 2 none:=by rw[hfm,aS];rfl
   have f2:qF 1 ((is.take (k+1)).filterMap (l[·]?)) aD=[.gone,.cells ((out++[r]).flatMap aD)]:=by rw[hfm,mQ];rfl
   have happ:=eh ph sw 1 out r;rw[show aD r=[.sl r.opts.length 14 (r.opts.flatMap aF),az r.qi] from rfl] at happ;rw[ji hk0,bV hk1];refine aC (n9 hil (aG (e:=2) (enc:=aD) (λ_=>rfl) hri) @aD.eq_1 hcl hkc qK (show out.length<=1000000 by omega) @af happ) ?_;refine aC (zi hlt hlen7) ?_;refine zX hlt (bL (n2 f1 f2)) trivial
 refine dZ ?_;rw[ad,<-hown];have hoo:=λr (hr:r∈Be l co.part)=>hl r (QD hr);have hol:=Nat.lt_of_le_of_lt (QC l co.part) hlen
 have hS:fP c dmg ws l co=K9 c dmg ws (Be l co.part) co:=by rw[fP,un (by rw[hb];decide)]
 generalize Be l co.part=own at hoo hol hS ⊢;clear hall hown hlo hlen7;unfold K9 at hS;by_cases hk0:own=[]
 ·rw[ul hk0] at hS;rw[show qF 1 own aD=[] by rw[hk0];rfl,show bn 1 2 own.length=cN by rw[hk0];rfl];refine xd ?_;refine zV ?_;refine zE ?_;exact zO [.tmp 8,.tmp 9,.tmp 10] (r:=.bE [.sl 0 2 [],ab 0,ab 2]) (hw:=by exact .bE (.cons (.nil _) (.cons (.a _) (.cons (.a _) .nil)))) (hq:=by (try simp only[dh,aW]);first | done | (rw[hS];rfl))
 have hk1:¬own.length=0:=λh=>hk0 (length_eq_zero_iff.1 h);rw[un hk0] at hS;rw[ji hk0,bV hk1];refine aC (show decide ((own.length:Int)=0)=false by simp only[wp];omega) ?_;refine zN ?_;refine ar.fg (Fg.freeze (f':=[(1,ak 5 ws bK),(4,.ip (ak 3 c ao::aE dmg)),(7,.ip [ae co.part,ae co.owner,ab co.day,ab co.am]),(14,ak 2 own aD)]) 1 rfl (λh=>by cases h) ⟨.inl rfl,.inl rfl,.inl rfl,.inr (.buf rfl (by rw[cV ph];exact bp.refl (aB sw _)) (by rw[aJ ph];exact af _)),trivial⟩) ?_;refine ar.fg (st':=⟨[(1,ak 5 ws bK),(4,.ip (ak 3 c ao::aE dmg)),(7,.ip [ae co.part,ae co.owner,ab co.day,ab co.am]),(14,ak 2 own aD)],138,[],[]⟩) zH ?_
 (try change ar _ _ _ _ _)
 have hal:=Jd c own 4096 hc hoo hol hk0;have hai:=λch (h:ch∈(k8 c own 4096).1)=>RC (Rs h);have ham:=Nf (c:=c) (l:=own) (most:=4096) (by decide);have hak:=Ng (c:=c) (l:=own) (most:=4096);generalize k8 c own 4096=q at hal hai ham hak hS;refine zC ?_;refine zK hal ?_ (hfl:=.inr (bp.refl rfl));refine zR ?_;cases h0:decide (q.2=0)
 ·rw[un (wt h0)] at hS;refine aC h0 ?_;refine zN ?_;refine aC h0 ?_;refine cL ?_;refine zE ?_;exact zO [.tmp 8,.tmp 9,.tmp 10] (r:=.bE [.sl 0 2 [],ab 0,ab q.2]) (hw:=by exact .bE (.cons (.nil _) (.cons (.a _) (.cons (.a _) .nil)))) (hq:=by (try simp only[dh,aW]);first | done | (rw[hS];rfl))
 rw[ul (ww h0)] at hS;have hne:=hak (ww h0);have hq2:=ww h0;by_cases h1:q.1.length=4096
 ·rw[ul h1] at hS;refine aC (n2 h0 (show decide ((q.1.length:Int)=4096)=true by simp only[wr];omega)) ?_;refine cL ?_;refine xd ?_;refine zV ?_;refine zE ?_;exact zO [.tmp 8,.tmp 9,.tmp 10] (r:=.bE [.sl 0 2 [],ab 0,ab 7]) (hw:=by exact .bE (.cons (.nil _) (.cons (.a _) (.cons (.a _) .nil)))) (hq:=by (try simp only[dh,aW]);first | done | (rw[hS];rfl))
 rw[un h1] at hS;refine aC (n2 h0 (show decide ((q.1.length:Int)=4096)=false by simp only[wp];omega)) ?_;refine zN ?_;refine aC h0 ?_;refine iK ?_;refine zV ?_
 have hlen8:q.1.length<=1000000:=by omega
 have hbk:=λall=>E8 (c:=c) (dmg:=dmg) (own:=own) (all:=all) hr;have hbl:∀all:List (List Int),(ff c dmg ws own co all).length=all.length:=λall=>List.length_map _;refine zs ?_;refine zL q.1 (λk=>True) (λk=>[(1,ak 5 ws bK),(4,.ip (ak 3 c ao::aE dmg)),(7,.ip [ae co.part,ae co.owner,ab co.day,ab co.am]),(14,ak 2 own aD),(18,bn 2 1 (ff c dmg ws own co (q.1.take k)).length),(87,ak 1 q.1 fX),(88,ab q.1.length),(89,ab k)]) (λk=>qF 2 (ff c dmg ws own co (q.1.take k)) dz) (bL (n6 @take_zero.{0} @ff.eq_1 @map_nil.{0,0} @length_nil.{0} @eH @mc)) zp ?_;intro k hk hall;refine zT q.1 k ?_ ?_;rintro rfl;rotate_left;intro ch hx hlt;rotate_left;rotate_left
 ·have hch:=hai ch (aa hx);have hev:=LI (ch:=ch) hoo
  have hbs:ff c dmg ws own co (q.1.take (k+1))=ff c dmg ws own co (q.1.take k)++[lQ ws (runN c dmg (pj own ch) co.day).1 co]:=by
   unfold ff;rw[br hx,a5];rfl
  have hol2:(ff c dmg ws own co (q.1.take k)).length<=100000:=by rw[hbl,ay];omega
  obtain⟨e1,he1⟩:=Mr (me own ch);have hpk:=Ht own ch hoo (by omega) (by omega);rw[he1] at hpk;rw[show(me own ch).getD []=pj own ch from rfl] at hpk;generalize pj own ch=xm at hpk hev hbs;have hru:=sR c dmg xm co.day hc hf (by omega) hev.1;have hpl:=O6 (c:=c) (dmg:=dmg) (day:=co.day) hev.1;unfold O7 at hru;generalize runN c dmg xm co.day=rr at hru hpl hbs;have hdv:=uw ws rr.1 co hlw (by omega) hr;generalize lQ ws rr.1 co=bb at hdv hbs;generalize (mI rr.1 co.part).isSome=fo at hdv;generalize ff c dmg ws own co (q.1.take k)=out at hbs hol2 ⊢;have hcl:=aJ ny out;have hkc:=λo=>aZ qj o out;refine eQ ?_;refine aC (n3 hlt (aG (e:=1) (enc:=fX) (λ_=>rfl) hx) @fX.eq_1) ?_;by_cases hk0:out=[]
  ·rw[show qF 2 out dz=[] by rw[hk0];rfl,show bn 2 1 out.length=cN by rw[hk0];rfl]
   have f1:bn 2 1 (ff c dmg ws own co (q.1.take (k+1))).length=.buf 2 1 1 none:=by rw[hbs,hk0];rfl
   have f2:qF 2 (ff c dmg ws own co (q.1.take (k+1))) dz=[.gone,.gone,.cells (dz bb)]:=by rw[hbs,hk0];rfl
   refine zC ?_;refine zK hpk ?_ (hfl:=.inr (bp.refl rfl));refine zR ?_;refine gG (n2 hfl hft) ?_;refine zK hru ?_ (hwk:=(.cons (.ag (bp.refl (aM dmg))) (bp.refl rfl))) (hfl:=.inr (.cons (.ag (bp.refl (aM dmg))) (bp.refl rfl)));refine zR ?_;refine zC ?_;refine zK hdv ?_ (hfl:=.inr (bp.refl rfl));refine zR ?_;refine zV ?_;refine aC (zi hlt hlen8) ?_;refine zX hlt (bL (n3 f1 f2 @dz.eq_1)) trivial
  ·have hk1:¬out.length=0:=λh=>hk0 (length_eq_zero_iff.1 h)
   have f1:bn 2 1 (ff c dmg ws own co (q.1.take (k+1))).length=.buf 2 (out.length+1) 1 none:=by rw[hbs,aS];rfl
   have f2:qF 2 (ff c dmg ws own co (q.1.take (k+1))) dz=[.gone,.gone,.cells ((out++[bb]).flatMap dz)]:=by rw[hbs,mQ];rfl
   have happ:=eh ny qj 2 out bb;rw[show dz bb=[nZ AV.str ab bb] from rfl,Nat.mul_one] at happ;rw[ji hk0,bV hk1];refine zC ?_;refine zK hpk ?_ (hfl:=.inr (bp.refl rfl));refine cM (n2 hkc qK) ?_;refine gG (n3 hfl hft hkc) ?_;refine zK hru ?_ (hwk:=(.cons (.ag (bp.refl (aM dmg))) (bp.refl rfl))) (hfl:=.inr (.cons (.ag (bp.refl (aM dmg))) (bp.refl rfl)));refine cM (n2 hkc qK) ?_;refine gG hkc ?_;refine zK hdv ?_ (hfl:=.inr (bp.refl rfl));refine cM hkc ?_;refine aC (n6 hkc hcl @Nat.mul_one (show out.length<=1000000 by omega) @af happ) ?_;refine aC (zi hlt hlen8) ?_;refine zX hlt (bL (n2 f1 f2)) trivial
 refine dZ ?_;rw[ad];have hbn:ff c dmg ws own co q.1≠[]:=λe=>hne (by unfold ff at e;exact List.map_eq_nil_iff.1 e);have hbk:=hbk q.1;have hbl:=hbl q.1;generalize ff c dmg ws own co q.1=bills at hbn hbk hbl hS ⊢;rw[ji hbn,bV (λh=>hbn (length_eq_zero_iff.1 h))];refine ar.fg (Fg.freeze (f':=[(7,.ip [ae co.part,ae co.owner,ab co.day,ab co.am]),(18,ak 1 bills dz)]) 2 rfl (λh=>by cases h) ⟨.inl rfl,.inr (.buf rfl (by rw[cV ny];exact bp.refl (aB qj _)) (by rw[aJ ny];exact af _)),trivial⟩) ?_;refine ar.fg (st':=⟨[(7,.ip [ae co.part,ae co.owner,ab co.day,ab co.am]),(18,ak 1 bills dz)],138,[],[]⟩) zH ?_
 (try change ar _ _ _ _ _)
 obtain⟨b0,bs,rfl⟩:∃b0 bs,bills=b0::bs:=by
  cases bills with
  | nil=>exact t8 rfl hbn
  | cons b0 bs=>exact⟨b0,bs,rfl⟩
 have hlk:=B8 hbn hbk;have hls:=AM (qA (b0::bs)) (by have:=hlk.len;omega) hlk.nodup hlk.ne;have hle:=Hm b0 bs (by rw[ac] at hbl;omega) (hbk b0 ap).nodup;have ha1:=QY (qM hr).2
 have hoa:∀s∈kr (qA (b0::bs)),0<s.am/\s.am<=1000000000000:=λs hs=>by have:=hlk.am hs;omega
 have ho2:=hlk.sum.2;generalize qA (b0::bs)=lb at hls hle hoa ho2 hS;generalize kr lb=out at hls hoa ho2 hS;refine zC ?_;refine zK hle ?_ (hfl:=.inr (bp.refl rfl));refine zQ ?_;refine zK hls ?_ (hfl:=.inr (bp.refl rfl));refine zR ?_;refine lC ?_
 have hlen9:out.length<=1000000:=by omega
 refine zs ?_;refine zL out (λk=>True) (λk=>[(28,ak 2 out eu),(29,ab (nK co.am (out.take k))),(125,ak 2 out eu),(126,ab out.length),(127,ab k)]) (λk=>[]) (Fg.less (by (simp only[bP,bg,dr,↓reduceIte,Nat.reduceEqDiff,ak,nK,take_zero,map_nil,a4,a7])<;>(repeat' apply And.intro)<;>first | rfl | trivial) (by (simp only[bP,bg,or_true,true_or,ak,nK,take_zero,map_nil,a4,a7])<;>(repeat' apply And.intro)<;>first | exact .inr rfl | exact .inl rfl | trivial)) zp ?_;intro k hk hall;refine zT out k ?_ ?_;rintro rfl;rotate_left;intro s hx hlt;rotate_left
 ·refine dZ ?_;rw[ad];refine zV ?_;refine zE ?_;exact sf.of (rs:=[.tmp 8,.tmp 9,.tmp 10]) (r:=.bE [ak 2 out eu,ab (nK co.am out),ab 0]) rfl rfl zl zv (by (try simp only[dh,aW]);first | done | (rw[hS];rfl))
 have hos:nK co.am (out.take (k+1))=nK co.am (out.take k)-s.am:=by
  unfold nK;rw[br hx,a5,List.sum_append,a8,map_nil,a9,a4];omega
 have hsb:=hoa s (aa hx)
 have hob:nK co.am (out.take k)<=1000000000000 /\ -2000000000000<=nK co.am (out.take k):=by
  have h1:=Nh (out.take k) (λs hs=>hoa s (List.mem_of_mem_take hs))
  have h2:(out.take k).length<=2:=by rw[ay];omega
  unfold nK;omega
 generalize nK co.am (out.take k)=op at hos hob;refine eQ ?_;refine aC (n3 hlt (aG (e:=2) (enc:=eu) (λ_=>rfl) hx) @eu.eq_1) ?_;refine zs ?_;refine ar.r0 (by rfl) (gQ (bS op s.am (by omega))) ?_;refine aC (zi hlt hlen9) ?_;refine zX hlt (bL hos) trivial
def rC(ws:List Wy)(ps:List aH)(co:Co):List Sh×Int:=if ee ws co=true then (if (mI ps co.part).isSome=true then (kr (lQ ws ps co),0) else ([],2)) else ([],1)
def D4(r:List Sh×Int):SV:=.bE [ak 2 r.1 eu,ab r.2]
def EH(ws:List Wy)(ps:List aH)(co:Co)(hw:∀w∈ws,w.fits)(hco:co.fits)(hlw:ws.length<=1000)(hlp:ps.length<=100000):
 PC Tryz.prog 16 [ak 5 ws bK,.ag [ak 14 ps ah],.ag (cF co)] (·=D4 (rC ws ps co)):=by
 refine pB 25 Tryz.func16 ?_;rw[da];refine zV ?_;refine ar.fg (Fg.freeze (f':=[(0,ak 5 ws bK),(4,.ip [ak 14 ps ah]),(5,.ptr 1 0)]) 0 rfl (λh=>by cases h) (rK @ak.eq_1)) ?_;refine ar.fg (Fg.freeze (f':=[(0,ak 5 ws bK),(4,.ip [ak 14 ps ah]),(5,.ip [ae co.part,ae co.owner,ab co.day,ab co.am])]) 1 rfl (λh=>by cases h) (rK @ak.eq_1)) ?_;refine ar.fg (st':=⟨[(0,ak 5 ws bK),(4,.ip [ak 14 ps ah]),(5,.ip [ae co.part,ae co.owner,ab co.day,ab co.am])],25,[],[]⟩) zH ?_
 (try change ar _ _ _ _ _)
 refine zC ?_;refine zK (wZ ws co hw hco hlw) ?_;cases hr:ee ws co
 ·refine zR ?_;refine cL ?_;exact iA [.tmp 6,.tmp 7] (r:=.bE [.sl 0 2 [],ab 1]) (hw:=.bE (.cons (.nil _) (.cons (.a _) .nil))) (hq:=by rw[rC,hr];rfl)
 have hb:=E7 (ps:=ps) hr;have hdv:=uw ws ps co hlw hlp hr;have hls:=AM (lQ ws ps co) (by have:=hb.len;omega) hb.nodup hb.ne
 have hN:rC ws ps co=if (mI ps co.part).isSome=true then (kr (lQ ws ps co),0) else ([],2):=by rw[rC,ul hr]
 generalize lQ ws ps co=b at hdv hls hN;generalize (mI ps co.part).isSome=fo at hdv hN;refine zR ?_;refine QS ?_;refine zK hdv ?_ (hfl:=.inr (bp.refl rfl));refine zR ?_;cases fo
 ·refine xd ?_;refine zV ?_;exact iA [.tmp 6,.tmp 7] (r:=.bE [.sl 0 2 [],ab 2]) (hw:=.bE (.cons (.nil _) (.cons (.a _) .nil))) (hq:=by rw[hN];rfl)
 refine H2 ?_;refine zC ?_;refine zK hls ?_ (hfl:=.inr (bp.refl rfl));refine zR ?_;exact iA [.tmp 6,.tmp 7] (r:=.bE [ak 2 (kr b) eu,ab 0]) (hw:=zv) (hq:=by rw[hN];rfl)
def Pv:Co:=⟨[97],[98],0,0⟩
def Ct:aH:={ aH.zero with name:=[97] }
def C8(c:List aP)(dmg:bB)(ws:List Wy)(l:List bu):Bool:=!(ee ws Pv)||(!(lT c&&Proofs.dV dmg)||l.any λr=>!(Proofs.fR r))
def lx(c:List aP)(dmg:bB)(ws:List Wy)(l:List bu)(costs:List Co):List Xf×Int:=if C8 c dmg ws l=true then ([],1) else dn (gy c dmg ws l costs [])
def QJ(ws:List Wy):rC ws [Ct] Pv=if ee ws Pv=true then (kr (lQ ws [Ct] Pv),0) else ([],1):=by
 unfold rC;rw[ul (show(mI [Ct] Pv.part).isSome=true from by kernel_rfl)]
def Li(r:List Xf×Int):SV:=.bE [ak 3 r.1 bj,ab r.2]
def JG(x:bu)(hx:ea x):PC Tryz.prog 19 ([]++[.ag (aD x)]++[]) (·=az (!(Proofs.fR x))):=by
 refine pB 6 Tryz.func19 ?_;refine aC @aD.eq_1 ?_;refine zC ?_;refine zK (nS x hx) ?_;refine zR ?_;exact zo [.tmp 2]
def IY(c:List aP)(dmg:bB)(ws:List Wy)(l:List bu)(costs:List Co)(co:Co)(m:c9):gy c dmg ws l (costs++[co]) m=if (fP c dmg ws l co).2.2=0 then e9 (fP c dmg ws l co).1 co.owner (gy c dmg ws l costs m) else gy c dmg ws l costs m:=by unfold gy;rw[List.foldl_append];rfl
def IX(ss:List Sh)(y:Sh)(own:List Nat)(m:c9):e9 (ss++[y]) own m=if y.pt=own then e9 ss own m else kF 1 (e9 ss own m) ⟨y.pt,own,y.am⟩:=by unfold e9;rw[List.foldl_append];rfl
def RO(r:Nat->Nat)(m:c9):nk r (bz gz ab m)=bz gz ab m:=by
 unfold bz;rw[nk,aY (eK (uv:=ab) (λ_=>rfl) m)]
def Nq(B:Nat)(m:c9):kl B (bz gz ab m)=true:=by
 unfold bz;rw[kl,bC (eK (uv:=ab) (λ_=>rfl) m)]
def x5{k:Pr}{v:Int}(m:c9):(cw k v m).length<=m.length+1:=by
 induction m with
 | nil=>unfold cw;simp
 | cons a m ih=>unfold cw;split<;>simp only[ac]<;>omega
def Cr(own:List Nat):∀(ss:List Sh) (m:c9),(e9 ss own m).length<=m.length+ss.length
 | [],m=>by unfold e9;simp
 | y::ss,m=>by
  unfold e9;rw[List.foldl_cons,ac];have ih:=Cr own ss (if y.pt=own then m else kF 1 m ⟨y.pt,own,y.am⟩);unfold e9 at ih
  have:(if y.pt=own then m else kF 1 m ⟨y.pt,own,y.am⟩).length<=m.length+1:=by
   split
   ·omega
   ·exact x5 m
  omega
def vG(c:List aP)(dmg:bB)(ws:List Wy)(l:List bu):∀(costs:List Co) (m:c9),(gy c dmg ws l costs m).length<=m.length+2*costs.length
 | [],m=>by unfold gy;simp
 | co::costs,m=>by
  have e:gy c dmg ws l (co::costs) m=gy c dmg ws l costs (if (fP c dmg ws l co).2.2=0 then e9 (fP c dmg ws l co).1 co.owner m else m):=rfl;rw[e,ac];have ih:=vG c dmg ws l costs (if (fP c dmg ws l co).2.2=0 then e9 (fP c dmg ws l co).1 co.owner m else m);have h2:=(D7 c dmg ws l co).len;have h3:=Cr co.owner (fP c dmg ws l co).1 m
  have:(if (fP c dmg ws l co).2.2=0 then e9 (fP c dmg ws l co).1 co.owner m else m).length<=m.length+2:=by
   split<;>omega
  omega
def fC.mono{B C:Int}{m:c9}(h:fC B m)(hb:B<=C):fC C m:=λk=>⟨by have:=(h k).1;omega,by have:=(h k).2;omega⟩
set_option maxHeartbeats 4000000 in
def AP(hsort:J6)(c:List aP)(dmg:bB)(ws:List Wy)(l:List bu)(costs:List Co)(hc:jD c)(hf:gD dmg)(hw:∀w∈ws,w.fits)(hcs:∀co∈costs,co.fits)(hlw:ws.length<=1000)(hl:∀r∈l,ea r)(hl2:∀r∈l,r.opts.length<=400000)(hlen:l.length<20)(hlc:costs.length<=10):
 PC Tryz.prog 7 [.ag (ak 3 c ao::aE dmg),ak 5 ws bK,ak 2 l aD,ak 4 costs cF] (·=Li (lx c dmg ws l costs)):=by
 have hfl:(aE dmg).length=3:=eD dmg;have hft:(aE dmg).take 3=aE dmg:=ax (by rw[hfl];exact af _);have hfk:=λo:Nat=>bI (o:=o) (aM dmg);have hfn:=λo:Nat=>dm (o:=o) (aM dmg)
 have hlen6:l.length<=1000000:=by omega
 have hlc6:costs.length<=1000000:=by omega
 refine pB 94 Tryz.func7 ?_;have hrun0:=sR c dmg [] 0 hc hf (by decide) (λe h=>by cases h);rw[GR] at hrun0;have hsh:=EH ws [Ct] Pv hw (by constructor<;>decide) hlw (by decide);rw[QJ] at hsh;refine aC (n2 hfk hfn) ?_;refine ar.fg (Fg.freeze (f':=[(1,ak 5 ws bK),(2,ak 2 l aD),(3,ak 4 costs cF),(4,.ip (ak 3 c ao::aE dmg))]) 0 rfl (λh=>by cases h) ⟨.inl rfl,.inl rfl,.inl rfl,.inr (.ptr rfl (bp.refl (aM dmg)) (al _)),trivial⟩) ?_;refine ar.fg (st':=⟨[(1,ak 5 ws bK),(2,ak 2 l aD),(3,ak 4 costs cF),(4,.ip (ak 3 c ao::aE dmg))],94,[],[]⟩) zH ?_
 (try change ar _ _ _ _ _)
 refine gG (n2 hfk hfn) ?_;refine aI.fg (Fg.freeze (f':=[(24,ak 5 ws bK),(27,.ag [ak 14 [Ct] ah]),(28,.ag (cF Pv)),(1,ak 5 ws bK),(2,ak 2 l aD),(3,ak 4 costs cF),(4,.ip (ak 3 c ao::aE dmg))]) 0 rfl (λh=>by cases h) ⟨.inl rfl,.inr (.ag (.cons (.buf rfl (.cons (.a _) (.cons (.a _) (.cons (.a _) (.cons (.a _) (.cons (.a _) (.cons (.a _) (.cons (.a _) (.cons (.nil _) (.cons (.a _) (.cons (.a _) (.cons (.a _) (.cons (.a _) (.cons (.a _) (.cons (.a _) (.nil))))))))))))))) (af _)) .nil)),.inl rfl,.inl rfl,.inl rfl,.inl rfl,.inl rfl,trivial⟩) ?_;refine aI.fg (st':=⟨[(24,ak 5 ws bK),(27,.ag [ak 14 [Ct] ah]),(28,.ag (cF Pv)),(1,ak 5 ws bK),(2,ak 2 l aD),(3,ak 4 costs cF),(4,.ip (ak 3 c ao::aE dmg))],94,[],[]⟩) zH ?_;refine zK hsh ?_ (hfl:=.inr (bp.refl rfl));have hbd:C8 c dmg ws l=(!(ee ws Pv)||(!(lT c&&Proofs.dV dmg)||l.any λr=>!(Proofs.fR r))):=rfl
 have hN1:C8 c dmg ws l=true->lx c dmg ws l costs=([],1):=λh=>by unfold lx;rw[ul h]
 have hcof:=wO (l:=l) (λr=>!(Proofs.fR r)) (first:=[]) (cap:=[]) hlen6 (λx hx=>JG x (hl x hx)) ⟨rfl,rfl⟩;cases hr:ee ws Pv
 ·rw[un (by decide)];rw[hr] at hbd;refine cM @D4.eq_1 ?_;refine gG (n2 hfl hft) ?_;refine zK hrun0 ?_ (hwk:=(.cons (.ag (bp.refl (aM dmg))) (.cons (.nil 14) (.cons (.a _) .nil)))) (hfl:=.inr (.cons (.ag (bp.refl (aM dmg))) (.cons (.nil 14) (.cons (.a _) .nil))));unfold O7;refine zR ?_;refine xd ?_;refine zV ?_;exact iA [.tmp 8,.tmp 9] (r:=.bE [.sl 0 3 [],ab 1]) (hw:=.bE (.cons (.nil _) (.cons (.a _) .nil))) (hq:=by rw[hN1 hbd];rfl)
 rw[ul rfl];refine cM @D4.eq_1 ?_;refine gG (n2 hfl hft) ?_;refine zK hrun0 ?_ (hwk:=(.cons (.ag (bp.refl (aM dmg))) (.cons (.nil 14) (.cons (.a _) .nil)))) (hfl:=.inr (.cons (.ag (bp.refl (aM dmg))) (.cons (.nil 14) (.cons (.a _) .nil))));unfold O7;cases hv:lT c&&Proofs.dV dmg
 ·rw[hr,hv] at hbd;refine zR ?_;refine xd ?_;refine zV ?_;exact iA [.tmp 8,.tmp 9] (r:=.bE [.sl 0 3 [],ab 1]) (hw:=.bE (.cons (.nil _) (.cons (.a _) .nil))) (hq:=by rw[hN1 hbd];rfl)
 refine zR ?_;refine zC ?_;refine zK hcof ?_;cases hva:l.any λr=>!(Proofs.fR r);rotate_left
 ·rw[hr,hv,hva] at hbd;refine zR ?_;refine cL ?_;exact iA [.tmp 8,.tmp 9] (r:=.bE [.sl 0 3 [],ab 1]) (hw:=.bE (.cons (.nil _) (.cons (.a _) .nil))) (hq:=by rw[hN1 hbd];rfl)
 rw[hr,hv,hva] at hbd
 have hN:lx c dmg ws l costs=dn (gy c dmg ws l costs []):=by unfold lx;rw[un (by rw[hbd];decide)]
 rw[hN];clear hN hN1 hbd hcof hsh hrun0;refine zR ?_;refine zN ?_;refine ar.fg (st':=⟨[(1,ak 5 ws bK),(2,ak 2 l aD),(3,ak 4 costs cF),(4,.ip (ak 3 c ao::aE dmg))],94,[],[]⟩) zH ?_
 (try change ar _ _ _ _ _)
 refine zV ?_;refine ar.fg (st':=⟨[(15,.map 0),(1,ak 5 ws bK),(2,ak 2 l aD),(3,ak 4 costs cF),(4,.ip (ak 3 c ao::aE dmg))],94,[bz gz ab []],[]⟩) (bL (show SO.map [] [] none=bz gz ab [] from rfl)) ?_
 (try change ar _ _ _ _ _)
 refine zV ?_;refine zs ?_;refine zL costs (λk=>fC (k*2000000000000) (gy c dmg ws l (costs.take k) [])) (λk=>[(15,.map 0),(1,ak 5 ws bK),(2,ak 2 l aD),(4,.ip (ak 3 c ao::aE dmg)),(49,ak 4 costs cF),(50,ab costs.length),(51,ab k)]) (λk=>[bz gz ab (gy c dmg ws l (costs.take k) [])]) zH (by intro q;exact⟨Int.le_refl _,Int.le_refl _⟩) ?_;intro k hk hall;refine zT costs k ?_ ?_;rintro rfl;rotate_left;intro co hx hlt;rotate_left
 ·refine dZ ?_;simp only[fV,dS,cE,cq,if_true];rw[ad];have hkeys:=zZ (c:=c) (dmg:=dmg) (ws:=ws) (l:=l) (costs:=costs) (m:=[]) List.nodup_nil;have hml:=vG c dmg ws l costs [];generalize gy c dmg ws l costs []=M at hkeys hml ⊢
  have hgm:cr [nZ gz ab M]=true:=by simp only[cr,nZ,lB,eK (uv:=ab) (λ_=>rfl) M,a6]
  refine zC ?_;refine aI.fg (Fg.freeze (f':=[(90,nZ gz ab M)]) 0 rfl (λh=>by cases h) ⟨.inr (nU (λ_=>rfl) rfl),trivial⟩) ?_;refine zK (xc hsort M hkeys (by simp only[length_nil] at hml;omega)) ?_ (hwk:=(bp.refl hgm)) (hfl:=.inr (bp.refl hgm));refine zR ?_;exact iA [.tmp 8,.tmp 9] (r:=.bE [ak 3 (dn M).1 bj,ab (dn M).2]) (hw:=.bE (.cons (.sl _ _ _) (.cons (.a _) .nil)))
 refine eQ ?_;have hco:co.fits:=hcs co (aa hx);have hsure:=JS c dmg ws l co hc hf hw hco hlw hl hl2 hlen;have hsok:=D7 c dmg ws l co;obtain⟨M,hM⟩:∃M,M=gy c dmg ws l (costs.take k) []:=⟨_,rfl⟩
 have hnext:gy c dmg ws l (costs.take (k+1)) []=if (fP c dmg ws l co).2.2=0 then e9 (fP c dmg ws l co).1 co.owner M else M:=by rw[oY hx,IY,<-hM]
 rw[<-hM] at hall ⊢;clear hM;generalize fP c dmg ws l co=r at hsure hsok hnext;obtain⟨ss,op,er⟩:=r;simp only at hnext;refine aC (n3 hlt (aG (e:=4) (enc:=cF) (λ_=>rfl) hx) @da) ?_;refine ar.fg (Fg.freeze (f':=[(17,.ip [ae co.part,ae co.owner,ab co.day,ab co.am]),(15,.map 0),(1,ak 5 ws bK),(2,ak 2 l aD),(4,.ip (ak 3 c ao::aE dmg)),(49,ak 4 costs cF),(50,ab costs.length),(51,ab k)]) 1 rfl (λh=>by cases h) (rK (n2 @ak.eq_1 @da))) ?_;refine ar.fg (st':=⟨[(17,.ip [ae co.part,ae co.owner,ab co.day,ab co.am]),(15,.map 0),(1,ak 5 ws bK),(2,ak 2 l aD),(4,.ip (ak 3 c ao::aE dmg)),(49,ak 4 costs cF),(50,ab costs.length),(51,ab k)],94,[bz gz ab M],[]⟩) (bL @jV) ?_
 (try change ar _ _ _ _ _)
 refine gG (n2 hfl hft) ?_;rw[da] at hsure;refine zK hsure ?_ (hwk:=(.cons (.ag (bp.refl (aM dmg))) (bp.refl rfl))) (hfl:=.inr (.cons (.ag (bp.refl (aM dmg))) (bp.refl rfl)));refine cM @Rj.eq_1 ?_;refine ar.fg (st':=⟨[(18,ak 2 ss eu),(20,ab er),(17,.ip [ae co.part,ae co.owner,ab co.day,ab co.am]),(15,.map 0),(1,ak 5 ws bK),(2,ak 2 l aD),(4,.ip (ak 3 c ao::aE dmg)),(49,ak 4 costs cF),(50,ab costs.length),(51,ab k)],94,[bz gz ab M],[]⟩) zH ?_
 (try change ar _ _ _ _ _)
 by_cases h0:er=0;rotate_left
 ·rw[un h0] at hnext;refine aC (ut h0) ?_;refine zY ?_;refine ar.exit ?_;simp only[fV,dS,cE,cq,if_true];refine aC (zi hlt hlc6) ?_;refine zX hlt (bL hnext) (by rw[hnext];exact hall.mono (by omega))
 rw[ul h0] at hnext
 have hlen2:ss.length<=1000000:=by have:=hsok.len;simp only at this;omega
 have hco1:co.ok=true:=by
  have:=hsok.right h0;unfold ee at this;rw[Bool.and_eq_true] at this;exact this.2
 have hca:=KF hco1;refine aC (wd h0) ?_;refine iK ?_;refine zs ?_;refine zL ss (λk2=>fC (k*2000000000000+k2*1000000000000) (e9 (ss.take k2) co.owner M)) (λk2=>[(66,ak 2 ss eu),(67,ab ss.length),(68,ab k2),(17,.ip [ae co.part,ae co.owner,ab co.day,ab co.am]),(15,.map 0),(1,ak 5 ws bK),(2,ak 2 l aD),(4,.ip (ak 3 c ao::aE dmg)),(49,ak 4 costs cF),(50,ab costs.length),(51,ab k)]) (λk2=>[bz gz ab (e9 (ss.take k2) co.owner M)]) zH (by intro q;have:=hall q;show _<=getM 0 q M/\getM 0 q M<=_;omega) ?_;intro k2 hk2 hall2;refine zT ss k2 ?_ ?_;rintro rfl;rotate_left;intro y hx2 hlt2;rotate_left
 ·refine dZ ?_;simp only[fV,dS,cE,cq,if_true];rw[ad] at hall2 ⊢;have hsl:=hsok.len;simp only at hsl;refine aC (zi hlt hlc6) ?_;refine zX hlt (bL hnext) (by rw[hnext];exact hall2.mono (by omega))
 refine eQ ?_;obtain⟨m2,hm2⟩:∃m2,m2=e9 (ss.take k2) co.owner M:=⟨_,rfl⟩
 have hnext2:e9 (ss.take (k2+1)) co.owner M=if y.pt=co.owner then m2 else kF 1 m2 ⟨y.pt,co.owner,y.am⟩:=by rw[oY hx2,IX,<-hm2]
 rw[<-hm2] at hall2 ⊢;clear hm2;have hya:=hsok.am y (aa hx2);obtain⟨pt,am⟩:=y;simp only at hya hnext2;refine aC (n3 hlt2 (aG (e:=2) (enc:=eu) (λ_=>rfl) hx2) @eu.eq_1) ?_;refine ar.fg (Fg.freeze (f':=[(22,.ip [ae pt,ab am]),(66,ak 2 ss eu),(67,ab ss.length),(68,ab k2),(17,.ip [ae co.part,ae co.owner,ab co.day,ab co.am]),(15,.map 0),(1,ak 5 ws bK),(2,ak 2 l aD),(4,.ip (ak 3 c ao::aE dmg)),(49,ak 4 costs cF),(50,ab costs.length),(51,ab k)]) 1 rfl (λh=>by cases h) (rK @ak.eq_1)) ?_;refine ar.fg (st':=⟨[(22,.ip [ae pt,ab am]),(66,ak 2 ss eu),(67,ab ss.length),(68,ab k2),(17,.ip [ae co.part,ae co.owner,ab co.day,ab co.am]),(15,.map 0),(1,ak 5 ws bK),(2,ak 2 l aD),(4,.ip (ak 3 c ao::aE dmg)),(49,ak 4 costs cF),(50,ab costs.length),(51,ab k)],94,[bz gz ab m2],[]⟩) (bL @jV) ?_
 (try change ar _ _ _ _ _)
 by_cases hy:pt=co.owner
 ·rw[ul hy] at hnext2;refine aC (wd hy) ?_;refine zN ?_;refine aC (zi hlt2 hlen2) ?_;refine zX hlt2 (bL hnext2) (by rw[hnext2];exact hall2.mono (by omega))
 rw[un hy] at hnext2;refine aC (ut hy) ?_;refine zY ?_;refine zC ?_
 have hadd:=vY 1 (.inl rfl) [[⟨pt,co.owner,am⟩]] m2 (hall2.mono (by have:=hsok.len;simp only at this;omega)) (by show 1<=10;decide) (by
  intro ts hts;rw[List.mem_singleton.1 hts];refine⟨by show 1<=1000;decide,λt ht=>?_⟩;rw[List.mem_singleton.1 ht];show -1000000000000<=am/\am<=1000000000000
  omega)
 rw[show[[(⟨pt,co.owner,am⟩:Xf)]].foldl (eY 1) m2=kF 1 m2 ⟨pt,co.owner,am⟩ from rfl] at hadd;refine aI.fg (st':=⟨[(86,.buf 2 1 1 (some 1)),(77,.map 0),(66,ak 2 ss eu),(67,ab ss.length),(68,ab k2),(17,.ip [ae co.part,ae co.owner,ab co.day,ab co.am]),(15,.map 0),(1,ak 5 ws bK),(2,ak 2 l aD),(4,.ip (ak 3 c ao::aE dmg)),(49,ak 4 costs cF),(50,ab costs.length),(51,ab k)],94,[bz gz ab m2,.cells [ae pt,ae co.owner,ab am],.cells [.buf 1 1 3 (some 1)]],[]⟩) (bL @jV) ?_;refine aI.fg (Fg.xT (f':=[(86,.buf 2 1 1 (some 1)),(77,.map 0),(66,ak 2 ss eu),(67,ab ss.length),(68,ab k2),(17,.ip [ae co.part,ae co.owner,ab co.day,ab co.am]),(15,.map 0),(1,ak 5 ws bK),(2,ak 2 l aD),(4,.ip (ak 3 c ao::aE dmg)),(49,ak 4 costs cF),(50,ab costs.length),(51,ab k)]) (S':=[bz gz ab m2,.gone,.cells [ak 3 [(⟨pt,co.owner,am⟩:Xf)] bj]]) 1 rfl (λh=>by cases h) ⟨.inl rfl,.inl rfl,.inl rfl,.inl rfl,.inl rfl,.inl rfl,.inl rfl,.inl rfl,.inl rfl,.inl rfl,.inl rfl,.inl rfl,.inl rfl,trivial⟩ ⟨.inr ⟨by decide,.inl rfl⟩,.inl rfl,.inr ⟨by decide,.inr ⟨_,_,rfl,rfl,.cons (.buf rfl (bp.refl rfl) (af _)) .nil⟩⟩,trivial⟩) ?_;refine aI.fg (Fg.freeze (f':=[(86,ak 1 [[(⟨pt,co.owner,am⟩:Xf)]] tg),(77,.map 0),(66,ak 2 ss eu),(67,ab ss.length),(68,ab k2),(17,.ip [ae co.part,ae co.owner,ab co.day,ab co.am]),(15,.map 0),(1,ak 5 ws bK),(2,ak 2 l aD),(4,.ip (ak 3 c ao::aE dmg)),(49,ak 4 costs cF),(50,ab costs.length),(51,ab k)]) 2 rfl (λh=>by cases h) ⟨.inr (.buf rfl (bp.refl rfl) (af _)),.inl rfl,.inl rfl,.inl rfl,.inl rfl,.inl rfl,.inl rfl,.inl rfl,.inl rfl,.inl rfl,.inl rfl,.inl rfl,.inl rfl,trivial⟩) ?_;refine aI.fg (st':=⟨[(86,ak 1 [[(⟨pt,co.owner,am⟩:Xf)]] tg),(77,.map 0),(66,ak 2 ss eu),(67,ab ss.length),(68,ab k2),(17,.ip [ae co.part,ae co.owner,ab co.day,ab co.am]),(15,.map 0),(1,ak 5 ws bK),(2,ak 2 l aD),(4,.ip (ak 3 c ao::aE dmg)),(49,ak 4 costs cF),(50,ab costs.length),(51,ab k)],94,[bz gz ab m2],[]⟩) zH ?_;refine zS [0] (n3 @jV @RO @Nq) hadd ?_;refine zR ?_;refine aC (zi hlt2 hlen2) ?_;refine zX hlt2 (bL hnext2) (by rw[hnext2];exact(hall2.add (t:=⟨pt,co.owner,am⟩) (.inl rfl) (by show -1000000000000<=am/\am<=1000000000000;omega)).mono (by omega))
end Go.Proofs
namespace Go.Ev
def PK{P:Program}{t:TypeId}{xs ys:List AV}{b:Bool}(h:cS P .eql t (.agg xs) (.agg ys)=some (.bool b)):cS P .neq t (.agg xs) (.agg ys)=some (.bool (!b)):=by
 change cond (P.eqGuardType P.depth t) none ((lA P 8 t (.agg xs) (.agg ys)).map AV.bool)=_ at h;show cond (P.eqGuardType P.depth t) none ((lA P 8 t (.agg xs) (.agg ys)).map λb=>AV.bool (!b))=_
 revert h
 cases P.eqGuardType P.depth t
 ·cases lA P 8 t (.agg xs) (.agg ys)
  ·intro h;cases h
  ·intro h;injection h with h;injection h with h;subst h;rfl
 ·intro h;cases h
end Go.Ev
namespace Go.Proofs
open Go.Ev
set_option maxRecDepth 100000
def Xf.av(t:Xf):List AV:=[.str t.fr,.str t.to,.int .i64 t.am]
def Xf.eq(a b:Xf):gT gd a.av b.av=decide (a=b):=by
 obtain⟨a1,a2,a3⟩:=a;obtain⟨b1,b2,b3⟩:=b;simp only[Xf.av,gT,gd,yV,yB,mG,Bool.true_and,a6,Xf.mk.injEq,Bool.decide_and]
def MO(a b:Xf):cS Tryz.prog .neq 45 (.agg [.str a.fr,.str a.to,.int .i64 a.am]) (.agg [.str b.fr,.str b.to,.int .i64 b.am])=some (.bool (!(decide (a=b)))):=
 PK (E9 (ks:=[.s,.s,.i .i64]) (by kernel_rfl) (by kernel_rfl) (by simp only[aw,Option.map_some]) rfl rfl (Xf.eq a b))
def JM(a b:List Xf)(ha:a.length<=1000000):PC Tryz.prog 8 [ak 3 a bj,ak 3 b bj] (·=az (decide (a=b))):=by
 refine pB 26 Tryz.func8 ?_;refine zV ?_;cases g:decide ((a.length:Int)=b.length)
 ·refine aC g ?_;refine cL ?_;exact zo [.tmp 4] (hq:=by rw[ut (λh=>wt g (by rw[h]))])
 refine aC g ?_;refine iK ?_;have hl:a.length=b.length:=Int.ofNat.inj (ww g);refine zs ?_;refine zL a (λk=>a.take k=b.take k) (λk=>[(0,ak 3 a bj),(1,ak 3 b bj),(5,ab k)]) (λk=>[]) zH zp ?_;intro k hk hall;by_cases hlt:k<a.length;rotate_left
 ·obtain rfl:k=a.length:=by omega
  rw[ad,hl,ad] at hall;refine aC (show decide ((a.length:Int)<(a.length:Int))=false by simp) ?_;refine dZ ?_;refine zV ?_;exact zo [.tmp 4] (hq:=by rw[wd hall])
 have hd:=show decide ((k:Int)<(a.length:Int))=true by simp only[wr];omega
 obtain⟨x,hx⟩:∃x,a[k]?=some x:=⟨a[k],aj hlt⟩
 have hlt2:k<b.length:=by omega
 obtain⟨y,hy⟩:∃y,b[k]?=some y:=⟨b[k],aj hlt2⟩;refine aC hd ?_;refine eQ ?_;have hn:=MO x y;refine zs ?_;refine oz [0,0,3,7,0,0,48,112,255] ?_;cases he:decide (x=y)
 ·rw[he] at hn;refine ni (n6 hlt hlt2 (aG (e:=3) (enc:=bj) (λ_=>rfl) hx) (aG (e:=3) (enc:=bj) (λ_=>rfl) hy) @bj.eq_1 hn) ?_;refine zM ?_;refine cL ?_;exact zo [.tmp 4] (hq:=by rw[ut (λh=>by subst h;rw[hx] at hy;exact wt he (Option.some.inj hy))])
 ·rw[he] at hn;refine ni (n6 hlt hlt2 (aG (e:=3) (enc:=bj) (λ_=>rfl) hx) (aG (e:=3) (enc:=bj) (λ_=>rfl) hy) @bj.eq_1 hn) ?_;refine zM ?_;refine zN ?_;refine aC (zi hlt ha) ?_;refine zX hlt zH (by rw[br hx,br hy,hall,ww he])
def Ba(t:Xf):Bool:=!(cD t.fr)||(!(cD t.to)||(decide (t.fr=t.to)||(decide (t.am<0)||decide (1000000000000<t.am))))
structure Xf.fits (t:Xf):Prop where
 f:t.fr.length<=1000000
 fb:∀b∈t.fr,b<256
 g:t.to.length<=1000000
 gb:∀b∈t.to,b<256
def CN(t:Xf)(ht:t.fits):PC Tryz.prog 27 ([]++[.ag (bj t)]++[]) (·=az (Ba t)):=by
 refine pB 30 Tryz.func27 ?_;have h1:=ou t.fr ht.f ht.fb;have h2:=ou t.to ht.g ht.gb;unfold Ba;obtain⟨fr,to,am⟩:=t;simp only at h1 h2 ⊢;refine aC @bj.eq_1 ?_;refine zC ?_;refine zK h1 ?_;cases e1:cD fr
 ·refine zR ?_;exact zo [.tmp 2]
 refine zQ ?_;refine zK h2 ?_;cases e2:cD to
 ·refine zR ?_;exact zo [.tmp 2]
 cases e3:decide (fr=to)
 ·cases e4:decide (am<0)
  ·refine cM (n2 e3 e4) ?_;exact zo [.tmp 2]
  ·refine cM (n2 e3 e4) ?_;exact zo [.tmp 2]
 ·refine cM e3 ?_;exact zo [.tmp 2]
def Jv{l:List (Xf)}(p:Xf->Bool){fid:FuncId}{first cap:List SV}(hlen:l.length<=1000000)(hp:∀x∈l,PC Tryz.prog fid ((first++[.ag (bj x)])++cap) (·=az (p x)))(hg:cr first=true/\cr cap=true):PC Tryz.prog 62 [ak 3 l bj,.fn fid first cap] (·=ab (js p l)):=by
 refine pB 19 Tryz.func62 ?_;refine aC @ak.eq_1 ?_;refine zV ?_;refine zs ?_;refine zL l (λk=>∀(i:Nat) y,i<k->l[i]?=some y->p y=false) (λk=>[(0,.sl l.length 3 (l.flatMap bj)),(1,.fn fid first cap),(7,ab l.length),(8,ab k)]) (λk=>[]) zH zp ?_;intro k hk hall;refine zT l k ?_ ?_;rintro rfl;rotate_left;intro x hx hlt;rotate_left
 ·refine dZ ?_;refine zV ?_;exact zo [.tmp 4] (hq:=by rw[iC hall])
 ·refine eQ ?_;refine zV ?_;refine gG (n3 hlt (aG (e:=3) (enc:=bj) (λ_=>rfl) hx) @bj.eq_1) ?_;refine zK (hp x (List.mem_iff_getElem?.2 ⟨k,hx⟩)) ?_ (hwk:=((bp.refl hg.1).app (bp.refl rfl)).app (bp.refl hg.2));refine aI.nil ?_;change ar _ _ _ _ _;cases hpx:p x
  ·refine zN ?_;refine aC (zi hlt hlen) ?_;refine zX hlt zH ?_;intro i y hi hy;by_cases hik:i=k
   ·subst hik;rw[hx] at hy;cases hy;exact hpx
   ·exact hall i y (by omega) hy
  ·refine cL ?_;exact zo [.tmp 4] (hq:=by rw[lY hx hpx hall])
def Ax{l:List (Xf)}(p:Xf->Bool){fid:FuncId}{first cap:List SV}(hlen:l.length<=1000000)(hp:∀x∈l,PC Tryz.prog fid ((first++[.ag (bj x)])++cap) (·=az (p x)))(hg:cr first=true/\cr cap=true):PC Tryz.prog 29 [ak 3 l bj,.fn fid first cap] (·=az (l.any p)):=by
 refine pB 9 Tryz.func29 ?_;refine kD ?_;refine zK (Jv p hlen hp hg) ?_ (hwk:=.cons (Wk.sl _ _ _) (.cons (.fn (bp.refl hg.1) (bp.refl hg.2)) .nil));refine zR ?_;exact zo [.tmp 4] (hq:=by rw[xU])
end Go.Proofs
