/-
  The plain law OrderChangesLeadThere is true of all data. No condition.
-/
import Derived.Test.YtgmbmgfhpkoajacGreatDoorYh
import Derived.Test.YtgmbmgfhpkoajacGreatDoorYu
set_option linter.all false
namespace Go.Md
open Go.Dn
theorem Bu {a b:List (Int×ai)} {n:Int}:n∈dO a b↔n∈a.map (·.1)\/n∈b.map (·.1):=by
 unfold dO
 rw[(List.mergeSort_perm _ _).mem_iff,VF,VK]
 constructor
 ·rintro (h | h)
  ·exact .inl h
  ·exact .inr h.1
 ·rintro (h | h)
  ·exact .inl h
  ·by_cases h2:n∈a.map (·.1)
   ·exact .inl h2
   ·refine .inr ⟨h, ?_⟩
    simp only[Uq,UO,WR]
    exact fun p hp e=>h2 (VN.2 ⟨p,hp,e⟩)
theorem JN:∀ {l:List aa} {k:Nat} {d:aa},d∈iE k l->∃ e∈l,∃ m,d=tu e m
 | [],_,_,h=>by cases h
 | x::r,k,d,h=>by
  rw[iE] at h
  rcases VH.1 h with rfl | h
  ·exact⟨x,VJ ..,_,rfl⟩
  ·obtain⟨e,he,m,h2⟩:=JN h
   exact⟨e,VI _ he,m,h2⟩
theorem JH:∀ {l:List aa} {k:Nat} {e:aa},e∈l->∃ m,tu e m∈iE k l
 | x::r,k,e,h=>by
  rcases VH.1 h with rfl | h
  ·exact⟨_,VJ ..⟩
  ·obtain⟨m,hm⟩:=JH (k:=k+1) h
   exact⟨m,VI _ hm⟩
theorem EV:∀ (l:List aa) (k:Nat),(iE k l).map aH=l.map aH
 | [],_=>rfl
 | x::r,k=>by rw[iE,VD,EV r,VD];rfl
theorem rE {day n:Int} {a b:Option ai} {e:aa} (h:e∈lu day n a b):aH e=n/\e.1=day/\e.2.1=1/\(1<=aB e/\aB e<=4):=by
 have hA:∀ y,aH (CE day n y)=n/\(CE day n y).1=day/\(CE day n y).2.1=1/\(1<=aB (CE day n y)/\aB (CE day n y)<=4):=fun y=>⟨rfl,rfl,rfl,by show (1:Int)<=1/\(1:Int)<=4;omega⟩
 have hQ:∀ y,aH (vU day n y)=n/\(vU day n y).1=day/\(vU day n y).2.1=1/\(1<=aB (vU day n y)/\aB (vU day n y)<=4):=fun y=>⟨rfl,rfl,rfl,by show (1:Int)<=2/\(2:Int)<=4;omega⟩
 have hU:∀ y,aH (zk day n y)=n/\(zk day n y).1=day/\(zk day n y).2.1=1/\(1<=aB (zk day n y)/\aB (zk day n y)<=4):=fun y=>⟨rfl,rfl,rfl,by show (1:Int)<=3/\(3:Int)<=4;omega⟩
 have hP:∀ y,aH (zj day n y)=n/\(zj day n y).1=day/\(zj day n y).2.1=1/\(1<=aB (zj day n y)/\aB (zj day n y)<=4):=fun y=>⟨rfl,rfl,rfl,by show (1:Int)<=4/\(4:Int)<=4;omega⟩
 cases a with
 | none=>
  cases b with
  | none=>rw[lu,VR] at h;subst h;exact hA _
  | some y=>rw[lu,VR] at h;subst h;exact hA _
 | some x=>
  cases b with
  | none=>rw[lu,VR] at h;subst h;exact hQ _
  | some y=>
   rw[lu,VF,VF] at h
   rcases h with h | h | h
   ·split at h
    ·rw[VR] at h;subst h;exact hQ _
    ·cases h
   ·split at h
    ·rw[VR] at h;subst h;exact hU _
    ·cases h
   ·split at h
    ·rw[VR] at h;subst h;exact hP _
    ·cases h
theorem MA {α β:Type} (f:α->List β):∀ (K:List α) (n:α),n∈K->(f n).Sublist (K.flatMap f)
 | x::r,n,h=>by
  rw[U6]
  rcases VH.1 h with rfl | h
  ·exact List.sublist_append_left _ _
  ·exact (MA f r n h).trans (List.sublist_append_right _ _)
theorem ur {l:List aa} {n:Int} (h:∀ e∈l,aH e=n) (hnd:(l.map aH).Nodup):l=[]\/∃ e,l=[e]:=by
 match l with
 | []=>exact .inl rfl
 | [e]=>exact .inr ⟨e,rfl⟩
 | e::e'::r=>
  rw[VD,VD,VT] at hnd
  exact absurd (by rw[h e (by simp),h e' (by simp)];exact VJ ..) hnd.1
theorem Hw:∀ (l m:List Int),l.Nodup->(∀ x∈l,x∈m)->l.length<=m.length
 | [],_,_,_=>WD _
 | x::r,m,hnd,h=>by
  rw[VT] at hnd
  have hx:=h x (VJ ..)
  have h2:=Hw r (m.erase x) hnd.2 fun y hy=>by
   have hne:y≠x:=fun e=>hnd.1 (e ▸ hy)
   exact (List.mem_erase_of_ne hne).2 (h y (VI _ hy))
  have h3:=List.length_erase_of_mem hx
  have h4:=List.length_pos_of_mem hx
  rw[Vs]
  omega
theorem Cp:∀ (l:List aa),AP l=(l.filter fun d=>decide (aB d=1)).length
 | []=>rfl
 | d::r=>by
  rw[AP,Cp r,U5]
  by_cases h:aB d=1
  ·rw[Xe h,Xe (WX h),Vs];omega
  ·rw[Xd h,Xd (by simp[h])];omega
theorem xJ (n:Int):∀ (L:List ai),gL n (L.map eZ)=(aR (dI L) n).map eZ
 | []=>rfl
 | x::r=>by
  show (if n=x.1 then some (eZ x) else gL n (r.map eZ))=(aR ((x.1,x)::dI r) n).map eZ
  rw[Bo,xJ n r]
  by_cases h:n=x.1
  ·rw[Xe h,Xe h];rfl
  ·rw[Xd h,Xd h]
theorem JF {L:List ai} {n:Int} (h:n∉(dI L).map (·.1)):aR (dI L) n=none:=by
 cases hl:aR (dI L) n with
 | none=>rfl
 | some x=>
  obtain⟨hm,rfl⟩:=jc hl
  have h2:x.1∈(dI L).map (·.1):=VN.2 ⟨(x.1,x),VN.2 ⟨x,hm,rfl⟩,rfl⟩
  exact absurd h2 h
structure Vx (s:ak) (y:ai):Prop where
 no:s.no=y.1
 art:s.art=y.2.1
 unit:s.unit=y.2.2.2.1
 due:s.due=y.2.2.2.2.2
 ord:s.ord=aQ y.2.2.1
 pr:dM s.price=dM y.2.2.2.2.1
end Go.Md
namespace Go.Md
open Go.Dn
theorem A0 {d:ah} (h0:0<=d.2) (h9:d.2<=9):lz (dM d)=lz d:=by
 obtain⟨z,p⟩:=d
 dsimp only at h0 h9
 obtain⟨k,rfl⟩:∃ k:Nat,p=(k:Int):=⟨p.toNat,by omega⟩
 obtain⟨h1,h2,_⟩:=Ap k z
 unfold lz dM
 dsimp only
 rw[UL]
 have e1:((9:Int) - (k:Int)).toNat=9 - k:=by omega
 have e2:((9:Int) - ((few k z).2:Int)).toNat=(k - (few k z).2)+(9 - k):=by omega
 rw[e1,e2,UF, <- UA,h2]
theorem J7 {d:ah} (h0:0<=d.2) (h3:d.2<=3):lz d=aQ d*1000000:=by
 unfold lz aQ
 have e:((9:Int) - d.2).toNat=(3 - d.2).toNat+6:=by omega
 rw[e,UF, <- UA]
 rfl
theorem QF {d:ah} {z:Bool} (h:qOk d z=true):0<=d.2/\d.2<=3:=by
 have h1:inR d 0 1000000000 3=true:=by
  unfold qOk at h
  rw[Ug] at h
  exact h.1
 obtain⟨⟨_,h2,_⟩,hp,_⟩:=Xk h1
 exact⟨h2,hp⟩
theorem Nz {a b:ah} {y z:Bool} (ha:qOk a y=true) (hb:qOk b z=true) (h:dM a=dM b):aQ a=aQ b:=by
 obtain⟨a0,a3⟩:=QF ha
 obtain⟨b0,b3⟩:=QF hb
 have h1:=A0 a0 (by omega)
 have h2:=A0 b0 (by omega)
 rw[h,h2,J7 a0 a3,J7 b0 b3] at h1
 omega
theorem A4 {a b:ah} (h:¬oc a b=true):dM a=dM b:=by
 unfold oc at h
 simpa using h
section
variable {was is:aj}
structure fY (was is:aj):Prop where
 o1:eV was=0
 o2:eV is=0
 clash:gf (dI (bT was)) (dI (bT is))=false
 day:bH was<=bH is
 ok:fC (cT was is)=0
 ways:Ld (cT was is)<=1
 len:2*(cT was is).length<=2000
 lns:(bT was).length+(bT is).length<=500
abbrev laW (was:aj):=dI (bT was)
abbrev cgL (was is:aj) (n:Int):List aa:=lu (bH is) n (aR (laW was) n) (aR (laW is) n)
theorem zT {d:aa} (h:d∈cT was is):∃ n∈dO (laW was) (laW is),∃ e∈cgL was is n,∃ m,d=tu e m:=by
 obtain⟨e,he,m,h2⟩:=JN h
 obtain⟨n,hn,h3⟩:=List.mem_flatMap.1 he
 exact⟨n,hn,e,h3,m,h2⟩
theorem SC {n:Int} (hn:n∈dO (laW was) (laW is)) {e:aa} (he:e∈cgL was is n):∃ m,tu e m∈cT was is:=JH (List.mem_flatMap.2 ⟨n,hn,he⟩)
theorem fY.nd (h:fY was is):((cT was is).map aH).Nodup:=Pu h.ways
theorem fY.one (h:fY was is) {n:Int} (hn:n∈dO (laW was) (laW is)):cgL was is n=[]\/∃ e,cgL was is n=[e]:=by
 refine ur (fun e he=>(rE he).1) ?_
 have h1:=h.nd
 rw[EV] at h1
 exact List.Nodup.sublist ((MA _ _ n hn).map aH) h1
theorem fY.SE (h:fY was is) {n:Int} {x y:ai} (hx:aR (laW was) n=some x) (hy:aR (laW is) n=some y):y.2.1=x.2.1/\y.2.2.2.1=x.2.2.2.1:=by
 have hc:=h.clash
 unfold gf at hc
 rw[UO] at hc
 obtain⟨hm,rfl⟩:=jc hx
 have h1:=hc (x.1,x) (VN.2 ⟨x,hm,rfl⟩)
 dsimp only at h1
 rw[hy] at h1
 simp only[Uu,Uq,WQ,Xj,Uw] at h1
 exact h1
theorem fY.mono (h:fY was is) {n:Int} {y:ai} (hy:aR (laW is) n=some y):bH was<=y.2.2.2.2.2:=by
 obtain⟨hm,_⟩:=jc hy
 have:=((nx h.o2).line y hm).2.2.2.2.2.1
 have:=h.day
 omega
abbrev rF (was is:aj):List ak:=(sK was (cT was is++eX 0 (cT was is)) 0 3652059).1
theorem fY.run (h:fY was is):(∀ n,n∉(cT was is).map aH->gL n (rF was is)=(aR (laW was) n).map eZ)/\ ∀ d∈cT was is,∃ j,gL (aH d) (rF was is)=some (ze d (Cq j d ((aR (laW was) (aH d)).map eZ))):=by
 have ok1:=nx h.o1
 have ok2:=nx h.o2
 have hkind:∀ d∈cT was is,aB d=1->aR (laW was) (aH d)=none/\∃ y,aR (laW is) (aH d)=some y/\dX d=y.2.2.2.2.2:=by
  intro d hd h1
  obtain⟨n,hn,e,he,m,rfl⟩:=zT hd
  have hln:aH (tu e m)=n:=(rE he).1
  rw[hln]
  have hk:aB e=1:=h1
  show _/\∃ y,_/\dX e=_
  unfold cgL at he
  cases ha:aR (laW was) n with
  | none=>
   cases hb:aR (laW is) n with
   | none=>
    exfalso
    rcases Bu.1 hn with h2 | h2
    ·obtain⟨p,hp,rfl⟩:=VN.1 h2
     obtain⟨x,hx,rfl⟩:=VN.1 hp
     have:=vu ok1.srt hx
     rw[ha] at this;cases this
    ·obtain⟨p,hp,rfl⟩:=VN.1 h2
     obtain⟨x,hx,rfl⟩:=VN.1 hp
     have:=vu ok2.srt hx
     rw[hb] at this;cases this
   | some y=>
    rw[ha,hb,lu,VR] at he
    subst he
    exact⟨rfl,y,rfl,rfl⟩
  | some x=>
   exfalso
   cases hb:aR (laW is) n with
   | none=>rw[ha,hb,lu,VR] at he;subst he;exact absurd hk (by show ¬(2:Int)=1;decide)
   | some y=>
    rw[ha,hb,lu,VF,VF] at he
    rcases he with he | he | he
    ·split at he
     ·rw[VR] at he;subst he;exact absurd hk (by show ¬(2:Int)=1;decide)
     ·cases he
    ·split at he
     ·rw[VR] at he;subst he;exact absurd hk (by show ¬(3:Int)=1;decide)
     ·cases he
    ·split at he
     ·rw[VR] at he;subst he;exact absurd hk (by show ¬(4:Int)=1;decide)
     ·cases he
 have hkind2:∀ d∈cT was is,aB d≠1->∃ x,aR (laW was) (aH d)=some x/\(aB d=3->bH was<=dX d)/\(aB d=2->0<=aQ (dQ d)):=by
  intro d hd h1
  obtain⟨n,hn,e,he,m,rfl⟩:=zT hd
  have hln:aH (tu e m)=n:=(rE he).1
  rw[hln]
  have hk:aB e≠1:=h1
  show ∃ x,_/\(aB e=3->bH was<=dX e)/\(aB e=2->0<=aQ (dQ e))
  unfold cgL at he
  cases ha:aR (laW was) n with
  | none=>
   exfalso
   cases hb:aR (laW is) n with
   | none=>rw[ha,hb,lu,VR] at he;subst he;exact hk rfl
   | some y=>rw[ha,hb,lu,VR] at he;subst he;exact hk rfl
  | some x=>
   refine⟨x,rfl, ?_⟩
   cases hb:aR (laW is) n with
   | none=>
    rw[ha,hb,lu,VR] at he;subst he
    exact⟨fun e=>absurd e (by show ¬(2:Int)=3;decide),fun _=>by show 0<=aQ ((0,0):ah);decide⟩
   | some y=>
    rw[ha,hb,lu,VF,VF] at he
    rcases he with he | he | he
    ·split at he
     ·rw[VR] at he;subst he
      refine⟨fun e=>absurd e (by show ¬(2:Int)=3;decide),fun _=> ?_⟩
      obtain⟨hm,_⟩:=jc hb
      exact (iC ((ok2.line y hm).2.1)).1
     ·cases he
    ·split at he
     ·rw[VR] at he;subst he
      exact⟨fun _=>h.mono hb,fun e=>absurd e (by show ¬(3:Int)=2;decide)⟩
     ·cases he
    ·split at he
     ·rw[VR] at he;subst he
      exact⟨fun e=>absurd e (by show ¬(4:Int)=3;decide),fun e=>absurd e (by show ¬(4:Int)=2;decide)⟩
     ·cases he
 have hadd:AP (cT was is)<=(bT is).length:=by
  rw[Cp]
  have h1:=Hw (((cT was is).filter fun d=>decide (aB d=1)).map aH) ((dI (bT is)).map (·.1)) (List.Nodup.sublist (List.Sublist.map aH (List.filter_sublist)) h.nd) fun n hn=>by
   obtain⟨d,hd,rfl⟩:=VN.1 hn
   rw[VK] at hd
   obtain⟨_,y,hy,_⟩:=hkind d hd.1 (Xk hd.2)
   obtain⟨hm,e⟩:=jc hy
   exact VN.2 ⟨(y.1,y),VN.2 ⟨y,hm,rfl⟩,e⟩
  rw[Vt,Vt,Vt] at h1
  exact h1
 have:=RL (o:=was) (q:=cT was is) (wt:=0) (day:=3652059) (A:=nM was) (fun d hd=>by
  obtain⟨n,hn,e,he,m,rfl⟩:=zT hd
  obtain⟨_,h2,_,h4⟩:=rE he
  refine⟨?_,h4⟩
  show e.1<=3652059
  rw[h2]
  exact ok2.day.2) h.nd (fun d hd h1=>by
  obtain⟨h2,y,hy,h3⟩:=hkind d hd h1
  rw[xJ]
  exact⟨by rw[h2];rfl,by rw[h3];exact h.mono hy⟩) (by rw[Vt];have:=h.lns;omega) (fun d hd h1=>by
  obtain⟨x,h2,h3,_⟩:=hkind2 d hd h1
  exact⟨eZ x,by rw[xJ,h2];rfl,by show (-1:Int)<0;decide,h3⟩) (fun d hd h1=>(hkind2 d hd (by rw[h1];decide)).choose_spec.2.2 h1) (fun x hx=>by
  obtain⟨y,_,rfl⟩:=VN.1 hx
  exact⟨rfl,rfl⟩)
 refine⟨fun n hn=> ?_,fun d hd=> ?_⟩
 ·rw[<- xJ];exact this.1 n hn
 ·obtain⟨j,hj⟩:=this.2 d hd
  refine⟨j, ?_⟩
  rw[<- xJ];exact hj
end
end Go.Md
namespace Go.Md
open Go.Dn
section
variable {was is:aj}
theorem fY.quiet (h:fY was is) {n:Int} (hc:cgL was is n=[]\/n∉dO (laW was) (laW is)):gL n (rF was is)=(aR (laW was) n).map eZ:=by
 refine h.run.1 n fun hm=> ?_
 obtain⟨d,hd,e⟩:=VN.1 hm
 obtain⟨n',hn',x,hx,m,rfl⟩:=zT hd
 have hln:aH (tu x m)=n':=(rE hx).1
 rw[hln] at e
 subst e
 rcases hc with hc | hc
 ·rw[hc] at hx;cases hx
 ·exact hc hn'
theorem fY.Hv (h:fY was is) {n:Int} (hn:n∈dO (laW was) (laW is)) {e:aa} (he:e∈cgL was is n):∃ j m,gL n (rF was is)=some (ze (tu e m) (Cq j (tu e m) ((aR (laW was) n).map eZ))):=by
 obtain⟨m,hm⟩:=SC hn he
 obtain⟨j,hj⟩:=h.run.2 _ hm
 have hln:aH (tu e m)=n:=(rE he).1
 rw[hln] at hj
 exact⟨j,m,hj⟩
theorem fY.fin (h:fY was is) (n:Int):(∀ y,aR (laW is) n=some y->∃ s,gL n (rF was is)=some s/\Vx s y)/\(aR (laW is) n=none->∀ s,gL n (rF was is)=some s->s.ord<=0):=by
 have ok1:=nx h.o1
 have ok2:=nx h.o2
 by_cases hn:n∈dO (laW was) (laW is)
 rotate_left
 ·have h1:=h.quiet (.inr hn)
  rw[Bu,Xj] at hn
  rw[JF hn.1] at h1
  rw[JF hn.2]
  exact⟨nofun,fun _ s hs=>by rw[h1] at hs;cases hs⟩
 cases hb:aR (laW is) n with
 | none=>
  refine⟨nofun,fun _ s hs=> ?_⟩
  cases ha:aR (laW was) n with
  | none=>
   exfalso
   rcases Bu.1 hn with h2 | h2
   ·obtain⟨p,hp,rfl⟩:=VN.1 h2
    obtain⟨x,hx,rfl⟩:=VN.1 hp
    have:=vu ok1.srt hx
    rw[ha] at this;cases this
   ·obtain⟨p,hp,rfl⟩:=VN.1 h2
    obtain⟨x,hx,rfl⟩:=VN.1 hp
    have:=vu ok2.srt hx
    rw[hb] at this;cases this
  | some x=>
   obtain⟨j,m,h1⟩:=h.Hv hn (e:=vU (bH is) n dN) (by unfold cgL;rw[ha,hb];exact VR.2 rfl)
   rw[hs,ha] at h1
   cases h1
   show aQ ((0,0):ah)<=0
   decide
 | some y=>
  refine⟨fun y' hy=> ?_,nofun⟩
  cases hy
  obtain⟨hm,hno⟩:=jc hb
  cases ha:aR (laW was) n with
  | none=>
   obtain⟨j,m,h1⟩:=h.Hv hn (e:=CE (bH is) n y) (by unfold cgL;rw[ha,hb];exact VR.2 rfl)
   rw[ha] at h1
   exact⟨_,h1,⟨hno.symm,rfl,rfl,rfl,rfl,rfl⟩⟩
  | some x=>
   obtain⟨hmx,hnox⟩:=jc ha
   obtain⟨hart,hunit⟩:=h.SE ha hb
   have hqx:=(ok1.line x hmx).2.1
   have hqy:=(ok2.line y hm).2.1
   have hcg:cgL was is n=(if oc x.2.2.1 y.2.2.1=true then [vU (bH is) n y] else [])++((if x.2.2.2.2.2≠y.2.2.2.2.2 then [zk (bH is) n y] else [])++(if oc x.2.2.2.2.1 y.2.2.2.2.1=true then [zj (bH is) n y] else [])):=by
    unfold cgL;rw[ha,hb];rfl
   have hone:=h.one hn
   rw[hcg] at hone
   by_cases d1:oc x.2.2.1 y.2.2.1=true
   ·rw[Xe d1] at hone hcg
    have hd2:¬x.2.2.2.2.2≠y.2.2.2.2.2:=fun e=>by
     rw[Xe e] at hone
     rcases hone with h1 | ⟨_,h1⟩<;>simp at h1
    have hd3:¬oc x.2.2.2.2.1 y.2.2.2.2.1=true:=fun e=>by
     rw[Xe e,Xd hd2] at hone
     rcases hone with h1 | ⟨_,h1⟩<;>simp at h1
    obtain⟨j,m,h1⟩:=h.Hv hn (e:=vU (bH is) n y) (by rw[hcg];exact VG _ (VR.2 rfl))
    rw[ha] at h1
    exact⟨_,h1,⟨hnox.trans hno.symm,hart.symm,hunit.symm,Uw.1 hd2,rfl,A4 hd3⟩⟩
   ·rw[Xd d1,VS] at hone hcg
    have hu:=Nz hqx hqy (A4 d1)
    by_cases d2:x.2.2.2.2.2≠y.2.2.2.2.2
    ·rw[Xe d2] at hone hcg
     have hd3:¬oc x.2.2.2.2.1 y.2.2.2.2.1=true:=fun e=>by
      rw[Xe e] at hone
      rcases hone with h1 | ⟨_,h1⟩<;>simp at h1
     obtain⟨j,m,h1⟩:=h.Hv hn (e:=zk (bH is) n y) (by rw[hcg];exact VG _ (VR.2 rfl))
     rw[ha] at h1
     exact⟨_,h1,⟨hnox.trans hno.symm,hart.symm,hunit.symm,rfl,hu,A4 hd3⟩⟩
    ·rw[Xd d2,VS] at hone hcg
     have hdue:=Uw.1 d2
     by_cases d3:oc x.2.2.2.2.1 y.2.2.2.2.1=true
     ·rw[Xe d3] at hcg
      obtain⟨j,m,h1⟩:=h.Hv hn (e:=zj (bH is) n y) (by rw[hcg];exact VR.2 rfl)
      rw[ha] at h1
      exact⟨_,h1,⟨hnox.trans hno.symm,hart.symm,hunit.symm,hdue,hu,rfl⟩⟩
     ·rw[Xd d3] at hcg
      have h1:=h.quiet (.inl hcg)
      rw[ha] at h1
      exact⟨_,h1,⟨hnox.trans hno.symm,hart.symm,hunit.symm,hdue,hu,A4 d3⟩⟩
theorem S7 {A:List ak} (hI:Ids A) {s:ak} (hs:s∈A):gL s.no A=some s:=by
 obtain⟨k,hk⟩:=Vi hs
 have hf:bp s.no 0 A=some (0+k):=Bb hI.nd hk rfl
 rcases uk s.no A 0 with ⟨h1,_⟩ | ⟨k',x,h1,h2,h3,_⟩
 ·rw[hf] at h1;cases h1
 ·rw[hf] at h1
  have:k=k':=by have:=Option.some.inj h1;omega
  subst this
  rw[hk] at h2;cases h2
  exact h3
theorem Th {A:List ak} {n:Int} {s:ak} (h:gL n A=some s):s∈A/\s.no=n:=by
 rcases uk n A 0 with ⟨_,h2⟩ | ⟨k,x,_,h2,h3,h4⟩
 ·rw[h] at h2;cases h2
 ·rw[h] at h3;cases h3
  exact⟨VO h2,h4⟩
theorem E1 {R:ak->ai->Prop}:∀ (F:List ak) (L:List ai),F.Pairwise (fun a b=>a.no<b.no)->L.Pairwise (fun a b=>a.1<b.1)->(∀ s∈F,∃ y∈L,s.no=y.1/\R s y)->(∀ y∈L,∃ s∈F,s.no=y.1/\R s y)-> F.length=L.length/\∀ (i:Nat) (s:ak) (y:ai),F[i]? =some s->L[i]? =some y->R s y
 | [],[],_,_,_,_=>⟨rfl,fun i s y h=>by simp at h⟩
 | [],y::L,_,_,_,h=>by obtain⟨s,hs,_⟩:=h y (VJ ..);cases hs
 | s::F,[],_,_,h,_=>by obtain⟨y,hy,_⟩:=h s (VJ ..);cases hy
 | s::F,y::L,hF,hL,h1,h2=>by
  rw[List.pairwise_cons] at hF hL
  obtain⟨y',hy',e1,r1⟩:=h1 s (VJ ..)
  obtain⟨s',hs',e2,r2⟩:=h2 y (VJ ..)
  have hsy:s.no=y.1:=by
   rcases VH.1 hy' with rfl | hy'
   ·exact e1
   ·rcases VH.1 hs' with rfl | hs'
    ·exact e2
    ·have:=hL.1 y' hy';have:=hF.1 s' hs';omega
  have hr:R s y:=by
   rcases VH.1 hy' with rfl | hy'
   ·exact r1
   ·have:=hL.1 y' hy';omega
  have ih:=E1 F L hF.2 hL.2 (fun t ht=>by
   obtain⟨z,hz,e,r⟩:=h1 t (VI _ ht)
   rcases VH.1 hz with rfl | hz
   ·have:=hF.1 t ht;omega
   ·exact⟨z,hz,e,r⟩) (fun z hz=>by
   obtain⟨t,ht,e,r⟩:=h2 z (VI _ hz)
   rcases VH.1 ht with rfl | ht
   ·have:=hL.1 z hz;omega
   ·exact⟨t,ht,e,r⟩)
  refine⟨by rw[Vs,Vs,ih.1],fun i t z ht hz=> ?_⟩
  cases i with
  | zero=>
   simp only[Vc,Option.some.injEq] at ht hz
   subst ht;subst hz;exact hr
  | succ i=>
   rw[Vb] at ht hz
   exact ih.2 i t z ht hz
theorem fY.PL (h:fY was is):lZ was (cT was is++eX 0 (cT was is))=0:=by
 unfold lZ
 rw[Xd (fun e=>e h.o1)]
 exact Tw (day:=bH is) h.ok (fun d hd=>by
  obtain⟨n,hn,e,he,m,rfl⟩:=zT hd
  obtain⟨_,h2,h3,_⟩:=rE he
  exact⟨h2,h3⟩) h.len
theorem fY.same (h:fY was is):((ew (rF was is)).filter rI).length=(bT is).length/\∀ (i:Nat) (s:ak) (y:ai),((ew (rF was is)).filter rI)[i]? =some s->(bT is)[i]? =some y->Vx s y:=by
 have ok2:=nx h.o2
 obtain⟨_,hI⟩:=Ll h.PL 0 3652059
 refine E1 _ _ ((SO hI).sublist List.filter_sublist) ok2.srt (fun s hs=> ?_) (fun y hy=> ?_)
 ·rw[VK,(pq _).mem_iff] at hs
  have hg:=S7 hI hs.1
  have hon:0<s.ord:=Xk hs.2
  cases hb:aR (laW is) s.no with
  | none=>have:=(h.fin s.no).2 hb s hg;omega
  | some y=>
   obtain⟨s',h1,h2⟩:=(h.fin s.no).1 y hb
   rw[hg] at h1;cases h1
   exact⟨y,(jc hb).1,h2.no,h2⟩
 ·obtain⟨s,h1,h2⟩:=(h.fin y.1).1 y (vu ok2.srt hy)
  obtain⟨hm,_⟩:=Th h1
  have hpos:0<s.ord:=by
   rw[h2.ord]
   exact (iC (ok2.line y hy).2.1).2.2 rfl
  exact⟨s,VK.2 ⟨(pq _).mem_iff.2 hm,WX hpos⟩,h2.no,h2⟩
end
end Go.Md
namespace Go.Md
open Go.Dn
theorem TB {s:ak} {y:ai} (h:Vx s y) (hq:qOk y.2.2.1 false=true):vH (wW s.ord) y.2.2.1=some (0,()):=by
 obtain⟨h3,h4,_⟩:=iC hq
 rw[h.ord,Mp (OW (by omega)) (SD hq),Int.sub_self]
 rfl
theorem TA {s:ak} {y:ai} (h:Vx s y) (hp:inR y.2.2.2.2.1 0 1000000000 4=true):vH (dM s.price) y.2.2.2.2.1=some (0,()):=by
 obtain⟨_,_,h2,h3⟩:=sw hp
 rw[h.pr,QK (Xk (OO hp)).1 (Xk hp).1,A0 h2 h3,Int.sub_self]
 rfl
section
variable {was is:aj}
theorem fY.byValue (h:fY was is):wT (Ro was (rF was is)) is=some (true,()):=by
 have ok2:=nx h.o2
 obtain⟨hlen,hsame⟩:=h.same
 have hL0:(rK (rF was is)).length=(bT is).length:=by unfold rK;rw[Vt,hlen]
 obtain⟨o1,o2,o3,o4,o5,lns⟩:=is
 change (rK _).length=lns.length at hL0
 unfold wT Ro
 dsimp only
 generalize hL:rK (rF was (o1,o2,o3,o4,o5,lns))=L0 at hL0
 rw[show ((L0.length:Int) != (lns.length:Int))=false by simp[hL0],WU]
 have hle:lns.length<=500:=ok2.len
 have:=mP (f:=rf) (fun (_:Unit) (i:Nat)=>((L0,(L0.length:Int),(i:Int),o1,o2,o3,o4,o5,lns,()):ri)) L0
  (fun (_:Unit) _ _ k=>k ()) (fun _=>some (Sum.inr ())) (fun s i z again hz=>by
    have hi:i<L0.length:=(Vg.1 hz).1
    obtain⟨y,hy⟩:∃ y,lns[i]? =some y:=⟨_,Ve (by omega)⟩
    obtain⟨t,ht,rfl⟩:∃ t,((ew (rF was (o1,o2,o3,o4,o5,lns))).filter rI)[i]? =some t/\mj t=z:=by
     rw[<- hL] at hz
     unfold rK at hz
     rw[Vh] at hz
     cases hc:((ew (rF was (o1,o2,o3,o4,o5,lns))).filter rI)[i]? with
     | none=>rw[hc] at hz;cases hz
     | some t=>rw[hc] at hz;exact⟨t,rfl,Option.some.inj hz⟩
    have hv:Vx t y:=hsame i t y ht hy
    have hm:y∈lns:=VO hy
    obtain⟨_,hq,_,hp,_⟩:=ok2.line y hm
    unfold rf
    dsimp only
    rw[WX (show (i:Int)<(L0.length:Int) by omega),WV,cO hz,WG,cO hy,WG]
    unfold mj
    dsimp only
    rw[show (t.no != y.1)=false by simp[hv.no],WU,show (!(t.art==y.2.1))=false by simp[hv.art],WU,show (!(t.unit==y.2.2.2.1))=false by simp[hv.unit],WU,show (t.due != y.2.2.2.2.2)=false by simp[hv.due],WU,TB hv hq,WG]
    dsimp only
    rw[show ((0:Int) != 0)=false from rfl,WU,TA hv hp,WG]
    dsimp only
    rw[show ((0:Int) != 0)=false from rfl,WU,aG (n:=(i:Int)+1) (by omega) (by omega)]
    rfl) (fun s again=>by
    unfold rf
    dsimp only
    rw[WW (show ¬((L0.length:Int)<(L0.length:Int)) by omega),WU]) ()
 have hfor:∀ (r:List ai) (i:Nat) (β:Type) (f:Option β),oJ (fun (_:Unit) _ _ k=>k ()) (fun _=>f) r i ()=f:=by
  intro r
  induction r with
  | nil=>intro i β f;rfl
  | cons y r ih=>intro i β f;exact ih (i+1) β f
 refine (congrArg (fun z=>aI z _) ((this _ ?_).trans (hfor _ _ _ _))).trans rfl
 exact Nat.lt_add_of_pos_right (Nat.pos_of_ne_zero fun h=>by simp only[Nat.add_eq_zero_iff] at h;obtain⟨_,_,_,_,_,_,_,_,h⟩:=h;cases h)
end
theorem Lu {was is:aj} (h:(lq was is).2≠0):(lq was is).1=[]:=by
 unfold lq at h ⊢
 split
 ·rfl
 ·split
  ·rfl
  ·split
   ·rfl
   ·split
    ·rfl
    ·split
     ·rfl
     ·split
      ·rfl
      ·rename_i h1 h2 h3 h4 h5 h6
       rw[Xd h1,Xd h2,Xd h3,Xd h4,Xd h5,Xd h6] at h
       exact absurd rfl h
theorem Km {was is:aj} (h:(lq was is).2=0):(lq was is).1=cT was is/\eV was=0/\eV is=0/\gf (dI (bT was)) (dI (bT is))=false/\bH was<=bH is/\fC (cT was is)=0:=by
 unfold lq at h ⊢
 by_cases h1:eV was≠0
 ·rw[Xe h1] at h;exact absurd h h1
 rw[Xd h1] at h ⊢
 by_cases h2:eV is≠0
 ·rw[Xe h2] at h;exact absurd h h2
 rw[Xd h2] at h ⊢
 by_cases h3:¬DH was is
 ·rw[Xe h3] at h;cases h
 rw[Xd h3] at h ⊢
 by_cases h4:gf (dI (bT was)) (dI (bT is))=true
 ·rw[Xe h4] at h;cases h
 rw[Xd h4] at h ⊢
 by_cases h5:bH is<bH was
 ·rw[Xe h5] at h;cases h
 rw[Xd h5] at h ⊢
 by_cases h6:fC (cT was is)≠0
 ·rw[Xe h6] at h;exact absurd h h6
 rw[Xd h6] at h ⊢
 exact⟨rfl,Uw.1 h1,Uw.1 h2,by simpa using h4,by omega,Uw.1 h6⟩
theorem law9_ChangesLeadThere (was is:aj):gi was is=some (true,()):=by
 unfold gi
 rw[FX,WG]
 dsimp only
 by_cases hf:(lq was is).2=0
 rotate_left
 ·rw[gA hf,WV,Lu hf,Cy]
  rfl
 obtain⟨h1,h2,h3,h4,h5,h6⟩:=Km hf
 rw[hf,h1]
 obtain⟨hlen,_⟩:=uP h6
 have l1:=(nx h2).len
 have l2:=(nx h3).len
 change List.length was.2.2.2.2.2<=500 at l1
 change List.length is.2.2.2.2.2<=500 at l2
 rw[show ((0:Int) != 0)=false from rfl,WU,HQ _ hlen,WG]
 dsimp only
 by_cases hw:Ld (cT was is)>1
 ·rw[WX hw,WV,Cy];rfl
 rw[WW hw,WU,aG (n:=2*((cT was is).length:Int)) (by omega) (by omega)]
 by_cases hl:2*((cT was is).length:Int)>2000
 ·rw[WX hl,WV,Cy];rfl
 rw[WW hl,WU]
 rw[aG (n:=((List.length was.2.2.2.2.2:Int))+((List.length is.2.2.2.2.2:Int))) (by omega) (by omega)]
 by_cases hs:((List.length was.2.2.2.2.2:Int))+((List.length is.2.2.2.2.2:Int))>500
 ·rw[WX hs,WV,Cy];rfl
 rw[WW hs,WU,QJ _ hlen,WG]
 dsimp only
 have hok:fY was is:=⟨h2,h3,h4,h5,h6,by omega,by omega,by
  show List.length was.2.2.2.2.2+List.length is.2.2.2.2.2<=500
  omega⟩
 rw[Hz,Xd (fun e=>e hok.PL)]
 have hne:rK (rF was is)≠[]:=fun e=>by
  have h7:=hok.same.1
  have h8:(rK (rF was is)).length=(bT is).length:=by unfold rK;rw[Vt,h7]
  rw[e] at h8
  exact (nx h3).ne (List.length_eq_zero_iff.1 h8.symm)
 rw[Xd hne,WG]
 dsimp only
 rw[show ((0:Int)==0)=true from rfl,WV,hok.byValue,WG]
 dsimp only
 rw[WV,Cy]
 rfl
end Go.Md
