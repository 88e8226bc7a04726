/-
  Plain facts: scans compared, what was received; the plain law is true of all data. No condition.
-/
import Derived.Test.YtfghdjdpccoleabGreatDoorYg
set_option linter.all false
set_option linter.all false
set_option maxRecDepth 20000
namespace Go.Md
open Go.Dn
theorem NZ:CW bQ:=by
 have e:bQ=Et (fun a b:aa=>Lib.compareBytes a.1 b.1) (Et (fun a b=>Lib.compareBytes a.2.1 b.2.1) (fun a b=>Lib.compareBytes a.2.2.1 b.2.2.1)):=by
  funext a b
  unfold bQ Et bV
  dsimp only
  by_cases h1:Lib.compareBytes a.1 b.1=0
  ·rw[aiB h1,aiB h1]
   unfold bV
   by_cases h2:Lib.compareBytes a.2.1 b.2.1=0
   ·rw[aiB h2,aiB h2]
    unfold bV
    by_cases h3:Lib.compareBytes a.2.2.1 b.2.2.1=0
    ·rw[aiB h3,h3];rfl
    ·rw[aiA h3]
   ·rw[aiA h2,aiA h2]
  ·rw[aiA h1,aiA h1]
 rw[e]
 exact (J3 _).lex ((J3 _).lex (J3 _))
theorem abi {R:List (T3×Int)} (h:tc fH R) {p:T3×Int} (hp:p∈R):gw p.1 R=some p.2:=by
 induction R with
 | nil=>cases hp
 | cons q r ih=>
  unfold tc at h
  rw[ahk] at h
  unfold gw
  rcases ag3.1 hp with rfl | hp
  ·rw[aiB rfl]
  ·rw[aiA (fun e=>by have:=h.1 p hp;rw[e,XS.irr] at this;cases this)]
   exact ih h.2 hp
theorem XA (c:aa):∀ l:List aa,(∀ y∈l,k3 y≠k3 c)->qIn l c=0
 | [],_=>rfl
 | y::r,h=>by
  unfold qIn
  rw[aiA (fun e=>h y ag5 (DI e))]
  exact XA c r fun z hz=>h z (ag4 _ hz)
theorem PC (s:Int):∀ (l:List aa) {R:List (T3×Int)},tc fH R->tc fH (b8 s R l)
 | [],_,h=>h
 | c::r,_,h=>PC s r (JU XS h)
theorem LV (s:Int) (k:T3):∀ (l:List aa) (R:List (T3×Int)),k∈(b8 s R l).map (·.1)↔k∈R.map (·.1)\/k∈l.map k3
 | [],R=>by simp[b8]
 | c::r,R=>by
  have h:=LV s k r (dA fH (k3 c) (s*v9 c.2.2.2) R)
  rw[LX] at h
  show k∈(b8 s (dA fH (k3 c) (s*v9 c.2.2.2) R) r).map (·.1)↔_
  rw[h,agY,ag3]
  constructor
  ·rintro ((h | h) | h)
   ·exact .inr (.inl h)
   ·exact .inl h
   ·exact .inr (.inr h)
  ·rintro (h | h | h)
   ·exact .inl (.inr h)
   ·exact .inl (.inl h)
   ·exact .inr h
theorem LW (s:Int) (c:aa):∀ (l:List aa) (R:List (T3×Int)),tc fH R->LU l->(gw (k3 c) (b8 s R l)).getD 0=(gw (k3 c) R).getD 0+s*qIn l c
 | [],R,_,_=>by simp[b8,qIn]
 | x::r,R,hR,hl=>by
  have hl':=ahk.1 hl
  have ih:=LW s c r (dA fH (k3 x) (s*v9 x.2.2.2) R) (JU XS hR) hl'.2
  show (gw (k3 c) (b8 s (dA fH (k3 x) (s*v9 x.2.2.2) R) r)).getD 0=_
  rw[ih,Fg XS _ hR,show qIn (x::r) c=if bQ x c=0 then v9 x.2.2.2 else qIn r c from rfl]
  by_cases e:k3 c=k3 x
  ·rw[aiB e,aiB (by rw[IU e.symm (rfl:k3 c=k3 c),Hh]),e,XA c r (fun y hy ek=>by
    have:=hl'.1 y hy
    rw[IU e.symm ek,Hh] at this;omega)]
   simp
  ·rw[aiA e,aiA (fun e'=>e (DI e').symm)]
def MA (t:Bys) (was is:List aa) (c:aa):Option an:=Cs t (k3 c,qIn is c - qIn was c)
def JV (l:List aa):List aa:=fQ (fun a b=>decide (bQ a b=0)) l
theorem aeT (a b:aa):fH (k3 a) (k3 b)=decide (bQ a b<0):=by
 unfold fH
 rw[IU (a:=((k3 a).1,(k3 a).2.1,(k3 a).2.2,0,0)) (a':=a) (b:=((k3 b).1,(k3 b).2.1,(k3 b).2.2,0,0)) (b':=b) rfl rfl]
theorem abX {was is l:List aa} (hw:LU was) (hi:LU is) (hl:l.Pairwise fun a b=>¬ bQ b a<0) (hp:(was++is).Perm l): b8 1 (b8 (-1) [] was) is=(JV l).map fun c=>(k3 c,qIn is c - qIn was c):=by
 have h0:tc fH (b8 (-1) [] was):=PC _ was List.Pairwise.nil
 have h1:tc fH (b8 1 (b8 (-1) [] was) is):=PC _ is h0
 obtain⟨c1,c2,c3⟩:=Vg NZ l hl
 have hk:(b8 1 (b8 (-1) [] was) is).map (·.1)=(JV l).map k3:=by
  refine Li XS ?_ ?_ fun x=> ?_
  ·rw[ahm];exact h1
  ·rw[ahm]
   exact c2.imp fun {a b} h=>by rw[aeT];exact ais h
  ·rw[LV,LV]
   constructor
   ·intro h
    have:∃ y∈l,k3 y=x:=by
     rcases h with (h | h) | h
     ·cases h
     ·obtain⟨y,hy,e⟩:=ag9.1 h
      exact⟨y,hp.mem_iff.1 (ag1 _ hy),e⟩
     ·obtain⟨y,hy,e⟩:=ag9.1 h
      exact⟨y,hp.mem_iff.1 (ag2 _ hy),e⟩
    obtain⟨y,hy,e⟩:=this
    obtain⟨z,hz,ez⟩:=c3 y hy
    exact ag9.2 ⟨z,hz,(DI ez).trans e⟩
   ·intro h
    obtain⟨z,hz,e⟩:=ag9.1 h
    rcases ag0.1 (hp.mem_iff.2 (c1 z hz)) with g | g
    ·exact .inl (.inr (ag9.2 ⟨z,g,e⟩))
    ·exact .inr (ag9.2 ⟨z,g,e⟩)
 have e1:b8 1 (b8 (-1) [] was) is=((b8 1 (b8 (-1) [] was) is).map (·.1)).map fun k=>(k,(gw k (b8 1 (b8 (-1) [] was) is)).getD 0):=by
  rw[agZ]
  conv=>lhs;rw[<- List.map_id (b8 1 (b8 (-1) [] was) is)]
  refine agX fun p hp=> ?_
  show p=(p.1,(gw p.1 (b8 1 (b8 (-1) [] was) is)).getD 0)
  rw[abi h1 hp];rfl
 rw[e1,hk,agZ]
 refine agX fun c _=> ?_
 show (k3 c,(gw (k3 c) (b8 1 (b8 (-1) [] was) is)).getD 0)=_
 rw[LW 1 c is _ h0 hi,LW (-1) c was [] List.Pairwise.nil hw]
 have:((gw (k3 c) ([]:List (T3×Int))).getD 0+ -1*qIn was c+1*qIn is c)=qIn is c - qIn was c:=by
  rw[show gw (k3 c) ([]:List (T3×Int))=none from rfl]
  show (0:Int)+_+_=_
  omega
 rw[this]
def QTh (z:Int):Prop:=∃ t:Int,z=t*1000000/\0<=t/\t<=1000000000000
theorem abF {l:List aa} (h:aX l=0):∀ c∈l,QTh (v9 c.2.2.2):=fun c hc=>by
 have hq:=abD h c hc
 unfold qOk inR at hq
 rw[afv] at hq
 have hq1:=aiG hq.1
 obtain⟨hd,hp,hlo,hhi⟩:=hq1
 have h2:=hd.2
 refine⟨c.2.2.2.1*10 ^ (3 - c.2.2.2.2).toNat, ?_, ?_, ?_⟩
 ·unfold v9
  rw[afN]
  congr 1
  have hk:c.2.2.2.2=0\/c.2.2.2.2=1\/c.2.2.2.2=2\/c.2.2.2.2=3:=by omega
  rcases hk with e | e | e | e<;>rw[e]<;>decide
 ·have hk:c.2.2.2.2=0\/c.2.2.2.2=1\/c.2.2.2.2=2\/c.2.2.2.2=3:=by omega
  rcases hk with e | e | e | e<;>rw[e] at hlo hhi ⊢ <;>simp at hlo hhi ⊢ <;>omega
 ·have hk:c.2.2.2.2=0\/c.2.2.2.2=1\/c.2.2.2.2=2\/c.2.2.2.2=3:=by omega
  rcases hk with e | e | e | e<;>rw[e] at hlo hhi ⊢ <;>simp at hlo hhi ⊢ <;>omega
theorem abC {l:List aa} (h:aX l=0) (c:aa):QTh (qIn l c):=by
 have key:∀ l:List aa,(∀ c∈l,QTh (v9 c.2.2.2))->QTh (qIn l c):=by
  intro l
  induction l with
  | nil=>intro _;exact⟨0,by simp[qIn],by omega,by omega⟩
  | cons y r ih=>
   intro h
   unfold qIn
   split
   ·exact h y ag5
   ·exact ih fun c hc=>h c (ag4 _ hc)
 exact key l (abF h)
theorem Cy (p:Nat) (z:Int):few (p+1) (z*10)=few p z:=by
 rw[few]
 rw[aiB (by omega),Int.mul_ediv_cancel _ (by omega)]
theorem WV (z:Int):few 9 (z*1000000)=few 3 z:=by
 rw[show z*1000000=z*10*10*10*10*10*10 by omega,Cy,Cy,Cy,Cy,Cy,Cy]
theorem adl (p:Nat) (z:Int):((few p z).1<0↔z<0)/\((few p z).1=0↔z=0):=by
 obtain⟨_,h2,_⟩:=I9 p z
 have hp:(0:Int)<10 ^ (p - (few p z).2):=Int.pow_pos (by decide)
 generalize (10:Int) ^ (p - (few p z).2)=m at*
 generalize (few p z).1=y at*
 subst h2
 constructor
 ·constructor
  ·intro h;exact Int.mul_neg_of_neg_of_pos h hp
  ·intro h
   rcases (show y<0\/0<=y by omega) with g | g
   ·exact g
   ·have:=afP g (show (0:Int)<=m by omega)
    omega
 ·constructor
  ·intro h;rw[h,Int.zero_mul]
  ·intro h
   rcases Int.mul_eq_zero.1 h with h | h
   ·exact h
   ·omega
theorem Y2:∀ (p:Nat) (z:Int),few p (-z)=(-(few p z).1,(few p z).2)
 | 0,z=>rfl
 | p+1,z=>by
  unfold few
  by_cases h:z % 10=0
  ·rw[aiB h,aiB (by omega),show -z / 10= -(z / 10) by omega,Y2 p]
  ·rw[aiA h,aiA (by omega)]
theorem aeV {z:Int} (h:z.natAbs<=1000000000000):tl (z*1000000)=nN (z*1000000):=by
 unfold tl nN
 have:=(I9 3 z).2.2
 rw[aiB (by rw[WV];omega)]
theorem aeh {z:Int} (h:z.natAbs<=1000000000000):(few 9 (z*1000000)).1.natAbs<=1000000000000000:=by
 have:=(I9 3 z).2.2
 rw[WV];omega
theorem acd (l m:List aa) (hl:l.length<=1000) (hm:m.length<=1000):jJ [l,m]=some (l++m,()):=by
 unfold jJ
 have e1:∀ f,2<f->iter f (([l,m],(0:Int),[l,m],(([l,m]:List (List aa)).length:Int),(0:Int),()):fC) fB=some (Sum.inr ([l,m],(l.length:Int)+m.length,())):=by
  intro f hf
  refine bn (Inv:=fun i X=>X=(([l,m],(if i=0 then (0:Int) else if i=1 then (l.length:Int) else (l.length:Int)+m.length),[l,m],2,(i:Int),()):fC)) 2 (fun r=>r=some (Sum.inr ([l,m],(l.length:Int)+m.length,()))) ?_ ?_ f 0 _ rfl (by omega) (by omega)
  ·rintro i _ again hi rfl ih
   obtain rfl | rfl:i=0\/i=1:=by omega
   ·unfold fB
    dsimp only
    rw[av (by decide),show idx [l,m] ((0:Nat):Int)=some l from rfl,aib,aiB rfl,au (n:=(0:Int)+(l.length:Int)) (by omega) (by omega),ay (by omega)]
    refine ih _ ?_
    rw[Int.zero_add]
    rfl
   ·unfold fB
    dsimp only
    rw[av (by decide),show idx [l,m] ((1:Nat):Int)=some m from rfl,aib,aiA (by decide),aiB rfl,au (n:=(l.length:Int)+(m.length:Int)) (by omega) (by omega),ay (by omega)]
    exact ih _ rfl
  ·rintro _ again rfl
   unfold fB
   dsimp only
   rw[ay (by decide)]
   rfl
 have wR:maxLen=9223372036854775807:=rfl
 have e2:∀ f,2<f->iter f ((([]:List aa),[l,m],(([l,m]:List (List aa)).length:Int),(0:Int),()):fh) ff=some (Sum.inr (l++m,())):=by
  intro f hf
  refine bn (Inv:=fun i X=>X=(((if i=0 then ([]:List aa) else if i=1 then l else l++m),[l,m],2,(i:Int),()):fh)) 2 (fun r=>r=some (Sum.inr (l++m,()))) ?_ ?_ f 0 _ rfl (by omega) (by omega)
  ·rintro i _ again hi rfl ih
   obtain rfl | rfl:i=0\/i=1:=by omega
   ·unfold ff
    dsimp only
    rw[av (by decide),show idx [l,m] ((0:Nat):Int)=some l from rfl,aib,aiB rfl,aH (by rw[afv];exact⟨ais (by simp only[agQ];omega),ais (by simp only[agQ];omega)⟩),ahh]
    exact ih _ rfl
   ·unfold ff
    dsimp only
    rw[av (by decide),show idx [l,m] ((1:Nat):Int)=some m from rfl,aib,aiA (by decide),aiB rfl,aH (by rw[afv];exact⟨ais (by omega),ais (by omega)⟩)]
    exact ih _ rfl
  ·rintro _ again rfl
   unfold ff
   dsimp only
   rw[ay (by decide)]
   rfl
 rw[e1 _ (by simp),az]
 dsimp only
 have e3:pH [] ((l.length:Int)+m.length)=some ([],()):=by
  show N6 64 [] _=_
  unfold N6
  rw[show ((l.length:Int)+(m.length:Int)).toNat=l.length+m.length by omega,ais (by omega),ais (by simp;omega),ais (by simp;omega)]
  rfl
 rw[e3,aib]
 dsimp only
 rw[e2 _ (by simp),az]
theorem aey (l:List aa) (hl:l.length<100000000):∃ l',jh l ()=some (l',())/\(l'.Pairwise fun a b=>¬ bQ b a<0)/\l.Perm l':=by
 have hc:SQG.xO bE (ur bQ l) (fun x=>x∈l):=fun a b ha hb=>⟨_,eZ a b,Jm NZ ha⟩
 obtain⟨l',h1,h2,h3⟩:=SQG.Lh hc l hl fun z hz=>hz
 refine⟨l',h1, ?_,h3.perm⟩
 have hm:∀ x∈l',x∈l:=fun x hx=>h3.mem.1 hx
 clear h1 h3 hc
 induction l' with
 | nil=>exact List.Pairwise.nil
 | cons x r ih=>
  have h2':=ahk.1 h2
  refine ahk.2 ⟨fun y hy hlt=> ?_,ih h2'.2 fun z hz=>hm z (ag4 _ hz)⟩
  have h4:=h2'.1 y hy
  have h5:=(Jm NZ (y:=x) (hm y (ag4 _ hy))).1 hlt
  omega
theorem aaS (l:List aa):cG l ()=some (JV l,()):=by
 unfold cG JV
 have:(fun a b:aa=>((bE a b).map fun r=>r.1==0).getD false)=fun a b=>decide (bQ a b=0):=by
  funext a b
  rw[eZ]
  rfl
 rw[this]
theorem abs_eq (z:Int) (h:z.natAbs<4294967296 ^ 99):u7 (W z)=some (W (z.natAbs:Int),()):=by
 unfold u7
 have h1:=acX h
 rw[jm false (W z).2 (dV _) (by omega),aib]
 have:v32 (W z).2=(z.natAbs:Int):=dX _
 dsimp only
 rw[aiA (by simp),this]
theorem difference_eq (kind:Int) (t:Bys) (c:aa) {z:Int} (h:z.natAbs<=1000000000000):kM kind t c (W (z*1000000))=some ((kind,t,c.1,c.2.1,c.2.2.1,nN (z*1000000)),0,()):=by
 unfold kM
 rw[Jj (z:=z*1000000) (by show (z*1000000).natAbs<=10 ^ 42;omega),aiB (aeh h),aib]
theorem aaq {z:Int} (h:z.natAbs<=10 ^ 30):z.natAbs<4294967296 ^ 99:=ahN h (ahO (show 10 ^ 30<4294967296 ^ 4 by decide) (ah3 (by decide) (by decide)))
theorem adB {was is:List aa} (hw:aX was=0) (hi:aX is=0) (t:Bys) (a1 a2:Bys) (n1 n2:Int) (b:Bool) (dm:List aa) (C:List aa) (hC:C.length<=1000): ∀ (r:List aa) (i f:Nat) (out:List an),C.drop i=r->i<=C.length->r.length<f->out.length<=i-> iter (X:=tY) (β:=tX) f (out,(C.length:Int),(i:Int),a1,a2,n1,n2,was,t,b,is,dm,C,()) oq=some (Sum.inr (out++r.filterMap (MA t was is),())):=by
 have wR:maxLen=9223372036854775807:=rfl
 have hwl:=cA hw
 have hil:=cA hi
 intro r
 induction r with
 | nil=>
  intro i f out hdr hii hf ho
  have:i=C.length:=by
   have:=congrArg List.length hdr
   simp at this;omega
  obtain⟨f,rfl⟩:∃ m,f=m+1:=⟨f - 1,by omega⟩
  rw[aY]
  unfold oq
  dsimp only
  rw[ay (by omega)]
  simp
 | cons c r ih=>
  intro i f out hdr hii hf ho
  have hx:C[i]? =some c:=by
   have:=congrArg (·[0]?) hdr
   simpa [agy] using this
  have hr':C.drop (i+1)=r:=by
   have:=congrArg List.tail hdr
   simpa [ahr] using this
  have hlt:=(agB.1 hx).1
  obtain⟨f,rfl⟩:∃ m,f=m+1:=⟨f - 1,by simp at hf;omega⟩
  simp only[agN] at hf
  obtain⟨x,ex,x0,x1⟩:=abC hi c
  obtain⟨y,ey,y0,y1⟩:=abC hw c
  have hfm:(c::r).filterMap (MA t was is)=(match MA t was is c with | some d=>d::r.filterMap (MA t was is) | none=>r.filterMap (MA t was is)):=by
   rw[agk]
   cases MA t was is c<;>rfl
  have hz:qIn is c - qIn was c=(x - y)*1000000:=by rw[ex,ey,Int.sub_mul]
  have hzb:(x - y).natAbs<=1000000000000:=by omega
  have hW:nV (W (qIn is c)) (W (qIn was c))=some (W ((x - y)*1000000),()):=by
   rw[EY _ _ (aaq (by omega)) (aaq (by omega)),hz]
  have hdp:MA t was is c=Cs t (k3 c,(x - y)*1000000):=by unfold MA;rw[hz]
  rw[aY,hfm,hdp]
  generalize hag:(fun y=>iter f y oq)=again
  unfold oq
  dsimp only
  rw[av (by omega),aH (by rw[afv];exact⟨ais (by omega),ais (by omega)⟩),afY,hx,aib,Ev (by omega) (JI hi) (uI hi) c,aib,Ev (by omega) (JI hw) (uI hw) c,aib]
  dsimp only
  rw[hW,aib]
  dsimp only
  rw[rI,aib]
  dsimp only
  rw[au (n:=(i:Int)+1) (by omega) (by omega),show (i:Int)+1=((i+1:Nat):Int) by omega]
  have hs:=adl 9 ((x - y)*1000000)
  have htl:=aeV hzb
  have htd:(nN ((x - y)*1000000)).1=(few 9 ((x - y)*1000000)).1:=rfl
  unfold Cs
  dsimp only
  rw[htl,htd]
  by_cases h0:x - y=0
  ·rw[h0,Int.zero_mul,Int.sign_zero,show ((0:Int)==0)=true from rfl,aio,aiB (by rw[WW]), <- hag]
   exact ih (i+1) f out hr' (by omega) (by omega) (by omega)
  ·have hne:¬ (few 9 ((x - y)*1000000)).1=0:=fun e=>h0 (by have:=hs.2.1 e;omega)
   rw[aiA hne]
   have habs:u7 (W ((x - y)*1000000))=some (W ((((x - y).natAbs:Nat):Int)*1000000),()):=by
    rw[abs_eq _ (aaq (by omega))]
    congr 3
    omega
   have hde:=fun kind=>difference_eq kind t c (z:=(((x - y).natAbs:Nat):Int)) (by omega)
   by_cases hn:x - y<0
   ·rw[afU (show (x - y)*1000000<0 by omega),show ((-1:Int)==0)=false from rfl,ain,show ((-1:Int)== -1)=true from rfl,aio,az,aiB (hs.1.2 (by omega))]
    dsimp only
    rw[show ((W ((x - y)*1000000)).1,(W ((x - y)*1000000)).2)=W ((x - y)*1000000) from rfl,habs,aib]
    dsimp only
    rw[hde,aib]
    dsimp only
    rw[zne,ain,aH (by rw[afv];exact⟨ais (by omega),ais (by omega)⟩),au (n:=(i:Int)+1) (by omega) (by omega),show (i:Int)+1=((i+1:Nat):Int) by omega, <- hag]
    refine (ih (i+1) f _ hr' (by omega) (by omega) (by simp;omega)).trans ?_
    rw[af3]
    have e:nN ((((x - y).natAbs:Nat):Int)*1000000)=(-(nN ((x - y)*1000000)).1,(nN ((x - y)*1000000)).2):=by
     rw[show (((x - y).natAbs:Nat):Int)*1000000= -((x - y)*1000000) by omega]
     unfold nN
     rw[Y2]
    rw[e]
    rfl
   ·rw[afV (show 0<(x - y)*1000000 by omega),show ((1:Int)==0)=false from rfl,ain,show ((1:Int)== -1)=false from rfl,ain,az,aiA (fun e=>hn (by have:=hs.1.1 e;omega))]
    dsimp only
    rw[show ((W ((x - y)*1000000)).1,(W ((x - y)*1000000)).2)=W ((x - y)*1000000) from rfl,habs,aib]
    dsimp only
    rw[hde,aib]
    dsimp only
    rw[zne,ain,aH (by rw[afv];exact⟨ais (by omega),ais (by omega)⟩),au (n:=(i:Int)+1) (by omega) (by omega),show (i:Int)+1=((i+1:Nat):Int) by omega, <- hag]
    refine (ih (i+1) f _ hr' (by omega) (by omega) (by simp;omega)).trans ?_
    rw[af3,show (((x - y).natAbs:Nat):Int)*1000000=(x - y)*1000000 by omega]
    rfl
def Qa (t:Bys) (was is:List aa):List an:=(b8 1 (b8 (-1) [] was) is).filterMap (Cs t)
theorem Wh {α:Type} (eq:α->α->Bool):∀ l:List α,(fQ eq l).length<=l.length:=by
 have key:∀ (r:List α) (x:α),(dU eq x r).length<=r.length:=by
  intro r
  induction r with
  | nil=>intro x;exact ahJ _
  | cons y r ih=>
   intro x
   unfold dU
   split
   ·have:=ih y;simp;omega
   ·have:=ih y;simp;omega
 intro l
 cases l with
 | nil=>exact ahJ _
 | cons x r=>have:=key r x;unfold fQ;simp;omega
theorem Qz (p:ak) (s:aj) (hw:aX p.2.2.2=0) (hi:aX s.2.2.1=0):zG p s=some (Qa s.1 p.2.2.2 s.2.2.1,0,()):=by
 have hwl:=cA hw
 have hil:=cA hi
 unfold zG
 rw[acd _ _ (by omega) (by omega),aib]
 dsimp only
 obtain⟨l',h1,h2,h3⟩:=aey (p.2.2.2++s.2.2.1) (by rw[agM];omega)
 rw[h1,aib]
 dsimp only
 rw[aaS,aib]
 dsimp only
 have hl':l'.length<=200:=by rw[<- h3.length_eq,agM];omega
 have hC:(JV l').length<=200:=ahK (Wh _ _) hl'
 have h6:=adB hw hi s.1 p.1 p.2.1 p.2.2.1.1 p.2.2.1.2 s.2.1 s.2.2.2 (JV l') (by omega) (JV l') 0 (List.length ([]:List an)+(Int.natAbs ((List.length (JV l'):Int))+(Int.natAbs (0:Int)+(p.1.length+(p.2.1.length+(p.2.2.1.1.natAbs+(p.2.2.1.2.natAbs+(p.2.2.2.length+(s.1.length+(s.2.2.1.length+(s.2.2.2.length+(List.length (JV l')+2)))))))))))) [] rfl (ah8 _) (by omega) (ahJ _)
 rw[show ((0:Nat):Int)=0 from rfl] at h6
 rw[h6,az]
 unfold Qa
 rw[abX (JI hw) (JI hi) h2 h3,List.filterMap_map]
 rfl
end Go.Md
set_option linter.all false
set_option maxRecDepth 20000
namespace Go.Md
open Go.Dn
structure Ek (S:List aj):Prop where
 len:S.length<=500
 asc:Asc (·.1) S
 cs:∀ s∈S,aX s.2.2.1=0/\aX s.2.2.2=0
theorem IB {S:List aj} (h:oz S=0):Ek S:=by
 unfold oz at h
 split at h
 ·omega
 rename_i hl
 have step:∀ i x y,S[i]? =some x->S[i+1]? =some y->Op.bytesLess x.1 y.1=true:=fun i x y hx hy=>by
  have:=gF h (i+1) y hy
  rw[ah7] at this
  unfold sF at this
  split at this
  ·omega
  ·split at this
   ·omega
   ·rename_i h2
    have h3:Fi S (i+1) y=false:=by simpa using h2
    simp only[Fi,hx,afH,aik] at h3
    rcases sN x.1 y.1 with h1 | h1 | h1
    ·exact h1
    ·exact absurd h1.symm h3.2
    ·rw[h3.1] at h1;cases h1
 refine⟨by omega, ?_,fun s hs=> ?_⟩
 ·intro i j x y hij hx hy
  induction j generalizing y with
  | zero=>omega
  | succ j ih=>
   rcases ahS.1 hij with h1 | h1
   ·have hj:j<S.length:=by have:=(agB.1 hy).1;omega
    have hz:S[j]? =some S[j]:=aD hj
    exact er (ih _ h1 hz) (step j _ y hz hy)
   ·subst h1;exact step i x y hx hy
 ·obtain⟨i,hi⟩:=ag8.1 hs
  have:=gF h i s hi
  unfold sF at this
  split at this
  ·omega
  split at this
  ·omega
  split at this
  ·omega
  split at this
  ·omega
  split at this
  ·omega
  omega
theorem PB (s:Int):∀ (l:List aa) (R:List (T3×Int)),(b8 s R l).length<=R.length+l.length
 | [],R=>ahJ _
 | c::r,R=>by
  have h1:=PB s r (dA fH (k3 c) (s*v9 c.2.2.2) R)
  have h2:=LY (k3 c) (s*v9 c.2.2.2) R
  show (b8 s (dA fH (k3 c) (s*v9 c.2.2.2) R) r).length<=_
  rw[agN];omega
theorem acj {was is:List aa} (hw:aX was=0) (hi:aX is=0) (t:Bys):(Qa t was is).length<=200:=by
 have h1:=cA hw
 have h2:=cA hi
 have h3:=PB 1 is (b8 (-1) [] was)
 have h4:=PB (-1) was []
 unfold Qa
 refine ahK (List.length_filterMap_le _ _) ?_
 simp only[agQ] at h4
 omega
def Ii (t:Bys) (c:aa):an:=(5,t,c.1,c.2.1,c.2.2.1,nN (v9 c.2.2.2))
def headD (l:List ak) (s:aj):List an:=match cq (fun p:ak=>p.1) s.1 l with
 | none=>[(2,s.1,[],[],[],0,0)]
 | some i=>if s.2.1=true then [] else Qa s.1 ((l[i]?).map (·.2.2.2)).get! s.2.2.1
def KQ (l:List ak) (s:aj):List an:=headD l s++s.2.2.2.map (Ii s.1)
theorem MO {l:List ak} (hl:∀ p∈l,aX p.2.2.2=0) {s:aj} (hs:aX s.2.2.1=0):(headD l s).length<=200:=by
 unfold headD
 split
 ·simp
 ·rename_i i hi
  obtain⟨p,hp,_⟩:=fM hi
  split
  ·simp
  ·rw[hp]
   exact acj (hl p (aha hp)) hs _
theorem UX {l:List ak} (hl:∀ p∈l,aX p.2.2.2=0) {s:aj} (hs:aX s.2.2.1=0) (hd:aX s.2.2.2=0):(KQ l s).length<=300:=by
 have h1:=MO hl hs
 have h2:=cA hd
 unfold KQ
 rw[agM,agP];omega
theorem acm {l:List aa} (h:aX l=0) {c:aa} (hc:c∈l) (kind:Int) (t:Bys):kM kind t c (W (v9 c.2.2.2))=some ((kind,t,c.1,c.2.1,c.2.2.1,nN (v9 c.2.2.2)),0,()):=by
 obtain⟨z,hz,h0,h1⟩:=abF h c hc
 rw[hz]
 exact difference_eq kind t c (by omega)
theorem abS {S:List aj} (a:aG) (s:aj) (hd:aX s.2.2.2=0) (O:List an) (hO:O.length<=1000) (f:Nat) (hf:s.2.2.2.length<f): iter (X:=eH) (β:=gp) f (O,s.2.2.2,(s.2.2.2.length:Int),0,s.1,s.2.1,s.2.2.1,s.2.2.2,a.1,a.2.1,a.2.2.1,a.2.2.2,S,()) gm=some (Sum.inr (O++s.2.2.2.map (Ii s.1),a.1,a.2.1,a.2.2.1,a.2.2.2,S,())):=by
 have wR:maxLen=9223372036854775807:=rfl
 have hl:=cA hd
 refine bn (Inv:=fun i X=>X=((O++(s.2.2.2.take i).map (Ii s.1),s.2.2.2,(s.2.2.2.length:Int),(i:Int),s.1,s.2.1,s.2.2.1,s.2.2.2,a.1,a.2.1,a.2.2.1,a.2.2.2,S,()):eH)) s.2.2.2.length (fun r=>r=some (Sum.inr (O++s.2.2.2.map (Ii s.1),a.1,a.2.1,a.2.2.1,a.2.2.2,S,()))) ?_ ?_ f 0 _ (by simp) (by omega) (by omega)
 ·rintro i _ again hi rfl ih
  have hy:s.2.2.2[i]? =some s.2.2.2[i]:=aD hi
  have hm:s.2.2.2[i]∈s.2.2.2:=agL hi
  have ets:s.2.2.2.take (i+1)=s.2.2.2.take i++[s.2.2.2[i]]:=by rw[ahx,hy];rfl
  have hlen:(O++(s.2.2.2.take i).map (Ii s.1)).length<=2000:=by rw[agM,agP,agV];omega
  unfold gm
  dsimp only
  rw[av (by omega),aV,hy,aib,A6 (uI hd _ hm),aib]
  dsimp only
  rw[acm hd hm,aib]
  dsimp only
  rw[zne,ain,aH (by rw[afv];exact⟨ais (by omega),ais (by omega)⟩),au (n:=(i:Int)+1) (by omega) (by omega)]
  refine ih _ ?_
  rw[ets,agW, <- af3]
  rfl
 ·rintro _ again rfl
  unfold gm
  dsimp only
  rw[ay (by omega),ahv]
theorem YO {a:aG} (hok:pU a) (hl:∀ p∈a.2.2.2,aX p.2.2.2=0) (S:List aj) (s:aj) (hs:aX s.2.2.1=0) (hd:aX s.2.2.2=0): jf (a,S,()) s=some (KQ a.2.2.2 s,0,(a,S,()),()):=by
 have hal:=hok.len
 unfold jf
 dsimp only
 obtain⟨i,g1,g2⟩:=qu a s.1 (by omega) hok.asc
 rw[g1,aib]
 dsimp only
 have hh:∀ h,h=headD a.2.2.2 s->h.length<=1000:=fun h e=>by rw[e];have:=MO hl hs;omega
 have fin:∀ (O:List an) (f:Nat),s.2.2.2.length<f->O=headD a.2.2.2 s->aJ (β:=((List an)×Int×(aG×(List aj)×Unit)×Unit)) (γ:=((List an)×Bys×Bys×Int×(List ak)×(List aj)×Unit)) (iter (X:=eH) (β:=gp) f (O,s.2.2.2,(s.2.2.2.length:Int),0,s.1,s.2.1,s.2.2.1,s.2.2.2,a.1,a.2.1,a.2.2.1,a.2.2.2,S,()) gm) (fun v9=>some (v9.1,0,((v9.2.1,v9.2.2.1,v9.2.2.2.1,v9.2.2.2.2.1),v9.2.2.2.2.2.1,()),()))=some (KQ a.2.2.2 s,0,(a,S,()),()):=fun O f hf hO=>by
  rw[abS a s hd O (hh O hO) f hf,az,hO]
  rfl
 cases hx:cq (fun p:ak=>p.1) s.1 a.2.2.2 with
 | none=>
  rw[show (!(none:Option Nat).isSome)=true from rfl,aio,az]
  dsimp only
  exact fin _ _ (by omega) (by unfold headD;rw[hx])
 | some k=>
  have:=g2 k hx
  subst this
  obtain⟨p,hp,_⟩:=fM hx
  rw[show (!(some i).isSome)=false from rfl,ain]
  by_cases hsl:s.2.1=true
  ·rw[hsl,afG,ain,az]
   dsimp only
   have e:s=(s.1,true,s.2.2.1,s.2.2.2):=by rw[<- hsl]
   have hf:=fin [] ((List.length ([]:List an))+(s.2.2.2.length+(Int.natAbs ((s.2.2.2.length:Int))+(Int.natAbs (0:Int)+(s.1.length+(s.2.2.1.length+(s.2.2.2.length+(a.1.length+(a.2.1.length+(a.2.2.1.natAbs+(a.2.2.2.length+(List.length S+2)))))))))))) (by omega) (by unfold headD;rw[hx];dsimp only;rw[aiB hsl])
   rw[hsl] at hf
   exact hf
  ·have hsf:s.2.1=false:=by simpa using hsl
   rw[hsf,afF,aio,aV,hp,aib,Qz p s (hl p (aha hp)) hs,aib]
   dsimp only
   rw[zne,ain,az]
   dsimp only
   have hf:=fun n hn=>fin (Qa s.1 p.2.2.2 s.2.2.1) n hn (by unfold headD;rw[hx];dsimp only;rw[aiA hsl,hp];rfl)
   rw[hsf] at hf
   exact hf _ (by omega)
end Go.Md
set_option linter.all false
set_option maxRecDepth 20000
namespace Go.Md
open Go.Dn
def RZ (l:List ak) (S:List aj) (i:Nat):List an:=if TM l S i=true then [(1,lab l i,[],[],[],0,0)] else []
def x7 (l:List ak) (S:List aj) (n:Nat):List an:=(List.range n).flatMap (RZ l S)
def mR (l:List ak) (S:List aj):List an:=S.flatMap (KQ l)
def SK (a:aG) (S:List aj):List an:=x7 a.2.2.2 S a.2.2.2.length++mR a.2.2.2 S
theorem KC (l:List ak) (S:List aj) (n:Nat):x7 l S (n+1)=x7 l S n++RZ l S n:=by
 unfold x7
 rw[List.range_succ,agp,ags]
theorem DT (l:List ak) (S:List aj):∀ n,(x7 l S n).length<=n
 | 0=>ahJ _
 | n+1=>by
  have:=DT l S n
  rw[KC,agM]
  unfold RZ
  split<;>simp<;>omega
theorem HJ {l:List ak} (hl:∀ p∈l,aX p.2.2.2=0):∀ {S:List aj},(∀ s∈S,aX s.2.2.1=0/\aX s.2.2.2=0)->(mR l S).length<=300*S.length
 | [],_=>ahJ _
 | s::r,h=>by
  have h1:=HJ hl (S:=r) fun z hz=>h z (ag4 _ hz)
  have h2:=UX hl (h s ag5).1 (h s ag5).2
  unfold mR at*
  rw[agq,agM,agN];omega
theorem Sq (l:List ak) (S:List aj) (s:aj):mR l (S++[s])=mR l S++KQ l s:=by
 unfold mR;rw[agp,ags]
theorem ab3 {a:aG} (hok:pU a) (hl:∀ p∈a.2.2.2,aX p.2.2.2=0) {S:List aj} (hS:Ek S):(SK a S).length<=200000:=by
 have h1:=DT a.2.2.2 S a.2.2.2.length
 have h2:=HJ hl hS.cs
 have h3:=hok.len
 have h4:=hS.len
 unfold SK
 rw[agM];omega
theorem aeD {a:aG} (hok:pU a) {S:List aj} (hS:Ek S) (f:Nat) (hf:a.2.2.2.length<f): iter (X:=mw) (β:=qi) f (S,[],a.2.2.2,(a.2.2.2.length:Int),0,a.1,a.2.1,a.2.2.1,a.2.2.2,a.1,a.2.1,a.2.2.1,a.2.2.2,S,()) qh=some (Sum.inr (S,x7 a.2.2.2 S a.2.2.2.length,a.1,a.2.1,a.2.2.1,a.2.2.2,S,())):=by
 have hl:=hok.len
 have wR:maxLen=9223372036854775807:=rfl
 refine bn (Inv:=fun i X=>X=((S,x7 a.2.2.2 S i,a.2.2.2,(a.2.2.2.length:Int),(i:Int),a.1,a.2.1,a.2.2.1,a.2.2.2,a.1,a.2.1,a.2.2.1,a.2.2.2,S,()):mw)) a.2.2.2.length (fun r=>r=some (Sum.inr (S,x7 a.2.2.2 S a.2.2.2.length,a.1,a.2.1,a.2.2.1,a.2.2.2,S,()))) ?_ ?_ f 0 _ rfl (by omega) (by omega)
 ·rintro i _ again hi rfl ih
  have hy:a.2.2.2[i]? =some a.2.2.2[i]:=aD hi
  have ha:kT (a.1,a.2.1,a.2.2.1,a.2.2.2) (i:Int)=some (cI (cV a.2.2.2 i),true,()):=aaC hok hi
  have hc:fk ((a.1,a.2.1,a.2.2.1,a.2.2.2),S) (i:Int)=some (gv a.2.2.2 S i,()):=PU hok hS.len hS.asc hi
  have hal:=Ae hok.nl hi
  have hcf:gG (cI (cV a.2.2.2 i)) ((a.1,a.2.1,a.2.2.1,a.2.2.2),S)=some (!(cV a.2.2.2 i).all (gv a.2.2.2 S),()):=Ra hok hS.len hS.asc _ (fun x hx=>NT hx) (by omega)
  have hml:=DT a.2.2.2 S i
  have hsu:=KC a.2.2.2 S i
  unfold RZ TM at hsu
  rw[Oa hy] at hsu
  have hw:w64 ((i:Int)+1)=((i+1:Nat):Int):=by rw[au (by omega) (by omega)];omega
  unfold qh
  dsimp only
  rw[av (by omega),aV,hy,aib,ha,aib,hc,aib]
  dsimp only
  rw[hw]
  cases hcb:gv a.2.2.2 S i with
  | true=>
   rw[afG,ain]
   rw[hcb,afG,afw,aiA (by simp),af4] at hsu
   exact ih _ (by rw[hsu])
  | false=>
   rw[afF,aio,hcf,aib]
   dsimp only
   rw[hcb,afF,afx] at hsu
   cases hall:(cV a.2.2.2 i).all (gv a.2.2.2 S) with
   | true=>
    rw[hall,aiB rfl] at hsu
    rw[afG,afF,aio,aH (by rw[afv];exact⟨ais (by omega),ais (by omega)⟩)]
    exact ih _ (by rw[hsu])
   | false=>
    rw[hall,aiA (by simp),af4] at hsu
    rw[afF,afG,ain]
    exact ih _ (by rw[hsu])
 ·rintro _ again rfl
  unfold qh
  dsimp only
  rw[ay (by omega)]
theorem ad1 {a:aG} (hok:pU a) (hl:∀ p∈a.2.2.2,aX p.2.2.2=0) {S:List aj} (hS:Ek S) (O:List an) (hO:O.length<=1000) (f:Nat) (hf:S.length<f): iter (X:=lB) (β:=oJ) f (O,S,(S.length:Int),0,a.1,a.2.1,a.2.2.1,a.2.2.2,S,()) oI=some (Sum.inr (O++mR a.2.2.2 S,())):=by
 have hSl:=hS.len
 have wR:maxLen=9223372036854775807:=rfl
 refine bn (Inv:=fun i X=>X=((O++mR a.2.2.2 (S.take i),S,(S.length:Int),(i:Int),a.1,a.2.1,a.2.2.1,a.2.2.2,S,()):lB)) S.length (fun r=>r=some (Sum.inr (O++mR a.2.2.2 S,()))) ?_ ?_ f 0 _ (by simp[mR]) (by omega) (by omega)
 ·rintro i _ again hi rfl ih
  have hy:S[i]? =some S[i]:=aD hi
  have hm:S[i]∈S:=agL hi
  have ets:S.take (i+1)=S.take i++[S[i]]:=by rw[ahx,hy];rfl
  have hcs:=hS.cs _ hm
  have hsc:jf ((a.1,a.2.1,a.2.2.1,a.2.2.2),S,()) S[i]=some (KQ a.2.2.2 S[i],0,(a,S,()),()):=YO hok hl S S[i] hcs.1 hcs.2
  have hsl:=HJ hl (S:=S.take i) fun z hz=>hS.cs z (ahb hz)
  have hti:(S.take i).length<=500:=by rw[agV];omega
  have hdl:=UX hl hcs.1 hcs.2
  have hlen:(O++mR a.2.2.2 (S.take i)).length<=200000:=by rw[agM];omega
  unfold oI
  dsimp only
  rw[av (by omega),aV,hy,aib,hsc,aib]
  dsimp only
  rw[zne,ain,aH (by rw[afv];exact⟨ais (by omega),ais (by omega)⟩),au (by omega) (by omega)]
  refine ih _ ?_
  rw[ets,Sq, <- af3]
  rfl
 ·rintro _ again rfl
  unfold oI
  dsimp only
  rw[ay (by omega),ahv]
theorem aeI {a:aG} (hok:pU a) {S:List aj} (hS:Ek S) (f:Nat) (hf:a.2.2.2.length<f): iter (X:=sd) (β:=ye) f (S,[],a.2.2.2,(a.2.2.2.length:Int),0,a.1,a.2.1,a.2.2.1,a.2.2.2,()) yc=some (Sum.inr (S,x7 a.2.2.2 S a.2.2.2.length,a.1,a.2.1,a.2.2.1,a.2.2.2,())):=by
 have hl:=hok.len
 have wR:maxLen=9223372036854775807:=rfl
 refine bn (Inv:=fun i X=>X=((S,x7 a.2.2.2 S i,a.2.2.2,(a.2.2.2.length:Int),(i:Int),a.1,a.2.1,a.2.2.1,a.2.2.2,()):sd)) a.2.2.2.length (fun r=>r=some (Sum.inr (S,x7 a.2.2.2 S a.2.2.2.length,a.1,a.2.1,a.2.2.1,a.2.2.2,()))) ?_ ?_ f 0 _ rfl (by omega) (by omega)
 ·rintro i _ again hi rfl ih
  have hy:a.2.2.2[i]? =some a.2.2.2[i]:=aD hi
  have hc:zg (a.1,a.2.1,a.2.2.1,a.2.2.2) S (i:Int)=some (TM a.2.2.2 S i,()):=TX hok hS.len hi
  have hml:=DT a.2.2.2 S i
  have hsu:=KC a.2.2.2 S i
  unfold RZ at hsu
  rw[Oa hy] at hsu
  have hw:w64 ((i:Int)+1)=((i+1:Nat):Int):=by rw[au (by omega) (by omega)];omega
  unfold yc
  dsimp only
  rw[av (by omega),aV,hy,aib,hc,aib]
  dsimp only
  rw[hw]
  cases hm:TM a.2.2.2 S i with
  | true=>
   rw[hm,aiB rfl] at hsu
   rw[aio,aH (by rw[afv];exact⟨ais (by omega),ais (by omega)⟩)]
   exact ih _ (by rw[hsu])
  | false=>
   rw[hm,aiA (by simp),af4] at hsu
   rw[ain]
   exact ih _ (by rw[hsu])
 ·rintro _ again rfl
  unfold yc
  dsimp only
  rw[ay (by omega)]
theorem YG (z:Int) (hz:z.natAbs<=9000000000000000000) (p:Nat) (hp:p<=1000):AU (z,(p:Int))=some (((few p z).1,((few p z).2:Int)),()):=by
 have loop:∀ (n:Nat) (z:Int) (p:Nat),z.natAbs<=9000000000000000000->p<=1000->p<n->iter (X:=BM) (β:=BL) n (z,(p:Int),0,0,()) BK=some (Sum.inr ((few p z).1,((few p z).2:Int),0,0,())):=by
  intro n
  induction n with
  | zero=>intro z p _ _ h;omega
  | succ n ih=>
   intro z p hz hp hn
   rw[aY]
   generalize hag:(fun y=>iter n y BK)=again
   unfold BK
   dsimp only
   cases p with
   | zero=>rw[ay (by omega)];rfl
   | succ p=>
    rw[av (by omega)]
    by_cases hm:z % 10=0
    ·have h1:Int.tmod z 10=0:=Int.tmod_eq_zero_of_dvd (Int.dvd_of_emod_eq_zero hm)
     have h2:Int.tdiv z 10=z / 10:=Int.tdiv_eq_ediv_of_dvd (Int.dvd_of_emod_eq_zero hm)
     have e:few (p+1) z=few p (z / 10):=by simp[few,hm]
     rw[h1,h2,show ((0:Int)==0)=true from rfl,aio,au (by omega) (by omega),au (by omega) (by omega),e, <- hag,show ((p+1:Nat):Int) - 1=(p:Int) by omega]
     exact ih (z / 10) p (by omega) (by omega) (by omega)
    ·have h1:(Int.tmod z 10==0)=false:=by
      simp only[aik,ne_eq]
      intro h
      exact hm (Int.emod_eq_zero_of_dvd (Int.dvd_of_tmod_eq_zero h))
     have e:few (p+1) z=(z,p+1):=by simp[few,hm]
     rw[h1,ain,e]
 unfold AU
 dsimp only
 rw[loop _ z p hz hp (by omega),az]
theorem Y3:∀ (k p:Nat) (z:Int),few (p+k) (z*10 ^ k)=few p z
 | 0,p,z=>by simp
 | k+1,p,z=>by
  rw[<- ahA,few,aiB (by rw[afT, <- afN];omega)]
  rw[show z*10 ^ (k+1) / 10=z*10 ^ k by rw[afT, <- afN];omega]
  exact Y3 k p z
theorem YF {d:ax} (h:cc d):AU d=some (nN (v9 d),()):=by
 have h1:=h.1
 have h2:=h.2
 have:=YG d.1 (by omega) d.2.toNat (by omega)
 rw[show ((d.2.toNat:Nat):Int)=d.2 by omega] at this
 refine this.trans ?_
 unfold nN v9
 have e:=Y3 (9 - d.2).toNat d.2.toNat d.1
 rw[show d.2.toNat+(9 - d.2).toNat=9 by omega] at e
 rw[e]
theorem aer {S:List aj} (a:aG) (q1 q2:Int) (s:aj) (hd:aX s.2.2.2=0) (O:List an) (hO:O.length<=300000) (f:Nat) (hf:s.2.2.2.length<f): iter (X:=mQ) (β:=qE) f (O,S,q1,q2,s.2.2.2,(s.2.2.2.length:Int),0,a.1,a.2.1,a.2.2.1,a.2.2.2,s.1,s.2.1,s.2.2.1,s.2.2.2,()) qC=some (Sum.inr (O++s.2.2.2.map (Ii s.1),S,q1,q2,a.1,a.2.1,a.2.2.1,a.2.2.2,())):=by
 have wR:maxLen=9223372036854775807:=rfl
 have hl:=cA hd
 refine bn (Inv:=fun i X=>X=((O++(s.2.2.2.take i).map (Ii s.1),S,q1,q2,s.2.2.2,(s.2.2.2.length:Int),(i:Int),a.1,a.2.1,a.2.2.1,a.2.2.2,s.1,s.2.1,s.2.2.1,s.2.2.2,()):mQ)) s.2.2.2.length (fun r=>r=some (Sum.inr (O++s.2.2.2.map (Ii s.1),S,q1,q2,a.1,a.2.1,a.2.2.1,a.2.2.2,()))) ?_ ?_ f 0 _ (by simp) (by omega) (by omega)
 ·rintro i _ again hi rfl ih
  have hy:s.2.2.2[i]? =some s.2.2.2[i]:=aD hi
  have hm:s.2.2.2[i]∈s.2.2.2:=agL hi
  have ets:s.2.2.2.take (i+1)=s.2.2.2.take i++[s.2.2.2[i]]:=by rw[ahx,hy];rfl
  have hlen:(O++(s.2.2.2.take i).map (Ii s.1)).length<=400000:=by rw[agM,agP,agV];omega
  unfold qC
  dsimp only
  rw[av (by omega),aV,hy,aib,show AU s.2.2.2[i].2.2.2=_ from YF (uI hd _ hm),aib]
  dsimp only
  rw[aH (by rw[afv];exact⟨ais (by omega),ais (by omega)⟩),au (n:=(i:Int)+1) (by omega) (by omega)]
  refine ih _ ?_
  rw[ets,agW, <- af3]
  rfl
 ·rintro _ again rfl
  unfold qC
  dsimp only
  rw[ay (by omega),ahv]
theorem aeq {a:aG} (hok:pU a) (hl:∀ p∈a.2.2.2,aX p.2.2.2=0) {S:List aj} (hS:Ek S) (O:List an) (hO:O.length<=1000) (f:Nat) (hf:S.length<f): iter (X:=qG) (β:=we) f (O,S,(S.length:Int),0,a.1,a.2.1,a.2.2.1,a.2.2.2,()) vZ=some (Sum.inr (O++mR a.2.2.2 S,())):=by
 have hSl:=hS.len
 have hal:=hok.len
 have wR:maxLen=9223372036854775807:=rfl
 refine bn (Inv:=fun i X=>X=((O++mR a.2.2.2 (S.take i),S,(S.length:Int),(i:Int),a.1,a.2.1,a.2.2.1,a.2.2.2,()):qG)) S.length (fun r=>r=some (Sum.inr (O++mR a.2.2.2 S,()))) ?_ ?_ f 0 _ (by simp[mR]) (by omega) (by omega)
 ·rintro i _ again hi rfl ih
  have hy:S[i]? =some S[i]:=aD hi
  have hm:S[i]∈S:=agL hi
  have ets:S.take (i+1)=S.take i++[S[i]]:=by rw[ahx,hy];rfl
  have hcs:=hS.cs _ hm
  have hsl:=HJ hl (S:=S.take i) fun z hz=>hS.cs z (ahb hz)
  have hti:(S.take i).length<=500:=by rw[agV];omega
  have hhl:=MO hl hcs.1
  have hlen:(O++mR a.2.2.2 (S.take i)).length<=200000:=by rw[agM];omega
  have hnext:(O++mR a.2.2.2 (S.take (i+1)))=(O++mR a.2.2.2 (S.take i))++headD a.2.2.2 S[i]++S[i].2.2.2.map (Ii S[i].1):=by
   rw[ets,Sq,af3,af3]
   rfl
  generalize hOi:O++mR a.2.2.2 (S.take i)=Oi at*
  have hw:w64 ((i:Int)+1)=((i+1:Nat):Int):=by rw[au (by omega) (by omega)];omega
  have fin:∀ (H:List an) (f:Nat),S[i].2.2.2.length<f->H=Oi++headD a.2.2.2 S[i]->aJ (β:=(((List an)×Int×Unit) ⊕ ((List an)×Unit))) (γ:=((List an)×(List aj)×Int×Int×Bys×Bys×Int×(List ak)×Unit)) (iter (X:=mQ) (β:=qE) f (H,S,(S.length:Int),(i:Int),S[i].2.2.2,(S[i].2.2.2.length:Int),0,a.1,a.2.1,a.2.2.1,a.2.2.2,S[i].1,S[i].2.1,S[i].2.2.1,S[i].2.2.2,()) qC) (fun v9=>again (v9.1,v9.2.1,v9.2.2.1,w64 (v9.2.2.2.1+1),v9.2.2.2.2.1,v9.2.2.2.2.2.1,v9.2.2.2.2.2.2.1,v9.2.2.2.2.2.2.2.1,()))=some (Sum.inr (O++mR a.2.2.2 S,())):=fun H f hf hH=>by
   rw[aer a _ _ S[i] hcs.2 H (by rw[hH,agM];omega) f hf,az]
   dsimp only
   rw[hw]
   exact ih _ (by rw[hnext,hH])
  unfold vZ
  dsimp only
  rw[av (by omega),aV,hy,aib,qK _ _ (by omega),aib]
  dsimp only
  rw[Y7]
  cases hx:cq (fun p:ak=>p.1) S[i].1 a.2.2.2 with
  | none=>
   rw[show (!(none:Option Nat).isSome)=true from rfl,aio,aH (by rw[afv];exact⟨ais (by omega),ais (by omega)⟩),az]
   dsimp only
   rw[show decide (ixI none>=0)=false from rfl,ain,aib]
   dsimp only
   rw[ain,az]
   dsimp only
   exact fin _ _ (by omega) (by unfold headD;rw[hx])
  | some k=>
   obtain⟨p,hp,_⟩:=fM hx
   rw[show (!(some k).isSome)=false from rfl,ain,az]
   dsimp only
   rw[show decide (ixI (some k)>=0)=true from ais (by simp only[ixI];omega),aio,aib]
   dsimp only
   cases hsl:S[i].2.1 with
   | true=>
    rw[afG,ain,az]
    dsimp only
    have hf:=fun n hn=>fin Oi n hn (by unfold headD;rw[hx];dsimp only;rw[aiB hsl,af4])
    rw[hsl] at hf
    exact hf _ (by omega)
   | false=>
    have hpc:=hl p (aha hp)
    rw[afF,aio,show ixI (some k)=(k:Int) from rfl,aV,hp,aib,XB S[i].1 (by have:=cA hpc;omega) (by have:=cA hcs.1;omega) (uI hpc) (uI hcs.1),aib]
    dsimp only
    have hh:headD a.2.2.2 S[i]=Qa S[i].1 p.2.2.2 S[i].2.2.1:=by unfold headD;rw[hx];dsimp only;rw[aiA (by simp[hsl]),hp];rfl
    rw[show (b8 1 (b8 (-1) [] p.2.2.2) S[i].2.2.1).filterMap (Cs S[i].1)=headD a.2.2.2 S[i] from hh.symm,aH (by rw[afv];exact⟨ais (by omega),ais (by omega)⟩),az]
    dsimp only
    have hf:=fun n hn=>fin (Oi++headD a.2.2.2 S[i]) n hn rfl
    rw[hsl] at hf
    exact hf _ (by omega)
 ·rintro _ again rfl
  unfold vZ
  dsimp only
  rw[ay (by omega),ahv]
end Go.Md
set_option linter.all false
set_option maxRecDepth 20000
namespace Go.Md
open Go.Dn
def oD (d:an):aa:=(d.2.2.1,d.2.2.2.1,d.2.2.2.2.1,0,0)
def Bg:an->an->Int:=Et (fun a b=>Lib.compareBytes a.2.1 b.2.1) (Et (fun a b=>bQ (oD a) (oD b)) (fun a b=>FJ a.1 b.1))
theorem CW.on {α β:Type} {c:β->β->Int} (h:CW c) (f:α->β):CW fun a b=>c (f a) (f b):=
 ⟨fun a=>h.refl _,fun h1 h2=>h.tr h1 h2,fun h1=>h.cl h1,fun a b=>h.tri _ _,fun h1=>h.irr h1⟩
theorem aaU:CW Bg:=(J3 _).lex ((NZ.on oD).lex (ad2 _))
theorem ZH (a b:Int):vU a b=some (FJ a b,()):=by
 unfold vU cmp_isNaN_int FJ
 rw[show (a != a)=false by simp,show (b != b)=false by simp,aib,aib]
 dsimp only
 rw[ain,ain]
 by_cases h:a<b
 ·rw[av h,aiB h]
 ·rw[ay h,aiA h]
  by_cases h2:a>b
  ·rw[av h2,aiB h2]
  ·rw[ay h2,aiA h2]
theorem abR (x:Int) (r:List Int) (i:Nat):bV (fun _ y=>y) i (x::r)=if x=0 then bV (fun _ y=>y) (i+1) r else x:=rfl
theorem acQ (i:Nat):bV (fun _ (y:Int)=>y) i []=0:=rfl
theorem aeR (x1 x2 x3 x4 x5:Int):bV (fun _ y=>y) 0 [x1,x2,x3,x4,x5]=if x1=0 then (if bV (fun _ y=>y) 0 [x2,x3,x4]=0 then x5 else bV (fun _ y=>y) 0 [x2,x3,x4]) else x1:=by
 generalize hy:bV (fun _ (y:Int)=>y) 0 [x2,x3,x4]=y
 simp only[abR,acQ] at hy ⊢
 by_cases h1:x1=0
 ·rw[aiB h1,aiB h1]
  by_cases h2:x2=0
  ·rw[aiB h2] at hy ⊢
   by_cases h3:x3=0
   ·rw[aiB h3] at hy ⊢
    by_cases h4:x4=0
    ·rw[aiB h4] at hy ⊢
     rw[aiB hy.symm]
     split
     ·rename_i h;exact h.symm
     ·rfl
    ·rw[aiA h4] at hy ⊢
     rw[<- hy,aiA h4]
   ·rw[aiA h3] at hy ⊢
    rw[<- hy,aiA h3]
  ·rw[aiA h2] at hy ⊢
   rw[<- hy,aiA h2]
 ·rw[aiA h1,aiA h1]
theorem Pf {α β:Type} (x:α) (k:α->Option β) (e:Option β):R8 (some x) k e=k x:=rfl
theorem Pe {α β:Type} (k:α->Option β) (e:Option β):R8 (none:Option α) k e=e:=rfl
theorem X9 (a b:an):fR a b=some (Bg a b,()):=by
 unfold fR strings_Compare
 simp only[aib]
 rw[ZH,aib]
 dsimp only
 rw[Ur _ (by simp),aib,aeR]
 rfl
theorem ab8 (a b:Int):FJ a b<0↔a<b:=by
 unfold FJ
 split
 ·omega
 ·split<;>omega
theorem aaD (a b:an):Fj a b=some (decide (Bg a b<0),()):=by
 unfold Fj uo Bg Et
 by_cases h1:a.2.1=b.2.1
 ·rw[show (!(a.2.1==b.2.1))=false by simp[h1],ain,aiB (dM.2 h1),aib,aib]
  dsimp only
  rw[lF,aib]
  dsimp only
  rw[show ((a.2.2.1,a.2.2.2.1,a.2.2.2.2.1,0,0):aa)=oD a from rfl,show ((b.2.2.1,b.2.2.2.1,b.2.2.2.2.1,0,0):aa)=oD b from rfl]
  by_cases h2:bQ (oD a) (oD b)=0
  ·rw[show (bQ (oD a) (oD b) != 0)=false by simpa using h2,ain,aiB h2]
   congr 2
   exact aip.2 (ab8 _ _).symm
  ·rw[show (bQ (oD a) (oD b) != 0)=true by simpa using h2,aio,aiA h2]
 ·rw[show (!(a.2.1==b.2.1))=true by simpa using h1,aio,aiA (fun e=>h1 (dM.1 e))]
  congr 2
  cases hb:Op.bytesLess a.2.1 b.2.1 with
  | true=>exact (ais (eU.2 hb)).symm
  | false=>exact (aiq (fun e=>by rw[eU.1 e] at hb;cases hb)).symm
theorem aet (out:List an) (ho:out.length<=1000000) (L:List an) (q1 q2:Int) (d:an): ∀ (n:Nat) (f:Nat) (A B:List an),A.length=n->out=A++B->n<f->(∀ y∈B,Bg d y<0)-> ∃ A' B',out=A'++B'/\(∀ y∈B',Bg d y<0)/\(∀ y,A'.getLast? =some y->¬ Bg d y<0)/\ iter (X:=wh) (β:=wg) f (out,(n:Int),L,q1,q2,d.1,d.2.1,d.2.2.1,d.2.2.2.1,d.2.2.2.2.1,d.2.2.2.2.2.1,d.2.2.2.2.2.2,()) qD=some (Sum.inr (out,(A'.length:Int),L,q1,q2,d.1,d.2.1,d.2.2.1,d.2.2.2.1,d.2.2.2.2.1,d.2.2.2.2.2.1,d.2.2.2.2.2.2,())):=by
 intro n
 induction n with
 | zero=>
  intro f A B hA hAB hf hB
  obtain⟨f,rfl⟩:∃ m,f=m+1:=⟨f - 1,by omega⟩
  have hA0:A=[]:=agi hA
  subst hA0
  refine⟨[],B,hAB,hB,nofun, ?_⟩
  rw[aY]
  unfold qD
  dsimp only
  rw[ay (by decide),aib]
  rfl
 | succ n ih=>
  intro f A B hA hAB hf hB
  obtain⟨f,rfl⟩:∃ m,f=m+1:=⟨f - 1,by omega⟩
  obtain⟨A1,y,rfl⟩:∃ A1 y,A=A1++[y]:=⟨A.dropLast,A.getLast (fun e=>by rw[e] at hA;cases hA),(List.dropLast_concat_getLast _).symm⟩
  have hA1:A1.length=n:=by rw[agM] at hA;simpa using hA
  have hy:out[n]? =some y:=by rw[hAB,af3,agv (by omega),hA1,ah5];rfl
  have hlt:=(agB.1 hy).1
  rw[aY]
  generalize hag:(fun y=>iter f y qD)=again
  have hw:w64 (((n+1:Nat):Int) - 1)=(n:Int):=by rw[au (by omega) (by omega)];omega
  unfold qD
  dsimp only
  rw[av (by omega),hw,aH (by rw[afv];exact⟨ais (by omega),ais (by omega)⟩),afY,hy,aib,show ((d.1,d.2.1,d.2.2.1,d.2.2.2.1,d.2.2.2.2.1,d.2.2.2.2.2.1,d.2.2.2.2.2.2):an)=d from rfl,aaD,aib,aib]
  dsimp only
  by_cases hb:Bg d y<0
  ·rw[ais hb,aio, <- hag]
   exact ih f A1 (y::B) hA1 (by rw[hAB,af3];rfl) (by omega) fun z hz=>by
    rcases ag3.1 hz with rfl | hz
    ·exact hb
    ·exact hB z hz
  ·rw[aiq hb,ain]
   refine⟨A1++[y],B,hAB,hB,fun z hz=> ?_,by rw[hA]⟩
   rw[List.getLast?_append,List.getLast?_singleton,Option.some_or] at hz
   cases hz;exact hb
theorem aes (L:List an) (hL:L.length<=200000): ∀ (r:List an) (i f:Nat) (out:List an),L.drop i=r->i<=L.length->r.length<f->Srt (ur Bg L) out->bK (ur Bg L) (L.take i) out-> ∃ out',Srt (ur Bg L) out'/\bK (ur Bg L) L out'/\iter (X:=qH) (β:=qF) f (out,L,(L.length:Int),(i:Int),()) mP=some (Sum.inr (out',())):=by
 intro r
 induction r with
 | nil=>
  intro i f out hdr hi hf hs hsam
  have:i=L.length:=by
   have:=congrArg List.length hdr
   simp at this;omega
  obtain⟨f,rfl⟩:∃ m,f=m+1:=⟨f - 1,by omega⟩
  subst this
  rw[ahv] at hsam
  refine⟨out,hs,hsam, ?_⟩
  rw[aY]
  unfold mP
  dsimp only
  rw[ay (by omega)]
 | cons d r ih=>
  intro i f out hdr hi hf hs hsam
  have hx:L[i]? =some d:=by
   have:=congrArg (·[0]?) hdr
   simpa [agy] using this
  have hr':L.drop (i+1)=r:=by
   have:=congrArg List.tail hdr
   simpa [ahr] using this
  have hlt:=(agB.1 hx).1
  obtain⟨f,rfl⟩:∃ m,f=m+1:=⟨f - 1,by simp at hf;omega⟩
  simp only[agN] at hf
  have hol:out.length=i:=by rw[hsam.length,agV];omega
  obtain⟨A,B,g1,g2,g3,g4⟩:=aet out (by omega) L (L.length:Int) (i:Int) d out.length
   (List.length out+(Int.natAbs ((List.length out:Int))+(List.length L+(Int.natAbs (L.length:Int)+(Int.natAbs (i:Int)+(d.1.natAbs+(d.2.1.length+(d.2.2.1.length+(d.2.2.2.1.length+(d.2.2.2.2.1.length+(d.2.2.2.2.2.1.natAbs+(d.2.2.2.2.2.2.natAbs+2))))))))))))
   out [] rfl (by simp) (ahM (by omega)) nofun
  have hmem:∀ z∈d::out,z∈L:=fun z hz=>by
   rcases ag3.1 hz with rfl | hz
   ·exact aha hx
   ·exact ahb (hsam.mem.1 hz)
  obtain⟨k1,k2⟩:=ZY aaU (L:=L) hmem hs g1 g2 g3
  have ets:L.take (i+1)=L.take i++[d]:=by rw[ahx,hx];rfl
  have hsam':bK (ur Bg L) (L.take (i+1)) (A++d::B):=by
   rw[ets]
   exact (hsam.append (bK.refl _ [d])).trans k2
  obtain⟨out',o1,o2,o3⟩:=ih (i+1) f (A++d::B) hr' (by omega) (by omega) k1 hsam'
  refine⟨out',o1,o2, ?_⟩
  rw[aY]
  generalize hag:(fun y=>iter f y mP)=again
  unfold mP
  dsimp only
  rw[av (by omega),aH (by rw[afv];exact⟨ais (by omega),ais (by omega)⟩),afY,hx,aib,g4,az]
  dsimp only
  have hAl:A.length<=out.length:=by rw[g1,agM];omega
  have hins:lS out (A.length:Int) [d]=some (A++d::B,()):=by
   show ny 88 _ _ _=_
   unfold ny
   rw[show (decide (0<=(A.length:Int))&&(decide ((A.length:Int)<=(out.length:Int))&&(decide (0<[d].length)&&(decide ((out.length+[d].length)*88<=140737488355328)&&decide (out.length+[d].length<=4611686018427387904)))))=true by
    simp only[afv,ait,agU]
    omega]
   rw[aio,afY,g1,ahu,agb]
   rfl
  rw[show ((d.1,d.2.1,d.2.2.1,d.2.2.2.1,d.2.2.2.2.1,d.2.2.2.2.2.1,d.2.2.2.2.2.2):an)=d from rfl,hins,aib]
  dsimp only
  rw[au (n:=(i:Int)+1) (by omega) (by omega),show (i:Int)+1=((i+1:Nat):Int) by omega, <- hag]
  exact o3
theorem acM (L:List an) (hL:L.length<=200000) (f:Nat) (hf:L.length<f):∃ out,gX L ()=some (out,())/\L.Perm out/\iter (X:=qH) (β:=qF) f ([],L,(L.length:Int),0,()) mP=some (Sum.inr (out,())):=by
 have hc:SQG.xO fR (ur Bg L) (fun x=>x∈L):=fun a b ha hb=>⟨_,X9 a b,Jm aaU ha⟩
 obtain⟨l',h1,h2,h3⟩:=SQG.Lh hc L (by omega) fun z hz=>hz
 obtain⟨out,o1,o2,o3⟩:=aes L hL L 0 f [] rfl (ah8 _) hf List.Pairwise.nil (bK.refl _ _)
 have:l'=out:=Xs h2 o1 h3 o2
 subst this
 exact⟨l',h1,h3.perm,o3⟩
theorem J1 {a:aG} (hf:LP a) {S:List aj} (hg:LQ S) (h:Ad a=0) (hs:oz S=0):gW a S=none/\om a S=some ((a,S,()),0,())/\ox a S=some (0,()):=by
 unfold gW om ox
 rw[AS a hf,D4 a hf,aib,aib,aib,h]
 dsimp only
 rw[zne,ain,ain,ain,tP S hg,yH S hg,hs,aib,aib,aib]
 exact⟨rfl,rfl,rfl⟩
theorem OZ {a:aG} (hf:LP a) {S:List aj} (hg:LQ S) (h:¬ (Ad a=0/\oz S=0)):∃ e,e≠0/\gW a S=some (none,e,())/\ox a S=some (e,()):=by
 unfold gW ox
 rw[AS a hf,D4 a hf,aib,aib]
 dsimp only
 by_cases ha:Ad a=0
 ·have hs:oz S≠0:=fun e=>h ⟨ha,e⟩
  rw[ha,zne,ain,ain,tP S hg,yH S hg,aib,aib]
  dsimp only
  rw[show (oz S != 0)=true by simpa using hs,aio]
  exact⟨_,hs,rfl,rfl⟩
 ·rw[show (Ad a != 0)=true by simpa using ha,aio,aio]
  exact⟨_,ha,rfl,rfl⟩
theorem Wl {a:aG} (hf:LP a) {S:List aj} (hg:LQ S):∃ L e,L.length<=200000/\ya a S=some (L,e,())/\Dk a S=some (L,e,()):=by
 unfold ya Dk
 by_cases h:Ad a=0/\oz S=0
 rotate_left
 ·obtain⟨e,he,h1,h2⟩:=OZ hf hg h
  rw[h1,h2,Pf,aib]
  dsimp only
  rw[show (e != 0)=true by simpa using he,aio,aio]
  exact⟨[],e,ah8 _,rfl,rfl⟩
 ·obtain⟨h1,h2,h3⟩:=J1 hf hg h.1 h.2
  have hok:=L3 h.1
  have hS:=IB h.2
  have hc:=Mm h.1
  have hml:=DT a.2.2.2 S a.2.2.2.length
  have hal:=hok.len
  have hAll:=ab3 hok hc hS
  rw[h1,h2,h3,Pe,aib,aib]
  dsimp only
  rw[zne,ain,ain]
  have c6:=aeD hok hS
  have d6:=aeI hok hS
  rw[c6 _ (ahL _ (ahL _ (ahM (by with_reducible repeat (first | exact ah9 | refine ahL _ ?_))))),az,d6 _ (ahL _ (ahL _ (ahM (by with_reducible repeat (first | exact ah9 | refine ahL _ ?_))))),az]
  dsimp only
  have c13:=ad1 hok hc hS (x7 a.2.2.2 S a.2.2.2.length) (by omega)
  have d12:=aeq hok hc hS (x7 a.2.2.2 S a.2.2.2.length) (by omega)
  rw[c13 _ (ahL _ (ahM (by with_reducible repeat (first | exact ah9 | refine ahL _ ?_)))),az,d12 _ (ahL _ (ahM (by with_reducible repeat (first | exact ah9 | refine ahL _ ?_)))),az]
  dsimp only
  obtain⟨out,o1,o2,o3⟩:=acM (SK a S) hAll (List.length ([]:List an)+(List.length (SK a S)+(Int.natAbs ((List.length (SK a S):Int))+(Int.natAbs (0:Int)+2)))) (by omega)
  unfold SK at o1 o3
  rw[o1,aib,o3,az]
  exact⟨out,0,by rw[<- o2.length_eq];exact hAll,rfl,rfl⟩
end Go.Md
set_option linter.all false
set_option maxRecDepth 20000
namespace Go.Md
open Go.Dn
def kC (p:Tw×Int):aa:=(p.1.1,p.1.2,[],0,0)
def vN (p:Tw×Int):ai:=N p.2
theorem adC (a k:Tw):∃ c,eV (a.1,a.2,[],0,0) (k.1,k.2,[],0,0)=some (c,())/\decide (c<0)=kg a k:=by
 refine⟨_,lF _ _, ?_⟩
 unfold bQ kg fK
 dsimp only
 have h0:Lib.compareBytes ([]:Bys) []=0:=rfl
 rw[h0]
 unfold bV
 by_cases h:Lib.compareBytes a.1 k.1=0
 ·rw[h]
  unfold bV
  by_cases h2:Lib.compareBytes a.2 k.2=0
  ·rw[h2];rfl
  ·simp[h2]
 ·rw[show (Lib.compareBytes a.1 k.1==0)=false by simpa using h];simp[h]
theorem aek (L:List ai) (n:Nat) (hn:n<=L.length) (x y:ai):(L.take n++x::L.drop n)[n]? =some x/\(L.take n++x::L.drop n).set n y=L.take n++y::L.drop n:=by
 have h:(L.take n).length=n:=by rw[agV];omega
 constructor
 ·rw[agv (by omega),h,ah5];rfl
 ·rw[List.set_append_right _ _ (by omega),h,ah5];rfl
theorem ab2 {R:List (Tw×Int)} (hl:R.length<=1000000) (k:Tw) (s:Bool) (d:List Int) (V:List ai): ∀ (r:List (Tw×Int)) (i f:Nat),R.drop i=r->i<=R.length->r.length<f-> iter (X:=qN) (β:=qM) f ((i:Int),k.1,k.2,[],0,0,s,d,R.map kC,V,()) gE=some (Sum.inr (((i+rj kg k (r.map (·.1)):Nat):Int),k.1,k.2,[],0,0,s,d,R.map kC,V,())):=by
 intro r
 induction r with
 | nil=>
  intro i f hdr hi hf
  have:i=R.length:=by
   have:=congrArg List.length hdr
   simp at this;omega
  obtain⟨f,rfl⟩:∃ m,f=m+1:=⟨f - 1,by omega⟩
  rw[aY]
  unfold gE
  dsimp only
  rw[agP,ay (by omega),aib]
  rfl
 | cons x r ih=>
  intro i f hdr hi hf
  have hx:R[i]? =some x:=by
   have:=congrArg (·[0]?) hdr
   simpa [agy] using this
  have hr':R.drop (i+1)=r:=by
   have:=congrArg List.tail hdr
   simpa [ahr] using this
  have hlt:=(agB.1 hx).1
  obtain⟨f,rfl⟩:∃ m,f=m+1:=⟨f - 1,by simp at hf;omega⟩
  simp only[agN] at hf
  have hp:rj kg k ((x::r).map (·.1))=if kg x.1 k=true then rj kg k (r.map (·.1))+1 else 0:=rfl
  obtain⟨c,hc,hd⟩:=adC x.1 k
  rw[aY,hp]
  generalize hag:(fun y=>iter f y gE)=again
  unfold gE
  dsimp only
  rw[agP,av (by omega),aH (by rw[afv];exact⟨ais (by omega),ais (by omega)⟩),afY,agC,hx]
  dsimp only[Option.map_some]
  rw[aib,show kC x=(x.1.1,x.1.2,[],0,0) from rfl,hc,aib,aib]
  dsimp only
  rw[hd]
  cases hb:kg x.1 k with
  | true=>
   rw[aio,aiB rfl,au (n:=(i:Int)+1) (by omega) (by omega), <- hag,show (i:Int)+1=((i+1:Nat):Int) by omega]
   refine (ih (i+1) f hr' (by omega) (by omega)).trans ?_
   rw[show i+1+rj kg k (r.map (·.1))=i+(rj kg k (r.map (·.1))+1) by omega]
  | false=>rw[ain,aiA (by simp)];rfl
theorem aat {R:List (Tw×Int)} (hl:R.length<=1000000) (hb:∀ p∈R,Le 60 p.2) (k:Tw) {z:Int} (hz:Le 60 z): gq (R.map kC,R.map vN,()) (k.1,k.2,[],0,0) (N z)=some (((dA kg k z R).map kC,(dA kg k z R).map vN,()),()):=by
 unfold gq
 have h0:=ab2 hl k (N z).1 (N z).2 (R.map vN) R 0 (Int.natAbs (0:Int)+(k.1.length+(k.2.length+(List.length ([]:Bys)+(Int.natAbs (0:Int)+(Int.natAbs (0:Int)+(List.length (N z).2+(List.length (R.map kC)+(List.length (R.map vN)+2))))))))) rfl (ah8 _) (by rw[agP,agP];omega)
 rw[show ((0:Nat):Int)=0 from rfl,ah7] at h0
 rw[h0,az]
 dsimp only
 rw[agP]
 have hle:=TW (lt:=kg) k (R.map (·.1))
 rw[agP] at hle
 have haR:=SJ (lt:=kg) k z R
 generalize rj kg k (R.map (·.1))=n at*
 have hinsC:gK (R.map kC) (n:Int) [(k.1,k.2,[],0,0)]=some ((R.take n++(k,z)::R.drop n).map kC,()):=by
  show ny 64 _ _ _=_
  unfold ny
  rw[show (decide (0<=(n:Int))&&(decide ((n:Int)<=((R.map kC).length:Int))&&(decide (0<[((k.1,k.2,[],0,0):aa)].length)&&(decide (((R.map kC).length+[((k.1,k.2,[],0,0):aa)].length)*64<=140737488355328)&&decide ((R.map kC).length+[((k.1,k.2,[],0,0):aa)].length<=4611686018427387904)))))=true by
   simp only[afv,ait,agU,agP]
   omega]
  rw[aio,afY,agW,agY,List.map_take,List.map_drop]
  rfl
 have hinsN:dO (R.map vN) (n:Int) [(false,[])]=some ((R.map vN).take n++(false,[])::(R.map vN).drop n,()):=by
  show ny 32 _ _ _=_
  unfold ny
  rw[show (decide (0<=(n:Int))&&(decide ((n:Int)<=((R.map vN).length:Int))&&(decide (0<[((false,[]):ai)].length)&&(decide (((R.map vN).length+[((false,[]):ai)].length)*32<=140737488355328)&&decide ((R.map vN).length+[((false,[]):ai)].length<=4611686018427387904)))))=true by
   simp only[afv,ait,agU,agP]
   omega]
  rw[aio,afY]
  rfl
 obtain⟨g1,g2⟩:=aek (R.map vN) n (by rw[agP];exact hle) (false,[]) (N (0+z))
 have hlen:((R.map vN).take n++(false,[])::(R.map vN).drop n).length=R.length+1:=by
  rw[agM,agN,agV,agO,agP];omega
 have zn:=ahU (hz.n (by omega)) (show 90<10000 by omega)
 have g3:(R.map vN).take n++N (0+z)::(R.map vN).drop n=(R.take n++(k,z)::R.drop n).map vN:=by
  rw[agW,agY,List.map_take,List.map_drop,Int.zero_add];rfl
 cases hg:R[n]? with
 | none=>
  have hn:n=R.length:=by
   have:=List.getElem?_eq_none_iff.1 hg
   omega
  rw[hg] at haR
  have e:dA kg k z R=R.take n++(k,z)::R.drop n:=by rw[haR,hn,ahv,agc]
  rw[show (((n:Nat):Int)==((R.length:Nat):Int))=true by rw[hn];simp,aio,hinsC,aib,hinsN,aib,az]
  dsimp only
  rw[aH (by rw[afv,hlen];exact⟨ais (by omega),ais (by omega)⟩),afY,g1,aib,show ((false,[]):ai)=N 0 from rfl,show ((N z).1,(N z).2)=N z from rfl,l7 _ _ (by decide) zn,aib]
  dsimp only
  rw[show N 0=((false,[]):ai) from rfl,aH (by rw[afv,hlen];exact⟨ais (by omega),ais (by omega)⟩),aib,g2,g3,e]
 | some p=>
  have hlt:=(agB.1 hg).1
  rw[hg] at haR
  dsimp only at haR
  have hc:(!((p.1.1==k.1)&&((p.1.2==k.2)&&((([]:Bys)==[])&&((((0:Int)==0)&&(((0:Int)==0)&&true))&&true)))))= !decide (p.1=k):=by
   congr 1
   by_cases h1:p.1.1=k.1
   ·by_cases h2:p.1.2=k.2
    ·rw[ais (Prod.ext h1 h2)];simp[h1,h2]
    ·rw[aiq (fun e=>h2 (by rw[e]))];simp[h2]
   ·rw[aiq (fun e=>h1 (by rw[e]))];simp[h1]
  rw[show (((n:Nat):Int)==((R.length:Nat):Int))=false by rw[aik];omega,ain,aH (by rw[afv];exact⟨ais (by omega),ais (by omega)⟩),afY,agC,hg]
  dsimp only[Option.map_some]
  rw[aib]
  dsimp only[kC]
  rw[hc]
  by_cases hk:p.1=k
  ·rw[aiB hk] at haR
   rw[ais hk,afG,ain,az]
   dsimp only
   have hpb:=hb p (aha hg)
   rw[aH (by rw[afv,agP];exact⟨ais (by omega),ais (by omega)⟩),afY,agC,hg]
   dsimp only[Option.map_some]
   rw[aib,show ((N z).1,(N z).2)=N z from rfl,show vN p=N p.2 from rfl,l7 _ _ (ahU (hpb.n (by omega)) (by omega)) zn,aib]
   dsimp only
   rw[aH (by rw[afv,agP];exact⟨ais (by omega),ais (by omega)⟩),aib,haR,List.map_set,List.map_set]
   have es:(R.map kC).set n (kC (k,p.2+z))=R.map kC:=by
    have h5:(R.map kC)[n]? =some (kC (k,p.2+z)):=by rw[agC,hg, <- hk];rfl
    apply agj
    intro j
    rw[agF]
    split
    ·rename_i hj
     subst hj
     rw[aiB (by rw[agP];exact hlt),h5]
    ·rfl
   rw[es]
   rfl
  ·rw[aiA hk] at haR
   rw[aiq hk,afF,aio]
   rw[hinsC,aib,hinsN,aib,az]
   dsimp only
   rw[aH (by rw[afv,hlen];exact⟨ais (by omega),ais (by omega)⟩),afY,g1,aib,show ((false,[]):ai)=N 0 from rfl,show ((N z).1,(N z).2)=N z from rfl,l7 _ _ (by decide) zn,aib]
   dsimp only
   rw[show N 0=((false,[]):ai) from rfl,aH (by rw[afv,hlen];exact⟨ais (by omega),ais (by omega)⟩),aib,g2,g3,haR]
theorem pW.mem {R S:List (Tw×Int)} (h:pW R S) {p:Tw×Int} (hp:p∈R):p∈S:=by
 have:=h.look p.1
 rw[Xj h.srt hp] at this
 exact Hu this.symm
theorem pW.len {R S:List (Tw×Int)} (h:pW R S) (hnd:(S.map (·.1)).Nodup):R.length=S.length:=by
 have h1:=congrArg List.length (h.ks hnd)
 rw[agP] at h1
 rw[h1,(Ga S).length_eq,agP]
theorem ac4 {R S:List (Tw×Int)} (h:pW R S):∀ (r:List (Tw×Int)),(∀ p∈r,p∈R)->Er S (r.map (·.1))=(if r.all (fun p=>okD p.2)=true then some ((r.filter fun p=> !((few 9 p.2).1==0)).map fun p=>(p.1.1,p.1.2,nN p.2)) else none)
 | [],_=>rfl
 | p::r,hm=>by
  have ih:=ac4 h r fun q hq=>hm q (ag4 _ hq)
  rw[agY]
  unfold Er
  rw[ih,h.val (hm p ag5),afZ]
  cases ho:okD p.2 with
  | false=>simp
  | true=>
   rw[aiB rfl,afJ]
   by_cases ha:r.all (fun p=>okD p.2)=true
   ·rw[aiB ha,aiB ha,aih,List.filter_cons]
    by_cases h0:(few 9 p.2).1=0
    ·rw[aiB h0];simp[h0]
    ·rw[aiA h0];simp[h0]
   ·rw[aiA ha,aiA ha];rfl
theorem adm {R:List (Tw×Int)} (hl:R.length<=1000000) (hb:∀ p∈R,Le 60 p.2): ∀ (r:List (Tw×Int)) (i f:Nat) (acc:List bD),R.drop i=r->i<=R.length->r.length<f->acc.length<=i-> iter (X:=rF) (β:=rE) f (acc,(R.length:Int),(i:Int),R.map kC,R.map vN,()) nt= some (if r.all (fun p=>okD p.2)=true then Sum.inr (acc++(r.filter fun p=> !((few 9 p.2).1==0)).map fun p=>(p.1.1,p.1.2,nN p.2),R.map kC,R.map vN,()) else Sum.inl ([],1,(R.map kC,R.map vN,()),())):=by
 have wR:maxLen=9223372036854775807:=rfl
 intro r
 induction r with
 | nil=>
  intro i f acc hdr hi hf ha
  have:i=R.length:=by
   have:=congrArg List.length hdr
   simp at this;omega
  obtain⟨f,rfl⟩:∃ m,f=m+1:=⟨f - 1,by omega⟩
  rw[aY]
  unfold nt
  dsimp only
  rw[ay (by omega)]
  simp
 | cons p r ih=>
  intro i f acc hdr hi hf ha
  have hx:R[i]? =some p:=by
   have:=congrArg (·[0]?) hdr
   simpa [agy] using this
  have hr':R.drop (i+1)=r:=by
   have:=congrArg List.tail hdr
   simpa [ahr] using this
  have hlt:=(agB.1 hx).1
  have hpb:=hb p (aha hx)
  obtain⟨f,rfl⟩:∃ m,f=m+1:=⟨f - 1,by simp at hf;omega⟩
  simp only[agN] at hf
  rw[aY]
  generalize hag:(fun y=>iter f y nt)=again
  unfold nt
  dsimp only
  rw[av (by omega),aH (by rw[afv,agP];exact⟨ais (by omega),ais (by omega)⟩),afY,agC,hx]
  dsimp only[Option.map_some]
  rw[aib,aH (by rw[afv,agP];exact⟨ais (by omega),ais (by omega)⟩),agC,hx]
  dsimp only[Option.map_some]
  rw[aib,show vN p=N p.2 from rfl,Pj _ (hpb.mono (by omega)),aib,afZ,List.filter_cons]
  by_cases hok:(few 9 p.2).1.natAbs<=1000000000000000
  ·rw[aiB hok,show okD p.2=true from ais hok,afJ]
   dsimp only
   rw[zne,ain,au (n:=(i:Int)+1) (by omega) (by omega),show (i:Int)+1=((i+1:Nat):Int) by omega]
   by_cases h0:(few 9 p.2).1=0
   ·rw[show ((few 9 p.2).1 != 0)=false by simpa using h0,ain, <- hag]
    refine (ih (i+1) f acc hr' (by omega) (by omega) (by omega)).trans ?_
    simp[h0]
   ·rw[show ((few 9 p.2).1 != 0)=true by simpa using h0,aio,aH (by rw[afv];exact⟨ais (by omega),ais (by omega)⟩), <- hag]
    refine (ih (i+1) f _ hr' (by omega) (by omega) (by simp;omega)).trans ?_
    rw[show (!((few 9 p.2).1==0))=true by simpa using h0,aiB rfl,agY,af3]
    rfl
  ·rw[aiA hok,show okD p.2=false from aiq hok,afy,aiA (by simp)]
   rfl
theorem XO {R S:List (Tw×Int)} (h:pW R S) (hnd:(S.map (·.1)).Nodup) (hl:R.length<=1000000) (hb:∀ p∈R,Le 60 p.2):∃ q,yl (R.map kC,R.map vN,())=some ((F5 S).1,(F5 S).2,q):=by
 unfold yl F5
 have h1:=adm hl hb R 0 (List.length ([]:List bD)+(Int.natAbs ((List.length (R.map kC):Int))+(Int.natAbs (0:Int)+(List.length (R.map kC)+(List.length (R.map vN)+2))))) [] rfl (ah8 _) (by rw[agP];omega) (ahJ _)
 rw[show ((0:Nat):Int)=0 from rfl] at h1
 have e:((R.map kC).length:Int)=(R.length:Int):=by rw[agP]
 rw[<- e] at h1
 rw[h1, <- h.ks hnd,ac4 h R fun p hp=>hp]
 by_cases ha:R.all (fun p=>okD p.2)=true
 ·rw[aiB ha,aiB ha,az]
  exact⟨_,rfl⟩
 ·rw[aiA ha,aiA ha,iN]
  exact⟨_,rfl⟩
theorem Cj.mono {n m:Nat} {S:List (Tw×Int)} (h:Cj n S) (hm:n<=m):Cj m S:=
 ⟨fun p hp=>ahK (h.sm p hp) (ahZ _ hm),h.nd,h.st,ahK h.len hm⟩
structure RS (n:Nat) (R S:List (Tw×Int)):Prop where
 same:pW R S
 ok:Cj n S
theorem RS.nil:RS 0 [] []:=⟨pW.nil,Cj.nil⟩
theorem RS.len {n:Nat} {R S:List (Tw×Int)} (h:RS n R S):R.length<=n:=by rw[h.same.len h.ok.nd];exact h.ok.len
theorem RS.le {n:Nat} {R S:List (Tw×Int)} (h:RS n R S) (hn:n<=1000000):∀ p∈R,Le 60 p.2:=fun p hp=>by
 have:=h.ok.sm.le hn (h.same.mem hp)
 show p.2.natAbs<=10 ^ 60
 omega
theorem RS.mono {n m:Nat} {R S:List (Tw×Int)} (h:RS n R S) (hm:n<=m):RS m R S:=⟨h.same,h.ok.mono hm⟩
theorem RS.add {n:Nat} {R S:List (Tw×Int)} (h:RS n R S) {k:Tw} {z:Int} (hz:z.natAbs<=10 ^ 24) (hk:k.1.length<=1000/\k.2.length<=1000):RS (n+1) (dA kg k z R) (jZ k z S):=⟨h.same.add k z,h.ok.add hz hk⟩
theorem RS.call {n:Nat} {R S:List (Tw×Int)} (h:RS n R S) (hn:n<=1000000) (k:Tw) {z:Int} (hz:z.natAbs<=10 ^ 24): gq (R.map kC,R.map vN,()) (k.1,k.2,[],0,0) (N z)=some (((dA kg k z R).map kC,(dA kg k z R).map vN,()),()):=by
 refine aat (by have:=h.len;omega) (h.le hn) k ?_
 show z.natAbs<=10 ^ 60
 omega
end Go.Md
set_option linter.all false
set_option maxRecDepth 20000
namespace Go.Md
open Go.Dn
def pP (c:aa):Tw×Int:=(ck c,v9 c.2.2.2)
def pM (c:aa):Tw×Int:=(ck c, -v9 c.2.2.2)
def eY (S:List (Tw×Int)) (l:List (Tw×Int)):List (Tw×Int):=l.foldl (fun S p=>jZ p.1 p.2 S) S
def bP (R:List (Tw×Int)) (l:List (Tw×Int)):List (Tw×Int):=l.foldl (fun R p=>dA kg p.1 p.2 R) R
def PA (p:Tw×Int):Prop:=p.2.natAbs<=10 ^ 24/\p.1.1.length<=1000/\p.1.2.length<=1000
theorem AG (S l m:List (Tw×Int)):eY S (l++m)=eY (eY S l) m:=by unfold eY;rw[List.foldl_append]
theorem AF (S l m:List (Tw×Int)):bP S (l++m)=bP (bP S l) m:=by unfold bP;rw[List.foldl_append]
theorem RS.FA:∀ (l:List (Tw×Int)) {n:Nat} {R S:List (Tw×Int)},(∀ p∈l,PA p)->RS n R S->RS (n+l.length) (bP R l) (eY S l)
 | [],_,_,_,_,h=>h
 | p::r,n,R,S,hp,h=>by
  have h1:=hp p ag5
  have:=RS.FA r (fun q hq=>hp q (ag4 _ hq)) (h.add h1.1 h1.2 (k:=p.1))
  rw[agN,show n+(r.length+1)=n+1+r.length by omega]
  exact this
theorem Hy {c:aa} (h:HZ c):PA (pP c):=⟨JP h.d,h.n1,h.n2⟩
theorem VQ {c:aa} (h:HZ c):PA (pM c):=⟨by unfold pM;have:=JP h.d;dsimp only;omega,h.n1,h.n2⟩
theorem acD {d:ax} (h:cc d):w5 d=some ((-d.1,d.2),())/\cc (-d.1,d.2)/\v9 (-d.1,d.2)= -v9 d:=by
 have h1:=h.1
 refine⟨?_,⟨by dsimp only;omega,h.2⟩, ?_⟩
 ·unfold w5
  rw[au (by omega) (by omega),Int.zero_sub]
 ·unfold v9
  exact Int.neg_mul _ _
theorem ae4 (S:List aj) (q1 q2:Int) (a1 a2:Bys) (a3:Int) (a4:List ak) (s1:Bys) (s2:Bool) (s3 s4:List aa) (b1 b2:Bys) (b3:Int) (b4:List ak) (sc:List aj) {n:Nat} {R T:List (Tw×Int)} (h:RS n R T) (cs:List aa) (hcs:cs.length<=100) (hn:n+100<=1000000) (hc:∀ c∈cs,HZ c) (f:Nat) (hf:cs.length<f) {M:List (Tw×aB)} (hM:M=T.map toW) {M':List (Tw×aB)} (hM':M'=(eY T (cs.map pP)).map toW): iter (X:=mA) (β:=qs) f (S,q1,q2,cs,(cs.length:Int),0,a1,a2,a3,a4,s1,s2,s3,s4,b1,b2,b3,b4,sc,M,()) qm=some (Sum.inr (S,q1,q2,a1,a2,a3,a4,s1,s2,s3,s4,b1,b2,b3,b4,sc,M',())):=by
 refine bn (Inv:=fun i X=>∃ M1,M1=(eY T ((cs.take i).map pP)).map toW/\X=((S,q1,q2,cs,(cs.length:Int),(i:Int),a1,a2,a3,a4,s1,s2,s3,s4,b1,b2,b3,b4,sc,M1,()):mA)) cs.length (fun r=>r=some (Sum.inr (S,q1,q2,a1,a2,a3,a4,s1,s2,s3,s4,b1,b2,b3,b4,sc,M',()))) ?_ ?_ f 0 _ ⟨M,hM,rfl⟩ (by omega) (by omega)
 ·rintro i _ again hi ⟨M1,hM1,rfl⟩ ih
  have hy:cs[i]? =some cs[i]:=aD hi
  have hm:cs[i]∈cs:=agL hi
  have ets:cs.take (i+1)=cs.take i++[cs[i]]:=by rw[ahx,hy];rfl
  have hi1:=h.FA ((cs.take i).map pP) (fun p hp=>by
   obtain⟨c,hc',rfl⟩:=ag9.1 hp
   exact Hy (hc c (ahb hc')))
  have hti:((cs.take i).map pP).length<=100:=by rw[agP,agV];omega
  have hadd:=IF hi1.ok.sm (by omega) (ck cs[i]) (hc _ hm).d
  rw[<- hM1] at hadd
  unfold qm
  dsimp only
  rw[av (by omega),aV,hy,aib]
  refine (show _->_ from fun h=>h) ?_
  rw[show ((cs[i].1,cs[i].2.1):bz)=ck cs[i] from rfl,hadd,aib]
  dsimp only
  rw[au (n:=(i:Int)+1) (by omega) (by omega)]
  exact ih _ ⟨_,by rw[ets,agW,AG];rfl,rfl⟩
 ·rintro _ again ⟨M1,hM1,rfl⟩
  unfold qm
  dsimp only
  rw[ay (by omega)]
  rw[ahv] at hM1
  rw[hM1, <- hM']
theorem aeJ (S:List aj) (q1 q2:Int) (a1 a2:Bys) (a3:Int) (a4:List ak) (b1 b2:Bys) (b3:Int) (b4:List ak) (sc:List aj) {n:Nat} {R T:List (Tw×Int)} (h:RS n R T) (cs:List aa) (hcs:cs.length<=100) (hn:n+100<=1000000) (hc:∀ c∈cs,HZ c) (f:Nat) (hf:cs.length<f) {M:List (Tw×aB)} (hM:M=T.map toW) {M':List (Tw×aB)} (hM':M'=(eY T (cs.map pM)).map toW): iter (X:=lC) (β:=oN) f (S,q1,q2,cs,(cs.length:Int),0,a1,a2,a3,a4,b1,b2,b3,b4,sc,M,()) oK=some (Sum.inr (S,q1,q2,a1,a2,a3,a4,b1,b2,b3,b4,sc,M',())):=by
 refine bn (Inv:=fun i X=>∃ M1,M1=(eY T ((cs.take i).map pM)).map toW/\X=((S,q1,q2,cs,(cs.length:Int),(i:Int),a1,a2,a3,a4,b1,b2,b3,b4,sc,M1,()):lC)) cs.length (fun r=>r=some (Sum.inr (S,q1,q2,a1,a2,a3,a4,b1,b2,b3,b4,sc,M',()))) ?_ ?_ f 0 _ ⟨M,hM,rfl⟩ (by omega) (by omega)
 ·rintro i _ again hi ⟨M1,hM1,rfl⟩ ih
  have hy:cs[i]? =some cs[i]:=aD hi
  have hm:cs[i]∈cs:=agL hi
  have ets:cs.take (i+1)=cs.take i++[cs[i]]:=by rw[ahx,hy];rfl
  have hi1:=h.FA ((cs.take i).map pM) (fun p hp=>by
   obtain⟨c,hc',rfl⟩:=ag9.1 hp
   exact VQ (hc c (ahb hc')))
  have hti:((cs.take i).map pM).length<=100:=by rw[agP,agV];omega
  obtain⟨m1,m2,m3⟩:=acD (hc _ hm).d
  have hadd:=IF hi1.ok.sm (by omega) (ck cs[i]) m2
  rw[<- hM1,m3] at hadd
  unfold oK
  dsimp only
  rw[av (by omega),aV,hy,aib,show w5 cs[i].2.2.2=_ from m1,aib]
  dsimp only
  refine (show _->_ from fun h=>h) ?_
  rw[show ((cs[i].1,cs[i].2.1):bz)=ck cs[i] from rfl,hadd,aib]
  dsimp only
  rw[au (n:=(i:Int)+1) (by omega) (by omega)]
  exact ih _ ⟨_,by rw[ets,agW,AG];rfl,rfl⟩
 ·rintro _ again ⟨M1,hM1,rfl⟩
  unfold oK
  dsimp only
  rw[ay (by omega)]
  rw[ahv] at hM1
  rw[hM1, <- hM']
theorem aeK (l:List ak) (q1 q2:Int) (b1 b2:Bys) (b3:Int) (b4:List ak) (sc:List aj) {n:Nat} {R T:List (Tw×Int)} (h:RS n R T) (cs:List aa) (hcs:cs.length<=100) (hn:n+100<=1000000) (hc:∀ c∈cs,HZ c) (f:Nat) (hf:cs.length<f) {M:List (Tw×aB)} (hM:M=T.map toW) {M':List (Tw×aB)} (hM':M'=(eY T (cs.map pP)).map toW): iter (X:=lE) (β:=oP) f (l,q1,q2,cs,(cs.length:Int),0,b1,b2,b3,b4,sc,M,()) oM=some (Sum.inr (l,q1,q2,b1,b2,b3,b4,sc,M',())):=by
 refine bn (Inv:=fun i X=>∃ M1,M1=(eY T ((cs.take i).map pP)).map toW/\X=((l,q1,q2,cs,(cs.length:Int),(i:Int),b1,b2,b3,b4,sc,M1,()):lE)) cs.length (fun r=>r=some (Sum.inr (l,q1,q2,b1,b2,b3,b4,sc,M',()))) ?_ ?_ f 0 _ ⟨M,hM,rfl⟩ (by omega) (by omega)
 ·rintro i _ again hi ⟨M1,hM1,rfl⟩ ih
  have hy:cs[i]? =some cs[i]:=aD hi
  have hm:cs[i]∈cs:=agL hi
  have ets:cs.take (i+1)=cs.take i++[cs[i]]:=by rw[ahx,hy];rfl
  have hi1:=h.FA ((cs.take i).map pP) (fun p hp=>by
   obtain⟨c,hc',rfl⟩:=ag9.1 hp
   exact Hy (hc c (ahb hc')))
  have hti:((cs.take i).map pP).length<=100:=by rw[agP,agV];omega
  have hadd:=IF hi1.ok.sm (by omega) (ck cs[i]) (hc _ hm).d
  rw[<- hM1] at hadd
  unfold oM
  dsimp only
  rw[av (by omega),aV,hy,aib]
  refine (show _->_ from fun h=>h) ?_
  rw[show ((cs[i].1,cs[i].2.1):bz)=ck cs[i] from rfl,hadd,aib]
  dsimp only
  rw[au (n:=(i:Int)+1) (by omega) (by omega)]
  exact ih _ ⟨_,by rw[ets,agW,AG];rfl,rfl⟩
 ·rintro _ again ⟨M1,hM1,rfl⟩
  unfold oM
  dsimp only
  rw[ay (by omega)]
  rw[ahv] at hM1
  rw[hM1, <- hM']
def Np (s:aj):List (Tw×Int):=s.2.2.1.map pP++s.2.2.2.map pM
def fo (S:List aj):List (Tw×Int):=S.flatMap Np
theorem US (S:List aj) (s:aj):fo (S++[s])=fo S++Np s:=by unfold fo;rw[agp,ags]
theorem adL {s:aj} (h1:aX s.2.2.1=0) (h2:aX s.2.2.2=0):(∀ p∈Np s,PA p)/\(Np s).length<=200:=by
 refine⟨fun p hp=> ?_, ?_⟩
 ·rcases ag0.1 hp with hp | hp
  ·obtain⟨c,hc,rfl⟩:=ag9.1 hp
   exact Hy (gT h1 c hc)
  ·obtain⟨c,hc,rfl⟩:=ag9.1 hp
   exact VQ (gT h2 c hc)
 ·have:=cA h1
  have:=cA h2
  unfold Np
  rw[agM,agP,agP];omega
theorem Zr:∀ {S:List aj},(∀ s∈S,aX s.2.2.1=0/\aX s.2.2.2=0)->(∀ p∈fo S,PA p)/\(fo S).length<=200*S.length
 | [],_=>⟨nofun,ahJ _⟩
 | s::r,h=>by
  obtain⟨i1,i2⟩:=Zr (S:=r) fun z hz=>h z (ag4 _ hz)
  obtain⟨h1,h2⟩:=adL (h s ag5).1 (h s ag5).2
  have e:fo (s::r)=Np s++fo r:=rfl
  rw[e]
  refine⟨fun p hp=> ?_,by rw[agM,agN];omega⟩
  rcases ag0.1 hp with hp | hp
  ·exact h1 p hp
  ·exact i1 p hp
theorem QD {S:List aj} (hS:Ek S) (i:Nat):RS (200*i) (bP [] (fo (S.take i))) (eY [] (fo (S.take i))):=by
 obtain⟨h1,h2⟩:=Zr (S:=S.take i) fun z hz=>hS.cs z (ahb hz)
 have:=RS.nil.FA (fo (S.take i)) h1
 have h3:(S.take i).length<=i:=by rw[agV];omega
 exact this.mono (by omega)
theorem aeL {a:aG} {S:List aj} (hS:Ek S) {M':List (Tw×aB)} (hM':M'=(eY [] (fo S)).map toW) (f:Nat) (hf:S.length<f): iter (X:=mz) (β:=qo) f (S,(S.length:Int),0,a.1,a.2.1,a.2.2.1,a.2.2.2,a.1,a.2.1,a.2.2.1,a.2.2.2,S,[],()) qj=some (Sum.inr (a.1,a.2.1,a.2.2.1,a.2.2.2,a.1,a.2.1,a.2.2.1,a.2.2.2,S,M',())):=by
 have hSl:=hS.len
 refine bn (Inv:=fun i X=>∃ M1,M1=(eY [] (fo (S.take i))).map toW/\X=((S,(S.length:Int),(i:Int),a.1,a.2.1,a.2.2.1,a.2.2.2,a.1,a.2.1,a.2.2.1,a.2.2.2,S,M1,()):mz)) S.length (fun r=>r=some (Sum.inr (a.1,a.2.1,a.2.2.1,a.2.2.2,a.1,a.2.1,a.2.2.1,a.2.2.2,S,M',()))) ?_ ?_ f 0 _ ⟨[],rfl,rfl⟩ (by omega) (by omega)
 ·rintro i _ again hi ⟨M1,hM1,rfl⟩ ih
  have hy:S[i]? =some S[i]:=aD hi
  have hm:S[i]∈S:=agL hi
  have hcs:=hS.cs _ hm
  have ets:S.take (i+1)=S.take i++[S[i]]:=by rw[ahx,hy];rfl
  have hr:=QD hS i
  have hl1:=cA hcs.1
  have hl2:=cA hcs.2
  have hr2:=hr.FA (S[i].2.2.1.map pP) (fun p hp=>by
   obtain⟨c,hc',rfl⟩:=ag9.1 hp
   exact Hy (gT hcs.1 c hc'))
  rw[agP] at hr2
  obtain⟨M2,hM2⟩:∃ M2:List (Tw×aB),M2=(eY (eY [] (fo (S.take i))) (S[i].2.2.1.map pP)).map toW:=⟨_,rfl⟩
  obtain⟨M3,hM3⟩:∃ M3:List (Tw×aB),M3=(eY (eY (eY [] (fo (S.take i))) (S[i].2.2.1.map pP)) (S[i].2.2.2.map pM)).map toW:=⟨_,rfl⟩
  have g9:=fun (f:Nat) (hf:S[i].2.2.1.length<f)=>ae4 S (S.length:Int) (i:Int) a.1 a.2.1 a.2.2.1 a.2.2.2 S[i].1 S[i].2.1 S[i].2.2.1 S[i].2.2.2 a.1 a.2.1 a.2.2.1 a.2.2.2 S hr S[i].2.2.1 hl1 (by omega) (gT hcs.1) f hf hM1 hM2
  have g14:=fun (f:Nat) (hf:S[i].2.2.2.length<f)=>aeJ S (S.length:Int) (i:Int) a.1 a.2.1 a.2.2.1 a.2.2.2 a.1 a.2.1 a.2.2.1 a.2.2.2 S hr2 S[i].2.2.2 hl2 (by omega) (gT hcs.2) f hf hM2 hM3
  have hw:w64 ((i:Int)+1)=((i+1:Nat):Int):=by rw[au (by omega) (by omega)];omega
  unfold qj
  dsimp only
  rw[av (by omega),aV,hy,aib]
  refine (congrArg (fun z=>aJ z _) (g9 _ (ahL _ (ahL _ (ahL _ (ahM (by with_reducible repeat (first | exact ah9 | refine ahL _ ?_)))))))).trans ?_
  rw[az]
  dsimp only
  refine (congrArg (fun z=>aJ z _) (g14 _ (ahL _ (ahL _ (ahL _ (ahM (by with_reducible repeat (first | exact ah9 | refine ahL _ ?_)))))))).trans ?_
  rw[az]
  dsimp only
  rw[hw]
  refine ih _ ⟨M3, ?_,rfl⟩
  rw[hM3,ets,US,AG]
  unfold Np
  rw[AG]
 ·rintro _ again ⟨M1,hM1,rfl⟩
  unfold qj
  dsimp only
  rw[ay (by omega)]
  rw[ahv] at hM1
  rw[hM1, <- hM']
def opB (S:List aj) (t:Bys):Bool:=match cq (fun s:aj=>s.1) t S with
 | some k=> !((S[k]?).map (·.2.1)).getD true
 | none=>false
def Qj (l:List ak) (S:List aj) (i:Nat):List (Tw×Int):=if (!gv l S i||opB S (lab l i))=true then [] else (((l[i]?).map (·.2.2.2)).getD []).map pP
def rQ (l:List ak) (S:List aj) (n:Nat):List (Tw×Int):=(List.range n).flatMap (Qj l S)
theorem MN (l:List ak) (S:List aj) (n:Nat):rQ l S (n+1)=rQ l S n++Qj l S n:=by
 unfold rQ
 rw[List.range_succ,agp,ags]
theorem adn {l:List ak} (hl:∀ p∈l,aX p.2.2.2=0) (S:List aj) (i:Nat):(∀ p∈Qj l S i,PA p)/\(Qj l S i).length<=100:=by
 unfold Qj
 split
 ·exact⟨nofun,ah8 _⟩
 ·cases hi:l[i]? with
  | none=>exact⟨nofun,ah8 _⟩
  | some p=>
   have hc:=hl p (aha hi)
   refine⟨fun q hq=> ?_, ?_⟩
   ·obtain⟨c,hc',rfl⟩:=ag9.1 hq
    exact Hy (gT hc c hc')
   ·rw[agP];exact cA hc
theorem Y4 {l:List ak} (hl:∀ p∈l,aX p.2.2.2=0) (S:List aj):∀ n,(∀ p∈rQ l S n,PA p)/\(rQ l S n).length<=100*n
 | 0=>⟨nofun,ahJ _⟩
 | n+1=>by
  obtain⟨i1,i2⟩:=Y4 hl S n
  obtain⟨h1,h2⟩:=adn hl S n
  rw[MN]
  refine⟨fun p hp=> ?_,by rw[agM];omega⟩
  rcases ag0.1 hp with hp | hp
  ·exact i1 p hp
  ·exact h1 p hp
theorem Sh {l:List ak} (hl:∀ p∈l,aX p.2.2.2=0) {S:List aj} (hS:Ek S) (i:Nat) (hi:i<=500):RS (100000+100*i) (bP (bP [] (fo S)) (rQ l S i)) (eY (eY [] (fo S)) (rQ l S i)):=by
 have h1:=QD hS S.length
 rw[ahv] at h1
 have h2:=hS.len
 obtain⟨g1,g2⟩:=Y4 hl S i
 exact ((h1.mono (show 200*S.length<=100000 by omega)).FA _ g1).mono (by omega)
theorem aej {S:List aj} (hs:Asc (·.1) S) {s:aj} (h:s∈S):opB S s.1= !s.2.1:=by
 obtain⟨j,hj⟩:=ag8.1 h
 unfold opB
 rw[N9 hs hj rfl]
 dsimp only
 rw[hj];rfl
theorem acI {S:List aj} {t:Bys} (h:∀ s∈S,s.1≠t):opB S t=false:=by
 unfold opB
 cases hx:cq (fun s:aj=>s.1) t S with
 | none=>rfl
 | some k=>
  obtain⟨x,h1,h2⟩:=fM hx
  exact absurd h2 (h x (aha h1))
theorem aeu {a:aG} (hok:pU a) (hl:∀ p∈a.2.2.2,aX p.2.2.2=0) {S:List aj} (hS:Ek S) {M:List (Tw×aB)} (hM:M=(eY [] (fo S)).map toW) {M':List (Tw×aB)} (hM':M'=(eY (eY [] (fo S)) (rQ a.2.2.2 S a.2.2.2.length)).map toW) (f:Nat) (hf:a.2.2.2.length<f): iter (X:=lD) (β:=oO) f (a.2.2.2,(a.2.2.2.length:Int),0,a.1,a.2.1,a.2.2.1,a.2.2.2,S,M,()) oL=some (Sum.inr (M',())):=by
 have hal:=hok.len
 refine bn (Inv:=fun i X=>∃ M1,M1=(eY (eY [] (fo S)) (rQ a.2.2.2 S i)).map toW/\X=((a.2.2.2,(a.2.2.2.length:Int),(i:Int),a.1,a.2.1,a.2.2.1,a.2.2.2,S,M1,()):lD)) a.2.2.2.length (fun r=>r=some (Sum.inr (M',()))) ?_ ?_ f 0 _ ⟨M,hM,rfl⟩ (by omega) (by omega)
 ·rintro i _ again hi ⟨M1,hM1,rfl⟩ ih
  have hy:a.2.2.2[i]? =some a.2.2.2[i]:=aD hi
  have hm:a.2.2.2[i]∈a.2.2.2:=agL hi
  have hpc:=hl _ hm
  have hr:=Sh hl hS i (by omega)
  have hcl:=cA hpc
  have hc:fk ((a.1,a.2.1,a.2.2.1,a.2.2.2),S) (i:Int)=some (gv a.2.2.2 S i,()):=PU hok hS.len hS.asc hi
  have hsu:=MN a.2.2.2 S i
  unfold Qj at hsu
  rw[Oa hy,hy] at hsu
  have hw:w64 ((i:Int)+1)=((i+1:Nat):Int):=by rw[au (by omega) (by omega)];omega
  have hscan:∃ s b,gO ((a.1,a.2.1,a.2.2.1,a.2.2.2),S,()) a.2.2.2[i].1=some (s,b,(a,S,()),())/\(bif b then some (!s.2.1,()) else some (false,()))=some (opB S a.2.2.2[i].1,()):=by
   rcases T9 a (S:=S) hS.len hS.asc a.2.2.2[i].1 with ⟨s,hs,he,_,h1⟩ | ⟨hn,_,h1⟩
   ·exact⟨_,_,h1,by rw[<- he,aej hS.asc hs];rfl⟩
   ·exact⟨_,_,h1,by rw[acI hn];rfl⟩
  obtain⟨s,b,hsc,hb⟩:=hscan
  have hv:(bif !gv a.2.2.2 S i then some (true,()) else bif b then some (!s.2.1,()) else some (false,()))=some ((!gv a.2.2.2 S i||opB S a.2.2.2[i].1),()):=by
   rw[hb]
   cases gv a.2.2.2 S i<;>rfl
  unfold oL
  dsimp only
  rw[av (by omega),aV,hy,aib,hsc,aib]
  dsimp only
  rw[hc,aib]
  dsimp only
  rw[hv,aib]
  dsimp only
  rw[hw]
  cases hg:(!gv a.2.2.2 S i||opB S a.2.2.2[i].1) with
  | true=>
   rw[hg,aiB rfl,af4] at hsu
   rw[aio]
   exact ih _ ⟨M1,by rw[hM1,hsu],rfl⟩
  | false=>
   rw[hg,aiA (by simp)] at hsu
   obtain⟨M2,hM2⟩:∃ M2:List (Tw×aB),M2=(eY (eY (eY [] (fo S)) (rQ a.2.2.2 S i)) (a.2.2.2[i].2.2.2.map pP)).map toW:=⟨_,rfl⟩
   have g25:=fun (f:Nat) (hf:a.2.2.2[i].2.2.2.length<f)=>aeK a.2.2.2 (a.2.2.2.length:Int) (i:Int) a.1 a.2.1 a.2.2.1 a.2.2.2 S hr a.2.2.2[i].2.2.2 hcl (by omega) (gT hpc) f hf hM1 hM2
   rw[ain]
   refine (congrArg (fun z=>aJ z _) (g25 _ (ahL _ (ahL _ (ahL _ (ahM (by with_reducible repeat (first | exact ah9 | refine ahL _ ?_)))))))).trans ?_
   rw[az]
   dsimp only
   rw[hw]
   refine ih _ ⟨M2, ?_,rfl⟩
   rw[hM2,hsu, <- AG]
   rfl
 ·rintro _ again ⟨M1,hM1,rfl⟩
  unfold oL
  dsimp only
  rw[ay (by omega)]
  rw[hM1, <- hM']
def Qk (a:aG) (S:List aj):List (Tw×Int):=eY (eY [] (fo S)) (rQ a.2.2.2 S a.2.2.2.length)
theorem XH {a:aG} (hf:LP a) {S:List aj} (hg:LQ S) (h:Ad a=0) (hs:oz S=0):mO a S=some ((F5 (Qk a S)).1,(F5 (Qk a S)).2,()):=by
 obtain⟨h1,h2,h3⟩:=J1 hf hg h hs
 have hok:=L3 h
 have hS:=IB hs
 have hc:=Mm h
 have hal:=hok.len
 unfold mO
 rw[h1,h2,Pe,aib]
 dsimp only
 rw[zne,ain]
 obtain⟨M,hM⟩:∃ M:List (Tw×aB),M=(eY [] (fo S)).map toW:=⟨_,rfl⟩
 obtain⟨M2,hM2⟩:∃ M2:List (Tw×aB),M2=(eY (eY [] (fo S)) (rQ a.2.2.2 S a.2.2.2.length)).map toW:=⟨_,rfl⟩
 have g6:=aeL (a:=a) hS hM
 rw[g6 _ (ahM (by with_reducible repeat (first | exact ah9 | refine ahL _ ?_))),az]
 dsimp only
 have g20:=aeu hok hc hS hM hM2
 rw[g20 _ (ahM (by with_reducible repeat (first | exact ah9 | refine ahL _ ?_))),az]
 dsimp only
 have hr:=Sh hc hS a.2.2.2.length hal
 rw[hM2,ZR hr.ok (by omega),aib]
 rfl
end Go.Md
set_option linter.all false
set_option maxRecDepth 20000
namespace Go.Md
open Go.Dn
theorem XU {c:aa} (h:HZ c):iO c.2.2.2=some (N (v9 c.2.2.2),()):=xe h.d
theorem ae6 (S S':List aj) (q1 q2:Int) (a1 a2:Bys) (a3:Int) (a4:List ak) (s1:Bys) (s2:Bool) (s3 s4:List aa) {n:Nat} {R T:List (Tw×Int)} (h:RS n R T) (cs:List aa) (hcs:cs.length<=100) (hn:n+100<=1000000) (hc:∀ c∈cs,HZ c) (f:Nat) (hf:cs.length<f): iter (X:=qJ) (β:=wo) f (S,S',q1,q2,cs,(cs.length:Int),0,a1,a2,a3,a4,R.map kC,R.map vN,s1,s2,s3,s4,()) wk=some (Sum.inr (S,S',q1,q2,a1,a2,a3,a4,(bP R (cs.map pP)).map kC,(bP R (cs.map pP)).map vN,s1,s2,s3,s4,())):=by
 refine bn (Inv:=fun i X=>X=((S,S',q1,q2,cs,(cs.length:Int),(i:Int),a1,a2,a3,a4,(bP R ((cs.take i).map pP)).map kC,(bP R ((cs.take i).map pP)).map vN,s1,s2,s3,s4,()):qJ)) cs.length (fun r=>r=some (Sum.inr (S,S',q1,q2,a1,a2,a3,a4,(bP R (cs.map pP)).map kC,(bP R (cs.map pP)).map vN,s1,s2,s3,s4,()))) ?_ ?_ f 0 _ rfl (by omega) (by omega)
 ·rintro i _ again hi rfl ih
  have hy:cs[i]? =some cs[i]:=aD hi
  have hm:cs[i]∈cs:=agL hi
  have ets:cs.take (i+1)=cs.take i++[cs[i]]:=by rw[ahx,hy];rfl
  have hi1:=h.FA ((cs.take i).map pP) (fun p hp=>by
   obtain⟨c,hc',rfl⟩:=ag9.1 hp
   exact Hy (hc c (ahb hc')))
  have hti:((cs.take i).map pP).length<=100:=by rw[agP,agV];omega
  have hcall:=hi1.call (by omega) (ck cs[i]) (JP (hc _ hm).d)
  have hnx:bP R ((cs.take (i+1)).map pP)=dA kg (ck cs[i]) (v9 cs[i].2.2.2) (bP R ((cs.take i).map pP)):=by rw[ets,agW,AF];rfl
  unfold wk
  dsimp only
  rw[av (by omega),aV,hy,aib,XU (hc _ hm),aib]
  dsimp only
  rw[show ((cs[i].1,cs[i].2.1,[],0,0):aa)=((ck cs[i]).1,(ck cs[i]).2,[],0,0) from rfl,hcall,aib]
  dsimp only
  rw[au (n:=(i:Int)+1) (by omega) (by omega)]
  exact ih _ (by rw[hnx];rfl)
 ·rintro _ again rfl
  unfold wk
  dsimp only
  rw[ay (by omega),ahv]
theorem aeM (S S':List aj) (q1 q2:Int) (a1 a2:Bys) (a3:Int) (a4:List ak) {n:Nat} {R T:List (Tw×Int)} (h:RS n R T) (cs:List aa) (hcs:cs.length<=100) (hn:n+100<=1000000) (hc:∀ c∈cs,HZ c) (f:Nat) (hf:cs.length<f): iter (X:=ot) (β:=uf) f (S,S',q1,q2,cs,(cs.length:Int),0,a1,a2,a3,a4,R.map kC,R.map vN,()) ua=some (Sum.inr (S,S',q1,q2,a1,a2,a3,a4,(bP R (cs.map pM)).map kC,(bP R (cs.map pM)).map vN,())):=by
 refine bn (Inv:=fun i X=>X=((S,S',q1,q2,cs,(cs.length:Int),(i:Int),a1,a2,a3,a4,(bP R ((cs.take i).map pM)).map kC,(bP R ((cs.take i).map pM)).map vN,()):ot)) cs.length (fun r=>r=some (Sum.inr (S,S',q1,q2,a1,a2,a3,a4,(bP R (cs.map pM)).map kC,(bP R (cs.map pM)).map vN,()))) ?_ ?_ f 0 _ rfl (by omega) (by omega)
 ·rintro i _ again hi rfl ih
  have hy:cs[i]? =some cs[i]:=aD hi
  have hm:cs[i]∈cs:=agL hi
  have ets:cs.take (i+1)=cs.take i++[cs[i]]:=by rw[ahx,hy];rfl
  have hi1:=h.FA ((cs.take i).map pM) (fun p hp=>by
   obtain⟨c,hc',rfl⟩:=ag9.1 hp
   exact VQ (hc c (ahb hc')))
  have hti:((cs.take i).map pM).length<=100:=by rw[agP,agV];omega
  have hcall:=hi1.call (by omega) (ck cs[i]) (VQ (hc _ hm)).1
  have hnx:bP R ((cs.take (i+1)).map pM)=dA kg (ck cs[i]) (pM cs[i]).2 (bP R ((cs.take i).map pM)):=by rw[ets,agW,AF];rfl
  unfold ua
  dsimp only
  rw[av (by omega),aV,hy,aib,XU (hc _ hm),aib]
  dsimp only
  rw[Dp,aib]
  dsimp only
  rw[show N (-v9 cs[i].2.2.2)=N (pM cs[i]).2 from rfl,show ((cs[i].1,cs[i].2.1,[],0,0):aa)=((ck cs[i]).1,(ck cs[i]).2,[],0,0) from rfl,hcall,aib]
  dsimp only
  rw[au (n:=(i:Int)+1) (by omega) (by omega)]
  exact ih _ (by rw[hnx];rfl)
 ·rintro _ again rfl
  unfold ua
  dsimp only
  rw[ay (by omega),ahv]
theorem aeO (S:List aj) (l:List ak) (q1 q2:Int) (a1 a2:Bys) (a3:Int) (a4:List ak) {n:Nat} {R T:List (Tw×Int)} (h:RS n R T) (cs:List aa) (hcs:cs.length<=100) (hn:n+100<=1000000) (hc:∀ c∈cs,HZ c) (f:Nat) (hf:cs.length<f): iter (X:=ov) (β:=uh) f (S,l,q1,q2,cs,(cs.length:Int),0,a1,a2,a3,a4,R.map kC,R.map vN,()) ud=some (Sum.inr (S,l,q1,q2,a1,a2,a3,a4,(bP R (cs.map pP)).map kC,(bP R (cs.map pP)).map vN,())):=by
 refine bn (Inv:=fun i X=>X=((S,l,q1,q2,cs,(cs.length:Int),(i:Int),a1,a2,a3,a4,(bP R ((cs.take i).map pP)).map kC,(bP R ((cs.take i).map pP)).map vN,()):ov)) cs.length (fun r=>r=some (Sum.inr (S,l,q1,q2,a1,a2,a3,a4,(bP R (cs.map pP)).map kC,(bP R (cs.map pP)).map vN,()))) ?_ ?_ f 0 _ rfl (by omega) (by omega)
 ·rintro i _ again hi rfl ih
  have hy:cs[i]? =some cs[i]:=aD hi
  have hm:cs[i]∈cs:=agL hi
  have ets:cs.take (i+1)=cs.take i++[cs[i]]:=by rw[ahx,hy];rfl
  have hi1:=h.FA ((cs.take i).map pP) (fun p hp=>by
   obtain⟨c,hc',rfl⟩:=ag9.1 hp
   exact Hy (hc c (ahb hc')))
  have hti:((cs.take i).map pP).length<=100:=by rw[agP,agV];omega
  have hcall:=hi1.call (by omega) (ck cs[i]) (JP (hc _ hm).d)
  have hnx:bP R ((cs.take (i+1)).map pP)=dA kg (ck cs[i]) (v9 cs[i].2.2.2) (bP R ((cs.take i).map pP)):=by rw[ets,agW,AF];rfl
  unfold ud
  dsimp only
  rw[av (by omega),aV,hy,aib,XU (hc _ hm),aib]
  dsimp only
  rw[show ((cs[i].1,cs[i].2.1,[],0,0):aa)=((ck cs[i]).1,(ck cs[i]).2,[],0,0) from rfl,hcall,aib]
  dsimp only
  rw[au (n:=(i:Int)+1) (by omega) (by omega)]
  exact ih _ (by rw[hnx];rfl)
 ·rintro _ again rfl
  unfold ud
  dsimp only
  rw[ay (by omega),ahv]
theorem ae5 {a:aG} {S:List aj} (hS:Ek S) (f:Nat) (hf:S.length<f): iter (X:=qI) (β:=wm) f (S,S,(S.length:Int),0,a.1,a.2.1,a.2.2.1,a.2.2.2,[],[],()) wj=some (Sum.inr (S,a.1,a.2.1,a.2.2.1,a.2.2.2,(bP [] (fo S)).map kC,(bP [] (fo S)).map vN,())):=by
 have hSl:=hS.len
 refine bn (Inv:=fun i X=>X=((S,S,(S.length:Int),(i:Int),a.1,a.2.1,a.2.2.1,a.2.2.2,(bP [] (fo (S.take i))).map kC,(bP [] (fo (S.take i))).map vN,()):qI)) S.length (fun r=>r=some (Sum.inr (S,a.1,a.2.1,a.2.2.1,a.2.2.2,(bP [] (fo S)).map kC,(bP [] (fo S)).map vN,()))) ?_ ?_ f 0 _ rfl (by omega) (by omega)
 ·rintro i _ again hi rfl ih
  have hy:S[i]? =some S[i]:=aD hi
  have hm:S[i]∈S:=agL hi
  have hcs:=hS.cs _ hm
  have ets:S.take (i+1)=S.take i++[S[i]]:=by rw[ahx,hy];rfl
  have hr:=QD hS i
  have hl1:=cA hcs.1
  have hl2:=cA hcs.2
  have hr2:=hr.FA (S[i].2.2.1.map pP) (fun p hp=>by
   obtain⟨c,hc',rfl⟩:=ag9.1 hp
   exact Hy (gT hcs.1 c hc'))
  rw[agP] at hr2
  have g9:=fun (f:Nat) (hf:S[i].2.2.1.length<f)=>ae6 S S (S.length:Int) (i:Int) a.1 a.2.1 a.2.2.1 a.2.2.2 S[i].1 S[i].2.1 S[i].2.2.1 S[i].2.2.2 hr S[i].2.2.1 hl1 (by omega) (gT hcs.1) f hf
  have g14:=fun (f:Nat) (hf:S[i].2.2.2.length<f)=>aeM S S (S.length:Int) (i:Int) a.1 a.2.1 a.2.2.1 a.2.2.2 hr2 S[i].2.2.2 hl2 (by omega) (gT hcs.2) f hf
  have hw:w64 ((i:Int)+1)=((i+1:Nat):Int):=by rw[au (by omega) (by omega)];omega
  have hnx:bP [] (fo (S.take (i+1)))=bP (bP (bP [] (fo (S.take i))) (S[i].2.2.1.map pP)) (S[i].2.2.2.map pM):=by
   rw[ets,US,AF]
   unfold Np
   rw[AF]
  unfold wj
  dsimp only
  rw[av (by omega),aV,hy,aib]
  refine (congrArg (fun z=>aJ z _) (g9 _ (ahL _ (ahL _ (ahL _ (ahL _ (ahM (by with_reducible repeat (first | exact ah9 | refine ahL _ ?_))))))))).trans ?_
  rw[az]
  dsimp only
  refine (congrArg (fun z=>aJ z _) (g14 _ (ahL _ (ahL _ (ahL _ (ahL _ (ahM (by with_reducible repeat (first | exact ah9 | refine ahL _ ?_))))))))).trans ?_
  rw[az]
  dsimp only
  rw[hw]
  exact ih _ (by rw[hnx])
 ·rintro _ again rfl
  unfold wj
  dsimp only
  rw[ay (by omega),ahv]
theorem aeN {a:aG} (hok:pU a) (hl:∀ p∈a.2.2.2,aX p.2.2.2=0) {S:List aj} (hS:Ek S) (f:Nat) (hf:a.2.2.2.length<f): iter (X:=ou) (β:=ug) f (S,a.2.2.2,(a.2.2.2.length:Int),0,a.1,a.2.1,a.2.2.1,a.2.2.2,(bP [] (fo S)).map kC,(bP [] (fo S)).map vN,()) uc=some (Sum.inr ((bP (bP [] (fo S)) (rQ a.2.2.2 S a.2.2.2.length)).map kC,(bP (bP [] (fo S)) (rQ a.2.2.2 S a.2.2.2.length)).map vN,())):=by
 have hal:=hok.len
 have hSl:=hS.len
 refine bn (Inv:=fun i X=>X=((S,a.2.2.2,(a.2.2.2.length:Int),(i:Int),a.1,a.2.1,a.2.2.1,a.2.2.2,(bP (bP [] (fo S)) (rQ a.2.2.2 S i)).map kC,(bP (bP [] (fo S)) (rQ a.2.2.2 S i)).map vN,()):ou)) a.2.2.2.length (fun r=>r=some (Sum.inr ((bP (bP [] (fo S)) (rQ a.2.2.2 S a.2.2.2.length)).map kC,(bP (bP [] (fo S)) (rQ a.2.2.2 S a.2.2.2.length)).map vN,()))) ?_ ?_ f 0 _ rfl (by omega) (by omega)
 ·rintro i _ again hi rfl ih
  have hy:a.2.2.2[i]? =some a.2.2.2[i]:=aD hi
  have hm:a.2.2.2[i]∈a.2.2.2:=agL hi
  have hpc:=hl _ hm
  have hr:=Sh hl hS i (by omega)
  have hcl:=cA hpc
  have hc:uj (a.1,a.2.1,a.2.2.1,a.2.2.2) S (i:Int)=some (gv a.2.2.2 S i,()):=PV hok hSl hi
  have hsu:=MN a.2.2.2 S i
  unfold Qj at hsu
  rw[Oa hy,hy] at hsu
  have hw:w64 ((i:Int)+1)=((i+1:Nat):Int):=by rw[au (by omega) (by omega)];omega
  have hb:(bif decide (ixI (cq (fun s:aj=>s.1) a.2.2.2[i].1 S)>=0) then Option.bind (idx S (ixI (cq (fun s:aj=>s.1) a.2.2.2[i].1 S))) fun y5=>some (!y5.2.1,()) else some (false,()))=some (opB S a.2.2.2[i].1,()):=by
   unfold opB
   cases hx:cq (fun s:aj=>s.1) a.2.2.2[i].1 S with
   | none=>rfl
   | some k=>
    obtain⟨s,h1,_⟩:=fM hx
    rw[show decide (ixI (some k)>=0)=true from ais (by simp only[ixI];omega),aio,show ixI (some k)=(k:Int) from rfl,aV,h1]
    dsimp only
    rw[h1]
    rfl
  have hv:(bif !gv a.2.2.2 S i then some (true,()) else bif decide (ixI (cq (fun s:aj=>s.1) a.2.2.2[i].1 S)>=0) then Option.bind (idx S (ixI (cq (fun s:aj=>s.1) a.2.2.2[i].1 S))) fun y5=>some (!y5.2.1,()) else some (false,()))=some ((!gv a.2.2.2 S i||opB S a.2.2.2[i].1),()):=by
   rw[hb]
   cases gv a.2.2.2 S i<;>rfl
  unfold uc
  dsimp only
  rw[av (by omega),aV,hy,aib,Nv S _ (by omega),aib]
  dsimp only
  rw[hc,aib]
  dsimp only
  rw[hv,aib]
  dsimp only
  rw[hw]
  cases hg:(!gv a.2.2.2 S i||opB S a.2.2.2[i].1) with
  | true=>
   rw[hg,aiB rfl,af4] at hsu
   rw[aio]
   exact ih _ (by rw[hsu])
  | false=>
   rw[hg,aiA (by simp)] at hsu
   have g25:=fun (f:Nat) (hf:a.2.2.2[i].2.2.2.length<f)=>aeO S a.2.2.2 (a.2.2.2.length:Int) (i:Int) a.1 a.2.1 a.2.2.1 a.2.2.2 hr a.2.2.2[i].2.2.2 hcl (by omega) (gT hpc) f hf
   have hnx:bP (bP [] (fo S)) (rQ a.2.2.2 S (i+1))=bP (bP (bP [] (fo S)) (rQ a.2.2.2 S i)) (a.2.2.2[i].2.2.2.map pP):=by
    rw[hsu,AF];rfl
   rw[ain]
   refine (congrArg (fun z=>aJ z _) (g25 _ (ahL _ (ahL _ (ahL _ (ahL _ (ahM (by with_reducible repeat (first | exact ah9 | refine ahL _ ?_))))))))).trans ?_
   rw[az]
   dsimp only
   rw[hw]
   exact ih _ (by rw[hnx])
 ·rintro _ again rfl
  unfold uc
  dsimp only
  rw[ay (by omega)]
theorem Vz {a:aG} (hf:LP a) {S:List aj} (hg:LQ S):∃ L e,L.length<=1000000/\mO a S=some (L,e,())/\w8 a S=some (L,e,()):=by
 by_cases h:Ad a=0/\oz S=0
 rotate_left
 ·obtain⟨e,he,h1,h2⟩:=OZ hf hg h
  unfold mO w8
  rw[h1,h2,Pf,aib]
  dsimp only
  rw[show (e != 0)=true by simpa using he,aio,aio]
  exact⟨[],e,ah8 _,rfl,rfl⟩
 ·have hok:=L3 h.1
  have hS:=IB h.2
  have hc:=Mm h.1
  have hal:=hok.len
  have hr:=Sh hc hS a.2.2.2.length hal
  have hrl:=hr.len
  refine⟨(F5 (Qk a S)).1,(F5 (Qk a S)).2, ?_,XH hf hg h.1 h.2, ?_⟩
  ·have hk:(ksS (Qk a S)).length<=1000000:=by
    rw[(Ga _).length_eq,agP]
    have:=hr.ok.len
    unfold Qk
    omega
   have key:∀ (ks:List Tw) (l:List bD),Er (Qk a S) ks=some l->l.length<=ks.length:=by
    intro ks
    induction ks with
    | nil=>intro l h;cases h;exact ahJ _
    | cons k r ih=>
     intro l h
     unfold Er at h
     split at h
     ·obtain⟨l',h1,h2⟩:=Option.map_eq_some_iff.1 h
      have:=ih l' h1
      rw[<- h2]
      split
      ·simp;omega
      ·simp;omega
     ·cases h
   unfold F5
   split
   ·rename_i l hl
    exact ahK (key _ l hl) hk
   ·exact ah8 _
  ·obtain⟨h1,h2,h3⟩:=J1 hf hg h.1 h.2
   unfold w8
   rw[h3,aib]
   dsimp only
   rw[zne,ain]
   have g6:=ae5 (a:=a) hS
   rw[g6 _ (ahL _ (ahM (by with_reducible repeat (first | exact ah9 | refine ahL _ ?_)))),az]
   dsimp only
   have g20:=aeN hok hc hS
   rw[g20 _ (ahL _ (ahM (by with_reducible repeat (first | exact ah9 | refine ahL _ ?_)))),az]
   dsimp only
   obtain⟨q,hq⟩:=XO hr.same hr.ok.nd (by omega) (hr.le (by omega))
   rw[hq,aib]
   rfl
theorem Ym (l:List bD) (hl:l.length<=9000000000000000000):l8 l l=some (true,()):=by
 unfold l8
 rw[show (((l.length:Int)) != ((l.length:Int)))=false by simp,ain]
 have loop:∀ f,l.length<f->iter (X:=gJ) (β:=jM) f (l,l,(l.length:Int),0,()) jK=some (Sum.inr ()):=by
  intro f hf
  refine bn (Inv:=fun i X=>X=((l,l,(l.length:Int),(i:Int),()):gJ)) l.length (fun r=>r=some (Sum.inr ())) ?_ ?_ f 0 _ rfl (by omega) (by omega)
  ·rintro i X again hi rfl hag
   unfold jK
   dsimp only
   have hy:l[i]? =some l[i]:=agz hi
   rw[av (by omega),aV,hy,aib,aib]
   simp only[ail,Bool.and_self,afG,ain]
   rw[au (by omega) (by omega)]
   exact hag _ rfl
  ·rintro X again rfl
   unfold jK
   dsimp only
   rw[ay (by omega)]
 rw[loop _ (by omega),az]
theorem ZN (l:List an) (hl:l.length<=9000000000000000000):iP l l=some (true,()):=by
 unfold iP
 rw[show (((l.length:Int)) != ((l.length:Int)))=false by simp,ain]
 have loop:∀ f,l.length<f->iter (X:=eN) (β:=gI) f (l,l,(l.length:Int),0,()) gH=some (Sum.inr ()):=by
  intro f hf
  refine bn (Inv:=fun i X=>X=((l,l,(l.length:Int),(i:Int),()):eN)) l.length (fun r=>r=some (Sum.inr ())) ?_ ?_ f 0 _ rfl (by omega) (by omega)
  ·rintro i X again hi rfl hag
   unfold gH
   dsimp only
   have hy:l[i]? =some l[i]:=agz hi
   rw[av (by omega),aV,hy,aib,aib]
   simp only[ail,Bool.and_self,afG,ain]
   rw[au (by omega) (by omega)]
   exact hag _ rfl
  ·rintro X again rfl
   unfold gH
   dsimp only
   rw[ay (by omega)]
 rw[loop _ (by omega),az]
theorem Xe:MY=some (true,()):=by kernel_rfl
theorem law_ParcelScansMatchSpec (a:aG) (S:List aj) (hf:LP a) (hg:LQ S):kD a S=some (true,()):=by
 unfold kD
 obtain⟨L,e,l1,l2,l3⟩:=Wl hf hg
 obtain⟨L2,e2,m1,m2,m3⟩:=Vz hf hg
 rw[l2,l3,aib,aib,tP S hg,yH S hg,aib,aib]
 dsimp only
 rw[show (oz S != oz S)=false by simp,ain,show (e != e)=false by simp,ain,ZN _ (by omega),aib]
 dsimp only
 rw[afG,ain,m2,m3,aib,aib]
 dsimp only
 rw[show (e2==e2)=true by simp,aio,Ym _ (by omega),aib]
 dsimp only
 rw[aio,Xe]
 rfl
end Go.Md
