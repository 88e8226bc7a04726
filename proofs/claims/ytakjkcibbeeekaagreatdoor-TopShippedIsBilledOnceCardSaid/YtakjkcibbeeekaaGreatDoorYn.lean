/-
  Plain facts, a part. No condition.
-/
import Derived.Test.YtakjkcibbeeekaaGreatDoorYm
import Derived.Test.YtakjkcibbeeekaaGreatDoorYh
import Derived.Test.YtakjkcibbeeekaaGreatDoorYk
import Derived.Test.YtakjkcibbeeekaaGreatDoorYg
set_option linter.all false
set_option linter.all false
set_option maxRecDepth 20000
namespace Go.Md
open Go.Dn
def dlL (D:Nat->aq->aa):Nat->List aq->List aa
 | _,[]=>[]
 | i,x::r=>D i x::dlL D (i+1) r
theorem GC (D:Nat->aq->aa):∀ (L:List aq) (i:Nat),(dlL D i L).length=L.length
 | [],_=>rfl
 | x::r,i=>by rw[dlL,ain,ain,GC D r]
def gA (day:Int) (i:Nat) (x:aq):aa:=(day,2,(i:Int)+1,9,x.no,[],eP x.ord,[],(0,0),0,0)
def je (day:Int) (i:Nat) (x:aq):aa:=(day+1,1,(i:Int)+1,10,x.no,[],eP x.ord,[],(0,0),0,0)
def sOf (x:aq):aq:={ x with shp:=x.ord }
def rOf (x:aq):aq:={ x with shp:=x.ord,rcv:=x.ord }
def dsL (o:ai):List aa:=dlL (gA (bT o)) 0 (aO o)++dlL (je (bT o)) 0 (aO o)
structure yQ (x:aq):Prop where
 no:1<=x.no/\x.no<=99999
 ord:0<x.ord/\x.ord<=1000000000000
 z:x.shp=0/\x.rcv=0/\x.ret=0/\x.ono=0/\x.oq=0/\x.ount=0
theorem jU {o:ai} (ho:gf o=0):∀ x∈aO o,yQ x:=fun x hx=>by
 obtain⟨_,_,_,_,hgo,_⟩:=gy ho
 obtain⟨hln,_,_⟩:=pg hgo
 obtain⟨q,hq,rfl⟩:=aiE.1 hx
 obtain⟨_,h2,_,_,h5,_⟩:=hln q hq
 obtain⟨u0,u1,u2⟩:=vR h2
 exact⟨h5,⟨u2 rfl,u1⟩,rfl,rfl,rfl,rfl,rfl,rfl⟩
theorem VZ {o:ai} (ho:gf o=0):(aO o).Pairwise fun x y=>x.no<y.no:=by
 obtain⟨_,_,_,_,hgo,_⟩:=gy ho
 obtain⟨_,_,hpw⟩:=pg hgo
 exact List.Pairwise.map _ (fun a b (h:a.1<b.1)=>h) hpw
theorem afq {day:Int} {i:Nat} {x:aq} (hd:1<=day/\day<=3652059) (hi:i<2000) (h:yQ x):dP (gA day i x)=0:=by
 have hq:=IX h.ord.1 h.ord.2
 have hn:=h.no
 have hu:IY (gA day i x)=0:=by
  show H6 false true false false false false [] (eP x.ord) [] (0,0) 0 0=0
  unfold H6;rw[hq];rfl
 unfold dP
 rw[hu]
 unfold gA
 dsimp only
 rw[ajY (by omega),ajY (by omega),ajY (by omega),ajY (by omega),ajY (by omega),ajY (by omega)]
theorem afn {day:Int} {i:Nat} {x:aq} (hd:1<=day+1/\day+1<=3652059) (hi:i<2000) (h:yQ x):dP (je day i x)=0:=by
 have hq:=IX h.ord.1 h.ord.2
 have hn:=h.no
 have hu:IY (je day i x)=0:=by
  show H6 false true false false false false [] (eP x.ord) [] (0,0) 0 0=0
  unfold H6;rw[hq];rfl
 unfold dP
 rw[hu]
 unfold je
 dsimp only
 rw[ajY (by omega),ajY (by omega),ajY (by omega),ajY (by omega),ajY (by omega),ajY (by omega)]
theorem X9 {day nb:Int} (hd:1<=day/\day<=3652059):∀ (L:List aq) (i:Nat) (p:Option aa) (r:List aa),(∀ x∈L,yQ x)->i+L.length<=1000->(∀ q,p=some q->q.1=day/\q.2.1=2/\q.2.2.1=(i:Int))-> ∃ p',(∀ q,p'=some q->q.1=day)/\dy (dlL (gA day) i L++r) p nb (i:Int)=dy r p' nb ((i+L.length:Nat):Int)
 | [],i,p,r,_,_,hp=>⟨p,fun q hq=>(hp q hq).1,rfl⟩
 | x::L,i,p,r,hL,hi,hp=>by
  simp only[ain] at hi
  have h0:=afq (i:=i) hd (by omega) (hL x aiB)
  obtain⟨p',h1,h2⟩:=X9 hd L (i+1) (some (gA day i x)) r (fun y hy=>hL y (aiA _ hy)) (by omega) (fun q hq=>by cases hq;exact⟨rfl,rfl,by show (i:Int)+1=_;omega⟩)
  refine⟨p',h1, ?_⟩
  have hany:¬(p.any fun q=>decide (0<=dCw q (gA day i x)))=true:=by
   cases p with
   | none=>simp
   | some q=>
    obtain⟨q1,q2,q3⟩:=hp q rfl
    have:dCw q (gA day i x)= -1:=by
     unfold dCw
     rw[q1,q2,q3]
     show (if w64 (day - day)≠0 then _ else if w64 (2 - 2)≠0 then _ else w64 ((i:Int) - ((i:Int)+1)))= -1
     rw[show day - day=0 by omega,ajY (by decide),ajY (by decide),show (i:Int) - ((i:Int)+1)= -1 by omega];rfl
    show ¬decide (0<=dCw q (gA day i x))=true
    rw[this];decide
  show dy (gA day i x::(dlL (gA day) (i+1) L++r)) p nb i=_
  rw[dy,ajY (fun e=>e h0),ajY hany,ajY (show ¬(gA day i x).2.1=1 by show ¬(2:Int)=1;decide),ajY (fun e=>e (by rw[ax (n:=(i:Int)+1) (by omega) (by omega)];rfl))]
  refine Eq.trans ?_ (h2.trans ?_)
  ·show dy _ _ _ ((i:Int)+1)=_
   rw[show (i:Int)+1=((i+1:Nat):Int) by omega]
  ·rw[ain,show i+1+L.length=i+(L.length+1) by omega]
theorem X8 {day ns:Int} (hd:1<=day+1/\day+1<=3652059):∀ (L:List aq) (i:Nat) (p:Option aa),(∀ x∈L,yQ x)->i+L.length<=1000->(∀ q,p=some q->q.1=day\/q.1=day+1/\q.2.1=1/\q.2.2.1=(i:Int))-> dy (dlL (je day) i L) p (i:Int) ns=0
 | [],i,p,_,_,hp=>rfl
 | x::L,i,p,hL,hi,hp=>by
  simp only[ain] at hi
  have h0:=afn (i:=i) hd (by omega) (hL x aiB)
  have h2:=X8 (ns:=ns) hd L (i+1) (some (je day i x)) (fun y hy=>hL y (aiA _ hy)) (by omega) (fun q hq=>by cases hq;exact .inr ⟨rfl,rfl,by show (i:Int)+1=_;omega⟩)
  have hany:¬(p.any fun q=>decide (0<=dCw q (je day i x)))=true:=by
   cases p with
   | none=>simp
   | some q=>
    have:dCw q (je day i x)= -1:=by
     unfold dCw
     rcases hp q rfl with q1 | ⟨q1,q2,q3⟩
     ·rw[q1]
      show (if w64 (day - (day+1))≠0 then w64 (day - (day+1)) else _)= -1
      rw[show day - (day+1)= -1 by omega,ajZ (by decide)];rfl
     ·rw[q1,q2,q3]
      show (if w64 (day+1 - (day+1))≠0 then _ else if w64 (1 - 1)≠0 then _ else w64 ((i:Int) - ((i:Int)+1)))= -1
      rw[show day+1 - (day+1)=0 by omega,ajY (by decide),ajY (by decide),show (i:Int) - ((i:Int)+1)= -1 by omega];rfl
    show ¬decide (0<=dCw q (je day i x))=true
    rw[this];decide
  show dy (je day i x::dlL (je day) (i+1) L) p i ns=_
  rw[dy,ajY (fun e=>e h0),ajY hany,ajZ (show (je day i x).2.1=1 from rfl),ajY (fun e=>e (by rw[ax (n:=(i:Int)+1) (by omega) (by omega)];rfl))]
  refine Eq.trans ?_ h2
  show dy _ _ ((i:Int)+1) _=_
  rw[show (i:Int)+1=((i+1:Nat):Int) by omega]
theorem N3 {o:ai} (ho:gf o=0) (hl:(aO o).length<=100) (hd:bT o+1<=3652059):dM o (dsL o)=0:=by
 have h1:=(gy ho).1
 have hn:=jU ho
 unfold dM
 rw[ajY (fun e=>e ho)]
 unfold xb dsL
 rw[ajY (by rw[aim,GC,GC];omega)]
 obtain⟨p',h2,h3⟩:=X9 (nb:=0) h1 (aO o) 0 none (dlL (je (bT o)) 0 (aO o)) hn (by omega) nofun
 exact h3.trans (X8 ⟨by omega,hd⟩ (aO o) 0 p' hn (by omega) fun q hq=> .inl (h2 q hq))
theorem YK {o:ai} {l:List aa} {day:Int} {D:Nat->aq->aa} {a b:aq->aq} (hk:∀ i x,b9 (D i x)≠1) (hl:∀ i x,ry (D i x)=x.no) (hd:∀ i x,(D i x).1<=day) (ha:∀ x,(a x).no=x.no) (hb:∀ x,(b x).no=x.no): ∀ (S P:List aq) (i j:Nat) (r:List aa) (ref:List (Int×Int)) (pts:List bn),((P++S).map aq.no).Nodup->(∀ x∈S,1<=x.no/\∀ i j,fQ o l j (D i x) (a x)=(0,b x))-> qq o l 0 day (dlL D i S++r) j (P.map b++S.map a) ref pts=qq o l 0 day r (j+S.length) ((P++S).map b) ref pts
 | [],P,i,j,r,ref,pts,_,_=>by rw[aix,ahM,ahM];rfl
 | x::S,P,i,j,r,ref,pts,hnd,hS=>by
  obtain⟨h1,h2⟩:=hS x aiB
  have hget:(P.map b++(x::S).map a)[P.length]? =some (a x):=by
   rw[ah4 (by simp)];simp
  have hnd':((P.map b++(x::S).map a).map aq.no).Nodup:=by
   rw[ait,aiw,aiw]
   rw[ait] at hnd
   rwa [show aq.no ∘ b=aq.no from funext hb,show aq.no ∘ a=aq.no from funext ha]
  have hf:oG (ry (D i x)) (P.map b++(x::S).map a)=some P.length:=by
   have:=LC (i:=0) hnd' hget (ha x)
   rw[ajx] at this
   rw[hl];exact this
  have hz:=VI (o:=o) (l:=l) (i:=j) (hk i x) hf hget
  rw[h2 i j] at hz
  have hset:(P.map b++(x::S).map a).set P.length (b x)=(P++[x]).map b++S.map a:=by
   rw[List.set_append_right _ _ (by simp)];simp
  rw[hset] at hz
  show qq o l 0 day (D i x::(dlL D (i+1) S++r)) j _ ref pts=_
  rw[qq,ajY (by have:=hd i x;omega),hz,ajY (fun e=>e rfl)]
  have hpt:∀ A,RP 0 j (D i x) A pts=pts:=fun A=>by unfold RP;rw[hl,ajY (by omega)]
  rw[hpt,YK hk hl hd ha hb S (P++[x]) (i+1) (j+1) r ref pts (by rw[ahL];exact hnd) (fun y hy=>hS y (aiA _ hy))]
  rw[ahL,ain,show j+1+S.length=j+(S.length+1) by omega];rfl
theorem aby {o:ai} (he:0<=fA o) {l:List aa} {x:aq} (h:yQ x) (day:Int) (i j:Nat):fQ o l j (gA day i x) x=(0,sOf x):=by
 obtain⟨z1,z2,z3,z4,z5,z6⟩:=h.z
 have ho:=h.ord
 have hm:dK (fA o) (gA day i x) x=(0,{ x with shp:=x.shp+x.ord }):=by
  unfold dK
  rw[ajZ (show b9 (gA day i x)=9 from rfl),show dQ (gA day i x)=eP x.ord from rfl,QU,ajY (by
   have:=Int.ediv_nonneg (ahr (show 0<=x.ord by omega) he) (show (0:Int)<=1000 by decide)
   omega),ajY (by omega)]
 unfold fQ
 rw[show b9 (gA day i x)=9 from rfl,ajY (by decide),ajY (by decide),ajY (by decide),ajY (by decide),ajZ rfl,hm,ajZ rfl]
 obtain⟨x1,x2,x3,x4,x5,x6,x7,x8,x9,x10,x11,x12,x13⟩:=x
 dsimp only at z1 z2 z3 z4 z5 z6
 subst z1 z2 z3 z4 z5 z6
 simp[aq.clr,sOf]
theorem abx {o:ai} {l:List aa} {x:aq} (h:yQ x) (day:Int) (i j:Nat):fQ o l j (je day i x) (sOf x)=(0,rOf x):=by
 obtain⟨z1,z2,z3,z4,z5,z6⟩:=h.z
 have hm:dK (fA o) (je day i x) (sOf x)=(0,{ sOf x with rcv:=(sOf x).rcv+x.ord }):=by
  unfold dK
  rw[show b9 (je day i x)=10 from rfl,ajY (by decide),ajZ rfl,show dQ (je day i x)=eP x.ord from rfl,QU,ajY (by
   show ¬x.ord<x.rcv+x.ord
   omega)]
 unfold fQ
 rw[show b9 (je day i x)=10 from rfl,ajY (by decide),ajY (by decide),ajY (by decide),ajY (by decide),ajY (by decide),hm]
 obtain⟨x1,x2,x3,x4,x5,x6,x7,x8,x9,x10,x11,x12,x13⟩:=x
 dsimp only at z1 z2 z3 z4 z5 z6
 subst z1 z2 z3 z4 z5 z6
 simp[sOf,rOf]
theorem Wj {o:ai} (ho:gf o=0) (l r:List aa) {d:Int} (hd:bT o<=d):qq o l 0 d (dlL (gA (bT o)) 0 (aO o)++r) 0 (aO o) [] []=qq o l 0 d r (aO o).length ((aO o).map sOf) [] []:=by
 have:=YK (o:=o) (l:=l) (day:=d) (D:=gA (bT o)) (a:=id) (b:=sOf) (fun _ _=>by show ¬(9:Int)=1;decide) (fun _ _=>rfl) (fun _ _=>hd) (fun _=>rfl) (fun _=>rfl) (aO o) [] 0 0 r [] [] (Cl ho).nd (fun x hx=>⟨(jU ho x hx).no.1,fun i j=>aby (gy ho).2.1.1 (jU ho x hx) _ i j⟩)
 simpa using this
theorem ads {o:ai} (ho:gf o=0):sd o (dsL o) 0 (bT o)=((aO o).map sOf,[],[]):=by
 unfold sd dsL
 rw[Wj ho _ _ (ahm _)]
 cases hL:aO o with
 | nil=>rfl
 | cons x r=>
  show qq o _ 0 _ (je (bT o) 0 x::_) _ _ _ _=_
  rw[qq,ajZ (by show bT o<bT o+1;omega)]
theorem Xm {o:ai} (ho:gf o=0) {d:Int} (hd:bT o+1<=d):sd o (dsL o) 0 d=((aO o).map rOf,[],[]):=by
 unfold sd dsL
 rw[Wj ho _ _ (by omega)]
 have:=YK (o:=o) (l:=dlL (gA (bT o)) 0 (aO o)++dlL (je (bT o)) 0 (aO o)) (day:=d) (D:=je (bT o)) (a:=sOf) (b:=rOf) (fun _ _=>by show ¬(10:Int)=1;decide) (fun _ _=>rfl) (fun _ _=>hd) (fun _=>rfl) (fun _=>rfl) (aO o) [] 0 (aO o).length [] [] [] (Cl ho).nd (fun x hx=>⟨(jU ho x hx).no.1,fun i j=>abx (jU ho x hx) _ i j⟩)
 simp only[ahM,aix,aiL] at this
 rw[this];rfl
theorem all_none {o:ai} (d:Int):sd o [] 0 d=(aO o,[],[]):=rfl
theorem RW {o:ai} (ho:gf o=0) {f:aq->aq} (hf:∀ x,(f x).no=x.no):fB ((aO o).map f)=(aO o).map f:=by
 unfold fB
 refine List.mergeSort_of_pairwise (List.Pairwise.map _ (fun a b (h:a.no<b.no)=> ?_) (VZ ho))
 rw[hf,hf];exact ajR (by omega)
theorem Yp {o:ai} {l:List aa} (h:dM o l=0) {d:Int} (hd:1<=d/\d<=3652059):lnF o l d=0:=by
 unfold lnF;rw[ajY (fun e=>e h),ajZ hd]
theorem ad0 {o:ai} (ho:gf o=0):dM o []=0:=by
 unfold dM;rw[ajY (fun e=>e ho)];rfl
theorem acs {o:ai} (ho:gf o=0):pn o [] (bT o)=some ((aO o).map dB,0,()):=by
 have h:=RW ho (f:=id) (fun _=>rfl)
 rw[List.map_id] at h
 rw[BS,Yp (ad0 ho) (gy ho).1,ajZ rfl,all_none,h]
theorem ad8 {o:ai} (ho:gf o=0) (hl:(aO o).length<=100) (hd:bT o+1<=3652059):oH o (dsL o)=some ([],0,()):=by
 rw[OJ (N3 ho hl hd),Xm ho hd]
theorem agk {o:ai} (ho:gf o=0) (hl:(aO o).length<=100) (hd:bT o+1<=3652059):Aj o (dsL o) (bT o)=some (true,0,()):=by
 rw[WS,Yp (N3 ho hl hd) (gy ho).1,ajZ rfl,ads ho,RW ho (f:=sOf) (fun _=>rfl)]
 have:((aO o).map sOf).any (fun x=>decide (0<x.opn))=false:=by
  rw[ahJ]
  intro x hx
  obtain⟨y,hy,rfl⟩:=aiE.1 hx
  have hz:=(jU ho y hy).z
  have:(sOf y).opn=0:=by
   unfold aq.opn
   rw[ajY (by show ¬y.ord - y.ord+y.ret>0;omega)]
  rw[this];decide
 rw[this];rfl
theorem KO {o:ai} (ho:gf o=0) (hl:(aO o).length<=100) {d:Int} (hd:bT o+1<=d) (hd2:d<=3652059):stF o (dsL o) d=((aO o).map rOf).map dB:=by
 have h1:=(gy ho).1
 unfold stF
 rw[Yp (N3 ho hl (by omega)) ⟨by omega,hd2⟩,ajZ rfl,Xm ho hd,RW ho (f:=rOf) (fun _=>rfl)]
end Go.Md
set_option linter.all false
set_option maxRecDepth 20000
namespace Go.Md
open Go.Dn
theorem adU {o:ai} (ho:gf o=0):∀ x∈aO o,bF x.art=true/\bF x.unit=true/\inR x.price 0 1000000000 4=true:=fun x hx=>by
 obtain⟨_,_,_,_,hgo,_⟩:=gy ho
 obtain⟨hln,_,_⟩:=pg hgo
 obtain⟨q,hq,rfl⟩:=aiE.1 hx
 obtain⟨h1,_,h3,h4,_⟩:=hln q hq
 exact⟨h1,h3,h4⟩
theorem af5 {x:aq} (h:yQ x):LOk (rOf x):=by
 obtain⟨z1,z2,z3,z4,z5,z6⟩:=h.z
 have:=h.ord
 exact⟨by show 0<=x.ret;omega,by show x.ret<=x.ord;omega,by show x.ord<=x.ord;omega,by show x.ord<=_;omega,by show 0<=x.ord;omega,by show x.ord<=_;omega,fun e=>absurd z4 e⟩
theorem Yf {x:aq} (h:yQ x):gm (dB (rOf x))=x.ord*1000000:=by
 rw[LM (af5 h)]
 show (x.ord - x.ret)*1000000=_
 rw[h.z.2.2.1,Int.sub_zero]
theorem agI {x:aq} (h:yQ x):kqZ (dB (rOf x))=x.ord:=by
 unfold kqZ;rw[Yf h,Int.mul_ediv_cancel _ (by decide)]
theorem K6 {rate:Bys}:∀ (L:List aq) (k:Nat),(∀ x∈L,yQ x)->(gq rate k ((L.map rOf).map dB)).length=L.length
 | [],_,_=>rfl
 | x::L,k,h=>by
  have hx:=h x aiB
  show (gq rate k (dB (rOf x)::(L.map rOf).map dB)).length=_
  rw[gq,ajY (by rw[Yf hx];have:=hx.ord;omega),ain,ain,K6 L (k+1) fun y hy=>h y (aiA _ hy)]
theorem Xt {rate:Bys}:∀ (L:List aq) (k i:Nat) (y:aI),(∀ x∈L,yQ x)->(gq rate k ((L.map rOf).map dB))[i]? =some y-> ∃ x∈L,y=(((k+i:Nat):Int)+1,x.no,x.art,eP x.ord,x.unit,E9 x.price,1,[],rate)
 | [],_,_,_,_,h=>by simp[gq] at h
 | x::L,k,i,y,h,hy=>by
  have hx:=h x aiB
  change (gq rate k (dB (rOf x)::(L.map rOf).map dB))[i]? =_ at hy
  rw[gq,ajY (by rw[Yf hx];have:=hx.ord;omega),agI hx] at hy
  cases i with
  | zero=>
   simp only[ah6,Option.some.injEq] at hy
   exact⟨x,aiB,hy.symm⟩
  | succ i=>
   rw[ah5] at hy
   obtain⟨z,hz,e⟩:=Xt L (k+1) i y (fun z hz=>h z (aiA _ hz)) hy
   exact⟨z,aiA _ hz,by rw[e,show k+1+i=k+(i+1) by omega]⟩
theorem IJ {α:Type} {g:Nat->α->Int}:∀ {l:List α} {i:Nat},(∀ j y,l[j]? =some y->g (i+j) y=0)->fk g i l=0
 | [],_,_=>rfl
 | y::r,i,h=>by
  rw[fk,ajZ (show g i y=0 from h 0 y rfl)]
  exact IJ fun j z hz=>by rw[show i+1+j=i+(j+1) by omega];exact h (j+1) z hz
theorem agt {d:ah} (h:qOk d false=true):inR d (-1000000000) 1000000000 3=true/\d.1≠0:=by
 obtain⟨h1,h2,h3,h4⟩:=IG h
 unfold qOk inR at h
 simp only[ag1,ajS] at h
 obtain⟨⟨a1,a2,a3,a4⟩,_⟩:=h
 have hp:(0:Int)<10 ^ d.2.toNat:=ahw (by decide)
 refine⟨ajR ⟨a1,a2, ?_,a4⟩,h4 rfl⟩
 rw[Int.neg_mul];omega
theorem K7 {o:ai} (ho:gf o=0) (hl:(aO o).length<=100) (hd:bT o+1<=3652059) {num:Bys} (hnum:bF num=true) {like:an} (h:mA like=0):mA (eD o (dsL o) num like)=0:=by
 have hn:=jU ho
 have hnm:=adU ho
 have hne:aO o≠[]:=(Cl ho).ne
 have hst:=KO ho hl hd (ahm _)
 have hlen:=K6 (rate:=nW like) (aO o) 0 hn
 have hget:=fun i y=>Xt (rate:=nW like) (aO o) 0 i y hn
 have hpos:0<(aO o).length:=List.length_pos_iff.2 hne
 unfold mA at h
 split at h
 ·cases h
 split at h
 ·cases h
 split at h
 ·cases h
 rename_i h3
 split at h
 ·cases h
 rename_i h4
 split at h
 ·cases h
 rename_i h5
 split at h
 ·rename_i h6;exact absurd h h6
 rename_i h6
 have h6':xA like.2.2.2.2.2.2.1=0:=ahk h6
 have hr:∃ r0 rr,like.2.2.2.2.2.2.1=r0::rr:=by
  cases hq:like.2.2.2.2.2.2.1 with
  | nil=>rw[hq] at h6';cases h6'
  | cons a b=>exact⟨a,b,rfl⟩
 obtain⟨r0,rr,hr⟩:=hr
 have hix:(gK (fun x:aZ=>x.1) (nW like) like.2.2.2.2.2.2.1).isSome=true:=by
  unfold nW gK
  rw[hr]
  simp[ahZ]
 have hlines:Kp (eD o (dsL o) num like)=0:=by
  unfold Kp
  refine IJ fun i y hy=> ?_
  have hy':(gq (nW like) 0 ((aO o).map rOf |>.map dB))[i]? =some y:=by rw[<- hst];exact hy
  obtain⟨x,hx,rfl⟩:=hget i y hy'
  have hil:i<(aO o).length:=by have:=(aia.1 hy').1;omega
  obtain⟨m1,m2,m3⟩:=hnm x hx
  have hxn:=hn x hx
  obtain⟨q1,q2⟩:=agt (IX hxn.ord.1 hxn.ord.2)
  have hno:=hxn.no
  have hprev:TM (eD o (dsL o) num like).2.2.2.2.2.2.2.1 (0+i) (((0+i:Nat):Int)+1,x.no,x.art,eP x.ord,x.unit,E9 x.price,1,[],nW like)=false:=by
   rw[ajx]
   cases i with
   | zero=>rfl
   | succ i=>
    show (match (gq (nW like) 0 (stF o (dsL o) 3652059))[i]? with | some p=>decide (((i+1:Nat):Int)+1<=p.1) | none=>false)=false
    rw[hst]
    cases hp:(gq (nW like) 0 ((aO o).map rOf |>.map dB))[i]? with
    | none=>rfl
    | some p=>
     obtain⟨z,_,rfl⟩:=hget i p hp
     exact ajQ (by show ¬((i+1:Nat):Int)+1<=((0+i:Nat):Int)+1;omega)
  unfold Gt
  rw[hprev]
  dsimp only
  rw[ajY (by omega),ajY (by decide),ajY (by omega),m1,ajY (by decide),q1,ajY (by decide),ajY q2,m2,ajY (by decide),aaZ m3,ajY (by decide),ajY (by decide)]
  rw[ajY (show ¬yt _ _ true []≠0 from fun e=>e rfl)]
  exact ajZ hix
 unfold mA
 have hll:(eD o (dsL o) num like).2.2.2.2.2.2.2.1.length=(aO o).length:=by
  show (gq (nW like) 0 (stF o (dsL o) 3652059)).length=_
  rw[hst];exact hlen
 rw[hll,hlines]
 unfold eD
 dsimp only
 rw[hnum,ajY (by decide),(gy ho).2.2.2.2.2.1,ajY (by decide),ajY h3,ajY h4,ajY h5,ajY h6,ajY (by omega),ajY (by omega),ajY (fun e=>e rfl)]
 rfl
theorem abD {o:ai} (ho:gf o=0) (hl:(aO o).length<=100) (hd:bT o+1<=3652059) {num:Bys} (hnum:bF num=true) (like:an):blF o (dsL o) num like=mA like:=by
 unfold blF
 rw[ajY (fun e=>e (N3 ho hl hd)),hnum,ajY (by decide)]
 by_cases h:mA like=0
 ·rw[ajY (fun e=>e h),h,K7 ho hl hd hnum h]
  rw[ajY]
  intro e
  have:=K6 (rate:=nW like) (aO o) 0 (jU ho)
  rw[KO ho hl hd (ahm _)] at e
  rw[e] at this
  exact (Cl ho).ne (List.length_eq_zero_iff.1 this.symm)
 ·rw[ajZ h]
theorem abt {o:ai} (ho:gf o=0) (hl:(aO o).length<=100) (hd:bT o+1<=3652059) {n1 n2:Bys} (h1:bF n1=true) (h2:bF n2=true) (h12:(n1==n2)=false) {like:an} (h:mA like=0) (hday:like.2.2.1=bT o+1): ∃ miss,z7 o (dsL o) (0,0) [eD o (dsL o) n1 like,(n2,(eD o (dsL o) n1 like).2)]=some (miss,0,())/\miss.length=(aO o).length/\(eD o (dsL o) n1 like).2.2.2.2.2.2.2.1.length=(aO o).length:=by
 have hc:=N3 ho hl hd
 have i1:=K7 ho hl hd h1 h
 have i2:=K7 ho hl hd h2 h
 have hod:=(gy ho).1
 have est:stF o (dsL o) (bT o+1)=stF o (dsL o) 3652059:=by
  rw[KO ho hl (ahm _) hd,KO ho hl hd (ahm _)]
 have hst:∀ s∈stF o (dsL o) 3652059,gm s=kqZ s*1000000/\0<=kqZ s/\kqZ s<=1000000000000000:=fun s hs=>adb hc hs
 have hnd:=ade hc 3652059
 have hll:(eD o (dsL o) n1 like).2.2.2.2.2.2.2.1.length=(aO o).length:=by
  show (gq (nW like) 0 (stF o (dsL o) 3652059)).length=_
  rw[KO ho hl hd (ahm _)];exact K6 (aO o) 0 (jU ho)
 have hmF:mF o (dsL o) (0,0) [eD o (dsL o) n1 like,(n2,(eD o (dsL o) n1 like).2)]=0:=by
  unfold mF
  rw[ajY (fun e=>e hc),ajY (by decide),ajY (by simp)]
  rw[aaV i1 (by show ¬(eD o (dsL o) n1 like).2.2.1<(eD o (dsL o) n1 like).2.2.1;omega)]
  exact i2
 have haft:∀ s∈stF o (dsL o) 3652059,0<gm s->JL (stF o (dsL o) 3652059) (fun _=>0) s.1=gm s:=fun s hs h0=>by
  unfold JL
  rw[Oe hnd s hs]
  exact ajY (by omega)
 refine⟨_,by rw[Ws,hmF,ajZ rfl], ?_,hll⟩
 have hi0:BO o.1 (stF o (dsL o)) (0,0) [] 0 (eD o (dsL o) n1 like) (fun _=>0)=([],JL (stF o (dsL o) 3652059) (fun _=>0)):=by
  unfold BO
  rw[ajY (show ¬((eD o (dsL o) n1 like).2.1≠o.1) from fun e=>e rfl),ajY (by simp),show (eD o (dsL o) n1 like).2.2.1=bT o+1 from hday,est]
  exact Jx hst hnd 0 (nW like) (stF o (dsL o) 3652059) 0 0 _ (fun _ hs=>hs) hnd (fun _ _=>rfl)
 simp only[Fc]
 rw[show (([]:List an).length:Int)=0 from rfl,hi0]
 dsimp only
 rw[aiL,ahM,aiL]
 unfold BO
 rw[ajY (show ¬((eD o (dsL o) n1 like).2.1≠o.1) from fun e=>e rfl),ajY (by
  show ¬(([eD o (dsL o) n1 like]:List an).any (fun u=>u.1==n2))=true
  have:((eD o (dsL o) n1 like).1==n2)=false:=h12
  simp[this])]
 show (oe (stF o (dsL o) (eD o (dsL o) n1 like).2.2.1) (0,0) _ 0 (gq (nW like) 0 (stF o (dsL o) 3652059)) _).1.length=_
 rw[show (eD o (dsL o) n1 like).2.2.1=bT o+1 from hday,est]
 refine (Jy hst hnd _ (nW like) (stF o (dsL o) 3652059) 0 0 _ (fun _ hs=>hs) haft).trans ?_
 exact hll
end Go.Md
set_option linter.all false
set_option maxRecDepth 20000
namespace Go.Md
open Go.Dn
def asks (s:aj) (g:bw):Bool:=s.2.1==g.1&&s.2.2.1==g.2.1
theorem adP (order:List Int) (left items:List bw) (li ii:Int) (lines:List aj) (g:bw) (hord:∀ x∈order,0<=x/\x<(lines.length:Int)) (hol:order.length<=500) (os:List Int) (hos:os.length=lines.length) (hll:lines.length<=500) (q:Int) (hql:Le 24 q) (k0:Nat) (hk0:(k0:Int)∈order) (hq:os[k0]? =some q) (hm:∀ k s,lines[k]? =some s->(asks s g=true↔k=k0)) (f:Nat) (hf:order.length<f): iter f ((order,left,items,li,ii,order,(order.length:Int),(0:Int),lines,g.1,g.2.1,g.2.2.1,g.2.2.2,(W q).1,(W q).2,os.map W,()):tq) yE=some (Sum.inr (order,left,items,li,ii,lines,g.1,g.2.1,g.2.2.1,g.2.2.2,(W 0).1,(W 0).2,(os.set k0 0).map W,())):=by
 have hk0l:k0<os.length:=(aia.1 hq).1
 refine bX (Inv:=fun j X=>∃ (z:Int) (ps:List Int),X=((order,left,items,li,ii,order,(order.length:Int),(j:Int),lines,g.1,g.2.1,g.2.2.1,g.2.2.2,(W z).1,(W z).2,ps.map W,()):tq)/\((k0:Int)∈order.take j/\z=0/\ps=os.set k0 0\/¬(k0:Int)∈order.take j/\z=q/\ps=os)) order.length
  (fun r=>r=some (Sum.inr (order,left,items,li,ii,lines,g.1,g.2.1,g.2.2.1,g.2.2.2,(W 0).1,(W 0).2,(os.set k0 0).map W,()))) ?_ ?_ f 0 _ ⟨q,os,rfl,.inr ⟨by simp,rfl,rfl⟩⟩ (by omega) (by omega)
 ·rintro j _ again hj ⟨z,ps,rfl,h1⟩ ih
  unfold yE
  dsimp only
  have hy:order[j]? =some order[j]:=aJ hj
  have hk:=hord _ (ail hj)
  have ets:order.take (j+1)=order.take j++[order[j]]:=by rw[ai0,hy];rfl
  generalize order[j]=k at hy hk ets
  obtain⟨k,rfl⟩:=Int.eq_ofNat_of_zero_le hk.1
  have hkl:k<lines.length:=by omega
  have hlk:lines[k]? =some lines[k]:=aJ hkl
  generalize lines[k]=s at hlk
  have hmk:=hm k s hlk
  have hzk:z=0/\ps[k0]? =some 0\/z=q/\ps[k0]? =some q:=by
   rcases h1 with ⟨_,rfl,rfl⟩ | ⟨_,rfl,rfl⟩
   ·exact .inl ⟨rfl,aih hk0l⟩
   ·exact .inr ⟨rfl,hq⟩
  have hzp:ps[k0]? =some z:=by rcases hzk with ⟨rfl,h⟩ | ⟨rfl,h⟩<;>exact h
  have hzl:Le 24 z:=by
   rcases hzk with ⟨rfl,_⟩ | ⟨rfl,_⟩
   ·unfold Le;simp
   ·exact hql
  have hpl:ps.length=lines.length:=by
   rcases h1 with ⟨_,_,rfl⟩ | ⟨_,_,rfl⟩
   ·rw[aiq];exact hos
   ·exact hos
  have b1:=hzl.w (by omega)
  have hwk:(ps.map W)[k0]? =some (W z):=by rw[aib,hzp];rfl
  have hwl:(ps.map W).length=lines.length:=by rw[aio];omega
  rw[aB (by omega),bq,hy,ajA,bq,hlk,ajA,ajA,ax (by omega) (by omega)]
  have skip:k≠k0->again (order,left,items,li,ii,order,(order.length:Int),(j:Int)+1,lines,g.1,g.2.1,g.2.2.1,g.2.2.2,(W z).1,(W z).2,ps.map W,())=some (Sum.inr (order,left,items,li,ii,lines,g.1,g.2.1,g.2.2.1,g.2.2.2,(W 0).1,(W 0).2,(os.set k0 0).map W,())):=by
   intro hne
   refine ih _ ⟨z,ps,rfl, ?_⟩
   rw[ets]
   rcases h1 with ⟨h,h'⟩ | ⟨h,h'⟩
   ·exact .inl ⟨List.mem_append_left _ h,h'⟩
   ·refine .inr ⟨fun e=> ?_,h'⟩
    rcases aiy.1 e with e | e
    ·exact h e
    ·have:=aiJ.1 e;omega
  unfold asks at hmk
  cases ha:s.2.1==g.1 with
  | false=>
   rw[ahc,ajO]
   exact skip fun e=>by have:=hmk.2 e;rw[ha] at this;cases this
  | true=>
   rw[ahd,ajN]
   cases hb:s.2.2.1==g.2.1 with
   | false=>
    rw[ahc,ajO]
    exact skip fun e=>by have:=hmk.2 e;rw[ha,hb] at this;cases this
   | true=>
    have e:k=k0:=hmk.1 (by rw[ha,hb];rfl)
    subst e
    rw[ahd,ajN,bg (by rw[hwl];simp only[ag1,ajS];omega),ahC,hwk,ajA,show ((W z).1,(W z).2)=W z from rfl,wV z z b1 b1,ajA]
    dsimp only
    rw[az (by rw[Int.sign_neg_iff];omega),aS]
    dsimp only
    rw[show ((W z).1,(W z).2)=W z from rfl,pN z z b1 b1,ajA,bg (by rw[hwl];simp only[ag1,ajS];omega),ahC,hwk,ajA,pN z z b1 b1,ajA,bg (by rw[hwl];simp only[ag1,ajS];omega),ajA,ax (by omega) (by omega)]
    refine ih _ ⟨0,os.set k 0, ?_,.inl ⟨by rw[ets];simp,rfl,rfl⟩⟩
    rw[Int.sub_self]
    have:(ps.map W).set k (W 0)=(os.set k 0).map W:=by
     rw[List.map_set]
     rcases h1 with ⟨_,_,rfl⟩ | ⟨_,_,rfl⟩
     ·rw[List.map_set,aiS]
     ·rfl
    dsimp only
    rw[this];rfl
 ·rintro _ again ⟨z,ps,rfl,h1⟩
  unfold yE
  dsimp only
  rw[az (by omega)]
  rw[aiZ (ajc _)] at h1
  rcases h1 with ⟨_,rfl,rfl⟩ | ⟨h,_⟩
  ·rfl
  ·exact absurd hk0 h
def opL (lines:List aj) (items:List bw):List Int:=lines.map fun s=>if items.any (asks s)=true then 0 else v9 (opn s)
structure Fit (items:List bw) (lines:List aj):Prop where
 line:∀ (i:Nat) (g:bw),items[i]? =some g->∃ (k:Nat) (s:aj),lines[k]? =some s/\v9 (opn s)=v9 g.2.2/\(∀ k' s',lines[k']? =some s'->(asks s' g=true↔k'=k))/\∀ (j:Nat) (h:bw),items[j]? =some h->asks s h=true->j=i
 item:∀ s∈lines,items.any (asks s)=true
theorem adN {order:List Int} {items:List bw} {lines:List aj} (hF:Fit items lines) (hord:∀ x:Int,x∈order↔0<=x/\x<(lines.length:Int)) (hol:order.length<=500) (hll:lines.length<=500) (hil:items.length<=100) (hit:∀ y∈items,cm y.2.2) (f:Nat) (hf:items.length<f): iter f ((order,([]:List bw),items,(items.length:Int),(0:Int),lines,(op9 lines).map W,()):tj) yD=some (Sum.inr ([],lines,(lines.map fun _=>(0:Int)).map W,())):=by
 refine bX (Inv:=fun i X=>X=((order,([]:List bw),items,(items.length:Int),(i:Int),lines,(opL lines (items.take i)).map W,()):tj)) items.length
  (fun r=>r=some (Sum.inr ([],lines,(lines.map fun _=>(0:Int)).map W,()))) ?_ ?_ f 0 _ (by simp[opL,op9]) (by omega) (by omega)
 ·rintro i _ again hi rfl ih
  unfold yD
  dsimp only
  have hy:items[i]? =some items[i]:=aJ hi
  have hyq:=hit _ (ail hi)
  have ets:items.take (i+1)=items.take i++[items[i]]:=by rw[ai0,hy];rfl
  generalize items[i]=y at hy hyq ets
  obtain⟨k,s,hk,hv,hm,hone⟩:=hF.line i y hy
  have hkl:=(aia.1 hk).1
  have hsy:asks s y=true:=(hm k s hk).2 rfl
  have hnot:(items.take i).any (asks s)=false:=by
   rw[ahJ]
   intro h hh ha
   obtain⟨j,hj⟩:=aiD.1 hh
   have hj':=(aia.1 hj).1
   rw[ais] at hj'
   rw[aij (by omega)] at hj
   have:=hone j h hj ha
   omega
  have hq:(opL lines (items.take i))[k]? =some (v9 y.2.2):=by
   unfold opL
   rw[aib,hk,ajG,hnot,ajY (by decide),hv]
  have hset:(opL lines (items.take i)).set k 0=opL lines (items.take (i+1)):=by
   refine ahW fun k'=> ?_
   rw[aie]
   unfold opL
   rw[aio,aib]
   by_cases e:k=k'
   ·subst e
    rw[ajZ rfl,ajZ hkl,aib,hk,ajG,ets,List.any_append]
    simp[hsy]
   ·rw[ajY e,aib]
    cases hk':lines[k']? with
    | none=>rfl
    | some s'=>
     rw[ajG,ajG,ets,List.any_append]
     have:asks s' y=false:=by
      cases hc:asks s' y with
      | false=>rfl
      | true=>exact absurd ((hm k' s' hk').1 hc).symm e
     rw[show ([y]:List bw).any (asks s')=false by simp[this],ahg]
  have hone':=adP order [] items (items.length:Int) (i:Int) lines y (fun x hx=>(hord x).1 hx) hol (opL lines (items.take i)) (by simp[opL]) hll (v9 y.2.2) (abu hyq) k ((hord _).2 ⟨by omega,by omega⟩) hq hm
  rw[aB (by omega),bq,hy,ajA,CP hyq,ajA]
  rw[hone' _ (by omega),aS]
  dsimp only
  rw[show ((W 0).1,(W 0).2)=W 0 from rfl,jT,ajA,ax (by omega) (by omega)]
  dsimp only
  rw[az (by simp),hset]
  exact ih _ rfl
 ·rintro _ again rfl
  unfold yD
  dsimp only
  rw[az (by omega)]
  rw[aiZ (ajc _)]
  have:opL lines items=lines.map fun _=>(0:Int):=by
   unfold opL
   exact aiu fun s hs=>ajZ (hF.item s hs)
  rw[this]
def Mb (s:aj):ff:=(s.1,wT (v9 (opn s)),s.2.2.2.2.2.1)
theorem acq (lines:List aj) (hll:lines.length<=500) (hd:∀ y∈lines,cm (opn y)/\0<v9 (opn y)/\(few 9 (v9 (opn y))).1.natAbs<=1000000000000000) (f:Nat) (hf:lines.length<f): iter f ((([]:List bw),([]:List ff),lines,(lines.length:Int),(0:Int),(lines.map fun _=>(0:Int)).map W,()):tu) yF=some (Sum.inr ([],lines.map Mb,())):=by
 refine bX (Inv:=fun i X=>X=((([]:List bw),(lines.take i).map Mb,lines,(lines.length:Int),(i:Int),(lines.map fun _=>(0:Int)).map W,()):tu)) lines.length
  (fun r=>r=some (Sum.inr ([],lines.map Mb,()))) ?_ ?_ f 0 _ rfl (by omega) (by omega)
 ·rintro i _ again hi rfl ih
  unfold yF
  dsimp only
  have hy:lines[i]? =some lines[i]:=aJ hi
  have hym:=ail hi
  have ets:lines.take (i+1)=lines.take i++[lines[i]]:=by rw[ai0,hy];rfl
  generalize lines[i]=y at hy hym ets
  obtain⟨hdy,hp,hb⟩:=hd y hym
  have hv:=CP hdy
  unfold opn at hv
  have hwk:((lines.map fun _=>(0:Int)).map W)[i]? =some (W 0):=by rw[aib,aib,hy];rfl
  have hwl:((lines.map fun _=>(0:Int)).map W).length=lines.length:=by rw[aio,aio]
  have l1:=abu hdy
  rw[aB (by omega),bq,hy,ajA,hv,ajA,bg (by rw[hwl];simp only[ag1,ajS];omega),ahC,hwk,ajA]
  dsimp only
  rw[show v9 y.2.2.2.2.2.2.2.2.2=v9 (opn y) from rfl,pN _ _ (l1.w (by omega)) (by decide),ajA]
  dsimp only
  rw[Int.sub_zero,jT,ajA,ax (by omega) (by omega)]
  dsimp only
  rw[aB (by have:=ahz hp;omega),Kv (l1.mono (by omega)),ajA,ajZ hb]
  dsimp only
  have hlt:((lines.take i).map Mb).length<=500:=by rw[aio,ais];omega
  rw[zne,ajN,bg (u7 (by omega) (by omega))]
  refine ih _ ?_
  rw[ets,ait];rfl
 ·rintro _ again rfl
  unfold yF
  dsimp only
  rw[az (by omega),aiZ (ajc _)]
theorem aeC {items:List bw} {lines:List aj} (h1:HA items=0) (h2:Ef lines=0) (hF:Fit items lines) (hd:∀ y∈lines,0<v9 (opn y)/\(few 9 (v9 (opn y))).1.natAbs<=1000000000000000):xJ items lines=some (lines.map Mb,[],0,()):=by
 unfold xJ
 rw[L8,ajA]
 dsimp only
 rw[h1,zne,ajN,L9,ajA]
 dsimp only
 rw[h2,zne,ajN]
 obtain⟨i1,i2⟩:=Zj h1
 obtain⟨l1,l2⟩:=Yo h2
 rw[bg (by simp only[ag1,ajS];omega),bg (by simp only[ag1,ajS];omega)]
 rw[acp items lines l1 (fun y hy=>(l2 y hy).1) _ (by omega),aS]
 dsimp only
 have hcir:∀ z:Int,z∈cIr lines.length↔0<=z/\z<(lines.length:Int):=by
  intro z
  unfold cIr cI
  rw[aiE]
  constructor
  ·rintro⟨k,hk,rfl⟩
   have:=aiI.1 hk
   omega
  ·rintro⟨h,h'⟩
   exact⟨z.toNat,aiI.2 (by omega),by omega⟩
 obtain⟨order,g1,_,g3⟩:=SP.WY (afE lines) (cIr lines.length) (by rw[Pe];omega) fun z hz=>(hcir z).1 hz
 rw[g1,ajA]
 dsimp only
 have hord:∀ x:Int,x∈order↔0<=x/\x<(lines.length:Int):=fun x=>g3.mem.trans (hcir x)
 have hol:order.length=lines.length:=by rw[g3.length,Pe]
 rw[adN hF hord (by omega) l1 i1 (fun y hy=>(i2 y hy).1) _ (by omega),aS]
 dsimp only
 rw[acq lines l1 (fun y hy=>⟨(l2 y hy).1,hd y hy⟩) _ (by omega),aS]
end Go.Md
set_option linter.all false
set_option maxRecDepth 20000
namespace Go.Md
open Go.Dn
theorem VP (S:List (Tw×Int)):∀ (ks:List Tw) (L:List av),yZ S ks=some L->aej L=(ks.map (B5 S)).sum/\(∀ x∈L,cm x.2.2)/\L.length<=ks.length
 | [],L,h=>by cases h;exact⟨rfl,fun x hx=>(by cases hx),ajc _⟩
 | k::r,L,h=>by
  simp only[yZ] at h
  split at h
  ·rename_i hok
   cases hr:yZ S r with
   | none=>rw[hr] at h;cases h
   | some l=>
    rw[hr] at h
    obtain⟨i1,i2,i3⟩:=VP S r l hr
    have hL:L=if (few 9 (B5 S k)).1=0 then l else (k.1,k.2,wT (B5 S k))::l:=(Option.some.inj h).symm
    rw[hL,aiv,List.sum_cons]
    by_cases h0:(few 9 (B5 S k)).1=0
    ·rw[ajZ h0]
     have hz:B5 S k=0:=by
      have:=(mR 9 (B5 S k)).2.1
      rw[h0,ahD] at this
      exact this.symm
     rw[hz]
     exact⟨by omega,i2,by simp only[ain];omega⟩
    ·rw[ajY h0]
     refine⟨?_,fun x hx=> ?_,by simp only[ain];omega⟩
     ·show v9 (wT (B5 S k))+aej l=_
      rw[Wl,i1]
     ·rcases aiz.1 hx with rfl | hx
      ·exact YX (aj5 hok)
      ·exact i2 x hx
  ·cases h
theorem afx {a:bC} (h:rZ a=0) (t:Bys):AB 50000 (Vr a.2.2.2 t):=by
 have hl:=(Im h).len
 have h1:=Vp (B:=Ra a.2.2.2 t) (aai h) a.2.2.2.length (ajc _)
 exact⟨fun p hp=>ajd (h1.sm p hp) (ajr _ (by omega)),h1.nd,h1.st,ajd h1.len (by omega)⟩
end Go.Md
set_option linter.all false
set_option maxRecDepth 20000
namespace Go.Md
open Go.Dn
theorem Xy (l:List bz) (t:Bys) (hl:l.length<1000000000) (hs:Asc (·.1) l): ∃ i:Nat,dw l t ()=some ((i:Int),(gK (·.1) t l).isSome,())/\∀ k,gK (·.1) t l=some k->i=k:=by
 unfold dw
 have loop:∀ f,l.length<f->∃ i:Nat,iter f ((l,t,(),(l.length:Int),(0:Int),(l.length:Int),()):cU) gN=some (Sum.inr (l,t,(),(l.length:Int),(i:Int),()))/\i<=l.length/\(∀ k x,l[k]? =some x->k<i->Op.bytesLess x.1 t=true)/\∀ k x,l[k]? =some x->i<=k->Op.bytesLess x.1 t=false:=by
  intro f hf
  refine ze (Inv:=fun X=>∃ i j:Nat,X=((l,t,(),(l.length:Int),(i:Int),(j:Int),()):cU)/\i<=j/\j<=l.length/\(∀ k x,l[k]? =some x->k<i->Op.bytesLess x.1 t=true)/\∀ k x,l[k]? =some x->j<=k->Op.bytesLess x.1 t=false)
   (fun X=>(X.2.2.2.2.2.1 - X.2.2.2.2.1).toNat)
   (fun _ r=>∃ i:Nat,r=some (Sum.inr (l,t,(),(l.length:Int),(i:Int),()))/\i<=l.length/\(∀ k x,l[k]? =some x->k<i->Op.bytesLess x.1 t=true)/\∀ k x,l[k]? =some x->i<=k->Op.bytesLess x.1 t=false) ?_ f _ ⟨0,l.length,rfl,by omega,by omega,fun _ _ _ h=>absurd h (ajs _),fun k x hk hle=>by have:=(aia.1 hk).1;omega⟩ (by dsimp only;omega)
  rintro _ again ⟨i,j,rfl,hij,hj,h1,h2⟩ ih
  dsimp only at ih
  unfold gN
  dsimp only
  by_cases hlt:i<j
  ·rw[aB (by omega)]
   have em:w64 (Int.fdiv (cg (w64 ((i:Int)+(j:Int)))) (2 ^ 1))=(((i+j) / 2:Nat):Int):=by
    rw[ax (n:=(i:Int)+(j:Int)) (by omega) (by omega),dW (by omega) (by omega),ahl _ (by omega),ax (by omega) (by omega)]
    omega
   rw[em]
   have hm:(i+j) / 2<l.length:=by omega
   have hy:l[(i+j) / 2]? =some l[(i+j) / 2]:=aJ hm
   have hmi:i<=(i+j) / 2/\(i+j) / 2<j:=by omega
   generalize (i+j) / 2=m at*
   generalize l[m]=y at hy
   rw[bq,hy,ajA]
   show ∃ i,Option.bind (Option.bind (some (Lib.compareBytes y.1 t,())) fun r1=>some (r1.1,())) _=_/\_
   rw[ajA,ajA]
   dsimp only
   by_cases hc:Lib.compareBytes y.1 t<0
   ·rw[aB hc,ax (by omega) (by omega)]
    refine ih _ ⟨m+1,j,rfl,by omega,hj,fun k x hk hkm=> ?_,h2⟩ (by dsimp only;omega)
    rcases ajk.1 hkm with h | h
    ·have:=hs k m x y h hk hy
     exact jC this (pe.1 hc)
    ·subst h;rw[hy] at hk;cases hk;exact pe.1 hc
   ·rw[az hc]
    refine ih _ ⟨i,m,rfl,by omega,by omega,h1,fun k x hk hkm=> ?_⟩ (by dsimp only;omega)
    have hc':Op.bytesLess y.1 t=false:=by
     cases h:Op.bytesLess y.1 t with
     | false=>rfl
     | true=>exact absurd (pe.2 h) hc
    rcases aji hkm with h | h
    ·cases hx:Op.bytesLess x.1 t with
     | false=>rfl
     | true=>rw[jC (hs m k y x h hy hk) hx] at hc';cases hc'
    ·subst h;rw[hy] at hk;cases hk;exact hc'
  ·rw[az (by omega)]
   have:i=j:=by omega
   subst this
   exact⟨i,rfl,hj,h1,h2⟩
 obtain⟨i,h1,h2,h3,h4⟩:=loop (List.length l+(List.length t+(Int.natAbs ((List.length l:Int))+(Int.natAbs (0:Int)+(Int.natAbs ((List.length l:Int))+2))))) (by omega)
 refine⟨i, ?_,fun k hk=> ?_⟩
 ·rw[h1,aS]
  dsimp only
  by_cases hi:i<l.length
  ·have hy:l[i]? =some l[i]:=aJ hi
   generalize l[i]=y at hy
   rw[aB (by omega),bq,hy,ajA]
   show Option.bind (Option.bind (some (Lib.compareBytes y.1 t,())) fun r1=>some (r1.1,())) _=_
   rw[ajA,ajA]
   congr 3
   by_cases he:y.1=t
   ·rw[U3 hs hy he,sN.2 he];rfl
   ·have hne:¬ Lib.compareBytes y.1 t=0:=fun h=>he (sN.1 h)
    rw[show (Lib.compareBytes y.1 t==0)=false by simpa using hne]
    cases hx:gK (·.1) t l with
    | none=>rfl
    | some k=>
     exfalso
     obtain⟨x,k1,k2⟩:=nc hx
     rcases ajm k i with h | h | h
     ·have:=h3 k x k1 h;rw[k2,dA] at this;cases this
     ·subst h;rw[hy] at k1;cases k1;exact he k2
     ·have:=hs i k y x h hy k1
      dsimp only at this
      rw[k2,h4 i y hy (ajc _)] at this;cases this
  ·rw[az (by omega)]
   congr 3
   cases hx:gK (·.1) t l with
   | none=>rfl
   | some k=>
    exfalso
    obtain⟨x,k1,k2⟩:=nc hx
    have:=h3 k x k1 (by have:=(aia.1 k1).1;omega)
    rw[k2,dA] at this;cases this
 ·obtain⟨x,k1,k2⟩:=nc hk
  rcases ajm k i with h | h | h
  ·have:=h3 k x k1 h;rw[k2,dA] at this;cases this
  ·exact h.symm
  ·have hy:l[i]? =some (l[i]'(by have:=(aia.1 k1).1;omega)):=aJ _
   have:=hs i k _ x h hy k1
   dsimp only at this
   rw[k2,h4 i _ hy (ajc _)] at this;cases this
def bU (l:List ak):List bz:=(l.filter fun p=>p.2.1==[]).map fun p=>(p.1,true,[],[])
theorem Cr (l:List ak):(bU l).length<=l.length:=by
 unfold bU
 rw[aio]
 exact List.length_filter_le _ _
theorem abp (l:List ak) (y:ak):bU (l++[y])=if (y.2.1==[])=true then bU l++[(y.1,true,[],[])] else bU l:=by
 unfold bU
 rw[List.filter_append]
 cases h:(y.2.1==[]) with
 | true=>rw[List.filter_cons_of_pos (by exact h),List.filter_nil,ait,ajZ rfl];rfl
 | false=>rw[List.filter_cons_of_neg (by rw[h];simp),List.filter_nil,ahM];simp
theorem IK {l:List ak} {s:bz} (h:s∈bU l):∃ p,p∈l/\p.2.1=[]/\s=(p.1,true,[],[]):=by
 unfold bU at h
 obtain⟨p,hp,rfl⟩:=aiE.1 h
 obtain⟨h1,h2⟩:=List.mem_filter.1 hp
 exact⟨p,h1,by simpa using h2,rfl⟩
theorem acB {l:List ak} {p:ak} (h:p∈l) (h0:p.2.1=[]):((p.1,true,[],[]):bz)∈bU l:=by
 unfold bU
 exact aiE.2 ⟨p,List.mem_filter.2 ⟨h,by rw[h0];rfl⟩,rfl⟩
theorem afB {α:Type} {key:α->Bys} {l:List α}:Asc key l↔l.Pairwise fun x y=>Op.bytesLess (key x) (key y)=true:=by
 constructor
 ·intro h
  exact aiN.2 fun i j hi hj hij=>h i j _ _ hij (aJ hi) (aJ hj)
 ·intro h i j x y hij hx hy
  obtain⟨hi,rfl⟩:=aia.1 hx
  obtain⟨hj,rfl⟩:=aia.1 hy
  exact aiN.1 h i j hi hj hij
theorem OW {l:List ak} (h:Asc (·.1) l):Asc (·.1) (bU l):=by
 rw[afB] at*
 unfold bU
 exact (h.filter _).map _ fun a b hab=>hab
theorem abw (a:bC) (hl:a.2.2.2.length*72<=140737488355328):Dk a=some (bU a.2.2.2,()):=by
 unfold Dk
 obtain⟨a1,a2,a3,l⟩:=a
 dsimp only at*
 have BN:maxLen=9223372036854775807:=rfl
 have loop:∀ f,l.length<f->iter f (([],l,(l.length:Int),(0:Int),()):xz) Bz=some (Sum.inr (bU l,())):=by
  intro f hf
  refine bX (Inv:=fun i X=>X=((bU (l.take i),l,(l.length:Int),(i:Int),()):xz)) l.length (fun r=>r=some (Sum.inr (bU l,()))) ?_ ?_ f 0 _ rfl (by omega) (by omega)
  ·rintro i _ again hi rfl ih
   have hy:l[i]? =some l[i]:=aJ hi
   have ets:l.take (i+1)=l.take i++[l[i]]:=by rw[ai0,hy];rfl
   have hsl:=Cr (l.take i)
   rw[ais] at hsl
   have es:=abp (l.take i) l[i]
   rw[<- ets] at es
   unfold Bz
   dsimp only
   rw[aB (by omega),bq,hy,ajA,ax (by omega) (by omega)]
   cases h:(l[i].2.1==[]) with
   | true=>
    rw[ajZ h] at es
    rw[ajO,bg (by rw[ag1];exact⟨ajR (by omega),ajR (by omega)⟩)]
    exact ih _ (by rw[es];rfl)
   | false=>
    rw[ajY (by rw[h];simp)] at es
    rw[ajN]
    exact ih _ (by rw[es];rfl)
  ·rintro _ again rfl
   unfold Bz
   dsimp only
   rw[az (by omega),aiY]
 rw[loop _ (aje _ (ajf (by with_reducible repeat (first | exact ajz | refine aje _ ?_)))),aS]
theorem aaY {a:bC} (h:rZ a=0):∀ p∈a.2.2.2,lbl p.1=true:=by
 unfold rZ at h
 split at h
 ·omega
 split at h
 ·omega
 split at h
 ·omega
 split at h
 ·omega
 split at h
 ·omega
 have h3:fk (rF a.2.2.2) 0 a.2.2.2=0:=by omega
 intro p hp
 obtain⟨i,hi⟩:=aiD.1 hp
 have:=iN h3 i p hi
 unfold rF at this
 split at this
 ·omega
 rename_i h1
 simpa using h1
theorem afF (s:Bys) (b:Bool) (f:Nat) (hf:2<f):iter f (((2:Nat):Int),((0:Nat):Int),s,b,[],[],[[],[]],()) rP=some (Sum.inr (s,b,[],[],())):=by
 refine bX (Inv:=fun i X=>X=((((2:Nat):Int),(i:Int),s,b,[],[],[[],[]],()):rQ)) 2 (fun r=>r=some (Sum.inr (s,b,[],[],()))) ?_ ?_ f 0 _ rfl (by omega) (by omega)
 ·rintro i _ again hi rfl ih
  have hc:CT []=0:=rfl
  have hg:([[],[]]:List (List aF))[i]? =some []:=by
   match i,hi with
   | 0,_=>rfl
   | 1,_=>rfl
  unfold rP
  dsimp only
  rw[aB (by omega),bg (by rw[ag1];exact⟨ajR (by omega),ajR (by simp only[ain,aip];omega)⟩),ahC,hg,ajA,Ax,ajA,hc]
  dsimp only
  rw[zne,ajN,ax (by omega) (by omega)]
  exact ih _ rfl
 ·rintro _ again rfl
  unfold rP
  dsimp only
  rw[az (by omega)]
theorem YL {a:bC} (h:rZ a=0) {i:Nat} (hi:i<(bU a.2.2.2).length):wK (bU a.2.2.2) (i:Int)=some (0,()):=by
 have hok:=Im h
 have hl:=Cr a.2.2.2
 have h5:=hok.len
 have hA:=OW hok.asc
 have hy:(bU a.2.2.2)[i]? =some (bU a.2.2.2)[i]:=aJ hi
 obtain⟨p,hp,h0,hs⟩:=IK (ail hi)
 rw[hs] at hy
 have hlb:=aaY h p hp
 have h18:p.1.length=18:=by
  unfold lbl at hlb
  simp only[ag1,ajS] at hlb
  exact hlb.1
 unfold wK
 rw[bq,hy,ajA]
 dsimp only
 rw[AL _ (by omega),ajA,hlb]
 dsimp only
 rw[ahd,ajN]
 have hprev:(bif decide ((i:Int)>0) then Option.bind (idx (bU a.2.2.2) (w64 ((i:Int) - 1))) fun y3=>some (Op.bytesLess p.1 y3.1||p.1==y3.1,()) else some (false,()))=some (false,()):=by
  cases i with
  | zero=>rfl
  | succ j=>
   have hj:(bU a.2.2.2)[j]? =some (bU a.2.2.2)[j]:=aJ (by omega)
   rw[aB (by omega),IF (by omega) (by omega),hj,ajA]
   have hb:=hA j (j+1) _ _ (by omega) hj hy
   have h1:=Qo hb
   dsimp only at hb h1
   rw[h1]
   have h2:(p.1==(bU a.2.2.2)[j].1)=false:=by
    rw[ajK]
    intro e
    rw[<- e,dA] at hb;cases hb
   rw[h2];rfl
 rw[hprev,ajA]
 dsimp only
 rw[ajN,ajO,ajA]
 dsimp only
 rw[show decide (w64 (((([]:List aF).length:Nat):Int)+((([]:List aF).length:Nat):Int))>0)=false from rfl,ajN]
 have c2:=fun f hf=>afF p.1 true f hf
 rw[show ((([([]:List aF),[]]:List (List aF)).length:Nat):Int)=((2:Nat):Int) from rfl]
 have hF:2<Int.natAbs ((2:Nat):Int)+(Int.natAbs (0:Int)+(p.1.length+(([]:List aF).length+(([]:List aF).length+(([[],[]]:List (List aF)).length+2))))):=by
  simp only[ain,aip];omega
 rw[show (0:Int)=((0:Nat):Int) from rfl] at hF ⊢
 rw[c2 _ hF,aS]
 dsimp only
 have e16:∀ f,0<f->iter f (([],((0:Nat):Int),((0:Nat):Int),p.1,true,[],[],()):qo) wL=some (Sum.inr ()):=by
  intro f hf
  obtain⟨f,rfl⟩:∃ m,f=m+1:=⟨f - 1,by omega⟩
  rw[bR]
  unfold wL
  dsimp only
  rw[az (by omega)]
 have:=e16 (([]:List aF).length+(Int.natAbs ((([]:List aF).length:Nat):Int)+(Int.natAbs ((0:Nat):Int)+(p.1.length+(([]:List aF).length+(([]:List aF).length+2)))))) (by omega)
 exact (congrArg (fun z=>aG (β:=Int×Unit) (γ:=Unit) z fun _=>some (0,())) this).trans rfl
theorem Mt {a:bC} (h:rZ a=0):pH (bU a.2.2.2)=some (0,()):=by
 have hok:=Im h
 have hl:=Cr a.2.2.2
 have h5:=hok.len
 have hsf:=fun i hi=>YL h (i:=i) hi
 generalize bU a.2.2.2=S at*
 unfold pH
 rw[az (by omega)]
 have loop:∀ f,S.length<f->iter f ((S,(S.length:Int),(0:Int),()):mI) qa=some (Sum.inr ()):=by
  intro f hf
  refine bX (Inv:=fun i X=>X=((S,(S.length:Int),(i:Int),()):mI)) S.length (fun r=>r=some (Sum.inr ())) ?_ ?_ f 0 _ rfl (by omega) (by omega)
  ·rintro i _ again hi rfl ih
   unfold qa
   dsimp only
   rw[aB (by omega),hsf i hi,ajA]
   dsimp only
   rw[zne,ajN,ax (by omega) (by omega)]
   exact ih _ rfl
  ·rintro _ again rfl
   unfold qa
   dsimp only
   rw[az (by omega)]
 rw[loop _ (by omega),aS]
theorem Xq {a:bC} (hf:Xi a) (h:rZ a=0):tH a (bU a.2.2.2)=none:=by
 unfold tH
 rw[Cp a hf,ajA,h]
 dsimp only
 rw[zne,ajN,Mt h,ajA]
 rfl
theorem Xr {a:bC} (hf:Xi a) (h:rZ a=0):wE a (bU a.2.2.2)=some ((a,bU a.2.2.2,()),0,()):=by
 unfold wE
 rw[Cp a hf,ajA,h]
 dsimp only
 rw[zne,ajN,Mt h,ajA]
 rfl
end Go.Md
set_option linter.all false
set_option maxRecDepth 20000
namespace Go.Md
open Go.Dn
theorem Vl (a:bC) {S:List bz} (hl:S.length<=500) (hs:Asc (·.1) S) (t:Bys): (∃ s,s∈S/\s.1=t/\kD (a,S) t=some (s,true,())/\jb (a,S,()) t=some (s,true,(a,S,()),()))\/ ((∀ s,s∈S->s.1≠t)/\kD (a,S) t=some (([],false,[],[]),false,())/\jb (a,S,()) t=some (([],false,[],[]),false,(a,S,()),())):=by
 obtain⟨i,h1,h2⟩:=Xy S t (by omega) hs
 unfold kD jb
 dsimp only
 rw[h1,ajA,ajA]
 dsimp only
 cases hx:gK (fun x:bz=>x.1) t S with
 | none=>
  right
  exact⟨fun s hs=>VW hx s hs,rfl,rfl⟩
 | some k=>
  left
  obtain⟨s,hk,he⟩:=nc hx
  have:=h2 k hx
  subst this
  refine⟨s,aiF hk,he, ?_, ?_⟩
  ·rw[show (!(some i).isSome)=false from rfl,ajN,bq,hk];rfl
  ·rw[show (!(some i).isSome)=false from rfl,ajN,bq,hk];rfl
theorem XB {a:bC} (hok:R3 a):∀ (m i f:Nat),i<a.2.2.2.length->(uX a.2.2.2 i).length=m->m<f-> zx (fun self x=>cR self x.1 x.2.1) f ((a,bU a.2.2.2),(i:Int),())=some (true,())
 | m,i,f,hi,hm,hf=>by
  have hsl:=Cr a.2.2.2
  have hl:=hok.len
  have hS:=OW hok.asc
  have hp:a.2.2.2[i]? =some a.2.2.2[i]:=aJ hi
  obtain⟨f,rfl⟩:∃ g,f=g+1:=⟨f - 1,by omega⟩
  have ihA:∀ j,j<a.2.2.2.length->(uX a.2.2.2 j).length<m->zx (fun self x=>cR self x.1 x.2.1) f ((a,bU a.2.2.2),(j:Int),())=some (true,()):=fun j hj hlt=>XB hok (uX a.2.2.2 j).length j f hj rfl (by omega)
  show cR (zx (fun self x=>cR self x.1 x.2.1) f) (a,bU a.2.2.2) (i:Int)=some (true,())
  generalize zx (fun self x=>cR self x.1 x.2.1) f=R at ihA ⊢
  unfold cR
  dsimp only
  rw[bq,hp,ajA]
  rcases Vl a (S:=bU a.2.2.2) (by omega) hS a.2.2.2[i].1 with ⟨s,hs,he,h1,_⟩ | ⟨hn,h1,_⟩
  ·rw[h1,ajA];rfl
  ·rw[h1,ajA]
   dsimp only
   rw[ajN,ajA]
   rcases aag hok.n1 hp with ⟨h0,_⟩ | ⟨h0,k',hk,hix⟩
   ·exact absurd rfl (hn _ (acB (ail hi) h0))
   ·rw[show (a.2.2.2[i].2.1==[])=false by simpa using h0,ajN]
    obtain⟨j,g1,g2⟩:=zw a a.2.2.2[i].2.1 (by omega) hok.asc
    have:=g2 k' hix
    subst this
    rw[g1,ajA]
    dsimp only
    have hst:=Nk hok.nl hi hk
    have hk':j<a.2.2.2.length:=aeF (l:=a.2.2.2) (i:=i) (by rw[hst];exact aiB)
    have hlen:(uX a.2.2.2 i).length=(uX a.2.2.2 j).length+1:=by rw[hst];rfl
    have ih:=ihA j hk' (by omega)
    rcases Vl a (S:=bU a.2.2.2) (by omega) hS a.2.2.2[i].2.1 with ⟨s,hs,he,h1,_⟩ | ⟨hn,h1,_⟩
    ·rw[h1,ajA,ih,ajA]
     obtain⟨p,_,_,rfl⟩:=IK hs
     rfl
    ·rw[h1,ajA,ih,ajA]
     rfl
termination_by m=>m
decreasing_by omega
theorem aeJ {a:bC} (hok:R3 a) {i:Nat} (hi:i<a.2.2.2.length):nG (a,bU a.2.2.2) (i:Int)=some (true,()):=by
 have hal:=Xn hok.nl hi
 unfold nG
 refine XB hok _ i _ hi rfl ?_
 unfold qV
 dsimp only
 omega
theorem Zt {α β:Type} (k:α->Option β) (e:Option β):Gu (none:Option α) k e=e:=rfl
theorem agL {a:bC} (hok:R3 a) (f:Nat) (hf:(bU a.2.2.2).length<f): iter (X:=ot) (β:=tF) f (bU a.2.2.2,((bU a.2.2.2).length:Int),0,a.1,a.2.1,a.2.2.1,a.2.2.2,a.1,a.2.1,a.2.2.1,a.2.2.2,bU a.2.2.2,[],()) tD=some (Sum.inr (a.1,a.2.1,a.2.2.1,a.2.2.2,a.1,a.2.1,a.2.2.1,a.2.2.2,bU a.2.2.2,[],())):=by
 have hl:=hok.len
 have hsl:=Cr a.2.2.2
 refine bX (Inv:=fun i X=>X=((bU a.2.2.2,((bU a.2.2.2).length:Int),(i:Int),a.1,a.2.1,a.2.2.1,a.2.2.2,a.1,a.2.1,a.2.2.1,a.2.2.2,bU a.2.2.2,[],()):ot)) (bU a.2.2.2).length (fun r=>r=some (Sum.inr (a.1,a.2.1,a.2.2.1,a.2.2.2,a.1,a.2.1,a.2.2.1,a.2.2.2,bU a.2.2.2,[],()))) ?_ ?_ f 0 _ rfl (by omega) (by omega)
 ·rintro i _ again hi rfl ih
  have hy:(bU a.2.2.2)[i]? =some (bU a.2.2.2)[i]:=aJ hi
  obtain⟨p,hp,h0,hs⟩:=IK (ail hi)
  rw[hs] at hy
  unfold tD
  dsimp only
  rw[aB (by omega),bq,hy,ajA]
  dsimp only
  have e9:∀ f,0<f->iter f ((bU a.2.2.2,((bU a.2.2.2).length:Int),(i:Int),[],((0:Nat):Int),0,a.1,a.2.1,a.2.2.1,a.2.2.2,p.1,true,[],[],a.1,a.2.1,a.2.2.1,a.2.2.2,bU a.2.2.2,[],()):tG) zo=some (Sum.inr (bU a.2.2.2,((bU a.2.2.2).length:Int),(i:Int),a.1,a.2.1,a.2.2.1,a.2.2.2,p.1,true,[],[],a.1,a.2.1,a.2.2.1,a.2.2.2,bU a.2.2.2,[],())):=by
   intro f hf
   obtain⟨f,rfl⟩:∃ m,f=m+1:=⟨f - 1,by omega⟩
   rw[bR]
   unfold zo
   dsimp only
   rw[az (by omega)]
  have e14:∀ f,0<f->iter f ((bU a.2.2.2,((bU a.2.2.2).length:Int),(i:Int),[],((0:Nat):Int),0,a.1,a.2.1,a.2.2.1,a.2.2.2,a.1,a.2.1,a.2.2.1,a.2.2.2,bU a.2.2.2,[],()):rK) xU=some (Sum.inr (bU a.2.2.2,((bU a.2.2.2).length:Int),(i:Int),a.1,a.2.1,a.2.2.1,a.2.2.2,a.1,a.2.1,a.2.2.1,a.2.2.2,bU a.2.2.2,[],())):=by
   intro f hf
   obtain⟨f,rfl⟩:∃ m,f=m+1:=⟨f - 1,by omega⟩
   rw[bR]
   unfold xU
   dsimp only
   rw[az (by omega)]
  refine (congrArg (fun z=>aG z _) (e9 _ (by omega))).trans ?_
  rw[aS]
  dsimp only
  refine (congrArg (fun z=>aG z _) (e14 _ (by omega))).trans ?_
  rw[aS]
  dsimp only
  rw[ax (by omega) (by omega)]
  exact ih _ rfl
 ·rintro _ again rfl
  unfold tD
  dsimp only
  rw[az (by omega)]
theorem aeL {n:Nat} {S:List (Tw×Int)} (hS:AB n S) (hn:n+100<=1000000) (l l2:List ak) (c1 c2:Int) (a1 a2:Bys) (a3:Int) (sc:List bz) (cs:List aF) (hcs:cs.length<=100) (hc:∀ c∈cs,aau c) (f:Nat) (hf:cs.length<f) {M:List (Tw×au)} (hM:M=S.map toW) {M':List (Tw×au)} (hM':M'=(JH S cs).map toW): iter (X:=nF) (β:=rJ) f (l,c1,c2,cs,(cs.length:Int),0,a1,a2,a3,l2,sc,M,()) rH=some (Sum.inr (l,c1,c2,a1,a2,a3,l2,sc,M',())):=by
 refine bX (Inv:=fun i X=>∃ M1,M1=(JH S (cs.take i)).map toW/\X=((l,c1,c2,cs,(cs.length:Int),(i:Int),a1,a2,a3,l2,sc,M1,()):nF)) cs.length (fun r=>r=some (Sum.inr (l,c1,c2,a1,a2,a3,l2,sc,M',()))) ?_ ?_ f 0 _ ⟨M,hM,rfl⟩ (by omega) (by omega)
 ·rintro i _ again hi ⟨M1,hM1,rfl⟩ ih
  have hy:cs[i]? =some cs[i]:=aJ hi
  have hm:cs[i]∈cs:=ail hi
  have ets:cs.take (i+1)=cs.take i++[cs[i]]:=by rw[ai0,hy];rfl
  have hSi:AB (n+(cs.take i).length) (JH S (cs.take i)):=hS.aeq _ fun c hc'=>hc c (aiG hc')
  have hti:(cs.take i).length<=100:=by rw[ais];omega
  have hadd:=ZH hSi.sm (by omega) (ck cs[i]) (hc _ hm).d
  rw[<- hM1] at hadd
  unfold rH
  dsimp only
  rw[aB (by omega),bq,hy,ajA]
  refine (show _->_ from fun h=>h) ?_
  rw[show ((cs[i].1,cs[i].2.1):bL)=ck cs[i] from rfl,hadd,ajA]
  dsimp only
  rw[ax (n:=(i:Int)+1) (by omega) (by omega)]
  exact ih _ ⟨_,by rw[ets,adg],rfl⟩
 ·rintro _ again ⟨M1,hM1,rfl⟩
  unfold rH
  dsimp only
  rw[az (by omega)]
  rw[aiY] at hM1
  rw[hM1, <- hM']
theorem agv {a:bC} (hok:R3 a) (hp:ado a.2.2.2) {M':List (Tw×au)} (hM':M'=(Vr a.2.2.2 []).map toW) (f:Nat) (hf:a.2.2.2.length<f): iter (X:=nE) (β:=rI) f (a.2.2.2,(a.2.2.2.length:Int),0,a.1,a.2.1,a.2.2.1,a.2.2.2,bU a.2.2.2,[],()) rG=some (Sum.inr (M',())):=by
 have hl:=hok.len
 have hsl:=Cr a.2.2.2
 have hS:=OW hok.asc
 refine bX (Inv:=fun i X=>∃ M1,M1=(yL (Ra a.2.2.2 []) a.2.2.2 i).map toW/\X=((a.2.2.2,(a.2.2.2.length:Int),(i:Int),a.1,a.2.1,a.2.2.1,a.2.2.2,bU a.2.2.2,M1,()):nE)) a.2.2.2.length (fun r=>r=some (Sum.inr (M',()))) ?_ ?_ f 0 _ ⟨[],rfl,rfl⟩ (by omega) (by omega)
 ·rintro i _ again hi ⟨M1,hM1,rfl⟩ ih
  have hy:a.2.2.2[i]? =some a.2.2.2[i]:=aJ hi
  have hpi:=hp a.2.2.2[i] (ail hi)
  have hSi:=Vp (B:=Ra a.2.2.2 []) hp i (by omega)
  have hc:nG ((a.1,a.2.1,a.2.2.1,a.2.2.2),bU a.2.2.2) (i:Int)=some (true,()):=aeJ hok hi
  obtain⟨M2,hM2⟩:∃ M2:List (Tw×au),M2=(JH (yL (Ra a.2.2.2 []) a.2.2.2 i) a.2.2.2[i].2.2.2).map toW:=⟨_,rfl⟩
  have h2:=fun (f:Nat) (hf:a.2.2.2[i].2.2.2.length<f)=>aeL hSi (by omega) a.2.2.2 a.2.2.2 (a.2.2.2.length:Int) (i:Int) a.1 a.2.1 a.2.2.1 (bU a.2.2.2) a.2.2.2[i].2.2.2 hpi.1 hpi.2 f hf hM1 hM2
  have hnext:M2=(yL (Ra a.2.2.2 []) a.2.2.2 (i+1)).map toW:=by
   rw[hM2]
   simp only[yL]
   rw[show Ra a.2.2.2 [] i=true from rfl,hy];rfl
  have hscan:∃ s b,jb ((a.1,a.2.1,a.2.2.1,a.2.2.2),bU a.2.2.2,()) a.2.2.2[i].1=some (s,b,(a,bU a.2.2.2,()),())/\(b=true->s.2.1=true):=by
   rcases Vl a (S:=bU a.2.2.2) (by omega) hS a.2.2.2[i].1 with ⟨s,hs,he,_,h1⟩ | ⟨hn,_,h1⟩
   ·obtain⟨p,_,_,rfl⟩:=IK hs
    exact⟨_,_,h1,fun _=>rfl⟩
   ·exact⟨_,_,h1,nofun⟩
  obtain⟨s,b,hsc,hb⟩:=hscan
  unfold rG
  dsimp only
  rw[aB (by omega),bq,hy,ajA,hsc,ajA]
  dsimp only
  rw[hc,ajA]
  dsimp only
  rw[ahd,ajN]
  have hv:(bif b then some (!s.2.1,()) else some (false,()))=some (false,()):=by
   cases b with
   | false=>rfl
   | true=>rw[hb rfl];rfl
  rw[hv,ajA]
  dsimp only
  rw[ajN,h2 _ (aje _ (aje _ (aje _ (ajf (by with_reducible repeat (first | exact ajz | refine aje _ ?_)))))),aS]
  dsimp only
  rw[ax (n:=(i:Int)+1) (by omega) (by omega)]
  exact ih _ ⟨M2,hnext,rfl⟩
 ·rintro _ again ⟨M1,hM1,rfl⟩
  unfold rG
  dsimp only
  rw[az (by omega)]
  rw[hM1,hM'];rfl
theorem Y2 {a:bC} (hf:Xi a) (h:rZ a=0):tC a (bU a.2.2.2)=some ((UU (Vr a.2.2.2 [])).1,(UU (Vr a.2.2.2 [])).2,()):=by
 have hok:=Im h
 have hl:=hok.len
 unfold tC
 rw[Xq hf h,Zt,Xr hf h,ajA]
 dsimp only
 rw[zne,ajN]
 have r6:=agL hok
 rw[r6 _ (ajf (by with_reducible repeat (first | exact ajz | refine aje _ ?_))),aS]
 dsimp only
 obtain⟨M,hM⟩:∃ M:List (Tw×au),M=(Vr a.2.2.2 []).map toW:=⟨_,rfl⟩
 have r20:=agv hok (aai h) hM
 rw[r20 _ (ajf (by with_reducible repeat (first | exact ajz | refine aje _ ?_))),aS]
 dsimp only
 rw[hM,aaP (afx h []) (by omega),ajA]
end Go.Md
set_option linter.all false
namespace Go.Md
open Go.Dn
def FL (l:Bys):Nat:=l.foldl (fun n b=>n*10+(b.toNat - 48)) 0
theorem ab2 (l:Bys) (b:UInt8):FL (l++[b])=FL l*10+(b.toNat - 48):=by
 unfold FL;rw[List.foldl_append];rfl
theorem Lr:∀ (k:Nat) (l:Bys),FL (Lib.repeatL [48] k++l)=FL l
 | 0,l=>rfl
 | k+1,l=>by
  show FL (48::(Lib.repeatL [48] k++l))=FL l
  rw[<- Lr k l];rfl
theorem VJ {d:Nat} (h:d<10):(UInt8.ofNat (48+d)).toNat=48+d:=by
 rw[UInt8.toNat_ofNat']
 omega
theorem NV:∀ (k u:Nat),u<10 ^ (k+1)->FL (Lib.decDigits u)=u/\0<(Lib.decDigits u).length/\(Lib.decDigits u).length<=k+1
 | k,u,h=>by
  rw[Lib.decDigits]
  by_cases h1:u<10
  ·rw[dif_pos h1]
   refine⟨?_,by simp,by simp⟩
   show 0*10+((UInt8.ofNat (48+u)).toNat - 48)=u
   rw[VJ h1];omega
  ·rw[dif_neg h1]
   cases k with
   | zero=>rw[ajx,Nat.pow_one] at h;exact absurd h h1
   | succ k=>
    have hd:u / 10<10 ^ (k+1):=by
     rw[ajw] at h
     omega
    obtain⟨g1,g2,g3⟩:=NV k (u / 10) hd
    refine⟨?_,by simp,by simp;omega⟩
    rw[ab2,g1,VJ (by omega)]
    omega
theorem ady (n:Nat) (h:n<100):Lib.decDigits n=XQ n:=by
 unfold XQ
 rw[Lib.decDigits]
 by_cases h1:n<10
 ·simp[h1]
 ·rw[dif_neg h1,Lib.decDigits,dif_pos (by omega),ajY h1];rfl
theorem ZV {n:Nat} (h:n<=9223372036854775807):strconv_Itoa (n:Int)=some (Lib.decDigits n,()):=by
 unfold strconv_Itoa
 by_cases h1:n<100
 ·rw[show (decide (0<=(n:Int))&&decide ((n:Int)<100))=true by rw[ag1];exact⟨ajR (by omega),ajR (by omega)⟩,ajO,ahC,ady n h1]
 ·rw[show (decide (0<=(n:Int))&&decide ((n:Int)<100))=false by rw[ajQ (show ¬(n:Int)<100 by omega),ag2],ajN,
   show (decide (-9223372036854775808<=(n:Int))&&decide ((n:Int)<=9223372036854775807))=true by rw[ag1];exact⟨ajR (by omega),ajR (by omega)⟩,ajO]
  unfold Lib.itoa
  rw[ajY (by omega),ahC]
theorem acX (k:Nat) (h:k<=1000):strings_Repeat [48] (k:Int)=some (Lib.repeatL [48] k,()):=by
 unfold strings_Repeat
 rw[ahC,show (decide (0<=(k:Int))&&(decide ((k:Int)<=9223372036854775807)&&decide ([(48:UInt8)].length*k<=140737488355328)))=true by
  rw[ag1,ag1]
  exact⟨ajR (by omega),ajR (by omega),ajR (by simp;omega)⟩,ajO]
theorem ace (s:Bys) (hs:s.length<=9223372036854775807):oA 3 s=some (lbl s,()):=by
 have h:=AL s hs
 unfold qH ye sr at h
 rw[cG,ajA,ajA] at h
 dsimp only at h
 rw[show (!(!(decide ((3:Int)<1\/(5:Int)<3))))=false by decide,ajN] at h
 cases hq:oA 3 s with
 | none=>rw[hq] at h;cases h
 | some r=>
  rw[hq,ajA,ajA] at h
  obtain⟨b,u⟩:=r
  exact h
theorem acY (k:Nat) (hk:k<=17):∀ n,k<n->iter (X:=vr) (β:=Aq) n (1,(k:Int),0,()) Ap=some (Sum.inr ((10:Int) ^ k,())):=by
 intro n hn
 refine bX (Inv:=fun i X=>X=(((10:Int) ^ i,(k:Int),(i:Int),()):vr)) k (fun r=>r=some (Sum.inr ((10:Int) ^ k,()))) ?_ ?_ n 0 _ rfl (ajy _) (by omega)
 ·rintro i X again hi rfl hag
  unfold Ap
  dsimp only
  have h1:(10:Int) ^ (i+1)<=10 ^ 17:=by
   have:=ajv (n:=10) (by omega) (show i+1<=17 by omega)
   have h2:=ahu.2 this
   simpa using h2
  have h0:(0:Int)<10 ^ (i+1):=ahw (by decide)
  rw[aB (by omega),show (10:Int) ^ i*10=10 ^ (i+1) from (ahx _ _).symm,ax (by omega) (by omega),ax (n:=(i:Int)+1) (by omega) (by omega)]
  exact hag _ rfl
 ·rintro X again rfl
  unfold Ap
  dsimp only
  rw[az (by omega)]
def By (p:Bys):Bool:=decide (p.length<=15)&&(decide (p≠[])&&p.all nY)
theorem Vi (p:Bys):A8 p=some (if By p=true then ((10:Int) ^ (17 - p.length),true,()) else (0,false,())):=by
 unfold A8 By
 by_cases h1:15<p.length
 ·rw[aB (by omega),ajQ (show ¬p.length<=15 by omega),Bool.false_and,ajY (by decide)]
 rw[az (by omega),ajR (show p.length<=15 by omega),ahh,Iz p (by omega),ajA]
 dsimp only
 cases hd:(decide (p≠[])&&p.all nY) with
 | false=>rw[ahc,ajO,ajY (by decide)]
 | true=>
  have e:w64 (17 - (p.length:Int))=((17 - p.length:Nat):Int):=by rw[ax (by omega) (by omega)];omega
  rw[ahd,ajN,ajZ rfl,e,acY _ (by omega) _ (by rw[ahs];omega),aS]
def RC (p:Bys) (n:Nat):Bys:=(p++Lib.repeatL [48] (17 - p.length - (Lib.decDigits n).length))++Lib.decDigits n
theorem adM (p:Bys) (n:Nat):FL ((RC p n).drop p.length)=FL (Lib.decDigits n):=by
 unfold RC
 rw[ahL,ahS,Lr]
structure R6 (p:Bys) (n:Int) (s:Bys):Prop where
 n0:0<=n
 pl:p.length<=15
 ok:lbl s=true
 form:∃ c,s=RC p n.toNat++[c]
 val:FL ((RC p n.toNat).drop p.length)=n.toNat
end Go.Md
set_option linter.all false
set_option maxRecDepth 20000
namespace Go.Md
open Go.Dn
def dg8 (c:UInt8):Int:=w64 (wu8 ((c.toNat:Int) - 48))
theorem abX (c:UInt8):0<=dg8 c/\dg8 c<=255:=by
 have h:0<=wu8 ((c.toNat:Int) - 48)/\wu8 ((c.toNat:Int) - 48)<=255:=by
  unfold wu8
  have e:IntKind.wrap .u8 ((c.toNat:Int) - 48)=((c.toNat:Int) - 48) % 256:=by
   rfl
  rw[e]
  omega
 unfold dg8
 rw[ax (by omega) (by omega)]
 exact h
def thr (s:Bys):Nat->Int
 | 0=>0
 | i+1=>thr s i+((s[s.length - 1 - i]?).map dg8).getD 0*(if i % 2=1 then 3 else 1)
theorem YW (s:Bys):∀ i,0<=thr s i/\thr s i<=765*i
 | 0=>⟨ahm _,ahm _⟩
 | i+1=>by
  have ih:=YW s i
  have hd:0<=((s[s.length - 1 - i]?).map dg8).getD 0/\((s[s.length - 1 - i]?).map dg8).getD 0<=255:=by
   cases s[s.length - 1 - i]? with
   | none=>exact⟨ahm _,by decide⟩
   | some c=>exact abX c
  simp only[thr]
  split
  ·omega
  ·omega
theorem adi (s:Bys) (hs:s.length<=100):Fl s=some (Int.tmod (thr s s.length) 10==0,()):=by
 unfold Fl
 have loop:∀ f,s.length<f->iter f ((s,(0:Int),(s.length:Int),(0:Int),()):mJ) qW=some (Sum.inr (thr s s.length,())):=by
  intro f hf
  refine bX (Inv:=fun i X=>X=((s,thr s i,(s.length:Int),(i:Int),()):mJ)) s.length
   (fun r=>r=some (Sum.inr (thr s s.length,()))) ?_ ?_ f 0 _ rfl (by omega) (by omega)
  ·rintro i _ again hi rfl ih
   have hb:=YW s i
   unfold qW
   dsimp only
   have e:w64 (w64 ((s.length:Int) - 1) - (i:Int))=((s.length - 1 - i:Nat):Int):=by
    rw[ax (n:=(s.length:Int) - 1) (by omega) (by omega),ax (by omega) (by omega)];omega
   have hy:s[s.length - 1 - i]? =some (s[s.length - 1 - i]'(by omega)):=aJ (by omega)
   have hd:=abX (s[s.length - 1 - i]'(by omega))
   have ht:thr s (i+1)=thr s i+dg8 (s[s.length - 1 - i]'(by omega))*(if i % 2=1 then 3 else 1):=by
    simp only[thr];rw[hy];rfl
   have em:(Int.tmod (i:Int) 2==1)=decide (i % 2=1):=by
    rw[ahB (by omega)]
    by_cases h:i % 2=1
    ·rw[ajR h];simp;omega
    ·rw[ajQ h];simp;omega
   rw[aB (by omega),e,RU hy,ajA,ax (n:=(i:Int)+1) (by omega) (by omega),em]
   by_cases h:i % 2=1
   ·rw[ajZ h] at ht
    rw[ajR h,ajO]
    refine ih _ ?_
    rw[ht]
    show _=((s,thr s i+dg8 _*3,_,_,()):mJ)
    rw[show w64 (w64 (wu8 (((s[s.length - 1 - i]'(by omega)).toNat:Int) - 48))*3)=dg8 (s[s.length - 1 - i]'(by omega))*3 from ax (by unfold dg8 at hd;omega) (by unfold dg8 at hd;omega),ax (by omega) (by omega)]
    rfl
   ·rw[ajY h,Int.mul_one] at ht
    rw[ajQ h,ajN]
    refine ih _ ?_
    rw[ht]
    show ((s,w64 (thr s i+dg8 (s[s.length - 1 - i]'(by omega))),_,_,()):mJ)=_
    rw[ax (by omega) (by omega)]
    rfl
  ·rintro _ again rfl
   unfold qW
   dsimp only
   rw[az (by omega)]
 rw[loop _ (by omega),aS]
def RX (b:Bys):Nat->Int
 | 0=>0
 | i+1=>RX b i+((b[b.length - 1 - i]?).map dg8).getD 0*(if (i+1) % 2=1 then 3 else 1)
theorem RY (b:Bys) (c:UInt8):∀ i,i<=b.length->thr (b++[c]) (i+1)=dg8 c+RX b i
 | 0,_=>by
  have:(b++[c])[(b++[c]).length - 1 - 0]? =some c:=by simp
  simp only[thr,RX]
  rw[this]
  simp
 | i+1,h=>by
  have ih:=RY b c i (by omega)
  have e:(b++[c])[(b++[c]).length - 1 - (i+1)]? =b[b.length - 1 - i]? :=by
   rw[aim,air,ah3 (by omega)]
   congr 1
   omega
  rw[show thr (b++[c]) (i+1+1)=thr (b++[c]) (i+1)+(((b++[c])[(b++[c]).length - 1 - (i+1)]?).map dg8).getD 0*(if (i+1) % 2=1 then 3 else 1) from rfl,ih,e]
  simp only[RX]
  omega
theorem Y9 (b:Bys) (hb:b.length=17) (hd:b.all nY=true):∃ i,i<10/\lbl (b++[UInt8.ofNat (48+i)])=true:=by
 have h0:0<=RX b 17:=by
  have h1:=(YW (b++[48]) 18).1
  rw[RY b 48 17 (by omega)] at h1
  have h2:dg8 48=0:=by decide
  omega
 obtain⟨m,hm⟩:∃ m:Nat,RX b 17=m:=⟨(RX b 17).toNat,by omega⟩
 have key:∀ i:Nat,i<10->dg8 (UInt8.ofNat (48+i))=i/\nY (UInt8.ofNat (48+i))=true:=by decide
 refine⟨(10 - m % 10) % 10,by omega, ?_⟩
 obtain⟨k1,k2⟩:=key ((10 - m % 10) % 10) (by omega)
 generalize UInt8.ofNat (48+(10 - m % 10) % 10)=c at*
 have hl:(b++[c]).length=18:=by simp[hb]
 unfold lbl
 rw[adi _ (by omega),hl,ajR rfl,ahh,ahF,hd,ahh]
 rw[RY b c 17 (by omega),k1,hm]
 simp only[ahG,ahI,k2,ag3,ahh,ajG,ajB]
 rw[ahB (by omega)]
 simp only[ajL]
 omega
theorem XJ (body:Bys) (hb:body.length=17) (hd:body.all nY=true):∃ c,vU 3 body=some (body++[c],0,())/\lbl (body++[c])=true:=by
 have BN:maxLen=9223372036854775807:=rfl
 obtain⟨j,hj,hjl⟩:=Y9 body hb hd
 have loop:∀ n,10<n->∃ c,lbl (body++[c])=true/\iter (X:=mg) (β:=pQ) n (3,body,0,()) vV=some (Sum.inl (body++[c],0,())):=by
  intro n hn
  refine bX (Inv:=fun i X=>i<=j/\X=(((3:Int),body,(i:Int),()):mg)) 10 (fun r=>∃ c,lbl (body++[c])=true/\r=some (Sum.inl (body++[c],0,()))) ?_ ?_ n 0 _ ⟨ajy _,rfl⟩ (by omega) (by omega)
  ·rintro i X again hi ⟨hij,rfl⟩ hag
   unfold vV
   dsimp only
   have hdd:Lib.decDigits i=[UInt8.ofNat (48+i)]:=by rw[Lib.decDigits,dif_pos hi]
   rw[aB (by omega),ZV (by omega),ajA,hdd]
   dsimp only
   rw[bg (ajR (by simp;omega)),ace _ (by simp;omega),ajA]
   dsimp only
   cases hl:lbl (body++[UInt8.ofNat (48+i)]) with
   | true=>exact⟨_,hl,rfl⟩
   | false=>
    rw[ajN,ax (by omega) (by omega)]
    refine hag _ ⟨?_,rfl⟩
    rcases aji hij with h | h
    ·omega
    ·subst h;rw[hjl] at hl;cases hl
  ·rintro X again ⟨hij,rfl⟩
   omega
 unfold vU sr
 rw[cG,ajA,ajA]
 dsimp only
 rw[show (!(!(decide ((3:Int)<1\/(5:Int)<3))))=false by decide,ajN,az (by omega),show ((3:Int)==4)=false from rfl,ajN]
 obtain⟨c,h1,h2⟩:=loop (Int.natAbs (3:Int)+(List.length body+(Int.natAbs (0:Int)+2))) (by rw[hb];decide)
 rw[h2,lI]
 exact⟨c,rfl,h1⟩
end Go.Md
set_option linter.all false
set_option maxRecDepth 20000
namespace Go.Md
open Go.Dn
theorem FJ:∀ (k u:Nat),u<10 ^ (k+1)->(Lib.decDigits u).all nY=true
 | k,u,h=>by
  have key:∀ i:Nat,i<10->nY (UInt8.ofNat (48+i))=true:=by decide
  rw[Lib.decDigits]
  by_cases h1:u<10
  ·rw[dif_pos h1]
   simp only[ahG,ahI,ag3]
   exact key u h1
  ·rw[dif_neg h1]
   cases k with
   | zero=>omega
   | succ k=>
    have ih:=FJ k (u / 10) (by
     have:10 ^ (k+1+1)=10 ^ (k+1)*10:=ajw ..
     omega)
    rw[ahF,ih,ahh]
    simp only[ahG,ahI,ag3]
    exact key (u % 10) (by omega)
theorem Pb:∀ k:Nat,(Lib.repeatL [48] k).all nY=true
 | 0=>rfl
 | k+1=>by
  show ([48]++Lib.repeatL [48] k).all nY=true
  rw[ahF,Pb k];rfl
theorem Tm {p:Bys} (hp:By p=true) (m:Nat) (hm:m<10 ^ (17 - p.length)):∃ s,nP p (m:Int)=some (s,0,())/\R6 p (m:Int) s:=by
 have BN:maxLen=9223372036854775807:=rfl
 unfold nP
 rw[Vi,ajA,ajZ hp]
 dsimp only
 rw[ahd,ajN]
 have hp':=hp
 unfold By at hp'
 simp only[ag1,ajS] at hp'
 have hpl:p.length<=15:=hp'.1
 have hne:0<p.length:=List.length_pos_iff.2 hp'.2.1
 have h1:(10:Int) ^ (17 - p.length)<=10 ^ 17:=by
  have:=ajv (n:=10) (by omega) (show 17 - p.length<=17 by omega)
  have h2:=ahu.2 this
  simpa using h2
 have h0:(0:Int)<10 ^ (17 - p.length):=ahw (by decide)
 have hmi:(m:Int)<10 ^ (17 - p.length):=by
  have:=Int.ofNat_lt.2 hm
  simpa using this
 rw[ax (n:=(10:Int) ^ (17 - p.length) - 1) (by omega) (by omega),cG,ajA]
 dsimp only
 rw[ajQ (show ¬((m:Int)<0\/(10:Int) ^ (17 - p.length) - 1<(m:Int)) by omega),ajN]
 have hm':m<10 ^ (16 - p.length+1):=by
  rw[show 16 - p.length+1=17 - p.length by omega];exact hm
 obtain⟨g1,g2,g3⟩:=NV _ _ hm'
 have gd:=FJ _ _ hm'
 have hml:m<=9223372036854775807:=by omega
 rw[ZV hml,ajA]
 dsimp only
 have er:w64 (w64 (17 - (p.length:Int)) - ((Lib.decDigits m).length:Int))=((17 - p.length - (Lib.decDigits m).length:Nat):Int):=by
  rw[ax (n:=17 - (p.length:Int)) (by omega) (by omega),ax (by omega) (by omega)];omega
 have hrl:(Lib.repeatL [48] (17 - p.length - (Lib.decDigits m).length)).length=17 - p.length - (Lib.decDigits m).length:=by rw[Lib.repeatL_length,air,Nat.mul_one]
 rw[er,acX _ (by omega),ajA]
 dsimp only
 have hll:((p++Lib.repeatL [48] (17 - p.length - (Lib.decDigits m).length))++Lib.decDigits m).length=17:=by
  rw[aim,aim,hrl];omega
 rw[bg (ajR (by rw[hrl];omega)),bg (ajR (by rw[aim,hrl];omega))]
 obtain⟨c,q1,q2⟩:=XJ _ hll (by rw[ahF,ahF,Pb,gd,hp'.2.2];rfl)
 rw[q1,ajA]
 refine⟨_,rfl,by omega,hpl,q2,⟨c,by rw[ahC];rfl⟩, ?_⟩
 rw[ahC,adM,g1]
def FN (p:Bys) (n:Int):Int:=if By p=true then (if n<0\/(10:Int) ^ (17 - p.length) - 1<n then 1 else 0) else 3
theorem WQ (p:Bys) (n:Int) (h:FN p n≠0):nP p n=some ([],FN p n,()):=by
 unfold FN at*
 unfold nP
 rw[Vi,ajA]
 by_cases hp:By p=true
 ·rw[ajZ hp] at*
  by_cases hn:n<0\/(10:Int) ^ (17 - p.length) - 1<n
  ·rw[ajZ hn]
   dsimp only
   have hp':=hp
   unfold By at hp'
   simp only[ag1,ajS] at hp'
   have h1:(10:Int) ^ (17 - p.length)<=10 ^ 17:=by
    have:=ajv (n:=10) (by omega) (show 17 - p.length<=17 by omega)
    have h2:=ahu.2 this
    simpa using h2
   have h0:(0:Int)<10 ^ (17 - p.length):=ahw (by decide)
   rw[ahd,ajN,ax (n:=(10:Int) ^ (17 - p.length) - 1) (by omega) (by omega),cG,ajA]
   dsimp only
   rw[ajR hn,ajO,ajZ hp]
  ·rw[ajY hn] at h
   exact absurd rfl h
 ·rw[ajY hp] at*
  rw[ajY hp]
  rfl
def dvf (k:Nat) (l:Bys):Nat:=l.foldl (fun n b=>n*10+(b.toNat - 48)) k
theorem XW:∀ (l:Bys) (k:Nat),l.all nY=true->k*10 ^ l.length<=dvf k l/\dvf k l<(k+1)*10 ^ l.length
 | [],k,_=>by simp[dvf]
 | b::l,k,h=>by
  simp only[ahG,ag1] at h
  have ih:=XW l (k*10+(b.toNat - 48)) h.2
  have hd:=h.1
  unfold nY at hd
  simp only[ag1,ajS] at hd
  have e:dvf k (b::l)=dvf (k*10+(b.toNat - 48)) l:=rfl
  have p:10 ^ (b::l).length=10*10 ^ l.length:=by rw[ain,ajw,ajq]
  rw[e,p]
  constructor
  ·refine ajd ?_ ih.1
   rw[<- ajp]
   exact ajr _ (by omega)
  ·refine ajh ih.2 ?_
   rw[<- ajp]
   exact ajr _ (by omega)
theorem XX:∀ (a b x y:Bys) (k:Nat),a.length=b.length->a.all nY=true->b.all nY=true->dvf k a<dvf k b->Op.bytesLess (a++x) (b++y)=true
 | [],[],_,_,k,_,_,_,h=>absurd h (Nat.lt_irrefl _)
 | a::ra,b::bs,x,y,k,hl,ha,hb,h=>by
  simp only[ahG,ag1] at ha hb
  have hda:=ha.1;have hdb:=hb.1
  unfold nY at hda hdb
  simp only[ag1,ajS] at hda hdb
  have hl':ra.length=bs.length:=by simpa using hl
  simp only[ahN,Op.bytesLess,ahf,ag1,ajS,ajL]
  rcases ajm a.toNat b.toNat with g | g | g
  ·exact .inl (UInt8.lt_iff_toNat_lt.2 g)
  ·have e:a=b:=UInt8.toNat_inj.1 g
   subst e
   exact .inr ⟨rfl,XX ra bs x y (k*10+(a.toNat - 48)) hl' ha.2 hb.2 h⟩
  ·exfalso
   have h1:=(XW ra (k*10+(a.toNat - 48)) ha.2).1
   have h2:=(XW bs (k*10+(b.toNat - 48)) hb.2).2
   have h3:(k*10+(b.toNat - 48)+1)*10 ^ bs.length<=(k*10+(a.toNat - 48))*10 ^ ra.length:=by
    rw[hl']
    exact ajr _ (by omega)
   have h4:dvf (k*10+(a.toNat - 48)) ra<dvf (k*10+(b.toNat - 48)) bs:=h
   omega
theorem VE:∀ (p a b:Bys),Op.bytesLess a b=true->Op.bytesLess (p++a) (p++b)=true
 | [],_,_,h=>h
 | c::p,a,b,h=>by
  simp only[ahN,Op.bytesLess,ahf,ag1,ajL]
  exact .inr ⟨trivial,VE p a b h⟩
theorem aco {p:Bys} (hpl:p.length<=15) {m n:Nat} (hm:m<10 ^ (17 - p.length)) (hn:n<10 ^ (17 - p.length)) (h:m<n) (x y:Bys):Op.bytesLess (RC p m++x) (RC p n++y)=true:=by
 have fact:∀ u,u<10 ^ (17 - p.length)->(Lib.repeatL [48] (17 - p.length - (Lib.decDigits u).length)++Lib.decDigits u).length=17 - p.length/\(Lib.repeatL [48] (17 - p.length - (Lib.decDigits u).length)++Lib.decDigits u).all nY=true/\dvf 0 (Lib.repeatL [48] (17 - p.length - (Lib.decDigits u).length)++Lib.decDigits u)=u:=by
  intro u hu
  have hu':u<10 ^ (16 - p.length+1):=by
   rw[show 16 - p.length+1=17 - p.length by omega];exact hu
  obtain⟨g1,g2,g3⟩:=NV _ _ hu'
  refine⟨?_, ?_, ?_⟩
  ·rw[aim,Lib.repeatL_length,air,Nat.mul_one];omega
  ·rw[ahF,Pb,FJ _ _ hu'];rfl
  ·show FL _=u
   rw[Lr,g1]
 obtain⟨l1,d1,v1⟩:=fact m hm
 obtain⟨l2,d2,v2⟩:=fact n hn
 unfold RC
 rw[ahL p,ahL p,ahL p,ahL p]
 refine VE p _ _ ?_
 exact XX _ _ x y 0 (l1.trans l2.symm) d1 d2 (by rw[v1,v2];exact h)
theorem Zm {p s t:Bys} {m n:Nat} (h1:R6 p (m:Int) s) (h2:R6 p (n:Int) t) (hm:m<10 ^ (17 - p.length)) (hn:n<10 ^ (17 - p.length)) (h:m<n):Op.bytesLess s t=true:=by
 obtain⟨c,rfl⟩:=h1.form
 obtain⟨d,rfl⟩:=h2.form
 rw[ahC,ahC]
 exact aco h1.pl hm hn h _ _
end Go.Md
set_option linter.all false
set_option maxRecDepth 20000
namespace Go.Md
open Go.Dn
def cr (g:av):Tw:=(g.1,g.2.1)
theorem adt (a b:Tw):Ty.beq aK a b=true↔a=b:=by
 show ((a.1==b.1)&&(a.2==b.2))=true↔_
 rw[ag1,ajL,ajL]
 constructor
 ·rintro⟨h1,h2⟩;exact Prod.ext h1 h2
 ·rintro rfl;exact⟨rfl,rfl⟩
def Xs (M:List (Tw×Bool)) (k:Tw):Option Bool:=dN (k:=aK) (v:= .bool) M k
def aaI (M:List (Tw×Bool)) (k:Tw) (b:Bool):List (Tw×Bool):=jG (k:=aK) (v:= .bool) M k b
theorem abC (M:List (Tw×Bool)) (x:Tw) (y:Bool) (n:Tw):Xs (aaI M x y) n=if x=n then some y else Xs M n:=by
 have h:=OB (k:=aK) (v:= .bool) adt M x y n
 refine Eq.trans h ?_
 cases hb:Ty.beq aK x n with
 | true=>rw[ajZ ((adt _ _).1 hb)];rfl
 | false=>rw[ajY (fun e=>by rw[(adt x n).2 e] at hb;cases hb)];rfl
def EN (M:List (Tw×Bool)):List av->List (Tw×Bool)
 | []=>M
 | g::l=>EN (aaI M (cr g) true) l
theorem TT (y:av):∀ (l:List av) (M:List (Tw×Bool)),EN M (l++[y])=aaI (EN M l) (cr y) true
 | [],_=>rfl
 | g::l,M=>TT y l _
theorem YN (k:Tw):∀ (l:List av) (M:List (Tw×Bool)),Xs (EN M l) k=if k∈l.map cr then some true else Xs M k
 | [],M=>by simp[EN]
 | g::l,M=>by
  simp only[EN]
  rw[YN k l,abC]
  by_cases h:k∈l.map cr
  ·rw[ajZ h,ajZ (show k∈(g::l).map cr from aiA _ h)]
  ·rw[ajY h]
   by_cases hb:cr g=k
   ·rw[ajZ hb,ajZ (show k∈(g::l).map cr by rw[<- hb];exact aiB)]
   ·rw[ajY hb,ajY (show ¬k∈(g::l).map cr from fun hm=>by
     rcases aiz.1 hm with e | e
     ·exact hb e.symm
     ·exact h e)]
def gF (l:List av) (i:Nat) (y:av):Int:=if bF y.1=true then (if bF y.2.1=true then (if cr y∈(l.take i).map cr then 7 else if qOk y.2.2 false=true then 0 else 1) else 5) else 5
def mw (l:List av):Int:=fk (gF l) 0 l
theorem MA (l:List av) (hl:l.length<=1000):uS l=some (mw l,()):=by
 unfold uS mw
 rw[kT (f:=qb) (fun i=>((l,(l.length:Int),(i:Int),EN [] (l.take i),()):qc)) l (gF l) () ?_ ?_ ?_ _ ?_]
 ·exact Mh _ _
 ·rfl
 ·intro i y again hy
  have hi:=(aia.1 hy).1
  have ets:l.take (i+1)=l.take i++[y]:=by rw[ai0,hy];rfl
  have hg:=YN (cr y) (l.take i) []
  have hs:aaI (EN [] (l.take i)) (cr y) true=EN [] (l.take (i+1)):=by rw[ets,TT]
  generalize EN [] (l.take i)=M at hg hs ⊢
  have hgd:Option.getD (α:=Bool) (dN (k:=aK) (v:= .bool) M (y.1,y.2.1)) false=decide (cr y∈(l.take i).map cr):=by
   show (Xs M (cr y)).getD false=_
   rw[hg]
   by_cases h:cr y∈(l.take i).map cr
   ·rw[ajZ h,ajR h];rfl
   ·rw[ajY h,ajQ h];rfl
  unfold qb
  dsimp only
  rw[aB (by omega),bq,hy,ajA,gH,ajA]
  dsimp only
  unfold gF
  cases bF y.1 with
  | false=>rw[ahc,ajO,ajY (by simp),ajY (by decide)]
  | true=>
   rw[ahd,ajN,ajZ rfl,gH,ajA]
   dsimp only
   cases bF y.2.1 with
   | false=>rw[ahc,ajO,ajY (by simp),ajY (by decide)]
   | true=>
    rw[ahd,ajN,ajZ rfl]
    rw[hgd]
    by_cases h:cr y∈(l.take i).map cr
    ·rw[ajR h,ajO,ajZ h,ajY (by decide)]
    ·rw[ajQ h,ajN,ajY h,kN,ajA]
     dsimp only
     cases hq:qOk y.2.2 false with
     | false=>
      simp
     | true=>
      simp only[aj0,ajM,ajN]
      rw[ax (by omega) (by omega), <- hs]
      rfl
 ·intro again
  unfold qb
  dsimp only
  rw[az (by omega)]
 ·exact (by omega)
def th (d:ah):Int:=d.1*10 ^ (3 - d.2).toNat
theorem A9 {d:ah} (h:qOk d false=true):cm d/\0<=d.2/\d.2<=3/\1<=d.1/\1<=th d/\th d<=1000000000000:=by
 unfold qOk inR at h
 simp only[ag1,ajS,ahg,ahb,ajK,ahD] at h
 obtain⟨⟨h1,h2,h3,h4⟩,h5⟩:=h
 have h3:0<=d.1:=h3
 have hd:=h1
 unfold cm at hd
 obtain⟨k,hk⟩:∃ k:Nat,d.2=k:=⟨d.2.toNat,by omega⟩
 have e:(10:Int) ^ d.2.toNat*10 ^ (3 - d.2).toNat=1000:=by
  rw[<- ahv,show d.2.toNat+(3 - d.2).toNat=3 by omega];decide
 have p1:(0:Int)<10 ^ (3 - d.2).toNat:=ahw (by decide)
 refine⟨h1,by omega,h2,by omega, ?_, ?_⟩
 ·unfold th
  exact Int.mul_pos (show 0<d.1 by omega) p1
 ·unfold th
  have:=Int.mul_le_mul_of_nonneg_right h4 (Int.le_of_lt p1)
  rw[aho,e] at this
  omega
theorem Eu {d:ah} (h:qOk d false=true):lR d=some (th d,()):=by
 obtain⟨h1,h2,h3,h4,h5,h6⟩:=A9 h
 have hd:=h1
 unfold cm at hd
 unfold lR
 rw[we d 3 (by omega) (by omega) (by omega) (by omega) (by omega),ajA]
 dsimp only
 rw[show d.1*10 ^ (3 - d.2).toNat=th d from rfl,H9 _ _ (by omega) (by omega),ajZ (by omega),ajA]
end Go.Md
set_option linter.all false
set_option maxRecDepth 20000
namespace Go.Md
open Go.Dn
theorem abe (y g:av):Ao y g=some (decide (cr y=cr g),()):=by
 unfold Ao
 have e:decide (cr y=cr g)=((y.1==g.1)&&(y.2.1==g.2.1)):=by
  rw[ag5,decide_eq_true_iff,ag1,ajL,ajL]
  constructor
  ·intro h
   have h':(y.1,y.2.1)=(g.1,g.2.1):=h
   exact⟨(Prod.mk.inj h').1,(Prod.mk.inj h').2⟩
  ·rintro⟨h1,h2⟩;exact Prod.ext h1 h2
 rw[e]
 cases (y.1==g.1)<;>rfl
def uR (most:List av) (g:av):Option av:=most.find? fun m=>decide (cr m=cr g)
theorem afJ (most:List av) (hl:most.length<=1000) (g:av): (∃ (k:Nat) (x:av),most[k]? =some x/\uR most g=some x/\ij most g=some ((k:Int),()))\/(uR most g=none/\ij most g=some (-1,())):=by
 unfold ij
 have loop:∀ f,most.length<f->(∃ (k:Nat) (x:av),most[k]? =some x/\uR most g=some x/\iter f ((most,g,(most.length:Int),(0:Int),()):eG) gv=some (Sum.inl ((k:Int),())))\/(uR most g=none/\iter f ((most,g,(most.length:Int),(0:Int),()):eG) gv=some (Sum.inr ())):=by
  intro f hf
  refine bX (Inv:=fun i X=>(∀ j (hj:j<most.length),j<i->cr most[j]≠cr g)/\X=((most,g,(most.length:Int),(i:Int),()):eG)) most.length
   (fun r=>(∃ (k:Nat) (x:av),most[k]? =some x/\uR most g=some x/\r=some (Sum.inl ((k:Int),())))\/(uR most g=none/\r=some (Sum.inr ()))) ?_ ?_ f 0 _ ⟨fun j _ h=>absurd h (ajs _),rfl⟩ (by omega) (by omega)
  ·rintro i _ again hi ⟨hb,rfl⟩ ih
   have hy:most[i]? =some most[i]:=aJ hi
   unfold gv
   dsimp only
   rw[aB (by omega),bq,hy,ajA,abe,ajA]
   dsimp only
   by_cases h:cr most[i]=cr g
   ·rw[ajR h,ajO]
    refine .inl ⟨i,most[i],hy, ?_,rfl⟩
    unfold uR
    rw[List.find?_eq_some_iff_getElem]
    exact⟨ajR h,i,hi,rfl,fun j hj=>by rw[ajQ (hb j (by omega) hj)];rfl⟩
   ·rw[ajQ h,ajN,ax (by omega) (by omega)]
    refine ih _ ⟨fun j hj hji=> ?_,rfl⟩
    rcases ajk.1 hji with e | e
    ·exact hb j hj e
    ·subst e;exact h
  ·rintro _ again ⟨hb,rfl⟩
   unfold gv
   dsimp only
   rw[az (by omega)]
   refine .inr ⟨?_,rfl⟩
   unfold uR
   rw[ahY]
   intro x hx
   obtain⟨j,hj⟩:=aiD.1 hx
   obtain⟨hjl,rfl⟩:=aia.1 hj
   simpa using hb j hjl hjl
 rcases loop (List.length most+(Int.natAbs ((List.length most:Int))+(Int.natAbs (0:Int)+2))) (by omega) with ⟨k,x,h1,h2,h3⟩ | ⟨h1,h2⟩
 ·rw[h3,lI];exact .inl ⟨k,x,h1,h2,rfl⟩
 ·rw[h2,aS];exact .inr ⟨h1,rfl⟩
def GOk (l:List av):Prop:=∀ g∈l,qOk g.2.2 false=true
theorem Oh {l:List av} (h:mw l=0):GOk l/\∀ (i:Nat) (y:av),l[i]? =some y->bF y.1=true/\bF y.2.1=true/\cr y∉(l.take i).map cr:=by
 have key:∀ (i:Nat) (y:av),l[i]? =some y->bF y.1=true/\bF y.2.1=true/\cr y∉(l.take i).map cr/\qOk y.2.2 false=true:=by
  intro i y hy
  have:=iN h i y hy
  rw[ajx] at this
  unfold gF at this
  split at this
  ·split at this
   ·split at this
    ·omega
    ·split at this
     ·rename_i h1 h2 h3 h4;exact⟨h1,h2,h3,h4⟩
     ·omega
   ·omega
  ·omega
 refine⟨fun g hg=> ?_,fun i y hy=>⟨(key i y hy).1,(key i y hy).2.1,(key i y hy).2.2.1⟩⟩
 obtain⟨i,hi⟩:=aiD.1 hg
 exact (key i g hi).2.2.2
def si (most:List av) (g:av):Int:=((uR most g).map fun m=>th m.2.2).getD 0
def Aa (a b:Int):Int:=(a+b - 1) / b
def dR (most:List av):List av->Int
 | []=>0
 | g::r=>Aa (th g.2.2) (si most g)+dR most r
theorem LU (most:List av) (y:av):∀ l,dR most (l++[y])=dR most l+Aa (th y.2.2) (si most y)
 | []=>by simp[dR]
 | g::l=>by simp only[ahN,dR,LU most y l];omega
theorem TA {most:List av} (hm:GOk most) {g x:av} (h:uR most g=some x):si most g=th x.2.2/\qOk x.2.2 false=true/\1<=si most g/\si most g<=1000000000000:=by
 have hx:x∈most:=List.mem_of_find?_eq_some h
 have hq:=hm x hx
 have e:si most g=th x.2.2:=by unfold si;rw[h];rfl
 obtain⟨_,_,_,_,h5,h6⟩:=A9 hq
 exact⟨e,hq,by rw[e];exact h5,by rw[e];exact h6⟩
theorem Um {a b:Int} (ha:1<=a) (ha2:a<=1000000000000) (hb:1<=b) (hb2:b<=1000000000000):1<=Aa a b/\Aa a b<=2000000000000/\w64 (Int.tdiv (w64 ((w64 (a+b)) - 1)) b)=Aa a b:=by
 have h1:1<=(a+b - 1) / b:=by
  rw[Int.le_ediv_iff_mul_le (by omega)];omega
 have h2:(a+b - 1) / b<=a+b - 1:=Int.ediv_le_self _ (by omega)
 unfold Aa
 refine⟨h1,by omega, ?_⟩
 rw[ax (n:=a+b) (by omega) (by omega),ax (n:=a+b - 1) (by omega) (by omega),ahA (by omega),ax (by omega) (by omega)]
theorem Zw {items most:List av} (hil:items.length<=100) (hml:most.length<=100) (hi:GOk items) (hm:GOk most): ((∀ g∈items,(uR most g).isSome=true)/\zu items most=some (dR most items,items.map (si most),0,()))\/zu items most=some (0,[],9,()):=by
 have BN:maxLen=9223372036854775807:=rfl
 unfold zu
 have loop:∀ f,items.length<f->((∀ g∈items,(uR most g).isSome=true)/\iter f ((most,(0:Int),([]:List Int),items,(items.length:Int),(0:Int),()):oT) tK=some (Sum.inr (dR most items,items.map (si most),())))\/iter f ((most,(0:Int),([]:List Int),items,(items.length:Int),(0:Int),()):oT) tK=some (Sum.inl (0,[],9,())):=by
  intro f hf
  refine bX (Inv:=fun i X=>(∀ g∈items.take i,(uR most g).isSome=true)/\0<=dR most (items.take i)/\dR most (items.take i)<=i*2000000000000/\X=((most,dR most (items.take i),(items.take i).map (si most),items,(items.length:Int),(i:Int),()):oT)) items.length
   (fun r=>((∀ g∈items,(uR most g).isSome=true)/\r=some (Sum.inr (dR most items,items.map (si most),())))\/r=some (Sum.inl (0,[],9,()))) ?_ ?_ f 0 _ ⟨fun g hg=>by simp at hg,ahm _,ahm _,rfl⟩ (by omega) (by omega)
  ·rintro i _ again hii ⟨hb,h0,h2,rfl⟩ ih
   have hy:items[i]? =some items[i]:=aJ hii
   have hqi:=hi _ (ail hii)
   obtain⟨_,_,_,_,t1,t2⟩:=A9 hqi
   have ets:items.take (i+1)=items.take i++[items[i]]:=by rw[ai0,hy];rfl
   have hlen:(items.take i).length=i:=by rw[ais];omega
   unfold tK
   dsimp only
   rw[aB (by omega),bq,hy,ajA]
   rcases afJ most (by omega) items[i] with ⟨k,x,k1,k2,k3⟩ | ⟨k1,k2⟩
   ·obtain⟨e1,e2,e3,e4⟩:=TA hm k2
    obtain⟨c1,c2,c3⟩:=Um t1 t2 e3 e4
    rw[k3,ajA]
    dsimp only
    rw[az (by omega),bq,k1,ajA,Eu e2,ajA]
    dsimp only
    rw[bg (by rw[ag1];exact⟨ajR (by rw[aio,hlen];omega),ajR (by rw[aio,hlen];omega)⟩),Eu hqi,ajA]
    dsimp only
    rw[<- e1,bg (by simp;omega),c3,ax (by omega) (by omega),ax (n:=(i:Int)+1) (by omega) (by omega)]
    have em:dR most (items.take (i+1))=dR most (items.take i)+Aa (th items[i].2.2) (si most items[i]):=by rw[ets,LU]
    refine ih _ ⟨fun g hg=> ?_,by omega,by omega, ?_⟩
    ·rw[ets] at hg
     rcases aiy.1 hg with h | h
     ·exact hb g h
     ·rw[aiJ.1 h,k2];rfl
    ·rw[em,ets,ait];rfl
   ·rw[k2,ajA]
    exact .inr rfl
  ·rintro _ again ⟨hb,h0,h2,rfl⟩
   unfold tK
   dsimp only
   rw[az (by omega)]
   rw[aiY] at*
   exact .inl ⟨hb,rfl⟩
 rcases loop (List.length most+(Int.natAbs (0:Int)+(List.length ([]:List Int)+(List.length items+(Int.natAbs ((List.length items:Int))+(Int.natAbs (0:Int)+2)))))) (by omega) with ⟨h1,h2⟩ | h2
 ·rw[h2,aS];exact .inl ⟨h1,rfl⟩
 ·rw[h2,lI];exact .inr rfl
def Pv (p:Bys) (n many:Int):Int:=if many=0 then 0 else if FN p n≠0 then FN p n else if (10:Int) ^ (17 - p.length) - n<many then 1 else 0
theorem U5 (p:Bys) (n many:Int):tJ p n many=some (Pv p n many,()):=by
 unfold tJ Pv
 by_cases h0:many=0
 ·subst h0;rfl
 rw[ajY h0,show (many==0)=false by simpa using h0,ajN]
 by_cases hf:FN p n=0
 rotate_left
 ·rw[ajZ hf,WQ p n hf,ajA]
  dsimp only
  rw[show (FN p n != 0)=true by simpa using hf,ajO]
 rw[ajY (by simpa using hf)]
 have hp:By p=true:=by
  unfold FN at hf
  split at hf
  ·assumption
  ·omega
 have hn:¬(n<0\/(10:Int) ^ (17 - p.length) - 1<n):=by
  unfold FN at hf
  rw[ajZ hp] at hf
  intro h
  rw[ajZ h] at hf;omega
 obtain⟨m,rfl⟩:∃ m:Nat,n=m:=⟨n.toNat,by omega⟩
 have h1:(10:Int) ^ (17 - p.length)<=10 ^ 17:=by
  have:=ajv (n:=10) (by omega) (show 17 - p.length<=17 by omega)
  have h2:=ahu.2 this
  simpa using h2
 have hm:m<10 ^ (17 - p.length):=by
  have h3:(m:Int)<((10 ^ (17 - p.length):Nat):Int):=by
   rw[Int.natCast_pow]
   show (m:Int)<10 ^ (17 - p.length)
   omega
  omega
 obtain⟨s,g1,_⟩:=Tm hp m hm
 rw[g1,ajA]
 dsimp only
 rw[zne,ajN,Vi,ajZ hp,ajA]
 dsimp only
 rw[ax (by omega) (by omega)]
 by_cases h:(10:Int) ^ (17 - p.length) - (m:Int)<many
 ·rw[aB (by omega),ajZ h]
 ·rw[az (by omega),ajY h]
end Go.Md
set_option linter.all false
set_option maxRecDepth 20000
namespace Go.Md
open Go.Dn
def Ml (z:Int):ah:=((few 3 z).1,((few 3 z).2:Int))
theorem adk {z:Int} (h1:1<=z) (h2:z<=1000000000000):Bx z=some (Ml z,()):=by
 obtain⟨f1,f2,f3⟩:=mR 3 z
 unfold Bx
 rw[l9 z (by omega) (by omega),ajA]
 dsimp only
 have hf:=vX z (ajg (show z.natAbs<=1000000000000 by omega) (by decide +kernel)) 3 (by omega)
 rw[show ((3:Nat):Int)=(3:Int) from rfl] at hf
 rw[hf,ajZ (by omega),ajA]
 rfl
theorem ael {z:Int} (h1:1<=z) (h2:z<=1000000000000):qOk (Ml z) false=true/\v9 (Ml z)=z*1000000:=by
 obtain⟨f1,f2,f3⟩:=mR 3 z
 unfold Ml
 generalize few 3 z=r at*
 obtain⟨u,k⟩:=r
 dsimp only at*
 have hu:u.natAbs<=1000000000000:=by omega
 constructor
 ·unfold qOk inR cm
  dsimp only
  have hk:k=0\/k=1\/k=2\/k=3:=by omega
  simp only[ag1,ajS,ahg,ahb,ajK,ahD,ahC]
  rcases hk with rfl | rfl | rfl | rfl
  ·simp at f2 ⊢;omega
  ·simp at f2 ⊢;omega
  ·simp at f2 ⊢;omega
  ·simp at f2 ⊢;omega
 ·unfold v9
  dsimp only
  have hk:k=0\/k=1\/k=2\/k=3:=by omega
  rcases hk with rfl | rfl | rfl | rfl
  ·simp at f2 ⊢;omega
  ·simp at f2 ⊢;omega
  ·simp at f2 ⊢;omega
  ·simp at f2 ⊢;omega
def IE (S:List (Tw×Int)) (g:av) (d:Int):List (Tw×Int):=if d=0 then S else S++[(cr g,d*1000000)]
theorem VA (k:Tw) (z:Int):∀ S:List (Tw×Int),k∉S.map (·.1)->me k z S=S++[(k,z)]
 | [],_=>rfl
 | p::r,h=>by
  simp only[aiv,aiz,aj4] at h
  simp only[me]
  rw[ajY h.1,VA k z r h.2];rfl
theorem Vz (k:Tw) (z b:Int):∀ S:List (Tw×Int),k∉S.map (·.1)->me k z (S++[(k,b)])=S++[(k,b+z)]
 | [],_=>by simp[me]
 | p::r,h=>by
  simp only[aiv,aiz,aj4] at h
  show me k z (p::(r++[(k,b)]))=p::(r++[(k,b+z)])
  simp only[me]
  rw[ajY h.1,Vz k z b r h.2]
theorem adq {S:List (Tw×Int)} {g:av} (h:cr g∉S.map (·.1)) {d z:Int} (hd:0<=d) (hz:0<z):me (cr g) (z*1000000) (IE S g d)=IE S g (d+z):=by
 unfold IE
 rw[ajY (show ¬d+z=0 by omega)]
 by_cases h0:d=0
 ·subst h0
  rw[ajZ rfl,VA _ _ _ h,Int.zero_add]
 ·rw[ajY h0,Vz _ _ _ _ h,Int.add_mul]
theorem YR (B:Nat->Bool) (l:List ak) (q:ak):∀ k,k<=l.length->yL B (l++[q]) k=yL B l k
 | 0,_=>rfl
 | k+1,h=>by
  simp only[yL]
  rw[YR B l q k (by omega),ah3 (by omega)]
structure FE (p:Bys) (n:Nat) (out:List ak) (S:List (Tw×Int)):Prop where
 each:∀ (j:Nat) (q:ak),out[j]? =some q->R6 p ((n+j:Nat):Int) q.1/\q.2.1=[]/\q.2.2.1=(0,0)/\∃ c:aF,q.2.2.2=[c]/\bF c.1=true/\bF c.2.1=true/\c.2.2.1=[]/\qOk c.2.2.2 false=true
 sums:yL (fun _=>true) out out.length=S
theorem FE.snoc {p:Bys} {n:Nat} {out:List ak} {S:List (Tw×Int)} (h:FE p n out S) {s:Bys} {c:aF} (hs:R6 p ((n+out.length:Nat):Int) s) (h1:bF c.1=true) (h2:bF c.2.1=true) (h3:c.2.2.1=[]) (h4:qOk c.2.2.2 false=true): FE p n (out++[(s,[],(0,0),[c])]) (me (ck c) (v9 c.2.2.2) S):=by
 constructor
 ·intro j q hq
  rcases ajm j out.length with g | g | g
  ·rw[ah3 g] at hq
   exact h.each j q hq
  ·subst g
   rw[ah4 (ajc _),Nat.sub_self] at hq
   cases hq
   exact⟨hs,rfl,rfl,c,rfl,h1,h2,h3,h4⟩
  ·rw[ah9 (by simp;omega)] at hq;cases hq
 ·rw[aim,air]
  simp only[yL,aj0]
  rw[YR _ _ _ _ (ajc _),h.sums,ah4 (ajc _),Nat.sub_self]
  rfl
def yo (a b:Int):Int:=if 0<a then Aa a b else 0
theorem aaK {a b:Int} (ha:0<a) (hb:1<=b):yo a b=1+yo (a - b) b:=by
 unfold yo Aa
 rw[ajZ ha]
 have e:(a+b - 1) / b=1+(a - 1) / b:=by
  rw[show a+b - 1=(a - 1)+1*b by omega,Int.add_mul_ediv_right _ _ (by omega)];omega
 rw[e]
 by_cases h:0<a - b
 ·rw[ajZ h,show a - b+b - 1=a - 1 by omega]
 ·rw[ajY h,Int.ediv_eq_zero_of_lt (by omega) (by omega)]
theorem adw {a b:Int} (hb:1<=b):0<=yo a b:=by
 unfold yo Aa
 split
 ·exact Int.ediv_nonneg (by omega) (by omega)
 ·exact ahm _
theorem afZ {p:Bys} (hp:By p=true) {n:Nat} {items:List av} {each:List Int} {i:Nat} {g:av} {one:Int} (hone:each[i]? =some one) (h1:1<=one) (h2:one<=1000000000000) (hq:qOk g.2.2 false=true) (hn1:bF g.1=true) (hn2:bF g.2.1=true) {S:List (Tw×Int)} (hk:cr g∉S.map (·.1)) {T:Int} (hT0:T<=500) (hT:(n:Int)+T<=10 ^ (17 - p.length)) {out:List ak} (ho:FE p n out S) (hlen:(out.length:Int)+yo (th g.2.2) one<=T) (f:Nat) (hf:(th g.2.2).toNat<f): ∃ out',FE p n out' (IE S g (th g.2.2))/\(out'.length:Int)=(out.length:Int)+yo (th g.2.2) one/\ iter (X:=tw) (β:=yG) f (p,(n:Int),out,(i:Int),th g.2.2,items,(items.length:Int),(i:Int),g.1,g.2.1,g.2.2.1,g.2.2.2,each,()) Di=some (Sum.inr (p,(n:Int),out',items,(items.length:Int),(i:Int),each,())):=by
 have BN:maxLen=9223372036854775807:=rfl
 obtain⟨_,_,_,_,t1,t2⟩:=A9 hq
 have hpl:p.length<=15:=by
  unfold By at hp
  simp only[ag1,ajS] at hp
  exact hp.1
 have h10:(10:Int) ^ (17 - p.length)<=10 ^ 17:=by
  have:=ajv (n:=10) (by omega) (show 17 - p.length<=17 by omega)
  have h2:=ahu.2 this
  simpa using h2
 have hieach:i<each.length:=(aia.1 hone).1
 refine ze (Inv:=fun X=>∃ (out1:List ak) (left:Int),X=((p,(n:Int),out1,(i:Int),left,items,(items.length:Int),(i:Int),g.1,g.2.1,g.2.2.1,g.2.2.2,each,()):tw)/\left<=th g.2.2/\FE p n out1 (IE S g (if 0<left then th g.2.2 - left else th g.2.2))/\(out1.length:Int)+yo left one=(out.length:Int)+yo (th g.2.2) one)
  (fun X=>X.2.2.2.2.1.toNat)
  (fun _ r=>∃ out',FE p n out' (IE S g (th g.2.2))/\(out'.length:Int)=(out.length:Int)+yo (th g.2.2) one/\r=some (Sum.inr (p,(n:Int),out',items,(items.length:Int),(i:Int),each,()))) ?_ f _ ⟨out,th g.2.2,rfl,ahm _,by rw[ajZ (by omega),Int.sub_self];exact ho,rfl⟩ hf
 rintro _ again ⟨out1,left,rfl,hle,hpk,hcnt⟩ ih
 dsimp only at ih
 unfold Di
 dsimp only
 by_cases hl:0<left
 ·rw[aB hl]
  rw[ajZ hl] at hpk
  have hst:=aaK hl h1
  have hnn:=adw (a:=left - one) h1
  have hol:(out1.length:Int)+1<=T:=by omega
  have hm:n+out1.length<10 ^ (17 - p.length):=by
   have h3:((n+out1.length:Nat):Int)<((10 ^ (17 - p.length):Nat):Int):=by
    rw[Int.natCast_pow]
    show ((n+out1.length:Nat):Int)<10 ^ (17 - p.length)
    omega
   omega
  obtain⟨s,g1,g2⟩:=Tm hp (n+out1.length) hm
  rw[ax (n:=(n:Int)+(out1.length:Int)) (by omega) (by omega),show (n:Int)+(out1.length:Int)=((n+out1.length:Nat):Int) by omega,g1,ajA]
  dsimp only
  obtain⟨z,hz⟩:∃ z,z=(if one<left then one else left):=⟨_,rfl⟩
  have hz1:1<=z/\z<=1000000000000:=by
   rw[hz];split<;>omega
  obtain⟨q1,q2⟩:=ael hz1.1 hz1.2
  rw[bg (by rw[ag1];exact⟨ajR (by omega),ajR (by omega)⟩),ahC,hone,ajA, <- hz,adk hz1.1 hz1.2,ajA]
  dsimp only
  rw[bg (by rw[ag1];exact⟨ajR (by omega),ajR (by omega)⟩),bg (by rw[ag1];exact⟨ajR (by omega),ajR (by omega)⟩),ajA,ax (n:=left - one) (by omega) (by omega)]
  have hsn:=hpk.snoc (c:=(g.1,g.2.1,[],Ml z)) g2 hn1 hn2 rfl q1
  have ea:=adq (S:=S) (g:=g) hk (d:=th g.2.2 - left) (z:=z) (by omega) (by omega)
  rw[show ck ((g.1,g.2.1,[],Ml z):aF)=cr g from rfl,show v9 ((g.1,g.2.1,[],Ml z):aF).2.2.2=z*1000000 from q2,ea] at hsn
  refine ih _ ⟨_,left - one,rfl,by omega, ?_, ?_⟩ (by show (left - one).toNat<left.toNat;omega)
  ·have e:th g.2.2 - left+z=(if 0<left - one then th g.2.2 - (left - one) else th g.2.2):=by
    rw[hz]
    by_cases h:one<left
    ·rw[ajZ h,ajZ (by omega)];omega
    ·rw[ajY h,ajY (by omega)];omega
   rw[<- e];exact hsn
  ·rw[aim,air]
   omega
 ·rw[az hl]
  rw[ajY hl] at hpk
  refine⟨out1,hpk, ?_,rfl⟩
  have e:yo left one=0:=by unfold yo;rw[ajY hl]
  omega
end Go.Md
