/-
  An executor of Go code on plain data, proved sound against the model, a part. No condition.
-/
import Derived.Test.YtakjkcibbeeekaaGreatDoorYd
import Derived.Shelf.SlSortCmp.NoneTotal
import Derived.Sort.Grow
import Derived.Shelf.SortM.Plain
import Derived.Shelf.SortM.SortNone
import Derived.Shelf.Vars
import Derived.Stop.LaidErr
set_option linter.all false
namespace Go.Dn
open Go.Proofs Go.Shelf Go.Sort Go.RowKit Go.Lib
theorem flat_get {α:Type} [Inhabited α] {enc:α->List Value} {k:Nat} (hk:∀ x,(enc x).length=k):∀ (l:List α) (j:Nat),j<l.length*k->(l.flatMap enc)[j]? =some ((enc l[j / k]!)[j % k]!)
 | [],j,h=>by simp at h
 | x::l,j,h=>by
  have hk0:0<k:=by
   rcases ai9 k with h0 | h0
   ·subst h0;simp at h
   ·exact h0
  rw[ah0]
  by_cases hj:j<k
  ·rw[ah3 (by rw[hk];exact hj),ai6 hj,ajo hj]
   have h1:j<(enc x).length:=by rw[hk];exact hj
   simp[h1]
  ·have h1:k<=j:=by omega
   rw[ah4 (by rw[hk];exact h1),hk]
   have h2:j - k<l.length*k:=by
    rw[ain,ai4,ajt] at h
    omega
   rw[flat_get hk l (j - k) h2]
   have e1:j / k=(j - k) / k+1:=by
    conv=>lhs;rw[show j=j - k+k from by omega]
    rw[Nat.add_div_right _ hk0]
   have e2:j % k=(j - k) % k:=by
    conv=>lhs;rw[show j=j - k+k from by omega]
    rw[Nat.add_mod_right]
   rw[e1,e2]
   simp
theorem Rv {α:Type} {enc:α->List Value} {k:Nat} (hk:∀ x,(enc x).length=k):∀ (l:List α),(l.flatMap enc).length=l.length*k
 | []=>by simp
 | x::l=>by rw[ah0,aim,hk,Rv hk l,ain,ai4,ajt,Nat.add_comm]
theorem S9 {α:Type} [Inhabited α] {enc:α->List Value} {k:Nat} (hk:∀ x,(enc x).length=k) (d:Array α):(flatK enc k d).toList=d.toList.flatMap enc:=by
 apply ahW
 intro j
 by_cases hj:j<d.size*k
 ·rw[flat_get hk d.toList j (by simpa using hj)]
  have h1:=get_flatK enc k d j hj
  have h2:j<(flatK enc k d).size:=by rw[size_flatK];exact hj
  rw[getElem!_pos (flatK enc k d) j h2] at h1
  rw[agV,agP h2,h1]
  have e:d[j / k]! =d.toList[j / k]! :=by rw[Array.getElem!_toList]
  rw[e]
 ·rw[ah9 (by rw[agW,size_flatK];omega),ah9 (by rw[Rv hk];simpa using hj)]
theorem Vq (cur F:Array Value) (h:F.size<=cur.size):(putCells id 0 F cur).toList.take F.size=F.toList:=by
 apply ahW
 intro j
 by_cases hj:j<F.size
 ·rw[aij hj,agV,agV]
  have h2:j<cur.size:=by omega
  simp[putCells,hj,h2]
 ·rw[List.getElem?_take_eq_none (by omega),ah9 (by simp;omega)]
theorem Yb {w:World} {g n:Nat} {os:Array Obj} {cur:Array Value} {e:TypeId} {fr:Nat×Nat} (F:Array Value) (hb:w.heap[g]? =some (.cells cur e fr)): (grow (putRow id (Sort.ahead w n) g 0 F) os).heap[g]? =some (.cells (putCells id 0 F cur) e fr):=by
 have hg:g<w.heap.size:=(agR.1 hb).1
 rw[heap_grow_old _ _ (by simpa using hg)]
 simp[putRow,mapBlock,Sort.ahead,Array.getElem?_modify,hb,onCells]
theorem Zr {w:World} {g n:Nat} {os:Array Obj} (F:Array Value) {k:Nat} (hk:k<w.heap.size) (hne:k≠g):(grow (putRow id (Sort.ahead w n) g 0 F) os).heap[k]? =w.heap[k]? :=by
 rw[heap_grow_old _ _ (by simpa using hk)]
 have:g≠k:=fun e=>hne e.symm
 simp[putRow,mapBlock,Sort.ahead,Array.getElem?_modify,this]
theorem ab6 {α:Type} [Inhabited α] {enc:α->List Value} {k:Nat} (hk:∀ x,(enc x).length=k) {w:World} {g:Nat} {cur:Array Value} {e:TypeId} {d:Array α} (hb:w.heap[g]? =some (.cells cur e (0,0))) (ht:cur.toList.take (d.size*k)=d.toList.flatMap enc):HoldsK enc k w g 0 d:=by
 intro j hj
 rw[size_flatK] at hj
 refine⟨?_,by simp[World.frozen?,hb]⟩
 have h2:j<(flatK enc k d).size:=by rw[size_flatK];exact hj
 have h1:(cur.toList.take (d.size*k))[j]? =(flatK enc k d).toList[j]? :=by rw[ht,S9 hk]
 rw[aij hj,agV,agV,agP h2] at h1
 simp only[World.cell?,hb,ajx]
 simp only[Option.isSome_none,ag6,ajX]
 rw[h1,getElem!_pos (flatK enc k d) j h2]
 rfl
theorem ZC {α:Type} {cf:α->α->Int} (hO:SWO (ltOf cf)) {l r:List α} (hT:∀ x,x∈l->∀ y,y∈l->¬ cf x y<0->¬ cf y x<0->x=y) (hp:r.Perm l) (hs:r.Pairwise fun x y=>(!decide (cf y x<0))=true): r=l.mergeSort fun x y=> !decide (cf y x<0):=by
 refine ahE (le:=fun x y=>(!decide (cf y x<0))=true) (fun a b ha hb h1 h2=> ?_) hs ?_ (hp.trans (aiK _ _).symm)
 ·simp only[ahb,decide_eq_false_iff_not] at h1 h2
  exact hT a (hp.mem_iff.1 ha) b (by simpa using hb) h2 h1
 ·refine aiP (fun a b c h1 h2=> ?_) (fun a b=> ?_) l
  ·have h1':ltOf cf b a=false:=by simpa [ltOf] using h1
   have h2':ltOf cf c b=false:=by simpa [ltOf] using h2
   have:=hO.ntrans _ _ _ h2' h1'
   simpa [ltOf] using this
  ·cases h:decide (cf b a<0) with
   | false=>rfl
   | true=>
    have h1:ltOf cf b a=true:=h
    have h2:ltOf cf a b=false:=by
     cases h3:ltOf cf a b with
     | false=>rfl
     | true=>
      have:=hO.trans _ _ _ h1 h3
      rw[hO.irrefl] at this;cases this
    have h2':decide (cf a b<0)=false:=h2
    rw[h2'];rfl
section
variable {P:Program}
def Ua (P:Program) (g:Nat) (t:Ty) (ok:t.den->Bool) (cf:t.den->t.den->Int):Prop:=
 ∀ (G:Gh) (x y:t.den) (a b:List Value),aN G t x a->aN G t y b->ok x=true->ok y=true->∀ w:World,
  Calls P g #[.agg a.toArray,.agg b.toArray] w fun e w'=>e= .returned (.int .i64 (cf x y))/\∃ q os,w'=grow (w.drewN q) os
abbrev Pr (G:Gh) (t:Ty) (ok:t.den->Bool):Type:={p:t.den×List Value // aN G t p.1 p.2/\ok p.1=true}
theorem YD {G:Gh} {t:Ty} {ok:t.den->Bool}:∀ {l:List t.den} {cs:List Value},cM (aN G t) l cs->(∀ x,x∈l->ok x=true)->∃ d:List (Pr G t ok),d.map (fun p=>p.1.1)=l/\d.flatMap (fun p=>p.1.2)=cs
 | [],cs,h,_=>⟨[],rfl,by cases h;rfl⟩
 | x::l,cs,⟨c,r,e,h1,h2⟩,hok=>by
  obtain⟨d,e1,e2⟩:=YD h2 (fun y hy=>hok y (by simp[hy]))
  exact⟨⟨(x,c),h1,hok x (by simp)⟩::d,by simp[e1],by rw[ah0,e2,e]⟩
theorem Wg {G:Gh} {t:Ty} {ok:t.den->Bool}:∀ (d:List (Pr G t ok)),cM (aN G t) (d.map fun p=>p.1.1) (d.flatMap fun p=>p.1.2)
 | []=>rfl
 | p::d=>⟨p.1.2,d.flatMap fun p=>p.1.2,by rw[ah0],p.2.1,Wg d⟩
noncomputable def KC (e:TypeId) (t:Ty) (g:Nat) (ok:t.den->Bool) (cf:t.den->t.den->Int):ay:=⟨[.mrow e t,.val (.clo g .unit)],[],fun x=>OX ok cf (show List t.den from x.1)⟩
theorem abq {ρ:Ren} (L:SlLaysF0.n6 P ρ) {t:Ty} (aE:∀ w,(isAgg (ρ.t 24)).run P w= .ok true w) (zE:∀ w,(Go.sizeOf (ρ.t 24)).run P w= .ok t.size w) {e1:TypeId} {g:Nat} {ok:t.den->Bool} {cf:t.den->t.den->Int} (hO:SWO (ltOf cf)) (hc:Ua P g t ok cf) (eg:∀ args w,(callFunc g args).run P w= .ok (.enter g args) w) {G:Gh} {w:World} {ow:Nat->Option Nat} {l r:List t.den} {s:Value} {xs:List Value} (hG:Agr G w) (how:∀ b i,ow b=some i->G b=none/\b<w.heap.size) (hown:w.ownsRow 0 e1 t.size s l.length xs) (hrep:cM (aN G t) l xs) (hobl:∀ b,s.ownBlock=some b->ow b=some (64*0)) (hm:OX ok cf l=some (r,())): Calls P (ρ.f 6) #[s,.func (.func g) #[] #[]] w fun e w'=>∃ G' ow' vs,R5 G w ow (KC e1 t g ok cf) [s,.func (.func g) #[] #[]] (r,()) e w' G' ow' vs:=by
 unfold OX at hm
 split at hm
 ·rename_i hcnd
  obtain⟨hok,hT,hlt⟩:=hcnd
  simp only[Option.some.injEq,Prod.mk.injEq,ajJ] at hm
  rcases hown.2 with ⟨rfl,hl0⟩ | ⟨b0,cap,cur,rfl,hbase,hb,h1,h2,h3,h4⟩
  ·have hl:l=[]:=ahV hl0
   have hr:r=[]:=by rw[<- hm,hl];simp
   refine (AnyF.slices_SortFunc_none L none 0 (.func (.func g) #[] #[]) w).mono ?_
   rintro e w' ⟨he,rfl⟩
   refine⟨G,fun _=>none,[], ?_⟩
   exact {
    ret:=he
    le:=Gh.le_refl G
    agr:=hG
    size:=ajc _
    os:=rfl
    output:=rfl
    old:=fun b _ _=>⟨rfl,rfl⟩
    own:=fun b i hbi=>by cases hbi
    out:=⟨rfl,⟨_,rfl,⟨[],⟨by rw[hr];simp,.inl ⟨rfl,by rw[hr];rfl⟩⟩,by rw[hr];rfl⟩,fun b hb=>by cases hb⟩,trivial⟩
    hnd:=fun _=>rfl }
  ·have hgs:b0<w.heap.size:=(agR.1 hb).1
   have hgOw:ow b0=some (64*0):=hobl b0 rfl
   have hgG:=(how b0 _ hgOw).1
   obtain⟨d,hd1,hd2⟩:=YD hrep hok
   have hdl:d.length=l.length:=by rw[<- hd1,aio]
   by_cases hl0:l=[]
   ·subst hl0
    have hr:r=[]:=by rw[<- hm];simp
    refine (AnyF.slices_SortFunc_none L (some ⟨b0,0,none⟩) cap (.func (.func g) #[] #[]) w).mono ?_
    rintro e w' ⟨he,rfl⟩
    refine⟨G,fun b=>if b=b0 then some (64*0) else none,[], ?_⟩
    exact {
     ret:=he
     le:=Gh.le_refl G
     agr:=hG
     size:=ajc _
     os:=rfl
     output:=rfl
     old:=fun b _ _=>⟨rfl,rfl⟩
     own:=fun b i hbi=>by
      by_cases e:b=b0
      ·subst e;exact⟨hgG,hgs,.inr (by rw[hgOw];simp)⟩
      ·simp only[e,ajX] at hbi;cases hbi
     out:=by
      subst hr
      refine⟨rfl,⟨_,rfl,⟨xs,hown,hrep⟩,fun b hbv=> ?_⟩,trivial⟩
      have:some b0=some b:=hbv
      cases this
      show (if b0=b0 then some (64*0) else none)=_
      simp
     hnd:=fun _=>rfl }
   ·obtain⟨p0,hp0⟩:∃ p0,p0∈d:=by
     cases d with
     | nil=>exact absurd hd1.symm hl0
     | cons p d=>exact⟨p,by simp⟩
    haveI:Inhabited (Pr G t ok):=⟨p0⟩
    have hk:∀ p:Pr G t ok,(p.1.2).length=t.size:=fun p=>p.2.1.len
    have h1c:∀ p:Pr G t ok,∀ v,v∈p.1.2->v.oneCell'=true:=fun p=>p.2.1.one
    have hO':SWO (ltOf fun p q:Pr G t ok=>cf p.1.1 q.1.1):=⟨fun x=>hO.irrefl _,fun x y z=>hO.trans _ _ _,fun x y z=>hO.ntrans _ _ _⟩
    have hH:HoldsK (fun p:Pr G t ok=>p.1.2) t.size w b0 0 d.toArray:=ab6 hk hb (by
     rw[aiT,hdl];simpa [hd2] using h4)
    have hcmp:CmpLays P g #[] (fun p:Pr G t ok=>p.1.2) t.size (fun p q=>cf p.1.1 q.1.1) b0 0 d.toArray.size w:=fun m os dk _ x y=>hc G _ _ _ _ x.2.1 y.2.1 x.2.2 y.2.2 _
    have hS:=AnyQ.slices_SortFunc L t.size aE zE (fun p:Pr G t ok=>p.1.2) hk h1c (fun p q=>cf p.1.1 q.1.1) hO' g #[] b0 0 cap d.toArray w eg hcmp hH hgs (by rw[aiT,hdl];omega)
    rw[aiT,hdl] at hS
    refine hS.mono ?_
    rintro e w' ⟨he,d',n,os,hp,hs,hw⟩
    have hp3:d'.toList.Perm d:=by
     have h:=hp.2.2
     have e1:d'.size=l.length:=hp.1.trans (by rw[aiT,hdl])
     have e2:d'.extract 0 l.length=d':=by rw[<- e1];simp
     have e3:d.toArray.extract 0 l.length=d.toArray:=by
      have:l.length=d.toArray.size:=by rw[aiT,hdl]
      rw[this];simp
     rw[e2,e3] at h
     simpa using h
    have hd'l:d'.size=l.length:=by rw[<- hdl, <- agW];exact hp3.length_eq
    have hr:r=d'.toList.map fun p=>p.1.1:=by
     rw[<- hm]
     refine (ZC hO hT ?_ ?_).symm
     ·rw[<- hd1];exact hp3.map _
     ·rw[aiO,aiN]
      intro i j hi hj hij
      have h:=hs i j (ajy _) hij (by rw[<- hd'l];simpa using hj)
      have hi':i<d'.size:=by simpa using hi
      have hj':j<d'.size:=by simpa using hj
      rw[getElem!_pos d' i hi',getElem!_pos d' j hj'] at h
      have h':decide (cf d'[j].1.1 d'[i].1.1<0)=false:=h
      rw[Array.getElem_toList,Array.getElem_toList,h']
      rfl
    have hrl:r.length=l.length:=by rw[hr,aio,agW,hd'l]
    have hF:(flatK (fun p:Pr G t ok=>p.1.2) t.size d').size=l.length*t.size:=by rw[size_flatK,hd'l]
    unfold sortWorldK putRowK at hw
    have hcz:l.length*t.size<=cur.size:=by rw[h3];exact ajr _ h1
    have hb':=Yb (n:=n) (os:=os) (flatK (fun p:Pr G t ok=>p.1.2) t.size d') hb
    have hold:=fun k hk hne=>Zr (n:=n) (os:=os) (w:=w) (g:=b0) (flatK (fun p:Pr G t ok=>p.1.2) t.size d') (k:=k) hk hne
    have hsz:w.heap.size<=(grow (putRow id (Sort.ahead w n) b0 0 (flatK (fun p:Pr G t ok=>p.1.2) t.size d')) os).heap.size:=by simp
    rw[<- hw] at hb' hold hsz
    refine⟨G,fun b=>if b=b0 then some (64*0) else none,[], ?_⟩
    exact {
     ret:=he
     le:=Gh.le_refl G
     agr:=fun b o hbo=>by
      have hwb:=hG b o hbo
      have hne:b≠b0:=fun e=>by rw[e,hgG] at hbo;cases hbo
      rw[hold b (dU hwb) hne];exact hwb
     size:=hsz
     os:=by rw[hw];rfl
     output:=by rw[hw];rfl
     old:=fun b hbs hob=>by
      have hne:b≠b0:=fun e=>by rw[e,hgOw] at hob;cases hob
      exact⟨hold b hbs hne,rfl⟩
     own:=fun b i hbi=>by
      by_cases e:b=b0
      ·subst e;exact⟨hgG,by omega,.inr (by rw[hgOw];simp)⟩
      ·simp only[e,ajX] at hbi;cases hbi
     out:=by
      refine⟨rfl,⟨_,rfl,⟨d'.toList.flatMap fun p=>p.1.2,⟨by rw[Rv hk,agW,hd'l,hrl],.inr ⟨b0,cap,_,by rw[hrl],ajy _,hb',by rw[hrl];exact h1,h2,by simp[putCells,h3], ?_⟩⟩,by rw[hr];exact Wg _⟩,fun b hbv=> ?_⟩,trivial⟩
      ·rw[hrl, <- hF,Vq _ _ (by rw[hF];exact hcz),S9 hk]
      ·have:some b0=some b:=hbv
       cases this
       show (if b0=b0 then some (64*0) else none)=_
       simp
     hnd:=fun _=>rfl }
 ·cases hm
theorem aeh {ρ:Ren} (L:SlLaysF0.n6 P ρ) {t:Ty} (aE:∀ w,(isAgg (ρ.t 24)).run P w= .ok true w) (zE:∀ w,(Go.sizeOf (ρ.t 24)).run P w= .ok t.size w) {e1:TypeId} {g:Nat} {ok:t.den->Bool} {cf:t.den->t.den->Int} (hO:SWO (ltOf cf)) (hc:Ua P g t ok cf) (eg:∀ args w,(callFunc g args).run P w= .ok (.enter g args) w): gU P (ρ.f 6) (KC e1 t g ok cf):=by
 intro G w ow args x y hG how ha hm _
 obtain⟨l,c,u⟩:=x
 obtain⟨r,u'⟩:=y
 obtain⟨s,us,a1,_,⟨⟨xs,hown,hrep⟩,hobl⟩,iv,us2,a2,_,hiv,a4⟩:=ha
 have e1:=a1 rfl
 have e2:=a2 rfl
 have e4:us2=[]:=a4
 obtain⟨caps,e5',e6⟩:=(show aN G (.clo g .unit) c [iv] from hiv)
 have e5:iv= .func (.func g) #[] caps.toArray:=(List.cons.inj e5').1
 have e7:caps=[]:=e6
 subst e1;subst e2;subst e4;subst e7;subst e5
 exact abq (l:=l) (r:=r) L aE zE hO hc eg hG how hown hrep hobl hm
end
end Go.Dn
namespace Go.Dn
open Go.Proofs Go.Shelf Go.Sort Go.RowKit Go.Lib
def AT (p:Two):List Value:=[.string (bs p.1),.string (bs p.2)]
theorem YI {G:Gh}:∀ l:List Two,cM (aN G FU) l (l.flatMap AT)
 | []=>rfl
 | x::r=>⟨AT x,r.flatMap AT,by rw[ah0],⟨[.string (bs x.1)],[.string (bs x.2)],rfl,rfl,rfl⟩,YI r⟩
theorem ac8 {cf:Two->Two->Int} (hO:SWO (ltOf cf)) {a b:List Two} (h:a.Perm b) (hp:∀ x,x∈a->∀ y,y∈a->¬ cf x y<0->¬ cf y x<0->x=y): (a.mergeSort fun x y=> !decide (cf y x<0))=(b.mergeSort fun x y=> !decide (cf y x<0)):=by
 have tr:∀ x y z:Two,(!decide (cf y x<0))=true->(!decide (cf z y<0))=true->(!decide (cf z x<0))=true:=fun x y z h1 h2=>by
  rw[ahb] at*
  exact hO.ntrans z y x h2 h1
 have to:∀ x y:Two,((!decide (cf y x<0))||(!decide (cf x y<0)))=true:=fun x y=>by
  cases h1:decide (cf y x<0) with
  | false=>rfl
  | true=>
   cases h2:decide (cf x y<0) with
   | false=>rfl
   | true=>
    have:=hO.trans x y x h2 h1
    rw[hO.irrefl] at this
    cases this
 refine ahE (le:=fun x y=>(!decide (cf y x<0))=true) (fun x y hx hy h1 h2=> ?_) (aiP tr to a) (aiP tr to b) (((aiK a _).trans h).trans (aiK b _).symm)
 have hx':=(aiK a _).mem_iff.1 hx
 have hy':=h.mem_iff.2 ((aiK b _).mem_iff.1 hy)
 rw[ahb,decide_eq_false_iff_not] at h1 h2
 exact hp x hx' y hy' h2 h1
theorem ac7 {P:Program} {f e cl:Nat} {cf:Two->Two->Int} (hsort:gU P f (KC e FU cl (fun _=>true) cf)) (hO:SWO (ltOf cf)) {G:Gh} {w w1:World} {v:Value} {vt:Ty} {l:List (Two×vt.den)} {ss:List Two} (hG:Agr G w) (hT:vT P G)
 (hb1:Below w.heap.size w w1) (hrow:w1.ownsRow w.heap.size e 2 v ss.length (ss.flatMap AT)) (hS:ss.Perm (l.map (·.1))) (hlen:l.length<=1000000)
 (hpart:((l.map (·.1)).all fun x=>(l.map (·.1)).all fun y=>decide (cf x y<0)||(decide (cf y x<0)||decide (x=y)))=true):
 Calls P f #[v,.func (.func cl) #[] #[]] w1 fun e' w'=>e'= .returned (xB [])/\∃ xs:List Value,w'.ownsRow w.heap.size e 2 v l.length xs/\cM (aN G FU) (sW cf l) xs/\
  w.heap.size<=w'.heap.size/\w'.os=w.os/\w'.output=w.output/\∀ b,b<w.heap.size->w'.heap[b]? =w.heap[b]? :=by
 have hlt:∀ b o',G b=some o'->b<w.heap.size:=fun b o' hb=>dU (hG b o' hb)
 have hG1:Agr G w1:=fun b o hb=>by rw[hb1.block b (hlt b o hb)];exact hG b o hb
 have hown:∀ b,v.ownBlock=some b->w.heap.size<=b/\b<w1.heap.size:=(qz hrow).2
 have hp:∀ x,x∈ss->∀ y,y∈ss->¬ cf x y<0->¬ cf y x<0->x=y:=fun x hx y hy h1 h2=>by
  have:=ahH.1 (ahH.1 hpart x (hS.mem_iff.1 hx)) y (hS.mem_iff.1 hy)
  simp only[ahf,ajS] at this
  rcases this with h | h | h
  ·exact absurd h h1
  ·exact absurd h h2
  ·exact h
 have hsl:ss.length=l.length:=by rw[hS.length_eq,aio]
 have hm:(KC e FU cl (fun _=>true) cf).m (ss,(),())=some (sW cf l,()):=by
  show OX _ cf ss=_
  unfold OX
  rw[ajZ ⟨fun _ _=>rfl,hp,by omega⟩,ac8 hO hS hp]
  rfl
 have hcall:=hsort G w1 (fun b=>if v.ownBlock=some b then some 0 else none) [v,.func (.func cl) #[] #[]] (ss,(),()) (sW cf l,()) hG1 (fun b i hb=>by
  split at hb
  ·rename_i hvb
   obtain⟨h1,h2⟩:=hown b hvb
   exact⟨by
    cases hq:G b with
    | none=>rfl
    | some o=>exact absurd (hlt b o hq) (Nat.not_lt.2 h1),h2⟩
  ·cases hb)
  ⟨v,[.func (.func cl) #[] #[]],fun _=>rfl,nofun,⟨⟨_,(qz hrow).1,YI ss⟩,fun b hb=>by dsimp only;rw[ajZ hb]⟩,.func (.func cl) #[] #[],[],fun _=>rfl,nofun,⟨[],rfl,rfl⟩,rfl⟩ hm hT
 refine hcall.mono ?_
 rintro e' w2 ⟨G',ow',vs,hg⟩
 obtain⟨hvs,⟨v',hv',⟨xs,hx1,hx2⟩,hx3⟩,_⟩:=hg.out
 cases hv'
 subst hvs
 have hk2:=Oq cf l
 refine⟨hg.ret,xs, ?_,hx2.mono (fun x cs hc=>aN.of_flat (fun i b hb=>by rw[hg.hnd rfl] at hb;exact hb) rfl hc),ajd hb1.size hg.size,hg.os.trans hb1.os,hg.output.trans hb1.output,fun b hb=> ?_⟩
 ·have hx1':w2.ownsRow 0 e 2 v (sW cf l).length xs:=hx1
  rw[hk2] at hx1'
  refine⟨hx1'.1, ?_⟩
  rcases hx1'.2 with hn | ⟨g,cap,cur,hv,_,rest⟩
  ·exact .inl hn
  ·exact .inr ⟨g,cap,cur,hv,(hown g (by rw[hv];rfl)).1,rest⟩
 ·have hne:(if v.ownBlock=some b then some 0 else none:Option Nat)=none:=by
   rw[ajY]
   intro hvb
   have:=(hown b hvb).1
   omega
  rw[(hg.old b (ajh hb hb1.size) hne).1]
  exact hb1.block b hb
end Go.Dn
namespace Go.Dn
end Go.Dn
namespace Go.Dn
open Go.Proofs Go.Shelf Go.Sort
section
variable {P:Program}
end
end Go.Dn
namespace Go.Dn
variable {X:Cx}
theorem BR:∀ {ps:List PM} {p i:Nat} {x:eL ps},nr ps p=true->(ig i ps x)[p]? =some (.v false [.ref (2000+(i+p)) 0])
 | [],_,_,_,h=>by simp[nr] at h
 | .box _::_,0,i,x,_=>by simp[ig]
 | .val _::r,n+1,i,x,h=>by
  have h':nr r n=true:=by simpa [nr,PM.arg] using h
  have:=BR (ps:=r) (p:=n) (i:=i+1) (x:=x.2) h'
  simp only[ig,ah5];rw[this];congr 4;omega
 | .row _ _::r,n+1,i,x,h=>by
  have h':nr r n=true:=by simpa [nr,PM.arg] using h
  have:=BR (ps:=r) (p:=n) (i:=i+1) (x:=x.2) h'
  simp only[ig,ah5];rw[this];congr 4;omega
 | .mrow _ _::r,n+1,i,x,h=>by
  have h':nr r n=true:=by simpa [nr,PM.arg] using h
  have:=BR (ps:=r) (p:=n) (i:=i+1) (x:=x.2) h'
  simp only[ig,ah5];rw[this];congr 4;omega
 | .map _ _::r,n+1,i,x,h=>by
  have h':nr r n=true:=by simpa [nr,PM.arg] using h
  have:=BR (ps:=r) (p:=n) (i:=i+1) (x:=x.2) h'
  simp only[ig,ah5];rw[this];congr 4;omega
 | .box _::r,n+1,i,x,h=>by
  have h':nr r n=true:=by simpa [nr,PM.arg] using h
  have:=BR (ps:=r) (p:=n) (i:=i+1) (x:=x.2) h'
  simp only[ig,ah5];rw[this];congr 4;omega
 | .ar _::r,n+1,i,x,h=>by simp[nr,PM.arg] at h
 | .arR _::r,n+1,i,x,h=>by simp[nr,PM.arg] at h
 | .val _::_,0,_,_,h=>by simp[nr] at h
 | .row _ _::_,0,_,_,h=>by simp[nr] at h
 | .mrow _ _::_,0,_,_,h=>by simp[nr] at h
 | .map _ _::_,0,_,_,h=>by simp[nr] at h
 | .ar _::_,0,_,_,h=>by simp[nr] at h
 | .arR _::_,0,_,_,h=>by simp[nr] at h
theorem afd (hX:cD X) (hmix:X.P.follows .mixedOrders=true) {f:FuncId} {fn:Func} (sp:ay) (p:Nat) (anns:List (Nat×Ann)) (hf:X.P.funcs[f]? =some fn) (h:∀ x y,sp.m x=some y->adC X anns fn sp p x=some y):Ge X.P f (.nest p sp):=by
 intro G w ow args x y bm v T hG how hargs hm hT hpv hbo hGb hbh
 have hN:=h x y hm
 unfold adC at hN
 split at hN
 ·cases hN
 ·rename_i hcond
  simp only[ahf,aj4,aha,ag9,Option.isSome_eq_false_iff,ajC] at hcond
  obtain⟨⟨⟨hdO,hdC⟩,hnp⟩,hni⟩:=hcond
  split at hN
  ·rename_i c hc
   obtain⟨vals,hvals,hpt,hst⟩:=pR hargs
   let pv:Nat->Value:=fun k=>match cE vals (.inr k) with | some v=>v | none=>(cE vals (.ob k)).getD undef
   let ρ:Env:=⟨fun k=>if k=iL then bm else match cE vals (.inl k) with | some v=>Gj v | none=>0,pv,fun b=>if b=bm then some (.inl iL) else (ow b).bind (mS (dz 0 sp.ps)),pv,fun k=>DB w (pv k)⟩
   have hA:∀ o v,(o,v)∈vals->Asg ρ w o v:=fun o v hm=>by
    have hl:=HB hvals hdO hm
    cases o with
    | inl k=>
     obtain⟨b,hb⟩:=hpt k v hm
     have hne:k≠iL:=fun e=>by
      obtain⟨n,hn⟩:=Ah hvals (o:= .inl k) (by rw[hl];simp)
      rw[e] at hn
      have:=qR hdO hn
      rw[hni] at this;cases this
     show v= .pointer (some ⟨if k=iL then bm else match cE vals (.inl k) with | some v=>Gj v | none=>0,0,none⟩)
     rw[ajY hne,hl,hb];rfl
    | inr j=>show (match cE vals (.inr j) with | some v=>v | none=>_)=v;rw[hl]
    | ob j=>
     intro b hb
     subst hb
     have hnr:cE vals (.inr j)=none:=by
      cases h1:cE vals (.inr j) with
      | none=>rfl
      | some v'=>
       obtain⟨n1,m1⟩:=Ah hvals (by rw[h1];simp)
       obtain⟨n2,m2⟩:=Ah hvals (o:= .ob j) (by rw[hl];simp)
       rcases zJ m1 with ⟨k,e⟩ | e | e
       ·cases e
       ·cases e
       ·rcases zJ m2 with ⟨k,e'⟩ | e' | e'
        ·cases e'
        ·cases e'
         rcases e with e | e
         ·have:bQ=nid pD 0 0+n1:=by simpa using e
          simp only[bQ,pD,nid] at this;omega
         ·cases e
        ·have h1:j=nid pD 0 0+n1:=by rcases e with e | e<;>cases e;rfl
         have h2:j=nid pD 0 0+n2:=by rcases e' with e' | e'<;>cases e';rfl
         have:n1=n2:=by omega
         subst this
         have:=Qq hdC m1 m2
         cases this
     have hpv:pv j= .map (some b):=by
      show (match cE vals (.inr j) with | some v=>v | none=>(cE vals (.ob j)).getD undef)=_
      rw[hnr,hl];rfl
     refine⟨hpv,fun es clock hw i e' hi=> ?_⟩
     show (e'.born:Int)=DB w (pv j) i
     rw[hpv]
     simp[DB,hw,hi]
   have hO:∀ o n,(o,n)∈dz 0 sp.ps->∀ b,ow b=some n->ρ.own b=some o:=fun o n hm b hb=>by
    show (if b=bm then some (.inl iL) else (ow b).bind (mS (dz 0 sp.ps)))=_
    rw[ajY (fun e=>by rw[e,hbo] at hb;cases hb),hb];exact Ab hdC hm
   obtain⟨hsv,hP,hpins⟩:=hst ρ hA hO
   let C:Fr X.P:=⟨w.heap.size,ρ.bx,pv,fun b=>ow b≠none\/b=bm,w,G,mz sp.ps=false,hT⟩
   have hlen:args.length=Ai sp.ps:=by rw[hsv.len,jI]
   have ebx:ρ.bx iL=bm:=by
    show (if iL=iL then bm else match cE vals (.inl iL) with | some v=>Gj v | none=>0)=bm
    rw[ajZ rfl]
   have eow:ρ.own bm=some (.inl iL):=by
    show (if bm=bm then some (bE.inl iL) else (ow bm).bind (mS (dz 0 sp.ps)))=_
    rw[ajZ rfl]
   have hbl:=dU hbh
   have hpl:p<args.length:=(aia.1 hpv).1
   have hM:Mod C G ρ (OE fn.ntmps p sp.ps x) w { tmps:=(args.set p (.pointer (some ⟨bm,0,none⟩))).toArray++Array.replicate (fn.ntmps - (args.set p (.pointer (some ⟨bm,0,none⟩))).toArray.size) undef,defers:=[] }:=by
    refine { agr:=hG,le0:=Gh.le_refl G,old:=fun _ _ _=>rfl,frame:=fun _ _ _=>rfl,size:=ajc _,os:=rfl,output:=rfl,pin:=fun _ _=>rfl,pinR:=fun _ _=>⟨rfl,rfl⟩,owned:= ?_,boxes:= ?_,rows:=hP.rw,objs:=hP.ob,hndI:= ?_,tmps:=⟨?_, ?_⟩,defers:=rfl }
    ·intro b o ho
     by_cases e:b=bm
     ·subst e;exact⟨hGb,hbl,.inr (.inr rfl)⟩
     cases hb:ow b with
     | none=>
      have ho':(if b=bm then some (.inl iL) else (ow b).bind (mS (dz 0 sp.ps)))=some o:=ho
      rw[ajY e,hb] at ho';cases ho'
     | some i=>exact⟨(how b i hb).1,(how b i hb).2,.inr (.inl (by rw[hb];simp))⟩
    ·intro k cs hk
     simp only[OE,aD] at hk
     split at hk
     ·rename_i ek
      subst ek
      cases hk
      refine⟨?_,[v],T, ?_,⟨v,[],rfl, ?_,rfl⟩⟩
      ·rw[ebx];exact eow
      ·rw[ebx];exact hbh
      ·obtain⟨u,hu,hud⟩:=hsv.get (BR (i:=0) (x:=x) hnp)
       rw[hpv] at hu
       cases hu
       have:v= .pointer (some ⟨ρ.bx (2000+(0+p)),0,none⟩):=hud
       show v= .pointer (some ⟨ρ.bx (2000+p),0,none⟩)
       rw[this,ajx]
     ·exact hP.bx k cs hk
    ·intro h1
     exact⟨rfl,fun t l=>td h1⟩
    ·simp[OE,jI,hlen]
    ·intro i s hi
     simp only[OE] at hi
     rw[aie] at hi
     rw[agO,Array.getElem?_append]
     split at hi
     ·rename_i e
      subst e
      split at hi
      ·cases hi
       rw[ajZ (by simpa using hpl)]
       show bK G ρ (.v false [.ref iL 0]) _
       show _=Value.pointer (some ⟨ρ.bx iL,0,none⟩)
       rw[ebx]
       simp[hpl]
      ·cases hi
     ·rename_i hne
      rw[ah2] at hi
      split at hi
      ·rename_i hlt
       obtain⟨u,hu,hsv'⟩:=hsv.get hi
       rw[jI] at hlt
       rw[ajZ (by simpa [hlen] using hlt)]
       simpa [hu,aie,hne] using hsv'
      ·rw[aid] at hi
       split at hi
       ·cases hi;exact trivial
       ·cases hi
   refine calls_of_wp hf hc (NY (C:=C) hX hmix anns c hN (fun e S' G' ρ' w' a' hk hM'=> ?_) hM)
   have key:RE X fn sp p S'=some y->a'.defers=[]/\∃ v',(results fn a'.tmps).run X.P w'= .ok v' w'/\∃ w1 G' ow' vs T',w1.os=w'.os/\w1.output=w'.output/\w1.heap.size=w'.heap.size/\(∀ b,b≠bm->w1.heap[b]? =w'.heap[b]?)/\w'.heap[bm]? =some (.cells #[v] T' (0,0))/\R5 G w ow sp args y (.returned v') w1 G' ow' vs:=by
    intro hk
    refine⟨hM'.defers, ?_⟩
    unfold RE at hk
    split at hk
    ·rename_i l hl
     simp only at hk
     split at hk
     ·cases hk
     ·rename_i hd
      simp only[ahf,aj4,aha,ag9,Option.isSome_eq_false_iff,ajC] at hd
      obtain⟨us,hr,hus⟩:=Mg hM' hl
      generalize hjs:FO (GM sp.rs l)++(PE S' sp.rs l++PC S' 0 sp.ps)=js at hk hd
      obtain⟨G2,ρ2,hfz,hM2⟩:=hM'.freeze js
      generalize hV:aX S' js=V at hk hd hM2
      generalize how':oN V 0 sp.rs l++nD V 0 sp.ps=owl at hk hd
      obtain⟨⟨hd',hnl⟩,hnb⟩:=hd
      have hus2:aR (bK G2 ρ2) l us:=hus.mono fun s v hs=>bK.congr hfz.le (oz.same hfz.bx hfz.rw hfz.ob hfz.st) hs
      have hpins2:iy ρ2 0 sp.ps args:=hpins.congr (fun k hk=>hM2.pin k hk) (fun k hk=>hM2.pinR k hk)
      have hbx:look V.boxes iL=some [.ref (2000+p) 0]:=by
       unfold acI at hnb
       split at hnb
       ·rename_i k o hb
        simp only[ag1] at hnb
        rw[hb,ai8 hnb.1,ai8 hnb.2]
       ·cases hnb
      have ebm:ρ2.bx iL=bm:=(hM2.pin iL (by decide)).trans ebx
      obtain⟨hob,bvs,T',hbh',hbv⟩:=hM2.boxes iL _ hbx
      obtain⟨v2,e2,hv2⟩:=hbv.single
      subst e2
      rw[ebm] at hob hbh'
      have ev2:v2=v:=by
       have h1:v2= .pointer (some ⟨ρ2.bx (2000+p),0,none⟩):=hv2
       obtain⟨u,hu,hud⟩:=hsv.get (BR (i:=0) (x:=x) hnp)
       rw[hpv] at hu
       cases hu
       have h2:v= .pointer (some ⟨ρ.bx (2000+(0+p)),0,none⟩):=hud
       rw[h1,h2,ajx,hM2.pin (2000+p) (by omega)]
      subst ev2
      let w1:World:={ w' with heap:=w'.heap.setIfInBounds bm (.cells #[v2] T (0,0)) }
      have hbl':=dU hbh'
      have h1o:∀ b,b≠bm->w1.heap[b]? =w'.heap[b]? :=fun b hb=>by
       show (w'.heap.setIfInBounds bm _)[b]? =_
       rw[agT (Ne.symm hb)]
      have h1b:w1.heap[bm]? =some (.cells #[v2] T (0,0)):=by
       show (w'.heap.setIfInBounds bm _)[bm]? =_
       rw[agU hbl']
      have hM3:=(hM2.TU (w':=w1) (k:=iL) (cs:=[.ref (2000+p) 0]) (vs:=[v2]) (T:=T) ⟨_,hbx⟩ ⟨rfl,rfl,by simp[w1],fun b _ hne=>h1o b (fun e=>hne (by rw[e,ebm]))⟩ (by rw[ebm];exact h1b) ⟨v2,[],rfl,hv2,rfl⟩).ZQ hbx
      have hGbm:G2 bm=none:=(hM2.owned _ _ hob).1
      refine⟨_,QL hr,w1,G2,fe ρ2 owl,us,T',rfl,rfl,by simp[w1],h1o,hbh',rfl,hM3.le0,hM3.agr,hM3.size,hM3.os,hM3.output,fun b hb ho=> ?_,fun b i hb=> ?_, ?_,fun h1=>(hM3.hndI h1).1⟩
      ·by_cases e:b=bm
       ·subst e;exact⟨h1b.trans hbh.symm,hGbm.trans hGb.symm⟩
       ·exact⟨hM3.frame b hb (fun h=>h.elim (fun h=>h ho) e),hM3.old b hb (fun h=>h.elim (fun h=>h ho) e)⟩
      ·unfold fe at hb
       cases ho:ρ2.own b with
       | none=>rw[ho] at hb;cases hb
       | some o=>
        obtain⟨q1,q2,q3⟩:=hM3.owned b o ho
        refine⟨q1,q2,q3.imp id fun q=> ?_⟩
        rcases q with q | q
        ·exact q
        ·subst q
         rw[hob] at ho
         cases ho
         rw[hob] at hb
         simp only[ajA] at hb
         rw[hnl] at hb;cases hb
      ·refine TF hM3.toMem (fun y' hy'=>s9 hM3.toMem hy' (fun z hz=>qR hd' (by rw[<- how'];simp[hz])) hpins2) sp.rs 0 (fun z hz=>qR hd' (by rw[<- how'];simp[hz])) hk hus2
    ·cases hk
   cases e with
   | normal=>exact key hk
   | ret=>exact key hk
   | exit id=>cases hk
  ·cases hN
end Go.Dn
namespace Go.Dn
open Go.Lib Go.Proofs
theorem afw {P:Program} {W:World} {rest:List (String×DataW Unit)} {g:Nat} {t e:TypeId} (hg:P.globalNamed "internal/strconv.uint64pow10" =some g) (hty:(P.globals[g]?).map (·.type)=some t) (ht:P.underlying t=some (.array 20 e)) (he:P.underlying e=some (.int .u64)) (hce:P.cellsOf e=1) (hct:P.cellsOf t=20) (h:laidMet P (("internal/strconv.uint64pow10",tabData .u64 HH)::rest) W): ∀ g,P.globalNamed "internal/strconv.uint64pow10" =some g->∃ T fz,Gw W g=some (.cells (HH.map fun z=>Value.int .u64 z).toArray T fz):=by
 intro g' hg'
 have:=tabIs_of_head hg hty ht he hce hct h
 unfold TabIs World.var? at this
 rw[hg',ajA] at this
 show ∃ T fz,W.heap[g']? =_
 split at this
 ·rename_i cs T fz hh
  cases this
  exact⟨T,fz,hh⟩
 ·cases this
theorem afv {P:Program} {W:World} {g:Nat} {t:TypeId} {zero:Array Value} (h:W.ShapedOpen P) (hg:P.globalNamed "internal/bytealg.MaxLen" =some g) (hlt:g<P.globals.size) (h0:((begin P (fun _ _=>0) default).world.heap[g]?).bind Obj.row? =some (zero,t)) (hz:zero.size=1) (hb:P.buildable t=true) (hc:P.cellTypes P.depth t=some [t]) (hu:P.underlying t=some (.int .i64)): ∀ g,P.globalNamed "internal/bytealg.MaxLen" =some g->∃ n T fz,Gw W g=some (.cells #[Value.int .i64 n] T fz):=by
 intro g' hg'
 obtain rfl:g=g':=Option.some.inj (hg.symm.trans hg')
 obtain⟨m,hm⟩:=cell_of_shapedOpen_int h hlt h0 hz hb hc hu
 obtain⟨cs,hh,hs,_⟩:=h.1 g zero t hlt h0
 have h1:cs.size=1:=by omega
 refine⟨m,t,(0,0), ?_⟩
 show W.heap[g]? =_
 rw[hh]
 have:cs= #[cs[0]]:=by
  apply Array.ext
  ·simpa using h1
  ·intro i h2 h3
   have:i=0:=by omega
   subst this
   rfl
 have hcell:W.cell? ⟨g,0,none⟩=some cs[0]:=by simp[World.cell?,hh,h1]
 rw[hm] at hcell
 rw[this, <- Option.some.inj hcell]
end Go.Dn
