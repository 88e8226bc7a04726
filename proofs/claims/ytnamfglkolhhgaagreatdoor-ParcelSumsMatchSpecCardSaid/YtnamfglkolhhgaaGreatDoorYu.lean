/-
  Plain facts: masses and weights. No condition.
-/
import Derived.Test.YtnamfglkolhhgaaGreatDoorYt
import Derived.Test.YtnamfglkolhhgaaGreatDoorYn
import Derived.Test.YtnamfglkolhhgaaGreatDoorYr
import Derived.Test.YtnamfglkolhhgaaGreatDoorYq
set_option linter.all false
namespace Go.Md
open Go.Dn
end Go.Md
namespace Go.Md
open Go.Dn
structure QOk (d:ak):Prop where
 dec:cD d
 pl:d.2≤3
theorem Wq {d:ak} {z:Bool} (h:qOk d z=true):QOk d:=by
 unfold qOk at h
 rw[ZN] at h
 have h1:=h.1
 unfold inR at h1
 rw[acy] at h1
 exact⟨h1.1,h1.2.1⟩
structure Zi (p:ah):Prop where
 t:QOk p.2.2.1
 n:p.2.2.2.length≤100
 c:∀ c∈p.2.2.2,QOk c.2.2.2
end Go.Md
namespace Go.Md
open Go.Dn
def pick (l:List ah) (L:List Nat):List ah:=L.filterMap fun i=>l[i]?
theorem Jr (z:Int) (hz:Le 300 z):AU (N z)=some (if (few 9 z).1.natAbs≤1000000000000000 then (((few 9 z).1,((few 9 z).2:Int)),0,()) else ((0,0),1,())):=by
 unfold AU
 have loop:∀ (p f:Nat) (y:Int),p<f→p≤9→Le 300 y→iter f (((p:Int),(N y).1,(N y).2,(0:Int),(0:Int),()):xF) oU=some (Sum.inr (((few p y).2:Int),(N (few p y).1).1,(N (few p y).1).2,0,0,())):=by
  intro p
  induction p with
  | zero=>
   intro f y hf _ hy
   obtain⟨f,rfl⟩:∃ g,f=g+1:=⟨f - 1,by omega⟩
   rfl
  | succ p ih=>
   intro f y hf hp hy
   obtain⟨f,rfl⟩:∃ g,f=g+1:=⟨f - 1,by omega⟩
   show oU _ (fun y=>iter f y oU)=_
   generalize hag:(fun y=>iter f y oU)=again
   unfold oU
   dsimp only
   have e0:(false,(N y).2)=N (y.natAbs:Int):=by rw[Ul];rfl
   have h10:Le 2 ((10:Nat):Int):=by unfold Le;decide
   rw[aC (by omega),nR 10 (by omega) (by omega),ace]
   dsimp only
   rw[e0,show (N 10)=N ((10:Nat):Int) from rfl,R7 y.natAbs 10 (by omega) ((Le.nat (k:=300) hy).mono (by omega)) (h10.mono (by omega)),ace]
   dsimp only
   rw[vu,ace]
   dsimp only
   by_cases hm:y % 10=0
   ·have hd:y.natAbs % 10=0:=by omega
    rw[hd,show ((Int.sign ((0:Nat):Int)) != 0)=false from rfl,acq]
    have hf':few (p+1) y=few p (y / 10):=by rw[few,acF hm]
    rw[hf']
    have hyd:Le 300 (y / 10):=by unfold Le at *;omega
    have hih:=ih f (y / 10) (by omega) (by omega) hyd
    have e2:(N ((y.natAbs / 10:Nat):Int)).2=(N (y / 10)).2:=by
     show dg6 _=dg6 _
     congr 1;omega
    rw[aA (by omega) (by omega),show ((p+1:Nat):Int) - 1=(p:Int) by omega,e2]
    by_cases hn:y<0
    ·rw[show (N y).1=true from acw hn,acr,vu,ace]
     dsimp only
     have e3:((Int.sign ((y.natAbs / 10:Nat):Int)) != 0)=(N (y / 10)).1:=by
      show _=decide (y / 10<0)
      rw[acw (by omega)]
      rw[aac (by omega)];rfl
     rw[e3, ← hag]
     exact hih
    ·rw[show (N y).1=false from acu hn,acq]
     have e3:(N (y / 10)).1=false:=acu (by omega)
     rw[← hag]
     rw[e3] at hih
     exact hih
   ·have hd:¬ y.natAbs % 10=0:=by omega
    have hs:((Int.sign ((y.natAbs % 10:Nat):Int)) != 0)=true:=by
     rw[aac (by omega)];rfl
    rw[hs,acr]
    have hf':few (p+1) y=(y,p+1):=by rw[few,acE hm]
    rw[hf']
 have h9:=loop 9 (Int.natAbs (9:Int)+(List.length (N z).2+(Int.natAbs (0:Int)+(Int.natAbs (0:Int)+2)))) z (by omega) (by omega) hz
 rw[show ((9:Nat):Int)=9 from rfl] at h9
 rw[h9,aV]
 dsimp only
 have hfz:Le 300 (few 9 z).1:=abQ (TP 9 z).2.2 hz
 rw[show ((N (few 9 z).1).1,(N (few 9 z).1).2)=N (few 9 z).1 from rfl,TB _ _ (by omega) (by omega) (hfz.mono (by omega)),ace]
 by_cases h:((few 9 z).1.natAbs:Int)≤1000000000000000
 ·rw[acF h,acF (by omega)];rfl
 ·rw[acE h,acE (by omega)];rfl
end Go.Md
namespace Go.Md
open Go.Dn
def mV (B:Nat→Bool) (n:Nat):List Nat:=(List.range n).filter B
theorem Se (B:Nat→Bool) (n:Nat):(mV B n).length≤n:=by
 unfold mV
 exact abQ (List.length_filter_le _ _) (by simp)
theorem Yg {B:Nat→Bool} {n x:Nat} (h:x∈mV B n):x<n:=by
 unfold mV at h
 exact abi.1 (List.mem_filter.1 h).1
theorem OQ (B:Nat→Bool) (n:Nat):mV B (n+1)=if B n=true then mV B n++[n] else mV B n:=by
 unfold mV
 rw[List.range_succ,aaz]
 by_cases h:B n=true
 ·rw[acF h];simp[h]
 ·rw[acE h];simp[h]
theorem LM (a:aS) (hf:FV a) (h:eH a=0) (t:List UInt8):jc a t true=some (if t=[]∨(dh (·.1) t a.2.2.2).isSome=true then 0 else 9,()):=by
 unfold jc
 rw[mO a hf,ace]
 dsimp only
 have hok:=p8 h
 have:=hok.len
 obtain⟨q,h1,h2⟩:=qu a t (by omega) hok.asc
 rw[h,show ((0:Int) != 0)=false from rfl,acq,h1,ace]
 dsimp only
 cases (dh (fun x:ah=>x.1) t a.2.2.2).isSome with
 | true=>simp
 | false=>cases t<;>simp
theorem Qo {a:aS} (h:Kz a) {i T:Nat} (hi:i<a.2.2.2.length) {t:List UInt8} (ht:t≠[]) (hT:dh (·.1) t a.2.2.2=some T):gM a (i:Int) t=some (decide (T∈i::eL a.2.2.2 i),()):=by
 unfold gM
 have hy:a.2.2.2[i]? =some a.2.2.2[i]:=aF hi
 have hlab:=V6 h.asc hT hi
 rw[Nj hy] at hlab
 rw[show (t==[])=false by cases t<;>simp_all,acq,bD,hy,ace,Hv h hi hT,ace]
 by_cases e:a.2.2.2[i].1=t
 ·have:=hlab.1 e
  subst this
  rw[show (a.2.2.2[i].1==t)=true by simpa using e,acr]
  simp
 ·have hne:¬ i=T:=fun h=>e (hlab.2 h)
  rw[show (a.2.2.2[i].1==t)=false by simpa using e,acq]
  have hne':¬ T=i:=fun h=>hne h.symm
  simp[hne']
theorem NM (l:List ah) (hl:l.length≤500) (h1:BP l) (hn:ou l):nQ l []=some (cI (mV (fun _=>true) l.length),()):=by
 unfold nQ
 have loop:∀ f,l.length<f→iter f ((l,([]:List UInt8),([]:List Int),(l.length:Int),(0:Int),()):iQ) iP=some (Sum.inr (cI (mV (fun _=>true) l.length),())):=by
  intro f hf
  refine bI (Inv:=fun i X=>X=((l,([]:List UInt8),cI (mV (fun _=>true) i),(l.length:Int),(i:Int),()):iQ)) l.length (fun r=>r=some (Sum.inr (cI (mV (fun _=>true) l.length),()))) ?_ ?_ f 0 _ rfl (by omega) (by omega)
  ·rintro i _ again hi rfl ih
   unfold iP
   dsimp only
   have hil:=Se (fun _=>true) i
   rw[aC (by omega),HA l hl h1 hn i hi,ace,show (([]:List UInt8)==[])=true from rfl,acr,aA (by omega) (by omega),aY (iE (by rw[fH];omega) (by rw[fH];omega))]
   refine ih _ ?_
   rw[OQ,acF rfl]
   simp[cI]
  ·rintro _ again rfl
   unfold iP
   dsimp only
   rw[aH (by omega)]
 rw[loop _ (by omega),aV]
theorem Jb {l:List ai} (h:iV l=0):l.length≤100∧∀ c∈l,QOk c.2.2.2:=by
 unfold iV at h
 split at h
 ·omega
 rename_i h1
 refine⟨by omega,fun c hc=> ?_⟩
 obtain⟨i,hi⟩:=abd.1 hc
 have:=gT h i c hi
 unfold BT at this
 split at this
 ·omega
 split at this
 ·omega
 split at this
 ·omega
 split at this
 ·omega
 split at this
 ·rename_i hq;exact Wq hq
 ·omega
theorem X8 {a:aS} (h:eH a=0):∀ p∈a.2.2.2,Zi p:=by
 unfold eH at h
 split at h
 ·omega
 split at h
 ·omega
 split at h
 ·omega
 split at h
 ·omega
 split at h
 ·omega
 have h3:cr (jY a.2.2.2) 0 a.2.2.2=0:=by omega
 intro p hp
 obtain⟨i,hi⟩:=abd.1 hp
 have:=gT h3 i p hi
 unfold jY at this
 split at this
 ·omega
 split at this
 ·omega
 split at this
 ·omega
 rename_i hq
 have hc:=Jb this
 exact⟨Wq (z:=true) (by simpa using hq),hc.1,hc.2⟩
def p9 (l:List ah) (t:List UInt8) (i:Nat):Bool:=if t=[] then true else match dh (·.1) t l with
 | some T=>decide (T∈i::eL l i)
 | none=>false
end Go.Md
set_option linter.all false
namespace Go.Md.SI
open Go.Dn Go.Md
section
variable {k:Int→Int} {ar:List rW} {ok:Int→Prop}
end
end Go.Md.SI
set_option linter.all false
namespace Go.Md.SP
open Go.Dn Go.Md
structure tu (k:Int→Int) (l l':List Int):Prop where
 perm:l.Perm l'
section
variable {k:Int→Int} {ar:List rW} {ok:Int→Prop}
end
end Go.Md.SP
namespace Go.Md
open Go.Dn
def v9 (d:ak):Int:=d.1*10 ^ ((9:Int) - d.2).toNat
theorem XI {d:ak} (h:cD d):Le 24 (v9 d):=(Le.dec h).mul ((Le.pow (9 - d.2).toNat).mono (show (9 - d.2).toNat≤9 by have:=h.2;omega))
def opn (y:rW):ak:=y.2.2.2.2.2.2.2.2.2
end Go.Md
namespace Go.Md
open Go.Dn
end Go.Md
namespace Go.Md
open Go.Dn
def Low (os os':List Int):Prop:=os'.length=os.length∧∀ (i:Nat) (x y:Int),os[i]? =some x→os'[i]? =some y→0≤y∧y≤x
theorem Low.trans {a b c:List Int} (h:Low a b) (g:Low b c):Low a c:=by
 refine⟨g.1.trans h.1,fun i x y hx hy=> ?_⟩
 have hi:i<b.length:=by have:=(aaL.1 hx).1;have:=h.1;omega
 have hb:b[i]? =some b[i]:=aF hi
 have h1:=h.2 i x _ hx hb
 have h2:=g.2 i _ y hb hy
 omega
theorem Low.refl {a:List Int} (h:∀ x∈a,0≤x):Low a a:=by
 refine⟨rfl,fun i x y hx hy=> ?_⟩
 rw[hx] at hy;cases hy
 exact⟨h _ (abf hx),Z2 _⟩
theorem Low.set {a:List Int} (h:∀ x∈a,0≤x) {k:Nat} {x z:Int} (hk:a[k]? =some x) (hz:0≤z) (hz':z≤x):Low a (a.set k z):=by
 refine⟨by simp,fun i u v hu hv=> ?_⟩
 by_cases e:k=i
 ·subst e
  rw[hk] at hu;cases hu
  rw[aaR (aaL.1 hk).1] at hv
  cases hv;exact⟨hz,hz'⟩
 ·rw[aaQ e,hu] at hv
  cases hv;exact⟨h _ (abf hu),Z2 _⟩
theorem Low.le {k:Nat} {a b:List Int} (h:Low a b) (ha:∀ x∈a,Le k x):∀ x∈b,Le k x:=by
 intro x hx
 obtain⟨i,hi⟩:=abd.1 hx
 have hlt:i<a.length:=by have:=(aaL.1 hi).1;have:=h.1;omega
 have h1:=h.2 i _ x (aF hlt) hi
 have h2:=ha _ (aaV hlt)
 unfold Le at*
 omega
end Go.Md
namespace Go.Md
open Go.Dn
end Go.Md
namespace Go.Md
open Go.Dn
def Xq:List DR→Int
 | []=>0
 | x::r=>v9 x.2.2+Xq r
def tc (z:Int):ak:=((few 9 z).1,((few 9 z).2:Int))
theorem DB {z:Int} (hz:Le 42 z):sj (W z)=some (if (few 9 z).1.natAbs≤1000000000000000 then (tc z,0,()) else ((0,0),1,())):=by
 unfold sj
 rw[show (9:Int)=((9:Nat):Int) from rfl,JD z (hz.w (by omega)) 9 (by omega),ace]
 split<;>rfl
end Go.Md
namespace Go.Md
open Go.Dn
end Go.Md
namespace Go.Md
open Go.Dn
def Y0:List DS→Int
 | []=>0
 | x::r=>v9 x.2.1+Y0 r
def Yr (lines:List rW) (x:DS):Prop:=cD x.2.1∧∃ s∈lines,s.1=x.1∧v9 x.2.1≤v9 (opn s)
end Go.Md
namespace Go.Md
open Go.Dn
structure Zq (items:List DR) (lines:List rW) (out:List DS) (left:List DR):Prop where
 ilen:items.length≤100
 iok:∀ y∈items,cD y.2.2
 llen:lines.length≤500
 lok:∀ y∈lines,cD (opn y)
 olen:out.length≤500
 ook:∀ x∈out,Yr lines x
 rlen:left.length≤100
 rok:∀ y∈left,cD y.2.2
 sum:Xq items=Xq left+Y0 out
theorem Hw {d:ak} (h:cD d):qy d=some (N (v9 d),()):=by
 unfold qy
 rw[Wu d 9 h h.2.2 (by omega)]
 rfl
end Go.Md
