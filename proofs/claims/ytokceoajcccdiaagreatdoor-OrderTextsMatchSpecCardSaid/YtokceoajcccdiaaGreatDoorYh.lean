/-
  Plain facts: numbers, decimals, deeds, as both sides write them; what is written is read as it was; the plain law is true of all data. No condition.
-/
import Derived.Test.YtokceoajcccdiaaGreatDoorYt
import Derived.Lib.ItoaNum
import Derived.Lib.Join
import Derived.Test.YtokceoajcccdiaaGreatDoorYu
import Derived.Test.YtokceoajcccdiaaGreatDoorYg
import Derived.Test.YtokceoajcccdiaaGreatDoorYp
import Derived.Test.YtokceoajcccdiaaGreatDoorYs
set_option linter.all false
namespace Go.Md
open Go.Dn
theorem vC (n:Nat):Lib.decDigits n≠[]:=by
 rw[Lib.decDigits]
 split<;>simp
theorem Dk {d:Nat} (h:d<10):(UInt8.ofNat (48+d)).toNat=48+d:=by
 rw[UInt8.toNat_ofNat'];omega
theorem FQ {d:Nat} (h:d<10):bw (UInt8.ofNat (48+d))=true:=by
 rw[lC,Dk h];omega
theorem rZ (n:Nat):(Lib.decDigits n).all bw=true:=by
 induction n using Nat.strongRecOn with
 | _ n ih=>
  rw[Lib.decDigits]
  split
  ·rename_i h;simp only[TX,List.all_nil,Tv];exact FQ h
  ·rename_i h
   rw[TW,ih (n / 10) (by omega)]
   simp only[TX,List.all_nil,Tv,TJ]
   exact FQ (Nat.mod_lt _ (by omega))
theorem yy (n:Nat):bT (Lib.decDigits n)=n:=by
 induction n using Nat.strongRecOn with
 | _ n ih=>
  rw[Lib.decDigits]
  split
  ·rename_i h
   show bT ([]++[UInt8.ofNat (48+n)])=n
   rw[tH,Dk h];simp[bT]
  ·rename_i h
   rw[tH,ih (n / 10) (by omega),Dk (Nat.mod_lt _ (by omega))]
   omega
theorem gS {n k:Nat} (h:n<10 ^ (k+1)):(Lib.decDigits n).length<=k+1:=by
 rw[Lib.decDigits_length]
 induction k generalizing n with
 | zero=>rw[Lib.nDigits_small (by simpa using h)];exact Vu _
 | succ k ih=>
  by_cases h10:n<10
  ·rw[Lib.nDigits_small h10];omega
  ·rw[Lib.nDigits_big h10]
   have:=ih (n:=n / 10) (by rw[VG] at h;omega)
   omega
theorem KZ {l:List UInt8} (h:l≠[]) (m:List UInt8):(l++m).head? =l.head? :=by
 cases l with
 | nil=>exact absurd rfl h
 | cons _ _=>rfl
theorem Hy (n:Nat) (h:0<n):(Lib.decDigits n).head? ≠some 48:=by
 induction n using Nat.strongRecOn with
 | _ n ih=>
  rw[Lib.decDigits]
  split
  ·rename_i h10
   simp only[UD,ne_eq,Option.some.injEq]
   intro e
   have:=congrArg UInt8.toNat e
   rw[Dk h10] at this
   have e48:(48:UInt8).toNat=48:=rfl
   omega
  ·rename_i h10
   rw[KZ (vC _)]
   exact ih (n / 10) (by omega) (by omega)
theorem yx:Lib.decDigits 0=[48]:=by rw[Lib.decDigits];rfl
theorem yw (n:Nat):(decide (1<(Lib.decDigits n).length)&&(Lib.decDigits n).head? ==some 48)=false:=by
 rcases Vr n with rfl | h
 ·rw[yx];rfl
 ·have:=Hy n h
  rw[Tq]
  exact .inr (VS.2 this)
theorem AE (n:Nat) (c:UInt8) (h:bw c=false):c∉Lib.decDigits n:=fun hc=>by
 have:=TZ.1 (rZ n) c hc
 rw[h] at this;cases this
theorem Gd {n:Nat} (h:n<10 ^ 16):av (Lib.decDigits n)=true:=by
 unfold av
 have h1:(Lib.decDigits n==[])=false:=VS.2 (vC n)
 have h2:(Lib.decDigits n).length<=16:=gS (k:=15) (by omega)
 rw[h1,VZ h2,yw n,rZ n];rfl
theorem PC {n:Nat} (h:n<10 ^ 16):bX (Lib.decDigits n)=(n:Int):=by
 unfold bX
 rw[Gd h,VW,yy]
theorem AT (c:UInt8):∀ w:List UInt8,c∉w->aA c w=[w]
 | [],_=>rfl
 | b::r,h=>by
  have hb:(b==c)=false:=VS.2 fun e=>h (by simp[e])
  simp only[aA,hb,VV]
  rw[AT c r (fun hc=>h (by simp[hc]))]
theorem CP (c:UInt8):∀ (w t:List UInt8),c∉w->aA c (w++c::t)=w::aA c t
 | [],t,_=>by simp[aA]
 | b::r,t,h=>by
  have hb:(b==c)=false:=VS.2 fun e=>h (by simp[e])
  simp only[T7,aA,hb,VV]
  rw[CP c r t (fun hc=>h (by simp[hc]))]
theorem zR (c:UInt8) (w v:List UInt8) (r:List (List UInt8)):Lib.join (w::v::r) [c]=w++c::Lib.join (v::r) [c]:=by
 simp[Lib.join,List.intercalate,List.intersperse]
theorem AS (c:UInt8):∀ l:List (List UInt8),l≠[]->(∀ w,w∈l->c∉w)->aA c (Lib.join l [c])=l
 | [],h,_=>absurd rfl h
 | [w],_,h=>by
  rw[Lib.join_one];exact AT c w (h w (by simp))
 | w::v::r,_,h=>by
  rw[zR,CP c w _ (h w (by simp)),AS c (v::r) (by simp) (fun x hx=>h x (by simp[hx]))]
theorem Lf {c d:UInt8}:∀ {l:List (List UInt8)},d∈Lib.join l [c]->d=c\/∃ w,w∈l/\d∈w
 | [],h=>by simp[Lib.join_nil] at h
 | [w],h=>by rw[Lib.join_one] at h;exact .inr ⟨w,by simp,h⟩
 | w::v::r,h=>by
  rw[zR] at h
  simp only[UT,UX] at h
  rcases h with h | h | h
  ·exact .inr ⟨w,by simp,h⟩
  ·exact .inl h
  ·rcases Lf h with h | ⟨x,hx,hd⟩
   ·exact .inl h
   ·exact .inr ⟨x,UY _ hx,hd⟩
theorem K2 (c:UInt8):∀ l:List (List UInt8),(Lib.join l [c]).length<=(l.map fun w=>w.length+1).sum
 | []=>by simp[Lib.join_nil]
 | [w]=>by rw[Lib.join_one];simp
 | w::v::r=>by
  rw[zR]
  have:=K2 c (v::r)
  simp only[UR,List.sum_cons,UG,UH] at this ⊢
  omega
end Go.Md
namespace Go.Md
open Go.Dn
def bC (n p:Nat):List UInt8:=List.replicate (p+1 - (Lib.decDigits n).length) 48++Lib.decDigits n
def jB (n p:Nat):List UInt8:=bif p==0 then bC n p else (bC n p).take ((bC n p).length - p)++46::(bC n p).drop ((bC n p).length - p)
def di (d:ah):List UInt8:=(bif decide (d.1<0) then [45] else [])++jB d.1.natAbs d.2.toNat
theorem qw (n p:Nat):(bC n p).all bw=true:=by
 unfold bC
 rw[TW,rZ,Tv,TZ]
 intro c hc
 rw[List.eq_of_mem_replicate hc];rfl
theorem NI (k:Nat) (s:List UInt8):bT (List.replicate k 48++s)=bT s:=by
 unfold bT
 rw[Uj]
 congr 1
 induction k with
 | zero=>rfl
 | succ k ih=>rw[Va,Uk];exact ih
theorem O0 (n p:Nat):bT (bC n p)=n:=by
 unfold bC;rw[NI,yy]
theorem Af (n p:Nat):(bC n p).length=max (p+1) (Lib.decDigits n).length:=by
 unfold bC;rw[UG,UN];omega
theorem mB (n p:Nat):p<(bC n p).length:=by rw[Af];omega
theorem Kg {s:List UInt8} (h:s.all bw=true) (k:Nat):(s.take k).all bw=true:=by
 rw[TZ] at h ⊢
 exact fun c hc=>h c (U4 hc)
theorem Qm {s:List UInt8} (h:s.all bw=true) (k:Nat):(s.drop k).all bw=true:=by
 rw[TZ] at h ⊢
 exact fun c hc=>h c (List.mem_of_mem_drop hc)
theorem Eb {s:List UInt8} (h:s.all bw=true) {c:UInt8} (hc:bw c=false):c∉s:=fun hm=>by
 have:=TZ.1 h c hm
 rw[hc] at this;cases this
theorem Bn (n p:Nat):kT ((bC n p).take ((bC n p).length - p))=true:=by
 have hl:((bC n p).take ((bC n p).length - p)).length=(bC n p).length - p:=by rw[UP];omega
 have hne:(bC n p).take ((bC n p).length - p)≠[]:=fun e=>by
  have:=congrArg List.length e
  rw[hl] at this
  have:=mB n p
  simp at *;omega
 have hform:(decide (1<((bC n p).take ((bC n p).length - p)).length)&&((bC n p).take ((bC n p).length - p)).head? ==some 48)=false:=by
  by_cases h:p+1<(Lib.decDigits n).length
  ·have e:bC n p=Lib.decDigits n:=by
    unfold bC;rw[show p+1 - (Lib.decDigits n).length=0 by omega];rfl
   rw[e]
   have hf:=yw n
   rw[VZ (by omega),TJ] at hf
   rw[Tq]
   right
   rw[List.head?_take,V6 (by omega)]
   exact hf
  ·rw[Tq]
   left
   rw[hl,Af]
   exact VY (by omega)
 unfold kT
 rw[VZ hne,Kg (qw n p),hform];rfl
theorem Bp (n p:Nat):dM 46 (jB n p)=((bC n p).take ((bC n p).length - p),(bC n p).drop ((bC n p).length - p), !(p==0)):=by
 unfold jB
 cases hp:(p==0) with
 | true=>
  have:p=0:=eq_of_beq hp
  subst this
  rw[VW,IJ 46 _ (Eb (qw n 0) rfl),Nat.sub_zero,Vi,Ud];rfl
 | false=>
  rw[VV,zy 46 _ _ (Eb (Kg (qw n p) _) rfl)];rfl
theorem Qp (n p:Nat) (hp:p<=9):FI (dM 46 (jB n p))=true:=by
 rw[Bp]
 unfold FI
 dsimp only
 rw[Bn,TJ]
 cases h:(p==0) with
 | true=>rfl
 | false=>
  have h0:p≠0:=fun e=>by subst e;cases h
  have hl:((bC n p).drop ((bC n p).length - p)).length=p:=by
   rw[UI];have:=mB n p;omega
  have hne:(bC n p).drop ((bC n p).length - p)≠[]:=fun e=>h0 (by have:=congrArg List.length e;rw[hl] at this;exact this)
  rw[TF,VW,VZ hne,Qm (qw n p),VZ (by omega)];rfl
theorem IE (n p:Nat):(jB n p).length<=(bC n p).length+1:=by
 unfold jB
 cases (p==0) with
 | true=>rw[VW];omega
 | false=>
  rw[VV,UG,UH,UP,UI];omega
theorem Kn (n p:Nat):jB n p≠[]:=fun e=>by
 have h:=Bp n p
 rw[e] at h
 have h1:[]=(bC n p).take ((bC n p).length - p):=congrArg (·.1) h
 have h2:=Bn n p
 rw[<- h1] at h2
 cases h2
theorem Ny (n p:Nat):(jB n p).head? ≠some 45:=by
 have hm:∀ c,(jB n p).head? =some c->bw c=true:=by
  intro c hc
  have hb:(bC n p).all bw=true:=qw n p
  unfold jB at hc
  cases h:(p==0) with
  | true=>
   rw[h,VW] at hc
   exact TZ.1 hb c (List.mem_of_mem_head? hc)
  | false=>
   rw[h,VV] at hc
   have hne:(bC n p).take ((bC n p).length - p)≠[]:=fun e=>by
    have:=congrArg List.length e
    rw[UP] at this
    have:=mB n p
    simp at *;omega
   rw[KZ hne] at hc
   exact TZ.1 hb c (U4 (List.mem_of_mem_head? hc))
 intro h
 have:=hm 45 h
 cases this
theorem Ot (d:ah):gP (di d)=(decide (d.1<0),jB d.1.natAbs d.2.toNat):=by
 unfold di
 cases h:decide (d.1<0) with
 | true=>rfl
 | false=>
  rw[VV,U8]
  have hne:=Kn d.1.natAbs d.2.toNat
  have hh:=Ny d.1.natAbs d.2.toNat
  generalize jB d.1.natAbs d.2.toNat=s at hne hh ⊢
  cases s with
  | nil=>exact absurd rfl hne
  | cons b r=>
   have hb:(b==45)=false:=VS.2 fun e=>hh (by rw[e];rfl)
   simp[gP,hb]
theorem KF {d:ah} (h:cV d):(di d).length<=19:=by
 obtain⟨h1,h3,h4⟩:=h
 have h5:(Lib.decDigits d.1.natAbs).length<=16:=gS (k:=15) (by have:(10:Nat) ^ (15+1)=10000000000000000:=rfl;omega)
 have h6:=IE d.1.natAbs d.2.toNat
 rw[Af] at h6
 unfold di
 rw[UG]
 cases decide (d.1<0)<;>simp<;>omega
theorem GR {d:ah} (h:cV d):bG (di d)=(d,0):=by
 have hl:=KF h
 obtain⟨h1,h3,h4⟩:=h
 unfold bG
 rw[VY (by omega),VV,Ot]
 dsimp only
 rw[Qp _ _ (by omega),VW,Bp]
 unfold De
 dsimp only
 rw[Vg,O0]
 have e:(((bC d.1.natAbs d.2.toNat).drop ((bC d.1.natAbs d.2.toNat).length - d.2.toNat)).length:Int)=d.2:=by
  rw[UI]
  have:=mB d.1.natAbs d.2.toNat
  omega
 rw[e]
 obtain⟨a,b⟩:=d
 simp only at h1 h3 h4 ⊢
 rw[VZ (show a.natAbs<=1000000000000000 by omega)]
 by_cases hn:a<0
 ·rw[VZ hn,VY (show ¬ a.natAbs=0 by omega)]
  simp only[Tt,VV,VW]
  congr 2
  omega
 ·rw[VY hn]
  simp only[Tx,VV,VW]
  congr 2
  omega
theorem Rp (d:ah):di d≠[]:=fun e=>by
 unfold di at e
 exact Kn _ _ (List.append_eq_nil_iff.1 e).2
theorem Pv {n p:Nat} {c:UInt8} (h:c∈jB n p):bw c=true\/c=46:=by
 have hb:∀ c,c∈bC n p->bw c=true:=TZ.1 (qw n p)
 unfold jB at h
 cases hp:(p==0) with
 | true=>rw[hp,VW] at h;exact .inl (hb c h)
 | false=>
  rw[hp,VV] at h
  simp only[UT,UX] at h
  rcases h with h | h | h
  ·exact .inl (hb c (U4 h))
  ·exact .inr h
  ·exact .inl (hb c (List.mem_of_mem_drop h))
theorem Cj (d:ah) {c:UInt8} (h:bw c=false) (h1:c≠46) (h2:c≠45):c∉di d:=fun hc=>by
 unfold di at hc
 rcases UT.1 hc with hc | hc
 ·cases hd:decide (d.1<0) with
  | true=>rw[hd] at hc;simp at hc;exact h2 hc
  | false=>rw[hd] at hc;simp at hc
 ·rcases Pv hc with hc | hc
  ·rw[h] at hc;cases hc
  ·exact h1 hc
end Go.Md
namespace Go.Md
open Go.Dn
theorem Qu (n:Nat) (h:n<100):Lib.decDigits n=KG n:=by
 unfold KG
 rw[Lib.decDigits]
 by_cases h1:n<10
 ·simp[h1]
 ·rw[dif_neg h1,Lib.decDigits,dif_pos (by omega),V6 h1];rfl
theorem M1 {n:Nat} (h:n<=9223372036854775807):strconv_Itoa (n:Int)=some (Lib.decDigits n,()):=by
 unfold strconv_Itoa
 by_cases h1:n<100
 ·rw[show (decide (0<=(n:Int))&&decide ((n:Int)<100))=true by rw[Tr];exact⟨VZ (by omega),VZ (by omega)⟩,VW,TV,Qu n h1]
 ·rw[show (decide (0<=(n:Int))&&decide ((n:Int)<100))=false by rw[VY (show ¬(n:Int)<100 by omega),Tt],VV,
   show (decide (-9223372036854775808<=(n:Int))&&decide ((n:Int)<=9223372036854775807))=true by rw[Tr];exact⟨VZ (by omega),VZ (by omega)⟩,VW]
  unfold Lib.itoa
  rw[V6 (by omega),TV]
theorem PZ (k:Nat) (h:k<=1000):strings_Repeat [48] (k:Int)=some (Lib.repeatL [48] k,()):=by
 unfold strings_Repeat
 rw[TV,show (decide (0<=(k:Int))&&(decide ((k:Int)<=9223372036854775807)&&decide ([(48:UInt8)].length*k<=140737488355328)))=true by
  rw[Tr,Tr]
  exact⟨VZ (by omega),VZ (by omega),VZ (by simp;omega)⟩,VW]
theorem Qx (r d:Nat) (hr:r<10) (hd:d<4294967296):mN (r:Int) (d:Int) 10=some ((((r*4294967296+d) / 10:Nat):Int),(((r*4294967296+d) % 10:Nat):Int),()):=by
 unfold mN
 have e1:bn ((r:Int)*2 ^ 32)=((2 ^ 32*r:Nat):Int):=by rw[cx (by omega) (by omega)];omega
 have e2:bn (bn (r:Int)*2 ^ 32)=((2 ^ 32*r:Nat):Int):=by rw[cx (n:=(r:Int)) (by omega) (by omega)];exact e1
 have e3:bn (d:Int)=(d:Int):=cx (by omega) (by omega)
 have e4:bn (10:Int)=10:=rfl
 have e5:((BitVec.ofInt (IntKind.bits .u64) ((2 ^ 32*r:Nat):Int) ||| BitVec.ofInt (IntKind.bits .u64) (d:Int)).toNat:Int)=((r*4294967296+d:Nat):Int):=by
  rw[show IntKind.bits .u64=64 from rfl,NA 64 (by omega) (by omega),PI (k:=32) (by omega)]
  omega
 have e6:bn ((r*4294967296+d:Nat):Int)=((r*4294967296+d:Nat):Int):=cx (by omega) (by omega)
 rw[show ((10:Int) != 0)=true from rfl,VW,VY (show ¬(10:Int)<=(r:Int) by omega),VJ]
 dsimp only
 rw[VV,au]
 dsimp only
 rw[e2,e3,e4,e5,e6,show ((10:Int) != 0)=true from rfl,aC rfl,aC rfl]
 have q1:Int.tdiv ((r*4294967296+d:Nat):Int) 10=(((r*4294967296+d) / 10:Nat):Int):=by
  rw[TT (by omega)];omega
 have q2:Int.tmod ((r*4294967296+d:Nat):Int) 10=(((r*4294967296+d) % 10:Nat):Int):=by
  rw[TU (by omega)];omega
 rw[q1,q2,cx (by omega) (by omega),zk (by omega) (by omega),zk (by omega) (by omega)]
theorem LJ {l:List Int} {k:Nat} (q:Int):v32 ((l.set k q).take k)=v32 (l.take k):=by rw[List.take_set_of_le (Vu k)]
theorem GS (o:List Int) (ng:Bool) (ab:List Int):∀ (k f:Nat) (l:List Int) (r:Nat),k<f->k<=l.length->l.length<=1000000->Dg l->r<10-> ∃ (l':List Int) (r':Nat),iter f ((o,l,(r:Int),(k:Int) - 1,ng,ab,()):kz) cU=some (Sum.inr (o,l',(r':Int),ng,ab,()))/\ l'.length=l.length/\Dg l'/\l'.drop k=l.drop k/\r'<10/\v32 (l.take k)+4294967296 ^ k*r=10*v32 (l'.take k)+r'
 | 0,f+1,l,r,_,_,_,hd,hr=>by
  refine⟨l,r, ?_,rfl,hd,rfl,hr,by simp[qC]⟩
  show cU _ (fun y=>iter f y cU)=_
  generalize (fun y=>iter f y cU)=again
  unfold cU
  dsimp only
  rw[aK (by omega)]
 | k+1,f+1,l,r,hf,hk,hl,hd,hr=>by
  have hy:l[k]? =some l[k]:=Ur (by omega)
  generalize l[k]=y at hy
  have hy2:=hd.get hy
  obtain⟨d,rfl⟩:∃ d:Nat,y=d:=⟨y.toNat,by omega⟩
  have hd32:d<4294967296:=by omega
  obtain⟨l',r',h1,h2,h3,h4,h5,h6⟩:=GS o ng ab k f (l.set k (((r*4294967296+d) / 10:Nat):Int)) ((r*4294967296+d) % 10) (by omega) (by rw[UO];omega) (by rw[UO];omega) (hd.set (by omega)) (by omega)
  rw[UO] at h2
  have hlt':k<l'.length:=by omega
  have hk':l'[k]? =some (((r*4294967296+d) / 10:Nat):Int):=by
   have e:=congrArg (fun q:List Int=>q[0]?) h4
   simp only[Uq,Vn] at e
   rw[e,Uy (by omega)]
  refine⟨l',r', ?_,h2,h3, ?_,h5, ?_⟩
  ·show cU _ (fun y=>iter f y cU)=_
   generalize hag:(fun y=>iter f y cU)=again
   unfold cU
   dsimp only
   have e0:((k+1:Nat):Int) - 1=(k:Int):=by omega
   rw[e0,aE (by omega),aC (by simp;omega),TV,hy,VJ,Qx r d hr hd32,VJ,aC (by simp;omega),VJ]
   dsimp only
   rw[az (by omega) (by omega), <- hag]
   exact h1
  ·have:=congrArg (List.drop 1) h4
   rw[Ua,Ua,List.drop_set_of_lt (by omega)] at this
   exact this
  ·rw[LJ] at h6
   rw[dV hy,dV hk']
   rw[TS]
   have hdm:(((r*4294967296+d) / 10:Nat):Int)*10+(((r*4294967296+d) % 10:Nat):Int)=(r:Int)*4294967296+d:=by omega
   have h7:=congrArg (fun z:Int=>4294967296 ^ k*z) hdm
   rw[TL,TL] at h7
   generalize (4294967296:Int) ^ k=P at*
   grind
def rdF:Nat->Nat->List Int
 | 0,_=>[]
 | f+1,n=>if n=0 then [] else ((48+n % 10:Nat):Int)::rdF f (n / 10)
def rd (n:Nat):List Int:=rdF n n
theorem PS:∀ (f g n:Nat),n<=f->n<=g->rdF f n=rdF g n
 | 0,0,_,_,_=>rfl
 | 0,g+1,n,h,_=>by have:n=0:=by omega
                   subst this;simp[rdF]
 | f+1,0,n,_,h=>by have:n=0:=by omega
                   subst this;simp[rdF]
 | f+1,g+1,n,hf,hg=>by
  by_cases hn:n=0
  ·subst hn;simp[rdF]
  ·simp only[rdF,hn,V5]
   rw[PS f g (n / 10) (by omega) (by omega)]
theorem Ip:rd 0=[]:=rfl
theorem PU {n:Nat} (h:0<n):rd n=((48+n % 10:Nat):Int)::rd (n / 10):=by
 obtain⟨m,rfl⟩:∃ m,n=m+1:=⟨n - 1,by omega⟩
 unfold rd
 rw[rdF,V6 (by omega),PS m ((m+1) / 10) _ (by omega) (Vu _)]
theorem PT:∀ n:Nat,0<n->(rd n).reverse.map (fun z=>UInt8.ofNat z.toNat)=Lib.decDigits n:=by
 intro n
 induction n using Nat.strongRecOn with
 | _ n ih=>
  intro h
  rw[PU h,Lib.decDigits]
  split
  ·rename_i h10
   rw[Nat.div_eq_of_lt h10,Ip,Nat.mod_eq_of_lt h10];rfl
  ·rename_i h10
   rw[List.reverse_cons,List.map_append,ih (n / 10) (by omega) (by omega)];rfl
theorem Su (n:Nat) (h:0<n):(rd n).length=(Lib.decDigits n).length:=by
 rw[<- PT n h];simp
theorem Oy (ng:Bool) (ab:List Int) (hab:ab.length<=1000000):∀ (n f:Nat) (o:List Int),(rd n).length<f->n<4294967296 ^ 99->o.length+(rd n).length<=1000000-> iter f ((o,bH n,ng,ab,()):iD) gv=some (Sum.inr (o++rd n,ng,ab,())):=by
 intro n
 induction n using Nat.strongRecOn with
 | _ n ih=>
  intro f o hf hn ho
  obtain⟨f,rfl⟩:∃ g,f=g+1:=⟨f - 1,by omega⟩
  show gv _ (fun y=>iter f y gv)=_
  generalize hag:(fun y=>iter f y gv)=again
  unfold gv
  dsimp only
  rcases Vr n with rfl | h
  ·rw[wO,aK (by simp),Ip,T6]
  ·have hne:=sY h
   have hlp:0<(bH n).length:=UM.2 hne
   have hll:(bH n).length<=99:=mX hn
   rw[aE (by omega)]
   obtain⟨l',r',h1,h2,h3,h4,h5,h6⟩:=GS o ng ab (bH n).length (List.length o+(List.length (bH n)+(Int.natAbs (0:Int)+(Int.natAbs (w64 (((List.length (bH n):Int)) - 1))+(List.length ab+2))))) (bH n) 0 (by omega) (Vu _) (by omega) (eZ n) (by omega)
   rw[az (by omega) (by omega)] at h1 ⊢
   have h1':=h1
   rw[show ((0:Nat):Int)=0 from rfl] at h1'
   rw[h1',au]
   dsimp only
   rw[Vi,ep, <- h2,Vi,Int.natCast_zero,Int.mul_zero,Int.add_zero] at h6
   have hv:=rM h3
   have hrl:=PU h
   have hrl2:(rd n).length=(rd (n / 10)).length+1:=by rw[hrl];rfl
   have e1:r'=n % 10:=by omega
   have e2:(v32 l').toNat=n / 10:=by omega
   rw[aC (by rw[Tr];exact⟨VZ (by omega),VZ (by rw[bS];omega)⟩)]
   have ht:gq l'=some (bH (n / 10),()):=by
    unfold gq
    rw[VZ (by omega),VW,LG h3,e2]
   rw[ht,VJ]
   dsimp only
   have e3:wu8 (48+wu8 (r':Int))=((48+n % 10:Nat):Int):=by
    have q1:wu8 (r':Int)=(r':Int):=zj (by show (0:Int)<=_;omega) (by show _<=(255:Int);omega)
    have q2:wu8 (48+(r':Int))=48+(r':Int):=zj (by show (0:Int)<=_;omega) (by show _<=(255:Int);omega)
    rw[q1,q2];omega
   rw[e3]
   have:=ih (n / 10) (by omega) f (o++[((48+n % 10:Nat):Int)]) (by omega) (by have:=Nat.div_le_self n 10;omega) (by rw[UG];simp only[List.length_singleton];omega)
   rw[<- hag]
   refine this.trans ?_
   rw[hrl,T4];rfl
end Go.Md
namespace Go.Md
open Go.Dn
def Tc (m q:List Int) (i:Nat):Prop:=q.length=m.length/\∀ t:Nat,q[t]? =if t<m.length/\(t<i\/m.length - i<=t) then m[m.length - 1 - t]? else m[t]?
theorem P1 (m:List Int) (hm:m.length<=1000000):∀ (f i:Nat) (q:List Int),m.length+1<=f+i->i<=m.length->Tc m q i->iter f (((i:Int),(m.length:Int) - 1 - i,q,()):gQ) dY=some (Sum.inr (m.reverse,()))
 | 0,i,q,hf,hi,_=>by omega
 | f+1,i,q,hf,hi,⟨hq1,hq2⟩=>by
  show dY _ (fun y=>iter f y dY)=_
  generalize hag:(fun y=>iter f y dY)=again
  unfold dY
  dsimp only
  by_cases h:(i:Int)<(m.length:Int) - 1 - i
  ·have hj:((m.length:Int) - 1 - i).toNat=m.length - 1 - i:=by omega
   have hij:i<m.length - 1 - i:=by omega
   have hy2:q[m.length - 1 - i]? =some m[m.length - 1 - i]:=by
    rw[hq2,V6 (by omega)];exact Ur (by omega)
   have hy3:q[i]? =some m[i]:=by
    rw[hq2,V6 (by omega)];exact Ur (by omega)
   rw[aE h,hj,aC (by rw[hq1];simp only[Tr,V0];omega),hy2,VJ,TV,aC (by rw[hq1];simp only[Tr,V0];omega),hy3,VJ,
    aC (by rw[hq1];simp only[Tr,V0];omega),VJ,aC (by rw[UO,hq1];simp only[Tr,V0];omega)]
   rw[Ux (by omega),hy2,VJ,az (by omega) (by omega),az (by omega) (by omega), <- hag]
   have:=P1 m hm f (i+1) ((q.set i m[m.length - 1 - i]).set (m.length - 1 - i) m[i]) (by omega) (by omega) ⟨by simp[hq1],fun t=> ?_⟩
   ·rw[show (((i+1:Nat):Int))=(i:Int)+1 by omega,show (m.length:Int) - 1 - ((i:Int)+1)=(m.length:Int) - 1 - i - 1 by omega] at this
    exact this
   ·by_cases ht1:t=m.length - 1 - i
    ·subst ht1
     rw[Uy (by simp[hq1];omega),V7 (by omega),show m.length - 1 - (m.length - 1 - i)=i by omega]
     exact (Ur (by omega)).symm
    ·rw[Ux (Ne.symm ht1)]
     by_cases ht2:t=i
     ·subst ht2
      rw[Uy (by omega),V7 (by omega)]
      exact (Ur (by omega)).symm
     ·rw[Ux (Ne.symm ht2),hq2]
      by_cases hc:t<m.length/\(t<i\/m.length - i<=t)
      ·rw[V7 hc,V7 (by omega)]
      ·rw[V6 hc,V6 (by omega)]
  ·rw[aK h]
   have:q=m.reverse:=by
    apply Ui
    intro t
    rw[hq2]
    by_cases ht:t<m.length
    ·rw[List.getElem?_reverse ht]
     by_cases hc:t<m.length/\(t<i\/m.length - i<=t)
     ·rw[V7 hc]
     ·rw[V6 hc]
      congr 1
      omega
    ·rw[V6 (by omega),Us (by omega),Us (by simp<;>omega)]
   rw[this]
theorem Gs (m:List Int) (hm:m.length<=1000000):gG m=some (m.reverse,()):=by
 unfold gG
 have h:=P1 m hm (Int.natAbs (0:Int)+(Int.natAbs (w64 (((List.length m:Int)) - 1))+(List.length m+2))) 0 m (by omega) (by omega) ⟨rfl,fun t=>by rw[V6 (by omega)]⟩
 rw[show (((0:Nat):Int))=0 from rfl,Int.sub_zero] at h
 rw[az (by omega) (by omega)] at h ⊢
 rw[h,au]
theorem NC (l:List Int) (hl:l.length<=1000000):jj l=some (l,()):=by
 unfold jj
 have e:chk (decide ((0+(List.length l))*4<=140737488355328)&&decide (0+(List.length l)<=maxLen)) (some (l,()))=some (l,()):=aC (by rw[Tr];exact⟨VZ (by omega),VZ (by rw[bS];omega)⟩) _
 cases l with
 | nil=>rw[List.isEmpty_nil,VW,e];exact OL _
 | cons a r=>rw[UF,VV,e]
theorem KK {n:Nat} (h:n<=1000000000000000):(bH n).length<=2:=mX (by have:(4294967296:Nat) ^ 2=18446744073709551616:=rfl;omega)
theorem Q6 {n:Nat} (h:n<=1000000000000000):(rd n).length<=16:=by
 rcases Vr n with rfl | hp
 ·rw[Ip];exact VI _
 ·rw[Su n hp]
  exact gS (k:=15) (by have:(10:Nat) ^ (15+1)=10000000000000000:=rfl;omega)
theorem SK:(18446744073709551616:Nat)<=4294967296 ^ 99:=by decide +kernel
theorem JV (n:Nat) (h:n<=1000000000000000):oo (W (n:Int))=some (Lib.decDigits n,()):=by
 unfold oo W
 dsimp only
 rw[TQ,VY (show ¬ (n:Int)<0 by omega)]
 rcases Vr n with rfl | hp
 ·rw[wO,yx];rfl
 ·have hne:=sY hp
  have hlp:0<(bH n).length:=UM.2 hne
  have h2:=KK h
  have h16:=Q6 h
  have hb:((((bH n).length:Nat):Int)==0)=false:=by simp;omega
  rw[hb,VV,NC _ (by omega),VJ]
  dsimp only
  have ho:=Oy false (bH n) (by omega) n (20*(bH n).length+2) [] (by omega) (Vw (by omega) SK) (by simp<;>omega)
  rw[ho,au]
  dsimp only
  rw[VV,U8,Gs _ (by omega),VJ]
  have:=PT n hp
  rw[<- this]
theorem abs_eq (z:Int) (h:z.natAbs<=1000000000000000):pO (W z)=some (W ((z.natAbs:Nat):Int),()):=by
 unfold pO W
 dsimp only
 rw[iu false _ (eZ _) (by have:=KK h;omega),VJ]
 simp only[Tz,V5,ep]
 rfl
theorem xQ:∀ k:Nat,Lib.repeatL [48] k=List.replicate k (48:UInt8)
 | 0=>rfl
 | k+1=>by rw[Lib.repeatL,xQ k];rfl
theorem I3 {n p:Nat} (hp:p<=9) (h:n<=1000000000000000):∃ r,strings_Repeat [48] (if w64 (w64 ((p:Int)+1) - ((Lib.decDigits n).length:Int))>0 then w64 (w64 ((p:Int)+1) - ((Lib.decDigits n).length:Int)) else 0)=some (r,())/\r++Lib.decDigits n=bC n p/\r.length<=10:=by
 have hl:(Lib.decDigits n).length<=16:=gS (k:=15) (by have:(10:Nat) ^ (15+1)=10000000000000000:=rfl;omega)
 rw[az (n:=(p:Int)+1) (by omega) (by omega),az (by omega) (by omega)]
 have e:(if (p:Int)+1 - ((Lib.decDigits n).length:Int)>0 then (p:Int)+1 - ((Lib.decDigits n).length:Int) else 0)=((p+1 - (Lib.decDigits n).length:Nat):Int):=by split<;>omega
 rw[e,PZ _ (by omega)]
 refine⟨_,rfl, ?_, ?_⟩
 ·rw[xQ];rfl
 ·rw[xQ,UN];omega
theorem Ii {n p:Nat} (hp:p<=9) (h:n<=1000000000000000):(bC n p).length<=16:=by
 have hl:(Lib.decDigits n).length<=16:=gS (k:=15) (by have:(10:Nat) ^ (15+1)=10000000000000000:=rfl;omega)
 rw[Af];omega
theorem Oc {n p:Nat} (hp:p<=9) (h:n<=1000000000000000):nP (Lib.decDigits n) (p:Int)=some ((bC n p).take ((bC n p).length - p),(bC n p).drop ((bC n p).length - p),()):=by
 unfold nP
 dsimp only
 obtain⟨r,h1,h2,h3⟩:=I3 hp h
 have h16:=Ii hp h
 have hgt:=mB n p
 have hl:(Lib.decDigits n).length<=16:=gS (k:=15) (by have:(10:Nat) ^ (15+1)=10000000000000000:=rfl;omega)
 rw[h1,VJ]
 dsimp only
 rw[aC (VZ (by rw[bS];omega)),h2]
 have e:w64 (((bC n p).length:Int) - (p:Int))=(((bC n p).length - p:Nat):Int):=by rw[az (by omega) (by omega)];omega
 rw[e,aC (by simp<;>omega),aC (by simp<;>omega),TV,TV,Uf,Vi]
theorem G9 {d:ah} (h:cV d):sR d=some (di d,0,()):=by
 unfold sR
 rw[jl,V7 h,VJ]
 obtain⟨h1,h3,h4⟩:=h
 obtain⟨a,b⟩:=d
 dsimp only at h1 h3 h4 ⊢
 obtain⟨p,rfl⟩:∃ p:Nat,b=p:=⟨b.toNat,by omega⟩
 rw[show ((0:Int) != 0)=false from rfl,VV,tD a (by omega) (by omega),VJ,abs_eq a h1,VJ,JV _ h1,VJ,Oc (by omega) h1,VJ]
 have hs:oB (a,(p:Int))=some ((bif decide (a<0) then [45] else []),()):=by
  unfold oB
  dsimp only
  cases decide (a<0)<;>rfl
 have h16:=Ii (n:=a.natAbs) (p:=p) (by omega) h1
 have hsl:(bif decide (a<0) then [(45:UInt8)] else []).length<=1:=by cases decide (a<0)<;>simp
 rw[hs]
 unfold di jB
 dsimp only
 rw[TV]
 generalize hsg:(bif decide (a<0) then [(45:UInt8)] else [])=sg at hsl
 have hpz:((p:Int)==0)=(p==0):=by
  by_cases hh:p=0
  ·subst hh;rfl
  ·have e1:(p==0)=false:=VS.2 hh
   have e2:((p:Int)==0)=false:=VS.2 (by omega)
   rw[e1,e2]
 rw[hpz]
 cases hp:(p==0) with
 | true=>
  have hp0:p=0:=eq_of_beq hp
  subst hp0
  rw[VW,VW,VJ,Nat.sub_zero,Vi]
  dsimp only
  rw[aC (VZ (by rw[bS];omega))]
 | false=>
  rw[VV,VV,VJ]
  dsimp only
  rw[aC (VZ (by rw[bS,UP];omega)),aC (VZ (by rw[bS,UG,UP];simp;omega)),
   aC (VZ (by rw[bS,UG,UG,UP,UI];simp;omega))]
  simp only[T4,Vb]
theorem yb {d:ah} (h:cV d):oA d=some (di d,()):=by
 unfold oA
 rw[G9 h];rfl
theorem Oi {d:ah} (h:cV d):Ds d=some (di d,0,()):=by
 unfold Ds
 rw[mG,V7 h,VJ]
 obtain⟨h1,h3,h4⟩:=h
 obtain⟨a,b⟩:=d
 dsimp only at h1 h3 h4 ⊢
 obtain⟨p,rfl⟩:∃ p:Nat,b=p:=⟨b.toNat,by omega⟩
 have em:(if w64 (0 - a)>a then w64 (0 - a) else a)=((a.natAbs:Nat):Int):=by
  rw[az (by omega) (by omega)];split<;>omega
 obtain⟨r,g1,g2,g3⟩:=I3 (n:=a.natAbs) (p:=p) (by omega) h1
 have h16:=Ii (n:=a.natAbs) (p:=p) (by omega) h1
 have hgt:=mB a.natAbs p
 have hl:(Lib.decDigits a.natAbs).length<=16:=gS (k:=15) (by have:(10:Nat) ^ (15+1)=10000000000000000:=rfl;omega)
 rw[show ((0:Int) != 0)=false from rfl,VV,em,M1 (by omega),VJ]
 dsimp only
 rw[g1,VJ]
 dsimp only
 rw[aC (VZ (by rw[bS];omega)),g2]
 have e:w64 (((bC a.natAbs p).length:Int) - (p:Int))=(((bC a.natAbs p).length - p:Nat):Int):=by rw[az (by omega) (by omega)];omega
 rw[e]
 have hb:(bif decide ((p:Int)>0) then
  chk (decide (0<=(0:Int))&&decide ((0:Int)<=(((bC a.natAbs p).length - p:Nat):Int))&&decide ((((bC a.natAbs p).length - p:Nat):Int)<=((bC a.natAbs p).length:Int))) <|
  chk (decide (List.length (List.drop 0 (List.take (Int.toNat (((bC a.natAbs p).length - p:Nat):Int)) (bC a.natAbs p)))+List.length [(46:UInt8)]<=maxLen)) <|
  chk (decide (0<=(((bC a.natAbs p).length - p:Nat):Int))&&decide ((((bC a.natAbs p).length - p:Nat):Int)<=((bC a.natAbs p).length:Int))&&decide (((bC a.natAbs p).length:Int)<=((bC a.natAbs p).length:Int))) <|
  chk (decide (List.length ((List.drop 0 (List.take (Int.toNat (((bC a.natAbs p).length - p:Nat):Int)) (bC a.natAbs p)))++[46])+List.length (List.drop (Int.toNat (((bC a.natAbs p).length - p:Nat):Int)) (List.take (Int.toNat ((bC a.natAbs p).length:Int)) (bC a.natAbs p)))<=maxLen)) <|
  some (Sum.inr (α:=List UInt8×Int×Unit) (((List.drop 0 (List.take (Int.toNat (((bC a.natAbs p).length - p:Nat):Int)) (bC a.natAbs p)))++[46])++(List.drop (Int.toNat (((bC a.natAbs p).length - p:Nat):Int)) (List.take (Int.toNat ((bC a.natAbs p).length:Int)) (bC a.natAbs p))),a,(p:Int),()))
  else
   some (Sum.inr (bC a.natAbs p,a,(p:Int),())))=some (Sum.inr (jB a.natAbs p,a,(p:Int),())):=by
  unfold jB
  by_cases hp:p=0
  ·subst hp
   rw[aK (by omega),show ((0:Nat)==0)=true from rfl,VW]
  ·rw[aE (by omega),VS.2 hp,VV,TV,TV,Uf,Vi,
    aC (by simp<;>omega),aC (VZ (by rw[bS,UP];simp;omega)),aC (by simp<;>omega),aC (VZ (by rw[bS,UG,UP,UI];simp;omega))]
   simp only[T4,Vb]
 refine (congrArg (fun o=>aF o _) hb).trans ?_
 rw[au]
 dsimp only
 unfold di
 dsimp only
 rw[TV]
 have hbl:=IE a.natAbs p
 cases hn:decide (a<0) with
 | true=>rw[VW,VW,aC (VZ (by rw[bS];simp;omega))]
 | false=>rw[VV,VV,U8]
theorem pK {d:ah} (h:cV d):lO d=some (di d,()):=by
 unfold lO
 rw[Oi h];rfl
end Go.Md
namespace Go.Md
open Go.Dn
theorem zO {s:List UInt8} (h:gy s=true):s≠[]/\s.length<=40/\∀ c,c∈s->nmB c=true:=by
 unfold gy gK at h
 by_cases h1:(s.length:Int)<1
 ·rw[aE h1] at h;cases h
 rw[aK h1] at h
 by_cases h2:(s.length:Int)>40
 ·rw[aE h2] at h;cases h
 rw[aK h2] at h
 refine⟨fun e=>h1 (by rw[e];decide),by omega, ?_⟩
 have ht:dJ s [97,98,99,100,101,102,103,104,105,106,107,108,109,110,111,112,113,114,115,116,117,118,119,120,121,122,48,49,50,51,52,53,54,55,56,57,45]=some (Lib.trimS s nmC,()):=by
  unfold dJ
  rw[show (decide (s.length<=9223372036854775807))=true by simp;omega]
  rfl
 cases hs:fP s 0 with
 | none=>rw[hs] at h;cases h
 | some c1=>
  rw[hs,VJ] at h
  cases h3:decide ((c1.toNat:Int)<97) with
  | true=>rw[h3] at h;cases h
  | false=>
   rw[h3,VV,VJ] at h
   cases h4:decide ((c1.toNat:Int)>122) with
   | true=>rw[h4] at h;cases h
   | false=>
    rw[h4,VV,ht,VJ] at h
    have h5:(Lib.trimS s nmC==[])=true:=h
    rw[Jf] at h5
    exact TZ.1 h5
theorem PA {s:List UInt8} (h:gy s=true) {c:UInt8} (hc:nmB c=false):c∉s:=fun hm=>by
 rw[(zO h).2.2 c hm] at hc;cases hc
theorem Qg {d:aa} (h:rL d=0):(usA d.2.2.2.1=false->d.2.2.2.2.2.1=[]/\d.2.2.2.2.2.2.2.1=[])/\(usQ d.2.2.2.1=false->d.2.2.2.2.2.2.1=(0,0))/\(usP d.2.2.2.1=false->d.2.2.2.2.2.2.2.2.1=(0,0))/\(usU d.2.2.2.1=false->d.2.2.2.2.2.2.2.2.2.1=0)/\(usT d.2.2.2.1=false->d.2.2.2.2.2.2.2.2.2.2=0):=by
 obtain⟨day,byy,no,k,line,art,⟨q1,q2⟩,unit,⟨p1,p2⟩,un,to⟩:=d
 unfold rL CU at h
 dsimp only at h ⊢
 generalize usA k=ua at*
 generalize usQ k=uq at*
 generalize usP k=up at*
 generalize usU k=uu at*
 generalize usT k=ut at*
 generalize qOk (q1,q2) (k==2)=b1 at h
 generalize inR (p1,p2) 0 1000000000 4=b2 at h
 generalize mM un=b3 at h
 generalize gy art=b4 at h
 generalize gy unit=b5 at h
 generalize pV to=b6 at h
 cases hq:(uq&& !b1)
 rotate_left
 ·rw[hq] at h;cases h
 rw[hq,VV] at h
 cases hp:(up&& !b2)
 rotate_left
 ·rw[hp] at h;cases h
 rw[hp,VV] at h
 cases hu:(uu&& !b3)
 rotate_left
 ·rw[hu] at h;cases h
 rw[hu,VV] at h
 cases ha:(ua&&(!b4|| !b5))
 rotate_left
 ·rw[ha] at h;cases h
 rw[ha,VV] at h
 cases ht:(ut&& !b6)
 rotate_left
 ·rw[ht] at h;cases h
 rw[ht,VV] at h
 cases hz:((!ua&& !(art==[]))||((!uq&& !(q1==0&&q2==0))||((!ua&& !(unit==[]))||((!up&& !(p1==0&&p2==0))||((!uu&&un != 0)||(!ut&&to != 0))))))
 rotate_left
 ·rw[hz] at h;cases h
 simp only[TH] at hz
 obtain⟨z1,z2,z3,z4,z5,z6⟩:=hz
 refine⟨fun e=> ?_,fun e=> ?_,fun e=> ?_,fun e=> ?_,fun e=> ?_⟩
 ·subst e;simp at z1 z3;exact⟨z1,z3⟩
 ·subst e;simp at z2;exact Prod.ext z2.1 z2.2
 ·subst e;simp at z4;exact Prod.ext z4.1 z4.2
 ·subst e;simpa using z5
 ·subst e;simpa using z6
def Bu (b:Int):List UInt8:=bif b==2 then [115,101,108,108,101,114] else [98,117,121,101,114]
def yI (k:Int):List UInt8:=bz.getD (k - 1).toNat []
def ez (n:Int):List UInt8:=Lib.decDigits n.toNat
def one (b:Bool) (w:List UInt8):List (List UInt8):=bif b then [w] else []
def dH (d:aa):List (List UInt8):=
 ((((([ez d.1,Bu d.2.1,ez d.2.2.1,yI d.2.2.2.1,ez d.2.2.2.2.1]++one (usA d.2.2.2.1) d.2.2.2.2.2.1)++one (usQ d.2.2.2.1) (di d.2.2.2.2.2.2.1))++one (usA d.2.2.2.1) d.2.2.2.2.2.2.2.1)++one (usP d.2.2.2.1) (di d.2.2.2.2.2.2.2.2.1))++one (usU d.2.2.2.1) (ez d.2.2.2.2.2.2.2.2.2.1))++
   one (usT d.2.2.2.1) (ez d.2.2.2.2.2.2.2.2.2.2)
def wY (d:aa):List UInt8:=Lib.join (dH d) [32]++[10]
theorem iU {n:Int} (h0:0<=n) (h1:n<=9223372036854775807):strconv_Itoa n=some (ez n,()):=by
 obtain⟨k,rfl⟩:∃ k:Nat,n=k:=⟨n.toNat,by omega⟩
 exact M1 (by omega)
theorem cO (b:Bool) (w:List UInt8):(one b w).length<=1:=by cases b<;>simp[one]
theorem rQ (d:aa):(dH d).length<=11:=by
 unfold dH
 simp only[UG,UH,UL]
 have h1:=cO (usA d.2.2.2.1) d.2.2.2.2.2.1
 have h2:=cO (usQ d.2.2.2.1) (di d.2.2.2.2.2.2.1)
 have h3:=cO (usA d.2.2.2.1) d.2.2.2.2.2.2.2.1
 have h4:=cO (usP d.2.2.2.1) (di d.2.2.2.2.2.2.2.2.1)
 have h5:=cO (usU d.2.2.2.1) (ez d.2.2.2.2.2.2.2.2.2.1)
 have h6:=cO (usT d.2.2.2.1) (ez d.2.2.2.2.2.2.2.2.2.2)
 omega
def x8 (w:List UInt8):Prop:=w≠[]/\w.length<=40/\(32:UInt8)∉w/\(10:UInt8)∉w
theorem rP {n:Int} (h:n<=999999999999999):x8 (ez n):=by
 refine⟨vC _, ?_,AE _ _ rfl,AE _ _ rfl⟩
 have:=gS (n:=n.toNat) (k:=15) (by have:(10:Nat) ^ (15+1)=10000000000000000:=rfl;omega)
 unfold ez;omega
theorem G5 {d:ah} (h:cV d):x8 (di d):=
 ⟨Rp d,by have:=KF h;omega,Cj d rfl (by decide) (by decide),Cj d rfl (by decide) (by decide)⟩
theorem Ji {s:List UInt8} (h:gy s=true):x8 s:=⟨(zO h).1,(zO h).2.1,PA h (by decide),PA h (by decide)⟩
theorem Qj (b:Int):x8 (Bu b):=by
 unfold Bu
 cases (b==2)<;>exact⟨by decide,by decide,by decide,by decide⟩
theorem MP {k:Int} (h:1<=k/\k<=11):x8 (yI k):=by
 have:k=1\/k=2\/k=3\/k=4\/k=5\/k=6\/k=7\/k=8\/k=9\/k=10\/k=11:=by omega
 rcases this with rfl | rfl | rfl | rfl | rfl | rfl | rfl | rfl | rfl | rfl | rfl<;>exact⟨by decide,by decide,by decide,by decide⟩
theorem vk {b:Bool} {w x:List UInt8} (h:x∈one b w):b=true/\x=w:=by
 cases b with
 | true=>simp[one] at h;exact⟨rfl,h⟩
 | false=>simp[one] at h
theorem vE {d:ah} {z:Bool} (h:qOk d z=true):cV d:=by
 unfold qOk inR at h
 simp only[Tr,V0] at h
 exact h.1.1
theorem vD {d:ah} {a b c:Int} (h:inR d a b c=true):cV d:=by
 unfold inR at h
 exact (Wd h).1
theorem mW {n:Int} (h:mM n=true):1<=n/\n<=3652059:=Wd h
theorem u6 {n:Int} (h:pV n=true):1<=n/\n<=2000:=Wd h
theorem qD {d:aa} (h:bP d=0):∀ w,w∈dH d->x8 w:=by
 obtain⟨h1,h2,h3,h4,_,h6,h7⟩:=lB h
 obtain⟨u1,u2,u3,u4,u5⟩:=xd h7
 intro w hw
 unfold dH at hw
 simp only[UT,UX,List.not_mem_nil,or_false] at hw
 rcases hw with (((((hw | hw) | hw) | hw) | hw) | hw) | hw
 ·rcases hw with rfl | rfl | rfl | rfl | rfl
  ·exact rP (by omega)
  ·exact Qj _
  ·exact rP (by omega)
  ·exact MP h4
  ·exact rP (by omega)
 ·obtain⟨hb,rfl⟩:=vk hw
  exact Ji (u4 hb).1
 ·obtain⟨hb,rfl⟩:=vk hw
  exact G5 (vE (u1 hb))
 ·obtain⟨hb,rfl⟩:=vk hw
  exact Ji (u4 hb).2
 ·obtain⟨hb,rfl⟩:=vk hw
  exact G5 (vD (u2 hb))
 ·obtain⟨hb,rfl⟩:=vk hw
  exact rP (by have:1<=d.2.2.2.2.2.2.2.2.2.1/\d.2.2.2.2.2.2.2.2.2.1<=3652059:=mW (u3 hb);omega)
 ·obtain⟨hb,rfl⟩:=vk hw
  exact rP (by have:1<=d.2.2.2.2.2.2.2.2.2.2/\d.2.2.2.2.2.2.2.2.2.2<=2000:=u6 (u5 hb);omega)
theorem SE (l:List (List UInt8)) (h:∀ w,w∈l->w.length<=40):(l.map fun w=>w.length+1).sum<=41*l.length:=by
 induction l with
 | nil=>simp
 | cons a r ih=>
  have h1:=h a (by simp)
  have h2:=ih (fun w hw=>h w (by simp[hw]))
  simp only[UR,List.sum_cons,UH]
  omega
theorem qP {l:List (List UInt8)} (hl:l.length<=11) (h:∀ w,w∈l->w.length<=40):(Lib.join l [32]).length<=451:=by
 have h1:=K2 32 l
 have h2:=SE l h
 omega
theorem GN {l:List (List UInt8)} (hl:l.length<=11) (h:∀ w,w∈l->w.length<=40):strings_Join l [32]=some (Lib.join l [32],()):=by
 unfold strings_Join
 have:=qP hl h
 rw[VZ (by omega),VZ (by omega)];rfl
theorem NY {l:List (List UInt8)} (hl:l.length<=11) (h:∀ w,w∈l->w.length<=40):nh l=some (Lib.join l [32]++[10],()):=by
 unfold nh
 have:=qP hl h
 rw[GN hl h,VJ,aC (VZ (by rw[bS];simp;omega))]
theorem Ov {β ρ:Type} (u:Bool) (x:List UInt8) (v:List (List UInt8)) (r:ρ) (K:(List (List UInt8))×ρ->Option β): aF (β:=β) (bif u then some (Sum.inr (v++[x],r)) else some (Sum.inr (v,r))) K=K (v++one u x,r):=by
 cases u with
 | true=>rfl
 | false=>simp[one,aF]
theorem Rl {β ρ:Type} (u:Bool) (x:List UInt8) (v:List (List UInt8)) (hv:v.length<=100) (r:ρ) (K:(List (List UInt8))×ρ->Option β): aF (β:=β) (bif u then chk (decide ((v.length+1)*16<=140737488355328)&&decide (v.length+1<=maxLen)) (some (Sum.inr (v++[x],r))) else some (Sum.inr (v,r))) K=K (v++one u x,r):=by
 rw[aC (by rw[Tr];exact⟨VZ (by omega),VZ (by rw[bS];omega)⟩)]
 exact Ov u x v r K
theorem stepT {β ρ:Type} (u:Bool) (X:Option (List UInt8×Unit)) (x:List UInt8) (hX:u=true->X=some (x,())) (v:List (List UInt8)) (hv:v.length<=100) (r:ρ) (K:(List (List UInt8))×ρ->Option β): aF (β:=β) (bif u then Option.bind X fun y=>chk (decide ((v.length+1)*16<=140737488355328)&&decide (v.length+1<=maxLen)) (some (Sum.inr (v++[y.1],r))) else some (Sum.inr (v,r))) K=K (v++one u x,r):=by
 rw[<- Rl u x v hv r K]
 cases u with
 | true=>rw[hX rfl];rfl
 | false=>rfl
theorem SZ {β ρ:Type} (u:Bool) (X:Option (List UInt8×Unit)) (x:List UInt8) (hX:u=true->X=some (x,())) (v:List (List UInt8)) (r:ρ) (K:(List (List UInt8))×ρ->Option β): aF (β:=β) (bif u then Option.bind X fun y=>some (Sum.inr (v++[y.1],r)) else some (Sum.inr (v,r))) K=K (v++one u x,r):=by
 rw[<- Ov u x v r K]
 cases u with
 | true=>rw[hX rfl];rfl
 | false=>rfl
theorem Sf {b:Int} (h:1<=b/\b<=2):idx [[],[98,117,121,101,114],[115,101,108,108,101,114]] b=some (Bu b):=by
 have:b=1\/b=2:=by omega
 rcases this with rfl | rfl<;>rfl
theorem QC {k:Int} (h:1<=k/\k<=11):idx ([]::bz) k=some (yI k):=by
 have:k=1\/k=2\/k=3\/k=4\/k=5\/k=6\/k=7\/k=8\/k=9\/k=10\/k=11:=by omega
 rcases this with rfl | rfl | rfl | rfl | rfl | rfl | rfl | rfl | rfl | rfl | rfl<;>rfl
theorem O9 {k:Int} (h:1<=k/\k<=11):idx bz (w64 (k - 1))=some (yI k):=by
 have:k=1\/k=2\/k=3\/k=4\/k=5\/k=6\/k=7\/k=8\/k=9\/k=10\/k=11:=by omega
 rcases this with rfl | rfl | rfl | rfl | rfl | rfl | rfl | rfl | rfl | rfl | rfl<;>rfl
theorem L9 {d:aa} (h:bP d=0):gI d=some (wY d,()):=by
 have hok:=qD h
 have hlen:=rQ d
 obtain⟨h1,h2,h3,h4,_,h6,h7⟩:=lB h
 obtain⟨u1,u2,u3,u4,u5⟩:=xd h7
 have hj:=NY hlen (fun w hw=>(hok w hw).2.1)
 obtain⟨day,byy,no,k,line,art,q,unit,p,un,to⟩:=d
 dsimp only[sV,dQ,FE,FF,dTo] at*
 unfold gI
 dsimp only
 rw[iU (by omega) (by omega),VJ,show eP=some ([[],[98,117,121,101,114],[115,101,108,108,101,114]],()) from rfl,VJ,Sf h2,VJ,iU (by omega) (by omega),VJ,
  show dL=some ([]::bz,()) from rfl,VJ,QC h4,VJ,iU (n:=line) (by omega) (by omega),VJ,qZ,VJ]
 dsimp only
 refine (Ov (usA k) art _ _ _).trans ?_
 dsimp only
 refine (stepT (usQ k) _ (di q) (fun e=>yb (vE (u1 e))) _ (by have:=cO (usA k) art;simp;omega) _ _).trans ?_
 dsimp only
 refine (Rl (usA k) unit _ (by have:=cO (usA k) art;have:=cO (usQ k) (di q);simp;omega) _ _).trans ?_
 dsimp only
 refine (stepT (usP k) _ (di p) (fun e=>yb (vD (u2 e))) _ (by have:=cO (usA k) art;have:=cO (usQ k) (di q);have:=cO (usA k) unit;simp;omega) _ _).trans ?_
 dsimp only
 refine (stepT (usU k) _ (ez un) (fun e=>iU (by have:=mW (u3 e);omega) (by have:=mW (u3 e);omega)) _ (by have:=cO (usA k) art;have:=cO (usQ k) (di q);have:=cO (usA k) unit;have:=cO (usP k) (di p);simp;omega) _ _).trans ?_
 dsimp only
 have hlast:∀ v:List (List UInt8),v.length<=100->nh (v++one (usT k) (ez to))=some (wY (day,byy,no,k,line,art,q,unit,p,un,to),())->
  (bif usT k then Option.bind (strconv_Itoa to) fun r17=>chk (decide ((v.length+1)*16<=140737488355328)&&decide (v.length+1<=maxLen)) (Option.bind (nh (v++[r17.1])) fun r18=>some (r18.1,()))
  else Option.bind (nh v) fun r19=>some (r19.1,()))=some (wY (day,byy,no,k,line,art,q,unit,p,un,to),()):=by
  intro v hv hk
  cases ht:usT k with
  | true=>
   rw[ht] at hk
   rw[VW,iU (by have:=u6 (u5 ht);omega) (by have:=u6 (u5 ht);omega),VJ,aC (by rw[Tr];exact⟨VZ (by omega),VZ (by rw[bS];omega)⟩)]
   dsimp only
   rw[show v++[ez to]=v++one true (ez to) from rfl,hk];rfl
  | false=>
   rw[ht] at hk
   rw[VV]
   rw[show v++one false (ez to)=v from T6 v] at hk
   rw[hk];rfl
 refine hlast _ ?_ ?_
 ·have:=cO (usA k) art;have:=cO (usQ k) (di q);have:=cO (usA k) unit;have:=cO (usP k) (di p);have:=cO (usU k) (ez un)
  simp;omega
 ·exact hj
theorem SC (s c:List UInt8):rJ s c=strings_Split s c:=rfl
theorem MG {d:aa} (h:bP d=0):Al d=some (dH d,()):=by
 obtain⟨h1,h2,h3,h4,_,h6,h7⟩:=lB h
 obtain⟨u1,u2,u3,u4,u5⟩:=xd h7
 obtain⟨day,byy,no,k,line,art,q,unit,p,un,to⟩:=d
 dsimp only[sV,dQ,FE,FF,dTo] at*
 unfold Al
 dsimp only
 have hby:∀ (ρ:Type) (r:ρ),(bif byy==2 then some (Sum.inr (α:=List (List UInt8)×Unit) (([115,101,108,108,101,114]:List UInt8),r)) else some (Sum.inr ([98,117,121,101,114],r)))=some (Sum.inr (Bu byy,r)):=by
  intro ρ r
  unfold Bu
  cases (byy==2)<;>rfl
 refine (congrArg (fun o=>aF o _) (hby _ _)).trans ?_
 rw[au]
 dsimp only
 rw[iU (n:=day) (by omega) (by omega),VJ,iU (n:=no) (by omega) (by omega),VJ,SC,dK,VJ,O9 h4,VJ,iU (n:=line) (by omega) (by omega),VJ,CB h4,VJ]
 dsimp only
 unfold dH
 dsimp only
 cases hA:usA k with
 | true=>
  have hk1:k=1:=Wd hA
  subst hk1
  rw[VW,pK (vE (u1 rfl)),VJ,pK (vD (u2 rfl)),VJ,iU (by have:=mW (u3 rfl);omega) (by have:=mW (u3 rfl);omega),VJ]
  rfl
 | false=>
  rw[VV]
  refine (SZ (usQ k) _ (di q) (fun e=>pK (vE (u1 e))) _ _ _).trans ?_
  dsimp only
  refine (stepT (usP k) _ (di p) (fun e=>pK (vD (u2 e))) _ (by have:=cO (usQ k) (di q);simp;omega) _ _).trans ?_
  dsimp only
  refine (stepT (usU k) _ (ez un) (fun e=>iU (by have:=mW (u3 e);omega) (by have:=mW (u3 e);omega)) _ (by have:=cO (usQ k) (di q);have:=cO (usP k) (di p);simp;omega) _ _).trans ?_
  dsimp only
  rw[show one false art=[] from rfl,show one false unit=[] from rfl,T6,T6]
  cases ht:usT k with
  | true=>
   rw[VW,iU (by have:=u6 (u5 ht);omega) (by have:=u6 (u5 ht);omega),VJ,aC (by
    have:=cO (usQ k) (di q);have:=cO (usP k) (di p);have:=cO (usU k) (ez un)
    rw[Tr];exact⟨VZ (by simp;omega),VZ (by rw[bS];simp;omega)⟩)]
   rfl
  | false=>
   rw[VV,show one false (ez to)=[] from rfl,T6]
end Go.Md
namespace Go.Md
open Go.Dn
def eY (l:List aa):List UInt8:=(l.map wY).flatten
theorem BL:∀ {l:List aa},(∀ d,d∈l->bP d=0)->iI l=some (eY l)
 | [],_=>rfl
 | d::r,h=>by
  rw[iI,L9 (h d (by simp)),VJ,BL (fun x hx=>h x (by simp[hx])),VJ]
  rfl
theorem IW {d:aa} (h:bP d=0):(wY d).length<=452:=by
 have:=qP (rQ d) (fun w hw=>(qD h w hw).2.1)
 unfold wY
 rw[UG];simp;omega
theorem Ga:∀ {l:List aa},(∀ d,d∈l->bP d=0)->(eY l).length<=452*l.length
 | [],_=>by simp[eY]
 | d::r,h=>by
  have h1:=IW (h d (by simp))
  have h2:=Ga (l:=r) (fun x hx=>h x (by simp[hx]))
  unfold eY at h2 ⊢
  simp only[UR,List.flatten_cons,UG,UH]
  omega
theorem Ic {l:List aa} (h:fS l≠0):jF l=some ([],fS l,()):=by
 unfold jF
 rw[fe,VJ]
 dsimp only
 rw[show (fS l != 0)=true by simp[h],VW]
theorem Gg {l:List aa} (h:fS l=0):jF l=some (if 200000<(eY l).length then ([],2,()) else (eY l,0,())):=by
 obtain⟨h1,h2⟩:=sX h
 have hl:=Ga h2
 unfold jF
 rw[fe,VJ,h]
 dsimp only
 rw[show ((0:Int) != 0)=false from rfl,VV,BL h2,VJ,aC (VZ (by omega))]
 by_cases hb:200000<(eY l).length
 ·rw[V7 hb,aE (by omega)]
 ·rw[V6 hb,aK (by omega)]
theorem MF {l:List aa} (ht:∀ d,d∈l->Txt d) (h:fS l≠0):vp l=some ([],fS l,()):=by
 unfold vp
 rw[vX l ht,VJ]
 dsimp only
 rw[show (fS l != 0)=true by simp[h],VW]
theorem Gq (l:List aa) (h2:∀ d,d∈l->bP d=0) (hl:l.length<=2000):∀ (f i:Nat) (r:List aa) (acc:List UInt8),l.drop i=r->i+r.length=l.length->r.length<f->acc.length+452*r.length<=1000000-> iter f ((acc,l,(l.length:Int),(i:Int),()):uY) gO=some (Sum.inr (acc++eY r,()))
 | 0,_,_,_,_,_,h,_=>by omega
 | f+1,i,[],acc,hd,hi,_,_=>by
  show gO _ (fun y=>iter f y gO)=_
  generalize (fun y=>iter f y gO)=again
  unfold gO
  dsimp only
  simp only[UL] at hi
  rw[aK (by omega)]
  simp[eY]
 | f+1,i,d::r,acc,hd,hi,hf,ha=>by
  simp only[UH] at hi hf ha
  show gO _ (fun y=>iter f y gO)=_
  generalize hag:(fun y=>iter f y gO)=again
  unfold gO
  dsimp only
  have hy:l[i]? =some d:=by
   have e:=congrArg (fun q:List aa=>q[0]?) hd
   simpa using e
  have hdm:d∈l:=U3 hy
  have h0:=h2 d hdm
  have hln:=IW h0
  have hj:=qP (rQ d) (fun w hw=>(qD h0 w hw).2.1)
  rw[aE (by omega),cN,hy,VJ,MG h0,VJ,GN (rQ d) (fun w hw=>(qD h0 w hw).2.1),VJ]
  dsimp only
  rw[aC (VZ (by rw[bS];simp;omega)),aC (VZ (by rw[bS,UG];simp;omega)),az (by omega) (by omega), <- hag]
  have hd2:l.drop (i+1)=r:=by
   have:=congrArg (List.drop 1) hd
   rw[Ua] at this
   simpa using this
  have:=Gq l h2 hl f (i+1) r (acc++wY d) hd2 (by omega) (by omega) (by rw[UG];omega)
  rw[show (((i+1:Nat):Int))=(i:Int)+1 by omega] at this
  refine this.trans ?_
  simp[eY]
theorem Lt {l:List aa} (ht:∀ d,d∈l->Txt d) (h:fS l=0):vp l=some (if 200000<(eY l).length then ([],2,()) else (eY l,0,())):=by
 obtain⟨h1,h2⟩:=sX h
 unfold vp
 rw[vX l ht,VJ,h]
 dsimp only
 rw[show ((0:Int) != 0)=false from rfl,VV]
 have hg:=Gq l h2 h1 (List.length ([]:List UInt8)+(List.length l+(Int.natAbs ((List.length l:Int))+(Int.natAbs (0:Int)+2)))) 0 l [] rfl (by simp) (by omega) (by simp;omega)
 rw[show (((0:Nat):Int))=0 from rfl] at hg
 rw[hg,au]
 dsimp only
 rw[U8]
 by_cases hb:200000<(eY l).length
 ·rw[V7 hb,aE (by omega)]
 ·rw[V6 hb,aK (by omega)]
theorem FW {k:Int} (h:1<=k/\k<=11):aY (yI k) ([]::bz) 0=k:=by
 have:k=1\/k=2\/k=3\/k=4\/k=5\/k=6\/k=7\/k=8\/k=9\/k=10\/k=11:=by omega
 rcases this with rfl | rfl | rfl | rfl | rfl | rfl | rfl | rfl | rfl | rfl | rfl<;>rfl
theorem KU {b:Int} (h:1<=b/\b<=2):aY (Bu b) byW 0=b:=by
 have:b=1\/b=2:=by omega
 rcases this with rfl | rfl<;>rfl
theorem yK {n:Int} (h0:0<=n) (h:n<=999999999999999):av (ez n)=true:=Gd (by have:(10:Nat) ^ 16=10000000000000000:=rfl;omega)
theorem Ck {n:Int} (h0:0<=n) (h:n<=999999999999999):bX (ez n)=n:=by
 unfold ez
 rw[PC (by have:(10:Nat) ^ 16=10000000000000000:=rfl;omega)];omega
theorem PV {d:aa} (h:bP d=0):aQ (Lib.join (dH d) [32])=some (d,true,()):=by
 have hok:=qD h
 have hlen:=rQ d
 have hs:(Lib.join (dH d) [32]).length<=1000000:=by have:=qP hlen (fun w hw=>(hok w hw).2.1);omega
 have hW:aA 32 (Lib.join (dH d) [32])=dH d:=AS 32 _ (by unfold dH;simp) (fun w hw=>(hok w hw).2.2.1)
 have hf:cK (dH d)=true:=by
  unfold cK
  rw[TZ]
  intro w hw
  have:=(hok w hw).1
  simp[this]
 have hm:SmW (dH d):=fun w hw=>by have:=(hok w hw).2.1;omega
 obtain⟨h1,h2,h3,h4,_,h6,h7⟩:=lB h
 obtain⟨u1,u2,u3,u4,u5⟩:=xd h7
 obtain⟨r1,r2,r3,r4,r5⟩:=Qg h7
 have hkf:eD (dH d)=d.2.2.2.1:=FW h4
 have hb5:jV (dH d)=false:=by
  show (((((false|| !av (ez d.1))||(false||decide (aY (Bu d.2.1) byW 0<1)))|| !av (ez d.2.2.1))||(false||decide (aY (yI d.2.2.2.1) ([]::bz) 0<1)))|| !av (ez d.2.2.2.2.1))=false
  rw[yK (by omega) (by omega),yK (by omega) (by omega),yK (by omega) (by omega),KU h2,FW h4,VY (by omega),VY (by omega)];rfl
 have hh:(dH d).headD []=ez d.1:=rfl
 have hh1:aY ((dH d).tail.headD []) byW 0=d.2.1:=KU h2
 have hh2:bX ((dH d).tail.tail.headD [])=d.2.2.1:=Ck (by omega) (by omega)
 have hh4:bX ((dH d).tail.tail.tail.tail.headD [])=d.2.2.2.2.1:=Ck (by omega) (by omega)
 have hh0:bX ((dH d).headD [])=d.1:=Ck (by omega) (by omega)
 have hr5:aG (dH d)=((((one (usA d.2.2.2.1) d.2.2.2.2.2.1++one (usQ d.2.2.2.1) (di d.2.2.2.2.2.2.1))++one (usA d.2.2.2.1) d.2.2.2.2.2.2.2.1)++one (usP d.2.2.2.1) (di d.2.2.2.2.2.2.2.2.1))++one (usU d.2.2.2.1) (ez d.2.2.2.2.2.2.2.2.2.1))++one (usT d.2.2.2.1) (ez d.2.2.2.2.2.2.2.2.2.2):=by
  unfold aG dH
  simp only[T4,T7,U8,Vd]
 have huk:=qZ (eD (dH d))
 rw[hkf] at huk
 obtain⟨day,byy,no,k,line,art,q,unit,p,un,to⟩:=d
 dsimp only[sV,dQ,FE,FF,dTo] at*
 generalize dH (day,byy,no,k,line,art,q,unit,p,un,to)=W at*
 have hk:k=1\/k=2\/k=3\/k=4\/k=5\/k=6\/k=7\/k=8\/k=9\/k=10\/k=11:=by omega
 have tq:∀ {q:ah} {z:Bool},qOk q z=true->bG (di q)=(q,0):=fun e=>GR (vE e)
 have tp:∀ {q:ah} {a b c:Int},inR q a b c=true->bG (di q)=(q,0):=fun e=>GR (vD e)
 have tu:∀ {n:Int},mM n=true->bX (ez n)=n/\av (ez n)=true:=fun e=>⟨Ck (by have:=mW e;omega) (by have:=mW e;omega),yK (by have:=mW e;omega) (by have:=mW e;omega)⟩
 have tt:∀ {n:Int},pV n=true->bX (ez n)=n/\av (ez n)=true:=fun e=>⟨Ck (by have:=u6 e;omega) (by have:=u6 e;omega),yK (by have:=u6 e;omega) (by have:=u6 e;omega)⟩
 have caseQ:usA k=false->usQ k=true->usP k=false->usU k=false->usT k=false->aQ (Lib.join W [32])=some ((day,byy,no,k,line,art,q,unit,p,un,to),true,()):=by
  intro a1 a2 a3 a4 a5
  rw[a1,a2,a3,a4,a5] at huk hr5
  have hr5:aG W=[di q]:=hr5
  rw[Ap hs hW hf hm (by rw[hkf];exact huk),hh0,hh1,hh2,hkf,hh4,hb5,hr5]
  simp only[UE,Vd,tq (u1 a2)]
  rw[(r1 a1).1,(r1 a1).2,r3 a3,r4 a4,r5 a5];rfl
 have caseB:usA k=false->usQ k=true->usP k=false->usU k=true->usT k=false->aQ (Lib.join W [32])=some ((day,byy,no,k,line,art,q,unit,p,un,to),true,()):=by
  intro a1 a2 a3 a4 a5
  rw[a1,a2,a3,a4,a5] at huk hr5
  have hr5:aG W=[di q,ez un]:=hr5
  rw[An hs hW hf hm (by rw[hkf];exact huk),hh0,hh1,hh2,hkf,hh4,hb5,hr5]
  simp only[UE,Vd,tq (u1 a2),(tu (u3 a4)).1,(tu (u3 a4)).2]
  rw[(r1 a1).1,(r1 a1).2,r3 a3,r5 a5];rfl
 have caseP:usA k=false->usQ k=false->usP k=true->usU k=false->usT k=false->aQ (Lib.join W [32])=some ((day,byy,no,k,line,art,q,unit,p,un,to),true,()):=by
  intro a1 a2 a3 a4 a5
  rw[a1,a2,a3,a4,a5] at huk hr5
  have hr5:aG W=[di p]:=hr5
  rw[Ao hs hW hf hm (by rw[hkf];exact huk),hh0,hh1,hh2,hkf,hh4,hb5,hr5]
  simp only[UE,Vd,tp (u2 a3)]
  rw[(r1 a1).1,(r1 a1).2,r2 a2,r4 a4,r5 a5];rfl
 have caseU:usA k=false->usQ k=false->usP k=false->usU k=true->usT k=false->aQ (Lib.join W [32])=some ((day,byy,no,k,line,art,q,unit,p,un,to),true,()):=by
  intro a1 a2 a3 a4 a5
  rw[a1,a2,a3,a4,a5] at huk hr5
  have hr5:aG W=[ez un]:=hr5
  rw[Ar hs hW hf hm (by rw[hkf];exact huk),hh0,hh1,hh2,hkf,hh4,hb5,hr5]
  simp only[UE,Vd,(tu (u3 a4)).1,(tu (u3 a4)).2]
  rw[(r1 a1).1,(r1 a1).2,r2 a2,r3 a3,r5 a5];rfl
 have caseT:usA k=false->usQ k=false->usP k=false->usU k=false->usT k=true->aQ (Lib.join W [32])=some ((day,byy,no,k,line,art,q,unit,p,un,to),true,()):=by
  intro a1 a2 a3 a4 a5
  rw[a1,a2,a3,a4,a5] at huk hr5
  have hr5:aG W=[ez to]:=hr5
  rw[Aq hs hW hf hm (by rw[hkf];exact huk),hh0,hh1,hh2,hkf,hh4,hb5,hr5]
  simp only[UE,Vd,(tt (u5 a5)).1,(tt (u5 a5)).2]
  rw[(r1 a1).1,(r1 a1).2,r2 a2,r3 a3,r4 a4];rfl
 have caseA:usA k=true->usQ k=true->usP k=true->usU k=true->usT k=false->aQ (Lib.join W [32])=some ((day,byy,no,k,line,art,q,unit,p,un,to),true,()):=by
  intro a1 a2 a3 a4 a5
  rw[a1,a2,a3,a4,a5] at huk hr5
  have hr5:aG W=[art,di q,unit,di p,ez un]:=hr5
  rw[Am hs hW hf hm (by rw[hkf];exact huk),hh0,hh1,hh2,hkf,hh4,hb5,hr5]
  simp only[UE,Vd,tq (u1 a2),tp (u2 a3),(tu (u3 a4)).1,(tu (u3 a4)).2]
  rw[r5 a5];rfl
 rcases hk with rfl | rfl | rfl | rfl | rfl | rfl | rfl | rfl | rfl | rfl | rfl
 ·exact caseA rfl rfl rfl rfl rfl
 ·exact caseQ rfl rfl rfl rfl rfl
 ·exact caseU rfl rfl rfl rfl rfl
 ·exact caseP rfl rfl rfl rfl rfl
 ·exact caseT rfl rfl rfl rfl rfl
 ·exact caseT rfl rfl rfl rfl rfl
 ·exact caseB rfl rfl rfl rfl rfl
 ·exact caseT rfl rfl rfl rfl rfl
 ·exact caseQ rfl rfl rfl rfl rfl
 ·exact caseQ rfl rfl rfl rfl rfl
 ·exact caseQ rfl rfl rfl rfl rfl
theorem RI {d:aa} (h:bP d=0):oR (Lib.join (dH d) [32])=(d,true,()):=by
 unfold oR;rw[PV h];rfl
theorem Gu (e:Bool) (he:e=true):∀ (l acc:List aa) (n:Int),(∀ d,d∈l->bP d=0)->xR e (l.map fun d=>Lib.join (dH d) [32]) acc n= .inr (acc++l,())
 | [],acc,n,_=>by simp[xR]
 | d::r,acc,n,h=>by
  subst he
  simp only[UR,xR]
  rw[RI (h d (by simp))]
  simp only[TG,TB,Tx,VV]
  rw[Gu true rfl r (acc++[d]) (n+1) (fun x hx=>h x (by simp[hx]))]
  simp
theorem Ax:∀ L:List (List UInt8),Aw true L=(L.map fun w=>w++[10]).flatten
 | []=>rfl
 | w::M=>by
  rw[Aw,Ax M]
  cases M with
  | nil=>simp
  | cons a r=>simp
theorem IX:∀ (L M:List (List UInt8)),(∀ w,w∈L->(10:UInt8)∉w)->(∀ w,w∈M->(10:UInt8)∉w)->(L.map fun w=>w++[10]).flatten=(M.map fun w=>w++[10]).flatten->L=M
 | [],[],_,_,_=>rfl
 | [],b::s,_,_,h=>by simp at h
 | a::r,[],_,_,h=>by simp at h
 | a::r,b::s,h1,h2,h=>by
  simp only[UR,List.flatten_cons,T4,Vb] at h
  have e:=congrArg (dM 10) h
  rw[zy 10 _ _ (h1 a (by simp)),zy 10 _ _ (h2 b (by simp))] at e
  simp only[Prod.mk.injEq,VR] at e
  rw[e.1,IX r s (fun w hw=>h1 w (by simp[hw])) (fun w hw=>h2 w (by simp[hw])) e.2]
theorem Mt {l:List aa} (h:l≠[]):(eY l).getLast? =some 10:=by
 obtain⟨i,x,rfl⟩:∃ i x,l=i++[x]:=⟨l.dropLast,l.getLast h,(List.dropLast_concat_getLast h).symm⟩
 simp[eY,wY]
theorem PX {l:List aa} (h:fS l=0) (hl:(eY l).length<=200000):qY (eY l)=some (l,0,0,()):=by
 obtain⟨h1,h2⟩:=sX h
 unfold qY
 rw[aK (by omega)]
 obtain⟨L,e,g1,g2,g3,g4,g5,g6⟩:=K4 (eY l) (by omega)
 rw[g1,VJ]
 dsimp only
 have hLe:L=(l.map fun d=>Lib.join (dH d) [32])/\(L≠[]->e=true):=by
  by_cases hl0:l=[]
  ·subst hl0
   have hL:L=[]:=by
    cases L with
    | nil=>rfl
    | cons a M=>
     exfalso
     cases e with
     | true=>rw[Ax] at g2;simp[eY] at g2
     | false=>exact (g6 rfl (by simp)).1 rfl
   subst hL
   exact⟨rfl,fun h=>absurd rfl h⟩
  ·have hlast:=Mt hl0
   have hne:L≠[]:=fun hL=>by
    subst hL
    have:eY l=[]:=g2.symm
    rw[this] at hlast;cases hlast
   have he:e=true:=by
    cases e with
    | true=>rfl
    | false=>exact absurd hlast (g6 rfl hne).2
   subst he
   refine⟨IX L _ g3 (fun w hw=> ?_) ?_,fun _=>rfl⟩
   ·obtain⟨d,hd,rfl⟩:=U2.1 hw
    intro hc
    rcases Lf hc with hc | ⟨x,hx,hc⟩
    ·cases hc
    ·exact (qD (h2 d hd) x hx).2.2.2 hc
   ·rw[<- Ax,g2]
    unfold eY
    rw[US]
    rfl
 obtain⟨hLe,hee⟩:=hLe
 rw[PW e L (by omega) g5 _ (by omega)]
 have hrun:xR e L [] 1= .inr (l,()):=by
  by_cases hL:L=[]
  ·rw[hL] at hLe ⊢
   have:l=[]:=List.map_eq_nil_iff.1 hLe.symm
   rw[this];rfl
  ·rw[hLe,Gu e (hee hL) l [] 1 h2,U8]
 rw[hrun,au,fe,VJ,h]
 rfl
theorem law_OrderTextsMatchSpec (l:List aa) (ht:∀ d,d∈l->Txt d):gL l=some (true,()):=by
 unfold gL
 by_cases h:fS l=0
 ·rw[Gg h,Lt ht h,VJ,VJ]
  by_cases hb:200000<(eY l).length
  ·rw[V7 hb]
   dsimp only
   rw[Kl]
   rfl
  ·rw[V6 hb]
   dsimp only
   rw[Kl,PX h (by omega)]
   simp only[VJ]
   rw[xV l (sX h).1]
   simp
 ·rw[Ic h,MF ht h,VJ,VJ]
  dsimp only
  rw[Kl]
  have hb:(fS l != 0)=true:=by simp[h]
  simp[hb]
end Go.Md
