/-
  Plain facts: numbers, decimals, words written and read back; the plain law. No condition.
-/
import Derived.Test.YtjlkkapojeldlaaGreatDoorYf
import Derived.Test.YtjlkkapojeldlaaGreatDoorYt
import Derived.Lib.ItoaNum
import Derived.Lib.Join
import Derived.Test.YtjlkkapojeldlaaGreatDoorYh
import Derived.Test.YtjlkkapojeldlaaGreatDoorYg
import Derived.Test.YtjlkkapojeldlaaGreatDoorYp
import Derived.Test.YtjlkkapojeldlaaGreatDoorYs
set_option linter.all false
set_option linter.all false
namespace Go.Md
open Go.Dn
noncomputable section
def parcTextsC:List UInt8->List aa->Option (Option (List UInt8))
 | b,[]=>some (some b)
 | b,p::r=>Option.bind (uj p) fun s=>chk (decide ((b++s).length<=140737488355328)) <| bif decide (((b++s).length:Int)>300000) then some none else parcTextsC (b++s) r
def lA (a:ai):Option (List UInt8×Int×Unit):=
 Option.bind (cg a) fun r1=>
 bif r1.1 != 0 then some ([],r1.1,()) else
 Option.bind (strconv_Itoa a.2.2.1) fun n=>
 Option.bind (gv [[97,100,118,105,99,101],a.1,a.2.1,n.1]) fun s=>
 chk (decide (s.1.length<=140737488355328)) <|
 Option.bind (parcTextsC s.1 a.2.2.2) fun t=>
 some (t.getD [],(bif t.isSome then (0:Int) else 2),())
def fy (a0:ai):Option (Bool×Unit):=
 Option.bind (lA a0) fun r1=>
 Option.bind (BP a0) fun r2=>
 bif r1.2.1 != r2.2.1 then
  some (false,())
 else
  bif !(r1.1==r2.1) then
   some (false,())
  else
   Option.bind (DD) fun r3=>
   bif !r3.1 then
    some (false,())
   else
    bif r1.2.1 != 0 then
     some (true,())
    else
     Option.bind (mZ r1.1) fun r4=>
     Option.bind (
      bif r4.2.2.1==0 then
       bif r4.2.1==0 then
        Option.bind (BO a0 r4.1) fun r5=>
        some (r5.1,())
       else
        some (false,())
      else
       some (false,())) fun v6=>
     some (v6.1,())
end
end Go.Md
namespace Go.Md
open Go.Dn
theorem xk (n:Nat):Lib.decDigits n≠[]:=by
 rw[Lib.decDigits]
 split<;>simp
theorem EN {d:Nat} (h:d<10):(UInt8.ofNat (48+d)).toNat=48+d:=by
 rw[UInt8.toNat_ofNat'];omega
theorem HO {d:Nat} (h:d<10):bO (UInt8.ofNat (48+d))=true:=by
 rw[tU,EN h];omega
theorem tQ (n:Nat):(Lib.decDigits n).all bO=true:=by
 induction n using Nat.strongRecOn with
 | _ n ih=>
  rw[Lib.decDigits]
  split
  ·rename_i h;simp only[Wu,List.all_nil,V2];exact HO h
  ·rename_i h
   rw[Wt,ih (n / 10) (by omega)]
   simp only[Wu,List.all_nil,V2,Wg]
   exact HO (Nat.mod_lt _ (by omega))
theorem z8 (n:Nat):eg (Lib.decDigits n)=n:=by
 induction n using Nat.strongRecOn with
 | _ n ih=>
  rw[Lib.decDigits]
  split
  ·rename_i h
   show eg ([]++[UInt8.ofNat (48+n)])=n
   rw[Dh,EN h];simp[eg]
  ·rename_i h
   rw[Dh,ih (n / 10) (by omega),EN (Nat.mod_lt _ (by omega))]
   omega
theorem gE {n k:Nat} (h:n<10 ^ (k+1)):(Lib.decDigits n).length<=k+1:=by
 rw[Lib.decDigits_length]
 induction k generalizing n with
 | zero=>rw[Lib.nDigits_small (by simpa using h)];exact Yc _
 | succ k ih=>
  by_cases h10:n<10
  ·rw[Lib.nDigits_small h10];omega
  ·rw[Lib.nDigits_big h10]
   have:=ih (n:=n / 10) (by rw[Yq] at h;omega)
   omega
theorem Nt {l:List UInt8} (h:l≠[]) (m:List UInt8):(l++m).head? =l.head? :=by
 cases l with
 | nil=>exact absurd rfl h
 | cons _ _=>rfl
theorem JC (n:Nat) (h:0<n):(Lib.decDigits n).head? ≠some 48:=by
 induction n using Nat.strongRecOn with
 | _ n ih=>
  rw[Lib.decDigits]
  split
  ·rename_i h10
   simp only[Xk,ne_eq,Option.some.injEq]
   intro e
   have:=congrArg UInt8.toNat e
   rw[EN h10] at this
   have e48:(48:UInt8).toNat=48:=rfl
   omega
  ·rename_i h10
   rw[Nt (xk _)]
   exact ih (n / 10) (by omega) (by omega)
theorem z7:Lib.decDigits 0=[48]:=by rw[Lib.decDigits];rfl
theorem z6 (n:Nat):(decide (1<(Lib.decDigits n).length)&&(Lib.decDigits n).head? ==some 48)=false:=by
 rcases X9 n with rfl | h
 ·rw[z7];rfl
 ·have:=JC n h
  rw[VY]
  exact .inr (YB.2 this)
theorem B8 (n:Nat) (c:UInt8) (h:bO c=false):c∉Lib.decDigits n:=fun hc=>by
 have:=Wv.1 (tQ n) c hc
 rw[h] at this;cases this
theorem Ip {n:Nat} (h:n<10 ^ 16):wO (Lib.decDigits n)=true:=by
 unfold wO
 have h1:(Lib.decDigits n==[])=false:=YB.2 (xk n)
 have h2:(Lib.decDigits n).length<=16:=gE (k:=15) (by omega)
 rw[h1,YJ h2,z6 n,tQ n];rfl
theorem Sk {n:Nat} (h:n<10 ^ 16):GH (Lib.decDigits n)=(n:Int):=by
 unfold GH
 rw[Ip h,YG,z8]
theorem Cp (c:UInt8):∀ w:List UInt8,c∉w->aS c w=[w]
 | [],_=>rfl
 | b::r,h=>by
  have hb:(b==c)=false:=YB.2 fun e=>h (by simp[e])
  simp only[aS,hb,YF]
  rw[Cp c r (fun hc=>h (by simp[hc]))]
theorem Eh (c:UInt8):∀ (w t:List UInt8),c∉w->aS c (w++c::t)=w::aS c t
 | [],t,_=>by simp[aS]
 | b::r,t,h=>by
  have hb:(b==c)=false:=YB.2 fun e=>h (by simp[e])
  simp only[WB,aS,hb,YF]
  rw[Eh c r t (fun hc=>h (by simp[hc]))]
theorem oO (c:UInt8) (w v:List UInt8) (r:List (List UInt8)):Lib.join (w::v::r) [c]=w++c::Lib.join (v::r) [c]:=by
 simp[Lib.join,List.intercalate,List.intersperse]
theorem Co (c:UInt8):∀ l:List (List UInt8),l≠[]->(∀ w,w∈l->c∉w)->aS c (Lib.join l [c])=l
 | [],h,_=>absurd rfl h
 | [w],_,h=>by
  rw[Lib.join_one];exact Cp c w (h w (by simp))
 | w::v::r,_,h=>by
  rw[oO,Eh c w _ (h w (by simp)),Co c (v::r) (by simp) (fun x hx=>h x (by simp[hx]))]
theorem NL {c d:UInt8}:∀ {l:List (List UInt8)},d∈Lib.join l [c]->d=c\/∃ w,w∈l/\d∈w
 | [],h=>by simp[Lib.join_nil] at h
 | [w],h=>by rw[Lib.join_one] at h;exact .inr ⟨w,by simp,h⟩
 | w::v::r,h=>by
  rw[oO] at h
  simp only[Xy,XB] at h
  rcases h with h | h | h
  ·exact .inr ⟨w,by simp,h⟩
  ·exact .inl h
  ·rcases NL h with h | ⟨x,hx,hd⟩
   ·exact .inl h
   ·exact .inr ⟨x,XC _ hx,hd⟩
theorem Nx (c:UInt8):∀ l:List (List UInt8),(Lib.join l [c]).length<=(l.map fun w=>w.length+1).sum
 | []=>by simp[Lib.join_nil]
 | [w]=>by rw[Lib.join_one];simp
 | w::v::r=>by
  rw[oO]
  have:=Nx c (v::r)
  simp only[Xw,List.sum_cons,Xl,Xm] at this ⊢
  omega
end Go.Md
namespace Go.Md
open Go.Dn
def bw (n p:Nat):List UInt8:=List.replicate (p+1 - (Lib.decDigits n).length) 48++Lib.decDigits n
def jF (n p:Nat):List UInt8:=bif p==0 then bw n p else (bw n p).take ((bw n p).length - p)++46::(bw n p).drop ((bw n p).length - p)
def iA (d:ah):List UInt8:=(bif decide (d.1<0) then [45] else [])++jF d.1.natAbs d.2.toNat
theorem rK (n p:Nat):(bw n p).all bO=true:=by
 unfold bw
 rw[Wt,tQ,V2,Wv]
 intro c hc
 rw[List.eq_of_mem_replicate hc];rfl
theorem Qm (k:Nat) (s:List UInt8):eg (List.replicate k 48++s)=eg s:=by
 unfold eg
 rw[List.foldl_append]
 congr 1
 induction k with
 | zero=>rfl
 | succ k ih=>rw[XR,WR];exact ih
theorem RG (n p:Nat):eg (bw n p)=n:=by
 unfold bw;rw[Qm,z8]
theorem BM (n p:Nat):(bw n p).length=max (p+1) (Lib.decDigits n).length:=by
 unfold bw;rw[Xl,Xr];omega
theorem mY (n p:Nat):p<(bw n p).length:=by rw[BM];omega
theorem MC {s:List UInt8} (h:s.all bO=true) (k:Nat):(s.take k).all bO=true:=by
 rw[Wv] at h ⊢
 exact fun c hc=>h c (XI hc)
theorem S9 {s:List UInt8} (h:s.all bO=true) (k:Nat):(s.drop k).all bO=true:=by
 rw[Wv] at h ⊢
 exact fun c hc=>h c (List.mem_of_mem_drop hc)
theorem FH {s:List UInt8} (h:s.all bO=true) {c:UInt8} (hc:bO c=false):c∉s:=fun hm=>by
 have:=Wv.1 h c hm
 rw[hc] at this;cases this
theorem CU (n p:Nat):uB ((bw n p).take ((bw n p).length - p))=true:=by
 have hl:((bw n p).take ((bw n p).length - p)).length=(bw n p).length - p:=by rw[Xt];omega
 have hne:(bw n p).take ((bw n p).length - p)≠[]:=fun e=>by
  have:=congrArg List.length e
  rw[hl] at this
  have:=mY n p
  simp at *;omega
 have hform:(decide (1<((bw n p).take ((bw n p).length - p)).length)&&((bw n p).take ((bw n p).length - p)).head? ==some 48)=false:=by
  by_cases h:p+1<(Lib.decDigits n).length
  ·have e:bw n p=Lib.decDigits n:=by
    unfold bw;rw[show p+1 - (Lib.decDigits n).length=0 by omega];rfl
   rw[e]
   have hf:=z6 n
   rw[YJ (by omega),Wg] at hf
   rw[VY]
   right
   rw[List.head?_take,YQ (by omega)]
   exact hf
  ·rw[VY]
   left
   rw[hl,BM]
   exact YI (by omega)
 unfold uB
 rw[YJ hne,MC (rK n p),hform];rfl
theorem CX (n p:Nat):dz 46 (jF n p)=((bw n p).take ((bw n p).length - p),(bw n p).drop ((bw n p).length - p), !(p==0)):=by
 unfold jF
 cases hp:(p==0) with
 | true=>
  have:p=0:=eq_of_beq hp
  subst this
  rw[YG,KR 46 _ (FH (rK n 0) rfl),Nat.sub_zero,XZ,List.drop_length];rfl
 | false=>
  rw[YF,A6 46 _ _ (FH (MC (rK n p) _) rfl)];rfl
theorem Tc (n p:Nat) (hp:p<=9):Mj (dz 46 (jF n p))=true:=by
 rw[CX]
 unfold Mj
 dsimp only
 rw[CU,Wg]
 cases h:(p==0) with
 | true=>rfl
 | false=>
  have h0:p≠0:=fun e=>by subst e;cases h
  have hl:((bw n p).drop ((bw n p).length - p)).length=p:=by
   rw[Xn];have:=mY n p;omega
  have hne:(bw n p).drop ((bw n p).length - p)≠[]:=fun e=>h0 (by have:=congrArg List.length e;rw[hl] at this;exact this)
  rw[Wc,YG,YJ hne,S9 (rK n p),YJ (by omega)];rfl
theorem KN (n p:Nat):(jF n p).length<=(bw n p).length+1:=by
 unfold jF
 cases (p==0) with
 | true=>rw[YG];omega
 | false=>
  rw[YF,Xl,Xm,Xt,Xn];omega
theorem MJ (n p:Nat):jF n p≠[]:=fun e=>by
 have h:=CX n p
 rw[e] at h
 have h1:[]=(bw n p).take ((bw n p).length - p):=congrArg (·.1) h
 have h2:=CU n p
 rw[<- h1] at h2
 cases h2
theorem Qd (n p:Nat):(jF n p).head? ≠some 45:=by
 have hm:∀ c,(jF n p).head? =some c->bO c=true:=by
  intro c hc
  have hb:(bw n p).all bO=true:=rK n p
  unfold jF at hc
  cases h:(p==0) with
  | true=>
   rw[h,YG] at hc
   exact Wv.1 hb c (List.mem_of_mem_head? hc)
  | false=>
   rw[h,YF] at hc
   have hne:(bw n p).take ((bw n p).length - p)≠[]:=fun e=>by
    have:=congrArg List.length e
    rw[Xt] at this
    have:=mY n p
    simp at *;omega
   rw[Nt hne] at hc
   exact Wv.1 hb c (XI (List.mem_of_mem_head? hc))
 intro h
 have:=hm 45 h
 cases this
theorem Q9 (d:ah):kj (iA d)=(decide (d.1<0),jF d.1.natAbs d.2.toNat):=by
 unfold iA
 cases h:decide (d.1<0) with
 | true=>rfl
 | false=>
  rw[YF,XM]
  have hne:=MJ d.1.natAbs d.2.toNat
  have hh:=Qd d.1.natAbs d.2.toNat
  generalize jF d.1.natAbs d.2.toNat=s at hne hh ⊢
  cases s with
  | nil=>exact absurd rfl hne
  | cons b r=>
   have hb:(b==45)=false:=YB.2 fun e=>hh (by rw[e];rfl)
   simp[kj,hb]
theorem tP {d:ah} (h:dw d):(iA d).length<=19:=by
 obtain⟨h1,h3,h4⟩:=h
 have h5:(Lib.decDigits d.1.natAbs).length<=16:=gE (k:=15) (by have:(10:Nat) ^ (15+1)=10000000000000000:=rfl;omega)
 have h6:=KN d.1.natAbs d.2.toNat
 rw[BM] at h6
 unfold iA
 rw[Xl]
 cases decide (d.1<0)<;>simp<;>omega
theorem IZ {d:ah} (h:dw d):kU (iA d)=(d,0):=by
 have hl:=tP h
 obtain⟨h1,h3,h4⟩:=h
 unfold kU
 rw[YI (by omega),YF,Q9]
 dsimp only
 rw[Tc _ _ (by omega),YG,CX]
 unfold Im
 dsimp only
 rw[XX,RG]
 have e:(((bw d.1.natAbs d.2.toNat).drop ((bw d.1.natAbs d.2.toNat).length - d.2.toNat)).length:Int)=d.2:=by
  rw[Xn]
  have:=mY d.1.natAbs d.2.toNat
  omega
 rw[e]
 obtain⟨a,b⟩:=d
 simp only at h1 h3 h4 ⊢
 rw[YJ (show a.natAbs<=1000000000000000 by omega)]
 by_cases hn:a<0
 ·rw[YJ hn,YI (show ¬ a.natAbs=0 by omega)]
  simp only[V0,YF,YG]
  congr 2
  omega
 ·rw[YI hn]
  simp only[V3,YF,YG]
  congr 2
  omega
theorem T6 (d:ah):iA d≠[]:=fun e=>by
 unfold iA at e
 exact MJ _ _ (List.append_eq_nil_iff.1 e).2
theorem Sf {n p:Nat} {c:UInt8} (h:c∈jF n p):bO c=true\/c=46:=by
 have hb:∀ c,c∈bw n p->bO c=true:=Wv.1 (rK n p)
 unfold jF at h
 cases hp:(p==0) with
 | true=>rw[hp,YG] at h;exact .inl (hb c h)
 | false=>
  rw[hp,YF] at h
  simp only[Xy,XB] at h
  rcases h with h | h | h
  ·exact .inl (hb c (XI h))
  ·exact .inr h
  ·exact .inl (hb c (List.mem_of_mem_drop h))
theorem DL (d:ah) {c:UInt8} (h:bO c=false) (h1:c≠46) (h2:c≠45):c∉iA d:=fun hc=>by
 unfold iA at hc
 rcases Xy.1 hc with hc | hc
 ·cases hd:decide (d.1<0) with
  | true=>rw[hd] at hc;simp at hc;exact h2 hc
  | false=>rw[hd] at hc;simp at hc
 ·rcases Sf hc with hc | hc
  ·rw[h] at hc;cases hc
  ·exact h1 hc
end Go.Md
namespace Go.Md
open Go.Dn
theorem Th (n:Nat) (h:n<100):Lib.decDigits n=M0 n:=by
 unfold M0
 rw[Lib.decDigits]
 by_cases h1:n<10
 ·simp[h1]
 ·rw[dif_neg h1,Lib.decDigits,dif_pos (by omega),YQ h1];rfl
theorem PA {n:Nat} (h:n<=9223372036854775807):strconv_Itoa (n:Int)=some (Lib.decDigits n,()):=by
 unfold strconv_Itoa
 by_cases h1:n<100
 ·rw[show (decide (0<=(n:Int))&&decide ((n:Int)<100))=true by rw[VZ];exact⟨YJ (by omega),YJ (by omega)⟩,YG,Ws,Th n h1]
 ·rw[show (decide (0<=(n:Int))&&decide ((n:Int)<100))=false by rw[YI (show ¬(n:Int)<100 by omega),V0],YF,
   show (decide (-9223372036854775808<=(n:Int))&&decide ((n:Int)<=9223372036854775807))=true by rw[VZ];exact⟨YJ (by omega),YJ (by omega)⟩,YG]
  unfold Lib.itoa
  rw[YQ (by omega),Ws]
theorem SH (k:Nat) (h:k<=1000):strings_Repeat [48] (k:Int)=some (Lib.repeatL [48] k,()):=by
 unfold strings_Repeat
 rw[Ws,show (decide (0<=(k:Int))&&(decide ((k:Int)<=9223372036854775807)&&decide ([(48:UInt8)].length*k<=140737488355328)))=true by
  rw[VZ,VZ]
  exact⟨YJ (by omega),YJ (by omega),YJ (by simp;omega)⟩,YG]
theorem Tk (r d:Nat) (hr:r<10) (hd:d<4294967296):nE (r:Int) (d:Int) 10=some ((((r*4294967296+d) / 10:Nat):Int),(((r*4294967296+d) % 10:Nat):Int),()):=by
 unfold nE
 have e1:bp ((r:Int)*2 ^ 32)=((2 ^ 32*r:Nat):Int):=by rw[bY (by omega) (by omega)];omega
 have e2:bp (bp (r:Int)*2 ^ 32)=((2 ^ 32*r:Nat):Int):=by rw[bY (n:=(r:Int)) (by omega) (by omega)];exact e1
 have e3:bp (d:Int)=(d:Int):=bY (by omega) (by omega)
 have e4:bp (10:Int)=10:=rfl
 have e5:((BitVec.ofInt (IntKind.bits .u64) ((2 ^ 32*r:Nat):Int) ||| BitVec.ofInt (IntKind.bits .u64) (d:Int)).toNat:Int)=((r*4294967296+d:Nat):Int):=by
  rw[show IntKind.bits .u64=64 from rfl,Qf 64 (by omega) (by omega),Sr (k:=32) (by omega)]
  omega
 have e6:bp ((r*4294967296+d:Nat):Int)=((r*4294967296+d:Nat):Int):=bY (by omega) (by omega)
 rw[show ((10:Int) != 0)=true from rfl,YG,YI (show ¬(10:Int)<=(r:Int) by omega),Yt]
 dsimp only
 rw[YF,bg]
 dsimp only
 rw[e2,e3,e4,e5,e6,show ((10:Int) != 0)=true from rfl,aJ rfl,aJ rfl]
 have q1:Int.tdiv ((r*4294967296+d:Nat):Int) 10=(((r*4294967296+d) / 10:Nat):Int):=by
  rw[Wq (by omega)];omega
 have q2:Int.tmod ((r*4294967296+d:Nat):Int) 10=(((r*4294967296+d) % 10:Nat):Int):=by
  rw[Wr (by omega)];omega
 rw[q1,q2,bY (by omega) (by omega),AQ (by omega) (by omega),AQ (by omega) (by omega)]
theorem Oe {l:List Int} {k:Nat} (q:Int):v32 ((l.set k q).take k)=v32 (l.take k):=by rw[List.take_set_of_le (Yc k)]
theorem I0 (o:List Int) (ng:Bool) (ab:List Int):∀ (k f:Nat) (l:List Int) (r:Nat),k<f->k<=l.length->l.length<=1000000->Dg l->r<10-> ∃ (l':List Int) (r':Nat),iter f ((o,l,(r:Int),(k:Int) - 1,ng,ab,()):kW) cN=some (Sum.inr (o,l',(r':Int),ng,ab,()))/\ l'.length=l.length/\Dg l'/\l'.drop k=l.drop k/\r'<10/\v32 (l.take k)+4294967296 ^ k*r=10*v32 (l'.take k)+r'
 | 0,f+1,l,r,_,_,_,hd,hr=>by
  refine⟨l,r, ?_,rfl,hd,rfl,hr,by simp[rQ]⟩
  show cN _ (fun y=>iter f y cN)=_
  generalize (fun y=>iter f y cN)=again
  unfold cN
  dsimp only
  rw[aI (by omega)]
 | k+1,f+1,l,r,hf,hk,hl,hd,hr=>by
  have hy:l[k]? =some l[k]:=WZ (by omega)
  generalize l[k]=y at hy
  have hy2:=hd.get hy
  obtain⟨d,rfl⟩:∃ d:Nat,y=d:=⟨y.toNat,by omega⟩
  have hd32:d<4294967296:=by omega
  obtain⟨l',r',h1,h2,h3,h4,h5,h6⟩:=I0 o ng ab k f (l.set k (((r*4294967296+d) / 10:Nat):Int)) ((r*4294967296+d) % 10) (by omega) (by rw[Xs];omega) (by rw[Xs];omega) (hd.set (by omega)) (by omega)
  rw[Xs] at h2
  have hlt':k<l'.length:=by omega
  have hk':l'[k]? =some (((r*4294967296+d) / 10:Nat):Int):=by
   have e:=congrArg (fun q:List Int=>q[0]?) h4
   simp only[WY,X5] at e
   rw[e,Xf (by omega)]
  refine⟨l',r', ?_,h2,h3, ?_,h5, ?_⟩
  ·show cN _ (fun y=>iter f y cN)=_
   generalize hag:(fun y=>iter f y cN)=again
   unfold cN
   dsimp only
   have e0:((k+1:Nat):Int) - 1=(k:Int):=by omega
   rw[e0,aF (by omega),aJ (by simp;omega),Ws,hy,Yt,Tk r d hr hd32,Yt,aJ (by simp;omega),Yt]
   dsimp only
   rw[aD (by omega) (by omega), <- hag]
   exact h1
  ·have:=congrArg (List.drop 1) h4
   rw[WE,WE,List.drop_set_of_lt (by omega)] at this
   exact this
  ·rw[Oe] at h6
   rw[dG hy,dG hk']
   rw[Wp]
   have hdm:(((r*4294967296+d) / 10:Nat):Int)*10+(((r*4294967296+d) % 10:Nat):Int)=(r:Int)*4294967296+d:=by omega
   have h7:=congrArg (fun z:Int=>4294967296 ^ k*z) hdm
   rw[Wi,Wi] at h7
   generalize (4294967296:Int) ^ k=P at*
   grind
def rdF:Nat->Nat->List Int
 | 0,_=>[]
 | f+1,n=>if n=0 then [] else ((48+n % 10:Nat):Int)::rdF f (n / 10)
def rd (n:Nat):List Int:=rdF n n
theorem SC:∀ (f g n:Nat),n<=f->n<=g->rdF f n=rdF g n
 | 0,0,_,_,_=>rfl
 | 0,g+1,n,h,_=>by have:n=0:=by omega
                   subst this;simp[rdF]
 | f+1,0,n,_,h=>by have:n=0:=by omega
                   subst this;simp[rdF]
 | f+1,g+1,n,hf,hg=>by
  by_cases hn:n=0
  ·subst hn;simp[rdF]
  ·simp only[rdF,hn,YP]
   rw[SC f g (n / 10) (by omega) (by omega)]
theorem Ku:rd 0=[]:=rfl
theorem SE {n:Nat} (h:0<n):rd n=((48+n % 10:Nat):Int)::rd (n / 10):=by
 obtain⟨m,rfl⟩:∃ m,n=m+1:=⟨n - 1,by omega⟩
 unfold rd
 rw[rdF,YQ (by omega),SC m ((m+1) / 10) _ (by omega) (Yc _)]
theorem SD:∀ n:Nat,0<n->(rd n).reverse.map (fun z=>UInt8.ofNat z.toNat)=Lib.decDigits n:=by
 intro n
 induction n using Nat.strongRecOn with
 | _ n ih=>
  intro h
  rw[SE h,Lib.decDigits]
  split
  ·rename_i h10
   rw[Nat.div_eq_of_lt h10,Ku,Nat.mod_eq_of_lt h10];rfl
  ·rename_i h10
   rw[List.reverse_cons,Xu,ih (n / 10) (by omega) (by omega)];rfl
theorem Va (n:Nat) (h:0<n):(rd n).length=(Lib.decDigits n).length:=by
 rw[<- SD n h];simp
theorem Rf (ng:Bool) (ab:List Int) (hab:ab.length<=1000000):∀ (n f:Nat) (o:List Int),(rd n).length<f->n<4294967296 ^ 99->o.length+(rd n).length<=1000000-> iter f ((o,bD n,ng,ab,()):ir) fS=some (Sum.inr (o++rd n,ng,ab,())):=by
 intro n
 induction n using Nat.strongRecOn with
 | _ n ih=>
  intro f o hf hn ho
  obtain⟨f,rfl⟩:∃ g,f=g+1:=⟨f - 1,by omega⟩
  show fS _ (fun y=>iter f y fS)=_
  generalize hag:(fun y=>iter f y fS)=again
  unfold fS
  dsimp only
  rcases X9 n with rfl | h
  ·rw[yu,aI (by simp),Ku,WA]
  ·have hne:=uK h
   have hlp:0<(bD n).length:=Xq.2 hne
   have hll:(bD n).length<=99:=nO hn
   rw[aF (by omega)]
   obtain⟨l',r',h1,h2,h3,h4,h5,h6⟩:=I0 o ng ab (bD n).length (List.length o+(List.length (bD n)+(Int.natAbs (0:Int)+(Int.natAbs (w64 (((List.length (bD n):Int)) - 1))+(List.length ab+2))))) (bD n) 0 (by omega) (Yc _) (by omega) (eo n) (by omega)
   rw[aD (by omega) (by omega)] at h1 ⊢
   have h1':=h1
   rw[show ((0:Nat):Int)=0 from rfl] at h1'
   rw[h1',bg]
   dsimp only
   rw[XZ,dM, <- h2,XZ,Int.natCast_zero,Int.mul_zero,Int.add_zero] at h6
   have hv:=th h3
   have hrl:=SE h
   have hrl2:(rd n).length=(rd (n / 10)).length+1:=by rw[hrl];rfl
   have e1:r'=n % 10:=by omega
   have e2:(v32 l').toNat=n / 10:=by omega
   rw[aJ (by rw[VZ];exact⟨YJ (by omega),YJ (by rw[cE];omega)⟩)]
   have ht:fQ l'=some (bD (n / 10),()):=by
    unfold fQ
    rw[YJ (by omega),YG,Ob h3,e2]
   rw[ht,Yt]
   dsimp only
   have e3:wu8 (48+wu8 (r':Int))=((48+n % 10:Nat):Int):=by
    have q1:wu8 (r':Int)=(r':Int):=AP (by show (0:Int)<=_;omega) (by show _<=(255:Int);omega)
    have q2:wu8 (48+(r':Int))=48+(r':Int):=AP (by show (0:Int)<=_;omega) (by show _<=(255:Int);omega)
    rw[q1,q2];omega
   rw[e3]
   have:=ih (n / 10) (by omega) f (o++[((48+n % 10:Nat):Int)]) (by omega) (by have:=Nat.div_le_self n 10;omega) (by rw[Xl];simp only[List.length_singleton];omega)
   rw[<- hag]
   refine this.trans ?_
   rw[hrl,Wy];rfl
end Go.Md
namespace Go.Md
open Go.Dn
def VI (m q:List Int) (i:Nat):Prop:=q.length=m.length/\∀ t:Nat,q[t]? =if t<m.length/\(t<i\/m.length - i<=t) then m[m.length - 1 - t]? else m[t]?
theorem SI (m:List Int) (hm:m.length<=1000000):∀ (f i:Nat) (q:List Int),m.length+1<=f+i->i<=m.length->VI m q i->iter f (((i:Int),(m.length:Int) - 1 - i,q,()):gC) dI=some (Sum.inr (m.reverse,()))
 | 0,i,q,hf,hi,_=>by omega
 | f+1,i,q,hf,hi,⟨hq1,hq2⟩=>by
  show dI _ (fun y=>iter f y dI)=_
  generalize hag:(fun y=>iter f y dI)=again
  unfold dI
  dsimp only
  by_cases h:(i:Int)<(m.length:Int) - 1 - i
  ·have hj:((m.length:Int) - 1 - i).toNat=m.length - 1 - i:=by omega
   have hij:i<m.length - 1 - i:=by omega
   have hy2:q[m.length - 1 - i]? =some m[m.length - 1 - i]:=by
    rw[hq2,YQ (by omega)];exact WZ (by omega)
   have hy3:q[i]? =some m[i]:=by
    rw[hq2,YQ (by omega)];exact WZ (by omega)
   rw[aF h,hj,aJ (by rw[hq1];simp only[VZ,YK];omega),hy2,Yt,Ws,aJ (by rw[hq1];simp only[VZ,YK];omega),hy3,Yt,
    aJ (by rw[hq1];simp only[VZ,YK];omega),Yt,aJ (by rw[Xs,hq1];simp only[VZ,YK];omega)]
   rw[Xe (by omega),hy2,Yt,aD (by omega) (by omega),aD (by omega) (by omega), <- hag]
   have:=SI m hm f (i+1) ((q.set i m[m.length - 1 - i]).set (m.length - 1 - i) m[i]) (by omega) (by omega) ⟨by simp[hq1],fun t=> ?_⟩
   ·rw[show (((i+1:Nat):Int))=(i:Int)+1 by omega,show (m.length:Int) - 1 - ((i:Int)+1)=(m.length:Int) - 1 - i - 1 by omega] at this
    exact this
   ·by_cases ht1:t=m.length - 1 - i
    ·subst ht1
     rw[Xf (by simp[hq1];omega),YR (by omega),show m.length - 1 - (m.length - 1 - i)=i by omega]
     exact (WZ (by omega)).symm
    ·rw[Xe (Ne.symm ht1)]
     by_cases ht2:t=i
     ·subst ht2
      rw[Xf (by omega),YR (by omega)]
      exact (WZ (by omega)).symm
     ·rw[Xe (Ne.symm ht2),hq2]
      by_cases hc:t<m.length/\(t<i\/m.length - i<=t)
      ·rw[YR hc,YR (by omega)]
      ·rw[YQ hc,YQ (by omega)]
  ·rw[aI h]
   have:q=m.reverse:=by
    apply WM
    intro t
    rw[hq2]
    by_cases ht:t<m.length
    ·rw[List.getElem?_reverse ht]
     by_cases hc:t<m.length/\(t<i\/m.length - i<=t)
     ·rw[YR hc]
     ·rw[YQ hc]
      congr 1
      omega
    ·rw[YQ (by omega),W0 (by omega),W0 (by simp<;>omega)]
   rw[this]
theorem IF (m:List Int) (hm:m.length<=1000000):gp m=some (m.reverse,()):=by
 unfold gp
 have h:=SI m hm (Int.natAbs (0:Int)+(Int.natAbs (w64 (((List.length m:Int)) - 1))+(List.length m+2))) 0 m (by omega) (by omega) ⟨rfl,fun t=>by rw[YQ (by omega)]⟩
 rw[show (((0:Nat):Int))=0 from rfl,Int.sub_zero] at h
 rw[aD (by omega) (by omega)] at h ⊢
 rw[h,bg]
theorem Qh (l:List Int) (hl:l.length<=1000000):jl l=some (l,()):=by
 unfold jl
 have e:chk (decide ((0+(List.length l))*4<=140737488355328)&&decide (0+(List.length l)<=maxLen)) (some (l,()))=some (l,()):=aJ (by rw[VZ];exact⟨YJ (by omega),YJ (by rw[cE];omega)⟩) _
 cases l with
 | nil=>rw[List.isEmpty_nil,YG,e];exact Rt _
 | cons a r=>rw[List.isEmpty_cons,YF,e]
theorem M8 {n:Nat} (h:n<=1000000000000000):(bD n).length<=2:=nO (by have:(4294967296:Nat) ^ 2=18446744073709551616:=rfl;omega)
theorem TL {n:Nat} (h:n<=1000000000000000):(rd n).length<=16:=by
 rcases X9 n with rfl | hp
 ·rw[Ku];exact Ys _
 ·rw[Va n hp]
  exact gE (k:=15) (by have:(10:Nat) ^ (15+1)=10000000000000000:=rfl;omega)
theorem Vm:(18446744073709551616:Nat)<=4294967296 ^ 99:=by decide +kernel
theorem Mf (n:Nat) (h:n<=1000000000000000):pn (W (n:Int))=some (Lib.decDigits n,()):=by
 unfold pn W
 dsimp only
 rw[Wn,YI (show ¬ (n:Int)<0 by omega)]
 rcases X9 n with rfl | hp
 ·rw[yu,z7];rfl
 ·have hne:=uK hp
  have hlp:0<(bD n).length:=Xq.2 hne
  have h2:=M8 h
  have h16:=TL h
  have hb:((((bD n).length:Nat):Int)==0)=false:=by simp;omega
  rw[hb,YF,Qh _ (by omega),Yt]
  dsimp only
  have ho:=Rf false (bD n) (by omega) n (20*(bD n).length+2) [] (by omega) (Ye (by omega) Vm) (by simp<;>omega)
  rw[ho,bg]
  dsimp only
  rw[YF,XM,IF _ (by omega),Yt]
  have:=SD n hp
  rw[<- this]
theorem abs_eq (z:Int) (h:z.natAbs<=1000000000000000):qO (W z)=some (W ((z.natAbs:Nat):Int),()):=by
 unfold qO W
 dsimp only
 rw[gX false _ (eo _) (by have:=M8 h;omega),Yt]
 simp only[V4,YP,dM]
 rfl
theorem zx:∀ k:Nat,Lib.repeatL [48] k=List.replicate k (48:UInt8)
 | 0=>rfl
 | k+1=>by rw[Lib.repeatL,zx k];rfl
theorem K9 {n p:Nat} (hp:p<=9) (h:n<=1000000000000000):∃ r,strings_Repeat [48] (if w64 (w64 ((p:Int)+1) - ((Lib.decDigits n).length:Int))>0 then w64 (w64 ((p:Int)+1) - ((Lib.decDigits n).length:Int)) else 0)=some (r,())/\r++Lib.decDigits n=bw n p/\r.length<=10:=by
 have hl:(Lib.decDigits n).length<=16:=gE (k:=15) (by have:(10:Nat) ^ (15+1)=10000000000000000:=rfl;omega)
 rw[aD (n:=(p:Int)+1) (by omega) (by omega),aD (by omega) (by omega)]
 have e:(if (p:Int)+1 - ((Lib.decDigits n).length:Int)>0 then (p:Int)+1 - ((Lib.decDigits n).length:Int) else 0)=((p+1 - (Lib.decDigits n).length:Nat):Int):=by split<;>omega
 rw[e,SH _ (by omega)]
 refine⟨_,rfl, ?_, ?_⟩
 ·rw[zx];rfl
 ·rw[zx,Xr];omega
theorem Kl {n p:Nat} (hp:p<=9) (h:n<=1000000000000000):(bw n p).length<=16:=by
 have hl:(Lib.decDigits n).length<=16:=gE (k:=15) (by have:(10:Nat) ^ (15+1)=10000000000000000:=rfl;omega)
 rw[BM];omega
theorem QT {n p:Nat} (hp:p<=9) (h:n<=1000000000000000):oK (Lib.decDigits n) (p:Int)=some ((bw n p).take ((bw n p).length - p),(bw n p).drop ((bw n p).length - p),()):=by
 unfold oK
 dsimp only
 obtain⟨r,h1,h2,h3⟩:=K9 hp h
 have h16:=Kl hp h
 have hgt:=mY n p
 have hl:(Lib.decDigits n).length<=16:=gE (k:=15) (by have:(10:Nat) ^ (15+1)=10000000000000000:=rfl;omega)
 rw[h1,Yt]
 dsimp only
 rw[aJ (YJ (by rw[cE];omega)),h2]
 have e:w64 (((bw n p).length:Int) - (p:Int))=(((bw n p).length - p:Nat):Int):=by rw[aD (by omega) (by omega)];omega
 rw[e,aJ (by simp<;>omega),aJ (by simp<;>omega),Ws,Ws,WJ,XZ]
theorem Je {d:ah} (h:dw d):uG d=some (iA d,0,()):=by
 unfold uG
 rw[pq,YR h,Yt]
 obtain⟨h1,h3,h4⟩:=h
 obtain⟨a,b⟩:=d
 dsimp only at h1 h3 h4 ⊢
 obtain⟨p,rfl⟩:∃ p:Nat,b=p:=⟨b.toNat,by omega⟩
 rw[show ((0:Int) != 0)=false from rfl,YF,u6 a (by omega) (by omega),Yt,abs_eq a h1,Yt,Mf _ h1,Yt,QT (by omega) h1,Yt]
 have hs:pN (a,(p:Int))=some ((bif decide (a<0) then [45] else []),()):=by
  unfold pN
  dsimp only
  cases decide (a<0)<;>rfl
 have h16:=Kl (n:=a.natAbs) (p:=p) (by omega) h1
 have hsl:(bif decide (a<0) then [(45:UInt8)] else []).length<=1:=by cases decide (a<0)<;>simp
 rw[hs]
 unfold iA jF
 dsimp only
 rw[Ws]
 generalize hsg:(bif decide (a<0) then [(45:UInt8)] else [])=sg at hsl
 have hpz:((p:Int)==0)=(p==0):=by
  by_cases hh:p=0
  ·subst hh;rfl
  ·have e1:(p==0)=false:=YB.2 hh
   have e2:((p:Int)==0)=false:=YB.2 (by omega)
   rw[e1,e2]
 rw[hpz]
 cases hp:(p==0) with
 | true=>
  have hp0:p=0:=eq_of_beq hp
  subst hp0
  rw[YG,YG,Yt,Nat.sub_zero,XZ]
  dsimp only
  rw[aJ (YJ (by rw[cE];omega))]
 | false=>
  rw[YF,YF,Yt]
  dsimp only
  rw[aJ (YJ (by rw[cE,Xt];omega)),aJ (YJ (by rw[cE,Xl,Xt];simp;omega)),
   aJ (YJ (by rw[cE,Xl,Xl,Xt,Xn];simp;omega))]
  simp only[Wy,XV]
theorem zK {d:ah} (h:dw d):fA d=some (iA d,()):=by
 unfold fA
 rw[Je h];rfl
theorem QZ {d:ah} (h:dw d):EV d=some (iA d,0,()):=by
 unfold EV
 rw[tE,YR h,Yt]
 obtain⟨h1,h3,h4⟩:=h
 obtain⟨a,b⟩:=d
 dsimp only at h1 h3 h4 ⊢
 obtain⟨p,rfl⟩:∃ p:Nat,b=p:=⟨b.toNat,by omega⟩
 have em:(if w64 (0 - a)>a then w64 (0 - a) else a)=((a.natAbs:Nat):Int):=by
  rw[aD (by omega) (by omega)];split<;>omega
 obtain⟨r,g1,g2,g3⟩:=K9 (n:=a.natAbs) (p:=p) (by omega) h1
 have h16:=Kl (n:=a.natAbs) (p:=p) (by omega) h1
 have hgt:=mY a.natAbs p
 have hl:(Lib.decDigits a.natAbs).length<=16:=gE (k:=15) (by have:(10:Nat) ^ (15+1)=10000000000000000:=rfl;omega)
 rw[show ((0:Int) != 0)=false from rfl,YF,em,PA (by omega),Yt]
 dsimp only
 rw[g1,Yt]
 dsimp only
 rw[aJ (YJ (by rw[cE];omega)),g2]
 have e:w64 (((bw a.natAbs p).length:Int) - (p:Int))=(((bw a.natAbs p).length - p:Nat):Int):=by rw[aD (by omega) (by omega)];omega
 rw[e]
 have hb:(bif decide ((p:Int)>0) then
  chk (decide (0<=(0:Int))&&decide ((0:Int)<=(((bw a.natAbs p).length - p:Nat):Int))&&decide ((((bw a.natAbs p).length - p:Nat):Int)<=((bw a.natAbs p).length:Int))) <|
  chk (decide (List.length (List.drop 0 (List.take (Int.toNat (((bw a.natAbs p).length - p:Nat):Int)) (bw a.natAbs p)))+List.length [(46:UInt8)]<=maxLen)) <|
  chk (decide (0<=(((bw a.natAbs p).length - p:Nat):Int))&&decide ((((bw a.natAbs p).length - p:Nat):Int)<=((bw a.natAbs p).length:Int))&&decide (((bw a.natAbs p).length:Int)<=((bw a.natAbs p).length:Int))) <|
  chk (decide (List.length ((List.drop 0 (List.take (Int.toNat (((bw a.natAbs p).length - p:Nat):Int)) (bw a.natAbs p)))++[46])+List.length (List.drop (Int.toNat (((bw a.natAbs p).length - p:Nat):Int)) (List.take (Int.toNat ((bw a.natAbs p).length:Int)) (bw a.natAbs p)))<=maxLen)) <|
  some (Sum.inr (α:=List UInt8×Int×Unit) (((List.drop 0 (List.take (Int.toNat (((bw a.natAbs p).length - p:Nat):Int)) (bw a.natAbs p)))++[46])++(List.drop (Int.toNat (((bw a.natAbs p).length - p:Nat):Int)) (List.take (Int.toNat ((bw a.natAbs p).length:Int)) (bw a.natAbs p))),a,(p:Int),()))
  else
   some (Sum.inr (bw a.natAbs p,a,(p:Int),())))=some (Sum.inr (jF a.natAbs p,a,(p:Int),())):=by
  unfold jF
  by_cases hp:p=0
  ·subst hp
   rw[aI (by omega),show ((0:Nat)==0)=true from rfl,YG]
  ·rw[aF (by omega),YB.2 hp,YF,Ws,Ws,WJ,XZ,
    aJ (by simp<;>omega),aJ (YJ (by rw[cE,Xt];simp;omega)),aJ (by simp<;>omega),aJ (YJ (by rw[cE,Xl,Xt,Xn];simp;omega))]
   simp only[Wy,XV]
 refine (congrArg (fun o=>aP o _) hb).trans ?_
 rw[bg]
 dsimp only
 unfold iA
 dsimp only
 rw[Ws]
 have hbl:=KN a.natAbs p
 cases hn:decide (a<0) with
 | true=>rw[YG,YG,aJ (YJ (by rw[cE];simp;omega))]
 | false=>rw[YF,YF,XM]
end Go.Md
namespace Go.Md
open Go.Dn
theorem iB {s:List UInt8} (h:dO s=true):s≠[]/\s.length<=40/\∀ c,c∈s->nmB c=true:=by
 unfold dO eX at h
 by_cases h1:(s.length:Int)<1
 ·rw[aF h1] at h;cases h
 rw[aI h1] at h
 by_cases h2:(s.length:Int)>40
 ·rw[aF h2] at h;cases h
 rw[aI h2] at h
 refine⟨fun e=>h1 (by rw[e];decide),by omega, ?_⟩
 have ht:dV s [97,98,99,100,101,102,103,104,105,106,107,108,109,110,111,112,113,114,115,116,117,118,119,120,121,122,48,49,50,51,52,53,54,55,56,57,45]=some (Lib.trimS s nmC,()):=by
  unfold dV
  rw[show (decide (s.length<=9223372036854775807))=true by simp;omega]
  rfl
 cases hs:eN s 0 with
 | none=>rw[hs] at h;cases h
 | some c1=>
  rw[hs,Yt] at h
  cases h3:decide ((c1.toNat:Int)<97) with
  | true=>rw[h3] at h;cases h
  | false=>
   rw[h3,YF,Yt] at h
   cases h4:decide ((c1.toNat:Int)>122) with
   | true=>rw[h4] at h;cases h
   | false=>
    rw[h4,YF,ht,Yt] at h
    have h5:(Lib.trimS s nmC==[])=true:=h
    rw[Lr] at h5
    exact Wv.1 h5
theorem Si {s:List UInt8} (h:dO s=true) {c:UInt8} (hc:nmB c=false):c∉s:=fun hm=>by
 rw[(iB h).2.2 c hm] at hc;cases hc
def vV (n:Int):List UInt8:=Lib.decDigits n.toNat
def one (b:Bool) (w:List UInt8):List (List UInt8):=bif b then [w] else []
theorem Nw {n:Int} (h0:0<=n) (h1:n<=9223372036854775807):strconv_Itoa n=some (vV n,()):=by
 obtain⟨k,rfl⟩:∃ k:Nat,n=k:=⟨n.toNat,by omega⟩
 exact PA (by omega)
def gY (w:List UInt8):Prop:=w≠[]/\w.length<=40/\(32:UInt8)∉w/\(10:UInt8)∉w
theorem I9 {n:Int} (h:n<=999999999999999):gY (vV n):=by
 refine⟨xk _, ?_,B8 _ _ rfl,B8 _ _ rfl⟩
 have:=gE (n:=n.toNat) (k:=15) (by have:(10:Nat) ^ (15+1)=10000000000000000:=rfl;omega)
 unfold vV;omega
theorem I8 {d:ah} (h:dw d):gY (iA d):=
 ⟨T6 d,by have:=tP h;omega,DL d rfl (by decide) (by decide),DL d rfl (by decide) (by decide)⟩
theorem oG {s:List UInt8} (h:dO s=true):gY s:=⟨(iB h).1,(iB h).2.1,Si h (by decide),Si h (by decide)⟩
theorem M3 {d:ah} {z:Bool} (h:qOk d z=true):dw d:=by
 unfold qOk inR at h
 simp only[VZ,YK] at h
 exact h.1.1
theorem Vg (l:List (List UInt8)) (h:∀ w,w∈l->w.length<=40):(l.map fun w=>w.length+1).sum<=41*l.length:=by
 induction l with
 | nil=>simp
 | cons a r ih=>
  have h1:=h a (by simp)
  have h2:=ih (fun w hw=>h w (by simp[hw]))
  simp only[Xw,List.sum_cons,Xm]
  omega
theorem Bu {l:List (List UInt8)} (hl:l.length<=11) (h:∀ w,w∈l->w.length<=40):(Lib.join l [32]).length<=451:=by
 have h1:=Nx 32 l
 have h2:=Vg l h
 omega
theorem Rd {l:List (List UInt8)} (hl:l.length<=11) (h:∀ w,w∈l->w.length<=40):strings_Join l [32]=some (Lib.join l [32],()):=by
 unfold strings_Join
 have:=Bu hl h
 rw[YJ (by omega),YJ (by omega)];rfl
theorem Bw {l:List (List UInt8)} (hl:l.length<=11) (h:∀ w,w∈l->w.length<=40):gv l=some (Lib.join l [32]++[10],()):=by
 unfold gv
 have:=Bu hl h
 rw[Rd hl h,Yt,aJ (YJ (by rw[cE];simp;omega))]
end Go.Md
namespace Go.Md
open Go.Dn
def dashW (s:List UInt8):List UInt8:=bif s==[] then [45] else s
theorem kit_Dash_eq (s:List UInt8):kG s=some (dashW s,()):=by
 unfold kG dashW
 cases s==[]<;>rfl
theorem r10_or_eq (s:List UInt8):DU s=some (dashW s,()):=by
 unfold DU dashW
 cases s==[]<;>rfl
noncomputable def parL (p:aa):List (List UInt8):=[[112,97,114,99,101,108],p.1,dashW p.2.1,iA p.2.2.1]
noncomputable def conL (c:ay):List (List UInt8):=[[99,111,110,116,101,110,116],c.1,c.2.1,dashW c.2.2.1,iA c.2.2.2]
def lineW (l:List (List UInt8)):List UInt8:=Lib.join l [32]++[10]
noncomputable def conT:List ay->List UInt8
 | []=>[]
 | c::r=>lineW (conL c)++conT r
noncomputable def parT (p:aa):List UInt8:=lineW (parL p)++conT p.2.2.2
noncomputable def parsT:List aa->List UInt8
 | []=>[]
 | p::r=>parT p++parsT r
structure ConOk (c:ay):Prop where
 art:dO c.1=true
 unit:dO c.2.1=true
 lot:c.2.2.1=[]\/dO c.2.2.1=true
 num:dw c.2.2.2
structure ParOk (p:aa):Prop where
 lab:gY p.1
 nest:p.2.1=[]\/gY p.2.1
 num:dw p.2.2.1
 con:∀ c∈p.2.2.2,ConOk c
 few:p.2.2.2.length<=100
theorem dashW_len {s:List UInt8} (h:s=[]\/gY s):(dashW s).length<=40:=by
 unfold dashW
 rcases h with rfl | h
 ·decide
 ·cases s==[] with
  | true=>exact (by decide:1<=40)
  | false=>exact h.2.1
theorem conL_len {c:ay} (h:ConOk c):∀ w∈conL c,w.length<=40:=by
 intro w hw
 unfold conL at hw
 simp only[XB,XP,or_false] at hw
 rcases hw with rfl | rfl | rfl | rfl | rfl
 ·decide
 ·exact (iB h.art).2.1
 ·exact (iB h.unit).2.1
 ·exact dashW_len (h.lot.imp id oG)
 ·exact Yd (tP h.num) (by decide)
theorem parL_len {p:aa} (h:ParOk p):∀ w∈parL p,w.length<=40:=by
 intro w hw
 unfold parL at hw
 simp only[XB,XP,or_false] at hw
 rcases hw with rfl | rfl | rfl | rfl
 ·decide
 ·exact h.lab.2.1
 ·exact dashW_len h.nest
 ·exact Yd (tP h.num) (by decide)
theorem lineW_len {l:List (List UInt8)} (hl:l.length<=11) (h:∀ w,w∈l->w.length<=40):(lineW l).length<=452:=by
 have:=Bu hl h
 unfold lineW
 simp
 omega
theorem contTexts_eq:∀ l:List ay,(∀ c∈l,ConOk c)->contTexts l=some (conT l)/\(conT l).length<=452*l.length:=by
 intro l
 induction l with
 | nil=>intro _;exact⟨rfl,Yc _⟩
 | cons c r ih=>
  intro h
  have hc:=h c (by simp)
  obtain⟨h1,h2⟩:=ih fun x hx=>h x (by simp[hx])
  have hj:=Bw (l:=conL c) (by simp[conL]) (conL_len hc)
  have h3:=lineW_len (l:=conL c) (by simp[conL]) (conL_len hc)
  constructor
  ·unfold contTexts
   rw[kit_Dash_eq,Yt,zK hc.num,Yt]
   dsimp only
   unfold conL at hj
   rw[hj,Yt,h1]
   rfl
  ·simp only[conT,Xl,Xm]
   omega
theorem parcText_eq (p:aa) (h:ParOk p):uj p=some (parT p)/\(parT p).length<=46000:=by
 obtain⟨h1,h2⟩:=contTexts_eq p.2.2.2 h.con
 have hj:=Bw (l:=parL p) (by simp[parL]) (parL_len h)
 have h3:=lineW_len (l:=parL p) (by simp[parL]) (parL_len h)
 have h4:=h.few
 constructor
 ·unfold uj
  rw[kit_Dash_eq,Yt,zK h.num,Yt]
  dsimp only
  unfold parL at hj
  rw[hj,Yt,h1]
  rfl
 ·simp only[parT,Xl]
  omega
theorem parcTextsC_eq:∀ (l:List aa) (b:List UInt8),(∀ p∈l,ParOk p)->b.length<=300000->parcTextsC b l=some (bif decide (((b++parsT l).length:Int)>300000) then none else some (b++parsT l)):=by
 intro l
 induction l with
 | nil=>
  intro b _ hb
  rw[parcTextsC,parsT,WA,YI (by omega),YF]
 | cons p r ih=>
  intro b h hb
  obtain⟨h1,h2⟩:=parcText_eq p (h p (by simp))
  have hl:(b++parT p).length=b.length+(parT p).length:=Xl
  rw[parcTextsC,h1,Yt,aJ (YJ (by omega)),parsT, <- Wy]
  by_cases hbig:((b++parT p).length:Int)>300000
  ·have h3:(((b++parT p)++parsT r).length:Int)>300000:=by rw[Xl];omega
   rw[YJ hbig,YJ h3,YG,YG]
  ·rw[YI hbig,YF]
   exact ih (b++parT p) (fun q hq=>h q (by simp[hq])) (by omega)
theorem nm_dash:dO [45]=false:=by kernel_rfl
end Go.Md
namespace Go.Md
open Go.Dn
theorem r10_decimal_eq {d:ah} (h:dw d):qh d=some (iA d,()):=by
 unfold qh
 rw[QZ h]
 rfl
theorem conT_line (c:ay):lineW (conL c)=(((((((([99,111,110,116,101,110,116,32]++c.1)++[32])++c.2.1)++[32])++dashW c.2.2.1)++[32])++iA c.2.2.2)++[10]):=by
 simp[lineW,conL,oO,Lib.join]
theorem parT_line (p:aa):lineW (parL p)=(((((([112,97,114,99,101,108,32]++p.1)++[32])++dashW p.2.1)++[32])++iA p.2.2.1)++[10]):=by
 simp[lineW,parL,oO,Lib.join]
theorem rt_inner (l:List aa) (n i:Int) (cl:List ay) (hcl:cl.length<=100) (hok:∀ c∈cl,ConOk c):∀ (r:List ay) (j f:Nat) (b:List UInt8),cl.drop j=r->r.length<f->j<=cl.length->b.length+452*r.length<=100000000-> iter f ((b,l,n,i,cl,(cl.length:Int),(j:Int),()):sM) sL=some (.inr (b++conT r,l,n,i,())):=by
 intro r
 induction r with
 | nil=>
  intro j f b hd hf hj hb
  obtain⟨f,rfl⟩:∃ g,f=g+1:=⟨f - 1,by omega⟩
  have:j=cl.length:=by
   have:=congrArg List.length hd
   simp at this
   omega
  subst this
  rw[iter]
  unfold sL
  dsimp only
  rw[YI (by omega),YF,conT,WA]
 | cons c r ih=>
  intro j f b hd hf hj hb
  simp only[Xm] at hf hb
  obtain⟨f,rfl⟩:∃ g,f=g+1:=⟨f - 1,by omega⟩
  have hlt:j<cl.length:=by
   have:=congrArg List.length hd
   simp at this
   omega
  have hc:cl[j]? =some c:=by
   have:=congrArg (fun l:List ay=>l[0]?) hd
   simpa using this
  have hco:=hok c (XH hc)
  have hl:=conL_len hco
  have l1:=(iB hco.art).2.1
  have l2:=(iB hco.unit).2.1
  have l3:=dashW_len (hco.lot.imp id oG)
  have l4:=tP hco.num
  have hd2:cl.drop (j+1)=r:=by rw[<- WE,hd];rfl
  rw[iter]
  unfold sL
  dsimp only
  rw[YJ (by omega),YG,bK,hc,Yt]
  rw[r10_or_eq,Yt,r10_decimal_eq hco.num,Yt]
  dsimp only
  rw[<- conT_line]
  have l5:=lineW_len (l:=conL c) (by simp[conL]) hl
  iterate 8 rw[aJ (YJ (by rw[cE];simp only[Xl,Xm,Xp];omega))]
  rw[aJ (YJ (by rw[cE];omega))]
  rw[aD (by omega) (by omega),show (j:Int)+1=((j+1:Nat):Int) by omega]
  exact (ih (j+1) f (b++lineW (conL c)) hd2 (by omega) (by omega) (by rw[Xl];omega)).trans (by rw[conT,Wy])
theorem rt_outer (L:List aa) (hL:L.length<=500) (hok:∀ p∈L,ParOk p):∀ (r:List aa) (j f:Nat) (b:List UInt8),L.drop j=r->r.length<f->j<=L.length->b.length+46000*r.length<=50000000-> iter f ((b,L,(L.length:Int),(j:Int),()):qg) qd=some (.inr (b++parsT r,())):=by
 intro r
 induction r with
 | nil=>
  intro j f b hd hf hj hb
  obtain⟨f,rfl⟩:∃ g,f=g+1:=⟨f - 1,by omega⟩
  have:j=L.length:=by
   have:=congrArg List.length hd
   simp at this
   omega
  subst this
  rw[iter]
  unfold qd
  dsimp only
  rw[YI (by omega),YF,parsT,WA]
 | cons p r ih=>
  intro j f b hd hf hj hb
  simp only[Xm] at hf hb
  obtain⟨f,rfl⟩:∃ g,f=g+1:=⟨f - 1,by omega⟩
  have hlt:j<L.length:=by
   have:=congrArg List.length hd
   simp at this
   omega
  have hc:L[j]? =some p:=by
   have:=congrArg (fun l:List aa=>l[0]?) hd
   simpa using this
  have hpo:=hok p (XH hc)
  have hl:=parL_len hpo
  have l1:=hpo.lab.2.1
  have l3:=dashW_len hpo.nest
  have l4:=tP hpo.num
  have hfew:=hpo.few
  have hd2:L.drop (j+1)=r:=by rw[<- WE,hd];rfl
  obtain⟨_,hpl⟩:=parcText_eq p hpo
  have l5:=lineW_len (l:=parL p) (by simp[parL]) hl
  rw[iter]
  unfold qd
  dsimp only
  rw[YJ (by omega),YG,bK,hc,Yt]
  rw[r10_or_eq,Yt,r10_decimal_eq hpo.num,Yt]
  dsimp only
  rw[<- parT_line]
  iterate 6 rw[aJ (YJ (by rw[cE];simp only[Xl,Xm,Xp];omega))]
  rw[aJ (YJ (by rw[cE];omega))]
  rw[show (0:Int)=((0:Nat):Int) from rfl,rt_inner L (L.length:Int) (j:Int) p.2.2.2 hfew hpo.con p.2.2.2 0 _ (b++lineW (parL p)) rfl (by omega) (Ys _) (by rw[Xl];omega)]
  show iter f ((b++lineW (parL p)++conT p.2.2.2,L,(L.length:Int),w64 ((j:Int)+1),()):qg) qd=_
  rw[aD (by omega) (by omega),show (j:Int)+1=((j+1:Nat):Int) by omega]
  have e1:b++lineW (parL p)++conT p.2.2.2=b++parT p:=by rw[parT,Wy]
  rw[e1]
  exact (ih (j+1) f (b++parT p) hd2 (by omega) (by omega) (by rw[Xl];omega)).trans (by rw[parsT,Wy])
end Go.Md
namespace Go.Md
open Go.Dn
theorem conOk_of {l:List ay} (h:jH l=0):l.length<=100/\∀ c∈l,ConOk c:=by
 unfold jH at h
 split at h
 ·omega
 ·rename_i hl
  refine⟨by omega,fun c hc=> ?_⟩
  obtain⟨i,hi⟩:=XF.1 hc
  have h2:=pe h i c hi
  unfold EB at h2
  split at h2
  ·omega
  ·rename_i h3
   split at h2
   ·omega
   ·rename_i h4
    split at h2
    ·omega
    ·rename_i h5
     split at h2
     ·omega
     ·split at h2
      ·rename_i h7
       refine⟨by simpa using h3,by simpa using h4, ?_,M3 h7⟩
       by_cases he:c.2.2.1=[]
       ·exact .inl he
       ·right
        cases hn:dO c.2.2.1 with
        | true=>rfl
        | false=>exact absurd (by simp[he,hn]) h5
      ·omega
theorem wordOk_lbl {s:List UInt8} (h:lbl s=true):gY s:=by
 unfold lbl at h
 simp only[VZ,YK] at h
 have hn:∀ c,bO c=false->c∉s:=fun c hc hm=>by
  have:=Wv.1 h.2.1 c hm
  rw[hc] at this;cases this
 exact⟨fun e=>by rw[e] at h;exact absurd h.1 (by decide),by omega,hn 32 rfl,hn 10 rfl⟩
theorem adv_parts {a:ai} (h:jq a=0):dO a.1=true/\dO a.2.1=true/\(1<=a.2.2.1/\a.2.2.1<=3652059)/\a.2.2.2.length<=500/\cV (nG a.2.2.2) 0 a.2.2.2=0/\yB a.2.2.2=0:=by
 unfold jq at h
 split at h
 ·omega
 ·rename_i h1
  split at h
  ·omega
  ·rename_i h2
   split at h
   ·omega
   ·rename_i h3
    split at h
    ·omega
    ·rename_i h4
     split at h
     ·rename_i h5;exact absurd h h5
     ·rename_i h5
      exact⟨by simpa using h1,by simpa using h2,by simpa using h3,by omega,by simpa using h5,h⟩
theorem parc_parts {l:List aa} (h:cV (nG l) 0 l=0):∀ p∈l,lbl p.1=true/\dw p.2.2.1/\jH p.2.2.2=0:=fun p hp=>by
 obtain⟨i,hi⟩:=XF.1 hp
 have h2:=pe h i p hi
 unfold nG at h2
 split at h2
 ·omega
 ·rename_i h3
  split at h2
  ·omega
  ·split at h2
   ·omega
   ·rename_i h5
    exact⟨by simpa using h3,M3 (z:=true) (by simpa using h5),h2⟩
theorem parOk_of {a:ai} (h:jq a=0):∀ p∈a.2.2.2,ParOk p:=by
 obtain⟨_,_,_,_,hs,hn⟩:=adv_parts h
 have hn1:DJ a.2.2.2=0:=by
  unfold yB at hn
  split at hn
  ·rename_i h1;exact absurd hn h1
  ·rename_i h1;simpa using h1
 have hN:=uN hn1
 intro p hp
 obtain⟨h1,h2,h3⟩:=parc_parts hs p hp
 obtain⟨h4,h5⟩:=conOk_of h3
 refine⟨wordOk_lbl h1, ?_,h2,h5,h4⟩
 rcases hN p hp with he | he
 ·exact .inl he
 ·right
  cases hx:fJ (fun x:aa=>x.1) p.2.1 a.2.2.2 with
  | none=>exact absurd he (by rw[hx];decide)
  | some k=>
   obtain⟨x,hk,hxe⟩:=nS hx
   rw[<- hxe]
   exact wordOk_lbl (parc_parts hs x (XH hk)).1
end Go.Md
namespace Go.Md
open Go.Dn
noncomputable def headL (a:ai):List (List UInt8):=[[97,100,118,105,99,101],a.1,a.2.1,vV a.2.2.1]
noncomputable def advT (a:ai):List UInt8:=lineW (headL a)++parsT a.2.2.2
theorem headL_ok {a:ai} (h:jq a=0):∀ w∈headL a,gY w:=by
 obtain⟨h1,h2,h3,_⟩:=adv_parts h
 intro w hw
 unfold headL at hw
 simp only[XB,XP,or_false] at hw
 rcases hw with rfl | rfl | rfl | rfl
 ·exact⟨by decide,by decide,by decide,by decide⟩
 ·exact oG h1
 ·exact oG h2
 ·exact I9 (by omega)
theorem head_line (a:ai):lineW (headL a)=(((((([97,100,118,105,99,101,32]++a.1)++[32])++a.2.1)++[32])++vV a.2.2.1)++[10]):=by
 simp[lineW,headL,oO,Lib.join]
theorem textC_eq (a:ai) (hf:Jb a):lA a=some (if jq a=0 then (if ((advT a).length:Int)>300000 then ([],2,()) else (advT a,0,())) else ([],jq a,())):=by
 unfold lA
 rw[rL a hf,Yt]
 dsimp only
 by_cases h:jq a=0
 ·rw[YR h,h,show ((0:Int) != 0)=false from rfl,YF]
  obtain⟨h1,h2,h3,h4,_⟩:=adv_parts h
  have hw:=headL_ok h
  have hj:=Bw (l:=headL a) (by simp[headL]) (fun w hx=>(hw w hx).2.1)
  have hl:=lineW_len (l:=headL a) (by simp[headL]) (fun w hx=>(hw w hx).2.1)
  rw[Nw (by omega) (by omega),Yt]
  dsimp only
  unfold headL at hj
  rw[hj,Yt]
  have e1:Lib.join [[97,100,118,105,99,101],a.1,a.2.1,vV a.2.2.1] [32]++[10]=lineW (headL a):=rfl
  rw[e1]
  dsimp only
  rw[aJ (YJ (by omega)),parcTextsC_eq _ _ (parOk_of h) (by omega),Yt]
  show some _=_
  by_cases hb:((advT a).length:Int)>300000
  ·rw[YR hb]
   have hb':((lineW (headL a)++parsT a.2.2.2).length:Int)>300000:=hb
   rw[YJ hb',YG]
   rfl
  ·rw[YQ hb]
   have hb':¬ ((lineW (headL a)++parsT a.2.2.2).length:Int)>300000:=hb
   rw[YI hb',YF]
   rfl
 ·rw[YQ h]
  have hb:(jq a != 0)=true:=by simpa using h
  rw[hb,YG]
theorem r10_Text_eq (a:ai) (hf:Jb a):BP a=some (if jq a=0 then (if ((advT a).length:Int)>300000 then ([],2,()) else (advT a,0,())) else ([],jq a,())):=by
 unfold BP
 rw[DT a hf,Yt]
 dsimp only
 by_cases h:jq a=0
 ·rw[YR h,h,show ((0:Int) != 0)=false from rfl,YF]
  obtain⟨h1,h2,h3,h4,_⟩:=adv_parts h
  have hw:=headL_ok h
  have hl:=lineW_len (l:=headL a) (by simp[headL]) (fun w hx=>(hw w hx).2.1)
  have l1:=(iB h1).2.1
  have l2:=(iB h2).2.1
  have l3:(vV a.2.2.1).length<=40:=(I9 (n:=a.2.2.1) (by omega)).2.1
  rw[Nw (by omega) (by omega),Yt]
  dsimp only
  rw[<- head_line]
  iterate 6 rw[aJ (YJ (by rw[cE];simp only[Xl,Xm,Xp];omega))]
  rw[aJ (YJ (by rw[cE,Xp];omega))]
  rw[show (0:Int)=((0:Nat):Int) from rfl,XM,rt_outer a.2.2.2 h4 (parOk_of h) a.2.2.2 0 _ (lineW (headL a)) rfl (by omega) (Ys _) (by omega)]
  show (bif decide (((advT a).length:Int)>300000) then some ([],2,()) else some (advT a,0,()))=_
  by_cases hb:((advT a).length:Int)>300000
  ·rw[YR hb,YJ hb,YG]
  ·rw[YQ hb,YI hb,YF]
   rfl
 ·rw[YQ h]
  have hb:(jq a != 0)=true:=by simpa using h
  rw[hb,YG]
end Go.Md
namespace Go.Md
open Go.Dn
theorem bare_dash {s:List UInt8} (h:s≠[45]):wI (dashW s)=s:=by
 unfold wI dashW
 by_cases e:s=[]
 ·subst e;rfl
 ·have h1:(s==[])=false:=by simpa using e
  have h2:(s==[45])=false:=by simpa using h
  rw[h1,YF,h2,YF]
theorem dash_ok {s:List UInt8} (h:s=[]\/gY s):gY (dashW s):=by
 unfold dashW
 rcases h with rfl | h
 ·exact⟨by decide,by decide,by decide,by decide⟩
 ·have h1:(s==[])=false:=by simpa using h.1
  rw[h1,YF]
  exact h
theorem parL_ok {p:aa} (h:ParOk p):∀ w∈parL p,gY w:=by
 intro w hw
 unfold parL at hw
 simp only[XB,XP,or_false] at hw
 rcases hw with rfl | rfl | rfl | rfl
 ·exact⟨by decide,by decide,by decide,by decide⟩
 ·exact h.lab
 ·exact dash_ok h.nest
 ·exact I8 h.num
theorem conL_ok {c:ay} (h:ConOk c):∀ w∈conL c,gY w:=by
 intro w hw
 unfold conL at hw
 simp only[XB,XP,or_false] at hw
 rcases hw with rfl | rfl | rfl | rfl | rfl
 ·exact⟨by decide,by decide,by decide,by decide⟩
 ·exact oG h.art
 ·exact oG h.unit
 ·exact dash_ok (h.lot.imp id oG)
 ·exact I8 h.num
noncomputable def parsW:List aa->List (List (List UInt8))
 | []=>[]
 | p::r=>(parL p::p.2.2.2.map conL)++parsW r
noncomputable def advW (a:ai):List (List (List UInt8)):=headL a::parsW a.2.2.2
def joinW (w:List (List UInt8)):List UInt8:=Lib.join w [32]
theorem conT_w:∀ l:List ay,conT l=((l.map conL).map lineW).flatten
 | []=>rfl
 | c::r=>by
  rw[conT,conT_w r]
  rfl
theorem parsT_w:∀ l:List aa,parsT l=((parsW l).map lineW).flatten
 | []=>rfl
 | p::r=>by
  rw[parsT,parsT_w r,parsW,parT,conT_w,Xu,List.flatten_append]
  rfl
theorem advT_w (a:ai):advT a=(((advW a).map joinW).map fun w=>w++[10]).flatten:=by
 rw[advT,parsT_w,Xx]
 rfl
theorem textG_t:∀ L:List (List UInt8),B0 true L=(L.map fun w=>w++[10]).flatten
 | []=>rfl
 | w::M=>by
  rw[B0,textG_t M]
  cases M with
  | nil=>simp
  | cons a r=>simp
theorem linesInj:∀ (L M:List (List UInt8)),(∀ w,w∈L->(10:UInt8)∉w)->(∀ w,w∈M->(10:UInt8)∉w)->(L.map fun w=>w++[10]).flatten=(M.map fun w=>w++[10]).flatten->L=M
 | [],[],_,_,_=>rfl
 | [],b::s,_,_,h=>by simp at h
 | a::r,[],_,_,h=>by simp at h
 | a::r,b::s,h1,h2,h=>by
  simp only[Xw,List.flatten_cons,Wy,XV] at h
  have e:=congrArg (dz 10) h
  rw[A6 10 _ _ (h1 a (by simp)),A6 10 _ _ (h2 b (by simp))] at e
  simp only[Prod.mk.injEq,YA] at e
  rw[e.1,linesInj r s (fun w hw=>h1 w (by simp[hw])) (fun w hw=>h2 w (by simp[hw])) e.2]
theorem lines_back (W:List (List (List UInt8))) (hne:W≠[]) (hok:∀ l∈W,∀ w∈l,gY w) (t:List UInt8) (ht:t=((W.map joinW).map fun w=>w++[10]).flatten) (hl:t.length<=1000000):lM t=some (W.map joinW,true,()):=by
 obtain⟨L,e,g1,g2,g3,g4,g5,g6⟩:=DC t hl
 have hlast:t.getLast? =some 10:=by
  obtain⟨i,x,rfl⟩:∃ i x,W=i++[x]:=⟨W.dropLast,W.getLast hne,(List.dropLast_concat_getLast hne).symm⟩
  rw[ht]
  simp
 have hL:L≠[]:=fun h=>by
  subst h
  have:t=[]:=g2.symm
  rw[this] at hlast;cases hlast
 have he:e=true:=by
  cases e with
  | true=>rfl
  | false=>exact absurd hlast (g6 rfl hL).2
 subst he
 have:L=W.map joinW:=by
  refine linesInj L _ g3 (fun w hw=> ?_) ?_
  ·obtain⟨l,hl,rfl⟩:=XG.1 hw
   intro hc
   rcases NL hc with hc | ⟨x,hx,hc⟩
   ·cases hc
   ·exact (hok l hl x hx).2.2.2 hc
  ·rw[<- textG_t,g2,ht]
 rw[g1,this]
theorem rdL_join (a:ai) (f:Bool) {W:List (List UInt8)} (hne:W≠[]) (hok:∀ w∈W,gY w):rdL a f (joinW W)=rdW a f W:=by
 unfold rdL joinW
 have hW:aS 32 (Lib.join W [32])=W:=Co 32 _ hne (fun w hw=>(hok w hw).2.2.1)
 have hf:nA W=true:=by
  unfold nA
  rw[Wv]
  intro w hw
  have:=(hok w hw).1
  simp[this]
 rw[hW,hf,YG]
theorem rd_head (a z:ai) (h1:1<=a.2.2.1) (h2:a.2.2.1<=3652059):rdW z true (headL a)=some (a.1,a.2.1,a.2.2.1,z.2.2.2):=by
 have e1:wO (vV a.2.2.1)=true:=Ip (by have:(10:Nat) ^ 16=10000000000000000:=rfl;omega)
 have e2:GH (vV a.2.2.1)=a.2.2.1:=by
  unfold vV
  rw[Sk (by have:(10:Nat) ^ 16=10000000000000000:=rfl;omega)];omega
 show (bif true&&(true&&wO (vV a.2.2.1)) then some (a.1,a.2.1,GH (vV a.2.2.1),z.2.2.2) else none)=_
 rw[e1,e2]
 rfl
theorem rd_par (z:ai) (p:aa) (h:ParOk p) (hn:p.2.1≠[45]):rdW z false (parL p)=some (z.1,z.2.1,z.2.2.1,z.2.2.2++[(p.1,p.2.1,p.2.2.1,[])]):=by
 have e1:=IZ h.num
 show (bif (kU (iA p.2.2.1)).2==0 then some (z.1,z.2.1,z.2.2.1,z.2.2.2++[(p.1,wI (dashW p.2.1),(kU (iA p.2.2.1)).1,[])]) else none)=_
 rw[e1,bare_dash hn]
 rfl
theorem putC_last (c:ay) (p:aa):∀ ps:List aa,putC (ps++[p]) c=ps++[(p.1,p.2.1,p.2.2.1,p.2.2.2++[c])]
 | []=>rfl
 | [q]=>rfl
 | q::r::s=>by
  have:=putC_last c p (r::s)
  rw[WB,WB,putC]
  rw[WB] at this
  rw[this]
  rfl
theorem rd_con (x1 x2:List UInt8) (x3:Int) (ps:List aa) (p:aa) (c:ay) (h:ConOk c):rdW (x1,x2,x3,ps++[p]) false (conL c)=some (x1,x2,x3,ps++[(p.1,p.2.1,p.2.2.1,p.2.2.2++[c])]):=by
 have e1:=IZ h.num
 have hn:c.2.2.1≠[45]:=fun e=>by
  rcases h.lot with h | h
  ·rw[e] at h;cases h
  ·rw[e,nm_dash] at h;cases h
 have e2:(ps++[p]).isEmpty=false:=by cases ps<;>rfl
 show (bif true&&(true&& !(ps++[p]).isEmpty) then (bif (kU (iA c.2.2.2)).2==0 then some (x1,x2,x3,putC (ps++[p]) (c.1,c.2.1,wI (dashW c.2.2.1),(kU (iA c.2.2.2)).1)) else none) else none)=_
 rw[e1,e2,bare_dash hn,putC_last]
 rfl
theorem go_cons (s:List UInt8) (M:List (List UInt8)) (i:Nat) (a b:ai) (h:rdL a (i==0) s=some b):pGo true (s::M) i a=pGo true M (i+1) b:=by
 rw[pGo,h]
 rfl
theorem go_con (x1 x2:List UInt8) (x3:Int) (ps:List aa) (l n:List UInt8) (w:ah) (M:List (List UInt8)):∀ (cs acc:List ay) (i:Nat),(∀ c∈cs,ConOk c)->pGo true ((cs.map conL).map joinW++M) (i+1) (x1,x2,x3,ps++[(l,n,w,acc)])=pGo true M (i+1+cs.length) (x1,x2,x3,ps++[(l,n,w,acc++cs)])
 | [],acc,i,_=>by rw[WA];rfl
 | c::cs,acc,i,h=>by
  have hc:=h c (by simp)
  have h1:=rd_con x1 x2 x3 ps (l,n,w,acc) c hc
  rw[<- rdL_join _ _ (by simp[conL]) (conL_ok hc)] at h1
  rw[Xw,Xw,WB,go_cons _ _ _ _ _ h1,go_con x1 x2 x3 ps l n w M cs (acc++[c]) (i+1) (fun x hx=>h x (by simp[hx])),Xm,show i+1+1+cs.length=i+1+(cs.length+1) by omega,Wy]
  rfl
theorem go_par (x1 x2:List UInt8) (x3:Int):∀ (l ps:List aa) (i:Nat),(∀ p∈l,ParOk p/\p.2.1≠[45])->pGo true ((parsW l).map joinW) (i+1) (x1,x2,x3,ps)= .inl (x1,x2,x3,ps++l)
 | [],ps,i,_=>by rw[WA];rfl
 | p::r,ps,i,h=>by
  obtain⟨hp,hn⟩:=h p (by simp)
  have h1:=rd_par (x1,x2,x3,ps) p hp hn
  rw[<- rdL_join _ _ (by simp[parL]) (parL_ok hp)] at h1
  rw[parsW,Xu,Xw,WB,go_cons _ _ _ _ _ h1,go_con x1 x2 x3 ps p.1 p.2.1 p.2.2.1 _ p.2.2.2 [] (i+1) hp.con,show i+1+1+p.2.2.2.length=(i+1+p.2.2.2.length)+1 by omega,go_par x1 x2 x3 r _ _ (fun q hq=>h q (by simp[hq])),XM,Wy]
  rfl
theorem nest_ne {a:ai} (h:jq a=0):∀ p∈a.2.2.2,p.2.1≠[45]:=by
 obtain⟨_,_,_,_,hs,hn⟩:=adv_parts h
 have hn1:DJ a.2.2.2=0:=by
  unfold yB at hn
  split at hn
  ·rename_i h1;exact absurd hn h1
  ·rename_i h1;simpa using h1
 have hN:=uN hn1
 intro p hp e
 rcases hN p hp with he | he
 ·rw[e] at he;cases he
 ·cases hx:fJ (fun x:aa=>x.1) p.2.1 a.2.2.2 with
  | none=>exact absurd he (by rw[hx];decide)
  | some k=>
   obtain⟨x,hk,hxe⟩:=nS hx
   have h2:=(parc_parts hs x (XH hk)).1
   have h3:lbl ([45]:List UInt8)=true:=by rw[<- e, <- hxe];exact h2
   revert h3
   decide
theorem advW_ok {a:ai} (h:jq a=0):∀ l∈advW a,∀ w∈l,gY w:=by
 have hp:=parOk_of h
 have key:∀ ps:List aa,(∀ p∈ps,ParOk p)->∀ l∈parsW ps,∀ w∈l,gY w:=by
  intro ps
  induction ps with
  | nil=>intro _ l hl;cases hl
  | cons p r ih=>
   intro hps l hl
   rw[parsW] at hl
   rcases Xy.1 hl with hl | hl
   ·rcases XB.1 hl with rfl | hl
    ·exact parL_ok (hps p (by simp))
    ·obtain⟨c,hc,rfl⟩:=XG.1 hl
     exact conL_ok ((hps p (by simp)).con c hc)
   ·exact ih (fun q hq=>hps q (by simp[hq])) l hl
 intro l hl
 rcases XB.1 hl with rfl | hl
 ·exact headL_ok h
 ·exact key _ hp l hl
theorem read_back (a:ai) (hf:Jb a) (h:jq a=0) (hl:(advT a).length<=300000):mZ (advT a)=some (a,0,0,()):=by
 obtain⟨h1,h2,h3,h4,_⟩:=adv_parts h
 unfold mZ
 rw[YI (by omega),YF,lines_back (advW a) (by simp[advW]) (advW_ok h) _ (advT_w a) (by omega),Yt]
 dsimp only
 have e1:((advW a).map joinW).isEmpty=false:=rfl
 have e2:=rd_head a zA h3.1 h3.2
 rw[<- rdL_join _ _ (by simp[headL]) (headL_ok h)] at e2
 have e3:pGo true ((advW a).map joinW) 0 zA= .inl a:=by
  rw[advW,Xw,go_cons _ _ 0 _ _ e2,go_par a.1 a.2.1 a.2.2.1 a.2.2.2 zA.2.2.2 0 (fun p hp=>⟨parOk_of h p hp,nest_ne h p hp⟩)]
  rfl
 rw[e1,YF,e3]
 dsimp only
 rw[rL a hf,Yt,h]
 rfl
theorem fitP_of {a:ai} (h:jq a=0):FitP 1000 a:=by
 obtain⟨_,_,_,h4,_⟩:=adv_parts h
 exact⟨by omega,fun p hp=>⟨Yd (parOk_of h p hp).lab.2.1 (by decide),Yd (parOk_of h p hp).few (by decide)⟩⟩
theorem law_ParcelTexts (a:ai) (hf:Jb a):fy a=some (true,()):=by
 unfold fy
 rw[textC_eq a hf,r10_Text_eq a hf,Yt,Yt]
 by_cases h:jq a=0
 ·rw[YR h]
  by_cases hb:((advT a).length:Int)>300000
  ·rw[YR hb]
   dsimp only
   rw[awake10]
   rfl
  ·rw[YQ hb]
   dsimp only
   rw[awake10,read_back a hf h (by omega),Yt,Yt]
   dsimp only
   rw[same_self a 1000 (by omega) (fitP_of h)]
   simp
 ·rw[YQ h]
  dsimp only
  rw[awake10]
  have hb:(jq a != 0)=true:=by simpa using h
  simp[hb]
end Go.Md
