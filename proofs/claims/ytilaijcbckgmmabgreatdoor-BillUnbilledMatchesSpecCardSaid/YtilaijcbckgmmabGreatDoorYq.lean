/-
  Plain facts, small ones. No condition.
-/
import Derived.Test.YtilaijcbckgmmabGreatDoorYp
import Derived.Test.YtilaijcbckgmmabGreatDoorYm
set_option linter.all false
namespace Go.Md
open Go.Dn
section
variable {k:Option Nat->Int} {ar:List aE} {ok:Option Nat->Prop}
end
end Go.Md
namespace Go.Md
open Go.Dn
section
variable {k:Option Nat->Int} {ar:List aE} {ok:Option Nat->Prop}
end
end Go.Md
namespace Go.Md
open Go.Dn
section
variable {k:Option Nat->Int} {ar:List aE} {ok:Option Nat->Prop}
end
end Go.Md
namespace Go.Md
open Go.Dn
section
variable {k:Option Nat->Int} {ar:List aE} {ok:Option Nat->Prop}
end
end Go.Md
namespace Go.Md
open Go.Dn
section
variable {k:Option Nat->Int} {ar:List aE} {ok:Option Nat->Prop}
end
end Go.Md
namespace Go.Md
open Go.Dn
def iC {α:Type} (g:Nat->α->Int):Nat->List α->Int
 | _,[]=>0
 | i,y::r=>if g i y=0 then iC g (i+1) r else g i y
theorem E6 {α:Type} {g:Nat->α->Int}:∀ {l:List α} {i:Nat},iC g i l=0->∀ j y,l[j]? =some y->g (i+j) y=0
 | [],_,_,_,_,h=>by simp at h
 | y::r,i,h,j,z,hz=>by
  simp only[iC] at h
  by_cases hg:g i y=0
  ·rw[aiM hg] at h
   cases j with
   | zero=>simp at hz;subst hz;exact hg
   | succ j=>have:=E6 h j z (by simpa using hz);rw[show i+(j+1)=i+1+j by omega];exact this
  ·rw[aiL hg] at h;exact absurd h hg
theorem UX {X α:Type} {γ:Type} {f:X->(X->Option ((Int×Unit) ⊕ γ))->Option ((Int×Unit) ⊕ γ)} (mk:Nat->X) (l:List α) (g:Nat->α->Int) (u:γ) (hstep:∀ i y again,l[i]? =some y->f (mk i) again=if g i y=0 then again (mk (i+1)) else some (Sum.inl (g i y,()))) (hend:∀ again,f (mk l.length) again=some (Sum.inr u)): ∀ (r:List α) (i n:Nat),l.drop i=r->i<=l.length->r.length<n->iter n (mk i) f=if iC g i r=0 then some (Sum.inr u) else some (Sum.inl (iC g i r,()))
 | _,_,0,_,_,hn=>absurd hn (aie _)
 | [],i,n+1,hd,hi,_=>by
  have:i=l.length:=by
   have:=congrArg List.length hd
   simp at this;omega
  subst this
  rw[aX,hend];rfl
 | y::r,i,n+1,hd,hi,hn=>by
  have hy:l[i]? =some y:=by
   have:=congrArg (·[0]?) hd
   simpa [agT] using this
  have hr:l.drop (i+1)=r:=by
   have:=congrArg List.tail hd
   simpa [ahG] using this
  have hi':i<l.length:=(agW.1 hy).1
  rw[aX,hstep i y _ hy]
  by_cases hg:g i y=0
  ·have e:iC g i (y::r)=iC g (i+1) r:=by simp[iC,hg]
   rw[aiM hg,e]
   exact UX mk l g u hstep hend r (i+1) n hr hi' (by simp at hn;omega)
  ·have e:iC g i (y::r)=g i y:=by simp[iC,hg]
   rw[aiL hg,e,aiL hg]
theorem eA (a b c:Int):bP a b c=some (decide (a<b\/c<a),()):=by
 unfold bP
 by_cases h:a<b
 ·rw[aG h];simp[h]
 ·rw[aK h];simp[h]
theorem nM (n:Int):iw n=some (decide (1<=n/\n<=3652059),()):=by
 unfold iw
 rw[eA,aim]
 congr 2
 simp only[<- decide_not]
 congr 1
 simp only[aiH];omega
def bU (s:Bys):Bool:=((cK s).map (·.1)).getD false
theorem mH (s:Bys):cK s=some (bU s,()):=by
 have:∃ b,cK s=some (b,()):=by
  unfold cK
  by_cases h1:(s.length:Int)<1
  ·rw[aG h1];exact⟨_,rfl⟩
  ·rw[aK h1]
   by_cases h2:(s.length:Int)>40
   ·rw[aG h2];exact⟨_,rfl⟩
   ·rw[aK h2]
    have hs:En s 0=some (s[0]'(by omega)):=by simp[En]
    rw[hs]
    simp only[aim]
    have ht:lU s [97,98,99,100,101,102,103,104,105,106,107,108,109,110,111,112,113,114,115,116,117,118,119,120,121,122,48,49,50,51,52,53,54,55,56,57,45]=some (Lib.trimS s [97,98,99,100,101,102,103,104,105,106,107,108,109,110,111,112,113,114,115,116,117,118,119,120,121,122,48,49,50,51,52,53,54,55,56,57,45],()):=by
     unfold lU
     rw[show (decide (s.length<=9223372036854775807))=true by simp;omega]
     rfl
    rw[ht]
    simp only[aim]
    generalize (decide ((((s[0]'(by omega)).toNat:Int))<97))=b1
    generalize (decide ((((s[0]'(by omega)).toNat:Int))>122))=b2
    cases b1<;>cases b2<;>exact⟨_,rfl⟩
 obtain⟨b,hb⟩:=this
 unfold bU
 rw[hb];rfl
theorem Ic (d:ah):cA d=some (if -1000000000000000<=d.1/\d.1<=1000000000000000/\0<=d.2/\d.2<=9 then 0 else 1,()):=by
 unfold cA
 rw[eA,aim,eA]
 simp only[aim]
 by_cases h1:d.1< -1000000000000000\/1000000000000000<d.1
 ·rw[aG h1,aiL (by omega)]
 ·rw[aK h1]
  by_cases h2:d.2<0\/9<d.2
  ·rw[aG h2,aiL (by omega)]
  ·rw[aK h2,aiM (by omega)]
theorem adh {n:Nat} (h:n<=18):(10:Int) ^ n<=1000000000000000000:=by
 have:=aih (n:=10) (by omega) h
 have h2:=Int.ofNat_le.2 this
 simpa using h2
theorem wu (n:Nat):(0:Int)<10 ^ n:=QS (by omega) n
theorem Lu (n:Int) (h0:0<=n) (h1:n<=18):xm n=some (10 ^ n.toNat,()):=by
 obtain⟨m,rfl⟩:∃ m:Nat,n=m:=⟨n.toNat,by omega⟩
 unfold xm
 have:iter (X:=zo) (β:=zn) (Int.natAbs (1:Int)+(Int.natAbs (m:Int)+(Int.natAbs (0:Int)+2))) (1,(m:Int),0,()) zm=some (Sum.inr (10 ^ m,())):=by
  refine cx (Inv:=fun i x=>x=(10 ^ i,(m:Int),(i:Int),())) m (fun r=>r=some (Sum.inr (10 ^ m,()))) ?_ ?_ _ 0 _ (by simp) (by omega) (by omega)
  ·rintro i _ again hi rfl ih
   unfold zm
   dsimp only
   have h10:=adh (n:=i+1) (by omega)
   have hp:=wu (i+1)
   rw[agl] at h10 hp
   rw[aG (by omega),ax (by omega) (by omega),ax (by omega) (by omega)]
   exact ih _ (by rw[agl];rfl)
  ·rintro _ again rfl
   unfold zm
   dsimp only
   rw[aK (by omega)]
 rw[this,aR]
 simp
theorem Rj (d:ah) (most:Int) (h0:0<=d.2) (h1:d.2<=9) (hm0:0<=most) (hm1:most<=1000000000):eE d most=some (decide (-(most*10 ^ d.2.toNat)<=d.1/\d.1<=most*10 ^ d.2.toNat),()):=by
 unfold eE
 rw[Lu _ h0 (by omega),aim]
 dsimp only
 have hp:=wu d.2.toNat
 have hq:(10:Int) ^ d.2.toNat<=1000000000:=by
  have:=aih (n:=10) (by omega) (show d.2.toNat<=9 by omega)
  have h2:=Int.ofNat_le.2 this
  simpa using h2
 have h3:most*10 ^ d.2.toNat<=1000000000*1000000000:=by
  have a1:most*10 ^ d.2.toNat<=1000000000*10 ^ d.2.toNat:=Int.mul_le_mul_of_nonneg_right hm1 (by omega)
  omega
 have h4:0<=most*10 ^ d.2.toNat:=agd hm0 (by omega)
 rw[ax (n:=most*10 ^ d.2.toNat) (by omega) (by omega),ax (by omega) (by omega),eA,aim]
 congr 2
 simp only[<- decide_not]
 congr 1
 simp only[aiH];omega
def adv (d:ah):Prop:=0<d.1/\0<=d.2/\d.2<=4/\d.1<=1000000000*10 ^ d.2.toNat
instance (d:ah):Decidable (adv d):=by unfold adv;exact inferInstance
end Go.Md
namespace Go.Md
open Go.Dn
abbrev Bd:=aE
section
variable {ar:List Bd} {h:Nat} {x:Bd}
end
end Go.Md
namespace Go.Md
open Go.Dn
theorem Aw {k v:Ty} (p:k.den×v.den) (m:List (k.den×v.den)) (n:k.den):bV (p::m) n=bif k.beq n p.1 then some p.2 else bV m n:=by
 unfold bV
 rw[List.find?_cons]
 cases k.beq n p.1<;>rfl
theorem ab2 {k v:Ty} (p:k.den×v.den) (m:List (k.den×v.den)) (x:k.den) (y:v.den):jG (p::m) x y=bif k.beq x p.1 then (x,y)::m else p::jG m x y:=rfl
theorem NC {k v:Ty} (hb:∀ a b:k.den,k.beq a b=true↔a=b) (m:List (k.den×v.den)) (x:k.den) (y:v.den) (n:k.den):bV (jG m x y) n=bif k.beq x n then some y else bV m n:=by
 have hcomm:∀ a b:k.den,k.beq a b=k.beq b a:=fun a b=>by
  rw[afU,hb,hb];exact eq_comm
 induction m with
 | nil=>
  change bV [(x,y)] n=_
  rw[Aw,hcomm n x]
 | cons p m ih=>
  rw[ab2]
  cases hp:k.beq x p.1 with
  | true=>
   rw[aiz,Aw,Aw,hcomm n p.1, <- (hb _ _).1 hp,hcomm n x]
   cases k.beq x n<;>rfl
  | false=>
   rw[aiy,Aw,Aw,ih]
   cases hn:k.beq n p.1 with
   | true=>
    have:k.beq x n=false:=by
     cases h:k.beq x n with
     | false=>rfl
     | true=>rw[(hb _ _).1 h,hn] at hp;cases hp
    rw[this];rfl
   | false=>rfl
end Go.Md
namespace Go.Md
open Go.Dn
def few:Nat->Int->Int×Nat
 | 0,z=>(z,0)
 | p+1,z=>if z % 10=0 then few p (z / 10) else (z,p+1)
theorem Ci:∀ (p:Nat) (z:Int),(few p z).2<=p/\(few p z).1*10 ^ (p - (few p z).2)=z/\(few p z).1.natAbs<=z.natAbs
 | 0,z=>by simp[few]
 | p+1,z=>by
  unfold few
  split
  ·rename_i h
   obtain⟨h1,h2,h3⟩:=Ci p (z / 10)
   refine⟨by omega, ?_,by omega⟩
   rw[show p+1 - (few p (z / 10)).2=(p - (few p (z / 10)).2)+1 by omega,agl, <- agb,h2]
   omega
  ·simp
theorem QB:∀ p,few p 0=(0,0)
 | 0=>rfl
 | p+1=>by unfold few;simp[QB p]
theorem Tf (z:Int) (p:Int):yI (W z) p=some (if z.natAbs<=1000000000000000 then ((z,p),0,()) else ((0,0),1,())):=by
 unfold yI
 rw[Q4 z 1000000000000000 (by omega) (by omega),aim]
 by_cases h:(z.natAbs:Int)<=1000000000000000
 ·rw[aiM h,aiM (by omega)];rfl
 ·rw[aiL h,aiL (by omega)];rfl
theorem FA (z:Int) (hz:z.natAbs<4294967296 ^ 99) (p:Nat) (hp:p<=1000):ke (W z) (p:Int)=some (if (few p z).1.natAbs<=1000000000000000 then (((few p z).1,((few p z).2:Int)),0,()) else ((0,0),1,())):=by
 unfold ke
 rw[nD 10 (by omega) (by omega),aim]
 dsimp only
 have loop:∀ (n:Nat) (z:Int) (p:Nat),z.natAbs<4294967296 ^ 99->p<=1000->p<n->iter (X:=sI) (β:=sH) n ((p:Int),(W z).1,(W z).2,0,0,(W 10).1,(W 10).2,()) sG=some (Sum.inr (((few p z).2:Int),(W (few p z).1).1,(W (few p z).1).2,0,0,())):=by
  intro n
  induction n with
  | zero=>intro z p _ _ h;omega
  | succ n ih=>
   intro z p hz hp hn
   rw[aX]
   generalize hag:(fun y=>iter n y sG)=again
   unfold sG
   dsimp only
   cases p with
   | zero=>rw[aK (by omega)];rfl
   | succ p=>
    have e10:(10:Int).natAbs=10:=rfl
    rw[aG (by omega)]
    change (Option.bind (w8 (W z) (W 10)) _)=_
    rw[S9 z 10 hz (by rw[e10];exact ah3 (by omega) (aih (n:=4294967296) (by omega) (show 1<=99 by omega))) (by omega),aim]
    dsimp only
    rw[jZ,aim]
    dsimp only
    rw[e10]
    by_cases hm:z % 10=0
    ·have hm2:z.natAbs % 10=0:=by omega
     rw[hm2,show ((((0:Nat):Int).sign) != 0)=false from rfl,aiy]
     change (Option.bind (fS (W z)) _)=_
     rw[jZ,aim]
     dsimp only
     have hf:few (p+1) z=few p (z / 10):=by simp[few,hm]
     rw[hf]
     have hz':(z / 10).natAbs<4294967296 ^ 99:=ah2 (by omega) hz
     by_cases hneg:z<0
     ·rw[aG (by rw[agm hneg];omega),DU _ (by simp only[agh];exact ah2 (Nat.div_le_self _ _) hz),aim]
      dsimp only
      rw[show -((z.natAbs / 10:Nat):Int)=z / 10 by omega,ax (by omega) (by omega),show ((p+1:Nat):Int) - 1=(p:Int) by omega, <- hag]
      exact ih (z / 10) p hz' (by omega) (by omega)
     ·rw[aK (by
       rcases (show z=0\/0<z by omega) with h | h
       ·subst h;decide
       ·rw[agn h];omega),show ((z.natAbs / 10:Nat):Int)=z / 10 by omega,ax (by omega) (by omega),show ((p+1:Nat):Int) - 1=(p:Int) by omega, <- hag]
      exact ih (z / 10) p hz' (by omega) (by omega)
    ·have hm2:0<z.natAbs % 10:=by omega
     have:(((z.natAbs % 10:Nat):Int).sign != 0)=true:=by
      rw[agn (by omega)];rfl
     rw[this,aiz]
     have hf:few (p+1) z=(z,p+1):=by simp[few,hm]
     rw[hf]
 have:=loop (Int.natAbs (p:Int)+(List.length (W z).2+(Int.natAbs (0:Int)+(Int.natAbs (0:Int)+(List.length (W 10).2+2))))) z p hz hp (by omega)
 rw[this,aR]
 dsimp only
 change (Option.bind (yI (W (few p z).1) ((few p z).2:Int)) _)=_
 rw[Tf,aim]
def bZ (d:ah):Int:=d.1*10 ^ (9 - d.2).toNat
def b9 (d:ah):Prop:=d.1.natAbs<=1000000000000000/\0<=d.2/\d.2<=9
theorem Gj {z:Int} (h:z.natAbs<1000000000000000000000000000000000000000000000000000000000000):(dg6 z.natAbs).length<=10:=adY (k:=10) (by simpa using h)
theorem PD (n:Nat) (hn:n<=40):K9 (n:Int)=some (N (10 ^ n),()):=by
 unfold K9
 rw[nY 1 (by omega) (by omega),aim]
 dsimp only
 have hb:∀ i:Nat,i<=41->(dg6 ((10:Int) ^ i).natAbs).length<=10:=by
  intro i hi
  refine Gj ?_
  have h1:((10:Int) ^ i).natAbs=10 ^ i:=by rw[agi];rfl
  have h2:=aih (n:=10) (by omega) hi
  omega
 have loop:iter (X:=C3) (β:=CZ) (Int.natAbs (n:Int)+(Int.natAbs (0:Int)+(List.length ([]:List Int)+(List.length (N 1).2+2)))) ((n:Int),0,false,[],(N 1).1,(N 1).2,()) CY=some (Sum.inr (false,[],(N (10 ^ n)).1,(N (10 ^ n)).2,())):=by
  refine cx (Inv:=fun i x=>x=((n:Int),(i:Int),false,[],(N (10 ^ i)).1,(N (10 ^ i)).2,())) n (fun r=>r=some (Sum.inr (false,[],(N (10 ^ n)).1,(N (10 ^ n)).2,()))) ?_ ?_ _ 0 _ (by simp) (by omega) (by omega)
  ·rintro i _ again hi rfl ih
   unfold CY
   dsimp only
   rw[aG (by omega),nY 10 (by omega) (by omega),aim]
   change (Option.bind (lD (N (10 ^ i)) (N 10)) _)=_
   have h10:(dg6 (10:Int).natAbs).length<=10:=Gj (by decide)
   rw[ug _ _ (by have:=hb i (by omega);omega) (by omega),aim]
   dsimp only
   rw[ax (by omega) (by omega)]
   exact ih _ (by rw[agl];rfl)
  ·rintro _ again rfl
   unfold CY
   dsimp only
   rw[aK (by omega)]
 rw[loop,aR]
theorem K7 (d:ah) (hd:b9 d):Bq d 9=some (N (bZ d),()):=by
 obtain⟨h1,h2,h3⟩:=hd
 unfold Bq
 rw[nY _ (by omega) (by omega),aim,ax (by omega) (by omega)]
 dsimp only
 obtain⟨m,hm⟩:∃ m:Nat,9 - d.2=m:=⟨(9 - d.2).toNat,by omega⟩
 rw[hm,PD m (by omega),aim]
 dsimp only
 have hl1:(dg6 d.1.natAbs).length<=10:=Gj (by omega)
 have hl2:(dg6 ((10:Int) ^ m).natAbs).length<=10:=by
  refine Gj ?_
  have h1:((10:Int) ^ m).natAbs=10 ^ m:=by rw[agi];rfl
  have h2:=aih (n:=10) (by omega) (show m<=9 by omega)
  omega
 rw[ug _ _ (by omega) (by omega),aim]
 unfold bZ
 rw[hm];rfl
theorem RH {d:ah} (hd:b9 d):(bZ d).natAbs<=1000000000000000000000000:=by
 obtain⟨h1,h2,h3⟩:=hd
 unfold bZ
 rw[agf,agi]
 have h4:=aih (n:=10) (by omega) (show (9 - d.2).toNat<=9 by omega)
 have h5:d.1.natAbs*(10:Int).natAbs ^ (9 - d.2).toNat<=1000000000000000*1000000000:=aic h1 (by simpa using h4)
 omega
end Go.Md
namespace Go.Md
open Go.Dn
end Go.Md
namespace Go.Md
open Go.Dn
end Go.Md
namespace Go.Md
open Go.Dn
theorem Sg {X α B:Type} {f:X->(X->Option B)->Option B} (mk:Nat->X) (l:List α) (g:Nat->α->Int) (fin:Option B) (out:Int->Option B) (hstep:∀ i y again,l[i]? =some y->f (mk i) again=if g i y=0 then again (mk (i+1)) else out (g i y)) (hend:∀ again,f (mk l.length) again=fin): ∀ (r:List α) (i n:Nat),l.drop i=r->i<=l.length->r.length<n->iter n (mk i) f=if iC g i r=0 then fin else out (iC g i r)
 | _,_,0,_,_,hn=>absurd hn (aie _)
 | [],i,n+1,hd,hi,_=>by
  have:i=l.length:=by
   have:=congrArg List.length hd
   simp at this;omega
  subst this
  rw[aX,hend];rfl
 | y::r,i,n+1,hd,hi,hn=>by
  have hy:l[i]? =some y:=by
   have:=congrArg (·[0]?) hd
   simpa [agT] using this
  have hr:l.drop (i+1)=r:=by
   have:=congrArg List.tail hd
   simpa [ahG] using this
  have hi':i<l.length:=(agW.1 hy).1
  rw[aX,hstep i y _ hy]
  by_cases hg:g i y=0
  ·have e:iC g i (y::r)=iC g (i+1) r:=by simp[iC,hg]
   rw[aiM hg,e]
   exact Sg mk l g fin out hstep hend r (i+1) n hr hi' (by simp at hn;omega)
  ·have e:iC g i (y::r)=g i y:=by simp[iC,hg]
   rw[aiL hg,e,aiL hg]
end Go.Md
namespace Go.Md
open Go.Dn
end Go.Md
namespace Go.Md
open Go.Dn
def nmC:Bys:=[97,98,99,100,101,102,103,104,105,106,107,108,109,110,111,112,113,114,115,116,117,118,119,120,121,122,48,49,50,51,52,53,54,55,56,57,45]
def nmB (c:UInt8):Bool:=nmC.contains c
set_option maxRecDepth 100000 in
theorem aek:∀ n:Fin 256,nmB (UInt8.ofNat n.1)=((decide (97<=n.1)&&decide (n.1<=122))||((decide (48<=n.1)&&decide (n.1<=57))||decide (n.1=45))):=by decide
theorem aeP (c:UInt8):nmB c=((decide (97<=c.toNat)&&decide (c.toNat<=122))||((decide (48<=c.toNat)&&decide (c.toNat<=57))||decide (c.toNat=45))):=by
 have:=aek ⟨c.toNat,UInt8.toNat_lt c⟩
 simpa using this
theorem Hw {α:Type} {p:α->Bool}:∀ {l:List α},l.dropWhile p=[]↔∀ x∈l,p x=true
 | []=>by simp
 | y::r=>by
  cases hp:p y with
  | true=>rw[List.dropWhile_cons_of_pos hp,Hw];simp[hp]
  | false=>rw[List.dropWhile_cons_of_neg (by simp[hp])];simp[hp]
theorem RN {α:Type} {p:α->Bool} {y:α} {r:List α}:∀ {l:List α},l.dropWhile p=y::r->p y=false
 | [],h=>by simp at h
 | z::t,h=>by
  cases hp:p z with
  | true=>rw[List.dropWhile_cons_of_pos hp] at h;exact RN h
  | false=>rw[List.dropWhile_cons_of_neg (by simp[hp])] at h;cases h;exact hp
theorem acE (s c:Bys):(Lib.trimS s c==[])=s.all (c.contains ·):=by
 rw[afU]
 simp only[beq_iff_eq,agu]
 unfold Lib.trimS Lib.trimLeftS Lib.trimRightS
 constructor
 ·intro h
  rw[Hw] at h
  cases hd:s.reverse.dropWhile (c.contains ·) with
  | nil=>
   rw[Hw] at hd
   intro x hx
   exact hd x (by simpa using hx)
  | cons y r=>
   exfalso
   have h1:=h y (by rw[hd];simp)
   have h2:=RN hd
   rw[h1] at h2
   cases h2
 ·intro h
  have:s.reverse.dropWhile (c.contains ·)=[]:=Hw.2 fun x hx=>h x (by simpa using hx)
  rw[this];rfl
theorem Vj {α:Type} (p:α->Bool) (e:Int) (he:e≠0):∀ (l:List α) (i:Nat),iC (fun _ c=>if p c=true then 0 else e) i l=if l.all p=true then 0 else e
 | [],i=>by simp[iC]
 | y::r,i=>by
  have ih:=Vj p e he r (i+1)
  cases hp:p y with
  | true=>simp only[iC,hp,aiN,agt,af5];exact ih
  | false=>simp[iC,hp,he]
theorem XN {s:Bys} {i:Nat} {c:UInt8} (h:s[i]? =some c):En s (i:Int)=some c:=by simp[En,h]
theorem nX (s:Bys):eX s=some (bU s,()):=by
 unfold eX bU cK NT
 by_cases h0:s=[]
 ·subst h0;rfl
 have hb:(s==[])=false:=by simpa using h0
 have hl:0<s.length:=List.length_pos_iff.2 h0
 rw[hb,aiy,aK (show ¬((s.length:Int)<1) by omega)]
 by_cases h2:(s.length:Int)>40
 ·rw[aG h2,aG h2];rfl
 rw[aK h2,aK h2]
 have hs:En s 0=some (s[0]'hl):=XN (i:=0) (bp hl)
 simp only[hs,aim]
 by_cases h3:(((s[0]'hl).toNat:Int))<97
 ·simp only[aG h3];rfl
 simp only[aK h3]
 by_cases h4:(((s[0]'hl).toNat:Int))>122
 ·simp only[aG h4];rfl
 simp only[aK h4]
 have ht:lU s [97,98,99,100,101,102,103,104,105,106,107,108,109,110,111,112,113,114,115,116,117,118,119,120,121,122,48,49,50,51,52,53,54,55,56,57,45]=some (Lib.trimS s nmC,()):=by
  unfold lU
  rw[show (decide (s.length<=9223372036854775807))=true by simp;omega]
  rfl
 rw[ht,aim]
 have loop:=Sg (f:=By) (fun i=>(s,(s.length:Int),(i:Int),())) s (fun _ c=>if nmB c=true then 0 else 1) (some (Sum.inr ())) (fun _=>some (Sum.inl (false,())))
  (fun i c again hi=>by
    have hil:=(agW.1 hi).1
    unfold By
    dsimp only
    rw[aG (show (i:Int)<(s.length:Int) by omega),XN hi,aim,aeP c,ax (by omega) (by omega)]
    by_cases a1:(c.toNat:Int)<97<;>by_cases a2:(c.toNat:Int)>122<;>by_cases a3:(c.toNat:Int)<48<;>by_cases a4:(c.toNat:Int)>57<;>by_cases a5:(c.toNat:Int)=45<;>
      first
      | omega
      | (have b1:(97<=c.toNat)=¬ ((c.toNat:Int)<97):=by simp only[aiH];omega
         have b2:(c.toNat<=122)=¬ ((c.toNat:Int)>122):=by simp only[aiH];omega
         have b3:(48<=c.toNat)=¬ ((c.toNat:Int)<48):=by simp only[aiH];omega
         have b4:(c.toNat<=57)=¬ ((c.toNat:Int)>57):=by simp only[aiH];omega
         have b5:(c.toNat=45)=((c.toNat:Int)=45):=by simp only[aiH];omega
         simp only[b1,b2,b3,b4,b5,a1,a2,a3,a4,a5,bne,aiG,aiF,not_true_eq_false,aiQ,afS,af5,afQ,Bool.false_and,Bool.or_true,Bool.true_or,Bool.or_false,afX,aiz,aiy,aiN,afV,aiK,Int.one_ne_zero,aiw,af2]
         first | rfl | (have a6:((c.toNat:Int)==45)=false:=(by simp only[aiv,ne_eq];exact a5);rw[a6];rfl)))
  (fun again=>by
    unfold By
    dsimp only
    rw[aK (by omega)])
  s 0 (List.length s+(Int.natAbs ((List.length s:Int))+(Int.natAbs (0:Int)+2))) rfl (aik _) (by omega)
 rw[show ((0:Nat):Int)=0 from rfl] at loop
 rw[loop,Vj nmB 1 (by omega),acE]
 have e:(s.all fun x=>nmC.contains x)=s.all nmB:=rfl
 rw[e]
 cases s.all nmB<;>rfl
theorem Bz (a b c:Int):Az a b c=some (decide (b<=a/\a<=c),()):=by
 unfold Az
 by_cases h:b<=a
 ·rw[aG h];simp[h]
 ·rw[aK h];simp[h]
theorem zz (a b c:Int):jN a b c=some (decide (b<=a/\a<=c),()):=Bz a b c
theorem uD (n:Int):td n=some (decide (1<=n/\n<=3652059),()):=by
 unfold td QW
 rw[Bz];rfl
theorem DI (d:ah):iB d=some (if -1000000000000000<=d.1/\d.1<=1000000000000000/\0<=d.2/\d.2<=9 then 0 else 1,()):=by
 unfold iB
 rw[Bz,aim]
 by_cases h1: -1000000000000000<=d.1/\d.1<=1000000000000000
 ·rw[aiD h1]
  simp only[af2,aiy]
  rw[Bz,aim]
  by_cases h2:0<=d.2/\d.2<=9
  ·rw[aiD h2,aiM ⟨h1.1,h1.2,h2⟩];rfl
  ·rw[aiB h2,aiL (fun h=>h2 h.2.2)];rfl
 ·rw[aiB h1,aiL (fun h=>h1 ⟨h.1,h.2.1⟩)];rfl
theorem K5 {a b:ah} (ha:b9 a) (hb:b9 b):JJ a b=some ((bZ a - bZ b).sign,()):=by
 unfold JJ
 have l1:=RH ha
 have l2:=RH hb
 have m1:=Gj (z:=bZ a) (by omega)
 have m2:=Gj (z:=bZ b) (by omega)
 rw[K7 a ha,aim,K7 b hb,aim,NS _ _ (by omega) (by omega)]
 rfl
instance (d:ah):Decidable (b9 d):=by unfold b9;infer_instance
theorem YT (d:ah) (lo hi pl:Int) (hlo:lo.natAbs<=1000000000000000) (hhi:hi.natAbs<=1000000000000000):kU d lo hi pl=some (decide (b9 d/\d.2<=pl/\lo*10 ^ 9<=bZ d/\bZ d<=hi*10 ^ 9),()):=by
 unfold kU
 rw[DI,aim]
 have hd:b9 d↔(-1000000000000000<=d.1/\d.1<=1000000000000000/\0<=d.2/\d.2<=9):=by unfold b9;omega
 have z:∀ n:Int,n.natAbs<=1000000000000000->b9 (n,0)/\bZ (n,0)=n*10 ^ 9:=fun n hn=>⟨⟨hn,by simp,by simp⟩,by simp[bZ]⟩
 by_cases h1:b9 d
 ·rw[aiM (hd.1 h1)]
  dsimp only
  rw[show ((0:Int)==0)=true from rfl,aiz]
  by_cases h2:d.2<=pl
  ·rw[aG h2,K5 h1 (z lo hlo).1,aim,(z lo hlo).2]
   dsimp only
   by_cases h3:lo*10 ^ 9<=bZ d
   ·rw[aG (by rw[ge_iff_le,Int.sign_nonneg_iff];omega),K5 h1 (z hi hhi).1,aim,(z hi hhi).2]
    have:((bZ d - hi*10 ^ 9).sign<=0)=(b9 d/\d.2<=pl/\lo*10 ^ 9<=bZ d/\bZ d<=hi*10 ^ 9):=by
     rw[Int.sign_nonpos_iff,aiH]
     constructor
     ·intro h;exact⟨h1,h2,h3,by omega⟩
     ·intro h;omega
    simp only[this]
   ·rw[aK (by rw[ge_iff_le,Int.sign_nonneg_iff];omega),aiB (fun h=>h3 h.2.2.1)]
  ·rw[aK h2,aiB (fun h=>h2 h.2.1)]
 ·rw[aiL (fun h=>h1 (hd.2 h)),aiB (p:=b9 d/\d.2<=pl/\lo*10 ^ 9<=bZ d/\bZ d<=hi*10 ^ 9) (fun h=>h1 h.1)];rfl
end Go.Md
