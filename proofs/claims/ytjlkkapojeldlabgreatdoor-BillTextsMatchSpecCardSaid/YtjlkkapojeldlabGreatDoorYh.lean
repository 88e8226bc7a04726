/-
  Plain facts: what the program reads. No condition.
-/
import Derived.Test.YtjlkkapojeldlabGreatDoorYs
import Derived.Test.YtjlkkapojeldlabGreatDoorYr
import Derived.Test.YtjlkkapojeldlabGreatDoorYf
set_option linter.all false
namespace Go.Md
open Go.Dn
def F9 (e:Bool):List Bys->Bys
 | []=>[]
 | l::M=>l++(bif M.isEmpty then (bif e then [10] else []) else 10::F9 e M)
theorem DJ (e:Bool):∀ s:Bys,F9 e (bh 10 s)=s++(bif e then [10] else [])
 | []=>rfl
 | b::r=>by
  have ih:=DJ e r
  have hne:=La 10 r
  simp only[bh]
  cases hb:(b==10) with
  | true=>
   rw[eq_of_beq hb,afX]
   simp only[F9]
   have:(bh 10 r).isEmpty=false:=by
    cases h:bh 10 r with
    | nil=>exact absurd h hne
    | cons _ _=>rfl
   rw[this,afW,ih]
   rfl
  | false=>
   rw[afW]
   cases h:bh 10 r with
   | nil=>exact absurd h hne
   | cons l t=>
    rw[h] at ih
    simp only[F9] at ih ⊢
    rw[adV,ih]
    rfl
theorem DI (c:UInt8):∀ s:Bys,∀ l,l∈bh c s->c∉l
 | [],l,h=>by simp[bh] at h;simp[h]
 | b::r,l,h=>by
  have ih:=DI c r
  simp only[bh] at h
  cases hb:(b==c) with
  | true=>
   rw[hb,afX] at h
   rcases aeO.1 h with rfl | h
   ·simp
   ·exact ih l h
  | false=>
   rw[hb,afW] at h
   have hbc:c≠b:=fun e=>by rw[e] at hb;simp at hb
   split at h
   ·rename_i hd t he
    rw[he] at ih
    rcases aeO.1 h with rfl | h
    ·simp[hbc,ih hd (by simp)]
    ·exact ih l (by simp[h])
   ·simp at h
    subst h
    simp[hbc]
theorem E9 (c:UInt8):∀ (l t:Bys),c∉l->eV c (l++c::t)=(l,t,true)
 | [],t,_=>by simp[eV]
 | b::r,t,h=>by
  have hb:(b==c)=false:=by
   cases e:(b==c) with
   | false=>rfl
   | true=>exact absurd (by simp[eq_of_beq e]) h
  rw[adV]
  simp only[eV,hb,afW,E9 c r t (fun hm=>h (by simp[hm]))]
theorem PY (c:UInt8):∀ l:Bys,c∉l->eV c l=(l,[],false)
 | [],_=>rfl
 | b::r,h=>by
  have hb:(b==c)=false:=by
   cases e:(b==c) with
   | false=>rfl
   | true=>exact absurd (by simp[eq_of_beq e]) h
  simp only[eV,hb,afW,PY c r (fun hm=>h (by simp[hm]))]
theorem Iz (s:Bys) (hs:s.length<=1000000):∃ (L:List Bys) (e:Bool),om s=some (L,e,())/\F9 e L=s/\(∀ l,l∈L->(10:UInt8)∉l)/\L.length<=s.length+1/\(∀ l,l∈L->l.length<=1000000)/\(e=false->L≠[]->s≠[]/\s.getLast? ≠some 10):=by
 unfold om
 by_cases h0:s=[]
 ·subst h0
  refine⟨[],true,rfl,rfl, ?_,by simp, ?_, ?_⟩<;>simp
 ·have h0':(s==[])=false:=by
   cases s with
   | nil=>exact absurd rfl h0
   | cons _ _=>rfl
  obtain⟨i,x,rfl⟩:∃ i x,s=i++[x]:=⟨s.dropLast,s.getLast h0,(List.dropLast_concat_getLast h0).symm⟩
  have hl:(i++[x]).length=i.length+1:=by simp
  rw[h0',afW]
  have hsuf:ny (i++[x]) [10]=some ((bif x==10 then i else i++[x]),x==10,()):=by
   unfold ny iC iE
   have e1:w64 ((((i++[x]).length:Nat):Int) - ((([10]:Bys).length:Nat):Int))=(i.length:Int):=by
    rw[aK (by simp<;>omega) (by simp<;>omega)];simp<;>omega
   simp only[e1]
   rw[aI (by simp<;>omega),aC (by simp<;>omega),afJ]
   dsimp only
   have e2:List.drop (Int.toNat (i.length:Int)) (List.take (Int.toNat (((i++[x]).length:Nat):Int)) (i++[x]))=[x]:=by
    rw[adN,adN,afd (afq _),ad3]
   have e3:List.drop 0 (List.take (Int.toNat (i.length:Int)) (i++[x]))=i:=by
    rw[adN,afb];rfl
   rw[e2,show ([x]==[10])=(x==10) by simp]
   cases hx:(x==10) with
   | false=>rfl
   | true=>
    rw[adv,afW,aC (by simp<;>omega),e3]
    rfl
  rw[hsuf,afJ]
  dsimp only
  cases hx:(x==10) with
  | true=>
   rw[afX,vm i 10 (by omega),afJ]
   obtain⟨g1,g2⟩:=rF 10 i
   refine⟨bh 10 i,true,rfl, ?_,DI 10 i,by omega,fun l hl=>by have:=g2 l hl;omega,fun h=>by cases h⟩
   rw[DJ,eq_of_beq hx]
   rfl
  | false=>
   rw[afW,vm _ 10 hs,afJ]
   obtain⟨g1,g2⟩:=rF 10 (i++[x])
   refine⟨bh 10 (i++[x]),false,rfl, ?_,DI 10 _,g1,fun l hl=>by have:=g2 l hl;omega,fun _ _=>⟨h0, ?_⟩⟩
   ·rw[DJ];simp
   ·rw[List.getLast?_append]
    simp only[List.getLast?_singleton,Option.some_or,ne_eq,Option.some.injEq]
    intro e
    rw[e] at hx;cases hx
end Go.Md
namespace Go.Md
open Go.Dn
theorem NA {l:List aa} {i:Nat} (hi:i<l.length) (hl:l.length<1000000000):idx l (w64 (((i+1:Nat):Int) - 1))=l[i]? :=by
 rw[aK (by omega) (by omega),show ((i+1:Nat):Int) - 1=((i:Nat):Int) by omega,cr]
theorem acG (d:ah):(if bY d then (decide (d.2>3)|| !inR d (-1000000000) 1000000000 9) else true)= !inR d (-1000000000) 1000000000 3:=by
 by_cases h:bY d
 ·rw[af9 h,Yw (pl:=3) h]
  by_cases h3:d.2<=3
  ·have:¬ d.2>3:=by omega
   simp[h3,this]
  ·have:d.2>3:=by omega
   simp[h3,this]
 ·have:inR d (-1000000000) 1000000000 3=false:=by unfold inR;simp[h]
  simp[h,this]
theorem J7 (v:ai) (i:Nat) (y:aa) (hl:v.2.2.2.2.2.2.1.length<1000000000) (hs:Asc (·.1) v.2.2.2.2.2.2.1) (hll:v.2.2.2.2.2.2.2.1.length<1000000000) (hy:v.2.2.2.2.2.2.2.1[i]? =some y): nJ v (i:Int)=some (oH v.2.2.2.1 v.2.2.2.2.2.2.1 v.2.2.2.2.2.2.2.1 i y,()):=by
 unfold nJ oH
 have hR:=fun t=>Cu v t hl hs
 have hE:=fun l=>xq v l true hl hs
 generalize v.2.2.2.2.2.2.1=rates at*
 generalize v.2.2.2.2.2.2.2.1=lines at*
 generalize v.2.2.2.1=pl at*
 have hi:=(aen.1 hy).1
 rw[cr,hy,afJ]
 simp only[kP,Aj,GY,hR,hE,afJ,gk]
 by_cases c1:y.1<1\/99999<y.1
 ·simp only[c1,af3,afX,aga]
 rw[afZ c1,afW,af8 c1]
 have tail:(bif decide (y.2.1<1\/99999<y.2.1) then some ((1:Int),()) else bif !eG y.2.2.1 then some (5,()) else bif (if bY y.2.2.2.1 then (0:Int) else 1) != 0 then some (if bY y.2.2.2.1 then (0:Int) else 1,()) else bif decide (y.2.2.2.1.2>3) then some (1,()) else
  Option.bind (dR y.2.2.2.1 1000000000) fun r7=>bif !r7.1 then some (1,()) else bif y.2.2.2.1.1==0 then some (13,()) else bif !eG y.2.2.2.2.1 then some (5,()) else bif (if inR y.2.2.2.2.2.1 0 1000000000 4=true then (0:Int) else 1) != 0 then some (if inR y.2.2.2.2.2.1 0 1000000000 4=true then (0:Int) else 1,()) else
  bif decide (y.2.2.2.2.2.2.1<1\/100000<y.2.2.2.2.2.2.1) then some (1,()) else bif iy pl rates true y.2.2.2.2.2.2.2.1 != 0 then some (iy pl rates true y.2.2.2.2.2.2.2.1,()) else bif !(fe (fun x:ak=>x.1) y.2.2.2.2.2.2.2.2 rates).isSome then some (5,()) else some (0,()))=
  some (if y.2.1<1\/99999<y.2.1 then 1 else if eG y.2.2.1=false then 5 else if inR y.2.2.2.1 (-1000000000) 1000000000 3=false then 1 else if y.2.2.2.1.1=0 then 13 else if eG y.2.2.2.2.1=false then 5 else if inR y.2.2.2.2.2.1 0 1000000000 4=false then 1
   else if y.2.2.2.2.2.2.1<1\/100000<y.2.2.2.2.2.2.1 then 1 else if iy pl rates true y.2.2.2.2.2.2.2.1≠0 then iy pl rates true y.2.2.2.2.2.2.2.1 else if (fe (fun x:ak=>x.1) y.2.2.2.2.2.2.2.2 rates).isSome=true then 0 else 5,()):=by
  by_cases c2:y.2.1<1\/99999<y.2.1
  ·simp only[c2,af3,afX,aga]
  rw[afZ c2,afW,af8 c2]
  cases eG y.2.2.1 with
  | false=>rfl
  | true=>
  simp only[adv,afW,adz,af7]
  have hq:=acG y.2.2.2.1
  by_cases hd:bY y.2.2.2.1
  ·rw[af9 hd] at hq
   rw[oA hd 1000000000 (by omega) (by omega)]
   rw[af9 hd,zne,afW,afJ]
   dsimp only
   have hq':inR y.2.2.2.1 (-1000000000) 1000000000 3= !(decide (y.2.2.2.1.2>3)|| !inR y.2.2.2.1 (-1000000000) 1000000000 9):=by rw[hq,Bool.not_not]
   rw[hq']
   cases decide (y.2.2.2.1.2>3) with
   | true=>rfl
   | false=>
    cases inR y.2.2.2.1 (-1000000000) 1000000000 9 with
    | false=>rfl
    | true=>
     simp only[adv,Bool.or_false,adu,afW,adz,af7]
     by_cases c3:y.2.2.2.1.1=0
     ·rw[show (y.2.2.2.1.1==0)=true by simpa using c3,afX,af9 c3]
     ·rw[show (y.2.2.2.1.1==0)=false by simpa using c3,afW,af8 c3]
      cases eG y.2.2.2.2.1 with
      | false=>rfl
      | true=>
       cases inR y.2.2.2.2.2.1 0 1000000000 4 with
       | false=>rfl
       | true=>
        simp only[adv,afW,adz,af7,aga]
        rw[zne,afW]
        by_cases c4:y.2.2.2.2.2.2.1<1\/100000<y.2.2.2.2.2.2.1
        ·simp only[c4,af3,afX,aga]
        ·rw[afZ c4,afW,af8 c4]
         by_cases c5:iy pl rates true y.2.2.2.2.2.2.2.1=0
         ·rw[c5,zne,afW,af8 (by simp)]
          cases (fe (fun x:ak=>x.1) y.2.2.2.2.2.2.2.2 rates).isSome<;>rfl
         ·rw[show (iy pl rates true y.2.2.2.2.2.2.2.1 != 0)=true by simpa using c5,afX,af9 c5]
  ·rw[af8 hd] at hq
   have:inR y.2.2.2.1 (-1000000000) 1000000000 3=false:=by simpa using hq.symm
   rw[this,af8 hd]
   rfl
 cases i with
 | zero=>
  rw[aM (by omega),tail]
  rfl
 | succ i=>
  have hp:lines[i]? =some (lines[i]'(by omega)):=aP (by omega)
  rw[aI (by omega),NA (by omega) hll,hp,afJ]
  have ep:IX lines (i+1) y=decide (y.1<=(lines[i]'(by omega)).1):=by simp only[IX,hp]
  rw[ep]
  cases decide (y.1<=(lines[i]'(by omega)).1) with
  | true=>rfl
  | false=>
   rw[afW,tail]
   rfl
theorem Mb (v:ai) (i:Nat) (y:aa) (hl:v.2.2.2.2.2.2.1.length<1000000000) (hp:0<=v.2.2.2.1/\v.2.2.2.1<=9) (hll:v.2.2.2.2.2.2.2.1.length<1000000000) (hy:v.2.2.2.2.2.2.2.1[i]? =some y): pH v (i:Int)=some (oH v.2.2.2.1 v.2.2.2.2.2.2.1 v.2.2.2.2.2.2.2.1 i y,()):=by
 unfold pH oH
 have hR:=fun t=>GA v t hl
 have hE:=fun l=>zK v l true hl hp
 generalize v.2.2.2.2.2.2.1=rates at*
 generalize v.2.2.2.2.2.2.2.1=lines at*
 generalize v.2.2.2.1=pl at*
 have hi:=(aen.1 hy).1
 have hW:∀ n lo hi':Int,(!decide (lo<=n/\n<=hi'))=decide (n<lo\/hi'<n):=fun n lo hi'=>by
  rw[<- decide_not,afY];omega
 rw[cr,hy,afJ]
 simp only[GB,BQ,rf _ (-1000000000) 1000000000 3 (by decide) (by decide),rf _ 0 1000000000 4 (by decide) (by decide),hR,hE,VA,afJ,hW]
 by_cases c1:y.1<1\/99999<y.1
 ·simp only[c1,af3,afX,aga]
 rw[afZ c1,afW,af8 c1]
 have tail:(bif decide (y.2.1<1\/99999<y.2.1) then some ((1:Int),()) else bif !eG y.2.2.1 then some (5,()) else bif !inR y.2.2.2.1 (-1000000000) 1000000000 3 then some (1,()) else bif y.2.2.2.1.1==0 then some (13,()) else bif !eG y.2.2.2.2.1 then some (5,()) else bif !inR y.2.2.2.2.2.1 0 1000000000 4 then some (1,()) else
  bif decide (y.2.2.2.2.2.2.1<1\/100000<y.2.2.2.2.2.2.1) then some (1,()) else bif iy pl rates true y.2.2.2.2.2.2.2.1 != 0 then some (iy pl rates true y.2.2.2.2.2.2.2.1,()) else bif !(fe (fun x:ak=>x.1) y.2.2.2.2.2.2.2.2 rates).isSome then some (5,()) else some (0,()))=
  some (if y.2.1<1\/99999<y.2.1 then 1 else if eG y.2.2.1=false then 5 else if inR y.2.2.2.1 (-1000000000) 1000000000 3=false then 1 else if y.2.2.2.1.1=0 then 13 else if eG y.2.2.2.2.1=false then 5 else if inR y.2.2.2.2.2.1 0 1000000000 4=false then 1
   else if y.2.2.2.2.2.2.1<1\/100000<y.2.2.2.2.2.2.1 then 1 else if iy pl rates true y.2.2.2.2.2.2.2.1≠0 then iy pl rates true y.2.2.2.2.2.2.2.1 else if (fe (fun x:ak=>x.1) y.2.2.2.2.2.2.2.2 rates).isSome=true then 0 else 5,()):=by
  by_cases c2:y.2.1<1\/99999<y.2.1
  ·simp only[c2,af3,afX,aga]
  rw[afZ c2,afW,af8 c2]
  cases eG y.2.2.1 with
  | false=>rfl
  | true=>
   cases inR y.2.2.2.1 (-1000000000) 1000000000 3 with
   | false=>rfl
   | true=>
    simp only[adv,afW,adz,af7]
    by_cases c3:y.2.2.2.1.1=0
    ·rw[show (y.2.2.2.1.1==0)=true by simpa using c3,afX,af9 c3]
    ·rw[show (y.2.2.2.1.1==0)=false by simpa using c3,afW,af8 c3]
     cases eG y.2.2.2.2.1 with
     | false=>rfl
     | true=>
      cases inR y.2.2.2.2.2.1 0 1000000000 4 with
      | false=>rfl
      | true=>
       simp only[adv,afW,adz,af7]
       by_cases c4:y.2.2.2.2.2.2.1<1\/100000<y.2.2.2.2.2.2.1
       ·simp only[c4,af3,afX,aga]
       ·rw[afZ c4,afW,af8 c4]
        by_cases c5:iy pl rates true y.2.2.2.2.2.2.2.1=0
        ·rw[c5,zne,afW,af8 (by simp)]
         cases (fe (fun x:ak=>x.1) y.2.2.2.2.2.2.2.2 rates).isSome<;>rfl
        ·rw[show (iy pl rates true y.2.2.2.2.2.2.2.1 != 0)=true by simpa using c5,afX,af9 c5]
 cases i with
 | zero=>
  rw[aM (by omega),tail]
  rfl
 | succ i=>
  have hp:lines[i]? =some (lines[i]'(by omega)):=aP (by omega)
  rw[aI (by omega),NA (by omega) hll,hp,afJ]
  have ep:IX lines (i+1) y=decide (y.1<=(lines[i]'(by omega)).1):=by simp only[IX,hp]
  rw[ep]
  cases decide (y.1<=(lines[i]'(by omega)).1) with
  | true=>rfl
  | false=>
   rw[afW,tail]
   rfl
def Er (v:ai):Int:=gC (oH v.2.2.2.1 v.2.2.2.2.2.2.1 v.2.2.2.2.2.2.2.1) 0 v.2.2.2.2.2.2.2.1
def pZ (v:ai):Int:=
 if eG v.1=false then 5 else if eG v.2.1=false then 5
 else if ¬(1<=v.2.2.1/\v.2.2.1<=3652059) then 1
 else if v.2.2.2.1<0\/4<v.2.2.2.1 then 1
 else if v.2.2.2.2.1<1\/6<v.2.2.2.2.1 then 4
 else if kY v.2.2.2.2.2.2.1≠0 then kY v.2.2.2.2.2.2.1
 else if v.2.2.2.2.2.2.2.1.length=0 then 9
 else if 500<v.2.2.2.2.2.2.2.1.length then 2
 else if Er v≠0 then Er v
 else iy v.2.2.2.1 v.2.2.2.2.2.2.1 false v.2.2.2.2.2.2.2.2
theorem TF {γ:Type} (s:Int) (u:γ) (k:γ->Option (Int×Unit)) (z:Int) (hk:k u=some (z,())):aJ (β:=Int×Unit) (γ:=γ) (if s=0 then some (Sum.inr u) else some (Sum.inl (s,()))) k=some (if s≠0 then s else z,()):=by
 by_cases h:s=0
 ·rw[af9 h,aU,hk,af8 (by simpa using h)]
 ·rw[af8 h,zy,af9 h]
theorem vY (v:ai):dh v=some (pZ v,()):=by
 unfold dh pZ
 simp only[Aj,SX,kP,afJ,Bk]
 cases eG v.1 with
 | false=>rfl
 | true=>
 cases eG v.2.1 with
 | false=>rfl
 | true=>
 simp only[adv,afW,adz,af7]
 by_cases n_c1:¬(1<=v.2.2.1/\v.2.2.1<=3652059)
 ·rw[afZ n_c1,af9 n_c1];rfl
 have c1:=adA n_c1
 rw[af0 c1,af8 (by simpa using c1),adv,afW]
 by_cases c2:v.2.2.2.1<0\/4<v.2.2.2.1
 ·rw[af0 c2,af9 c2];rfl
 rw[afZ c2,af8 c2,afW]
 by_cases c3:v.2.2.2.2.1<1\/6<v.2.2.2.2.1
 ·rw[af0 c3,af9 c3];rfl
 rw[afZ c3,af8 c3,adu,adv,afW]
 by_cases n_hrl:¬(v.2.2.2.2.2.2.1.length<1000000000)
 ·have e:kY v.2.2.2.2.2.2.1=2:=by unfold kY;rw[af8 (by omega),af9 (by omega)]
  have e2:jK v.2.2.2.2.2.2.1=some (2,()):=by
   unfold jK
   rw[Bb,afZ (by omega),afW,aI (by omega)]
  rw[e,e2];rfl
 have hrl:=adA n_hrl
 rw[Hu _ hrl,afJ]
 dsimp only
 by_cases n_c4:¬(kY v.2.2.2.2.2.2.1=0)
 ·rw[show (kY v.2.2.2.2.2.2.1 != 0)=true by simpa using n_c4,afX,af9 n_c4]
 have c4:=adA n_c4
 obtain⟨_,_,hs,_⟩:=DC c4
 rw[c4,zne,afW,af8 (by simp),Bb]
 by_cases c5:v.2.2.2.2.2.2.2.1.length=0
 ·rw[af0 c5,afX,af9 c5]
 rw[afZ c5,afW,af8 c5]
 by_cases c6:500<v.2.2.2.2.2.2.2.1.length
 ·rw[aI (by omega),af9 c6]
 rw[aM (by omega),af8 c6]
 unfold Er
 rw[sw (f:=jJ) (fun i=>(((v.2.2.2.2.2.2.2.1.length:Int)),(i:Int),v.1,v.2.1,v.2.2.1,v.2.2.2.1,v.2.2.2.2.1,v.2.2.2.2.2.1,v.2.2.2.2.2.2.1,v.2.2.2.2.2.2.2.1,v.2.2.2.2.2.2.2.2,()) ) v.2.2.2.2.2.2.2.1 (oH v.2.2.2.1 v.2.2.2.2.2.2.1 v.2.2.2.2.2.2.2.1) (v.1,v.2.1,v.2.2.1,v.2.2.2.1,v.2.2.2.2.1,v.2.2.2.2.2.1,v.2.2.2.2.2.2.1,v.2.2.2.2.2.2.2.1,v.2.2.2.2.2.2.2.2,()) ?_ ?_ ?_ _ ?_]
 ·refine TF _ _ _ _ ?_
  show Option.bind (gR v v.2.2.2.2.2.2.2.2 false) _=_
  rw[xq v _ false hrl hs,afJ]
 ·rfl
 ·intro i y again hy
  have hi:=(aen.1 hy).1
  unfold jJ
  show (bif decide ((i:Int)<(v.2.2.2.2.2.2.2.1.length:Int)) then Option.bind (nJ v (i:Int)) _ else _)=_
  rw[aI (by omega),J7 v i y hrl hs (by omega) hy,afJ]
  dsimp only
  rw[aK (n:=(i:Int)+1) (by omega) (by omega)]
  by_cases hz:oH v.2.2.2.1 v.2.2.2.2.2.2.1 v.2.2.2.2.2.2.2.1 i y=0
  ·rw[hz];rfl
  ·rw[show (oH v.2.2.2.1 v.2.2.2.2.2.2.1 v.2.2.2.2.2.2.2.1 i y != 0)=true by simpa using hz,afX,af8 hz]
 ·intro again
  unfold jJ
  dsimp only
  rw[aM (by omega)]
 ·omega
end Go.Md
namespace Go.Md
open Go.Dn
theorem GZ (v:ai):oN v=some (pZ v,()):=by
 unfold oN pZ
 have hW:∀ n lo hi':Int,(!decide (lo<=n/\n<=hi'))=decide (n<lo\/hi'<n):=fun n lo hi'=>by
  rw[<- decide_not,afY];omega
 simp only[BQ,UX,GB,afJ]
 cases eG v.1 with
 | false=>rfl
 | true=>
 cases eG v.2.1 with
 | false=>rfl
 | true=>
 simp only[adv,afW,adz,af7]
 by_cases n_c1:¬(1<=v.2.2.1/\v.2.2.1<=3652059)
 ·rw[afZ n_c1,af9 n_c1];rfl
 have c1:=adA n_c1
 rw[af0 c1,af8 (by simpa using c1),adv,afW,hW,hW]
 by_cases c2:v.2.2.2.1<0\/4<v.2.2.2.1
 ·rw[af0 c2,af9 c2];rfl
 rw[afZ c2,af8 c2,afW]
 by_cases c3:v.2.2.2.2.1<1\/6<v.2.2.2.2.1
 ·rw[af0 c3,af9 c3];rfl
 rw[afZ c3,af8 c3,afW,Bb]
 unfold kY
 by_cases c4:v.2.2.2.2.2.2.1.length=0
 ·rw[af0 c4,afX,af9 c4];rfl
 rw[afZ c4,afW,af8 c4]
 by_cases c5:20<v.2.2.2.2.2.2.1.length
 ·rw[aI (by omega),af9 c5];rfl
 rw[aM (by omega),af8 c5]
 rw[sw (f:=kC) (fun i=>(v.2.2.2.2.2.2.1,((v.2.2.2.2.2.2.1.length:Int)),(i:Int),v.1,v.2.1,v.2.2.1,v.2.2.2.1,v.2.2.2.2.1,v.2.2.2.2.2.1,v.2.2.2.2.2.2.1,v.2.2.2.2.2.2.2.1,v.2.2.2.2.2.2.2.2,()) ) v.2.2.2.2.2.2.1 (CQ v.2.2.2.2.2.2.1) (v.1,v.2.1,v.2.2.1,v.2.2.2.1,v.2.2.2.2.1,v.2.2.2.2.2.1,v.2.2.2.2.2.2.1,v.2.2.2.2.2.2.2.1,v.2.2.2.2.2.2.2.2,()) ?_ ?_ ?_ _ ?_]
 ·refine TF _ _ _ _ ?_
  dsimp only
  rw[Bb]
  by_cases c6:v.2.2.2.2.2.2.2.1.length=0
  ·rw[af0 c6,afX,af9 c6]
  rw[afZ c6,afW,af8 c6]
  by_cases c7:500<v.2.2.2.2.2.2.2.1.length
  ·rw[aI (by omega),af9 c7]
  rw[aM (by omega),af8 c7]
  unfold Er
  rw[sw (f:=kD) (fun i=>(((v.2.2.2.2.2.2.2.1.length:Int)),(i:Int),v.1,v.2.1,v.2.2.1,v.2.2.2.1,v.2.2.2.2.1,v.2.2.2.2.2.1,v.2.2.2.2.2.2.1,v.2.2.2.2.2.2.2.1,v.2.2.2.2.2.2.2.2,()) ) v.2.2.2.2.2.2.2.1 (oH v.2.2.2.1 v.2.2.2.2.2.2.1 v.2.2.2.2.2.2.2.1) (v.1,v.2.1,v.2.2.1,v.2.2.2.1,v.2.2.2.2.1,v.2.2.2.2.2.1,v.2.2.2.2.2.2.1,v.2.2.2.2.2.2.2.1,v.2.2.2.2.2.2.2.2,()) ?_ ?_ ?_ _ ?_]
  ·refine TF _ _ _ _ ?_
   show Option.bind (iJ v v.2.2.2.2.2.2.2.2 false) _=_
   rw[zK v _ false (by omega) (by omega),afJ]
  ·rfl
  ·intro i y again hy
   have hi:=(aen.1 hy).1
   unfold kD
   show (bif decide ((i:Int)<(v.2.2.2.2.2.2.2.1.length:Int)) then Option.bind (pH v (i:Int)) _ else _)=_
   rw[aI (by omega),Mb v i y (by omega) (by omega) (by omega) hy,afJ]
   dsimp only
   rw[aK (n:=(i:Int)+1) (by omega) (by omega)]
   by_cases hz:oH v.2.2.2.1 v.2.2.2.2.2.2.1 v.2.2.2.2.2.2.2.1 i y=0
   ·rw[hz];rfl
   ·rw[show (oH v.2.2.2.1 v.2.2.2.2.2.2.1 v.2.2.2.2.2.2.2.1 i y != 0)=true by simpa using hz,afX,af8 hz]
  ·intro again
   unfold kD
   dsimp only
   rw[aM (by omega)]
  ·omega
 ·rfl
 ·intro i y again hy
  have hi:=(aen.1 hy).1
  unfold kC
  dsimp only
  rw[aI (by omega),cr,hy,afJ,BQ,afJ,aK (n:=(i:Int)+1) (by omega) (by omega),rf y.2 0 100 9 (by decide) (by decide)]
  unfold CQ
  cases hn:eG y.1 with
  | false=>simp
  | true=>
   simp only[adv,afW,adz,af7,afJ]
   cases i with
   | zero=>
    rw[aM (by omega)]
    simp only[wN,ado,af7]
    cases inR y.2 0 100 9<;>simp
   | succ i=>
    have hp:v.2.2.2.2.2.2.1[i]? =some (v.2.2.2.2.2.2.1[i]'(by omega)):=aP (by omega)
    rw[aI (by omega),Tv (by omega) (by omega),hp,afJ]
    have ep:wN v.2.2.2.2.2.2.1 (i+1) y=(Op.bytesLess y.1 (v.2.2.2.2.2.2.1[i]'(by omega)).1||y.1==(v.2.2.2.2.2.2.1[i]'(by omega)).1):=by simp only[wN,hp]
    rw[ep]
    cases (Op.bytesLess y.1 (v.2.2.2.2.2.2.1[i]'(by omega)).1||y.1==(v.2.2.2.2.2.2.1[i]'(by omega)).1) with
    | true=>simp
    | false=>cases inR y.2 0 100 9<;>simp
 ·intro again
  unfold kC
  dsimp only
  rw[aM (by omega)]
 ·omega
structure acy (pl:Int) (x:aj):Prop where
 dec:bY x.2.1
 place:x.1=false->x.2.1.2<=pl
 nz:x.2.1.1≠0
theorem AQ {pl:Int} {rates:List ak} {line:Bool} {l:List aj} (h:iy pl rates line l=0):l.length<=20/\∀ x∈l,acy pl x/\(line=true->x.2.2=[])/\(x.2.2=[]\/(fe (·.1) x.2.2 rates).isSome=true):=by
 unfold iy at h
 split at h
 ·omega
 ·refine⟨by omega,fun x hx=> ?_⟩
  obtain⟨i,hi⟩:=aeS.1 hx
  have:=sM h i x hi
  unfold OI at this
  by_cases hd:bY x.2.1
  ·rw[af9 hd] at this
   by_cases h0:x.2.1.1=0
   ·rw[af9 h0] at this;omega
   ·rw[af8 h0] at this
    by_cases hr:(if x.1=true then inR x.2.1 (-100) 100 9 else inR x.2.1 (-1000000000) 1000000000 pl)=true
    ·rw[af9 hr] at this
     refine⟨⟨hd,fun hp=> ?_,h0⟩,fun hline=> ?_, ?_⟩
     ·rw[hp] at hr
      simp only[ado,af7,inR,af1] at hr
      exact hr.2.1
     ·rw[hline] at this
      by_cases hn:x.2.2=[]
      ·exact hn
      ·rw[af8 hn] at this;simp at this
     ·by_cases hn:x.2.2=[]
      ·exact .inl hn
      ·rw[af8 hn] at this
       right
       cases hx2:(fe (fun x:ak=>x.1) x.2.2 rates).isSome with
       | true=>rfl
       | false=>rw[hx2] at this;cases line<;>simp at this
    ·rw[af8 hr] at this;omega
  ·rw[af8 hd] at this;omega
structure RO (pl:Int) (rates:List ak) (x:aa):Prop where
 q:bY x.2.2.2.1
 qp:x.2.2.2.1.2<=3
 qn:x.2.2.2.1.1≠0
 p:bY x.2.2.2.2.2.1
 pp:x.2.2.2.2.2.1.2<=4
 p0:0<=x.2.2.2.2.2.1.1
 per:1<=x.2.2.2.2.2.2.1/\x.2.2.2.2.2.2.1<=100000
 ext:iy pl rates true x.2.2.2.2.2.2.2.1=0
 rate:(fe (·.1) x.2.2.2.2.2.2.2.2 rates).isSome=true
theorem Np {pl:Int} {rates:List ak} {lines:List aa} {i:Nat} {x:aa} (h:oH pl rates lines i x=0):RO pl rates x:=by
 unfold oH at h
 split at h
 ·omega
 split at h
 ·omega
 split at h
 ·omega
 split at h
 ·omega
 split at h
 ·omega
 rename_i h1
 split at h
 ·omega
 rename_i h2
 split at h
 ·omega
 split at h
 ·omega
 rename_i h3
 split at h
 ·omega
 rename_i h4
 split at h
 ·omega
 rename_i h5
 split at h
 ·rename_i h6
  have h1':inR x.2.2.2.1 (-1000000000) 1000000000 3=true:=by simpa using h1
  have h3':inR x.2.2.2.2.2.1 0 1000000000 4=true:=by simpa using h3
  unfold inR at h1' h3'
  rw[af1] at h1' h3'
  exact⟨h1'.1,h1'.2.1,h2,h3'.1,h3'.2.1,by have:=h3'.2.2.1;rw[Int.zero_mul] at this;exact this,by omega,by omega,h6⟩
 ·omega
structure acz (v:ai):Prop where
 pl:0<=v.2.2.2.1/\v.2.2.2.1<=4
 way:1<=v.2.2.2.2.1/\v.2.2.2.2.1<=6
 rn:0<v.2.2.2.2.2.2.1.length/\v.2.2.2.2.2.2.1.length<=20
 asc:Asc (·.1) v.2.2.2.2.2.2.1
 rates:∀ r∈v.2.2.2.2.2.2.1,inR r.2 0 100 9=true
 ln:0<v.2.2.2.2.2.2.2.1.length/\v.2.2.2.2.2.2.2.1.length<=500
 lines:∀ x∈v.2.2.2.2.2.2.2.1,RO v.2.2.2.1 v.2.2.2.2.2.2.1 x
 ext:iy v.2.2.2.1 v.2.2.2.2.2.2.1 false v.2.2.2.2.2.2.2.2=0
theorem Qc {v:ai} (h:pZ v=0):acz v:=by
 unfold pZ at h
 split at h
 ·omega
 split at h
 ·omega
 split at h
 ·omega
 split at h
 ·omega
 split at h
 ·omega
 split at h
 ·omega
 rename_i h1
 split at h
 ·omega
 split at h
 ·omega
 split at h
 ·omega
 rename_i h2
 have hr:=DC (show kY v.2.2.2.2.2.2.1=0 by omega)
 refine⟨by omega,by omega,⟨hr.1,hr.2.1⟩,hr.2.2.1,hr.2.2.2,by omega,fun x hx=> ?_,h⟩
 obtain⟨i,hi⟩:=aeS.1 hx
 have:=sM (show Er v=0 by omega) i x hi
 exact Np this
end Go.Md
namespace Go.Md
open Go.Dn
theorem LX {n r:Nat} (h:0<r):n<n+r:=by omega
theorem II {n a r:Nat} (h:n<r):n<a+r:=by omega
theorem TE (l:List aj) (hl:l.length<=1000):gK l l=some (true,()):=by
 unfold gK
 rw[show (((List.length l:Nat):Int) != ((List.length l:Nat):Int))=false by simp,afW]
 have loop:∀ f,l.length<f->iter f ((l,l,(l.length:Int),(0:Int),()):ig) ia=some (Sum.inr ()):=by
  intro f hf
  refine dG (Inv:=fun i X=>X=(l,l,(l.length:Int),(i:Int),())) l.length (fun r=>r=some (Sum.inr ())) ?_ ?_ f 0 _ rfl (by omega) (by omega)
  ·rintro i _ again hi rfl ih
   unfold ia
   dsimp only
   rw[aI (by omega),cr,aP hi,afJ,afJ]
   simp only[afU,adl,adv,afW]
   rw[aK (by omega) (by omega)]
   exact ih _ rfl
  ·rintro _ again rfl
   unfold ia
   dsimp only
   rw[aM (by omega)]
 rw[loop _ (by with_reducible apply LX;repeat (with_reducible first | exact Nat.zero_lt_two | apply II)),aU]
theorem ZD (l:List ak) (hl:l.length<=1000):jN l l=some (true,()):=by
 unfold jN
 rw[show (((List.length l:Nat):Int) != ((List.length l:Nat):Int))=false by simp,afW]
 have loop:∀ f,l.length<f->iter f ((l,l,(l.length:Int),(0:Int),()):iM) iL=some (Sum.inr ()):=by
  intro f hf
  refine dG (Inv:=fun i X=>X=(l,l,(l.length:Int),(i:Int),())) l.length (fun r=>r=some (Sum.inr ())) ?_ ?_ f 0 _ rfl (by omega) (by omega)
  ·rintro i _ again hi rfl ih
   unfold iL
   dsimp only
   rw[aI (by omega),cr,aP hi,afJ,afJ]
   simp only[afU,adl,adv,afW]
   rw[aK (by omega) (by omega)]
   exact ih _ rfl
  ·rintro _ again rfl
   unfold iL
   dsimp only
   rw[aM (by omega)]
 rw[loop _ (by with_reducible apply LX;repeat (with_reducible first | exact Nat.zero_lt_two | apply II)),aU]
theorem aaI {v:ai} (h:pZ v=0):FQ v v=some (true,()):=by
 have hv:=Qc h
 have hln:0<v.2.2.2.2.2.2.2.1.length/\v.2.2.2.2.2.2.2.1.length<=500:=hv.ln
 have hrn:0<v.2.2.2.2.2.2.1.length/\v.2.2.2.2.2.2.1.length<=20:=hv.rn
 have hx:v.2.2.2.2.2.2.2.2.length<=20:=(AQ hv.ext).1
 unfold FQ
 simp only[afU,adv,afW,afV]
 have loop:∀ f,v.2.2.2.2.2.2.2.1.length<f->iter f ((v.2.2.2.2.2.2.2.1,(v.2.2.2.2.2.2.2.1.length:Int),(0:Int),v.1,v.2.1,v.2.2.1,v.2.2.2.1,v.2.2.2.2.1,v.2.2.2.2.2.1,v.2.2.2.2.2.2.1,v.2.2.2.2.2.2.2.1,v.2.2.2.2.2.2.2.2,v.1,v.2.1,v.2.2.1,v.2.2.2.1,v.2.2.2.2.1,v.2.2.2.2.2.1,v.2.2.2.2.2.2.1,v.2.2.2.2.2.2.2.1,v.2.2.2.2.2.2.2.2,()):ua) yN=some (Sum.inr (v.1,v.2.1,v.2.2.1,v.2.2.2.1,v.2.2.2.2.1,v.2.2.2.2.2.1,v.2.2.2.2.2.2.1,v.2.2.2.2.2.2.2.1,v.2.2.2.2.2.2.2.2,v.1,v.2.1,v.2.2.1,v.2.2.2.1,v.2.2.2.2.1,v.2.2.2.2.2.1,v.2.2.2.2.2.2.1,v.2.2.2.2.2.2.2.1,v.2.2.2.2.2.2.2.2,())):=by
  intro f hf
  refine dG (Inv:=fun i X=>X=((v.2.2.2.2.2.2.2.1,(v.2.2.2.2.2.2.2.1.length:Int),(i:Int),v.1,v.2.1,v.2.2.1,v.2.2.2.1,v.2.2.2.2.1,v.2.2.2.2.2.1,v.2.2.2.2.2.2.1,v.2.2.2.2.2.2.2.1,v.2.2.2.2.2.2.2.2,v.1,v.2.1,v.2.2.1,v.2.2.2.1,v.2.2.2.2.1,v.2.2.2.2.2.1,v.2.2.2.2.2.2.1,v.2.2.2.2.2.2.2.1,v.2.2.2.2.2.2.2.2,()):ua)) v.2.2.2.2.2.2.2.1.length (fun r=>r=some (Sum.inr (v.1,v.2.1,v.2.2.1,v.2.2.2.1,v.2.2.2.2.1,v.2.2.2.2.2.1,v.2.2.2.2.2.2.1,v.2.2.2.2.2.2.2.1,v.2.2.2.2.2.2.2.2,v.1,v.2.1,v.2.2.1,v.2.2.2.1,v.2.2.2.2.1,v.2.2.2.2.2.1,v.2.2.2.2.2.2.1,v.2.2.2.2.2.2.2.1,v.2.2.2.2.2.2.2.2,()))) ?_ ?_ f 0 _ rfl (by omega) (by omega)
  ·rintro i _ again hi rfl ih
   have hy:v.2.2.2.2.2.2.2.1[i]? =some v.2.2.2.2.2.2.2.1[i]:=aP hi
   have hm:v.2.2.2.2.2.2.2.1[i]∈v.2.2.2.2.2.2.2.1:=aew hi
   generalize v.2.2.2.2.2.2.2.1[i]=y at hy hm
   have hlo:RO v.2.2.2.1 v.2.2.2.2.2.2.1 y:=hv.lines y hm
   have hye:=AQ hlo.ext
   unfold yN
   dsimp only
   rw[aI (by omega),cr,hy,afJ,afJ]
   simp only[afU,adl,adv,afW,afV]
   rw[TE _ (by omega),afJ]
   simp only[adv,afW]
   rw[aK (by omega) (by omega)]
   exact ih _ rfl
  ·rintro _ again rfl
   unfold yN
   dsimp only
   rw[aM (by omega)]
 rw[loop _ (by with_reducible apply LX;repeat (with_reducible first | exact Nat.zero_lt_two | apply II)),aU]
 dsimp only
 rw[ZD _ (by show v.2.2.2.2.2.2.1.length<=_;omega),afJ]
 simp only[afX]
 rw[TE _ (by show v.2.2.2.2.2.2.2.2.length<=_;omega),afJ]
 rfl
end Go.Md
