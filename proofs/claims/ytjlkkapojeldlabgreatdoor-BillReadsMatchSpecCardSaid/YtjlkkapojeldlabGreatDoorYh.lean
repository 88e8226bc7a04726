/-
  The plain law BillReadsMatchSpec is true of all data. No condition.
-/
import Derived.Test.YtjlkkapojeldlabGreatDoorYs
import Derived.Test.YtjlkkapojeldlabGreatDoorYr
import Derived.Test.YtjlkkapojeldlabGreatDoorYf
set_option linter.all false
namespace Go.Md
open Go.Dn
def iR (e:Bool):List Bys->Bys
 | []=>[]
 | l::M=>l++(bif M.isEmpty then (bif e then [10] else []) else 10::iR e M)
theorem BY (e:Bool):∀ s:Bys,iR e (bp 10 s)=s++(bif e then [10] else [])
 | []=>rfl
 | b::r=>by
  have ih:=BY e r
  have hne:=BW 10 r
  simp only[bp]
  cases hb:(b==10) with
  | true=>
   rw[eq_of_beq hb,abL]
   simp only[iR]
   have:(bp 10 r).isEmpty=false:=by
    cases h:bp 10 r with
    | nil=>exact absurd h hne
    | cons _ _=>rfl
   rw[this,abK,ih]
   rfl
  | false=>
   rw[abK]
   cases h:bp 10 r with
   | nil=>exact absurd h hne
   | cons l t=>
    rw[h] at ih
    simp only[iR] at ih ⊢
    rw[ZE,ih]
    rfl
theorem BX (c:UInt8):∀ s:Bys,∀ l,l∈bp c s->c∉l
 | [],l,h=>by simp[bp] at h;simp[h]
 | b::r,l,h=>by
  have ih:=BX c r
  simp only[bp] at h
  cases hb:(b==c) with
  | true=>
   rw[hb,abL] at h
   rcases aaw.1 h with rfl | h
   ·simp
   ·exact ih l h
  | false=>
   rw[hb,abK] at h
   have hbc:c≠b:=fun e=>by rw[e] at hb;simp at hb
   split at h
   ·rename_i hd t he
    rw[he] at ih
    rcases aaw.1 h with rfl | h
    ·simp[hbc,ih hd (by simp)]
    ·exact ih l (by simp[h])
   ·simp at h
    subst h
    simp[hbc]
theorem Je (c:UInt8):∀ (l t:Bys),c∉l->ef c (l++c::t)=(l,t,true)
 | [],t,_=>by simp[ef]
 | b::r,t,h=>by
  have hb:(b==c)=false:=by
   cases e:(b==c) with
   | false=>rfl
   | true=>exact absurd (by simp[eq_of_beq e]) h
  rw[ZE]
  simp only[ef,hb,abK,Je c r t (fun hm=>h (by simp[hm]))]
theorem Nf (c:UInt8):∀ l:Bys,c∉l->ef c l=(l,[],false)
 | [],_=>rfl
 | b::r,h=>by
  have hb:(b==c)=false:=by
   cases e:(b==c) with
   | false=>rfl
   | true=>exact absurd (by simp[eq_of_beq e]) h
  simp only[ef,hb,abK,Nf c r (fun hm=>h (by simp[hm]))]
theorem F9 (s:Bys) (hs:s.length<=1000000):∃ (L:List Bys) (e:Bool),n7 s=some (L,e,())/\iR e L=s/\(∀ l,l∈L->(10:UInt8)∉l)/\L.length<=s.length+1/\(∀ l,l∈L->l.length<=1000000)/\(e=false->L≠[]->s≠[]/\s.getLast? ≠some 10):=by
 unfold n7
 by_cases h0:s=[]
 ·subst h0
  refine⟨[],true,rfl,rfl, ?_,by simp, ?_, ?_⟩<;>simp
 ·have h0':(s==[])=false:=by
   cases s with
   | nil=>exact absurd rfl h0
   | cons _ _=>rfl
  obtain⟨i,x,rfl⟩:∃ i x,s=i++[x]:=⟨s.dropLast,s.getLast h0,(List.dropLast_concat_getLast h0).symm⟩
  have hl:(i++[x]).length=i.length+1:=by simp
  rw[h0',abK]
  have hsuf:nq (i++[x]) [10]=some ((bif x==10 then i else i++[x]),x==10,()):=by
   unfold nq iG iI
   have e1:w64 ((((i++[x]).length:Nat):Int) - ((([10]:Bys).length:Nat):Int))=(i.length:Int):=by
    rw[aS (by simp<;>omega) (by simp<;>omega)];simp<;>omega
   simp only[e1]
   rw[aI (by simp<;>omega),bJ (by simp<;>omega),abx]
   dsimp only
   have e2:List.drop (Int.toNat (i.length:Int)) (List.take (Int.toNat (((i++[x]).length:Nat):Int)) (i++[x]))=[x]:=by
    rw[Zw,Zw,aaQ (abd _),ZK]
   have e3:List.drop 0 (List.take (Int.toNat (i.length:Int)) (i++[x]))=i:=by
    rw[Zw,aaP];rfl
   rw[e2,show ([x]==[10])=(x==10) by simp]
   cases hx:(x==10) with
   | false=>rfl
   | true=>
    rw[Ze,abK,bJ (by simp<;>omega),e3]
    rfl
  rw[hsuf,abx]
  dsimp only
  cases hx:(x==10) with
  | true=>
   rw[abL,oN i 10 (by omega),abx]
   obtain⟨g1,g2⟩:=nQ 10 i
   refine⟨bp 10 i,true,rfl, ?_,BX 10 i,by omega,fun l hl=>by have:=g2 l hl;omega,fun h=>by cases h⟩
   rw[BY,eq_of_beq hx]
   rfl
  | false=>
   rw[abK,oN _ 10 hs,abx]
   obtain⟨g1,g2⟩:=nQ 10 (i++[x])
   refine⟨bp 10 (i++[x]),false,rfl, ?_,BX 10 _,g1,fun l hl=>by have:=g2 l hl;omega,fun _ _=>⟨h0, ?_⟩⟩
   ·rw[BY];simp
   ·rw[List.getLast?_append]
    simp only[List.getLast?_singleton,Option.some_or,ne_eq,Option.some.injEq]
    intro e
    rw[e] at hx;cases hx
end Go.Md
namespace Go.Md
open Go.Dn
theorem K9 {l:List ai} {i:Nat} (hi:i<l.length) (hl:l.length<1000000000):idx l (w64 (((i+1:Nat):Int) - 1))=l[i]? :=by
 rw[aS (by omega) (by omega),show ((i+1:Nat):Int) - 1=((i:Nat):Int) by omega,cK]
theorem Yj (d:ah):(if cX d then (decide (d.2>3)|| !inR d (-1000000000) 1000000000 9) else true)= !inR d (-1000000000) 1000000000 3:=by
 by_cases h:cX d
 ·rw[abY h,UG (pl:=3) h]
  by_cases h3:d.2<=3
  ·have:¬ d.2>3:=by omega
   simp[h3,this]
  ·have:d.2>3:=by omega
   simp[h3,this]
 ·have:inR d (-1000000000) 1000000000 3=false:=by unfold inR;simp[h]
  simp[h,this]
theorem HS (v:aa) (i:Nat) (y:ai) (hl:v.2.2.2.2.2.2.1.length<1000000000) (hs:Asc (·.1) v.2.2.2.2.2.2.1) (hll:v.2.2.2.2.2.2.2.1.length<1000000000) (hy:v.2.2.2.2.2.2.2.1[i]? =some y): nA v (i:Int)=some (rQ v.2.2.2.1 v.2.2.2.2.2.2.1 v.2.2.2.2.2.2.2.1 i y,()):=by
 unfold nA rQ
 have hR:=fun t=>AZ v t hl hs
 have hE:=fun l=>wh v l true hl hs
 generalize v.2.2.2.2.2.2.1=rates at*
 generalize v.2.2.2.2.2.2.2.1=lines at*
 generalize v.2.2.2.1=pl at*
 have hi:=(Z9.1 hy).1
 rw[cK,hy,abx]
 simp only[kV,yQ,EP,hR,hE,abx,iW]
 by_cases c1:y.1<1\/99999<y.1
 ·simp only[c1,abR,abL,abZ]
 rw[abN c1,abK,abX c1]
 have tail:(bif decide (y.2.1<1\/99999<y.2.1) then some ((1:Int),()) else bif !ji y.2.2.1 then some (5,()) else bif (if cX y.2.2.2.1 then (0:Int) else 1) != 0 then some (if cX y.2.2.2.1 then (0:Int) else 1,()) else bif decide (y.2.2.2.1.2>3) then some (1,()) else
  Option.bind (dQ y.2.2.2.1 1000000000) fun r7=>bif !r7.1 then some (1,()) else bif y.2.2.2.1.1==0 then some (13,()) else bif !ji y.2.2.2.2.1 then some (5,()) else bif (if inR y.2.2.2.2.2.1 0 1000000000 4=true then (0:Int) else 1) != 0 then some (if inR y.2.2.2.2.2.1 0 1000000000 4=true then (0:Int) else 1,()) else
  bif decide (y.2.2.2.2.2.2.1<1\/100000<y.2.2.2.2.2.2.1) then some (1,()) else bif iE pl rates true y.2.2.2.2.2.2.2.1 != 0 then some (iE pl rates true y.2.2.2.2.2.2.2.1,()) else bif !(fq (fun x:aC=>x.1) y.2.2.2.2.2.2.2.2 rates).isSome then some (5,()) else some (0,()))=
  some (if y.2.1<1\/99999<y.2.1 then 1 else if ji y.2.2.1=false then 5 else if inR y.2.2.2.1 (-1000000000) 1000000000 3=false then 1 else if y.2.2.2.1.1=0 then 13 else if ji y.2.2.2.2.1=false then 5 else if inR y.2.2.2.2.2.1 0 1000000000 4=false then 1
   else if y.2.2.2.2.2.2.1<1\/100000<y.2.2.2.2.2.2.1 then 1 else if iE pl rates true y.2.2.2.2.2.2.2.1≠0 then iE pl rates true y.2.2.2.2.2.2.2.1 else if (fq (fun x:aC=>x.1) y.2.2.2.2.2.2.2.2 rates).isSome=true then 0 else 5,()):=by
  by_cases c2:y.2.1<1\/99999<y.2.1
  ·simp only[c2,abR,abL,abZ]
  rw[abN c2,abK,abX c2]
  cases ji y.2.2.1 with
  | false=>rfl
  | true=>
  simp only[Ze,abK,Zi,abW]
  have hq:=Yj y.2.2.2.1
  by_cases hd:cX y.2.2.2.1
  ·rw[abY hd] at hq
   rw[ou hd 1000000000 (by omega) (by omega)]
   rw[abY hd,zne,abK,abx]
   dsimp only
   have hq':inR y.2.2.2.1 (-1000000000) 1000000000 3= !(decide (y.2.2.2.1.2>3)|| !inR y.2.2.2.1 (-1000000000) 1000000000 9):=by rw[hq,Bool.not_not]
   rw[hq']
   cases decide (y.2.2.2.1.2>3) with
   | true=>rfl
   | false=>
    cases inR y.2.2.2.1 (-1000000000) 1000000000 9 with
    | false=>rfl
    | true=>
     simp only[Ze,Bool.or_false,Zd,abK,Zi,abW]
     by_cases c3:y.2.2.2.1.1=0
     ·rw[show (y.2.2.2.1.1==0)=true by simpa using c3,abL,abY c3]
     ·rw[show (y.2.2.2.1.1==0)=false by simpa using c3,abK,abX c3]
      cases ji y.2.2.2.2.1 with
      | false=>rfl
      | true=>
       cases inR y.2.2.2.2.2.1 0 1000000000 4 with
       | false=>rfl
       | true=>
        simp only[Ze,abK,Zi,abW,abZ]
        rw[zne,abK]
        by_cases c4:y.2.2.2.2.2.2.1<1\/100000<y.2.2.2.2.2.2.1
        ·simp only[c4,abR,abL,abZ]
        ·rw[abN c4,abK,abX c4]
         by_cases c5:iE pl rates true y.2.2.2.2.2.2.2.1=0
         ·rw[c5,zne,abK,abX (by simp)]
          cases (fq (fun x:aC=>x.1) y.2.2.2.2.2.2.2.2 rates).isSome<;>rfl
         ·rw[show (iE pl rates true y.2.2.2.2.2.2.2.1 != 0)=true by simpa using c5,abL,abY c5]
  ·rw[abX hd] at hq
   have:inR y.2.2.2.1 (-1000000000) 1000000000 3=false:=by simpa using hq.symm
   rw[this,abX hd]
   rfl
 cases i with
 | zero=>
  rw[aP (by omega),tail]
  rfl
 | succ i=>
  have hp:lines[i]? =some (lines[i]'(by omega)):=aT (by omega)
  rw[aI (by omega),K9 (by omega) hll,hp,abx]
  have ep:GB lines (i+1) y=decide (y.1<=(lines[i]'(by omega)).1):=by simp only[GB,hp]
  rw[ep]
  cases decide (y.1<=(lines[i]'(by omega)).1) with
  | true=>rfl
  | false=>
   rw[abK,tail]
   rfl
theorem JN (v:aa) (i:Nat) (y:ai) (hl:v.2.2.2.2.2.2.1.length<1000000000) (hp:0<=v.2.2.2.1/\v.2.2.2.1<=9) (hll:v.2.2.2.2.2.2.2.1.length<1000000000) (hy:v.2.2.2.2.2.2.2.1[i]? =some y): o3 v (i:Int)=some (rQ v.2.2.2.1 v.2.2.2.2.2.2.1 v.2.2.2.2.2.2.2.1 i y,()):=by
 unfold o3 rQ
 have hR:=fun t=>Ev v t hl
 have hE:=fun l=>yu v l true hl hp
 generalize v.2.2.2.2.2.2.1=rates at*
 generalize v.2.2.2.2.2.2.2.1=lines at*
 generalize v.2.2.2.1=pl at*
 have hi:=(Z9.1 hy).1
 have hW:∀ n lo hi':Int,(!decide (lo<=n/\n<=hi'))=decide (n<lo\/hi'<n):=fun n lo hi'=>by
  rw[<- decide_not,abM];omega
 rw[cK,hy,abx]
 simp only[Ew,At,qK _ (-1000000000) 1000000000 3 (by decide) (by decide),qK _ 0 1000000000 4 (by decide) (by decide),hR,hE,Si,abx,hW]
 by_cases c1:y.1<1\/99999<y.1
 ·simp only[c1,abR,abL,abZ]
 rw[abN c1,abK,abX c1]
 have tail:(bif decide (y.2.1<1\/99999<y.2.1) then some ((1:Int),()) else bif !ji y.2.2.1 then some (5,()) else bif !inR y.2.2.2.1 (-1000000000) 1000000000 3 then some (1,()) else bif y.2.2.2.1.1==0 then some (13,()) else bif !ji y.2.2.2.2.1 then some (5,()) else bif !inR y.2.2.2.2.2.1 0 1000000000 4 then some (1,()) else
  bif decide (y.2.2.2.2.2.2.1<1\/100000<y.2.2.2.2.2.2.1) then some (1,()) else bif iE pl rates true y.2.2.2.2.2.2.2.1 != 0 then some (iE pl rates true y.2.2.2.2.2.2.2.1,()) else bif !(fq (fun x:aC=>x.1) y.2.2.2.2.2.2.2.2 rates).isSome then some (5,()) else some (0,()))=
  some (if y.2.1<1\/99999<y.2.1 then 1 else if ji y.2.2.1=false then 5 else if inR y.2.2.2.1 (-1000000000) 1000000000 3=false then 1 else if y.2.2.2.1.1=0 then 13 else if ji y.2.2.2.2.1=false then 5 else if inR y.2.2.2.2.2.1 0 1000000000 4=false then 1
   else if y.2.2.2.2.2.2.1<1\/100000<y.2.2.2.2.2.2.1 then 1 else if iE pl rates true y.2.2.2.2.2.2.2.1≠0 then iE pl rates true y.2.2.2.2.2.2.2.1 else if (fq (fun x:aC=>x.1) y.2.2.2.2.2.2.2.2 rates).isSome=true then 0 else 5,()):=by
  by_cases c2:y.2.1<1\/99999<y.2.1
  ·simp only[c2,abR,abL,abZ]
  rw[abN c2,abK,abX c2]
  cases ji y.2.2.1 with
  | false=>rfl
  | true=>
   cases inR y.2.2.2.1 (-1000000000) 1000000000 3 with
   | false=>rfl
   | true=>
    simp only[Ze,abK,Zi,abW]
    by_cases c3:y.2.2.2.1.1=0
    ·rw[show (y.2.2.2.1.1==0)=true by simpa using c3,abL,abY c3]
    ·rw[show (y.2.2.2.1.1==0)=false by simpa using c3,abK,abX c3]
     cases ji y.2.2.2.2.1 with
     | false=>rfl
     | true=>
      cases inR y.2.2.2.2.2.1 0 1000000000 4 with
      | false=>rfl
      | true=>
       simp only[Ze,abK,Zi,abW]
       by_cases c4:y.2.2.2.2.2.2.1<1\/100000<y.2.2.2.2.2.2.1
       ·simp only[c4,abR,abL,abZ]
       ·rw[abN c4,abK,abX c4]
        by_cases c5:iE pl rates true y.2.2.2.2.2.2.2.1=0
        ·rw[c5,zne,abK,abX (by simp)]
         cases (fq (fun x:aC=>x.1) y.2.2.2.2.2.2.2.2 rates).isSome<;>rfl
        ·rw[show (iE pl rates true y.2.2.2.2.2.2.2.1 != 0)=true by simpa using c5,abL,abY c5]
 cases i with
 | zero=>
  rw[aP (by omega),tail]
  rfl
 | succ i=>
  have hp:lines[i]? =some (lines[i]'(by omega)):=aT (by omega)
  rw[aI (by omega),K9 (by omega) hll,hp,abx]
  have ep:GB lines (i+1) y=decide (y.1<=(lines[i]'(by omega)).1):=by simp only[GB,hp]
  rw[ep]
  cases decide (y.1<=(lines[i]'(by omega)).1) with
  | true=>rfl
  | false=>
   rw[abK,tail]
   rfl
def Gg (v:aa):Int:=gy (rQ v.2.2.2.1 v.2.2.2.2.2.2.1 v.2.2.2.2.2.2.2.1) 0 v.2.2.2.2.2.2.2.1
def DA (v:aa):Int:=
 if ji v.1=false then 5 else if ji v.2.1=false then 5
 else if ¬(1<=v.2.2.1/\v.2.2.1<=3652059) then 1
 else if v.2.2.2.1<0\/4<v.2.2.2.1 then 1
 else if v.2.2.2.2.1<1\/6<v.2.2.2.2.1 then 4
 else if pg v.2.2.2.2.2.2.1≠0 then pg v.2.2.2.2.2.2.1
 else if v.2.2.2.2.2.2.2.1.length=0 then 9
 else if 500<v.2.2.2.2.2.2.2.1.length then 2
 else if Gg v≠0 then Gg v
 else iE v.2.2.2.1 v.2.2.2.2.2.2.1 false v.2.2.2.2.2.2.2.2
theorem Qs {γ:Type} (s:Int) (u:γ) (k:γ->Option (Int×Unit)) (z:Int) (hk:k u=some (z,())):aR (β:=Int×Unit) (γ:=γ) (if s=0 then some (Sum.inr u) else some (Sum.inl (s,()))) k=some (if s≠0 then s else z,()):=by
 by_cases h:s=0
 ·rw[abY h,bG,hk,abX (by simpa using h)]
 ·rw[abX h,uL,abY h]
theorem Dd (v:aa):gj v=some (DA v,()):=by
 unfold gj DA
 simp only[yQ,PN,kV,abx,zW]
 cases ji v.1 with
 | false=>rfl
 | true=>
 cases ji v.2.1 with
 | false=>rfl
 | true=>
 simp only[Ze,abK,Zi,abW]
 by_cases n_c1:¬(1<=v.2.2.1/\v.2.2.1<=3652059)
 ·rw[abN n_c1,abY n_c1];rfl
 have c1:=Zj n_c1
 rw[abO c1,abX (by simpa using c1),Ze,abK]
 by_cases c2:v.2.2.2.1<0\/4<v.2.2.2.1
 ·rw[abO c2,abY c2];rfl
 rw[abN c2,abX c2,abK]
 by_cases c3:v.2.2.2.2.1<1\/6<v.2.2.2.2.1
 ·rw[abO c3,abY c3];rfl
 rw[abN c3,abX c3,Zd,Ze,abK]
 by_cases n_hrl:¬(v.2.2.2.2.2.2.1.length<1000000000)
 ·have e:pg v.2.2.2.2.2.2.1=2:=by unfold pg;rw[abX (by omega),abY (by omega)]
  have e2:jR v.2.2.2.2.2.2.1=some (2,()):=by
   unfold jR
   rw[zO,abN (by omega),abK,aI (by omega)]
  rw[e,e2];rfl
 have hrl:=Zj n_hrl
 rw[Fc _ hrl,abx]
 dsimp only
 by_cases n_c4:¬(pg v.2.2.2.2.2.2.1=0)
 ·rw[show (pg v.2.2.2.2.2.2.1 != 0)=true by simpa using n_c4,abL,abY n_c4]
 have c4:=Zj n_c4
 obtain⟨_,_,hs,_⟩:=ID c4
 rw[c4,zne,abK,abX (by simp),zO]
 by_cases c5:v.2.2.2.2.2.2.2.1.length=0
 ·rw[abO c5,abL,abY c5]
 rw[abN c5,abK,abX c5]
 by_cases c6:500<v.2.2.2.2.2.2.2.1.length
 ·rw[aI (by omega),abY c6]
 rw[aP (by omega),abX c6]
 unfold Gg
 rw[rN (f:=jQ) (fun i=>(((v.2.2.2.2.2.2.2.1.length:Int)),(i:Int),v.1,v.2.1,v.2.2.1,v.2.2.2.1,v.2.2.2.2.1,v.2.2.2.2.2.1,v.2.2.2.2.2.2.1,v.2.2.2.2.2.2.2.1,v.2.2.2.2.2.2.2.2,()) ) v.2.2.2.2.2.2.2.1 (rQ v.2.2.2.1 v.2.2.2.2.2.2.1 v.2.2.2.2.2.2.2.1) (v.1,v.2.1,v.2.2.1,v.2.2.2.1,v.2.2.2.2.1,v.2.2.2.2.2.1,v.2.2.2.2.2.2.1,v.2.2.2.2.2.2.2.1,v.2.2.2.2.2.2.2.2,()) ?_ ?_ ?_ _ ?_]
 ·refine Qs _ _ _ _ ?_
  show Option.bind (gU v v.2.2.2.2.2.2.2.2 false) _=_
  rw[wh v _ false hrl hs,abx]
 ·rfl
 ·intro i y again hy
  have hi:=(Z9.1 hy).1
  unfold jQ
  show (bif decide ((i:Int)<(v.2.2.2.2.2.2.2.1.length:Int)) then Option.bind (nA v (i:Int)) _ else _)=_
  rw[aI (by omega),HS v i y hrl hs (by omega) hy,abx]
  dsimp only
  rw[aS (n:=(i:Int)+1) (by omega) (by omega)]
  by_cases hz:rQ v.2.2.2.1 v.2.2.2.2.2.2.1 v.2.2.2.2.2.2.2.1 i y=0
  ·rw[hz];rfl
  ·rw[show (rQ v.2.2.2.1 v.2.2.2.2.2.2.1 v.2.2.2.2.2.2.2.1 i y != 0)=true by simpa using hz,abL,abX hz]
 ·intro again
  unfold jQ
  dsimp only
  rw[aP (by omega)]
 ·omega
end Go.Md
namespace Go.Md
open Go.Dn
theorem ER (v:aa):gX v=some (DA v,()):=by
 unfold gX DA
 have hW:∀ n lo hi':Int,(!decide (lo<=n/\n<=hi'))=decide (n<lo\/hi'<n):=fun n lo hi'=>by
  rw[<- decide_not,abM];omega
 simp only[At,Rz,Ew,abx]
 cases ji v.1 with
 | false=>rfl
 | true=>
 cases ji v.2.1 with
 | false=>rfl
 | true=>
 simp only[Ze,abK,Zi,abW]
 by_cases n_c1:¬(1<=v.2.2.1/\v.2.2.1<=3652059)
 ·rw[abN n_c1,abY n_c1];rfl
 have c1:=Zj n_c1
 rw[abO c1,abX (by simpa using c1),Ze,abK,hW,hW]
 by_cases c2:v.2.2.2.1<0\/4<v.2.2.2.1
 ·rw[abO c2,abY c2];rfl
 rw[abN c2,abX c2,abK]
 by_cases c3:v.2.2.2.2.1<1\/6<v.2.2.2.2.1
 ·rw[abO c3,abY c3];rfl
 rw[abN c3,abX c3,abK,zO]
 unfold pg
 by_cases c4:v.2.2.2.2.2.2.1.length=0
 ·rw[abO c4,abL,abY c4];rfl
 rw[abN c4,abK,abX c4]
 by_cases c5:20<v.2.2.2.2.2.2.1.length
 ·rw[aI (by omega),abY c5];rfl
 rw[aP (by omega),abX c5]
 rw[rN (f:=kE) (fun i=>(v.2.2.2.2.2.2.1,((v.2.2.2.2.2.2.1.length:Int)),(i:Int),v.1,v.2.1,v.2.2.1,v.2.2.2.1,v.2.2.2.2.1,v.2.2.2.2.2.1,v.2.2.2.2.2.2.1,v.2.2.2.2.2.2.2.1,v.2.2.2.2.2.2.2.2,()) ) v.2.2.2.2.2.2.1 (D7 v.2.2.2.2.2.2.1) (v.1,v.2.1,v.2.2.1,v.2.2.2.1,v.2.2.2.2.1,v.2.2.2.2.2.1,v.2.2.2.2.2.2.1,v.2.2.2.2.2.2.2.1,v.2.2.2.2.2.2.2.2,()) ?_ ?_ ?_ _ ?_]
 ·refine Qs _ _ _ _ ?_
  dsimp only
  rw[zO]
  by_cases c6:v.2.2.2.2.2.2.2.1.length=0
  ·rw[abO c6,abL,abY c6]
  rw[abN c6,abK,abX c6]
  by_cases c7:500<v.2.2.2.2.2.2.2.1.length
  ·rw[aI (by omega),abY c7]
  rw[aP (by omega),abX c7]
  unfold Gg
  rw[rN (f:=kF) (fun i=>(((v.2.2.2.2.2.2.2.1.length:Int)),(i:Int),v.1,v.2.1,v.2.2.1,v.2.2.2.1,v.2.2.2.2.1,v.2.2.2.2.2.1,v.2.2.2.2.2.2.1,v.2.2.2.2.2.2.2.1,v.2.2.2.2.2.2.2.2,()) ) v.2.2.2.2.2.2.2.1 (rQ v.2.2.2.1 v.2.2.2.2.2.2.1 v.2.2.2.2.2.2.2.1) (v.1,v.2.1,v.2.2.1,v.2.2.2.1,v.2.2.2.2.1,v.2.2.2.2.2.1,v.2.2.2.2.2.2.1,v.2.2.2.2.2.2.2.1,v.2.2.2.2.2.2.2.2,()) ?_ ?_ ?_ _ ?_]
  ·refine Qs _ _ _ _ ?_
   show Option.bind (iN v v.2.2.2.2.2.2.2.2 false) _=_
   rw[yu v _ false (by omega) (by omega),abx]
  ·rfl
  ·intro i y again hy
   have hi:=(Z9.1 hy).1
   unfold kF
   show (bif decide ((i:Int)<(v.2.2.2.2.2.2.2.1.length:Int)) then Option.bind (o3 v (i:Int)) _ else _)=_
   rw[aI (by omega),JN v i y (by omega) (by omega) (by omega) hy,abx]
   dsimp only
   rw[aS (n:=(i:Int)+1) (by omega) (by omega)]
   by_cases hz:rQ v.2.2.2.1 v.2.2.2.2.2.2.1 v.2.2.2.2.2.2.2.1 i y=0
   ·rw[hz];rfl
   ·rw[show (rQ v.2.2.2.1 v.2.2.2.2.2.2.1 v.2.2.2.2.2.2.2.1 i y != 0)=true by simpa using hz,abL,abX hz]
  ·intro again
   unfold kF
   dsimp only
   rw[aP (by omega)]
  ·omega
 ·rfl
 ·intro i y again hy
  have hi:=(Z9.1 hy).1
  unfold kE
  dsimp only
  rw[aI (by omega),cK,hy,abx,At,abx,aS (n:=(i:Int)+1) (by omega) (by omega),qK y.2 0 100 9 (by decide) (by decide)]
  unfold D7
  cases hn:ji y.1 with
  | false=>simp
  | true=>
   simp only[Ze,abK,Zi,abW,abx]
   cases i with
   | zero=>
    rw[aP (by omega)]
    simp only[vI,Y7,abW]
    cases inR y.2 0 100 9<;>simp
   | succ i=>
    have hp:v.2.2.2.2.2.2.1[i]? =some (v.2.2.2.2.2.2.1[i]'(by omega)):=aT (by omega)
    rw[aI (by omega),Qh (by omega) (by omega),hp,abx]
    have ep:vI v.2.2.2.2.2.2.1 (i+1) y=(Op.bytesLess y.1 (v.2.2.2.2.2.2.1[i]'(by omega)).1||y.1==(v.2.2.2.2.2.2.1[i]'(by omega)).1):=by simp only[vI,hp]
    rw[ep]
    cases (Op.bytesLess y.1 (v.2.2.2.2.2.2.1[i]'(by omega)).1||y.1==(v.2.2.2.2.2.2.1[i]'(by omega)).1) with
    | true=>simp
    | false=>cases inR y.2 0 100 9<;>simp
 ·intro again
  unfold kE
  dsimp only
  rw[aP (by omega)]
 ·omega
structure Yb (pl:Int) (x:aJ):Prop where
 dec:cX x.2.1
 place:x.1=false->x.2.1.2<=pl
 nz:x.2.1.1≠0
theorem KE {pl:Int} {rates:List aC} {line:Bool} {l:List aJ} (h:iE pl rates line l=0):l.length<=20/\∀ x∈l,Yb pl x/\(line=true->x.2.2=[])/\(x.2.2=[]\/(fq (·.1) x.2.2 rates).isSome=true):=by
 unfold iE at h
 split at h
 ·omega
 ·refine⟨by omega,fun x hx=> ?_⟩
  obtain⟨i,hi⟩:=aaA.1 hx
  have:=zD h i x hi
  unfold Mg at this
  by_cases hd:cX x.2.1
  ·rw[abY hd] at this
   by_cases h0:x.2.1.1=0
   ·rw[abY h0] at this;omega
   ·rw[abX h0] at this
    by_cases hr:(if x.1=true then inR x.2.1 (-100) 100 9 else inR x.2.1 (-1000000000) 1000000000 pl)=true
    ·rw[abY hr] at this
     refine⟨⟨hd,fun hp=> ?_,h0⟩,fun hline=> ?_, ?_⟩
     ·rw[hp] at hr
      simp only[Y7,abW,inR,abP] at hr
      exact hr.2.1
     ·rw[hline] at this
      by_cases hn:x.2.2=[]
      ·exact hn
      ·rw[abX hn] at this;simp at this
     ·by_cases hn:x.2.2=[]
      ·exact .inl hn
      ·rw[abX hn] at this
       right
       cases hx2:(fq (fun x:aC=>x.1) x.2.2 rates).isSome with
       | true=>rfl
       | false=>rw[hx2] at this;cases line<;>simp at this
    ·rw[abX hr] at this;omega
  ·rw[abX hd] at this;omega
structure OW (pl:Int) (rates:List aC) (x:ai):Prop where
 q:cX x.2.2.2.1
 qp:x.2.2.2.1.2<=3
 qn:x.2.2.2.1.1≠0
 p:cX x.2.2.2.2.2.1
 pp:x.2.2.2.2.2.1.2<=4
 p0:0<=x.2.2.2.2.2.1.1
 per:1<=x.2.2.2.2.2.2.1/\x.2.2.2.2.2.2.1<=100000
 ext:iE pl rates true x.2.2.2.2.2.2.2.1=0
 rate:(fq (·.1) x.2.2.2.2.2.2.2.2 rates).isSome=true
theorem Tt {pl:Int} {rates:List aC} {lines:List ai} {i:Nat} {x:ai} (h:rQ pl rates lines i x=0):OW pl rates x:=by
 unfold rQ at h
 split at h
 ·omega
 split at h
 ·omega
 split at h
 ·omega
 split at h
 ·omega
 split at h
 ·omega
 rename_i h1
 split at h
 ·omega
 rename_i h2
 split at h
 ·omega
 split at h
 ·omega
 rename_i h3
 split at h
 ·omega
 rename_i h4
 split at h
 ·omega
 rename_i h5
 split at h
 ·rename_i h6
  have h1':inR x.2.2.2.1 (-1000000000) 1000000000 3=true:=by simpa using h1
  have h3':inR x.2.2.2.2.2.1 0 1000000000 4=true:=by simpa using h3
  unfold inR at h1' h3'
  rw[abP] at h1' h3'
  exact⟨h1'.1,h1'.2.1,h2,h3'.1,h3'.2.1,by have:=h3'.2.2.1;rw[Int.zero_mul] at this;exact this,by omega,by omega,h6⟩
 ·omega
structure Yc (v:aa):Prop where
 pl:0<=v.2.2.2.1/\v.2.2.2.1<=4
 way:1<=v.2.2.2.2.1/\v.2.2.2.2.1<=6
 rn:0<v.2.2.2.2.2.2.1.length/\v.2.2.2.2.2.2.1.length<=20
 asc:Asc (·.1) v.2.2.2.2.2.2.1
 rates:∀ r∈v.2.2.2.2.2.2.1,inR r.2 0 100 9=true
 ln:0<v.2.2.2.2.2.2.2.1.length/\v.2.2.2.2.2.2.2.1.length<=500
 lines:∀ x∈v.2.2.2.2.2.2.2.1,OW v.2.2.2.1 v.2.2.2.2.2.2.1 x
 ext:iE v.2.2.2.1 v.2.2.2.2.2.2.1 false v.2.2.2.2.2.2.2.2=0
theorem UJ {v:aa} (h:DA v=0):Yc v:=by
 unfold DA at h
 split at h
 ·omega
 split at h
 ·omega
 split at h
 ·omega
 split at h
 ·omega
 split at h
 ·omega
 split at h
 ·omega
 rename_i h1
 split at h
 ·omega
 split at h
 ·omega
 split at h
 ·omega
 rename_i h2
 have hr:=ID (show pg v.2.2.2.2.2.2.1=0 by omega)
 refine⟨by omega,by omega,⟨hr.1,hr.2.1⟩,hr.2.2.1,hr.2.2.2,by omega,fun x hx=> ?_,h⟩
 obtain⟨i,hi⟩:=aaA.1 hx
 have:=zD (show Gg v=0 by omega) i x hi
 exact Tt this
end Go.Md
namespace Go.Md
open Go.Dn
theorem JF {n r:Nat} (h:0<r):n<n+r:=by omega
theorem Gk {n a r:Nat} (h:n<r):n<a+r:=by omega
theorem Qq (l:List aJ) (hl:l.length<=1000):gH l l=some (true,()):=by
 unfold gH
 rw[show (((List.length l:Nat):Int) != ((List.length l:Nat):Int))=false by simp,abK]
 have loop:∀ f,l.length<f->iter f ((l,l,(l.length:Int),(0:Int),()):iw) iu=some (Sum.inr ()):=by
  intro f hf
  refine cV (Inv:=fun i X=>X=(l,l,(l.length:Int),(i:Int),())) l.length (fun r=>r=some (Sum.inr ())) ?_ ?_ f 0 _ rfl (by omega) (by omega)
  ·rintro i _ again hi rfl ih
   unfold iu
   dsimp only
   rw[aI (by omega),cK,aT hi,abx,abx]
   simp only[abI,YZ,Ze,abK]
   rw[aS (by omega) (by omega)]
   exact ih _ rfl
  ·rintro _ again rfl
   unfold iu
   dsimp only
   rw[aP (by omega)]
 rw[loop _ (by with_reducible apply JF;repeat (with_reducible first | exact Nat.zero_lt_two | apply Gk)),bG]
theorem Vw (l:List aC) (hl:l.length<=1000):jT l l=some (true,()):=by
 unfold jT
 rw[show (((List.length l:Nat):Int) != ((List.length l:Nat):Int))=false by simp,abK]
 have loop:∀ f,l.length<f->iter f ((l,l,(l.length:Int),(0:Int),()):iQ) iP=some (Sum.inr ()):=by
  intro f hf
  refine cV (Inv:=fun i X=>X=(l,l,(l.length:Int),(i:Int),())) l.length (fun r=>r=some (Sum.inr ())) ?_ ?_ f 0 _ rfl (by omega) (by omega)
  ·rintro i _ again hi rfl ih
   unfold iP
   dsimp only
   rw[aI (by omega),cK,aT hi,abx,abx]
   simp only[abI,YZ,Ze,abK]
   rw[aS (by omega) (by omega)]
   exact ih _ rfl
  ·rintro _ again rfl
   unfold iP
   dsimp only
   rw[aP (by omega)]
 rw[loop _ (by with_reducible apply JF;repeat (with_reducible first | exact Nat.zero_lt_two | apply Gk)),bG]
theorem Wp {v:aa} (h:DA v=0):wV v v=some (true,()):=by
 have hv:=UJ h
 have hln:0<v.2.2.2.2.2.2.2.1.length/\v.2.2.2.2.2.2.2.1.length<=500:=hv.ln
 have hrn:0<v.2.2.2.2.2.2.1.length/\v.2.2.2.2.2.2.1.length<=20:=hv.rn
 have hx:v.2.2.2.2.2.2.2.2.length<=20:=(KE hv.ext).1
 unfold wV
 simp only[abI,Ze,abK,abJ]
 have loop:∀ f,v.2.2.2.2.2.2.2.1.length<f->iter f ((v.2.2.2.2.2.2.2.1,(v.2.2.2.2.2.2.2.1.length:Int),(0:Int),v.1,v.2.1,v.2.2.1,v.2.2.2.1,v.2.2.2.2.1,v.2.2.2.2.2.1,v.2.2.2.2.2.2.1,v.2.2.2.2.2.2.2.1,v.2.2.2.2.2.2.2.2,v.1,v.2.1,v.2.2.1,v.2.2.2.1,v.2.2.2.2.1,v.2.2.2.2.2.1,v.2.2.2.2.2.2.1,v.2.2.2.2.2.2.2.1,v.2.2.2.2.2.2.2.2,()):th) xE=some (Sum.inr (v.1,v.2.1,v.2.2.1,v.2.2.2.1,v.2.2.2.2.1,v.2.2.2.2.2.1,v.2.2.2.2.2.2.1,v.2.2.2.2.2.2.2.1,v.2.2.2.2.2.2.2.2,v.1,v.2.1,v.2.2.1,v.2.2.2.1,v.2.2.2.2.1,v.2.2.2.2.2.1,v.2.2.2.2.2.2.1,v.2.2.2.2.2.2.2.1,v.2.2.2.2.2.2.2.2,())):=by
  intro f hf
  refine cV (Inv:=fun i X=>X=((v.2.2.2.2.2.2.2.1,(v.2.2.2.2.2.2.2.1.length:Int),(i:Int),v.1,v.2.1,v.2.2.1,v.2.2.2.1,v.2.2.2.2.1,v.2.2.2.2.2.1,v.2.2.2.2.2.2.1,v.2.2.2.2.2.2.2.1,v.2.2.2.2.2.2.2.2,v.1,v.2.1,v.2.2.1,v.2.2.2.1,v.2.2.2.2.1,v.2.2.2.2.2.1,v.2.2.2.2.2.2.1,v.2.2.2.2.2.2.2.1,v.2.2.2.2.2.2.2.2,()):th)) v.2.2.2.2.2.2.2.1.length (fun r=>r=some (Sum.inr (v.1,v.2.1,v.2.2.1,v.2.2.2.1,v.2.2.2.2.1,v.2.2.2.2.2.1,v.2.2.2.2.2.2.1,v.2.2.2.2.2.2.2.1,v.2.2.2.2.2.2.2.2,v.1,v.2.1,v.2.2.1,v.2.2.2.1,v.2.2.2.2.1,v.2.2.2.2.2.1,v.2.2.2.2.2.2.1,v.2.2.2.2.2.2.2.1,v.2.2.2.2.2.2.2.2,()))) ?_ ?_ f 0 _ rfl (by omega) (by omega)
  ·rintro i _ again hi rfl ih
   have hy:v.2.2.2.2.2.2.2.1[i]? =some v.2.2.2.2.2.2.2.1[i]:=aT hi
   have hm:v.2.2.2.2.2.2.2.1[i]∈v.2.2.2.2.2.2.2.1:=aai hi
   generalize v.2.2.2.2.2.2.2.1[i]=y at hy hm
   have hlo:OW v.2.2.2.1 v.2.2.2.2.2.2.1 y:=hv.lines y hm
   have hye:=KE hlo.ext
   unfold xE
   dsimp only
   rw[aI (by omega),cK,hy,abx,abx]
   simp only[abI,YZ,Ze,abK,abJ]
   rw[Qq _ (by omega),abx]
   simp only[Ze,abK]
   rw[aS (by omega) (by omega)]
   exact ih _ rfl
  ·rintro _ again rfl
   unfold xE
   dsimp only
   rw[aP (by omega)]
 rw[loop _ (by with_reducible apply JF;repeat (with_reducible first | exact Nat.zero_lt_two | apply Gk)),bG]
 dsimp only
 rw[Vw _ (by show v.2.2.2.2.2.2.1.length<=_;omega),abx]
 simp only[abL]
 rw[Qq _ (by show v.2.2.2.2.2.2.2.2.length<=_;omega),abx]
 rfl
end Go.Md
namespace Go.Md
open Go.Dn
theorem Qr (e:Bool):∀ (M:List Bys) (a:aa) (i f:Nat),(iR e M).length<=f->(∀ l,l∈M->(10:UInt8)∉l)->(e=false->M≠[]->iR e M≠[]/\(iR e M).getLast? ≠some 10)->yU f (iR e M) (i+1) a=wR e M i a
 | [],a,i,f,_,_,_=>by cases f<;>rfl
 | l::M,a,i,f,hf,hno,hlast=>by
  have hl10:=hno l (by simp)
  have hne:iR e (l::M)≠[]:=by
   cases he:e with
   | false=>exact he ▸ (hlast he (by simp)).1
   | true=>
    intro h
    have:=congrArg List.length h
    simp only[iR,aak,aao,abL] at this
    cases hM:M.isEmpty with
    | true=>rw[hM] at this;simp at this
    | false=>rw[hM] at this;simp at this
  have hne':(iR e (l::M)==[])=false:=by
   cases h:iR e (l::M) with
   | nil=>exact absurd h hne
   | cons _ _=>rfl
  obtain⟨f',rfl⟩:∃ f',f=f'+1:=by
   cases f with
   | zero=>exact absurd (aam.1 (by omega)) hne
   | succ f'=>exact⟨f',rfl⟩
  have hcut:ef 10 (iR e (l::M))=(l,iR e M, !(!e&&M.isEmpty)):=by
   simp only[iR]
   cases M with
   | nil=>
    simp only[List.isEmpty_nil,abL,Y5,Bool.not_not,iR]
    cases e with
    | true=>exact Je 10 l [] hl10
    | false=>simp only[abK,ZD];exact Nf 10 l hl10
   | cons m M'=>
    simp only[List.isEmpty_cons,abK,YY,Zd]
    exact Je 10 l _ hl10
  rw[yU,hne',abK,hcut,wR]
  have e1:(i+1==1)=(i==0):=by
   by_cases h:i=0
   ·subst h;rfl
   ·rw[abH h,abH (by omega)]
  rw[e1]
  cases rdI a (i==0) l with
  | none=>rfl
  | some b=>
   dsimp only
   cases hE:(!e&&M.isEmpty) with
   | true=>rfl
   | false=>
    rw[Zd,abL,abK]
    refine Qr e M b (i+1) f' ?_ (fun l hl=>hno l (by simp[hl])) (fun he hM=> ?_)
    ·have:(iR e M).length+1<=(iR e (l::M)).length:=by
      simp only[iR]
      cases M with
      | nil=>
       cases e with
       | false=>cases hE
       | true=>simp[iR]
      | cons m M'=>simp only[List.isEmpty_cons,abK,aak,aal];omega
     omega
    ·obtain⟨h4,h5⟩:=hlast he (by simp)
     simp only[iR] at h5
     have hMe:M.isEmpty=false:=by cases M with
      | nil=>exact absurd rfl hM
      | cons _ _=>rfl
     rw[hMe,abK] at h5
     have hn:iR e M≠[]:=fun h=>by
      rw[h] at h5
      simp at h5
     refine⟨hn,fun h=>h5 ?_⟩
     rw[List.getLast?_append,List.getLast?_cons,h]
     rfl
theorem VI:Ga=some (true,()):=by kernel_rfl
theorem Xs:wV zI zI=some (true,()):=by kernel_rfl
theorem RG (t:Bys):∃ r:aa×Int×Int×Unit,uE t=some r/\wU t=some r/\(r.1=zI\/DA r.1=0):=by
 unfold uE wU
 by_cases hl:(300000:Int)<(t.length:Int)
 ·rw[abO hl,abL,abL]
  exact⟨_,rfl,rfl,.inl rfl⟩
 ·rw[abN hl,abK,abK]
  obtain⟨L,e,h1,h2,h3,h4,h5,h6⟩:=F9 t (by omega)
  rw[h1,abx]
  dsimp only
  cases hL:L.isEmpty with
  | true=>
   have:L=[]:=by simpa using hL
   subst this
   have ht:t=[]:=h2.symm
   subst ht
   exact⟨_,rfl,rfl,.inl rfl⟩
  | false=>
   have hne:L≠[]:=fun h=>by rw[h] at hL;cases hL
   have ht:(t==[])=false:=by
    cases ht:t with
    | cons x y=>rfl
    | nil=>
     subst ht
     have:n7 []=some ([],true,()):=rfl
     rw[this] at h1
     cases h1
     exact absurd rfl hne
   rw[abK,ht,abK]
   have hgo:=Qr e L zI 0 t.length (by rw[h2];exact abd _) h3 (by rw[h2];exact h6)
   rw[h2] at hgo
   rw[hgo]
   obtain⟨o,ho⟩:∃ o,wR e L 0 zI=o:=⟨_,rfl⟩
   rw[ho]
   cases o with
   | inr n=>exact⟨_,rfl,rfl,.inl rfl⟩
   | inl a=>
    dsimp only
    rw[Dd a,ER a,abx]
    dsimp only
    cases hb:(DA a != 0) with
    | true=>exact⟨_,rfl,rfl,.inl rfl⟩
    | false=>exact⟨_,rfl,rfl,.inr (by simpa using hb)⟩
theorem law_BillReads (t:Bys):jy t=some (true,()):=by
 obtain⟨r,h1,h2,h3⟩:=RG t
 unfold jy
 rw[h1,h2,abx,abx]
 simp only[abI,abL]
 rw[show wV r.1 r.1=some (true,()) from h3.elim (fun h=>by rw[h];exact Xs) Wp,VI]
 rfl
end Go.Md
