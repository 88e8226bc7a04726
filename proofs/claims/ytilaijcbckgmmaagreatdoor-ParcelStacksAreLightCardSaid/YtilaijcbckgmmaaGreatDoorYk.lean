/-
  Plain facts: labels, first fit, stacks; the plain law is true of all data. No condition.
-/
import Derived.Test.YtilaijcbckgmmaaGreatDoorYo
import Derived.Test.YtilaijcbckgmmaaGreatDoorYu
import Derived.Test.YtilaijcbckgmmaaGreatDoorYq
set_option linter.all false
set_option linter.all false
namespace Go.Md
open Go.Dn
def Av (l:List UInt8):Nat:=l.foldl (fun n b=>n*10+(b.toNat - 48)) 0
theorem SJ (l:List UInt8) (b:UInt8):Av (l++[b])=Av l*10+(b.toNat - 48):=by
 unfold Av;rw[List.foldl_append];rfl
theorem JJ:∀ (k:Nat) (l:List UInt8),Av (Lib.repeatL [48] k++l)=Av l
 | 0,l=>rfl
 | k+1,l=>by
  show Av (48::(Lib.repeatL [48] k++l))=Av l
  rw[← JJ k l];rfl
theorem Mk {d:Nat} (h:d<10):(UInt8.ofNat (48+d)).toNat=48+d:=by
 rw[UInt8.toNat_ofNat']
 omega
theorem Mh:∀ (k u:Nat),u<10 ^ (k+1)→Av (Lib.decDigits u)=u∧0<(Lib.decDigits u).length∧(Lib.decDigits u).length≤k+1
 | k,u,h=>by
  rw[Lib.decDigits]
  by_cases h1:u<10
  ·rw[dif_pos h1]
   refine⟨?_,by simp,by simp⟩
   show 0*10+((UInt8.ofNat (48+u)).toNat - 48)=u
   rw[Mk h1];omega
  ·rw[dif_neg h1]
   cases k with
   | zero=>rw[Y4,Nat.pow_one] at h;exact absurd h h1
   | succ k=>
    have hd:u / 10<10 ^ (k+1):=by
     rw[Y3] at h
     omega
    obtain⟨g1,g2,g3⟩:=Mh k (u / 10) hd
    refine⟨?_,by simp,by simp;omega⟩
    rw[SJ,g1,Mk (by omega)]
    omega
theorem T6 (n:Nat) (h:n<100):Lib.decDigits n=N4 n:=by
 unfold N4
 rw[Lib.decDigits]
 by_cases h1:n<10
 ·simp[h1]
 ·rw[dif_neg h1,Lib.decDigits,dif_pos (by omega),Zv h1];rfl
theorem QI {n:Nat} (h:n≤9223372036854775807):strconv_Itoa (n:Int)=some (Lib.decDigits n,()):=by
 unfold strconv_Itoa
 by_cases h1:n<100
 ·rw[show (decide (0≤(n:Int))&&decide ((n:Int)<100))=true by rw[WJ];exact⟨Zo (by omega),Zo (by omega)⟩,Zk,Xg,T6 n h1]
 ·rw[show (decide (0≤(n:Int))&&decide ((n:Int)<100))=false by rw[Zm (show ¬(n:Int)<100 by omega),WK],Zj,
   show (decide (-9223372036854775808≤(n:Int))&&decide ((n:Int)≤9223372036854775807))=true by rw[WJ];exact⟨Zo (by omega),Zo (by omega)⟩,Zk]
  unfold Lib.itoa
  rw[Zv (by omega),Xg]
theorem TD (k:Nat) (h:k≤1000):strings_Repeat [48] (k:Int)=some (Lib.repeatL [48] k,()):=by
 unfold strings_Repeat
 rw[Xg,show (decide (0≤(k:Int))&&(decide ((k:Int)≤9223372036854775807)&&decide ([(48:UInt8)].length*k≤140737488355328)))=true by
  rw[WJ,WJ]
  exact⟨Zo (by omega),Zo (by omega),Zo (by simp;omega)⟩,Zk]
theorem S5 (s:List UInt8) (hs:s.length≤9223372036854775807):kI 3 s=some (lbl s,()):=by
 have h:=zL s hs
 unfold oH q7 mL at h
 rw[jK,Y7,Y7] at h
 dsimp only at h
 rw[show (!(!(decide ((3:Int)<1∨(5:Int)<3))))=false by decide,Zj] at h
 cases hq:kI 3 s with
 | none=>rw[hq] at h;cases h
 | some r=>
  rw[hq,Y7,Y7] at h
  obtain⟨b,u⟩:=r
  exact h
theorem Jn (body:List UInt8) (hb:body.length=17):∃ s e,oW 3 body=some (s,e,())∧(e≠0→s=[])∧(e=0→∃ c,s=body++[c]∧lbl s=true):=by
 have BZ:maxLen=9223372036854775807:=rfl
 have loop:∀ n,10<n→(iter (X:=gF) (β:=iX) n (3,body,0,()) iW=some (Sum.inr ()))∨∃ c,lbl (body++[c])=true∧iter (X:=gF) (β:=iX) n (3,body,0,()) iW=some (Sum.inl (body++[c],0,())):=by
  intro n hn
  refine bJ (Inv:=fun i X=>X=(((3:Int),body,(i:Int),()):gF)) 10 (fun r=>r=some (Sum.inr ())∨∃ c,lbl (body++[c])=true∧r=some (Sum.inl (body++[c],0,()))) ?_ ?_ n 0 _ rfl (by omega) (by omega)
  ·rintro i X again hi rfl hag
   unfold iW
   dsimp only
   have hd:Lib.decDigits i=[UInt8.ofNat (48+i)]:=by rw[Lib.decDigits,dif_pos hi]
   rw[az (by omega),QI (by omega),Y7,hd]
   dsimp only
   rw[aH (Zo (by simp;omega)),S5 _ (by simp;omega),Y7]
   dsimp only
   cases hl:lbl (body++[UInt8.ofNat (48+i)]) with
   | true=>right;exact⟨_,hl,rfl⟩
   | false=>
    rw[Zj,aj (by omega) (by omega)]
    exact hag _ rfl
  ·rintro X again rfl
   unfold iW
   dsimp only
   rw[aA (by omega)]
   exact .inl rfl
 unfold oW mL
 rw[jK,Y7,Y7]
 dsimp only
 rw[show (!(!(decide ((3:Int)<1∨(5:Int)<3))))=false by decide,Zj,aA (by omega),show ((3:Int)==4)=false from rfl,Zj]
 rcases loop (Int.natAbs (3:Int)+(List.length body+(Int.natAbs (0:Int)+2))) (by rw[hb];decide) with h | ⟨c,h1,h2⟩
 ·rw[h,aF]
  exact⟨[],3,rfl,fun _=>rfl,fun h=>by cases h⟩
 ·rw[h2,fR]
  exact⟨_,0,rfl,fun h=>absurd rfl h,fun _=>⟨c,rfl,h1⟩⟩
theorem TE (k:Nat) (hk:k≤17):∀ n,k<n→iter (X:=oI) (β:=s6) n (1,(k:Int),0,()) s5=some (Sum.inr ((10:Int) ^ k,())):=by
 intro n hn
 refine bJ (Inv:=fun i X=>X=(((10:Int) ^ i,(k:Int),(i:Int),()):oI)) k (fun r=>r=some (Sum.inr ((10:Int) ^ k,()))) ?_ ?_ n 0 _ rfl (Y5 _) (by omega)
 ·rintro i X again hi rfl hag
  unfold s5
  dsimp only
  have h1:(10:Int) ^ (i+1)≤10 ^ 17:=by
   have:=Y2 (n:=10) (by omega) (show i+1≤17 by omega)
   have h2:=W9.2 this
   simpa using h2
  have h0:(0:Int)<10 ^ (i+1):=Int.pow_pos (by decide)
  rw[az (by omega),show (10:Int) ^ i*10=10 ^ (i+1) from (Xb _ _).symm,aj (by omega) (by omega),aj (n:=(i:Int)+1) (by omega) (by omega)]
  exact hag _ rfl
 ·rintro X again rfl
  unfold s5
  dsimp only
  rw[aA (by omega)]
def Ks (p:List UInt8):Bool:=decide (p.length≤15)&&(decide (p≠[])&&p.all xA)
theorem Vf (p:List UInt8):yc p=some (if Ks p=true then ((10:Int) ^ (17 - p.length),true,()) else (0,false,())):=by
 unfold yc Ks
 by_cases h1:15<p.length
 ·rw[az (by omega),Zm (show ¬p.length≤15 by omega),Bool.false_and,Zv (by decide)]
 rw[aA (by omega),Zo (show p.length≤15 by omega),WY,BB p (by omega),Y7]
 dsimp only
 cases hd:(decide (p≠[])&&p.all xA) with
 | false=>rw[WT,Zk,Zv (by decide)]
 | true=>
  have e:w64 (17 - (p.length:Int))=((17 - p.length:Nat):Int):=by rw[aj (by omega) (by omega)];omega
  rw[WU,Zj,Zw rfl,e,TE _ (by omega) _ (by rw[W8];omega),aF]
def Ls (p:List UInt8) (n:Nat):List UInt8:=(p++Lib.repeatL [48] (17 - p.length - (Lib.decDigits n).length))++Lib.decDigits n
theorem Ub (p:List UInt8) (n:Nat):Av ((Ls p n).drop p.length)=Av (Lib.decDigits n):=by
 unfold Ls
 rw[Xm,Xt,JJ]
structure I7 (p:List UInt8) (n:Int) (s:List UInt8):Prop where
 n0:0≤n
 pl:p.length≤15
 ok:lbl s=true
 form:∃ c,s=Ls p n.toNat++[c]
 val:Av ((Ls p n.toNat).drop p.length)=n.toNat
theorem Nd (p:List UInt8) (n:Int):∃ s e,oG p n=some (s,e,())∧(e≠0→s=[])∧(e=0→I7 p n s):=by
 have BZ:maxLen=9223372036854775807:=rfl
 unfold oG
 rw[Vf,Y7]
 cases hp:Ks p with
 | false=>
  rw[Zv (by decide)]
  exact⟨[],3,rfl,fun _=>rfl,fun h=>by cases h⟩
 | true=>
 rw[Zw rfl]
 dsimp only
 rw[WU,Zj]
 have hpl:p.length≤15:=by
  unfold Ks at hp
  simp only[WJ,Zp] at hp
  exact hp.1
 have hne:0<p.length:=by
  unfold Ks at hp
  simp only[WJ,Zp] at hp
  exact List.length_pos_iff.2 hp.2.1
 have h1:(10:Int) ^ (17 - p.length)≤10 ^ 17:=by
  have:=Y2 (n:=10) (by omega) (show 17 - p.length≤17 by omega)
  have h2:=W9.2 this
  simpa using h2
 have h0:(0:Int)<10 ^ (17 - p.length):=Int.pow_pos (by decide)
 rw[aj (n:=(10:Int) ^ (17 - p.length) - 1) (by omega) (by omega),jK,Y7]
 dsimp only
 by_cases hn:n<0∨(10:Int) ^ (17 - p.length) - 1<n
 ·rw[Zo hn,Zk]
  exact⟨[],1,rfl,fun _=>rfl,fun h=>by cases h⟩
 rw[Zm hn,Zj]
 obtain⟨m,rfl⟩:∃ m:Nat,n=m:=⟨n.toNat,by omega⟩
 have hm:m<10 ^ (16 - p.length+1):=by
  rw[show 16 - p.length+1=17 - p.length by omega]
  have h3:(m:Int)<((10 ^ (17 - p.length):Nat):Int):=by
   rw[Int.natCast_pow]
   show (m:Int)<10 ^ (17 - p.length)
   omega
  omega
 obtain⟨g1,g2,g3⟩:=Mh _ _ hm
 have hml:m≤9223372036854775807:=by
  have h4:(m:Int)<10 ^ 17:=by omega
  omega
 rw[QI hml,Y7]
 dsimp only
 have er:w64 (w64 (17 - (p.length:Int)) - ((Lib.decDigits m).length:Int))=((17 - p.length - (Lib.decDigits m).length:Nat):Int):=by
  rw[aj (n:=17 - (p.length:Int)) (by omega) (by omega),aj (by omega) (by omega)];omega
 have hrl:(Lib.repeatL [48] (17 - p.length - (Lib.decDigits m).length)).length=17 - p.length - (Lib.decDigits m).length:=by rw[Lib.repeatL_length,X4,Nat.mul_one]
 rw[er,TD _ (by omega),Y7]
 dsimp only
 have hll:((p++Lib.repeatL [48] (17 - p.length - (Lib.decDigits m).length))++Lib.decDigits m).length=17:=by
  rw[XX,XX,hrl];omega
 rw[aH (Zo (by rw[hrl];omega)),aH (Zo (by rw[XX,hrl];omega))]
 obtain⟨s,e,q1,q2,q3⟩:=Jn _ hll
 rw[q1,Y7]
 refine⟨s,e,rfl,q2,fun he=> ?_⟩
 obtain⟨c,rfl,hc⟩:=q3 he
 refine⟨by omega,hpl,hc,⟨c,by rw[Xg];rfl⟩, ?_⟩
 rw[Xg,Ub,g1]
theorem Tb {p:List UInt8} {m n:Int} {s:List UInt8} (h1:I7 p m s) (h2:I7 p n s):m=n:=by
 obtain⟨c,e1⟩:=h1.form
 obtain⟨d,e2⟩:=h2.form
 have e3:=e1.symm.trans e2
 have e4:Ls p m.toNat=Ls p n.toNat:=(List.append_inj' e3 rfl).1
 have v1:=h1.val;have v2:=h2.val
 rw[e4,v2] at v1
 have:=h1.n0;have:=h2.n0
 omega
theorem QN {s:List UInt8} (h:lbl s=true):s.length=18:=by
 unfold lbl at h
 simp only[WJ,Zp] at h
 exact h.1
end Go.Md
set_option linter.all false
namespace Go.Md.SQP
open Go.Dn Go.Md
section
variable {k:ah→Int} {ok:ah→Prop}
def uz (k:ah→Int) (ok:ah→Prop):Prop:=∀ a b,ok a→ok b→∃ c,jf a b=some (c,())∧(c<0↔k a<k b)
theorem SZ (hc:uz k ok) (a:Nat) (bI:Int) (iI:Int) (X:List ah) (hX:X.length=a):∀ (n:Nat) (P1:List ah) (x:ah) (B:List ah),P1.length<n→(X++P1++x::B).length<1000000000→ok x→(∀ y∈P1,ok y)→
 ∃ P2 P3,P1=P2++P3∧(∀ y∈P3,k x<k y)∧(∀ y,P2.getLast? =some y→k y≤k x)∧
 iter (X:=cC) (β:=cA) n ((a:Int),bI,(),iI,((a+P1.length:Nat):Int),X++P1++x::B,()) cw=some (Sum.inr ((a:Int),bI,(),iI,X++P2++x::(P3++B),())):=by
 intro n
 induction n with
 | zero=>intro P1 x B h;omega
 | succ n ih=>
  intro P1 x B hn hlen hx hP
  rw[bF]
  generalize hag:(fun y=>iter n y cw)=again
  unfold cw
  dsimp only
  rcases List.eq_nil_or_concat P1 with rfl | ⟨P,y,rfl⟩
  ·rw[aA (by simp)]
   exact⟨[],[],rfl,by simp,by simp,by simp⟩
  ·rw[List.concat_eq_append] at*
   simp only[XX,XY,X0] at hlen hn ⊢
   have e1:w64 (((a+(P.length+1):Nat):Int) - 1)=(((X++P).length:Nat):Int):=by rw[aj (by omega) (by omega)];simp[hX];omega
   have e2:(((a+(P.length+1):Nat):Int))=(((X++P).length+1:Nat):Int):=by simp[hX];omega
   have el:X++(P++[y])++x::B=(X++P)++y::x::B:=by simp
   obtain⟨c,hcc,hlt⟩:=hc x y hx (hP y (by simp))
   rw[az (by omega),e1,e2,el]
   simp only[Xg,get_at,Gu,Y7,hcc]
   rw[aH (by simp only[WJ,Zp,XX,XY,X3,X0];omega),aH (by simp only[WJ,Zp,XX,XY,X3,X0];omega)]
   by_cases hk:k x<k y
   ·rw[az (hlt.2 hk),aH (by simp only[WJ,Zp,XX,XY,X3,X0];omega),aH (by simp only[WJ,Zp,XX,XY,X3,X0];omega),aH (by simp only[WJ,Zp,XX,XY,X3,X0];omega),
     aH (by simp only[WJ,Zp,XX,XY,X3,X0];omega)]
    have hg:(((X++P)++y::x::B).set ((X++P).length+1) y)[(X++P).length]? =some y:=by rw[XR (by omega),get_at]
    rw[hg,Y7,Pd, ← hag]
    obtain⟨P2,P3,h1,h2,h3,h4⟩:=ih P x (y::B) (by omega) (by simp;omega) hx (fun z hz=>hP z (by simp[hz]))
    refine⟨P2,P3++[y],by rw[h1];simp, ?_,h3, ?_⟩
    ·intro z hz
     rcases Yb.1 hz with hz | hz
     ·exact h2 z hz
     ·rw[Ym.1 hz];exact hk
    ·have e3:(((X++P).length:Nat):Int)=((a+P.length:Nat):Int):=by simp[hX]
     rw[e3]
     show iter n _ _=_
     rw[h4];simp
   ·rw[aA (fun h=>hk (hlt.1 h))]
    refine⟨P++[y],[],by simp,by simp,fun z hz=> ?_,by simp⟩
    simp at hz
    subst hz;omega
theorem FD (hc:uz k ok) (X S Y:List ah) (hlen:(X++S++Y).length<1000000000) (hok:∀ y∈S,ok y):
 ∃ S',bZ (X++S++Y) (X.length:Int) ((X.length+S.length:Nat):Int) ()=some (X++S'++Y,())∧Srt k S'∧bD k S S':=by
 simp only[XX] at hlen
 have loop:∀ (n:Nat) (Q P:List ah) (l:List ah),Q.length<n→l=X++P++Q++Y→P.length+Q.length=S.length→Srt k P→(∀ y∈P,ok y)→(∀ y∈Q,ok y)→
  ∃ S',iter (X:=cB) (β:=cz) n ((X.length:Int),((X.length+S.length:Nat):Int),(),((X.length+P.length:Nat):Int),l,()) bR=some (Sum.inr (X++S'++Y,()))∧Srt k S'∧bD k (P++Q) S':=by
  intro n
  induction n with
  | zero=>intro Q P l h;omega
  | succ n ih=>
   intro Q P l hn hl hPQ hs hokP hokQ
   rw[bF]
   generalize hag:(fun y=>iter n y bR)=again
   unfold bR
   dsimp only
   cases Q with
   | nil=>
    rw[aA (by simp at hPQ;omega)]
    exact⟨P,by rw[hl];simp,hs,by simpa using bD.refl k P⟩
   | cons x Q=>
    simp only[XY] at hn hPQ
    rw[az (by omega)]
    have hl':l=X++P++x::(Q++Y):=by rw[hl];simp
    obtain⟨P2,P3,h1,h2,h3,h4⟩:=SZ hc X.length ((X.length+S.length:Nat):Int) ((X.length+P.length:Nat):Int) X rfl
     (Int.natAbs (X.length:Int)+(Int.natAbs ((X.length+S.length:Nat):Int)+(Int.natAbs ((X.length+P.length:Nat):Int)+(Int.natAbs ((X.length+P.length:Nat):Int)+(List.length l+2))))) P x (Q++Y) (by omega) (by simp;omega) (hokQ x (by simp)) hokP
    rw[← hl'] at h4
    rw[h4,aF]
    dsimp only
    have e1:w64 (((X.length+P.length:Nat):Int)+1)=((X.length+(P2++x::P3).length:Nat):Int):=by
     rw[aj (by omega) (by omega),h1];simp;omega
    rw[e1, ← hag]
    rw[h1] at hs hokP
    obtain⟨hs',hsam⟩:=Ov hs h2 h3
    obtain⟨S',g1,g2,g3⟩:=ih Q (P2++x::P3) (X++P2++x::(P3++(Q++Y))) (by omega) (by simp) (by rw[h1] at hPQ;simp at hPQ ⊢;omega) hs' (fun y hy=>by
     rcases hsam.mem.1 hy |> Yb.1 with h | h
     ·exact hokP y h
     ·rw[Ym.1 h];exact hokQ x (by simp)) (fun y hy=>hokQ y (by simp[hy]))
    refine⟨S',g1,g2, ?_⟩
    have:bD k (P++x::Q) (P2++x::P3++Q):=by
     rw[h1]
     have:=hsam.append (bD.refl k Q)
     simpa using this
    exact this.trans g3
 unfold bZ
 cases S with
 | nil=>
  have e1:w64 ((X.length:Int)+1)=((X.length+1:Nat):Int):=by rw[aj (by omega) (by omega)];omega
  rw[e1]
  obtain⟨n,hn⟩:∃ n,(Int.natAbs (X.length:Int)+(Int.natAbs ((X.length+([]:List ah).length:Nat):Int)+(Int.natAbs ((X.length+1:Nat):Int)+(List.length (X++[]++Y)+2))))=n+1:=⟨_,rfl⟩
  rw[hn,bF]
  unfold bR
  dsimp only
  rw[aA (by simp;omega)]
  exact⟨[],rfl,List.Pairwise.nil,bD.refl _ _⟩
 | cons x S=>
  have e1:w64 ((X.length:Int)+1)=((X.length+[x].length:Nat):Int):=by rw[aj (by omega) (by omega)];simp
  rw[e1]
  obtain⟨S',g1,g2,g3⟩:=loop (Int.natAbs (X.length:Int)+(Int.natAbs ((X.length+(x::S).length:Nat):Int)+(Int.natAbs ((X.length+[x].length:Nat):Int)+(List.length (X++(x::S)++Y)+2)))) S [x] (X++(x::S)++Y) (by simp;omega) (by simp) (by simp;omega) (List.pairwise_singleton _ _) (fun y hy=>hok y (by simp at hy;simp[hy])) (fun y hy=>hok y (by simp[hy]))
  rw[g1,aF]
  exact⟨S',rfl,g2,by simpa using g3⟩
theorem A6 (X M Y:List ah):∀ (P Q:List ah),P.length=Q.length→(X++P++M++Q++Y).length<1000000000→
 bT (X++P++M++Q++Y) (X.length:Int) ((X.length+P.length+M.length:Nat):Int) (P.length:Int) ()=some (X++Q++M++P++Y,()):=by
 intro P Q hPQ hlen
 simp only[XX] at hlen
 have loop:∀ (n:Nat) (P1 P2 Q1 Q2:List ah) (l:List ah),P2.length<n→P1.length+P2.length=P.length→P1.length=Q1.length→P2.length=Q2.length→l=X++P1++P2++M++Q1++Q2++Y→
  iter (X:=cV) (β:=cU) n ((X.length:Int),((X.length+P.length+M.length:Nat):Int),(P.length:Int),(P1.length:Int),l,()) cT=some (Sum.inr (X++P1++Q2++M++Q1++P2++Y,())):=by
  intro n
  induction n with
  | zero=>intro P1 P2 Q1 Q2 l h;omega
  | succ n ih=>
   intro P1 P2 Q1 Q2 l hn h1 h2 h3 hl
   rw[bF]
   generalize hag:(fun y=>iter n y cT)=again
   unfold cT
   dsimp only
   cases P2 with
   | nil=>
    have:Q2=[]:=Xx (by simpa using h3.symm)
    subst this
    rw[aA (by simp at h1;omega),hl]
   | cons p P2=>
    cases Q2 with
    | nil=>simp at h3
    | cons q Q2=>
     simp only[XY] at hn h1 h3
     have ll:l.length=X.length+P.length+M.length+Q.length+Y.length:=by rw[hl];simp;omega
     have e1:w64 (((X.length+P.length+M.length:Nat):Int)+(P1.length:Int))=(((X++P1++p::P2++M++Q1).length:Nat):Int):=by rw[aj (by omega) (by omega)];simp;omega
     have e2:w64 ((X.length:Int)+(P1.length:Int))=(((X++P1).length:Nat):Int):=by rw[aj (by omega) (by omega)];simp
     have l1:l=(X++P1++p::P2++M++Q1)++q::(Q2++Y):=by rw[hl];simp
     have l2:l=(X++P1)++p::(P2++M++Q1++q::(Q2++Y)):=by rw[hl];simp
     have g1:l[(X++P1++p::P2++M++Q1).length]? =some q:=by rw[l1];exact get_at _ _ _
     have g2:l[(X++P1).length]? =some p:=by rw[l2];exact get_at _ _ _
     have g3:l.set (X++P1).length q=(X++P1++q::P2++M++Q1)++q::(Q2++Y):=by
      rw[l2,Q9];simp
     have hlq:(X++P1++p::P2++M++Q1).length=(X++P1++q::P2++M++Q1).length:=by simp
     have g4:(l.set (X++P1).length q)[(X++P1++p::P2++M++Q1).length]? =some q:=by rw[g3,hlq];exact get_at _ _ _
     have g5:(l.set (X++P1).length q).set (X++P1++p::P2++M++Q1).length p=X++(P1++[q])++P2++M++(Q1++[p])++Q2++Y:=by rw[g3,hlq,Q9];simp
     rw[az (by omega),e1,e2]
     simp only[Xg,g1,g2,g4,g5,Y7,X3,ll]
     have lq:(X++P1++p::P2++M++Q1).length<X.length+P.length+M.length+Q.length+Y.length:=by simp;omega
     have lp:(X++P1).length<X.length+P.length+M.length+Q.length+Y.length:=by simp;omega
     rw[aH (by simp only[WJ,Zp];omega),aH (by simp only[WJ,Zp];omega),aH (by simp only[WJ,Zp];omega),aH (by simp only[WJ,Zp];omega)]
     have e3:w64 ((P1.length:Int)+1)=(((P1++[q]).length:Nat):Int):=by rw[aj (by omega) (by omega)];simp
     rw[e3, ← hag]
     show iter n _ _=_
     rw[ih (P1++[q]) P2 (Q1++[p]) Q2 _ (by omega) (by simp;omega) (by simp;omega) (by omega) rfl]
     simp
 unfold bT
 rw[show (0:Int)=((([]:List ah).length:Nat):Int) from rfl,loop _ [] P [] Q (X++P++M++Q++Y) (by simp;omega) (by simp) rfl hPQ (by simp),aF]
 simp
theorem Qm (m:Nat):∀ (n:Nat) (X U V Y:List ah),U.length+V.length<n→0<U.length→0<V.length→X.length+U.length=m→(X++U++V++Y).length<1000000000→
 ∃ (X' U' V' Y':List ah),iter (X:=dZ) (β:=dY) n ((m:Int),(),(U.length:Int),(V.length:Int),X++U++V++Y,()) dX=some (Sum.inr ((m:Int),(),(U'.length:Int),X'++U'++V'++Y',()))∧U'.length=V'.length∧X'.length+U'.length=m∧X'++V'++U'++Y'=X++V++U++Y∧(X'++U'++V'++Y').length<1000000000:=by
 intro n
 induction n with
 | zero=>intro X U V Y h;omega
 | succ n ih=>
  intro X U V Y hn hU hV hm hlen
  rw[bF]
  generalize hag:(fun y=>iter n y dX)=again
  unfold dX
  dsimp only
  by_cases he:U.length=V.length
  ·have hb:((U.length:Int) != (V.length:Int))=false:=by simp[he]
   rw[hb,Zj]
   exact⟨X,U,V,Y,rfl,he,hm,rfl,hlen⟩
  ·have hb:((U.length:Int) != (V.length:Int))=true:=by simp;omega
   rw[hb,Zk]
   simp only[XX] at hlen
   have e1:w64 ((m:Int) - (U.length:Int))=(X.length:Int):=by rw[aj (by omega) (by omega)];omega
   rw[e1]
   by_cases hgt:V.length<U.length
   ·rw[az (by omega)]
    obtain⟨U1,U2,rfl,hU1⟩:=nS (l:=U) (n:=V.length) (by omega)
    simp only[XX] at*
    have hsw:=A6 X U2 Y U1 V hU1 (by simp;omega)
    rw[show ((X.length+U1.length+U2.length:Nat):Int)=(m:Int) by omega,hU1] at hsw
    rw[show X++(U1++U2)++V++Y=X++U1++U2++V++Y by simp,hsw,Y7]
    have e2:w64 (((U1.length+U2.length:Nat):Int) - (V.length:Int))=(U2.length:Int):=by rw[aj (by omega) (by omega)];omega
    rw[e2, ← hag]
    obtain⟨X',U',V',Y',h1,h2,h3,h4,h5⟩:=ih (X++V) U2 U1 Y (by omega) (by omega) (by omega) (by simp;omega) (by simp;omega)
    refine⟨X',U',V',Y', ?_,h2,h3,by rw[h4];simp,h5⟩
    rw[← hU1]
    exact h1
   ·rw[aA (by omega)]
    obtain⟨V1,V2,rfl,hV1⟩:=nS (l:=V) (n:=V.length - U.length) (by omega)
    simp only[XX] at*
    have e3:w64 (w64 ((m:Int)+((V1.length+V2.length:Nat):Int)) - (U.length:Int))=((X.length+U.length+V1.length:Nat):Int):=by
     rw[aj (n:=(m:Int)+((V1.length+V2.length:Nat):Int)) (by omega) (by omega),aj (by omega) (by omega)];omega
    have hsw:=A6 X V1 Y U V2 (by omega) (by simp;omega)
    rw[e3,show X++U++(V1++V2)++Y=X++U++V1++V2++Y by simp,hsw,Y7]
    have e2:w64 (((V1.length+V2.length:Nat):Int) - (U.length:Int))=(V1.length:Int):=by rw[aj (by omega) (by omega)];omega
    rw[e2, ← hag]
    obtain⟨X',U',V',Y',h1,h2,h3,h4,h5⟩:=ih X V2 V1 (U++Y) (by omega) (by omega) (by omega) (by omega) (by simp;omega)
    refine⟨X',U',V',Y', ?_,h2,h3,by rw[h4];simp,h5⟩
    rw[show ((U.length:Nat):Int)=(V2.length:Int) by omega,show X++V2++V1++U++Y=X++V2++V1++(U++Y) by simp]
    exact h1
theorem TF (X U V Y:List ah) (hU:0<U.length) (hV:0<V.length) (hlen:(X++U++V++Y).length<1000000000):
 fA (X++U++V++Y) (X.length:Int) ((X.length+U.length:Nat):Int) ((X.length+U.length+V.length:Nat):Int) ()=some (X++V++U++Y,()):=by
 unfold fA
 simp only[XX] at hlen
 have e1:w64 (((X.length+U.length:Nat):Int) - (X.length:Int))=(U.length:Int):=by rw[aj (by omega) (by omega)];omega
 have e2:w64 (((X.length+U.length+V.length:Nat):Int) - ((X.length+U.length:Nat):Int))=(V.length:Int):=by rw[aj (by omega) (by omega)];omega
 rw[e1,e2]
 obtain⟨X',U',V',Y',h1,h2,h3,h4,h5⟩:=Qm (X.length+U.length) (Int.natAbs ((X.length+U.length:Nat):Int)+(Int.natAbs (U.length:Int)+(Int.natAbs (V.length:Int)+(List.length (X++U++V++Y)+2)))) X U V Y (by omega) hU hV rfl (by simp;omega)
 rw[h1,aF]
 dsimp only
 simp only[XX] at h5
 have e3:w64 (((X.length+U.length:Nat):Int) - (U'.length:Int))=(X'.length:Int):=by rw[aj (by omega) (by omega)];omega
 have hsw:=A6 X' [] Y' U' V' h2 (by simp;omega)
 simp only[Xn,X0,YF] at hsw
 rw[e3,show ((X.length+U.length:Nat):Int)=((X'.length+U'.length:Nat):Int) by omega,hsw,Y7,h4]
theorem U7 (i:Nat):∀ (n:Nat) (A V Y:List ah) (x:ah),V.length<n→A.length+1+V.length=i→(A++x::V++Y).length<1000000000→
 iter (X:=dF) (β:=dB) n ((i:Int),(A.length:Int),A++x::V++Y,()) dz=some (Sum.inr (A++V++x::Y,())):=by
 intro n
 induction n with
 | zero=>intro A V Y x h;omega
 | succ n ih=>
  intro A V Y x hn hi hlen
  rw[bF]
  generalize hag:(fun y=>iter n y dz)=again
  unfold dz
  dsimp only
  simp only[XX,XY] at hlen
  have e0:w64 ((i:Int) - 1)=(i:Int) - 1:=aj (by omega) (by omega)
  rw[e0]
  cases V with
  | nil=>rw[aA (by simp at hi;omega)];simp
  | cons v V=>
   simp only[XY] at hn hi hlen
   have e1:w64 ((A.length:Int)+1)=((A.length+1:Nat):Int):=by rw[aj (by omega) (by omega)];omega
   have el:A++x::(v::V)++Y=A++x::v::(V++Y):=by simp
   have hg:((A++x::v::(V++Y)).set A.length v)[A.length+1]? =some v:=by rw[XR (by omega),Gu]
   rw[az (by omega),e1,el]
   simp only[Xg,get_at,Gu,Y7,hg,TO,X3]
   rw[aH (by simp only[WJ,Zp,XX,XY];omega),aH (by simp only[WJ,Zp,XX,XY];omega),aH (by simp only[WJ,Zp,XX,XY];omega),aH (by simp only[WJ,Zp,XX,XY];omega), ← hag]
   have:=ih (A++[v]) V Y x (by omega) (by simp;omega) (by simp;omega)
   simp only[XX,XY,X0,Y4] at this
   show iter n _ _=_
   rw[show A++v::x::(V++Y)=A++[v]++x::V++Y by simp,this]
   simp
theorem Tk (A:List ah):∀ (n:Nat) (U Y:List ah) (y:ah),U.length<n→(A++U++y::Y).length<1000000000→
 iter (X:=dh) (β:=c9) n ((A.length:Int),((A.length+U.length:Nat):Int),A++U++y::Y,()) cZ=some (Sum.inr (A++y::U++Y,())):=by
 intro n
 induction n with
 | zero=>intro U Y y h;omega
 | succ n ih=>
  intro U Y y hn hlen
  rw[bF]
  generalize hag:(fun y=>iter n y cZ)=again
  unfold cZ
  dsimp only
  simp only[XX,XY] at hlen
  rcases List.eq_nil_or_concat U with rfl | ⟨V,u,rfl⟩
  ·rw[aA (by simp)];simp
  ·rw[List.concat_eq_append] at*
   simp only[XX,XY,X0] at hn hlen ⊢
   have e1:w64 (((A.length+(V.length+(0+1)):Nat):Int) - 1)=(((A++V).length:Nat):Int):=by rw[aj (by omega) (by omega)];simp;omega
   have e2:((A.length+(V.length+(0+1)):Nat):Int)=(((A++V).length+1:Nat):Int):=by simp;omega
   have el:A++(V++[u])++y::Y=(A++V)++u::y::Y:=by simp
   have hg:(((A++V)++u::y::Y).set ((A++V).length+1) u)[(A++V).length]? =some u:=by rw[XR (by omega),get_at]
   rw[az (by omega),e1,e2,el]
   simp only[Xg,get_at,Gu,Y7,hg,Pd,X3]
   rw[aH (by simp only[WJ,Zp,XX,XY];omega),aH (by simp only[WJ,Zp,XX,XY];omega),aH (by simp only[WJ,Zp,XX,XY];omega),aH (by simp only[WJ,Zp,XX,XY];omega), ← hag]
   have:=ih V (u::Y) y (by omega) (by simp;omega)
   show iter n _ _=_
   rw[show (((A++V).length:Nat):Int)=((A.length+V.length:Nat):Int) by simp,this]
   simp
theorem Lv (hc:uz k ok) (X R Y:List ah) (x:ah) (hlen:(X++[x]++R++Y).length<1000000000) (hR:Srt k R) (hx:ok x) (hok:∀ y∈R,ok y) (n:Nat) (hn:R.length<n):
 ∃ R1 R2,R=R1++R2∧(∀ y∈R1,k y<k x)∧(∀ y∈R2,k x≤k y)∧iter (X:=dD) (β:=dA) n ((X.length:Int),(),((X.length+1:Nat):Int),((X.length+1+R.length:Nat):Int),X++[x]++R++Y,()) cg=some (Sum.inr ((X.length:Int),((X.length+1+R1.length:Nat):Int),X++[x]++R++Y,())):=by
 simp only[XX,XY,X0] at hlen
 have hx0:(X++[x]++R++Y)[X.length]? =some x:=by simp
 have hRt:∀ i (h:i<R.length),(X++[x]++R++Y)[X.length+1+i]? =some R[i]:=fun i h=>Ry X [x] R Y h
 obtain⟨r,h1,h2,h3,h4,h5⟩:=bsearch (f:=cg) (fun i j=>((X.length:Int),(),(i:Int),(j:Int),X++[x]++R++Y,())) (fun i=>some (Sum.inr ((X.length:Int),(i:Int),X++[x]++R++Y,())))
  (fun t=>k ((R[t - (X.length+1)]?).getD (0,(false,[])))<k x) (X.length+1) (X.length+1+R.length) (by
    intro i j again hi hij hj
    unfold cg
    dsimp only
    have hh:(i+j) / 2 - (X.length+1)<R.length:=by omega
    have hg:=hRt _ hh
    rw[show X.length+1+((i+j) / 2 - (X.length+1))=(i+j) / 2 by omega] at hg
    rw[az (by omega),Gv i j (by omega)]
    simp only[Xg,hg,hx0,Y7]
    obtain⟨c,hcc,hlt⟩:=hc R[(i+j) / 2 - (X.length+1)] x (hok _ (XW _)) hx
    rw[hcc,aH (by simp only[WJ,Zp,XX,XY];omega),aH (by simp only[WJ,Zp,XX,XY];omega),Y7,XL hh]
    dsimp only[Option.getD]
    by_cases hk:k R[(i+j) / 2 - (X.length+1)]<k x
    ·rw[az (hlt.2 hk),Zw hk,aj (by omega) (by omega)];rfl
    ·rw[aA (fun h=>hk (hlt.1 h)),Zv hk])
  (by
    intro i again _ _
    unfold cg
    dsimp only
    rw[aA (by omega)])
  (by
    intro s t hs hst ht hP
    rw[XL (by omega)] at hP ⊢
    have:=hR.get (i:=s - (X.length+1)) (j:=t - (X.length+1)) (by omega) (by omega)
    simp only[Y8] at hP ⊢
    omega)
  n (X.length+1) (X.length+1+R.length) (by omega) (YM _) (by omega) (YM _) (fun t h1 h2=>by omega) (fun t h1 h2=>by omega)
 obtain⟨R1,R2,rfl,hR1⟩:=nS (l:=R) (n:=r - (X.length+1)) (by omega)
 refine⟨R1,R2,rfl, ?_, ?_, ?_⟩
 ·intro y hy
  obtain⟨i,hi,rfl⟩:=Yg.1 hy
  have:=h4 (X.length+1+i) (by omega) (by omega)
  rw[show X.length+1+i - (X.length+1)=i by omega,XG hi,XL hi] at this
  exact this
 ·intro y hy
  obtain⟨i,hi,rfl⟩:=Yg.1 hy
  have:=h5 (X.length+1+(R1.length+i)) (by omega) (by simp;omega)
  rw[show X.length+1+(R1.length+i) - (X.length+1)=R1.length+i by omega,XH (by omega),show R1.length+i - R1.length=i by omega,XL hi] at this
  simp only[Y8] at this
  omega
 ·rw[h1,show X.length+1+R1.length=r by omega]
theorem J8 (hc:uz k ok) (X L Y:List ah) (y:ah) (hlen:(X++L++[y]++Y).length<1000000000) (hL:Srt k L) (hy:ok y) (hok:∀ z∈L,ok z) (n:Nat) (hn:L.length<n):
 ∃ L1 L2,L=L1++L2∧(∀ z∈L1,k z≤k y)∧(∀ z∈L2,k y<k z)∧iter (X:=de) (β:=c8) n (((X.length+L.length:Nat):Int),(),(X.length:Int),((X.length+L.length:Nat):Int),X++L++[y]++Y,()) b5=some (Sum.inr (((X.length+L.length:Nat):Int),((X.length+L1.length:Nat):Int),X++L++[y]++Y,())):=by
 simp only[XX,XY,X0] at hlen
 have hy0:(X++L++[y]++Y)[X.length+L.length]? =some y:=by
  have:=Ry X L [y] Y (i:=0) (by simp)
  simpa using this
 have hLt:∀ i (h:i<L.length),(X++L++[y]++Y)[X.length+i]? =some L[i]:=fun i h=>UI X L [y] Y h
 obtain⟨r,h1,h2,h3,h4,h5⟩:=bsearch (f:=b5) (fun i j=>(((X.length+L.length:Nat):Int),(),(i:Int),(j:Int),X++L++[y]++Y,())) (fun i=>some (Sum.inr (((X.length+L.length:Nat):Int),(i:Int),X++L++[y]++Y,())))
  (fun t=>¬ k y<k ((L[t - X.length]?).getD (0,(false,[])))) X.length (X.length+L.length) (by
    intro i j again hi hij hj
    unfold b5
    dsimp only
    have hh:(i+j) / 2 - X.length<L.length:=by omega
    have hg:=hLt _ hh
    rw[show X.length+((i+j) / 2 - X.length)=(i+j) / 2 by omega] at hg
    rw[az (by omega),Gv i j (by omega)]
    simp only[Xg,hg,hy0,Y7]
    obtain⟨c,hcc,hlt⟩:=hc y L[(i+j) / 2 - X.length] hy (hok _ (XW _))
    rw[hcc,aH (by simp only[WJ,Zp,XX,XY];omega),aH (by simp only[WJ,Zp,XX,XY];omega),Y7,XL hh]
    dsimp only[Option.getD]
    by_cases hk:k y<k L[(i+j) / 2 - X.length]
    ·rw[Zo (hlt.2 hk),WU,Zj,Zv (fun h=>h hk)]
    ·rw[Zm (fun h=>hk (hlt.1 h)),WT,Zk,Zw hk,aj (by omega) (by omega)];rfl)
  (by
    intro i again _ _
    unfold b5
    dsimp only
    rw[aA (by omega)])
  (by
    intro s t hs hst ht hP
    rw[XL (by omega)] at hP ⊢
    have:=hL.get (i:=s - X.length) (j:=t - X.length) (by omega) (by omega)
    simp only[Y8] at hP ⊢
    omega)
  n X.length (X.length+L.length) (by omega) (YM _) (by omega) (YM _) (fun t h1 h2=>by omega) (fun t h1 h2=>by omega)
 obtain⟨L1,L2,rfl,hL1⟩:=nS (l:=L) (n:=r - X.length) (by omega)
 refine⟨L1,L2,rfl, ?_, ?_, ?_⟩
 ·intro z hz
  obtain⟨i,hi,rfl⟩:=Yg.1 hz
  have:=h4 (X.length+i) (by omega) (by omega)
  rw[show X.length+i - X.length=i by omega,XG hi,XL hi] at this
  simp only[Y8] at this
  omega
 ·intro z hz
  obtain⟨i,hi,rfl⟩:=Yg.1 hz
  have:=h5 (X.length+(L1.length+i)) (by omega) (by simp;omega)
  rw[show X.length+(L1.length+i) - X.length=L1.length+i by omega,XH (by omega),show L1.length+i - L1.length=i by omega,XL hi] at this
  simp only[Y8] at this
  omega
 ·rw[h1,show X.length+L1.length=r by omega]
theorem OF (hc:uz k ok) (X L R Y:List ah) (hlen:(X++L++R++Y).length<1000000000) (hL:Srt k L) (hR:Srt k R) (hokL:∀ z∈L,ok z) (hokR:∀ z∈R,ok z) (mid lo hi:Nat) (hmid:mid=(X.length+(X.length+L.length+R.length)) / 2)
 (hcase:(mid<X.length+L.length∧lo+R.length=mid∧hi=mid∧X.length≤lo)∨(X.length+L.length≤mid∧lo=X.length∧hi=X.length+L.length)) (n:Nat) (hn:hi<n):
 ∃ s:Nat,iter (X:=di) (β:=dc) n ((X.length:Int),((X.length+L.length:Nat):Int),((X.length+L.length+R.length:Nat):Int),(),(mid:Int),((mid+(X.length+L.length):Nat):Int),(lo:Int),(hi:Int),((mid+(X.length+L.length):Nat):Int) - 1,X++L++R++Y,()) b6=some (Sum.inr ((X.length:Int),((X.length+L.length:Nat):Int),((X.length+L.length+R.length:Nat):Int),(),(mid:Int),((mid+(X.length+L.length):Nat):Int),(s:Int),X++L++R++Y,()))∧
  lo≤s∧s≤hi∧(∀ i j (_:i<L.length) (_:j<R.length),X.length+i+1=s→j+s=mid→k L[i]≤k R[j])∧(∀ i j (_:i<L.length) (_:j<R.length),X.length+i=s→j+1+s=mid→k R[j]<k L[i]):=by
 simp only[XX] at hlen
 have hLt:∀ i (h:i<L.length),(X++L++R++Y)[X.length+i]? =some L[i]:=fun i h=>UI X L R Y h
 have hRt:∀ i (h:i<R.length),(X++L++R++Y)[X.length+L.length+i]? =some R[i]:=fun i h=>Ry X L R Y h
 obtain⟨r,h1,h2,h3,h4,h5⟩:=bsearch (f:=b6) (fun i j=>((X.length:Int),((X.length+L.length:Nat):Int),((X.length+L.length+R.length:Nat):Int),(),(mid:Int),((mid+(X.length+L.length):Nat):Int),(i:Int),(j:Int),((mid+(X.length+L.length):Nat):Int) - 1,X++L++R++Y,()))
  (fun s=>some (Sum.inr ((X.length:Int),((X.length+L.length:Nat):Int),((X.length+L.length+R.length:Nat):Int),(),(mid:Int),((mid+(X.length+L.length):Nat):Int),(s:Int),X++L++R++Y,())))
  (fun t=>¬ k ((R[mid - 1 - t]?).getD (0,(false,[])))<k ((L[t - X.length]?).getD (0,(false,[])))) lo hi (by
    intro i j again hi1 hij hj
    unfold b6
    dsimp only
    generalize hh0:(i+j) / 2=h
    have hhL:h - X.length<L.length:=by omega
    have hhR:mid - 1 - h<R.length:=by omega
    have hg:=hLt _ hhL
    rw[show X.length+(h - X.length)=h by omega] at hg
    have hg2:=hRt _ hhR
    rw[az (by omega),Gv i j (by omega),hh0]
    have e1:w64 (((mid+(X.length+L.length):Nat):Int) - 1 - (h:Int))=((X.length+L.length+(mid - 1 - h):Nat):Int):=by rw[aj (by omega) (by omega)];omega
    rw[e1]
    simp only[Xg,hg,hg2,Y7]
    obtain⟨c,hcc,hlt⟩:=hc R[mid - 1 - h] L[h - X.length] (hokR _ (XW _)) (hokL _ (XW _))
    rw[hcc,aH (by simp only[WJ,Zp,XX];omega),aH (by simp only[WJ,Zp,XX];omega),Y7,XL hhL,XL hhR]
    dsimp only[Option.getD]
    by_cases hk:k R[mid - 1 - h]<k L[h - X.length]
    ·rw[Zo (hlt.2 hk),WU,Zj,Zv (fun h=>h hk)]
    ·rw[Zm (fun h=>hk (hlt.1 h)),WT,Zk,Zw hk,aj (by omega) (by omega)];rfl)
  (by
    intro i again _ _
    unfold b6
    dsimp only
    rw[aA (by omega)])
  (by
    intro s t hs hst ht hP
    rw[XL (show t - X.length<L.length by omega),XL (show mid - 1 - t<R.length by omega)] at hP
    rw[XL (show s - X.length<L.length by omega),XL (show mid - 1 - s<R.length by omega)]
    have a1:=hL.get (i:=s - X.length) (j:=t - X.length) (by omega) (by omega)
    have a2:=hR.get (i:=mid - 1 - t) (j:=mid - 1 - s) (by omega) (by omega)
    simp only[Y8] at hP ⊢
    omega)
  n lo hi (by omega) (YM _) (by omega) (YM _) (fun t h1 h2=>by omega) (fun t h1 h2=>by omega)
 refine⟨r,h1,h2,h3, ?_, ?_⟩
 ·intro i j hi' hj' e1 e2
  have:=h4 (X.length+i) (by omega) (by omega)
  rw[show X.length+i - X.length=i by omega,show mid - 1 - (X.length+i)=j by omega,XL hi',XL hj'] at this
  simp only[Y8] at this
  omega
 ·intro i j hi' hj' e1 e2
  have:=h5 (X.length+i) (by omega) (by omega)
  rw[show X.length+i - X.length=i by omega,show mid - 1 - (X.length+i)=j by omega,XL hi',XL hj'] at this
  simp only[Y8] at this
  omega
def Pe (self:((List ah)×Int×Int×Int×Unit×Unit)→Option ((List ah)×Unit)) (x:(List ah)×Int×Int×Int×Unit×Unit):=bH self x.1 x.2.1 x.2.2.1 x.2.2.2.1 x.2.2.2.2.1
set_option maxHeartbeats 4000000 in
theorem Pf (hc:uz k ok):∀ (n:Nat) (X L R Y:List ah),L.length+R.length<n+2→0<L.length→0<R.length→(X++L++R++Y).length<1000000000→Srt k L→Srt k R→(∀ z∈L,ok z)→(∀ z∈R,ok z)→
 ∃ S,AS Pe n (X++L++R++Y,(X.length:Int),((X.length+L.length:Nat):Int),((X.length+L.length+R.length:Nat):Int),(),())=some (X++S++Y,())∧Srt k S∧bD k (L++R) S:=by
 intro n
 induction n with
 | zero=>intro X L R Y h h1 h2;omega
 | succ n ih=>
  intro X L R Y hn hL0 hR0 hlen hL hR hokL hokR
  have hlen':=hlen
  simp only[XX] at hlen
  show ∃ S,Pe (AS Pe n) _=_∧_
  generalize hself:AS Pe n=self at ih
  unfold Pe bH
  dsimp only
  have e1:w64 (((X.length+L.length:Nat):Int) - (X.length:Int))=(L.length:Int):=by rw[aj (by omega) (by omega)];omega
  have e2:w64 (((X.length+L.length+R.length:Nat):Int) - ((X.length+L.length:Nat):Int))=(R.length:Int):=by rw[aj (by omega) (by omega)];omega
  rw[e1,e2]
  by_cases hL1:L.length=1
  ·obtain⟨x,rfl⟩:∃ x,L=[x]:=List.length_eq_one_iff.1 hL1
   rw[show ((([x].length:Nat):Int)==1)=true by simp,Zk]
   obtain⟨R1,R2,rfl,h1,h2,h3⟩:=Lv hc X R Y x hlen' hR (hokL x (by simp)) hokR (Int.natAbs (X.length:Int)+(Int.natAbs ((X.length+[x].length:Nat):Int)+(Int.natAbs ((X.length+[x].length+R.length:Nat):Int)+(List.length (X++[x]++R++Y)+2)))) (by simp;omega)
   simp only[XY,X0,Y4] at h3 ⊢
   rw[h3,aF]
   dsimp only
   have hmv:=U7 (X.length+1+R1.length) (Int.natAbs ((X.length+1+R1.length:Nat):Int)+(Int.natAbs (X.length:Int)+(List.length (X++[x]++(R1++R2)++Y)+2))) X R1 (R2++Y) x (by simp;omega) rfl (by simp at hlen ⊢;omega)
   rw[show X++x::R1++(R2++Y)=X++[x]++(R1++R2)++Y by simp] at hmv
   rw[hmv,aF]
   refine⟨R1++x::R2,by simp, ?_, ?_⟩
   ·exact hR.left.append (Yo.2 ⟨h2,hR.right⟩) (fun y hy z hz=>by
     rcases Yc.1 hz with rfl | hz
     ·have:=h1 y hy;omega
     ·exact hR.Gp y hy z hz)
   ·have:=(bD.swap (k:=k) (u:=[x]) (v:=R1) (fun y hy z hz=>by rw[Ym.1 hy];have:=h1 z hz;omega)).append (bD.refl k R2)
    simpa using this
  ·rw[show (((L.length:Nat):Int)==1)=false by simp;omega,Zj]
   by_cases hR1:R.length=1
   ·obtain⟨y,rfl⟩:∃ x,R=[x]:=List.length_eq_one_iff.1 hR1
    rw[show ((([y].length:Nat):Int)==1)=true by simp,Zk]
    obtain⟨L1,L2,rfl,h1,h2,h3⟩:=J8 hc X L Y y hlen' hL (hokR y (by simp)) hokL (Int.natAbs ((X.length+L.length:Nat):Int)+(Int.natAbs (X.length:Int)+(Int.natAbs ((X.length+L.length:Nat):Int)+(List.length (X++L++[y]++Y)+2)))) (by omega)
    rw[h3,aF]
    dsimp only
    have hmv:=Tk (X++L1) (Int.natAbs ((X.length+L1.length:Nat):Int)+(Int.natAbs ((X.length+(L1++L2).length:Nat):Int)+(List.length (X++(L1++L2)++[y]++Y)+2))) L2 Y y (by simp;omega) (by simp at hlen ⊢;omega)
    rw[show X++L1++L2++y::Y=X++(L1++L2)++[y]++Y by simp,show (((X++L1).length:Nat):Int)=((X.length+L1.length:Nat):Int) by simp,show (((X++L1).length+L2.length:Nat):Int)=((X.length+(L1++L2).length:Nat):Int) by simp;omega] at hmv
    rw[hmv,aF]
    refine⟨L1++y::L2,by simp, ?_, ?_⟩
    ·exact hL.left.append (Yo.2 ⟨fun z hz=>by have:=h2 z hz;omega,hL.right⟩) (fun z hz w hw=>by
      rcases Yc.1 hw with rfl | hw
      ·exact h1 z hz
      ·exact hL.Gp z hz w hw)
    ·have:=(bD.refl k L1).append (bD.swap (k:=k) (u:=L2) (v:=[y]) (fun z hz w hw=>by rw[Ym.1 hw];have:=h2 z hz;omega))
     simpa using this
   ·rw[show (((R.length:Nat):Int)==1)=false by simp;omega,Zj]
    have eh:=Gv X.length (X.length+L.length+R.length) (by omega)
    rw[eh]
    generalize hmid:(X.length+(X.length+L.length+R.length)) / 2=mid
    have e3:w64 ((mid:Int)+((X.length+L.length:Nat):Int))=((mid+(X.length+L.length):Nat):Int):=by rw[aj (by omega) (by omega)];omega
    rw[e3]
    obtain⟨lo,hi,hcase,hv⟩:∃ lo hi:Nat,((mid<X.length+L.length∧lo+R.length=mid∧hi=mid∧X.length≤lo)∨(X.length+L.length≤mid∧lo=X.length∧hi=X.length+L.length))∧
     (bif decide (((X.length+L.length:Nat):Int)>(mid:Int)) then
       (some (Sum.inr ((X.length:Int),((X.length+L.length:Nat):Int),((X.length+L.length+R.length:Nat):Int),(),(mid:Int),((mid+(X.length+L.length):Nat):Int),w64 (((mid+(X.length+L.length):Nat):Int) - ((X.length+L.length+R.length:Nat):Int)),(mid:Int),X++L++R++Y,())):Option (((List ah)×Unit) ⊕ (Int×Int×Int×Unit×Int×Int×Int×Int×(List ah)×Unit)))
     else some (Sum.inr ((X.length:Int),((X.length+L.length:Nat):Int),((X.length+L.length+R.length:Nat):Int),(),(mid:Int),((mid+(X.length+L.length):Nat):Int),(X.length:Int),((X.length+L.length:Nat):Int),X++L++R++Y,())))=some (Sum.inr ((X.length:Int),((X.length+L.length:Nat):Int),((X.length+L.length+R.length:Nat):Int),(),(mid:Int),((mid+(X.length+L.length):Nat):Int),(lo:Int),(hi:Int),X++L++R++Y,())):=by
     by_cases hm:mid<X.length+L.length
     ·refine⟨mid - R.length,mid,.inl ⟨hm,by omega,rfl,by omega⟩, ?_⟩
      rw[az (by omega),aj (by omega) (by omega),show ((mid+(X.length+L.length):Nat):Int) - ((X.length+L.length+R.length:Nat):Int)=((mid - R.length:Nat):Int) by omega]
     ·refine⟨X.length,X.length+L.length,.inr ⟨by omega,rfl,rfl⟩, ?_⟩
      rw[aA (by omega)]
    rw[hv,aF]
    dsimp only
    have e4:w64 (((mid+(X.length+L.length):Nat):Int) - 1)=((mid+(X.length+L.length):Nat):Int) - 1:=aj (by omega) (by omega)
    rw[e4]
    obtain⟨s,h1,h2,h3,hF2,hF1⟩:=OF hc X L R Y hlen' hL hR hokL hokR mid lo hi hmid.symm hcase (Int.natAbs (X.length:Int)+(Int.natAbs ((X.length+L.length:Nat):Int)+(Int.natAbs ((X.length+L.length+R.length:Nat):Int)+(Int.natAbs (mid:Int)+(Int.natAbs ((mid+(X.length+L.length):Nat):Int)+(Int.natAbs (lo:Int)+(Int.natAbs (hi:Int)+(Int.natAbs (((mid+(X.length+L.length):Nat):Int) - 1)+(List.length (X++L++R++Y)+2))))))))) (by omega)
    rw[h1,aF]
    dsimp only
    clear h1 hv
    obtain⟨L1,L2,rfl,hL1l⟩:=nS (l:=L) (n:=s - X.length) (by omega)
    obtain⟨R1,R2,rfl,hR1l⟩:=nS (l:=R) (n:=mid - s) (by simp only[XX] at *;omega)
    simp only[XX] at hn hlen hL1 hR1 hmid hcase e1 e2 e3 e4 eh hL0 hR0
    have F1:∀ y∈R1,∀ z∈L2,k y<k z:=by
     intro y hy z hz
     have hr0:0<R1.length:=X1 hy
     have hl0:0<L2.length:=X1 hz
     have:=hF1 L1.length (R1.length - 1) (by simp;omega) (by simp;omega) (by omega) (by omega)
     rw[List.getElem_append_left (show R1.length - 1<R1.length by omega),List.getElem_append_right (by omega)] at this
     obtain⟨i,hi',rfl⟩:=Yg.1 hy
     obtain⟨j,hj',rfl⟩:=Yg.1 hz
     have a1:=hR.left.get (i:=i) (j:=R1.length - 1) (by omega) (by omega)
     have a2:=hL.right.get (i:=L1.length - L1.length) (j:=j) (by omega) hj'
     omega
    have F2:∀ y∈L1,∀ z∈R2,k y≤k z:=by
     intro y hy z hz
     have hr0:0<L1.length:=X1 hy
     have hl0:0<R2.length:=X1 hz
     have:=hF2 (L1.length - 1) R1.length (by simp;omega) (by simp;omega) (by omega) (by omega)
     rw[List.getElem_append_left (show L1.length - 1<L1.length by omega),List.getElem_append_right (by omega)] at this
     obtain⟨i,hi',rfl⟩:=Yg.1 hy
     obtain⟨j,hj',rfl⟩:=Yg.1 hz
     have a1:=hL.left.get (i:=i) (j:=L1.length - 1) (by omega) (by omega)
     have a2:=hR.right.get (i:=R1.length - R1.length) (j:=j) (by omega) hj'
     omega
    have e5:w64 (((mid+(X.length+(L1++L2).length):Nat):Int) - (s:Int))=((X.length+(L1++L2).length+R1.length:Nat):Int):=by
     rw[aj (by simp;omega) (by simp;omega)];simp only[XX];omega
    rw[e5]
    have hokL1:∀ z∈L1,ok z:=fun z hz=>hokL z (by simp[hz])
    have hokL2:∀ z∈L2,ok z:=fun z hz=>hokL z (by simp[hz])
    have hokR1:∀ z∈R1,ok z:=fun z hz=>hokR z (by simp[hz])
    have hokR2:∀ z∈R2,ok z:=fun z hz=>hokR z (by simp[hz])
    have ph1:∃ S1,(X.length<s→s<mid→self (X++L1++R1++(L2++R2++Y),(X.length:Int),(s:Int),(mid:Int),(),())=some (X++S1++(L2++R2++Y),()))∧(¬(X.length<s∧s<mid)→S1=L1++R1)∧Srt k S1∧bD k (L1++R1) S1:=by
     by_cases hb:X.length<s∧s<mid
     ·obtain⟨S1,g1,g2,g3⟩:=ih X L1 R1 (L2++R2++Y) (by omega) (by omega) (by omega) (by simp;omega) hL.left hR.left hokL1 hokR1
      rw[show ((X.length+L1.length:Nat):Int)=(s:Int) by omega,show ((X.length+L1.length+R1.length:Nat):Int)=(mid:Int) by omega] at g1
      exact⟨S1,fun _ _=>g1,fun h=>absurd hb h,g2,g3⟩
     ·refine⟨L1++R1,fun h1 h2=>absurd ⟨h1,h2⟩ hb,fun _=>rfl, ?_,bD.refl _ _⟩
      rcases (show L1.length=0∨R1.length=0 by omega) with h | h
      ·rw[Xx h];exact hR.left
      ·rw[Xx h,Xn];exact hL.left
    obtain⟨S1,hS1a,hS1b,hS1s,hS1e⟩:=ph1
    have hS1l:S1.length=L1.length+R1.length:=by rw[hS1e.length];simp
    have ph2:∃ S2,(bif decide ((mid:Int)<((X.length+(L1++L2).length+R1.length:Nat):Int)) then
     bif decide (((X.length+(L1++L2).length+R1.length:Nat):Int)<((X.length+(L1++L2).length+(R1++R2).length:Nat):Int)) then
      Option.bind (self (X++S1++(L2++R2++Y),(mid:Int),((X.length+(L1++L2).length+R1.length:Nat):Int),((X.length+(L1++L2).length+(R1++R2).length:Nat):Int),(),())) fun r38=>some (r38.1,())
     else some (X++S1++(L2++R2++Y),())
     else some (X++S1++(L2++R2++Y),()))=some (X++(S1++S2)++Y,())∧Srt k S2∧bD k (L2++R2) S2:=by
     simp only[XX]
     by_cases hb1:0<L2.length
     ·rw[az (by omega)]
      by_cases hb2:0<R2.length
      ·rw[az (by omega)]
       obtain⟨S2,g1,g2,g3⟩:=ih (X++S1) L2 R2 Y (by omega) hb1 hb2 (by simp;omega) hL.right hR.right hokL2 hokR2
       rw[show (((X++S1).length:Nat):Int)=(mid:Int) by simp;omega,show (((X++S1).length+L2.length:Nat):Int)=((X.length+(L1.length+L2.length)+R1.length:Nat):Int) by simp;omega,show (((X++S1).length+L2.length+R2.length:Nat):Int)=((X.length+(L1.length+L2.length)+(R1.length+R2.length):Nat):Int) by simp;omega] at g1
       rw[show X++S1++(L2++R2++Y)=X++S1++L2++R2++Y by simp,g1]
       exact⟨S2,by simp,g2,g3⟩
      ·have:R2=[]:=Xx (by omega)
       subst this
       rw[aA (by simp)]
       exact⟨L2,by simp,hL.right,by simpa using bD.refl k L2⟩
     ·have:L2=[]:=Xx (by omega)
      subst this
      rw[aA (by simp;omega)]
      exact⟨R2,by simp,hR.right,bD.refl _ _⟩
    obtain⟨S2,hE2,hS2s,hS2e⟩:=ph2
    have fin:Srt k (S1++S2)∧bD k (L1++L2++(R1++R2)) (S1++S2):=by
     constructor
     ·refine hS1s.append hS2s fun y hy z hz=> ?_
      rcases Yb.1 (hS1e.mem.1 hy) with h | h<;>rcases Yb.1 (hS2e.mem.1 hz) with h' | h'
      ·exact hL.Gp y h z h'
      ·exact F2 y h z h'
      ·have:=F1 y h z h';omega
      ·exact hR.Gp y h z h'
     ·have h1:bD k (L1++(L2++R1)++R2) (L1++(R1++L2)++R2):=((bD.refl k L1).append (bD.swap fun y hy z hz=>by have:=F1 z hz y hy;omega)).append (bD.refl k R2)
      have h2:=hS1e.append hS2e
      have h3:bD k (L1++L2++(R1++R2)) (L1++R1++(L2++R2)):=by simpa using h1
      exact h3.trans h2
    refine⟨S1++S2, ?_,fin.1,fin.2⟩
    have hsL:((X.length+(L1++L2).length:Nat):Int)=((X.length+L1.length+L2.length:Nat):Int):=by simp;omega
    have tail:∀ (D:List ah),D=X++L1++R1++(L2++R2++Y)→
     (bif decide ((X.length:Int)<(s:Int)) then
       aO (β:=((List ah)×Unit)) (γ:=(Int×Unit×Int×Int×(List ah)×Unit)) (
        bif decide ((s:Int)<(mid:Int)) then
         Option.bind (self (D,(X.length:Int),(s:Int),(mid:Int),(),())) fun r35=>
         some (Sum.inr (((X.length+(L1++L2).length+(R1++R2).length:Nat):Int),(),(mid:Int),((X.length+(L1++L2).length+R1.length:Nat):Int),r35.1,()))
        else
         some (Sum.inr (((X.length+(L1++L2).length+(R1++R2).length:Nat):Int),(),(mid:Int),((X.length+(L1++L2).length+R1.length:Nat):Int),D,()))) fun v36=>
       bif decide (v36.2.2.1<v36.2.2.2.1) then
        bif decide (v36.2.2.2.1<v36.1) then
         Option.bind (self (v36.2.2.2.2.1,v36.2.2.1,v36.2.2.2.1,v36.1,v36.2.1,())) fun r37=>
         some (r37.1,())
        else
         some (v36.2.2.2.2.1,())
       else
        some (v36.2.2.2.2.1,())
     else
      bif decide ((mid:Int)<((X.length+(L1++L2).length+R1.length:Nat):Int)) then
       bif decide (((X.length+(L1++L2).length+R1.length:Nat):Int)<((X.length+(L1++L2).length+(R1++R2).length:Nat):Int)) then
        Option.bind (self (D,(mid:Int),((X.length+(L1++L2).length+R1.length:Nat):Int),((X.length+(L1++L2).length+(R1++R2).length:Nat):Int),(),())) fun r38=>
        some (r38.1,())
       else
        some (D,())
      else
       some (D,()))=some (X++(S1++S2)++Y,()):=by
     intro D hD
     by_cases hb1:X.length<s
     ·rw[az (by omega)]
      by_cases hb2:s<mid
      ·rw[az (by omega),hD,hS1a hb1 hb2,Y7,aF]
       exact hE2
      ·rw[aA (by omega),aF,hD]
       have:X++L1++R1++(L2++R2++Y)=X++S1++(L2++R2++Y):=by rw[hS1b (fun h=>hb2 h.2)];simp
       rw[this]
       exact hE2
     ·rw[aA (by omega),hD]
      have:X++L1++R1++(L2++R2++Y)=X++S1++(L2++R2++Y):=by rw[hS1b (fun h=>hb1 h.1)];simp
      rw[this]
      exact hE2
    by_cases hsm:s<X.length+(L1++L2).length
    ·rw[az (by omega)]
     by_cases hme:0<R1.length
     ·have hrot:=TF (X++L1) L2 R1 (R2++Y) (by simp at hsm;omega) hme (by simp;omega)
      rw[show (((X++L1).length:Nat):Int)=(s:Int) by simp;omega,show (((X++L1).length+L2.length:Nat):Int)=((X.length+(L1++L2).length:Nat):Int) by simp;omega,show (((X++L1).length+L2.length+R1.length:Nat):Int)=((X.length+(L1++L2).length+R1.length:Nat):Int) by simp;omega,
       show X++L1++L2++R1++(R2++Y)=X++(L1++L2)++(R1++R2)++Y by simp] at hrot
      rw[az (by omega),hrot,Y7,aF]
      exact tail _ (by simp)
     ·have:R1=[]:=Xx (by omega)
      subst this
      rw[aA (by simp),aF]
      exact tail _ (by simp)
    ·rw[aA (by omega)]
     have:L2=[]:=Xx (by simp at hsm;omega)
     subst this
     exact tail _ (by simp)
theorem HX (hc:uz k ok) (X L R Y:List ah) (h1:0<L.length) (h2:0<R.length) (hlen:(X++L++R++Y).length<1000000000) (hL:Srt k L) (hR:Srt k R) (hokL:∀ z∈L,ok z) (hokR:∀ z∈R,ok z):
 ∃ S,cF (X++L++R++Y) (X.length:Int) ((X.length+L.length:Nat):Int) ((X.length+L.length+R.length:Nat):Int) ()=some (X++S++Y,())∧Srt k S∧bD k (L++R) S:=by
 unfold cF
 exact Pf hc _ X L R Y (by unfold fJ;simp only[XX];omega) h1 h2 hlen hL hR hokL hokR
theorem O9 (hc:uz k ok) (N:Nat) (hN:N<100000000):∀ (n:Nat) (A Z:List ah) (j:Nat),A.length=j*20→A.length+Z.length=N→Z.length<n→ChS k 20 A→(∀ z∈A,ok z)→(∀ z∈Z,ok z)→
 ∃ A' Z' j',iter (X:=eF) (β:=eC) n ((N:Int),(),20,(A.length:Int),((A.length+20:Nat):Int),A++Z,()) ef=some (Sum.inr ((N:Int),(),20,(A'.length:Int),A'++Z',()))∧A'.length=j'*20∧Z'.length<20∧ChS k 20 A'∧bD k (A++Z) (A'++Z'):=by
 intro n
 induction n with
 | zero=>intro A Z j _ _ h;omega
 | succ n ih=>
  intro A Z j hA hAZ hn hch hokA hokZ
  rw[bF]
  generalize hag:(fun y=>iter n y ef)=again
  unfold ef
  dsimp only
  by_cases hb:20≤Z.length
  ·rw[az (by omega)]
   obtain⟨S,Y,rfl,hS⟩:=nS (l:=Z) (n:=20) hb
   simp only[XX] at hAZ hn
   obtain⟨S',g1,g2,g3⟩:=FD hc A S Y (by simp;omega) (fun z hz=>hokZ z (by simp[hz]))
   rw[hS] at g1
   rw[show A++(S++Y)=A++S++Y by simp,g1,Y7]
   dsimp only
   have hS':S'.length=20:=by rw[g3.length,hS]
   have e1:w64 (((A.length+20:Nat):Int)+20)=(((A++S').length+20:Nat):Int):=by rw[aj (by omega) (by omega)];simp;omega
   rw[e1,show ((A.length+20:Nat):Int)=(((A++S').length:Nat):Int) by simp;omega, ← hag]
   obtain⟨A',Z',j',h1,h2,h3,h4,h5⟩:=ih (A++S') Y (j+1) (by simp;omega) (by simp;omega) (by omega) (hch.snoc hA g2 (by omega)) (fun z hz=>by
    rcases Yb.1 hz with h | h
    ·exact hokA z h
    ·exact hokZ z (by simp[g3.mem.1 h])) (fun z hz=>hokZ z (by simp[hz]))
   refine⟨A',Z',j',h1,h2,h3,h4, ?_⟩
   have:bD k (A++S++Y) (A++S'++Y):=((bD.refl k A).append g3).append (bD.refl k Y)
   exact this.trans h5
  ·rw[aA (by omega)]
   exact⟨A,Z,j,rfl,hA,by omega,hch,bD.refl _ _⟩
theorem Qs (hc:uz k ok) (N bs:Nat) (hN:N<100000000) (hbs:0<bs) (hbN:bs<N):∀ (n:Nat) (A Z:List ah) (j:Nat),A.length=j*(2*bs)→A.length+Z.length=N→Z.length<n→ChS k (2*bs) A→ChS k bs Z→(∀ z∈A,ok z)→(∀ z∈Z,ok z)→
 ∃ A' Z' j',iter (X:=eH) (β:=eE) n ((N:Int),(),(bs:Int),(A.length:Int),((A.length+2*bs:Nat):Int),A++Z,()) eA=some (Sum.inr ((N:Int),(),(bs:Int),(A'.length:Int),A'++Z',()))∧A'.length=j'*(2*bs)∧Z'.length<2*bs∧ChS k (2*bs) A'∧ChS k bs Z'∧bD k (A++Z) (A'++Z'):=by
 intro n
 induction n with
 | zero=>intro A Z j _ _ h;omega
 | succ n ih=>
  intro A Z j hA hAZ hn hch hcz hokA hokZ
  rw[bF]
  generalize hag:(fun y=>iter n y eA)=again
  unfold eA
  dsimp only
  by_cases hb:2*bs≤Z.length
  ·rw[az (by omega)]
   obtain⟨L,Z1,rfl,hL⟩:=nS (l:=Z) (n:=bs) (by omega)
   obtain⟨R,Y,rfl,hR⟩:=nS (l:=Z1) (n:=bs) (by simp at hb;omega)
   simp only[XX] at hAZ hn hb
   have sL:Srt k L:=by
    have:=hcz 0
    rw[Y6,Xv, ← hL,YA] at this
    exact this
   have sR:Srt k R:=by
    have:=hcz 1
    rw[Y0] at this
    conv at this=>arg 2;rw[show bs=L.length by omega,Xt,show L.length=R.length by omega,YA]
    exact this
   have cY:ChS k bs Y:=by
    have:=hcz.drop 2
    rw[show L++(R++Y)=(L++R)++Y by simp,show 2*bs=(L++R).length by simp;omega,Xt] at this
    exact this
   obtain⟨S,g1,g2,g3⟩:=HX hc A L R Y (by omega) (by omega) (by simp;omega) sL sR (fun z hz=>hokZ z (by simp[hz])) (fun z hz=>hokZ z (by simp[hz]))
   have e0:w64 ((A.length:Int)+(bs:Int))=((A.length+L.length:Nat):Int):=by rw[aj (by omega) (by omega)];omega
   rw[e0,show ((A.length+2*bs:Nat):Int)=((A.length+L.length+R.length:Nat):Int) by omega,show A++(L++(R++Y))=A++L++R++Y by simp,g1,Y7]
   dsimp only
   have hSl:S.length=2*bs:=by rw[g3.length];simp;omega
   have e1:w64 (((A.length+L.length+R.length:Nat):Int)+w64 (2*(bs:Int)))=(((A++S).length+2*bs:Nat):Int):=by
    rw[aj (n:=2*(bs:Int)) (by omega) (by omega),aj (by omega) (by omega)];simp;omega
   rw[e1,show ((A.length+L.length+R.length:Nat):Int)=(((A++S).length:Nat):Int) by simp;omega, ← hag]
   obtain⟨A',Z',j',h1,h2,h3,h4,h5,h6⟩:=ih (A++S) Y (j+1) (by rw[XX,hA,hSl,YE,Y0]) (by simp;omega) (by omega) (hch.snoc hA g2 (by omega)) cY (fun z hz=>by
    rcases Yb.1 hz with h | h
    ·exact hokA z h
    ·rcases Yb.1 (g3.mem.1 h) with h | h<;>exact hokZ z (by simp[h])) (fun z hz=>hokZ z (by simp[hz]))
   refine⟨A',Z',j',h1,h2,h3,h4,h5, ?_⟩
   have:bD k (A++(L++R)++Y) (A++S++Y):=((bD.refl k A).append g3).append (bD.refl k Y)
   have h7:=this.trans h6
   simpa using h7
  ·rw[aA (by omega)]
   exact⟨A,Z,j,rfl,hA,by omega,hch,hcz,bD.refl _ _⟩
theorem Qr (hc:uz k ok) (N:Nat) (hN:N<100000000):∀ (n bs:Nat) (l:List ah),l.length=N→0<bs→N<bs+n∧0<n→bs<400000000→ChS k bs l→(∀ z∈l,ok z)→
 ∃ l',iter (X:=eG) (β:=eD) n ((N:Int),(),(bs:Int),l,()) ez=some (Sum.inr (l',()))∧Srt k l'∧bD k l l':=by
 intro n
 induction n with
 | zero=>
  intro bs l hl hbs hn hb2 hch hok
  exact absurd hn (by omega)
 | succ n ih=>
  intro bs l hl hbs hn hb2 hch hok
  rw[bF]
  generalize hag:(fun y=>iter n y ez)=again
  unfold ez
  dsimp only
  by_cases hb:bs<N
  ·rw[az (by omega)]
   have e0:w64 (2*(bs:Int))=(((([]:List ah).length)+2*bs:Nat):Int):=by rw[aj (by omega) (by omega)];simp
   rw[e0,show (0:Int)=((([]:List ah).length:Nat):Int) from rfl]
   obtain⟨A,Z,j,h1,h2,h3,h4,h5,h6⟩:=Qs hc N bs hN hbs hb (Int.natAbs (N:Int)+(Int.natAbs (bs:Int)+(Int.natAbs ((([]:List ah).length:Nat):Int)+(Int.natAbs (((([]:List ah).length)+2*bs:Nat):Int)+(List.length l+2))))) [] l 0 (by simp) (by simpa using hl) (by omega) (ChS.nil _ _) hch (by simp) hok
   rw[List.nil_append] at h1 h6
   rw[h1,aF]
   dsimp only
   have hAZ:A.length+Z.length=N:=by have:=h6.length;simp at this;omega
   have hokAZ:∀ z∈A++Z,ok z:=fun z hz=>hok z (h6.mem.1 hz)
   have e1:w64 ((A.length:Int)+(bs:Int))=((A.length+bs:Nat):Int):=by rw[aj (by omega) (by omega)];omega
   have e2:w64 ((bs:Int)*2)=((2*bs:Nat):Int):=by rw[aj (by omega) (by omega)];omega
   rw[e1,e2]
   by_cases hlast:A.length+bs<N
   ·rw[az (by omega)]
    obtain⟨L,R,rfl,hL⟩:=nS (l:=Z) (n:=bs) (by omega)
    simp only[XX] at hAZ h3
    have sL:Srt k L:=by
     have:=h5 0
     rw[Y6,Xv, ← hL,YA] at this
     exact this
    have sR:Srt k R:=by
     have:=h5 1
     rw[Y0] at this
     conv at this=>arg 2;rw[show List.drop bs (L++R)=R by rw[← hL];exact Xt,YB (by omega)]
     exact this
    obtain⟨S,g1,g2,g3⟩:=HX hc A L R [] (by omega) (by omega) (by simp;omega) sL sR (fun z hz=>hokAZ z (by simp[hz])) (fun z hz=>hokAZ z (by simp[hz]))
    simp only[Xn] at g1
    rw[show ((A.length+bs:Nat):Int)=((A.length+L.length:Nat):Int) by omega,show ((N:Nat):Int)=((A.length+L.length+R.length:Nat):Int) by omega,show A++(L++R)=A++L++R by simp,g1,Y7, ← hag]
    have hsam:bD k l (A++S):=h6.trans (by simpa using (bD.refl k A).append g3)
    obtain⟨l',q1,q2,q3⟩:=ih (2*bs) (A++S) (by rw[hsam.length];exact hl) (by omega) ⟨by omega,by omega⟩ (by omega) (h4.snoc h2 g2 (by rw[g3.length];simp;omega)) (fun z hz=>hok z (hsam.mem.1 hz))
    rw[show ((A.length+L.length+R.length:Nat):Int)=((N:Nat):Int) by omega]
    exact⟨l',q1,q2,hsam.trans q3⟩
   ·rw[aA (by omega), ← hag]
    have sZ:Srt k Z:=by
     have:=h5 0
     rw[Y6,Xv,YB (by omega)] at this
     exact this
    obtain⟨l',q1,q2,q3⟩:=ih (2*bs) (A++Z) (by simp;omega) (by omega) ⟨by omega,by omega⟩ (by omega) (h4.snoc h2 sZ (by omega)) hokAZ
    exact⟨l',q1,q2,h6.trans q3⟩
  ·rw[aA (by omega)]
   refine⟨l,rfl, ?_,bD.refl _ _⟩
   have:=hch 0
   rw[Y6,Xv,YB (by omega)] at this
   exact this
theorem Np (hc:uz k ok) (l:List ah) (hl:l.length<100000000) (hok:∀ z∈l,ok z):∃ l',eZ l ()=some (l',())∧Srt k l'∧bD k l l':=by
 unfold eZ gZ
 obtain⟨A,Z,j,h1,h2,h3,h4,h5⟩:=O9 hc l.length hl (Int.natAbs (l.length:Int)+(Int.natAbs (20:Int)+(Int.natAbs (0:Int)+(Int.natAbs (20:Int)+(List.length l+2))))) [] l 0 (by simp) (by simp) (by omega) (ChS.nil _ _) (by simp) hok
 simp only[X0,List.nil_append] at h1 h5
 rw[show ((0+20:Nat):Int)=20 from rfl,show ((0:Nat):Int)=0 from rfl] at h1
 rw[h1,aF]
 dsimp only
 have hAZ:A.length+Z.length=l.length:=by have:=h5.length;simp at this;omega
 obtain⟨Z',g1,g2,g3⟩:=FD hc A Z [] (by simp;omega) (fun z hz=>hok z (h5.mem.1 (by simp[hz])))
 simp only[Xn] at g1
 rw[show ((A.length+Z.length:Nat):Int)=(l.length:Int) by omega] at g1
 rw[g1,Y7]
 dsimp only
 have hsam:bD k l (A++Z'):=h5.trans ((bD.refl k A).append g3)
 obtain⟨l',q1,q2,q3⟩:=Qr hc l.length hl (Int.natAbs (l.length:Int)+(Int.natAbs (20:Int)+(List.length (A++Z')+2))) 20 (A++Z') hsam.length (by omega) ⟨by omega,by omega⟩ (by omega) (h4.snoc h2 g2 (by rw[g3.length];omega)) (fun z hz=>hok z (hsam.mem.1 hz))
 rw[show ((20:Nat):Int)=20 from rfl] at q1
 rw[q1,aF]
 exact⟨l',rfl,q2,hsam.trans q3⟩
end
end Go.Md.SQP
set_option linter.all false
namespace Go.Md
open Go.Dn
def wv (x:ay):Int:=bif x.1 then -(v32 x.2) else v32 x.2
theorem UB (z:Int):wv (W z)=z:=by
 unfold wv W
 dsimp only
 rw[dy]
 by_cases h:z<0
 ·rw[Zo h,Zk];omega
 ·rw[Zm h,Zj];omega
def wz (m:List aC) (p:aa):Int:=(wP m [p] 0).getD 0
theorem Po (m:List aC):∀ (cs:List bz) (n d:Int),wC m cs (n+d)=(wC m cs n).map (· +d)
 | [],n,d=>rfl
 | c::r,n,d=>by
  unfold wC
  cases cW m c with
  | none=>rfl
  | some x=>
   dsimp only
   rw[show n+d+x=(n+x)+d by omega]
   exact Po m r (n+x) d
theorem Ge (m:List aC) (p:aa):wP m [p] 0=wC m p.2.2.2 (0+pY p):=by
 unfold wP
 cases wC m p.2.2.2 (0+pY p)<;>rfl
theorem TR (m:List aC):∀ (ps:List aa) (n:Int),(∀ p∈ps,(wP m [p] 0).isSome=true)→wP m ps n=some (n+(ps.map (wz m)).sum)
 | [],n,_=>by simp[wP]
 | p::r,n,h=>by
  obtain⟨z,hz⟩:=Za.1 (h p Ye)
  have hw:wz m p=z:=by unfold wz;rw[hz];rfl
  have e2:wC m p.2.2.2 (n+pY p)=(wC m p.2.2.2 (0+pY p)).map (· +n):=by rw[show n+pY p=(0+pY p)+n by omega,Po]
  rw[Ge] at hz
  unfold wP
  rw[e2,hz]
  show wP m r (z+n)=_
  rw[TR m r _ (fun q hq=>h q (Yd _ hq)),X8,Yw,hw]
  congr 1;omega
theorem DN {d:ai} {z:Bool} (h:qOk d z=true):0≤d.1:=by
 unfold qOk inR at h
 simp only[WJ,Zp] at h
 have h3:=h.1.2.2.1
 rw[Int.zero_mul] at h3
 exact h3
theorem Sx {m:List aC} (hm:∀ x∈m,qOk x.2.2 true=true) {c:bz} (hc:0≤c.2.2.2.1) {x:Int} (h:cW m c=some x):0≤x:=by
 unfold cW zV at h
 cases hf:m.find? (mEq c.1 c.2.1) with
 | none=>rw[hf] at h;cases h
 | some q=>
  rw[hf] at h
  simp only[Zc,Option.some.injEq] at h
  have hq:=DN (hm q (List.mem_of_find?_eq_some hf))
  rw[← h]
  exact W5 (W5 hc (Int.le_of_lt (Int.pow_pos (by decide)))) (W5 hq (Int.le_of_lt (Int.pow_pos (by decide))))
theorem UM {m:List aC} (hm:∀ x∈m,qOk x.2.2 true=true):∀ (cs:List bz) (n z:Int),(∀ c∈cs,0≤c.2.2.2.1)→wC m cs n=some z→n≤z
 | [],n,z,_,h=>by
  simp only[wC,Option.some.injEq] at h;omega
 | c::r,n,z,hc,h=>by
  unfold wC at h
  cases hx:cW m c with
  | none=>rw[hx] at h;cases h
  | some x=>
   rw[hx] at h
   have h1:=Sx hm (hc c Ye) hx
   have h2:=UM hm r (n+x) z (fun d hd=>hc d (Yd _ hd)) h
   omega
structure PaN (p:aa):Prop where
 t:0≤p.2.2.1.1
 c:∀ c∈p.2.2.2,0≤c.2.2.2.1
theorem TV {m:List aC} (hm:∀ x∈m,qOk x.2.2 true=true) {p:aa} (hp:PaN p):0≤wz m p:=by
 unfold wz
 rw[Ge]
 cases h:wC m p.2.2.2 (0+pY p) with
 | none=>exact W0 _
 | some z=>
  have h1:=UM hm _ _ _ hp.c h
  have h2:0≤pY p:=W5 hp.t (Int.le_of_lt (Int.pow_pos (by decide)))
  show 0≤z
  omega
def bpc (m:List aC):Nat→List aa→List (Nat×Int)
 | _,[]=>[]
 | k,p::r=>(k,wz m p*1000)::bpc m (k+1) r
def ki (q:Nat×Int):ah:=((q.1:Int),W q.2)
def Iq (q:ah):Nat×Int:=(q.1.toNat,wv q.2)
theorem QC (q:Nat×Int):Iq (ki q)=q:=by
 unfold Iq ki
 dsimp only
 rw[UB,Xg]
theorem Ac {m:List aC}:∀ {l:List aa} {k:Nat} {q:Nat×Int},q∈bpc m k l→∃ i p,l[i]? =some p∧q=(k+i,wz m p*1000)
 | [],_,_,h=>by cases h
 | p::r,k,q,h=>by
  rcases Yc.1 h with rfl | h
  ·exact⟨0,p,rfl,rfl⟩
  ·obtain⟨i,p',h1,h2⟩:=Ac h
   exact⟨i+1,p',h1,by rw[h2,show k+1+i=k+(i+1) by omega]⟩
theorem Gk (m:List aC):∀ (l:List aa) (k:Nat),(bpc m k l).length=l.length
 | [],_=>rfl
 | p::r,k=>by unfold bpc;rw[XY,XY,Gk m r]
theorem wR {n:Nat} (h:n≤10 ^ 60):n<4294967296 ^ 99:=by
 have h1:(10:Nat) ^ 60<4294967296 ^ 99:=by decide
 omega
theorem Qf {l:List aa} {m:List aC} (hps:∀ p∈l,CZ p) (hl:l.length≤500) (hm0:iQ m=0):∀ (r:List aa) (i n:Nat) (acc:List ah),l.drop i=r→i≤l.length→r.length<n→acc.length≤i→
 (iter (X:=iL) (β:=iK) n (m,acc,l,(l.length:Int),(i:Int),()) gz=some (Sum.inr (acc++(bpc m i r).map ki,()))∧∀ p∈r,(wP m [p] 0).isSome=true∧Le 42 (wz m p))
 ∨iter (X:=iL) (β:=iK) n (m,acc,l,(l.length:Int),(i:Int),()) gz=some (Sum.inl ([],false,())):=by
 have BZ:maxLen=9223372036854775807:=rfl
 intro r
 induction r with
 | nil=>
  intro i n acc hdr hi hn ha
  have:i=l.length:=by
   have:=congrArg List.length hdr
   simp at this;omega
  subst this
  obtain⟨n,rfl⟩:∃ m,n=m+1:=⟨n - 1,by omega⟩
  left
  refine⟨?_,fun p hp=>by cases hp⟩
  rw[bF]
  unfold gz
  dsimp only
  rw[aA (by omega)]
  simp only[bpc,Ya,Xn]
 | cons p r ih=>
  intro i n acc hdr hi hn ha
  have hpi:l[i]? =some p:=by
   have:=congrArg (·[0]?) hdr
   simpa [XK] using this
  have hr':l.drop (i+1)=r:=by
   have:=congrArg List.tail hdr
   simpa [Yx] using this
  have hlt:=(XN.1 hpi).1
  have hp:=hps p (Yj hpi)
  obtain⟨n,rfl⟩:∃ m,n=m+1:=⟨n - 1,by simp at hn;omega⟩
  simp only[XY] at hn
  rw[bF]
  generalize hag:(fun y=>iter n y gz)=again
  unfold gz
  dsimp only
  rw[az (by omega),bA,hpi,Y7]
  rcases zM [p] (fun q hq=>by rw[Ym.1 hq];exact hp) (by simp) m hm0 with ⟨z,h1,h2,h3⟩ | ⟨h1,q,h3⟩
  ·have hwz:wz m p=z:=by unfold wz;rw[h1];rfl
   have hz:z.natAbs≤10 ^ 42:=h2
   rw[h3,Y7]
   dsimp only
   rw[WU,Zj,show (3:Int)=((3:Nat):Int) from rfl,CW 3 (by omega),Y7]
   dsimp only
   rw[nC _ _ (wR (by omega)) (wR (by decide)),Y7,aH (by rw[WJ];exact⟨Zo (by omega),Zo (by omega)⟩),aj (n:=(i:Int)+1) (by omega) (by omega), ← hag,show (i:Int)+1=((i+1:Nat):Int) by omega]
   dsimp only
   rcases ih (i+1) n (acc++[((i:Int),W (z*10 ^ 3))]) hr' (by omega) (by omega) (by simp;omega) with ⟨g1,g2⟩ | g
   ·left
    refine⟨g1.trans ?_, ?_⟩
    ·rw[Xm,show bpc m i (p::r)=(i,wz m p*1000)::bpc m (i+1) r from rfl,X8,hwz]
     rfl
    ·intro q hq
     rcases Yc.1 hq with rfl | hq
     ·exact⟨by rw[h1];rfl,by rw[hwz];exact h2⟩
     ·exact g2 q hq
   ·right;exact g
  ·right
   rw[h3,Y7]
   rfl
theorem N0:SQP.uz (fun q=> -(wv q.2)) (fun q=>∃ z:Int,q.2=W z∧z.natAbs≤10 ^ 50):=by
 rintro a b ⟨x,hx,bx⟩ ⟨y,hy,by1⟩
 unfold jf
 rw[hx,hy,p8 _ _ (wR (by omega)) (wR (by omega)),Y7]
 refine⟨_,rfl, ?_⟩
 dsimp only
 rw[hx,hy,UB,UB]
 rcases W1 y x with h | h | h
 ·rw[Xc (by omega)]
  constructor<;>intro _<;>omega
 ·subst h;rw[Int.sub_self,Int.sign_zero]
  constructor<;>intro _<;>omega
 ·rw[Xd (by omega)]
  constructor<;>intro _<;>omega
theorem OX {l:List aa} {m:List aC} (hps:∀ p∈l,CZ p) (hl:l.length≤500) (hm0:iQ m=0):
 mP l m=some ([],false,())∨((∀ p∈l,(wP m [p] 0).isSome=true∧Le 42 (wz m p))∧∃ B:List (Nat×Int),mP l m=some (B.map ki,true,())∧(bpc m 0 l).Perm B∧B.Pairwise fun x y=>y.2≤x.2):=by
 unfold mP
 have hloop:=Qf hps hl hm0 l 0 (List.length m+(List.length ([]:List ah)+(List.length l+(Int.natAbs ((List.length l:Int))+(Int.natAbs (0:Int)+2))))) [] rfl (Y5 _) (by rw[W8];omega) (YM _)
 rcases hloop with ⟨h1,h2⟩ | h
 ·right
  refine⟨h2, ?_⟩
  have h1':iter (X:=iL) (β:=iK) (List.length m+(List.length ([]:List ah)+(List.length l+(Int.natAbs ((List.length l:Int))+(Int.natAbs (0:Int)+2))))) (m,[],l,(l.length:Int),0,()) gz=some (Sum.inr ((bpc m 0 l).map ki,())):=h1
  rw[h1',aF]
  dsimp only
  have hok:∀ q∈(bpc m 0 l).map ki,∃ z:Int,q.2=W z∧z.natAbs≤10 ^ 50:=by
   intro q hq
   obtain⟨b,hb,rfl⟩:=Yi.1 hq
   obtain⟨i,p,hp,rfl⟩:=Ac hb
   have h3:(wz m p).natAbs≤10 ^ 42:=(h2 p (Yj hp)).2
   exact⟨wz m p*1000,rfl,by rw[W7];show (wz m p).natAbs*1000≤10 ^ 50;omega⟩
  obtain⟨A,g1,g2,g3⟩:=SQP.Np N0 ((bpc m 0 l).map ki) (by rw[XZ,Gk];omega) hok
  rw[g1,Y7]
  have hp:=g3.perm
  have hA:A=(A.map Iq).map ki:=by
   rw[X9]
   refine (List.map_id A).symm.trans (X7 ?_)
   intro q hq
   obtain⟨b,hb,rfl⟩:=Yi.1 (hp.mem_iff.2 hq)
   show ki b=ki (Iq (ki b))
   rw[QC]
  refine⟨A.map Iq,by rw[← hA], ?_, ?_⟩
  ·have:=hp.map Iq
   rw[X9] at this
   have e:(bpc m 0 l).map (Iq ∘ ki)=bpc m 0 l:=by
    refine (X7 ?_).trans (List.map_id _)
    intro q _
    exact QC q
   rwa [e] at this
  ·rw[Yq]
   refine List.Pairwise.imp ?_ g2
   intro x y hxy
   replace hxy: -(wv x.2)≤ -(wv y.2):=hxy
   show wv y.2≤wv x.2
   omega
 ·left
  have h1':iter (X:=iL) (β:=iK) (List.length m+(List.length ([]:List ah)+(List.length l+(Int.natAbs ((List.length l:Int))+(Int.natAbs (0:Int)+2))))) (m,[],l,(l.length:Int),0,()) gz=some (Sum.inl ([],false,())):=h
  rw[h1',fR]
def tH (most w:Int) (L:List Int):List Int×Nat:=match L.findIdx? (fun x=>decide (x+w≤most)) with
 | some k=>(L.set k (L.getD k 0+w),k)
 | none=>(L++[w],L.length)
def atJ (on:List Int) (j:Nat) (q:Nat×Int):Bool:=on[q.1]? ==some (j:Int)
structure FF (most:Int) (done:List (Nat×Int)) (L on:List Int):Prop where
 le:∀ x∈L,x≤most
 nn:∀ x∈L,0≤x
 pair:∀ (j k:Nat) (x y:Int),j<k→L[j]? =some x→L[k]? =some y→most<x+y
 sum:∀ (j:Nat) (x:Int),L[j]? =some x→x=((done.filter (atJ on j)).map (·.2)).sum
 on:∀ q∈done,∃ j:Nat,on[q.1]? =some (j:Int)∧j<L.length
 len:L.length≤done.length
theorem JL {done:List (Nat×Int)} {on:List Int} {i:Nat} (hi:∀ q∈done,q.1≠i) (v:Int) (j:Nat):done.filter (atJ (on.set i v) j)=done.filter (atJ on j):=by
 refine List.filter_congr ?_
 intro q hq
 unfold atJ
 rw[XR (fun e=>hi q hq e.symm)]
theorem FF.step {most:Int} {done:List (Nat×Int)} {L on:List Int} (h:FF most done L on) {i:Nat} {w:Int} (hi:∀ q∈done,q.1≠i) (hion:i<on.length) (hw0:0≤w) (hw:w≤most):
 FF most (done++[(i,w)]) (tH most w L).1 (on.set i ((tH most w L).2:Int))∧(tH most w L).2<(tH most w L).1.length:=by
 unfold tH
 cases hf:L.findIdx? (fun x=>decide (x+w≤most)) with
 | some k=>
  dsimp only
  rw[XC] at hf
  obtain⟨hk,hle,_⟩:=hf
  have hle':L[k]+w≤most:=by simpa using hle
  have hkx:L[k]? =some L[k]:=XL hk
  have egd:L.getD k 0=L[k]:=by rw[XE,hkx];rfl
  have hnn:=h.nn L[k] (XW hk)
  have hgi:(on.set i (k:Int))[i]? =some (k:Int):=by rw[XS hion]
  have hmem:∀ x∈L.set k (L.getD k 0+w),x∈L∨x=L[k]+w:=by
   intro x hx
   rw[egd] at hx
   exact Yk hx
  have hget:∀ (j:Nat) (x:Int),(L.set k (L.getD k 0+w))[j]? =some x→∃ x0,L[j]? =some x0∧((j=k∧x=x0+w)∨(j≠k∧x=x0)):=by
   intro j x hx
   by_cases hj:k=j
   ·subst hj
    rw[XS hk,egd] at hx
    exact⟨L[k],hkx,.inl ⟨rfl,(Option.some.inj hx).symm⟩⟩
   ·rw[XR hj] at hx
    exact⟨x,hx,.inr ⟨fun e=>hj e.symm,rfl⟩⟩
  refine⟨⟨?_, ?_, ?_, ?_, ?_, ?_⟩,by rw[X3];exact hk⟩
  ·intro x hx
   rcases hmem x hx with hx | rfl
   ·exact h.le x hx
   ·exact hle'
  ·intro x hx
   rcases hmem x hx with hx | rfl
   ·exact h.nn x hx
   ·omega
  ·intro j k' x y hjk hx hy
   obtain⟨x0,hx0,hxc⟩:=hget j x hx
   obtain⟨y0,hy0,hyc⟩:=hget k' y hy
   have:=h.pair j k' x0 y0 hjk hx0 hy0
   rcases hxc with ⟨_,rfl⟩ | ⟨_,rfl⟩<;>rcases hyc with ⟨_,rfl⟩ | ⟨_,rfl⟩<;>omega
  ·intro j x hx
   obtain⟨x0,hx0,hxc⟩:=hget j x hx
   have hs:=h.sum j x0 hx0
   rw[Xz,JL hi,X6,Yv, ← hs]
   rcases hxc with ⟨rfl,rfl⟩ | ⟨hne,rfl⟩
   ·have:[(i,w)].filter (atJ (on.set i (j:Int)) j)=[(i,w)]:=by
     rw[XA,show atJ (on.set i (j:Int)) j (i,w)=true by unfold atJ;rw[hgi];simp];rfl
    rw[this];simp
   ·have:[(i,w)].filter (atJ (on.set i (k:Int)) j)=[]:=by
     rw[XA,show atJ (on.set i (k:Int)) j (i,w)=false by
      unfold atJ
      rw[hgi,Zf]
      intro e
      have:=Option.some.inj e
      omega];rfl
    rw[this];simp
  ·intro q hq
   rw[X3]
   rcases Yb.1 hq with hq | hq
   ·obtain⟨j,h1,h2⟩:=h.on q hq
    exact⟨j,by rw[XR (fun e=>hi q hq e.symm)];exact h1,h2⟩
   ·rw[Ym.1 hq]
    exact⟨k,hgi,hk⟩
  ·rw[X3,XX];have:=h.len;omega
 | none=>
  dsimp only
  rw[XB] at hf
  have hf':∀ x∈L,most<x+w:=fun x hx=>by
   have:=hf x hx
   simp at this
   exact this
  have hgi:(on.set i (L.length:Int))[i]? =some (L.length:Int):=by rw[XS hion]
  have hget:∀ (j:Nat) (x:Int),(L++[w])[j]? =some x→(j<L.length∧L[j]? =some x)∨(j=L.length∧x=w):=by
   intro j x hx
   by_cases hj:j<L.length
   ·rw[XG hj] at hx
    exact .inl ⟨hj,hx⟩
   ·rw[XH (by omega)] at hx
    have hj2:j - L.length=0:=by
     have:=(XN.1 hx).1
     simp at this;omega
    rw[hj2] at hx
    exact .inr ⟨by omega,(Option.some.inj hx).symm⟩
  have hempty:∀ q∈done,atJ on L.length q=false:=by
   intro q hq
   obtain⟨j,h1,h2⟩:=h.on q hq
   unfold atJ
   rw[h1,Zf]
   intro e
   have:=Option.some.inj e
   omega
  refine⟨⟨?_, ?_, ?_, ?_, ?_, ?_⟩,by simp⟩
  ·intro x hx
   rcases Yb.1 hx with hx | hx
   ·exact h.le x hx
   ·rw[Ym.1 hx];exact hw
  ·intro x hx
   rcases Yb.1 hx with hx | hx
   ·exact h.nn x hx
   ·rw[Ym.1 hx];exact hw0
  ·intro j k' x y hjk hx hy
   rcases hget k' y hy with ⟨hk1,hk2⟩ | ⟨rfl,rfl⟩
   ·rcases hget j x hx with ⟨hj1,hj2⟩ | ⟨rfl,rfl⟩
    ·exact h.pair j k' x y hjk hj2 hk2
    ·omega
   ·rcases hget j x hx with ⟨hj1,hj2⟩ | ⟨rfl,rfl⟩
    ·exact hf' x (Yj hj2)
    ·omega
  ·intro j x hx
   rw[Xz,JL hi,X6,Yv]
   rcases hget j x hx with ⟨hj1,hj2⟩ | ⟨rfl,rfl⟩
   ·rw[← h.sum j x hj2]
    have:[(i,w)].filter (atJ (on.set i (L.length:Int)) j)=[]:=by
     rw[XA,show atJ (on.set i (L.length:Int)) j (i,w)=false by
      unfold atJ
      rw[hgi,Zf]
      intro e
      have:=Option.some.inj e
      omega];rfl
    rw[this];simp
   ·have e1:done.filter (atJ on L.length)=[]:=List.filter_eq_nil_iff.2 fun q hq=>by rw[hempty q hq];decide
    have:[(i,x)].filter (atJ (on.set i (L.length:Int)) L.length)=[(i,x)]:=by
     rw[XA,show atJ (on.set i (L.length:Int)) L.length (i,x)=true by unfold atJ;rw[hgi];simp];rfl
    rw[this,e1];simp
  ·intro q hq
   rw[XX]
   rcases Yb.1 hq with hq | hq
   ·obtain⟨j,h1,h2⟩:=h.on q hq
    exact⟨j,by rw[XR (fun e=>hi q hq e.symm)];exact h1,by simp;omega⟩
   ·rw[Ym.1 hq]
    exact⟨L.length,hgi,by simp⟩
  ·rw[XX,XX];have:=h.len;simp;omega
theorem FF.nil (most:Int) (on:List Int):FF most [] [] on:=
 ⟨fun x hx=>(by cases hx),fun x hx=>(by cases hx),fun j k x y _ hx=>(by simp at hx),fun j x hx=>(by simp at hx),fun q hq=>(by cases hq),YM _⟩
end Go.Md
set_option linter.all false
set_option maxRecDepth 20000
namespace Go.Md
open Go.Dn
theorem Vj (x y:Int):decide ((x - y).sign≤0)=decide (x≤y):=by
 rcases W1 x y with h | h | h
 ·rw[Xc (by omega),Zo (show x≤y by omega)];rfl
 ·subst h;rw[Int.sub_self];simp
 ·rw[Xd (by omega),Zm (show ¬x≤y by omega)];rfl
theorem SY (most w:Int) (hm:most.natAbs≤10 ^ 50) (hw:w.natAbs≤10 ^ 50) (i:Int) (L:List Int) (hl:L.length<1000000000) (hL:∀ x∈L,x.natAbs≤10 ^ 50):
 fL (L.map W) ((i,W w),W most)=some (match L.findIdx? (fun x=>decide (x+w≤most)) with | some k=>(k:Int) | none=> -1,()):=by
 unfold fL
 have loop:∀ (r:List Int) (j n:Nat),L.drop j=r→j≤L.length→r.length<n→
  iter (X:=gj) (β:=gh) n (L.map W,((i,W w),W most),(L.length:Int),(j:Int),()) eX=some (match r.findIdx? (fun x=>decide (x+w≤most)) with | some k=>Sum.inl (((j+k:Nat):Int),()) | none=>Sum.inr ()):=by
  intro r
  induction r with
  | nil=>
   intro j n hdr hj hn
   have:j=L.length:=by
    have:=congrArg List.length hdr
    simp at this;omega
   subst this
   obtain⟨n,rfl⟩:∃ m,n=m+1:=⟨n - 1,by omega⟩
   rw[bF]
   unfold eX
   dsimp only
   rw[aA (by omega)]
   rfl
  | cons y r ih=>
   intro j n hdr hj hn
   have hy:L[j]? =some y:=by
    have:=congrArg (·[0]?) hdr
    simpa [XK] using this
   have hr':L.drop (j+1)=r:=by
    have:=congrArg List.tail hdr
    simpa [Yx] using this
   have hlt:=(XN.1 hy).1
   have hyb:=hL y (Yj hy)
   have hyW:(L.map W)[j]? =some (W y):=by rw[XO,hy];rfl
   obtain⟨n,rfl⟩:∃ m,n=m+1:=⟨n - 1,by simp at hn;omega⟩
   rw[bF]
   generalize hag:(fun y=>iter n y eX)=again
   unfold eX
   dsimp only
   rw[az (by omega),bA,hyW,Y7]
   unfold xL
   dsimp only
   rw[jq _ _ (wR (by omega)) (wR (by omega)),Y7,p8 _ _ (wR (by omega)) (wR (by omega)),Y7,Y7]
   dsimp only
   rw[Vj,List.findIdx?_cons]
   cases hb:decide (y+w≤most) with
   | true=>rfl
   | false=>
    rw[Zj,aj (n:=(j:Int)+1) (by omega) (by omega), ← hag,show (j:Int)+1=((j+1:Nat):Int) by omega]
    refine (ih (j+1) n hr' (by omega) (by simp at hn;omega)).trans ?_
    cases hq:r.findIdx? (fun x=>decide (x+w≤most)) with
    | none=>simp
    | some q=>simp;omega
 have:=loop L 0 (List.length (L.map W)+(Int.natAbs ((List.length (L.map W):Int))+(Int.natAbs (0:Int)+2))) rfl (Y5 _) (by rw[XZ];omega)
 rw[show ((0:Nat):Int)=0 from rfl] at this
 rw[XZ] at this ⊢
 rw[this]
 cases hq:L.findIdx? (fun x=>decide (x+w≤most)) with
 | none=>rfl
 | some q=>simp[aO]
theorem Vl {most:Int} (hmost:most.natAbs≤10 ^ 30) (B:List (Nat×Int)) (hBl:B.length≤1000) (hnd:B.Pairwise fun a b=>a.1≠b.1) (K:Nat) (hK:∀ q∈B,q.1<K∧0≤q.2∧q.2≤most) (l:List aa) (p:List UInt8) (n:Int):
 ∀ (r:List (Nat×Int)) (i f:Nat) (L on:List Int),B.drop i=r→i≤B.length→r.length<f→on.length=K→FF most (B.take i) L on→
  ∃ L' on',FF most B L' on'∧on'.length=K∧
  iter (X:=iF) (β:=iB) f (l,p,n,L.map W,B.map ki,(B.length:Int),(i:Int),(W most).1,(W most).2,on,()) gv=some (Sum.inr (l,p,n,L'.map W,on',())):=by
 have BZ:maxLen=9223372036854775807:=rfl
 intro r
 induction r with
 | nil=>
  intro i f L on hdr hi hn hon hF
  have:i=B.length:=by
   have:=congrArg List.length hdr
   simp at this;omega
  subst this
  obtain⟨f,rfl⟩:∃ m,f=m+1:=⟨f - 1,by omega⟩
  rw[List.take_length] at hF
  refine⟨L,on,hF,hon, ?_⟩
  rw[bF]
  unfold gv
  dsimp only
  rw[aA (by omega)]
 | cons q r ih=>
  intro i f L on hdr hi hn hon hF
  obtain⟨qi,w⟩:=q
  have hqi:B[i]? =some (qi,w):=by
   have:=congrArg (·[0]?) hdr
   simpa [XK] using this
  have hr':B.drop (i+1)=r:=by
   have:=congrArg List.tail hdr
   simpa [Yx] using this
  have hlt:=(XN.1 hqi).1
  obtain⟨k1,k2,k3⟩:=hK (qi,w) (Yj hqi)
  dsimp only at k1 k2 k3
  obtain⟨f,rfl⟩:∃ m,f=m+1:=⟨f - 1,by simp at hn;omega⟩
  simp only[XY] at hn
  have hni:∀ z∈B.take i,z.1≠qi:=by
   intro z hz
   obtain⟨j,hj⟩:=Yh.1 hz
   have hji:j<i:=by
    have:=(XN.1 hj).1
    rw[X5] at this;omega
   rw[XU hji] at hj
   have:=Yp.1 hnd j i (by omega) hlt hji
   rw[(XN.1 hj).2,(XN.1 hqi).2] at this
   exact this
  obtain⟨s1,s2⟩:=hF.step hni (by omega) k2 k3
  have hLl:=hF.len
  rw[X5] at hLl
  have hLb:∀ x∈L,x.natAbs≤10 ^ 50:=fun x hx=>by have:=hF.le x hx;have:=hF.nn x hx;omega
  have hw50:w.natAbs≤10 ^ 50:=by omega
  have htk:B.take (i+1)=B.take i++[(qi,w)]:=by rw[Yy,hqi];rfl
  obtain⟨L',on',g1,g2,g3⟩:=ih (i+1) f (tH most w L).1 (on.set qi ((tH most w L).2:Int)) hr' (by omega) (by omega) (by rw[X3];exact hon) (by rw[htk];exact s1)
  refine⟨L',on',g1,g2, ?_⟩
  have hqe:(B.map ki)[i]? =some ((qi:Int),W w):=by rw[XO,hqi];rfl
  have hix:fL (L.map W) (((qi:Int),W w),(W most).1,(W most).2)=_:=SY most w (by omega) hw50 (qi:Int) L (by omega) hLb
  rw[bF]
  generalize hag:(fun y=>iter f y gv)=again
  unfold gv
  dsimp only
  rw[az (by omega),bA,hqe,Y7,hix,Y7]
  dsimp only
  unfold tH at g3 s2
  cases hf:L.findIdx? (fun x=>decide (x+w≤most)) with
  | some k=>
   rw[hf] at g3 s2
   dsimp only at g3 s2 ⊢
   rw[X3] at s2
   have hkx:L[k]? =some L[k]:=XL s2
   have egd:L.getD k 0=L[k]:=by rw[XE,hkx];rfl
   have hkW:(L.map W)[k]? =some (W L[k]):=by rw[XO,hkx];rfl
   have hkb:=hLb L[k] (XW s2)
   have hon1:on[qi]? =some on[qi]:=XL (by omega)
   rw[aA (show ¬((k:Int)<0) by omega),aF]
   dsimp only
   rw[aH (by rw[WJ];exact⟨Zo (by omega),Zo (by rw[XZ];omega)⟩),Xg,hkW,Y7]
   have ep:fk (W L[k]) ((W w).1,(W w).2)=some (W (L[k]+w),()):=jq _ _ (wR (by omega)) (wR (by omega))
   rw[ep,Y7,aH (by rw[WJ];exact⟨Zo (by omega),Zo (by rw[XZ];omega)⟩),Y7,
    aH (by rw[WJ];exact⟨Zo (by omega),Zo (by omega)⟩),Xg,hon1,Y7]
   dsimp only
   rw[aj (n:=(i:Int)+1) (by omega) (by omega),show (i:Int)+1=((i+1:Nat):Int) by omega, ← egd, ← List.map_set, ← hag]
   exact g3
  | none=>
   rw[hf] at g3 s2
   dsimp only at g3 s2 ⊢
   have hkW:(L.map W++[W 0])[L.length]? =some (W 0):=by
    rw[XH (by rw[XZ];omega),XZ,Nat.sub_self];rfl
   have hon1:on[qi]? =some on[qi]:=XL (by omega)
   rw[az (show ((-1:Int)<0) by decide),qN 0 (by decide) (by decide),Y7,aH (by rw[WJ];exact⟨Zo (by rw[XZ];omega),Zo (by rw[XZ];omega)⟩),aF]
   dsimp only
   rw[XZ,aH (by rw[WJ];exact⟨Zo (by omega),Zo (by rw[XX,XZ];simp;omega)⟩),Xg,hkW,Y7]
   have ep:fk (W 0) ((W w).1,(W w).2)=some (W (0+w),()):=jq _ _ (wR (by decide)) (wR (by omega))
   rw[ep,Y7,aH (by rw[WJ];exact⟨Zo (by omega),Zo (by rw[XX,XZ];simp;omega)⟩),Y7,
    aH (by rw[WJ];exact⟨Zo (by omega),Zo (by omega)⟩),Xg,hon1,Y7]
   dsimp only
   have es:(L.map W++[W 0]).set L.length (W (0+w))=(L++[w]).map W:=by
    rw[List.set_append_right _ _ (by rw[XZ];omega),XZ,Nat.sub_self,X6,Int.zero_add];rfl
   rw[aj (n:=(i:Int)+1) (by omega) (by omega),show (i:Int)+1=((i+1:Nat):Int) by omega,es, ← hag]
   exact g3
theorem Py {l:List aa} (hl:l.length≤500):jD l=some (l,()):=by
 have BZ:maxLen=9223372036854775807:=rfl
 unfold jD
 have e:(chk (decide ((0+(List.length l))*72≤140737488355328)&&decide (0+(List.length l)≤maxLen)) (some (l,())))=some (l,()):=aH (by rw[WJ];exact⟨Zo (by omega),Zo (by omega)⟩) _
 cases l with
 | nil=>
  rw[List.isEmpty_nil,Zk,e]
  exact Mb _
 | cons a r=>rw[List.isEmpty_cons,Zj,e]
theorem Px {l:List bz} (hl:l.length≤100):jg l=some (l,()):=by
 have BZ:maxLen=9223372036854775807:=rfl
 unfold jg
 have e:(chk (decide ((0+(List.length l))*64≤140737488355328)&&decide (0+(List.length l)≤maxLen)) (some (l,())))=some (l,()):=aH (by rw[WJ];exact⟨Zo (by omega),Zo (by omega)⟩) _
 cases l with
 | nil=>
  rw[List.isEmpty_nil,Zk,e]
  exact Mb _
 | cons a r=>rw[List.isEmpty_cons,Zj,e]
theorem Jm {l:List aa} (hl:l.length≤500) (hps:∀ p∈l,CZ p):gR l=some (l,()):=by
 unfold gR
 rw[Py hl,Y7]
 dsimp only
 have loop:∀ f,l.length<f→iter (X:=gW) (β:=jV) f ((l.length:Int),0,l,()) jU=some (Sum.inr (l,())):=by
  intro f hf
  refine bJ (Inv:=fun i X=>X=(((l.length:Int),(i:Int),l,()):gW)) l.length (fun r=>r=some (Sum.inr (l,()))) ?_ ?_ f 0 _ rfl (Y5 _) (by omega)
  ·rintro i X again hi rfl hag
   unfold jU
   dsimp only
   have hy:l[i]? =some l[i]:=XL hi
   rw[az (by omega),aH (by rw[WJ];exact⟨Zo (by omega),Zo (by omega)⟩),Xg,hy,Y7,Px (hps _ (XW hi)).n,Y7,aH (by rw[WJ];exact⟨Zo (by omega),Zo (by omega)⟩),Y7,aj (n:=(i:Int)+1) (by omega) (by omega)]
   refine hag _ ?_
   have:l.set i ((l[i]).1,(l[i]).2.1,(l[i]).2.2.1,(l[i]).2.2.2)=l:=List.set_getElem_self hi
   rw[this];rfl
  ·rintro X again rfl
   unfold jU
   dsimp only
   rw[aA (by omega)]
 rw[loop _ (by rw[W8];omega),aF]
theorem Vm (l:List aa) (p:List UInt8) (n:Int) (N:Nat) (hN:N≤1000) (on:List Int) (out:List aa):
 ∀ (d i f:Nat) (Lb:List (List UInt8)),i+d=N→d<f→Lb.length=i→(∀ (j:Nat) (s:List UInt8),Lb[j]? =some s→I7 p (w64 (n+j)) s)→
  (∃ e,e≠0∧iter (X:=fH) (β:=fG) f (l,p,n,Lb,(N:Int),(i:Int),on,out,()) eM=some (Sum.inl ([],e,())))
  ∨∃ Lb',Lb'.length=N∧(∀ (j:Nat) (s:List UInt8),Lb'[j]? =some s→I7 p (w64 (n+j)) s)∧iter (X:=fH) (β:=fG) f (l,p,n,Lb,(N:Int),(i:Int),on,out,()) eM=some (Sum.inr (l,Lb',on,out,())):=by
 have BZ:maxLen=9223372036854775807:=rfl
 intro d
 induction d with
 | zero=>
  intro i f Lb hi hf hl hL
  have:i=N:=by omega
  subst this
  obtain⟨f,rfl⟩:∃ m,f=m+1:=⟨f - 1,by omega⟩
  right
  refine⟨Lb,hl,hL, ?_⟩
  rw[bF]
  unfold eM
  dsimp only
  rw[aA (by omega)]
 | succ d ih=>
  intro i f Lb hi hf hl hL
  obtain⟨f,rfl⟩:∃ m,f=m+1:=⟨f - 1,by omega⟩
  obtain⟨s,e,h1,h2,h3⟩:=Nd p (w64 (n+(i:Int)))
  rw[bF]
  generalize hag:(fun y=>iter f y eM)=again
  unfold eM
  dsimp only
  rw[az (by omega),h1,Y7]
  dsimp only
  by_cases he:e=0
  ·rw[he,show ((0:Int) != 0)=false from rfl,Zj,aH (by rw[WJ];exact⟨Zo (by omega),Zo (by omega)⟩),aj (n:=(i:Int)+1) (by omega) (by omega), ← hag,show (i:Int)+1=((i+1:Nat):Int) by omega]
   refine ih (i+1) f (Lb++[s]) (by omega) (by omega) (by simp;omega) ?_
   intro j t hj
   by_cases hji:j<Lb.length
   ·rw[XG hji] at hj
    exact hL j t hj
   ·rw[XH (by omega)] at hj
    have hj2:j - Lb.length=0:=by
     have:=(XN.1 hj).1
     simp at this;omega
    rw[hj2] at hj
    have:s=t:=Option.some.inj hj
    subst this
    have:j=i:=by omega
    subst this
    exact h3 he
  ·left
   refine⟨e,he, ?_⟩
   rw[show (e != 0)=true by simpa using he,Zk]
theorem KT (l:List aa) (t:List UInt8) (hl:l.length<1000000000):fI l t=some (l.any (fun o=>o.1==t),()):=by
 unfold fI jw
 have loop:iter (X:=dx) (β:=dw) (List.length l+(Int.natAbs ((List.length l:Int))+(Int.natAbs (0:Int)+2))) (l,t,(List.length l:Int),0,()) dn=some (Sum.inr ())∧l.any (fun o=>o.1==t)=false∨
  ∃ i:Nat,iter (X:=dx) (β:=dw) (List.length l+(Int.natAbs ((List.length l:Int))+(Int.natAbs (0:Int)+2))) (l,t,(List.length l:Int),0,()) dn=some (Sum.inl ((i:Int),()))∧l.any (fun o=>o.1==t)=true:=by
  refine bJ (Inv:=fun i x=>x=(l,t,(List.length l:Int),(i:Int),())∧(l.take i).any (fun o=>o.1==t)=false) l.length (fun r=>r=some (Sum.inr ())∧l.any (fun o=>o.1==t)=false∨∃ i:Nat,r=some (Sum.inl ((i:Int),()))∧l.any (fun o=>o.1==t)=true) ?_ ?_ _ 0 _ ⟨rfl,by simp⟩ (by omega) (by omega)
  ·rintro i _ again hi ⟨rfl,hn⟩ ih
   unfold dn
   dsimp only
   have hy:l[i]? =some l[i]:=aG hi
   rw[az (by omega),bA,hy,Y7]
   unfold xM
   rw[Y7]
   dsimp only
   cases hb:(l[i].1==t) with
   | true=>
    right
    exact⟨i,rfl,Xl.2 ⟨l[i],XW _,hb⟩⟩
   | false=>
    rw[Zj,aj (by omega) (by omega)]
    refine ih _ ⟨rfl, ?_⟩
    rw[Yy,hy,List.any_append,hn]
    simp[hb]
  ·rintro _ again ⟨rfl,hn⟩
   unfold dn
   dsimp only
   rw[aA (by omega)]
   rw[YB (YM _)] at hn
   exact .inl ⟨rfl,hn⟩
 rcases loop with ⟨h1,h2⟩ | ⟨i,h1,h2⟩
 ·rw[h1,aF,Y7,h2];rfl
 ·rw[h1,fR,Y7,h2];simp
theorem Vn (l:List aa) (hl:l.length≤500) (Lb:List (List UInt8)) (hLb:Lb.length≤1000) (on:List Int) (out:List aa) (f:Nat) (hf:Lb.length<f):
 iter (X:=gy) (β:=iC) f (l,Lb,Lb,(Lb.length:Int),0,on,out,()) iA=some (Sum.inl ([],7,()))
 ∨(∀ s∈Lb,∀ q∈l,q.1≠s)∧iter (X:=gy) (β:=iC) f (l,Lb,Lb,(Lb.length:Int),0,on,out,()) iA=some (Sum.inr (l,Lb,on,out,())):=by
 refine bJ (Inv:=fun i X=>X=((l,Lb,Lb,(Lb.length:Int),(i:Int),on,out,()):gy)∧∀ s∈Lb.take i,∀ q∈l,q.1≠s) Lb.length (fun r=>r=some (Sum.inl ([],7,()))∨(∀ s∈Lb,∀ q∈l,q.1≠s)∧r=some (Sum.inr (l,Lb,on,out,()))) ?_ ?_ f 0 _ ⟨rfl,by simp⟩ (Y5 _) (by omega)
 ·rintro i X again hi ⟨rfl,hI⟩ hag
  unfold iA
  dsimp only
  have hy:Lb[i]? =some Lb[i]:=XL hi
  rw[az (by omega),bA,hy,Y7,KT _ _ (by omega),Y7]
  dsimp only
  cases hc:l.any (fun o=>o.1==Lb[i]) with
  | true=>rw[Zk];exact .inl rfl
  | false=>
   rw[Zj,aj (n:=(i:Int)+1) (by omega) (by omega)]
   refine hag _ ⟨rfl, ?_⟩
   intro s hs q hq
   rw[Yy,hy] at hs
   rcases Yb.1 hs with hs | hs
   ·exact hI s hs q hq
   ·simp at hs
    subst hs
    have:=Xk.1 hc q hq
    simpa using this
 ·rintro X again ⟨rfl,hI⟩
  unfold iA
  dsimp only
  rw[aA (by omega)]
  rw[YB (YM _)] at hI
  exact .inr ⟨hI,rfl⟩
def vj (Lb:List (List UInt8)) (on:List Int) (k:Nat) (q:aa):aa:=(q.1,((on[k]?).bind (fun z=>idx Lb z)).getD [],q.2.2)
def iT (Lb:List (List UInt8)) (on:List Int):Nat→List aa→List aa
 | _,[]=>[]
 | k,q::r=>vj Lb on k q::iT Lb on (k+1) r
theorem MC (Lb:List (List UInt8)) (on:List Int):∀ (r:List aa) (k:Nat),(iT Lb on k r).length=r.length
 | [],_=>rfl
 | q::r,k=>by unfold iT;rw[XY,XY,MC Lb on r]
theorem BG (Lb:List (List UInt8)) (on:List Int):∀ (r:List aa) (k i:Nat),(iT Lb on k r)[i]? =(r[i]?).map (vj Lb on (k+i))
 | [],_,_=>by simp[iT]
 | q::r,k,0=>rfl
 | q::r,k,i+1=>by
  unfold iT
  rw[XI,XI,BG Lb on r (k+1) i,show k+1+i=k+(i+1) by omega]
theorem Vo (Lb:List (List UInt8)) (on:List Int) (l:List aa) (hl:l.length≤500) (hon:on.length=l.length) (hj:∀ i,i<l.length→∃ (j:Nat) (s:List UInt8),on[i]? =some (j:Int)∧Lb[j]? =some s):
 ∀ (r P:List aa) (f:Nat),l=l.take P.length++r→P.length≤l.length→r.length<f→
  iter (X:=iG) (β:=iD) f (Lb,(l.length:Int),(P.length:Int),on,P++r,()) gw=some (Sum.inr (Lb,P++iT Lb on P.length r,())):=by
 intro r
 induction r with
 | nil=>
  intro P f hr hP hf
  have:P.length=l.length:=by
   have:=congrArg List.length hr
   simp at this;omega
  obtain⟨f,rfl⟩:∃ m,f=m+1:=⟨f - 1,by omega⟩
  rw[bF]
  unfold gw
  dsimp only
  rw[aA (by omega)]
  rfl
 | cons q r ih=>
  intro P f hr hP hf
  have hlt:P.length<l.length:=by
   have:=congrArg List.length hr
   simp at this;omega
  have hq:l[P.length]? =some q:=by
   rw[hr,XH (by rw[X5];omega),X5,show P.length - min P.length l.length=0 by omega];rfl
  obtain⟨f,rfl⟩:∃ m,f=m+1:=⟨f - 1,by simp at hf;omega⟩
  simp only[XY] at hf
  obtain⟨j,s,h1,h2⟩:=hj P.length hlt
  have hg:(P++q::r)[P.length]? =some q:=by rw[XH (YM _),Nat.sub_self];rfl
  rw[bF]
  generalize hag:(fun y=>iter f y gw)=again
  unfold gw
  dsimp only
  rw[az (by omega),aH (by rw[WJ];exact⟨Zo (by omega),Zo (by omega)⟩),Xg,h1,Y7,bA,h2,Y7,
   aH (by rw[WJ];exact⟨Zo (by omega),Zo (by rw[XX,XY];omega)⟩),hg,Y7,aj (n:=(P.length:Int)+1) (by omega) (by omega), ← hag]
  have es:(P++q::r).set P.length (q.1,s,q.2.2)=(P++[(q.1,s,q.2.2)])++r:=by
   rw[List.set_append_right _ _ (YM _),Nat.sub_self,Xm];rfl
  have eo:vj Lb on P.length q=(q.1,s,q.2.2):=by
   unfold vj
   rw[h1,Y7,bA,h2];rfl
  rw[es,show (P.length:Int)+1=((P++[(q.1,s,q.2.2)]).length:Int) by rw[XX,X4];omega]
  refine (ih (P++[(q.1,s,q.2.2)]) f ?_ (by rw[XX,X4];omega) (by omega)).trans ?_
  ·rw[XX,X4,Yy,hq,Option.toList_some,Xm]
   exact hr
  ·rw[XX,X4,Xm]
   show some (Sum.inr (Lb,P++((q.1,s,q.2.2)::iT Lb on (P.length+1) r),()))=some (Sum.inr (Lb,P++(vj Lb on P.length q::iT Lb on (P.length+1) r),()))
   rw[eo]
def news (Lb:List (List UInt8)):List aa:=Lb.map fun s=>(s,[],(0,0),[])
theorem Vp (Lb:List (List UInt8)) (hLb:Lb.length≤1000):∀ (r:List (List UInt8)) (i f:Nat) (out:List aa),Lb.drop i=r→i≤Lb.length→r.length<f→out.length≤1000+i→
 iter (X:=iH) (β:=iE) f (out,Lb,(Lb.length:Int),(i:Int),()) gx=some (Sum.inr (out++news r,())):=by
 have BZ:maxLen=9223372036854775807:=rfl
 intro r
 induction r with
 | nil=>
  intro i f out hdr hi hn ho
  have:i=Lb.length:=by
   have:=congrArg List.length hdr
   simp at this;omega
  subst this
  obtain⟨f,rfl⟩:∃ m,f=m+1:=⟨f - 1,by omega⟩
  rw[bF]
  unfold gx
  dsimp only
  rw[aA (by omega)]
  simp only[news,Ya,Xn]
 | cons s r ih=>
  intro i f out hdr hi hn ho
  have hy:Lb[i]? =some s:=by
   have:=congrArg (·[0]?) hdr
   simpa [XK] using this
  have hr':Lb.drop (i+1)=r:=by
   have:=congrArg List.tail hdr
   simpa [Yx] using this
  have hlt:=(XN.1 hy).1
  obtain⟨f,rfl⟩:∃ m,f=m+1:=⟨f - 1,by simp at hn;omega⟩
  simp only[XY] at hn
  rw[bF]
  generalize hag:(fun y=>iter f y gx)=again
  unfold gx
  dsimp only
  rw[az (by omega),bA,hy,Y7,aH (by rw[WJ];exact⟨Zo (by omega),Zo (by omega)⟩),aj (n:=(i:Int)+1) (by omega) (by omega), ← hag,show (i:Int)+1=((i+1:Nat):Int) by omega]
  refine (ih (i+1) f _ hr' (by omega) (by omega) (by simp;omega)).trans ?_
  rw[Xm];rfl
noncomputable def yZ (a0:List aa) (a3:List UInt8) (a4:Int) (r2:List ah) (r3:ay):Option ((List aa)×Int×Unit):=
 chk (decide (0≤((List.length a0:Int)))&&decide (((List.length a0:Int))≤((List.length a0:Int)))&&decide ((8:Int)*((List.length a0:Int))≤281474976710656)&&decide (((List.length a0:Int))≤9223372036854775807)) <|
 aO (β:=((List aa)×Int×Unit)) (γ:=((List aa)×(List UInt8)×Int×(List ay)×(List Int)×Unit)) (
  iter (X:=iF) (β:=iB) (List.length a0+(List.length a3+(Int.natAbs a4+(List.length ([]:List ay)+(List.length r2+(Int.natAbs ((List.length r2:Int))+(Int.natAbs (0:Int)+(r3.2.length+(List.length ((List.replicate (Int.toNat ((List.length a0:Int))) 0:List (Int)):List Int)+2))))))))) (a0,a3,a4,[],r2,(List.length r2:Int),0,r3.1,r3.2,(List.replicate (Int.toNat ((List.length a0:Int))) 0:List (Int)),()) (gv)) fun v42=>
 Option.bind (gR v42.1) fun r43=>
 aO (β:=((List aa)×Int×Unit)) (γ:=((List aa)×(List (List UInt8))×(List Int)×(List aa)×Unit)) (
  iter (X:=fH) (β:=fG) (v42.1.length+(v42.2.1.length+(v42.2.2.1.natAbs+(List.length ([]:List (List UInt8))+(Int.natAbs ((v42.2.2.2.1.length:Int))+(Int.natAbs (0:Int)+(v42.2.2.2.2.1.length+(r43.1.length+2)))))))) (v42.1,v42.2.1,v42.2.2.1,[],(v42.2.2.2.1.length:Int),0,v42.2.2.2.2.1,r43.1,()) (eM)) fun v46=>
 aO (β:=((List aa)×Int×Unit)) (γ:=((List aa)×(List (List UInt8))×(List Int)×(List aa)×Unit)) (
  iter (X:=gy) (β:=iC) (v46.1.length+(v46.2.1.length+(v46.2.1.length+(Int.natAbs ((v46.2.1.length:Int))+(Int.natAbs (0:Int)+(v46.2.2.1.length+(v46.2.2.2.1.length+2))))))) (v46.1,v46.2.1,v46.2.1,(v46.2.1.length:Int),0,v46.2.2.1,v46.2.2.2.1,()) (iA)) fun v50=>
 bif decide ((w64 (((v50.1.length:Int))+((v50.2.1.length:Int))))>500) then
  some ([],2,())
 else
  aO (β:=((List aa)×Int×Unit)) (γ:=((List (List UInt8))×(List aa)×Unit)) (
   iter (X:=iG) (β:=iD) (v50.2.1.length+(Int.natAbs ((v50.2.2.2.1.length:Int))+(Int.natAbs (0:Int)+(v50.2.2.1.length+(v50.2.2.2.1.length+2))))) (v50.2.1,(v50.2.2.2.1.length:Int),0,v50.2.2.1,v50.2.2.2.1,()) (gw)) fun v55=>
  aO (β:=((List aa)×Int×Unit)) (γ:=((List aa)×Unit)) (
   iter (X:=iH) (β:=iE) (v55.2.1.length+(v55.1.length+(Int.natAbs ((v55.1.length:Int))+(Int.natAbs (0:Int)+2)))) (v55.2.1,v55.1,(v55.1.length:Int),0,()) (gx)) fun v58=>
  Option.bind (fM v58.1 ()) fun r59=>
  some (r59.1,0,())
end Go.Md
set_option linter.all false
set_option maxRecDepth 20000
namespace Go.Md
open Go.Dn
theorem OW {a b:List Int} (h:a.Perm b):a.sum=b.sum:=by
 induction h with
 | nil=>rfl
 | cons x _ ih=>simp only[Yw,ih]
 | swap x y l=>simp only[Yw];omega
 | trans _ _ ih1 ih2=>exact ih1.trans ih2
structure Lo (most:Int) (m:List aC) (l:List aa) (L on:List Int):Prop where
 le:∀ x∈L,x≤most
 pair:∀ (j k:Nat) (x y:Int),j<k→L[j]? =some x→L[k]? =some y→most<x+y
 sum:∀ (j:Nat) (x:Int),L[j]? =some x→x=(((bpc m 0 l).filter (atJ on j)).map (·.2)).sum
 onl:on.length=l.length
 on:∀ i,i<l.length→∃ j:Nat,on[i]? =some (j:Int)∧j<L.length
 len:L.length≤l.length
theorem Qz (m:List aC):∀ (l:List aa) (k i:Nat),(bpc m k l)[i]? =(l[i]?).map fun p=>(k+i,wz m p*1000)
 | [],_,_=>by simp[bpc]
 | p::r,k,0=>rfl
 | p::r,k,i+1=>by
  unfold bpc
  rw[XI,XI,Qz m r (k+1) i,show k+1+i=k+(i+1) by omega]
theorem Ss (m:List aC):∀ (l:List aa) (k:Nat),(bpc m k l).Pairwise fun a b=>a.1≠b.1
 | [],_=>List.Pairwise.nil
 | p::r,k=>by
  unfold bpc
  refine Yo.2 ⟨?_,Ss m r (k+1)⟩
  intro q hq
  obtain⟨i,p',h1,rfl⟩:=Ac hq
  show k≠k+1+i
  omega
theorem FF.lo {most:Int} {m:List aC} {l:List aa} {B:List (Nat×Int)} {L on:List Int} (h:FF most B L on) (hp:(bpc m 0 l).Perm B) (hon:on.length=l.length):Lo most m l L on:=by
 refine⟨h.le,h.pair, ?_,hon, ?_, ?_⟩
 ·intro j x hx
  rw[h.sum j x hx]
  exact OW (((hp.filter _).map _).symm)
 ·intro i hi
  have hg:(bpc m 0 l)[i]? =some (0+i,wz m l[i]*1000):=by rw[Qz,XL hi];rfl
  obtain⟨j,h1,h2⟩:=h.on _ (hp.mem_iff.1 (Yj hg))
  rw[Y4] at h1
  exact⟨j,h1,h2⟩
 ·have:=h.len
  rw[← hp.length_eq,Gk] at this
  exact this
structure cL (l:List aa) (m:List aC) (limit:ai) (x:List aa) (L on:List Int) (Lb:List (List UInt8)):Prop where
 adv:mD ([97],[97],1,l)=0
 noIn:∀ q∈l,q.2.1=[]
 mass:iQ m=0
 dec:bY limit
 wts:∀ q∈l,(wP m [q] 0).isSome=true∧Le 42 (wz m q)
 lo:Lo (v9 limit) m l L on
 lbs:Lb.length=L.length
 lok:∀ s∈Lb,lbl s=true
 lnd:Lb.Nodup
 new:∀ s∈Lb,∀ q∈l,q.1≠s
 perm:x.Perm (iT Lb on 0 l++news Lb)
 asc:Asc (·.1) x
 len:x.length≤500
theorem KD {l:List aa} {m:List fm} {limit:ai} (hf:CY ([97],[97],1,l)):
 (∃ e,e≠0∧jk l m limit=some (e,()))∨(jk l m limit=some (0,())∧mD ([97],[97],1,l)=0∧(∀ q∈l,q.2.1=[])∧iQ m=0∧bY limit):=by
 unfold jk
 rw[kO _ hf,Y7]
 dsimp only
 by_cases h1:mD ([97],[97],1,l)=0
 rotate_left
 ·rw[show (mD ([97],[97],1,l) != 0)=true by simpa using h1,Zk]
  exact .inl ⟨_,h1,rfl⟩
 rw[h1,show ((0:Int) != 0)=false from rfl,Zj]
 have hl:l.length≤500:=(vE h1).len
 have hc:fW l ()=some (l.any (fun q=> !(q.2.1==[])),()):=by
  unfold fW kC
  have loop:iter (X:=dW) (β:=dV) (List.length l+(Int.natAbs ((List.length l:Int))+(Int.natAbs (0:Int)+2))) (l,(),(List.length l:Int),0,()) dU=some (Sum.inr ())∧l.any (fun q=> !(q.2.1==[]))=false∨
   ∃ i:Nat,iter (X:=dW) (β:=dV) (List.length l+(Int.natAbs ((List.length l:Int))+(Int.natAbs (0:Int)+2))) (l,(),(List.length l:Int),0,()) dU=some (Sum.inl ((i:Int),()))∧l.any (fun q=> !(q.2.1==[]))=true:=by
   refine bJ (Inv:=fun i x=>x=(l,(),(List.length l:Int),(i:Int),())∧(l.take i).any (fun q=> !(q.2.1==[]))=false) l.length (fun r=>r=some (Sum.inr ())∧l.any (fun q=> !(q.2.1==[]))=false∨∃ i:Nat,r=some (Sum.inl ((i:Int),()))∧l.any (fun q=> !(q.2.1==[]))=true) ?_ ?_ _ 0 _ ⟨rfl,by simp⟩ (by omega) (by omega)
   ·rintro i _ again hi ⟨rfl,hn⟩ ih
    unfold dU
    dsimp only
    have hy:l[i]? =some l[i]:=aG hi
    rw[az (by omega),bA,hy,Y7]
    unfold qU
    rw[Y7]
    dsimp only
    cases hb:(!(l[i].2.1==[])) with
    | true=>
     right
     exact⟨i,rfl,Xl.2 ⟨l[i],XW _,hb⟩⟩
    | false=>
     rw[Zj,aj (by omega) (by omega)]
     refine ih _ ⟨rfl, ?_⟩
     rw[Yy,hy,List.any_append,hn]
     simp only[Option.toList_some,Xj,List.any_nil,hb,WX]
   ·rintro _ again ⟨rfl,hn⟩
    unfold dU
    dsimp only
    rw[aA (by omega)]
    rw[YB (YM _)] at hn
    exact .inl ⟨rfl,hn⟩
  rcases loop with ⟨h1,h2⟩ | ⟨i,h1,h2⟩
  ·rw[h1,aF,Y7,h2];rfl
  ·rw[h1,fR,Y7,h2];simp
 rw[hc,Y7]
 dsimp only
 cases ha:l.any (fun q=> !(q.2.1==[])) with
 | true=>rw[Zk];exact .inl ⟨3,by decide,rfl⟩
 | false=>
 have hno:∀ q∈l,q.2.1=[]:=fun q hq=>by
  have:=Xk.1 ha q hq
  simpa using this
 rw[Zj,vN,Y7]
 dsimp only
 by_cases h2:iQ m=0
 rotate_left
 ·rw[show (iQ m != 0)=true by simpa using h2,Zk]
  exact .inl ⟨_,h2,rfl⟩
 rw[h2,show ((0:Int) != 0)=false from rfl,Zj,tr,Y7]
 dsimp only
 by_cases h3:bY limit
 ·rw[Zw h3]
  exact .inr ⟨rfl,rfl,hno,rfl,h3⟩
 ·rw[Zv h3]
  exact .inl ⟨1,by decide,rfl⟩
theorem VJ {a:bn} (h:mD a=0):∀ p∈a.2.2.2,PaN p:=by
 unfold mD at h
 split at h
 ·omega
 split at h
 ·omega
 split at h
 ·omega
 split at h
 ·omega
 split at h
 ·omega
 have h3:cS (lJ a.2.2.2) 0 a.2.2.2=0:=by omega
 intro p hp
 obtain⟨i,hi⟩:=Yh.1 hp
 have:=jW h3 i p hi
 unfold lJ at this
 split at this
 ·omega
 split at this
 ·omega
 split at this
 ·omega
 rename_i hq
 refine⟨DN (z:=true) (by simpa using hq), ?_⟩
 unfold vZ at this
 split at this
 ·omega
 intro c hc
 obtain⟨j,hj⟩:=Yh.1 hc
 have:=jW this j c hj
 unfold Jo at this
 split at this
 ·omega
 split at this
 ·omega
 split at this
 ·omega
 split at this
 ·omega
 split at this
 ·rename_i hq;exact DN hq
 ·omega
theorem Gn (a b:aa):(!decide (Lib.compareBytes b.1 a.1<0))=true↔(Op.bytesLess b.1 a.1=false):=by
 rw[WS,Zn,pn,WR]
theorem Sd {k:List aa} (hd:k.Pairwise fun a b=>a.1≠b.1) (hl:k.length≤4000):∃ x,fM k ()=some (x,())∧x.Perm k∧Asc (·.1) x:=by
 unfold fM F8
 have hu:∀ x∈k,∀ y∈k,x.1=y.1→x=y:=by
  intro x hx y hy e
  obtain⟨i,hi⟩:=Yh.1 hx
  obtain⟨j,hj⟩:=Yh.1 hy
  obtain⟨i1,i2⟩:=XN.1 hi
  obtain⟨j1,j2⟩:=XN.1 hj
  rcases YU i j with h | h | h
  ·have:=Yp.1 hd i j i1 j1 h
   rw[i2,j2] at this;exact absurd e this
  ·subst h;rw[hi] at hj;exact Option.some.inj hj
  ·have:=Yp.1 hd j i j1 i1 h
   rw[i2,j2] at this;exact absurd e.symm this
 have g2:∀ x,x∈k→∀ y,y∈k→¬ Lib.compareBytes x.1 y.1<0→¬ Lib.compareBytes y.1 x.1<0→x=y:=fun x hx y hy h1 h2=>by
  rw[pn] at h1 h2
  rcases rH x.1 y.1 with h | h | h
  ·exact absurd h h1
  ·exact hu x hx y hy h
  ·exact absurd h h2
 rw[Zw ⟨fun _ _=>rfl,g2,by omega⟩]
 refine⟨_,rfl,List.mergeSort_perm _ _, ?_⟩
 have hp:=List.mergeSort_perm k (fun x y=> !decide (Lib.compareBytes y.1 x.1<0))
 have hs:(k.mergeSort fun x y=> !decide (Lib.compareBytes y.1 x.1<0)).Pairwise fun a b=>(!decide (Lib.compareBytes b.1 a.1<0))=true:=by
  refine List.pairwise_mergeSort ?_ ?_ k
  ·intro a b c h1 h2
   rw[Gn] at h1 h2 ⊢
   cases hca:Op.bytesLess c.1 a.1 with
   | false=>rfl
   | true=>
    exfalso
    rcases rH b.1 c.1 with h | h | h
    ·have:=iU h hca;rw[this] at h1;cases h1
    ·rw[h,hca] at h1;cases h1
    ·rw[h] at h2;cases h2
  ·intro a b
   rw[WW,Gn,Gn]
   rcases rH a.1 b.1 with h | h | h
   ·exact .inl (tX h)
   ·rw[h];exact .inl (cr _)
   ·exact .inr (tX h)
 have hd':(k.mergeSort fun x y=> !decide (Lib.compareBytes y.1 x.1<0)).Pairwise fun a b=>a.1≠b.1:=(hp.pairwise_iff (fun h e=>h e.symm)).2 hd
 intro i j a b hij ha hb
 obtain⟨i1,i2⟩:=XN.1 ha
 obtain⟨j1,j2⟩:=XN.1 hb
 have h1:=Yp.1 hs i j i1 j1 hij
 have h2:=Yp.1 hd' i j i1 j1 hij
 rw[i2,j2] at h1 h2
 rw[Gn] at h1
 rcases rH a.1 b.1 with h | h | h
 ·exact h
 ·exact absurd h h2
 ·rw[h] at h1;cases h1
theorem UA {a b:Int} {i j:Nat} (hi:i≤1000) (hj:j≤1000) (h:w64 (a+i)=w64 (a+j)):i=j:=by
 unfold w64 at h
 simp only[IntKind.wrap,IntKind.bits,IntKind.signed] at h
 simp at h
 omega
theorem ON {Lb:List (List UInt8)} {on:List Int} {l:List aa} {q:aa} (h:q∈iT Lb on 0 l):∃ i q0,l[i]? =some q0∧q=vj Lb on i q0:=by
 obtain⟨i,hi⟩:=Yh.1 h
 rw[BG,Y4] at hi
 cases hq:l[i]? with
 | none=>rw[hq] at hi;cases hi
 | some q0=>
  rw[hq] at hi
  exact⟨i,q0,hq,(Option.some.inj hi).symm⟩
theorem KH {l:List aa} {m:List aC} {limit:ai} (h1:mD ([97],[97],1,l)=0) (h2:∀ q∈l,q.2.1=[]) (h3:iQ m=0) (h4:bY limit) (h5:∀ p∈l,(wP m [p] 0).isSome=true∧Le 42 (wz m p))
 {B:List (Nat×Int)} (hp:(bpc m 0 l).Perm B) (hle:∀ q∈B,q.2≤v9 limit) (p:List UInt8) (n:Int):
 (∃ e,e≠0∧yZ l p n (B.map ki) (W (v9 limit))=some ([],e,()))∨∃ x L on Lb,yZ l p n (B.map ki) (W (v9 limit))=some (x,0,())∧cL l m limit x L on Lb:=by
 have hok:=vE h1
 have hl:l.length≤500:=hok.len
 have hpa:∀ q∈l,CZ q:=LG h1
 have hpn:∀ q∈l,PaN q:=VJ h1
 obtain⟨_,_,hm⟩:=FL h3
 have hBl:B.length=l.length:=by rw[← hp.length_eq,Gk]
 have hnd:B.Pairwise fun a b=>a.1≠b.1:=(hp.pairwise_iff (fun h e=>h e.symm)).1 (Ss m l 0)
 have hK:∀ q∈B,q.1<l.length∧0≤q.2∧q.2≤v9 limit:=by
  intro q hq
  refine⟨?_, ?_,hle q hq⟩
  ·obtain⟨i,p',hi,rfl⟩:=Ac (hp.mem_iff.2 hq)
   have:=(XN.1 hi).1
   show 0+i<l.length
   omega
  ·obtain⟨i,p',hi,rfl⟩:=Ac (hp.mem_iff.2 hq)
   have:=TV hm (hpn p' (Yj hi))
   show 0≤wz m p'*1000
   omega
 have hmost:(v9 limit).natAbs≤10 ^ 30:=by have:(v9 limit).natAbs≤10 ^ 24:=NJ h4;omega
 unfold yZ
 rw[aH (by simp only[WJ,Zp];omega)]
 obtain⟨L,on,g1,g2,g3⟩:=Vl hmost B (by omega) hnd l.length hK l p n B 0
  (List.length l+(List.length p+(Int.natAbs n+(List.length ([]:List ay)+(List.length (B.map ki)+(Int.natAbs ((List.length (B.map ki):Int))+(Int.natAbs (0:Int)+(List.length (W (v9 limit)).2+(List.length ((List.replicate (Int.toNat ((List.length l:Int))) 0:List (Int)):List Int)+2)))))))))
  [] (List.replicate (Int.toNat ((List.length l:Int))) 0) rfl (Y5 _) (by rw[XZ];omega) (by rw[X2,Xg]) (FF.nil _ _)
 have g3':iter (X:=iF) (β:=iB) (List.length l+(List.length p+(Int.natAbs n+(List.length ([]:List ay)+(List.length (B.map ki)+(Int.natAbs ((List.length (B.map ki):Int))+(Int.natAbs (0:Int)+(List.length (W (v9 limit)).2+(List.length ((List.replicate (Int.toNat ((List.length l:Int))) 0:List (Int)):List Int)+2)))))))))
  (l,p,n,[],B.map ki,((B.map ki).length:Int),0,(W (v9 limit)).1,(W (v9 limit)).2,(List.replicate (Int.toNat ((List.length l:Int))) 0:List (Int)),()) gv=some (Sum.inr (l,p,n,L.map W,on,())):=by
  rw[XZ] at g3 ⊢
  exact g3
 have hlo:=g1.lo hp g2
 have hLl:=hlo.len
 rw[g3',aF]
 dsimp only
 rw[Jm hl hpa,Y7]
 dsimp only
 rcases Vm l p n L.length (by omega) on l L.length 0 (List.length l+(List.length p+(Int.natAbs n+(List.length ([]:List (List UInt8))+(Int.natAbs ((List.length (L.map W):Int))+(Int.natAbs (0:Int)+(List.length on+(List.length l+2)))))))) [] (by omega) (by rw[XZ,W8];omega) rfl (fun j s h=>by simp at h) with ⟨e,he,q⟩ | ⟨Lb,q1,q2,q3⟩
 ·left
  refine⟨e,he, ?_⟩
  have q':iter (X:=fH) (β:=fG) (List.length l+(List.length p+(Int.natAbs n+(List.length ([]:List (List UInt8))+(Int.natAbs ((List.length (L.map W):Int))+(Int.natAbs (0:Int)+(List.length on+(List.length l+2)))))))) (l,p,n,[],((L.map W).length:Int),0,on,l,()) eM=some (Sum.inl ([],e,())):=by
   rw[XZ] at q ⊢
   exact q
  rw[q',fR]
 have q':iter (X:=fH) (β:=fG) (List.length l+(List.length p+(Int.natAbs n+(List.length ([]:List (List UInt8))+(Int.natAbs ((List.length (L.map W):Int))+(Int.natAbs (0:Int)+(List.length on+(List.length l+2)))))))) (l,p,n,[],((L.map W).length:Int),0,on,l,()) eM=some (Sum.inr (l,Lb,on,l,())):=by
  rw[XZ] at q3 ⊢
  exact q3
 rw[q',aF]
 dsimp only
 rcases Vn l hl Lb (by omega) on l (List.length l+(List.length Lb+(List.length Lb+(Int.natAbs ((List.length Lb:Int))+(Int.natAbs (0:Int)+(List.length on+(List.length l+2))))))) (by omega) with r | ⟨r1,r2⟩
 ·left
  refine⟨7,by decide, ?_⟩
  rw[r,fR]
 rw[r2,aF]
 dsimp only
 rw[aj (by omega) (by omega)]
 by_cases hbig:(l.length:Int)+(Lb.length:Int)>500
 ·left
  rw[az hbig]
  exact⟨2,by decide,rfl⟩
 rw[aA hbig]
 have hj:∀ i,i<l.length→∃ (j:Nat) (s:List UInt8),on[i]? =some (j:Int)∧Lb[j]? =some s:=by
  intro i hi
  obtain⟨j,a1,a2⟩:=hlo.on i hi
  exact⟨j,Lb[j]'(by omega),a1,XL (by omega)⟩
 have t1:=Vo Lb on l hl g2 hj l [] (List.length Lb+(Int.natAbs ((List.length l:Int))+(Int.natAbs (0:Int)+(List.length on+(List.length l+2))))) rfl (Y5 _) (by omega)
 have t1':iter (X:=iG) (β:=iD) (List.length Lb+(Int.natAbs ((List.length l:Int))+(Int.natAbs (0:Int)+(List.length on+(List.length l+2))))) (Lb,(l.length:Int),0,on,l,()) gw=some (Sum.inr (Lb,iT Lb on 0 l,())):=t1
 rw[t1',aF]
 dsimp only
 have hol:(iT Lb on 0 l).length=l.length:=MC ..
 have t2:=Vp Lb (by omega) Lb 0 (List.length (iT Lb on 0 l)+(List.length Lb+(Int.natAbs ((List.length Lb:Int))+(Int.natAbs (0:Int)+2)))) (iT Lb on 0 l) rfl (Y5 _) (by omega) (by omega)
 have t2':iter (X:=iH) (β:=iE) (List.length (iT Lb on 0 l)+(List.length Lb+(Int.natAbs ((List.length Lb:Int))+(Int.natAbs (0:Int)+2)))) (iT Lb on 0 l,Lb,(Lb.length:Int),0,()) gx=some (Sum.inr (iT Lb on 0 l++news Lb,())):=t2
 rw[t2',aF]
 dsimp only
 have hnl:(news Lb).length=Lb.length:=by unfold news;rw[XZ]
 have hlnd:Lb.Nodup:=by
  refine Yp.2 ?_
  intro i j hi hj hij e
  have a1:=q2 i Lb[i] (XL hi)
  have a2:=q2 j Lb[j] (XL hj)
  rw[← e] at a2
  have:=UA (b:=0) (by omega) (by omega) (Tb a1 a2)
  omega
 have hpd:l.Pairwise fun a b=>a.1≠b.1:=by
  refine Yp.2 ?_
  intro i j hi hj hij e
  have:Op.bytesLess (l[i]).1 (l[j]).1=true:=hok.asc i j l[i] l[j] hij (XL hi) (XL hj)
  rw[e,cr] at this;cases this
 have hdist:(iT Lb on 0 l++news Lb).Pairwise fun a b=>a.1≠b.1:=by
  refine Yn.2 ⟨?_, ?_, ?_⟩
  ·refine Yp.2 ?_
   intro i j hi hj hij
   have hi':i<l.length:=by omega
   have hj':j<l.length:=by omega
   have ei:(iT Lb on 0 l)[i]? =some (vj Lb on (0+i) l[i]):=by rw[BG,XL hi'];rfl
   have ej:(iT Lb on 0 l)[j]? =some (vj Lb on (0+j) l[j]):=by rw[BG,XL hj'];rfl
   rw[(XN.1 ei).2,(XN.1 ej).2]
   exact Yp.1 hpd i j hi' hj' hij
  ·unfold news
   rw[Yq]
   exact hlnd
  ·intro a ha b hb
   obtain⟨i,q0,hq,rfl⟩:=ON ha
   unfold news at hb
   obtain⟨s,hs,rfl⟩:=Yi.1 hb
   exact r1 s hs q0 (Yj hq)
 obtain⟨x,u1,u2,u3⟩:=Sd hdist (by rw[XX,hol,hnl];omega)
 right
 refine⟨x,L,on,Lb, ?_, ?_⟩
 ·rw[u1,Y7]
 ·refine⟨h1,h2,h3,h4,h5,hlo,q1, ?_,hlnd,r1,u2,u3, ?_⟩
  ·intro s hs
   obtain⟨j,hj⟩:=Yh.1 hs
   exact (q2 j s hj).ok
  ·rw[u2.length_eq,XX,hol,hnl];omega
theorem Pb (a0:List aa) (a1:List fm) (a2:ai) (a3:List UInt8) (a4:Int):sg a0 a1 a2 a3 a4=
 Option.bind (jk a0 a1 a2) fun r1=>
 bif r1.1 != 0 then some ([],r1.1,())
 else Option.bind (mP a0 a1) fun r2=>
  bif !r2.2.1 then some ([],5,())
  else Option.bind (rG a2) fun r3=>
   bif decide (((r2.1.length:Int))>0) then
    Option.bind (idx r2.1 0) fun y4=>
    Option.bind (fS y4.2 r3.1) fun r5=>
    bif decide (r5.1>0) then some ([],16,())
    else yZ a0 a3 a4 r2.1 r3.1
   else yZ a0 a3 a4 r2.1 r3.1:=rfl
theorem Qt (l:List aa) (m:List fm) (limit:ai) (p:List UInt8) (n:Int) (hf:CY ([97],[97],1,l)):
 (∃ e,e≠0∧sg l m limit p n=some ([],e,()))∨∃ x L on Lb,sg l m limit p n=some (x,0,())∧cL l m limit x L on Lb:=by
 rw[Pb]
 rcases KD (m:=m) (limit:=limit) hf with ⟨e,he,h⟩ | ⟨h0,h1,h2,h3,h4⟩
 ·left
  refine⟨e,he, ?_⟩
  rw[h,Y7]
  dsimp only
  rw[show (e != 0)=true by simpa using he,Zk]
 rw[h0,Y7]
 dsimp only
 rw[show ((0:Int) != 0)=false from rfl,Zj]
 have hl:l.length≤500:=(vE h1).len
 rcases OX (LG h1) hl h3 with h | ⟨h5,B,g1,g2,g3⟩
 ·left
  refine⟨5,by decide, ?_⟩
  rw[h];rfl
 rw[g1,Y7]
 dsimp only
 rw[WU,Zj,Jb h4,Y7]
 dsimp only
 have hvb:(v9 limit).natAbs≤10 ^ 24:=NJ h4
 have hBb:∀ q∈B,q.2.natAbs≤10 ^ 50:=by
  intro q hq
  obtain⟨i,p',hi,rfl⟩:=Ac (g2.mem_iff.2 hq)
  have h6:(wz m p').natAbs≤10 ^ 42:=(h5 p' (Yj hi)).2
  show (wz m p'*1000).natAbs≤10 ^ 50
  rw[W7]
  show (wz m p').natAbs*1000≤10 ^ 50
  omega
 cases B with
 | nil=>
  rw[Ya,aA (by simp)]
  exact KH h1 h2 h3 h4 h5 g2 (fun q hq=>by cases hq) p n
 | cons b B=>
  have hb:=hBb b Ye
  rw[X8,az (by rw[XY];omega),show idx (ki b::B.map ki) 0=some (ki b) from rfl,Y7]
  have ec:fS (ki b).2 (W (v9 limit))=some ((b.2 - v9 limit).sign,()):=p8 _ _ (wR (by omega)) (wR (by omega))
  rw[ec,Y7]
  dsimp only
  by_cases hw:v9 limit<b.2
  ·left
   refine⟨16,by decide, ?_⟩
   rw[Xd (by omega)];rfl
  ·have hs:¬ (b.2 - v9 limit).sign>0:=by
    rcases W1 b.2 (v9 limit) with h | h | h
    ·rw[Xc (by omega)];decide
    ·rw[h,Int.sub_self];decide
    ·omega
   rw[aA hs]
   refine KH h1 h2 h3 h4 h5 (B:=b::B) g2 (fun q hq=> ?_) p n
   rcases Yc.1 hq with rfl | hq
   ·omega
   ·have:=(Yo.1 g3).1 q hq
    omega
end Go.Md
set_option linter.all false
set_option maxRecDepth 20000
namespace Go.Md
open Go.Dn
variable {l:List aa} {m:List aC} {limit:ai} {x:List aa} {L on:List Int} {Lb:List (List UInt8)}
theorem Td {s:List UInt8} (h:lbl s=true):s≠[]:=fun e=>by
 have:=QN h
 rw[e] at this;cases this
theorem cL.mem (h:cL l m limit x L on Lb) {q:aa} (hq:q∈x):
 (∃ (i:Nat) (q0:aa) (j:Nat) (s:List UInt8),l[i]? =some q0∧on[i]? =some (j:Int)∧Lb[j]? =some s∧q=(q0.1,s,q0.2.2))∨∃ s∈Lb,q=(s,[],(0,0),[]):=by
 have hq:=h.perm.mem_iff.1 hq
 rcases Yb.1 hq with hq | hq
 ·left
  obtain⟨i,q0,h1,rfl⟩:=ON hq
  obtain⟨j,h2,h3⟩:=h.lo.on i (XN.1 h1).1
  have hl:=h.lbs
  refine⟨i,q0,j,Lb[j]'(by omega),h1,h2,XL (by omega), ?_⟩
  unfold vj
  rw[h2,Y7,bA,XL (show j<Lb.length by omega)];rfl
 ·right
  unfold news at hq
  obtain⟨s,hs,rfl⟩:=Yi.1 hq
  exact⟨s,hs,rfl⟩
theorem cL.inn (h:cL l m limit x L on Lb) {q:aa} (hq:q∈x):(q.2.1=[]↔q.1∈Lb)∧(q.2.1≠[]→q.2.1∈Lb):=by
 rcases h.mem hq with ⟨i,q0,j,s,h1,h2,h3,rfl⟩ | ⟨s,hs,rfl⟩
 ·have hsm:=Yj h3
  have hne:=Td (h.lok s hsm)
  exact⟨⟨fun e=>absurd e hne,fun e=>absurd rfl (h.new q0.1 e q0 (Yj h1))⟩,fun _=>hsm⟩
 ·exact⟨⟨fun _=>hs,fun _=>rfl⟩,fun e=>absurd rfl e⟩
theorem cL.find (h:cL l m limit x L on Lb) {s:List UInt8} (hs:s∈Lb):∃ k,dR (·.1) s x=some k∧x[k]? =some (s,[],(0,0),[]):=by
 have hm:((s,[],(0,0),[]):aa)∈x:=by
  refine h.perm.mem_iff.2 (List.mem_append_right _ ?_)
  unfold news
  exact Yi.2 ⟨s,hs,rfl⟩
 obtain⟨k,hk⟩:=Yh.1 hm
 exact⟨k,Lp h.asc hk rfl,hk⟩
theorem cL.Un (h:cL l m limit x L on Lb) {k:Nat} {q:aa} (hk:x[k]? =some q) (h0:q.2.1=[]):par x k=none:=by
 unfold par
 rw[hk]
 dsimp only
 rw[Zw h0]
theorem cL.Uo (h:cL l m limit x L on Lb) {i:Nat} {q:aa} (hi:x[i]? =some q) (h0:q.2.1≠[]):∃ k,par x i=some k∧dR (·.1) q.2.1 x=some k∧par x k=none:=by
 have hs:=(h.inn (Yj hi)).2 h0
 obtain⟨k,h1,h2⟩:=h.find hs
 refine⟨k, ?_,h1,h.Un h2 rfl⟩
 unfold par
 rw[hi]
 dsimp only
 rw[Zv h0,h1]
theorem cL.anc (h:cL l m limit x L on Lb) {i:Nat} {q:aa} (hi:x[i]? =some q):(q.2.1=[]∧lV x i=[])∨(q.2.1≠[]∧∃ k,dR (·.1) q.2.1 x=some k∧lV x i=[k]):=by
 by_cases h0:q.2.1=[]
 ·exact .inl ⟨h0,L8 (h.Un hi h0)⟩
 ·right
  refine⟨h0, ?_⟩
  obtain⟨k,h1,h2,h3⟩:=h.Uo hi h0
  refine⟨k,h2, ?_⟩
  have hlt:=(XN.1 hi).1
  unfold lV
  obtain⟨f,hf⟩:∃ f,x.length=f+1:=⟨x.length - 1,by omega⟩
  rw[hf,u6 h1,C0 h3]
theorem cL.VG (h:cL l m limit x L on Lb):tV x:=by
 intro k hk ⟨j,hj⟩
 have hq:x[k]? =some x[k]:=XL hk
 by_cases h0:(x[k]).2.1=[]
 ·have hp:=h.Un hq h0
  simp only[itp,hp,Option.bind_none] at hj
  cases hj
 ·obtain⟨k',h1,_,h3⟩:=h.Uo hq h0
  simp only[itp,h1,Y7] at hj
  cases j with
  | zero=>
   simp only[itp,Option.some.injEq] at hj
   subst hj
   rw[h1] at h3;cases h3
  | succ j=>
   simp only[itp,h3,Option.bind_none] at hj
   cases hj
theorem wQ {α:Type} {g:Nat→α→Int}:∀ {l:List α} {i:Nat},(∀ j y,l[j]? =some y→g (i+j) y=0)→cS g i l=0
 | [],_,_=>rfl
 | y::r,i,h=>by
  have h0:g i y=0:=by
   have:=h 0 y rfl
   rwa [YF] at this
  unfold cS
  rw[Zw h0]
  refine wQ fun j z hz=> ?_
  have:=h (j+1) z hz
  rwa [show i+(j+1)=i+1+j by omega] at this
theorem Sh {a:bn} (h:mD a=0):cS (lJ a.2.2.2) 0 a.2.2.2=0:=by
 unfold mD at h
 split at h
 ·omega
 split at h
 ·omega
 split at h
 ·omega
 split at h
 ·omega
 split at h
 ·omega
 omega
theorem cL.Wk (h:cL l m limit x L on Lb):cS (lJ x) 0 x=0:=by
 have h3:cS (lJ l) 0 l=0:=Sh h.adv
 have hold:∀ q∈l,lbl q.1=true∧qOk q.2.2.1 true=true∧vZ q.2.2.2=0:=by
  intro q hq
  obtain⟨i,hi⟩:=Yh.1 hq
  have:=jW h3 i q hi
  unfold lJ at this
  split at this
  ·omega
  rename_i c1
  split at this
  ·omega
  split at this
  ·omega
  rename_i c3
  exact⟨by simpa using c1,by simpa using c3,this⟩
 refine wQ fun i q hi=> ?_
 rw[Y4]
 have hlq:lbl q.1=true∧qOk q.2.2.1 true=true∧vZ q.2.2.2=0:=by
  rcases h.mem (Yj hi) with ⟨i',q0,j,s,h1,h2,h4,rfl⟩ | ⟨s,hs,rfl⟩
  ·exact hold q0 (Yj h1)
  ·exact⟨h.lok s hs,(show qOk (0,0) true=true by decide),(show vZ []=0 from rfl)⟩
 unfold lJ
 rw[Zv (by rw[hlq.1];decide),Zv,Zv (by rw[hlq.2.1];decide)]
 ·exact hlq.2.2
 ·unfold DM
  cases i with
  | zero=>exact WN
  | succ i=>
   dsimp only
   have hlt:=(XN.1 hi).1
   have hp:x[i]? =some x[i]:=XL (by omega)
   rw[hp]
   dsimp only
   have:Op.bytesLess (x[i]).1 q.1=true:=h.asc i (i+1) _ _ (by omega) hp hi
   rw[tX this,WO]
   have hne:q.1≠(x[i]).1:=fun e=>by rw[e,cr] at this;cases this
   simp[hne]
theorem cL.Si (h:cL l m limit x L on Lb):mD ([97],[111],1,x)=0:=by
 have hl:=h.len
 have hp:=h.Wk
 have n1z:J9 x=0:=wQ fun i q hi=>by
  unfold n1
  rw[Zv]
  rintro⟨h1,h2⟩
  obtain⟨k,_,hk,_⟩:=h.Uo hi h1
  rw[hk] at h2;cases h2
 have n2z:Ka x=0:=wQ fun i q hi=>by
  unfold n2
  rw[Zv]
  rw[Y4]
  exact h.VG i (XN.1 hi).1
 have n3z:Tm x=0:=wQ fun i q hi=>by
  unfold n3
  rw[Zv]
  rw[Y4]
  rcases h.anc hi with ⟨_,e⟩ | ⟨_,k,_,e⟩
  ·rw[e];decide
  ·rw[e];simp
 have nz:GB x=0:=by
  unfold GB
  rw[Zv (by omega),Zv (by omega),n3z]
 unfold mD
 dsimp only
 rw[Zv (by decide),Zv (by decide),Zv (by decide),Zv (by omega),Zv (by omega),nz]
def own (t:List UInt8) (q:aa):Bool:=q.1==t||q.2.1==t
theorem cL.bel (h:cL l m limit x L on Lb) {t:List UInt8} (ht:t∈Lb) {i:Nat} {q:aa} (hi:x[i]? =some q):C2 x t i=own t q:=by
 have hlt:=(XN.1 hi).1
 obtain⟨T,hT,hTx⟩:=h.find ht
 have hne:=Td (h.lok t ht)
 unfold C2 own
 rw[Zv hne,hT]
 dsimp only
 have e1:(q.1==t)=decide (i=T):=by
  have:=OA h.asc hT hlt
  rw[Af hi] at this
  by_cases c:i=T
  ·rw[Zo c,Zg];exact this.2 c
  ·rw[Zm c,Zf];exact fun e=>c (this.1 e)
 rw[e1]
 rcases h.anc hi with ⟨h0,e⟩ | ⟨h0,k,hk,e⟩
 ·rw[e,h0]
  have:(([]:List UInt8)==t)=false:=by rw[Zf];exact fun e=>hne e.symm
  rw[this,WX]
  by_cases c:i=T
  ·rw[Zo c,Zo (by rw[c];simp)]
  ·rw[Zm c,Zm (by simp;omega)]
 ·rw[e]
  have e2:(q.2.1==t)=decide (k=T):=by
   by_cases c:q.2.1=t
   ·rw[c] at hk
    have:=hk.symm.trans hT
    rw[Zo (Option.some.inj this),Zg];exact c
   ·rw[Zf.2 c,Zm]
    intro e
    subst e
    obtain⟨y,hy,hy1⟩:=oO hk
    rw[hTx] at hy
    have:=Option.some.inj hy
    rw[← this] at hy1
    exact c hy1.symm
  rw[e2]
  by_cases c:i=T
  ·rw[Zo c,Zo (by rw[c];simp)];rfl
  ·rw[Zm c]
   by_cases c2:k=T
   ·rw[Zo c2,Zo (by rw[c2];simp)];rfl
   ·rw[Zm c2,Zm (by simp;omega)];rfl
def ws (m:List aC) (t:List UInt8) (k:List aa):Int:=(k.map fun q=>if own t q=true then wz m q else 0).sum
theorem TS (m:List aC) (t:List UInt8) (a b:List aa):ws m t (a++b)=ws m t a+ws m t b:=by unfold ws;rw[X6,Yv]
theorem Vt {m:List aC} {t:List UInt8} {a b:List aa} (h:a.Perm b):ws m t a=ws m t b:=OW (h.map _)
theorem TU (m:List aC) (s:List UInt8):wP m [((s,[],(0,0),[]):aa)] 0=some 0:=by
 rw[Ge]
 unfold wC pY
 dsimp only
 rw[Int.zero_mul];rfl
theorem TQ (m:List aC) (q:aa) (s:List UInt8):wP m [(q.1,s,q.2.2)] 0=wP m [q] 0:=by rw[Ge,Ge];rfl
theorem Re (m:List aC) (t:List UInt8):∀ Lb:List (List UInt8),ws m t (news Lb)=0
 | []=>rfl
 | s::r=>by
  have ih:=Re m t r
  unfold ws news at*
  rw[X8,X8,Yw,ih]
  have:wz m ((s,[],(0,0),[]):aa)=0:=by unfold wz;rw[TU];rfl
  rw[this];simp
theorem QO (m:List aC) (t:List UInt8) (x:List aa) (B:Nat→Bool) (hB:∀ i q,x[i]? =some q→B i=own t q):∀ n,n≤x.length→(((xP B n).map fun i=>x.getD i ([],[],(0,0),[])).map (wz m)).sum=ws m t (x.take n)
 | 0,_=>rfl
 | n+1,hn=>by
  have hx:x[n]? =some x[n]:=XL (by omega)
  have ih:=QO m t x B hB n (by omega)
  have hb:=hB n _ hx
  have e:x.getD n ([],[],(0,0),[])=x[n]:=by rw[XE,hx];rfl
  rw[MO,Yy,hx,Option.toList_some,TS, ← ih]
  cases hc:B n with
  | true=>
   rw[Zw rfl,X6,X6,Yv]
   rw[hc] at hb
   unfold ws
   simp only[X8,Ya,Yw,List.sum_nil]
   rw[e,Zw hb.symm]
  | false=>
   rw[Zv (by decide)]
   rw[hc] at hb
   unfold ws
   simp only[X8,Ya,Yw,List.sum_nil]
   rw[Zv (by rw[← hb];decide)]
   omega
theorem Rf (h:cL l m limit x L on Lb) {j:Nat} {t:List UInt8} (ht:Lb[j]? =some t):∀ (r:List aa) (k:Nat),(∀ i q,r[i]? =some q→l[k+i]? =some q)→ws m t (iT Lb on k r)*1000=(((bpc m k r).filter (atJ on j)).map (·.2)).sum
 | [],_,_=>rfl
 | q::r,k,hr=>by
  have hq:l[k]? =some q:=hr 0 q rfl
  have hlt:=(XN.1 hq).1
  have ih:=Rf h ht r (k+1) (fun i q' hq'=>by
   have:=hr (i+1) q' hq'
   rwa [show k+(i+1)=k+1+i by omega] at this)
  obtain⟨j',h1,h2⟩:=h.lo.on k hlt
  have hlb:=h.lbs
  have hs:Lb[j']? =some (Lb[j']'(by omega)):=XL (by omega)
  have eo:vj Lb on k q=(q.1,Lb[j']'(by omega),q.2.2):=by
   unfold vj
   rw[h1,Y7,bA,hs];rfl
  have ew:wz m (vj Lb on k q)=wz m q:=by unfold wz;rw[eo,TQ]
  have eown:own t (vj Lb on k q)=decide (j'=j):=by
   rw[eo]
   unfold own
   dsimp only
   have a1:(q.1==t)=false:=by rw[Zf];exact h.new t (Yj ht) q (Yj hq)
   rw[a1,WO]
   by_cases c:j'=j
   ·subst c
    rw[hs] at ht
    rw[Zo rfl,Zg];exact Option.some.inj ht
   ·rw[Zm c,Zf]
    intro e
    obtain⟨q1,q2⟩:=XN.1 ht
    rcases YR c with hc | hc
    ·exact Yp.1 h.lnd j' j (by omega) q1 hc (by rw[e,q2])
    ·exact Yp.1 h.lnd j j' q1 (by omega) hc (by rw[e,q2])
  have eat:atJ on j (k,wz m q*1000)=decide (j'=j):=by
   unfold atJ
   dsimp only
   rw[h1]
   by_cases c:j'=j
   ·rw[c,Zo rfl];simp
   ·rw[Zm c,Zf]
    intro e
    have:=Option.some.inj e
    omega
  have el:ws m t (iT Lb on k (q::r))=(if own t (vj Lb on k q)=true then wz m (vj Lb on k q) else 0)+ws m t (iT Lb on (k+1) r):=rfl
  rw[el,Int.add_mul,ih,eown,ew,show bpc m k (q::r)=(k,wz m q*1000)::bpc m (k+1) r from rfl,XA,eat]
  by_cases c:j'=j
  ·rw[Zo c,Zw rfl,Zw rfl,X8,Yw]
  ·rw[Zm c,Zv (by decide),Zv (by decide)];omega
theorem cL.load (h:cL l m limit x L on Lb) {j:Nat} {t:List UInt8} (ht:Lb[j]? =some t):∃ z S:Int,L[j]? =some z∧z=S*1000∧GL ([97],[111],1,x) m t=tell (some S):=by
 have hj:=(XN.1 ht).1
 have hlb:=h.lbs
 have hz:L[j]? =some (L[j]'(by omega)):=XL (by omega)
 refine⟨L[j]'(by omega),ws m t x,hz, ?_, ?_⟩
 ·rw[h.lo.sum j _ hz,Vt h.perm,TS,Re,Int.add_zero]
  exact (Rf h ht l 0 (fun i q hq=>by rw[Y4];exact hq)).symm
 ·have htm:=Yj ht
  obtain⟨T,hT,_⟩:=h.find htm
  unfold GL
  rw[h.Si,Zv (by decide),h.mass,Zv (by decide)]
  dsimp only
  rw[Zw (.inr (by rw[hT];rfl))]
  have hsome:∀ q∈lot x (C2 x t),(wP m [q] 0).isSome=true:=by
   intro q hq
   unfold lot at hq
   obtain⟨i,hi,rfl⟩:=Yi.1 hq
   have hlt:=Q8 hi
   rw[XE,aG hlt]
   show (wP m [x[i]] 0).isSome=true
   rcases h.mem (XW hlt) with ⟨i',q0,j',s,h1,h2,h3,e⟩ | ⟨s,hs,e⟩
   ·rw[e,TQ];exact (h.wts q0 (Yj h1)).1
   ·rw[e,TU];rfl
  rw[TR m _ 0 hsome,Int.zero_add]
  unfold lot
  rw[QO m t x (C2 x t) (fun i q hq=>h.bel htm hq) x.length (YM _),List.take_length]
theorem Sf (S:Int):(∃ d,tell (some S)=(d,1,()))∨∃ d,tell (some S)=(d,0,())∧bY d∧v9 d=S*1000:=by
 unfold tell
 dsimp only
 obtain⟨h1,h2,h3⟩:=QF 6 S
 by_cases hb:(few 6 S).1.natAbs≤1000000000000000
 ·right
  rw[Zw hb]
  refine⟨_,rfl,⟨hb,by omega,by omega⟩, ?_⟩
  unfold v9
  dsimp only
  rw[show ((9:Int) - ((few 6 S).2:Int)).toNat=(6 - (few 6 S).2)+3 by omega,Xa, ← W3,h2]
  rfl
 ·left
  rw[Zv hb]
  exact⟨_,rfl⟩
theorem HT (l:List ai) (hl:l.length≤1000000) (hok:∀ d∈l,bY d):vm l=some (N (lP l),()):=by
 have h:=OZ l hl hok
 unfold F0 at h
 cases hq:vm l with
 | none=>rw[hq] at h;cases h
 | some r=>
  rw[hq,Y7] at h
  obtain⟨a,u⟩:=r
  exact h
theorem UY {limit w:ai} (hlim:bY limit) (hw:bY w) (ws:List ai) (hws:∀ v∈ws,bY v∧v9 limit<v9 v+v9 w) (hwl:ws.length≤1000) (l:List aa) (m:List fm) (c1 c2:Int) (s1 s2:List UInt8) (c3:Int) (x:List aa) (f:Nat) (hf:ws.length<f):
 iter (X:=ff) (β:=gI) f (l,m,c1,c2,(ws.length:Int),0,limit.1,limit.2,s1,s2,c3,w.1,w.2,ws,x,()) gH
  =some (Sum.inr (l,m,ws,c1,c2,limit.1,limit.2,s1,s2,c3,w.1,w.2,x,())):=by
 refine bJ (Inv:=fun i X=>X=((l,m,c1,c2,(ws.length:Int),(i:Int),limit.1,limit.2,s1,s2,c3,w.1,w.2,ws,x,()):ff)) ws.length (fun r=>r=some (Sum.inr (l,m,ws,c1,c2,limit.1,limit.2,s1,s2,c3,w.1,w.2,x,()))) ?_ ?_ f 0 _ rfl (Y5 _) (by omega)
 ·rintro i X again hi rfl hag
  unfold gH
  dsimp only
  have hy:ws[i]? =some ws[i]:=XL hi
  obtain⟨hd,hlt⟩:=hws ws[i] (XW hi)
  have hw':bY (w.1,w.2):=hw
  have hl':bY (limit.1,limit.2):=hlim
  have k1:∀ d∈[ws[i],(w.1,w.2)],bY d:=fun d hd'=>by
   rcases Yc.1 hd' with rfl | hd'
   ·exact hd
   ·rw[Ym.1 hd'];exact hw'
  have k2:∀ d∈[((limit.1,limit.2):ai)],bY d:=fun d hd'=>by rw[Ym.1 hd'];exact hl'
  have n1:=Pc (by simp) k1
  have n2:=Pc (by simp) k2
  rw[az (by omega),aH (by rw[WJ];exact⟨Zo (by omega),Zo (by omega)⟩),Xg,hy,Y7,HT _ (by simp) k1,Y7,HT _ (by simp) k2,Y7]
  dsimp only
  rw[MJ _ _ (by omega) (by omega),Y7]
  dsimp only
  have e1:lP [ws[i],(w.1,w.2)]=v9 ws[i]+v9 w:=by
   unfold lP
   simp only[X8,Ya,Yw,List.sum_nil,Int.add_zero]
   rfl
  have e2:lP [((limit.1,limit.2):ai)]=v9 limit:=by
   unfold lP
   simp only[X8,Ya,Yw,List.sum_nil,Int.add_zero]
   rfl
  rw[e1,e2,Xd (by omega),aA (by decide),aj (n:=(i:Int)+1) (by omega) (by omega)]
  exact hag _ rfl
 ·rintro X again rfl
  unfold gH
  dsimp only
  rw[aA (by omega)]
def Seen (L:List Int) (Lb:List (List UInt8)) (x:List aa) (i:Nat) (v:ai):Prop:=bY v∧∃ (i' j':Nat) (z:Int),i'<i∧Lb[j']? =some (lab x i')∧L[j']? =some z∧v9 v=z
theorem VI (h:cL l m limit x L on Lb) (hfx:CY ([97],[111],1,x)):∀ (d i f:Nat) (ws:List ai),i+d=x.length→d<f→ws.length≤i→(∀ v∈ws,Seen L Lb x i v)→
 (iter (X:=fD) (β:=fC) f (l,m,ws,(x.length:Int),(i:Int),limit.1,limit.2,[97],[111],1,x,()) dI=some (Sum.inr ()))
 ∨iter (X:=fD) (β:=fC) f (l,m,ws,(x.length:Int),(i:Int),limit.1,limit.2,[97],[111],1,x,()) dI=some (Sum.inl (true,())):=by
 have BZ:maxLen=9223372036854775807:=rfl
 have hxl:=h.len
 have hll:=(vE h.adv).len
 dsimp only at hll
 intro d
 induction d with
 | zero=>
  intro i f ws hi hf hw hs
  have:i=x.length:=by omega
  subst this
  obtain⟨f,rfl⟩:∃ m,f=m+1:=⟨f - 1,by omega⟩
  left
  rw[bF]
  unfold dI
  dsimp only
  rw[aA (by omega)]
 | succ d ih=>
  intro i f ws hi hf hw hs
  obtain⟨f,rfl⟩:∃ m,f=m+1:=⟨f - 1,by omega⟩
  have hq:x[i]? =some x[i]:=XL (by omega)
  have hqm:x[i]∈x:=XW (by omega)
  generalize x[i]=q at hq hqm
  obtain⟨in1,in2⟩:=h.inn hqm
  have hat:Kt l q.1=some (ixI (dR (·.1) q.1 l),()):=by
   unfold Kt
   rw[Ku _ _ (by omega),Y7]
  have hin:decide (ixI (dR (fun p:aa=>p.1) q.1 l)<0)=(q.2.1==[]):=by
   by_cases h0:q.2.1=[]
   ·have hnew:=in1.1 h0
    rw[h0]
    cases hx:dR (fun p:aa=>p.1) q.1 l with
    | none=>rfl
    | some k=>
     obtain⟨y,hy,hy1⟩:=oO hx
     exact absurd hy1 (h.new q.1 hnew y (Yj hy))
   ·rcases h.mem hqm with ⟨i',q0,j,s,h1,h2,h3,e⟩ | ⟨s,hs,e⟩
    ·have:(q.2.1==[])=false:=by rw[Zf];exact h0
     rw[this]
     cases hx:dR (fun p:aa=>p.1) q.1 l with
     | none=>exact absurd (by rw[e]) (Mt hx q0 (Yj h1))
     | some k=>rw[Zn];show ¬((k:Int)<0);omega
    ·rw[e] at h0;exact absurd rfl h0
  rw[bF]
  generalize hag:(fun y=>iter f y dI)=again
  unfold dI
  dsimp only
  rw[az (by omega),aH (by rw[WJ];exact⟨Zo (by omega),Zo (by omega)⟩),Xg,hq,Y7,hat,Y7]
  dsimp only
  rw[hin,Zh,WU,Zj,aj (n:=(i:Int)+1) (by omega) (by omega), ← hag,show (i:Int)+1=((i+1:Nat):Int) by omega]
  by_cases h0:q.2.1=[]
  rotate_left
  ·rw[show (!(q.2.1==[]))=true by simp[h0],Zk]
   refine ih (i+1) f ws (by omega) (by omega) (by omega) ?_
   rintro v hv
   obtain⟨a,i',j',z,b1,b2⟩:=hs v hv
   exact⟨a,i',j',z,by omega,b2⟩
  rw[show (!(q.2.1==[]))=false by simp[h0],Zj]
  have hnew:=in1.1 h0
  obtain⟨j,hj⟩:=Yh.1 hnew
  obtain⟨z,S,hz,hzS,hwt⟩:=h.load hj
  rw[IZ _ hfx,Y7,hwt]
  rcases Sf S with ⟨w,e⟩ | ⟨w,e,hwd,hwv⟩
  ·right
   rw[e];rfl
  rw[e]
  dsimp only
  have hle:v9 w≤v9 limit:=by
   have:=h.lo.le z (Yj hz)
   omega
  have hatm:wI w (limit.1,limit.2)=some (decide (v9 w≤v9 limit),()):=Ng hwd h.dec
  rw[show ((0:Int)==1)=false from rfl,Zj,show ((0:Int) != 0)=false from rfl,Zj,hatm,Y7]
  dsimp only
  rw[Zo hle,WU,Zj]
  have hws:∀ v∈ws,bY v∧v9 limit<v9 v+v9 w:=by
   intro v hv
   obtain⟨a,i',j',z',b1,b2,b3,b4⟩:=hs v hv
   refine⟨a, ?_⟩
   have hlabi:lab x i'≠q.1:=by
    have hi':x[i']? =some x[i']:=XL (by omega)
    rw[Af hi']
    intro e
    have:Op.bytesLess (x[i']).1 q.1=true:=h.asc i' i _ _ b1 hi' hq
    rw[e,cr] at this;cases this
   have hjj:j'≠j:=fun e=>by
    subst e
    rw[b2] at hj
    exact hlabi (Option.some.inj hj)
   have hwz:v9 w=z:=by omega
   rcases YR hjj with c | c
   ·have:=h.lo.pair j' j z' z c b3 hz
    omega
   ·have:=h.lo.pair j j' z z' c hz b3
    omega
  rw[UY h.dec hwd ws hws (by omega) l m (x.length:Int) (i:Int) [97] [111] 1 x _ (by with_reducible repeat (first | exact Nat.zero_lt_two | refine Nat.lt_add_of_pos_right ?_ | refine Nat.lt_add_left _ ?_)),aF]
  dsimp only
  rw[aH (by rw[WJ];exact⟨Zo (by omega),Zo (by omega)⟩),aj (n:=(i:Int)+1) (by omega) (by omega),show (i:Int)+1=((i+1:Nat):Int) by omega]
  refine ih (i+1) f (ws++[(w.1,w.2)]) (by omega) (by omega) (by simp;omega) ?_
  intro v hv
  rcases Yb.1 hv with hv | hv
  ·obtain⟨a,i',j',z',b1,b2⟩:=hs v hv
   exact⟨a,i',j',z',by omega,b2⟩
  ·rw[Ym.1 hv]
   exact⟨hwd,i,j,z,by omega,by rw[Af hq];exact hj,hz,by show v9 w=z;omega⟩
theorem cL.fit (h:cL l m limit x L on Lb) (hf:CY ([97],[97],1,l)):CY ([97],[111],1,x):=by
 intro q hq
 rcases h.mem hq with ⟨i,q0,j,s,h1,h2,h3,rfl⟩ | ⟨s,hs,rfl⟩
 ·exact hf q0 (Yj h1)
 ·have:=QN (h.lok s hs)
  show s.length≤_
  omega
theorem HM:BC=some (true,()):=by kernel_rfl
theorem law_ParcelStacksAreLight (l:List aa) (m:List fm) (limit:ai) (p:List UInt8) (n:Int) (hf:CY ([97],[97],1,l)):jc l m limit p n=some (true,()):=by
 unfold jc
 rcases Qt l m limit p n hf with ⟨e,he,h⟩ | ⟨x,L,on,Lb,h,hS⟩
 ·rw[h,Y7]
  dsimp only
  rw[show (e != 0)=true by simpa using he,Zk,HM]
  rfl
 rw[h,Y7]
 dsimp only
 have hfx:=hS.fit hf
 rw[show ((0:Int) != 0)=false from rfl,Zj,kO _ hfx,Y7,hS.Si]
 dsimp only
 rw[show ((0:Int) != 0)=false from rfl,Zj,HM,Y7]
 dsimp only
 rw[WU,Zj]
 have ho:=VI hS hfx x.length 0 (List.length l+(List.length m+(List.length ([]:List ai)+(Int.natAbs ((List.length x:Int))+(Int.natAbs (0:Int)+(Int.natAbs limit.1+(Int.natAbs limit.2+(List.length [(97:UInt8)]+(List.length [(111:UInt8)]+(Int.natAbs (1:Int)+(List.length x+2))))))))))) [] (by omega) (by omega) (YM _) (fun v hv=>by cases hv)
 rcases ho with h1 | h1
 ·exact (congrArg (fun q=>aO q _) h1).trans rfl
 ·exact (congrArg (fun q=>aO q _) h1).trans rfl
end Go.Md
