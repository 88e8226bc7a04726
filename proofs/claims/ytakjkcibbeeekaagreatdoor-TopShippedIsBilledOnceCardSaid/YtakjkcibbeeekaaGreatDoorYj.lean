/-
  Plain facts, a part. No condition.
-/
import Derived.Test.YtakjkcibbeeekaaGreatDoorYf
import Derived.Test.YtakjkcibbeeekaaGreatDoorYi
set_option linter.all false
namespace Go.Md
open Go.Dn
theorem zne:((0:Int) != 0)=false:=rfl
def fk {α:Type} (g:Nat->α->Int):Nat->List α->Int
 | _,[]=>0
 | i,y::r=>if g i y=0 then fk g (i+1) r else g i y
theorem iN {α:Type} {g:Nat->α->Int}:∀ {l:List α} {i:Nat},fk g i l=0->∀ j y,l[j]? =some y->g (i+j) y=0
 | [],_,_,_,_,h=>by simp at h
 | y::r,i,h,j,z,hz=>by
  simp only[fk] at h
  by_cases hg:g i y=0
  ·rw[ajZ hg] at h
   cases j with
   | zero=>simp at hz;subst hz;exact hg
   | succ j=>have:=iN h j z (by simpa using hz);rw[show i+(j+1)=i+1+j by omega];exact this
  ·rw[ajY hg] at h;exact absurd h hg
theorem VV {X α:Type} {γ:Type} {f:X->(X->Option ((Int×Unit) ⊕ γ))->Option ((Int×Unit) ⊕ γ)} (mk:Nat->X) (l:List α) (g:Nat->α->Int) (u:γ) (hstep:∀ i y again,l[i]? =some y->f (mk i) again=if g i y=0 then again (mk (i+1)) else some (Sum.inl (g i y,()))) (hend:∀ again,f (mk l.length) again=some (Sum.inr u)): ∀ (r:List α) (i n:Nat),l.drop i=r->i<=l.length->r.length<n->iter n (mk i) f=if fk g i r=0 then some (Sum.inr u) else some (Sum.inl (fk g i r,()))
 | _,_,0,_,_,hn=>absurd hn (ajs _)
 | [],i,n+1,hd,hi,_=>by
  have:i=l.length:=by
   have:=congrArg List.length hd
   simp at this;omega
  subst this
  rw[bR,hend];rfl
 | y::r,i,n+1,hd,hi,hn=>by
  have hy:l[i]? =some y:=by
   have:=congrArg (·[0]?) hd
   simpa [ah7] using this
  have hr:l.drop (i+1)=r:=by
   have:=congrArg List.tail hd
   simpa [aiU] using this
  have hi':i<l.length:=(aia.1 hy).1
  rw[bR,hstep i y _ hy]
  by_cases hg:g i y=0
  ·have e:fk g i (y::r)=fk g (i+1) r:=by simp[fk,hg]
   rw[ajZ hg,e]
   exact VV mk l g u hstep hend r (i+1) n hr hi' (by simp at hn;omega)
  ·have e:fk g i (y::r)=g i y:=by simp[fk,hg]
   rw[ajY hg,e,ajY hg]
theorem cG (a b c:Int):b8 a b c=some (decide (a<b\/c<a),()):=by
 unfold b8
 by_cases h:a<b
 ·rw[aB h];simp[h]
 ·rw[az h];simp[h]
theorem qO (n:Int):oc n=some (decide (1<=n/\n<=3652059),()):=by
 unfold oc
 rw[cG,ajA]
 congr 2
 simp only[<- decide_not]
 congr 1
 simp only[eq_iff_iff];omega
def bF (s:Bys):Bool:=((bZ s).map (·.1)).getD false
theorem gH (s:Bys):bZ s=some (bF s,()):=by
 have:∃ b,bZ s=some (b,()):=by
  unfold bZ
  by_cases h1:(s.length:Int)<1
  ·rw[aB h1];exact⟨_,rfl⟩
  ·rw[az h1]
   by_cases h2:(s.length:Int)>40
   ·rw[aB h2];exact⟨_,rfl⟩
   ·rw[az h2]
    have hs:BV s 0=some (s[0]'(by omega)):=by simp[BV]
    rw[hs]
    simp only[ajA]
    have ht:vC s [97,98,99,100,101,102,103,104,105,106,107,108,109,110,111,112,113,114,115,116,117,118,119,120,121,122,48,49,50,51,52,53,54,55,56,57,45]=some (Lib.trimS s [97,98,99,100,101,102,103,104,105,106,107,108,109,110,111,112,113,114,115,116,117,118,119,120,121,122,48,49,50,51,52,53,54,55,56,57,45],()):=by
     unfold vC
     rw[show (decide (s.length<=9223372036854775807))=true by simp;omega]
     rfl
    rw[ht]
    simp only[ajA]
    generalize (decide ((((s[0]'(by omega)).toNat:Int))<97))=b1
    generalize (decide ((((s[0]'(by omega)).toNat:Int))>122))=b2
    cases b1<;>cases b2<;>exact⟨_,rfl⟩
 obtain⟨b,hb⟩:=this
 unfold bF
 rw[hb];rfl
theorem I3 (d:ah):cc d=some (if -1000000000000000<=d.1/\d.1<=1000000000000000/\0<=d.2/\d.2<=9 then 0 else 1,()):=by
 unfold cc
 rw[cG,ajA,cG]
 simp only[ajA]
 by_cases h1:d.1< -1000000000000000\/1000000000000000<d.1
 ·rw[aB h1,ajY (by omega)]
 ·rw[az h1]
  by_cases h2:d.2<0\/9<d.2
  ·rw[aB h2,ajY (by omega)]
  ·rw[az h2,ajZ (by omega)]
theorem ad5 {n:Nat} (h:n<=18):(10:Int) ^ n<=1000000000000000000:=by
 have:=ajv (n:=10) (by omega) h
 have h2:=ahu.2 this
 simpa using h2
theorem Fi (n:Nat):(0:Int)<10 ^ n:=YF (by omega) n
theorem Mw (n:Int) (h0:0<=n) (h1:n<=18):Gi n=some (10 ^ n.toNat,()):=by
 obtain⟨m,rfl⟩:∃ m:Nat,n=m:=⟨n.toNat,by omega⟩
 unfold Gi
 have:iter (X:=Bt) (β:=Br) (Int.natAbs (1:Int)+(Int.natAbs (m:Int)+(Int.natAbs (0:Int)+2))) (1,(m:Int),0,()) Bq=some (Sum.inr (10 ^ m,())):=by
  refine bX (Inv:=fun i x=>x=(10 ^ i,(m:Int),(i:Int),())) m (fun r=>r=some (Sum.inr (10 ^ m,()))) ?_ ?_ _ 0 _ (by simp) (by omega) (by omega)
  ·rintro i _ again hi rfl ih
   unfold Bq
   dsimp only
   have h10:=ad5 (n:=i+1) (by omega)
   have hp:=Fi (i+1)
   rw[ahx] at h10 hp
   rw[aB (by omega),ax (by omega) (by omega),ax (by omega) (by omega)]
   exact ih _ (by rw[ahx];rfl)
  ·rintro _ again rfl
   unfold Bq
   dsimp only
   rw[az (by omega)]
 rw[this,aS]
 simp
theorem Sj (d:ah) (most:Int) (h0:0<=d.2) (h1:d.2<=9) (hm0:0<=most) (hm1:most<=1000000000):gJ d most=some (decide (-(most*10 ^ d.2.toNat)<=d.1/\d.1<=most*10 ^ d.2.toNat),()):=by
 unfold gJ
 rw[Mw _ h0 (by omega),ajA]
 dsimp only
 have hp:=Fi d.2.toNat
 have hq:(10:Int) ^ d.2.toNat<=1000000000:=by
  have:=ajv (n:=10) (by omega) (show d.2.toNat<=9 by omega)
  have h2:=ahu.2 this
  simpa using h2
 have h3:most*10 ^ d.2.toNat<=1000000000*1000000000:=by
  have a1:most*10 ^ d.2.toNat<=1000000000*10 ^ d.2.toNat:=Int.mul_le_mul_of_nonneg_right hm1 (by omega)
  omega
 have h4:0<=most*10 ^ d.2.toNat:=ahr hm0 (by omega)
 rw[ax (n:=most*10 ^ d.2.toNat) (by omega) (by omega),ax (by omega) (by omega),cG,ajA]
 congr 2
 simp only[<- decide_not]
 congr 1
 simp only[eq_iff_iff];omega
def aeo (d:ah):Prop:=0<d.1/\0<=d.2/\d.2<=4/\d.1<=1000000000*10 ^ d.2.toNat
instance (d:ah):Decidable (aeo d):=by unfold aeo;exact inferInstance
end Go.Md
namespace Go.Md
open Go.Dn
theorem zg {k v:Ty} (p:k.den×v.den) (m:List (k.den×v.den)) (n:k.den):dN (p::m) n=bif k.beq n p.1 then some p.2 else dN m n:=by
 unfold dN
 rw[ahX]
 cases k.beq n p.1<;>rfl
theorem OC {k v:Ty} (p:k.den×v.den) (m:List (k.den×v.den)) (x:k.den) (y:v.den):jG (p::m) x y=bif k.beq x p.1 then (x,y)::m else p::jG m x y:=rfl
theorem OB {k v:Ty} (hb:∀ a b:k.den,k.beq a b=true↔a=b) (m:List (k.den×v.den)) (x:k.den) (y:v.den) (n:k.den):dN (jG m x y) n=bif k.beq x n then some y else dN m n:=by
 have hcomm:∀ a b:k.den,k.beq a b=k.beq b a:=fun a b=>by
  rw[ag5,hb,hb];exact eq_comm
 induction m with
 | nil=>
  change dN [(x,y)] n=_
  rw[zg,hcomm n x]
 | cons p m ih=>
  rw[OC]
  cases hp:k.beq x p.1 with
  | true=>
   rw[ajO,zg,zg,hcomm n p.1, <- (hb _ _).1 hp,hcomm n x]
   cases k.beq x n<;>rfl
  | false=>
   rw[ajN,zg,zg,ih]
   cases hn:k.beq n p.1 with
   | true=>
    have:k.beq x n=false:=by
     cases h:k.beq x n with
     | false=>rfl
     | true=>rw[(hb _ _).1 h,hn] at hp;cases hp
    rw[this];rfl
   | false=>rfl
end Go.Md
namespace Go.Md
open Go.Dn
def few:Nat->Int->Int×Nat
 | 0,z=>(z,0)
 | p+1,z=>if z % 10=0 then few p (z / 10) else (z,p+1)
theorem mR:∀ (p:Nat) (z:Int),(few p z).2<=p/\(few p z).1*10 ^ (p - (few p z).2)=z/\(few p z).1.natAbs<=z.natAbs
 | 0,z=>by simp[few]
 | p+1,z=>by
  unfold few
  split
  ·rename_i h
   obtain⟨h1,h2,h3⟩:=mR p (z / 10)
   refine⟨by omega, ?_,by omega⟩
   rw[show p+1 - (few p (z / 10)).2=(p - (few p (z / 10)).2)+1 by omega,ahx, <- aho,h2]
   omega
  ·simp
theorem Ue (z:Int) (p:Int):ug (W z) p=some (if z.natAbs<=1000000000000000 then ((z,p),0,()) else ((0,0),1,())):=by
 unfold ug
 rw[H9 z 1000000000000000 (by omega) (by omega),ajA]
 by_cases h:(z.natAbs:Int)<=1000000000000000
 ·rw[ajZ h,ajZ (by omega)];rfl
 ·rw[ajY h,ajY (by omega)];rfl
theorem vX (z:Int) (hz:z.natAbs<4294967296 ^ 99) (p:Nat) (hp:p<=1000):mY (W z) (p:Int)=some (if (few p z).1.natAbs<=1000000000000000 then (((few p z).1,((few p z).2:Int)),0,()) else ((0,0),1,())):=by
 unfold mY
 rw[l9 10 (by omega) (by omega),ajA]
 dsimp only
 have loop:∀ (n:Nat) (z:Int) (p:Nat),z.natAbs<4294967296 ^ 99->p<=1000->p<n->iter (X:=vZ) (β:=vY) n ((p:Int),(W z).1,(W z).2,0,0,(W 10).1,(W 10).2,()) vW=some (Sum.inr (((few p z).2:Int),(W (few p z).1).1,(W (few p z).1).2,0,0,())):=by
  intro n
  induction n with
  | zero=>intro z p _ _ h;omega
  | succ n ih=>
   intro z p hz hp hn
   rw[bR]
   generalize hag:(fun y=>iter n y vW)=again
   unfold vW
   dsimp only
   cases p with
   | zero=>rw[az (by omega)];rfl
   | succ p=>
    have e10:(10:Int).natAbs=10:=rfl
    rw[aB (by omega)]
    change (Option.bind (zS (W z) (W 10)) _)=_
    rw[T7 z 10 hz (by rw[e10];exact ajh (by omega) (ajv (n:=4294967296) (by omega) (show 1<=99 by omega))) (by omega),ajA]
    dsimp only
    rw[jT,ajA]
    dsimp only
    rw[e10]
    by_cases hm:z % 10=0
    ·have hm2:z.natAbs % 10=0:=by omega
     rw[hm2,show ((((0:Nat):Int).sign) != 0)=false from rfl,ajN]
     change (Option.bind (fP (W z)) _)=_
     rw[jT,ajA]
     dsimp only
     have hf:few (p+1) z=few p (z / 10):=by simp[few,hm]
     rw[hf]
     have hz':(z / 10).natAbs<4294967296 ^ 99:=ajg (by omega) hz
     by_cases hneg:z<0
     ·rw[aB (by rw[ahy hneg];omega),Fy _ (by simp only[ahs];exact ajg (Nat.div_le_self _ _) hz),ajA]
      dsimp only
      rw[show -((z.natAbs / 10:Nat):Int)=z / 10 by omega,ax (by omega) (by omega),show ((p+1:Nat):Int) - 1=(p:Int) by omega, <- hag]
      exact ih (z / 10) p hz' (by omega) (by omega)
     ·rw[az (by
       rcases (show z=0\/0<z by omega) with h | h
       ·subst h;decide
       ·rw[ahz h];omega),show ((z.natAbs / 10:Nat):Int)=z / 10 by omega,ax (by omega) (by omega),show ((p+1:Nat):Int) - 1=(p:Int) by omega, <- hag]
      exact ih (z / 10) p hz' (by omega) (by omega)
    ·have hm2:0<z.natAbs % 10:=by omega
     have:(((z.natAbs % 10:Nat):Int).sign != 0)=true:=by
      rw[ahz (by omega)];rfl
     rw[this,ajO]
     have hf:few (p+1) z=(z,p+1):=by simp[few,hm]
     rw[hf]
 have:=loop (Int.natAbs (p:Int)+(List.length (W z).2+(Int.natAbs (0:Int)+(Int.natAbs (0:Int)+(List.length (W 10).2+2))))) z p hz hp (by omega)
 rw[this,aS]
 dsimp only
 change (Option.bind (ug (W (few p z).1) ((few p z).2:Int)) _)=_
 rw[Ue,ajA]
def nJ (d:ah):Int:=d.1*10 ^ (9 - d.2).toNat
def cm (d:ah):Prop:=d.1.natAbs<=1000000000000000/\0<=d.2/\d.2<=9
end Go.Md
namespace Go.Md
open Go.Dn
theorem RU {s:Bys} {i:Nat} {c:UInt8} (h:s[i]? =some c):BV s (i:Int)=some c:=by simp[BV,h]
instance (d:ah):Decidable (cm d):=by unfold cm;infer_instance
end Go.Md
namespace Go.Md
open Go.Dn
theorem Vx (a b:List Int):JI a b=FA a b:=rfl
theorem pO (x y:Int) (hx:x.natAbs<4294967296 ^ 99) (hy:y.natAbs<4294967296 ^ 99):gQ (W x) (W y)=some (W (x+y),()):=by
 have hlx:=wk hx
 have hly:=wk hy
 unfold gQ W
 dsimp only
 by_cases hs:decide (x<0)=decide (y<0)
 ·rw[show (decide (x<0)==decide (y<0))=true by simp[hs],ajO,Vx]
  obtain⟨s,h1,h2,h3,h4⟩:=O8 (bH x.natAbs) (bH y.natAbs) (fM _) (fM _) (by omega) (by omega)
  rw[h1,ajA]
  dsimp only
  rw[nh _ _ h2 (by omega),ajA,h3,fJ,fJ]
  simp only[ajP] at hs
  show some (W _,())=some (W (x+y),())
  congr 3
  by_cases h:x<0
  ·simp only[h,ajU,aj0];omega
  ·simp only[h,ajT,ag6,ajX];omega
 ·rw[show (decide (x<0)==decide (y<0))=false by simp[hs],ajN]
  obtain⟨c,h1,h2,h3⟩:=Ia x.natAbs y.natAbs (by omega) (by omega)
  rw[h1,ajA]
  dsimp only
  simp only[ajP] at hs
  have hlen:∀ a b:Nat,b<=a->(bH b).length<=(bH a).length:=fun a b h=>by
   rcases ajj (bH a).length (bH b).length with h' | h'
   ·have:=qy h';omega
   ·exact h'
  by_cases hc:c>=0
  ·rw[aB hc,FV _ _ (fM _) (fM _) (by omega) (hlen _ _ (by omega)) (by rw[fJ,fJ];omega),ajA]
   dsimp only
   rw[nh _ _ (fM _) (by have:=hlen x.natAbs (v32 (bH x.natAbs) - v32 (bH y.natAbs)).toNat (by rw[fJ,fJ];omega);omega),ajA]
   rw[fJ,fJ,fJ]
   show some (W _,())=some (W (x+y),())
   congr 3
   by_cases h:x<0
   ·simp only[h,ajU,aj0];omega
   ·simp only[h,ajT,ag6,ajX];omega
  ·rw[az hc,FV _ _ (fM _) (fM _) (by omega) (hlen _ _ (by omega)) (by rw[fJ,fJ];omega),ajA]
   dsimp only
   rw[nh _ _ (fM _) (by have:=hlen y.natAbs (v32 (bH y.natAbs) - v32 (bH x.natAbs)).toNat (by rw[fJ,fJ];omega);omega),ajA]
   rw[fJ,fJ,fJ]
   show some (W _,())=some (W (x+y),())
   congr 3
   by_cases h:y<0
   ·simp only[h,ajU,aj0];omega
   ·simp only[h,ajT,ag6,ajX];omega
theorem pN (x y:Int) (hx:x.natAbs<4294967296 ^ 99) (hy:y.natAbs<4294967296 ^ 99):lV (W x) (W y)=some (W (x - y),()):=by
 unfold lV
 rw[Fy y hy,ajA]
 dsimp only
 rw[pO x (-y) hx (by omega),ajA,Int.sub_eq_add_neg]
theorem wV (x y:Int) (hx:x.natAbs<4294967296 ^ 99) (hy:y.natAbs<4294967296 ^ 99):jS (W x) (W y)=some ((x - y).sign,()):=by
 unfold jS
 rw[pN x y hx hy,ajA]
 dsimp only
 rw[jT,ajA]
theorem ZJ {x y z c:Int} (hx:0<=x/\x<4294967296) (hy:0<=y/\y<4294967296) (hz:0<=z/\z<4294967296) (hc:0<=c/\c<4294967296):0<=x*y/\x*y<=18446744065119617025/\c+(z+x*y)<=18446744073709551615:=by
 have h1:0<=x*y:=ahr hx.1 hy.1
 have h2:x*y<=4294967295*4294967295:=Int.mul_le_mul (by omega) (by omega) (by omega) (by omega)
 omega
theorem Qk (i:Nat) (x:Int) (ga:List Int) (gn gi:Int) (b:List Int) (s1:Bool) (l1:List Int) (s2:Bool) (l2:List Int) (s3:Bool) (l3:List Int) (out:List Int) (hx:0<=x/\x<4294967296) (hb:Dg b) (hbl:b.length<10000) (hil:i<10000) (ho:i+b.length<=out.length) (hol:out.length<100000) (hd:Dg out) (n:Nat) (hn:b.length<n): ∃ o c,iter n (((i:Int),x,(0:Int),ga,gn,gi,b,(b.length:Int),(0:Int),s1,l1,s2,l2,s3,l3,out,()):ox) ud=some (Sum.inr ((i:Int),c,ga,gn,gi,s1,l1,s2,l2,s3,l3,o,()))/\ Dg o/\o.length=out.length/\0<=c/\c<4294967296/\v32 o+4294967296 ^ (i+b.length)*c=v32 out+4294967296 ^ i*x*v32 b/\∀ j,i+b.length<=j->o[j]? =out[j]? :=by
 refine bX (Inv:=fun k X=>∃ o c,X=(((i:Int),x,c,ga,gn,gi,b,(b.length:Int),(k:Int),s1,l1,s2,l2,s3,l3,o,()):ox)/\Dg o/\o.length=out.length/\0<=c/\c<4294967296/\v32 o+4294967296 ^ (i+k)*c=v32 out+4294967296 ^ i*x*v32 (b.take k)/\∀ j,i+k<=j->o[j]? =out[j]?) b.length
  (fun r=>∃ o c,r=some (Sum.inr ((i:Int),c,ga,gn,gi,s1,l1,s2,l2,s3,l3,o,()))/\Dg o/\o.length=out.length/\0<=c/\c<4294967296/\v32 o+4294967296 ^ (i+b.length)*c=v32 out+4294967296 ^ i*x*v32 b/\∀ j,i+b.length<=j->o[j]? =out[j]?) ?_ ?_ n 0 _ ⟨out,0,rfl,hd,rfl,by omega,by omega,by simp[Ev],fun _ _=>rfl⟩ (by omega) (by omega)
 ·rintro k _ again hk ⟨o,c,rfl,h1,h2,h3,h4,h5,h6⟩ ih
  unfold ud
  dsimp only
  have hy:b[k]? =some b[k]:=aJ hk
  have hyd:=hb.get hy
  have hts:=kW hy
  have hz:o[i+k]? =some (o[i+k]'(by omega)):=aJ (by omega)
  have hzd:=h1.get hz
  generalize b[k]=y at hy hyd hts
  generalize o[i+k]'(by omega)=z at hz hzd
  obtain⟨m1,m2,m3⟩:=ZJ hx hyd hzd ⟨h3,h4⟩
  have e1:w64 ((i:Int)+(k:Int))=((i+k:Nat):Int):=by rw[ax (by omega) (by omega)];omega
  rw[aB (by omega),bq,hy,ajA,e1,bg (by simp only[ag1,ajS];omega),ahC,hz,ajA,bg (by simp only[ag1,ajS];omega),ajA,
   dW (n:=x) (by omega) (by omega),dW (n:=y) (by omega) (by omega),dW (n:=z) (by omega) (by omega),dW (n:=x*y) (by omega) (by omega),dW (n:=z+x*y) (by omega) (by omega),dW (n:=c+(z+x*y)) (by omega) (by omega),EB,X3,ax (n:=(k:Int)+1) (by omega) (by omega)]
  generalize ht:c+(z+x*y)=t at*
  refine ih _ ⟨_,_,rfl,h1.set (by omega),by rw[aiq];exact h2,by omega,by omega, ?_,fun j hj=> ?_⟩
  ·rw[PK hz,hts]
   have e2:(4294967296:Int) ^ (i+(k+1))=4294967296 ^ i*4294967296 ^ k*4294967296:=by rw[<- ai3,ahx,ahv]
   have e3:(4294967296:Int) ^ (i+k)=4294967296 ^ i*4294967296 ^ k:=ahv ..
   rw[e3] at h5
   rw[e2,e3]
   have e4:=Int.mul_ediv_add_emod t 4294967296
   generalize (4294967296:Int) ^ i=p at*
   generalize (4294967296:Int) ^ k=q at*
   generalize t / 4294967296=d at*
   generalize t % 4294967296=r at*
   grind
  ·rw[aif (by omega)];exact h6 j (by omega)
 ·rintro _ again ⟨o,c,rfl,h1,h2,h3,h4,h5,h6⟩
  unfold ud
  dsimp only
  rw[az (by omega)]
  rw[aiZ (ajc _)] at h5
  exact⟨o,c,rfl,h1,h2,h3,h4,h5,h6⟩
theorem Ql (a b:List Int) (ha:Dg a) (hb:Dg b) (hal:a.length<1000) (hbl:b.length<1000) (s1 s2 s3:Bool) (l3:List Int) (n:Nat) (hn:a.length<n): ∃ o,iter n ((a,(a.length:Int),(0:Int),s1,a,s2,b,s3,l3,List.replicate (a.length+b.length) 0,()):ov) uc=some (Sum.inr (s1,a,s2,b,s3,l3,o,()))/\Dg o/\o.length=a.length+b.length/\v32 o=v32 a*v32 b:=by
 refine bX (Inv:=fun i X=>∃ o,X=((a,(a.length:Int),(i:Int),s1,a,s2,b,s3,l3,o,()):ov)/\Dg o/\o.length=a.length+b.length/\v32 o=v32 (a.take i)*v32 b/\∀ j,i+b.length<=j->j<a.length+b.length->o[j]? =some 0) a.length
  (fun r=>∃ o,r=some (Sum.inr (s1,a,s2,b,s3,l3,o,()))/\Dg o/\o.length=a.length+b.length/\v32 o=v32 a*v32 b) ?_ ?_ n 0 _ ⟨_,rfl,fun d hd=>by rw[List.mem_replicate] at hd;omega,by simp,by rw[MM];simp[Ev],fun j _ hj=>by rw[aid,ajZ hj]⟩ (by omega) (by omega)
 ·rintro i _ again hi ⟨o,rfl,h1,h2,h3,h4⟩ ih
  unfold uc
  dsimp only
  have hy:a[i]? =some a[i]:=aJ hi
  have hyd:=ha.get hy
  have hts:=kW hy
  generalize a[i]=x at hy hyd hts
  rw[aB (by omega),bq,hy,ajA]
  obtain⟨o',c,k1,k2,k3,k4,k5,k6,k7⟩:=Qk i x a (a.length:Int) (i:Int) b s1 a s2 b s3 l3 o hyd hb (by omega) (by omega) (by omega) (by omega) h1 (Int.natAbs (i:Int)+(Int.natAbs x+(Int.natAbs (0:Int)+(List.length a+(Int.natAbs (a.length:Int)+(Int.natAbs (i:Int)+(List.length b+(Int.natAbs ((List.length b:Int))+(Int.natAbs (0:Int)+(List.length a+(List.length b+(List.length l3+(List.length o+2))))))))))))) (by omega)
  rw[k1,aS]
  dsimp only
  have e1:w64 ((i:Int)+(b.length:Int))=((i+b.length:Nat):Int):=by rw[ax (by omega) (by omega)];omega
  have hz:o'[i+b.length]? =some 0:=by rw[k7 _ (ajc _)];exact h4 _ (ajc _) (by omega)
  rw[e1,bg (by simp only[ag1,ajS];omega),ahC,hz,ajA,EA (by omega) (by omega),ax (n:=(i:Int)+1) (by omega) (by omega)]
  refine ih _ ⟨_,rfl,k2.set (by omega),by rw[aiq];omega, ?_,fun j hj hj2=> ?_⟩
  ·rw[PK hz,hts]
   have e3:(4294967296:Int) ^ (i+b.length)=4294967296 ^ i*4294967296 ^ b.length:=ahv ..
   rw[e3] at k6 ⊢
   grind
  ·rw[aif (by omega),k7 j (by omega)];exact h4 j (by omega) hj2
 ·rintro _ again ⟨o,rfl,h1,h2,h3,h4⟩
  unfold uc
  dsimp only
  rw[az (by omega)]
  rw[aiZ (ajc _)] at h3
  exact⟨o,rfl,h1,h2,h3⟩
theorem lW (x y:Int) (hx:x.natAbs<4294967296 ^ 99) (hy:y.natAbs<4294967296 ^ 99):gT (W x) (W y)=some (W (x*y),()):=by
 have hlx:=wk hx
 have hly:=wk hy
 unfold gT W
 dsimp only
 have e1:w64 (((bH x.natAbs).length:Int)+((bH y.natAbs).length:Int))=(((bH x.natAbs).length+(bH y.natAbs).length:Nat):Int):=by rw[ax (by omega) (by omega)];omega
 rw[e1,bg (by simp only[ag1,ajS];omega)]
 obtain⟨o,h1,h2,h3,h4⟩:=Ql (bH x.natAbs) (bH y.natAbs) (fM _) (fM _) (by omega) (by omega) (decide (x<0)) (decide (y<0)) false [] (List.length (bH x.natAbs)+(Int.natAbs ((List.length (bH x.natAbs):Int))+(Int.natAbs (0:Int)+(List.length (bH x.natAbs)+(List.length (bH y.natAbs)+(List.length ([]:List Int)+(List.length ((List.replicate (Int.toNat (((bH x.natAbs).length+(bH y.natAbs).length:Nat):Int)) 0):List Int)+2))))))) (by omega)
 rw[ahC] at h1 ⊢
 rw[h1,aS]
 dsimp only
 rw[nh _ _ h2 (by omega),ajA,h4,fJ,fJ]
 show some (W _,())=some (W (x*y),())
 congr 3
 rw[<- Int.natCast_mul, <- Int.natAbs_mul]
 by_cases h:x<0<;>by_cases h':y<0
 ·have:=Int.mul_pos_of_neg_of_neg h h'
  simp[h,h'];omega
 ·have:=ahr (show 0<= -x by omega) (show 0<=y by omega)
  rw[Int.neg_mul] at this
  simp[h,h'];omega
 ·have:=ahr (show 0<=x by omega) (show 0<= -y by omega)
  rw[Int.mul_neg] at this
  simp[h,h'];omega
 ·have:=ahr (show 0<=x by omega) (show 0<=y by omega)
  simp[h,h'];omega
end Go.Md
namespace Go.Md
open Go.Dn
def Le (k:Nat) (z:Int):Prop:=z.natAbs<=10 ^ k
theorem Le.mul {a b:Nat} {x y:Int} (hx:Le a x) (hy:Le b y):Le (a+b) (x*y):=by
 unfold Le at*
 rw[Int.natAbs_mul,aju]
 exact Nat.mul_le_mul hx hy
theorem Le.mono {a b:Nat} {x:Int} (hx:Le a x) (h:a<=b):Le b x:=ajd hx (ajv (by omega) h)
theorem Le.neg {a:Nat} {x:Int} (hx:Le a x):Le a (-x):=by unfold Le at *;omega
theorem Le.w {k:Nat} {z:Int} (h:Le k z) (hk:k<=900):z.natAbs<4294967296 ^ 99:=
 ajg (h.mono hk) (by decide +kernel)
theorem Le.pow (n:Nat):Le n (10 ^ n):=by
 unfold Le
 rw[Int.natAbs_pow];exact ajc _
theorem Le.int {n:Int} (h1: -9223372036854775808<=n) (h2:n<=9223372036854775807):Le 19 n:=by unfold Le;omega
theorem Vu (n:Nat) (hn:n<=60):ER (n:Int)=some (W (10 ^ n),()):=by
 unfold ER
 rw[l9 1 (by omega) (by omega),ajA]
 dsimp only
 have loop:∀ (f:Nat),n<f->iter f (((n:Int),(0:Int),false,([]:List Int),(W 1).1,(W 1).2,()):vG) As=some (Sum.inr (false,[],(W (10 ^ n)).1,(W (10 ^ n)).2,())):=by
  intro f hf
  refine bX (Inv:=fun i X=>X=(((n:Int),(i:Int),false,([]:List Int),(W (10 ^ i)).1,(W (10 ^ i)).2,()):vG)) n (fun r=>r=some (Sum.inr (false,[],(W (10 ^ n)).1,(W (10 ^ n)).2,()))) ?_ ?_ f 0 _ rfl (by omega) (by omega)
  ·rintro i _ again hi rfl ih
   unfold As
   dsimp only
   rw[aB (by omega),l9 10 (by omega) (by omega),ajA]
   dsimp only
   rw[lW (10 ^ i) 10 ((Le.pow i).w (by omega)) ((Le.int (n:=10) (by omega) (by omega)).w (by omega)),ajA,ax (by omega) (by omega)]
   refine ih _ ?_
   rw[ahx]
   rfl
  ·rintro _ again rfl
   unfold As
   dsimp only
   rw[az (by omega)]
 rw[loop _ (by omega),aS]
theorem we (d:ah) (p:Int) (h1: -9223372036854775808<=d.1) (h2:d.1<=9223372036854775807) (hp0:0<=p - d.2) (hp:p - d.2<=60) (hd: -1000<=d.2/\d.2<=1000):jB d p=some (W (d.1*10 ^ (p - d.2).toNat),()):=by
 unfold jB
 rw[l9 _ h1 h2,ajA,ax (by omega) (by omega)]
 obtain⟨n,hn⟩:∃ n:Nat,p - d.2=n:=⟨(p - d.2).toNat,by omega⟩
 rw[hn,Vu n (by omega),ajA]
 dsimp only
 rw[lW _ _ ((Le.int h1 h2).w (by omega)) ((Le.pow n).w (by omega)),ajA,ahC]
end Go.Md
namespace Go.Md
open Go.Dn
theorem dA:∀ a:Bys,Op.bytesLess a a=false
 | []=>rfl
 | x::a=>by simp[Op.bytesLess,dA a]
theorem sN:∀ {a b:Bys},Lib.compareBytes a b=0↔a=b
 | [],[]=>by simp[Lib.compareBytes]
 | [],_::_=>by simp[Lib.compareBytes]
 | _::_,[]=>by simp[Lib.compareBytes]
 | x::a,y::b=>by
  simp only[Lib.compareBytes,List.cons.injEq]
  by_cases h1:x<y
  ·simp only[h1,aj0]
   constructor
   ·intro h;omega
   ·rintro⟨rfl,_⟩;exact absurd h1 (UInt8.lt_irrefl x)
  ·by_cases h2:y<x
   ·simp only[h1,h2,aj0,ajX]
    constructor
    ·intro h;omega
    ·rintro⟨rfl,_⟩;exact absurd h2 (UInt8.lt_irrefl x)
   ·have:x=y:=UInt8.le_antisymm (ajH.1 h2) (ajH.1 h1)
    subst this
    simp only[h1,ajX,true_and]
    exact sN
theorem pe:∀ {a b:Bys},Lib.compareBytes a b<0↔Op.bytesLess a b=true
 | [],[]=>by simp[Lib.compareBytes,Op.bytesLess]
 | [],_::_=>by simp[Lib.compareBytes,Op.bytesLess]
 | _::_,[]=>by simp[Lib.compareBytes,Op.bytesLess]
 | x::a,y::b=>by
  have ih:= @pe a b
  simp only[Lib.compareBytes,Op.bytesLess]
  by_cases h1:x<y
  ·simp[h1]
  ·by_cases h2:y<x
   ·have hne:¬ x=y:=fun e=>by subst e;exact absurd h2 (UInt8.lt_irrefl x)
    simp[h1,h2,hne]
   ·have:x=y:=UInt8.le_antisymm (ajH.1 h2) (ajH.1 h1)
    subst this
    simp[h1,ih]
theorem jC:∀ {a b c:Bys},Op.bytesLess a b=true->Op.bytesLess b c=true->Op.bytesLess a c=true
 | [],[],_,h,_=>by simp[Op.bytesLess] at h
 | [],_::_,[],_,h=>by simp[Op.bytesLess] at h
 | [],_::_,_::_,_,_=>rfl
 | _::_,[],_,h,_=>by simp[Op.bytesLess] at h
 | _::_,_::_,[],_,h=>by simp[Op.bytesLess] at h
 | x::a,y::b,z::c,h,k=>by
  simp only[Op.bytesLess,ahf,ag1,ajS,ajL] at h k ⊢
  rcases h with h | ⟨rfl,h⟩
  ·rcases k with k | ⟨rfl,k⟩
   ·exact .inl (UInt8.lt_trans h k)
   ·exact .inl h
  ·rcases k with k | ⟨rfl,k⟩
   ·exact .inl k
   ·exact .inr ⟨rfl,jC h k⟩
theorem Qo {a b:Bys} (h:Op.bytesLess a b=true):Op.bytesLess b a=false:=by
 cases hb:Op.bytesLess b a with
 | false=>rfl
 | true=>have:=jC h hb;rw[dA] at this;cases this
theorem Is (a b:Bys):Op.bytesLess a b=true\/a=b\/Op.bytesLess b a=true:=by
 induction a generalizing b with
 | nil=>cases b with
  | nil=>simp
  | cons y b=>simp[Op.bytesLess]
 | cons x a ih=>cases b with
  | nil=>simp[Op.bytesLess]
  | cons y b=>
   simp only[Op.bytesLess,ahf,ag1,ajS,ajL,List.cons.injEq]
   by_cases h1:x<y
   ·simp[h1]
   ·by_cases h2:y<x
    ·simp[h2]
    ·have:x=y:=UInt8.le_antisymm (ajH.1 h2) (ajH.1 h1)
     subst this
     rcases ih b with h | h | h<;>simp[h]
def Asc {α:Type} (key:α->Bys) (l:List α):Prop:=∀ (i j:Nat) (x y:α),i<j->l[i]? =some x->l[j]? =some y->Op.bytesLess (key x) (key y)=true
def gK {α:Type} (key:α->Bys) (t:Bys) (l:List α):Option Nat:=l.findIdx? (fun r=>key r==t)
theorem nc {α:Type} {key:α->Bys} {t:Bys} {l:List α} {k:Nat} (h:gK key t l=some k):∃ x,l[k]? =some x/\key x=t:=by
 unfold gK at h
 rw[List.findIdx?_eq_some_iff_getElem] at h
 obtain⟨h1,h2,_⟩:=h
 exact⟨_,ah8 h1,by simpa using h2⟩
theorem VW {α:Type} {key:α->Bys} {t:Bys} {l:List α} (h:gK key t l=none):∀ x∈l,key x≠t:=by
 unfold gK at h
 rw[List.findIdx?_eq_none_iff] at h
 intro x hx e
 have:=h x hx
 simp[e] at this
theorem U3 {α:Type} {key:α->Bys} {t:Bys} {l:List α} (hs:Asc key l) {k:Nat} {x:α} (hk:l[k]? =some x) (hx:key x=t):gK key t l=some k:=by
 cases h:gK key t l with
 | none=>exact absurd hx (VW h x (aiF hk))
 | some j=>
  obtain⟨y,h1,h2⟩:=nc h
  rcases ajm j k with hlt | rfl | hlt
  ·have:=hs j k y x hlt h1 hk
   rw[h2,hx,dA] at this;cases this
  ·rfl
  ·have:=hs k j x y hlt hk h1
   rw[h2,hx,dA] at this;cases this
theorem Xx (l:List aZ) (t:Bys) (hl:l.length<1000000000) (hs:Asc (·.1) l): ∃ i:Nat,eZ l t ()=some ((i:Int),(gK (·.1) t l).isSome,())/\∀ k,gK (·.1) t l=some k->i=k:=by
 unfold eZ
 have loop:∀ f,l.length<f->∃ i:Nat,iter f ((l,t,(),(l.length:Int),(0:Int),(l.length:Int),()):cT) gL=some (Sum.inr (l,t,(),(l.length:Int),(i:Int),()))/\i<=l.length/\(∀ k x,l[k]? =some x->k<i->Op.bytesLess x.1 t=true)/\∀ k x,l[k]? =some x->i<=k->Op.bytesLess x.1 t=false:=by
  intro f hf
  refine ze (Inv:=fun X=>∃ i j:Nat,X=((l,t,(),(l.length:Int),(i:Int),(j:Int),()):cT)/\i<=j/\j<=l.length/\(∀ k x,l[k]? =some x->k<i->Op.bytesLess x.1 t=true)/\∀ k x,l[k]? =some x->j<=k->Op.bytesLess x.1 t=false)
   (fun X=>(X.2.2.2.2.2.1 - X.2.2.2.2.1).toNat)
   (fun _ r=>∃ i:Nat,r=some (Sum.inr (l,t,(),(l.length:Int),(i:Int),()))/\i<=l.length/\(∀ k x,l[k]? =some x->k<i->Op.bytesLess x.1 t=true)/\∀ k x,l[k]? =some x->i<=k->Op.bytesLess x.1 t=false) ?_ f _ ⟨0,l.length,rfl,by omega,by omega,fun _ _ _ h=>absurd h (ajs _),fun k x hk hle=>by have:=(aia.1 hk).1;omega⟩ (by dsimp only;omega)
  rintro _ again ⟨i,j,rfl,hij,hj,h1,h2⟩ ih
  dsimp only at ih
  unfold gL
  dsimp only
  by_cases hlt:i<j
  ·rw[aB (by omega)]
   have em:w64 (Int.fdiv (cg (w64 ((i:Int)+(j:Int)))) (2 ^ 1))=(((i+j) / 2:Nat):Int):=by
    rw[ax (n:=(i:Int)+(j:Int)) (by omega) (by omega),dW (by omega) (by omega),ahl _ (by omega),ax (by omega) (by omega)]
    omega
   rw[em]
   have hm:(i+j) / 2<l.length:=by omega
   have hy:l[(i+j) / 2]? =some l[(i+j) / 2]:=aJ hm
   have hmi:i<=(i+j) / 2/\(i+j) / 2<j:=by omega
   generalize (i+j) / 2=m at*
   generalize l[m]=y at hy
   rw[bq,hy,ajA]
   show ∃ i,Option.bind (Option.bind (some (Lib.compareBytes y.1 t,())) fun r1=>some (r1.1,())) _=_/\_
   rw[ajA,ajA]
   dsimp only
   by_cases hc:Lib.compareBytes y.1 t<0
   ·rw[aB hc,ax (by omega) (by omega)]
    refine ih _ ⟨m+1,j,rfl,by omega,hj,fun k x hk hkm=> ?_,h2⟩ (by dsimp only;omega)
    rcases ajk.1 hkm with h | h
    ·have:=hs k m x y h hk hy
     exact jC this (pe.1 hc)
    ·subst h;rw[hy] at hk;cases hk;exact pe.1 hc
   ·rw[az hc]
    refine ih _ ⟨i,m,rfl,by omega,by omega,h1,fun k x hk hkm=> ?_⟩ (by dsimp only;omega)
    have hc':Op.bytesLess y.1 t=false:=by
     cases h:Op.bytesLess y.1 t with
     | false=>rfl
     | true=>exact absurd (pe.2 h) hc
    rcases aji hkm with h | h
    ·cases hx:Op.bytesLess x.1 t with
     | false=>rfl
     | true=>rw[jC (hs m k y x h hy hk) hx] at hc';cases hc'
    ·subst h;rw[hy] at hk;cases hk;exact hc'
  ·rw[az (by omega)]
   have:i=j:=by omega
   subst this
   exact⟨i,rfl,hj,h1,h2⟩
 obtain⟨i,h1,h2,h3,h4⟩:=loop (List.length l+(List.length t+(Int.natAbs ((List.length l:Int))+(Int.natAbs (0:Int)+(Int.natAbs ((List.length l:Int))+2))))) (by omega)
 refine⟨i, ?_,fun k hk=> ?_⟩
 ·rw[h1,aS]
  dsimp only
  by_cases hi:i<l.length
  ·have hy:l[i]? =some l[i]:=aJ hi
   generalize l[i]=y at hy
   rw[aB (by omega),bq,hy,ajA]
   show Option.bind (Option.bind (some (Lib.compareBytes y.1 t,())) fun r1=>some (r1.1,())) _=_
   rw[ajA,ajA]
   congr 3
   by_cases he:y.1=t
   ·rw[U3 hs hy he,sN.2 he];rfl
   ·have hne:¬ Lib.compareBytes y.1 t=0:=fun h=>he (sN.1 h)
    rw[show (Lib.compareBytes y.1 t==0)=false by simpa using hne]
    cases hx:gK (·.1) t l with
    | none=>rfl
    | some k=>
     exfalso
     obtain⟨x,k1,k2⟩:=nc hx
     rcases ajm k i with h | h | h
     ·have:=h3 k x k1 h;rw[k2,dA] at this;cases this
     ·subst h;rw[hy] at k1;cases k1;exact he k2
     ·have:=hs i k y x h hy k1
      dsimp only at this
      rw[k2,h4 i y hy (ajc _)] at this;cases this
  ·rw[az (by omega)]
   congr 3
   cases hx:gK (·.1) t l with
   | none=>rfl
   | some k=>
    exfalso
    obtain⟨x,k1,k2⟩:=nc hx
    have:=h3 k x k1 (by have:=(aia.1 k1).1;omega)
    rw[k2,dA] at this;cases this
 ·obtain⟨x,k1,k2⟩:=nc hk
  rcases ajm k i with h | h | h
  ·have:=h3 k x k1 h;rw[k2,dA] at this;cases this
  ·exact h.symm
  ·have hy:l[i]? =some (l[i]'(by have:=(aia.1 k1).1;omega)):=aJ _
   have:=hs i k _ x h hy k1
   dsimp only at this
   rw[k2,h4 i _ hy (ajc _)] at this;cases this
theorem Uj (l:List aZ) (t:Bys) (hl:l.length<1000000000) (hs:Asc (·.1) l): ∃ i:Nat,EF l t=some ((i:Int),(gK (·.1) t l).isSome,())/\∀ k,gK (·.1) t l=some k->i=k:=by
 obtain⟨i,h1,h2⟩:=Xx l t hl hs
 exact⟨i,by unfold EF;rw[h1,ajA],h2⟩
theorem Ir (v:an) (t:Bys) (hl:v.2.2.2.2.2.2.1.length<1000000000) (hs:Asc (·.1) v.2.2.2.2.2.2.1):kI v t=some ((gK (·.1) t v.2.2.2.2.2.2.1).isSome,()):=by
 obtain⟨i,h1,h2⟩:=Uj v.2.2.2.2.2.2.1 t hl hs
 unfold kI
 rw[h1,ajA]
end Go.Md
namespace Go.Md
open Go.Dn
instance (d:ah):Decidable (cm d):=by unfold cm;exact inferInstance
def inR (d:ah) (lo hi pl:Int):Bool:=decide (cm d/\d.2<=pl/\lo*10 ^ d.2.toNat<=d.1/\d.1<=hi*10 ^ d.2.toNat)
theorem fK (d:ah):cc d=some (if cm d then 0 else 1,()):=by
 rw[I3]
 congr 2
 by_cases h:cm d
 ·rw[ajZ h,ajZ (by unfold cm at h;omega)]
 ·rw[ajY h,ajY (by unfold cm at h;omega)]
theorem wg {d:ah} (h:cm d) (most:Int) (hm0:0<=most) (hm1:most<=1000000000):gJ d most=some (inR d (-most) most 9,()):=by
 rw[Sj d most h.2.1 h.2.2 hm0 hm1]
 unfold inR
 congr 2
 rw[ajP,Int.neg_mul]
 constructor
 ·rintro⟨h1,h2⟩;exact⟨h,h.2.2,h1,h2⟩
 ·rintro⟨_,_,h1,h2⟩;exact⟨h1,h2⟩
def adE (pl:Int) (rates:List aZ) (line:Bool) (x:bY):Int:=
 if cm x.2.1 then
  (if x.2.1.1=0 then 13
  else if (if x.1=true then inR x.2.1 (-100) 100 9 else inR x.2.1 (-1000000000) 1000000000 pl)=true then
   (if x.2.2=[] then 0 else if line=true then 3 else if (gK (·.1) x.2.2 rates).isSome=true then 0 else 5)
  else 1)
 else 1
def yt (pl:Int) (rates:List aZ) (line:Bool) (l:List bY):Int:=if 20<l.length then 2 else fk (fun _ x=>adE pl rates line x) 0 l
theorem Mh {γ:Type} (s:Int) (u:γ):aG (β:=Int×Unit) (γ:=γ) (if s=0 then some (Sum.inr u) else some (Sum.inl (s,()))) (fun _=>some (0,()))=some (s,()):=by
 by_cases h:s=0
 ·rw[ajZ h,aS,h]
 ·rw[ajY h,lI]
theorem ab9 {d:ah} {lo hi pl:Int} (h:cm d):inR d lo hi pl=(inR d lo hi 9&&decide (d.2<=pl)):=by
 unfold inR
 rw[<- ag4,ajP]
 constructor
 ·rintro⟨h1,h2,h3⟩;exact⟨⟨h1,h.2.2,h3⟩,h2⟩
 ·rintro⟨⟨h1,_,h3⟩,h2⟩;exact⟨h1,h2,h3⟩
theorem kT {X α:Type} {γ:Type} {f:X->(X->Option ((Int×Unit) ⊕ γ))->Option ((Int×Unit) ⊕ γ)} {x0:X} (mk:Nat->X) (l:List α) (g:Nat->α->Int) (u:γ) (h0:x0=mk 0) (hstep:∀ i y again,l[i]? =some y->f (mk i) again=if g i y=0 then again (mk (i+1)) else some (Sum.inl (g i y,()))) (hend:∀ again,f (mk l.length) again=some (Sum.inr u)) (n:Nat) (hn:l.length<n): iter n x0 f=if fk g 0 l=0 then some (Sum.inr u) else some (Sum.inl (fk g 0 l,())):=by
 rw[h0];exact VV mk l g u hstep hend l 0 n rfl (ajy _) hn
theorem DO (v:an) (l:List bY) (line:Bool) (hl:v.2.2.2.2.2.2.1.length<1000000000) (hs:Asc (·.1) v.2.2.2.2.2.2.1):kZ v l line=some (yt v.2.2.2.1 v.2.2.2.2.2.2.1 line l,()):=by
 unfold kZ yt
 by_cases hb:20<l.length
 ·rw[aB (by omega),ajZ hb]
 ·rw[az (by omega),ajY hb]
  obtain⟨a,b,c,d,e,f,g,h,k⟩:=v
  dsimp only at*
  have hR:∀ t,kI (a,b,c,d,e,f,g,h,k) t=some ((gK (·.1) t g).isSome,()):=fun t=>Ir _ t hl hs
  rw[kT (f:=rq) (fun i=>((line,l,(l.length:Int),(i:Int),a,b,c,d,e,f,g,h,k,()):ru)) l (fun _ x=>adE d g line x) () ?_ ?_ ?_ _ ?_]
  ·exact Mh _ _
  ·rfl
  ·intro i y again hy
   have hi:=(aia.1 hy).1
   unfold rq
   dsimp only
   rw[aB (by omega),bq,hy,ajA,fK,ajA]
   have hw:w64 ((i:Int)+1)=(i:Int)+1:=ax (by omega) (by omega)
   unfold adE
   by_cases hd:cm y.2.1
   ·rw[ajZ hd,zne,ajN,ajZ hd]
    by_cases h0:y.2.1.1=0
    ·rw[show (y.2.1.1==0)=true by simpa using h0,ajO,ajZ h0];rfl
    ·rw[show (y.2.1.1==0)=false by simpa using h0,ajN,ajY h0]
     rw[wg hd 100 (by omega) (by omega),wg hd 1000000000 (by omega) (by omega),ab9 (pl:=d) hd]
     have hgt:decide (y.2.1.2>d)= !decide (y.2.1.2<=d):=by
      by_cases hq:y.2.1.2<=d
      ·simp[hq]
      ·simp[hq];omega
     have hnil:∀ (s:Bys),(s==[])=decide (s=[]):=fun s=>by cases s<;>rfl
     simp only[hR,ajA,hgt,hnil]
     generalize inR y.2.1 (-100) 100 9=b1
     generalize inR y.2.1 (-1000000000) 1000000000 9=b2
     generalize decide (y.2.1.2<=d)=b3
     generalize y.1=p
     by_cases hn:y.2.2=[]
     ·cases p<;>cases b1<;>cases b2<;>cases b3<;>cases line<;>simp[aG,hw,hnil,hn,hR]
     ·cases h4:(gK (fun x:aZ=>x.1) y.2.2 g).isSome<;>cases p<;>cases b1<;>cases b2<;>cases b3<;>cases line<;>simp[aG,hw,hnil,hn,hR,h4]
   ·rw[ajY hd,ajY hd];rfl
  ·intro again
   unfold rq
   dsimp only
   rw[az (by omega)]
  ·omega
end Go.Md
namespace Go.Md
open Go.Dn
theorem Pw {α:Type} (l:List α):((l.length:Int)==0)=decide (l.length=0):=by
 cases l with
 | nil=>rfl
 | cons a r=>rw[show decide ((a::r).length=0)=false by simp,ajK];simp only[ain];omega
def Kx (l:List aZ) (i:Nat) (y:aZ):Bool:=match i with
 | 0=>false
 | i+1=>match l[i]? with
  | some p=>Op.bytesLess y.1 p.1||y.1==p.1
  | none=>false
def TN (l:List aZ) (i:Nat) (r:aZ):Int:=if bF r.1=false then 5 else if Kx l i r=true then 8 else if inR r.2 0 100 9=true then 0 else 1
def xA (l:List aZ):Int:=if l.length=0 then 9 else if 20<l.length then 2 else fk (TN l) 0 l
theorem Y5 {l:List aZ} (h:∀ i y,l[i]? =some y->Kx l i y=false):Asc (·.1) l:=by
 have step:∀ i x y,l[i]? =some x->l[i+1]? =some y->Op.bytesLess x.1 y.1=true:=fun i x y hx hy=>by
  have:=h (i+1) y hy
  simp only[Kx,hx,ahe,ajK] at this
  rcases Is x.1 y.1 with h1 | h1 | h1
  ·exact h1
  ·exact absurd h1.symm this.2
  ·rw[this.1] at h1;cases h1
 intro i j x y hij hx hy
 induction j generalizing y with
 | zero=>omega
 | succ j ih=>
  rcases ajk.1 hij with h1 | h1
  ·have hj:j<l.length:=by have:=(aia.1 hy).1;omega
   have hz:l[j]? =some l[j]:=aJ hj
   exact jC (ih _ h1 hz) (step j _ y hz hy)
  ·subst h1;exact step i x y hx hy
theorem QK {l:List aZ} (h:xA l=0):0<l.length/\l.length<=20/\Asc (·.1) l/\∀ r∈l,inR r.2 0 100 9=true:=by
 unfold xA at h
 split at h
 ·omega
 ·split at h
  ·omega
  ·have hz:=iN h
   refine⟨by omega,by omega,Y5 fun i y hy=> ?_,fun r hr=> ?_⟩
   ·have:=hz i y hy
    rw[ajx] at this
    unfold TN at this
    split at this
    ·omega
    ·split at this
     ·omega
     ·rename_i h1;simpa using h1
   ·obtain⟨i,hi⟩:=aiD.1 hr
    have:=hz i r hi
    rw[ajx] at this
    unfold TN at this
    split at this
    ·omega
    ·split at this
     ·omega
     ·split at this
      ·assumption
      ·omega
theorem aaT {d:ah} (h:cm d) (hi:Int):inR d 0 hi 9=(!decide (d.1<0)&&inR d (-hi) hi 9):=by
 have hp:=Fi d.2.toNat
 unfold inR
 rw[<- decide_not, <- ag4,ajP]
 constructor
 ·rintro⟨h1,h2,h3,h4⟩
  rw[ahD] at h3
  refine⟨by omega,h1,h2, ?_,h4⟩
  rw[Int.neg_mul]
  have:0<=hi*10 ^ d.2.toNat:=by omega
  omega
 ·rintro⟨h0,h1,h2,h3,h4⟩
  exact⟨h1,h2,by rw[ahD];omega,h4⟩
theorem ad6 {l:List aZ} {i:Nat} (hi:i+1<l.length+1) (hl:l.length<1000000000):idx l (w64 (((i+1:Nat):Int) - 1))=l[i]? :=by
 rw[ax (by omega) (by omega),show ((i+1:Nat):Int) - 1=((i:Nat):Int) by omega,bq]
theorem Nv (l:List aZ) (hl:l.length<1000000000):oD l=some (xA l,()):=by
 unfold oD xA
 by_cases h0:l.length=0
 ·rw[Pw,ajR h0,ajO,ajZ h0]
 ·rw[Pw,ajQ h0,ajN,ajY h0]
  by_cases hb:20<l.length
  ·rw[aB (by omega),ajZ hb]
  ·rw[az (by omega),ajY hb]
   rw[kT (f:=sI) (fun i=>((l,l,(l.length:Int),(i:Int),()):sJ)) l (TN l) () ?_ ?_ ?_ _ ?_]
   ·exact Mh _ _
   ·rfl
   ·intro i y again hy
    have hi:=(aia.1 hy).1
    unfold sI
    dsimp only
    rw[aB (by omega),bq,hy,ajA,gH,ajA,ax (n:=(i:Int)+1) (by omega) (by omega)]
    unfold TN
    cases hn:bF y.1 with
    | false=>simp
    | true=>
     have tail:(Option.bind (cc y.2) fun r5=>bif r5.1 != 0 then some (Sum.inl (r5.1,())) else bif decide (y.2.1<0) then some (Sum.inl (1,())) else Option.bind (gJ y.2 100) fun r6=>bif !r6.1 then some (Sum.inl (1,())) else again (l,l,(l.length:Int),(i:Int)+1,()))=if (if inR y.2 0 100 9=true then (0:Int) else 1)=0 then again (l,l,(l.length:Int),((i+1:Nat):Int),()) else some (Sum.inl (1,())):=by
      rw[fK,ajA]
      by_cases hd:cm y.2
      ·rw[aaT hd 100,wg hd 100 (by omega) (by omega)]
       generalize inR y.2 (-100) 100 9=b
       by_cases hneg:y.2.1<0
       ·simp[hd,hneg]
       ·cases b<;>simp[hd,hneg]
      ·have:inR y.2 0 100 9=false:=by unfold inR;simp[hd]
       simp[hd,this]
     simp only[ahd,ajN,ahi,ajX]
     cases i with
     | zero=>
      rw[az (by omega),tail]
      simp only[Kx,ag6,ajX]
      split<;>simp_all
     | succ i=>
      have hp:l[i]? =some (l[i]'(by omega)):=aJ (by omega)
      rw[aB (by omega),ad6 (by omega) hl,hp,ajA]
      have ep:Kx l (i+1) y=(Op.bytesLess y.1 (l[i]'(by omega)).1||y.1==(l[i]'(by omega)).1):=by simp only[Kx,hp]
      rw[ep]
      cases (Op.bytesLess y.1 (l[i]'(by omega)).1||y.1==(l[i]'(by omega)).1) with
      | true=>simp
      | false=>
       simp only[ajN]
       rw[tail]
       simp only[ag6,ajX]
       split<;>simp_all
   ·intro again
    unfold sI
    dsimp only
    rw[az (by omega)]
   ·omega
def TM (l:List aI) (i:Nat) (y:aI):Bool:=match i with
 | 0=>false
 | i+1=>match l[i]? with
  | some p=>decide (y.1<=p.1)
  | none=>false
def Gt (pl:Int) (rates:List aZ) (lines:List aI) (i:Nat) (x:aI):Int:=
 if x.1<1\/99999<x.1 then 1
 else if TM lines i x=true then 8
 else if x.2.1<1\/99999<x.2.1 then 1
 else if bF x.2.2.1=false then 5
 else if inR x.2.2.2.1 (-1000000000) 1000000000 3=false then 1
 else if x.2.2.2.1.1=0 then 13
 else if bF x.2.2.2.2.1=false then 5
 else if inR x.2.2.2.2.2.1 0 1000000000 4=false then 1
 else if x.2.2.2.2.2.2.1<1\/100000<x.2.2.2.2.2.2.1 then 1
 else if yt pl rates true x.2.2.2.2.2.2.2.1≠0 then yt pl rates true x.2.2.2.2.2.2.2.1
 else if (gK (·.1) x.2.2.2.2.2.2.2.2 rates).isSome=true then 0 else 5
theorem Eh (n:Int) (h0:0<=n) (h1:n<=18):EJ n=some (10 ^ n.toNat,()):=Mw n h0 h1
theorem xT (d:ah):lC d=some (if inR d 0 1000000000 4=true then 0 else 1,()):=by
 unfold lC vl
 rw[fK,ajA]
 by_cases hd:cm d
 ·have hp:=Fi d.2.toNat
  have hp2:(10:Int) ^ d.2.toNat<=1000000000:=by
   have:=ajv (n:=10) (by omega) (show d.2.toNat<=9 by have:=hd.2.2;omega)
   have h2:=ahu.2 this
   simpa using h2
  rw[Eh d.2 hd.2.1 (by have:=hd.2.2;omega)]
  dsimp only
  rw[ajZ hd,zne,ajN]
  have e:inR d 0 1000000000 4=(decide (d.2<=4)&&(decide (d.1>=0)&&decide (d.1<=1000000000*10 ^ d.2.toNat))):=by
   unfold inR
   rw[<- ag4, <- ag4,ajP,ahD]
   constructor
   ·rintro⟨_,h2,h3,h4⟩;exact⟨h2,h3,h4⟩
   ·rintro⟨h2,h3,h4⟩;exact⟨hd,h2,h3,h4⟩
  rw[e,ajA,ax (n:=1000000000*10 ^ d.2.toNat) (by omega) (by omega)]
  cases decide (d.2<=4)<;>cases decide (d.1>=0)<;>cases decide (d.1<=1000000000*10 ^ d.2.toNat)<;>rfl
 ·have:inR d 0 1000000000 4=false:=by unfold inR;simp[hd]
  simp[hd,this]
end Go.Md
namespace Go.Md
open Go.Dn
theorem Bb (l:List Int) (x:Int) (hl:l.length<1000000000):nH l x=some (decide (x∈l),()):=by
 unfold nH BW
 have loop:∀ f,l.length<f->∃ n:Int,iter f ((l,x,(l.length:Int),(0:Int),()):nI) rS=(if x∈l then some (Sum.inl (n,())) else some (Sum.inr ()))/\0<=n:=by
  intro f hf
  refine bX (Inv:=fun i X=>X=((l,x,(l.length:Int),(i:Int),()):nI)/\∀ j y,j<i->l[j]? =some y->y≠x) l.length
   (fun r=>∃ n:Int,r=(if x∈l then some (Sum.inl (n,())) else some (Sum.inr ()))/\0<=n) ?_ ?_ f 0 _ ⟨rfl,fun _ _ h=>absurd h (ajs _)⟩ (by omega) (by omega)
  ·rintro i _ again hi ⟨rfl,hb⟩ ih
   unfold rS
   dsimp only
   have hy:l[i]? =some l[i]:=aJ hi
   generalize l[i]=y at hy
   rw[aB (by omega),bq,hy,ajA]
   by_cases he:x=y
   ·rw[show (x==y)=true by simpa using he,ajO]
    exact⟨i,by rw[ajZ (he ▸ aiF hy)],by omega⟩
   ·rw[show (x==y)=false by simpa using he,ajN,ax (by omega) (by omega)]
    refine ih _ ⟨rfl,fun j z hj hz=> ?_⟩
    rcases ajk.1 hj with h | h
    ·exact hb j z h hz
    ·subst h;rw[hy] at hz;cases hz;exact fun e=>he e.symm
  ·rintro _ again ⟨rfl,hb⟩
   unfold rS
   dsimp only
   rw[az (by omega)]
   refine⟨0, ?_,ahm _⟩
   rw[ajY]
   intro hm
   obtain⟨j,hj⟩:=aiD.1 hm
   exact hb j x (aia.1 hj).1 hj rfl
 obtain⟨n,h1,h2⟩:=loop (List.length l+(Int.natAbs x+(Int.natAbs ((List.length l:Int))+(Int.natAbs (0:Int)+2)))) (by omega)
 rw[h1]
 by_cases hm:x∈l
 ·rw[ajZ hm,lI,ajA,ajR hm]
  congr 2
  exact ajR h2
 ·rw[ajY hm,aS,ajA,ajQ hm]
  rfl
def nY (c:UInt8):Bool:=decide (48<=c.toNat)&&decide (c.toNat<=57)
theorem XT {c:UInt8}:(decide ((c.toNat:Int)<48)=false/\decide ((c.toNat:Int)>57)=false)↔nY c=true:=by
 simp only[nY,ag1,ajS,decide_eq_false_iff_not]
 omega
theorem Iz (s:Bys) (hs:s.length<=9223372036854775807):qP s=some (decide (s≠[])&&s.all nY,()):=by
 unfold qP Jw
 by_cases h0:s=[]
 ·subst h0;rfl
 ·rw[show (!(s==[]))=true by cases s<;>simp_all,ajO,ajR h0,ahh]
  have loop:∀ f,s.length<f->iter f ((s,(48:Int),(57:Int),(s.length:Int),(0:Int),()):vh) Af=(if s.all nY=true then some (Sum.inr ()) else some (Sum.inl (false,()))):=by
   intro f hf
   refine bX (Inv:=fun i X=>X=((s,(48:Int),(57:Int),(s.length:Int),(i:Int),()):vh)/\(s.take i).all nY=true) s.length
    (fun r=>r=(if s.all nY=true then some (Sum.inr ()) else some (Sum.inl (false,())))) ?_ ?_ f 0 _ ⟨rfl,by simp⟩ (by omega) (by omega)
   ·rintro i _ again hi ⟨rfl,hb⟩ ih
    unfold Af
    dsimp only
    have hy:s[i]? =some s[i]:=aJ hi
    have hym:s[i]∈s:=ail hi
    generalize s[i]=y at hy hym
    rw[aB (by omega),RU hy,ajA,ajA,ax (by omega) (by omega)]
    cases hd:nY y with
    | true=>
     obtain⟨h1,h2⟩:=XT.2 hd
     rw[h1,h2,ajN,ajN]
     refine ih _ ⟨rfl, ?_⟩
     rw[ML hy]
     simp[hb,hd]
    | false=>
     have hall:s.all nY=false:=by
      rw[List.all_eq_false]
      exact⟨y,hym,by simp[hd]⟩
     rw[hall]
     cases h1:decide ((y.toNat:Int)<48) with
     | true=>rfl
     | false=>
      cases h2:decide ((y.toNat:Int)>57) with
      | true=>rfl
      | false=>have:=XT.1 ⟨h1,h2⟩;rw[hd] at this;cases this
   ·rintro _ again ⟨rfl,hb⟩
    unfold Af
    dsimp only
    rw[az (by omega)]
    rw[aiZ (ajc _)] at hb
    rw[ajZ hb]
  rw[loop _ (by omega)]
  cases s.all nY<;>rfl
theorem ZI (s:Bys) (hs:s.length<=100):∃ b,Fl s=some (b,()):=by
 unfold Fl
 have loop:∀ f,s.length<f->∃ n:Int,iter f ((s,(0:Int),(s.length:Int),(0:Int),()):mJ) qW=some (Sum.inr (n,())):=by
  intro f hf
  refine bX (Inv:=fun i X=>∃ n:Int,X=((s,n,(s.length:Int),(i:Int),()):mJ)) s.length
   (fun r=>∃ n:Int,r=some (Sum.inr (n,()))) ?_ ?_ f 0 _ ⟨0,rfl⟩ (by omega) (by omega)
  ·rintro i _ again hi ⟨n,rfl⟩ ih
   unfold qW
   dsimp only
   have e:w64 (w64 ((s.length:Int) - 1) - (i:Int))=((s.length - 1 - i:Nat):Int):=by
    rw[ax (n:=(s.length:Int) - 1) (by omega) (by omega),ax (by omega) (by omega)];omega
   have hy:s[s.length - 1 - i]? =some (s[s.length - 1 - i]'(by omega)):=aJ (by omega)
   rw[aB (by omega),e,RU hy,ajA,ax (n:=(i:Int)+1) (by omega) (by omega)]
   cases (Int.tmod (i:Int) 2==1) with
   | true=>rw[ajO];exact ih _ ⟨_,rfl⟩
   | false=>rw[ajN];exact ih _ ⟨_,rfl⟩
  ·rintro _ again ⟨n,rfl⟩
   unfold qW
   dsimp only
   rw[az (by omega)]
   exact⟨n,rfl⟩
 obtain⟨n,h⟩:=loop (List.length s+(Int.natAbs (0:Int)+(Int.natAbs ((List.length s:Int))+(Int.natAbs (0:Int)+2)))) (by omega)
 rw[h]
 exact⟨_,rfl⟩
def lbl (s:Bys):Bool:=decide (s.length=18)&&(s.all nY&&((Fl s).map (·.1)).getD false)
theorem AL (s:Bys) (hs:s.length<=9223372036854775807):qH s=some (lbl s,()):=by
 unfold qH ye sr oA D3
 rw[cG,ajA,ajA]
 dsimp only
 rw[show (!(!(decide ((3:Int)<1\/(5:Int)<3))))=false by decide,ajN,show ((3:Int)==4)=false from rfl,show ((3:Int)==5)=false from rfl,show ((3:Int)==1)=false from rfl,show ((3:Int)==2)=false from rfl]
 simp only[ajN,ajA]
 rw[Bb _ _ (by decide),ajA,Iz s hs]
 unfold lbl
 by_cases hl:s.length=18
 ·obtain⟨b,hb⟩:=ZI s (by omega)
  have hb2:GO s=some (b,()):=hb
  have hne:s≠[]:=fun e=>by subst e;cases hl
  rw[ajR (show (s.length:Int)∈[18] by simp;omega),ajO,ajA,ajR hne,ahh,ajR hl,ahh,hb2,hb]
  cases s.all nY<;>simp
 ·rw[ajQ (show ¬ (s.length:Int)∈[18] by simp;omega),ajQ hl]
  rfl
def qOk (d:ah) (zero:Bool):Bool:=inR d 0 1000000000 3&&(!(d.1==0)||zero)
theorem TC {d:ah} (hd:cm d):vl d 3 1000000000=some (inR d 0 1000000000 3,()):=by
 unfold vl
 have hp:=Fi d.2.toNat
 have hp2:(10:Int) ^ d.2.toNat<=1000000000:=by
  have:=ajv (n:=10) (by omega) (show d.2.toNat<=9 by have:=hd.2.2;omega)
  have h2:=ahu.2 this
  simpa using h2
 rw[Eh d.2 hd.2.1 (by have:=hd.2.2;omega)]
 have e:inR d 0 1000000000 3=(decide (d.2<=3)&&(decide (d.1>=0)&&decide (d.1<=1000000000*10 ^ d.2.toNat))):=by
  unfold inR
  rw[<- ag4, <- ag4,ajP,ahD]
  constructor
  ·rintro⟨_,h2,h3,h4⟩;exact⟨h2,h3,h4⟩
  ·rintro⟨h2,h3,h4⟩;exact⟨hd,h2,h3,h4⟩
 rw[e,ajA,ax (n:=1000000000*10 ^ d.2.toNat) (by omega) (by omega)]
 cases decide (d.2<=3)<;>cases decide (d.1>=0)<;>cases decide (d.1<=1000000000*10 ^ d.2.toNat)<;>rfl
theorem kN (d:ah) (z:Bool):cZ d z=some (if qOk d z=true then 0 else 1,()):=by
 unfold cZ qOk
 rw[fK,ajA]
 by_cases hd:cm d
 ·rw[TC hd,ajZ hd]
  dsimp only
  rw[zne,ajN,ajA]
  cases inR d 0 1000000000 3<;>cases (d.1==0)<;>cases z<;>rfl
 ·have:inR d 0 1000000000 3=false:=by unfold inR;simp[hd]
  simp[hd,this]
end Go.Md
namespace Go.Md
open Go.Dn
theorem abf {l:List aI} {i:Nat} (hi:i<l.length) (hl:l.length<1000000000):idx l (w64 (((i+1:Nat):Int) - 1))=l[i]? :=by
 rw[ax (by omega) (by omega),show ((i+1:Nat):Int) - 1=((i:Nat):Int) by omega,bq]
theorem agl (d:ah):(if cm d then (decide (d.2>3)|| !inR d (-1000000000) 1000000000 9) else true)= !inR d (-1000000000) 1000000000 3:=by
 by_cases h:cm d
 ·rw[ajZ h,ab9 (pl:=3) h]
  by_cases h3:d.2<=3
  ·have:¬ d.2>3:=by omega
   simp[h3,this]
  ·have:d.2>3:=by omega
   simp[h3,this]
 ·have:inR d (-1000000000) 1000000000 3=false:=by unfold inR;simp[h]
  simp[h,this]
theorem PV (v:an) (i:Nat) (y:aI) (hl:v.2.2.2.2.2.2.1.length<1000000000) (hs:Asc (·.1) v.2.2.2.2.2.2.1) (hll:v.2.2.2.2.2.2.2.1.length<1000000000) (hy:v.2.2.2.2.2.2.2.1[i]? =some y): u5 v (i:Int)=some (Gt v.2.2.2.1 v.2.2.2.2.2.2.1 v.2.2.2.2.2.2.2.1 i y,()):=by
 unfold u5 Gt
 have hR:=fun t=>Ir v t hl hs
 have hE:=fun l=>DO v l true hl hs
 generalize v.2.2.2.2.2.2.1=rates at*
 generalize v.2.2.2.2.2.2.2.1=lines at*
 generalize v.2.2.2.1=pl at*
 have hi:=(aia.1 hy).1
 rw[bq,hy,ajA]
 simp only[cG,gH,xT,hR,hE,ajA,fK]
 by_cases c1:y.1<1\/99999<y.1
 ·simp only[c1,ajU,ajO,aj0]
 rw[ajQ c1,ajN,ajY c1]
 have tail:(bif decide (y.2.1<1\/99999<y.2.1) then some ((1:Int),()) else bif !bF y.2.2.1 then some (5,()) else bif (if cm y.2.2.2.1 then (0:Int) else 1) != 0 then some (if cm y.2.2.2.1 then (0:Int) else 1,()) else bif decide (y.2.2.2.1.2>3) then some (1,()) else
  Option.bind (gJ y.2.2.2.1 1000000000) fun r7=>bif !r7.1 then some (1,()) else bif y.2.2.2.1.1==0 then some (13,()) else bif !bF y.2.2.2.2.1 then some (5,()) else bif (if inR y.2.2.2.2.2.1 0 1000000000 4=true then (0:Int) else 1) != 0 then some (if inR y.2.2.2.2.2.1 0 1000000000 4=true then (0:Int) else 1,()) else
  bif decide (y.2.2.2.2.2.2.1<1\/100000<y.2.2.2.2.2.2.1) then some (1,()) else bif yt pl rates true y.2.2.2.2.2.2.2.1 != 0 then some (yt pl rates true y.2.2.2.2.2.2.2.1,()) else bif !(gK (fun x:aZ=>x.1) y.2.2.2.2.2.2.2.2 rates).isSome then some (5,()) else some (0,()))=
  some (if y.2.1<1\/99999<y.2.1 then 1 else if bF y.2.2.1=false then 5 else if inR y.2.2.2.1 (-1000000000) 1000000000 3=false then 1 else if y.2.2.2.1.1=0 then 13 else if bF y.2.2.2.2.1=false then 5 else if inR y.2.2.2.2.2.1 0 1000000000 4=false then 1
   else if y.2.2.2.2.2.2.1<1\/100000<y.2.2.2.2.2.2.1 then 1 else if yt pl rates true y.2.2.2.2.2.2.2.1≠0 then yt pl rates true y.2.2.2.2.2.2.2.1 else if (gK (fun x:aZ=>x.1) y.2.2.2.2.2.2.2.2 rates).isSome=true then 0 else 5,()):=by
  by_cases c2:y.2.1<1\/99999<y.2.1
  ·simp only[c2,ajU,ajO,aj0]
  rw[ajQ c2,ajN,ajY c2]
  cases bF y.2.2.1 with
  | false=>rfl
  | true=>
  simp only[ahd,ajN,ahi,ajX]
  have hq:=agl y.2.2.2.1
  by_cases hd:cm y.2.2.2.1
  ·rw[ajZ hd] at hq
   rw[wg hd 1000000000 (by omega) (by omega)]
   rw[ajZ hd,zne,ajN,ajA]
   dsimp only
   have hq':inR y.2.2.2.1 (-1000000000) 1000000000 3= !(decide (y.2.2.2.1.2>3)|| !inR y.2.2.2.1 (-1000000000) 1000000000 9):=by rw[hq,Bool.not_not]
   rw[hq']
   cases decide (y.2.2.2.1.2>3) with
   | true=>rfl
   | false=>
    cases inR y.2.2.2.1 (-1000000000) 1000000000 9 with
    | false=>rfl
    | true=>
     simp only[ahd,ahg,ahc,ajN,ahi,ajX]
     by_cases c3:y.2.2.2.1.1=0
     ·rw[show (y.2.2.2.1.1==0)=true by simpa using c3,ajO,ajZ c3]
     ·rw[show (y.2.2.2.1.1==0)=false by simpa using c3,ajN,ajY c3]
      cases bF y.2.2.2.2.1 with
      | false=>rfl
      | true=>
       cases inR y.2.2.2.2.2.1 0 1000000000 4 with
       | false=>rfl
       | true=>
        simp only[ahd,ajN,ahi,ajX,aj0]
        rw[zne,ajN]
        by_cases c4:y.2.2.2.2.2.2.1<1\/100000<y.2.2.2.2.2.2.1
        ·simp only[c4,ajU,ajO,aj0]
        ·rw[ajQ c4,ajN,ajY c4]
         by_cases c5:yt pl rates true y.2.2.2.2.2.2.2.1=0
         ·rw[c5,zne,ajN,ajY (by simp)]
          cases (gK (fun x:aZ=>x.1) y.2.2.2.2.2.2.2.2 rates).isSome<;>rfl
         ·rw[show (yt pl rates true y.2.2.2.2.2.2.2.1 != 0)=true by simpa using c5,ajO,ajZ c5]
  ·rw[ajY hd] at hq
   have:inR y.2.2.2.1 (-1000000000) 1000000000 3=false:=by simpa using hq.symm
   rw[this,ajY hd]
   rfl
 cases i with
 | zero=>
  rw[az (by omega),tail]
  rfl
 | succ i=>
  have hp:lines[i]? =some (lines[i]'(by omega)):=aJ (by omega)
  rw[aB (by omega),abf (by omega) hll,hp,ajA]
  have ep:TM lines (i+1) y=decide (y.1<=(lines[i]'(by omega)).1):=by simp only[TM,hp]
  rw[ep]
  cases decide (y.1<=(lines[i]'(by omega)).1) with
  | true=>rfl
  | false=>
   rw[ajN,tail]
   rfl
def Kp (v:an):Int:=fk (Gt v.2.2.2.1 v.2.2.2.2.2.2.1 v.2.2.2.2.2.2.2.1) 0 v.2.2.2.2.2.2.2.1
def mA (v:an):Int:=
 if bF v.1=false then 5 else if bF v.2.1=false then 5
 else if ¬(1<=v.2.2.1/\v.2.2.1<=3652059) then 1
 else if v.2.2.2.1<0\/4<v.2.2.2.1 then 1
 else if v.2.2.2.2.1<1\/6<v.2.2.2.2.1 then 4
 else if xA v.2.2.2.2.2.2.1≠0 then xA v.2.2.2.2.2.2.1
 else if v.2.2.2.2.2.2.2.1.length=0 then 9
 else if 500<v.2.2.2.2.2.2.2.1.length then 2
 else if Kp v≠0 then Kp v
 else yt v.2.2.2.1 v.2.2.2.2.2.2.1 false v.2.2.2.2.2.2.2.2
theorem ac4 {γ:Type} (s:Int) (u:γ) (k:γ->Option (Int×Unit)) (z:Int) (hk:k u=some (z,())):aG (β:=Int×Unit) (γ:=γ) (if s=0 then some (Sum.inr u) else some (Sum.inl (s,()))) k=some (if s≠0 then s else z,()):=by
 by_cases h:s=0
 ·rw[ajZ h,aS,hk,ajY (by simpa using h)]
 ·rw[ajY h,lI,ajZ h]
theorem mh (v:an):iE v=some (mA v,()):=by
 unfold iE mA
 simp only[gH,qO,cG,ajA,GN]
 cases bF v.1 with
 | false=>rfl
 | true=>
 cases bF v.2.1 with
 | false=>rfl
 | true=>
 simp only[ahd,ajN,ahi,ajX]
 by_cases n_c1:¬(1<=v.2.2.1/\v.2.2.1<=3652059)
 ·rw[ajQ n_c1,ajZ n_c1];rfl
 have c1:=ahk n_c1
 rw[ajR c1,ajY (by simpa using c1),ahd,ajN]
 by_cases c2:v.2.2.2.1<0\/4<v.2.2.2.1
 ·rw[ajR c2,ajZ c2];rfl
 rw[ajQ c2,ajY c2,ajN]
 by_cases c3:v.2.2.2.2.1<1\/6<v.2.2.2.2.1
 ·rw[ajR c3,ajZ c3];rfl
 rw[ajQ c3,ajY c3,ahc,ahd,ajN]
 by_cases n_hrl:¬(v.2.2.2.2.2.2.1.length<1000000000)
 ·have e:xA v.2.2.2.2.2.2.1=2:=by unfold xA;rw[ajY (by omega),ajZ (by omega)]
  have e2:oD v.2.2.2.2.2.2.1=some (2,()):=by
   unfold oD
   rw[Pw,ajQ (by omega),ajN,aB (by omega)]
  rw[e,e2];rfl
 have hrl:=ahk n_hrl
 rw[Nv _ hrl,ajA]
 dsimp only
 by_cases n_c4:¬(xA v.2.2.2.2.2.2.1=0)
 ·rw[show (xA v.2.2.2.2.2.2.1 != 0)=true by simpa using n_c4,ajO,ajZ n_c4]
 have c4:=ahk n_c4
 obtain⟨_,_,hs,_⟩:=QK c4
 rw[c4,zne,ajN,ajY (by simp),Pw]
 by_cases c5:v.2.2.2.2.2.2.2.1.length=0
 ·rw[ajR c5,ajO,ajZ c5]
 rw[ajQ c5,ajN,ajY c5]
 by_cases c6:500<v.2.2.2.2.2.2.2.1.length
 ·rw[aB (by omega),ajZ c6]
 rw[az (by omega),ajY c6]
 unfold Kp
 rw[kT (f:=oB) (fun i=>(((v.2.2.2.2.2.2.2.1.length:Int)),(i:Int),v.1,v.2.1,v.2.2.1,v.2.2.2.1,v.2.2.2.2.1,v.2.2.2.2.2.1,v.2.2.2.2.2.2.1,v.2.2.2.2.2.2.2.1,v.2.2.2.2.2.2.2.2,()) ) v.2.2.2.2.2.2.2.1 (Gt v.2.2.2.1 v.2.2.2.2.2.2.1 v.2.2.2.2.2.2.2.1) (v.1,v.2.1,v.2.2.1,v.2.2.2.1,v.2.2.2.2.1,v.2.2.2.2.2.1,v.2.2.2.2.2.2.1,v.2.2.2.2.2.2.2.1,v.2.2.2.2.2.2.2.2,()) ?_ ?_ ?_ _ ?_]
 ·refine ac4 _ _ _ _ ?_
  show Option.bind (kZ v v.2.2.2.2.2.2.2.2 false) _=_
  rw[DO v _ false hrl hs,ajA]
 ·rfl
 ·intro i y again hy
  have hi:=(aia.1 hy).1
  unfold oB
  show (bif decide ((i:Int)<(v.2.2.2.2.2.2.2.1.length:Int)) then Option.bind (u5 v (i:Int)) _ else _)=_
  rw[aB (by omega),PV v i y hrl hs (by omega) hy,ajA]
  dsimp only
  rw[ax (n:=(i:Int)+1) (by omega) (by omega)]
  by_cases hz:Gt v.2.2.2.1 v.2.2.2.2.2.2.1 v.2.2.2.2.2.2.2.1 i y=0
  ·rw[hz];rfl
  ·rw[show (Gt v.2.2.2.1 v.2.2.2.2.2.2.1 v.2.2.2.2.2.2.2.1 i y != 0)=true by simpa using hz,ajO,ajY hz]
 ·intro again
  unfold oB
  dsimp only
  rw[az (by omega)]
 ·omega
end Go.Md
