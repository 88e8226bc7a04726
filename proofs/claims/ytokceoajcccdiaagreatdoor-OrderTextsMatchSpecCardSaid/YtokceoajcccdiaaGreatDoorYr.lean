/-
  Plain facts: products, powers, rounding; digits. No condition.
-/
import Derived.Test.YtokceoajcccdiaaGreatDoorYq
import Derived.Test.YtokceoajcccdiaaGreatDoorYn
import Derived.Test.YtokceoajcccdiaaGreatDoorYp
set_option linter.all false
namespace Go.Md
open Go.Dn
theorem IA (a b:List Int):x7 a b=C0 a b:=rfl
theorem DP (x y:Int) (hx:x.natAbs<4294967296 ^ 99) (hy:y.natAbs<4294967296 ^ 99):kU (W x) (W y)=some (W (x+y),()):=by
 have hlx:=mX hx
 have hly:=mX hy
 unfold kU W
 dsimp only
 by_cases hs:decide (x<0)=decide (y<0)
 ·rw[show (decide (x<0)==decide (y<0))=true by simp[hs],VW,IA]
  obtain⟨s,h1,h2,h3,h4⟩:=LQ (bH x.natAbs) (bH y.natAbs) (eZ _) (eZ _) (by omega) (by omega)
  rw[h1,VJ]
  dsimp only
  rw[iu _ _ h2 (by omega),VJ,h3,ep,ep]
  simp only[VX] at hs
  show some (W _,())=some (W (x+y),())
  congr 3
  by_cases h:x<0
  ·simp only[h,V2,V8];omega
  ·simp only[h,V1,Tz,V5];omega
 ·rw[show (decide (x<0)==decide (y<0))=false by simp[hs],VV]
  obtain⟨c,h1,h2,h3⟩:=Fb x.natAbs y.natAbs (by omega) (by omega)
  rw[h1,VJ]
  dsimp only
  simp only[VX] at hs
  have hlen:∀ a b:Nat,b<=a->(bH b).length<=(bH a).length:=fun a b h=>by
   rcases Vx (bH a).length (bH b).length with h' | h'
   ·have:=oG h';omega
   ·exact h'
  by_cases hc:c>=0
  ·rw[aE hc,AV _ _ (eZ _) (eZ _) (by omega) (hlen _ _ (by omega)) (by rw[ep,ep];omega),VJ]
   dsimp only
   rw[iu _ _ (eZ _) (by have:=hlen x.natAbs (v32 (bH x.natAbs) - v32 (bH y.natAbs)).toNat (by rw[ep,ep];omega);omega),VJ]
   rw[ep,ep,ep]
   show some (W _,())=some (W (x+y),())
   congr 3
   by_cases h:x<0
   ·simp only[h,V2,V8];omega
   ·simp only[h,V1,Tz,V5];omega
  ·rw[aK hc,AV _ _ (eZ _) (eZ _) (by omega) (hlen _ _ (by omega)) (by rw[ep,ep];omega),VJ]
   dsimp only
   rw[iu _ _ (eZ _) (by have:=hlen y.natAbs (v32 (bH y.natAbs) - v32 (bH x.natAbs)).toNat (by rw[ep,ep];omega);omega),VJ]
   rw[ep,ep,ep]
   show some (W _,())=some (W (x+y),())
   congr 3
   by_cases h:y<0
   ·simp only[h,V2,V8];omega
   ·simp only[h,V1,Tz,V5];omega
theorem MN {x y z c:Int} (hx:0<=x/\x<4294967296) (hy:0<=y/\y<4294967296) (hz:0<=z/\z<4294967296) (hc:0<=c/\c<4294967296):0<=x*y/\x*y<=18446744065119617025/\c+(z+x*y)<=18446744073709551615:=by
 have h1:0<=x*y:=TO hx.1 hy.1
 have h2:x*y<=4294967295*4294967295:=Int.mul_le_mul (by omega) (by omega) (by omega) (by omega)
 omega
theorem DR (i:Nat) (x:Int) (ga:List Int) (gn gi:Int) (b:List Int) (s1:Bool) (l1:List Int) (s2:Bool) (l2:List Int) (s3:Bool) (l3:List Int) (out:List Int) (hx:0<=x/\x<4294967296) (hb:Dg b) (hbl:b.length<10000) (hil:i<10000) (ho:i+b.length<=out.length) (hol:out.length<100000) (hd:Dg out) (n:Nat) (hn:b.length<n): ∃ o c,iter n (((i:Int),x,(0:Int),ga,gn,gi,b,(b.length:Int),(0:Int),s1,l1,s2,l2,s3,l3,out,()):hY) jT=some (Sum.inr ((i:Int),c,ga,gn,gi,s1,l1,s2,l2,s3,l3,o,()))/\ Dg o/\o.length=out.length/\0<=c/\c<4294967296/\v32 o+4294967296 ^ (i+b.length)*c=v32 out+4294967296 ^ i*x*v32 b/\∀ j,i+b.length<=j->o[j]? =out[j]? :=by
 refine b9 (Inv:=fun k X=>∃ o c,X=(((i:Int),x,c,ga,gn,gi,b,(b.length:Int),(k:Int),s1,l1,s2,l2,s3,l3,o,()):hY)/\Dg o/\o.length=out.length/\0<=c/\c<4294967296/\v32 o+4294967296 ^ (i+k)*c=v32 out+4294967296 ^ i*x*v32 (b.take k)/\∀ j,i+k<=j->o[j]? =out[j]?) b.length
  (fun r=>∃ o c,r=some (Sum.inr ((i:Int),c,ga,gn,gi,s1,l1,s2,l2,s3,l3,o,()))/\Dg o/\o.length=out.length/\0<=c/\c<4294967296/\v32 o+4294967296 ^ (i+b.length)*c=v32 out+4294967296 ^ i*x*v32 b/\∀ j,i+b.length<=j->o[j]? =out[j]?) ?_ ?_ n 0 _ ⟨out,0,rfl,hd,rfl,by omega,by omega,by simp[qC],fun _ _=>rfl⟩ (by omega) (by omega)
 ·rintro k _ again hk ⟨o,c,rfl,h1,h2,h3,h4,h5,h6⟩ ih
  unfold jT
  dsimp only
  have hy:b[k]? =some b[k]:=aT hk
  have hyd:=hb.get hy
  have hts:=dV hy
  have hz:o[i+k]? =some (o[i+k]'(by omega)):=aT (by omega)
  have hzd:=h1.get hz
  generalize b[k]=y at hy hyd hts
  generalize o[i+k]'(by omega)=z at hz hzd
  obtain⟨m1,m2,m3⟩:=MN hx hyd hzd ⟨h3,h4⟩
  have e1:w64 ((i:Int)+(k:Int))=((i+k:Nat):Int):=by rw[az (by omega) (by omega)];omega
  rw[aE (by omega),cN,hy,VJ,e1,aC (by simp only[Tr,V0];omega),TV,hz,VJ,aC (by simp only[Tr,V0];omega),VJ,
   cx (n:=x) (by omega) (by omega),cx (n:=y) (by omega) (by omega),cx (n:=z) (by omega) (by omega),cx (n:=x*y) (by omega) (by omega),cx (n:=z+x*y) (by omega) (by omega),cx (n:=c+(z+x*y)) (by omega) (by omega),wH,KT,az (n:=(k:Int)+1) (by omega) (by omega)]
  generalize ht:c+(z+x*y)=t at*
  refine ih _ ⟨_,_,rfl,h1.set (by omega),by rw[UO];exact h2,by omega,by omega, ?_,fun j hj=> ?_⟩
  ·rw[No hz,hts]
   have e2:(4294967296:Int) ^ (i+(k+1))=4294967296 ^ i*4294967296 ^ k*4294967296:=by rw[<- Vl,TS,TR]
   have e3:(4294967296:Int) ^ (i+k)=4294967296 ^ i*4294967296 ^ k:=TR ..
   rw[e3] at h5
   rw[e2,e3]
   have e4:=Int.mul_ediv_add_emod t 4294967296
   generalize (4294967296:Int) ^ i=p at*
   generalize (4294967296:Int) ^ k=q at*
   generalize t / 4294967296=d at*
   generalize t % 4294967296=r at*
   grind
  ·rw[Ux (by omega)];exact h6 j (by omega)
 ·rintro _ again ⟨o,c,rfl,h1,h2,h3,h4,h5,h6⟩
  unfold jT
  dsimp only
  rw[aK (by omega)]
  rw[Vj (Vu _)] at h5
  exact⟨o,c,rfl,h1,h2,h3,h4,h5,h6⟩
theorem DS (a b:List Int) (ha:Dg a) (hb:Dg b) (hal:a.length<1000) (hbl:b.length<1000) (s1 s2 s3:Bool) (l3:List Int) (n:Nat) (hn:a.length<n): ∃ o,iter n ((a,(a.length:Int),(0:Int),s1,a,s2,b,s3,l3,List.replicate (a.length+b.length) 0,()):gZ) jS=some (Sum.inr (s1,a,s2,b,s3,l3,o,()))/\Dg o/\o.length=a.length+b.length/\v32 o=v32 a*v32 b:=by
 refine b9 (Inv:=fun i X=>∃ o,X=((a,(a.length:Int),(i:Int),s1,a,s2,b,s3,l3,o,()):gZ)/\Dg o/\o.length=a.length+b.length/\v32 o=v32 (a.take i)*v32 b/\∀ j,i+b.length<=j->j<a.length+b.length->o[j]? =some 0) a.length
  (fun r=>∃ o,r=some (Sum.inr (s1,a,s2,b,s3,l3,o,()))/\Dg o/\o.length=a.length+b.length/\v32 o=v32 a*v32 b) ?_ ?_ n 0 _ ⟨_,rfl,fun d hd=>by rw[List.mem_replicate] at hd;omega,by simp,by rw[JU];simp[qC],fun j _ hj=>by rw[List.getElem?_replicate,V7 hj]⟩ (by omega) (by omega)
 ·rintro i _ again hi ⟨o,rfl,h1,h2,h3,h4⟩ ih
  unfold jS
  dsimp only
  have hy:a[i]? =some a[i]:=aT hi
  have hyd:=ha.get hy
  have hts:=dV hy
  generalize a[i]=x at hy hyd hts
  rw[aE (by omega),cN,hy,VJ]
  obtain⟨o',c,k1,k2,k3,k4,k5,k6,k7⟩:=DR i x a (a.length:Int) (i:Int) b s1 a s2 b s3 l3 o hyd hb (by omega) (by omega) (by omega) (by omega) h1 (Int.natAbs (i:Int)+(Int.natAbs x+(Int.natAbs (0:Int)+(List.length a+(Int.natAbs (a.length:Int)+(Int.natAbs (i:Int)+(List.length b+(Int.natAbs ((List.length b:Int))+(Int.natAbs (0:Int)+(List.length a+(List.length b+(List.length l3+(List.length o+2))))))))))))) (by omega)
  rw[k1,au]
  dsimp only
  have e1:w64 ((i:Int)+(b.length:Int))=((i+b.length:Nat):Int):=by rw[az (by omega) (by omega)];omega
  have hz:o'[i+b.length]? =some 0:=by rw[k7 _ (Vu _)];exact h4 _ (Vu _) (by omega)
  rw[e1,aC (by simp only[Tr,V0];omega),TV,hz,VJ,zk (by omega) (by omega),az (n:=(i:Int)+1) (by omega) (by omega)]
  refine ih _ ⟨_,rfl,k2.set (by omega),by rw[UO];omega, ?_,fun j hj hj2=> ?_⟩
  ·rw[No hz,hts]
   have e3:(4294967296:Int) ^ (i+b.length)=4294967296 ^ i*4294967296 ^ b.length:=TR ..
   rw[e3] at k6 ⊢
   grind
  ·rw[Ux (by omega),k7 j (by omega)];exact h4 j (by omega) hj2
 ·rintro _ again ⟨o,rfl,h1,h2,h3,h4⟩
  unfold jS
  dsimp only
  rw[aK (by omega)]
  rw[Vj (Vu _)] at h3
  exact⟨o,rfl,h1,h2,h3⟩
theorem CY (x y:Int) (hx:x.natAbs<4294967296 ^ 99) (hy:y.natAbs<4294967296 ^ 99):jR (W x) (W y)=some (W (x*y),()):=by
 have hlx:=mX hx
 have hly:=mX hy
 unfold jR W
 dsimp only
 have e1:w64 (((bH x.natAbs).length:Int)+((bH y.natAbs).length:Int))=(((bH x.natAbs).length+(bH y.natAbs).length:Nat):Int):=by rw[az (by omega) (by omega)];omega
 rw[e1,aC (by simp only[Tr,V0];omega)]
 obtain⟨o,h1,h2,h3,h4⟩:=DS (bH x.natAbs) (bH y.natAbs) (eZ _) (eZ _) (by omega) (by omega) (decide (x<0)) (decide (y<0)) false [] (List.length (bH x.natAbs)+(Int.natAbs ((List.length (bH x.natAbs):Int))+(Int.natAbs (0:Int)+(List.length (bH x.natAbs)+(List.length (bH y.natAbs)+(List.length ([]:List Int)+(List.length ((List.replicate (Int.toNat (((bH x.natAbs).length+(bH y.natAbs).length:Nat):Int)) 0):List Int)+2))))))) (by omega)
 rw[TV] at h1 ⊢
 rw[h1,au]
 dsimp only
 rw[iu _ _ h2 (by omega),VJ,h4,ep,ep]
 show some (W _,())=some (W (x*y),())
 congr 3
 rw[<- Int.natCast_mul, <- Int.natAbs_mul]
 by_cases h:x<0<;>by_cases h':y<0
 ·have:=Int.mul_pos_of_neg_of_neg h h'
  simp[h,h'];omega
 ·have:=TO (show 0<= -x by omega) (show 0<=y by omega)
  rw[Int.neg_mul] at this
  simp[h,h'];omega
 ·have:=TO (show 0<=x by omega) (show 0<= -y by omega)
  rw[Int.mul_neg] at this
  simp[h,h'];omega
 ·have:=TO (show 0<=x by omega) (show 0<=y by omega)
  simp[h,h'];omega
end Go.Md
namespace Go.Md
open Go.Dn
def Le (k:Nat) (z:Int):Prop:=z.natAbs<=10 ^ k
theorem Le.mul {a b:Nat} {x y:Int} (hx:Le a x) (hy:Le b y):Le (a+b) (x*y):=by
 unfold Le at*
 rw[Int.natAbs_mul,Nat.pow_add]
 exact Nat.mul_le_mul hx hy
theorem Le.mono {a b:Nat} {x:Int} (hx:Le a x) (h:a<=b):Le b x:=Vv hx (VF (by omega) h)
theorem Le.add {a:Nat} {x y:Int} (hx:Le a x) (hy:Le a y):Le (a+1) (x+y):=by
 unfold Le at*
 rw[VG]
 omega
theorem Le.neg {a:Nat} {x:Int} (hx:Le a x):Le a (-x):=by unfold Le at *;omega
theorem Le.w {k:Nat} {z:Int} (h:Le k z) (hk:k<=900):z.natAbs<4294967296 ^ 99:=
 Nat.lt_of_le_of_lt (h.mono hk) (by decide +kernel)
theorem Le.n {k:Nat} {z:Int} (h:Le k z) (hk:k<=500):(dg6 z.natAbs).length<90:=by
 have:=MT (k:=84) (n:=z.natAbs) (Nat.lt_of_le_of_lt (h.mono hk) (by decide +kernel))
 omega
theorem Le.pow (n:Nat):Le n (10 ^ n):=by
 unfold Le
 rw[Int.natAbs_pow];exact Vu _
theorem Le.int {n:Int} (h1: -9223372036854775808<=n) (h2:n<=9223372036854775807):Le 19 n:=by unfold Le;omega
theorem Le.succ {k n:Nat} (h:Le k (n:Int)):Le (k+1) ((n+1:Nat):Int):=by
 unfold Le at*
 rw[VG]
 have:1<=10 ^ k:=Nat.pow_pos (by omega)
 omega
end Go.Md
namespace Go.Md
open Go.Dn
end Go.Md
namespace Go.Md
open Go.Dn
end Go.Md
namespace Go.Md
open Go.Dn
end Go.Md
namespace Go.Md
open Go.Dn
instance (d:ah):Decidable (cV d):=by unfold cV;exact inferInstance
def inR (d:ah) (lo hi pl:Int):Bool:=decide (cV d/\d.2<=pl/\lo*10 ^ d.2.toNat<=d.1/\d.1<=hi*10 ^ d.2.toNat)
theorem Qv {d:ah} (h0:0<=d.2) (h1:d.2<=9) (k:Int):k*10 ^ 9=k*10 ^ d.2.toNat*10 ^ (9 - d.2).toNat:=by
 rw[TM, <- TR,show d.2.toNat+(9 - d.2).toNat=9 by omega]
theorem Rr {d:ah} (h0:0<=d.2) (h1:d.2<=9) (k:Int):mE d<=k*10 ^ 9↔d.1<=k*10 ^ d.2.toNat:=by
 unfold mE
 rw[Qv h0 h1]
 exact Int.mul_le_mul_right (tV _)
theorem jl (d:ah):dZ d=some (if cV d then 0 else 1,()):=by
 rw[xj]
 congr 2
 by_cases h:cV d
 ·rw[V7 h,V7 (by unfold cV at h;omega)]
 ·rw[V6 h,V6 (by unfold cV at h;omega)]
theorem mG (d:ah):gh d=some (if cV d then 0 else 1,()):=by
 rw[Cv]
 congr 2
 by_cases h:cV d
 ·rw[V7 h,V7 (by unfold cV at h;omega)]
 ·rw[V6 h,V6 (by unfold cV at h;omega)]
end Go.Md
namespace Go.Md
open Go.Dn
theorem yL (n:Int) (h0:0<=n) (h1:n<=18):xL n=some (10 ^ n.toNat,()):=Jr n h0 h1
theorem Ba (d:ah):lH d=some (if inR d 0 1000000000 4=true then 0 else 1,()):=by
 unfold lH kL
 rw[jl,VJ]
 by_cases hd:cV d
 ·have hp:=tV d.2.toNat
  have hp2:(10:Int) ^ d.2.toNat<=1000000000:=by
   have:=VF (n:=10) (by omega) (show d.2.toNat<=9 by have:=hd.2.2;omega)
   have h2:=Int.ofNat_le.2 this
   simpa using h2
  rw[yL d.2 hd.2.1 (by have:=hd.2.2;omega)]
  dsimp only
  rw[V7 hd,show ((0:Int) != 0)=false from rfl,VV]
  have e:inR d 0 1000000000 4=(decide (d.2<=4)&&(decide (d.1>=0)&&decide (d.1<=1000000000*10 ^ d.2.toNat))):=by
   unfold inR
   rw[<- Bool.decide_and, <- Bool.decide_and,VX,Int.zero_mul]
   constructor
   ·rintro⟨_,h2,h3,h4⟩;exact⟨h2,h3,h4⟩
   ·rintro⟨h2,h3,h4⟩;exact⟨hd,h2,h3,h4⟩
  rw[e,VJ,az (n:=1000000000*10 ^ d.2.toNat) (by omega) (by omega)]
  cases decide (d.2<=4)<;>cases decide (d.1>=0)<;>cases decide (d.1<=1000000000*10 ^ d.2.toNat)<;>rfl
 ·have:inR d 0 1000000000 4=false:=by unfold inR;simp[hd]
  simp[hd,this]
end Go.Md
namespace Go.Md
open Go.Dn
theorem Ci:∀ (n:Nat) (l:List Nat),l.Nodup->(∀ x∈l,x<n)->l.length<=n
 | 0,l,_,h=>by
  cases l with
  | nil=>simp
  | cons a r=>exact absurd (h a (by simp)) (VE _)
 | n+1,l,hd,h=>by
  by_cases hm:n∈l
  ·have h1:=Ci n (l.erase n) (hd.erase n) (fun x hx=>by
    have:=(hd.mem_erase_iff).1 hx
    have:=h x this.2
    omega)
   rw[List.length_erase_of_mem hm] at h1
   omega
  ·have:=Ci n l hd (fun x hx=>by
    have h2:=h x hx
    have:x≠n:=fun e=>hm (e ▸ hx)
    omega)
   omega
def itp (par:Nat->Option Nat):Nat->Nat->Option Nat
 | 0,i=>some i
 | j+1,i=>(par i).bind (itp par j)
def uw (par:Nat->Option Nat) (i k d:Nat):Prop:=itp par (d+1) k=some i/\∀ e,e<d->itp par (e+1) k≠some i
theorem uw.uniq {par:Nat->Option Nat} {i k d e:Nat} (h:uw par i k d) (h':uw par i k e):d=e:=by
 rcases VA d e with h1 | h1 | h1
 ·exact absurd h.1 (h'.2 d h1)
 ·exact h1
 ·exact absurd h'.1 (h.2 e h1)
theorem uw.step {par:Nat->Option Nat} {i k d:Nat} (h:uw par i k d):∃ k',par k=some k'/\((k'=i/\d=0)\/(k'≠i/\∃ e,d=e+1/\uw par i k' e)):=by
 obtain⟨h1,h2⟩:=h
 simp only[itp] at h1
 cases hp:par k with
 | none=>rw[hp] at h1;cases h1
 | some k'=>
  rw[hp] at h1
  refine⟨k',rfl, ?_⟩
  cases d with
  | zero=>simp only[VJ,itp,Option.some.injEq] at h1;exact .inl ⟨h1,rfl⟩
  | succ e=>
   right
   refine⟨fun e1=> ?_,e,rfl,by simpa using h1,fun f hf hx=> ?_⟩
   ·refine h2 0 (by omega) ?_
    simp only[itp,hp,VJ,e1]
   ·refine h2 (f+1) (by omega) ?_
    rw[show f+1+1=(f+1)+1 from rfl]
    show (par k).bind (itp par (f+1))=some i
    rw[hp];exact hx
theorem uw.list {par:Nat->Option Nat} {i n:Nat} (hn:∀ k k',par k=some k'->k'<n):∀ {d k:Nat},k<n->uw par i k d->∃ l:List Nat,l.length=d+1/\l.Nodup/\(∀ x∈l,x<n)/\∀ x∈l,∃ e,e<=d/\uw par i x e
 | 0,k,hk,h=>⟨[k],rfl,by simp,by simpa using hk,fun x hx=>by simp at hx;subst hx;exact⟨0,Vu _,h⟩⟩
 | d+1,k,hk,h=>by
  obtain⟨k',h1,h2⟩:=h.step
  rcases h2 with ⟨_,h2⟩ | ⟨_,e,h2,h3⟩
  ·omega
  ·have:e=d:=by omega
   subst this
   obtain⟨l,l1,l2,l3,l4⟩:=uw.list hn (hn _ _ h1) h3
   refine⟨k::l,by simp[l1],List.nodup_cons.2 ⟨fun hm=> ?_,l2⟩,fun x hx=> ?_,fun x hx=> ?_⟩
   ·obtain⟨f,f1,f2⟩:=l4 k hm
    have:=f2.uniq h
    omega
   ·rcases UX.1 hx with rfl | hx
    ·exact hk
    ·exact l3 x hx
   ·rcases UX.1 hx with rfl | hx
    ·exact⟨e+1,Vu _,h⟩
    ·obtain⟨f,f1,f2⟩:=l4 x hx;exact⟨f,by omega,f2⟩
theorem uw.le {par:Nat->Option Nat} {i n d k:Nat} (hn:∀ k k',par k=some k'->k'<n) (hk:k<n) (h:uw par i k d):d+1<=n:=by
 obtain⟨l,l1,l2,l3,_⟩:=h.list hn hk
 have:=Ci n l l2 l3
 omega
end Go.Md
namespace Go.Md
open Go.Dn
def bw (c:UInt8):Bool:=decide (48<=c.toNat)&&decide (c.toNat<=57)
theorem r0 {c:UInt8}:(decide ((c.toNat:Int)<48)=false/\decide ((c.toNat:Int)>57)=false)↔bw c=true:=by
 simp only[bw,Tr,V0,decide_eq_false_iff_not]
 omega
theorem qQ (s:List UInt8) (hs:s.length<=9223372036854775807):kG s=some (decide (s≠[])&&s.all bw,()):=by
 unfold kG xG
 by_cases h0:s=[]
 ·subst h0;rfl
 ·rw[show (!(s==[]))=true by cases s<;>simp_all,VW,VZ h0,TJ]
  have loop:∀ f,s.length<f->iter f ((s,(48:Int),(57:Int),(s.length:Int),(0:Int),()):kF) nV=(if s.all bw=true then some (Sum.inr ()) else some (Sum.inl (false,()))):=by
   intro f hf
   refine b9 (Inv:=fun i X=>X=((s,(48:Int),(57:Int),(s.length:Int),(i:Int),()):kF)/\(s.take i).all bw=true) s.length
    (fun r=>r=(if s.all bw=true then some (Sum.inr ()) else some (Sum.inl (false,())))) ?_ ?_ f 0 _ ⟨rfl,by simp⟩ (by omega) (by omega)
   ·rintro i _ again hi ⟨rfl,hb⟩ ih
    unfold nV
    dsimp only
    have hy:s[i]? =some s[i]:=aT hi
    have hym:s[i]∈s:=UC hi
    generalize s[i]=y at hy hym
    rw[aE (by omega),qa hy,VJ,VJ,az (by omega) (by omega)]
    cases hd:bw y with
    | true=>
     obtain⟨h1,h2⟩:=r0.2 hd
     rw[h1,h2,VV,VV]
     refine ih _ ⟨rfl, ?_⟩
     rw[dU hy]
     simp[hb,hd]
    | false=>
     have hall:s.all bw=false:=by
      rw[TY]
      exact⟨y,hym,by simp[hd]⟩
     rw[hall]
     cases h1:decide ((y.toNat:Int)<48) with
     | true=>rfl
     | false=>
      cases h2:decide ((y.toNat:Int)>57) with
      | true=>rfl
      | false=>have:=r0.1 ⟨h1,h2⟩;rw[hd] at this;cases this
   ·rintro _ again ⟨rfl,hb⟩
    unfold nV
    dsimp only
    rw[aK (by omega)]
    rw[Vj (Vu _)] at hb
    rw[V7 hb]
  rw[loop _ (by omega)]
  cases s.all bw<;>rfl
theorem yN (s:List UInt8) (hs:s.length<=9223372036854775807):iK s=some (decide (s≠[])&&s.all bw,()):=by
 unfold iK
 by_cases h0:s=[]
 ·subst h0;rfl
 ·rw[show (s==[])=false by cases s<;>simp_all,VV,VZ h0,TJ]
  have loop:∀ f,s.length<f->iter f ((s,(s.length:Int),(0:Int),()):kO) oa=(if s.all bw=true then some (Sum.inr ()) else some (Sum.inl (false,()))):=by
   intro f hf
   refine b9 (Inv:=fun i X=>X=((s,(s.length:Int),(i:Int),()):kO)/\(s.take i).all bw=true) s.length
    (fun r=>r=(if s.all bw=true then some (Sum.inr ()) else some (Sum.inl (false,())))) ?_ ?_ f 0 _ ⟨rfl,by simp⟩ (by omega) (by omega)
   ·rintro i _ again hi ⟨rfl,hb⟩ ih
    unfold oa
    dsimp only
    have hy:s[i]? =some s[i]:=aT hi
    have hym:s[i]∈s:=UC hi
    generalize s[i]=y at hy hym
    rw[aE (by omega),qa hy,VJ,VJ,az (by omega) (by omega)]
    cases hd:bw y with
    | true=>
     obtain⟨h1,h2⟩:=r0.2 hd
     rw[h1,h2,VV,VV]
     refine ih _ ⟨rfl, ?_⟩
     rw[dU hy]
     simp[hb,hd]
    | false=>
     have hall:s.all bw=false:=by
      rw[TY]
      exact⟨y,hym,by simp[hd]⟩
     rw[hall]
     cases h1:decide ((y.toNat:Int)<48) with
     | true=>rfl
     | false=>
      cases h2:decide ((y.toNat:Int)>57) with
      | true=>rfl
      | false=>have:=r0.1 ⟨h1,h2⟩;rw[hd] at this;cases this
   ·rintro _ again ⟨rfl,hb⟩
    unfold oa
    dsimp only
    rw[aK (by omega)]
    rw[Vj (Vu _)] at hb
    rw[V7 hb]
  rw[loop _ (by omega)]
  cases s.all bw<;>rfl
def qOk (d:ah) (zero:Bool):Bool:=inR d 0 1000000000 3&&(!(d.1==0)||zero)
theorem Gi {d:ah} (hd:cV d):kL d 3 1000000000=some (inR d 0 1000000000 3,()):=by
 unfold kL
 have hp:=tV d.2.toNat
 have hp2:(10:Int) ^ d.2.toNat<=1000000000:=by
  have:=VF (n:=10) (by omega) (show d.2.toNat<=9 by have:=hd.2.2;omega)
  have h2:=Int.ofNat_le.2 this
  simpa using h2
 rw[yL d.2 hd.2.1 (by have:=hd.2.2;omega)]
 have e:inR d 0 1000000000 3=(decide (d.2<=3)&&(decide (d.1>=0)&&decide (d.1<=1000000000*10 ^ d.2.toNat))):=by
  unfold inR
  rw[<- Bool.decide_and, <- Bool.decide_and,VX,Int.zero_mul]
  constructor
  ·rintro⟨_,h2,h3,h4⟩;exact⟨h2,h3,h4⟩
  ·rintro⟨h2,h3,h4⟩;exact⟨hd,h2,h3,h4⟩
 rw[e,VJ,az (n:=1000000000*10 ^ d.2.toNat) (by omega) (by omega)]
 cases decide (d.2<=3)<;>cases decide (d.1>=0)<;>cases decide (d.1<=1000000000*10 ^ d.2.toNat)<;>rfl
theorem xJ (d:ah) (z:Bool):jh d z=some (if qOk d z=true then 0 else 1,()):=by
 unfold jh qOk
 rw[jl,VJ]
 by_cases hd:cV d
 ·rw[Gi hd,V7 hd]
  dsimp only
  rw[show ((0:Int) != 0)=false from rfl,VV,VJ]
  cases inR d 0 1000000000 3<;>cases (d.1==0)<;>cases z<;>rfl
 ·have:inR d 0 1000000000 3=false:=by unfold inR;simp[hd]
  simp[hd,this]
end Go.Md
