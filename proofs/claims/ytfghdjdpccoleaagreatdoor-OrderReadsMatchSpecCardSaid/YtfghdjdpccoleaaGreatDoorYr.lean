/-
  Plain facts: products, powers, rounding; digits. No condition.
-/
import Derived.Test.YtfghdjdpccoleaaGreatDoorYq
import Derived.Test.YtfghdjdpccoleaaGreatDoorYn
import Derived.Test.YtfghdjdpccoleaaGreatDoorYp
set_option linter.all false
namespace Go.Md
open Go.Dn
theorem E0 (a b:List Int):vR a b=Ax a b:=rfl
theorem Bf (x y:Int) (hx:x.natAbs<4294967296 ^ 99) (hy:y.natAbs<4294967296 ^ 99):jS (W x) (W y)=some (W (x+y),()):=by
 have hlx:=qw hx
 have hly:=qw hy
 unfold jS W
 dsimp only
 by_cases hs:decide (x<0)=decide (y<0)
 ·rw[show (decide (x<0)==decide (y<0))=true by simp[hs],QJ,E0]
  obtain⟨s,h1,h2,h3,h4⟩:=Ia (bW x.natAbs) (bW y.natAbs) (fA _) (fA _) (by omega) (by omega)
  rw[h1,Qy]
  dsimp only
  rw[iP _ _ h2 (by omega),Qy,h3,eC,eC]
  simp only[QK] at hs
  show some (W _,())=some (W (x+y),())
  congr 3
  by_cases h:x<0
  ·simp only[h,QS,QY];omega
  ·simp only[h,QO,Ow,QV];omega
 ·rw[show (decide (x<0)==decide (y<0))=false by simp[hs],QI]
  obtain⟨c,h1,h2,h3⟩:=Cy x.natAbs y.natAbs (by omega) (by omega)
  rw[h1,Qy]
  dsimp only
  simp only[QK] at hs
  have hlen:∀ a b:Nat,b<=a->(bW b).length<=(bW a).length:=fun a b h=>by
   rcases Nat.lt_or_ge (bW a).length (bW b).length with h' | h'
   ·have:=ny h';omega
   ·exact h'
  by_cases hc:c>=0
  ·rw[aJ hc,yp _ _ (fA _) (fA _) (by omega) (hlen _ _ (by omega)) (by rw[eC,eC];omega),Qy]
   dsimp only
   rw[iP _ _ (fA _) (by have:=hlen x.natAbs (v32 (bW x.natAbs) - v32 (bW y.natAbs)).toNat (by rw[eC,eC];omega);omega),Qy]
   rw[eC,eC,eC]
   show some (W _,())=some (W (x+y),())
   congr 3
   by_cases h:x<0
   ·simp only[h,QS,QY];omega
   ·simp only[h,QO,Ow,QV];omega
  ·rw[aN hc,yp _ _ (fA _) (fA _) (by omega) (hlen _ _ (by omega)) (by rw[eC,eC];omega),Qy]
   dsimp only
   rw[iP _ _ (fA _) (by have:=hlen y.natAbs (v32 (bW y.natAbs) - v32 (bW x.natAbs)).toNat (by rw[eC,eC];omega);omega),Qy]
   rw[eC,eC,eC]
   show some (W _,())=some (W (x+y),())
   congr 3
   by_cases h:y<0
   ·simp only[h,QS,QY];omega
   ·simp only[h,QO,Ow,QV];omega
theorem I1 {x y z c:Int} (hx:0<=x/\x<4294967296) (hy:0<=y/\y<4294967296) (hz:0<=z/\z<4294967296) (hc:0<=c/\c<4294967296):0<=x*y/\x*y<=18446744065119617025/\c+(z+x*y)<=18446744073709551615:=by
 have h1:0<=x*y:=OL hx.1 hy.1
 have h2:x*y<=4294967295*4294967295:=Int.mul_le_mul (by omega) (by omega) (by omega) (by omega)
 omega
theorem Bh (i:Nat) (x:Int) (ga:List Int) (gn gi:Int) (b:List Int) (s1:Bool) (l1:List Int) (s2:Bool) (l2:List Int) (s3:Bool) (l3:List Int) (out:List Int) (hx:0<=x/\x<4294967296) (hb:Dg b) (hbl:b.length<10000) (hil:i<10000) (ho:i+b.length<=out.length) (hol:out.length<100000) (hd:Dg out) (n:Nat) (hn:b.length<n): ∃ o c,iter n (((i:Int),x,(0:Int),ga,gn,gi,b,(b.length:Int),(0:Int),s1,l1,s2,l2,s3,l3,out,()):gz) jh=some (Sum.inr ((i:Int),c,ga,gn,gi,s1,l1,s2,l2,s3,l3,o,()))/\ Dg o/\o.length=out.length/\0<=c/\c<4294967296/\v32 o+4294967296 ^ (i+b.length)*c=v32 out+4294967296 ^ i*x*v32 b/\∀ j,i+b.length<=j->o[j]? =out[j]? :=by
 refine bT (Inv:=fun k X=>∃ o c,X=(((i:Int),x,c,ga,gn,gi,b,(b.length:Int),(k:Int),s1,l1,s2,l2,s3,l3,o,()):gz)/\Dg o/\o.length=out.length/\0<=c/\c<4294967296/\v32 o+4294967296 ^ (i+k)*c=v32 out+4294967296 ^ i*x*v32 (b.take k)/\∀ j,i+k<=j->o[j]? =out[j]?) b.length
  (fun r=>∃ o c,r=some (Sum.inr ((i:Int),c,ga,gn,gi,s1,l1,s2,l2,s3,l3,o,()))/\Dg o/\o.length=out.length/\0<=c/\c<4294967296/\v32 o+4294967296 ^ (i+b.length)*c=v32 out+4294967296 ^ i*x*v32 b/\∀ j,i+b.length<=j->o[j]? =out[j]?) ?_ ?_ n 0 _ ⟨out,0,rfl,hd,rfl,by omega,by omega,by simp[qU],fun _ _=>rfl⟩ (by omega) (by omega)
 ·rintro k _ again hk ⟨o,c,rfl,h1,h2,h3,h4,h5,h6⟩ ih
  unfold jh
  dsimp only
  have hy:b[k]? =some b[k]:=aP hk
  have hyd:=hb.get hy
  have hts:=eV hy
  have hz:o[i+k]? =some (o[i+k]'(by omega)):=aP (by omega)
  have hzd:=h1.get hz
  generalize b[k]=y at hy hyd hts
  generalize o[i+k]'(by omega)=z at hz hzd
  obtain⟨m1,m2,m3⟩:=I1 hx hyd hzd ⟨h3,h4⟩
  have e1:w64 ((i:Int)+(k:Int))=((i+k:Nat):Int):=by rw[aA (by omega) (by omega)];omega
  rw[aJ (by omega),cM,hy,Qy,e1,aY (by simp only[Oo,QN];omega),OS,hz,Qy,aY (by simp only[Oo,QN];omega),Qy,
   cS (n:=x) (by omega) (by omega),cS (n:=y) (by omega) (by omega),cS (n:=z) (by omega) (by omega),cS (n:=x*y) (by omega) (by omega),cS (n:=z+x*y) (by omega) (by omega),cS (n:=c+(z+x*y)) (by omega) (by omega),uK,Hi,aA (n:=(k:Int)+1) (by omega) (by omega)]
  generalize ht:c+(z+x*y)=t at*
  refine ih _ ⟨_,_,rfl,h1.set (by omega),by rw[PK];exact h2,by omega,by omega, ?_,fun j hj=> ?_⟩
  ·rw[Jz hz,hts]
   have e2:(4294967296:Int) ^ (i+(k+1))=4294967296 ^ i*4294967296 ^ k*4294967296:=by rw[<- Qc,OP,OO]
   have e3:(4294967296:Int) ^ (i+k)=4294967296 ^ i*4294967296 ^ k:=OO ..
   rw[e3] at h5
   rw[e2,e3]
   have e4:=Int.mul_ediv_add_emod t 4294967296
   generalize (4294967296:Int) ^ i=p at*
   generalize (4294967296:Int) ^ k=q at*
   generalize t / 4294967296=d at*
   generalize t % 4294967296=r at*
   grind
  ·rw[Pu (by omega)];exact h6 j (by omega)
 ·rintro _ again ⟨o,c,rfl,h1,h2,h3,h4,h5,h6⟩
  unfold jh
  dsimp only
  rw[aN (by omega)]
  rw[Qa (Qm _)] at h5
  exact⟨o,c,rfl,h1,h2,h3,h4,h5,h6⟩
theorem Bi (a b:List Int) (ha:Dg a) (hb:Dg b) (hal:a.length<1000) (hbl:b.length<1000) (s1 s2 s3:Bool) (l3:List Int) (n:Nat) (hn:a.length<n): ∃ o,iter n ((a,(a.length:Int),(0:Int),s1,a,s2,b,s3,l3,List.replicate (a.length+b.length) 0,()):gy) jg=some (Sum.inr (s1,a,s2,b,s3,l3,o,()))/\Dg o/\o.length=a.length+b.length/\v32 o=v32 a*v32 b:=by
 refine bT (Inv:=fun i X=>∃ o,X=((a,(a.length:Int),(i:Int),s1,a,s2,b,s3,l3,o,()):gy)/\Dg o/\o.length=a.length+b.length/\v32 o=v32 (a.take i)*v32 b/\∀ j,i+b.length<=j->j<a.length+b.length->o[j]? =some 0) a.length
  (fun r=>∃ o,r=some (Sum.inr (s1,a,s2,b,s3,l3,o,()))/\Dg o/\o.length=a.length+b.length/\v32 o=v32 a*v32 b) ?_ ?_ n 0 _ ⟨_,rfl,fun d hd=>by rw[List.mem_replicate] at hd;omega,by simp,by rw[Ge];simp[qU],fun j _ hj=>by rw[List.getElem?_replicate,QX hj]⟩ (by omega) (by omega)
 ·rintro i _ again hi ⟨o,rfl,h1,h2,h3,h4⟩ ih
  unfold jg
  dsimp only
  have hy:a[i]? =some a[i]:=aP hi
  have hyd:=ha.get hy
  have hts:=eV hy
  generalize a[i]=x at hy hyd hts
  rw[aJ (by omega),cM,hy,Qy]
  obtain⟨o',c,k1,k2,k3,k4,k5,k6,k7⟩:=Bh i x a (a.length:Int) (i:Int) b s1 a s2 b s3 l3 o hyd hb (by omega) (by omega) (by omega) (by omega) h1 (Int.natAbs (i:Int)+(Int.natAbs x+(Int.natAbs (0:Int)+(List.length a+(Int.natAbs (a.length:Int)+(Int.natAbs (i:Int)+(List.length b+(Int.natAbs ((List.length b:Int))+(Int.natAbs (0:Int)+(List.length a+(List.length b+(List.length l3+(List.length o+2))))))))))))) (by omega)
  rw[k1,az]
  dsimp only
  have e1:w64 ((i:Int)+(b.length:Int))=((i+b.length:Nat):Int):=by rw[aA (by omega) (by omega)];omega
  have hz:o'[i+b.length]? =some 0:=by rw[k7 _ (Qm _)];exact h4 _ (Qm _) (by omega)
  rw[e1,aY (by simp only[Oo,QN];omega),OS,hz,Qy,E1 (by omega) (by omega),aA (n:=(i:Int)+1) (by omega) (by omega)]
  refine ih _ ⟨_,rfl,k2.set (by omega),by rw[PK];omega, ?_,fun j hj hj2=> ?_⟩
  ·rw[Jz hz,hts]
   have e3:(4294967296:Int) ^ (i+b.length)=4294967296 ^ i*4294967296 ^ b.length:=OO ..
   rw[e3] at k6 ⊢
   grind
  ·rw[Pu (by omega),k7 j (by omega)];exact h4 j (by omega) hj2
 ·rintro _ again ⟨o,rfl,h1,h2,h3,h4⟩
  unfold jg
  dsimp only
  rw[aN (by omega)]
  rw[Qa (Qm _)] at h3
  exact⟨o,rfl,h1,h2,h3⟩
theorem Av (x y:Int) (hx:x.natAbs<4294967296 ^ 99) (hy:y.natAbs<4294967296 ^ 99):jf (W x) (W y)=some (W (x*y),()):=by
 have hlx:=qw hx
 have hly:=qw hy
 unfold jf W
 dsimp only
 have e1:w64 (((bW x.natAbs).length:Int)+((bW y.natAbs).length:Int))=(((bW x.natAbs).length+(bW y.natAbs).length:Nat):Int):=by rw[aA (by omega) (by omega)];omega
 rw[e1,aY (by simp only[Oo,QN];omega)]
 obtain⟨o,h1,h2,h3,h4⟩:=Bi (bW x.natAbs) (bW y.natAbs) (fA _) (fA _) (by omega) (by omega) (decide (x<0)) (decide (y<0)) false [] (List.length (bW x.natAbs)+(Int.natAbs ((List.length (bW x.natAbs):Int))+(Int.natAbs (0:Int)+(List.length (bW x.natAbs)+(List.length (bW y.natAbs)+(List.length ([]:List Int)+(List.length ((List.replicate (Int.toNat (((bW x.natAbs).length+(bW y.natAbs).length:Nat):Int)) 0):List Int)+2))))))) (by omega)
 rw[OS] at h1 ⊢
 rw[h1,az]
 dsimp only
 rw[iP _ _ h2 (by omega),Qy,h4,eC,eC]
 show some (W _,())=some (W (x*y),())
 congr 3
 rw[<- Int.natCast_mul, <- Int.natAbs_mul]
 by_cases h:x<0<;>by_cases h':y<0
 ·have:=Int.mul_pos_of_neg_of_neg h h'
  simp[h,h'];omega
 ·have:=OL (show 0<= -x by omega) (show 0<=y by omega)
  rw[Int.neg_mul] at this
  simp[h,h'];omega
 ·have:=OL (show 0<=x by omega) (show 0<= -y by omega)
  rw[Int.mul_neg] at this
  simp[h,h'];omega
 ·have:=OL (show 0<=x by omega) (show 0<=y by omega)
  simp[h,h'];omega
end Go.Md
namespace Go.Md
open Go.Dn
def Le (k:Nat) (z:Int):Prop:=z.natAbs<=10 ^ k
theorem Le.mul {a b:Nat} {x y:Int} (hx:Le a x) (hy:Le b y):Le (a+b) (x*y):=by
 unfold Le at*
 rw[Int.natAbs_mul,Nat.pow_add]
 exact Nat.mul_le_mul hx hy
theorem Le.mono {a b:Nat} {x:Int} (hx:Le a x) (h:a<=b):Le b x:=Qn hx (Qv (by omega) h)
theorem Le.add {a:Nat} {x y:Int} (hx:Le a x) (hy:Le a y):Le (a+1) (x+y):=by
 unfold Le at*
 rw[Nat.pow_succ]
 omega
theorem Le.neg {a:Nat} {x:Int} (hx:Le a x):Le a (-x):=by unfold Le at *;omega
theorem Le.w {k:Nat} {z:Int} (h:Le k z) (hk:k<=900):z.natAbs<4294967296 ^ 99:=
 Nat.lt_of_le_of_lt (h.mono hk) (by decide +kernel)
theorem Le.n {k:Nat} {z:Int} (h:Le k z) (hk:k<=500):(dg6 z.natAbs).length<90:=by
 have:=I5 (k:=84) (n:=z.natAbs) (Nat.lt_of_le_of_lt (h.mono hk) (by decide +kernel))
 omega
theorem Le.pow (n:Nat):Le n (10 ^ n):=by
 unfold Le
 rw[Int.natAbs_pow];exact Qm _
theorem Le.int {n:Int} (h1: -9223372036854775808<=n) (h2:n<=9223372036854775807):Le 19 n:=by unfold Le;omega
theorem Le.succ {k n:Nat} (h:Le k (n:Int)):Le (k+1) ((n+1:Nat):Int):=by
 unfold Le at*
 rw[Nat.pow_succ]
 have:1<=10 ^ k:=Nat.pow_pos (by omega)
 omega
end Go.Md
namespace Go.Md
open Go.Dn
end Go.Md
namespace Go.Md
open Go.Dn
end Go.Md
namespace Go.Md
open Go.Dn
end Go.Md
namespace Go.Md
open Go.Dn
instance (d:aa):Decidable (eo d):=by unfold eo;exact inferInstance
def inR (d:aa) (lo hi pl:Int):Bool:=decide (eo d/\d.2<=pl/\lo*10 ^ d.2.toNat<=d.1/\d.1<=hi*10 ^ d.2.toNat)
theorem LR {d:aa} (h0:0<=d.2) (h1:d.2<=9) (k:Int):k*10 ^ 9=k*10 ^ d.2.toNat*10 ^ (9 - d.2).toNat:=by
 rw[OJ, <- OO,show d.2.toNat+(9 - d.2).toNat=9 by omega]
theorem MG {d:aa} (h0:0<=d.2) (h1:d.2<=9) (k:Int):lE d<=k*10 ^ 9↔d.1<=k*10 ^ d.2.toNat:=by
 unfold lE
 rw[LR h0 h1]
 exact Int.mul_le_mul_right (rW _)
theorem nj (d:aa):eH d=some (if eo d then 0 else 1,()):=by
 rw[vk]
 congr 2
 by_cases h:eo d
 ·rw[QX h,QX (by unfold eo at h;omega)]
 ·rw[QW h,QW (by unfold eo at h;omega)]
theorem qn (d:aa):gD d=some (if eo d then 0 else 1,()):=by
 rw[Aa]
 congr 2
 by_cases h:eo d
 ·rw[QX h,QX (by unfold eo at h;omega)]
 ·rw[QW h,QW (by unfold eo at h;omega)]
end Go.Md
namespace Go.Md
open Go.Dn
theorem wI (n:Int) (h0:0<=n) (h1:n<=18):vE n=some (10 ^ n.toNat,()):=FP n h0 h1
theorem yE (d:aa):kF d=some (if inR d 0 1000000000 4=true then 0 else 1,()):=by
 unfold kF jJ
 rw[nj,Qy]
 by_cases hd:eo d
 ·have hp:=rW d.2.toNat
  have hp2:(10:Int) ^ d.2.toNat<=1000000000:=by
   have:=Qv (n:=10) (by omega) (show d.2.toNat<=9 by have:=hd.2.2;omega)
   have h2:=Int.ofNat_le.2 this
   simpa using h2
  rw[wI d.2 hd.2.1 (by have:=hd.2.2;omega)]
  dsimp only
  rw[QX hd,show ((0:Int) != 0)=false from rfl,QI]
  have e:inR d 0 1000000000 4=(decide (d.2<=4)&&(decide (d.1>=0)&&decide (d.1<=1000000000*10 ^ d.2.toNat))):=by
   unfold inR
   rw[<- Bool.decide_and, <- Bool.decide_and,QK,Int.zero_mul]
   constructor
   ·rintro⟨_,h2,h3,h4⟩;exact⟨h2,h3,h4⟩
   ·rintro⟨h2,h3,h4⟩;exact⟨hd,h2,h3,h4⟩
  rw[e,Qy,aA (n:=1000000000*10 ^ d.2.toNat) (by omega) (by omega)]
  cases decide (d.2<=4)<;>cases decide (d.1>=0)<;>cases decide (d.1<=1000000000*10 ^ d.2.toNat)<;>rfl
 ·have:inR d 0 1000000000 4=false:=by unfold inR;simp[hd]
  simp[hd,this]
end Go.Md
namespace Go.Md
open Go.Dn
theorem zT:∀ (n:Nat) (l:List Nat),l.Nodup->(∀ x∈l,x<n)->l.length<=n
 | 0,l,_,h=>by
  cases l with
  | nil=>simp
  | cons a r=>exact absurd (h a (by simp)) (Qu _)
 | n+1,l,hd,h=>by
  by_cases hm:n∈l
  ·have h1:=zT n (l.erase n) (hd.erase n) (fun x hx=>by
    have:=(hd.mem_erase_iff).1 hx
    have:=h x this.2
    omega)
   rw[List.length_erase_of_mem hm] at h1
   omega
  ·have:=zT n l hd (fun x hx=>by
    have h2:=h x hx
    have:x≠n:=fun e=>hm (e ▸ hx)
    omega)
   omega
def itp (par:Nat->Option Nat):Nat->Nat->Option Nat
 | 0,i=>some i
 | j+1,i=>(par i).bind (itp par j)
def sD (par:Nat->Option Nat) (i k d:Nat):Prop:=itp par (d+1) k=some i/\∀ e,e<d->itp par (e+1) k≠some i
theorem sD.uniq {par:Nat->Option Nat} {i k d e:Nat} (h:sD par i k d) (h':sD par i k e):d=e:=by
 rcases Qr d e with h1 | h1 | h1
 ·exact absurd h.1 (h'.2 d h1)
 ·exact h1
 ·exact absurd h'.1 (h.2 e h1)
theorem sD.step {par:Nat->Option Nat} {i k d:Nat} (h:sD par i k d):∃ k',par k=some k'/\((k'=i/\d=0)\/(k'≠i/\∃ e,d=e+1/\sD par i k' e)):=by
 obtain⟨h1,h2⟩:=h
 simp only[itp] at h1
 cases hp:par k with
 | none=>rw[hp] at h1;cases h1
 | some k'=>
  rw[hp] at h1
  refine⟨k',rfl, ?_⟩
  cases d with
  | zero=>simp only[Qy,itp,Option.some.injEq] at h1;exact .inl ⟨h1,rfl⟩
  | succ e=>
   right
   refine⟨fun e1=> ?_,e,rfl,by simpa using h1,fun f hf hx=> ?_⟩
   ·refine h2 0 (by omega) ?_
    simp only[itp,hp,Qy,e1]
   ·refine h2 (f+1) (by omega) ?_
    rw[show f+1+1=(f+1)+1 from rfl]
    show (par k).bind (itp par (f+1))=some i
    rw[hp];exact hx
theorem sD.list {par:Nat->Option Nat} {i n:Nat} (hn:∀ k k',par k=some k'->k'<n):∀ {d k:Nat},k<n->sD par i k d->∃ l:List Nat,l.length=d+1/\l.Nodup/\(∀ x∈l,x<n)/\∀ x∈l,∃ e,e<=d/\sD par i x e
 | 0,k,hk,h=>⟨[k],rfl,by simp,by simpa using hk,fun x hx=>by simp at hx;subst hx;exact⟨0,Qm _,h⟩⟩
 | d+1,k,hk,h=>by
  obtain⟨k',h1,h2⟩:=h.step
  rcases h2 with ⟨_,h2⟩ | ⟨_,e,h2,h3⟩
  ·omega
  ·have:e=d:=by omega
   subst this
   obtain⟨l,l1,l2,l3,l4⟩:=sD.list hn (hn _ _ h1) h3
   refine⟨k::l,by simp[l1],List.nodup_cons.2 ⟨fun hm=> ?_,l2⟩,fun x hx=> ?_,fun x hx=> ?_⟩
   ·obtain⟨f,f1,f2⟩:=l4 k hm
    have:=f2.uniq h
    omega
   ·rcases PS.1 hx with rfl | hx
    ·exact hk
    ·exact l3 x hx
   ·rcases PS.1 hx with rfl | hx
    ·exact⟨e+1,Qm _,h⟩
    ·obtain⟨f,f1,f2⟩:=l4 x hx;exact⟨f,by omega,f2⟩
theorem sD.le {par:Nat->Option Nat} {i n d k:Nat} (hn:∀ k k',par k=some k'->k'<n) (hk:k<n) (h:sD par i k d):d+1<=n:=by
 obtain⟨l,l1,l2,l3,_⟩:=h.list hn hk
 have:=zT n l l2 l3
 omega
end Go.Md
namespace Go.Md
open Go.Dn
def bM (c:UInt8):Bool:=decide (48<=c.toNat)&&decide (c.toNat<=57)
theorem qx {c:UInt8}:(decide ((c.toNat:Int)<48)=false/\decide ((c.toNat:Int)>57)=false)↔bM c=true:=by
 simp only[bM,Oo,QN,decide_eq_false_iff_not]
 omega
theorem pH (s:List UInt8) (hs:s.length<=9223372036854775807):jE s=some (decide (s≠[])&&s.all bM,()):=by
 unfold jE vz
 by_cases h0:s=[]
 ·subst h0;rfl
 ·rw[show (!(s==[]))=true by cases s<;>simp_all,QJ,QM h0,OG]
  have loop:∀ f,s.length<f->iter f ((s,(48:Int),(57:Int),(s.length:Int),(0:Int),()):jD) mO=(if s.all bM=true then some (Sum.inr ()) else some (Sum.inl (false,()))):=by
   intro f hf
   refine bT (Inv:=fun i X=>X=((s,(48:Int),(57:Int),(s.length:Int),(i:Int),()):jD)/\(s.take i).all bM=true) s.length
    (fun r=>r=(if s.all bM=true then some (Sum.inr ()) else some (Sum.inl (false,())))) ?_ ?_ f 0 _ ⟨rfl,by simp⟩ (by omega) (by omega)
   ·rintro i _ again hi ⟨rfl,hb⟩ ih
    unfold mO
    dsimp only
    have hy:s[i]? =some s[i]:=aP hi
    have hym:s[i]∈s:=Pz hi
    generalize s[i]=y at hy hym
    rw[aJ (by omega),oG hy,Qy,Qy,aA (by omega) (by omega)]
    cases hd:bM y with
    | true=>
     obtain⟨h1,h2⟩:=qx.2 hd
     rw[h1,h2,QI,QI]
     refine ih _ ⟨rfl, ?_⟩
     rw[dD hy]
     simp[hb,hd]
    | false=>
     have hall:s.all bM=false:=by
      rw[OV]
      exact⟨y,hym,by simp[hd]⟩
     rw[hall]
     cases h1:decide ((y.toNat:Int)<48) with
     | true=>rfl
     | false=>
      cases h2:decide ((y.toNat:Int)>57) with
      | true=>rfl
      | false=>have:=qx.1 ⟨h1,h2⟩;rw[hd] at this;cases this
   ·rintro _ again ⟨rfl,hb⟩
    unfold mO
    dsimp only
    rw[aN (by omega)]
    rw[Qa (Qm _)] at hb
    rw[QX hb]
  rw[loop _ (by omega)]
  cases s.all bM<;>rfl
theorem wK (s:List UInt8) (hs:s.length<=9223372036854775807):gj s=some (decide (s≠[])&&s.all bM,()):=by
 unfold gj
 by_cases h0:s=[]
 ·subst h0;rfl
 ·rw[show (s==[])=false by cases s<;>simp_all,QI,QM h0,OG]
  have loop:∀ f,s.length<f->iter f ((s,(s.length:Int),(0:Int),()):jN) mX=(if s.all bM=true then some (Sum.inr ()) else some (Sum.inl (false,()))):=by
   intro f hf
   refine bT (Inv:=fun i X=>X=((s,(s.length:Int),(i:Int),()):jN)/\(s.take i).all bM=true) s.length
    (fun r=>r=(if s.all bM=true then some (Sum.inr ()) else some (Sum.inl (false,())))) ?_ ?_ f 0 _ ⟨rfl,by simp⟩ (by omega) (by omega)
   ·rintro i _ again hi ⟨rfl,hb⟩ ih
    unfold mX
    dsimp only
    have hy:s[i]? =some s[i]:=aP hi
    have hym:s[i]∈s:=Pz hi
    generalize s[i]=y at hy hym
    rw[aJ (by omega),oG hy,Qy,Qy,aA (by omega) (by omega)]
    cases hd:bM y with
    | true=>
     obtain⟨h1,h2⟩:=qx.2 hd
     rw[h1,h2,QI,QI]
     refine ih _ ⟨rfl, ?_⟩
     rw[dD hy]
     simp[hb,hd]
    | false=>
     have hall:s.all bM=false:=by
      rw[OV]
      exact⟨y,hym,by simp[hd]⟩
     rw[hall]
     cases h1:decide ((y.toNat:Int)<48) with
     | true=>rfl
     | false=>
      cases h2:decide ((y.toNat:Int)>57) with
      | true=>rfl
      | false=>have:=qx.1 ⟨h1,h2⟩;rw[hd] at this;cases this
   ·rintro _ again ⟨rfl,hb⟩
    unfold mX
    dsimp only
    rw[aN (by omega)]
    rw[Qa (Qm _)] at hb
    rw[QX hb]
  rw[loop _ (by omega)]
  cases s.all bM<;>rfl
def qOk (d:aa) (zero:Bool):Bool:=inR d 0 1000000000 3&&(!(d.1==0)||zero)
theorem Dl {d:aa} (hd:eo d):jJ d 3 1000000000=some (inR d 0 1000000000 3,()):=by
 unfold jJ
 have hp:=rW d.2.toNat
 have hp2:(10:Int) ^ d.2.toNat<=1000000000:=by
  have:=Qv (n:=10) (by omega) (show d.2.toNat<=9 by have:=hd.2.2;omega)
  have h2:=Int.ofNat_le.2 this
  simpa using h2
 rw[wI d.2 hd.2.1 (by have:=hd.2.2;omega)]
 have e:inR d 0 1000000000 3=(decide (d.2<=3)&&(decide (d.1>=0)&&decide (d.1<=1000000000*10 ^ d.2.toNat))):=by
  unfold inR
  rw[<- Bool.decide_and, <- Bool.decide_and,QK,Int.zero_mul]
  constructor
  ·rintro⟨_,h2,h3,h4⟩;exact⟨h2,h3,h4⟩
  ·rintro⟨h2,h3,h4⟩;exact⟨hd,h2,h3,h4⟩
 rw[e,Qy,aA (n:=1000000000*10 ^ d.2.toNat) (by omega) (by omega)]
 cases decide (d.2<=3)<;>cases decide (d.1>=0)<;>cases decide (d.1<=1000000000*10 ^ d.2.toNat)<;>rfl
theorem vC (d:aa) (z:Bool):iF d z=some (if qOk d z=true then 0 else 1,()):=by
 unfold iF qOk
 rw[nj,Qy]
 by_cases hd:eo d
 ·rw[Dl hd,QX hd]
  dsimp only
  rw[show ((0:Int) != 0)=false from rfl,QI,Qy]
  cases inR d 0 1000000000 3<;>cases (d.1==0)<;>cases z<;>rfl
 ·have:inR d 0 1000000000 3=false:=by unfold inR;simp[hd]
  simp[hd,this]
end Go.Md
