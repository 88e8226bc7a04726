/-
  Plain facts: products, powers, rounding; the order of strings; decimals. No condition.
-/
import Derived.Test.YtfghdjdpccoleabGreatDoorYq
import Derived.Test.YtfghdjdpccoleabGreatDoorYn
set_option linter.all false
namespace Go.Md
open Go.Dn
theorem Uh (a b:List Int):IG a b=Eg a b:=rfl
theorem yP (x y:Int) (hx:x.natAbs<4294967296 ^ 99) (hy:y.natAbs<4294967296 ^ 99):jG (W x) (W y)=some (W (x+y),()):=by
 have hlx:=tF hx
 have hly:=tF hy
 unfold jG W
 dsimp only
 by_cases hs:decide (x<0)=decide (y<0)
 ·rw[show (decide (x<0)==decide (y<0))=true by simp[hs],aio,Uh]
  obtain⟨s,h1,h2,h3,h4⟩:=NQ (bw x.natAbs) (bw y.natAbs) (dV _) (dV _) (by omega) (by omega)
  rw[h1,aib]
  dsimp only
  rw[jm _ _ h2 (by omega),aib,h3,dX,dX]
  simp only[aip] at hs
  show some (W _,())=some (W (x+y),())
  congr 3
  by_cases h:x<0
  ·simp only[h,aiv,aiC];omega
  ·simp only[h,aiu,afz,aiz];omega
 ·rw[show (decide (x<0)==decide (y<0))=false by simp[hs],ain]
  obtain⟨c,h1,h2,h3⟩:=GV x.natAbs y.natAbs (by omega) (by omega)
  rw[h1,aib]
  dsimp only
  simp only[aip] at hs
  have hlen:∀ a b:Nat,b<=a->(bw b).length<=(bw a).length:=fun a b h=>by
   rcases ahQ (bw a).length (bw b).length with h' | h'
   ·have:=nO h';omega
   ·exact h'
  by_cases hc:c>=0
  ·rw[av hc,EJ _ _ (dV _) (dV _) (by omega) (hlen _ _ (by omega)) (by rw[dX,dX];omega),aib]
   dsimp only
   rw[jm _ _ (dV _) (by have:=hlen x.natAbs (v32 (bw x.natAbs) - v32 (bw y.natAbs)).toNat (by rw[dX,dX];omega);omega),aib]
   rw[dX,dX,dX]
   show some (W _,())=some (W (x+y),())
   congr 3
   by_cases h:x<0
   ·simp only[h,aiv,aiC];omega
   ·simp only[h,aiu,afz,aiz];omega
  ·rw[ay hc,EJ _ _ (dV _) (dV _) (by omega) (hlen _ _ (by omega)) (by rw[dX,dX];omega),aib]
   dsimp only
   rw[jm _ _ (dV _) (by have:=hlen y.natAbs (v32 (bw y.natAbs) - v32 (bw x.natAbs)).toNat (by rw[dX,dX];omega);omega),aib]
   rw[dX,dX,dX]
   show some (W _,())=some (W (x+y),())
   congr 3
   by_cases h:y<0
   ·simp only[h,aiv,aiC];omega
   ·simp only[h,aiu,afz,aiz];omega
theorem EY (x y:Int) (hx:x.natAbs<4294967296 ^ 99) (hy:y.natAbs<4294967296 ^ 99):nV (W x) (W y)=some (W (x - y),()):=by
 unfold nV
 rw[Ee y hy,aib]
 dsimp only
 rw[yP x (-y) hx (by omega),aib,Int.sub_eq_add_neg]
theorem KY (x y:Int) (hx:x.natAbs<4294967296 ^ 99) (hy:y.natAbs<4294967296 ^ 99):rH (W x) (W y)=some ((x - y).sign,()):=by
 unfold rH
 rw[EY x y hx hy,aib]
 dsimp only
 rw[rI,aib]
theorem YU {x y z c:Int} (hx:0<=x/\x<4294967296) (hy:0<=y/\y<4294967296) (hz:0<=z/\z<4294967296) (hc:0<=c/\c<4294967296):0<=x*y/\x*y<=18446744065119617025/\c+(z+x*y)<=18446744073709551615:=by
 have h1:0<=x*y:=afP hx.1 hy.1
 have h2:x*y<=4294967295*4294967295:=Int.mul_le_mul (by omega) (by omega) (by omega) (by omega)
 omega
theorem OW (i:Nat) (x:Int) (ga:List Int) (gn gi:Int) (b:List Int) (s1:Bool) (l1:List Int) (s2:Bool) (l2:List Int) (s3:Bool) (l3:List Int) (out:List Int) (hx:0<=x/\x<4294967296) (hb:Dg b) (hbl:b.length<10000) (hil:i<10000) (ho:i+b.length<=out.length) (hol:out.length<100000) (hd:Dg out) (n:Nat) (hn:b.length<n): ∃ o c,iter n (((i:Int),x,(0:Int),ga,gn,gi,b,(b.length:Int),(0:Int),s1,l1,s2,l2,s3,l3,out,()):mK) qV=some (Sum.inr ((i:Int),c,ga,gn,gi,s1,l1,s2,l2,s3,l3,o,()))/\ Dg o/\o.length=out.length/\0<=c/\c<4294967296/\v32 o+4294967296 ^ (i+b.length)*c=v32 out+4294967296 ^ i*x*v32 b/\∀ j,i+b.length<=j->o[j]? =out[j]? :=by
 refine bn (Inv:=fun k X=>∃ o c,X=(((i:Int),x,c,ga,gn,gi,b,(b.length:Int),(k:Int),s1,l1,s2,l2,s3,l3,o,()):mK)/\Dg o/\o.length=out.length/\0<=c/\c<4294967296/\v32 o+4294967296 ^ (i+k)*c=v32 out+4294967296 ^ i*x*v32 (b.take k)/\∀ j,i+k<=j->o[j]? =out[j]?) b.length
  (fun r=>∃ o c,r=some (Sum.inr ((i:Int),c,ga,gn,gi,s1,l1,s2,l2,s3,l3,o,()))/\Dg o/\o.length=out.length/\0<=c/\c<4294967296/\v32 o+4294967296 ^ (i+b.length)*c=v32 out+4294967296 ^ i*x*v32 b/\∀ j,i+b.length<=j->o[j]? =out[j]?) ?_ ?_ n 0 _ ⟨out,0,rfl,hd,rfl,by omega,by omega,by simp[C3],fun _ _=>rfl⟩ (by omega) (by omega)
 ·rintro k _ again hk ⟨o,c,rfl,h1,h2,h3,h4,h5,h6⟩ ih
  unfold qV
  dsimp only
  have hy:b[k]? =some b[k]:=aD hk
  have hyd:=hb.get hy
  have hts:=jl hy
  have hz:o[i+k]? =some (o[i+k]'(by omega)):=aD (by omega)
  have hzd:=h1.get hz
  generalize b[k]=y at hy hyd hts
  generalize o[i+k]'(by omega)=z at hz hzd
  obtain⟨m1,m2,m3⟩:=YU hx hyd hzd ⟨h3,h4⟩
  have e1:w64 ((i:Int)+(k:Int))=((i+k:Nat):Int):=by rw[au (by omega) (by omega)];omega
  rw[av (by omega),aV,hy,aib,e1,aH (by simp only[afv,ait];omega),afY,hz,aib,aH (by simp only[afv,ait];omega),aib,
   de (n:=x) (by omega) (by omega),de (n:=y) (by omega) (by omega),de (n:=z) (by omega) (by omega),de (n:=x*y) (by omega) (by omega),de (n:=z+x*y) (by omega) (by omega),de (n:=c+(z+x*y)) (by omega) (by omega),C9,WU,au (n:=(k:Int)+1) (by omega) (by omega)]
  generalize ht:c+(z+x*y)=t at*
  refine ih _ ⟨_,_,rfl,h1.set (by omega),by rw[agT];exact h2,by omega,by omega, ?_,fun j hj=> ?_⟩
  ·rw[Oq hz,hts]
   have e2:(4294967296:Int) ^ (i+(k+1))=4294967296 ^ i*4294967296 ^ k*4294967296:=by rw[<- ahA,afT,afS]
   have e3:(4294967296:Int) ^ (i+k)=4294967296 ^ i*4294967296 ^ k:=afS ..
   rw[e3] at h5
   rw[e2,e3]
   have e4:=Int.mul_ediv_add_emod t 4294967296
   generalize (4294967296:Int) ^ i=p at*
   generalize (4294967296:Int) ^ k=q at*
   generalize t / 4294967296=d at*
   generalize t % 4294967296=r at*
   grind
  ·rw[agG (by omega)];exact h6 j (by omega)
 ·rintro _ again ⟨o,c,rfl,h1,h2,h3,h4,h5,h6⟩
  unfold qV
  dsimp only
  rw[ay (by omega)]
  rw[ahw (ahJ _)] at h5
  exact⟨o,c,rfl,h1,h2,h3,h4,h5,h6⟩
theorem OX (a b:List Int) (ha:Dg a) (hb:Dg b) (hal:a.length<1000) (hbl:b.length<1000) (s1 s2 s3:Bool) (l3:List Int) (n:Nat) (hn:a.length<n): ∃ o,iter n ((a,(a.length:Int),(0:Int),s1,a,s2,b,s3,l3,List.replicate (a.length+b.length) 0,()):mJ) qU=some (Sum.inr (s1,a,s2,b,s3,l3,o,()))/\Dg o/\o.length=a.length+b.length/\v32 o=v32 a*v32 b:=by
 refine bn (Inv:=fun i X=>∃ o,X=((a,(a.length:Int),(i:Int),s1,a,s2,b,s3,l3,o,()):mJ)/\Dg o/\o.length=a.length+b.length/\v32 o=v32 (a.take i)*v32 b/\∀ j,i+b.length<=j->j<a.length+b.length->o[j]? =some 0) a.length
  (fun r=>∃ o,r=some (Sum.inr (s1,a,s2,b,s3,l3,o,()))/\Dg o/\o.length=a.length+b.length/\v32 o=v32 a*v32 b) ?_ ?_ n 0 _ ⟨_,rfl,fun d hd=>by rw[ahe] at hd;omega,by simp,by rw[Ll];simp[C3],fun j _ hj=>by rw[agE,aiB hj]⟩ (by omega) (by omega)
 ·rintro i _ again hi ⟨o,rfl,h1,h2,h3,h4⟩ ih
  unfold qU
  dsimp only
  have hy:a[i]? =some a[i]:=aD hi
  have hyd:=ha.get hy
  have hts:=jl hy
  generalize a[i]=x at hy hyd hts
  rw[av (by omega),aV,hy,aib]
  obtain⟨o',c,k1,k2,k3,k4,k5,k6,k7⟩:=OW i x a (a.length:Int) (i:Int) b s1 a s2 b s3 l3 o hyd hb (by omega) (by omega) (by omega) (by omega) h1 (Int.natAbs (i:Int)+(Int.natAbs x+(Int.natAbs (0:Int)+(List.length a+(Int.natAbs (a.length:Int)+(Int.natAbs (i:Int)+(List.length b+(Int.natAbs ((List.length b:Int))+(Int.natAbs (0:Int)+(List.length a+(List.length b+(List.length l3+(List.length o+2))))))))))))) (by omega)
  rw[k1,az]
  dsimp only
  have e1:w64 ((i:Int)+(b.length:Int))=((i+b.length:Nat):Int):=by rw[au (by omega) (by omega)];omega
  have hz:o'[i+b.length]? =some 0:=by rw[k7 _ (ahJ _)];exact h4 _ (ahJ _) (by omega)
  rw[e1,aH (by simp only[afv,ait];omega),afY,hz,aib,C8 (by omega) (by omega),au (n:=(i:Int)+1) (by omega) (by omega)]
  refine ih _ ⟨_,rfl,k2.set (by omega),by rw[agT];omega, ?_,fun j hj hj2=> ?_⟩
  ·rw[Oq hz,hts]
   have e3:(4294967296:Int) ^ (i+b.length)=4294967296 ^ i*4294967296 ^ b.length:=afS ..
   rw[e3] at k6 ⊢
   grind
  ·rw[agG (by omega),k7 j (by omega)];exact h4 j (by omega) hj2
 ·rintro _ again ⟨o,rfl,h1,h2,h3,h4⟩
  unfold qU
  dsimp only
  rw[ay (by omega)]
  rw[ahw (ahJ _)] at h3
  exact⟨o,rfl,h1,h2,h3⟩
theorem Ef (x y:Int) (hx:x.natAbs<4294967296 ^ 99) (hy:y.natAbs<4294967296 ^ 99):qT (W x) (W y)=some (W (x*y),()):=by
 have hlx:=tF hx
 have hly:=tF hy
 unfold qT W
 dsimp only
 have e1:w64 (((bw x.natAbs).length:Int)+((bw y.natAbs).length:Int))=(((bw x.natAbs).length+(bw y.natAbs).length:Nat):Int):=by rw[au (by omega) (by omega)];omega
 rw[e1,aH (by simp only[afv,ait];omega)]
 obtain⟨o,h1,h2,h3,h4⟩:=OX (bw x.natAbs) (bw y.natAbs) (dV _) (dV _) (by omega) (by omega) (decide (x<0)) (decide (y<0)) false [] (List.length (bw x.natAbs)+(Int.natAbs ((List.length (bw x.natAbs):Int))+(Int.natAbs (0:Int)+(List.length (bw x.natAbs)+(List.length (bw y.natAbs)+(List.length ([]:List Int)+(List.length ((List.replicate (Int.toNat (((bw x.natAbs).length+(bw y.natAbs).length:Nat):Int)) 0):List Int)+2))))))) (by omega)
 rw[afY] at h1 ⊢
 rw[h1,az]
 dsimp only
 rw[jm _ _ h2 (by omega),aib,h4,dX,dX]
 show some (W _,())=some (W (x*y),())
 congr 3
 rw[<- Int.natCast_mul, <- Int.natAbs_mul]
 by_cases h:x<0<;>by_cases h':y<0
 ·have:=Int.mul_pos_of_neg_of_neg h h'
  simp[h,h'];omega
 ·have:=afP (show 0<= -x by omega) (show 0<=y by omega)
  rw[Int.neg_mul] at this
  simp[h,h'];omega
 ·have:=afP (show 0<=x by omega) (show 0<= -y by omega)
  rw[Int.mul_neg] at this
  simp[h,h'];omega
 ·have:=afP (show 0<=x by omega) (show 0<=y by omega)
  simp[h,h'];omega
end Go.Md
namespace Go.Md
open Go.Dn
def Le (k:Nat) (z:Int):Prop:=z.natAbs<=10 ^ k
theorem Le.mul {a b:Nat} {x y:Int} (hx:Le a x) (hy:Le b y):Le (a+b) (x*y):=by
 unfold Le at*
 rw[Int.natAbs_mul,ah2]
 exact Nat.mul_le_mul hx hy
theorem Le.mono {a b:Nat} {x:Int} (hx:Le a x) (h:a<=b):Le b x:=ahK hx (ah3 (by omega) h)
theorem Le.add {a:Nat} {x y:Int} (hx:Le a x) (hy:Le a y):Le (a+1) (x+y):=by
 unfold Le at*
 rw[ah4]
 omega
theorem Le.neg {a:Nat} {x:Int} (hx:Le a x):Le a (-x):=by unfold Le at *;omega
theorem Le.w {k:Nat} {z:Int} (h:Le k z) (hk:k<=900):z.natAbs<4294967296 ^ 99:=
 ahN (h.mono hk) (by decide +kernel)
theorem Le.n {k:Nat} {z:Int} (h:Le k z) (hk:k<=500):(dg6 z.natAbs).length<90:=by
 have:=YZ (k:=84) (n:=z.natAbs) (ahN (h.mono hk) (by decide +kernel))
 omega
theorem Le.pow (n:Nat):Le n (10 ^ n):=by
 unfold Le
 rw[Int.natAbs_pow];exact ahJ _
theorem Le.nat {k n:Nat} (h:n<=10 ^ k):Le k (n:Int):=h
theorem Le.int {n:Int} (h1: -9223372036854775808<=n) (h2:n<=9223372036854775807):Le 19 n:=by unfold Le;omega
theorem Le.succ {k n:Nat} (h:Le k (n:Int)):Le (k+1) ((n+1:Nat):Int):=by
 unfold Le at*
 rw[ah4]
 have:1<=10 ^ k:=Nat.pow_pos (by omega)
 omega
theorem Ue (n:Nat) (hn:n<=60):DB (n:Int)=some (W (10 ^ n),()):=by
 unfold DB
 rw[vp 1 (by omega) (by omega),aib]
 dsimp only
 have loop:∀ (f:Nat),n<f->iter f (((n:Int),(0:Int),false,([]:List Int),(W 1).1,(W 1).2,()):sH) yz=some (Sum.inr (false,[],(W (10 ^ n)).1,(W (10 ^ n)).2,())):=by
  intro f hf
  refine bn (Inv:=fun i X=>X=(((n:Int),(i:Int),false,([]:List Int),(W (10 ^ i)).1,(W (10 ^ i)).2,()):sH)) n (fun r=>r=some (Sum.inr (false,[],(W (10 ^ n)).1,(W (10 ^ n)).2,()))) ?_ ?_ f 0 _ rfl (by omega) (by omega)
  ·rintro i _ again hi rfl ih
   unfold yz
   dsimp only
   rw[av (by omega),vp 10 (by omega) (by omega),aib]
   dsimp only
   rw[Ef (10 ^ i) 10 ((Le.pow i).w (by omega)) ((Le.int (n:=10) (by omega) (by omega)).w (by omega)),aib,au (by omega) (by omega)]
   refine ih _ ?_
   rw[afT]
   rfl
  ·rintro _ again rfl
   unfold yz
   dsimp only
   rw[ay (by omega)]
 rw[loop _ (by omega),az]
theorem FD (d:ax) (p:Int) (h1: -9223372036854775808<=d.1) (h2:d.1<=9223372036854775807) (hp0:0<=p - d.2) (hp:p - d.2<=60) (hd: -1000<=d.2/\d.2<=1000):jk d p=some (W (d.1*10 ^ (p - d.2).toNat),()):=by
 unfold jk
 rw[vp _ h1 h2,aib,au (by omega) (by omega)]
 obtain⟨n,hn⟩:∃ n:Nat,p - d.2=n:=⟨(p - d.2).toNat,by omega⟩
 rw[hn,Ue n (by omega),aib]
 dsimp only
 rw[Ef _ _ ((Le.int h1 h2).w (by omega)) ((Le.pow n).w (by omega)),aib,afY]
end Go.Md
namespace Go.Md
open Go.Dn
theorem Zy (n:Nat):N (n:Int)=(false,dg6 n):=by
 unfold N
 rw[show decide ((n:Int)<0)=false by simp];rfl
theorem En {α:Type} {l:List α} {k:Nat} {y:α} (h:l[k]? =some y):l.drop k=y::l.drop (k+1):=by
 obtain⟨hk,rfl⟩:=agB.1 h
 exact aga hk
theorem aai (n:Nat) (hl:(dg6 n).length<1000):Oj (N (n:Int))=some (N ((n / 2:Nat):Int),((n % 2:Nat):Int),()):=by
 unfold Oj
 rw[Zy]
 dsimp only
 have hdig:=nU n
 have hval:=wF n
 generalize hd:dg6 n=d at*
 have e1:w64 ((d.length:Int) - 1)=(d.length:Int) - 1:=au (by omega) (by omega)
 rw[e1,afY,aH (by simp only[afv,ait];omega)]
 have loop:∀ f,d.length<f->∃ o:List Int,iter f (((0:Int),(d.length:Int) - 1,false,d,false,([]:List Int),false,List.replicate d.length 0,()):BS) Fl=some (Sum.inr (((n % 2:Nat):Int),false,[],false,o,()))/\Dg6 o/\o.length=d.length/\v6 o=((n / 2:Nat):Int):=by
  intro f hf
  refine bn (Inv:=fun i X=>∃ o:List Int,X=((v6 (d.drop (d.length - i)) % 2,(d.length:Int) - i - 1,false,d,false,([]:List Int),false,o,()):BS)/\Dg6 o/\o.length=d.length/\v6 o=v6 (d.drop (d.length - i)) / 2*1000000 ^ (d.length - i)/\∀ j,j<d.length - i->o[j]? =some 0) d.length
   (fun r=>∃ o:List Int,r=some (Sum.inr (((n % 2:Nat):Int),false,[],false,o,()))/\Dg6 o/\o.length=d.length/\v6 o=((n / 2:Nat):Int)) ?_ ?_ f 0 _ ⟨List.replicate d.length 0, ?_,fun x hx=>by rw[ahe] at hx;omega,by simp, ?_,fun j hj=>by rw[agE,aiB (by omega)]⟩ (by omega) (by omega)
  ·rintro i _ again hi ⟨o,rfl,h1,h2,h3,h4⟩ ih
   unfold Fl
   dsimp only
   obtain⟨k,hk⟩:∃ k,d.length - i=k+1:=⟨d.length - i - 1,by omega⟩
   have hki:d.length - (i+1)=k:=by omega
   have hy:d[k]? =some (d[k]'(by omega)):=aD (by omega)
   have hyd:=hdig.get hy
   have hcons:=En hy
   generalize d[k]'(by omega)=y at hy hyd hcons
   rw[hk] at h3 h4 ⊢
   rw[hki] at ih
   rw[hcons] at ih
   rw[C4] at ih
   have hnn:=mI (hdig.drop (k+1))
   generalize v6 (d.drop (k+1))=V at*
   have hi1:(d.length:Int) - i - 1=((k:Nat):Int):=by omega
   rw[hi1,av (by omega),aV,hy,aib]
   have hz:o[k]? =some 0:=h4 k (by omega)
   rw[au (n:=V % 2*1000000) (by omega) (by omega),au (n:=V % 2*1000000+y) (by omega) (by omega)]
   rw[afW (by omega),afX (by omega),au (n:=(V % 2*1000000+y) / 2) (by omega) (by omega),au (n:=(k:Int) - 1) (by omega) (by omega)]
   rw[aH (by simp only[afv,ait];omega),afY,hz,aib]
   refine ih _ ⟨o.set k ((V % 2*1000000+y) / 2), ?_,h1.set (by omega),by rw[agT];exact h2, ?_,fun j hj=> ?_⟩
   ·rw[show (V % 2*1000000+y) % 2=(y+1000000*V) % 2 by omega,show (k:Int) - 1=(d.length:Int) - ((i+1:Nat):Int) - 1 by omega]
   ·rw[SA hz,h3,afT]
    have e2:(y+1000000*V) / 2=V / 2*1000000+(V % 2*1000000+y) / 2:=by omega
    rw[e2]
    grind
   ·rw[agG (by omega)];exact h4 j (by omega)
  ·rintro _ again ⟨o,rfl,h1,h2,h3,h4⟩
   unfold Fl
   dsimp only
   rw[ay (by omega)]
   rw[ah5,agf,hval] at h3 ⊢
   exact⟨o,rfl,h1,h2,by rw[h3];simp⟩
  ·rw[Nat.sub_zero,agc,Ed,show ((d.length:Int) - ((0:Nat):Int) - 1)=(d.length:Int) - 1 by omega];rfl
  ·have:v6 (List.replicate d.length 0)=0:=by
    generalize d.length=m
    induction m with
    | zero=>rfl
    | succ n ih=>rw[aho,C4,ih];rfl
   rw[this];simp[Ed]
 obtain⟨o,h1,h2,h3,h4⟩:=loop (Int.natAbs (0:Int)+(Int.natAbs ((d.length:Int) - 1)+(List.length d+(List.length ([]:List Int)+(List.length ((List.replicate d.length 0):List Int)+2))))) (by omega)
 rw[h1,az]
 dsimp only
 rw[Ol false o h2 (by omega),aib,h4]
 rfl
theorem aci {n:Nat} (h:0<n):dg 2 n=((n % 2:Nat):Int)::dg 2 (n / 2):=Bi (by omega) h
theorem TY (b0:Bool) (b1:List Int) (g1 g2:Bool) (l1 l2:List Int):∀ (k fuel n:Nat) (bits:List Int),n<2 ^ k->k<fuel->bits.length+k<100000->(dg6 n).length<1000-> iter fuel ((bits,b0,b1,g1,l1,g2,l2,(N (n:Int)).1,(N (n:Int)).2,()):xg) mD=some (Sum.inr (bits++dg 2 n,b0,b1,g1,l1,g2,l2,())):=by
 intro k
 induction k with
 | zero=>
  intro fuel n bits hn hf hb hl
  obtain⟨f,rfl⟩:∃ f,fuel=f+1:=⟨fuel - 1,by omega⟩
  have:n=0:=by simpa using hn
  subst this
  show mD _ _=_
  unfold mD
  dsimp only
  rw[show ((N ((0:Nat):Int)).1,(N ((0:Nat):Int)).2)=N ((0:Nat):Int) from rfl,BR,aib]
  rw[AK,af4]
  rfl
 | succ k ih=>
  intro fuel n bits hn hf hb hl
  obtain⟨f,rfl⟩:∃ f,fuel=f+1:=⟨fuel - 1,by omega⟩
  show mD _ (fun y=>iter f y mD)=_
  generalize hag:(fun y=>iter f y mD)=again
  unfold mD
  dsimp only
  rw[show ((N (n:Int)).1,(N (n:Int)).2)=N (n:Int) from rfl,BR,aib]
  by_cases h0:n=0
  ·subst h0
   rw[AK,af4]
   rfl
  ·dsimp only
   rw[av (by rw[gt_iff_lt,Int.sign_pos_iff];omega),aai n hl,aib]
   dsimp only
   rw[aH (pK (by omega) (by omega)), <- hag]
   dsimp only
   rw[ih f (n / 2) _ (by rw[ah4] at hn;omega) (by omega) (by simp;omega) (ahN (Rr (Nat.div_le_self _ _)) hl),aci (show 0<n by omega),af3]
   rfl
theorem XF (a b:Nat) (hb:0<b) (ha:Le 400 (a:Int)) (hb2:Le 400 (b:Int)):HG (N (a:Int)) (N (b:Int))=some (N ((a / b:Nat):Int),N ((a % b:Nat):Int),()):=by
 unfold HG
 dsimp only
 have hla:=ha.n (by omega)
 rw[show (a:Int).natAbs=a from rfl] at hla
 have ZS:a<2 ^ (20*(dg6 a).length+1):=by
  have h1:=HV (nU a)
  rw[wF] at h1
  have h2:((1000000:Int) ^ (dg6 a).length)=((1000000 ^ (dg6 a).length:Nat):Int):=by simp
  rw[h2] at h1
  have h3:(1000000:Nat) ^ (dg6 a).length<=(2 ^ 20) ^ (dg6 a).length:=Nat.pow_le_pow_left (by omega) _
  rw[<- Nat.pow_mul] at h3
  have h4:2 ^ (20*(dg6 a).length)<=2 ^ (20*(dg6 a).length+1):=ah3 (by omega) (by omega)
  omega
 have hN:(N (a:Int)).2=dg6 a:=by rw[Zy]
 rw[hN]
 have hl1:=TY (N (b:Int)).1 (N (b:Int)).2 false false [] [] (20*(dg6 a).length+1) (20*(dg6 a).length+2) a [] ZS (by omega) (by simp;omega) (by omega)
 rw[hN] at hl1
 rw[hl1,az,ahh,uq 2 (by omega) (by omega),aib]
 dsimp only
 have hdig:Dig 2 (dg 2 a):=WD (B:=2) (by omega) a
 have hval:val 2 (dg 2 a)=(a:Int):=XX (B:=2) (by omega) a
 have hlen:(dg 2 a).length<3000:=by have:=Rs (B:=2) (by omega) _ a ZS;omega
 generalize hd:dg 2 a=d at*
 have e1:w64 ((d.length:Int) - 1)=(d.length:Int) - 1:=au (by omega) (by omega)
 rw[e1]
 have loop:∀ f,d.length<f->iter f ((d,(d.length:Int) - 1,(N (b:Int)).1,(N (b:Int)).2,false,([]:List Int),false,([]:List Int),(N 0).1,(N 0).2,(N 0).1,(N 0).2,(N 2).1,(N 2).2,()):uV) zO=some (Sum.inr (false,[],false,[],(N ((a / b:Nat):Int)).1,(N ((a / b:Nat):Int)).2,(N ((a % b:Nat):Int)).1,(N ((a % b:Nat):Int)).2,())):=by
  intro f hf
  refine bn (Inv:=fun i X=>∃ V:Nat,X=((d,(d.length:Int) - i - 1,(N (b:Int)).1,(N (b:Int)).2,false,([]:List Int),false,([]:List Int),(N ((V / b:Nat):Int)).1,(N ((V / b:Nat):Int)).2,(N ((V % b:Nat):Int)).1,(N ((V % b:Nat):Int)).2,(N 2).1,(N 2).2,()):uV)/\(V:Int)=val 2 (d.drop (d.length - i))/\V<=a) d.length
   (fun r=>r=some (Sum.inr (false,[],false,[],(N ((a / b:Nat):Int)).1,(N ((a / b:Nat):Int)).2,(N ((a % b:Nat):Int)).1,(N ((a % b:Nat):Int)).2,()))) ?_ ?_ f 0 _ ⟨0, ?_,by simp[val],by omega⟩ (by omega) (by omega)
  ·rintro i _ again hi ⟨V,rfl,hV,hVa⟩ ih
   unfold zO
   dsimp only
   obtain⟨k,hk⟩:∃ k,d.length - i=k+1:=⟨d.length - i - 1,by omega⟩
   have hki:d.length - (i+1)=k:=by omega
   have hy:d[k]? =some (d[k]'(by omega)):=aD (by omega)
   have hyd:=hdig.get hy
   have hcons:=En hy
   generalize d[k]'(by omega)=y at hy hyd hcons
   rw[hk] at hV
   rw[hki,hcons] at ih
   have hV':val 2 (y::d.drop (k+1))=y+2*V:=by rw[val,hV]
   have hle:y+2*V<=a:=by
    have h1:val 2 (d.drop k)*2 ^ k+val 2 (d.take k)=a:=by
     have:=B7 (B:=2) (d.take k) (d.drop k)
     rw[ahs,hval,agV,ahW (by omega)] at this
     rw[this,Int.mul_comm,Int.add_comm]
    have h2:=B8 (B:=2) (by omega) (hdig.take k)
    have h3:(1:Int)<=2 ^ k:=Gj (by omega) k
    rw[hcons,hV'] at h1
    have h4:0<=(y+2*(V:Int))*(2 ^ k - 1):=afP (by omega) (by omega)
    rw[afR,afQ] at h4
    omega
   obtain⟨m,rfl⟩:∃ m:Nat,y=m:=⟨y.toNat,by omega⟩
   have hm2:m=0\/m=1:=by omega
   have hi1:(d.length:Int) - i - 1=((k:Nat):Int):=by omega
   have hq:Le 400 ((V / b:Nat):Int):=ahK (ahK (Nat.div_le_self _ _) hVa) ha
   have hr:Le 400 ((V % b:Nat):Int):=ahK (ahK (Nat.mod_le _ _) hVa) ha
   have h2:Le 1 2:=by unfold Le;decide
   rw[hi1,av (by omega)]
   rw[show ∀ z:Int,((N z).1,(N z).2)=N z from fun _=>rfl]
   rw[show ∀ z:Int,((N z).1,(N z).2)=N z from fun _=>rfl]
   rw[show ∀ z:Int,((N z).1,(N z).2)=N z from fun _=>rfl]
   rw[show ∀ z:Int,((N z).1,(N z).2)=N z from fun _=>rfl]
   have bq:=hq.n (by omega)
   have br:=hr.n (by omega)
   have b2:=h2.n (by omega)
   have bb:=hb2.n (by omega)
   rw[uW _ _ (by omega) (by omega),aib,uW _ _ (by omega) (by omega),aib]
   rw[aH (by simp only[afv,ait];omega),afY,hy,aib,uq _ (by omega) (by omega),aib]
   dsimp only
   have br2:=(hr.mul h2).n (by omega)
   have brm:=((hr.mul h2).add ((Le.nat (k:=1) (n:=m) (by omega)).mono (by omega:1<=400+1))).n (by omega)
   have bm:=(Le.nat (k:=1) (n:=m) (by omega)).n (by omega)
   have bq2:=(hq.mul h2).n (by omega)
   rw[l7 _ _ (by omega) (by omega),aib]
   dsimp only
   rw[Nj _ _ (by omega) (by omega),aib]
   dsimp only
   rw[au (n:=(k:Int) - 1) (by omega) (by omega)]
   have hdm:=Nat.div_add_mod V b
   have hml:=Nat.mod_lt V hb
   by_cases hge:b<=V % b*2+m
   ·rw[av (by rw[ge_iff_le,Int.sign_nonneg_iff];omega),uq 1 (by omega) (by omega),aib]
    dsimp only
    have b1:(dg6 (Int.natAbs 1)).length<90:=(Le.int (n:=1) (by omega) (by omega)).n (by omega)
    rw[l7 _ _ (by omega) (by omega),aib,Dp,aib]
    dsimp only
    have bnb:=hb2.neg.n (by omega)
    rw[l7 _ _ (by omega) (by omega),aib]
    have e:(m+2*V) / b=V / b*2+1/\(m+2*V) % b=V % b*2+m - b:=by
     have h1:m+2*V=b*(V / b*2+1)+(V % b*2+m - b):=by
      rw[Nat.mul_add,Nat.mul_one,show b*(V / b*2)=2*(b*(V / b)) by grind];omega
     have h2:V % b*2+m - b<b:=by omega
     rw[h1]
     exact⟨by rw[Nat.mul_add_div hb,ahD h2,ahC],by rw[Nat.mul_add_mod,ahX h2]⟩
    refine ih _ ⟨m+2*V, ?_,by rw[hV'];omega,by omega⟩
    rw[e.1,e.2]
    have e3:(((V % b*2+m - b:Nat)):Int)=((V % b:Nat):Int)*2+(m:Int)+ -(b:Int):=by omega
    have e4:((V / b*2+1:Nat):Int)=((V / b:Nat):Int)*2+1:=by omega
    rw[e3,e4]
    congr 2
    omega
   ·rw[ay (by rw[ge_iff_le,Int.sign_nonneg_iff];omega)]
    have e:(m+2*V) / b=V / b*2/\(m+2*V) % b=V % b*2+m:=by
     have h1:m+2*V=b*(V / b*2)+(V % b*2+m):=by
      rw[show b*(V / b*2)=2*(b*(V / b)) by grind];omega
     have h2:V % b*2+m<b:=by omega
     rw[h1]
     exact⟨by rw[Nat.mul_add_div hb,ahD h2,ahC],by rw[Nat.mul_add_mod,ahX h2]⟩
    refine ih _ ⟨m+2*V, ?_,by rw[hV'];omega,by omega⟩
    rw[e.1,e.2]
    have e3:((V % b*2+m:Nat):Int)=((V % b:Nat):Int)*2+(m:Int):=by omega
    have e4:((V / b*2:Nat):Int)=((V / b:Nat):Int)*2:=by omega
    rw[e3,e4]
    congr 2
    omega
  ·rintro _ again ⟨V,rfl,hV,hVa⟩
   unfold zO
   dsimp only
   rw[ay (by omega)]
   rw[ah5,agf,hval] at hV
   have:V=a:=by omega
   subst this
   rfl
  ·rw[Nat.zero_div,Nat.zero_mod,show ((d.length:Int) - ((0:Nat):Int) - 1)=(d.length:Int) - 1 by omega];rfl
 have hl2:=loop (List.length d+(Int.natAbs ((d.length:Int) - 1)+(List.length (N (b:Int)).2+(List.length ([]:List Int)+(List.length ([]:List Int)+(List.length ([]:List Int)+(List.length ([]:List Int)+(List.length (N 2).2+2)))))))) (by omega)
 have hN0:(N 0).1=false/\(N 0).2=[]:=⟨rfl,rfl⟩
 rw[hN0.1,hN0.2] at hl2
 rw[hl2,az]
end Go.Md
namespace Go.Md
open Go.Dn
theorem YJ (z limit:Int) (h0:0<limit) (h1:limit<=1000000000000000000) (hz:Le 500 z):KL (N z) limit=some (if z.natAbs<=limit then (z,true,()) else (0,false,())):=by
 unfold KL
 rw[uq limit (by omega) (by omega),aib]
 have hl:=hz.n (by omega)
 have hl2:(dg6 limit.natAbs).length<90:=(Le.int (n:=limit) (by omega) (by omega)).n (by omega)
 show Option.bind (CR (dg6 z.natAbs) (dg6 limit.natAbs)) _=_
 obtain⟨c,k1,k2,k3⟩:=Pm z.natAbs limit.natAbs (by omega) (by omega)
 rw[k1,aib]
 dsimp only
 by_cases hc:c>0
 ·rw[av hc,aiA (by omega)]
 ·rw[ay hc,aiB (by omega)]
  show aJ (iter _ ((0:Int),w64 (((dg6 z.natAbs).length:Int) - 1),decide (z<0),dg6 z.natAbs,()) _) _=_
  have hdig:=nU z.natAbs
  have hval:=wF z.natAbs
  rw[show (N z).2=dg6 z.natAbs from rfl]
  generalize hd:dg6 z.natAbs=d at*
  rw[au (n:=(d.length:Int) - 1) (by omega) (by omega)]
  have loop:∀ f,d.length<f->iter f (((0:Int),(d.length:Int) - 1,decide (z<0),d,()):zh) Dw=some (Sum.inr ((z.natAbs:Int),decide (z<0),d,())):=by
   intro f hf
   refine bn (Inv:=fun i X=>X=((v6 (d.drop (d.length - i)),(d.length:Int) - i - 1,decide (z<0),d,()):zh)) d.length
    (fun r=>r=some (Sum.inr ((z.natAbs:Int),decide (z<0),d,()))) ?_ ?_ f 0 _ ?_ (by omega) (by omega)
   ·rintro i _ again hi rfl ih
    unfold Dw
    dsimp only
    obtain⟨k,hk⟩:∃ k,d.length - i=k+1:=⟨d.length - i - 1,by omega⟩
    have hki:d.length - (i+1)=k:=by omega
    have hy:d[k]? =some (d[k]'(by omega)):=aD (by omega)
    have hyd:=hdig.get hy
    have hcons:=En hy
    generalize d[k]'(by omega)=y at hy hyd hcons
    rw[hk]
    rw[hki,hcons,C4] at ih
    have hnn:=mI (hdig.drop (k+1))
    have hle:y+1000000*v6 (d.drop (k+1))<=z.natAbs:=by
     have h1:v6 (d.drop k)*1000000 ^ k+v6 (d.take k)=z.natAbs:=by
      have:=NO (d.take k) (d.drop k)
      rw[ahs,hval,agV,ahW (by omega)] at this
      rw[this,Int.mul_comm,Int.add_comm]
     have h2:=mI (hdig.take k)
     have h3:(1:Int)<=1000000 ^ k:=Gj (by omega) k
     rw[hcons,C4] at h1
     have h4:0<=(y+1000000*v6 (d.drop (k+1)))*(1000000 ^ k - 1):=afP (by omega) (by omega)
     rw[afR,afQ] at h4
     omega
    generalize v6 (d.drop (k+1))=V at*
    have hi1:(d.length:Int) - i - 1=((k:Nat):Int):=by omega
    rw[hi1,av (by omega),aV,hy,aib,au (n:=V*1000000) (by omega) (by omega),au (n:=V*1000000+y) (by omega) (by omega),au (n:=(k:Int) - 1) (by omega) (by omega)]
    refine ih _ ?_
    rw[show V*1000000+y=y+1000000*V by omega,show (k:Int) - 1=(d.length:Int) - ((i+1:Nat):Int) - 1 by omega]
   ·rintro _ again rfl
    unfold Dw
    dsimp only
    rw[ay (by omega),ah5,agf,hval]
   ·rw[Nat.sub_zero,agc,Ed,show ((d.length:Int) - ((0:Nat):Int) - 1)=(d.length:Int) - 1 by omega]
  rw[loop _ (by omega),az]
  dsimp only
  by_cases hn:z<0
  ·rw[av hn,au (by omega) (by omega)]
   congr 2;omega
  ·rw[ay hn]
   congr 2;omega
end Go.Md
namespace Go.Md
open Go.Dn
theorem dS:∀ a:Bys,Op.bytesLess a a=false
 | []=>rfl
 | x::a=>by simp[Op.bytesLess,dS a]
theorem dM:∀ {a b:Bys},Lib.compareBytes a b=0↔a=b
 | [],[]=>by simp[Lib.compareBytes]
 | [],_::_=>by simp[Lib.compareBytes]
 | _::_,[]=>by simp[Lib.compareBytes]
 | x::a,y::b=>by
  simp only[Lib.compareBytes,List.cons.injEq]
  by_cases h1:x<y
  ·simp only[h1,aiC]
   constructor
   ·intro h;omega
   ·rintro⟨rfl,_⟩;exact absurd h1 (UInt8.lt_irrefl x)
  ·by_cases h2:y<x
   ·simp only[h1,h2,aiC,aiz]
    constructor
    ·intro h;omega
    ·rintro⟨rfl,_⟩;exact absurd h2 (UInt8.lt_irrefl x)
   ·have:x=y:=UInt8.le_antisymm (aii.1 h2) (aii.1 h1)
    subst this
    simp only[h1,aiz,true_and]
    exact dM
theorem eU:∀ {a b:Bys},Lib.compareBytes a b<0↔Op.bytesLess a b=true
 | [],[]=>by simp[Lib.compareBytes,Op.bytesLess]
 | [],_::_=>by simp[Lib.compareBytes,Op.bytesLess]
 | _::_,[]=>by simp[Lib.compareBytes,Op.bytesLess]
 | x::a,y::b=>by
  have ih:= @eU a b
  simp only[Lib.compareBytes,Op.bytesLess]
  by_cases h1:x<y
  ·simp[h1]
  ·by_cases h2:y<x
   ·have hne:¬ x=y:=fun e=>by subst e;exact absurd h2 (UInt8.lt_irrefl x)
    simp[h1,h2,hne]
   ·have:x=y:=UInt8.le_antisymm (aii.1 h2) (aii.1 h1)
    subst this
    simp[h1,ih]
theorem er:∀ {a b c:Bys},Op.bytesLess a b=true->Op.bytesLess b c=true->Op.bytesLess a c=true
 | [],[],_,h,_=>by simp[Op.bytesLess] at h
 | [],_::_,[],_,h=>by simp[Op.bytesLess] at h
 | [],_::_,_::_,_,_=>rfl
 | _::_,[],_,h,_=>by simp[Op.bytesLess] at h
 | _::_,_::_,[],_,h=>by simp[Op.bytesLess] at h
 | x::a,y::b,z::c,h,k=>by
  simp only[Op.bytesLess,afI,afv,ait,beq_iff_eq] at h k ⊢
  rcases h with h | ⟨rfl,h⟩
  ·rcases k with k | ⟨rfl,k⟩
   ·exact .inl (UInt8.lt_trans h k)
   ·exact .inl h
  ·rcases k with k | ⟨rfl,k⟩
   ·exact .inl k
   ·exact .inr ⟨rfl,er h k⟩
theorem sN (a b:Bys):Op.bytesLess a b=true\/a=b\/Op.bytesLess b a=true:=by
 induction a generalizing b with
 | nil=>cases b with
  | nil=>simp
  | cons y b=>simp[Op.bytesLess]
 | cons x a ih=>cases b with
  | nil=>simp[Op.bytesLess]
  | cons y b=>
   simp only[Op.bytesLess,afI,afv,ait,beq_iff_eq,List.cons.injEq]
   by_cases h1:x<y
   ·simp[h1]
   ·by_cases h2:y<x
    ·simp[h2]
    ·have:x=y:=UInt8.le_antisymm (aii.1 h2) (aii.1 h1)
     subst this
     rcases ih b with h | h | h<;>simp[h]
def Asc {α:Type} (key:α->Bys) (l:List α):Prop:=∀ (i j:Nat) (x y:α),i<j->l[i]? =some x->l[j]? =some y->Op.bytesLess (key x) (key y)=true
def cq {α:Type} (key:α->Bys) (t:Bys) (l:List α):Option Nat:=l.findIdx? (fun r=>key r==t)
theorem fM {α:Type} {key:α->Bys} {t:Bys} {l:List α} {k:Nat} (h:cq key t l=some k):∃ x,l[k]? =some x/\key x=t:=by
 unfold cq at h
 rw[ago] at h
 obtain⟨h1,h2,_⟩:=h
 exact⟨_,agz h1,by simpa using h2⟩
theorem MV {α:Type} {key:α->Bys} {t:Bys} {l:List α} (h:cq key t l=none):∀ x∈l,key x≠t:=by
 unfold cq at h
 rw[agn] at h
 intro x hx e
 have:=h x hx
 simp[e] at this
theorem N9 {α:Type} {key:α->Bys} {t:Bys} {l:List α} (hs:Asc key l) {k:Nat} {x:α} (hk:l[k]? =some x) (hx:key x=t):cq key t l=some k:=by
 cases h:cq key t l with
 | none=>exact absurd hx (MV h x (aha hk))
 | some j=>
  obtain⟨y,h1,h2⟩:=fM h
  rcases ahV j k with hlt | rfl | hlt
  ·have:=hs j k y x hlt h1 hk
   rw[h2,hx,dS] at this;cases this
  ·rfl
  ·have:=hs k j x y hlt hk h1
   rw[h2,hx,dS] at this;cases this
def ixI:Option Nat->Int
 | some k=>(k:Int)
 | none=> -1
theorem Y7 (o:Option Nat):decide (ixI o<0)= !o.isSome:=by
 cases o with
 | none=>rfl
 | some k=>exact aiq (by simp only[ixI];omega)
end Go.Md
namespace Go.Md
open Go.Dn
instance (d:ax):Decidable (cc d):=by unfold cc;exact inferInstance
def inR (d:ax) (lo hi pl:Int):Bool:=decide (cc d/\d.2<=pl/\lo*10 ^ d.2.toNat<=d.1/\d.1<=hi*10 ^ d.2.toNat)
theorem ach {d:ax} (h0:0<=d.2) (h1:d.2<=9) (k:Int):k*10 ^ 9=k*10 ^ d.2.toNat*10 ^ (9 - d.2).toNat:=by
 rw[afN, <- afS,show d.2.toNat+(9 - d.2).toNat=9 by omega]
theorem adf {d:ax} (h0:0<=d.2) (h1:d.2<=9) (k:Int):Ag d<=k*10 ^ 9↔d.1<=k*10 ^ d.2.toNat:=by
 unfold Ag
 rw[ach h0 h1]
 exact Int.mul_le_mul_right (Hz _)
theorem GX (d:ax):lu d=some (if cc d then 0 else 1,()):=by
 rw[H6]
 congr 2
 by_cases h:cc d
 ·rw[aiB h,aiB (by unfold cc at h;omega)]
 ·rw[aiA h,aiA (by unfold cc at h;omega)]
theorem LL (d:ax):qO d=some (if cc d then 0 else 1,()):=by
 rw[Ni]
 congr 2
 by_cases h:cc d
 ·rw[aiB h,aiB (by unfold cc at h;omega)]
 ·rw[aiA h,aiA (by unfold cc at h;omega)]
def ae0 (pl:Int) (rates:List E2) (line:Bool) (x:yQ):Int:=
 if cc x.2.1 then
  (if x.2.1.1=0 then 13
  else if (if x.1=true then inR x.2.1 (-100) 100 9 else inR x.2.1 (-1000000000) 1000000000 pl)=true then
   (if x.2.2=[] then 0 else if line=true then 3 else if (cq (·.1) x.2.2 rates).isSome=true then 0 else 5)
  else 1)
 else 1
def ac2 (pl:Int) (rates:List E2) (line:Bool) (l:List yQ):Int:=if 20<l.length then 2 else bV (fun _ x=>ae0 pl rates line x) 0 l
theorem On {γ:Type} (s:Int) (u:γ):aJ (β:=Int×Unit) (γ:=γ) (if s=0 then some (Sum.inr u) else some (Sum.inl (s,()))) (fun _=>some (0,()))=some (s,()):=by
 by_cases h:s=0
 ·rw[aiB h,az,h]
 ·rw[aiA h,iN]
theorem gA {X α:Type} {γ:Type} {f:X->(X->Option ((Int×Unit) ⊕ γ))->Option ((Int×Unit) ⊕ γ)} {x0:X} (mk:Nat->X) (l:List α) (g:Nat->α->Int) (u:γ) (h0:x0=mk 0) (hstep:∀ i y again,l[i]? =some y->f (mk i) again=if g i y=0 then again (mk (i+1)) else some (Sum.inl (g i y,()))) (hend:∀ again,f (mk l.length) again=some (Sum.inr u)) (n:Nat) (hn:l.length<n): iter n x0 f=if bV g 0 l=0 then some (Sum.inr u) else some (Sum.inl (bV g 0 l,())):=by
 rw[h0];exact UE mk l g u hstep hend l 0 n rfl (ah8 _) hn
end Go.Md
namespace Go.Md
open Go.Dn
theorem TQ (n:Int) (h0:0<=n) (h1:n<=18):It n=some (10 ^ n.toNat,()):=Ve n h0 h1
end Go.Md
namespace Go.Md
open Go.Dn
theorem aex {γ:Type} (s:Int) (u:γ) (k:γ->Option (Int×Unit)) (z:Int) (hk:k u=some (z,())):aJ (β:=Int×Unit) (γ:=γ) (if s=0 then some (Sum.inr u) else some (Sum.inl (s,()))) k=some (if s≠0 then s else z,()):=by
 by_cases h:s=0
 ·rw[aiB h,az,hk,aiA (by simpa using h)]
 ·rw[aiA h,iN,aiB h]
end Go.Md
namespace Go.Md
open Go.Dn
structure afa (pl:Int) (x:yQ):Prop where
 dec:cc x.2.1
 place:x.1=false->x.2.1.2<=pl
 nz:x.2.1.1≠0
structure adX (pl:Int) (rates:List E2) (x:II):Prop where
 q:cc x.2.2.2.1
 qp:x.2.2.2.1.2<=3
 qn:x.2.2.2.1.1≠0
 p:cc x.2.2.2.2.2.1
 pp:x.2.2.2.2.2.1.2<=4
 p0:0<=x.2.2.2.2.2.1.1
 per:1<=x.2.2.2.2.2.2.1/\x.2.2.2.2.2.2.1<=100000
 ext:ac2 pl rates true x.2.2.2.2.2.2.2.1=0
 rate:(cq (·.1) x.2.2.2.2.2.2.2.2 rates).isSome=true
structure afb (v:U6):Prop where
 pl:0<=v.2.2.2.1/\v.2.2.2.1<=4
 way:1<=v.2.2.2.2.1/\v.2.2.2.2.1<=6
 rn:0<v.2.2.2.2.2.2.1.length/\v.2.2.2.2.2.2.1.length<=20
 asc:Asc (·.1) v.2.2.2.2.2.2.1
 rates:∀ r∈v.2.2.2.2.2.2.1,inR r.2 0 100 9=true
 ln:0<v.2.2.2.2.2.2.2.1.length/\v.2.2.2.2.2.2.2.1.length<=500
 lines:∀ x∈v.2.2.2.2.2.2.2.1,adX v.2.2.2.1 v.2.2.2.2.2.2.1 x
 ext:ac2 v.2.2.2.1 v.2.2.2.2.2.2.1 false v.2.2.2.2.2.2.2.2=0
end Go.Md
namespace Go.Md
open Go.Dn
theorem Le.dec {d:ax} (h:cc d):Le 15 d.1:=by
 have:=h.1
 unfold Le;omega
theorem Le.i1 {n:Int} (h1: -9223372036854775808<=n) (h2:n<=9223372036854775807):n.natAbs<4294967296 ^ 99:=(Le.int h1 h2).w (by omega)
theorem XG {n:Int} (h0:0<=n) (h1:n<=40):Gs n=some (N (10 ^ n.toNat),()):=by
 obtain⟨m,rfl⟩:∃ m:Nat,n=m:=⟨n.toNat,by omega⟩
 exact Pk m (by omega)
theorem abJ (d:ax) (p:Int) (hd:cc d) (hp:d.2<=p) (hp2:p<=9):Dm d p=some (N (d.1*10 ^ (p - d.2).toNat),()):=by
 have h1:=hd.1;have h2:=hd.2
 have l2:=(Le.dec hd).n (by omega);have l3:=(Le.pow (p - d.2).toNat).n (by omega)
 unfold Dm
 rw[uq _ (by omega) (by omega),aib,au (by omega) (by omega),XG (by omega) (by omega),aib]
 dsimp only
 rw[uW _ _ (by omega) (by omega),aib]
end Go.Md
