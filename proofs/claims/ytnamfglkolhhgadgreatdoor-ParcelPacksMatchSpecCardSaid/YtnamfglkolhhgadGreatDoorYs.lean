/-
  Plain facts: packs and stacks of both sides; the plain law is true of all data. No condition.
-/
import Derived.Test.YtnamfglkolhhgadGreatDoorYo
import Derived.Test.YtnamfglkolhhgadGreatDoorYl
import Derived.Test.YtnamfglkolhhgadGreatDoorYk
set_option linter.all false
set_option linter.all false
set_option maxRecDepth 20000
namespace Go.Md
open Go.Dn
theorem ac7 (s:List UInt8) (hs:s.length≤9223372036854775807):qq 3 s=some (lbl s,()):=by
 have h:=IJ s hs
 unfold yc CJ Ad at h
 rw[rH,ajq,ajq] at h
 dsimp only at h
 rw[show (!(decide ((1:Int)≤3∧(3:Int)≤5)))=false by decide,ajD] at h
 cases hq:qq 3 s with
 | none=>rw[hq] at h;cases h
 | some r=>
  rw[hq,ajq,ajq] at h
  obtain⟨b,u⟩:=r
  exact h
theorem adN {P:Nat→Bool}:∀ n,P n=true→∃ k,k≤n∧P k=true∧∀ j,j<k→P j=false
 | n,h=>by
  induction n using Nat.strongRecOn with
  | _ n ih=>
   by_cases hx:∃ j,j<n∧P j=true
   ·obtain⟨j,h1,h2⟩:=hx
    obtain⟨k,k1,k2,k3⟩:=ih j h1 h2
    exact⟨k,by omega,k2,k3⟩
   ·refine⟨n,ai0 _,h,fun j hj=> ?_⟩
    cases hp:P j with
    | false=>rfl
    | true=>exact absurd ⟨j,hj,hp⟩ hx
theorem Yr (body:List UInt8) (hb:body.length=17) (hd:body.all gz=true):Ba 3 body=gZ 3 body:=by
 have nx:maxLen=9223372036854775807:=rfl
 obtain⟨i0,hi0,hl0⟩:=Oz body hb hd
 obtain⟨k,hk,hk1,hk2⟩:=adN (P:=fun i=>lbl (body++[UInt8.ofNat (48+i)])) i0 hl0
 have key:∀ i:Nat,i<10→w32 (w64 (48+Int.tmod (i:Int) 10))=((48+i:Nat):Int):=by decide
 have a:∀ n,k<n→iter (X:=cK) (β:=gh) n (3,body,0,()) cH=some (Sum.inl (body++[UInt8.ofNat (48+k)],0,())):=by
  intro n hn
  refine bf (Inv:=fun i X=>X=(((3:Int),body,(i:Int),()):cK)) k (fun r=>r=some (Sum.inl (body++[UInt8.ofNat (48+k)],0,()))) ?_ ?_ n 0 _ rfl (by omega) (by omega)
  ·rintro i X again hi rfl hag
   unfold cH
   dsimp only
   have hdd:Lib.decDigits i=[UInt8.ofNat (48+i)]:=by rw[Lib.decDigits,dif_pos (by omega)]
   have h2:lbl (body++[UInt8.ofNat (48+i)])=false:=hk2 i hi
   rw[ax (by omega),zY (by omega),ajq,hdd]
   dsimp only
   rw[aC (ajI (by simp;omega)),Gt _ (by simp;omega),ajq]
   dsimp only
   rw[h2,ajD,aq (by omega) (by omega)]
   exact hag _ rfl
  ·rintro X again rfl
   unfold cH
   dsimp only
   have hdd:Lib.decDigits k=[UInt8.ofNat (48+k)]:=by rw[Lib.decDigits,dif_pos (by omega)]
   have h2:lbl (body++[UInt8.ofNat (48+k)])=true:=hk1
   rw[ax (by omega),zY (by omega),ajq,hdd]
   dsimp only
   rw[aC (ajI (by simp;omega)),Gt _ (by simp;omega),ajq]
   dsimp only
   rw[h2,ajE]
 have b:∀ n,k<n→iter (X:=pO) (β:=uV) n (3,body,0,()) uU=some (Sum.inl (body++[UInt8.ofNat (48+k)],0,())):=by
  intro n hn
  refine bf (Inv:=fun i X=>X=(((3:Int),body,(i:Int),()):pO)) k (fun r=>r=some (Sum.inl (body++[UInt8.ofNat (48+k)],0,()))) ?_ ?_ n 0 _ rfl (by omega) (by omega)
  ·rintro i X again hi rfl hag
   unfold uU
   dsimp only
   have h2:lbl (body++[UInt8.ofNat (48+i)])=false:=hk2 i hi
   rw[ax (by omega),key i (by omega),aC (by rw[agE];exact⟨ajI (by omega),ajI (by omega)⟩),aC (ajI (by simp;omega)),show ((3:Int)==4)=false from rfl,ajD,ahd,ac7 _ (by simp;omega),ajq]
   dsimp only
   rw[h2,ajD,aq (by omega) (by omega)]
   exact hag _ rfl
  ·rintro X again rfl
   unfold uU
   dsimp only
   have h2:lbl (body++[UInt8.ofNat (48+k)])=true:=hk1
   rw[ax (by omega),key k (by omega),aC (by rw[agE];exact⟨ajI (by omega),ajI (by omega)⟩),aC (ajI (by simp;omega)),show ((3:Int)==4)=false from rfl,ajD,ahd,ac7 _ (by simp;omega),ajq]
   dsimp only
   rw[h2,ajE]
 unfold gZ kI Ba Ad
 rw[eP,ajq,ajq,rH,ajq,ajq]
 dsimp only
 rw[show (!(!(decide ((3:Int)<1∨(5:Int)<3))))=false by decide,ajD,av (by omega),show ((3:Int)==4)=false from rfl,ajD,show (!(decide ((1:Int)≤3∧(3:Int)≤5)))=false by decide,ajD,ajD,ajq]
 dsimp only
 rw[ajD,a _ (by rw[hb];omega),bO,b _ (by rw[hb];omega),bO]
theorem acj {n:Int} (h: -9223372036854775808≤n∧n≤9223372036854775807):∃ r,strconv_Itoa n=some (r,()):=by
 unfold strconv_Itoa
 cases (decide (0≤n)&&decide (n<100)) with
 | true=>exact⟨_,rfl⟩
 | false=>
  rw[ajD,show (decide (-9223372036854775808≤n)&&decide (n≤9223372036854775807))=true by rw[agE];exact⟨ajI h.1,ajI h.2⟩]
  exact⟨_,rfl⟩
theorem adC (p:List UInt8):p.all (([48,49,50,51,52,53,54,55,56,57]:List UInt8).contains ·)=p.all gz:=by
 have k0:∀ n:Nat,n<256→([48,49,50,51,52,53,54,55,56,57]:List UInt8).contains (UInt8.ofNat n)=gz (UInt8.ofNat n):=by decide
 have key:∀ c:UInt8,([48,49,50,51,52,53,54,55,56,57]:List UInt8).contains c=gz c:=fun c=>by
  have:=k0 c.toNat c.toNat_lt
  rwa [UInt8.ofNat_toNat] at this
 simp only[key]
theorem ZU {m k:Nat} (hk:0<k):(Lib.decDigits m).length≤k↔m<10 ^ k:=by
 have hm:m<10 ^ (m+1):=ai3 Nat.lt_two_pow_self (ai1 (Nat.pow_le_pow_left (by omega) m) (ajj (by omega) (by omega)))
 constructor
 ·intro h
  obtain⟨g1,g2,g3⟩:=vn m m hm
  have gd:=yz m m hm
  have h1:=(ab0 _ 0 gd).2
  have h2:dvf 0 (Lib.decDigits m)=m:=g1
  rw[h2,ajn,ajh] at h1
  exact ai3 h1 (ajj (by omega) h)
 ·intro h
  obtain⟨k,rfl⟩:∃ q,k=q+1:=⟨k - 1,by omega⟩
  exact (vn k m h).2.2
theorem vw (p:List UInt8) (n:Int) (hn: -9223372036854775808≤n∧n≤9223372036854775807):jM p n=bB p n:=by
 have nx:maxLen=9223372036854775807:=rfl
 unfold jM
 by_cases hlen:1≤p.length∧p.length≤15
 rotate_left
 ·have hw:xe (p.length:Int) 1 15=some (false,()):=by
   unfold xe
   by_cases h1:1≤p.length
   ·rw[ax (by omega),ajq,ajG (by omega)]
   ·rw[av (by omega),ajq]
  have hp:qI p=false:=by
   unfold qI
   by_cases h1:p.length≤15
   ·have:p=[]:=List.length_eq_zero_iff.1 (by omega)
    rw[this];rfl
   ·rw[ajG h1,Bool.false_and]
  have hF:gB p n=3:=by unfold gB;rw[ajP (by rw[hp];simp)]
  rw[hw,ajq,ou p n (by rw[hF];decide),hF]
  rfl
 have hw:xe (p.length:Int) 1 15=some (true,()):=by
  unfold xe
  rw[ax (by omega),ajq,ajI (by omega)]
 have ht:iA p [48,49,50,51,52,53,54,55,56,57]=some (Lib.trimS p [48,49,50,51,52,53,54,55,56,57],()):=by
  unfold iA
  rw[show (decide (p.length≤9223372036854775807))=true from ajI (by omega)]
  rfl
 rw[hw,ajq]
 dsimp only
 rw[agP,ajD,ht,ajq]
 dsimp only
 rw[Vf,adC]
 by_cases hd:p.all gz=true
 rotate_left
 ·have hd':p.all gz=false:=Bool.eq_false_iff.2 hd
  have hF:gB p n=3:=by
   unfold gB qI
   rw[hd',agF,agF];rfl
  rw[hd',agO,ajE,ou p n (by rw[hF];decide),hF]
 have hne:p≠[]:=fun e=>by rw[e] at hlen;simp at hlen
 have hp:qI p=true:=by
  unfold qI
  rw[ajI hlen.2,ajI hne,hd];rfl
 rw[hd,agP,ajD]
 by_cases hneg:n<0
 ·obtain⟨r,hr⟩:=acj hn
  have hF:gB p n=1:=by unfold gB;rw[ajQ hp,ajQ (.inl hneg)]
  rw[hr,ajq,ax hneg,ou p n (by rw[hF];decide),hF]
 obtain⟨m,rfl⟩:∃ m:Nat,n=(m:Int):=⟨n.toNat,by omega⟩
 have hml:m≤9223372036854775807:=by omega
 rw[zY hml,ajq]
 dsimp only
 rw[av hneg]
 have hmm:m<10 ^ (18+1):=ai2 hml (by decide)
 obtain⟨_,gl,gl2⟩:=vn 18 m hmm
 rw[aq (n:=(p.length:Int)+((Lib.decDigits m).length:Int)) (by omega) (by omega)]
 have hcast:((10 ^ (17 - p.length):Nat):Int)=(10:Int) ^ (17 - p.length):=by simp
 by_cases hbig:17<p.length+(Lib.decDigits m).length
 ·have h3:¬ m<10 ^ (17 - p.length):=fun h=>by
   have:=(ZU (by omega)).2 h
   omega
  have hF:gB p (m:Int)=1:=by
   unfold gB
   rw[ajQ hp,ajQ (.inr (by omega))]
  rw[ax (by omega),ou p _ (by rw[hF];decide),hF]
 rw[av (by omega)]
 have hm:m<10 ^ (17 - p.length):=(ZU (by omega)).1 (by omega)
 have hm':m<10 ^ (16 - p.length+1):=by
  rw[show 16 - p.length+1=17 - p.length by omega];exact hm
 obtain⟨g1,g2,g3⟩:=vn _ _ hm'
 have gd:=yz _ _ hm'
 have er:w64 (w64 (17 - (p.length:Int)) - ((Lib.decDigits m).length:Int))=((17 - p.length - (Lib.decDigits m).length:Nat):Int):=by
  rw[aq (n:=17 - (p.length:Int)) (by omega) (by omega),aq (by omega) (by omega)];omega
 have hrl:(Lib.repeatL [48] (17 - p.length - (Lib.decDigits m).length)).length=17 - p.length - (Lib.decDigits m).length:=by rw[Lib.repeatL_length,ah9,ajf]
 have hll:((p++Lib.repeatL [48] (17 - p.length - (Lib.decDigits m).length))++Lib.decDigits m).length=17:=by
  rw[ah0,ah0,hrl];omega
 have hal:((p++Lib.repeatL [48] (17 - p.length - (Lib.decDigits m).length))++Lib.decDigits m).all gz=true:=by
  rw[ahe,ahe,M7,gd,hd];rfl
 rw[er,GL _ (by omega),ajq]
 dsimp only
 rw[aC (ajI (by rw[hrl];omega)),aC (ajI (by rw[ah0,hrl];omega)),Yr _ hll hal]
 unfold bB
 rw[IL,ajq,ajQ hp]
 dsimp only
 rw[agP,ajD]
 have h1:(10:Int) ^ (17 - p.length)≤10 ^ 17:=by
  have:=ajj (n:=10) (by omega) (show 17 - p.length≤17 by omega)
  have h2:=ag5.2 this
  simpa using h2
 have h0:(0:Int)<10 ^ (17 - p.length):=ag7 (by decide)
 rw[aq (n:=(10:Int) ^ (17 - p.length) - 1) (by omega) (by omega),eP,ajq]
 dsimp only
 rw[ajG (show ¬((m:Int)<0∨(10:Int) ^ (17 - p.length) - 1<(m:Int)) by omega),ajD,zY hml,ajq]
 dsimp only
 rw[er,GL _ (by omega),ajq]
 dsimp only
 rw[aC (ajI (by rw[hrl];omega)),aC (ajI (by rw[ah0,hrl];omega))]
theorem KE (p:List UInt8) (n many:Int) (hn: -9223372036854775808≤n∧n≤9223372036854775807) (hm:0≤many) (hm2:many≤1000000000000000):AY p n many=some (iM p n many,()):=by
 unfold AY iM
 by_cases h0:many=0
 ·subst h0;rfl
 rw[ajP h0,show (many==0)=false by simpa using h0,ajD,vw p n hn]
 obtain⟨s,h1,_⟩:=B0 p n
 rw[h1,ajq]
 dsimp only
 by_cases hf:gB p n=0
 rotate_left
 ·rw[ajQ hf,show (gB p n != 0)=true by simpa using hf,ajE]
 rw[ajP (by simpa using hf),show (gB p n != 0)=false by simpa using hf,ajD]
 have hb:=ND p
 unfold gB at hf
 split at hf
 ·rename_i hp
  split at hf
  ·cases hf
  ·rename_i hz
   have hz2:0≤n∧n≤rP p - 1:=by unfold rP;omega
   rw[aq (n:=n+many) (by omega) (by omega),aq (by omega) (by omega),vw p _ (by omega)]
   obtain⟨s2,h2,_⟩:=B0 p (n+many - 1)
   rw[h2,ajq]
   dsimp only
   unfold gB
   rw[ajQ hp]
   show some ((if n+many - 1<0∨rP p - 1<n+many - 1 then (1:Int) else 0),())=some ((if rP p - n<many then (1:Int) else 0),())
   by_cases hc:rP p - n<many
   ·rw[ajQ hc,ajQ (by omega)]
   ·rw[ajP hc,ajP (by omega)]
 ·cases hf
theorem Vp (l:List ai) (c d:Int) (r:List ai) (hr:r.length≤1000) (a u:List UInt8) (q1 q2:Int) (f:Nat) (hf:r.length<f):
 iter (X:=mN) (β:=qL) f (l,l,c,d,r,(r.length:Int),0,a,u,q1,q2,()) qK=some (if (a,u)∈r.map eL then Sum.inl (Sum.inl (7,())) else Sum.inr (l,l,c,d,a,u,q1,q2,())):=by
 refine bf (Inv:=fun i X=>X=((l,l,c,d,r,(r.length:Int),(i:Int),a,u,q1,q2,()):mN)∧(a,u)∉(r.take i).map eL) r.length (fun x=>x=some (if (a,u)∈r.map eL then Sum.inl (Sum.inl (7,())) else Sum.inr (l,l,c,d,a,u,q1,q2,()))) ?_ ?_ f 0 _ ⟨rfl,by simp⟩ (by omega) (by omega)
 ·rintro i X again hi ⟨rfl,hI⟩ hag
  unfold qK
  dsimp only
  have hy:r[i]? =some r[i]:=ahO hi
  rw[ax (by omega),aV,hy,ajq]
  by_cases hk:eL r[i]=(a,u)
  ·obtain⟨h1,h2⟩:=Prod.mk.inj hk
   rw[show (r[i].1==a)=true by simpa using h1,ajE,ajq]
   dsimp only
   rw[show (r[i].2.1==u)=true by simpa using h2,ajE,ajQ (aip.2 ⟨r[i],ahZ _,hk⟩)]
   rfl
  ·have hb:(bif r[i].1==a then some (r[i].2.1==u,()) else some (false,()))=some (false,()):=by
    by_cases h1:r[i].1=a
    ·rw[show (r[i].1==a)=true by simpa using h1,ajE,show (r[i].2.1==u)=false by simpa using fun h2=>hk (by show (r[i].1,r[i].2.1)=(a,u);rw[h1,h2])]
    ·rw[show (r[i].1==a)=false by simpa using h1,ajD]
   rw[hb,ajq]
   dsimp only
   rw[ajD,aq (by omega) (by omega)]
   refine hag _ ⟨rfl, ?_⟩
   rw[aiK,hy,aib]
   intro hm
   rcases aii.1 hm with hm | hm
   ·exact hI hm
   ·simp at hm;exact hk hm.symm
 ·rintro X again ⟨rfl,hI⟩
  unfold qK
  dsimp only
  rw[av (by omega)]
  rw[aiO] at hI
  rw[ajP hI]
theorem Kp (l:List ai) (hl:l.length≤1000):ry l=some (bW l,()):=by
 unfold ry bW
 rw[fO (f:=qJ) (fun i=>((l,l,(l.length:Int),(i:Int),()):qM)) l (gF l) () ?_ ?_ ?_ _ ?_]
 ·exact GN _ _
 ·rfl
 ·intro i y again hy
  have hi:=(ahQ.1 hy).1
  unfold qJ
  dsimp only
  rw[ax (by omega),aV,hy,ajq,vW,ajq]
  dsimp only
  unfold gF
  cases eH y.1 with
  | false=>rw[agO,ajE,ajP (by simp),ajP (by decide)]
  | true=>
   rw[agP,ajD,ajQ rfl,vW,ajq]
   dsimp only
   cases eH y.2.1 with
   | false=>rw[agO,ajE,ajP (by simp),ajP (by decide)]
   | true=>
    rw[agP,ajD,ajQ rfl,aC (by simp only[agE,ajJ];omega)]
    have et:List.drop 0 (List.take (Int.toNat (i:Int)) l)=l.take i:=by rw[ahd];rfl
    rw[et,Vp l _ _ (l.take i) (by rw[aia];omega) _ _ _ _ _ (by omega)]
    by_cases h:eL y∈(l.take i).map eL
    ·have h':(y.1,y.2.1)∈(l.take i).map eL:=h
     rw[ajQ h',bO,ajQ h,ajP (by decide)]
    ·have h':¬ (y.1,y.2.1)∈(l.take i).map eL:=h
     rw[ajP h',aB,ajP h]
     dsimp only
     rw[yL,ajq]
     dsimp only
     have e:qOk (y.2.2.1,y.2.2.2) (!true)=qOk y.2.2 false:=rfl
     rw[e]
     cases hq:qOk y.2.2 false with
     | false=>
      simp
     | true=>
      simp only[ajR,agP,ajD]
      rw[aq (by omega) (by omega)]
      rfl
 ·intro again
  unfold qJ
  dsimp only
  rw[av (by omega)]
 ·exact (by omega)
theorem JJ {d:ak} (h:qOk d false=true):vR d=some (th d,()):=by
 obtain⟨h1,h2,h3,h4,h5,h6⟩:=Fb h
 have hd:=h1
 unfold cq at hd
 obtain⟨k,hk⟩:∃ k:Nat,(3:Int) - d.2=k:=⟨(3 - d.2).toNat,by omega⟩
 have hk3:k≤3:=by omega
 have hth:th d=d.1*10 ^ k:=by unfold th;rw[hk,ahd]
 have hp:∀ i,i≤k→d.1*10 ^ i≤th d:=fun i hi=>by
  rw[hth]
  refine agZ ?_ (by omega)
  have:=ag5.2 (ajj (n:=10) (by omega) hi)
  simpa using this
 have hp0:∀ i:Nat,0≤d.1*10 ^ i:=fun i=>ag1 (by omega) (Int.le_of_lt (ag7 (by decide)))
 unfold vR
 rw[hk,aq (n:=(k:Int)) (by omega) (by omega)]
 have loop:∀ f,k<f→iter (X:=vS) (β:=A3) f (d.1,(k:Int),0,()) A2=some (Sum.inr (th d,())):=by
  intro f hf
  refine bf (Inv:=fun i X=>X=((d.1*10 ^ i,(k:Int),(i:Int),()):vS)) k (fun r=>r=some (Sum.inr (th d,()))) ?_ ?_ f 0 _ (by simp) (by omega) (by omega)
  ·rintro i X again hi rfl hag
   unfold A2
   dsimp only
   have e:d.1*10 ^ i*10=d.1*10 ^ (i+1):=by rw[ag8,agY]
   have b1:=hp (i+1) (by omega)
   have b2:=hp0 (i+1)
   rw[ax (by omega),e,aq (by omega) (by omega),aq (by omega) (by omega)]
   exact hag _ rfl
  ·rintro X again rfl
   unfold A2
   dsimp only
   rw[av (by omega),hth]
 rw[loop _ (by omega),aB]
theorem ET (most:List ai) (hl:most.length≤1000) (g:ai):
 (∃ (k:Nat) (x:ai),most[k]? =some x∧eE most g=some x∧qo most g.1 g.2.1=some ((k:Int),()))∨(eE most g=none∧qo most g.1 g.2.1=some (-1,())):=by
 unfold qo
 have loop:∀ f,most.length<f→(∃ (k:Nat) (x:ai),most[k]? =some x∧eE most g=some x∧iter (X:=nq) (β:=rA) f (g.1,g.2.1,most,(most.length:Int),0,()) rz=some (Sum.inl ((k:Int),())))∨(eE most g=none∧iter (X:=nq) (β:=rA) f (g.1,g.2.1,most,(most.length:Int),0,()) rz=some (Sum.inr ())):=by
  intro f hf
  refine bf (Inv:=fun i X=>X=((g.1,g.2.1,most,(most.length:Int),(i:Int),()):nq)∧∀ x∈most.take i,eL x≠eL g) most.length (fun r=>(∃ (k:Nat) (x:ai),most[k]? =some x∧eE most g=some x∧r=some (Sum.inl ((k:Int),())))∨(eE most g=none∧r=some (Sum.inr ()))) ?_ ?_ f 0 _ ⟨rfl,by simp⟩ (by omega) (by omega)
  ·rintro i X again hi ⟨rfl,hI⟩ hag
   unfold rz
   dsimp only
   have hy:most[i]? =some most[i]:=ahO hi
   rw[ax (by omega),aV,hy,ajq]
   by_cases hk:eL most[i]=eL g
   ·obtain⟨h1,h2⟩:=Prod.mk.inj hk
    left
    refine⟨i,most[i],hy, ?_, ?_⟩
    ·unfold eE
     have e:most=most.take i++most[i]::most.drop (i+1):=by rw[← ahr hi,aiL]
     generalize most[i]=z at*
     rw[e,List.find?_append,ahC.2 (fun x hx=>by simpa using hI x hx),Option.none_or,List.find?_cons_of_pos (by simpa using hk)]
    ·rw[show (most[i].1==g.1)=true by simpa using h1,ajE,ajq]
     dsimp only
     rw[show (most[i].2.1==g.2.1)=true by simpa using h2,ajE]
   ·have hb:(bif most[i].1==g.1 then some (most[i].2.1==g.2.1,()) else some (false,()))=some (false,()):=by
     by_cases h1:most[i].1=g.1
     ·rw[show (most[i].1==g.1)=true by simpa using h1,ajE,show (most[i].2.1==g.2.1)=false by simpa using fun h2=>hk (by show (most[i].1,most[i].2.1)=(g.1,g.2.1);rw[h1,h2])]
     ·rw[show (most[i].1==g.1)=false by simpa using h1,ajD]
    rw[hb,ajq]
    dsimp only
    rw[ajD,aq (by omega) (by omega)]
    refine hag _ ⟨rfl, ?_⟩
    rw[aiK,hy]
    intro x hx
    rcases aii.1 hx with hx | hx
    ·exact hI x hx
    ·simp at hx;rw[hx];exact hk
  ·rintro X again ⟨rfl,hI⟩
   unfold rz
   dsimp only
   rw[av (by omega)]
   rw[aiO] at hI
   right
   refine⟨?_,rfl⟩
   unfold eE
   rw[ahC]
   intro x hx
   simpa using hI x hx
 rcases loop (g.1.length+(g.2.1.length+(List.length most+(Int.natAbs ((List.length most:Int))+(Int.natAbs (0:Int)+2))))) (by omega) with ⟨k,x,h1,h2,h3⟩ | ⟨h1,h2⟩
 ·rw[h3,bO];exact .inl ⟨k,x,h1,h2,rfl⟩
 ·rw[h2,aB];exact .inr ⟨h1,rfl⟩
end Go.Md
set_option linter.all false
set_option maxRecDepth 20000
namespace Go.Md
open Go.Dn
theorem Zw {items most:List ai} (hil:items.length≤100) (hml:most.length≤100) (hi:GOk items) (hm:GOk most):
 ((∀ g∈items,(eE most g).isSome=true)∧vE items most=some (b6 most items,items.map (dz most),0,()))∨((∃ g∈items,eE most g=none)∧vE items most=some (0,[],9,())):=by
 have nx:maxLen=9223372036854775807:=rfl
 unfold vE
 have loop:∀ f,items.length<f→((∀ g∈items,(eE most g).isSome=true)∧iter f ((most,(0:Int),([]:List Int),items,(items.length:Int),(0:Int),()):mq) pg=some (Sum.inr (b6 most items,items.map (dz most),())))∨((∃ g∈items,eE most g=none)∧iter f ((most,(0:Int),([]:List Int),items,(items.length:Int),(0:Int),()):mq) pg=some (Sum.inl (0,[],9,()))):=by
  intro f hf
  refine bf (Inv:=fun i X=>(∀ g∈items.take i,(eE most g).isSome=true)∧0≤b6 most (items.take i)∧b6 most (items.take i)≤i*2000000000000∧X=((most,b6 most (items.take i),(items.take i).map (dz most),items,(items.length:Int),(i:Int),()):mq)) items.length
   (fun r=>((∀ g∈items,(eE most g).isSome=true)∧r=some (Sum.inr (b6 most items,items.map (dz most),())))∨((∃ g∈items,eE most g=none)∧r=some (Sum.inl (0,[],9,())))) ?_ ?_ f 0 _ ⟨fun g hg=>by simp at hg,agV _,agV _,rfl⟩ (by omega) (by omega)
  ·rintro i _ again hii ⟨hb,h0,h2,rfl⟩ ih
   have hy:items[i]? =some items[i]:=aM hii
   have hqi:=hi _ (ahZ hii)
   obtain⟨_,_,_,_,t1,t2⟩:=Fb hqi
   have ets:items.take (i+1)=items.take i++[items[i]]:=by rw[List.take_succ,hy];rfl
   have hlen:(items.take i).length=i:=by rw[aia];omega
   unfold pg
   dsimp only
   rw[ax (by omega),aV,hy,ajq]
   rcases afo most (by omega) items[i] with ⟨k,x,k1,k2,k3⟩ | ⟨k1,k2⟩
   ·obtain⟨e1,e2,e3,e4⟩:=RV hm k2
    obtain⟨c1,c2,c3⟩:=Nc t1 t2 e3 e4
    rw[k3,ajq]
    dsimp only
    rw[av (by omega),aV,k1,ajq,Cq e2,ajq]
    dsimp only
    rw[aC (by rw[agE];exact⟨ajI (by rw[ah3,hlen];omega),ajI (by rw[ah3,hlen];omega)⟩),Cq hqi,ajq]
    dsimp only
    rw[← e1,aC (by simp;omega),c3,aq (by omega) (by omega),aq (n:=(i:Int)+1) (by omega) (by omega)]
    have em:b6 most (items.take (i+1))=b6 most (items.take i)+lE (th items[i].2.2) (dz most items[i]):=by rw[ets,JH]
    refine ih _ ⟨fun g hg=> ?_,by omega,by omega, ?_⟩
    ·rw[ets] at hg
     rcases aii.1 hg with h | h
     ·exact hb g h
     ·rw[aiv.1 h,k2];rfl
    ·rw[em,ets,aib];rfl
   ·rw[k2,ajq]
    exact .inr ⟨⟨_,ahZ hii,k1⟩,rfl⟩
  ·rintro _ again ⟨hb,h0,h2,rfl⟩
   unfold pg
   dsimp only
   rw[av (by omega)]
   rw[aiO] at*
   exact .inl ⟨hb,rfl⟩
 rcases loop (List.length most+(Int.natAbs (0:Int)+(List.length ([]:List Int)+(List.length items+(Int.natAbs ((List.length items:Int))+(Int.natAbs (0:Int)+2)))))) (by omega) with ⟨h1,h2⟩ | ⟨h1,h2⟩
 ·rw[h2,aB];exact .inl ⟨h1,rfl⟩
 ·rw[h2,bO];exact .inr ⟨h1,rfl⟩
theorem ZC (z:Int) (hz:z.natAbs≤9000000000000000000) (p:Nat) (hp:p≤1000):GJ (z,(p:Int))=some (((few p z).1,((few p z).2:Int)),()):=by
 have loop:∀ (n:Nat) (z:Int) (p:Nat),z.natAbs≤9000000000000000000→p≤1000→p<n→iter (X:=Be) (β:=Bc) n (z,(p:Int),0,0,()) Bb=some (Sum.inr ((few p z).1,((few p z).2:Int),0,0,())):=by
  intro n
  induction n with
  | zero=>intro z p _ _ h;omega
  | succ n ih=>
   intro z p hz hp hn
   rw[aZ]
   generalize hag:(fun y=>iter n y Bb)=again
   unfold Bb
   dsimp only
   cases p with
   | zero=>rw[av (by omega)];rfl
   | succ p=>
    rw[ax (by omega)]
    by_cases hm:z % 10=0
    ·have h1:Int.tmod z 10=0:=Int.tmod_eq_zero_of_dvd (Int.dvd_of_emod_eq_zero hm)
     have h2:Int.tdiv z 10=z / 10:=Int.tdiv_eq_ediv_of_dvd (Int.dvd_of_emod_eq_zero hm)
     have e:few (p+1) z=few p (z / 10):=by simp[few,hm]
     rw[h1,h2,show ((0:Int)==0)=true from rfl,ajE,aq (by omega) (by omega),aq (by omega) (by omega),e, ← hag,show ((p+1:Nat):Int) - 1=(p:Int) by omega]
     exact ih (z / 10) p (by omega) (by omega) (by omega)
    ·have h1:(Int.tmod z 10==0)=false:=by
      simp only[ajz,ne_eq]
      intro h
      exact hm (Int.emod_eq_zero_of_dvd (Int.dvd_of_tmod_eq_zero h))
     have e:few (p+1) z=(z,p+1):=by simp[few,hm]
     rw[h1,ajD,e]
 unfold GJ
 dsimp only
 rw[loop _ z p hz hp (by omega),aB]
def JB (p:List UInt8) (z:Int):List UInt8:=((bB p z).map (·.1)).getD []
theorem XK (p:List UInt8) (z:Int):∃ e,bB p z=some (JB p z,e,()):=by
 obtain⟨s,h,_⟩:=B0 p z
 refine⟨gB p z, ?_⟩
 have e:JB p z=s:=by unfold JB;rw[h];rfl
 rw[e];exact h
def adY (one left:Int):Int:=if one<left then one else left
def CF (p:List UInt8) (n:Int) (a u:List UInt8) (one left:Int) (out:List aa):aa:=(JB p (n+(out.length:Int)),[],(0,0),[(a,u,[],abw (adY one left))])
def pkN (p:List UInt8) (n:Int) (a u:List UInt8) (one:Int):Nat→Int→List aa→List aa
 | 0,_,out=>out
 | k+1,left,out=>pkN p n a u one k (left - one) (out++[CF p n a u one left out])
theorem P7 (p:List UInt8) (n:Int) (a u:List UInt8) (one:Int) (k:Nat) (left:Int) (out:List aa):pkN p n a u one (k+1) left out=pkN p n a u one k (left - one) (out++[CF p n a u one left out]):=rfl
theorem Ny (p:List UInt8) (n:Int) (a u:List UInt8) (one:Int):∀ (k:Nat) (left:Int) (out:List aa),(pkN p n a u one k left out).length=out.length+k
 | 0,_,_=>rfl
 | k+1,left,out=>by
  rw[P7,Ny p n a u one k,ah0,ah9];omega
theorem UA {a b:Int} {k:Nat} (hb:1≤b) (h:iL a b=((k+1:Nat):Int)):0<a∧iL (a - b) b=(k:Int):=by
 by_cases ha:0<a
 ·have:=Qv ha hb
  exact⟨ha,by omega⟩
 ·unfold iL at h
  rw[ajP ha] at h
  omega
theorem Qw {a b:Int} (hb:1≤b) (h:iL a b=((0:Nat):Int)):¬ 0<a:=fun ha=>by
 have h1:=Qv ha hb
 have h2:=adw (a:=a - b) hb
 omega
theorem acV (p:List UInt8) (n:Int) (hn:0≤n) (hn2:n≤1000000000000000000) (a u:List UInt8) (one:Int) (h1:1≤one) (h2:one≤1000000000000) (items:List ai) (each:List Int) (i:Nat) (hone:each[i]? =some one) (q1 q2:Int):
 ∀ (k:Nat) (left:Int) (out:List aa) (f:Nat),iL left one=(k:Int)→left≤1000000000000→out.length+k≤500→k<f→
  iter (X:=uP) (β:=uO) f (p,n,out,(i:Int),left,items,(items.length:Int),(i:Int),a,u,q1,q2,each,()) oZ=some (Sum.inr (p,n,pkN p n a u one k left out,items,(items.length:Int),(i:Int),each,())):=by
 have nx:maxLen=9223372036854775807:=rfl
 have hieach:i<each.length:=(ahQ.1 hone).1
 intro k
 induction k with
 | zero=>
  intro left out f hc _ _ hf
  obtain⟨f,rfl⟩:∃ m,f=m+1:=⟨f - 1,by omega⟩
  rw[aZ]
  unfold oZ
  dsimp only
  rw[av (Qw h1 hc)]
  rfl
 | succ k ih=>
  intro left out f hc hle hol hf
  obtain⟨hl,hc2⟩:=UA h1 hc
  obtain⟨f,rfl⟩:∃ m,f=m+1:=⟨f - 1,by omega⟩
  obtain⟨e,he⟩:=XK p (n+(out.length:Int))
  rw[aZ]
  generalize hag:(fun y=>iter f y oZ)=again
  unfold oZ
  dsimp only
  rw[ax hl,aq (n:=n+(out.length:Int)) (by omega) (by omega),he,ajq]
  dsimp only
  obtain⟨z,hz⟩:∃ z,z=(if one<left then one else left):=⟨_,rfl⟩
  have hz1:1≤z∧z≤1000000000000:=by
   rw[hz];split<;>omega
  rw[aC (by rw[agE];exact⟨ajI (by omega),ajI (by omega)⟩),ahd,hone,ajq, ← hz,ado hz1.1 hz1.2,ajq]
  dsimp only
  rw[aC (by rw[agE];exact⟨ajI (by omega),ajI (by omega)⟩),aC (by rw[agE];exact⟨ajI (by omega),ajI (by omega)⟩),ajq,aq (n:=left - one) (by omega) (by omega), ← hag]
  have h:=ih (left - one) (out++[CF p n a u one left out]) f hc2 (by omega) (by rw[ah0,ah9];omega) (by omega)
  rw[P7]
  have hpart:CF p n a u one left out=(JB p (n+(out.length:Int)),[],(0,0),[(a,u,[],abw z)]):=by
   unfold CF adY
   rw[← hz]
  rw[hpart] at h ⊢
  exact h
theorem acX (most:List ai) (p:List UInt8) (n:Int) (hn:0≤n) (hn2:n≤1000000000000000000) (a u:List UInt8) (one:Int) (h1:1≤one) (h2:one≤1000000000000) (items:List ai) (c i:Int) (q1 q2:Int):
 ∀ (k:Nat) (left:Int) (out:List aa) (f:Nat),iL left one=(k:Int)→0≤left→left≤1000000000000→out.length+k≤500→k<f→
  iter (X:=AV) (β:=AU) f (most,p,n,out,left,one,items,c,i,a,u,q1,q2,()) rq=some (Sum.inr (most,p,n,pkN p n a u one k left out,items,c,i,())):=by
 have nx:maxLen=9223372036854775807:=rfl
 intro k
 induction k with
 | zero=>
  intro left out f hc _ _ _ hf
  obtain⟨f,rfl⟩:∃ m,f=m+1:=⟨f - 1,by omega⟩
  rw[aZ]
  unfold rq
  dsimp only
  rw[av (Qw h1 hc)]
  rfl
 | succ k ih=>
  intro left out f hc h0 hle hol hf
  obtain⟨hl,hc2⟩:=UA h1 hc
  obtain⟨f,rfl⟩:∃ m,f=m+1:=⟨f - 1,by omega⟩
  obtain⟨e,he⟩:=XK p (n+(out.length:Int))
  rw[aZ]
  generalize hag:(fun y=>iter f y rq)=again
  unfold rq
  dsimp only
  obtain⟨z,hz⟩:∃ z,z=(if one<left then one else left):=⟨_,rfl⟩
  have hz1:1≤z∧z≤1000000000000:=by
   rw[hz];split<;>omega
  have hN:=ZC z (by omega) 3 (by omega)
  rw[show ((3:Nat):Int)=3 from rfl] at hN
  rw[ax hl, ← hz,hN,ajq]
  dsimp only
  rw[aq (n:=n+(out.length:Int)) (by omega) (by omega),vw p _ (by omega),he,ajq]
  dsimp only
  rw[aC (by rw[agE];exact⟨ajI (by omega),ajI (by omega)⟩),aq (n:=left - z) (by omega) (by omega), ← hag]
  have hpart:CF p n a u one left out=(JB p (n+(out.length:Int)),[],(0,0),[(a,u,[],((few 3 z).1,((few 3 z).2:Int)))]):=by
   unfold CF adY
   rw[← hz];rfl
  show iter f (most,p,n,out++[(JB p (n+(out.length:Int)),[],(0,0),[(a,u,[],((few 3 z).1,((few 3 z).2:Int)))])],left - z,one,items,c,i,a,u,q1,q2,()) rq=_
  rw[← hpart]
  have hlen:(out++[CF p n a u one left out]).length+k≤500:=by rw[ah0,ah9];omega
  by_cases hlt:one<left
  ·have ez:z=one:=by rw[hz,ajQ hlt]
   rw[ez]
   exact ih (left - one) (out++[CF p n a u one left out]) f hc2 (by omega) (by omega) hlen (by omega)
  ·have ez:z=left:=by rw[hz,ajP hlt]
   rw[ez,Int.sub_self]
   have hk0:k=0:=by
    have:iL (left - one) one=0:=by unfold iL;rw[ajP (by omega)]
    omega
   subst hk0
   exact ih 0 (out++[CF p n a u one left out]) f (by unfold iL;rw[ajP (by omega)];rfl) (by omega) (by omega) hlen (by omega)
def MG (p:List UInt8) (n:Int) (most:List ai):List ai→List aa→List aa
 | [],out=>out
 | g::r,out=>MG p n most r (pkN p n g.1 g.2.1 (dz most g) (iL (th g.2.2) (dz most g)).toNat (th g.2.2) out)
theorem GB (p:List UInt8) (n:Int) (most:List ai) (g:ai) (r:List ai) (out:List aa):MG p n most (g::r) out=MG p n most r (pkN p n g.1 g.2.1 (dz most g) (iL (th g.2.2) (dz most g)).toNat (th g.2.2) out):=rfl
structure PkH (items most:List ai):Prop where
 il:items.length≤100
 ml:most.length≤100
 hi:GOk items
 hm:GOk most
 hs:∀ g∈items,(eE most g).isSome=true
theorem PkH.at {items most:List ai} (h:PkH items most) {g:ai} (hg:g∈items):1≤dz most g∧dz most g≤1000000000000∧1≤th g.2.2∧th g.2.2≤1000000000000∧1≤iL (th g.2.2) (dz most g)∧iL (th g.2.2) (dz most g)=lE (th g.2.2) (dz most g):=by
 obtain⟨x,hx⟩:=ajt.1 (h.hs g hg)
 obtain⟨_,_,o1,o2⟩:=RV h.hm hx
 obtain⟨_,_,_,_,t1,t2⟩:=Fb (h.hi g hg)
 have hc:=(Nc t1 t2 o1 o2).1
 have e:=aeB (h.hi g hg) (dz most g)
 exact⟨o1,o2,t1,t2,by omega,e⟩
theorem E1 {items most:List ai} (h:PkH items most):∀ r:List ai,(∀ g∈r,g∈items)→0≤b6 most r
 | [],_=>agV _
 | g::r,hr=>by
  have h1:=h.at (hr g ail)
  have h2:=E1 h r fun x hx=>hr x (aik _ hx)
  show 0≤lE (th g.2.2) (dz most g)+b6 most r
  omega
theorem acU (p:List UInt8) (n:Int) (hn:0≤n) (hn2:n≤1000000000000000000) {items most:List ai} (h:PkH items most):
 ∀ (r:List ai) (i f:Nat) (out:List aa),items.drop i=r→i≤items.length→r.length<f→(out.length:Int)+b6 most r≤500→
  iter (X:=o9) (β:=o8) f (p,n,out,items,(items.length:Int),(i:Int),items.map (dz most),()) jW=some (Sum.inr (MG p n most r out,())):=by
 have hil:=h.il
 intro r
 induction r with
 | nil=>
  intro i f out hdr hi hf _
  have:i=items.length:=by
   have:=congrArg List.length hdr
   simp at this;omega
  subst this
  obtain⟨f,rfl⟩:∃ m,f=m+1:=⟨f - 1,by omega⟩
  rw[aZ]
  unfold jW
  dsimp only
  rw[av (by omega)]
  rfl
 | cons g r ih=>
  intro i f out hdr hi hf hol
  have hgi:items[i]? =some g:=by
   have:=congrArg (·[0]?) hdr
   simpa [ahN] using this
  have hr':items.drop (i+1)=r:=by
   have:=congrArg List.tail hdr
   simpa [aiJ] using this
  have hlt:=(ahQ.1 hgi).1
  have hmem:=air hgi
  obtain⟨o1,o2,t1,t2,c1,c2⟩:=h.at hmem
  have hnn:=E1 h r fun x hx=>by rw[← hr'] at hx;exact ais hx
  have em:b6 most (g::r)=lE (th g.2.2) (dz most g)+b6 most r:=rfl
  obtain⟨k,hk⟩:∃ k:Nat,iL (th g.2.2) (dz most g)=(k:Int):=⟨(iL (th g.2.2) (dz most g)).toNat,by omega⟩
  have hkt:(iL (th g.2.2) (dz most g)).toNat=k:=by omega
  obtain⟨f,rfl⟩:∃ m,f=m+1:=⟨f - 1,by simp at hf;omega⟩
  simp only[ah1] at hf
  have heach:(items.map (dz most))[i]? =some (dz most g):=by rw[ahR,hgi];rfl
  have hkth:(k:Int)≤th g.2.2:=by
   rw[← hk,c2]
   unfold lE
   have h3:(th g.2.2+dz most g - 1) / dz most g<th g.2.2+1:=by
    refine Int.ediv_lt_of_lt_mul (by omega) ?_
    have h4:th g.2.2*1≤th g.2.2*dz most g:=agZ o1 (by omega)
    rw[Int.add_mul]
    omega
   omega
  rw[aZ]
  generalize hag:(fun y=>iter f y jW)=again
  unfold jW
  dsimp only
  rw[ax (by omega),aV,hgi,ajq,Cq (h.hi g hmem),ajq]
  dsimp only
  rw[acV p n hn hn2 g.1 g.2.1 (dz most g) o1 o2 items (items.map (dz most)) i heach g.2.2.1 g.2.2.2 k (th g.2.2) out _ hk t2 (by omega) (by omega),aB]
  dsimp only
  rw[aq (n:=(i:Int)+1) (by omega) (by omega), ← hag,show (i:Int)+1=((i+1:Nat):Int) by omega]
  refine (ih (i+1) f _ hr' (by omega) (by omega) (by rw[Ny];omega)).trans ?_
  rw[GB,hkt]
theorem acW (p:List UInt8) (n:Int) (hn:0≤n) (hn2:n≤1000000000000000000) {items most:List ai} (h:PkH items most):
 ∀ (r:List ai) (i f:Nat) (out:List aa),items.drop i=r→i≤items.length→r.length<f→(out.length:Int)+b6 most r≤500→
  iter (X:=vL) (β:=vJ) f (most,p,n,out,items,(items.length:Int),(i:Int),()) nC=some (Sum.inr (MG p n most r out,())):=by
 have hil:=h.il
 have hml:=h.ml
 intro r
 induction r with
 | nil=>
  intro i f out hdr hi hf _
  have:i=items.length:=by
   have:=congrArg List.length hdr
   simp at this;omega
  subst this
  obtain⟨f,rfl⟩:∃ m,f=m+1:=⟨f - 1,by omega⟩
  rw[aZ]
  unfold nC
  dsimp only
  rw[av (by omega)]
  rfl
 | cons g r ih=>
  intro i f out hdr hi hf hol
  have hgi:items[i]? =some g:=by
   have:=congrArg (·[0]?) hdr
   simpa [ahN] using this
  have hr':items.drop (i+1)=r:=by
   have:=congrArg List.tail hdr
   simpa [aiJ] using this
  have hlt:=(ahQ.1 hgi).1
  have hmem:=air hgi
  obtain⟨o1,o2,t1,t2,c1,c2⟩:=h.at hmem
  have hnn:=E1 h r fun x hx=>by rw[← hr'] at hx;exact ais hx
  have em:b6 most (g::r)=lE (th g.2.2) (dz most g)+b6 most r:=rfl
  obtain⟨k,hk⟩:∃ k:Nat,iL (th g.2.2) (dz most g)=(k:Int):=⟨(iL (th g.2.2) (dz most g)).toNat,by omega⟩
  have hkt:(iL (th g.2.2) (dz most g)).toNat=k:=by omega
  obtain⟨f,rfl⟩:∃ m,f=m+1:=⟨f - 1,by simp at hf;omega⟩
  simp only[ah1] at hf
  have hkth:(k:Int)≤th g.2.2:=by
   rw[← hk,c2]
   unfold lE
   have h3:(th g.2.2+dz most g - 1) / dz most g<th g.2.2+1:=by
    refine Int.ediv_lt_of_lt_mul (by omega) ?_
    have h4:th g.2.2*1≤th g.2.2*dz most g:=agZ o1 (by omega)
    rw[Int.add_mul]
    omega
   omega
  obtain⟨x,hx⟩:=ajt.1 (h.hs g hmem)
  obtain⟨e1,e2,_,_⟩:=RV h.hm hx
  rw[aZ]
  generalize hag:(fun y=>iter f y nC)=again
  unfold nC
  dsimp only
  rw[ax (by omega),aV,hgi,ajq,JJ (h.hi g hmem),ajq]
  dsimp only
  rcases ET most (by omega) g with ⟨j,y,k1,k2,k3⟩ | ⟨k1,_⟩
  rotate_left
  ·rw[k1] at hx;cases hx
  rw[hx] at k2
  cases k2
  rw[k3,ajq]
  dsimp only
  rw[aV,k1,ajq,JJ e2,ajq]
  dsimp only
  rw[← e1,acX most p n hn hn2 g.1 g.2.1 (dz most g) o1 o2 items _ _ g.2.2.1 g.2.2.2 k (th g.2.2) out _ hk (by omega) t2 (by omega) (by omega),aB]
  dsimp only
  rw[aq (n:=(i:Int)+1) (by omega) (by omega), ← hag,show (i:Int)+1=((i+1:Nat):Int) by omega]
  refine (ih (i+1) f _ hr' (by omega) (by omega) (by rw[Ny];omega)).trans ?_
  rw[GB,hkt]
end Go.Md
set_option linter.all false
set_option maxRecDepth 20000
namespace Go.Md
open Go.Dn
noncomputable def AP (items most:List ai) (p:List UInt8) (n:Int):List aa×Int:=
 if 100<items.length∨100<most.length then ([],2) else if bW items≠0 then ([],bW items) else if bW most≠0 then ([],bW most) else
 open Classical in if (∃ g∈items,eE most g=none) then ([],9) else if iM p n (b6 most items)≠0 then ([],iM p n (b6 most items)) else if 500<b6 most items then ([],2) else (MG p n most items [],0)
theorem afy {items most:List ai} (hil:items.length≤100) (hml:most.length≤100) (p:List UInt8) (n:Int) (f:Nat) (hf:2<f):
 iter (X:=rf) (β:=wY) f (items,most,p,n,((2:Nat):Int),0,[items,most],()) wX=some (if bW items≠0 then Sum.inl ([],bW items,()) else if bW most≠0 then Sum.inl ([],bW most,()) else Sum.inr (items,most,p,n,())):=by
 refine bf (Inv:=fun i X=>(0<i→bW items=0)∧(1<i→bW most=0)∧X=((items,most,p,n,((2:Nat):Int),(i:Int),[items,most],()):rf)) 2 (fun r=>r=some (if bW items≠0 then Sum.inl ([],bW items,()) else if bW most≠0 then Sum.inl ([],bW most,()) else Sum.inr (items,most,p,n,()))) ?_ ?_ f 0 _ ⟨nofun,nofun,rfl⟩ (by omega) (by omega)
 ·rintro i _ again hi ⟨h1,h2,rfl⟩ ih
  unfold wX
  dsimp only
  rw[ax (by omega),aC (by rw[agE];exact⟨ajI (by omega),ajI (by simp only[ah1,ah4];omega)⟩),ahd]
  match i,hi with
  | 0,_=>
   rw[show ([items,most]:List (List ai))[0]? =some items from rfl,ajq,Kv items (by omega),ajq]
   dsimp only
   by_cases h:bW items=0
   ·rw[show (bW items != 0)=false by simpa using h,ajD,aq (by omega) (by omega)]
    exact ih _ ⟨fun _=>h,by omega,rfl⟩
   ·rw[show (bW items != 0)=true by simpa using h,ajE,ajQ h]
  | 1,_=>
   rw[show ([items,most]:List (List ai))[1]? =some most from rfl,ajq,Kv most (by omega),ajq]
   dsimp only
   by_cases h:bW most=0
   ·rw[show (bW most != 0)=false by simpa using h,ajD,aq (by omega) (by omega)]
    exact ih _ ⟨fun _=>h1 (by omega),fun _=>h,rfl⟩
   ·rw[show (bW most != 0)=true by simpa using h,ajE,ajP (by simpa using h1 (by omega)),ajQ h]
 ·rintro _ again ⟨h1,h2,rfl⟩
  unfold wX
  dsimp only
  rw[av (by omega),ajP (by simpa using h1 (by omega)),ajP (by simpa using h2 (by omega))]
theorem XM {p:List UInt8} {n many:Int} (h:iM p n many=0) (h0:many≠0):0≤n∧n≤1000000000000000000:=by
 unfold iM at h
 rw[ajP h0] at h
 by_cases hf:gB p n=0
 ·have hb:=ND p
  unfold gB at hf
  split at hf
  ·split at hf
   ·cases hf
   ·rename_i hz
    have:0≤n∧n≤rP p - 1:=by unfold rP;omega
    omega
  ·cases hf
 ·rw[ajQ hf] at h;exact absurd h hf
theorem US {items most:List ai} (h:PkH items most) (h0:b6 most items=0):items=[]:=by
 cases items with
 | nil=>rfl
 | cons g r=>
  exfalso
  have h1:=h.at (g:=g) ail
  have h2:=E1 h r fun x hx=>aik _ hx
  have em:b6 most (g::r)=lE (th g.2.2) (dz most g)+b6 most r:=rfl
  omega
theorem ad4 (items most:List ai) (p:List UInt8) (n:Int):CE items most p n=some ((AP items most p n).1,(AP items most p n).2,()):=by
 unfold CE AP
 by_cases hil:100<items.length
 ·rw[ax (by omega),ajQ (.inl hil)]
 rw[av (by omega)]
 by_cases hml:100<most.length
 ·rw[ax (by omega),ajQ (.inr hml)]
 rw[av (by omega),ajP (by omega)]
 rw[show ((([items,most]:List (List ai)).length:Nat):Int)=((2:Nat):Int) from rfl]
 rw[afy (by omega) (by omega) p n _ (by simp only[ah1,ah4];omega)]
 by_cases hgi:bW items=0
 rotate_left
 ·rw[ajQ (show bW items≠0 from hgi),bO,ajQ (show bW items≠0 from hgi)]
 rw[ajP (show ¬ bW items≠0 by simpa using hgi),ajP (show ¬ bW items≠0 by simpa using hgi)]
 by_cases hgm:bW most=0
 rotate_left
 ·rw[ajQ (show bW most≠0 from hgm),bO,ajQ (show bW most≠0 from hgm)]
 rw[ajP (show ¬ bW most≠0 by simpa using hgm),ajP (show ¬ bW most≠0 by simpa using hgm),aB]
 dsimp only
 obtain⟨hi,_⟩:=Ig hgi
 obtain⟨hm,_⟩:=Ig hgm
 rcases Zw (by omega) (by omega) hi hm with ⟨hs,h⟩ | ⟨hnone,h⟩
 rotate_left
 ·rw[h,ajq,ajQ hnone];rfl
 have hnn:¬ ∃ g∈items,eE most g=none:=fun ⟨g,hg,e⟩=>by have:=hs g hg;rw[e] at this;cases this
 have H:PkH items most:=⟨by omega,by omega,hi,hm,hs⟩
 rw[h,ajq,ajP hnn]
 dsimp only
 rw[show ((0:Int) != 0)=false from rfl,ajD,TJ,ajq]
 dsimp only
 by_cases hl:iM p n (b6 most items)=0
 rotate_left
 ·rw[show (iM p n (b6 most items) != 0)=true by simpa using hl,ajE,ajQ hl]
 rw[show (iM p n (b6 most items) != 0)=false by simpa using hl,ajD,ajP (by simpa using hl)]
 by_cases h5:500<b6 most items
 ·rw[ax (by omega),ajQ h5]
 rw[av (by omega),ajP h5]
 by_cases h0:b6 most items=0
 ·have hnil:=US H h0
  subst hnil
  have e20:∀ f,0<f→iter (X:=o9) (β:=o8) f (p,n,[],[],((([]:List ai).length:Nat):Int),0,([]:List ai).map (dz most),()) jW=some (Sum.inr ([],())):=by
   intro f hf
   obtain⟨f,rfl⟩:∃ m,f=m+1:=⟨f - 1,by omega⟩
   rw[aZ]
   unfold jW
   dsimp only
   rw[av (by simp)]
  rw[e20 _ (by omega),aB]
  rfl
 ·obtain⟨n0,n1⟩:=XM hl h0
  have h20:=acU p n n0 n1 H items 0 (List.length p+(Int.natAbs n+(List.length ([]:List aa)+(List.length items+(Int.natAbs ((List.length items:Nat):Int)+(Int.natAbs (0:Int)+(List.length (items.map (dz most))+2))))))) [] rfl (ajo _) (by omega) (by rw[ah4];omega)
  rw[show ((0:Nat):Int)=0 from rfl] at h20
  rw[h20,aB]
theorem afw {items most:List ai} (hil:items.length≤100) (hml:most.length≤100) (p:List UInt8) (n:Int) (f:Nat) (hf:items.length<f):
 ((∀ g∈items,(eE most g).isSome=true)∧iter (X:=ru) (β:=vI) f (items,most,p,n,items,(items.length:Int),0,()) vH=some (Sum.inr (items,most,p,n,())))∨
 ((∃ g∈items,eE most g=none)∧iter (X:=ru) (β:=vI) f (items,most,p,n,items,(items.length:Int),0,()) vH=some (Sum.inl ([],9,()))):=by
 refine bf (Inv:=fun i X=>(∀ g∈items.take i,(eE most g).isSome=true)∧X=((items,most,p,n,items,(items.length:Int),(i:Int),()):ru)) items.length
  (fun r=>((∀ g∈items,(eE most g).isSome=true)∧r=some (Sum.inr (items,most,p,n,())))∨((∃ g∈items,eE most g=none)∧r=some (Sum.inl ([],9,())))) ?_ ?_ f 0 _ ⟨by simp,rfl⟩ (by omega) (by omega)
 ·rintro i _ again hi ⟨hI,rfl⟩ ih
  have hy:items[i]? =some items[i]:=ahO hi
  unfold vH
  dsimp only
  rw[ax (by omega),aV,hy,ajq]
  rcases ET most (by omega) items[i] with ⟨j,y,k1,k2,k3⟩ | ⟨k1,k2⟩
  ·rw[k3,ajq]
   dsimp only
   rw[av (by omega),aq (by omega) (by omega)]
   refine ih _ ⟨?_,rfl⟩
   rw[aiK,hy]
   intro g hg
   rcases aii.1 hg with hg | hg
   ·exact hI g hg
   ·simp at hg;rw[hg,k2];rfl
  ·rw[k2,ajq]
   exact .inr ⟨⟨_,ahZ hi,k1⟩,rfl⟩
 ·rintro _ again ⟨hI,rfl⟩
  unfold vH
  dsimp only
  rw[av (by omega)]
  rw[aiO] at hI
  exact .inl ⟨hI,rfl⟩
theorem afx {items most:List ai} (H:PkH items most) (p:List UInt8) (n:Int) (f:Nat) (hf:items.length<f):
 iter (X:=vK) (β:=AT) f (items,most,p,n,0,items,(items.length:Int),0,()) AS=some (Sum.inr (items,most,p,n,b6 most items,())):=by
 have hil:=H.il
 have hml:=H.ml
 refine bf (Inv:=fun i X=>0≤b6 most (items.take i)∧b6 most (items.take i)≤i*2000000000000∧X=((items,most,p,n,b6 most (items.take i),items,(items.length:Int),(i:Int),()):vK)) items.length
  (fun r=>r=some (Sum.inr (items,most,p,n,b6 most items,()))) ?_ ?_ f 0 _ ⟨agV _,agV _,rfl⟩ (by omega) (by omega)
 ·rintro i _ again hi ⟨h0,h2,rfl⟩ ih
  have hy:items[i]? =some items[i]:=ahO hi
  have hmem:items[i]∈items:=ahZ hi
  have hqi:=H.hi _ hmem
  obtain⟨_,_,_,_,t1,t2⟩:=Fb hqi
  have ets:items.take (i+1)=items.take i++[items[i]]:=by rw[List.take_succ,hy];rfl
  obtain⟨x,hx⟩:=ajt.1 (H.hs _ hmem)
  obtain⟨e1,e2,e3,e4⟩:=RV H.hm hx
  obtain⟨c1,c2,c3⟩:=Nc t1 t2 e3 e4
  unfold AS
  dsimp only
  rw[ax (by omega),aV,hy,ajq]
  rcases ET most (by omega) items[i] with ⟨j,y,k1,k2,k3⟩ | ⟨k1,k2⟩
  rotate_left
  ·rw[k1] at hx;cases hx
  rw[hx] at k2
  cases k2
  rw[k3,ajq]
  dsimp only
  rw[aV,k1,ajq,JJ e2,ajq,JJ hqi,ajq]
  dsimp only
  rw[← e1,aC (by simp;omega),c3,aq (by omega) (by omega),aq (n:=(i:Int)+1) (by omega) (by omega)]
  have em:b6 most (items.take (i+1))=b6 most (items.take i)+lE (th items[i].2.2) (dz most items[i]):=by rw[ets,JH]
  refine ih _ ⟨by omega,by omega, ?_⟩
  rw[em];rfl
 ·rintro _ again ⟨h0,h2,rfl⟩
  unfold AS
  dsimp only
  rw[av (by omega)]
  rw[aiO]
theorem XS {items most:List ai} (H:PkH items most):∀ r:List ai,(∀ g∈r,g∈items)→b6 most r≤r.length*2000000000000
 | [],_=>agV _
 | g::r,hr=>by
  obtain⟨o1,o2,t1,t2,_,_⟩:=H.at (hr g ail)
  have h2:=XS H r fun x hx=>hr x (aik _ hx)
  have h3:=(Nc t1 t2 o1 o2).2.1
  have em:b6 most (g::r)=lE (th g.2.2) (dz most g)+b6 most r:=rfl
  rw[em,ah1]
  omega
theorem ad5 (items most:List ai) (p:List UInt8) (n:Int) (hn: -9223372036854775808≤n∧n≤9223372036854775807):J2 items most p n=some ((AP items most p n).1,(AP items most p n).2,()):=by
 unfold J2 AP
 by_cases hil:100<items.length
 ·rw[ax (by omega),ajQ (.inl hil)]
 rw[av (by omega)]
 by_cases hml:100<most.length
 ·rw[ax (by omega),ajQ (.inr hml)]
 rw[av (by omega),ajP (by omega),Kp items (by omega),ajq]
 dsimp only
 by_cases hgi:bW items=0
 rotate_left
 ·rw[show (bW items != 0)=true by simpa using hgi,ajE,ajQ hgi]
 rw[show (bW items != 0)=false by simpa using hgi,ajD,ajP (by simpa using hgi),Kp most (by omega),ajq]
 dsimp only
 by_cases hgm:bW most=0
 rotate_left
 ·rw[show (bW most != 0)=true by simpa using hgm,ajE,ajQ hgm]
 rw[show (bW most != 0)=false by simpa using hgm,ajD,ajP (by simpa using hgm)]
 obtain⟨hi,_⟩:=Ig hgi
 obtain⟨hm,_⟩:=Ig hgm
 rcases afw (items:=items) (most:=most) (by omega) (by omega) p n (List.length items+(List.length most+(List.length p+(Int.natAbs n+(List.length items+(Int.natAbs ((List.length items:Int))+(Int.natAbs (0:Int)+2))))))) (by omega) with ⟨hs,h⟩ | ⟨hnone,h⟩
 rotate_left
 ·rw[h,bO,ajQ hnone]
 have hnn:¬ ∃ g∈items,eE most g=none:=fun ⟨g,hg,e⟩=>by have:=hs g hg;rw[e] at this;cases this
 have H:PkH items most:=⟨by omega,by omega,hi,hm,hs⟩
 rw[h,aB,ajP hnn]
 dsimp only
 rw[afx H p n _ (by omega),aB]
 dsimp only
 have m0:=E1 H items fun g hg=>hg
 have m1:=XS H items fun g hg=>hg
 rw[KE p n _ hn m0 (by omega),ajq]
 dsimp only
 by_cases hl:iM p n (b6 most items)=0
 rotate_left
 ·rw[show (iM p n (b6 most items) != 0)=true by simpa using hl,ajE,ajQ hl]
 rw[show (iM p n (b6 most items) != 0)=false by simpa using hl,ajD,ajP (by simpa using hl)]
 by_cases h5:500<b6 most items
 ·rw[ax (by omega),ajQ h5]
 rw[av (by omega),ajP h5]
 by_cases h0:b6 most items=0
 ·have hnil:=US H h0
  subst hnil
  have e29:∀ f,0<f→iter (X:=vL) (β:=vJ) f (most,p,n,[],[],((([]:List ai).length:Nat):Int),0,()) nC=some (Sum.inr ([],())):=by
   intro f hf
   obtain⟨f,rfl⟩:∃ m,f=m+1:=⟨f - 1,by omega⟩
   rw[aZ]
   unfold nC
   dsimp only
   rw[av (by simp)]
  rw[e29 _ (by omega),aB]
  rfl
 ·obtain⟨n0,n1⟩:=XM hl h0
  have h29:=acW p n n0 n1 H items 0 (List.length most+(List.length p+(Int.natAbs n+(List.length ([]:List aa)+(List.length items+(Int.natAbs ((List.length items:Int))+(Int.natAbs (0:Int)+2))))))) [] rfl (ajo _) (by omega) (by rw[ah4];omega)
  rw[show ((0:Nat):Int)=0 from rfl] at h29
  rw[h29,aB]
theorem VS (l:List aW) (hl:l.length≤9000000000000000000):kr l l=some (true,()):=by
 unfold kr
 rw[show (((l.length:Int)) != ((l.length:Int)))=false by simp,ajD]
 have loop:∀ f,l.length<f→iter (X:=fW) (β:=iO) f (l,l,(l.length:Int),0,()) iN=some (Sum.inr ()):=by
  intro f hf
  refine bf (Inv:=fun i X=>X=((l,l,(l.length:Int),(i:Int),()):fW)) l.length (fun r=>r=some (Sum.inr ())) ?_ ?_ f 0 _ rfl (by omega) (by omega)
  ·rintro i X again hi rfl hag
   unfold iN
   dsimp only
   have hy:l[i]? =some l[i]:=ahO hi
   rw[ax (by omega),aV,hy,ajq,ajq]
   simp only[ajB,Bool.and_self,agP,ajD]
   rw[aq (by omega) (by omega)]
   exact hag _ rfl
  ·rintro X again rfl
   unfold iN
   dsimp only
   rw[av (by omega)]
 rw[loop _ (by omega),aB]
theorem IQ (l:List aa) (hl:l.length≤9000000000000000000) (hc:∀ q∈l,q.2.2.2.length≤9000000000000000000):pJ l l=some (true,()):=by
 unfold pJ
 rw[show (((l.length:Int)) != ((l.length:Int)))=false by simp,ajD]
 have loop:∀ f,l.length<f→iter (X:=lY) (β:=pL) f (l,l,(l.length:Int),0,()) pK=some (Sum.inr ()):=by
  intro f hf
  refine bf (Inv:=fun i X=>X=((l,l,(l.length:Int),(i:Int),()):lY)) l.length (fun r=>r=some (Sum.inr ())) ?_ ?_ f 0 _ rfl (by omega) (by omega)
  ·rintro i X again hi rfl hag
   unfold pK
   dsimp only
   have hy:l[i]? =some l[i]:=ahO hi
   rw[ax (by omega),aV,hy,ajq,ajq]
   simp only[ajB,Bool.and_self,agP,ajD]
   rw[VS _ (hc _ (ahZ hi)),ajq]
   dsimp only
   rw[agP,ajD,aq (by omega) (by omega)]
   exact hag _ rfl
  ·rintro X again rfl
   unfold pK
   dsimp only
   rw[av (by omega)]
 rw[loop _ (by omega),aB]
end Go.Md
set_option linter.all false
set_option maxRecDepth 20000
namespace Go.Md
open Go.Dn
def wK (ws:List Int) (i:Nat):Int:= -(ws.getD i 0)
theorem Uj (x y:Int):decide ((x - y).sign>0)=decide (-x< -y):=by
 rcases agW x y with h | h | h
 ·rw[ag9 (by omega),ajG (by decide),ajG (by omega)]
 ·rw[h,Int.sub_self,ajG (by decide),ajG (by omega)]
 ·rw[aha (by omega),ajI (by decide),ajI (by omega)]
theorem abK (l:List Nat) (i:Nat):(cI l)[i]? =(l[i]?).map fun n:Nat=>(n:Int):=by unfold cI;rw[ahR]
theorem aaQ {ws:List Int} (hw:∀ z∈ws,Le 60 z) (hwl:ws.length≤1000) {out:List Nat} (ho:∀ j∈out,j<ws.length) {i:Nat} (hi:i<ws.length) (c d:Int):
 ∀ (at' f:Nat),at'≤out.length→out.length≤1000→at'<f→
  iter (X:=xd) (β:=xb) f (ws.map N,cI out,(i:Int),(at':Int),c,d,()) rB=some (Sum.inr (ws.map N,cI out,(i:Int),((endPos (wK ws) i out at':Nat):Int),c,d,())):=by
 intro at'
 induction at' with
 | zero=>
  intro f _ _ hf
  obtain⟨f,rfl⟩:∃ m,f=m+1:=⟨f - 1,by omega⟩
  rw[aZ]
  unfold rB
  dsimp only
  rw[av (by omega),ajq]
  rfl
 | succ q ih=>
  intro f hq hol hf
  obtain⟨f,rfl⟩:∃ m,f=m+1:=⟨f - 1,by omega⟩
  have hj:out[q]? =some (out[q]'(by omega)):=ahO _
  obtain⟨j,hje⟩:∃ j,out[q]'(by omega)=j:=⟨_,rfl⟩
  rw[hje] at hj
  have hjl:=ho j (air hj)
  have hwi:ws[i]? =some ws[i]:=ahO hi
  have hwj:ws[j]? =some ws[j]:=ahO hjl
  have ki:wK ws i= -ws[i]:=by unfold wK;rw[ahH,hwi];rfl
  have kj:wK ws j= -ws[j]:=by unfold wK;rw[ahH,hwj];rfl
  have n1:=ai8 ((hw _ (ahZ hi)).n (by omega)) (show 90<10000 by omega)
  have n2:=ai8 ((hw _ (ahZ hjl)).n (by omega)) (show 90<10000 by omega)
  rw[aZ]
  generalize hag:(fun y=>iter f y rB)=again
  unfold rB
  dsimp only
  rw[ax (by omega),aV,ahR,hwi]
  dsimp only[Option.map_some]
  rw[ajq,aq (n:=((q+1:Nat):Int) - 1) (by omega) (by omega),show ((q+1:Nat):Int) - 1=(q:Int) by omega,aC (by rw[agE];exact⟨ajI (by omega),ajI (by rw[jP];omega)⟩),ahd,abK,hj]
  dsimp only[Option.map_some]
  rw[ajq,aV,ahR,hwj]
  dsimp only[Option.map_some]
  rw[ajq,GI _ _ n1 n2,ajq,ajq]
  dsimp only
  rw[Uj, ← ki, ← kj]
  have hE:endPos (wK ws) i out (q+1)=if wK ws i<wK ws j then endPos (wK ws) i out q else q+1:=by
   conv=>lhs;unfold endPos
   rw[hj]
  rw[hE]
  by_cases h:wK ws i<wK ws j
  ·rw[ajI h,ajE,ajQ h, ← hag]
   exact ih f (by omega) hol (by omega)
  ·rw[ajG h,ajD,ajP h]
theorem adW {k:Nat→Int} {l:List Nat} {x j:Nat} (h:j∈E0 k l x):j=x∨j∈l:=by
 unfold E0 at h
 rcases aii.1 h with h | h
 ·exact .inr (List.mem_of_mem_take h)
 ·rcases aij.1 h with h | h
  ·exact .inl h
  ·exact .inr (ais h)
theorem adP (k:Nat→Int) (l:List Nat) (x:Nat):(E0 k l x).length=l.length+1:=by
 unfold E0
 have:=endPos_le k x l l.length
 simp;omega
theorem aeA (k:Nat→Int) (l:List Nat) (x:Nat):(cI l).take (endPos k x l l.length)++([(x:Int)]++(cI l).drop (endPos k x l l.length))=cI (E0 k l x):=by
 unfold E0 cI
 rw[aib,aid,List.map_take,List.map_drop];rfl
def ji (ws:List Int) (n:Nat):List Nat:=Ey (wK ws) [] (List.range n)
theorem UZ (ws:List Int) (n:Nat):ji ws (n+1)=E0 (wK ws) (ji ws n) n:=by
 unfold ji Ey
 rw[List.range_succ,List.foldl_append];rfl
theorem T0 (ws:List Int):∀ n,(ji ws n).length=n∧∀ j∈ji ws n,j<n
 | 0=>⟨rfl,fun j h=>by cases h⟩
 | n+1=>by
  obtain⟨h1,h2⟩:=T0 ws n
  rw[UZ]
  refine⟨by rw[adP,h1],fun j hj=> ?_⟩
  rcases adW hj with e | e
  ·omega
  ·have:=h2 j e;omega
theorem aaP {ws:List Int} (hw:∀ z∈ws,Le 60 z) (hwl:ws.length≤1000):CG (ws.map N)=some (cI (ji ws ws.length),()):=by
 unfold CG
 have loop:∀ f,ws.length<f→iter (X:=rC) (β:=w9) f (ws.map N,[],(ws.length:Int),0,()) w8=some (Sum.inr (cI (ji ws ws.length),())):=by
  intro f hf
  refine bf (Inv:=fun i X=>X=((ws.map N,cI (ji ws i),(ws.length:Int),(i:Int),()):rC)) ws.length (fun r=>r=some (Sum.inr (cI (ji ws ws.length),()))) ?_ ?_ f 0 _ rfl (by omega) (by omega)
  ·rintro i X again hi rfl hag
   obtain⟨h1,h2⟩:=T0 ws i
   unfold w8
   dsimp only
   rw[ax (by omega)]
   have hin:=aaQ hw hwl (out:=ji ws i) (fun j hj=>by have:=h2 j hj;omega) hi (ws.length:Int) (i:Int) (ji ws i).length
   rw[show ((cI (ji ws i)).length:Int)=((ji ws i).length:Int) by rw[jP]]
   rw[hin _ (ai0 _) (by omega) (by rw[jP,ah3];omega),aB]
   dsimp only
   have hle:=endPos_le (wK ws) i (ji ws i) (ji ws i).length
   have hins:Ea (cI (ji ws i)) ((endPos (wK ws) i (ji ws i) (ji ws i).length:Nat):Int) [(i:Int)]=some (cI (ji ws (i+1)),()):=by
    show TF _ _ _=_
    unfold TF
    rw[show (decide (0≤((endPos (wK ws) i (ji ws i) (ji ws i).length:Nat):Int))&&(decide (((endPos (wK ws) i (ji ws i) (ji ws i).length:Nat):Int)≤((cI (ji ws i)).length:Int))&&(decide (0<[(i:Int)].length)&&decide (((cI (ji ws i)).length+[(i:Int)].length)*8≤140737488355328))))=true by
     simp only[agE,ajJ,jP,ah9]
     omega]
    rw[ajE,ahd,aeA, ← UZ]
   rw[hins,ajq]
   dsimp only
   rw[aq (n:=(i:Int)+1) (by omega) (by omega)]
   exact hag _ rfl
  ·rintro X again rfl
   unfold w8
   dsimp only
   rw[av (by omega)]
 rw[show (((ws.map N).length:Nat):Int)=(ws.length:Int) by rw[ah3],loop _ (by rw[ah3];omega),aB]
theorem adU {ws:List Int} (hw:∀ z∈ws,Le 60 z) (hwl:ws.length≤1000) {most:Int} (hmost:Le 60 most) {L:List Int} (hL:∀ z∈L,Le 60 z) (hLl:L.length≤1000) {i:Nat} (hi:i<ws.length) (order:List Int) (c d:Int) (outI:List Int):
 ∀ (r:List Int) (q f:Nat),L.drop q=r→q≤L.length→r.length<f→
  iter (X:=A1) (β:=AZ) f (ws.map N,L.map N,(i:Int),(q:Int),order,c,d,(N most).1,(N most).2,outI,()) vO=some (Sum.inr (ws.map N,L.map N,(i:Int),((q+(r.findIdx? (fun x=>decide (x+ws.getD i 0≤most))).getD r.length:Nat):Int),order,c,d,(N most).1,(N most).2,outI,())):=by
 intro r
 induction r with
 | nil=>
  intro q f hdr hq hf
  have:q=L.length:=by
   have:=congrArg List.length hdr
   simp at this;omega
  obtain⟨f,rfl⟩:∃ m,f=m+1:=⟨f - 1,by omega⟩
  rw[aZ]
  unfold vO
  dsimp only
  rw[ah3,av (by omega),ajq]
  rfl
 | cons x r ih=>
  intro q f hdr hq hf
  have hx:L[q]? =some x:=by
   have:=congrArg (·[0]?) hdr
   simpa [ahN] using this
  have hr':L.drop (q+1)=r:=by
   have:=congrArg List.tail hdr
   simpa [aiJ] using this
  have hlt:=(ahQ.1 hx).1
  obtain⟨f,rfl⟩:∃ m,f=m+1:=⟨f - 1,by simp at hf;omega⟩
  simp only[ah1] at hf
  have hwi:ws[i]? =some ws[i]:=ahO hi
  have hgd:ws.getD i 0=ws[i]:=by rw[ahH,hwi];rfl
  have hx60:=hL x (air hx)
  have hw60:=hw _ (ahZ hi)
  have hs:Le 61 (x+ws[i]):=by
   unfold Le at*
   have:(10:Nat) ^ 61=10*10 ^ 60:=by decide
   omega
  rw[aZ]
  generalize hag:(fun y=>iter f y vO)=again
  unfold vO
  dsimp only
  rw[ah3,ax (by omega),aC (by rw[agE];exact⟨ajI (by omega),ajI (by omega)⟩),ahd,ahR,hx]
  dsimp only[Option.map_some]
  rw[ajq,aV,ahR,hwi]
  dsimp only[Option.map_some]
  rw[ajq,xg _ _ (ai8 (hx60.n (by omega)) (by omega)) (ai8 (hw60.n (by omega)) (by omega)),ajq]
  dsimp only
  have hc:A9 (N (x+ws[i])) ((N most).1,(N most).2)=some ((x+ws[i] - most).sign,()):=GI _ _ (ai8 (hs.n (by omega)) (by omega)) (ai8 (hmost.n (by omega)) (by omega))
  rw[hc,ajq,ajq]
  dsimp only
  rw[Uj,ahD,hgd]
  by_cases h:x+ws[i]≤most
  ·rw[ajG (by omega),ajD,ajI h]
   simp
  ·rw[ajI (by omega),ajE,ajG h,aq (n:=(q:Int)+1) (by omega) (by omega), ← hag,show (q:Int)+1=((q+1:Nat):Int) by omega]
   refine (ih (q+1) f hr' (by omega) (by omega)).trans ?_
   rw[hgd]
   cases hq2:r.findIdx? (fun x=>decide (x+ws[i]≤most)) with
   | none=>simp;omega
   | some k=>simp;omega
theorem acz {ws:List Int} (hw:∀ z∈ws,Le 60 z) (hw0:∀ z∈ws,0≤z) (hwl:ws.length≤1000) {most:Int} (hmost:Le 60 most) (hle:∀ z∈ws,z≤most) (order:List Nat) (hol:order.length≤1000) (hord:∀ j∈order,j<ws.length) (hnd:order.Pairwise fun a b=>a≠b):
 ∀ (r:List Nat) (q f:Nat) (L on:List Int),order.drop q=r→q≤order.length→r.length<f→on.length=ws.length→FF most ((order.take q).map fun i=>(i,ws.getD i 0)) L on→
  iter (X:=A0) (β:=vP) f (ws.map N,L.map N,cI order,(order.length:Int),(q:Int),(N most).1,(N most).2,on,()) vN=
   some (Sum.inr (((zm most (r.map fun i=>(i,ws.getD i 0)) L on).1).map N,(zm most (r.map fun i=>(i,ws.getD i 0)) L on).2,())):=by
 have nx:maxLen=9223372036854775807:=rfl
 intro r
 induction r with
 | nil=>
  intro q f L on hdr hq hf hon hF
  have:q=order.length:=by
   have:=congrArg List.length hdr
   simp at this;omega
  obtain⟨f,rfl⟩:∃ m,f=m+1:=⟨f - 1,by omega⟩
  rw[aZ]
  unfold vN
  dsimp only
  rw[av (by omega)]
  rfl
 | cons i r ih=>
  intro q f L on hdr hq hf hon hF
  have hx:order[q]? =some i:=by
   have:=congrArg (·[0]?) hdr
   simpa [ahN] using this
  have hr':order.drop (q+1)=r:=by
   have:=congrArg List.tail hdr
   simpa [aiJ] using this
  have hlt:=(ahQ.1 hx).1
  have hi:=hord i (air hx)
  have hwi:ws[i]? =some ws[i]:=ahO hi
  have hgd:ws.getD i 0=ws[i]:=by rw[ahH,hwi];rfl
  have hmem:ws[i]∈ws:=ahZ hi
  obtain⟨f,rfl⟩:∃ m,f=m+1:=⟨f - 1,by simp at hf;omega⟩
  simp only[ah1] at hf
  have hni:∀ z∈(order.take q).map fun i=>(i,ws.getD i 0),z.1≠i:=by
   intro z hz
   obtain⟨j,hj,rfl⟩:=aip.1 hz
   obtain⟨t,ht⟩:=aio.1 hj
   have htq:t<q:=by
    have:=(ahQ.1 ht).1
    rw[aia] at this;omega
   rw[ahX htq] at ht
   have:=aiB.1 hnd t q (by omega) hlt htq
   rw[(ahQ.1 ht).2,(ahQ.1 hx).2] at this
   exact this
  obtain⟨s1,s2⟩:=hF.step (w:=ws.getD i 0) hni (by omega) (by rw[hgd];exact hw0 _ hmem) (by rw[hgd];exact hle _ hmem)
  have hLl:=hF.len
  rw[ah3,aia] at hLl
  have hLb:∀ z∈L,Le 60 z:=fun z hz=>by
   have h1:=hF.le z hz
   have h2:=hF.nn z hz
   unfold Le at*
   omega
  have htk:(order.take (q+1)).map (fun i=>(i,ws.getD i 0))=(order.take q).map (fun i=>(i,ws.getD i 0))++[(i,ws.getD i 0)]:=by rw[aiK,hx,aib];rfl
  have hrec:=ih (q+1) f (lC most (ws.getD i 0) L).1 (on.set i ((lC most (ws.getD i 0) L).2:Int)) hr' (by omega) (by omega) (by rw[ah8];exact hon) (by rw[htk];exact s1)
  have hff:zm most ((i::r).map fun i=>(i,ws.getD i 0)) L on=zm most (r.map fun i=>(i,ws.getD i 0)) (lC most (ws.getD i 0) L).1 (on.set i ((lC most (ws.getD i 0) L).2:Int)):=rfl
  rw[hff]
  generalize (some (Sum.inr (((zm most (r.map fun i=>(i,ws.getD i 0)) (lC most (ws.getD i 0) L).1 (on.set i ((lC most (ws.getD i 0) L).2:Int))).1).map N,(zm most (r.map fun i=>(i,ws.getD i 0)) (lC most (ws.getD i 0) L).1 (on.set i ((lC most (ws.getD i 0) L).2:Int))).2,())):Option vP)=R at hrec ⊢
  rw[aZ]
  generalize hag:(fun y=>iter f y vN)=again
  unfold vN
  dsimp only
  have hoi:(cI order)[q]? =some (i:Int):=by rw[abK,hx];rfl
  rw[ax (by omega),aV,hoi,ajq]
  have hin:=adU hw hwl hmost hLb (by omega) hi (cI order) (order.length:Int) (q:Int) on L 0
  rw[show ((0:Nat):Int)=0 from rfl] at hin
  rw[hin _ rfl (ajo _) (by rw[ah3,ah3,jP];omega),aB]
  dsimp only
  have hon1:on[i]? =some (on[i]'(by omega)):=ahO (by omega)
  unfold lC at s2 hrec
  cases hf2:L.findIdx? (fun x=>decide (x+ws.getD i 0≤most)) with
  | some k=>
   rw[hf2] at s2 hrec
   dsimp only at s2 hrec
   rw[ah8] at s2
   have hkx:L[k]? =some L[k]:=ahO s2
   have egd:L.getD k 0=L[k]:=by rw[ahH,hkx];rfl
   have hk60:=hLb L[k] (ahZ s2)
   rw[ajr,ajn,ah3,show (((k:Nat):Int)==(L.length:Int))=false by rw[ajz];omega,ajD,aB]
   dsimp only
   rw[aC (by rw[agE];exact⟨ajI (by omega),ajI (by rw[ah3];omega)⟩),ahd,ahR,hkx]
   dsimp only[Option.map_some]
   rw[ajq,aV,ahR,hwi]
   dsimp only[Option.map_some]
   rw[ajq,xg _ _ (ai8 (hk60.n (by omega)) (by omega)) (ai8 ((hw _ hmem).n (by omega)) (by omega)),ajq]
   dsimp only
   rw[aC (by rw[agE];exact⟨ajI (by omega),ajI (by rw[ah3];omega)⟩),ajq,aC (by rw[agE];exact⟨ajI (by omega),ajI (by omega)⟩),ahd,hon1,ajq,aq (n:=(q:Int)+1) (by omega) (by omega), ← hag,show (q:Int)+1=((q+1:Nat):Int) by omega]
   rw[egd,hgd,List.map_set] at hrec
   exact hrec
  | none=>
   rw[hf2] at s2 hrec
   dsimp only at s2 hrec
   rw[Option.getD_none,ajn,ah3,show (((L.length:Nat):Int)==(L.length:Int))=true by simp,ajE,aC (by rw[agE];exact⟨ajI (by omega),ajI (by omega)⟩),aB]
   dsimp only
   have hkW:(L.map N++[(false,[])])[L.length]? =some (N 0):=by
    rw[ahK (by rw[ah3];omega),ah3,ajl];rfl
   rw[aC (by rw[agE];exact⟨ajI (by omega),ajI (by rw[ah0,ah3,ah9];omega)⟩),ahd,hkW,ajq,aV,ahR,hwi]
   dsimp only[Option.map_some]
   rw[ajq,xg _ _ (by decide) (ai8 ((hw _ hmem).n (by omega)) (by omega)),ajq]
   dsimp only
   have es:(L.map N++[(false,[])]).set L.length (N (0+ws[i]))=(L++[ws[i]]).map N:=by
    rw[aiE _ _ (by rw[ah3];omega),ah3,ajl,aib,Int.zero_add];rfl
   rw[aC (by rw[agE];exact⟨ajI (by omega),ajI (by rw[ah0,ah3,ah9];omega)⟩),ajq,aC (by rw[agE];exact⟨ajI (by omega),ajI (by omega)⟩),ahd,hon1,ajq,aq (n:=(q:Int)+1) (by omega) (by omega), ← hag,show (q:Int)+1=((q+1:Nat):Int) by omega,es]
   rw[hgd] at hrec
   exact hrec
def ME (ws:List Int):List (Nat×Int):=(ji ws ws.length).map fun i=>(i,ws.getD i 0)
theorem aeU (ws:List Int) (n:Nat):(ji ws n).Pairwise fun a b=>a≠b:=by
 have h:=(OG (k:=wK ws) (List.range n)).2.perm
 exact (h.pairwise_iff (fun h e=>h e.symm)).1 aiy
theorem adT {ws:List Int} (hw:∀ z∈ws,Le 60 z) (hw0:∀ z∈ws,0≤z) (hwl:ws.length≤1000) {most:Int} (hmost:Le 60 most) (hle:∀ z∈ws,z≤most):
 GF (ws.map N) (N most)=some ((zm most (ME ws) [] (List.replicate ws.length 0)).2,((zm most (ME ws) [] (List.replicate ws.length 0)).1.length:Int),()):=by
 obtain⟨h1,h2⟩:=T0 ws ws.length
 unfold GF
 rw[aC (by simp only[agE,ajJ,ah3];omega),aaP hw hwl,ajq]
 dsimp only
 have hl:=acz hw hw0 hwl hmost hle (ji ws ws.length) (by omega) h2 (aeU ws _) (ji ws ws.length) 0
 rw[show ((0:Nat):Int)=0 from rfl] at hl
 rw[show ((cI (ji ws ws.length)).length:Int)=((ji ws ws.length).length:Int) by rw[jP],show List.replicate (Int.toNat (((ws.map N).length:Nat):Int)) (0:Int)=List.replicate ws.length 0 by rw[ahd,ah3]]
 have hl2:=fun f hf=>hl f [] (List.replicate ws.length 0) rfl (ajo _) hf (by simp) (FF.nil _ _)
 rw[aif] at hl2
 rw[hl2 _ (by omega),aB]
 dsimp only
 rw[ah3]
 rfl
end Go.Md
set_option linter.all false
set_option maxRecDepth 20000
namespace Go.Md
open Go.Dn
theorem LF {l:List aa} (hl:l.length≤4000):de l=some (l,()):=by
 have nx:maxLen=9223372036854775807:=rfl
 unfold de
 have e:(chk (decide ((0+(List.length l))*72≤140737488355328)&&decide (0+(List.length l)≤maxLen)) (some (l,())))=some (l,()):=aC (by rw[agE];exact⟨ajI (by omega),ajI (by omega)⟩) _
 cases l with
 | nil=>
  rw[List.isEmpty_nil,ajE,e]
  exact Ly _
 | cons a r=>rw[List.isEmpty_cons,ajD,e]
theorem ac0 (l:List aa) (hl:l.length≤4000) (q:aa):Eo l q=some (JZ l q,()):=by
 unfold Eo
 have loop:∀ (r:List aa) (i f:Nat),l.drop i=r→i≤l.length→r.length<f→
  iter (X:=yQ) (β:=yP) f (l,(i:Int),q.1,q.2.1,q.2.2.1.1,q.2.2.1.2,q.2.2.2,()) tQ=some (Sum.inr (l,((i+og Op.bytesLess q.1 (r.map (·.1)):Nat):Int),q.1,q.2.1,q.2.2.1.1,q.2.2.1.2,q.2.2.2,())):=by
  intro r
  induction r with
  | nil=>
   intro i f hdr hi hf
   have:i=l.length:=by
    have:=congrArg List.length hdr
    simp at this;omega
   obtain⟨f,rfl⟩:∃ m,f=m+1:=⟨f - 1,by omega⟩
   rw[aZ]
   unfold tQ
   dsimp only
   rw[av (by omega),ajq]
   rfl
  | cons x r ih=>
   intro i f hdr hi hf
   have hx:l[i]? =some x:=by
    have:=congrArg (·[0]?) hdr
    simpa [ahN] using this
   have hr':l.drop (i+1)=r:=by
    have:=congrArg List.tail hdr
    simpa [aiJ] using this
   have hlt:=(ahQ.1 hx).1
   obtain⟨f,rfl⟩:∃ m,f=m+1:=⟨f - 1,by simp at hf;omega⟩
   simp only[ah1] at hf
   have hp:og Op.bytesLess q.1 ((x::r).map (·.1))=if Op.bytesLess x.1 q.1=true then og Op.bytesLess q.1 (r.map (·.1))+1 else 0:=rfl
   rw[aZ,hp]
   generalize hag:(fun y=>iter f y tQ)=again
   unfold tQ
   dsimp only
   rw[ax (by omega),aV,hx,ajq,ajq]
   dsimp only
   cases hb:Op.bytesLess x.1 q.1 with
   | true=>
    rw[ajE,ajQ rfl,aq (n:=(i:Int)+1) (by omega) (by omega), ← hag,show (i:Int)+1=((i+1:Nat):Int) by omega]
    refine (ih (i+1) f hr' (by omega) (by omega)).trans ?_
    rw[show i+1+og Op.bytesLess q.1 (r.map (·.1))=i+(og Op.bytesLess q.1 (r.map (·.1))+1) by omega]
   | false=>rw[ajD,ajP (by simp)];rfl
 have h0:=loop l 0 (List.length l+(Int.natAbs (0:Int)+(q.1.length+(q.2.1.length+(q.2.2.1.1.natAbs+(q.2.2.1.2.natAbs+(q.2.2.2.length+2))))))) rfl (ajo _) (by omega)
 rw[show ((0:Nat):Int)=0 from rfl] at h0
 rw[h0,aB]
 dsimp only
 have hle:=Ub (lt:=Op.bytesLess) q.1 (l.map (·.1))
 rw[ah3] at hle
 rw[LF hl,ajq]
 dsimp only
 have hins:nH l ((0+og Op.bytesLess q.1 (l.map (·.1)):Nat):Int) [(q.1,q.2.1,(q.2.2.1.1,q.2.2.1.2),q.2.2.2)]=some (JZ l q,()):=by
  show Ei 72 _ _ _=_
  unfold Ei
  rw[ajn,show (decide (0≤((og Op.bytesLess q.1 (l.map (·.1)):Nat):Int))&&(decide (((og Op.bytesLess q.1 (l.map (·.1)):Nat):Int)≤(l.length:Int))&&(decide (0<[(q.1,q.2.1,(q.2.2.1.1,q.2.2.1.2),q.2.2.2)].length)&&(decide ((l.length+[(q.1,q.2.1,(q.2.2.1.1,q.2.2.1.2),q.2.2.2)].length)*72≤140737488355328)&&decide (l.length+[(q.1,q.2.1,(q.2.2.1.1,q.2.2.1.2),q.2.2.2)].length≤4611686018427387904)))))=true by
   simp only[agE,ajJ,ah9]
   omega]
  rw[ajE,ahd]
  rfl
 rw[hins,ajq]
theorem agc (l:List aa) (hl:l.length≤500) (m:List ai) (p:List UInt8) (n c d:Int) (f:Nat) (hf:l.length<f):
 iter (X:=vM) (β:=AX) f (l,m,p,n,l,(l.length:Int),0,c,d,()) AW=some (if l.any (fun q=> !(q.2.1==[]))=true then Sum.inl ([],3,()) else Sum.inr (l,m,p,n,c,d,())):=by
 refine bf (Inv:=fun i X=>X=((l,m,p,n,l,(l.length:Int),(i:Int),c,d,()):vM)∧(l.take i).any (fun q=> !(q.2.1==[]))=false) l.length (fun r=>r=some (if l.any (fun q=> !(q.2.1==[]))=true then Sum.inl ([],3,()) else Sum.inr (l,m,p,n,c,d,()))) ?_ ?_ f 0 _ ⟨rfl,by simp⟩ (by omega) (by omega)
 ·rintro i X again hi ⟨rfl,hI⟩ hag
  unfold AW
  dsimp only
  have hy:l[i]? =some l[i]:=ahO hi
  rw[ax (by omega),aV,hy,ajq]
  cases hb:(!(l[i].2.1==[])) with
  | true=>rw[ajE,ajQ (ahj.2 ⟨l[i],ahZ _,hb⟩)]
  | false=>
   rw[ajD,aq (by omega) (by omega)]
   refine hag _ ⟨rfl, ?_⟩
   rw[aiK,hy,List.any_append,hI]
   simp only[ajw,ahh,List.any_nil,hb,agS]
 ·rintro X again ⟨rfl,hI⟩
  unfold AW
  dsimp only
  rw[av (by omega)]
  rw[aiO] at hI
  rw[ajP (by rw[hI];simp)]
def wsL (m:List ai) (l:List aa):List Int:=l.map fun q=>wz m q*1000
theorem aev (l:List aa) (hl:l.length≤500) (hps:∀ q∈l,Lh q) (m:List ai) (hm0:gM m=0) (p:List UInt8) (n c d:Int) (f:Nat) (hf:l.length<f):
 ((∃ q∈l,wP m [q] 0=none)∧iter (X:=oA) (β:=tJ) f (l,m,p,n,[],(l.length:Int),0,c,d,()) tH=some (Sum.inl ([],5,())))∨
 ((∀ q∈l,(wP m [q] 0).isSome=true∧Le 42 (wz m q))∧iter (X:=oA) (β:=tJ) f (l,m,p,n,[],(l.length:Int),0,c,d,()) tH=some (Sum.inr (l,p,n,(wsL m l).map N,c,d,()))):=by
 have nx:maxLen=9223372036854775807:=rfl
 refine bf (Inv:=fun i X=>(∀ q∈l.take i,(wP m [q] 0).isSome=true∧Le 42 (wz m q))∧X=((l,m,p,n,(wsL m (l.take i)).map N,(l.length:Int),(i:Int),c,d,()):oA)) l.length
  (fun r=>((∃ q∈l,wP m [q] 0=none)∧r=some (Sum.inl ([],5,())))∨((∀ q∈l,(wP m [q] 0).isSome=true∧Le 42 (wz m q))∧r=some (Sum.inr (l,p,n,(wsL m l).map N,c,d,())))) ?_ ?_ f 0 _ ⟨by simp,rfl⟩ (by omega) (by omega)
 ·rintro i X again hi ⟨hI,rfl⟩ hag
  unfold tH
  dsimp only
  have hy:l[i]? =some l[i]:=ahO hi
  have hlen:((wsL m (l.take i)).map N).length=i:=by unfold wsL;rw[ah3,ah3,aia];omega
  have hgd:([i].map fun i=>l.getD i ([],[],(0,0),[]))=[l[i]]:=by
   rw[aih,ahH,hy];rfl
  rw[ax (by omega)]
  have hw:=Yp l [i] (by simpa using hi) (by simp) hps m hm0
  rw[hgd,show cI [i]=[(i:Int)] from rfl] at hw
  rcases hw with ⟨z,h1,h2,h3⟩ | ⟨h1,z,h3⟩
  ·have hwz:wz m l[i]=z:=by unfold wz;rw[h1];rfl
   rw[h3,ajq]
   dsimp only
   rw[agP,ajD,aC (by rw[agE,hlen];exact⟨ajI (by omega),ajI (by omega)⟩),aq (by omega) (by omega)]
   refine hag _ ⟨?_, ?_⟩
   ·rw[aiK,hy]
    intro q hq
    rcases aii.1 hq with hq | hq
    ·exact hI q hq
    ·simp at hq;rw[hq,h1,hwz];exact⟨rfl,h2⟩
   ·unfold wsL
    rw[aiK,hy,aib,aib,ajw,aih,aih,hwz];rfl
  ·rw[h3,ajq]
   exact .inl ⟨⟨_,ahZ hi,h1⟩,rfl⟩
 ·rintro X again ⟨hI,rfl⟩
  unfold tH
  dsimp only
  rw[av (by omega)]
  rw[aiO] at*
  exact .inr ⟨hI,rfl⟩
theorem af0 (l:List aa) (p:List UInt8) (n:Int) (ws:List Int) (hwl:ws.length≤500) (hw:∀ z∈ws,Le 60 z) {limit:ak} (hd:cq limit) (f:Nat) (hf:ws.length<f):
 iter (X:=tM) (β:=yK) f (l,p,n,ws.map N,ws.map N,(ws.length:Int),0,limit.1,limit.2,()) yJ=some (if ws.any (fun z=>decide (v9 limit<z))=true then Sum.inl ([],16,()) else Sum.inr (l,p,n,ws.map N,limit.1,limit.2,())):=by
 have hv:Le 24 (v9 limit):=Ww hd
 refine bf (Inv:=fun i X=>X=((l,p,n,ws.map N,ws.map N,(ws.length:Int),(i:Int),limit.1,limit.2,()):tM)∧(ws.take i).any (fun z=>decide (v9 limit<z))=false) ws.length (fun r=>r=some (if ws.any (fun z=>decide (v9 limit<z))=true then Sum.inl ([],16,()) else Sum.inr (l,p,n,ws.map N,limit.1,limit.2,()))) ?_ ?_ f 0 _ ⟨rfl,by simp⟩ (by omega) (by omega)
 ·rintro i X again hi ⟨rfl,hI⟩ hag
  unfold yJ
  dsimp only
  have hy:ws[i]? =some ws[i]:=ahO hi
  have hu:pN (limit.1,limit.2)=some (N (v9 limit),()):=MO hd
  rw[ax (by omega),aV,ahR,hy]
  dsimp only[Option.map_some]
  rw[ajq,hu,ajq]
  dsimp only
  rw[GI _ _ (ai8 ((hw _ (ahZ hi)).n (by omega)) (by omega)) (ai8 (hv.n (by omega)) (by omega)),ajq]
  dsimp only
  rw[Uj]
  by_cases h:v9 limit<ws[i]
  ·rw[ajI (by omega),ajE,ajQ (ahj.2 ⟨ws[i],ahZ _,ajI h⟩)]
  ·rw[ajG (by omega),ajD,aq (by omega) (by omega)]
   refine hag _ ⟨rfl, ?_⟩
   rw[aiK,hy,List.any_append,hI]
   simp[h]
 ·rintro X again ⟨rfl,hI⟩
  unfold yJ
  dsimp only
  rw[av (by omega)]
  rw[aiO] at hI
  rw[ajP (by rw[hI];simp)]
theorem XJ {p:List UInt8} {n:Int} {N0:Nat} {Lb:List (List UInt8)} (h:EG p n N0 Lb) (hn:w64 n=n) {j:Nat} {s:List UInt8} (hj:Lb[j]? =some s):jM p (w64 (n+(j:Int)))=some (s,0,()):=by
 have hb: -9223372036854775808≤w64 (n+(j:Int))∧w64 (n+(j:Int))≤9223372036854775807:=by
  unfold w64
  simp only[IntKind.wrap,IntKind.bits,IntKind.signed]
  simp
  omega
 rw[vw p _ hb]
 exact (h.lab j s hj).2
theorem af1 (l:List aa) (hl:l.length≤500) (p:List UInt8) (n:Int) (hn:w64 n=n) {N0:Nat} {Lb:List (List UInt8)} (hLb:EG p n N0 Lb) (on:List Int) (hon:on.length=l.length) (hj:∀ i,i<l.length→∃ (j:Nat) (s:List UInt8),on[i]? =some (j:Int)∧Lb[j]? =some s) (c:Int):
 ∀ (r P:List aa) (f:Nat),l=l.take P.length++r→P.length≤l.length→r.length<f→
  iter (X:=tN) (β:=tK) f (l,p,n,on,c,(l.length:Int),(P.length:Int),P++r,()) oy=some (Sum.inr (l,p,n,c,P++dV Lb on P.length r,())):=by
 intro r
 induction r with
 | nil=>
  intro P f hr hP hf
  have:P.length=l.length:=by
   have:=congrArg List.length hr
   simp at this;omega
  obtain⟨f,rfl⟩:∃ m,f=m+1:=⟨f - 1,by omega⟩
  rw[aZ]
  unfold oy
  dsimp only
  rw[av (by omega)]
  rfl
 | cons q r ih=>
  intro P f hr hP hf
  have hlt:P.length<l.length:=by
   have:=congrArg List.length hr
   simp at this;omega
  have hq:l[P.length]? =some q:=by
   rw[hr,ahK (by rw[aia];omega),aia,show P.length - min P.length l.length=0 by omega];rfl
  obtain⟨f,rfl⟩:∃ m,f=m+1:=⟨f - 1,by simp at hf;omega⟩
  simp only[ah1] at hf
  obtain⟨j,s,h1,h2⟩:=hj P.length hlt
  have hg:(P++q::r)[P.length]? =some q:=by rw[ahK (ai0 _),ajl];rfl
  rw[aZ]
  generalize hag:(fun y=>iter f y oy)=again
  unfold oy
  dsimp only
  rw[ax (by omega),aV,h1,ajq,XJ hLb hn h2,ajq]
  dsimp only
  rw[aC (by rw[agE];exact⟨ajI (by omega),ajI (by rw[ah0,ah1];omega)⟩),ahd,hg,ajq,aq (n:=(P.length:Int)+1) (by omega) (by omega), ← hag]
  have es:(P++q::r).set P.length (q.1,s,q.2.2)=(P++[(q.1,s,q.2.2)])++r:=by
   rw[aiE _ _ (ai0 _),ajl,ahk];rfl
  have eo:E8 Lb on P.length q=(q.1,s,q.2.2):=by
   unfold E8
   rw[h1,ajq,aV,h2];rfl
  rw[es,show (P.length:Int)+1=((P++[(q.1,s,q.2.2)]).length:Int) by rw[ah0,ah9];omega]
  refine (ih (P++[(q.1,s,q.2.2)]) f ?_ (by rw[ah0,ah9];omega) (by omega)).trans ?_
  ·rw[ah0,ah9,aiK,hq,ajw,ahk]
   exact hr
  ·rw[ah0,ah9,ahk]
   show some (Sum.inr (l,p,n,c,P++((q.1,s,q.2.2)::dV Lb on (P.length+1) r),()))=some (Sum.inr (l,p,n,c,P++(E8 Lb on P.length q::dV Lb on (P.length+1) r),()))
   rw[eo]
def ED (out:List aa) (ss:List (List UInt8)):List aa:=ss.foldl (fun o s=>JZ o (s,[],(0,0),[])) out
theorem Fa:∀ (ss:List (List UInt8)) (out:List aa),(ED out ss).Perm (out++news ss)
 | [],out=>by unfold ED news;simp
 | s::r,out=>by
  have h1:=Fa r (JZ out (s,[],(0,0),[]))
  have h2:=(ML out (s,[],(0,0),[])).append_right (news r)
  have e:out++news (s::r)=(out++[(s,[],(0,0),[])])++news r:=by unfold news;simp
  rw[e]
  exact h1.trans h2
theorem OL:∀ (ss:List (List UInt8)) (out:List aa),Asc (·.1) out→ss.Nodup→(∀ s∈ss,∀ q∈out,q.1≠s)→Asc (·.1) (ED out ss)
 | [],out,h,_,_=>h
 | s::r,out,h,hnd,hne=>by
  rw[aix] at hnd
  refine OL r _ (ad8 h fun q hq=>hne s ail q hq) hnd.2 fun t ht q hq=> ?_
  rcases aii.1 ((ML out _).mem_iff.1 hq) with hq | hq
  ·exact hne t (aik _ ht) q hq
  ·simp at hq
   rw[hq]
   exact fun e=>hnd.1 (by rw[show s=t from e];exact ht)
theorem ad9 (l:List aa) (p:aa):(JZ l p).length=l.length+1:=by
 have:=(ML l p).length_eq
 simpa using this
theorem af2 (l:List aa) (hl:l.length≤500) (p:List UInt8) (n:Int) (hn:w64 n=n) {N0:Nat} (hN0:N0≤500) {Lb:List (List UInt8)} (hLb:EG p n N0 Lb):
 ∀ (r:List (List UInt8)) (i f:Nat) (out:List aa),Lb.drop i=r→i≤N0→r.length<f→out.length≤500+i→
  iter (X:=tO) (β:=tL) f (l,p,n,out,(N0:Int),(i:Int),()) oz=some (if ∃ s∈r,∃ q∈l,q.1=s then Sum.inl ([],7,()) else Sum.inr (ED out r,())):=by
 have hlen:=hLb.len
 intro r
 induction r with
 | nil=>
  intro i f out hdr hi hf _
  have:i=N0:=by
   have:=congrArg List.length hdr
   simp at this;omega
  obtain⟨f,rfl⟩:∃ m,f=m+1:=⟨f - 1,by omega⟩
  rw[aZ]
  unfold oz
  dsimp only
  rw[av (by omega),ajP (by rintro⟨s,hs,_⟩;cases hs)]
  rfl
 | cons s r ih=>
  intro i f out hdr hi hf ho
  have hx:Lb[i]? =some s:=by
   have:=congrArg (·[0]?) hdr
   simpa [ahN] using this
  have hr':Lb.drop (i+1)=r:=by
   have:=congrArg List.tail hdr
   simpa [aiJ] using this
  have hlt:=(ahQ.1 hx).1
  obtain⟨f,rfl⟩:∃ m,f=m+1:=⟨f - 1,by simp at hf;omega⟩
  simp only[ah1] at hf
  rw[aZ]
  generalize hag:(fun y=>iter f y oz)=again
  unfold oz
  dsimp only
  rw[ax (by omega),XJ hLb hn hx,ajq]
  dsimp only
  rw[uT l s (by omega),ajq]
  dsimp only
  cases hix:jK (fun x:aa=>x.1) s l with
  | some k=>
   obtain⟨q,hq,hqs⟩:=zZ hix
   rw[show decide (ixI (some k)≥0)=true from ajI (by show (k:Int)≥0;omega),ajE,ajQ ⟨s,ail,q,air hq,hqs⟩]
  | none=>
   have hno:=UO hix
   rw[show decide (ixI none≥0)=false from rfl,ajD,ac0 out (by omega) _,ajq]
   dsimp only
   rw[aq (n:=(i:Int)+1) (by omega) (by omega), ← hag,show (i:Int)+1=((i+1:Nat):Int) by omega]
   refine (ih (i+1) f _ hr' (by omega) (by omega) (by rw[ad9];omega)).trans ?_
   have hiff:(∃ s0∈s::r,∃ q∈l,q.1=s0)↔(∃ s0∈r,∃ q∈l,q.1=s0):=by
    constructor
    ·rintro⟨s0,hs0,q,hq,e⟩
     rcases aij.1 hs0 with rfl | hs0
     ·exact absurd e (hno q hq)
     ·exact⟨s0,hs0,q,hq,e⟩
    ·rintro⟨s0,hs0,h⟩
     exact⟨s0,aik _ hs0,h⟩
   by_cases hx2:∃ s0∈r,∃ q∈l,q.1=s0
   ·rw[ajQ hx2,ajQ (hiff.2 hx2)]
   ·rw[ajP hx2,ajP (fun h=>hx2 (hiff.1 h))]
    rfl
end Go.Md
set_option linter.all false
set_option maxRecDepth 20000
namespace Go.Md
open Go.Dn
theorem adq {n:Int} (h:w64 n=n): -9223372036854775808≤n∧n≤9223372036854775807:=by
 rw[← h]
 unfold w64
 simp only[IntKind.wrap,IntKind.bits,IntKind.signed]
 simp
 omega
theorem afl (m:List aR) (l:List aa):bpc m 0 l=(List.range (wsL m l).length).map fun i=>(i,(wsL m l).getD i 0):=by
 have hwl:(wsL m l).length=l.length:=by unfold wsL;rw[ah3]
 apply ahy
 intro i
 rw[Na,ahR,hwl]
 by_cases hi:i<l.length
 ·rw[ahO hi,ahS hi]
  unfold wsL
  simp only[ajv,ajn,ahH,ahR,ahO hi,ajr]
 ·rw[ahP (by omega),ahP (by rw[List.length_range];omega)];rfl
theorem aab (m:List aR) (l:List aa):Srt (fun q:Nat×Int=> -q.2) (ME (wsL m l))∧bE (fun q:Nat×Int=> -q.2) (bpc m 0 l) (ME (wsL m l)):=by
 obtain⟨h1,h2⟩:=OG (k:=wK (wsL m l)) (List.range (wsL m l).length)
 constructor
 ·unfold ME Srt
  rw[aiC];exact h1
 ·rw[afl]
  refine⟨h2.perm.map _,fun v=> ?_⟩
  unfold ME
  rw[List.filter_map,List.filter_map]
  exact congrArg (List.map _) (h2.keys v)
theorem adk (l:List aa) (m:List ai) (limit:ak) (p:List UInt8) (n:Int) (hn:w64 n=n) (hf:Sq ([97],[97],1,l)) {r:List aa×Int×Unit} (hr:HJ l m limit p n r):GD l m limit p n=some r:=by
 unfold GD
 rw[MM _ hf,ajq]
 dsimp only
 by_cases h1:qS ([97],[97],1,l)=0
 rotate_left
 ·have e:fZ l m limit=qS ([97],[97],1,l):=by unfold fZ;rw[ajQ h1]
  rw[show (qS ([97],[97],1,l) != 0)=true by simpa using h1,ajE,hr.fault (by rw[e];exact h1),e]
 rw[show (qS ([97],[97],1,l) != 0)=false by simpa using h1,ajD]
 have hok:=CZ h1
 have hl:l.length≤500:=hok.len
 have hpa:=Nx h1
 have hpn:=acT h1
 rw[agc l hl m p n limit.1 limit.2 _ (by omega)]
 by_cases h2:l.any (fun q=> !(q.2.1==[]))=true
 ·have e:fZ l m limit=3:=by unfold fZ;rw[ajP (by simpa using h1),ajQ h2]
  rw[ajQ h2,bO,hr.fault (by rw[e];decide),e]
 rw[ajP h2,aB]
 dsimp only
 rw[MN,ajq]
 dsimp only
 by_cases h3:gM m=0
 rotate_left
 ·have e:fZ l m limit=gM m:=by unfold fZ;rw[ajP (by simpa using h1),ajP h2,ajQ h3]
  rw[show (gM m != 0)=true by simpa using h3,ajE,hr.fault (by rw[e];exact h3),e]
 rw[show (gM m != 0)=false by simpa using h3,ajD]
 rw[show jZ (limit.1,limit.2)=some (if cq limit then 0 else 1,()) from BL limit,ajq]
 dsimp only
 by_cases h4:cq limit
 rotate_left
 ·have e:fZ l m limit=1:=by unfold fZ;rw[ajP (by simpa using h1),ajP h2,ajP (by simpa using h3),ajP h4]
  rw[ajP h4,show ((1:Int) != 0)=true from rfl,ajE,hr.fault (by rw[e];decide),e]
 have h0:fZ l m limit=0:=by unfold fZ;rw[ajP (by simpa using h1),ajP h2,ajP (by simpa using h3),ajQ h4]
 rw[ajQ h4,show ((0:Int) != 0)=false from rfl,ajD]
 rcases aev l hl hpa m h3 p n limit.1 limit.2 (List.length l+(List.length m+(List.length p+(Int.natAbs n+(List.length ([]:List aj)+(Int.natAbs ((List.length l:Int))+(Int.natAbs (0:Int)+(Int.natAbs limit.1+(Int.natAbs limit.2+2))))))))) (by omega) with ⟨g1,g2⟩ | ⟨g1,g2⟩
 ·rw[g2,bO,hr.name h0 g1]
 rw[g2,aB]
 dsimp only
 have hwl:(wsL m l).length=l.length:=by unfold wsL;rw[ah3]
 obtain⟨_,_,hm⟩:=AF h3
 have hw:∀ z∈wsL m l,Le 60 z:=by
  intro z hz
  obtain⟨q,hq,rfl⟩:=aip.1 hz
  have h6:(wz m q).natAbs≤10 ^ 42:=(g1 q hq).2
  show (wz m q*1000).natAbs≤10 ^ 60
  rw[ag3]
  show (wz m q).natAbs*1000≤10 ^ 60
  omega
 have hw0:∀ z∈wsL m l,0≤z:=by
  intro z hz
  obtain⟨q,hq,rfl⟩:=aip.1 hz
  have:=Vh hm (hpn q hq)
  omega
 rw[show ((((wsL m l).map N).length:Nat):Int)=((wsL m l).length:Int) by rw[ah3]]
 rw[af0 l p n (wsL m l) (by omega) hw h4 _ (by rw[ah3];omega)]
 by_cases h5:(wsL m l).any (fun z=>decide (v9 limit<z))=true
 ·rw[ajQ h5,bO]
  obtain⟨z,hz,hlt⟩:=ahj.1 h5
  obtain⟨q,hq,rfl⟩:=aip.1 hz
  rw[hr.full h0 (fun q hq=>(g1 q hq).1) ⟨q,hq,ajV hlt⟩]
 have hle:∀ z∈wsL m l,z≤v9 limit:=by
  intro z hz
  have:=ahi.1 (Bool.eq_false_iff.2 h5) z hz
  simp at this
  omega
 rw[ajP h5,aB]
 dsimp only
 have hv24:(v9 limit).natAbs≤10 ^ 24:=Ww h4
 have hmost:Le 60 (v9 limit):=by show (v9 limit).natAbs≤10 ^ 60;omega
 rw[show pN (limit.1,limit.2)=some (N (v9 limit),()) from MO h4,ajq]
 dsimp only
 rw[adT hw hw0 (by omega) hmost hle,ajq]
 dsimp only
 obtain⟨L,on,hff⟩:∃ L on,(L,on)=zm (v9 limit) (ME (wsL m l)) [] (List.replicate (wsL m l).length 0):=⟨_,_,rfl⟩
 have hff2:=hff
 rw[hwl] at hff2
 rw[← hff]
 dsimp only
 obtain⟨o1,o2⟩:=aab m l
 obtain⟨hlo,hc⟩:=hr.tail h0 g1 (fun q hq=>hle _ (aip.2 ⟨q,hq,rfl⟩)) _ L on o1 o2 hff2
 have hLl:=hlo.len
 rw[KE p n _ (adq hn) (by omega) (by omega),ajq]
 dsimp only
 rcases hc with ⟨c1,c2⟩ | ⟨c1,Lb,hLb,c3⟩
 ·rw[show (iM p n L.length != 0)=true by simpa using c1,ajE,c2]
 rw[show (iM p n L.length != 0)=false by simpa using c1,ajD,LF (by omega),ajq]
 dsimp only
 have hj:∀ i,i<l.length→∃ (j:Nat) (s:List UInt8),on[i]? =some (j:Int)∧Lb[j]? =some s:=by
  intro i hi
  obtain⟨j,a1,a2⟩:=hlo.on i hi
  have hbl:=hLb.len
  exact⟨j,Lb[j]'(by omega),a1,ahO (by omega)⟩
 have t1:=af1 l hl p n hn hLb on hlo.onl hj (L.length:Int) l [] (List.length l+(List.length p+(Int.natAbs n+(List.length on+(Int.natAbs (L.length:Int)+(Int.natAbs ((List.length l:Int))+(Int.natAbs (0:Int)+(List.length l+2)))))))) rfl (ajo _) (by omega)
 have t1':iter (X:=tN) (β:=tK) (List.length l+(List.length p+(Int.natAbs n+(List.length on+(Int.natAbs (L.length:Int)+(Int.natAbs ((List.length l:Int))+(Int.natAbs (0:Int)+(List.length l+2)))))))) (l,p,n,on,(L.length:Int),(l.length:Int),0,l,()) oy=some (Sum.inr (l,p,n,(L.length:Int),dV Lb on 0 l,())):=t1
 rw[t1',aB]
 dsimp only
 have hol:(dV Lb on 0 l).length=l.length:=Dz ..
 have hbl:=hLb.len
 have t2:=af2 l hl p n hn (N0:=L.length) (by omega) hLb Lb 0 (List.length l+(List.length p+(Int.natAbs n+(List.length (dV Lb on 0 l)+(Int.natAbs (L.length:Int)+(Int.natAbs (0:Int)+2)))))) (dV Lb on 0 l) rfl (ajo _) (by omega) (by omega)
 have t2':iter (X:=tO) (β:=tL) (List.length l+(List.length p+(Int.natAbs n+(List.length (dV Lb on 0 l)+(Int.natAbs (L.length:Int)+(Int.natAbs (0:Int)+2)))))) (l,p,n,dV Lb on 0 l,(L.length:Int),0,()) oz=some (if ∃ s∈Lb,∃ q∈l,q.1=s then Sum.inl ([],7,()) else Sum.inr (ED (dV Lb on 0 l) Lb,())):=t2
 rw[t2']
 have hlen:∀ (ss:List (List UInt8)) (o:List aa),(ED o ss).length=o.length+ss.length:=by
  intro ss o
  have:=(Fa ss o).length_eq
  rw[this,ah0]
  unfold news
  rw[ah3]
 rcases c3 with ⟨d1,d2⟩ | ⟨d1,d2⟩
 ·rw[ajQ d1,bO,d2]
 have hno:¬ ∃ s∈Lb,∃ q∈l,q.1=s:=fun ⟨s,hs,q,hq,e⟩=>d1 s hs q hq e
 rw[ajP hno,aB]
 dsimp only
 rw[hlen,hol,hbl]
 rcases d2 with ⟨k1,k2⟩ | ⟨k1,x,k2,k3,k4⟩
 ·rw[ax (by omega),k2]
 rw[av (by omega),k2]
 have hasc:Asc (·.1) (dV Lb on 0 l):=by
  intro i j a b hij ha hb
  rw[Dy] at ha hb
  obtain⟨a',ha',rfl⟩:=Option.map_eq_some_iff.1 ha
  obtain⟨b',hb',rfl⟩:=Option.map_eq_some_iff.1 hb
  exact hok.asc i j a' b' hij ha' hb'
 have hp1:=Fa Lb (dV Lb on 0 l)
 have hp2:=OL Lb (dV Lb on 0 l) hasc (hLb.nodup (by omega)) fun s hs q hq=>by
  obtain⟨i,q0,hq0,rfl⟩:=PX hq
  exact d1 s hs q0 (air hq0)
 rw[adt hp2 k4 (hp1.trans k3.symm)]
theorem aeu (p:List UInt8) (n:Int) (a u:List UInt8) (one:Int):∀ (k:Nat) (left:Int) (out:List aa),(∀ q∈out,q.2.2.2.length≤1)→∀ q∈pkN p n a u one k left out,q.2.2.2.length≤1
 | 0,_,_,h=>h
 | k+1,left,out,h=>by
  rw[P7]
  refine aeu p n a u one k _ _ fun q hq=> ?_
  rcases aii.1 hq with hq | hq
  ·exact h q hq
  ·rw[aiv.1 hq];exact ai0 _
theorem acR (p:List UInt8) (n:Int) (most:List ai):∀ (r:List ai) (out:List aa),(∀ q∈out,q.2.2.2.length≤1)→∀ q∈MG p n most r out,q.2.2.2.length≤1
 | [],_,h=>h
 | g::r,out,h=>by
  rw[GB]
  exact acR p n most r _ (aeu _ _ _ _ _ _ _ _ h)
theorem Yf (p:List UInt8) (n:Int) {items most:List ai} (H:PkH items most):∀ (r:List ai) (out:List aa),(∀ g∈r,g∈items)→((MG p n most r out).length:Int)=out.length+b6 most r
 | [],out,_=>by
  show ((out.length:Nat):Int)=out.length+0
  omega
 | g::r,out,h=>by
  have h1:=H.at (g:=g) (h g ail)
  have em:b6 most (g::r)=lE (th g.2.2) (dz most g)+b6 most r:=rfl
  rw[GB,Yf p n H r _ fun x hx=>h x (aik _ hx),Ny,em]
  omega
theorem ad3 (items most:List ai) (p:List UInt8) (n:Int):(AP items most p n).1.length≤500∧∀ q∈(AP items most p n).1,q.2.2.2.length≤1:=by
 unfold AP
 split
 ·exact⟨ajo _,fun q h=>by cases h⟩
 rename_i a1
 split
 ·exact⟨ajo _,fun q h=>by cases h⟩
 rename_i a2
 split
 ·exact⟨ajo _,fun q h=>by cases h⟩
 rename_i a3
 split
 ·exact⟨ajo _,fun q h=>by cases h⟩
 rename_i a4
 split
 ·exact⟨ajo _,fun q h=>by cases h⟩
 split
 ·exact⟨ajo _,fun q h=>by cases h⟩
 rename_i a6
 obtain⟨hi,_⟩:=Ig (show bW items=0 by simpa using a2)
 obtain⟨hm,_⟩:=Ig (show bW most=0 by simpa using a3)
 have hs:∀ g∈items,(eE most g).isSome=true:=fun g hg=>by
  cases e:eE most g with
  | none=>exact absurd ⟨g,hg,e⟩ a4
  | some _=>rfl
 have H:PkH items most:=⟨by omega,by omega,hi,hm,hs⟩
 have h1:=Yf p n H items [] fun g hg=>hg
 rw[ah4] at h1
 exact⟨by dsimp only;omega,acR p n most items [] (fun q h=>by cases h)⟩
theorem HJ.bd {l:List aa} {m:List ai} {limit:ak} {p:List UInt8} {n:Int} {r:List aa×Int×Unit} (hr:HJ l m limit p n r):r.1.length≤500∧∀ q∈r.1,q.2.2.2.length≤1000:=by
 have nil:∀ e:Int,r=([],e,())→r.1.length≤500∧∀ q∈r.1,q.2.2.2.length≤1000:=fun e h=>by
  rw[h];exact⟨ajo _,fun q h=>by cases h⟩
 by_cases h0:fZ l m limit=0
 rotate_left
 ·exact nil _ (hr.fault h0)
 obtain⟨h1,h2,h3,h4⟩:=OQ h0
 have hok:=CZ h1
 have hl:l.length≤500:=hok.len
 have hpa:=Nx h1
 rcases aev l hl hpa m h3 p n 0 0 (l.length+1) (by omega) with ⟨g1,_⟩ | ⟨g1,_⟩
 ·exact nil _ (hr.name h0 g1)
 by_cases h5:∃ q∈l,v9 limit<wz m q*1000
 ·exact nil _ (hr.full h0 (fun q hq=>(g1 q hq).1) h5)
 have hwl:(wsL m l).length=l.length:=by unfold wsL;rw[ah3]
 obtain⟨L,on,hff⟩:∃ L on,(L,on)=zm (v9 limit) (ME (wsL m l)) [] (List.replicate l.length 0):=⟨_,_,rfl⟩
 obtain⟨o1,o2⟩:=aab m l
 obtain⟨hlo,hc⟩:=hr.tail h0 g1 (fun q hq=>Int.not_lt.1 fun h=>h5 ⟨q,hq,h⟩) _ L on o1 o2 hff
 rcases hc with ⟨c1,c2⟩ | ⟨c1,Lb,hLb,c3⟩
 ·exact nil _ c2
 rcases c3 with ⟨d1,d2⟩ | ⟨d1,d2⟩
 ·exact nil _ d2
 rcases d2 with ⟨k1,k2⟩ | ⟨k1,x,k2,k3,k4⟩
 ·exact nil _ k2
 have hol:(dV Lb on 0 l).length=l.length:=Dz ..
 have hbl:=hLb.len
 rw[k2]
 refine⟨?_,fun q hq=> ?_⟩
 ·rw[k3.length_eq,ah0,hol]
  unfold news
  rw[ah3,hbl]
  exact k1
 ·rcases aii.1 (k3.mem_iff.1 hq) with hq | hq
  ·obtain⟨i,q0,hq0,rfl⟩:=PX hq
   have:=(hpa q0 (air hq0)).n
   show q0.2.2.2.length≤1000
   omega
  ·unfold news at hq
   obtain⟨s,hs,rfl⟩:=aip.1 hq
   exact ajo _
theorem XI:Mp=some (true,()):=by kernel_rfl
theorem law_ParcelPacksMatchSpec (items most:List ai) (l:List aa) (m:List ai) (limit:ak) (p:List UInt8) (n:Int) (hn:w64 n=n) (hf:Sq ([97],[97],1,l)):jS items most l m limit p n=some (true,()):=by
 unfold jS
 have hb:=adq hn
 rw[vw p n hb]
 obtain⟨s,h1,_⟩:=B0 p n
 rw[h1,ajq,ajq]
 dsimp only
 rw[show (gB p n != gB p n)=false by simp,ajD,show (!(s==s))=false by simp,ajD,ad4,ad5 items most p n hb,ajq,ajq]
 dsimp only
 obtain⟨b1,b2⟩:=ad3 items most p n
 rw[show ((AP items most p n).2 != (AP items most p n).2)=false by simp,ajD,IQ _ (by omega) (fun q hq=>by have:=b2 q hq;omega),ajq]
 dsimp only
 rw[agP,ajD]
 obtain⟨r,h2,h3⟩:=ZN l m limit p n hn hf
 obtain⟨b3,b4⟩:=h3.bd
 rw[h2,adk l m limit p n hn hf h3,ajq,ajq]
 rw[show (r.2.1==r.2.1)=true by simp,ajE,IQ _ (by omega) (fun q hq=>by have:=b4 q hq;omega),ajq]
 dsimp only
 rw[ajE,XI]
 rfl
end Go.Md
