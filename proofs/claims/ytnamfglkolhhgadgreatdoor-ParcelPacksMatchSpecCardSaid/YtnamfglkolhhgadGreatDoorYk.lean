/-
  Plain facts: what is in parcels, packs. No condition.
-/
import Derived.Test.YtnamfglkolhhgadGreatDoorYo
import Derived.Test.YtnamfglkolhhgadGreatDoorYu
import Derived.Test.YtnamfglkolhhgadGreatDoorYn
import Derived.Test.YtnamfglkolhhgadGreatDoorYq
set_option linter.all false
set_option linter.all false
set_option maxRecDepth 20000
namespace Go.Md
open Go.Dn
abbrev Tw:Type:=List UInt8×List UInt8
end Go.Md
set_option linter.all false
set_option maxRecDepth 20000
namespace Go.Md
open Go.Dn
end Go.Md
set_option linter.all false
namespace Go.Md
open Go.Dn
def ER (l:List UInt8):Nat:=l.foldl (fun n b=>n*10+(b.toNat - 48)) 0
theorem abZ (l:List UInt8) (b:UInt8):ER (l++[b])=ER l*10+(b.toNat - 48):=by
 unfold ER;rw[List.foldl_append];rfl
theorem Re:∀ (k:Nat) (l:List UInt8),ER (Lib.repeatL [48] k++l)=ER l
 | 0,l=>rfl
 | k+1,l=>by
  show ER (48::(Lib.repeatL [48] k++l))=ER l
  rw[← Re k l];rfl
theorem UF {d:Nat} (h:d<10):(UInt8.ofNat (48+d)).toNat=48+d:=by
 rw[UInt8.toNat_ofNat']
 omega
theorem vn:∀ (k u:Nat),u<10 ^ (k+1)→ER (Lib.decDigits u)=u∧0<(Lib.decDigits u).length∧(Lib.decDigits u).length≤k+1
 | k,u,h=>by
  rw[Lib.decDigits]
  by_cases h1:u<10
  ·rw[dif_pos h1]
   refine⟨?_,by simp,by simp⟩
   show 0*10+((UInt8.ofNat (48+u)).toNat - 48)=u
   rw[UF h1];omega
  ·rw[dif_neg h1]
   cases k with
   | zero=>rw[ajn,Nat.pow_one] at h;exact absurd h h1
   | succ k=>
    have hd:u / 10<10 ^ (k+1):=by
     rw[ajk] at h
     omega
    obtain⟨g1,g2,g3⟩:=vn k (u / 10) hd
    refine⟨?_,by simp,by simp;omega⟩
    rw[abZ,g1,UF (by omega)]
    omega
theorem adA (n:Nat) (h:n<100):Lib.decDigits n=W6 n:=by
 unfold W6
 rw[Lib.decDigits]
 by_cases h1:n<10
 ·simp[h1]
 ·rw[dif_neg h1,Lib.decDigits,dif_pos (by omega),ajP h1];rfl
theorem zY {n:Nat} (h:n≤9223372036854775807):strconv_Itoa (n:Int)=some (Lib.decDigits n,()):=by
 unfold strconv_Itoa
 by_cases h1:n<100
 ·rw[show (decide (0≤(n:Int))&&decide ((n:Int)<100))=true by rw[agE];exact⟨ajI (by omega),ajI (by omega)⟩,ajE,ahd,adA n h1]
 ·rw[show (decide (0≤(n:Int))&&decide ((n:Int)<100))=false by rw[ajG (show ¬(n:Int)<100 by omega),agF],ajD,
   show (decide (-9223372036854775808≤(n:Int))&&decide ((n:Int)≤9223372036854775807))=true by rw[agE];exact⟨ajI (by omega),ajI (by omega)⟩,ajE]
  unfold Lib.itoa
  rw[ajP (by omega),ahd]
theorem GL (k:Nat) (h:k≤1000):strings_Repeat [48] (k:Int)=some (Lib.repeatL [48] k,()):=by
 unfold strings_Repeat
 rw[ahd,show (decide (0≤(k:Int))&&(decide ((k:Int)≤9223372036854775807)&&decide ([(48:UInt8)].length*k≤140737488355328)))=true by
  rw[agE,agE]
  exact⟨ajI (by omega),ajI (by omega),ajI (by simp;omega)⟩,ajE]
theorem Gt (s:List UInt8) (hs:s.length≤9223372036854775807):me 3 s=some (lbl s,()):=by
 have h:=D9 s hs
 unfold ri uI kI at h
 rw[eP,ajq,ajq] at h
 dsimp only at h
 rw[show (!(!(decide ((3:Int)<1∨(5:Int)<3))))=false by decide,ajD] at h
 cases hq:me 3 s with
 | none=>rw[hq] at h;cases h
 | some r=>
  rw[hq,ajq,ajq] at h
  obtain⟨b,u⟩:=r
  exact h
theorem QC (body:List UInt8) (hb:body.length=17):∃ s e,gZ 3 body=some (s,e,())∧(e≠0→s=[])∧(e=0→∃ c,s=body++[c]∧lbl s=true):=by
 have nx:maxLen=9223372036854775807:=rfl
 have loop:∀ n,10<n→(iter (X:=cK) (β:=gh) n (3,body,0,()) cH=some (Sum.inr ()))∨∃ c,lbl (body++[c])=true∧iter (X:=cK) (β:=gh) n (3,body,0,()) cH=some (Sum.inl (body++[c],0,())):=by
  intro n hn
  refine bf (Inv:=fun i X=>X=(((3:Int),body,(i:Int),()):cK)) 10 (fun r=>r=some (Sum.inr ())∨∃ c,lbl (body++[c])=true∧r=some (Sum.inl (body++[c],0,()))) ?_ ?_ n 0 _ rfl (by omega) (by omega)
  ·rintro i X again hi rfl hag
   unfold cH
   dsimp only
   have hd:Lib.decDigits i=[UInt8.ofNat (48+i)]:=by rw[Lib.decDigits,dif_pos hi]
   rw[ax (by omega),zY (by omega),ajq,hd]
   dsimp only
   rw[aC (ajI (by simp;omega)),Gt _ (by simp;omega),ajq]
   dsimp only
   cases hl:lbl (body++[UInt8.ofNat (48+i)]) with
   | true=>right;exact⟨_,hl,rfl⟩
   | false=>
    rw[ajD,aq (by omega) (by omega)]
    exact hag _ rfl
  ·rintro X again rfl
   unfold cH
   dsimp only
   rw[av (by omega)]
   exact .inl rfl
 unfold gZ kI
 rw[eP,ajq,ajq]
 dsimp only
 rw[show (!(!(decide ((3:Int)<1∨(5:Int)<3))))=false by decide,ajD,av (by omega),show ((3:Int)==4)=false from rfl,ajD]
 rcases loop (Int.natAbs (3:Int)+(List.length body+(Int.natAbs (0:Int)+2))) (by rw[hb];decide) with h | ⟨c,h1,h2⟩
 ·rw[h,aB]
  exact⟨[],3,rfl,fun _=>rfl,fun h=>by cases h⟩
 ·rw[h2,bO]
  exact⟨_,0,rfl,fun h=>absurd rfl h,fun _=>⟨c,rfl,h1⟩⟩
theorem ac9 (k:Nat) (hk:k≤17):∀ n,k<n→iter (X:=rj) (β:=w6) n (1,(k:Int),0,()) w5=some (Sum.inr ((10:Int) ^ k,())):=by
 intro n hn
 refine bf (Inv:=fun i X=>X=(((10:Int) ^ i,(k:Int),(i:Int),()):rj)) k (fun r=>r=some (Sum.inr ((10:Int) ^ k,()))) ?_ ?_ n 0 _ rfl (ajo _) (by omega)
 ·rintro i X again hi rfl hag
  unfold w5
  dsimp only
  have h1:(10:Int) ^ (i+1)≤10 ^ 17:=by
   have:=ajj (n:=10) (by omega) (show i+1≤17 by omega)
   have h2:=ag5.2 this
   simpa using h2
  have h0:(0:Int)<10 ^ (i+1):=ag7 (by decide)
  rw[ax (by omega),show (10:Int) ^ i*10=10 ^ (i+1) from (ag8 _ _).symm,aq (by omega) (by omega),aq (n:=(i:Int)+1) (by omega) (by omega)]
  exact hag _ rfl
 ·rintro X again rfl
  unfold w5
  dsimp only
  rw[av (by omega)]
def qI (p:List UInt8):Bool:=decide (p.length≤15)&&(decide (p≠[])&&p.all gz)
theorem IL (p:List UInt8):yb p=some (if qI p=true then ((10:Int) ^ (17 - p.length),true,()) else (0,false,())):=by
 unfold yb qI
 by_cases h1:15<p.length
 ·rw[ax (by omega),ajG (show ¬p.length≤15 by omega),Bool.false_and,ajP (by decide)]
 rw[av (by omega),ajI (show p.length≤15 by omega),agT,Gv p (by omega),ajq]
 dsimp only
 cases hd:(decide (p≠[])&&p.all gz) with
 | false=>rw[agO,ajE,ajP (by decide)]
 | true=>
  have e:w64 (17 - (p.length:Int))=((17 - p.length:Nat):Int):=by rw[aq (by omega) (by omega)];omega
  rw[agP,ajD,ajQ rfl,e,ac9 _ (by omega) _ (by rw[ag4];omega),aB]
def TI (p:List UInt8) (n:Nat):List UInt8:=(p++Lib.repeatL [48] (17 - p.length - (Lib.decDigits n).length))++Lib.decDigits n
theorem XL (p:List UInt8) (n:Nat):ER ((TI p n).drop p.length)=ER (Lib.decDigits n):=by
 unfold TI
 rw[ahk,ahs,Re]
structure Gi (p:List UInt8) (n:Int) (s:List UInt8):Prop where
 n0:0≤n
 pl:p.length≤15
 ok:lbl s=true
 form:∃ c,s=TI p n.toNat++[c]
 val:ER ((TI p n.toNat).drop p.length)=n.toNat
theorem V0 (p:List UInt8) (n:Int):∃ s e,bB p n=some (s,e,())∧(e≠0→s=[])∧(e=0→Gi p n s):=by
 have nx:maxLen=9223372036854775807:=rfl
 unfold bB
 rw[IL,ajq]
 cases hp:qI p with
 | false=>
  rw[ajP (by decide)]
  exact⟨[],3,rfl,fun _=>rfl,fun h=>by cases h⟩
 | true=>
 rw[ajQ rfl]
 dsimp only
 rw[agP,ajD]
 have hpl:p.length≤15:=by
  unfold qI at hp
  simp only[agE,ajJ] at hp
  exact hp.1
 have hne:0<p.length:=by
  unfold qI at hp
  simp only[agE,ajJ] at hp
  exact ah5.2 hp.2.1
 have h1:(10:Int) ^ (17 - p.length)≤10 ^ 17:=by
  have:=ajj (n:=10) (by omega) (show 17 - p.length≤17 by omega)
  have h2:=ag5.2 this
  simpa using h2
 have h0:(0:Int)<10 ^ (17 - p.length):=ag7 (by decide)
 rw[aq (n:=(10:Int) ^ (17 - p.length) - 1) (by omega) (by omega),eP,ajq]
 dsimp only
 by_cases hn:n<0∨(10:Int) ^ (17 - p.length) - 1<n
 ·rw[ajI hn,ajE]
  exact⟨[],1,rfl,fun _=>rfl,fun h=>by cases h⟩
 rw[ajG hn,ajD]
 obtain⟨m,rfl⟩:∃ m:Nat,n=m:=⟨n.toNat,by omega⟩
 have hm:m<10 ^ (16 - p.length+1):=by
  rw[show 16 - p.length+1=17 - p.length by omega]
  have h3:(m:Int)<((10 ^ (17 - p.length):Nat):Int):=by
   rw[Int.natCast_pow]
   show (m:Int)<10 ^ (17 - p.length)
   omega
  omega
 obtain⟨g1,g2,g3⟩:=vn _ _ hm
 have hml:m≤9223372036854775807:=by
  have h4:(m:Int)<10 ^ 17:=by omega
  omega
 rw[zY hml,ajq]
 dsimp only
 have er:w64 (w64 (17 - (p.length:Int)) - ((Lib.decDigits m).length:Int))=((17 - p.length - (Lib.decDigits m).length:Nat):Int):=by
  rw[aq (n:=17 - (p.length:Int)) (by omega) (by omega),aq (by omega) (by omega)];omega
 have hrl:(Lib.repeatL [48] (17 - p.length - (Lib.decDigits m).length)).length=17 - p.length - (Lib.decDigits m).length:=by rw[Lib.repeatL_length,ah9,ajf]
 rw[er,GL _ (by omega),ajq]
 dsimp only
 have hll:((p++Lib.repeatL [48] (17 - p.length - (Lib.decDigits m).length))++Lib.decDigits m).length=17:=by
  rw[ah0,ah0,hrl];omega
 rw[aC (ajI (by rw[hrl];omega)),aC (ajI (by rw[ah0,hrl];omega))]
 obtain⟨s,e,q1,q2,q3⟩:=QC _ hll
 rw[q1,ajq]
 refine⟨s,e,rfl,q2,fun he=> ?_⟩
 obtain⟨c,rfl,hc⟩:=q3 he
 refine⟨by omega,hpl,hc,⟨c,by rw[ahd];rfl⟩, ?_⟩
 rw[ahd,XL,g1]
theorem acr {p:List UInt8} {m n:Int} {s:List UInt8} (h1:Gi p m s) (h2:Gi p n s):m=n:=by
 obtain⟨c,e1⟩:=h1.form
 obtain⟨d,e2⟩:=h2.form
 have e3:=e1.symm.trans e2
 have e4:TI p m.toNat=TI p n.toNat:=(List.append_inj' e3 rfl).1
 have v1:=h1.val;have v2:=h2.val
 rw[e4,v2] at v1
 have:=h1.n0;have:=h2.n0
 omega
end Go.Md
set_option linter.all false
set_option maxRecDepth 20000
namespace Go.Md
open Go.Dn
def dg8 (c:UInt8):Int:=w64 (wu8 ((c.toNat:Int) - 48))
theorem abW (c:UInt8):0≤dg8 c∧dg8 c≤255:=by
 have h:0≤wu8 ((c.toNat:Int) - 48)∧wu8 ((c.toNat:Int) - 48)≤255:=by
  unfold wu8
  have e:IntKind.wrap .u8 ((c.toNat:Int) - 48)=((c.toNat:Int) - 48) % 256:=by
   rfl
  rw[e]
  omega
 unfold dg8
 rw[aq (by omega) (by omega)]
 exact h
def thr (s:List UInt8):Nat→Int
 | 0=>0
 | i+1=>thr s i+((s[s.length - 1 - i]?).map dg8).getD 0*(if i % 2=1 then 3 else 1)
theorem YD (s:List UInt8):∀ i,0≤thr s i∧thr s i≤765*i
 | 0=>⟨agV _,agV _⟩
 | i+1=>by
  have ih:=YD s i
  have hd:0≤((s[s.length - 1 - i]?).map dg8).getD 0∧((s[s.length - 1 - i]?).map dg8).getD 0≤255:=by
   cases s[s.length - 1 - i]? with
   | none=>exact⟨agV _,by decide⟩
   | some c=>exact abW c
  simp only[thr]
  split
  ·omega
  ·omega
theorem adn (s:List UInt8) (hs:s.length≤100):ni s=some (Int.tmod (thr s s.length) 10==0,()):=by
 unfold ni
 have loop:∀ f,s.length<f→iter f ((s,(0:Int),(s.length:Int),(0:Int),()):kg) nF=some (Sum.inr (thr s s.length,())):=by
  intro f hf
  refine bf (Inv:=fun i X=>X=((s,thr s i,(s.length:Int),(i:Int),()):kg)) s.length
   (fun r=>r=some (Sum.inr (thr s s.length,()))) ?_ ?_ f 0 _ rfl (by omega) (by omega)
  ·rintro i _ again hi rfl ih
   have hb:=YD s i
   unfold nF
   dsimp only
   have e:w64 (w64 ((s.length:Int) - 1) - (i:Int))=((s.length - 1 - i:Nat):Int):=by
    rw[aq (n:=(s.length:Int) - 1) (by omega) (by omega),aq (by omega) (by omega)];omega
   have hy:s[s.length - 1 - i]? =some (s[s.length - 1 - i]'(by omega)):=aM (by omega)
   have hd:=abW (s[s.length - 1 - i]'(by omega))
   have ht:thr s (i+1)=thr s i+dg8 (s[s.length - 1 - i]'(by omega))*(if i % 2=1 then 3 else 1):=by
    simp only[thr];rw[hy];rfl
   have em:(Int.tmod (i:Int) 2==1)=decide (i % 2=1):=by
    rw[ahc (by omega)]
    by_cases h:i % 2=1
    ·rw[ajI h];simp;omega
    ·rw[ajG h];simp;omega
   rw[ax (by omega),e,Cd hy,ajq,aq (n:=(i:Int)+1) (by omega) (by omega),em]
   by_cases h:i % 2=1
   ·rw[ajQ h] at ht
    rw[ajI h,ajE]
    refine ih _ ?_
    rw[ht]
    show _=((s,thr s i+dg8 _*3,_,_,()):kg)
    rw[show w64 (w64 (wu8 (((s[s.length - 1 - i]'(by omega)).toNat:Int) - 48))*3)=dg8 (s[s.length - 1 - i]'(by omega))*3 from aq (by unfold dg8 at hd;omega) (by unfold dg8 at hd;omega),aq (by omega) (by omega)]
    rfl
   ·rw[ajP h,ag2] at ht
    rw[ajG h,ajD]
    refine ih _ ?_
    rw[ht]
    show ((s,w64 (thr s i+dg8 (s[s.length - 1 - i]'(by omega))),_,_,()):kg)=_
    rw[aq (by omega) (by omega)]
    rfl
  ·rintro _ again rfl
   unfold nF
   dsimp only
   rw[av (by omega)]
 rw[loop _ (by omega),aB]
def Qc (b:List UInt8):Nat→Int
 | 0=>0
 | i+1=>Qc b i+((b[b.length - 1 - i]?).map dg8).getD 0*(if (i+1) % 2=1 then 3 else 1)
theorem Qd (b:List UInt8) (c:UInt8):∀ i,i≤b.length→thr (b++[c]) (i+1)=dg8 c+Qc b i
 | 0,_=>by
  have:(b++[c])[(b++[c]).length - 1 - 0]? =some c:=by simp
  simp only[thr,Qc]
  rw[this]
  simp
 | i+1,h=>by
  have ih:=Qd b c i (by omega)
  have e:(b++[c])[(b++[c]).length - 1 - (i+1)]? =b[b.length - 1 - i]? :=by
   rw[ah0,ah9,ahJ (by omega)]
   congr 1
   omega
  rw[show thr (b++[c]) (i+1+1)=thr (b++[c]) (i+1)+(((b++[c])[(b++[c]).length - 1 - (i+1)]?).map dg8).getD 0*(if (i+1) % 2=1 then 3 else 1) from rfl,ih,e]
  simp only[Qc]
  omega
theorem Oz (b:List UInt8) (hb:b.length=17) (hd:b.all gz=true):∃ i,i<10∧lbl (b++[UInt8.ofNat (48+i)])=true:=by
 have h0:0≤Qc b 17:=by
  have h1:=(YD (b++[48]) 18).1
  rw[Qd b 48 17 (by omega)] at h1
  have h2:dg8 48=0:=by decide
  omega
 obtain⟨m,hm⟩:∃ m:Nat,Qc b 17=m:=⟨(Qc b 17).toNat,by omega⟩
 have key:∀ i:Nat,i<10→dg8 (UInt8.ofNat (48+i))=i∧gz (UInt8.ofNat (48+i))=true:=by decide
 refine⟨(10 - m % 10) % 10,by omega, ?_⟩
 obtain⟨k1,k2⟩:=key ((10 - m % 10) % 10) (by omega)
 generalize UInt8.ofNat (48+(10 - m % 10) % 10)=c at*
 have hl:(b++[c]).length=18:=by simp[hb]
 unfold lbl
 rw[adn _ (by omega),hl,ajI rfl,agT,ahe,hd,agT]
 rw[Qd b c 17 (by omega),k1,hm]
 simp only[ahf,List.all_nil,k2,agG,agT,ajv,ajr]
 rw[ahc (by omega)]
 simp only[ajA]
 omega
theorem WN (body:List UInt8) (hb:body.length=17) (hd:body.all gz=true):∃ c,gZ 3 body=some (body++[c],0,())∧lbl (body++[c])=true:=by
 have nx:maxLen=9223372036854775807:=rfl
 obtain⟨j,hj,hjl⟩:=Oz body hb hd
 have loop:∀ n,10<n→∃ c,lbl (body++[c])=true∧iter (X:=cK) (β:=gh) n (3,body,0,()) cH=some (Sum.inl (body++[c],0,())):=by
  intro n hn
  refine bf (Inv:=fun i X=>i≤j∧X=(((3:Int),body,(i:Int),()):cK)) 10 (fun r=>∃ c,lbl (body++[c])=true∧r=some (Sum.inl (body++[c],0,()))) ?_ ?_ n 0 _ ⟨ajo _,rfl⟩ (by omega) (by omega)
  ·rintro i X again hi ⟨hij,rfl⟩ hag
   unfold cH
   dsimp only
   have hdd:Lib.decDigits i=[UInt8.ofNat (48+i)]:=by rw[Lib.decDigits,dif_pos hi]
   rw[ax (by omega),zY (by omega),ajq,hdd]
   dsimp only
   rw[aC (ajI (by simp;omega)),Gt _ (by simp;omega),ajq]
   dsimp only
   cases hl:lbl (body++[UInt8.ofNat (48+i)]) with
   | true=>exact⟨_,hl,rfl⟩
   | false=>
    rw[ajD,aq (by omega) (by omega)]
    refine hag _ ⟨?_,rfl⟩
    rcases Nat.lt_or_eq_of_le hij with h | h
    ·omega
    ·subst h;rw[hjl] at hl;cases hl
  ·rintro X again ⟨hij,rfl⟩
   omega
 unfold gZ kI
 rw[eP,ajq,ajq]
 dsimp only
 rw[show (!(!(decide ((3:Int)<1∨(5:Int)<3))))=false by decide,ajD,av (by omega),show ((3:Int)==4)=false from rfl,ajD]
 obtain⟨c,h1,h2⟩:=loop (Int.natAbs (3:Int)+(List.length body+(Int.natAbs (0:Int)+2))) (by rw[hb];decide)
 rw[h2,bO]
 exact⟨c,rfl,h1⟩
end Go.Md
set_option linter.all false
set_option maxRecDepth 20000
namespace Go.Md
open Go.Dn
theorem yz:∀ (k u:Nat),u<10 ^ (k+1)→(Lib.decDigits u).all gz=true
 | k,u,h=>by
  have key:∀ i:Nat,i<10→gz (UInt8.ofNat (48+i))=true:=by decide
  rw[Lib.decDigits]
  by_cases h1:u<10
  ·rw[dif_pos h1]
   simp only[ahf,List.all_nil,agG]
   exact key u h1
  ·rw[dif_neg h1]
   cases k with
   | zero=>omega
   | succ k=>
    have ih:=yz k (u / 10) (by
     have:10 ^ (k+1+1)=10 ^ (k+1)*10:=ajk ..
     omega)
    rw[ahe,ih,agT]
    simp only[ahf,List.all_nil,agG]
    exact key (u % 10) (by omega)
theorem M7:∀ k:Nat,(Lib.repeatL [48] k).all gz=true
 | 0=>rfl
 | k+1=>by
  show ([48]++Lib.repeatL [48] k).all gz=true
  rw[ahe,M7 k];rfl
theorem RG {p:List UInt8} (hp:qI p=true) (m:Nat) (hm:m<10 ^ (17 - p.length)):∃ s,bB p (m:Int)=some (s,0,())∧Gi p (m:Int) s:=by
 have nx:maxLen=9223372036854775807:=rfl
 unfold bB
 rw[IL,ajq,ajQ hp]
 dsimp only
 rw[agP,ajD]
 have hp':=hp
 unfold qI at hp'
 simp only[agE,ajJ] at hp'
 have hpl:p.length≤15:=hp'.1
 have hne:0<p.length:=ah5.2 hp'.2.1
 have h1:(10:Int) ^ (17 - p.length)≤10 ^ 17:=by
  have:=ajj (n:=10) (by omega) (show 17 - p.length≤17 by omega)
  have h2:=ag5.2 this
  simpa using h2
 have h0:(0:Int)<10 ^ (17 - p.length):=ag7 (by decide)
 have hmi:(m:Int)<10 ^ (17 - p.length):=by
  have:=Int.ofNat_lt.2 hm
  simpa using this
 rw[aq (n:=(10:Int) ^ (17 - p.length) - 1) (by omega) (by omega),eP,ajq]
 dsimp only
 rw[ajG (show ¬((m:Int)<0∨(10:Int) ^ (17 - p.length) - 1<(m:Int)) by omega),ajD]
 have hm':m<10 ^ (16 - p.length+1):=by
  rw[show 16 - p.length+1=17 - p.length by omega];exact hm
 obtain⟨g1,g2,g3⟩:=vn _ _ hm'
 have gd:=yz _ _ hm'
 have hml:m≤9223372036854775807:=by omega
 rw[zY hml,ajq]
 dsimp only
 have er:w64 (w64 (17 - (p.length:Int)) - ((Lib.decDigits m).length:Int))=((17 - p.length - (Lib.decDigits m).length:Nat):Int):=by
  rw[aq (n:=17 - (p.length:Int)) (by omega) (by omega),aq (by omega) (by omega)];omega
 have hrl:(Lib.repeatL [48] (17 - p.length - (Lib.decDigits m).length)).length=17 - p.length - (Lib.decDigits m).length:=by rw[Lib.repeatL_length,ah9,ajf]
 rw[er,GL _ (by omega),ajq]
 dsimp only
 have hll:((p++Lib.repeatL [48] (17 - p.length - (Lib.decDigits m).length))++Lib.decDigits m).length=17:=by
  rw[ah0,ah0,hrl];omega
 rw[aC (ajI (by rw[hrl];omega)),aC (ajI (by rw[ah0,hrl];omega))]
 obtain⟨c,q1,q2⟩:=WN _ hll (by rw[ahe,ahe,M7,gd,hp'.2.2];rfl)
 rw[q1,ajq]
 refine⟨_,rfl,by omega,hpl,q2,⟨c,by rw[ahd];rfl⟩, ?_⟩
 rw[ahd,XL,g1]
def gB (p:List UInt8) (n:Int):Int:=if qI p=true then (if n<0∨(10:Int) ^ (17 - p.length) - 1<n then 1 else 0) else 3
theorem ou (p:List UInt8) (n:Int) (h:gB p n≠0):bB p n=some ([],gB p n,()):=by
 unfold gB at*
 unfold bB
 rw[IL,ajq]
 by_cases hp:qI p=true
 ·rw[ajQ hp] at*
  by_cases hn:n<0∨(10:Int) ^ (17 - p.length) - 1<n
  ·rw[ajQ hn]
   dsimp only
   have hp':=hp
   unfold qI at hp'
   simp only[agE,ajJ] at hp'
   have h1:(10:Int) ^ (17 - p.length)≤10 ^ 17:=by
    have:=ajj (n:=10) (by omega) (show 17 - p.length≤17 by omega)
    have h2:=ag5.2 this
    simpa using h2
   have h0:(0:Int)<10 ^ (17 - p.length):=ag7 (by decide)
   rw[agP,ajD,aq (n:=(10:Int) ^ (17 - p.length) - 1) (by omega) (by omega),eP,ajq]
   dsimp only
   rw[ajI hn,ajE,ajQ hp]
  ·rw[ajP hn] at h
   exact absurd rfl h
 ·rw[ajP hp] at*
  rw[ajP hp]
  rfl
def dvf (k:Nat) (l:List UInt8):Nat:=l.foldl (fun n b=>n*10+(b.toNat - 48)) k
theorem ab0:∀ (l:List UInt8) (k:Nat),l.all gz=true→k*10 ^ l.length≤dvf k l∧dvf k l<(k+1)*10 ^ l.length
 | [],k,_=>by simp[dvf]
 | b::l,k,h=>by
  simp only[ahf,agE] at h
  have ih:=ab0 l (k*10+(b.toNat - 48)) h.2
  have hd:=h.1
  unfold gz at hd
  simp only[agE,ajJ] at hd
  have e:dvf k (b::l)=dvf (k*10+(b.toNat - 48)) l:=rfl
  have p:10 ^ (b::l).length=10*10 ^ l.length:=by rw[ah1,ajk,ajd]
  rw[e,p]
  constructor
  ·refine ai1 ?_ ih.1
   rw[← ajc]
   exact aje _ (by omega)
  ·refine ai3 ih.2 ?_
   rw[← ajc]
   exact aje _ (by omega)
end Go.Md
set_option linter.all false
set_option maxRecDepth 20000
namespace Go.Md
open Go.Dn
def eL (g:ai):Tw:=(g.1,g.2.1)
theorem adu (a b:Tw):Ty.beq bN a b=true↔a=b:=by
 show ((a.1==b.1)&&(a.2==b.2))=true↔_
 rw[agE,ajA,ajA]
 constructor
 ·rintro⟨h1,h2⟩;exact Prod.ext h1 h2
 ·rintro rfl;exact⟨rfl,rfl⟩
def WB (M:List (Tw×Bool)) (k:Tw):Option Bool:=cw (k:=bN) (v:= .bool) M k
def aaB (M:List (Tw×Bool)) (k:Tw) (b:Bool):List (Tw×Bool):=oa (k:=bN) (v:= .bool) M k b
theorem abD (M:List (Tw×Bool)) (x:Tw) (y:Bool) (n:Tw):WB (aaB M x y) n=if x=n then some y else WB M n:=by
 have h:=acF (k:=bN) (v:= .bool) adu M x y n
 refine Eq.trans h ?_
 cases hb:Ty.beq bN x n with
 | true=>rw[ajQ ((adu _ _).1 hb)];rfl
 | false=>rw[ajP (fun e=>by rw[(adu x n).2 e] at hb;cases hb)];rfl
def CW (M:List (Tw×Bool)):List ai→List (Tw×Bool)
 | []=>M
 | g::l=>CW (aaB M (eL g) true) l
theorem Se (y:ai):∀ (l:List ai) (M:List (Tw×Bool)),CW M (l++[y])=aaB (CW M l) (eL y) true
 | [],_=>rfl
 | g::l,M=>Se y l _
theorem Yv (k:Tw):∀ (l:List ai) (M:List (Tw×Bool)),WB (CW M l) k=if k∈l.map eL then some true else WB M k
 | [],M=>by simp[CW]
 | g::l,M=>by
  simp only[CW]
  rw[Yv k l,abD]
  by_cases h:k∈l.map eL
  ·rw[ajQ h,ajQ (show k∈(g::l).map eL from aik _ h)]
  ·rw[ajP h]
   by_cases hb:eL g=k
   ·rw[ajQ hb,ajQ (show k∈(g::l).map eL by rw[← hb];exact ail)]
   ·rw[ajP hb,ajP (show ¬k∈(g::l).map eL from fun hm=>by
     rcases aij.1 hm with e | e
     ·exact hb e.symm
     ·exact h e)]
def gF (l:List ai) (i:Nat) (y:ai):Int:=if eH y.1=true then (if eH y.2.1=true then (if eL y∈(l.take i).map eL then 7 else if qOk y.2.2 false=true then 0 else 1) else 5) else 5
def bW (l:List ai):Int:=cD (gF l) 0 l
theorem Kv (l:List ai) (hl:l.length≤1000):qF l=some (bW l,()):=by
 unfold qF bW
 rw[fO (f:=mR) (fun i=>((l,(l.length:Int),(i:Int),CW [] (l.take i),()):mS)) l (gF l) () ?_ ?_ ?_ _ ?_]
 ·exact GN _ _
 ·rfl
 ·intro i y again hy
  have hi:=(ahQ.1 hy).1
  have ets:l.take (i+1)=l.take i++[y]:=by rw[List.take_succ,hy];rfl
  have hg:=Yv (eL y) (l.take i) []
  have hs:aaB (CW [] (l.take i)) (eL y) true=CW [] (l.take (i+1)):=by rw[ets,Se]
  generalize CW [] (l.take i)=M at hg hs ⊢
  have hgd:Option.getD (α:=Bool) (cw (k:=bN) (v:= .bool) M (y.1,y.2.1)) false=decide (eL y∈(l.take i).map eL):=by
   show (WB M (eL y)).getD false=_
   rw[hg]
   by_cases h:eL y∈(l.take i).map eL
   ·rw[ajQ h,ajI h];rfl
   ·rw[ajP h,ajG h];rfl
  unfold mR
  dsimp only
  rw[ax (by omega),aV,hy,ajq,tu,ajq]
  dsimp only
  unfold gF
  cases eH y.1 with
  | false=>rw[agO,ajE,ajP (by simp),ajP (by decide)]
  | true=>
   rw[agP,ajD,ajQ rfl,tu,ajq]
   dsimp only
   cases eH y.2.1 with
   | false=>rw[agO,ajE,ajP (by simp),ajP (by decide)]
   | true=>
    rw[agP,ajD,ajQ rfl]
    rw[hgd]
    by_cases h:eL y∈(l.take i).map eL
    ·rw[ajI h,ajE,ajQ h,ajP (by decide)]
    ·rw[ajG h,ajD,ajP h,lK,ajq]
     dsimp only
     cases hq:qOk y.2.2 false with
     | false=>
      simp
     | true=>
      simp only[ajR,ajC,ajD]
      rw[aq (by omega) (by omega), ← hs]
      rfl
 ·intro again
  unfold mR
  dsimp only
  rw[av (by omega)]
 ·exact (by omega)
def th (d:ak):Int:=d.1*10 ^ (3 - d.2).toNat
theorem Fb {d:ak} (h:qOk d false=true):cq d∧0≤d.2∧d.2≤3∧1≤d.1∧1≤th d∧th d≤1000000000000:=by
 unfold qOk inR at h
 simp only[agE,ajJ,agS,agN,ajz,Int.zero_mul] at h
 obtain⟨⟨h1,h2,h3,h4⟩,h5⟩:=h
 have h3:0≤d.1:=h3
 have hd:=h1
 unfold cq at hd
 obtain⟨k,hk⟩:∃ k:Nat,d.2=k:=⟨d.2.toNat,by omega⟩
 have e:(10:Int) ^ d.2.toNat*10 ^ (3 - d.2).toNat=1000:=by
  rw[← ag6,show d.2.toNat+(3 - d.2).toNat=3 by omega];decide
 have p1:(0:Int)<10 ^ (3 - d.2).toNat:=ag7 (by decide)
 refine⟨h1,by omega,h2,by omega, ?_, ?_⟩
 ·unfold th
  exact Int.mul_pos (show 0<d.1 by omega) p1
 ·unfold th
  have:=ag0 h4 (Int.le_of_lt p1)
  rw[agY,e] at this
  omega
theorem Cq {d:ak} (h:qOk d false=true):jH d=some (th d,()):=by
 obtain⟨h1,h2,h3,h4,h5,h6⟩:=Fb h
 have hd:=h1
 unfold cq at hd
 unfold jH
 rw[nu d 3 (by omega) (by omega) (by omega) (by omega) (by omega),ajq]
 dsimp only
 rw[show d.1*10 ^ (3 - d.2).toNat=th d from rfl,FW _ _ (by omega) (by omega),ajQ (by omega),ajq]
end Go.Md
set_option linter.all false
set_option maxRecDepth 20000
namespace Go.Md
open Go.Dn
theorem abb (y g:ai):wZ y g=some (decide (eL y=eL g),()):=by
 unfold wZ
 have e:decide (eL y=eL g)=((y.1==g.1)&&(y.2.1==g.2.1)):=by
  rw[agH,decide_eq_true_iff,agE,ajA,ajA]
  constructor
  ·intro h
   have h':(y.1,y.2.1)=(g.1,g.2.1):=h
   exact⟨(Prod.mk.inj h').1,(Prod.mk.inj h').2⟩
  ·rintro⟨h1,h2⟩;exact Prod.ext h1 h2
 rw[e]
 cases (y.1==g.1)<;>rfl
def eE (most:List ai) (g:ai):Option ai:=most.find? fun m=>decide (eL m=eL g)
theorem afo (most:List ai) (hl:most.length≤1000) (g:ai):
 (∃ (k:Nat) (x:ai),most[k]? =some x∧eE most g=some x∧gE most g=some ((k:Int),()))∨(eE most g=none∧gE most g=some (-1,())):=by
 unfold gE
 have loop:∀ f,most.length<f→(∃ (k:Nat) (x:ai),most[k]? =some x∧eE most g=some x∧iter f ((most,g,(most.length:Int),(0:Int),()):dx) fL=some (Sum.inl ((k:Int),())))∨(eE most g=none∧iter f ((most,g,(most.length:Int),(0:Int),()):dx) fL=some (Sum.inr ())):=by
  intro f hf
  refine bf (Inv:=fun i X=>(∀ j (hj:j<most.length),j<i→eL most[j]≠eL g)∧X=((most,g,(most.length:Int),(i:Int),()):dx)) most.length
   (fun r=>(∃ (k:Nat) (x:ai),most[k]? =some x∧eE most g=some x∧r=some (Sum.inl ((k:Int),())))∨(eE most g=none∧r=some (Sum.inr ()))) ?_ ?_ f 0 _ ⟨fun j _ h=>absurd h (ajg _),rfl⟩ (by omega) (by omega)
  ·rintro i _ again hi ⟨hb,rfl⟩ ih
   have hy:most[i]? =some most[i]:=aM hi
   unfold fL
   dsimp only
   rw[ax (by omega),aV,hy,ajq,abb,ajq]
   dsimp only
   by_cases h:eL most[i]=eL g
   ·rw[ajI h,ajE]
    refine .inl ⟨i,most[i],hy, ?_,rfl⟩
    unfold eE
    rw[List.find?_eq_some_iff_getElem]
    exact⟨ajI h,i,hi,rfl,fun j hj=>by rw[ajG (hb j (by omega) hj)];rfl⟩
   ·rw[ajG h,ajD,aq (by omega) (by omega)]
    refine ih _ ⟨fun j hj hji=> ?_,rfl⟩
    rcases ai6.1 hji with e | e
    ·exact hb j hj e
    ·subst e;exact h
  ·rintro _ again ⟨hb,rfl⟩
   unfold fL
   dsimp only
   rw[av (by omega)]
   refine .inr ⟨?_,rfl⟩
   unfold eE
   rw[ahC]
   intro x hx
   obtain⟨j,hj⟩:=aio.1 hx
   obtain⟨hjl,rfl⟩:=ahQ.1 hj
   simpa using hb j hjl hjl
 rcases loop (List.length most+(Int.natAbs ((List.length most:Int))+(Int.natAbs (0:Int)+2))) (by omega) with ⟨k,x,h1,h2,h3⟩ | ⟨h1,h2⟩
 ·rw[h3,bO];exact .inl ⟨k,x,h1,h2,rfl⟩
 ·rw[h2,aB];exact .inr ⟨h1,rfl⟩
def GOk (l:List ai):Prop:=∀ g∈l,qOk g.2.2 false=true
theorem Ig {l:List ai} (h:bW l=0):GOk l∧∀ (i:Nat) (y:ai),l[i]? =some y→eH y.1=true∧eH y.2.1=true∧eL y∉(l.take i).map eL:=by
 have key:∀ (i:Nat) (y:ai),l[i]? =some y→eH y.1=true∧eH y.2.1=true∧eL y∉(l.take i).map eL∧qOk y.2.2 false=true:=by
  intro i y hy
  have:=lQ h i y hy
  rw[ajn] at this
  unfold gF at this
  split at this
  ·split at this
   ·split at this
    ·omega
    ·split at this
     ·rename_i h1 h2 h3 h4;exact⟨h1,h2,h3,h4⟩
     ·omega
   ·omega
  ·omega
 refine⟨fun g hg=> ?_,fun i y hy=>⟨(key i y hy).1,(key i y hy).2.1,(key i y hy).2.2.1⟩⟩
 obtain⟨i,hi⟩:=aio.1 hg
 exact (key i g hi).2.2.2
def dz (most:List ai) (g:ai):Int:=((eE most g).map fun m=>th m.2.2).getD 0
def lE (a b:Int):Int:=(a+b - 1) / b
def b6 (most:List ai):List ai→Int
 | []=>0
 | g::r=>lE (th g.2.2) (dz most g)+b6 most r
theorem JH (most:List ai) (y:ai):∀ l,b6 most (l++[y])=b6 most l+lE (th y.2.2) (dz most y)
 | []=>by simp[b6]
 | g::l=>by simp only[ahm,b6,JH most y l];omega
theorem RV {most:List ai} (hm:GOk most) {g x:ai} (h:eE most g=some x):dz most g=th x.2.2∧qOk x.2.2 false=true∧1≤dz most g∧dz most g≤1000000000000:=by
 have hx:x∈most:=aiq h
 have hq:=hm x hx
 have e:dz most g=th x.2.2:=by unfold dz;rw[h];rfl
 obtain⟨_,_,_,_,h5,h6⟩:=Fb hq
 exact⟨e,hq,by rw[e];exact h5,by rw[e];exact h6⟩
theorem Nc {a b:Int} (ha:1≤a) (ha2:a≤1000000000000) (hb:1≤b) (hb2:b≤1000000000000):1≤lE a b∧lE a b≤2000000000000∧w64 (Int.tdiv (w64 ((w64 (a+b)) - 1)) b)=lE a b:=by
 have h1:1≤(a+b - 1) / b:=by
  rw[Int.le_ediv_iff_mul_le (by omega)];omega
 have h2:(a+b - 1) / b≤a+b - 1:=Int.ediv_le_self _ (by omega)
 unfold lE
 refine⟨h1,by omega, ?_⟩
 rw[aq (n:=a+b) (by omega) (by omega),aq (n:=a+b - 1) (by omega) (by omega),ahb (by omega),aq (by omega) (by omega)]
def iM (p:List UInt8) (n many:Int):Int:=if many=0 then 0 else if gB p n≠0 then gB p n else if (10:Int) ^ (17 - p.length) - n<many then 1 else 0
theorem TJ (p:List UInt8) (n many:Int):pe p n many=some (iM p n many,()):=by
 unfold pe iM
 by_cases h0:many=0
 ·subst h0;rfl
 rw[ajP h0,show (many==0)=false by simpa using h0,ajD]
 by_cases hf:gB p n=0
 rotate_left
 ·rw[ajQ hf,ou p n hf,ajq]
  dsimp only
  rw[show (gB p n != 0)=true by simpa using hf,ajE]
 rw[ajP (by simpa using hf)]
 have hp:qI p=true:=by
  unfold gB at hf
  split at hf
  ·assumption
  ·omega
 have hn:¬(n<0∨(10:Int) ^ (17 - p.length) - 1<n):=by
  unfold gB at hf
  rw[ajQ hp] at hf
  intro h
  rw[ajQ h] at hf;omega
 obtain⟨m,rfl⟩:∃ m:Nat,n=m:=⟨n.toNat,by omega⟩
 have h1:(10:Int) ^ (17 - p.length)≤10 ^ 17:=by
  have:=ajj (n:=10) (by omega) (show 17 - p.length≤17 by omega)
  have h2:=ag5.2 this
  simpa using h2
 have hm:m<10 ^ (17 - p.length):=by
  have h3:(m:Int)<((10 ^ (17 - p.length):Nat):Int):=by
   rw[Int.natCast_pow]
   show (m:Int)<10 ^ (17 - p.length)
   omega
  omega
 obtain⟨s,g1,_⟩:=RG hp m hm
 rw[g1,ajq]
 dsimp only
 rw[show ((0:Int) != 0)=false from rfl,ajD,IL,ajQ hp,ajq]
 dsimp only
 rw[aq (by omega) (by omega)]
 by_cases h:(10:Int) ^ (17 - p.length) - (m:Int)<many
 ·rw[ax (by omega),ajQ h]
 ·rw[av (by omega),ajP h]
end Go.Md
set_option linter.all false
set_option maxRecDepth 20000
namespace Go.Md
open Go.Dn
def abw (z:Int):ak:=((few 3 z).1,((few 3 z).2:Int))
theorem ado {z:Int} (h1:1≤z) (h2:z≤1000000000000):yI z=some (abw z,()):=by
 obtain⟨f1,f2,f3⟩:=ZX 3 z
 unfold yI
 rw[qx z (by omega) (by omega),ajq]
 dsimp only
 have hf:=OX z (ai2 (show z.natAbs≤1000000000000 by omega) (by decide +kernel)) 3 (by omega)
 rw[show ((3:Nat):Int)=(3:Int) from rfl] at hf
 rw[hf,ajQ (by omega),ajq]
 rfl
def iL (a b:Int):Int:=if 0<a then lE a b else 0
theorem Qv {a b:Int} (ha:0<a) (hb:1≤b):iL a b=1+iL (a - b) b:=by
 unfold iL lE
 rw[ajQ ha]
 have e:(a+b - 1) / b=1+(a - 1) / b:=by
  rw[show a+b - 1=(a - 1)+1*b by omega,Int.add_mul_ediv_right _ _ (by omega)];omega
 rw[e]
 by_cases h:0<a - b
 ·rw[ajQ h,show a - b+b - 1=a - 1 by omega]
 ·rw[ajP h,Int.ediv_eq_zero_of_lt (by omega) (by omega)]
theorem adw {a b:Int} (hb:1≤b):0≤iL a b:=by
 unfold iL lE
 split
 ·exact Int.ediv_nonneg (by omega) (by omega)
 ·exact agV _
end Go.Md
set_option linter.all false
set_option maxRecDepth 20000
namespace Go.Md
open Go.Dn
theorem aeB {g:ai} (h:qOk g.2.2 false=true) (b:Int):iL (th g.2.2) b=lE (th g.2.2) b:=by
 obtain⟨_,_,_,_,t1,t2⟩:=Fb h
 unfold iL;rw[ajQ (by omega)]
end Go.Md
set_option linter.all false
set_option maxRecDepth 20000
namespace Go.Md
open Go.Dn
theorem OP {κ:Type} {lt:κ→κ→Bool} (irr:∀ a,lt a a=false) (tr:∀ {a b c},lt a b=true→lt b c=true→lt a c=true):∀ {l l':List κ},l.Pairwise (fun a b=>lt a b=true)→l'.Pairwise (fun a b=>lt a b=true)→(∀ x,x∈l↔x∈l')→l=l'
 | [],[],_,_,_=>rfl
 | [],y::r,_,_,hm=>by have:=(hm y).2 ail;cases this
 | x::l,[],_,_,hm=>by have:=(hm x).1 ail;cases this
 | x::l,y::r,h1,h2,hm=>by
  rw[aiA] at h1 h2
  have hxy:x=y:=by
   rcases aij.1 ((hm x).1 ail) with e | hx
   ·exact e
   rcases aij.1 ((hm y).2 ail) with e | hy
   ·exact e.symm
   have a1:=h2.1 x hx
   have a2:=h1.1 y hy
   have a3:=tr a1 a2
   rw[irr] at a3;cases a3
  subst hxy
  have:l=r:=by
   refine OP irr tr h1.2 h2.2 fun z=>⟨fun hz=> ?_,fun hz=> ?_⟩
   ·rcases aij.1 ((hm z).1 (aik _ hz)) with e | hz'
    ·have:=h1.1 z hz;rw[e,irr] at this;cases this
    ·exact hz'
   ·rcases aij.1 ((hm z).2 (aik _ hz)) with e | hz'
    ·have:=h2.1 z hz;rw[e,irr] at this;cases this
    ·exact hz'
  rw[this]
section
variable {κ:Type} [DecidableEq κ] (lt:κ→κ→Bool)
variable {lt}
def og (lt:κ→κ→Bool) (k:κ):List κ→Nat
 | []=>0
 | p::r=>if lt p k=true then og lt k r+1 else 0
theorem Ub (k:κ):∀ l:List κ,og lt k l≤l.length
 | []=>ai0 _
 | p::r=>by
  unfold og
  split
  ·have:=Ub k r;simp;omega
  ·simp
theorem aam (k:κ):∀ {l:List κ} {i:Nat} {x:κ},i<og lt k l→l[i]? =some x→lt x k=true
 | p::r,0,x,h,hx=>by
  unfold og at h
  split at h
  ·rename_i hp;cases hx;exact hp
  ·omega
 | p::r,i+1,x,h,hx=>by
  unfold og at h
  split at h
  ·exact aam k (l:=r) (by omega) hx
  ·omega
 | [],i,x,h,hx=>by simp at hx
theorem aal (k:κ):∀ {l:List κ} {x:κ},l[og lt k l]? =some x→lt x k=false
 | [],x,hx=>by simp at hx
 | p::r,x,hx=>by
  unfold og at hx
  split at hx
  ·exact aal k (l:=r) hx
  ·rename_i hp
   cases hx
   cases h:lt p k with
   | false=>rfl
   | true=>exact absurd h hp
end
end Go.Md
set_option linter.all false
set_option maxRecDepth 20000
namespace Go.Md
open Go.Dn
def endPos {α:Type} (k:α→Int) (x:α):List α→Nat→Nat
 | _,0=>0
 | l,n+1=>match l[n]? with
  | some y=>if k x<k y then endPos k x l n else n+1
  | none=>n+1
theorem endPos_le {α:Type} (k:α→Int) (x:α) (l:List α):∀ n,endPos k x l n≤n
 | 0=>ai0 _
 | n+1=>by
  unfold endPos
  split
  ·split
   ·have:=endPos_le k x l n;omega
   ·exact ai0 _
  ·exact ai0 _
theorem UI {α:Type} (k:α→Int) (x:α) (l:List α):∀ n i y,endPos k x l n≤i→i<n→l[i]? =some y→k x<k y
 | 0,i,y,_,h,_=>by omega
 | n+1,i,y,h,hi,hy=>by
  unfold endPos at h
  split at h
  ·rename_i z hz
   split at h
   ·rename_i hlt
    by_cases e:i=n
    ·subst e;rw[hz] at hy;cases hy;exact hlt
    ·exact UI k x l n i y h (by omega) hy
   ·omega
  ·omega
theorem UH {α:Type} (k:α→Int) (x:α) (l:List α):∀ n y,n≤l.length→0<endPos k x l n→l[endPos k x l n - 1]? =some y→k y≤k x
 | 0,y,_,h,_=>by simp[endPos] at h
 | n+1,y,hn,h,hy=>by
  unfold endPos at h hy
  split at h
  ·rename_i z hz
   rw[hz] at hy
   dsimp only at hy
   split at h
   ·rename_i hlt
    rw[ajQ hlt] at hy
    exact UH k x l n y (by omega) h hy
   ·rename_i hlt
    rw[ajP hlt,Nat.add_sub_cancel,hz] at hy
    cases hy;omega
  ·rename_i hz
   rw[ahO (by omega)] at hz
   cases hz
def E0 {α:Type} (k:α→Int) (l:List α) (x:α):List α:=l.take (endPos k x l l.length)++x::l.drop (endPos k x l l.length)
theorem aeJ {α:Type} {k:α→Int} {l:List α} (hs:Srt k l) (x:α):Srt k (E0 k l x)∧bE k (l++[x]) (E0 k l x):=by
 have hle:=endPos_le k x l l.length
 have h:=PL (k:=k) (P2:=l.take (endPos k x l l.length)) (P3:=l.drop (endPos k x l l.length)) (x:=x) (by rw[aiL];exact hs) (fun y hy=>by
  obtain⟨i,hi⟩:=aio.1 hy
  rw[ahN] at hi
  exact UI k x l l.length _ y (Nat.le_add_right _ _) (ahQ.1 hi).1 hi) (fun y hy=>by
  rw[List.getLast?_eq_getElem?,aia,aja hle] at hy
  by_cases h0:endPos k x l l.length=0
  ·rw[h0] at hy;simp at hy
  ·rw[ahX (by omega)] at hy
   exact UH k x l l.length y (ai0 _) (by omega) hy)
 rw[aiL] at h
 exact h
def Ey {α:Type} (k:α→Int) (acc:List α) (l:List α):List α:=l.foldl (E0 k) acc
theorem Ry {α:Type} {k:α→Int}:∀ (l acc src:List α),Srt k acc→bE k src acc→Srt k (Ey k acc l)∧bE k (src++l) (Ey k acc l)
 | [],acc,src,h1,h2=>by rw[ahl];exact⟨h1,h2⟩
 | x::l,acc,src,h1,h2=>by
  obtain⟨g1,g2⟩:=aeJ h1 x
  have:=Ry l (E0 k acc x) (src++[x]) g1 ((h2.append (bE.refl k [x])).trans g2)
  rw[ahk] at this
  exact this
theorem OG {α:Type} {k:α→Int} (l:List α):Srt k (Ey k [] l)∧bE k l (Ey k [] l):=Ry l [] [] List.Pairwise.nil (bE.refl _ _)
def JZ (l:List aa) (p:aa):List aa:=l.take (og Op.bytesLess p.1 (l.map (·.1)))++p::l.drop (og Op.bytesLess p.1 (l.map (·.1)))
theorem SF {l:List aa}:Asc (·.1) l↔l.Pairwise fun a b=>Op.bytesLess a.1 b.1=true:=by
 constructor
 ·intro h
  refine aiB.2 ?_
  intro i j hi hj hij
  exact h i j l[i] l[j] hij (ahO hi) (ahO hj)
 ·intro h i j a b hij ha hb
  obtain⟨i1,i2⟩:=ahQ.1 ha
  obtain⟨j1,j2⟩:=ahQ.1 hb
  have:=aiB.1 h i j i1 j1 hij
  rw[i2,j2] at this
  exact this
theorem ML (l:List aa) (p:aa):(JZ l p).Perm (l++[p]):=by
 unfold JZ
 generalize og Op.bytesLess p.1 (l.map (·.1))=k
 have h:(l.take k++p::l.drop k).Perm (l.take k++(l.drop k++[p])):=List.Perm.append_left _ (List.perm_append_comm (l₁:=[p]) (l₂:=l.drop k))
 rw[← ahk,aiL] at h
 exact h
theorem ad8 {l:List aa} {p:aa} (h:Asc (·.1) l) (hp:∀ q∈l,q.1≠p.1):Asc (·.1) (JZ l p):=by
 rw[SF] at h ⊢
 unfold JZ
 have hle:=Ub (lt:=Op.bytesLess) p.1 (l.map (·.1))
 rw[ah3] at hle
 have hlo:∀ (i:Nat) (q:aa),i<og Op.bytesLess p.1 (l.map (·.1))→l[i]? =some q→Op.bytesLess q.1 p.1=true:=fun i q hi hq=>aam (lt:=Op.bytesLess) p.1 hi (by rw[ahR,hq];rfl)
 have hhi:∀ (q:aa),l[og Op.bytesLess p.1 (l.map (·.1))]? =some q→Op.bytesLess p.1 q.1=true:=fun q hq=>by
  have h1:=aal (lt:=Op.bytesLess) p.1 (l:=l.map (·.1)) (x:=q.1) (by rw[ahR,hq];rfl)
  rcases oI p.1 q.1 with g | g | g
  ·exact g
  ·exact absurd g.symm (hp q (air hq))
  ·rw[g] at h1;cases h1
 generalize og Op.bytesLess p.1 (l.map (·.1))=k at*
 have hd:∀ q∈l.drop k,Op.bytesLess p.1 q.1=true:=by
  intro q hq
  obtain⟨i,hi⟩:=aio.1 hq
  rw[ahN] at hi
  have hlt:=(ahQ.1 hi).1
  have hk:l[k]? =some (l[k]'(by omega)):=ahO _
  have h1:=hhi _ hk
  by_cases e:i=0
  ·subst e;rw[aiT,hk] at hi;cases hi;exact h1
  ·have h2:=aiB.1 h k (k+i) (by omega) hlt (by omega)
   rw[(ahQ.1 hi).2] at h2
   exact gL h1 h2
 have ht:∀ q∈l.take k,Op.bytesLess q.1 p.1=true:=by
  intro q hq
  obtain⟨i,hi⟩:=aio.1 hq
  have hik:i<k:=by
   have:=(ahQ.1 hi).1
   rw[aia] at this;omega
  rw[ahX hik] at hi
  exact hlo i q hik hi
 rw[aiz]
 refine⟨h.sublist (List.take_sublist _ _),aiA.2 ⟨hd,h.sublist (List.drop_sublist _ _)⟩, ?_⟩
 intro a ha b hb
 rcases aij.1 hb with rfl | hb
 ·exact ht a ha
 ·exact gL (ht a ha) (hd b hb)
theorem adt {l l':List aa} (h:Asc (·.1) l) (h':Asc (·.1) l') (hp:l.Perm l'):l=l':=
 OP (lt:=fun a b:aa=>Op.bytesLess a.1 b.1) (fun a=>b7 _) (fun h1 h2=>gL h1 h2) (SF.1 h) (SF.1 h') fun x=>hp.mem_iff
end Go.Md
