/-
  Plain facts: parcels. No condition.
-/
import Derived.Test.YtfghdjdpccoleabGreatDoorYp
import Derived.Test.YtfghdjdpccoleabGreatDoorYr
import Derived.Test.YtfghdjdpccoleabGreatDoorYn
set_option linter.all false
namespace Go.Md
open Go.Dn
theorem zne:((0:Int) != 0)=false:=rfl
theorem DV:∀ (n:Nat) (l:List Nat),l.Nodup->(∀ x∈l,x<n)->l.length<=n
 | 0,l,_,h=>by
  cases l with
  | nil=>simp
  | cons a r=>exact absurd (h a (by simp)) (ah0 _)
 | n+1,l,hd,h=>by
  by_cases hm:n∈l
  ·have h1:=DV n (l.erase n) (hd.erase n) (fun x hx=>by
    have:=(hd.mem_erase_iff).1 hx
    have:=h x this.2
    omega)
   rw[List.length_erase_of_mem hm] at h1
   omega
  ·have:=DV n l hd (fun x hx=>by
    have h2:=h x hx
    have:x≠n:=fun e=>hm (e ▸ hx)
    omega)
   omega
def itp (par:Nat->Option Nat):Nat->Nat->Option Nat
 | 0,i=>some i
 | j+1,i=>(par i).bind (itp par j)
theorem Jd {par:Nat->Option Nat}:∀ {a b i k:Nat},itp par a i=some k->itp par (a+b) i=itp par b k
 | 0,b,i,k,h=>by simp only[itp,Option.some.injEq] at h;subst h;rw[ah7]
 | a+1,b,i,k,h=>by
  simp only[itp] at h
  rw[show a+1+b=(a+b)+1 by omega]
  simp only[itp]
  cases hp:par i with
  | none=>rw[hp] at h;cases h
  | some j=>rw[hp] at h;exact Jd (a:=a) (by simpa using h)
def k9 (par:Nat->Option Nat) (i:Nat):Prop:=∃ j,itp par (j+1) i=some i
def Ac (par:Nat->Option Nat) (i k d:Nat):Prop:=itp par (d+1) k=some i/\∀ e,e<d->itp par (e+1) k≠some i
theorem Ac.uniq {par:Nat->Option Nat} {i k d e:Nat} (h:Ac par i k d) (h':Ac par i k e):d=e:=by
 rcases ahV d e with h1 | h1 | h1
 ·exact absurd h.1 (h'.2 d h1)
 ·exact h1
 ·exact absurd h'.1 (h.2 e h1)
theorem Ac.step {par:Nat->Option Nat} {i k d:Nat} (h:Ac par i k d):∃ k',par k=some k'/\((k'=i/\d=0)\/(k'≠i/\∃ e,d=e+1/\Ac par i k' e)):=by
 obtain⟨h1,h2⟩:=h
 simp only[itp] at h1
 cases hp:par k with
 | none=>rw[hp] at h1;cases h1
 | some k'=>
  rw[hp] at h1
  refine⟨k',rfl, ?_⟩
  cases d with
  | zero=>simp only[aib,itp,Option.some.injEq] at h1;exact .inl ⟨h1,rfl⟩
  | succ e=>
   right
   refine⟨fun e1=> ?_,e,rfl,by simpa using h1,fun f hf hx=> ?_⟩
   ·refine h2 0 (by omega) ?_
    simp only[itp,hp,aib,e1]
   ·refine h2 (f+1) (by omega) ?_
    rw[show f+1+1=(f+1)+1 from rfl]
    show (par k).bind (itp par (f+1))=some i
    rw[hp];exact hx
theorem k9.ack {par:Nat->Option Nat} {i:Nat} (h:k9 par i):∃ d,Ac par i i d:=by
 obtain⟨j,hj⟩:=h
 induction j using Nat.strongRecOn with
 | _ j ih=>
  by_cases hx:∃ e,e<j/\itp par (e+1) i=some i
  ·obtain⟨e,h1,h2⟩:=hx;exact ih e h1 h2
  ·exact⟨j,hj,fun e he h2=>hx ⟨e,he,h2⟩⟩
theorem Ac.list {par:Nat->Option Nat} {i n:Nat} (hn:∀ k k',par k=some k'->k'<n):∀ {d k:Nat},k<n->Ac par i k d->∃ l:List Nat,l.length=d+1/\l.Nodup/\(∀ x∈l,x<n)/\∀ x∈l,∃ e,e<=d/\Ac par i x e
 | 0,k,hk,h=>⟨[k],rfl,by simp,by simpa using hk,fun x hx=>by simp at hx;subst hx;exact⟨0,ahJ _,h⟩⟩
 | d+1,k,hk,h=>by
  obtain⟨k',h1,h2⟩:=h.step
  rcases h2 with ⟨_,h2⟩ | ⟨_,e,h2,h3⟩
  ·omega
  ·have:e=d:=by omega
   subst this
   obtain⟨l,l1,l2,l3,l4⟩:=Ac.list hn (hn _ _ h1) h3
   refine⟨k::l,by simp[l1],ahi.2 ⟨fun hm=> ?_,l2⟩,fun x hx=> ?_,fun x hx=> ?_⟩
   ·obtain⟨f,f1,f2⟩:=l4 k hm
    have:=f2.uniq h
    omega
   ·rcases ag3.1 hx with rfl | hx
    ·exact hk
    ·exact l3 x hx
   ·rcases ag3.1 hx with rfl | hx
    ·exact⟨e+1,ahJ _,h⟩
    ·obtain⟨f,f1,f2⟩:=l4 x hx;exact⟨f,by omega,f2⟩
theorem Ac.le {par:Nat->Option Nat} {i n d k:Nat} (hn:∀ k k',par k=some k'->k'<n) (hk:k<n) (h:Ac par i k d):d+1<=n:=by
 obtain⟨l,l1,l2,l3,_⟩:=h.list hn hk
 have:=DV n l l2 l3
 omega
def anc (par:Nat->Option Nat):Nat->Nat->List Nat
 | 0,_=>[]
 | f+1,i=>match par i with
  | none=>[]
  | some k=>k::anc par f k
theorem Cm {par:Nat->Option Nat} {f i k:Nat} (h:par i=some k):anc par (f+1) i=k::anc par f k:=by simp[anc,h]
theorem PE {par:Nat->Option Nat} {i:Nat} (h:par i=none):∀ f,anc par f i=[]
 | 0=>rfl
 | f+1=>by simp[anc,h]
theorem YW {par:Nat->Option Nat}:∀ {f i x:Nat},x∈anc par f i->∃ j,j<f/\itp par (j+1) i=some x
 | 0,_,_,h=>by simp[anc] at h
 | f+1,i,x,h=>by
  cases hp:par i with
  | none=>simp[anc,hp] at h
  | some k=>
   rw[Cm hp] at h
   rcases ag3.1 h with rfl | h
   ·exact⟨0,by omega,by simp[itp,hp]⟩
   ·obtain⟨j,h1,h2⟩:=YW h
    exact⟨j+1,by omega,by show (par i).bind (itp par (j+1))=some x;rw[hp];exact h2⟩
theorem V4 {par:Nat->Option Nat} {n:Nat} (hn:∀ k k',par k=some k'->k'<n):∀ {f i x:Nat},x∈anc par f i->x<n
 | 0,_,_,h=>by simp[anc] at h
 | f+1,i,x,h=>by
  cases hp:par i with
  | none=>simp[anc,hp] at h
  | some k=>
   rw[Cm hp] at h
   rcases ag3.1 h with rfl | h
   ·exact hn _ _ hp
   ·exact V4 hn h
theorem L5 {par:Nat->Option Nat} {n:Nat} (hn:∀ k k',par k=some k'->k'<n) (hl:∀ k,k<n->¬ k9 par k):∀ {f i:Nat},i<n->(i::anc par f i).Nodup
 | 0,i,_=>by simp[anc]
 | f+1,i,hi=>by
  rw[ahi]
  refine⟨fun hm=> ?_, ?_⟩
  ·obtain⟨j,_,hj⟩:=YW hm
   exact hl i hi ⟨j,hj⟩
  ·cases hp:par i with
   | none=>simp[anc,hp]
   | some k=>
    rw[Cm hp]
    exact L5 hn hl (hn _ _ hp)
theorem ac9 {par:Nat->Option Nat} {n:Nat} (hn:∀ k k',par k=some k'->k'<n) (hl:∀ k,k<n->¬ k9 par k) {f i:Nat} (hi:i<n):(anc par f i).length<n:=by
 have:=DV n (i::anc par f i) (L5 hn hl hi) (fun x hx=>by
  rcases ag3.1 hx with rfl | hx
  ·exact hi
  ·exact V4 hn hx)
 simp at this;omega
theorem Um {par:Nat->Option Nat}:∀ {f g i:Nat},(anc par f i).length<f->f<=g->anc par g i=anc par f i
 | 0,_,_,h,_=>by simp[anc] at h
 | f+1,g,i,h,hg=>by
  obtain⟨g,rfl⟩:∃ g',g=g'+1:=⟨g - 1,by omega⟩
  cases hp:par i with
  | none=>rw[PE hp,PE hp]
  | some k=>
   rw[Cm hp] at h ⊢
   rw[Cm hp]
   rw[Um (f:=f) (by simpa using h) (by omega)]
end Go.Md
namespace Go.Md
open Go.Dn
theorem zk (l:List Int) (x:Int) (hl:l.length<1000000000):lG l x=some (decide (x∈l),()):=by
 unfold lG Ap
 have loop:∀ f,l.length<f->∃ n:Int,iter f ((l,x,(l.length:Int),(0:Int),()):lH) pe=(if x∈l then some (Sum.inl (n,())) else some (Sum.inr ()))/\0<=n:=by
  intro f hf
  refine bn (Inv:=fun i X=>X=((l,x,(l.length:Int),(i:Int),()):lH)/\∀ j y,j<i->l[j]? =some y->y≠x) l.length
   (fun r=>∃ n:Int,r=(if x∈l then some (Sum.inl (n,())) else some (Sum.inr ()))/\0<=n) ?_ ?_ f 0 _ ⟨rfl,fun _ _ h=>absurd h (ah0 _)⟩ (by omega) (by omega)
  ·rintro i _ again hi ⟨rfl,hb⟩ ih
   unfold pe
   dsimp only
   have hy:l[i]? =some l[i]:=aD hi
   generalize l[i]=y at hy
   rw[av (by omega),aV,hy,aib]
   by_cases he:x=y
   ·rw[show (x==y)=true by simpa using he,aio]
    exact⟨i,by rw[aiB (he ▸ aha hy)],by omega⟩
   ·rw[show (x==y)=false by simpa using he,ain,au (by omega) (by omega)]
    refine ih _ ⟨rfl,fun j z hj hz=> ?_⟩
    rcases ahS.1 hj with h | h
    ·exact hb j z h hz
    ·subst h;rw[hy] at hz;cases hz;exact fun e=>he e.symm
  ·rintro _ again ⟨rfl,hb⟩
   unfold pe
   dsimp only
   rw[ay (by omega)]
   refine⟨0, ?_,afL _⟩
   rw[aiA]
   intro hm
   obtain⟨j,hj⟩:=ag8.1 hm
   exact hb j x (agB.1 hj).1 hj rfl
 obtain⟨n,h1,h2⟩:=loop (List.length l+(Int.natAbs x+(Int.natAbs ((List.length l:Int))+(Int.natAbs (0:Int)+2)))) (by omega)
 rw[h1]
 by_cases hm:x∈l
 ·rw[aiB hm,iN,aib,ais hm]
  congr 2
  exact ais h2
 ·rw[aiA hm,az,aib,aiq hm]
  rfl
def rO (c:UInt8):Bool:=decide (48<=c.toNat)&&decide (c.toNat<=57)
theorem Ke {c:UInt8}:(decide ((c.toNat:Int)<48)=false/\decide ((c.toNat:Int)>57)=false)↔rO c=true:=by
 simp only[rO,afv,ait,air]
 omega
theorem RU (s:Bys) (hs:s.length<=9223372036854775807):wT s=some (decide (s≠[])&&s.all rO,()):=by
 unfold wT Io
 by_cases h0:s=[]
 ·subst h0;rfl
 ·rw[show (!(s==[]))=true by cases s<;>simp_all,aio,ais h0,afJ]
  have loop:∀ f,s.length<f->iter f ((s,(48:Int),(57:Int),(s.length:Int),(0:Int),()):rR) xY=(if s.all rO=true then some (Sum.inr ()) else some (Sum.inl (false,()))):=by
   intro f hf
   refine bn (Inv:=fun i X=>X=((s,(48:Int),(57:Int),(s.length:Int),(i:Int),()):rR)/\(s.take i).all rO=true) s.length
    (fun r=>r=(if s.all rO=true then some (Sum.inr ()) else some (Sum.inl (false,())))) ?_ ?_ f 0 _ ⟨rfl,by simp⟩ (by omega) (by omega)
   ·rintro i _ again hi ⟨rfl,hb⟩ ih
    unfold xY
    dsimp only
    have hy:s[i]? =some s[i]:=aD hi
    have hym:s[i]∈s:=agL hi
    generalize s[i]=y at hy hym
    rw[av (by omega),GC hy,aib,aib,au (by omega) (by omega)]
    cases hd:rO y with
    | true=>
     obtain⟨h1,h2⟩:=Ke.2 hd
     rw[h1,h2,ain,ain]
     refine ih _ ⟨rfl, ?_⟩
     rw[pR hy]
     simp[hb,hd]
    | false=>
     have hall:s.all rO=false:=by
      rw[List.all_eq_false]
      exact⟨y,hym,by simp[hd]⟩
     rw[hall]
     cases h1:decide ((y.toNat:Int)<48) with
     | true=>rfl
     | false=>
      cases h2:decide ((y.toNat:Int)>57) with
      | true=>rfl
      | false=>have:=Ke.1 ⟨h1,h2⟩;rw[hd] at this;cases this
   ·rintro _ again ⟨rfl,hb⟩
    unfold xY
    dsimp only
    rw[ay (by omega)]
    rw[ahw (ahJ _)] at hb
    rw[aiB hb]
  rw[loop _ (by omega)]
  cases s.all rO<;>rfl
theorem T6 (s:Bys) (hs:s.length<=9223372036854775807):nT s=some (decide (s≠[])&&s.all rO,()):=by
 unfold nT
 by_cases h0:s=[]
 ·subst h0;rfl
 ·rw[show (s==[])=false by cases s<;>simp_all,ain,ais h0,afJ]
  have loop:∀ f,s.length<f->iter f ((s,(s.length:Int),(0:Int),()):si) yu=(if s.all rO=true then some (Sum.inr ()) else some (Sum.inl (false,()))):=by
   intro f hf
   refine bn (Inv:=fun i X=>X=((s,(s.length:Int),(i:Int),()):si)/\(s.take i).all rO=true) s.length
    (fun r=>r=(if s.all rO=true then some (Sum.inr ()) else some (Sum.inl (false,())))) ?_ ?_ f 0 _ ⟨rfl,by simp⟩ (by omega) (by omega)
   ·rintro i _ again hi ⟨rfl,hb⟩ ih
    unfold yu
    dsimp only
    have hy:s[i]? =some s[i]:=aD hi
    have hym:s[i]∈s:=agL hi
    generalize s[i]=y at hy hym
    rw[av (by omega),GC hy,aib,aib,au (by omega) (by omega)]
    cases hd:rO y with
    | true=>
     obtain⟨h1,h2⟩:=Ke.2 hd
     rw[h1,h2,ain,ain]
     refine ih _ ⟨rfl, ?_⟩
     rw[pR hy]
     simp[hb,hd]
    | false=>
     have hall:s.all rO=false:=by
      rw[List.all_eq_false]
      exact⟨y,hym,by simp[hd]⟩
     rw[hall]
     cases h1:decide ((y.toNat:Int)<48) with
     | true=>rfl
     | false=>
      cases h2:decide ((y.toNat:Int)>57) with
      | true=>rfl
      | false=>have:=Ke.1 ⟨h1,h2⟩;rw[hd] at this;cases this
   ·rintro _ again ⟨rfl,hb⟩
    unfold yu
    dsimp only
    rw[ay (by omega)]
    rw[ahw (ahJ _)] at hb
    rw[aiB hb]
  rw[loop _ (by omega)]
  cases s.all rO<;>rfl
theorem Py (s:Bys) (hs:s.length<=100):∃ b,sV s=some (b,()):=by
 unfold sV
 have loop:∀ f,s.length<f->∃ n:Int,iter f ((s,(0:Int),(s.length:Int),(0:Int),()):xh) BU=some (Sum.inr (n,())):=by
  intro f hf
  refine bn (Inv:=fun i X=>∃ n:Int,X=((s,n,(s.length:Int),(i:Int),()):xh)) s.length
   (fun r=>∃ n:Int,r=some (Sum.inr (n,()))) ?_ ?_ f 0 _ ⟨0,rfl⟩ (by omega) (by omega)
  ·rintro i _ again hi ⟨n,rfl⟩ ih
   unfold BU
   dsimp only
   have e:w64 (w64 ((s.length:Int) - 1) - (i:Int))=((s.length - 1 - i:Nat):Int):=by
    rw[au (n:=(s.length:Int) - 1) (by omega) (by omega),au (by omega) (by omega)];omega
   have hy:s[s.length - 1 - i]? =some (s[s.length - 1 - i]'(by omega)):=aD (by omega)
   rw[av (by omega),e,GC hy,aib,au (n:=(i:Int)+1) (by omega) (by omega)]
   cases (Int.tmod (i:Int) 2==1) with
   | true=>rw[aio];exact ih _ ⟨_,rfl⟩
   | false=>rw[ain];exact ih _ ⟨_,rfl⟩
  ·rintro _ again ⟨n,rfl⟩
   unfold BU
   dsimp only
   rw[ay (by omega)]
   exact⟨n,rfl⟩
 obtain⟨n,h⟩:=loop (List.length s+(Int.natAbs (0:Int)+(Int.natAbs ((List.length s:Int))+(Int.natAbs (0:Int)+2)))) (by omega)
 rw[h]
 exact⟨_,rfl⟩
def lbl (s:Bys):Bool:=decide (s.length=18)&&(s.all rO&&((sV s).map (·.1)).getD false)
theorem ER (s:Bys) (hs:s.length<=9223372036854775807):rZ s=some (lbl s,()):=by
 unfold rZ A5 zy vR Cl
 rw[xZ,aib,aib]
 dsimp only
 rw[show (!(!(decide ((3:Int)<1\/(5:Int)<3))))=false by decide,ain,show ((3:Int)==4)=false from rfl,show ((3:Int)==5)=false from rfl,show ((3:Int)==1)=false from rfl,show ((3:Int)==2)=false from rfl]
 simp only[ain,aib]
 rw[zk _ _ (by decide),aib,RU s hs]
 unfold lbl
 by_cases hl:s.length=18
 ·obtain⟨b,hb⟩:=Py s (by omega)
  have hb2:FE s=some (b,()):=hb
  have hne:s≠[]:=fun e=>by subst e;cases hl
  rw[ais (show (s.length:Int)∈[18] by simp;omega),aio,aib,ais hne,afJ,ais hl,afJ,hb2,hb]
  cases s.all rO<;>simp
 ·rw[aiq (show ¬ (s.length:Int)∈[18] by simp;omega),aiq hl]
  rfl
theorem Jl (s:Bys) (hs:s.length<=9223372036854775807):zf s=some (lbl s,()):=by
 unfold zf Iw Nl Iz
 rw[BV,aib,aib]
 dsimp only
 rw[show (!(decide ((1:Int)<=3/\(3:Int)<=5)))=false by decide,ain,show ((3:Int)==1)=false from rfl,show ((3:Int)==2)=false from rfl,show ((3:Int)==3)=true from rfl]
 simp only[ain,aio]
 rw[T6 s hs,aib]
 unfold lbl
 by_cases hl:s.length=18
 ·obtain⟨b,hb⟩:=Py s (by omega)
  have hne:s≠[]:=fun e=>by subst e;cases hl
  rw[ais hne,afJ,ais hl,afJ,hb,show ((s.length:Int)==18)=true by rw[hl];rfl]
  cases s.all rO<;>simp
 ·rw[aiq hl,show ((s.length:Int)==18)=false by rw[aik];omega]
  cases (decide (s≠[])&&s.all rO)<;>rfl
def qOk (d:ax) (zero:Bool):Bool:=inR d 0 1000000000 3&&(!(d.1==0)||zero)
theorem R9 {d:ax} (hd:cc d):Bx d 3 1000000000=some (inR d 0 1000000000 3,()):=by
 unfold Bx
 have hp:=Hz d.2.toNat
 have hp2:(10:Int) ^ d.2.toNat<=1000000000:=by
  have:=ah3 (n:=10) (by omega) (show d.2.toNat<=9 by have:=hd.2.2;omega)
  have h2:=Int.ofNat_le.2 this
  simpa using h2
 rw[TQ d.2 hd.2.1 (by have:=hd.2.2;omega)]
 have e:inR d 0 1000000000 3=(decide (d.2<=3)&&(decide (d.1>=0)&&decide (d.1<=1000000000*10 ^ d.2.toNat))):=by
  unfold inR
  rw[<- Bool.decide_and, <- Bool.decide_and,aip,Int.zero_mul]
  constructor
  ·rintro⟨_,h2,h3,h4⟩;exact⟨h2,h3,h4⟩
  ·rintro⟨h2,h3,h4⟩;exact⟨hd,h2,h3,h4⟩
 rw[e,aib,au (n:=1000000000*10 ^ d.2.toNat) (by omega) (by omega)]
 cases decide (d.2<=3)<;>cases decide (d.1>=0)<;>cases decide (d.1<=1000000000*10 ^ d.2.toNat)<;>rfl
theorem za (d:ax) (z:Bool):dY d z=some (if qOk d z=true then 0 else 1,()):=by
 unfold dY qOk
 rw[GX,aib]
 by_cases hd:cc d
 ·rw[R9 hd,aiB hd]
  dsimp only
  rw[zne,ain,aib]
  cases inR d 0 1000000000 3<;>cases (d.1==0)<;>cases z<;>rfl
 ·have:inR d 0 1000000000 3=false:=by unfold inR;simp[hd]
  simp[hd,this]
theorem Lf (d:ax) (above:Bool):nJ d above=some (qOk d (!above),()):=by
 unfold nJ qOk
 rw[LL,aib]
 by_cases hd:cc d
 ·have h2:cc (1000000000,0):=by decide
  have hc:Oh d (1000000000,0)=some ((Ag d - Ag (1000000000,0)).sign,()):=aah hd h2
  have e9:Ag (1000000000,0)=1000000000*10 ^ 9:=rfl
  have hs:decide ((Ag d - Ag (1000000000,0)).sign<=0)=decide (d.1<=1000000000*10 ^ d.2.toNat):=by
   rw[aip, <- adf hd.2.1 hd.2.2, <- e9,Int.sign_nonpos_iff];omega
  rw[hc,aiB hd]
  dsimp only
  rw[show ((0:Int)==0)=true from rfl,aio,aib]
  dsimp only
  rw[hs]
  have e:inR d 0 1000000000 3=(decide (d.2<=3)&&(decide (d.1>=0)&&decide (d.1<=1000000000*10 ^ d.2.toNat))):=by
   unfold inR
   rw[<- Bool.decide_and, <- Bool.decide_and,aip,Int.zero_mul]
   constructor
   ·rintro⟨_,h2,h3,h4⟩;exact⟨h2,h3,h4⟩
   ·rintro⟨h2,h3,h4⟩;exact⟨hd,h2,h3,h4⟩
  have hz:(d.1==0)=(decide (d.1>=0)&& !decide (d.1>0)):=by
   by_cases h:d.1=0
   ·rw[show (d.1==0)=true by simpa using h,h];rfl
   ·rw[show (d.1==0)=false by simpa using h]
    by_cases h3:d.1>0
    ·simp[h3]
    ·have:¬ d.1>=0:=by omega
     simp[this]
  rw[e,hz]
  have himp:d.1>0->d.1>=0:=fun h=>by omega
  cases h5:decide (d.1>0)<;>cases decide (d.2<=3)<;>cases h6:decide (d.1>=0)<;>cases decide (d.1<=1000000000*10 ^ d.2.toNat)<;>cases above<;>simp_all
 ·have:inR d 0 1000000000 3=false:=by unfold inR;simp[hd]
  simp[hd,this]
end Go.Md
namespace Go.Md
open Go.Dn
theorem qK (l:List ak) (t:Bys) (hl:l.length<1000000000):mC l t=some (ixI (cq (·.1) t l),()):=by
 unfold mC
 have loop:∀ f,l.length<f->iter f ((t,l,(l.length:Int),(0:Int),()):qL) wu=(match cq (·.1) t l with | some k=>some (Sum.inl ((k:Int),())) | none=>some (Sum.inr ())):=by
  intro f hf
  refine bn (Inv:=fun i X=>X=((t,l,(l.length:Int),(i:Int),()):qL)/\∀ j x,j<i->l[j]? =some x->x.1≠t) l.length
   (fun r=>r=(match cq (·.1) t l with | some k=>some (Sum.inl ((k:Int),())) | none=>some (Sum.inr ()))) ?_ ?_ f 0 _ ⟨rfl,fun _ _ h=>absurd h (ah0 _)⟩ (by omega) (by omega)
  ·rintro i _ again hi ⟨rfl,hb⟩ ih
   unfold wu
   dsimp only
   have hy:l[i]? =some l[i]:=aD hi
   generalize l[i]=y at hy
   rw[av (by omega),aV,hy,aib]
   by_cases he:y.1=t
   ·rw[show (y.1==t)=true by simpa using he,aio]
    have:cq (·.1) t l=some i:=by
     unfold cq
     rw[ago]
     refine⟨hi, ?_,fun j hj=> ?_⟩
     ·have:=(agB.1 hy).2
      rw[this];simpa using he
     ·have:=hb j l[j] hj (agz _)
      simpa using this
    rw[this]
   ·rw[show (y.1==t)=false by simpa using he,ain,au (by omega) (by omega)]
    refine ih _ ⟨rfl,fun j x hj hx=> ?_⟩
    rcases ahS.1 hj with h | h
    ·exact hb j x h hx
    ·subst h;rw[hy] at hx;cases hx;exact he
  ·rintro _ again ⟨rfl,hb⟩
   unfold wu
   dsimp only
   rw[ay (by omega)]
   have:cq (·.1) t l=none:=by
    unfold cq
    rw[agn]
    intro x hx
    obtain⟨j,hj⟩:=ag8.1 hx
    have:=hb j x (agB.1 hj).1 hj
    simpa using this
   rw[this]
 rw[loop _ (by omega)]
 cases cq (·.1) t l<;>rfl
theorem SY (l:List ak) (t:Bys) (hl:l.length<1000000000) (hs:Asc (·.1) l): ∃ i:Nat,dy l t ()=some ((i:Int),(cq (·.1) t l).isSome,())/\∀ k,cq (·.1) t l=some k->i=k:=by
 unfold dy
 have loop:∀ f,l.length<f->∃ i:Nat,iter f ((l,t,(),(l.length:Int),(0:Int),(l.length:Int),()):b9) eW=some (Sum.inr (l,t,(),(l.length:Int),(i:Int),()))/\i<=l.length/\(∀ k x,l[k]? =some x->k<i->Op.bytesLess x.1 t=true)/\∀ k x,l[k]? =some x->i<=k->Op.bytesLess x.1 t=false:=by
  intro f hf
  refine sP (Inv:=fun X=>∃ i j:Nat,X=((l,t,(),(l.length:Int),(i:Int),(j:Int),()):b9)/\i<=j/\j<=l.length/\(∀ k x,l[k]? =some x->k<i->Op.bytesLess x.1 t=true)/\∀ k x,l[k]? =some x->j<=k->Op.bytesLess x.1 t=false)
   (fun X=>(X.2.2.2.2.2.1 - X.2.2.2.2.1).toNat)
   (fun _ r=>∃ i:Nat,r=some (Sum.inr (l,t,(),(l.length:Int),(i:Int),()))/\i<=l.length/\(∀ k x,l[k]? =some x->k<i->Op.bytesLess x.1 t=true)/\∀ k x,l[k]? =some x->i<=k->Op.bytesLess x.1 t=false) ?_ f _ ⟨0,l.length,rfl,by omega,by omega,fun _ _ _ h=>absurd h (ah0 _),fun k x hk hle=>by have:=(agB.1 hk).1;omega⟩ (by dsimp only;omega)
  rintro _ again ⟨i,j,rfl,hij,hj,h1,h2⟩ ih
  dsimp only at ih
  unfold eW
  dsimp only
  by_cases hlt:i<j
  ·rw[av (by omega)]
   have em:w64 (Int.fdiv (bS (w64 ((i:Int)+(j:Int)))) (2 ^ 1))=(((i+j) / 2:Nat):Int):=by
    rw[au (n:=(i:Int)+(j:Int)) (by omega) (by omega),de (by omega) (by omega),afK _ (by omega),au (by omega) (by omega)]
    omega
   rw[em]
   have hm:(i+j) / 2<l.length:=by omega
   have hy:l[(i+j) / 2]? =some l[(i+j) / 2]:=aD hm
   have hmi:i<=(i+j) / 2/\(i+j) / 2<j:=by omega
   generalize (i+j) / 2=m at*
   generalize l[m]=y at hy
   rw[aV,hy,aib]
   show ∃ i,Option.bind (Option.bind (some (Lib.compareBytes y.1 t,())) fun r1=>some (r1.1,())) _=_/\_
   rw[aib,aib]
   dsimp only
   by_cases hc:Lib.compareBytes y.1 t<0
   ·rw[av hc,au (by omega) (by omega)]
    refine ih _ ⟨m+1,j,rfl,by omega,hj,fun k x hk hkm=> ?_,h2⟩ (by dsimp only;omega)
    rcases ahS.1 hkm with h | h
    ·have:=hs k m x y h hk hy
     exact er this (eU.1 hc)
    ·subst h;rw[hy] at hk;cases hk;exact eU.1 hc
   ·rw[ay hc]
    refine ih _ ⟨i,m,rfl,by omega,by omega,h1,fun k x hk hkm=> ?_⟩ (by dsimp only;omega)
    have hc':Op.bytesLess y.1 t=false:=by
     cases h:Op.bytesLess y.1 t with
     | false=>rfl
     | true=>exact absurd (eU.2 h) hc
    rcases ahP hkm with h | h
    ·cases hx:Op.bytesLess x.1 t with
     | false=>rfl
     | true=>rw[er (hs m k y x h hy hk) hx] at hc';cases hc'
    ·subst h;rw[hy] at hk;cases hk;exact hc'
  ·rw[ay (by omega)]
   have:i=j:=by omega
   subst this
   exact⟨i,rfl,hj,h1,h2⟩
 obtain⟨i,h1,h2,h3,h4⟩:=loop (List.length l+(List.length t+(Int.natAbs ((List.length l:Int))+(Int.natAbs (0:Int)+(Int.natAbs ((List.length l:Int))+2))))) (by omega)
 refine⟨i, ?_,fun k hk=> ?_⟩
 ·rw[h1,az]
  dsimp only
  by_cases hi:i<l.length
  ·have hy:l[i]? =some l[i]:=aD hi
   generalize l[i]=y at hy
   rw[av (by omega),aV,hy,aib]
   show Option.bind (Option.bind (some (Lib.compareBytes y.1 t,())) fun r1=>some (r1.1,())) _=_
   rw[aib,aib]
   congr 3
   by_cases he:y.1=t
   ·rw[N9 hs hy he,dM.2 he];rfl
   ·have hne:¬ Lib.compareBytes y.1 t=0:=fun h=>he (dM.1 h)
    rw[show (Lib.compareBytes y.1 t==0)=false by simpa using hne]
    cases hx:cq (·.1) t l with
    | none=>rfl
    | some k=>
     exfalso
     obtain⟨x,k1,k2⟩:=fM hx
     rcases ahV k i with h | h | h
     ·have:=h3 k x k1 h;rw[k2,dS] at this;cases this
     ·subst h;rw[hy] at k1;cases k1;exact he k2
     ·have:=hs i k y x h hy k1
      dsimp only at this
      rw[k2,h4 i y hy (ahJ _)] at this;cases this
  ·rw[ay (by omega)]
   congr 3
   cases hx:cq (·.1) t l with
   | none=>rfl
   | some k=>
    exfalso
    obtain⟨x,k1,k2⟩:=fM hx
    have:=h3 k x k1 (by have:=(agB.1 k1).1;omega)
    rw[k2,dS] at this;cases this
 ·obtain⟨x,k1,k2⟩:=fM hk
  rcases ahV k i with h | h | h
  ·have:=h3 k x k1 h;rw[k2,dS] at this;cases this
  ·exact h.symm
  ·have hy:l[i]? =some (l[i]'(by have:=(agB.1 k1).1;omega)):=aD _
   have:=hs i k _ x h hy k1
   dsimp only at this
   rw[k2,h4 i _ hy (ahJ _)] at this;cases this
theorem qu (a:aG) (t:Bys) (hl:a.2.2.2.length<1000000000) (hs:Asc (·.1) a.2.2.2): ∃ i:Nat,kH a t=some ((i:Int),(cq (·.1) t a.2.2.2).isSome,())/\∀ k,cq (·.1) t a.2.2.2=some k->i=k:=by
 obtain⟨i,h1,h2⟩:=SY a.2.2.2 t hl hs
 exact⟨i,by unfold kH;rw[h1,aib],h2⟩
def bQ (a b:aa):Int:=bV (fun _ y=>y) 0 [Lib.compareBytes a.1 b.1,Lib.compareBytes a.2.1 b.2.1,Lib.compareBytes a.2.2.1 b.2.2.1]
theorem Ur (l:List Int) (hl:l.length<1000):Bc l=some (bV (fun _ y=>y) 0 l,()):=by
 unfold Bc
 rw[gA (f:=zC) (fun i=>(((0:Int),l,(l.length:Int),(i:Int),()):zD)) l (fun _ y=>y) (0,()) ?_ ?_ ?_ _ ?_]
 ·exact (aex _ _ _ 0 rfl).trans (by
   by_cases h:bV (fun _ y=>y) 0 l=0
   ·rw[aiA (by simpa using h),h]
   ·rw[aiB h])
 ·rfl
 ·intro i y again hy
  have hi:=(agB.1 hy).1
  unfold zC
  dsimp only
  rw[av (by omega),aV,hy,aib,au (by omega) (by omega)]
  by_cases h:y=0
  ·subst h;rfl
  ·rw[show (y != 0)=true by simpa using h,aio,aiA h]
 ·intro again
  unfold zC
  dsimp only
  rw[ay (by omega)]
 ·omega
theorem eZ (a b:aa):bE a b=some (bQ a b,()):=by
 unfold bE strings_Compare bQ
 simp only[aib]
 rw[Ur _ (by simp),aib]
theorem lF (a b:aa):eV a b=some (bQ a b,()):=by
 unfold eV strings_Compare bQ
 simp only[aib]
 generalize hL:[Lib.compareBytes a.1 b.1,Lib.compareBytes a.2.1 b.2.1,Lib.compareBytes a.2.2.1 b.2.2.1]=l
 have hl:l.length=3:=by subst hL;rfl
 rw[gA (f:=oZ) (fun i=>((l,(l.length:Int),(i:Int),()):o8)) l (fun _ y=>y) () ?_ ?_ ?_ _ ?_]
 ·exact On _ _
 ·rfl
 ·intro i y again hy
  have hi:=(agB.1 hy).1
  unfold oZ
  dsimp only
  rw[av (by omega),aV,hy,aib,au (by omega) (by omega)]
  by_cases h:y=0
  ·subst h;rfl
  ·rw[show (y != 0)=true by simpa using h,aio,aiA h]
 ·intro again
  unfold oZ
  dsimp only
  rw[ay (by omega)]
 ·omega
def HB (l:List aa) (i:Nat) (y:aa):Bool:=match i with
 | 0=>false
 | i+1=>match l[i]? with
  | some p=>decide (bQ p y>=0)
  | none=>false
def E6 (l:List aa) (i:Nat) (c:aa):Int:=
 if lN c.1=false then 5 else if lN c.2.1=false then 5 else if (!(c.2.2.1==[])&& !lN c.2.2.1)=true then 5
 else if HB l i c=true then 8 else if qOk c.2.2.2 false=true then 0 else 1
def aX (l:List aa):Int:=if 100<l.length then 2 else bV (E6 l) 0 l
theorem AT {α:Type} {l:List α} {i:Nat} (hi:i<l.length) (hl:l.length<1000000000):idx l (w64 (((i+1:Nat):Int) - 1))=l[i]? :=by
 rw[au (by omega) (by omega),show ((i+1:Nat):Int) - 1=((i:Nat):Int) by omega,aV]
theorem pF (l:List aa):iq l=some (aX l,()):=by
 unfold iq aX
 by_cases hb:100<l.length
 ·rw[av (by omega),aiB hb]
 ·rw[ay (by omega),aiA hb]
  rw[gA (f:=kY) (fun i=>((l,l,(l.length:Int),(i:Int),()):kZ)) l (E6 l) () ?_ ?_ ?_ _ ?_]
  ·exact On _ _
  ·rfl
  ·intro i y again hy
   have hi:=(agB.1 hy).1
   unfold kY
   dsimp only
   rw[av (by omega),aV,hy,aib]
   simp only[Lc,aib,za,eZ]
   have hw:w64 ((i:Int)+1)=((i+1:Nat):Int):=by rw[au (by omega) (by omega)];omega
   rw[hw]
   unfold E6
   generalize qOk y.2.2.2 false=q
   cases i with
   | zero=>
    simp only[HB]
    cases lN y.1<;>cases lN y.2.1<;>cases (y.2.2.1==[])<;>cases lN y.2.2.1<;>cases q<;>simp
   | succ i=>
    have hp:l[i]? =some (l[i]'(by omega)):=aD (by omega)
    have ep:HB l (i+1) y=decide (bQ (l[i]'(by omega)) y>=0):=by simp only[HB,hp]
    have hpos:decide (((i+1:Nat):Int)>0)=true:=by simp
    rw[AT (by omega) (by omega),hp,ep,hpos]
    simp only[aib,aio]
    generalize decide (bQ (l[i]'(by omega)) y>=0)=p
    cases lN y.1<;>cases lN y.2.1<;>cases (y.2.2.1==[])<;>cases lN y.2.2.1<;>cases q<;>cases p<;>simp
  ·intro again
   unfold kY
   dsimp only
   rw[ay (by omega)]
  ·omega
theorem uk (l:List aa):iK l=some (aX l,()):=by
 unfold iK aX
 by_cases hb:100<l.length
 ·rw[av (by omega),aiB hb]
 ·rw[ay (by omega),aiA hb]
  rw[gA (f:=nH) (fun i=>((l,l,(l.length:Int),(i:Int),()):nI)) l (E6 l) () ?_ ?_ ?_ _ ?_]
  ·exact On _ _
  ·rfl
  ·intro i y again hy
   have hi:=(agB.1 hy).1
   unfold nH
   dsimp only
   rw[av (by omega),aV,hy,aib]
   simp only[Nk,aib,Lf,lF,afG]
   have hw:w64 ((i:Int)+1)=((i+1:Nat):Int):=by rw[au (by omega) (by omega)];omega
   rw[hw]
   unfold E6
   generalize qOk y.2.2.2 false=q
   cases i with
   | zero=>
    simp only[HB]
    cases lN y.1<;>cases lN y.2.1<;>cases (y.2.2.1==[])<;>cases lN y.2.2.1<;>cases q<;>simp
   | succ i=>
    have hp:l[i]? =some (l[i]'(by omega)):=aD (by omega)
    have ep:HB l (i+1) y=decide (bQ (l[i]'(by omega)) y>=0):=by simp only[HB,hp]
    have hpos:decide (((i+1:Nat):Int)>0)=true:=by simp
    rw[AT (by omega) (by omega),hp,ep,hpos]
    simp only[aib,aio]
    generalize decide (bQ (l[i]'(by omega)) y>=0)=p
    cases lN y.1<;>cases lN y.2.1<;>cases (y.2.2.1==[])<;>cases lN y.2.2.1<;>cases q<;>cases p<;>simp
  ·intro again
   unfold nH
   dsimp only
   rw[ay (by omega)]
  ·omega
def Fh (l:List ak) (i:Nat) (y:ak):Bool:=match i with
 | 0=>false
 | i+1=>match l[i]? with
  | some p=>Op.bytesLess y.1 p.1||y.1==p.1
  | none=>false
def vX (l:List ak) (i:Nat) (p:ak):Int:=
 if lbl p.1=false then 3 else if Fh l i p=true then 8 else if qOk p.2.2.1 true=false then 1 else aX p.2.2.2
theorem Ji (l:List ak) (i:Nat) (y:ak) (hy:l[i]? =some y) (hl:l.length<1000000000) (hs:y.1.length<=9223372036854775807):qv l (i:Int)=some (vX l i y,()):=by
 have hi:=(agB.1 hy).1
 unfold qv vX
 rw[aV,hy,aib,ER _ hs]
 simp only[aib,za,pF]
 cases i with
 | zero=>
  simp only[Fh]
  cases lbl y.1<;>cases qOk y.2.2.1 true<;>simp
 | succ i=>
  have hp:l[i]? =some (l[i]'(by omega)):=aD (by omega)
  have ep:Fh l (i+1) y=(Op.bytesLess y.1 (l[i]'(by omega)).1||y.1==(l[i]'(by omega)).1):=by simp only[Fh,hp]
  have hpos:decide (((i+1:Nat):Int)>0)=true:=by simp
  rw[AT (by omega) hl,hp,ep,hpos]
  simp only[aib,aio]
  generalize (Op.bytesLess y.1 (l[i]'(by omega)).1||y.1==(l[i]'(by omega)).1)=p
  cases lbl y.1<;>cases qOk y.2.2.1 true<;>cases p<;>simp
end Go.Md
namespace Go.Md
open Go.Dn
def par (l:List ak) (k:Nat):Option Nat:=match l[k]? with
 | some p=>if p.2.1=[] then none else cq (·.1) p.2.1 l
 | none=>none
theorem Gf {l:List ak} {k k':Nat} (h:par l k=some k'):k'<l.length:=by
 unfold par at h
 split at h
 ·split at h
  ·cases h
  ·obtain⟨x,hx,_⟩:=fM h
   exact (agB.1 hx).1
 ·cases h
def NS (l:List ak):Prop:=∀ p∈l,p.2.1=[]\/(cq (·.1) p.2.1 l).isSome=true
theorem Jg {l:List ak} {k:Nat} {p:ak} (h1:NS l) (hp:l[k]? =some p):(p.2.1=[]/\par l k=none)\/(p.2.1≠[]/\∃ k',par l k=some k'/\cq (·.1) p.2.1 l=some k'):=by
 unfold par
 rw[hp]
 dsimp only
 by_cases h:p.2.1=[]
 ·exact .inl ⟨h,by rw[aiB h]⟩
 ·right
  rw[aiA h]
  rcases h1 p (aha hp) with h2 | h2
  ·exact absurd h2 h
  ·obtain⟨k',hk'⟩:=aie.1 h2
   exact⟨h,k',hk',hk'⟩
def yS (l:List ak):Prop:=∀ k,k<l.length->¬ k9 (par l) k
def cV (l:List ak) (i:Nat):List Nat:=anc (par l) l.length i
theorem Ae {l:List ak} (h:yS l) {i:Nat} (hi:i<l.length):(cV l i).length<l.length:=ac9 (fun _ _=>Gf) h hi
theorem DE {l:List ak} (h:yS l) {i k:Nat} (hi:i<l.length) (hp:par l i=some k):cV l i=k::cV l k:=by
 have h1:=Ae h hi
 unfold cV at*
 rw[<- Um h1 (show l.length<=l.length+1 by omega),Cm hp]
theorem Ul {l:List ak} {i:Nat} (hp:par l i=none):cV l i=[]:=PE hp _
theorem NT {l:List ak} {i x:Nat} (h:x∈cV l i):x<l.length:=V4 (fun _ _=>Gf) h
theorem ZC {l:List ak} (h:yS l) {i:Nat} (hi:i<l.length):(i::cV l i).Nodup:=L5 (fun _ _=>Gf) h hi
def cI (l:List Nat):List Int:=l.map (fun n:Nat=>(n:Int))
theorem aaK {l:List Nat} {x:Nat}:(x:Int)∈cI l↔x∈l:=by
 unfold cI
 rw[ag9]
 constructor
 ·rintro⟨a,h1,h2⟩;have:a=x:=by omega
  exact this ▸ h1
 ·intro h;exact⟨x,h,rfl⟩
theorem nX (l:List Nat):(cI l).length=l.length:=by simp[cI]
theorem Gg (a:aG) (hl:a.2.2.2.length<=500) (hs:Asc (·.1) a.2.2.2) (h1:NS a.2.2.2) (i:Nat) (hi:i<a.2.2.2.length): ∃ (out:List Nat) (ok:Bool),kT a (i:Int)=some (cI out,ok,())/\(ok=false↔k9 (par a.2.2.2) i)/\(yS a.2.2.2->out=cV a.2.2.2 i):=by
 unfold kT
 have hat:=fun t=>qu a t (by omega) hs
 obtain⟨a1,a2,a3,l⟩:=a
 dsimp only at*
 have loop:∀ f,l.length+1<f->∃ (out:List Nat) (ok:Bool),(iter f (((i:Int),([]:List Int),(i:Int),a1,a2,a3,l,()):lQ) tU=(if ok=true then (some (Sum.inr (cI out,())):Option jv) else some (Sum.inl (cI out,false,())))\/(ok=true/\iter f (((i:Int),([]:List Int),(i:Int),a1,a2,a3,l,()):lQ) tU=(some (Sum.inl (cI out,true,())):Option jv)))/\(ok=false↔k9 (par l) i)/\(yS l->out=cV l i):=by
  intro f hf
  refine sP (Inv:=fun X=>∃ (out:List Nat) (k:Nat),X=(((i:Int),cI out,(k:Int),a1,a2,a3,l,()):lQ)/\k<l.length/\out.Nodup/\(∀ x∈out,x<l.length)/\(∃ j,itp (par l) j i=some k)/\(k9 (par l) i->∃ d,Ac (par l) i k d/\∀ x∈out,∃ e,d<=e/\Ac (par l) i x e)/\(yS l->out++cV l k=cV l i))
   (fun X=>l.length+1 - X.2.1.length)
   (fun _ r=>∃ (out:List Nat) (ok:Bool),(r=(if ok=true then (some (Sum.inr (cI out,())):Option jv) else some (Sum.inl (cI out,false,())))\/(ok=true/\r=(some (Sum.inl (cI out,true,())):Option jv)))/\(ok=false↔k9 (par l) i)/\(yS l->out=cV l i)) ?_ f _
   ⟨[],i,rfl,hi,by simp,by simp,⟨0,rfl⟩,fun hon=>by obtain⟨d,hd⟩:=hon.ack;exact⟨d,hd,by simp⟩,fun _=>by simp⟩ (by dsimp only;simp;omega)
  rintro _ again ⟨out,k,rfl,hk,hnd,hlt,⟨j,hj⟩,hon,hno⟩ ih
  dsimp only at ih
  have hlen:=DV l.length out hnd hlt
  unfold tU
  dsimp only
  have hy:l[k]? =some l[k]:=aD hk
  generalize l[k]=p at hy
  rw[aV,hy,aib,aib]
  rcases Jg h1 hy with ⟨g1,g2⟩ | ⟨g1,k',g2,g3⟩
  ·rw[g1]
   refine⟨out,true,.inl rfl, ?_,fun hn=> ?_⟩
   ·constructor
    ·intro h;cases h
    ·intro h
     obtain⟨d,hd,_⟩:=hon h
     obtain⟨k',e,_⟩:=hd.step
     rw[g2] at e;cases e
   ·have:=hno hn
    rw[Ul g2,af4] at this
    exact this
  ·have hk':=Gf g2
   rw[show (!(p.2.1==[]))=true by cases hp:p.2.1<;>simp_all,aio]
   obtain⟨q,hq1,hq2⟩:=hat p.2.1
   have:q=k':=hq2 k' g3
   subst this
   rw[hq1,aib]
   dsimp only
   by_cases e1:q=i
   ·subst e1
    rw[show ((q:Int)==(q:Int))=true by simp,aio]
    have hloop:k9 (par l) q:=⟨j,by rw[Jd (b:=1) hj];simp[itp,g2]⟩
    exact⟨[],false,.inl rfl,⟨fun _=>hloop,fun _=>rfl⟩,fun hn=>absurd hloop (hn q hi)⟩
   ·rw[show ((q:Int)==(i:Int))=false by rw[aik];omega,ain,zk _ _ (by rw[nX];omega),aib]
    by_cases e2:q∈out
    ·rw[ais (aaK.2 e2),aio]
     refine⟨out,true,.inr ⟨rfl,rfl⟩,⟨fun h=>(by cases h),fun h=> ?_⟩,fun hn=> ?_⟩
     ·obtain⟨d,hd,hx⟩:=hon h
      obtain⟨k2,e,h2⟩:=hd.step
      rw[g2] at e;cases e
      rcases h2 with ⟨h2,_⟩ | ⟨_,e,he,h3⟩
      ·exact absurd h2 e1
      ·obtain⟨f',hf',hx'⟩:=hx q e2
       have:=h3.uniq hx'
       omega
     ·exfalso
      have h3:=hno hn
      have h4:=(ahi.1 (ZC hn hi)).2
      rw[<- h3,DE hn hk g2,List.nodup_append] at h4
      exact h4.2.2 q e2 q (by simp) rfl
    ·rw[aiq (fun h=>e2 (aaK.1 h)),ain,aH (pK (by rw[nX];omega) (by rw[nX];omega))]
     refine ih _ ⟨out++[q],q,by simp[cI],hk', ?_, ?_,⟨j+1, ?_⟩,fun h=> ?_,fun hn=> ?_⟩ (by simp[nX];omega)
     ·rw[List.nodup_append]
      exact⟨hnd,by simp,fun x hx y hy=>by simp at hy;subst hy;exact fun e=>e2 (e ▸ hx)⟩
     ·intro x hx
      rcases ag0.1 hx with hx | hx
      ·exact hlt x hx
      ·simp at hx;omega
     ·rw[Jd (b:=1) hj];simp[itp,g2]
     ·obtain⟨d,hd,hx⟩:=hon h
      obtain⟨k2,e,h2⟩:=hd.step
      rw[g2] at e;cases e
      rcases h2 with ⟨h2,_⟩ | ⟨_,e,he,h3⟩
      ·exact absurd h2 e1
      ·refine⟨e,h3,fun x hx2=> ?_⟩
       rcases ag0.1 hx2 with hx2 | hx2
       ·obtain⟨f',hf',hx'⟩:=hx x hx2;exact⟨f',by omega,hx'⟩
       ·simp at hx2;subst hx2;exact⟨e,ahJ _,h3⟩
     ·rw[<- hno hn,DE hn hk g2,af3];rfl
 obtain⟨out,ok,h2,h3,h4⟩:=loop (Int.natAbs (i:Int)+(List.length ([]:List Int)+(Int.natAbs (i:Int)+(List.length a1+(List.length a2+(Int.natAbs a3+(List.length l+2))))))) (by omega)
 refine⟨out,ok, ?_,h3,h4⟩
 rcases h2 with h2 | ⟨h5,h2⟩
 ·rw[h2]
  cases ok<;>rfl
 ·rw[h2,h5];rfl
end Go.Md
namespace Go.Md
open Go.Dn
theorem XC (l:List ak) (hl:l.length<=500) (h1:NS l) (i:Nat) (hi:i<l.length):∃ b:Bool,HE l (i:Int)=some (b,())/\(b=true↔k9 (par l) i):=by
 unfold HE
 have loop:∀ f,l.length<f->∃ b:Bool,iter f ((l,(i:Int),(i:Int),(l.length:Int),(0:Int),()):se) xd=(if b=true then some (Sum.inl (true,())) else some (Sum.inr ()))/\(b=true↔k9 (par l) i)\/
  iter f ((l,(i:Int),(i:Int),(l.length:Int),(0:Int),()):se) xd=some (Sum.inl (false,()))/\¬ k9 (par l) i:=by
  intro f hf
  refine bn (Inv:=fun c X=>∃ k:Nat,X=((l,(i:Int),(k:Int),(l.length:Int),(c:Int),()):se)/\k<l.length/\itp (par l) c i=some k/\∀ e,e<c->itp (par l) (e+1) i≠some i) l.length
   (fun r=>∃ b:Bool,r=(if b=true then some (Sum.inl (true,())) else some (Sum.inr ()))/\(b=true↔k9 (par l) i)\/r=some (Sum.inl (false,()))/\¬ k9 (par l) i) ?_ ?_ f 0 _ ⟨i,rfl,hi,rfl,fun e h=>absurd h (ah0 _)⟩ (by omega) (by omega)
  ·rintro c _ again hc ⟨k,rfl,hk,hit,hne⟩ ih
   unfold xd
   dsimp only
   have hy:l[k]? =some l[k]:=aD hk
   generalize l[k]=p at hy
   rw[av (by omega),aV,hy,aib,aib]
   rcases Jg h1 hy with ⟨g1,g2⟩ | ⟨g1,k',g2,g3⟩
   ·rw[g1]
    refine⟨false,.inr ⟨rfl,fun hon=> ?_⟩⟩
    obtain⟨d,hd⟩:=hon.ack
    rcases ahQ d c with h | h
    ·exact hne d h hd.1
    ·have:=hd.1
     rw[show d+1=c+(d - c+1) by omega,Jd hit] at this
     simp[itp,g2] at this
   ·have hk':=Gf g2
    rw[show (p.2.1==[])=false by cases hp:p.2.1<;>simp_all,ain,qK l _ (by omega),g3,aib]
    dsimp only[ixI]
    have hit':itp (par l) (c+1) i=some k':=by rw[Jd hit];simp[itp,g2]
    by_cases e1:k'=i
    ·subst e1
     rw[show ((k':Int)==(k':Int))=true by simp,aio]
     exact⟨true,.inl ⟨rfl,⟨fun _=>⟨c,hit'⟩,fun _=>rfl⟩⟩⟩
    ·rw[show ((k':Int)==(i:Int))=false by rw[aik];omega,ain,au (by omega) (by omega)]
     refine ih _ ⟨k',rfl,hk',hit',fun e he=> ?_⟩
     rcases ahS.1 he with h | h
     ·exact hne e h
     ·subst h;rw[hit'];simpa using e1
  ·rintro _ again ⟨k,rfl,hk,hit,hne⟩
   unfold xd
   dsimp only
   rw[ay (by omega)]
   refine⟨false,.inl ⟨rfl,⟨fun h=>(by cases h),fun hon=> ?_⟩⟩⟩
   obtain⟨d,hd⟩:=hon.ack
   have:=hd.le (fun _ _=>Gf) hi
   exact absurd hd.1 (hne d (by omega))
 obtain⟨b,h⟩:=loop (List.length l+(Int.natAbs (i:Int)+(Int.natAbs (i:Int)+(Int.natAbs ((List.length l:Int))+(Int.natAbs (0:Int)+2))))) (by omega)
 rcases h with ⟨h2,h3⟩ | ⟨h2,h3⟩
 ·exact⟨b,by rw[h2];cases b<;>rfl,h3⟩
 ·exact⟨false,by rw[h2];rfl,⟨fun h=>(by cases h),fun h=>absurd h h3⟩⟩
theorem UQ (l:List ak) (hl:l.length<=500) (h1:NS l) (hn:yS l) (i:Nat) (hi:i<l.length):Nf l (i:Int)=some (cI (i::cV l i),true,()):=by
 unfold Nf
 have loop:∀ f,l.length<f->iter f ((l,(i:Int),[(i:Int)],()):D5) Ng=some (Sum.inr (cI (i::cV l i),())):=by
  intro f hf
  refine sP (Inv:=fun X=>∃ (pre:List Nat) (k:Nat),X=((l,(k:Int),cI pre,()):D5)/\k<l.length/\pre++cV l k=i::cV l i) (fun X=>l.length+1 - X.2.2.1.length)
   (fun _ r=>r=some (Sum.inr (cI (i::cV l i),()))) ?_ f _ ⟨[i],i,rfl,hi,rfl⟩ (by dsimp only;simp;omega)
  rintro _ again ⟨pre,k,rfl,hk,hpre⟩ ih
  dsimp only at ih
  have hlen:pre.length+(cV l k).length=(cV l i).length+1:=by
   have:=congrArg List.length hpre
   simpa using this
  have hlt:=Ae hn hi
  unfold Ng
  dsimp only
  have hy:l[k]? =some l[k]:=aD hk
  generalize l[k]=p at hy
  rw[aV,hy,aib,aib]
  rcases Jg h1 hy with ⟨g1,g2⟩ | ⟨g1,k',g2,g3⟩
  ·rw[g1]
   rw[Ul g2,af4] at hpre
   rw[hpre]
   rfl
  ·have hk':=Gf g2
   rw[show (!(p.2.1==[]))=true by cases hp:p.2.1<;>simp_all,aio,qK l _ (by omega),g3,aib]
   dsimp only[ixI]
   rw[ay (by rw[nX];omega),aH (pK (by rw[nX];omega) (by rw[nX];omega))]
   refine ih _ ⟨pre++[k'],k',by simp[cI],hk', ?_⟩ (by simp[nX];omega)
   rw[<- hpre,DE hn hk g2,af3];rfl
 rw[loop _ (by simp only[agN,agQ];omega),az]
def n1 (l:List ak) (p:ak):Int:=if p.2.1≠[]/\(cq (·.1) p.2.1 l).isSome=false then 9 else 0
open Classical in
noncomputable def n2 (l:List ak) (i:Nat):Int:=if k9 (par l) i then 17 else 0
def n3 (l:List ak) (i:Nat):Int:=if 5<(cV l i).length then 2 else 0
def Xm (l:List ak):Int:=bV (fun _ p=>n1 l p) 0 l
noncomputable def Xn (l:List ak):Int:=bV (fun i _=>n2 l i) 0 l
def aef (l:List ak):Int:=bV (fun i _=>n3 l i) 0 l
noncomputable def Oe (l:List ak):Int:=if Xm l≠0 then Xm l else if Xn l≠0 then Xn l else aef l
theorem Ir {l:List ak} (h:Xm l=0):NS l:=by
 intro p hp
 obtain⟨i,hi⟩:=ag8.1 hp
 have:=gF h i p hi
 unfold n1 at this
 by_cases h1:p.2.1=[]
 ·exact .inl h1
 ·cases h2:(cq (fun x:ak=>x.1) p.2.1 l).isSome with
  | true=>exact .inr rfl
  | false=>rw[aiB ⟨h1,h2⟩] at this;omega
theorem Is {l:List ak} (h:Xn l=0):yS l:=by
 intro k hk hon
 have:=gF h k l[k] (aD hk)
 unfold n2 at this
 rw[ah7,aiB hon] at this
 omega
theorem Js {γ:Type} (s:Int) (u:γ) (k:γ->Option (Int×Unit)) (z:Int) (hk:s=0->k u=some (z,())):aJ (β:=Int×Unit) (γ:=γ) (if s=0 then some (Sum.inr u) else some (Sum.inl (s,()))) k=some (if s≠0 then s else z,()):=by
 by_cases h:s=0
 ·rw[aiB h,az,hk h,aiA (by simpa using h)]
 ·rw[aiA h,iN,aiB h]
theorem abQ {γ:Type} (s:Int) (u:γ):aJ (β:=Int×Unit) (γ:=γ) (if s=0 then some (Sum.inr u) else some (Sum.inl (s,()))) (fun _=>some (0,()))=some (s,()):=On s u
theorem LK (a:aG) (hl:a.2.2.2.length<=500) (hs:Asc (·.1) a.2.2.2):tV a=some (Oe a.2.2.2,()):=by
 unfold tV Oe
 have hat:=fun t=>qu a t (by omega) hs
 have har:=fun h1 i hi=>Gg a hl hs h1 i hi
 obtain⟨a1,a2,a3,l⟩:=a
 dsimp only at*
 rw[gA (f:=oQ) (fun i=>((l,(l.length:Int),(i:Int),a1,a2,a3,l,()):oT)) l (fun _ p=>n1 l p) (a1,a2,a3,l,()) ?_ ?_ ?_ _ ?_]
 ·refine Js _ _ _ _ fun z1=> ?_
  have h1:=Ir z1
  dsimp only
  rw[gA (f:=oS) (fun i=>(((l.length:Int),(i:Int),a1,a2,a3,l,()):oU)) l (fun i _=>n2 l i) (a1,a2,a3,l,()) ?_ ?_ ?_ _ ?_]
  ·refine Js _ _ _ _ fun z2=> ?_
   have h2:=Is z2
   dsimp only
   rw[gA (f:=nC) (fun i=>(((l.length:Int),(i:Int),a1,a2,a3,l,()):nD)) l (fun i _=>n3 l i) () ?_ ?_ ?_ _ ?_]
   ·exact abQ _ _
   ·rfl
   ·intro i y again hy
    have hi:=(agB.1 hy).1
    unfold nC
    dsimp only
    obtain⟨out,ok,g1,g2,g3⟩:=har h1 i hi
    rw[av (by omega),g1,aib,au (by omega) (by omega)]
    dsimp only
    rw[g3 h2,nX]
    unfold n3
    by_cases h5:5<(cV l i).length
    ·rw[av (by omega),aiB h5,aiA (by omega)]
    ·rw[ay (by omega),aiA h5,aiB rfl];rfl
   ·intro again
    unfold nC
    dsimp only
    rw[ay (by omega)]
   ·omega
  ·rfl
  ·intro i y again hy
   have hi:=(agB.1 hy).1
   unfold oS
   dsimp only
   obtain⟨out,ok,g1,g2,g3⟩:=har h1 i hi
   rw[av (by omega),g1,aib,au (by omega) (by omega)]
   dsimp only
   unfold n2
   by_cases hon:k9 (par l) i
   ·rw[g2.2 hon,aiB hon,aiA (by omega)];rfl
   ·have:ok=true:=by
     cases ok with
     | true=>rfl
     | false=>exact absurd (g2.1 rfl) hon
    rw[this,aiA hon,aiB rfl];rfl
  ·intro again
   unfold oS
   dsimp only
   rw[ay (by omega)]
  ·omega
 ·rfl
 ·intro i y again hy
  have hi:=(agB.1 hy).1
  unfold oQ
  dsimp only
  obtain⟨q,hq1,hq2⟩:=hat y.2.1
  rw[av (by omega),aV,hy,aib,hq1,aib,au (by omega) (by omega)]
  dsimp only
  by_cases e1:y.2.1=[]
  ·have hn:n1 l y=0:=by unfold n1;rw[aiA (fun h=>h.1 e1)]
   rw[hn,aiB rfl,e1];rfl
  ·rw[show (!(y.2.1==[]))=true by cases hp:y.2.1<;>simp_all,aio]
   cases h2:(cq (fun x:ak=>x.1) y.2.1 l).isSome with
   | true=>
    have hn:n1 l y=0:=by unfold n1;rw[aiA (fun h=>by rw[h2] at h;exact absurd h.2 (by simp))]
    rw[hn,aiB rfl];rfl
   | false=>
    have hn:n1 l y=9:=by unfold n1;rw[aiB ⟨e1,h2⟩]
    rw[hn,aiA (by omega)];rfl
 ·intro again
  unfold oQ
  dsimp only
  rw[ay (by omega)]
 ·omega
theorem XD (l:List ak) (hl:l.length<=500):HF l=some (Oe l,()):=by
 unfold HF Oe
 rw[gA (f:=BF) (fun i=>((l,l,(l.length:Int),(i:Int),()):BH)) l (fun _ p=>n1 l p) (l,()) ?_ ?_ ?_ _ ?_]
 ·refine Js _ _ _ _ fun z1=> ?_
  have h1:=Ir z1
  dsimp only
  rw[gA (f:=BG) (fun i=>((l,(l.length:Int),(i:Int),()):BI)) l (fun i _=>n2 l i) (l,()) ?_ ?_ ?_ _ ?_]
  ·refine Js _ _ _ _ fun z2=> ?_
   have h2:=Is z2
   dsimp only
   rw[gA (f:=zJ) (fun i=>((l,(l.length:Int),(i:Int),()):zK)) l (fun i _=>n3 l i) () ?_ ?_ ?_ _ ?_]
   ·exact abQ _ _
   ·rfl
   ·intro i y again hy
    have hi:=(agB.1 hy).1
    have hlt:=Ae h2 hi
    unfold zJ
    dsimp only
    rw[av (by omega),UQ l hl h1 h2 i hi,aib,au (n:=(i:Int)+1) (by omega) (by omega)]
    dsimp only
    rw[afG,ain,nX,agN,au (by omega) (by omega)]
    unfold n3
    by_cases h5:5<(cV l i).length
    ·rw[av (by omega),aiB h5,aiA (by omega)]
    ·rw[ay (by omega),aiA h5,aiB rfl];rfl
   ·intro again
    unfold zJ
    dsimp only
    rw[ay (by omega)]
   ·omega
  ·rfl
  ·intro i y again hy
   have hi:=(agB.1 hy).1
   unfold BG
   dsimp only
   obtain⟨b,g1,g2⟩:=XC l hl h1 i hi
   rw[av (by omega),g1,aib,au (by omega) (by omega)]
   dsimp only
   unfold n2
   by_cases hon:k9 (par l) i
   ·rw[g2.2 hon,aiB hon,aiA (by omega)];rfl
   ·have:b=false:=by
     cases b with
     | false=>rfl
     | true=>exact absurd (g2.1 rfl) hon
    rw[this,aiA hon,aiB rfl];rfl
  ·intro again
   unfold BG
   dsimp only
   rw[ay (by omega)]
  ·omega
 ·rfl
 ·intro i y again hy
  have hi:=(agB.1 hy).1
  unfold BF
  dsimp only
  rw[av (by omega),aV,hy,aib,qK l _ (by omega),aib,au (by omega) (by omega)]
  dsimp only
  rw[Y7]
  by_cases e1:y.2.1=[]
  ·have hn:n1 l y=0:=by unfold n1;rw[aiA (fun h=>h.1 e1)]
   rw[hn,aiB rfl,e1];rfl
  ·rw[show (!(y.2.1==[]))=true by cases hp:y.2.1<;>simp_all,aio]
   cases h2:(cq (fun x:ak=>x.1) y.2.1 l).isSome with
   | true=>
    have hn:n1 l y=0:=by unfold n1;rw[aiA (fun h=>by rw[h2] at h;exact absurd h.2 (by simp))]
    rw[hn,aiB rfl];rfl
   | false=>
    have hn:n1 l y=9:=by unfold n1;rw[aiB ⟨e1,h2⟩]
    rw[hn,aiA (by omega)];rfl
 ·intro again
  unfold BF
  dsimp only
  rw[ay (by omega)]
 ·omega
noncomputable def Ad (a:aG):Int:=
 if lN a.1=false then 5 else if lN a.2.1=false then 5 else if ¬(1<=a.2.2.1/\a.2.2.1<=3652059) then 1
 else if 500<a.2.2.2.length then 2 else if bV (vX a.2.2.2) 0 a.2.2.2≠0 then bV (vX a.2.2.2) 0 a.2.2.2 else Oe a.2.2.2
theorem Me {l:List ak} (h:bV (vX l) 0 l=0):Asc (·.1) l:=by
 have step:∀ i x y,l[i]? =some x->l[i+1]? =some y->Op.bytesLess x.1 y.1=true:=fun i x y hx hy=>by
  have:=gF h (i+1) y hy
  rw[ah7] at this
  unfold vX at this
  split at this
  ·omega
  ·split at this
   ·omega
   ·rename_i h2
    have h3:Fh l (i+1) y=false:=by simpa using h2
    simp only[Fh,hx,afH,aik] at h3
    rcases sN x.1 y.1 with h1 | h1 | h1
    ·exact h1
    ·exact absurd h1.symm h3.2
    ·rw[h3.1] at h1;cases h1
 intro i j x y hij hx hy
 induction j generalizing y with
 | zero=>omega
 | succ j ih=>
  rcases ahS.1 hij with h1 | h1
  ·have hj:j<l.length:=by have:=(agB.1 hy).1;omega
   have hz:l[j]? =some l[j]:=aD hj
   exact er (ih _ h1 hz) (step j _ y hz hy)
  ·subst h1;exact step i x y hx hy
def LP (a:aG):Prop:=∀ p∈a.2.2.2,p.1.length<=9223372036854775807
theorem AS (a:aG) (hf:LP a):mu a=some (Ad a,()):=by
 unfold mu Ad
 simp only[Lc,Xc,aib]
 cases lN a.1 with
 | false=>rfl
 | true=>
 cases lN a.2.1 with
 | false=>rfl
 | true=>
 simp only[afG,ain,Bool.true_eq_false,aiz]
 by_cases n_c1:¬(1<=a.2.2.1/\a.2.2.1<=3652059)
 ·rw[aiq n_c1,aiB n_c1];rfl
 have c1:=Decidable.of_not_not n_c1
 rw[ais c1,aiA (by simpa using c1),afG,ain]
 by_cases c2:500<a.2.2.2.length
 ·rw[av (by omega),aiB c2]
 rw[ay (by omega),aiA c2]
 obtain⟨a1,a2,a3,l⟩:=a
 dsimp only at*
 rw[gA (f:=mM) (fun i=>(((l.length:Int),(i:Int),a1,a2,a3,l,()):mN)) l (vX l) (a1,a2,a3,l,()) ?_ ?_ ?_ _ ?_]
 ·refine Js _ _ _ _ fun z=> ?_
  dsimp only
  rw[LK (a1,a2,a3,l) (by dsimp only;omega) (Me z),aib]
 ·rfl
 ·intro i y again hy
  have hi:=(agB.1 hy).1
  unfold mM
  dsimp only
  rw[av (by omega),Ji l i y hy (by omega) (hf y (aha hy)),aib,au (by omega) (by omega)]
  dsimp only
  by_cases hz:vX l i y=0
  ·rw[hz];rfl
  ·rw[show (vX l i y != 0)=true by simpa using hz,aio,aiA hz]
 ·intro again
  unfold mM
  dsimp only
  rw[ay (by omega)]
 ·omega
theorem D4 (a:aG) (hf:LP a):vY a=some (Ad a,()):=by
 unfold vY Ad
 simp only[Nk,YE,aib]
 cases lN a.1 with
 | false=>rfl
 | true=>
 cases lN a.2.1 with
 | false=>rfl
 | true=>
 simp only[afG,ain,Bool.true_eq_false,aiz]
 by_cases n_c1:¬(1<=a.2.2.1/\a.2.2.1<=3652059)
 ·rw[aiq n_c1,aiB n_c1];rfl
 have c1:=Decidable.of_not_not n_c1
 rw[ais c1,aiA (by simpa using c1),afG,ain]
 by_cases c2:500<a.2.2.2.length
 ·rw[av (by omega),aiB c2]
 rw[ay (by omega),aiA c2]
 obtain⟨a1,a2,a3,l⟩:=a
 dsimp only at*
 rw[gA (f:=qx) (fun i=>((l,(l.length:Int),(i:Int),a1,a2,a3,l,()):qy)) l (vX l) (a1,a2,a3,l,()) ?_ ?_ ?_ _ ?_]
 ·refine Js _ _ _ _ fun z=> ?_
  dsimp only
  rw[XD l (by omega),aib]
 ·rfl
 ·intro i y again hy
  have hi:=(agB.1 hy).1
  unfold qx
  dsimp only
  rw[av (by omega),aV,hy,aib,Jl _ (hf y (aha hy)),aib]
  simp only[Lf,uk,aib,afF]
  have hw:w64 ((i:Int)+1)=((i+1:Nat):Int):=by rw[au (by omega) (by omega)];omega
  rw[hw]
  unfold vX
  have fin:(bif aX y.2.2.2 != 0 then some (Sum.inl (aX y.2.2.2,())) else again (l,(l.length:Int),((i+1:Nat):Int),a1,a2,a3,l,()))=if aX y.2.2.2=0 then again (l,(l.length:Int),((i+1:Nat):Int),a1,a2,a3,l,()) else some (Sum.inl (aX y.2.2.2,())):=by
   by_cases hz:aX y.2.2.2=0
   ·rw[hz];rfl
   ·rw[show (aX y.2.2.2 != 0)=true by simpa using hz,aio,aiA hz]
  rw[fin]
  cases i with
  | zero=>
   simp only[Fh]
   cases lbl y.1<;>cases qOk y.2.2.1 true<;>simp
  | succ i=>
   have hp:l[i]? =some (l[i]'(by omega)):=aD (by omega)
   have ep:Fh l (i+1) y=(Op.bytesLess y.1 (l[i]'(by omega)).1||y.1==(l[i]'(by omega)).1):=by simp only[Fh,hp]
   have hpos:decide (((i+1:Nat):Int)>0)=true:=by simp
   rw[AT (by omega) (by omega),hp,ep,hpos]
   simp only[aib,aio]
   generalize (Op.bytesLess y.1 (l[i]'(by omega)).1||y.1==(l[i]'(by omega)).1)=p
   cases lbl y.1<;>cases qOk y.2.2.1 true<;>cases p<;>simp
 ·intro again
  unfold qx
  dsimp only
  rw[ay (by omega)]
 ·omega
end Go.Md
namespace Go.Md
open Go.Dn
structure pU (a:aG):Prop where
 len:a.2.2.2.length<=500
 asc:Asc (·.1) a.2.2.2
 n1:NS a.2.2.2
 nl:yS a.2.2.2
theorem L3 {a:aG} (h:Ad a=0):pU a:=by
 unfold Ad at h
 split at h
 ·omega
 split at h
 ·omega
 split at h
 ·omega
 split at h
 ·omega
 split at h
 ·omega
 rename_i h1 h2
 have h3:bV (vX a.2.2.2) 0 a.2.2.2=0:=by omega
 unfold Oe at h
 split at h
 ·omega
 rename_i h4
 split at h
 ·omega
 rename_i h5
 exact⟨by omega,Me h3,Ir (by omega),Is (by omega)⟩
def lab (l:List ak) (i:Nat):Bys:=((l[i]?).map (·.1)).getD []
theorem Oa {l:List ak} {i:Nat} {p:ak} (h:l[i]? =some p):lab l i=p.1:=by unfold lab;rw[h];rfl
theorem aaC {a:aG} (h:pU a) {i:Nat} (hi:i<a.2.2.2.length):kT a (i:Int)=some (cI (cV a.2.2.2 i),true,()):=by
 obtain⟨out,ok,g1,g2,g3⟩:=Gg a h.len h.asc h.n1 i hi
 have:ok=true:=by
  cases ok with
  | true=>rfl
  | false=>exact absurd (g2.1 rfl) (h.nl i hi)
 rw[g1,g3 h.nl,this]
end Go.Md
