/-
  Plain facts: numbers, decimals, words written and read back; the plain law. No condition.
-/
import Derived.Test.YtjlkkapojeldlabGreatDoorYt
import Derived.Lib.ItoaNum
import Derived.Lib.Join
import Derived.Test.YtjlkkapojeldlabGreatDoorYh
import Derived.Test.YtjlkkapojeldlabGreatDoorYg
import Derived.Test.YtjlkkapojeldlabGreatDoorYp
import Derived.Test.YtjlkkapojeldlabGreatDoorYs
import Derived.Test.YtjlkkapojeldlabGreatDoorYf
set_option linter.all false
namespace Go.Md
open Go.Dn
theorem Bx (n:Nat):Lib.decDigits n≠[]:=by
 rw[Lib.decDigits]
 split<;>simp
theorem JO {d:Nat} (h:d<10):(UInt8.ofNat (48+d)).toNat=48+d:=by
 rw[UInt8.toNat_ofNat'];omega
theorem MU {d:Nat} (h:d<10):dz (UInt8.ofNat (48+d))=true:=by
 rw[xM,JO h];omega
theorem xL (n:Nat):(Lib.decDigits n).all dz=true:=by
 induction n using Nat.strongRecOn with
 | _ n ih=>
  rw[Lib.decDigits]
  split
  ·rename_i h;simp only[adP,List.all_nil,adm];exact MU h
  ·rename_i h
   rw[adO,ih (n / 10) (by omega)]
   simp only[adP,List.all_nil,adm,ady]
   exact MU (Nat.mod_lt _ (by omega))
theorem Eb (n:Nat):gp (Lib.decDigits n)=n:=by
 induction n using Nat.strongRecOn with
 | _ n ih=>
  rw[Lib.decDigits]
  split
  ·rename_i h
   show gp ([]++[UInt8.ofNat (48+n)])=n
   rw[Ib,JO h];simp[gp]
  ·rename_i h
   rw[Ib,ih (n / 10) (by omega),JO (Nat.mod_lt _ (by omega))]
   omega
theorem jv {n k:Nat} (h:n<10 ^ (k+1)):(Lib.decDigits n).length<=k+1:=by
 rw[Lib.decDigits_length]
 induction k generalizing n with
 | zero=>rw[Lib.nDigits_small (by simpa using h)];exact afq _
 | succ k ih=>
  by_cases h10:n<10
  ·rw[Lib.nDigits_small h10];omega
  ·rw[Lib.nDigits_big h10]
   have:=ih (n:=n / 10) (by rw[afG] at h;omega)
   omega
theorem SO {l:Bys} (h:l≠[]) (m:Bys):(l++m).head? =l.head? :=by
 cases l with
 | nil=>exact absurd rfl h
 | cons _ _=>rfl
theorem OF (n:Nat) (h:0<n):(Lib.decDigits n).head? ≠some 48:=by
 induction n using Nat.strongRecOn with
 | _ n ih=>
  rw[Lib.decDigits]
  split
  ·rename_i h10
   simp only[aex,ne_eq,Option.some.injEq]
   intro e
   have:=congrArg UInt8.toNat e
   rw[JO h10] at this
   have e48:(48:UInt8).toNat=48:=rfl
   omega
  ·rename_i h10
   rw[SO (Bx _)]
   exact ih (n / 10) (by omega) (by omega)
theorem Ea:Lib.decDigits 0=[48]:=by rw[Lib.decDigits];rfl
theorem D9 (n:Nat):(decide (1<(Lib.decDigits n).length)&&(Lib.decDigits n).head? ==some 48)=false:=by
 rcases afn n with rfl | h
 ·rw[Ea];rfl
 ·have:=OF n h
  rw[adi]
  exact .inr (afS.2 this)
theorem Gm (n:Nat) (c:UInt8) (h:dz c=false):c∉Lib.decDigits n:=fun hc=>by
 have:=adQ.1 (xL n) c hc
 rw[h] at this;cases this
theorem Ns {n:Nat} (h:n<10 ^ 16):iF (Lib.decDigits n)=true:=by
 unfold iF
 have h1:(Lib.decDigits n==[])=false:=afS.2 (Bx n)
 have h2:(Lib.decDigits n).length<=16:=jv (k:=15) (by omega)
 rw[h1,af0 h2,D9 n,xL n];rfl
theorem Y7 {n:Nat} (h:n<10 ^ 16):mX (Lib.decDigits n)=(n:Int):=by
 unfold mX
 rw[Ns h,afX,Eb]
theorem GK (c:UInt8):∀ w:Bys,c∉w->bh c w=[w]
 | [],_=>rfl
 | b::r,h=>by
  have hb:(b==c)=false:=afS.2 fun e=>h (by simp[e])
  simp only[bh,hb,afW]
  rw[GK c r (fun hc=>h (by simp[hc]))]
theorem Jg (c:UInt8):∀ (w t:Bys),c∉w->bh c (w++c::t)=w::bh c t
 | [],t,_=>by simp[bh]
 | b::r,t,h=>by
  have hb:(b==c)=false:=afS.2 fun e=>h (by simp[e])
  simp only[adV,bh,hb,afW]
  rw[Jg c r t (fun hc=>h (by simp[hc]))]
theorem jl (c:UInt8) (w v:Bys) (r:List Bys):Lib.join (w::v::r) [c]=w++c::Lib.join (v::r) [c]:=by
 simp[Lib.join,List.intercalate,List.intersperse]
theorem GJ (c:UInt8):∀ l:List Bys,l≠[]->(∀ w,w∈l->c∉w)->bh c (Lib.join l [c])=l
 | [],h,_=>absurd rfl h
 | [w],_,h=>by
  rw[Lib.join_one];exact GK c w (h w (by simp))
 | w::v::r,_,h=>by
  rw[jl,Jg c w _ (h w (by simp)),GJ c (v::r) (by simp) (fun x hx=>h x (by simp[hx]))]
theorem Th {c d:UInt8}:∀ {l:List Bys},d∈Lib.join l [c]->d=c\/∃ w,w∈l/\d∈w
 | [],h=>by simp[Lib.join_nil] at h
 | [w],h=>by rw[Lib.join_one] at h;exact .inr ⟨w,by simp,h⟩
 | w::v::r,h=>by
  rw[jl] at h
  simp only[aeN,aeO] at h
  rcases h with h | h | h
  ·exact .inr ⟨w,by simp,h⟩
  ·exact .inl h
  ·rcases Th h with h | ⟨x,hx,hd⟩
   ·exact .inl h
   ·exact .inr ⟨x,aeP _ hx,hd⟩
theorem SS (c:UInt8):∀ l:List Bys,(Lib.join l [c]).length<=(l.map fun w=>w.length+1).sum
 | []=>by simp[Lib.join_nil]
 | [w]=>by rw[Lib.join_one];simp
 | w::v::r=>by
  rw[jl]
  have:=SS c (v::r)
  simp only[aeK,List.sum_cons,aey,aez] at this ⊢
  omega
end Go.Md
namespace Go.Md
open Go.Dn
def bR (n p:Nat):Bys:=List.replicate (p+1 - (Lib.decDigits n).length) 48++Lib.decDigits n
def mh (n p:Nat):Bys:=bif p==0 then bR n p else (bR n p).take ((bR n p).length - p)++46::(bR n p).drop ((bR n p).length - p)
def eL (d:ah):Bys:=(bif decide (d.1<0) then [45] else [])++mh d.1.natAbs d.2.toNat
theorem vI (n p:Nat):(bR n p).all dz=true:=by
 unfold bR
 rw[adO,xL,adm,adQ]
 intro c hc
 rw[List.eq_of_mem_replicate hc];rfl
theorem Wy (k:Nat) (s:Bys):gp (List.replicate k 48++s)=gp s:=by
 unfold gp
 rw[List.foldl_append]
 congr 1
 induction k with
 | zero=>rfl
 | succ k ih=>rw[ae4,aed];exact ih
theorem Yj (n p:Nat):gp (bR n p)=n:=by
 unfold bR;rw[Wy,Eb]
theorem FP (n p:Nat):(bR n p).length=max (p+1) (Lib.decDigits n).length:=by
 unfold bR;rw[aey,aeE];omega
theorem pV (n p:Nat):p<(bR n p).length:=by rw[FP];omega
theorem RQ {s:Bys} (h:s.all dz=true) (k:Nat):(s.take k).all dz=true:=by
 rw[adQ] at h ⊢
 exact fun c hc=>h c (aeV hc)
theorem ZT {s:Bys} (h:s.all dz=true) (k:Nat):(s.drop k).all dz=true:=by
 rw[adQ] at h ⊢
 exact fun c hc=>h c (List.mem_of_mem_drop hc)
theorem KM {s:Bys} (h:s.all dz=true) {c:UInt8} (hc:dz c=false):c∉s:=fun hm=>by
 have:=adQ.1 h c hm
 rw[hc] at this;cases this
theorem Hs (n p:Nat):yw ((bR n p).take ((bR n p).length - p))=true:=by
 have hl:((bR n p).take ((bR n p).length - p)).length=(bR n p).length - p:=by rw[aeH];omega
 have hne:(bR n p).take ((bR n p).length - p)≠[]:=fun e=>by
  have:=congrArg List.length e
  rw[hl] at this
  have:=pV n p
  simp at *;omega
 have hform:(decide (1<((bR n p).take ((bR n p).length - p)).length)&&((bR n p).take ((bR n p).length - p)).head? ==some 48)=false:=by
  by_cases h:p+1<(Lib.decDigits n).length
  ·have e:bR n p=Lib.decDigits n:=by
    unfold bR;rw[show p+1 - (Lib.decDigits n).length=0 by omega];rfl
   rw[e]
   have hf:=D9 n
   rw[af0 (by omega),ady] at hf
   rw[adi]
   right
   rw[List.head?_take,af8 (by omega)]
   exact hf
  ·rw[adi]
   left
   rw[hl,FP]
   exact afZ (by omega)
 unfold yw
 rw[af0 hne,RQ (vI n p),hform];rfl
theorem Hw (n p:Nat):eV 46 (mh n p)=((bR n p).take ((bR n p).length - p),(bR n p).drop ((bR n p).length - p), !(p==0)):=by
 unfold mh
 cases hp:(p==0) with
 | true=>
  have:p=0:=eq_of_beq hp
  subst this
  rw[afX,PY 46 _ (KM (vI n 0) rfl),Nat.sub_zero,afc,List.drop_length];rfl
 | false=>
  rw[afW,E9 46 _ _ (KM (RQ (vI n p) _) rfl)];rfl
theorem ZX (n p:Nat) (hp:p<=9):Rv (eV 46 (mh n p))=true:=by
 rw[Hw]
 unfold Rv
 dsimp only
 rw[Hs,ady]
 cases h:(p==0) with
 | true=>rfl
 | false=>
  have h0:p≠0:=fun e=>by subst e;cases h
  have hl:((bR n p).drop ((bR n p).length - p)).length=p:=by
   rw[aeA];have:=pV n p;omega
  have hne:(bR n p).drop ((bR n p).length - p)≠[]:=fun e=>h0 (by have:=congrArg List.length e;rw[hl] at this;exact this)
  rw[adu,afX,af0 hne,ZT (vI n p),af0 (by omega)];rfl
theorem PU (n p:Nat):(mh n p).length<=(bR n p).length+1:=by
 unfold mh
 cases (p==0) with
 | true=>rw[afX];omega
 | false=>
  rw[afW,aey,aez,aeH,aeA];omega
theorem R6 (n p:Nat):mh n p≠[]:=fun e=>by
 have h:=Hw n p
 rw[e] at h
 have h1:[]=(bR n p).take ((bR n p).length - p):=congrArg (·.1) h
 have h2:=Hs n p
 rw[<- h1] at h2
 cases h2
theorem Wm (n p:Nat):(mh n p).head? ≠some 45:=by
 have hm:∀ c,(mh n p).head? =some c->dz c=true:=by
  intro c hc
  have hb:(bR n p).all dz=true:=vI n p
  unfold mh at hc
  cases h:(p==0) with
  | true=>
   rw[h,afX] at hc
   exact adQ.1 hb c (List.mem_of_mem_head? hc)
  | false=>
   rw[h,afW] at hc
   have hne:(bR n p).take ((bR n p).length - p)≠[]:=fun e=>by
    have:=congrArg List.length e
    rw[aeH] at this
    have:=pV n p
    simp at *;omega
   rw[SO hne] at hc
   exact adQ.1 hb c (aeV (List.mem_of_mem_head? hc))
 intro h
 have:=hm 45 h
 cases this
theorem XJ (d:ah):mL (eL d)=(decide (d.1<0),mh d.1.natAbs d.2.toNat):=by
 unfold eL
 cases h:decide (d.1<0) with
 | true=>rfl
 | false=>
  rw[afW,aeZ]
  have hne:=R6 d.1.natAbs d.2.toNat
  have hh:=Wm d.1.natAbs d.2.toNat
  generalize mh d.1.natAbs d.2.toNat=s at hne hh ⊢
  cases s with
  | nil=>exact absurd rfl hne
  | cons b r=>
   have hb:(b==45)=false:=afS.2 fun e=>hh (by rw[e];rfl)
   simp[mL,hb]
theorem Bw {d:ah} (h:bY d):(eL d).length<=19:=by
 obtain⟨h1,h3,h4⟩:=h
 have h5:(Lib.decDigits d.1.natAbs).length<=16:=jv (k:=15) (by have:(10:Nat) ^ (15+1)=10000000000000000:=rfl;omega)
 have h6:=PU d.1.natAbs d.2.toNat
 rw[FP] at h6
 unfold eL
 rw[aey]
 cases decide (d.1<0)<;>simp<;>omega
theorem xb {d:ah} (h:bY d):eK (eL d)=(d,0):=by
 have hl:=Bw h
 obtain⟨h1,h3,h4⟩:=h
 unfold eK
 rw[afZ (by omega),afW,XJ]
 dsimp only
 rw[ZX _ _ (by omega),afX,Hw]
 unfold Nq
 dsimp only
 rw[afa,Yj]
 have e:(((bR d.1.natAbs d.2.toNat).drop ((bR d.1.natAbs d.2.toNat).length - d.2.toNat)).length:Int)=d.2:=by
  rw[aeA]
  have:=pV d.1.natAbs d.2.toNat
  omega
 rw[e]
 obtain⟨a,b⟩:=d
 simp only at h1 h3 h4 ⊢
 rw[af0 (show a.natAbs<=1000000000000000 by omega)]
 by_cases hn:a<0
 ·rw[af0 hn,afZ (show ¬ a.natAbs=0 by omega)]
  simp only[adk,afW,afX]
  congr 2
  omega
 ·rw[afZ hn]
  simp only[adn,afW,afX]
  congr 2
  omega
theorem aaZ (d:ah):eL d≠[]:=fun e=>by
 unfold eL at e
 exact R6 _ _ (List.append_eq_nil_iff.1 e).2
theorem YX {n p:Nat} {c:UInt8} (h:c∈mh n p):dz c=true\/c=46:=by
 have hb:∀ c,c∈bR n p->dz c=true:=adQ.1 (vI n p)
 unfold mh at h
 cases hp:(p==0) with
 | true=>rw[hp,afX] at h;exact .inl (hb c h)
 | false=>
  rw[hp,afW] at h
  simp only[aeN,aeO] at h
  rcases h with h | h | h
  ·exact .inl (hb c (aeV h))
  ·exact .inr h
  ·exact .inl (hb c (List.mem_of_mem_drop h))
theorem IL (d:ah) {c:UInt8} (h:dz c=false) (h1:c≠46) (h2:c≠45):c∉eL d:=fun hc=>by
 unfold eL at hc
 rcases aeN.1 hc with hc | hc
 ·cases hd:decide (d.1<0) with
  | true=>rw[hd] at hc;simp at hc;exact h2 hc
  | false=>rw[hd] at hc;simp at hc
 ·rcases YX hc with hc | hc
  ·rw[h] at hc;cases hc
  ·exact h1 hc
end Go.Md
namespace Go.Md
open Go.Dn
theorem Z7 (n:Nat) (h:n<100):Lib.decDigits n=So n:=by
 unfold So
 rw[Lib.decDigits]
 by_cases h1:n<10
 ·simp[h1]
 ·rw[dif_neg h1,Lib.decDigits,dif_pos (by omega),af8 h1];rfl
theorem Vz {n:Nat} (h:n<=9223372036854775807):strconv_Itoa (n:Int)=some (Lib.decDigits n,()):=by
 unfold strconv_Itoa
 by_cases h1:n<100
 ·rw[show (decide (0<=(n:Int))&&decide ((n:Int)<100))=true by rw[adj];exact⟨af0 (by omega),af0 (by omega)⟩,afX,adN,Z7 n h1]
 ·rw[show (decide (0<=(n:Int))&&decide ((n:Int)<100))=false by rw[afZ (show ¬(n:Int)<100 by omega),adk],afW,
   show (decide (-9223372036854775808<=(n:Int))&&decide ((n:Int)<=9223372036854775807))=true by rw[adj];exact⟨af0 (by omega),af0 (by omega)⟩,afX]
  unfold Lib.itoa
  rw[af8 (by omega),adN]
theorem Zu (k:Nat) (h:k<=1000):strings_Repeat [48] (k:Int)=some (Lib.repeatL [48] k,()):=by
 unfold strings_Repeat
 rw[adN,show (decide (0<=(k:Int))&&(decide ((k:Int)<=9223372036854775807)&&decide ([(48:UInt8)].length*k<=140737488355328)))=true by
  rw[adj,adj]
  exact⟨af0 (by omega),af0 (by omega),af0 (by simp;omega)⟩,afX]
theorem Z9 (r d:Nat) (hr:r<10) (hd:d<4294967296):qg (r:Int) (d:Int) 10=some ((((r*4294967296+d) / 10:Nat):Int),(((r*4294967296+d) % 10:Nat):Int),()):=by
 unfold qg
 have e1:bB ((r:Int)*2 ^ 32)=((2 ^ 32*r:Nat):Int):=by rw[cQ (by omega) (by omega)];omega
 have e2:bB (bB (r:Int)*2 ^ 32)=((2 ^ 32*r:Nat):Int):=by rw[cQ (n:=(r:Int)) (by omega) (by omega)];exact e1
 have e3:bB (d:Int)=(d:Int):=cQ (by omega) (by omega)
 have e4:bB (10:Int)=10:=rfl
 have e5:((BitVec.ofInt (IntKind.bits .u64) ((2 ^ 32*r:Nat):Int) ||| BitVec.ofInt (IntKind.bits .u64) (d:Int)).toNat:Int)=((r*4294967296+d:Nat):Int):=by
  rw[show IntKind.bits .u64=64 from rfl,Wp 64 (by omega) (by omega),Zb (k:=32) (by omega)]
  omega
 have e6:bB ((r*4294967296+d:Nat):Int)=((r*4294967296+d:Nat):Int):=cQ (by omega) (by omega)
 rw[show ((10:Int) != 0)=true from rfl,afX,afZ (show ¬(10:Int)<=(r:Int) by omega),afJ]
 dsimp only
 rw[afW,aU]
 dsimp only
 rw[e2,e3,e4,e5,e6,show ((10:Int) != 0)=true from rfl,aC rfl,aC rfl]
 have q1:Int.tdiv ((r*4294967296+d:Nat):Int) 10=(((r*4294967296+d) / 10:Nat):Int):=by
  rw[adL (by omega)];omega
 have q2:Int.tmod ((r*4294967296+d:Nat):Int) 10=(((r*4294967296+d) % 10:Nat):Int):=by
  rw[adM (by omega)];omega
 rw[q1,q2,cQ (by omega) (by omega),EN (by omega) (by omega),EN (by omega) (by omega)]
theorem TN {l:List Int} {k:Nat} (q:Int):v32 ((l.set k q).take k)=v32 (l.take k):=by rw[List.take_set_of_le (afq k)]
theorem N7 (o:List Int) (ng:Bool) (ab:List Int):∀ (k f:Nat) (l:List Int) (r:Nat),k<f->k<=l.length->l.length<=1000000->Dg l->r<10-> ∃ (l':List Int) (r':Nat),iter f ((o,l,(r:Int),(k:Int) - 1,ng,ab,()):nB) dJ=some (Sum.inr (o,l',(r':Int),ng,ab,()))/\ l'.length=l.length/\Dg l'/\l'.drop k=l.drop k/\r'<10/\v32 (l.take k)+4294967296 ^ k*r=10*v32 (l'.take k)+r'
 | 0,f+1,l,r,_,_,_,hd,hr=>by
  refine⟨l,r, ?_,rfl,hd,rfl,hr,by simp[vP]⟩
  show dJ _ (fun y=>iter f y dJ)=_
  generalize (fun y=>iter f y dJ)=again
  unfold dJ
  dsimp only
  rw[aM (by omega)]
 | k+1,f+1,l,r,hf,hk,hl,hd,hr=>by
  have hy:l[k]? =some l[k]:=ael (by omega)
  generalize l[k]=y at hy
  have hy2:=hd.get hy
  obtain⟨d,rfl⟩:∃ d:Nat,y=d:=⟨y.toNat,by omega⟩
  have hd32:d<4294967296:=by omega
  obtain⟨l',r',h1,h2,h3,h4,h5,h6⟩:=N7 o ng ab k f (l.set k (((r*4294967296+d) / 10:Nat):Int)) ((r*4294967296+d) % 10) (by omega) (by rw[aeF];omega) (by rw[aeF];omega) (hd.set (by omega)) (by omega)
  rw[aeF] at h2
  have hlt':k<l'.length:=by omega
  have hk':l'[k]? =some (((r*4294967296+d) / 10:Nat):Int):=by
   have e:=congrArg (fun q:List Int=>q[0]?) h4
   simp only[aek,afj] at e
   rw[e,aes (by omega)]
  refine⟨l',r', ?_,h2,h3, ?_,h5, ?_⟩
  ·show dJ _ (fun y=>iter f y dJ)=_
   generalize hag:(fun y=>iter f y dJ)=again
   unfold dJ
   dsimp only
   have e0:((k+1:Nat):Int) - 1=(k:Int):=by omega
   rw[e0,aI (by omega),aC (by simp;omega),adN,hy,afJ,Z9 r d hr hd32,afJ,aC (by simp;omega),afJ]
   dsimp only
   rw[aK (by omega) (by omega), <- hag]
   exact h1
  ·have:=congrArg (List.drop 1) h4
   rw[ad0,ad0,List.drop_set_of_lt (by omega)] at this
   exact this
  ·rw[TN] at h6
   rw[ff hy,ff hk']
   rw[adK]
   have hdm:(((r*4294967296+d) / 10:Nat):Int)*10+(((r*4294967296+d) % 10:Nat):Int)=(r:Int)*4294967296+d:=by omega
   have h7:=congrArg (fun z:Int=>4294967296 ^ k*z) hdm
   rw[adC,adC] at h7
   generalize (4294967296:Int) ^ k=P at*
   grind
def rdF:Nat->Nat->List Int
 | 0,_=>[]
 | f+1,n=>if n=0 then [] else ((48+n % 10:Nat):Int)::rdF f (n / 10)
def rd (n:Nat):List Int:=rdF n n
theorem Zo:∀ (f g n:Nat),n<=f->n<=g->rdF f n=rdF g n
 | 0,0,_,_,_=>rfl
 | 0,g+1,n,h,_=>by have:n=0:=by omega
                   subst this;simp[rdF]
 | f+1,0,n,_,h=>by have:n=0:=by omega
                   subst this;simp[rdF]
 | f+1,g+1,n,hf,hg=>by
  by_cases hn:n=0
  ·subst hn;simp[rdF]
  ·simp only[rdF,hn,af7]
   rw[Zo f g (n / 10) (by omega) (by omega)]
theorem Pw:rd 0=[]:=rfl
theorem Zq {n:Nat} (h:0<n):rd n=((48+n % 10:Nat):Int)::rd (n / 10):=by
 obtain⟨m,rfl⟩:∃ m,n=m+1:=⟨n - 1,by omega⟩
 unfold rd
 rw[rdF,af8 (by omega),Zo m ((m+1) / 10) _ (by omega) (afq _)]
theorem Zp:∀ n:Nat,0<n->(rd n).reverse.map (fun z=>UInt8.ofNat z.toNat)=Lib.decDigits n:=by
 intro n
 induction n using Nat.strongRecOn with
 | _ n ih=>
  intro h
  rw[Zq h,Lib.decDigits]
  split
  ·rename_i h10
   rw[Nat.div_eq_of_lt h10,Pw,Nat.mod_eq_of_lt h10];rfl
  ·rename_i h10
   rw[List.reverse_cons,aeI,ih (n / 10) (by omega) (by omega)];rfl
theorem acm (n:Nat) (h:0<n):(rd n).length=(Lib.decDigits n).length:=by
 rw[<- Zp n h];simp
theorem XO (ng:Bool) (ab:List Int) (hab:ab.length<=1000000):∀ (n f:Nat) (o:List Int),(rd n).length<f->n<4294967296 ^ 99->o.length+(rd n).length<=1000000-> iter f ((o,bX n,ng,ab,()):kj) iP=some (Sum.inr (o++rd n,ng,ab,())):=by
 intro n
 induction n using Nat.strongRecOn with
 | _ n ih=>
  intro f o hf hn ho
  obtain⟨f,rfl⟩:∃ g,f=g+1:=⟨f - 1,by omega⟩
  show iP _ (fun y=>iter f y iP)=_
  generalize hag:(fun y=>iter f y iP)=again
  unfold iP
  dsimp only
  rcases afn n with rfl | h
  ·rw[CB,aM (by simp),Pw,adU]
  ·have hne:=yG h
   have hlp:0<(bX n).length:=aeD.2 hne
   have hll:(bX n).length<=99:=qG hn
   rw[aI (by omega)]
   obtain⟨l',r',h1,h2,h3,h4,h5,h6⟩:=N7 o ng ab (bX n).length (List.length o+(List.length (bX n)+(Int.natAbs (0:Int)+(Int.natAbs (w64 (((List.length (bX n):Int)) - 1))+(List.length ab+2))))) (bX n) 0 (by omega) (afq _) (by omega) (gq n) (by omega)
   rw[aK (by omega) (by omega)] at h1 ⊢
   have h1':=h1
   rw[show ((0:Nat):Int)=0 from rfl] at h1'
   rw[h1',aU]
   dsimp only
   rw[afc,fC, <- h2,afc,Int.natCast_zero,Int.mul_zero,Int.add_zero] at h6
   have hv:=xg h3
   have hrl:=Zq h
   have hrl2:(rd n).length=(rd (n / 10)).length+1:=by rw[hrl];rfl
   have e1:r'=n % 10:=by omega
   have e2:(v32 l').toNat=n / 10:=by omega
   rw[aC (by rw[adj];exact⟨af0 (by omega),af0 (by rw[fo];omega)⟩)]
   have ht:iN l'=some (bX (n / 10),()):=by
    unfold iN
    rw[af0 (by omega),afX,TJ h3,e2]
   rw[ht,afJ]
   dsimp only
   have e3:wu8 (48+wu8 (r':Int))=((48+n % 10:Nat):Int):=by
    have q1:wu8 (r':Int)=(r':Int):=EM (by show (0:Int)<=_;omega) (by show _<=(255:Int);omega)
    have q2:wu8 (48+(r':Int))=48+(r':Int):=EM (by show (0:Int)<=_;omega) (by show _<=(255:Int);omega)
    rw[q1,q2];omega
   rw[e3]
   have:=ih (n / 10) (by omega) f (o++[((48+n % 10:Nat):Int)]) (by omega) (by have:=Nat.div_le_self n 10;omega) (by rw[aey];simp only[aeG];omega)
   rw[<- hag]
   refine this.trans ?_
   rw[hrl,adT];rfl
end Go.Md
namespace Go.Md
open Go.Dn
def acZ (m q:List Int) (i:Nat):Prop:=q.length=m.length/\∀ t:Nat,q[t]? =if t<m.length/\(t<i\/m.length - i<=t) then m[m.length - 1 - t]? else m[t]?
theorem Zv (m:List Int) (hm:m.length<=1000000):∀ (f i:Nat) (q:List Int),m.length+1<=f+i->i<=m.length->acZ m q i->iter f (((i:Int),(m.length:Int) - 1 - i,q,()):jt) fm=some (Sum.inr (m.reverse,()))
 | 0,i,q,hf,hi,_=>by omega
 | f+1,i,q,hf,hi,⟨hq1,hq2⟩=>by
  show fm _ (fun y=>iter f y fm)=_
  generalize hag:(fun y=>iter f y fm)=again
  unfold fm
  dsimp only
  by_cases h:(i:Int)<(m.length:Int) - 1 - i
  ·have hj:((m.length:Int) - 1 - i).toNat=m.length - 1 - i:=by omega
   have hij:i<m.length - 1 - i:=by omega
   have hy2:q[m.length - 1 - i]? =some m[m.length - 1 - i]:=by
    rw[hq2,af8 (by omega)];exact ael (by omega)
   have hy3:q[i]? =some m[i]:=by
    rw[hq2,af8 (by omega)];exact ael (by omega)
   rw[aI h,hj,aC (by rw[hq1];simp only[adj,af1];omega),hy2,afJ,adN,aC (by rw[hq1];simp only[adj,af1];omega),hy3,afJ,
    aC (by rw[hq1];simp only[adj,af1];omega),afJ,aC (by rw[aeF,hq1];simp only[adj,af1];omega)]
   rw[aer (by omega),hy2,afJ,aK (by omega) (by omega),aK (by omega) (by omega), <- hag]
   have:=Zv m hm f (i+1) ((q.set i m[m.length - 1 - i]).set (m.length - 1 - i) m[i]) (by omega) (by omega) ⟨by simp[hq1],fun t=> ?_⟩
   ·rw[show (((i+1:Nat):Int))=(i:Int)+1 by omega,show (m.length:Int) - 1 - ((i:Int)+1)=(m.length:Int) - 1 - i - 1 by omega] at this
    exact this
   ·by_cases ht1:t=m.length - 1 - i
    ·subst ht1
     rw[aes (by simp[hq1];omega),af9 (by omega),show m.length - 1 - (m.length - 1 - i)=i by omega]
     exact (ael (by omega)).symm
    ·rw[aer (Ne.symm ht1)]
     by_cases ht2:t=i
     ·subst ht2
      rw[aes (by omega),af9 (by omega)]
      exact (ael (by omega)).symm
     ·rw[aer (Ne.symm ht2),hq2]
      by_cases hc:t<m.length/\(t<i\/m.length - i<=t)
      ·rw[af9 hc,af9 (by omega)]
      ·rw[af8 hc,af8 (by omega)]
  ·rw[aM h]
   have:q=m.reverse:=by
    apply ad9
    intro t
    rw[hq2]
    by_cases ht:t<m.length
    ·rw[List.getElem?_reverse ht]
     by_cases hc:t<m.length/\(t<i\/m.length - i<=t)
     ·rw[af9 hc]
     ·rw[af8 hc]
      congr 1
      omega
    ·rw[af8 (by omega),aem (by omega),aem (by simp<;>omega)]
   rw[this]
theorem NG (m:List Int) (hm:m.length<=1000000):iY m=some (m.reverse,()):=by
 unfold iY
 have h:=Zv m hm (Int.natAbs (0:Int)+(Int.natAbs (w64 (((List.length m:Int)) - 1))+(List.length m+2))) 0 m (by omega) (by omega) ⟨rfl,fun t=>by rw[af8 (by omega)]⟩
 rw[show (((0:Nat):Int))=0 from rfl,Int.sub_zero] at h
 rw[aK (by omega) (by omega)] at h ⊢
 rw[h,aU]
theorem Wr (l:List Int) (hl:l.length<=1000000):lE l=some (l,()):=by
 unfold lE
 have e:chk (decide ((0+(List.length l))*4<=140737488355328)&&decide (0+(List.length l)<=maxLen)) (some (l,()))=some (l,()):=aC (by rw[adj];exact⟨af0 (by omega),af0 (by rw[fo];omega)⟩) _
 cases l with
 | nil=>rw[List.isEmpty_nil,afX,e];exact Ya _
 | cons a r=>rw[List.isEmpty_cons,afW,e]
theorem Sw {n:Nat} (h:n<=1000000000000000):(bX n).length<=2:=qG (by have:(4294967296:Nat) ^ 2=18446744073709551616:=rfl;omega)
theorem aaB {n:Nat} (h:n<=1000000000000000):(rd n).length<=16:=by
 rcases afn n with rfl | hp
 ·rw[Pw];exact afI _
 ·rw[acm n hp]
  exact jv (k:=15) (by have:(10:Nat) ^ (15+1)=10000000000000000:=rfl;omega)
theorem acC:(18446744073709551616:Nat)<=4294967296 ^ 99:=by decide +kernel
theorem Rs (n:Nat) (h:n<=1000000000000000):sO (W (n:Int))=some (Lib.decDigits n,()):=by
 unfold sO W
 dsimp only
 rw[adI,afZ (show ¬ (n:Int)<0 by omega)]
 rcases afn n with rfl | hp
 ·rw[CB,Ea];rfl
 ·have hne:=yG hp
  have hlp:0<(bX n).length:=aeD.2 hne
  have h2:=Sw h
  have h16:=aaB h
  have hb:((((bX n).length:Nat):Int)==0)=false:=by simp;omega
  rw[hb,afW,Wr _ (by omega),afJ]
  dsimp only
  have ho:=XO false (bX n) (by omega) n (20*(bX n).length+2) [] (by omega) (aft (by omega) acC) (by simp<;>omega)
  rw[ho,aU]
  dsimp only
  rw[afW,aeZ,NG _ (by omega),afJ]
  have:=Zp n hp
  rw[<- this]
theorem abs_eq (z:Int) (h:z.natAbs<=1000000000000000):uM (W z)=some (W ((z.natAbs:Nat):Int),()):=by
 unfold uM W
 dsimp only
 rw[jW false _ (gq _) (by have:=Sw h;omega),afJ]
 simp only[ado,af7,fC]
 rfl
theorem DD:∀ k:Nat,Lib.repeatL [48] k=List.replicate k (48:UInt8)
 | 0=>rfl
 | k+1=>by rw[Lib.repeatL,DD k];rfl
theorem Qo {n p:Nat} (hp:p<=9) (h:n<=1000000000000000):∃ r,strings_Repeat [48] (if w64 (w64 ((p:Int)+1) - ((Lib.decDigits n).length:Int))>0 then w64 (w64 ((p:Int)+1) - ((Lib.decDigits n).length:Int)) else 0)=some (r,())/\r++Lib.decDigits n=bR n p/\r.length<=10:=by
 have hl:(Lib.decDigits n).length<=16:=jv (k:=15) (by have:(10:Nat) ^ (15+1)=10000000000000000:=rfl;omega)
 rw[aK (n:=(p:Int)+1) (by omega) (by omega),aK (by omega) (by omega)]
 have e:(if (p:Int)+1 - ((Lib.decDigits n).length:Int)>0 then (p:Int)+1 - ((Lib.decDigits n).length:Int) else 0)=((p+1 - (Lib.decDigits n).length:Nat):Int):=by split<;>omega
 rw[e,Zu _ (by omega)]
 refine⟨_,rfl, ?_, ?_⟩
 ·rw[DD];rfl
 ·rw[DD,aeE];omega
theorem Pp {n p:Nat} (hp:p<=9) (h:n<=1000000000000000):(bR n p).length<=16:=by
 have hl:(Lib.decDigits n).length<=16:=jv (k:=15) (by have:(10:Nat) ^ (15+1)=10000000000000000:=rfl;omega)
 rw[FP];omega
theorem Xp {n p:Nat} (hp:p<=9) (h:n<=1000000000000000):rV (Lib.decDigits n) (p:Int)=some ((bR n p).take ((bR n p).length - p),(bR n p).drop ((bR n p).length - p),()):=by
 unfold rV
 dsimp only
 obtain⟨r,h1,h2,h3⟩:=Qo hp h
 have h16:=Pp hp h
 have hgt:=pV n p
 have hl:(Lib.decDigits n).length<=16:=jv (k:=15) (by have:(10:Nat) ^ (15+1)=10000000000000000:=rfl;omega)
 rw[h1,afJ]
 dsimp only
 rw[aC (af0 (by rw[fo];omega)),h2]
 have e:w64 (((bR n p).length:Int) - (p:Int))=(((bR n p).length - p:Nat):Int):=by rw[aK (by omega) (by omega)];omega
 rw[e,aC (by simp<;>omega),aC (by simp<;>omega),adN,adN,ad6,afc]
theorem Ol {d:ah} (h:bY d):yB d=some (eL d,0,()):=by
 unfold yB
 rw[gk,af9 h,afJ]
 obtain⟨h1,h3,h4⟩:=h
 obtain⟨a,b⟩:=d
 dsimp only at h1 h3 h4 ⊢
 obtain⟨p,rfl⟩:∃ p:Nat,b=p:=⟨b.toNat,by omega⟩
 rw[zne,afW,yZ a (by omega) (by omega),afJ,abs_eq a h1,afJ,Rs _ h1,afJ,Xp (by omega) h1,afJ]
 have hs:tF (a,(p:Int))=some ((bif decide (a<0) then [45] else []),()):=by
  unfold tF
  dsimp only
  cases decide (a<0)<;>rfl
 have h16:=Pp (n:=a.natAbs) (p:=p) (by omega) h1
 have hsl:(bif decide (a<0) then [(45:UInt8)] else []).length<=1:=by cases decide (a<0)<;>simp
 rw[hs]
 unfold eL mh
 dsimp only
 rw[adN]
 generalize hsg:(bif decide (a<0) then [(45:UInt8)] else [])=sg at hsl
 have hpz:((p:Int)==0)=(p==0):=by
  by_cases hh:p=0
  ·subst hh;rfl
  ·have e1:(p==0)=false:=afS.2 hh
   have e2:((p:Int)==0)=false:=afS.2 (by omega)
   rw[e1,e2]
 rw[hpz]
 cases hp:(p==0) with
 | true=>
  have hp0:p=0:=eq_of_beq hp
  subst hp0
  rw[afX,afX,afJ,Nat.sub_zero,afc]
  dsimp only
  rw[aC (af0 (by rw[fo];omega))]
 | false=>
  rw[afW,afW,afJ]
  dsimp only
  rw[aC (af0 (by rw[fo,aeH];omega)),aC (af0 (by rw[fo,aey,aeH];simp;omega)),
   aC (af0 (by rw[fo,aey,aey,aeH,aeA];simp;omega))]
  simp only[adT,ae8]
theorem nD {d:ah} (h:bY d):cR d=some (eL d,()):=by
 unfold cR
 rw[Ol h];rfl
theorem Xw {d:ah} (h:bY d):JU d=some (eL d,0,()):=by
 unfold JU
 rw[xz,af9 h,afJ]
 obtain⟨h1,h3,h4⟩:=h
 obtain⟨a,b⟩:=d
 dsimp only at h1 h3 h4 ⊢
 obtain⟨p,rfl⟩:∃ p:Nat,b=p:=⟨b.toNat,by omega⟩
 have em:(if w64 (0 - a)>a then w64 (0 - a) else a)=((a.natAbs:Nat):Int):=by
  rw[aK (by omega) (by omega)];split<;>omega
 obtain⟨r,g1,g2,g3⟩:=Qo (n:=a.natAbs) (p:=p) (by omega) h1
 have h16:=Pp (n:=a.natAbs) (p:=p) (by omega) h1
 have hgt:=pV a.natAbs p
 have hl:(Lib.decDigits a.natAbs).length<=16:=jv (k:=15) (by have:(10:Nat) ^ (15+1)=10000000000000000:=rfl;omega)
 rw[zne,afW,em,Vz (by omega),afJ]
 dsimp only
 rw[g1,afJ]
 dsimp only
 rw[aC (af0 (by rw[fo];omega)),g2]
 have e:w64 (((bR a.natAbs p).length:Int) - (p:Int))=(((bR a.natAbs p).length - p:Nat):Int):=by rw[aK (by omega) (by omega)];omega
 rw[e]
 have hb:(bif decide ((p:Int)>0) then
  chk (decide (0<=(0:Int))&&decide ((0:Int)<=(((bR a.natAbs p).length - p:Nat):Int))&&decide ((((bR a.natAbs p).length - p:Nat):Int)<=((bR a.natAbs p).length:Int))) <|
  chk (decide (List.length (List.drop 0 (List.take (Int.toNat (((bR a.natAbs p).length - p:Nat):Int)) (bR a.natAbs p)))+List.length [(46:UInt8)]<=maxLen)) <|
  chk (decide (0<=(((bR a.natAbs p).length - p:Nat):Int))&&decide ((((bR a.natAbs p).length - p:Nat):Int)<=((bR a.natAbs p).length:Int))&&decide (((bR a.natAbs p).length:Int)<=((bR a.natAbs p).length:Int))) <|
  chk (decide (List.length ((List.drop 0 (List.take (Int.toNat (((bR a.natAbs p).length - p:Nat):Int)) (bR a.natAbs p)))++[46])+List.length (List.drop (Int.toNat (((bR a.natAbs p).length - p:Nat):Int)) (List.take (Int.toNat ((bR a.natAbs p).length:Int)) (bR a.natAbs p)))<=maxLen)) <|
  some (Sum.inr (α:=Bys×Int×Unit) (((List.drop 0 (List.take (Int.toNat (((bR a.natAbs p).length - p:Nat):Int)) (bR a.natAbs p)))++[46])++(List.drop (Int.toNat (((bR a.natAbs p).length - p:Nat):Int)) (List.take (Int.toNat ((bR a.natAbs p).length:Int)) (bR a.natAbs p))),a,(p:Int),()))
  else
   some (Sum.inr (bR a.natAbs p,a,(p:Int),())))=some (Sum.inr (mh a.natAbs p,a,(p:Int),())):=by
  unfold mh
  by_cases hp:p=0
  ·subst hp
   rw[aM (by omega),show ((0:Nat)==0)=true from rfl,afX]
  ·rw[aI (by omega),afS.2 hp,afW,adN,adN,ad6,afc,
    aC (by simp<;>omega),aC (af0 (by rw[fo,aeH];simp;omega)),aC (by simp<;>omega),aC (af0 (by rw[fo,aey,aeH,aeA];simp;omega))]
   simp only[adT,ae8]
 refine (congrArg (fun o=>aJ o _) hb).trans ?_
 rw[aU]
 dsimp only
 unfold eL
 dsimp only
 rw[adN]
 have hbl:=PU a.natAbs p
 cases hn:decide (a<0) with
 | true=>rw[afX,afX,aC (af0 (by rw[fo];simp;omega))]
 | false=>rw[afW,afW,aeZ]
end Go.Md
namespace Go.Md
open Go.Dn
theorem oF {s:Bys} (h:eG s=true):s≠[]/\s.length<=40/\∀ c,c∈s->nmB c=true:=by
 unfold eG eA at h
 by_cases h1:(s.length:Int)<1
 ·rw[aI h1] at h;cases h
 rw[aM h1] at h
 by_cases h2:(s.length:Int)>40
 ·rw[aI h2] at h;cases h
 rw[aM h2] at h
 refine⟨fun e=>h1 (by rw[e];decide),by omega, ?_⟩
 have ht:fV s [97,98,99,100,101,102,103,104,105,106,107,108,109,110,111,112,113,114,115,116,117,118,119,120,121,122,48,49,50,51,52,53,54,55,56,57,45]=some (Lib.trimS s nmC,()):=by
  unfold fV
  rw[show (decide (s.length<=9223372036854775807))=true by simp;omega]
  rfl
 cases hs:iS s 0 with
 | none=>rw[hs] at h;cases h
 | some c1=>
  rw[hs,afJ] at h
  cases h3:decide ((c1.toNat:Int)<97) with
  | true=>rw[h3] at h;cases h
  | false=>
   rw[h3,afW,afJ] at h
   cases h4:decide ((c1.toNat:Int)>122) with
   | true=>rw[h4] at h;cases h
   | false=>
    rw[h4,afW,ht,afJ] at h
    have h5:(Lib.trimS s nmC==[])=true:=h
    rw[QB] at h5
    exact adQ.1 h5
theorem Y5 {s:Bys} (h:eG s=true) {c:UInt8} (hc:nmB c=false):c∉s:=fun hm=>by
 rw[(oF h).2.2 c hm] at hc;cases hc
def dN (n:Int):Bys:=Lib.decDigits n.toNat
def one (b:Bool) (w:Bys):List Bys:=bif b then [w] else []
theorem jS {n:Int} (h0:0<=n) (h1:n<=9223372036854775807):strconv_Itoa n=some (dN n,()):=by
 obtain⟨k,rfl⟩:∃ k:Nat,n=k:=⟨n.toNat,by omega⟩
 exact Vz (by omega)
def ze (w:Bys):Prop:=w≠[]/\w.length<=40/\(32:UInt8)∉w/\(10:UInt8)∉w
theorem kG {n:Int} (h:n<=999999999999999):ze (dN n):=by
 refine⟨Bx _, ?_,Gm _ _ rfl,Gm _ _ rfl⟩
 have:=jv (n:=n.toNat) (k:=15) (by have:(10:Nat) ^ (15+1)=10000000000000000:=rfl;omega)
 unfold dN;omega
theorem xm {d:ah} (h:bY d):ze (eL d):=
 ⟨aaZ d,by have:=Bw h;omega,IL d rfl (by decide) (by decide),IL d rfl (by decide) (by decide)⟩
theorem rQ {s:Bys} (h:eG s=true):ze s:=⟨(oF h).1,(oF h).2.1,Y5 h (by decide),Y5 h (by decide)⟩
theorem Z8 {d:ah} {a b c:Int} (h:inR d a b c=true):bY d:=by
 unfold inR at h
 exact (age h).1
theorem acs (l:List Bys) (h:∀ w,w∈l->w.length<=40):(l.map fun w=>w.length+1).sum<=41*l.length:=by
 induction l with
 | nil=>simp
 | cons a r ih=>
  have h1:=h a (by simp)
  have h2:=ih (fun w hw=>h w (by simp[hw]))
  simp only[aeK,List.sum_cons,aez]
  omega
theorem AU {l:List Bys} (hl:l.length<=11) (h:∀ w,w∈l->w.length<=40):(Lib.join l [32]).length<=451:=by
 have h1:=SS 32 l
 have h2:=acs l h
 omega
theorem NY {l:List Bys} (hl:l.length<=11) (h:∀ w,w∈l->w.length<=40):strings_Join l [32]=some (Lib.join l [32],()):=by
 unfold strings_Join
 have:=AU hl h
 rw[af0 (by omega),af0 (by omega)];rfl
theorem WV {l:List Bys} (hl:l.length<=11) (h:∀ w,w∈l->w.length<=40):cC l=some (Lib.join l [32]++[10],()):=by
 unfold cC
 have:=AU hl h
 rw[NY hl h,afJ,aC (af0 (by rw[fo];simp;omega))]
end Go.Md
namespace Go.Md
open Go.Dn
def so (s:Bys):Bys:=bif s==[] then [45] else s
theorem UD (s:Bys):uW s=some (so s,()):=by
 unfold uW so
 cases s==[]<;>rfl
theorem abm:eG [45]=false:=by kernel_rfl
def ef (l:List Bys):Bys:=Lib.join l [32]++[10]
def fM (W:List (List Bys)):Bys:=(W.map ef).flatten
theorem rK:fM []=[]:=rfl
theorem kO (l:List Bys) (W:List (List Bys)):fM (l::W)=ef l++fM W:=rfl
theorem Ga (A B:List (List Bys)):fM (A++B)=fM A++fM B:=by simp[fM]
def zZ (l:List Bys):Prop:=l.length<=11/\∀ w∈l,ze w
theorem kH {l:List Bys} (h:zZ l):(ef l).length<=452:=by
 have:=AU h.1 fun w hw=>(h.2 w hw).2.1
 unfold ef
 simp
 omega
theorem xT {l:List Bys} (h:zZ l):cC l=some (ef l,()):=WV h.1 fun w hw=>(h.2 w hw).2.1
theorem yu:∀ W:List (List Bys),(∀ l∈W,zZ l)->(fM W).length<=452*W.length
 | [],_=>afq _
 | l::r,h=>by
  have h1:=kH (h l (by simp))
  have h2:=yu r fun x hx=>h x (by simp[hx])
  rw[kO,aey,aez]
  omega
def jM (x:ak):List Bys:=[[114,97,116,101],x.1,eL x.2]
def mV (x:aj):List Bys:=[[101,120,116,114,97],eL x.2.1]++tj x.1
def lK (x:aj):List Bys:=[[97,108,108],eL x.2.1,so x.2.2]++tj x.1
def Ak (l:aa):List Bys:=[[108,105,110,101],dN l.1,dN l.2.1,l.2.2.1,eL l.2.2.2.1,l.2.2.2.2.1,eL l.2.2.2.2.2.1,dN l.2.2.2.2.2.2.1,l.2.2.2.2.2.2.2.2]
def lN (v:ai):List Bys:=[[105,110,118,111,105,99,101],v.1,v.2.1,dN v.2.2.1,dN v.2.2.2.1,dN v.2.2.2.2.1]++oM v.2.2.2.2.2.1
def oI:List aa->List (List Bys)
 | []=>[]
 | l::r=>(Ak l::l.2.2.2.2.2.2.2.1.map mV)++oI r
def CL (v:ai):List (List Bys):=lN v::(v.2.2.2.2.2.2.1.map jM++(oI v.2.2.2.2.2.2.2.1++v.2.2.2.2.2.2.2.2.map lK))
structure AM (x:ak):Prop where
 nm:eG x.1=true
 dec:bY x.2
structure vT (x:aj):Prop where
 dec:bY x.2.1
 rate:x.2.2=[]\/eG x.2.2=true
structure EP (l:aa):Prop where
 no:1<=l.1/\l.1<=99999
 ln:1<=l.2.1/\l.2.1<=99999
 art:eG l.2.2.1=true
 q:bY l.2.2.2.1
 unit:eG l.2.2.2.2.1=true
 p:bY l.2.2.2.2.2.1
 per:1<=l.2.2.2.2.2.2.1/\l.2.2.2.2.2.2.1<=100000
 rate:eG l.2.2.2.2.2.2.2.2=true
 few:l.2.2.2.2.2.2.2.1.length<=20
 ext:∀ x∈l.2.2.2.2.2.2.2.1,vT x/\x.2.2=[]
theorem Jn {s:Bys} (h:(s≠[]/\s.length<=40/\(32:UInt8)∉s/\(10:UInt8)∉s):=by decide):ze s:=h
theorem Vn {s:Bys} (h:s=[]\/eG s=true):ze (so s):=by
 unfold so
 rcases h with rfl | h
 ·exact Jn
 ·have h1:(s==[])=false:=by simpa using (oF h).1
  rw[h1,afW]
  exact rQ h
theorem Ze (b:Bool):∀ w∈tj b,ze w:=by
 cases b with
 | false=>intro w hw;cases hw
 | true=>intro w hw;rw[aeY.1 hw];exact Jn
theorem Xo (b:Bool):∀ w∈oM b,ze w:=by
 cases b with
 | false=>intro w hw;cases hw
 | true=>intro w hw;rw[aeY.1 hw];exact Jn
theorem VT (b:Bool):(tj b).length<=1:=by cases b<;>decide
theorem UQ (b:Bool):(oM b).length<=1:=by cases b<;>decide
theorem yg {x:ak} (h:AM x):zZ (jM x):=by
 refine⟨by simp[jM],fun w hw=> ?_⟩
 unfold jM at hw
 simp only[aeO,ae2,or_false] at hw
 rcases hw with rfl | rfl | rfl
 ·exact Jn
 ·exact rQ h.nm
 ·exact xm h.dec
theorem xP {x:aj} (h:vT x):zZ (mV x):=by
 refine⟨by have:=VT x.1;simp only[mV,aey,aez,aeC];omega,fun w hw=> ?_⟩
 unfold mV at hw
 rcases aeN.1 hw with hw | hw
 ·simp only[aeO,ae2,or_false] at hw
  rcases hw with rfl | rfl
  ·exact Jn
  ·exact xm h.dec
 ·exact Ze _ w hw
theorem A6 {x:aj} (h:vT x):zZ (lK x):=by
 refine⟨by have:=VT x.1;simp only[lK,aey,aez,aeC];omega,fun w hw=> ?_⟩
 unfold lK at hw
 rcases aeN.1 hw with hw | hw
 ·simp only[aeO,ae2,or_false] at hw
  rcases hw with rfl | rfl | rfl
  ·exact Jn
  ·exact xm h.dec
  ·exact Vn h.rate
 ·exact Ze _ w hw
theorem Ep {l:aa} (h:EP l):zZ (Ak l):=by
 refine⟨by simp[Ak],fun w hw=> ?_⟩
 have h1:=h.no;have h2:=h.ln;have h3:=h.per
 unfold Ak at hw
 simp only[aeO,ae2,or_false] at hw
 rcases hw with rfl | rfl | rfl | rfl | rfl | rfl | rfl | rfl | rfl
 ·exact Jn
 ·exact kG (by omega)
 ·exact kG (by omega)
 ·exact rQ h.art
 ·exact xm h.q
 ·exact rQ h.unit
 ·exact xm h.p
 ·exact kG (by omega)
 ·exact rQ h.rate
theorem Zm:∀ (l:List ak) (b:Bys),(∀ x∈l,AM x)->b.length+452*l.length<=100000000->pK b l=some (b++fM (l.map jM)):=by
 intro l
 induction l with
 | nil=>intro b _ _;rw[pK,aeM,rK,adU]
 | cons x r ih=>
  intro b h hb
  have hx:=h x (by simp)
  have hl:=kH (yg hx)
  have hj:=xT (yg hx)
  simp only[aez] at hb
  rw[pK,nD hx.dec,afJ]
  show Option.bind (cC (jM x)) _=_
  rw[hj,afJ]
  dsimp only
  rw[aC (af0 (by rw[aey];omega)),ih _ (fun y hy=>h y (by simp[hy])) (by rw[aey];omega),aeK,kO,adT]
theorem aab:∀ (l:List aj) (b:Bys),(∀ x∈l,vT x)->b.length+452*l.length<=100000000->uy b l=some (b++fM (l.map mV)):=by
 intro l
 induction l with
 | nil=>intro b _ _;rw[uy,aeM,rK,adU]
 | cons x r ih=>
  intro b h hb
  have hx:=h x (by simp)
  have hl:=kH (xP hx)
  have hj:=xT (xP hx)
  simp only[aez] at hb
  rw[uy,nD hx.dec,afJ]
  show Option.bind (cC (mV x)) _=_
  rw[hj,afJ]
  dsimp only
  rw[aC (af0 (by rw[aey];omega)),ih _ (fun y hy=>h y (by simp[hy])) (by rw[aey];omega),aeK,kO,adT]
theorem ZU:∀ (l:List aj) (b:Bys),(∀ x∈l,vT x)->b.length+452*l.length<=100000000->ur b l=some (b++fM (l.map lK)):=by
 intro l
 induction l with
 | nil=>intro b _ _;rw[ur,aeM,rK,adU]
 | cons x r ih=>
  intro b h hb
  have hx:=h x (by simp)
  have hl:=kH (A6 hx)
  have hj:=xT (A6 hx)
  simp only[aez] at hb
  rw[ur,nD hx.dec,afJ,UD,afJ]
  show Option.bind (cC (lK x)) _=_
  rw[hj,afJ]
  dsimp only
  rw[aC (af0 (by rw[aey];omega)),ih _ (fun y hy=>h y (by simp[hy])) (by rw[aey];omega),aeK,kO,adT]
theorem YO:∀ (l:List aa) (b:Bys),(∀ x∈l,EP x)->b.length+10000*l.length<=100000000->pF b l=some (b++fM (oI l)):=by
 intro l
 induction l with
 | nil=>intro b _ _;rw[pF,oI,rK,adU]
 | cons x r ih=>
  intro b h hb
  have hx:=h x (by simp)
  have hl:=kH (Ep hx)
  have hj:=xT (Ep hx)
  have h1:=hx.no;have h2:=hx.ln;have h3:=hx.per;have h4:=hx.few
  have hte:=yu (x.2.2.2.2.2.2.2.1.map mV) fun l hl=>by
   obtain⟨y,hy,rfl⟩:=aeT.1 hl
   exact xP (hx.ext y hy).1
  rw[aeB] at hte
  simp only[aez] at hb
  rw[pF,jS (by omega) (by omega),afJ,jS (by omega) (by omega),afJ,nD hx.q,afJ,nD hx.p,afJ,jS (by omega) (by omega),afJ]
  show Option.bind (cC (Ak x)) _=_
  rw[hj,afJ]
  dsimp only
  rw[aC (af0 (by rw[aey];omega)),aab _ _ (fun y hy=>(hx.ext y hy).1) (by rw[aey];omega),afJ,ih _ (fun y hy=>h y (by simp[hy])) (by rw[aey,aey];omega),oI,adV,kO,Ga]
  simp only[adT]
end Go.Md
namespace Go.Md
open Go.Dn
theorem nT {d:ah} (h:bY d):nh d=some (eL d,()):=by
 unfold nh
 rw[Xw h]
 rfl
theorem Zl (x:ak):ef (jM x)=((([114,97,116,101,32]++x.1)++[32])++eL x.2)++[10]:=by
 simp[ef,jM,jl,Lib.join]
theorem Yp (x:aj) (h:x.1=false):ef (mV x)=(([101,120,116,114,97]++[32])++eL x.2.1)++[10]:=by
 simp[ef,mV,tj,h,jl,Lib.join]
theorem Yq (x:aj) (h:x.1=true):ef (mV x)=((([101,120,116,114,97]++[32])++eL x.2.1)++[32,112,101,114,99,101,110,116])++[10]:=by
 simp[ef,mV,tj,h,jl,Lib.join]
theorem PO (x:aj) (h:x.1=false):ef (lK x)=((([97,108,108]++[32])++eL x.2.1)++([32]++so x.2.2))++[10]:=by
 simp[ef,lK,tj,h,jl,Lib.join]
theorem PR (x:aj) (h:x.1=true):ef (lK x)=(((([97,108,108]++[32])++eL x.2.1)++([32]++so x.2.2))++[32,112,101,114,99,101,110,116])++[10]:=by
 simp[ef,lK,tj,h,jl,Lib.join]
theorem iu {n:Nat} (h:n<=1000000000):decide (n<=maxLen)=true:=af0 (by rw[fo];omega)
theorem Xt {x:aj} (h:vT x):jT [101,120,116,114,97] x=some (ef (mV x),()):=by
 have l1:=Bw h.dec
 unfold jT
 rw[nT h.dec,afJ,show (([101,120,116,114,97]:Bys)==[97,108,108])=false from rfl,afW]
 dsimp only
 cases hp:x.1 with
 | true=>
  rw[Yq x hp]
  iterate 4 rw[aC (iu (by simp only[aey,aez,aeC];omega))]
  rw[afX]
 | false=>
  rw[Yp x hp]
  iterate 2 rw[aC (iu (by simp only[aey,aez,aeC];omega))]
  rw[afW]
  rw[aC (iu (by simp only[aey,aez,aeC];omega))]
theorem Xs {x:aj} (h:vT x):jT [97,108,108] x=some (ef (lK x),()):=by
 have l1:=Bw h.dec
 have l2:=(Vn h.rate).2.1
 unfold jT
 rw[nT h.dec,afJ,show (([97,108,108]:Bys)==[97,108,108])=true from rfl,afX]
 dsimp only
 have e:∀ s:Bys,(bif s==[] then ([32,45]:Bys) else [32]++s)=[32]++so s:=fun s=>by unfold so;cases s==[]<;>rfl
 cases hs:x.2.2==[] with
 | true=>
  have e2:=e x.2.2
  rw[hs,afX] at e2
  rw[afX,e2]
  cases hp:x.1 with
  | true=>
   rw[PR x hp]
   iterate 5 rw[aC (iu (by simp only[aey,aez,aeC];omega))]
   rw[afX]
  | false=>
   rw[PO x hp]
   iterate 3 rw[aC (iu (by simp only[aey,aez,aeC];omega))]
   rw[afW]
   rw[aC (iu (by simp only[aey,aez,aeC];omega))]
 | false=>
  have e2:=e x.2.2
  rw[hs,afW] at e2
  have l3:x.2.2.length<=40:=by
   have:=congrArg List.length e2
   simp only[aey] at this
   omega
  rw[afW,e2]
  cases hp:x.1 with
  | true=>
   rw[PR x hp]
   iterate 6 rw[aC (iu (by simp only[aey,aez,aeC];omega))]
   rw[afX]
  | false=>
   rw[PO x hp]
   iterate 4 rw[aC (iu (by simp only[aey,aez,aeC];omega))]
   rw[afW]
   rw[aC (iu (by simp only[aey,aez,aeC];omega))]
theorem CS {α:Type} {l r:List α} {c:α} {j:Nat} (hd:l.drop j=c::r):j<l.length/\l[j]? =some c/\c∈l/\l.drop (j+1)=r:=by
 have hlt:j<l.length:=by
  have:=congrArg List.length hd
  simp at this
  omega
 have hc:l[j]? =some c:=by
  have:=congrArg (fun l:List α=>l[0]?) hd
  simpa using this
 exact⟨hlt,hc,aeU hc,by rw[<- ad0,hd];rfl⟩
theorem FX {α:Type} {l:List α} {j:Nat} (hd:l.drop j=[]) (hj:j<=l.length):j=l.length:=by
 have:=congrArg List.length hd
 simp at this
 omega
abbrev TlT:Type:=Bys×Bys×Int×Int×Int×Bool×(List ak)×(List aa)×(List aj)×Unit
theorem aaG (L:List ak) (hL:L.length<=1000) (hok:∀ c∈L,AM c) (T:TlT):∀ (r:List ak) (j f:Nat) (b:Bys),L.drop j=r->r.length<f->j<=L.length->b.length+452*r.length<=100000000-> iter f ((b,L,(L.length:Int),(j:Int),T):qW) qT=some (.inr (b++fM (r.map jM),T)):=by
 intro r
 induction r with
 | nil=>
  intro j f b hd hf hj hb
  obtain⟨f,rfl⟩:∃ g,f=g+1:=⟨f - 1,by omega⟩
  obtain rfl:=FX hd hj
  rw[iter]
  unfold qT
  dsimp only
  rw[afZ (by omega),afW,aeM,rK,adU]
 | cons c r ih=>
  intro j f b hd hf hj hb
  simp only[aez] at hf hb
  obtain⟨f,rfl⟩:∃ g,f=g+1:=⟨f - 1,by omega⟩
  obtain⟨hlt,hc,hm,hd2⟩:=CS hd
  have hco:=hok c hm
  have l1:=(oF hco.nm).2.1
  have l4:=Bw hco.dec
  have l5:=kH (yg hco)
  rw[iter]
  unfold qT
  dsimp only
  rw[af0 (by omega),afX,cr,hc,afJ,nT hco.dec,afJ]
  dsimp only
  rw[<- Zl]
  iterate 4 rw[aC (iu (by simp only[aey,aez,aeC];omega))]
  rw[aC (iu (by omega)),aK (by omega) (by omega),show (j:Int)+1=((j+1:Nat):Int) by omega]
  exact (ih (j+1) f (b++ef (jM c)) hd2 (by omega) (by omega) (by rw[aey];omega)).trans (by rw[aeK,kO,adT])
theorem abD (L:List aj) (hL:L.length<=1000) (hok:∀ c∈L,vT c):∀ (r:List aj) (j f:Nat) (b:Bys),L.drop j=r->r.length<f->j<=L.length->b.length+452*r.length<=100000000-> iter f ((b,L,(L.length:Int),(j:Int),()):qY) qV=some (.inr (b++fM (r.map lK),())):=by
 intro r
 induction r with
 | nil=>
  intro j f b hd hf hj hb
  obtain⟨f,rfl⟩:∃ g,f=g+1:=⟨f - 1,by omega⟩
  obtain rfl:=FX hd hj
  rw[iter]
  unfold qV
  dsimp only
  rw[afZ (by omega),afW,aeM,rK,adU]
 | cons c r ih=>
  intro j f b hd hf hj hb
  simp only[aez] at hf hb
  obtain⟨f,rfl⟩:∃ g,f=g+1:=⟨f - 1,by omega⟩
  obtain⟨hlt,hc,hm,hd2⟩:=CS hd
  have hco:=hok c hm
  have l5:=kH (A6 hco)
  rw[iter]
  unfold qV
  dsimp only
  rw[af0 (by omega),afX,cr,hc,afJ,Xs hco,afJ]
  dsimp only
  rw[aC (iu (by omega)),aK (by omega) (by omega),show (j:Int)+1=((j+1:Nat):Int) by omega]
  exact (ih (j+1) f (b++ef (lK c)) hd2 (by omega) (by omega) (by rw[aey];omega)).trans (by rw[aeK,kO,adT])
theorem abE (l:List aa) (n i:Int) (T:TlT) (L:List aj) (hL:L.length<=1000) (hok:∀ c∈L,vT c):∀ (r:List aj) (j f:Nat) (b:Bys),L.drop j=r->r.length<f->j<=L.length->b.length+452*r.length<=200000000-> iter f ((b,l,n,i,L,(L.length:Int),(j:Int),T):wP) wO=some (.inr (b++fM (r.map mV),l,n,i,T)):=by
 intro r
 induction r with
 | nil=>
  intro j f b hd hf hj hb
  obtain⟨f,rfl⟩:∃ g,f=g+1:=⟨f - 1,by omega⟩
  obtain rfl:=FX hd hj
  rw[iter]
  unfold wO
  dsimp only
  rw[afZ (by omega),afW,aeM,rK,adU]
 | cons c r ih=>
  intro j f b hd hf hj hb
  simp only[aez] at hf hb
  obtain⟨f,rfl⟩:∃ g,f=g+1:=⟨f - 1,by omega⟩
  obtain⟨hlt,hc,hm,hd2⟩:=CS hd
  have hco:=hok c hm
  have l5:=kH (xP hco)
  rw[iter]
  unfold wO
  dsimp only
  rw[af0 (by omega),afX,cr,hc,afJ,Xt hco,afJ]
  dsimp only
  rw[aC (iu (by omega)),aK (by omega) (by omega),show (j:Int)+1=((j+1:Nat):Int) by omega]
  exact (ih (j+1) f (b++ef (mV c)) hd2 (by omega) (by omega) (by rw[aey];omega)).trans (by rw[aeK,kO,adT])
theorem aaF (L:List aa) (hL:L.length<=1000) (hok:∀ c∈L,EP c) (T:TlT):∀ (r:List aa) (j f:Nat) (b:Bys),L.drop j=r->r.length<f->j<=L.length->b.length+10000*r.length<=100000000-> iter f ((b,L,(L.length:Int),(j:Int),T):qX) qU=some (.inr (b++fM (oI r),T)):=by
 intro r
 induction r with
 | nil=>
  intro j f b hd hf hj hb
  obtain⟨f,rfl⟩:∃ g,f=g+1:=⟨f - 1,by omega⟩
  obtain rfl:=FX hd hj
  rw[iter]
  unfold qU
  dsimp only
  rw[afZ (by omega),afW,oI,rK,adU]
 | cons x r ih=>
  intro j f b hd hf hj hb
  simp only[aez] at hf hb
  obtain⟨f,rfl⟩:∃ g,f=g+1:=⟨f - 1,by omega⟩
  obtain⟨hlt,hc,hm,hd2⟩:=CS hd
  have hx:=hok x hm
  have hln:=Ep hx
  have l5:=kH hln
  have h1:=hx.no;have h2:=hx.ln;have h3:=hx.per;have h4:=hx.few
  have hte:=yu (x.2.2.2.2.2.2.2.1.map mV) fun l hl=>by
   obtain⟨y,hy,rfl⟩:=aeT.1 hl
   exact xP (hx.ext y hy).1
  rw[aeB] at hte
  have hjl:=AU hln.1 fun w hw=>(hln.2 w hw).2.1
  rw[iter]
  unfold qU
  dsimp only
  rw[af0 (by omega),afX,cr,hc,afJ,jS (by omega) (by omega),afJ,jS (by omega) (by omega),afJ,nT hx.q,afJ,nT hx.p,afJ,jS (by omega) (by omega),afJ]
  show Option.bind (strings_Join (Ak x) [32]) _=_
  rw[NY hln.1 fun w hw=>(hln.2 w hw).2.1,afJ]
  dsimp only
  rw[aC (iu (by simp only[aez,aeC];omega)),show Lib.join (Ak x) [32]++[10]=ef (Ak x) from rfl,aC (iu (by omega))]
  rw[show (0:Int)=((0:Nat):Int) from rfl,abE L (L.length:Int) (j:Int) T x.2.2.2.2.2.2.2.1 (by omega) (fun y hy=>(hx.ext y hy).1) x.2.2.2.2.2.2.2.1 0 _ (b++ef (Ak x)) rfl (by omega) (afI _) (by rw[aey];omega)]
  rw[aU]
  dsimp only
  rw[aK (by omega) (by omega),show (j:Int)+1=((j+1:Nat):Int) by omega]
  exact (ih (j+1) f (b++ef (Ak x)++fM (x.2.2.2.2.2.2.2.1.map mV)) hd2 (by omega) (by omega) (by rw[aey,aey];omega)).trans (by rw[oI,adV,kO,Ga];simp only[adT])
end Go.Md
namespace Go.Md
open Go.Dn
structure Oh (v:ai):Prop where
 num:eG v.1=true
 ord:eG v.2.1=true
 day:1<=v.2.2.1/\v.2.2.1<=3652059
 pl:0<=v.2.2.2.1/\v.2.2.2.1<=4
 way:1<=v.2.2.2.2.1/\v.2.2.2.2.1<=6
 rn:v.2.2.2.2.2.2.1.length<=20
 rates:∀ r∈v.2.2.2.2.2.2.1,AM r
 ln:v.2.2.2.2.2.2.2.1.length<=500
 lines:∀ x∈v.2.2.2.2.2.2.2.1,EP x
 xn:v.2.2.2.2.2.2.2.2.length<=20
 exts:∀ x∈v.2.2.2.2.2.2.2.2,vT x
theorem VW {l:List ak} (h:∀ r∈l,AM r) {s:Bys} (hs:(fe (fun x:ak=>x.1) s l).isSome=true):eG s=true:=by
 cases hx:fe (fun x:ak=>x.1) s l with
 | none=>rw[hx] at hs;cases hs
 | some k=>
  obtain⟨x,hk,hxe⟩:=zx hx
  rw[<- hxe]
  exact (h x (aeU hk)).nm
set_option maxHeartbeats 2000000 in
theorem abj {pl:Int} {rates:List ak} {lines:List aa} {i:Nat} {x:aa} (hr:∀ r∈rates,AM r) (h:oH pl rates lines i x=0):EP x:=by
 have ho:=Np h
 obtain⟨g1,g2⟩:=AQ ho.ext
 unfold oH at h
 split at h
 ·omega
 rename_i h1
 split at h
 ·omega
 split at h
 ·omega
 rename_i h2
 split at h
 ·omega
 rename_i h3
 split at h
 ·omega
 split at h
 ·omega
 split at h
 ·omega
 rename_i h4
 refine⟨by omega,by omega,by simpa using h3,ho.q,by simpa using h4,ho.p,ho.per,VW hr ho.rate,g1,fun y hy=> ?_⟩
 obtain⟨e1,e2,e3⟩:=g2 y hy
 exact⟨⟨e1.dec,.inl (e2 rfl)⟩,e2 rfl⟩
theorem Zn {l:List ak} (h:kY l=0):l.length<=20/\∀ r∈l,AM r:=by
 obtain⟨_,h2,_,h4⟩:=DC h
 refine⟨h2,fun r hr=>⟨?_,Z8 (h4 r hr)⟩⟩
 unfold kY at h
 split at h
 ·omega
 split at h
 ·omega
 obtain⟨i,hi⟩:=aeS.1 hr
 have:=sM h i r hi
 unfold CQ at this
 split at this
 ·omega
 ·rename_i h5
  simpa using h5
theorem OZ {v:ai} (h:pZ v=0):Oh v:=by
 have ho:=Qc h
 obtain⟨g1,g2⟩:=AQ ho.ext
 unfold pZ at h
 split at h
 ·omega
 rename_i h1
 split at h
 ·omega
 rename_i h2
 split at h
 ·omega
 rename_i h3
 split at h
 ·omega
 split at h
 ·omega
 split at h
 ·omega
 rename_i h4
 split at h
 ·omega
 split at h
 ·omega
 split at h
 ·omega
 rename_i h5
 obtain⟨r1,r2⟩:=Zn (show kY v.2.2.2.2.2.2.1=0 by omega)
 refine⟨by simpa using h1,by simpa using h2,by omega,ho.pl,ho.way,r1,r2,ho.ln.2,fun x hx=> ?_,g1,fun x hx=> ?_⟩
 ·obtain⟨i,hi⟩:=aeS.1 hx
  exact abj r2 (sM (show Er v=0 by omega) i x hi)
 ·obtain⟨e1,_,e3⟩:=g2 x hx
  exact⟨e1.dec,e3.imp id (VW r2)⟩
theorem JF {v:ai} (h:Oh v):zZ (lN v):=by
 have h1:=h.day;have h2:=h.pl;have h3:=h.way
 refine⟨by have:=UQ v.2.2.2.2.2.1;simp only[lN,aey,aez,aeC];omega,fun w hw=> ?_⟩
 unfold lN at hw
 rcases aeN.1 hw with hw | hw
 ·simp only[aeO,ae2,or_false] at hw
  rcases hw with rfl | rfl | rfl | rfl | rfl | rfl
  ·exact Jn
  ·exact rQ h.num
  ·exact rQ h.ord
  ·exact kG (by omega)
  ·exact kG (by omega)
  ·exact kG (by omega)
 ·exact Xo _ w hw
theorem Pc:∀ l:List aa,(∀ x∈l,EP x)->∀ w∈oI l,zZ w
 | [],_,w,hw=>by cases hw
 | x::r,h,w,hw=>by
  have hx:=h x (by simp)
  rw[oI] at hw
  rcases aeN.1 hw with hw | hw
  ·rcases aeO.1 hw with rfl | hw
   ·exact Ep hx
   ·obtain⟨c,hc,rfl⟩:=aeT.1 hw
    exact xP (hx.ext c hc).1
  ·exact Pc r (fun q hq=>h q (by simp[hq])) w hw
theorem Td:∀ l:List aa,(∀ x∈l,EP x)->(oI l).length<=21*l.length
 | [],_=>afq _
 | x::r,h=>by
  have h1:=(h x (by simp)).few
  have h2:=Td r fun q hq=>h q (by simp[hq])
  simp only[oI,aey,aez,aeB]
  omega
theorem aag {v:ai} (h:Oh v):∀ w∈CL v,zZ w:=by
 intro w hw
 rcases aeO.1 hw with rfl | hw
 ·exact JF h
 rcases aeN.1 hw with hw | hw
 ·obtain⟨c,hc,rfl⟩:=aeT.1 hw
  exact yg (h.rates c hc)
 rcases aeN.1 hw with hw | hw
 ·exact Pc _ h.lines w hw
 ·obtain⟨c,hc,rfl⟩:=aeT.1 hw
  exact A6 (h.exts c hc)
def Ah (v:ai):Bys:=fM (CL v)
theorem Vy (v:ai):Ah v=ef (lN v)++fM (v.2.2.2.2.2.2.1.map jM)++fM (oI v.2.2.2.2.2.2.2.1)++fM (v.2.2.2.2.2.2.2.2.map lK):=by
 rw[Ah,CL,kO,Ga,Ga]
 simp only[adT]
theorem Qp {v:ai} (h:Oh v):(ef (lN v)).length<=452/\(fM (v.2.2.2.2.2.2.1.map jM)).length<=9040/\(fM (oI v.2.2.2.2.2.2.2.1)).length<=4746000/\(fM (v.2.2.2.2.2.2.2.2.map lK)).length<=9040:=by
 have h1:=kH (JF h)
 have h2:=yu (v.2.2.2.2.2.2.1.map jM) fun l hl=>by
  obtain⟨y,hy,rfl⟩:=aeT.1 hl
  exact yg (h.rates y hy)
 have h3:=yu (oI v.2.2.2.2.2.2.2.1) (Pc _ h.lines)
 have h4:=yu (v.2.2.2.2.2.2.2.2.map lK) fun l hl=>by
  obtain⟨y,hy,rfl⟩:=aeT.1 hl
  exact A6 (h.exts y hy)
 have h5:=Td _ h.lines
 have h6:=h.rn;have h7:=h.ln;have h8:=h.xn
 rw[aeB] at h2 h4
 exact⟨h1,by omega,by omega,by omega⟩
noncomputable def yY (v:ai):Bys×Int×Unit:=if pZ v=0 then (if ((Ah v).length:Int)>300000 then ([],2,()) else (Ah v,0,())) else ([],pZ v,())
theorem RY (v:ai):vz v=some (yY v):=by
 unfold vz yY
 rw[vY v,afJ]
 dsimp only
 by_cases h:pZ v=0
 ·rw[af9 h,h,zne,afW]
  have hg:=OZ h
  have h1:=hg.day;have h2:=hg.pl;have h3:=hg.way;have h4:=hg.rn;have h5:=hg.ln;have h6:=hg.xn
  obtain⟨p1,p2,p3,p4⟩:=Qp hg
  rw[jS (by omega) (by omega),afJ,jS (by omega) (by omega),afJ,jS (by omega) (by omega),afJ]
  show Option.bind (cC (lN v)) _=_
  rw[xT (JF hg),afJ]
  dsimp only
  rw[aC (af0 (by omega)),Zm _ _ hg.rates (by omega),afJ,YO _ _ hg.lines (by rw[aey];omega),afJ,ZU _ _ hg.exts (by rw[aey,aey];omega),afJ, <- Vy]
  by_cases hb:((Ah v).length:Int)>300000
  ·rw[af9 hb,af0 hb,afX]
  ·rw[af8 hb,afZ hb,afW]
 ·rw[af8 h]
  have hb:(pZ v != 0)=true:=by simpa using h
  rw[hb,afX]
theorem Yy (v:ai) (h:v.2.2.2.2.2.1=false):ef (lN v)=([]++((((((((([105,110,118,111,105,99,101,32]++v.1)++[32])++v.2.1)++[32])++dN v.2.2.1)++[32])++dN v.2.2.2.1)++[32])++dN v.2.2.2.2.1))++[10]:=by
 simp[ef,lN,oM,h,jl,Lib.join]
theorem Yz (v:ai) (h:v.2.2.2.2.2.1=true):ef (lN v)=(([]++((((((((([105,110,118,111,105,99,101,32]++v.1)++[32])++v.2.1)++[32])++dN v.2.2.1)++[32])++dN v.2.2.2.1)++[32])++dN v.2.2.2.2.1))++[32,112,101,114,108,105,110,101])++[10]:=by
 simp[ef,lN,oM,h,jl,Lib.join]
theorem Tz (v:ai) (hg:Oh v) (H:Bys) (hH:H++[10]=ef (lN v)) (u:TlT): (∀ f,v.2.2.2.2.2.2.1.length<f->iter f ((H++[10],v.2.2.2.2.2.2.1,(v.2.2.2.2.2.2.1.length:Int),0,u):qW) qT=some (.inr (ef (lN v)++fM (v.2.2.2.2.2.2.1.map jM),u)))/\ (∀ f,v.2.2.2.2.2.2.2.1.length<f->iter f ((ef (lN v)++fM (v.2.2.2.2.2.2.1.map jM),v.2.2.2.2.2.2.2.1,(v.2.2.2.2.2.2.2.1.length:Int),0,u):qX) qU=some (.inr (ef (lN v)++fM (v.2.2.2.2.2.2.1.map jM)++fM (oI v.2.2.2.2.2.2.2.1),u)))/\ ∀ f,v.2.2.2.2.2.2.2.2.length<f->iter f ((ef (lN v)++fM (v.2.2.2.2.2.2.1.map jM)++fM (oI v.2.2.2.2.2.2.2.1),v.2.2.2.2.2.2.2.2,(v.2.2.2.2.2.2.2.2.length:Int),0,()):qY) qV=some (.inr (Ah v,())):=by
 obtain⟨p1,p2,p3,p4⟩:=Qp hg
 have h4:=hg.rn;have h5:=hg.ln;have h6:=hg.xn
 rw[hH,show (0:Int)=((0:Nat):Int) from rfl]
 refine⟨fun f hf=>aaG _ (by omega) hg.rates u v.2.2.2.2.2.2.1 0 f _ rfl hf (afI _) (by omega),fun f hf=>aaF _ (by omega) hg.lines u v.2.2.2.2.2.2.2.1 0 f _ rfl hf (afI _) (by rw[aey];omega),fun f hf=> ?_⟩
 rw[abD _ (by omega) hg.exts v.2.2.2.2.2.2.2.2 0 f _ rfl hf (afI _) (by rw[aey,aey];omega), <- Vy]
theorem UU (v:ai):FR v=some (yY v):=by
 unfold FR yY
 rw[GZ v,afJ]
 dsimp only
 by_cases h:pZ v=0
 ·rw[af9 h,h,zne,afW]
  have hg:=OZ h
  have h1:=hg.day;have h2:=hg.pl;have h3:=hg.way;have h4:=hg.rn;have h5:=hg.ln;have h6:=hg.xn
  have l1:=(oF hg.num).2.1
  have l2:=(oF hg.ord).2.1
  have l3:(dN v.2.2.1).length<=40:=(kG (by omega)).2.1
  have l4:(dN v.2.2.2.1).length<=40:=(kG (by omega)).2.1
  have l5:(dN v.2.2.2.2.1).length<=40:=(kG (by omega)).2.1
  rw[jS (by omega) (by omega),afJ,jS (by omega) (by omega),afJ,jS (by omega) (by omega),afJ]
  dsimp only
  iterate 10 rw[aC (iu (by simp only[aey,aez,aeC];omega))]
  cases hp:v.2.2.2.2.2.1 with
  | true=>
   rw[afX,aC (iu (by simp only[aey,aez,aeC];omega)),aU]
   dsimp only
   rw[aC (iu (by simp only[aey,aez,aeC];omega))]
   obtain⟨g1,g2,g3⟩:=Tz v hg _ (Yz v hp).symm (v.1,v.2.1,v.2.2.1,v.2.2.2.1,v.2.2.2.2.1,true,v.2.2.2.2.2.2.1,v.2.2.2.2.2.2.2.1,v.2.2.2.2.2.2.2.2,())
   rw[g1 _ (by omega),aU]
   dsimp only
   rw[g2 _ (by omega),aU]
   dsimp only
   rw[g3 _ (by omega),aU]
   dsimp only
   by_cases hb:((Ah v).length:Int)>300000
   ·rw[af9 hb,af0 hb,afX]
   ·rw[af8 hb,afZ hb,afW]
  | false=>
   rw[afW,aU]
   dsimp only
   rw[aC (iu (by simp only[aey,aez,aeC];omega))]
   obtain⟨g1,g2,g3⟩:=Tz v hg _ (Yy v hp).symm (v.1,v.2.1,v.2.2.1,v.2.2.2.1,v.2.2.2.2.1,false,v.2.2.2.2.2.2.1,v.2.2.2.2.2.2.2.1,v.2.2.2.2.2.2.2.2,())
   rw[g1 _ (by omega),aU]
   dsimp only
   rw[g2 _ (by omega),aU]
   dsimp only
   rw[g3 _ (by omega),aU]
   dsimp only
   by_cases hb:((Ah v).length:Int)>300000
   ·rw[af9 hb,af0 hb,afX]
   ·rw[af8 hb,afZ hb,afW]
 ·rw[af8 h]
  have hb:(pZ v != 0)=true:=by simpa using h
  rw[hb,afX]
end Go.Md
namespace Go.Md
open Go.Dn
def uz (w:List Bys):Bys:=Lib.join w [32]
theorem ZM (W:List (List Bys)):fM W=((W.map uz).map fun w=>w++[10]).flatten:=by
 rw[aeL]
 rfl
theorem V6:∀ L:List Bys,F9 true L=(L.map fun w=>w++[10]).flatten
 | []=>rfl
 | w::M=>by
  rw[F9,V6 M]
  cases M with
  | nil=>simp
  | cons a r=>simp
theorem Tc:∀ (L M:List Bys),(∀ w,w∈L->(10:UInt8)∉w)->(∀ w,w∈M->(10:UInt8)∉w)->(L.map fun w=>w++[10]).flatten=(M.map fun w=>w++[10]).flatten->L=M
 | [],[],_,_,_=>rfl
 | [],b::s,_,_,h=>by simp at h
 | a::r,[],_,_,h=>by simp at h
 | a::r,b::s,h1,h2,h=>by
  simp only[aeK,List.flatten_cons,adT,ae8] at h
  have e:=congrArg (eV 10) h
  rw[E9 10 _ _ (h1 a (by simp)),E9 10 _ _ (h2 b (by simp))] at e
  simp only[Prod.mk.injEq,afR] at e
  rw[e.1,Tc r s (fun w hw=>h1 w (by simp[hw])) (fun w hw=>h2 w (by simp[hw])) e.2]
theorem Xa (W:List (List Bys)) (hne:W≠[]) (hok:∀ l∈W,zZ l) (hl:(fM W).length<=1000000):om (fM W)=some (W.map uz,true,()):=by
 obtain⟨L,e,g1,g2,g3,g4,g5,g6⟩:=Iz (fM W) hl
 have hlast:(fM W).getLast? =some 10:=by
  obtain⟨i,x,rfl⟩:∃ i x,W=i++[x]:=⟨W.dropLast,W.getLast hne,(List.dropLast_concat_getLast hne).symm⟩
  rw[ZM]
  simp
 have hL:L≠[]:=fun h=>by
  subst h
  have:fM W=[]:=g2.symm
  rw[this] at hlast;cases hlast
 have he:e=true:=by
  cases e with
  | true=>rfl
  | false=>exact absurd hlast (g6 rfl hL).2
 subst he
 have:L=W.map uz:=by
  refine Tc L _ g3 (fun w hw=> ?_) ?_
  ·obtain⟨l,hl,rfl⟩:=aeT.1 hw
   intro hc
   rcases Th hc with hc | ⟨x,hx,hc⟩
   ·cases hc
   ·exact ((hok l hl).2 x hx).2.2.2 hc
  ·rw[<- V6,g2,ZM]
 rw[g1,this]
theorem BY (a:ai) (f:Bool) {W:List Bys} (hne:W≠[]) (hok:zZ W):rdI a f (uz W)=rdV a f W:=by
 unfold rdI uz
 have hW:bh 32 (Lib.join W [32])=W:=GJ 32 _ hne (fun w hw=>(hok.2 w hw).2.2.1)
 have hf:su W=true:=by
  unfold su
  rw[adQ]
  intro w hw
  have:=(hok.2 w hw).1
  simp[this]
 rw[hW,hf,afX]
theorem xX {n:Int} (h0:0<=n) (h1:n<=999999999999999):iF (dN n)=true/\mX (dN n)=n:=by
 have hp:(10:Nat) ^ 16=10000000000000000:=rfl
 refine⟨Ns (by omega), ?_⟩
 unfold dN
 rw[Y7 (by omega)];omega
theorem XZ {s:Bys} (h:s≠[45]):EZ (so s)=s:=by
 unfold EZ so
 by_cases e:s=[]
 ·subst e;rfl
 ·have h1:(s==[])=false:=by simpa using e
  have h2:(s==[45])=false:=by simpa using h
  rw[h1,afW,h2,afW]
theorem ack (z v:ai) (h:Oh v):rdV z true (lN v)=some (v.1,v.2.1,v.2.2.1,v.2.2.2.1,v.2.2.2.2.1,v.2.2.2.2.2.1,[],[],[]):=by
 have h1:=h.day;have h2:=h.pl;have h3:=h.way
 obtain⟨a1,b1⟩:=xX (n:=v.2.2.1) (by omega) (by omega)
 obtain⟨a2,b2⟩:=xX (n:=v.2.2.2.1) (by omega) (by omega)
 obtain⟨a3,b3⟩:=xX (n:=v.2.2.2.2.1) (by omega) (by omega)
 cases hp:v.2.2.2.2.2.1 with
 | true=>
  have e:lN v=[[105,110,118,111,105,99,101],v.1,v.2.1,dN v.2.2.1,dN v.2.2.2.1,dN v.2.2.2.2.1,[112,101,114,108,105,110,101]]:=by unfold lN;rw[hp];rfl
  rw[e]
  show (bif true&&(iF (dN v.2.2.1)&&(iF (dN v.2.2.2.1)&&iF (dN v.2.2.2.2.1))) then some (v.1,v.2.1,mX (dN v.2.2.1),mX (dN v.2.2.2.1),mX (dN v.2.2.2.2.1),true,[],[],[]) else none)=_
  rw[a1,a2,a3,b1,b2,b3]
  rfl
 | false=>
  have e:lN v=[[105,110,118,111,105,99,101],v.1,v.2.1,dN v.2.2.1,dN v.2.2.2.1,dN v.2.2.2.2.1]:=by unfold lN;rw[hp];rfl
  rw[e]
  show (bif true&&(iF (dN v.2.2.1)&&(iF (dN v.2.2.2.1)&&iF (dN v.2.2.2.2.1))) then some (v.1,v.2.1,mX (dN v.2.2.1),mX (dN v.2.2.2.1),mX (dN v.2.2.2.2.1),false,[],[],[]) else none)=_
  rw[a1,a2,a3,b1,b2,b3]
  rfl
abbrev HdT:Type:=Bys×Bys×Int×Int×Int×Bool
def mkI (h:HdT) (r:List ak) (l:List aa) (x:List aj):ai:=(h.1,h.2.1,h.2.2.1,h.2.2.2.1,h.2.2.2.2.1,h.2.2.2.2.2,r,l,x)
theorem aby (h:HdT) (rs:List ak) (x:ak) (hx:AM x):rdV (mkI h rs [] []) false (jM x)=some (mkI h (rs++[x]) [] []):=by
 have e1:=xb hx.dec
 show (bif (eK (eL x.2)).2==0 then some (x.1,(eK (eL x.2)).1) else none).map (xE (mkI h rs [] []))=_
 rw[e1]
 rfl
theorem abx (h:HdT) (rs:List ak) (ls:List aa) (x:aa) (hx:EP x):rdV (mkI h rs ls []) false (Ak x)=some (mkI h rs (ls++[(x.1,x.2.1,x.2.2.1,x.2.2.2.1,x.2.2.2.2.1,x.2.2.2.2.2.1,x.2.2.2.2.2.2.1,[],x.2.2.2.2.2.2.2.2)]) []):=by
 have h1:=hx.no;have h2:=hx.ln;have h3:=hx.per
 obtain⟨a1,b1⟩:=xX (n:=x.1) (by omega) (by omega)
 obtain⟨a2,b2⟩:=xX (n:=x.2.1) (by omega) (by omega)
 obtain⟨a3,b3⟩:=xX (n:=x.2.2.2.2.2.2.1) (by omega) (by omega)
 have e1:=xb hx.q
 have e2:=xb hx.p
 show (bif true&&(iF (dN x.1)&&(iF (dN x.2.1)&&((eK (eL x.2.2.2.1)).2==0&&((eK (eL x.2.2.2.2.2.1)).2==0&&iF (dN x.2.2.2.2.2.2.1))))) then
  some (mX (dN x.1),mX (dN x.2.1),x.2.2.1,(eK (eL x.2.2.2.1)).1,x.2.2.2.2.1,(eK (eL x.2.2.2.2.2.1)).1,mX (dN x.2.2.2.2.2.2.1),[],x.2.2.2.2.2.2.2.2) else none).map (addLine (mkI h rs ls []))=_
 rw[a1,a2,a3,b1,b2,b3,e1,e2]
 rfl
theorem zJ (x:aj) (q:aa):∀ ls:List aa,Al (ls++[q]) x=ls++[(q.1,q.2.1,q.2.2.1,q.2.2.2.1,q.2.2.2.2.1,q.2.2.2.2.2.1,q.2.2.2.2.2.2.1,q.2.2.2.2.2.2.2.1++[x],q.2.2.2.2.2.2.2.2)]
 | []=>rfl
 | [_]=>rfl
 | p::r::s=>by
  have:=zJ x q (r::s)
  rw[adV,adV,Al]
  rw[adV] at this
  rw[this]
  rfl
theorem acj (h:HdT) (rs:List ak) (ls:List aa) (q:aa) (x:aj) (hx:vT x) (hr:x.2.2=[]):rdV (mkI h rs (ls++[q]) []) false (mV x)=some (mkI h rs (ls++[(q.1,q.2.1,q.2.2.1,q.2.2.2.1,q.2.2.2.2.1,q.2.2.2.2.2.1,q.2.2.2.2.2.2.1,q.2.2.2.2.2.2.2.1++[x],q.2.2.2.2.2.2.2.2)]) []):=by
 have e1:=xb hx.dec
 have e2:(ls++[q]).isEmpty=false:=by cases ls<;>rfl
 have ex:OJ (mV x)=some x:=by
  obtain⟨p,d,s⟩:=x
  dsimp only at hr e1
  subst hr
  cases p with
  | true=>
   show (bif (eK (eL d)).2==0 then some (true,(eK (eL d)).1,([]:Bys)) else none)=_
   rw[e1];rfl
  | false=>
   show (bif (eK (eL d)).2==0 then some (false,(eK (eL d)).1,([]:Bys)) else none)=_
   rw[e1];rfl
 show (bif true&&(!(ls++[q]).isEmpty&&true) then (OJ (mV x)).map (Hh (mkI h rs (ls++[q]) [])) else none)=_
 rw[e2,ex]
 show some (mkI h rs (Al (ls++[q]) x) [])=_
 rw[zJ]
theorem aci (h:HdT) (rs:List ak) (ls:List aa) (xs:List aj) (x:aj) (hx:vT x):rdV (mkI h rs ls xs) false (lK x)=some (mkI h rs ls (xs++[x])):=by
 have e1:=xb hx.dec
 have e2:x.2.2≠[45]:=fun e=>by
  rcases hx.rate with h | h
  ·rw[e] at h;cases h
  ·rw[e,abm] at h;cases h
 have ex:Ok (lK x)=some x:=by
  obtain⟨p,d,s⟩:=x
  dsimp only at e1 e2
  have e3:=XZ e2
  cases p with
  | true=>
   show (bif (eK (eL d)).2==0 then some (true,(eK (eL d)).1,EZ (so s)) else none)=_
   rw[e1,e3];rfl
  | false=>
   show (bif (eK (eL d)).2==0 then some (false,(eK (eL d)).1,EZ (so s)) else none)=_
   rw[e1,e3];rfl
 show (Ok (lK x)).map (Bj (mkI h rs ls xs))=_
 rw[ex]
 rfl
theorem El (s:Bys) (M:List Bys) (i:Nat) (a b:ai) (h:rdI a (i==0) s=some b):mY true (s::M) i a=mY true M (i+1) b:=by
 rw[mY,h]
 rfl
theorem SK (h:HdT) (M:List Bys):∀ (l rs:List ak) (i:Nat),(∀ x∈l,AM x)->mY true ((l.map jM).map uz++M) (i+1) (mkI h rs [] [])=mY true M (i+1+l.length) (mkI h (rs++l) [] [])
 | [],rs,i,_=>by rw[adU];rfl
 | x::r,rs,i,hl=>by
  have hx:=hl x (by simp)
  have h1:=aby h rs x hx
  rw[<- BY _ _ (by simp[jM]) (yg hx)] at h1
  rw[aeK,aeK,adV,El _ _ _ _ _ h1,SK h M r _ (i+1) (fun y hy=>hl y (by simp[hy])),aez,show i+1+1+r.length=i+1+(r.length+1) by omega,adT]
  rfl
theorem Vu (h:HdT) (rs:List ak) (ls:List aa) (q:aa) (M:List Bys):∀ (l xs:List aj) (i:Nat),(∀ x∈l,vT x/\x.2.2=[])-> mY true ((l.map mV).map uz++M) (i+1) (mkI h rs (ls++[(q.1,q.2.1,q.2.2.1,q.2.2.2.1,q.2.2.2.2.1,q.2.2.2.2.2.1,q.2.2.2.2.2.2.1,xs,q.2.2.2.2.2.2.2.2)]) [])=mY true M (i+1+l.length) (mkI h rs (ls++[(q.1,q.2.1,q.2.2.1,q.2.2.2.1,q.2.2.2.2.1,q.2.2.2.2.2.1,q.2.2.2.2.2.2.1,xs++l,q.2.2.2.2.2.2.2.2)]) [])
 | [],xs,i,_=>by rw[adU];rfl
 | x::r,xs,i,hl=>by
  obtain⟨hx,hr⟩:=hl x (by simp)
  have h1:=acj h rs ls (q.1,q.2.1,q.2.2.1,q.2.2.2.1,q.2.2.2.2.1,q.2.2.2.2.2.1,q.2.2.2.2.2.2.1,xs,q.2.2.2.2.2.2.2.2) x hx hr
  rw[<- BY _ _ (by simp[mV]) (xP hx)] at h1
  rw[aeK,aeK,adV,El _ _ _ _ _ h1,Vu h rs ls q M r (xs++[x]) (i+1) (fun y hy=>hl y (by simp[hy])),aez,show i+1+1+r.length=i+1+(r.length+1) by omega,adT]
  rfl
theorem SJ (h:HdT) (rs:List ak) (M:List Bys):∀ (l ls:List aa) (i:Nat),(∀ x∈l,EP x)->∃ j,mY true ((oI l).map uz++M) (i+1) (mkI h rs ls [])=mY true M (j+1) (mkI h rs (ls++l) [])
 | [],ls,i,_=>⟨i,by rw[adU];rfl⟩
 | x::r,ls,i,hl=>by
  have hx:=hl x (by simp)
  have h1:=abx h rs ls x hx
  rw[<- BY _ _ (by simp[Ak]) (Ep hx)] at h1
  obtain⟨j,hj⟩:=SJ h rs M r (ls++[x]) (i+1+x.2.2.2.2.2.2.2.1.length) (fun q hq=>hl q (by simp[hq]))
  refine⟨j, ?_⟩
  rw[oI,aeI,aeK,adV,adV,adT,El _ _ _ _ _ h1,Vu h rs ls x _ x.2.2.2.2.2.2.2.1 [] (i+1) hx.ext,aeZ,show i+1+1+x.2.2.2.2.2.2.2.1.length=(i+1+x.2.2.2.2.2.2.2.1.length)+1 by omega]
  refine hj.trans ?_
  rw[adT]
  rfl
theorem Vt (h:HdT) (rs:List ak) (ls:List aa):∀ (l xs:List aj) (i:Nat),(∀ x∈l,vT x)->mY true ((l.map lK).map uz) (i+1) (mkI h rs ls xs)= .inl (mkI h rs ls (xs++l))
 | [],xs,i,_=>by rw[adU];rfl
 | x::r,xs,i,hl=>by
  have hx:=hl x (by simp)
  have h1:=aci h rs ls xs x hx
  rw[<- BY _ _ (by simp[lK]) (A6 hx)] at h1
  rw[aeK,aeK,El _ _ _ _ _ h1,Vt h rs ls r _ (i+1) (fun y hy=>hl y (by simp[hy])),adT]
  rfl
theorem aah (v:ai) (h:pZ v=0) (hl:(Ah v).length<=300000):vw (Ah v)=some (v,0,0,()):=by
 have hg:=OZ h
 unfold vw
 rw[afZ (by omega),afW]
 unfold Ah at hl ⊢
 rw[Xa (CL v) (by simp[CL]) (aag hg) (by omega),afJ]
 dsimp only
 have e1:((CL v).map uz).isEmpty=false:=rfl
 have e2:=ack zI v hg
 rw[<- BY _ _ (by simp[lN]) (JF hg)] at e2
 have e3:mY true ((CL v).map uz) 0 zI= .inl v:=by
  rw[CL,aeK,El _ _ 0 _ _ e2,aeI,aeI]
  obtain⟨j,hj⟩:=SJ (v.1,v.2.1,v.2.2.1,v.2.2.2.1,v.2.2.2.2.1,v.2.2.2.2.2.1) v.2.2.2.2.2.2.1 ((v.2.2.2.2.2.2.2.2.map lK).map uz) v.2.2.2.2.2.2.2.1 [] (v.2.2.2.2.2.2.1.length) hg.lines
  refine (SK (v.1,v.2.1,v.2.2.1,v.2.2.2.1,v.2.2.2.2.1,v.2.2.2.2.2.1) _ v.2.2.2.2.2.2.1 [] 0 hg.rates).trans ?_
  rw[show 0+1+v.2.2.2.2.2.2.1.length=v.2.2.2.2.2.2.1.length+1 by omega,aeZ,hj,Vt _ _ _ _ _ _ hg.exts]
  rfl
 rw[e1,afW,e3]
 dsimp only
 rw[vY v,afJ,h]
 rfl
theorem XY:IA=some (true,()):=by kernel_rfl
theorem law_BillTexts (v:ai):jm v=some (true,()):=by
 unfold jm
 rw[RY,UU,afJ,afJ]
 have e0:((yY v).2.1 != (yY v).2.1)=false:=by simp
 have e1:(!((yY v).1==(yY v).1))=false:=by simp
 rw[e0,e1,afW,afW,XY,afJ]
 show (bif (yY v).2.1 != 0 then some (true,()) else _)=_
 unfold yY
 by_cases h:pZ v=0
 ·rw[af9 h]
  by_cases hb:((Ah v).length:Int)>300000
  ·rw[af9 hb]
   rfl
  ·rw[af8 hb]
   dsimp only
   rw[zne,afW,aah v h (by omega),afJ]
   dsimp only
   rw[aaI h]
   rfl
 ·rw[af8 h]
  have hb:(pZ v != 0)=true:=by simpa using h
  dsimp only
  rw[hb,afX]
end Go.Md
