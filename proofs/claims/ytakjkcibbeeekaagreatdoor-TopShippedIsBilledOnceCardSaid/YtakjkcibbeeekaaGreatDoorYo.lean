/-
  Plain facts, a part. No condition.
-/
import Derived.Test.YtakjkcibbeeekaaGreatDoorYn
import Derived.Test.YtakjkcibbeeekaaGreatDoorYh
set_option linter.all false
set_option linter.all false
set_option maxRecDepth 20000
namespace Go.Md
open Go.Dn
def stS (items:List av) (i:Nat):List (Tw×Int):=(items.take i).map fun g=>(cr g,th g.2.2*1000000)
theorem YP (items:List av) (i:Nat):(stS items i).map (·.1)=(items.take i).map cr:=by
 unfold stS;rw[aiw];rfl
theorem aeK {g:av} (h:qOk g.2.2 false=true) (b:Int):yo (th g.2.2) b=Aa (th g.2.2) b:=by
 obtain⟨_,_,_,_,t1,t2⟩:=A9 h
 unfold yo;rw[ajZ (by omega)]
theorem Tq {most items:List av} (hi:GOk items) (hm:GOk most) (hs:∀ g∈items,(uR most g).isSome=true):∀ i,i<=items.length->0<=dR most (items.take i)/\dR most (items.take i)<=dR most items:=by
 have pos:∀ l:List av,(∀ g∈l,g∈items)->0<=dR most l:=by
  intro l
  induction l with
  | nil=>intro _;exact ahm _
  | cons g r ih=>
   intro h
   have hg:=h g aiB
   obtain⟨x,hx⟩:=ajE.1 (hs g hg)
   obtain⟨_,_,o1,o2⟩:=TA hm hx
   obtain⟨_,_,_,_,t1,t2⟩:=A9 (hi g hg)
   have:=(Um t1 t2 o1 o2).1
   have:=ih fun g' hg'=>h g' (aiA _ hg')
   simp only[dR];omega
 have split:∀ (a b:List av),dR most (a++b)=dR most a+dR most b:=by
  intro a b
  induction a with
  | nil=>simp[dR]
  | cons g r ih=>simp only[ahN,dR,ih];omega
 intro i _
 have e:dR most items=dR most (items.take i)+dR most (items.drop i):=by
  rw[<- split,aiW]
 have h1:=pos (items.take i) fun g hg=>aiG hg
 have h2:=pos (items.drop i) fun g hg=>List.mem_of_mem_drop hg
 omega
theorem afY {p:Bys} (hp:By p=true) {n:Nat} {items most:List av} (hil:items.length<=100) (hgi:mw items=0) (hgm:mw most=0) (hs:∀ g∈items,(uR most g).isSome=true) (hT0:dR most items<=500) (hT:(n:Int)+dR most items<=10 ^ (17 - p.length)) (f:Nat) (hf:items.length<f): ∃ out,FE p n out (stS items items.length)/\(out.length:Int)=dR most items/\iter (X:=oS) (β:=tv) f (p,(n:Int),[],items,(items.length:Int),0,items.map (si most),()) oQ=some (Sum.inr (out,())):=by
 obtain⟨hi,hi2⟩:=Oh hgi
 obtain⟨hm,_⟩:=Oh hgm
 have mono:=Tq hi hm hs
 refine bX (Inv:=fun i X=>∃ out:List ak,FE p n out (stS items i)/\(out.length:Int)=dR most (items.take i)/\X=((p,(n:Int),out,items,(items.length:Int),(i:Int),items.map (si most),()):oS)) items.length (fun r=>∃ out,FE p n out (stS items items.length)/\(out.length:Int)=dR most items/\r=some (Sum.inr (out,()))) ?_ ?_ f 0 _ ⟨[],⟨fun j q hq=>by simp at hq,rfl⟩,rfl,rfl⟩ (by omega) (by omega)
 ·rintro i _ again hii ⟨out,ho,hcnt,rfl⟩ ih
  have hy:items[i]? =some items[i]:=aJ hii
  have hmem:items[i]∈items:=ail hii
  have hqi:=hi _ hmem
  obtain⟨k1,k2,k3⟩:=hi2 i _ hy
  obtain⟨x,hx⟩:=ajE.1 (hs _ hmem)
  obtain⟨_,_,o1,o2⟩:=TA hm hx
  have ets:items.take (i+1)=items.take i++[items[i]]:=by rw[ai0,hy];rfl
  have em:dR most (items.take (i+1))=dR most (items.take i)+Aa (th items[i].2.2) (si most items[i]):=by rw[ets,LU]
  have hmo:=(mono (i+1) (by omega)).2
  have hce:=aeK hqi (si most items[i])
  obtain⟨_,_,_,_,t1,t2⟩:=A9 hqi
  have heach:(items.map (si most))[i]? =some (si most items[i]):=by rw[aib,hy];rfl
  have hpk:=fun (f:Nat) (hf:(th items[i].2.2).toNat<f)=>afZ hp (items:=items) heach o1 o2 hqi k1 k2 (S:=stS items i) (by rw[YP];exact k3) (T:=dR most items) hT0 hT ho (by omega) f hf
  unfold oQ
  dsimp only
  rw[aB (by omega),bq,hy,ajA,Eu hqi,ajA]
  dsimp only
  have hF:(th items[i].2.2).toNat<List.length p+(Int.natAbs (n:Int)+(List.length out+(Int.natAbs (i:Int)+(Int.natAbs (th items[i].2.2)+(List.length items+(Int.natAbs ((List.length items:Nat):Int)+(Int.natAbs (i:Int)+(List.length items[i].1+(List.length items[i].2.1+(Int.natAbs items[i].2.2.1+(Int.natAbs items[i].2.2.2+(List.length (items.map (si most))+2)))))))))))):=by omega
  obtain⟨out',p1,p2,p3⟩:=hpk _ hF
  rw[p3,aS]
  dsimp only
  rw[ax (by omega) (by omega)]
  refine ih _ ⟨out', ?_,by omega,rfl⟩
  have e:stS items (i+1)=IE (stS items i) items[i] (th items[i].2.2):=by
   unfold IE
   rw[ajY (by omega)]
   unfold stS
   rw[ets,ait];rfl
  rw[e];exact p1
 ·rintro _ again ⟨out,ho,hcnt,rfl⟩
  unfold oQ
  dsimp only
  rw[az (by omega)]
  rw[aiY] at hcnt
  exact⟨out,ho,hcnt,rfl⟩
theorem agq {items most:List av} (hil:items.length<=100) (hml:most.length<=100) (p:Bys) (n:Int) (f:Nat) (hf:2<f): (∃ e,e≠0/\iter (X:=qG) (β:=vp) f (items,most,p,n,((2:Nat):Int),0,[items,most],()) vo=some (Sum.inl ([],e,())))\/(mw items=0/\mw most=0/\iter (X:=qG) (β:=vp) f (items,most,p,n,((2:Nat):Int),0,[items,most],()) vo=some (Sum.inr (items,most,p,n,()))):=by
 refine bX (Inv:=fun i X=>(0<i->mw items=0)/\(1<i->mw most=0)/\X=((items,most,p,n,((2:Nat):Int),(i:Int),[items,most],()):qG)) 2 (fun r=>(∃ e,e≠0/\r=some (Sum.inl ([],e,())))\/(mw items=0/\mw most=0/\r=some (Sum.inr (items,most,p,n,())))) ?_ ?_ f 0 _ ⟨nofun,nofun,rfl⟩ (by omega) (by omega)
 ·rintro i _ again hi ⟨h1,h2,rfl⟩ ih
  unfold vo
  dsimp only
  rw[aB (by omega),bg (by rw[ag1];exact⟨ajR (by omega),ajR (by simp only[ain,aip];omega)⟩),ahC]
  match i,hi with
  | 0,_=>
   rw[show ([items,most]:List (List av))[0]? =some items from rfl,ajA,MA items (by omega),ajA]
   dsimp only
   by_cases h:mw items=0
   ·rw[show (mw items != 0)=false by simpa using h,ajN,ax (by omega) (by omega)]
    exact ih _ ⟨fun _=>h,by omega,rfl⟩
   ·rw[show (mw items != 0)=true by simpa using h,ajO]
    exact .inl ⟨_,h,rfl⟩
  | 1,_=>
   rw[show ([items,most]:List (List av))[1]? =some most from rfl,ajA,MA most (by omega),ajA]
   dsimp only
   by_cases h:mw most=0
   ·rw[show (mw most != 0)=false by simpa using h,ajN,ax (by omega) (by omega)]
    exact ih _ ⟨fun _=>h1 (by omega),fun _=>h,rfl⟩
   ·rw[show (mw most != 0)=true by simpa using h,ajO]
    exact .inl ⟨_,h,rfl⟩
 ·rintro _ again ⟨h1,h2,rfl⟩
  unfold vo
  dsimp only
  rw[az (by omega)]
  exact .inr ⟨h1 (by omega),h2 (by omega),rfl⟩
theorem aay (items most:List av) (p:Bys) (n:Int): (∃ e,e≠0/\uB items most p n=some ([],e,()))\/∃ (out:List ak) (m:Nat),items.length<=100/\mw items=0/\out.length<=500/\(out≠[]->m+out.length<=10 ^ (17 - p.length))/\FE p m out (stS items items.length)/\uB items most p n=some (out,0,()):=by
 unfold uB
 by_cases hil:100<items.length
 ·rw[aB (by omega)];exact .inl ⟨2,by decide,rfl⟩
 rw[az (by omega)]
 by_cases hml:100<most.length
 ·rw[aB (by omega)];exact .inl ⟨2,by decide,rfl⟩
 rw[az (by omega)]
 have h4:=fun f hf=>agq (items:=items) (most:=most) (by omega) (by omega) p n f hf
 rw[show ((([items,most]:List (List av)).length:Nat):Int)=((2:Nat):Int) from rfl]
 rcases h4 (List.length items+(List.length most+(List.length p+(Int.natAbs n+(Int.natAbs ((2:Nat):Int)+(Int.natAbs (0:Int)+(List.length ([items,most]:List (List av))+2))))))) (by simp only[ain,aip];omega) with ⟨e,he,h⟩ | ⟨hgi,hgm,h⟩
 ·rw[h,lI];exact .inl ⟨e,he,rfl⟩
 rw[h,aS]
 dsimp only
 obtain⟨hi,_⟩:=Oh hgi
 obtain⟨hm,_⟩:=Oh hgm
 rcases Zw (by omega) (by omega) hi hm with ⟨hs,h⟩ | h
 rotate_left
 ·rw[h,ajA];exact .inl ⟨9,by decide,rfl⟩
 rw[h,ajA]
 dsimp only
 rw[zne,ajN,U5,ajA]
 dsimp only
 by_cases hl:Pv p n (dR most items)=0
 rotate_left
 ·rw[show (Pv p n (dR most items) != 0)=true by simpa using hl,ajO]
  exact .inl ⟨_,hl,rfl⟩
 rw[show (Pv p n (dR most items) != 0)=false by simpa using hl,ajN]
 by_cases h5:500<dR most items
 ·rw[aB (by omega)];exact .inl ⟨2,by decide,rfl⟩
 rw[az (by omega)]
 right
 by_cases h0:dR most items=0
 ·-- nothing to pack
  have hnil:items=[]:=by
   cases items with
   | nil=>rfl
   | cons g r=>
    exfalso
    have:=(Tq hi hm hs 1 (by simp)).2
    obtain⟨x,hx⟩:=ajE.1 (hs g aiB)
    obtain⟨_,_,o1,o2⟩:=TA hm hx
    obtain⟨_,_,_,_,t1,t2⟩:=A9 (hi g aiB)
    have h3:=(Um t1 t2 o1 o2).1
    have e:dR most (List.take 1 (g::r))=Aa (th g.2.2) (si most g):=by simp[dR]
    omega
  subst hnil
  have e20:∀ f,0<f->iter (X:=oS) (β:=tv) f (p,n,[],[],((([]:List av).length:Nat):Int),0,([]:List av).map (si most),()) oQ=some (Sum.inr ([],())):=by
   intro f hf
   obtain⟨f,rfl⟩:∃ m,f=m+1:=⟨f - 1,by omega⟩
   rw[bR]
   unfold oQ
   dsimp only
   rw[az (by simp)]
  rw[e20 _ (by omega),aS]
  exact⟨[],0,by simp,hgi,by simp,fun h=>absurd rfl h,⟨fun j q hq=>by simp at hq,rfl⟩,rfl⟩
 ·unfold Pv at hl
  rw[ajY h0] at hl
  by_cases hf:FN p n=0
  rotate_left
  ·rw[ajZ hf] at hl;exact absurd hl hf
  rw[ajY (by simpa using hf)] at hl
  have hroom:¬(10:Int) ^ (17 - p.length) - n<dR most items:=fun h=>by rw[ajZ h] at hl;omega
  have hp:By p=true:=by
   unfold FN at hf
   split at hf
   ·assumption
   ·omega
  have hn:¬(n<0\/(10:Int) ^ (17 - p.length) - 1<n):=by
   unfold FN at hf
   rw[ajZ hp] at hf
   intro h
   rw[ajZ h] at hf;omega
  obtain⟨m,rfl⟩:∃ m:Nat,n=m:=⟨n.toNat,by omega⟩
  have h20:=fun f hf=>afY hp (n:=m) (items:=items) (most:=most) (by omega) hgi hgm hs (by omega) (by omega) f hf
  obtain⟨out,p1,p2,p3⟩:=h20 (List.length p+(Int.natAbs (m:Int)+(List.length ([]:List ak)+(List.length items+(Int.natAbs ((List.length items:Nat):Int)+(Int.natAbs (0:Int)+(List.length (items.map (si most))+2))))))) (by omega)
  rw[p3,aS]
  refine⟨out,m,by omega,hgi,by omega,fun _=> ?_,p1,rfl⟩
  have h3:((m+out.length:Nat):Int)<=((10 ^ (17 - p.length):Nat):Int):=by
   rw[Int.natCast_pow]
   show ((m+out.length:Nat):Int)<=10 ^ (17 - p.length)
   omega
  omega
end Go.Md
set_option linter.all false
set_option maxRecDepth 20000
namespace Go.Md
open Go.Dn
theorem xN {α:Type} {g:Nat->α->Int}:∀ {l:List α} {i:Nat},(∀ j y,l[j]? =some y->g (i+j) y=0)->fk g i l=0
 | [],_,_=>rfl
 | y::r,i,h=>by
  have h0:g i y=0:=by
   have:=h 0 y rfl
   rwa [ai5] at this
  unfold fk
  rw[ajZ h0]
  refine xN fun j z hz=> ?_
  have:=h (j+1) z hz
  rwa [show i+(j+1)=i+1+j by omega] at this
theorem WT {p:Bys} {m:Nat} {out:List ak} {S:List (Tw×Int)} (h:FE p m out S) (hl:out.length<=500) (hr:out≠[]->m+out.length<=10 ^ (17 - p.length)):rZ ([97],[111],1,out)=0:=by
 have hroom:∀ (j:Nat) (q:ak),out[j]? =some q->m+j<10 ^ (17 - p.length):=fun j q hq=>by
  have hj:=(aia.1 hq).1
  have:=hr (fun e=>by rw[e] at hj;cases hj)
  omega
 have asc:∀ (i j:Nat) (x y:ak),i<j->out[i]? =some x->out[j]? =some y->Op.bytesLess x.1 y.1=true:=fun i j x y hij hx hy=>
  Zm (h.each i x hx).1 (h.each j y hy).1 (hroom i x hx) (hroom j y hy) (by omega)
 have hp:fk (rF out) 0 out=0:=by
  refine xN fun i q hi=> ?_
  rw[ajx]
  obtain⟨e1,e2,e3,c,e4,e5,e6,e7,e8⟩:=h.each i q hi
  unfold rF
  rw[ajY (by rw[e1.ok];decide),ajY,ajY (by rw[e3];decide)]
  ·rw[e4]
   unfold CT
   rw[ajY (show ¬100<[c].length by simp)]
   refine xN fun j y hy=> ?_
   rw[ajx]
   match j,hy with
   | 0,hy=>
    cases hy
    unfold Pg
    rw[ajY (by rw[e5];decide),ajY (by rw[e6];decide),ajY (by rw[e7];decide),ajY (show ¬TK [c] 0 c=true from ag7),ajZ e8]
  ·unfold Ma
   cases i with
   | zero=>exact ag7
   | succ i=>
    dsimp only
    have hlt:=(aia.1 hi).1
    have hpi:out[i]? =some out[i]:=aJ (by omega)
    rw[hpi]
    dsimp only
    have hb:=asc i (i+1) _ _ (by omega) hpi hi
    rw[Qo hb,ag8]
    have hne:q.1≠(out[i]).1:=fun e=>by rw[e,dA] at hb;cases hb
    simp[hne]
 have hin:∀ (j:Nat) (q:ak),out[j]? =some q->q.2.1=[]:=fun j q hq=>(h.each j q hq).2.1
 have hpar:∀ i,par out i=none:=fun i=>by
  unfold par
  cases hq:out[i]? with
  | none=>rfl
  | some q=>dsimp only;rw[ajZ (hin i q hq)]
 have n1z:Tt out=0:=xN fun i q hi=>by
  unfold n1
  rw[ajY]
  rintro⟨h1,_⟩
  exact h1 (hin i q hi)
 have n2z:Tu out=0:=xN fun i q hi=>by
  unfold n2
  rw[ajY]
  rintro⟨j,hj⟩
  rw[ajx] at hj
  have e:itp (par out) (j+1) i=none:=by
   simp only[itp,hpar,Option.bind_none]
  rw[e] at hj;cases hj
 have n3z:acH out=0:=xN fun i q hi=>by
  unfold n3
  rw[ajx,VC (hpar i),ajY (by decide)]
 unfold rZ
 dsimp only
 rw[ajY (show ¬bF [97]=false by decide),ajY (show ¬bF [111]=false by decide),ajY (by omega),ajY (by omega),ajY (by rw[hp];decide)]
 unfold Tv
 rw[ajY (by rw[n1z];decide),ajY (by rw[n2z];decide),n3z]
theorem GD (p:Nat) (z:Int):few (p+1) (z*10)=few p z:=by
 show (if z*10 % 10=0 then few p (z*10 / 10) else _)=_
 rw[ajZ (by omega),Int.mul_ediv_cancel _ (by decide)]
theorem US (z:Int):few 9 (z*1000000)=few 3 z:=by
 rw[show z*1000000=z*10*10*10*10*10*10 by omega,GD,GD,GD,GD,GD,GD]
theorem adV {items:List av} (hnd:(items.map cr).Nodup) {g:av} (hg:g∈items):rA (cr g) (stS items items.length)=some (th g.2.2*1000000):=by
 unfold stS
 rw[aiY]
 have hnd':((items.map fun g=>(cr g,th g.2.2*1000000)).map (·.1)).Nodup:=by
  rw[aiw];exact hnd
 exact Yq hnd' (p:=(cr g,th g.2.2*1000000)) (aiE.2 ⟨g,hg,rfl⟩)
theorem nodup_keys {items:List av} (h:∀ (i:Nat) (y:av),items[i]? =some y->cr y∉(items.take i).map cr):(items.map cr).Nodup:=by
 rw[List.nodup_iff_pairwise_ne,aiN]
 intro i j hi hj hij
 rw[aio] at hi hj
 rw[List.getElem_map,List.getElem_map]
 intro e
 refine h j items[j] (aJ hj) ?_
 rw[<- e]
 refine aiE.2 ⟨items[i], ?_,rfl⟩
 rw[aiD]
 exact⟨i,by rw[aij hij];exact aJ hi⟩
theorem QC {items:List av} (hi:GOk items) (hnd:(items.map cr).Nodup):∀ ks:List Tw,(∀ k∈ks,k∈items.map cr)->∃ L,yZ (stS items items.length) ks=some L/\L.length=ks.length/\∀ x∈L,cm x.2.2/\∃ g∈items,cr x=cr g/\v9 x.2.2=th g.2.2*1000000
 | [],_=>⟨[],rfl,rfl,nofun⟩
 | k::r,h=>by
  obtain⟨L,l1,l2,l3⟩:=QC hi hnd r fun k' hk'=>h k' (aiA _ hk')
  obtain⟨g,hg,rfl⟩:=aiE.1 (h k aiB)
  obtain⟨_,_,_,_,t1,t2⟩:=A9 (hi g hg)
  have hv:B5 (stS items items.length) (cr g)=th g.2.2*1000000:=by
   unfold B5;rw[adV hnd hg];rfl
  obtain⟨f1,f2,f3⟩:=mR 3 (th g.2.2)
  have hfu:(few 9 (th g.2.2*1000000)).1=(few 3 (th g.2.2)).1:=by rw[US]
  have hb:(few 9 (th g.2.2*1000000)).1.natAbs<=1000000000000000:=by rw[hfu];omega
  have h0:(few 9 (th g.2.2*1000000)).1≠0:=fun e=>by
   rw[hfu] at e
   rw[e,ahD] at f2
   omega
  refine⟨((cr g).1,(cr g).2,wT (th g.2.2*1000000))::L, ?_,by simp[l2],fun x hx=> ?_⟩
  ·simp only[yZ]
   rw[hv,ajZ (show okD (th g.2.2*1000000)=true from ajR hb),l1,ajG,ajY h0]
  ·rcases aiz.1 hx with rfl | hx
   ·exact⟨YX hb,g,hg,rfl,Wl _⟩
   ·exact l3 x hx
end Go.Md
set_option linter.all false
set_option maxRecDepth 20000
namespace Go.Md
open Go.Dn
theorem adr {n r n' r':Bys} {d d':Int} {l:List ak} (h:rZ (n,r,d,l)=0) (h1:bF n'=true) (h2:bF r'=true) (h3:1<=d'/\d'<=3652059):rZ (n',r',d',l)=0:=by
 unfold rZ at h ⊢
 dsimp only at h ⊢
 rw[h1,ajY (by decide),h2,ajY (by decide),ajY (by omega)]
 split at h
 ·cases h
 split at h
 ·cases h
 split at h
 ·cases h
 exact h
theorem VO (S:List (Tw×Int)):∀ (ks:List Tw) (L:List av),yZ S ks=some L->L.length=ks.length->L.map cr=ks
 | [],L,h,_=>by cases h;rfl
 | k::r,L,h,hl=>by
  simp only[yZ] at h
  split at h
  ·cases hr:yZ S r with
   | none=>rw[hr] at h;cases h
   | some l=>
    rw[hr,ajG] at h
    have h':=Option.some.inj h
    obtain⟨_,_,hll⟩:=VP S r l hr
    by_cases h0:(few 9 (B5 S k)).1=0
    ·rw[ajZ h0] at h';subst h';simp only[ain] at hl;omega
    ·rw[ajY h0] at h';subst h'
     simp only[ain] at hl
     rw[aiv,VO S r l hr (by omega)]
     rfl
  ·cases h
def gu (o:ai):List av:=(nK o).map fun x=>(x.2.1,x.2.2.2.1,x.2.2.1)
theorem Yv {l:List Tw} (h:l.Nodup) {i j:Nat} {x:Tw} (hi:l[i]? =some x) (hj:l[j]? =some x):i=j:=by
 obtain⟨a,a'⟩:=aia.1 hi
 obtain⟨b,b'⟩:=aia.1 hj
 have hp:=aiN.1 (List.nodup_iff_pairwise_ne.1 h)
 rcases ajm i j with c | c | c
 ·exact absurd (a'.trans b'.symm) (hp i j a b c)
 ·exact c
 ·exact absurd (b'.trans a'.symm) (hp j i b a c)
theorem Q9 {s:aj} {g:bw}:asks s g=true↔(s.2.1,s.2.2.1)=cr g:=by
 unfold asks cr
 rw[ag1,ajL,ajL]
 constructor
 ·rintro⟨h1,h2⟩;exact Prod.ext h1 h2
 ·intro h;exact⟨(Prod.mk.inj h).1,(Prod.mk.inj h).2⟩
abbrev Vo (o:ai):List aj:=(aO o).map dB
theorem afe {x:aq} (h:yQ x):x.opn=x.ord:=by
 obtain⟨z1,z2,z3,_⟩:=h.z
 have:=h.ord
 unfold aq.opn
 rw[ajZ (by omega)];omega
theorem PF {x:aq} (h:yQ x):opn (dB x)=eP x.ord:=by
 show eP x.opn=_
 rw[afe h]
theorem PJ {n:Int} (h0:0<=n) (h1:n<=1000000000000):cm (eP n)/\v9 (eP n)=n*1000000:=Eb (by omega)
theorem agb {o:ai} (ho:gf o=0):Ef (Vo o)=0:=by
 have hlen:=(Cl ho).len
 have hs:=VZ ho
 unfold Ef
 rw[ajY (by rw[aio];omega)]
 refine IJ fun i y hy=> ?_
 rw[ajx]
 rw[aib] at hy
 cases hx:(aO o)[i]? with
 | none=>rw[hx] at hy;cases hy
 | some x=>
  rw[hx,ajG,Option.some.injEq] at hy
  subst hy
  have hn:=jU ho x (aiF hx)
  have hno:=hn.no
  have hor:=hn.ord
  obtain⟨d1,d2⟩:=PJ (n:=x.ord) (by omega) (by omega)
  unfold Oy
  rw[PF hn,ajY (show ¬((dB x).1<1\/99999<(dB x).1) by show ¬(x.no<1\/99999<x.no);omega),ajY,ajY (fun e=>e d1),ajY]
  ·have:=(IG (IX hor.1 hor.2)).2.1
   omega
  ·cases i with
   | zero=>exact ag7
   | succ i=>
    unfold TL
    dsimp only
    rw[aib]
    cases hp:(aO o)[i]? with
    | none=>exact ag7
    | some p=>
     rw[ajG]
     obtain⟨a,a'⟩:=aia.1 hp
     obtain⟨b,b'⟩:=aia.1 hx
     have:=aiN.1 hs i (i+1) a b (by omega)
     rw[a',b'] at this
     show ¬decide (x.no<=p.no)=true
     simp;omega
theorem aea {x:aq} (h:yQ x):Mb (dB x)=(x.no,eP x.ord,x.due):=by
 have hor:=h.ord
 unfold Mb
 rw[PF h,(PJ (n:=x.ord) (by omega) (by omega)).2]
 unfold wT
 rw[US];rfl
theorem abM {o:ai} (ho:gf o=0) (hg:mw (gu o)=0) (hl:(gu o).length<=100): ∃ L,yZ (stS (gu o) (gu o).length) (ksS (stS (gu o) (gu o).length))=some L/\xJ L (Vo o)=some ((aO o).map fun x=>(x.no,eP x.ord,x.due),[],0,()):=by
 obtain⟨hi,hi2⟩:=Oh hg
 have hnd:=nodup_keys fun i y hy=>(hi2 i y hy).2.2
 have hkeys:(stS (gu o) (gu o).length).map (·.1)=(gu o).map cr:=by rw[YP,aiY]
 have hperm:=Yj (stS (gu o) (gu o).length)
 rw[hkeys] at hperm
 obtain⟨L,l1,l2,l3⟩:=QC hi hnd (ksS (stS (gu o) (gu o).length)) fun k hk=>hperm.mem_iff.1 hk
 have hLk:=VO _ _ L l1 l2
 have hLp:(L.map cr).Perm ((gu o).map cr):=by rw[hLk];exact hperm
 have hLn:(L.map cr).Nodup:=hLp.nodup_iff.2 hnd
 have hLl:L.length=(gu o).length:=by have:=hLp.length_eq;rwa [aio,aio] at this
 refine⟨L,l1, ?_⟩
 have hst:Vo o=(nK o).map fun x=>dB (ny x):=aiw
 have hsk:∀ (k:Nat) (s:aj),(Vo o)[k]? =some s->∃ x,(nK o)[k]? =some x/\s=dB (ny x)/\yQ (ny x)/\((gu o).map cr)[k]? =some (s.2.1,s.2.2.1):=by
  intro k s hs
  rw[hst,aib] at hs
  cases hx:(nK o)[k]? with
  | none=>rw[hx] at hs;cases hs
  | some x=>
   rw[hx,ajG,Option.some.injEq] at hs
   subst hs
   refine⟨x,rfl,rfl,jU ho _ (aiE.2 ⟨x,aiF hx,rfl⟩), ?_⟩
   unfold gu
   rw[aib,aib,hx];rfl
 have hF:Fit L (Vo o):=by
  constructor
  ·intro i g hg
   obtain⟨hd,g',hg',hkg,hvg⟩:=l3 g (aiF hg)
   obtain⟨k,hk⟩:=aiD.1 hg'
   have hkk:((gu o).map cr)[k]? =some (cr g):=by rw[aib,hk,hkg];rfl
   have hx:∃ x,(nK o)[k]? =some x/\g'=(x.2.1,x.2.2.2.1,x.2.2.1):=by
    unfold gu at hk
    rw[aib] at hk
    cases hx:(nK o)[k]? with
    | none=>rw[hx] at hk;cases hk
    | some x=>rw[hx,ajG,Option.some.injEq] at hk;exact⟨x,rfl,hk.symm⟩
   obtain⟨x,hx,hgx⟩:=hx
   have hn:yQ (ny x):=jU ho _ (aiE.2 ⟨x,aiF hx,rfl⟩)
   have hor:=hn.ord
   refine⟨k,dB (ny x),by rw[hst,aib,hx];rfl, ?_, ?_, ?_⟩
   ·rw[PF hn,(PJ (n:=(ny x).ord) (by omega) (by omega)).2,hvg,hgx];rfl
   ·intro k' s' hs'
    obtain⟨_,_,_,_,e⟩:=hsk k' s' hs'
    rw[Q9]
    constructor
    ·intro h;rw[h] at e;exact Yv hnd e hkk
    ·rintro rfl;rw[hkk] at e;exact (Option.some.inj e).symm
   ·intro j h hj ha
    rw[Q9] at ha
    have e1:(L.map cr)[j]? =some (cr h):=by rw[aib,hj];rfl
    have e2:(L.map cr)[i]? =some (cr g):=by rw[aib,hg];rfl
    have e3:cr h=cr g:=by
     rw[<- ha,hkg,hgx];rfl
    rw[e3] at e1
    exact Yv hLn e1 e2
  ·intro s hs
   obtain⟨k,hk⟩:=aiD.1 hs
   obtain⟨_,_,_,_,e⟩:=hsk k s hk
   have hm:(s.2.1,s.2.2.1)∈L.map cr:=hLp.mem_iff.2 (aiF e)
   obtain⟨g,hg,hge⟩:=aiE.1 hm
   rw[ahK]
   exact⟨g,hg,Q9.2 hge.symm⟩
 have hitems:HA L=0:=by
  unfold HA
  rw[ajY (by omega)]
  refine IJ fun i y hy=> ?_
  obtain⟨hd,g,hg,hkg,hvg⟩:=l3 y (aiF hy)
  obtain⟨j,hj⟩:=aiD.1 hg
  obtain⟨n1,n2,_⟩:=hi2 j g hj
  have k1:y.1=g.1:=(Prod.mk.inj hkg).1
  have k2:y.2.1=g.2.1:=(Prod.mk.inj hkg).2
  unfold Ti
  rw[k1,k2,n1,n2,ajY (by decide),ajY (by decide),ajY (fun e=>e hd),ajY]
  intro hneg
  have hp:(0:Int)<10 ^ ((9:Int) - y.2.2.2).toNat:=ahw (by decide)
  have:=ahq hneg hp
  obtain⟨_,_,_,_,t1,_⟩:=A9 (hi g hg)
  unfold v9 at hvg
  omega
 rw[aeC hitems (agb ho) hF]
 ·rw[aiw]
  refine congrArg (fun z=>some (z,[],0,())) (aiu fun x hx=> ?_)
  exact aea (jU ho x hx)
 ·intro y hy
  obtain⟨x,hx,rfl⟩:=aiE.1 hy
  have hn:=jU ho x hx
  have hor:=hn.ord
  rw[PF hn,(PJ (n:=x.ord) (by omega) (by omega)).2,US]
  have:=(mR 3 x.ord).2.2
  exact⟨by omega,by omega⟩
theorem acQ {o:ai} (ho:gf o=0) (most:List av) (p:Bys) (n:Int) {num:Bys} (hnum:bF num=true): (∃ e,e≠0/\uB (gu o) most p n=some ([],e,()))\/ ∃ out L,(gu o).length<=100/\out.length<=500/\uB (gu o) most p n=some (out,0,())/\Dk (num,FP o,bT o,out)=some (bU out,())/\tC (num,FP o,bT o,out) (bU out)=some (L,0,())/\xJ L (Vo o)=some ((aO o).map fun x=>(x.no,eP x.ord,x.due),[],0,()):=by
 rcases aay (gu o) most p n with h | ⟨out,m,hil,hgi,hol,hr,hk,h⟩
 ·exact .inl h
 ·obtain⟨L,l1,l2⟩:=abM ho hgi hil
  refine .inr ⟨out,L,hil,hol,h,abw (num,FP o,bT o,out) (by show out.length*72<=_;omega), ?_,l2⟩
  have hadv:rZ (num,FP o,bT o,out)=0:=adr (WT hk hol hr) hnum (gy ho).2.2.2.2.2.1 (gy ho).1
  have hfit:Xi (num,FP o,bT o,out):=fun q hq=>by
   obtain⟨i,hi⟩:=aiD.1 hq
   have hlb:=(hk.each i q hi).1.ok
   unfold lbl at hlb
   simp only[ag1,ajS] at hlb
   have:=hlb.1
   omega
  have htS:Vr out []=stS (gu o) (gu o).length:=by rw[<- hk.sums];rfl
  have:=Y2 hfit hadv
  dsimp only at this
  rw[htS] at this
  rw[this]
  unfold UU
  rw[l1]
end Go.Md
set_option linter.all false
set_option maxRecDepth 20000
namespace Go.Md
open Go.Dn
theorem EP:Cy=some (true,()):=by kernel_rfl
theorem aem (ls l lz:List aT) (c i:Int) (o1 o2 o3:Bys) (o4 o5:Int) (y:aT) (hl:l.length<=1000000) (f:Nat) (hf:l.length<f): iter f ((ls,c,i,l,(l.length:Int),(0:Int),o1,o2,o3,o4,o5,lz,y.1,y.2.1,y.2.2.1.1,y.2.2.1.2,y.2.2.2.1,y.2.2.2.2.1.1,y.2.2.2.2.1.2,y.2.2.2.2.2,()):oW) tT=some (Sum.inl (Sum.inl (true,())))\/ iter f ((ls,c,i,l,(l.length:Int),(0:Int),o1,o2,o3,o4,o5,lz,y.1,y.2.1,y.2.2.1.1,y.2.2.1.2,y.2.2.2.1,y.2.2.2.2.1.1,y.2.2.2.2.1.2,y.2.2.2.2.2,()):oW) tT=some (Sum.inr (ls,c,i,o1,o2,o3,o4,o5,lz,())):=by
 refine bX (Inv:=fun j X=>X=((ls,c,i,l,(l.length:Int),(j:Int),o1,o2,o3,o4,o5,lz,y.1,y.2.1,y.2.2.1.1,y.2.2.1.2,y.2.2.2.1,y.2.2.2.2.1.1,y.2.2.2.2.1.2,y.2.2.2.2.2,()):oW)) l.length
  (fun r=>r=some (Sum.inl (Sum.inl (true,())))\/r=some (Sum.inr (ls,c,i,o1,o2,o3,o4,o5,lz,()))) ?_ ?_ f 0 _ rfl (by omega) (by omega)
 ·rintro j _ again hj rfl ih
  have hy:l[j]? =some l[j]:=aJ hj
  unfold tT
  dsimp only
  rw[aB (by omega),bq,hy,ajA,ax (by omega) (by omega)]
  obtain⟨v,hv⟩:∃ v,(bif y.2.1==l[j].2.1 then some (y.2.2.2.1==l[j].2.2.2.1,()) else some (false,()))=some (v,()):=by
   cases y.2.1==l[j].2.1
   ·exact⟨_,rfl⟩
   ·exact⟨_,rfl⟩
  rw[hv,ajA]
  cases v with
  | true=>exact .inl rfl
  | false=>exact ih _ rfl
 ·rintro _ again rfl
  unfold tT
  dsimp only
  rw[az (by omega)]
  exact .inr rfl
theorem adl (o:ai) (hl:(nK o).length<=1000000):∃ b,Dl o=some (b,()):=by
 obtain⟨o1,o2,o3,o4,o5,ls⟩:=o
 have hl:ls.length<=1000000:=hl
 unfold Dl
 dsimp only
 have loop:∀ f,ls.length<f->iter f ((ls,(ls.length:Int),(0:Int),o1,o2,o3,o4,o5,ls,()):oV) tP=some (Sum.inl (true,()))\/iter f ((ls,(ls.length:Int),(0:Int),o1,o2,o3,o4,o5,ls,()):oV) tP=some (Sum.inr (o1,o2,o3,o4,o5,ls,())):=by
  intro f hf
  refine bX (Inv:=fun i X=>X=((ls,(ls.length:Int),(i:Int),o1,o2,o3,o4,o5,ls,()):oV)) ls.length
   (fun r=>r=some (Sum.inl (true,()))\/r=some (Sum.inr (o1,o2,o3,o4,o5,ls,()))) ?_ ?_ f 0 _ rfl (by omega) (by omega)
  ·rintro i _ again hi rfl ih
   have hy:ls[i]? =some ls[i]:=aJ hi
   unfold tP
   dsimp only
   rw[aB (by omega),bq,hy,ajA,bg (by simp only[ag1,ajS];omega)]
   have h5:=fun f hf=>aem ls (List.drop 0 (List.take (Int.toNat (i:Int)) ls)) ls (ls.length:Int) (i:Int) o1 o2 o3 o4 o5 ls[i] (by rw[ahT,ais];omega) f hf
   rcases h5 (ls.length+(Int.natAbs (ls.length:Int)+(Int.natAbs (i:Int)+((List.drop 0 (List.take (Int.toNat (i:Int)) ls)).length+(Int.natAbs ((List.drop 0 (List.take (Int.toNat (i:Int)) ls)).length:Int)+(Int.natAbs (0:Int)+(o1.length+(o2.length+(o3.length+(o4.natAbs+(o5.natAbs+(ls.length+(ls[i].1.natAbs+(ls[i].2.1.length+(ls[i].2.2.1.1.natAbs+(ls[i].2.2.1.2.natAbs+(ls[i].2.2.2.1.length+(ls[i].2.2.2.2.1.1.natAbs+(ls[i].2.2.2.2.1.2.natAbs+(ls[i].2.2.2.2.2.natAbs+2)))))))))))))))))))) (aje _ (aje _ (aje _ (ajf (by with_reducible repeat (first | exact ajz | refine aje _ ?_)))))) with h | h
   ·rw[h,lI];exact .inl rfl
   ·rw[h,aS]
    dsimp only
    rw[ax (by omega) (by omega)]
    exact ih _ rfl
  ·rintro _ again rfl
   unfold tP
   dsimp only
   rw[az (by omega)]
   exact .inr rfl
 rcases loop (ls.length+(Int.natAbs (ls.length:Int)+(Int.natAbs (0:Int)+(o1.length+(o2.length+(o3.length+(o4.natAbs+(o5.natAbs+(ls.length+2))))))))) (ajf (by with_reducible repeat (first | exact ajz | refine aje _ ?_))) with h | h
 ·rw[h,lI];exact⟨_,rfl⟩
 ·rw[h,aS];exact⟨_,rfl⟩
theorem Zh (o:ai) (hl:(nK o).length<=1000000):EL o=some (gu o,()):=by
 obtain⟨o1,o2,o3,o4,o5,ls⟩:=o
 have hl:ls.length<=1000000:=hl
 unfold EL gu
 dsimp only
 have loop:∀ f,ls.length<f->iter f (([],ls,(ls.length:Int),(0:Int),()):vu) Ar=some (Sum.inr (ls.map fun x=>(x.2.1,x.2.2.2.1,x.2.2.1),())):=by
  intro f hf
  refine bX (Inv:=fun i X=>X=(((ls.take i).map fun x=>(x.2.1,x.2.2.2.1,x.2.2.1),ls,(ls.length:Int),(i:Int),()):vu)) ls.length (fun r=>r=some (Sum.inr (ls.map fun x=>(x.2.1,x.2.2.2.1,x.2.2.1),()))) ?_ ?_ f 0 _ rfl (by omega) (by omega)
  ·rintro i _ again hi rfl ih
   have hy:ls[i]? =some ls[i]:=aJ hi
   have ets:ls.take (i+1)=ls.take i++[ls[i]]:=by rw[ai0,hy];rfl
   unfold Ar
   dsimp only
   rw[aB (by omega),bq,hy,ajA,ax (by omega) (by omega),bg (u7 (by rw[aio,ais];omega) (by rw[aio,ais];omega))]
   exact ih _ (by rw[ets,ait];rfl)
  ·rintro _ again rfl
   unfold Ar
   dsimp only
   rw[az (by omega),aiZ (ajc _)]
 rw[loop _ (aje _ (ajf (by with_reducible repeat (first | exact ajz | refine aje _ ?_)))),aS]
theorem UG (D:Nat->aq->aa):∀ (L:List aq) (k i:Nat) (x:aq),L[i]? =some x->(dlL D k L)[i]? =some (D (k+i) x)
 | [],_,_,_,h=>by simp at h
 | y::L,k,0,x,h=>by
  rw[ah6] at h
  rw[Option.some.inj h];rfl
 | y::L,k,i+1,x,h=>by
  rw[ah5] at h
  have:=UG D L (k+1) i x h
  rw[show k+1+i=k+(i+1) by omega] at this
  exact this
def rsL (o:ai):List ff:=(aO o).map fun x=>(x.no,eP x.ord,x.due)
theorem ac5 (o:ai) (v:an) (hl:(aO o).length<=1000) (f:Nat) (hf:(rsL o).length<f): iter f ((rsL o,[],rsL o,((rsL o).length:Int),(0:Int),o.1,o.2.1,o.2.2.1,o.2.2.2.1,o.2.2.2.2.1,o.2.2.2.2.2,v.1,v.2.1,v.2.2.1,v.2.2.2.1,v.2.2.2.2.1,v.2.2.2.2.2.1,v.2.2.2.2.2.2.1,v.2.2.2.2.2.2.2.1,v.2.2.2.2.2.2.2.2,()):fV) iZ= some (Sum.inr (rsL o,dlL (gA (bT o)) 0 (aO o),o.1,o.2.1,o.2.2.1,o.2.2.2.1,o.2.2.2.2.1,o.2.2.2.2.2,v.1,v.2.1,v.2.2.1,v.2.2.2.1,v.2.2.2.2.1,v.2.2.2.2.2.1,v.2.2.2.2.2.2.1,v.2.2.2.2.2.2.2.1,v.2.2.2.2.2.2.2.2,())):=by
 have hrl:(rsL o).length=(aO o).length:=aio ..
 have hdl:=GC (gA (bT o)) (aO o) 0
 refine bX (Inv:=fun i X=>X=((rsL o,(dlL (gA (bT o)) 0 (aO o)).take i,rsL o,((rsL o).length:Int),(i:Int),o.1,o.2.1,o.2.2.1,o.2.2.2.1,o.2.2.2.2.1,o.2.2.2.2.2,v.1,v.2.1,v.2.2.1,v.2.2.2.1,v.2.2.2.2.1,v.2.2.2.2.2.1,v.2.2.2.2.2.2.1,v.2.2.2.2.2.2.2.1,v.2.2.2.2.2.2.2.2,()):fV)) (rsL o).length (fun r=>r=some (Sum.inr (rsL o,dlL (gA (bT o)) 0 (aO o),o.1,o.2.1,o.2.2.1,o.2.2.2.1,o.2.2.2.2.1,o.2.2.2.2.2,v.1,v.2.1,v.2.2.1,v.2.2.2.1,v.2.2.2.2.1,v.2.2.2.2.2.1,v.2.2.2.2.2.2.1,v.2.2.2.2.2.2.2.1,v.2.2.2.2.2.2.2.2,()))) ?_ ?_ f 0 _ rfl (by omega) (by omega)
 ·rintro i _ again hi rfl ih
  have hx:(aO o)[i]? =some ((aO o)[i]'(by omega)):=aJ _
  generalize ((aO o)[i]'(by omega))=x at hx
  have hy:(rsL o)[i]? =some (x.no,eP x.ord,x.due):=by unfold rsL;rw[aib,hx];rfl
  have hd:=UG (gA (bT o)) (aO o) 0 i x hx
  have ets:(dlL (gA (bT o)) 0 (aO o)).take (i+1)=(dlL (gA (bT o)) 0 (aO o)).take i++[gA (bT o) i x]:=by rw[ai0,hd,ajx];rfl
  have htl:((dlL (gA (bT o)) 0 (aO o)).take i).length<=1000:=by rw[ais];omega
  unfold iZ
  dsimp only
  rw[aB (by omega),bq,hy,ajA,ax (by omega) (by omega),bg (u7 (by omega) (by omega))]
  exact ih _ (by rw[ets];rfl)
 ·rintro _ again rfl
  unfold iZ
  dsimp only
  rw[az (by omega),aiZ (by omega)]
theorem acV (o:ai) (v:an) (hl:(aO o).length<=1000) (hd:1<=bT o/\bT o<=3652059) (f:Nat) (hf:(rsL o).length<f): iter f ((rsL o,dlL (gA (bT o)) 0 (aO o),rsL o,((rsL o).length:Int),(0:Int),o.1,o.2.1,o.2.2.1,o.2.2.2.1,o.2.2.2.2.1,o.2.2.2.2.2,v.1,v.2.1,v.2.2.1,v.2.2.2.1,v.2.2.2.2.1,v.2.2.2.2.2.1,v.2.2.2.2.2.2.1,v.2.2.2.2.2.2.2.1,v.2.2.2.2.2.2.2.2,()):fW) ja= some (Sum.inr (rsL o,dsL o,o.1,o.2.1,o.2.2.1,o.2.2.2.1,o.2.2.2.2.1,o.2.2.2.2.2,v.1,v.2.1,v.2.2.1,v.2.2.2.1,v.2.2.2.2.1,v.2.2.2.2.2.1,v.2.2.2.2.2.2.1,v.2.2.2.2.2.2.2.1,v.2.2.2.2.2.2.2.2,())):=by
 have hrl:(rsL o).length=(aO o).length:=aio ..
 have hd:1<=o.2.2.2.1/\o.2.2.2.1<=3652059:=hd
 have hdl:=GC (je (bT o)) (aO o) 0
 have hsl:=GC (gA (bT o)) (aO o) 0
 refine bX (Inv:=fun i X=>X=((rsL o,dlL (gA (bT o)) 0 (aO o)++(dlL (je (bT o)) 0 (aO o)).take i,rsL o,((rsL o).length:Int),(i:Int),o.1,o.2.1,o.2.2.1,o.2.2.2.1,o.2.2.2.2.1,o.2.2.2.2.2,v.1,v.2.1,v.2.2.1,v.2.2.2.1,v.2.2.2.2.1,v.2.2.2.2.2.1,v.2.2.2.2.2.2.1,v.2.2.2.2.2.2.2.1,v.2.2.2.2.2.2.2.2,()):fW)) (rsL o).length (fun r=>r=some (Sum.inr (rsL o,dsL o,o.1,o.2.1,o.2.2.1,o.2.2.2.1,o.2.2.2.2.1,o.2.2.2.2.2,v.1,v.2.1,v.2.2.1,v.2.2.2.1,v.2.2.2.2.1,v.2.2.2.2.2.1,v.2.2.2.2.2.2.1,v.2.2.2.2.2.2.2.1,v.2.2.2.2.2.2.2.2,()))) ?_ ?_ f 0 _ (by rw[List.take_zero,ahM];rfl) (by omega) (by omega)
 ·rintro i _ again hi rfl ih
  have hx:(aO o)[i]? =some ((aO o)[i]'(by omega)):=aJ _
  generalize ((aO o)[i]'(by omega))=x at hx
  have hy:(rsL o)[i]? =some (x.no,eP x.ord,x.due):=by unfold rsL;rw[aib,hx];rfl
  have hdd:=UG (je (bT o)) (aO o) 0 i x hx
  have ets:(dlL (je (bT o)) 0 (aO o)).take (i+1)=(dlL (je (bT o)) 0 (aO o)).take i++[je (bT o) i x]:=by rw[ai0,hdd,ajx];rfl
  have htl:(dlL (gA (bT o)) 0 (aO o)++(dlL (je (bT o)) 0 (aO o)).take i).length<=2000:=by rw[aim,ais];omega
  unfold ja
  dsimp only
  rw[aB (by omega),bq,hy,ajA,ax (n:=(i:Int)+1) (by omega) (by omega),ax (n:=o.2.2.2.1+1) (by omega) (by omega),bg (u7 (by omega) (by omega))]
  exact ih _ (by rw[ets, <- ahL];rfl)
 ·rintro _ again rfl
  unfold ja
  dsimp only
  rw[az (by omega),aiZ (by omega)]
  rfl
theorem law_TopShippedIsBilledOnce (o:ai) (most:List av) (p:Bys) (n:Int) (like:an):kV o most p n like=some (true,()):=by
 unfold kV
 rw[nC,ajA]
 dsimp only
 by_cases ho:gf o=0
 rotate_left
 ·rw[dX ho,ajO,EP];rfl
 have hlen:=(gy ho).2.2.1
 have hod:=(gy ho).1
 rw[ho,zne,ajN]
 obtain⟨b,hb⟩:=adl o (by omega)
 rw[hb,ajA]
 cases b with
 | true=>rw[ajO,EP];rfl
 | false=>
 rw[ajN,Zh o (by omega),ajA]
 dsimp only
 rcases acQ ho most p n (num:=[100,45,49]) (by decide) with ⟨e,he,h⟩ | ⟨out,L,hgl,hol,h1,h2,h3,h4⟩
 ·rw[h,ajA]
  dsimp only
  rw[dX he,ajO,show ((([]:List ak).length:Int)==0)=true from rfl,ajO,EP]
  rfl
 have hll:(aO o).length<=100:=by
  rw[aio]
  unfold gu at hgl
  rwa [aio] at hgl
 have hrl:(rsL o).length=(aO o).length:=aio ..
 have hlo:(aO o).length=o.2.2.2.2.2.length:=aio ..
 rw[h1,ajA]
 dsimp only
 rw[zne,ajN,h2,ajA]
 dsimp only
 rw[h3,ajA]
 dsimp only
 rw[zne,ajN,EP,ajA]
 dsimp only
 rw[ahd,ajN,acs ho,ajA]
 dsimp only
 rw[zne,ajN,h4,ajA]
 dsimp only
 rw[zne,ajN,show ((([]:List av).length:Int) != 0)=false from rfl,ajN]
 rw[show (((aO o).map fun x=>(x.no,eP x.ord,x.due)):List ff)=rsL o from rfl,hrl,hlo,ajM,ajN]
 have s1:=fun f hf=>ac5 o like (by omega) f hf
 have s2:=fun f hf=>acV o like (by omega) hod f hf
 rw[hrl,hlo] at s1 s2
 rw[s1 _ (aje _ (aje _ (ajf (by with_reducible repeat (first | exact ajz | refine aje _ ?_))))),aS]
 dsimp only
 rw[hrl,hlo,s2 _ (aje _ (aje _ (ajf (by with_reducible repeat (first | exact ajz | refine aje _ ?_))))),aS]
 dsimp only
 by_cases hmd:o.2.2.2.1=3652059
 ·rw[show (o.2.2.2.1==3652059)=true by simpa using hmd,ajO]
 have hd1:bT o+1<=3652059:=by show o.2.2.2.1+1<=3652059;have:1<=o.2.2.2.1/\o.2.2.2.1<=3652059:=hod;omega
 have hod':1<=o.2.2.2.1/\o.2.2.2.1<=3652059:=hod
 rw[show (o.2.2.2.1==3652059)=false by simpa using hmd,ajN,hrl,ax (n:=2*((aO o).length:Int)) (by omega) (by omega),ajQ (show ¬2*((aO o).length:Int)>2000 by omega),ajN]
 rw[show oH (o.1,o.2.1,o.2.2.1,o.2.2.2.1,o.2.2.2.2.1,o.2.2.2.2.2) (dsL o)=some ([],0,()) from ad8 ho hll hd1,ajA]
 dsimp only
 rw[zne,ajN,show ((([]:List ah).length:Int) != 0)=false from rfl,ajN]
 rw[show Aj (o.1,o.2.1,o.2.2.1,o.2.2.2.1,o.2.2.2.2.1,o.2.2.2.2.2) (dsL o) o.2.2.2.1=some (true,0,()) from agk ho hll hd1,ajA]
 dsimp only
 rw[zne,ajN,ahd,ajN,ax (n:=o.2.2.2.1+1) (by omega) (by omega)]
 generalize hv:((like.1,like.2.1,o.2.2.2.1+1,like.2.2.2):an)=v
 have hvd:v.2.2.1=bT o+1:=by rw[<- hv]
 rw[show AS (o.1,o.2.1,o.2.2.1,o.2.2.2.1,o.2.2.2.2.1,o.2.2.2.2.2) (dsL o) [105,45,49] v=_ from Ui o (dsL o) [105,45,49] v,ajA,abD ho hll hd1 (by decide)]
 dsimp only
 by_cases hi:mA v=0
 rotate_left
 ·rw[dX hi,ajO,mh,ajA]
  dsimp only
  rw[dX hi]
 rw[hi,zne,ajN,ajY (fun e=>e rfl)]
 obtain⟨miss,m1,m2,m3⟩:=abt ho hll hd1 (n1:=[105,45,49]) (n2:=[105,45,50]) (by decide) (by decide) (by decide) hi hvd
 rw[show z7 (o.1,o.2.1,o.2.2.1,o.2.2.2.1,o.2.2.2.2.1,o.2.2.2.2.2) (dsL o) (0,0) [eD o (dsL o) [105,45,49] v,([105,45,50],(eD o (dsL o) [105,45,49] v).2)]=_ from m1,ajA]
 dsimp only
 rw[show ((0:Int)==0)=true from rfl,ajO,m2,m3,beq_self_eq_true,ajO,ajA]
 dsimp only
 rw[hlo,beq_self_eq_true]
end Go.Md
