/-
  bill.Read by a walk. No condition.
-/
import Derived.Test.YtjlkkapojeldlabGreatDoorYC
import Derived.Test.YtjlkkapojeldlabGreatDoorYf
import Derived.Test.YtjlkkapojeldlabGreatDoorYh
set_option linter.all false
set_option maxRecDepth 100000
namespace Go.Proofs.SeatU
open Go.Dn Go.Md Go.Proofs Go.RowKit Go.Shelf Go.Lib
def atB (first:Bool) (v:ai):Int:=bif first then 0 else bif !v.2.2.2.2.2.2.2.2.isEmpty then 3 else bif !v.2.2.2.2.2.2.2.1.isEmpty then 2 else 1
def Lin (N bx:Nat) (nb:List Nat) (w w':World) (e:Ending) (o:Option ai):Prop:=
 Far N (bx::nb) w w'/\((o=none/\e= .returned (.bool false))\/∃ v',o=some v'/\e= .returned (.bool true)/\∃ vr vl ve L,RI w' bx v' (atB false v') vr vl ve L/\∀ b∈bH vr vl ve L,b∈nb\/N<=b)
theorem YN {N bx:Nat} {w w':World} {nb:List Nat} {e:Ending} (he:e= .returned (.bool false)) (h:Kept w w') (hN:N<=w.heap.size):Lin N bx nb w w' e none:=
 ⟨Far.kept h hN,.inl ⟨rfl,he⟩⟩
theorem IE {N bx:Nat} {w w':World} {nb:List Nat} {e:Ending} {ok:Bool} {v:ai} {k:Int} {o:Option ai} (he:e= .returned (.bool ok)) (hF:Fin N bx nb w w' v k) (hk:k=atB false v) (ho:o=bif ok then some v else none):Lin N bx nb w w' e o:=by
 obtain⟨h1,vr,vl,ve,L,h2,h3⟩:=hF
 refine⟨h1, ?_⟩
 cases ok with
 | false=>exact .inl ⟨ho,he⟩
 | true=>exact .inr ⟨v,ho,he,vr,vl,ve,L,hk ▸ h2,h3⟩
theorem RU {a b c:List UInt8} (h:(a==b)=true) (hbc:b≠c):(a==c)=false:=by
 have:=eq_of_beq h;subst this
 cases hh:(a==c) with
 | false=>rfl
 | true=>exact absurd (eq_of_beq hh) hbc
theorem PA {α:Type} (l:List α) (x:α):(l++[x]).isEmpty=false:=by cases l<;>rfl
theorem JK {α β:Type} (f:α->β) (ok:Bool) (x:α):(bif ok then some x else none).map f=bif ok then some (f x) else none:=by cases ok<;>rfl
theorem WY (G:Gh) (w:World) (bx:Nat) (first:Bool) (s:List UInt8) (v:ai) (vr vl ve:Value) (L:List (aa×Value)) (hG:Agr G w) (hT:bZ Tryz.prog G) (hs:s.length<=1000000) (hR:RI w bx v (atB first v) vr vl ve L) (hgb:∀ b∈bx::bH vr vl ve L,G b=none) (b1:v.2.2.2.2.2.2.1.length<=1000000) (b2:v.2.2.2.2.2.2.2.1.length<=1000000) (b3:v.2.2.2.2.2.2.2.2.length<=1000000) (b4:∀ l∈v.2.2.2.2.2.2.2.1,l.2.2.2.2.2.2.2.1.length<=1000000): Calls Tryz.prog 12 #[.pointer (some ⟨bx,0,none⟩),.string (bs s)] w fun e w'=>Lin w.heap.size bx (bH vr vl ve L) w w' e (rdI v first s):=by
 have hm:=SY s hs
 unfold rdI
 cases hf:su (bh 32 s) with
 | false=>
  rw[hf] at hm
  exact (abB G w bx s [] hG hT hm).mono fun e w' ⟨h1,h2⟩=>YN h1 h2 (afq _)
 | true=>
  rw[hf] at hm
  simp only[afX] at hm ⊢
  have hwl:=(rF 32 s).2
  have hne:=La 32 s
  generalize bh 32 s=W at hm hf hwl hne
  obtain⟨w0,r,rfl⟩:∃ w0 r,W=w0::r:=by
   cases W with
   | nil=>exact absurd rfl hne
   | cons x y=>exact⟨x,y,rfl⟩
  have hwr:∀ x∈r,x.length<=1000000:=fun x hx=>afs (hwl x (by simp[hx])) hs
  obtain⟨ei,hi⟩:∃ ei,((bs w0).toList==[105,110,118,111,105,99,101])=ei:=⟨_,rfl⟩
  obtain⟨er,hr⟩:∃ er,((bs w0).toList==[114,97,116,101])=er:=⟨_,rfl⟩
  obtain⟨el,hl⟩:∃ el,((bs w0).toList==[108,105,110,101])=el:=⟨_,rfl⟩
  obtain⟨ee,he⟩:∃ ee,((bs w0).toList==[101,120,116,114,97])=ee:=⟨_,rfl⟩
  obtain⟨ea,ha⟩:∃ ea,((bs w0).toList==[97,108,108])=ea:=⟨_,rfl⟩
  have hi':=hi;have hr':=hr;have hl':=hl;have he':=he;have ha':=ha
  rw[MA] at hi' hr' hl' he' ha'
  obtain⟨k,hk⟩:∃ k,atB first v=k:=⟨_,rfl⟩
  rw[hk] at hR
  have hno:=fun k0 k1 k2 h0 h1 h2 h=>(aaD G w bx s w0 r k hG hT hm (bO hR.box).1.2.2.2.2.2.2.2.2.2 ei er el ee ea k0 k1 k2 hi hr hl he ha h0 h1 h2 h).mono fun e w' (h:_/\_)=>YN (bx:=bx) (nb:=bH vr vl ve L) h.1 h.2 (afq _)
  unfold rdV
  simp only[List.headD_cons,hi',hr',hl',he',ha']
  have only:∀ {c1 c2:List UInt8} {x y:Bool},(w0==c1)=x->(w0==c2)=y->c1≠c2->x=true->y=false:=fun h1 h2 hc hx=>by
   subst hx;rw[<- h2];exact RU h1 hc
  cases first with
  | true=>
   have hk0:k=0:=hk.symm
   subst hk0
   rw[afX]
   cases ei with
   | true=>
    rw[afX]
    obtain⟨s1,s2,n1,n2,n3,pl,q1,q2,q3,q4,q5,q6,q7,ok,m1,m2,m3,m4,m5,m6,m7,hres⟩:=Rd w0 r
    refine (XC G w bx s w0 r _ _ _ _ _ _ _ _ _ hG hT hm hR.box (hgb bx (by simp)) hi m1 m2 m3 m4 m5 m6 m7).mono ?_
    rintro e w' ⟨h1,h2,h3,h4,h5,h6⟩
    refine IE (v:=(s1,s2,n1,n2,n3,pl,[],[],[])) (k:=1) h1 ⟨⟨h2,h3,h4,fun b hb hn=>h5 b hb fun e=>hn (by simp[e])⟩,_,_,_,[],⟨h6,RV.zero w' _ rfl rfl rfl, ?_⟩, ?_⟩ rfl hres
    ·simp[bH,gI,Value.ownBlock]
    ·simp[bH,gI,Value.ownBlock]
   | false=>
    rw[afW]
    cases er with
    | true=>exact hno true false false rfl rfl rfl (.inr (.inr (.inl ⟨rfl,rfl,only hr' hl' (by decide) rfl,only hr' he' (by decide) rfl,only hr' ha' (by decide) rfl,rfl⟩)))
    | false=>
    cases el with
    | true=>exact hno true false false rfl rfl rfl (.inr (.inr (.inr (.inl ⟨rfl,rfl,rfl,only hl' he' (by decide) rfl,only hl' ha' (by decide) rfl,rfl,rfl⟩))))
    | false=>
    cases ee with
    | true=>exact hno true false false rfl rfl rfl (.inr (.inr (.inr (.inr (.inl ⟨rfl,rfl,rfl,rfl,only he' ha' (by decide) rfl,rfl⟩)))))
    | false=>
    cases ea with
    | true=>exact hno true false false rfl rfl rfl (.inr (.inr (.inr (.inr (.inr ⟨rfl,rfl,rfl,rfl,rfl,rfl⟩)))))
    | false=>exact hno true false false rfl rfl rfl (.inl ⟨rfl,rfl,rfl,rfl,rfl⟩)
  | false=>
   rw[afW]
   have hk':k=bif !v.2.2.2.2.2.2.2.2.isEmpty then 3 else bif !v.2.2.2.2.2.2.2.1.isEmpty then 2 else 1:=hk.symm
   have hk0:(k==0)=false:=by
    rw[hk']
    cases v.2.2.2.2.2.2.2.2.isEmpty<;>cases v.2.2.2.2.2.2.2.1.isEmpty<;>rfl
   cases ei with
   | true=>
    have e1:=only hi' hr' (by decide) rfl
    have e2:=only hi' hl' (by decide) rfl
    have e3:=only hi' he' (by decide) rfl
    have e4:=only hi' ha' (by decide) rfl
    subst e1;subst e2;subst e3;subst e4
    exact hno false _ _ hk0 rfl rfl (.inr (.inl ⟨rfl,rfl,rfl,rfl,rfl,rfl⟩))
   | false=>
   cases er with
   | true=>
    have e2:=only hr' hl' (by decide) rfl
    have e3:=only hr' he' (by decide) rfl
    have e4:=only hr' ha' (by decide) rfl
    subst e2;subst e3;subst e4
    cases hle:v.2.2.2.2.2.2.2.1.isEmpty with
    | false=>
     have hk1:(k==1)=false:=by rw[hk',hle];cases v.2.2.2.2.2.2.2.2.isEmpty<;>rfl
     exact hno false false _ hk0 hk1 rfl (.inr (.inr (.inl ⟨rfl,rfl,rfl,rfl,rfl,rfl⟩)))
    | true=>
    cases hee:v.2.2.2.2.2.2.2.2.isEmpty with
    | false=>
     have hk1:(k==1)=false:=by rw[hk',hee];rfl
     exact hno false false _ hk0 hk1 rfl (.inr (.inr (.inl ⟨rfl,rfl,rfl,rfl,rfl,rfl⟩)))
    | true=>
     have hk1:k=1:=by rw[hk',hee,hle];rfl
     subst hk1
     obtain⟨s1,d,q1,q2,q3,ok,m1,m2,m3,hres⟩:=Xy w0 r hwr
     refine (abC G w bx s w0 r v vr vl ve L hG hT hm hR hgb b1 hi hr m1 m2 m3).mono ?_
     rintro e w' ⟨h1,h2⟩
     refine IE h1 h2 ?_ ?_
     ·show (1:Int)=bif !v.2.2.2.2.2.2.2.2.isEmpty then 3 else bif !v.2.2.2.2.2.2.2.1.isEmpty then 2 else 1
      rw[hee,hle];rfl
     ·show (Xx (w0::r)).map (xE v)=_
      rw[hres,JK]
   | false=>
   cases el with
   | true=>
    have e3:=only hl' he' (by decide) rfl
    have e4:=only hl' ha' (by decide) rfl
    subst e3;subst e4
    cases hee:v.2.2.2.2.2.2.2.2.isEmpty with
    | false=>
     have hk3:k=3:=by rw[hk',hee];rfl
     subst hk3
     exact hno false false false rfl rfl rfl (.inr (.inr (.inr (.inl ⟨rfl,rfl,rfl,rfl,rfl,rfl,rfl⟩))))
    | true=>
     have hk12:k=1\/k=2:=by rw[hk',hee];cases v.2.2.2.2.2.2.2.1.isEmpty<;>simp
     obtain⟨n1,n2,s1,d1,s2,d2,n3,s3,q1,q2,q3,q4,q5,q6,q7,q8,q9,ok,m1,m2,m3,m4,m5,m6,m7,m8,m9,hres⟩:=WZ w0 r hwr
     refine (abA G w bx s w0 r v vr vl ve L k hG hT hm hR hgb (by rw[<- aeB (f:=(·.1)),hR.rows.map];exact b2) hi hr hl hk12 m1 m2 m3 m4 m5 m6 m7 m8 m9).mono ?_
     rintro e w' ⟨h1,h2⟩
     refine IE h1 h2 ?_ ?_
     ·show (2:Int)=bif !v.2.2.2.2.2.2.2.2.isEmpty then 3 else bif !(v.2.2.2.2.2.2.2.1++[_]).isEmpty then 2 else 1
      rw[hee,PA];rfl
     ·show (Tb (w0::r)).map (addLine v)=_
      rw[hres,JK]
   | false=>
   cases ee with
   | true=>
    have e4:=only he' ha' (by decide) rfl
    subst e4
    cases hee:v.2.2.2.2.2.2.2.2.isEmpty with
    | false=>
     have hk3:k=3:=by rw[hk',hee];rfl
     subst hk3
     simp only[adn,adk,afW]
     exact hno false false false rfl rfl rfl (.inr (.inr (.inr (.inr (.inl ⟨rfl,rfl,rfl,rfl,rfl,rfl⟩)))))
    | true=>
    cases hle:v.2.2.2.2.2.2.2.1.isEmpty with
    | true=>
     have hk3:k=1:=by rw[hk',hee,hle];rfl
     subst hk3
     exact hno false true false rfl rfl rfl (.inr (.inr (.inr (.inr (.inl ⟨rfl,rfl,rfl,rfl,rfl,rfl⟩)))))
    | false=>
     have hk3:k=2:=by rw[hk',hee,hle];rfl
     subst hk3
     have hmp:=hR.rows.map
     rcases List.eq_nil_or_concat L with e | ⟨L0,q,e⟩
     ·subst e
      rw[<- hmp] at hle;cases hle
     ·obtain⟨p,h⟩:=q
      rw[List.concat_eq_append] at e
      subst e
      have hb2:L0.length<=1000000:=by rw[<- hmp] at b2;simp at b2;omega
      have hb4:p.2.2.2.2.2.2.2.1.length<=1000000:=b4 p (by rw[<- hmp];simp)
      obtain⟨d,pl,q1,q2,q3,ok,m1,m2,m3,hres⟩:=Uo w0 r hwr
      refine (aaC G w bx s w0 r v vr vl ve L0 p h hG hT hm hR hgb hb2 hb4 hi hr hl he m1 m2 m3).mono ?_
      rintro e w' ⟨h1,h2⟩
      refine IE h1 h2 ?_ ?_
      ·show (2:Int)=bif !v.2.2.2.2.2.2.2.2.isEmpty then 3 else bif !(Al v.2.2.2.2.2.2.2.1 _).isEmpty then 2 else 1
       rw[hee, <- hmp,aeI,List.map_singleton,zJ,PA];rfl
      ·show (OJ (w0::r)).map (Hh v)=_
       rw[hres,JK]
   | false=>
   cases ea with
   | true=>
    obtain⟨d,s1,t,pl,q1,q2,q3,q4,ok,m1,m2,mu,m3,m4,hres⟩:=XU w0 r hwr
    refine (aco G w bx s w0 r v vr vl ve L k hG hT hm hR hgb b3 hi hr hl he ha hk0 m1 m2 mu m3 m4).mono ?_
    rintro e w' ⟨h1,h2⟩
    refine IE h1 h2 ?_ ?_
    ·show (3:Int)=bif !(v.2.2.2.2.2.2.2.2++[_]).isEmpty then 3 else _
     rw[PA];rfl
    ·show (Ok (w0::r)).map (Bj v)=_
     rw[hres,JK]
   | false=>exact hno false _ _ hk0 rfl rfl (.inl ⟨rfl,rfl,rfl,rfl,rfl⟩)
end Go.Proofs.SeatU
set_option maxRecDepth 100000
namespace Go.Proofs.SeatU
open Go.Dn Go.Md Go.Proofs Go.RowKit Go.Shelf Go.Lib
theorem KK {G:Gh} {w:World} (s:List UInt8) (W:List (List UInt8)) (ok:Bool) (hG:Agr G w) (hT:bZ Tryz.prog G) (hm:om s=some (W,ok,())): Calls Tryz.prog 11 #[.string (bs s)] w fun e w'=>∃ G' u,e= .returned (.tuple #[u,.bool ok])/\Lv G G' w w'/\bJ G' Ty.str.size (ax G' .str) W u:=by
 refine (Tm G w (fun _=>none) [.string (bs s)] (s,()) (W,ok,()) hG (fun b i h=>by cases h) ⟨_,[],fun _=>rfl,fun h=>Bool.noConfusion h,rfl,rfl⟩ hm hT).mono ?_
 rintro e w' ⟨G',ow',vs,g⟩
 obtain⟨u,us,rfl,⟨u0,e0,hu⟩,u2,us2,rfl,hb,h3,_⟩:=g.out
 cases e0
 have e2:[u2]=[Value.bool ok]:=hb
 have e3:us2=[]:=h3
 cases e2;subst e3
 exact⟨G',u,g.ret,⟨⟨g.size,g.os,g.output,fun b hb=>(g.old b hb rfl).1⟩,g.le,g.agr,fun b hb=>(g.old b hb rfl).2⟩,hu⟩
def Ai (v:ai) (vr vl ve:Value):List Value:=[.string (bs v.1),.string (bs v.2.1),.int .i64 v.2.2.1,.int .i64 v.2.2.2.1,.int .i64 v.2.2.2.2.1,.bool v.2.2.2.2.2.1,vr,vl,ve]
def Bi (G:Gh) (v:ai) (vr vl ve:Value):Prop:=bJ G bL.size (ax G bL) v.2.2.2.2.2.2.1 vr/\bJ G b9.size (ax G b9) v.2.2.2.2.2.2.2.1 vl/\bJ G aY.size (ax G aY) v.2.2.2.2.2.2.2.2 ve
theorem SQ {G:Gh} {v:ai} {vr vl ve:Value} (h:Bi G v vr vl ve):bT G b7 v (.agg (Ai v vr vl ve).toArray):=
 ⟨_,rfl,[.string (bs v.1)],_,rfl,rfl,[.string (bs v.2.1)],_,rfl,rfl,[.int .i64 v.2.2.1],_,rfl,rfl,[.int .i64 v.2.2.2.1],_,rfl,rfl,[.int .i64 v.2.2.2.2.1],_,rfl,rfl,[.bool v.2.2.2.2.2.1],_,rfl,rfl,[vr],_,rfl,⟨vr,rfl,h.1⟩,[vl],_,rfl,⟨vl,rfl,h.2.1⟩,ve,rfl,h.2.2⟩
theorem De {G:Gh} {w:World} (v:ai) (vr vl ve:Value) (n:Int) (hv:Bi G v vr vl ve) (hG:Agr G w) (hT:bZ Tryz.prog G) (hm:dh v=some (n,())): Calls Tryz.prog 13 #[.agg (Ai v vr vl ve).toArray] w fun e w'=>e= .returned (.int .i64 n)/\Kept w w':=by
 refine (FG G w (fun _=>none) [.agg (Ai v vr vl ve).toArray] (v,()) (n,()) hG (fun b i h=>by cases h) ⟨_,[],fun _=>rfl,fun h=>Bool.noConfusion h,SQ hv,rfl⟩ hm hT).mono ?_
 rintro e w' ⟨G',ow',vs,g⟩
 obtain⟨u,us,rfl,hu,h3,_⟩:=g.out
 have e1:[u]=[Value.int .i64 n]:=hu
 have e3:us=[]:=h3
 cases e1;subst e3
 exact⟨g.ret,⟨g.size,g.os,g.output,fun b hb=>(g.old b hb rfl).1⟩⟩
def frz (N:Nat) (G:Gh) (w:World):Gh:=⟨fun b=>if b<N then G b else w.heap[b]?,G.hnd⟩
theorem OU {N:Nat} {G:Gh} {w:World} (h:∀ b,b<N->∀ o,G b=some o->w.heap[b]? =some o):Agr (frz N G w) w:=fun b o hb=>by
 by_cases hn:b<N
 ·simp only[frz,af9 hn] at hb;exact h b hn o hb
 ·simp only[frz,af8 hn] at hb;exact hb
theorem SF {N:Nat} {G:Gh} {w w0:World} (h:Agr G w0) (hN:w0.heap.size<=N):G.le (frz N G w):=
 ⟨fun b o hb=>by
   have:=aB (h b o hb)
   simp only[frz,af9 (show b<N by omega)];exact hb,fun _ _ h=>h⟩
theorem VV (G:Gh):∀ (l:List ak),bQ (ax G bL) l (l.flatMap BX)
 | []=>rfl
 | c::r=>⟨BX c,r.flatMap BX,by rw[aec],⟨[.string (bs c.1)],_,rfl,rfl,[.int .i64 c.2.1],_,rfl,rfl,rfl⟩,VV G r⟩
theorem OK (G:Gh):∀ (l:List aj),bQ (ax G aY) l (l.flatMap td)
 | []=>rfl
 | c::r=>⟨td c,r.flatMap td,by rw[aec],⟨[.bool c.1],_,rfl,rfl,[.int .i64 c.2.1.1,.int .i64 c.2.1.2],_,rfl,⟨[.int .i64 c.2.1.1],_,rfl,rfl,rfl⟩,rfl⟩,OK G r⟩
theorem JW {G:Gh} {w:World} {N:Nat} {e:TypeId} {sz:Nat} {α:Type} {R:α->List Value->Prop} {l:List α} {v:Value} {xs:List Value} (hN:∀ b,v.ownBlock=some b->N<=b) (h:w.ownsRow 0 e sz v l.length xs) (hr:bQ R l xs):bJ (frz N G w) sz R l v:=by
 rcases h.2 with ⟨e,hn⟩ | ⟨g,cap,cur,hv,_,hg,hc,hm,hs,ht⟩
 ·have hl:l=[]:=List.length_eq_zero_iff.1 hn
  subst hl
  exact⟨none,0,e,afq _,by decide,.inl rfl⟩
 ·refine⟨some ⟨g,0,none⟩,cap,hv,hc,hm,.inr ⟨g,0,cur,e,(0,0),rfl, ?_, ?_, ?_⟩⟩
  ·have:=hN g (by rw[hv];rfl)
   simp only[frz,af8 (show ¬ g<N by omega)]
   exact hg
  ·rw[hs,afH];exact afB _ hc
  ·rw[ad6,ht];exact hr
theorem VG {G:Gh} {w:World} {N:Nat}:∀ (L:List (aa×Value)),(∀ q∈L,w.ownsRow 0 53 4 q.2 (Ta q.1).1 (Ta q.1).2/\∀ b,q.2.ownBlock=some b->N<=b)-> bQ (ax (frz N G w) b9) (L.map (·.1)) (L.flatMap fun q=>wC q.1 q.2)
 | [],_=>rfl
 | q::r,h=>by
  obtain⟨h1,h2⟩:=h q (by simp)
  refine⟨wC q.1 q.2,r.flatMap fun q=>wC q.1 q.2,by rw[aec], ?_,VG r fun x hx=>h x (by simp[hx])⟩
  have hs:bJ (frz N G w) aY.size (ax (frz N G w) aY) q.1.2.2.2.2.2.2.2.1 q.2:=JW h2 h1 (OK _ _)
  exact⟨[.int .i64 q.1.1],_,rfl,rfl,[.int .i64 q.1.2.1],_,rfl,rfl,[.string (bs q.1.2.2.1)],_,rfl,rfl,[.int .i64 q.1.2.2.2.1.1,.int .i64 q.1.2.2.2.1.2],_,rfl,⟨[.int .i64 q.1.2.2.2.1.1],_,rfl,rfl,rfl⟩,[.string (bs q.1.2.2.2.2.1)],_,rfl,rfl,[.int .i64 q.1.2.2.2.2.2.1.1,.int .i64 q.1.2.2.2.2.2.1.2],_,rfl,⟨[.int .i64 q.1.2.2.2.2.2.1.1],_,rfl,rfl,rfl⟩,[.int .i64 q.1.2.2.2.2.2.2.1],_,rfl,rfl,[q.2],_,rfl,⟨q.2,rfl,hs⟩,rfl⟩
theorem ZB {G:Gh} {w:World} {N:Nat} {v:ai} {vr vl ve:Value} {L:List (aa×Value)} (h:RV w v vr vl ve L) (hN:∀ b∈bH vr vl ve L,N<=b):Bi (frz N G w) v vr vl ve:=by
 refine⟨JW (fun b hb=>hN b (bW.2 (.inl hb))) h.rat (VV _ _), ?_,JW (fun b hb=>hN b (bW.2 (.inr (.inl hb)))) h.ext (OK _ _)⟩
 rw[<- h.map]
 refine JW (e:=50) (fun b hb=>hN b (bW.2 (.inr (.inr (aeN.2 (.inl (by rw[hb];simp))))))) ?_ (VG L fun q hq=>⟨h.nst.inn q hq,fun b hb=>hN b (bW.2 (.inr (.inr (aeN.2 (.inr (aeR.2 ⟨q,hq,hb⟩))))))⟩)
 have hrow:=h.nst.row
 rw[show L.length=(L.map (·.1)).length from (aeB _).symm] at hrow
 exact hrow
theorem NP {W:World} {b:Nat} {a0 a1 a2 a3 a4 a5 a6 a7 a8:Value} {T:TypeId} (c0 c1 c2 c3 c4 c5 c6 c7 c8:Value) (h:W.heap[b]? =some (.cells #[a0,a1,a2,a3,a4,a5,a6,a7,a8] T (0,0))): (((((((((W.setCell ⟨b,0,none⟩ c0).setCell ⟨b,1,none⟩ c1).setCell ⟨b,2,none⟩ c2).setCell ⟨b,3,none⟩ c3).setCell ⟨b,4,none⟩ c4).setCell ⟨b,5,none⟩ c5).setCell ⟨b,6,none⟩ c6).setCell ⟨b,7,none⟩ c7).setCell ⟨b,8,none⟩ c8).heap[b]? =some (.cells #[c0,c1,c2,c3,c4,c5,c6,c7,c8] T (0,0))/\(∀ k,k≠b->(((((((((W.setCell ⟨b,0,none⟩ c0).setCell ⟨b,1,none⟩ c1).setCell ⟨b,2,none⟩ c2).setCell ⟨b,3,none⟩ c3).setCell ⟨b,4,none⟩ c4).setCell ⟨b,5,none⟩ c5).setCell ⟨b,6,none⟩ c6).setCell ⟨b,7,none⟩ c7).setCell ⟨b,8,none⟩ c8).heap[k]? =W.heap[k]?)/\(((((((((W.setCell ⟨b,0,none⟩ c0).setCell ⟨b,1,none⟩ c1).setCell ⟨b,2,none⟩ c2).setCell ⟨b,3,none⟩ c3).setCell ⟨b,4,none⟩ c4).setCell ⟨b,5,none⟩ c5).setCell ⟨b,6,none⟩ c6).setCell ⟨b,7,none⟩ c7).setCell ⟨b,8,none⟩ c8).heap.size=W.heap.size/\(((((((((W.setCell ⟨b,0,none⟩ c0).setCell ⟨b,1,none⟩ c1).setCell ⟨b,2,none⟩ c2).setCell ⟨b,3,none⟩ c3).setCell ⟨b,4,none⟩ c4).setCell ⟨b,5,none⟩ c5).setCell ⟨b,6,none⟩ c6).setCell ⟨b,7,none⟩ c7).setCell ⟨b,8,none⟩ c8).os=W.os/\(((((((((W.setCell ⟨b,0,none⟩ c0).setCell ⟨b,1,none⟩ c1).setCell ⟨b,2,none⟩ c2).setCell ⟨b,3,none⟩ c3).setCell ⟨b,4,none⟩ c4).setCell ⟨b,5,none⟩ c5).setCell ⟨b,6,none⟩ c6).setCell ⟨b,7,none⟩ c7).setCell ⟨b,8,none⟩ c8).output=W.output:=by
 have h0:(W.setCell ⟨b,0,none⟩ c0).heap[b]? =some (.cells #[c0,a1,a2,a3,a4,a5,a6,a7,a8] T (0,0)):=bz W b 0 _ _ _ c0 h
 have h1:((W.setCell ⟨b,0,none⟩ c0).setCell ⟨b,1,none⟩ c1).heap[b]? =some (.cells #[c0,c1,a2,a3,a4,a5,a6,a7,a8] T (0,0)):=bz (W.setCell ⟨b,0,none⟩ c0) b 1 _ _ _ c1 h0
 have h2:(((W.setCell ⟨b,0,none⟩ c0).setCell ⟨b,1,none⟩ c1).setCell ⟨b,2,none⟩ c2).heap[b]? =some (.cells #[c0,c1,c2,a3,a4,a5,a6,a7,a8] T (0,0)):=bz ((W.setCell ⟨b,0,none⟩ c0).setCell ⟨b,1,none⟩ c1) b 2 _ _ _ c2 h1
 have h3:((((W.setCell ⟨b,0,none⟩ c0).setCell ⟨b,1,none⟩ c1).setCell ⟨b,2,none⟩ c2).setCell ⟨b,3,none⟩ c3).heap[b]? =some (.cells #[c0,c1,c2,c3,a4,a5,a6,a7,a8] T (0,0)):=bz (((W.setCell ⟨b,0,none⟩ c0).setCell ⟨b,1,none⟩ c1).setCell ⟨b,2,none⟩ c2) b 3 _ _ _ c3 h2
 have h4:(((((W.setCell ⟨b,0,none⟩ c0).setCell ⟨b,1,none⟩ c1).setCell ⟨b,2,none⟩ c2).setCell ⟨b,3,none⟩ c3).setCell ⟨b,4,none⟩ c4).heap[b]? =some (.cells #[c0,c1,c2,c3,c4,a5,a6,a7,a8] T (0,0)):=bz ((((W.setCell ⟨b,0,none⟩ c0).setCell ⟨b,1,none⟩ c1).setCell ⟨b,2,none⟩ c2).setCell ⟨b,3,none⟩ c3) b 4 _ _ _ c4 h3
 have h5:((((((W.setCell ⟨b,0,none⟩ c0).setCell ⟨b,1,none⟩ c1).setCell ⟨b,2,none⟩ c2).setCell ⟨b,3,none⟩ c3).setCell ⟨b,4,none⟩ c4).setCell ⟨b,5,none⟩ c5).heap[b]? =some (.cells #[c0,c1,c2,c3,c4,c5,a6,a7,a8] T (0,0)):=bz (((((W.setCell ⟨b,0,none⟩ c0).setCell ⟨b,1,none⟩ c1).setCell ⟨b,2,none⟩ c2).setCell ⟨b,3,none⟩ c3).setCell ⟨b,4,none⟩ c4) b 5 _ _ _ c5 h4
 have h6:(((((((W.setCell ⟨b,0,none⟩ c0).setCell ⟨b,1,none⟩ c1).setCell ⟨b,2,none⟩ c2).setCell ⟨b,3,none⟩ c3).setCell ⟨b,4,none⟩ c4).setCell ⟨b,5,none⟩ c5).setCell ⟨b,6,none⟩ c6).heap[b]? =some (.cells #[c0,c1,c2,c3,c4,c5,c6,a7,a8] T (0,0)):=bz ((((((W.setCell ⟨b,0,none⟩ c0).setCell ⟨b,1,none⟩ c1).setCell ⟨b,2,none⟩ c2).setCell ⟨b,3,none⟩ c3).setCell ⟨b,4,none⟩ c4).setCell ⟨b,5,none⟩ c5) b 6 _ _ _ c6 h5
 have h7:((((((((W.setCell ⟨b,0,none⟩ c0).setCell ⟨b,1,none⟩ c1).setCell ⟨b,2,none⟩ c2).setCell ⟨b,3,none⟩ c3).setCell ⟨b,4,none⟩ c4).setCell ⟨b,5,none⟩ c5).setCell ⟨b,6,none⟩ c6).setCell ⟨b,7,none⟩ c7).heap[b]? =some (.cells #[c0,c1,c2,c3,c4,c5,c6,c7,a8] T (0,0)):=bz (((((((W.setCell ⟨b,0,none⟩ c0).setCell ⟨b,1,none⟩ c1).setCell ⟨b,2,none⟩ c2).setCell ⟨b,3,none⟩ c3).setCell ⟨b,4,none⟩ c4).setCell ⟨b,5,none⟩ c5).setCell ⟨b,6,none⟩ c6) b 7 _ _ _ c7 h6
 have h8:(((((((((W.setCell ⟨b,0,none⟩ c0).setCell ⟨b,1,none⟩ c1).setCell ⟨b,2,none⟩ c2).setCell ⟨b,3,none⟩ c3).setCell ⟨b,4,none⟩ c4).setCell ⟨b,5,none⟩ c5).setCell ⟨b,6,none⟩ c6).setCell ⟨b,7,none⟩ c7).setCell ⟨b,8,none⟩ c8).heap[b]? =some (.cells #[c0,c1,c2,c3,c4,c5,c6,c7,c8] T (0,0)):=bz ((((((((W.setCell ⟨b,0,none⟩ c0).setCell ⟨b,1,none⟩ c1).setCell ⟨b,2,none⟩ c2).setCell ⟨b,3,none⟩ c3).setCell ⟨b,4,none⟩ c4).setCell ⟨b,5,none⟩ c5).setCell ⟨b,6,none⟩ c6).setCell ⟨b,7,none⟩ c7) b 8 _ _ _ c8 h7
 refine⟨h8,fun k hk=> ?_, ?_, ?_, ?_⟩
 ·rw[aW _ _ _ _ _ hk,aW _ _ _ _ _ hk,aW _ _ _ _ _ hk,aW _ _ _ _ _ hk,aW _ _ _ _ _ hk,aW _ _ _ _ _ hk,aW _ _ _ _ _ hk,aW _ _ _ _ _ hk,aW _ _ _ _ _ hk]
 ·rw[bF,bF,bF,bF,bF,bF,bF,bF,bF]
 ·simp only[NQ]
 ·simp only[EB]
theorem ez {w:World} {b:Nat} {a0 a1 a2 a3 a4 a5 a6 a7 a8:Value} {T:TypeId} (h:w.heap[b]? =some (.cells #[a0,a1,a2,a3,a4,a5,a6,a7,a8] T (0,0))): (w.cell? ⟨b,0,none⟩=some a0/\w.cell? ⟨b,1,none⟩=some a1/\w.cell? ⟨b,2,none⟩=some a2/\w.cell? ⟨b,3,none⟩=some a3/\w.cell? ⟨b,4,none⟩=some a4/\w.cell? ⟨b,5,none⟩=some a5/\w.cell? ⟨b,6,none⟩=some a6/\w.cell? ⟨b,7,none⟩=some a7/\w.cell? ⟨b,8,none⟩=some a8)/\∀ o,w.frozen? ⟨b,o,none⟩=false:=by
 refine⟨⟨?_, ?_, ?_, ?_, ?_, ?_, ?_, ?_, ?_⟩,fun o=>by simp[World.frozen?,h]⟩<;>simp[World.cell?,h]
theorem sK {fn:Func} {p q r:Tmp} {ty:TypeId} (h:fn.results= #[.cell p ty,.tmp q,.tmp r]) (tmps:Array Value) (P:Program) (w:World) {b:Nat} {v:Value} (hp:tmps.getD p undef= .pointer (some ⟨b,0,none⟩)) (hl:(loadVar ty ⟨b,0,none⟩).run P w= .ok v w): (results fn tmps).run P w= .ok (.tuple #[v,tmps.getD q undef,tmps.getD r undef]) w:=by
 have hp':tmps[p]?.getD undef= .pointer (some ⟨b,0,none⟩):=by simpa using hp
 simp[results,h,hp',asAddr,Sem.run_bind,Result.andThen,hl]
theorem JJ {w:World} {b:Nat} {a0 a1 a2 a3 a4 a5 a6 a7 a8:Value} (h:w.heap[b]? =some (.cells #[a0,a1,a2,a3,a4,a5,a6,a7,a8] 26 (0,0))):(loadVar 26 ⟨b,0,none⟩).run Tryz.prog w= .ok (.agg #[a0,a1,a2,a3,a4,a5,a6,a7,a8]) w:=by
 have aA:=Tryz.isAgg26;have zA:=Tryz.sizeOf26
 obtain⟨⟨c0,c1,c2,c3,c4,c5,c6,c7,c8⟩,_⟩:=ez h
 have hl:=run_loadCells_list (P:=Tryz.prog) w ⟨b,0,none⟩ [a0,a1,a2,a3,a4,a5,a6,a7,a8] (fun j v hj=>by
  match j,hj with
  | 0,hj=>cases hj;exact c0
  | 1,hj=>cases hj;exact c1
  | 2,hj=>cases hj;exact c2
  | 3,hj=>cases hj;exact c3
  | 4,hj=>cases hj;exact c4
  | 5,hj=>cases hj;exact c5
  | 6,hj=>cases hj;exact c6
  | 7,hj=>cases hj;exact c7
  | 8,hj=>cases hj;exact c8
  | j+9,hj=>simp at hj)
 simp only[aez,aeC,Nat.reduceAdd] at hl
 simp[loadVar,aA,zA,Result.andThen]
 rw[hl]
theorem vu {G:Gh} {w:World} (h:Agr G w) (o:Obj):Agr G (w.alloc o):=fun b o' hb=>by
 have:=aB (h b o' hb)
 rw[heap_alloc_old _ _ this];exact h b o' hb
def jH:Array Value:= #[.string ⟨#[]⟩,.string ⟨#[]⟩,.int .i64 0,.int .i64 0,.int .i64 0,.bool false,.slice none 0 0,.slice none 0 0,.slice none 0 0]
theorem Xz (w:World) (t:List UInt8) (h:(300000:Int)<(t.length:Int)): Calls Tryz.prog 5 #[.string (bs t)] w fun e w'=>e= .returned (.tuple #[.agg jH,.int .i64 0,.int .i64 2])/\Kept w w':=by
 have mixed:Tryz.prog.follows .mixedOrders=true:=by kernel_rfl
 have late:Tryz.prog.follows .lateStores=true:=by kernel_rfl
 have t3:=Tryz.underlying3;have t4:=Tryz.underlying4;have t9:=Tryz.underlying9;have t26:=Tryz.underlying26;have a26:=Tryz.isAgg26;have z26:=Tryz.sizeOf26;have v26:=Tryz.zeroValue26
 have hsz:(bs t).size=t.length:=ae9
 go_enter Tryz.func5,Tryz.ntmps5
 go_wp2
 refine bodyPost_ret (sK (p:=2) (q:=3) (r:=4) (ty:=26) (b:=w.heap.size) (v:= .agg jH) (by kernel_rfl) _ _ _ (by rfl) (JJ ?_)) rfl ⟨by rfl, ?_⟩
 ·exact (bA _ _).1
 ·exact (bA _ _).2
theorem Zr (G:Gh) (w:World) (t:List UInt8) (e0:Bool) (hG:Agr G w) (hT:bZ Tryz.prog G) (h:¬ (300000:Int)<(t.length:Int)) (hm:om t=some ([],e0,())): Calls Tryz.prog 5 #[.string (bs t)] w fun e w'=>e= .returned (.tuple #[.agg jH,.int .i64 1,.int .i64 10])/\Kept w w':=by
 have e11:∀ args w,(callFunc 11 args).run Tryz.prog w= .ok (.enter 11 args) w:=enters_of Tryz.func11 (by kernel_rfl) rfl
 have mixed:Tryz.prog.follows .mixedOrders=true:=by kernel_rfl
 have late:Tryz.prog.follows .lateStores=true:=by kernel_rfl
 have t3:=Tryz.underlying3;have t4:=Tryz.underlying4;have t9:=Tryz.underlying9;have t26:=Tryz.underlying26;have a26:=Tryz.isAgg26;have z26:=Tryz.sizeOf26;have v26:=Tryz.zeroValue26;have t36:=Tryz.underlying36
 have hsz:(bs t).size=t.length:=ae9
 have hA0:=vu hG (.cells jH 26)
 have hl:=KK t [] e0 hA0 hT hm
 have h0:=bA w (.cells jH 26)
 unfold jH at hl h0 hA0
 go_enter Tryz.func5,Tryz.ntmps5
 go_wp2_with (go_at_fn 11;refine hl.mono ?_;rintro e W1 ⟨G1,u,rfl,hlv,hu⟩;have hr1:=(hlv.kept.block _ (aB h0.1)).trans h0.1;obtain⟨⟨q0,q1,q2,q3,q4,q5,q6,q7,q8⟩,qf⟩:=ez hr1;have f0:=qf 0;have f1:=qf 1;have f2:=qf 2;have f3:=qf 3;have f4:=qf 4;have f5:=qf 5;have f6:=qf 6;have f7:=qf 7;have f8:=qf 8;obtain⟨au,cu,rfl,hcu,hmu,hu⟩:=hu)
 obtain⟨s1,s2,s3,s4,s5⟩:=NP (.string ⟨#[]⟩) (.string ⟨#[]⟩) (.int .i64 0) (.int .i64 0) (.int .i64 0) (.bool false) (.slice none 0 0) (.slice none 0 0) (.slice none 0 0) hr1
 have hk:=h0.2.trans hlv.kept
 refine bodyPost_ret (sK (p:=2) (q:=3) (r:=4) (ty:=26) (b:=w.heap.size) (v:= .agg jH) (by kernel_rfl) _ _ _ (by rfl) (JJ s1)) rfl ⟨by rfl, ?_,s4.trans hk.os,s5.trans hk.output,fun b hb=>(s2 b (by omega)).trans (hk.block b hb)⟩
 rw[s3];exact hk.size
end Go.Proofs.SeatU
set_option maxRecDepth 100000
namespace Go.Proofs.SeatU
open Go.Dn Go.Md Go.Proofs Go.RowKit Go.Shelf Go.Lib
structure RdI (G1:Gh) (w wr:World) (N bx:Nat) (v:ai) (vr vl ve:Value) (L:List (aa×Value)) (i:Nat):Prop where
 ri:RI wr bx v (atB (i==0) v) vr vl ve L
 fr:∀ b∈bx::bH vr vl ve L,N<b/\G1 b=none
 agr:Agr G1 wr
 kb:wr.heap.size>=w.heap.size/\wr.os=w.os/\wr.output=w.output/\∀ b,b<N->wr.heap[b]? =w.heap[b]?
 res:wr.heap[N]? =some (.cells jH 26 (0,0))
 bnd:ZQ i v
section
variable {G1:Gh} {w wr W3:World} {N bx:Nat} {v v':ai} {vr vl ve vr' vl' ve':Value} {L L':List (aa×Value)} {i:Nat}
theorem RdI.next {f:Bool} {s:List UInt8} (h:RdI G1 w wr N bx v vr vl ve L i) (hr:rdI v f s=some v') (hf:Far wr.heap.size (bx::bH vr vl ve L) wr W3) (hR:RI W3 bx v' (atB false v') vr' vl' ve' L') (hb:∀ b∈bH vr' vl' ve' L',b∈bH vr vl ve L\/wr.heap.size<=b) (hN:N=w.heap.size):RdI G1 w W3 N bx v' vr' vl' ve' L' (i+1):=by
 have hNs:N<wr.heap.size:=aB h.res
 have hdom:∀ b,wr.heap.size<=b->G1 b=none:=fun b hb=>by
  cases hg:G1 b with
  | none=>rfl
  | some o=>exact absurd (aB (h.agr b o hg)) (Nat.not_lt.2 hb)
 have hnot:∀ b,G1 b≠none->b∉bx::bH vr vl ve L:=fun b hg hm=>hg (h.fr b hm).2
 refine⟨hR,fun b hm=> ?_,fun b o hg=> ?_,⟨afs h.kb.1 hf.size,hf.os.trans h.kb.2.1,hf.output.trans h.kb.2.2.1,fun b hbN=> ?_⟩, ?_,abw hr h.bnd⟩
 ·rcases aeO.1 hm with rfl | hm
  ·exact h.fr _ (by simp)
  ·rcases hb b hm with hm | hm
   ·exact h.fr b (by simp[hm])
   ·exact⟨by omega,hdom b hm⟩
 ·rw[hf.keep b (aB (h.agr b o hg)) (hnot b (by rw[hg];simp))]
  exact h.agr b o hg
 ·rw[hf.keep b (by omega) (fun hm=>by have:=(h.fr b hm).1;omega)]
  exact h.kb.2.2.2 b hbN
 ·rw[hf.keep N hNs (fun hm=>by have:=(h.fr N hm).1;omega)]
  exact h.res
theorem Qe (h:RdI G1 w wr N bx v vr vl ve L i) (hl:Kept wr W3) {Wz:World} (s2:∀ k,k≠N->Wz.heap[k]? =W3.heap[k]?) (s3:Wz.heap.size=W3.heap.size) (ho:Wz.os=W3.os) (hp:Wz.output=W3.output) (hN:N=w.heap.size:=by rfl):Kept w Wz:=by
 have hNs:N<wr.heap.size:=aB h.res
 refine⟨?_,ho.trans (hl.os.trans h.kb.2.1),hp.trans (hl.output.trans h.kb.2.2.1),fun b hb=> ?_⟩
 ·rw[s3];exact afs h.kb.1 hl.size
 ·rw[s2 b (by omega),hl.block b (by omega)]
  exact h.kb.2.2.2 b (by omega)
theorem SU (h:RdI G1 w wr N bx v vr vl ve L i) (hf:Far wr.heap.size (bx::bH vr vl ve L) wr W3) {Wz:World} (s2:∀ k,k≠N->Wz.heap[k]? =W3.heap[k]?) (s3:Wz.heap.size=W3.heap.size) (ho:Wz.os=W3.os) (hp:Wz.output=W3.output) (hN:N=w.heap.size:=by rfl):Kept w Wz:=by
 have hNs:N<wr.heap.size:=aB h.res
 refine⟨?_,ho.trans (hf.os.trans h.kb.2.1),hp.trans (hf.output.trans h.kb.2.2.1),fun b hb=> ?_⟩
 ·rw[s3];exact afs h.kb.1 hf.size
 ·rw[s2 b (by omega),hf.keep b (by omega) (fun hm=>by have:=(h.fr b hm).1;omega)]
  exact h.kb.2.2.2 b (by omega)
end
theorem Wk {w w':World} {b o:Nat} {c:Obj} {u:Value} (h':w'.heap[b]? =some c) (h:w.heap[b]? =some c) (hc:w.cell? ⟨b,o,none⟩=some u):w'.cell? ⟨b,o,none⟩=some u:=by
 simp only[World.cell?] at hc ⊢
 rw[h']
 rw[h] at hc
 exact hc
theorem L8 {w:World} {base:Nat} {e:TypeId} {sz n:Nat} {v:Value} {xs:List Value} (h:w.ownsRow base e sz v n xs):∃ a m c,v= .slice a m c:=by
 rcases h.2 with ⟨e,_⟩ | ⟨g,cap,cur,e,_⟩
 ·exact⟨_,_,_,e⟩
 ·exact⟨_,_,_,e⟩
def abP (G:Gh) (w:World) (e0:Bool) (Ls:List (List UInt8)) (qq:Int) (e:Ending) (w':World):Prop:=Kept w w'/\
 ((∃ n,mY e0 Ls 0 zI= .inr n/\e= .returned (.tuple #[.agg jH,.int .i64 n,.int .i64 10]))\/
  (∃ v,mY e0 Ls 0 zI= .inl v/\((qq≠0/\e= .returned (.tuple #[.agg jH,.int .i64 0,.int .i64 qq]))\/
    (qq=0/\∃ vr vl ve,e= .returned (.tuple #[.agg (Ai v vr vl ve).toArray,.int .i64 0,.int .i64 0])/\Bi (frz w.heap.size G w') v vr vl ve))))
set_option maxHeartbeats 2000000 in
theorem Qs (G:Gh) (w:World) (t:List UInt8) (Ls:List (List UInt8)) (e0:Bool) (qq:Int) (hG:Agr G w) (hT:bZ Tryz.prog G) (h:¬ (300000:Int)<(t.length:Int)) (hm:om t=some (Ls,e0,())) (hne:Ls≠[]) (hln:Ls.length<=1000000) (hll:∀ l∈Ls,l.length<=1000000) (hq:∀ v,mY e0 Ls 0 zI= .inl v->dh v=some (qq,())): Calls Tryz.prog 5 #[.string (bs t)] w fun e w'=>abP G w e0 Ls qq e w':=by
 have e11:∀ args w,(callFunc 11 args).run Tryz.prog w= .ok (.enter 11 args) w:=enters_of Tryz.func11 (by kernel_rfl) rfl
 have e12:∀ args w,(callFunc 12 args).run Tryz.prog w= .ok (.enter 12 args) w:=enters_of Tryz.func12 (by kernel_rfl) rfl
 have e13:∀ args w,(callFunc 13 args).run Tryz.prog w= .ok (.enter 13 args) w:=enters_of Tryz.func13 (by kernel_rfl) rfl
 have mixed:Tryz.prog.follows .mixedOrders=true:=by kernel_rfl
 have late:Tryz.prog.follows .lateStores=true:=by kernel_rfl
 have t3:=Tryz.underlying3;have t4:=Tryz.underlying4;have t9:=Tryz.underlying9;have t26:=Tryz.underlying26;have a26:=Tryz.isAgg26;have z26:=Tryz.sizeOf26;have v26:=Tryz.zeroValue26;have t36:=Tryz.underlying36;have t41:=Tryz.underlying41;have a41:=Tryz.isAgg41;have z41:=Tryz.sizeOf41;have v41:=Tryz.zeroValue41;have t27:=Tryz.underlying27
 have hsz:(bs t).size=t.length:=ae9
 have hA0:=vu hG (.cells jH 26)
 have hl:=KK t Ls e0 hA0 hT hm
 have h0:=bA w (.cells jH 26)
 have hz1:(0:Int)<(Ls.length:Int):=by
  cases Ls with
  | nil=>exact absurd rfl hne
  | cons x y=>simp only[aez];omega
 have hz2:((Ls.length:Int)==0)=false:=afT (by omega)
 unfold jH at hl h0 hA0
 go_enter Tryz.func5,Tryz.ntmps5
 go_wp2_with (go_at_fn 11;refine hl.mono ?_;rintro e W1 ⟨G1,u,rfl,hlv,hu⟩;have hr1:=(hlv.kept.block _ (aB h0.1)).trans h0.1;obtain⟨b,off,cu,rfl,hcu,hmu,hfz,hcell⟩:=o9 hu hlv.agr hne)
 go_loopg [28] Ls.length (fun g s28 wr=>∃ (i:Nat) (v:ai) (vr vl ve:Value) (L:List (aa×Value)),s28= .int .i64 (i:Int)/\i<=Ls.length/\Ls.length - i<=g/\Aside (RdI G1 w wr w.heap.size W1.heap.size v vr vl ve L i)/\Aside (mY e0 Ls 0 zI=mY e0 (Ls.drop i) i v))
 case atStart=>
  have hs0:(w.alloc (.cells #[.string ⟨#[]⟩,.string ⟨#[]⟩,.int .i64 0,.int .i64 0,.int .i64 0,.bool false,.slice none 0 0,.slice none 0 0,.slice none 0 0] 26)).heap.size=w.heap.size+1:=adg _
  have hlt:w.heap.size<W1.heap.size:=by have:=hlv.kept.size;omega
  have hd:G1 W1.heap.size=none:=by
   cases hg:G1 W1.heap.size with
   | none=>rfl
   | some o=>exact absurd (aB (hlv.agr _ o hg)) (Nat.lt_irrefl _)
  have hk:=h0.2.trans hlv.kept
  have hn:=bA W1 (.cells #[.string ⟨#[]⟩,.string ⟨#[]⟩,.int .i64 0,.int .i64 0,.int .i64 0,.bool false,.slice none 0 0,.slice none 0 0,.slice none 0 0,.int .i64 0] 41)
  refine⟨0,zI,.slice none 0 0,.slice none 0 0,.slice none 0 0,[],rfl,afI _,afq _, ?_,rfl⟩
  exact {
   ri:=⟨hn.1,RV.zero _ _ rfl rfl rfl,by simp[bH,gI,Value.ownBlock]⟩
   fr:=fun b hb=>by
    have:b=W1.heap.size:=by simpa [bH,gI,Value.ownBlock] using hb
    rw[this];exact⟨hlt,hd⟩
   agr:=vu hlv.agr _
   kb:=⟨afs hk.size hn.2.size,hn.2.os.trans hk.os,hn.2.output.trans hk.output,fun b hb=>(hn.2.block b (by omega)).trans (hk.block b hb)⟩
   res:=(hn.2.block _ hlt).trans hr1
   bnd:=⟨afI _,afI _,afI _,fun l hl=>by cases hl⟩ }
 case round=>
  obtain⟨i,v,vr,vl,ve,L,rfl,hi,hg,HI,HP⟩:=hrel
  have hTG:bZ Tryz.prog G1:=hT.mono hlv.le
  have hbxN:w.heap.size<W1.heap.size:=(HI.out.fr _ (by simp)).1
  have hlc:∀ j x,Ls[j]? =some x->wr.cell? ⟨b,off+j,none⟩=some (.string (bs x)):=by
   obtain⟨o,ho⟩:=hfz
   exact fun j x hx=>Wk (HI.out.agr b o ho) (hlv.agr b o ho) (hcell j x hx)
  by_cases hlt:i<Ls.length
  ·have hltz:(i:Int)<(Ls.length:Int):=by omega
   have hi0:(0:Int)<=(i:Int):=by omega
   obtain⟨s,hs⟩:∃ s,Ls[i]? =some s:=⟨_,ael hlt⟩
   have hsl:s.length<=1000000:=hll s (aeU hs)
   have hcs:=hlc i s hs
   have hdrop:Ls.drop i=s::Ls.drop (i+1):=by
    rw[ad1 hlt]
    congr 1
    exact (aen.1 hs).2
   have hbd:=HI.out.bnd
   have hcall:=WY G1 wr W1.heap.size (i==0) s v vr vl ve L HI.out.agr hTG hsl HI.out.ri (fun b hb=>(HI.out.fr b hb).2) (by have:=hbd.1;omega) (by have:=hbd.2.1;omega) (by have:=hbd.2.2.1;omega) (fun l hl=>by have:=hbd.2.2.2 l hl;omega)
   have hP:=HP.out
   rw[hdrop,mY] at hP
   have hb4:wr.heap[w.heap.size]? =some (.cells #[.string ⟨#[]⟩,.string ⟨#[]⟩,.int .i64 0,.int .i64 0,.int .i64 0,.bool false,.slice none 0 0,.slice none 0 0,.slice none 0 0] 26 (0,0)):=HI.out.res
   have hNx:w.heap.size∉W1.heap.size::bH vr vl ve L:=fun hm=>by have:=(HI.out.fr _ hm).1;omega
   obtain⟨o,hr⟩:∃ o,rdI v (i==0) s=o:=⟨_,rfl⟩
   rw[hr] at hP hcall
   clear hbd
   cases o with
   | none=>
    have HPG:Aside _:=hP
    have hcall2:Calls Tryz.prog 12 #[.pointer (some ⟨W1.heap.size,0,none⟩),.string (bs s)] wr fun e w'=>e= .returned (.bool false)/\Far wr.heap.size (W1.heap.size::bH vr vl ve L) wr w':=hcall.mono fun e w' hlin=>by
     rcases hlin.2 with ⟨_,he⟩ | ⟨a',h1,_⟩
     ·exact⟨he,hlin.1⟩
     ·cases h1
    clear hP hcall hs hdrop hlc hr
    go_wp2_with (go_at_fn 12;refine hcall2.mono ?_;rintro e W3 ⟨rfl,hfar⟩;have hb5:=(hfar.keep _ (aB hb4) hNx).trans hb4;obtain⟨⟨q0,q1,q2,q3,q4,q5,q6,q7,q8⟩,qf⟩:=ez hb5;have f0:=qf 0;have f1:=qf 1;have f2:=qf 2;have f3:=qf 3;have f4:=qf 4;have f5:=qf 5;have f6:=qf 6;have f7:=qf 7;have f8:=qf 8)
    obtain⟨s1,s2,s3,s4,s5⟩:=NP (.string ⟨#[]⟩) (.string ⟨#[]⟩) (.int .i64 0) (.int .i64 0) (.int .i64 0) (.bool false) (.slice none 0 0) (.slice none 0 0) (.slice none 0 0) hb5
    refine bodyPost_ret (sK (p:=2) (q:=3) (r:=4) (ty:=26) (b:=w.heap.size) (v:= .agg jH) (by kernel_rfl) _ _ _ (by rfl) (JJ s1)) rfl ⟨SU HI.out hfar s2 s3 s4 s5,.inl ⟨i+1,HPG.out,by rfl⟩⟩
   | some v'=>
    have hcall2:Calls Tryz.prog 12 #[.pointer (some ⟨W1.heap.size,0,none⟩),.string (bs s)] wr fun e w'=>e= .returned (.bool true)/\Lin wr.heap.size W1.heap.size (bH vr vl ve L) wr w' (.returned (.bool true)) (some v'):=hcall.mono fun e w' hlin=>by
     rcases id hlin.2 with ⟨h1,_⟩ | ⟨a'',_,he,_⟩
     ·cases h1
     ·subst he;exact⟨rfl,hlin⟩
    have hlin2:∀ W3,Lin wr.heap.size W1.heap.size (bH vr vl ve L) wr W3 (.returned (.bool true)) (some v')->∃ vr' vl' ve' L',RdI G1 w W3 w.heap.size W1.heap.size v' vr' vl' ve' L' (i+1):=fun W3 hlin=>by
     obtain⟨h1,⟨h5,_⟩ | ⟨a'',h5,_,vr',vl',ve',L',hR',hb'⟩⟩:=hlin
     ·cases h5
     ·cases h5
      exact⟨vr',vl',ve',L',HI.out.next hr h1 hR' hb' rfl⟩
    have HL2:Aside _:=hlin2
    by_cases hlast:i+1=Ls.length
    ·have hemp:(Ls.drop (i+1)).isEmpty=true:=by rw[hlast,List.drop_length];rfl
     have hbl:((i:Int)==(Ls.length:Int) - 1)=true:=by
      have:(i:Int)=(Ls.length:Int) - 1:=by omega
      rw[this];exact afU _
     simp only[hemp] at hP
     obtain rfl | rfl:e0=true\/e0=false:=by cases e0<;>simp
     ·have HPG:Aside _:=hP
      clear hP hcall hs hdrop hlc hr hlin2 hemp hlast
      go_wp2_with (go_at_fn 12;refine hcall2.mono ?_;rintro e W3 ⟨rfl,hlin⟩)
      go_roundg (Ls.length - (i+1))
      case measure=>omega
      case rel=>
       obtain⟨vr',vl',ve',L',hI⟩:=HL2.out W3 hlin
       exact⟨i+1,v',vr',vl',ve',L',by go_num,hlt,afq _,hI,HPG.out⟩
     ·have HPG:Aside _:=hP
      clear hP hcall hs hdrop hlc hr hlin2 hemp
      go_wp2_with (go_at_fn 12;refine hcall2.mono ?_;rintro e W3 ⟨rfl,hlin⟩;have hb5:=(hlin.1.keep _ (aB hb4) hNx).trans hb4;obtain⟨⟨q0,q1,q2,q3,q4,q5,q6,q7,q8⟩,qf⟩:=ez hb5;have f0:=qf 0;have f1:=qf 1;have f2:=qf 2;have f3:=qf 3;have f4:=qf 4;have f5:=qf 5;have f6:=qf 6;have f7:=qf 7;have f8:=qf 8)
      obtain⟨s1,s2,s3,s4,s5⟩:=NP (.string ⟨#[]⟩) (.string ⟨#[]⟩) (.int .i64 0) (.int .i64 0) (.int .i64 0) (.bool false) (.slice none 0 0) (.slice none 0 0) (.slice none 0 0) hb5
      refine bodyPost_ret (sK (p:=2) (q:=3) (r:=4) (ty:=26) (b:=w.heap.size) (v:= .agg jH) (by kernel_rfl) _ _ _ (by rfl) (JJ s1)) rfl ⟨SU HI.out hlin.1 s2 s3 s4 s5,.inl ⟨i+1,HPG.out,by rfl⟩⟩
    ·have hemp:(Ls.drop (i+1)).isEmpty=false:=by
      cases hd:Ls.drop (i+1) with
      | nil=>have:=congrArg List.length hd;simp at this;omega
      | cons _ _=>rfl
     have hbl:((i:Int)==(Ls.length:Int) - 1)=false:=afT (by omega)
     simp only[hemp,adk,afW] at hP
     have HPG:Aside _:=hP
     clear hP hcall hs hdrop hlc hr hlin2 hemp
     obtain rfl | rfl:e0=true\/e0=false:=by cases e0<;>simp
     all_goals
      go_wp2_with (go_at_fn 12;refine hcall2.mono ?_;rintro e W3 ⟨rfl,hlin⟩)
      go_roundg (Ls.length - (i+1))
      case measure=>omega
      case rel=>
       obtain⟨vr',vl',ve',L',hI⟩:=HL2.out W3 hlin
       exact⟨i+1,v',vr',vl',ve',L',by go_num,hlt,afq _,hI,HPG.out⟩
  ·have hltz:¬ (i:Int)<(Ls.length:Int):=by omega
   obtain⟨ra,rn,rc,rfl⟩:=L8 HI.out.ri.rows.rat
   obtain⟨la,ln,lc,rfl⟩:=L8 HI.out.ri.rows.nst.row
   obtain⟨xa,xn,xc,rfl⟩:=L8 HI.out.ri.rows.ext
   have hP:=HP.out
   rw[ad2 (by omega),mY] at hP
   have hqa:=hq v hP
   have HPG:Aside _:=hP
   have hfg:∀ b∈bH (.slice ra rn rc) (.slice la ln lc) (.slice xa xn xc) L,w.heap.size<=b:=fun b hb=>afp (HI.out.fr b (by simp[hb])).1
   have hck:=De (G:=frz w.heap.size G wr) v (.slice ra rn rc) (.slice la ln lc) (.slice xa xn xc) qq (ZB HI.out.ri.rows hfg) (OU fun b hb o ho=>(HI.out.kb.2.2.2 b hb).trans (hG b o ho)) (hT.mono (SF hG (afq _))) hqa
   have hb4:wr.heap[w.heap.size]? =some (.cells #[.string ⟨#[]⟩,.string ⟨#[]⟩,.int .i64 0,.int .i64 0,.int .i64 0,.bool false,.slice none 0 0,.slice none 0 0,.slice none 0 0] 26 (0,0)):=HI.out.res
   have hNx:w.heap.size∉W1.heap.size::bH (.slice ra rn rc) (.slice la ln lc) (.slice xa xn xc) L:=fun hm=>by have:=(HI.out.fr _ hm).1;omega
   obtain⟨⟨c0,c1,c2,c3,c4,c5,c6,c7,c8,c9⟩,_⟩:=bO HI.out.ri.box
   have hbxb:=HI.out.ri.box
   unfold Ai at hck
   have HN:Aside _:=hNx
   have HFG:Aside _:=hfg
   clear hP hq hlc hqa hNx hfg
   by_cases hqz:qq=0
   ·subst hqz
    go_wp2_with (go_at_fn 13;refine hck.mono ?_;rintro e W4 ⟨rfl,hk4⟩;have hb5:=(hk4.block _ (aB hb4)).trans hb4;obtain⟨⟨q0,q1,q2,q3,q4,q5,q6,q7,q8⟩,qf⟩:=ez hb5;have f0:=qf 0;have f1:=qf 1;have f2:=qf 2;have f3:=qf 3;have f4:=qf 4;have f5:=qf 5;have f6:=qf 6;have f7:=qf 7;have f8:=qf 8;have hbx5:=(hk4.block _ (aB hbxb)).trans hbxb;obtain⟨⟨d0,d1,d2,d3,d4,d5,d6,d7,d8,d9⟩,_⟩:=bO hbx5)
    obtain⟨s1,s2,s3,s4,s5⟩:=NP (.string (bs v.1)) (.string (bs v.2.1)) (.int .i64 v.2.2.1) (.int .i64 v.2.2.2.1) (.int .i64 v.2.2.2.2.1) (.bool v.2.2.2.2.2.1) (.slice ra rn rc) (.slice la ln lc) (.slice xa xn xc) hb5
    refine bodyPost_ret (sK (p:=2) (q:=3) (r:=4) (ty:=26) (b:=w.heap.size) (v:= .agg (Ai v (.slice ra rn rc) (.slice la ln lc) (.slice xa xn xc)).toArray) (by kernel_rfl) _ _ _ (by rfl) (JJ s1)) rfl (And.intro (Qe HI.out hk4 s2 s3 s4 s5) <| Or.inr <| Exists.intro v <| And.intro HPG.out <| Or.inr <| And.intro rfl <| Exists.intro (.slice ra rn rc) <| Exists.intro (.slice la ln lc) <| Exists.intro (.slice xa xn xc) <| And.intro (by rfl) (ZB (HI.out.ri.rows.keep fun b hb=>(s2 b fun e=>HN.out (e ▸ aeP _ hb)).trans (hk4.block b (HI.out.ri.rows.lt b hb))) HFG.out))
   ·have hqb:(qq==0)=false:=afT hqz
    go_wp2_with (go_at_fn 13;refine hck.mono ?_;rintro e W4 ⟨rfl,hk4⟩;have hb5:=(hk4.block _ (aB hb4)).trans hb4;obtain⟨⟨q0,q1,q2,q3,q4,q5,q6,q7,q8⟩,qf⟩:=ez hb5;have f0:=qf 0;have f1:=qf 1;have f2:=qf 2;have f3:=qf 3;have f4:=qf 4;have f5:=qf 5;have f6:=qf 6;have f7:=qf 7;have f8:=qf 8)
    obtain⟨s1,s2,s3,s4,s5⟩:=NP (.string ⟨#[]⟩) (.string ⟨#[]⟩) (.int .i64 0) (.int .i64 0) (.int .i64 0) (.bool false) (.slice none 0 0) (.slice none 0 0) (.slice none 0 0) hb5
    refine bodyPost_ret (sK (p:=2) (q:=3) (r:=4) (ty:=26) (b:=w.heap.size) (v:= .agg jH) (by kernel_rfl) _ _ _ (by rfl) (JJ s1)) rfl ⟨Qe HI.out hk4 s2 s3 s4 s5,.inr ⟨v,HPG.out,.inl ⟨hqz,by rfl⟩⟩⟩
end Go.Proofs.SeatU
