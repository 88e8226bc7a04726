/-
  order.Changed by a walk. No condition.
-/
import Derived.Test.YtekilbogbgmbbaaGreatDoorYx
import Derived.Deep.Cut
import Derived.Deep.CutRange
import Derived.BigQuiet
import Derived.Deep.QuietTactic
import Derived.Deep.RegionHeld3
import Derived.Deep.AppendLies
set_option maxRecDepth 100000
namespace Go.Proofs.SeatA
open Go.Dn Go.Md Go.Proofs Go.RowKit Go.Shelf Go.Lib
set_option maxHeartbeats 4000000 in
theorem SN (k6 k8 k13:Nat) (z24:∀ w,(Go.sizeOf 24).run Tryz.prog w= .ok k6 w) (z43:∀ w,(Go.sizeOf 53).run Tryz.prog w= .ok k8 w) (z52:∀ w,(Go.sizeOf 33).run Tryz.prog w= .ok k13 w) (hk6:k6=6) (hk8:k8=8) (hk13:k13=13) (G:Gh) (w:World) (was is:aj) (s1 s2:Value) (n1 n2 f:Int) (out:List aa) (hs1:de G aJ.size (aB G aJ) was.2.2.2.2.2 s1) (hs2:de G aJ.size (aB G aJ) is.2.2.2.2.2 s2) (hG:Agr G w) (hT:jf Tryz.prog G) (hc1:dM was=some (n1,())) (hc2:dM is=some (n2,())) (hm:jZ was is=some (out,f,())): Calls Tryz.prog 4 #[.agg (wA was s1).toArray,.agg (wA is s2).toArray] w fun e w'=>Vv G w out f e w':=by
 have e10:∀ args w,(callFunc 14 args).run Tryz.prog w= .ok (.enter 14 args) w:=enters_of Tryz.func14 (by kernel_rfl) rfl
 have e11:∀ args w,(callFunc 15 args).run Tryz.prog w= .ok (.enter 15 args) w:=enters_of Tryz.func15 (by kernel_rfl) rfl
 have e12:∀ args w,(callFunc 16 args).run Tryz.prog w= .ok (.enter 16 args) w:=enters_of Tryz.func16 (by kernel_rfl) rfl
 have e13:∀ args w,(callFunc 17 args).run Tryz.prog w= .ok (.enter 17 args) w:=enters_of Tryz.func17 (by kernel_rfl) rfl
 have e14:∀ args w,(callFunc 18 args).run Tryz.prog w= .ok (.enter 18 args) w:=enters_of Tryz.func18 (by kernel_rfl) rfl
 have e15:∀ args w,(callFunc 19 args).run Tryz.prog w= .ok (.enter 19 args) w:=enters_of Tryz.func19 (by kernel_rfl) rfl
 have mixed:Tryz.prog.follows .mixedOrders=true:=by kernel_rfl
 have late:Tryz.prog.follows .lateStores=true:=by kernel_rfl
 have t3:=Tryz.underlying3;have t4:=Tryz.underlying4;have t9:=Tryz.underlying9;have t24:=Tryz.underlying24;have t25:=Tryz.underlying25;have t26:=Tryz.underlying26;have t35:=Tryz.underlying47
 have t37:=Tryz.underlying49;have t39:=Tryz.underlying51;have t43:=Tryz.underlying53;have t44:=Tryz.underlying54;have t45:=Tryz.underlying55;have t52:=Tryz.underlying33
 have a24:=Tryz.isAgg24;have v24:=Tryz.zeroValue24;have a43:=Tryz.isAgg53;have v43:=Tryz.zeroValue53;have a52:=Tryz.isAgg33;have v52:=Tryz.zeroValue33
 have v35:=Tryz.zeroValue47;have z35:=Tryz.sizeOf47
 obtain⟨c1,hq1⟩:∃ c,c=wA was s1:=⟨_,rfl⟩
 obtain⟨c2,hq2⟩:∃ c,c=wA is s2:=⟨_,rfl⟩
 have hl1:c1.length=k6:=by rw[hq1,hk6];rfl
 have hl2:c2.length=k6:=by rw[hq2,hk6];rfl
 have one1:∀ v∈c1,v.oneCell'=true:=by rw[hq1];exact VT (QH hs1)
 have one2:∀ v∈c2,v.oneCell'=true:=by rw[hq2];exact VT (QH hs2)
 have HO1:Aside _:=one1;have HO2:Aside _:=one2
 have HQ1:Aside _:=hq1;have HQ2:Aside _:=hq2;have H6:Aside _:=hk6;have H8:Aside _:=hk8;have H13:Aside _:=hk13
 have HG:Aside _:=hG;have HT:Aside _:=hT;have HC1:Aside _:=hc1;have HC2:Aside _:=hc2;have HS1:Aside _:=hs1;have HS2:Aside _:=hs2
 have hb1:((w.alloc (.cells c1.toArray 24)).alloc (.cells c2.toArray 24)).heap[w.heap.size]? =some (.cells c1.toArray 24 (0,0)):=(heap_alloc_old _ _ (by show w.heap.size<(w.heap.push _).size;rw[ac8];omega)).trans (heap_alloc_new w _)
 have hb2:((w.alloc (.cells c1.toArray 24)).alloc (.cells c2.toArray 24)).heap[w.heap.size+1]? =some (.cells c2.toArray 24 (0,0)):=by
  have h:=heap_alloc_new (w.alloc (.cells c1.toArray 24)) (.cells c2.toArray 24)
  rwa [show (w.alloc (.cells c1.toArray 24)).heap.size=w.heap.size+1 from ac8 _] at h
 have ld1:=kJ hl1 hb1
 have ld2:=kJ hl2 hb2
 obtain⟨W3,bs2,HST3⟩:∃ W3,Sem.run Tryz.prog (Instr.buildSlice 47 2 #[(0,.agg c1.toArray),(1,.agg c2.toArray)]) ((w.alloc (.cells c1.toArray 24)).alloc (.cells c2.toArray 24))= .ok (.slice (some ⟨w.heap.size+1+1,0,none⟩) 2 2) W3/\Aside (St0 w c1 c2 W3):=by
  have h:=abS ((w.alloc (.cells c1.toArray 24)).alloc (.cells c2.toArray 24)) c1 c2 (by omega) (by omega)
  rw[show ((w.alloc (.cells c1.toArray 24)).alloc (.cells c2.toArray 24)).heap.size=w.heap.size+1+1 from (ac8 _).trans (by rw[show (w.alloc (.cells c1.toArray 24)).heap.size=w.heap.size+1 from ac8 _])] at h
  exact⟨_,h,Q7 w c1 c2 _ rfl⟩
 have HM:Aside _:=Ro hc1 hc2 hm
 clear hq1 hq2 hk6 hk8 hk13 hG hT hc1 hc2 hs1 hs2 one1 one2 hm
 have HZ24:Aside _:=z24
 clear z24
 have z24:=Tryz.sizeOf24
 show Calls Tryz.prog 4 #[.agg #[.string (bs was.1),.string (bs was.2.1),.string (bs was.2.2.1),.int .i64 was.2.2.2.1,.int .i64 was.2.2.2.2.1,s1],.agg #[.string (bs is.1),.string (bs is.2.1),.string (bs is.2.2.1),.int .i64 is.2.2.2.1,.int .i64 is.2.2.2.2.1,s2]] w _
 go_enter Tryz.func4,Tryz.ntmps4
 go_wp2
 generalize Value.agg #[.string (bs was.1),.string (bs was.2.1),.string (bs was.2.2.1),.int .i64 was.2.2.2.1,.int .i64 was.2.2.2.2.1,s1]=V1
 generalize Value.agg #[.string (bs is.1),.string (bs is.2.1),.string (bs is.2.2.1),.int .i64 is.2.2.2.1,.int .i64 is.2.2.2.2.1,s2]=V2
 clear z24
 have z24:=HZ24.out
 go_loopg [31] 2 (fun g s31 wr=>∃ i:Nat,s31= .int .i64 (i:Int)/\i<=2/\2 - i<=g/\Aside (1<=i->n1=0)/\Aside (2<=i->n2=0)/\Aside (St0 w c1 c2 wr))
 case atStart=>
  exact⟨0,rfl,afN _,aft _,fun h=>absurd h (by decide),fun h=>absurd h (by decide),by rw[HQ1.out,HQ2.out];exact Q7 w (wA was s1) (wA is s2) _ rfl⟩
 case round=>
  obtain⟨i,rfl,hi,hg,HN1,HN2,HST⟩:=hrel
  by_cases hi0:i=0
  ·subst hi0
   have lj:Sem.run Tryz.prog (loadCellsFrom ⟨w.heap.size+1+1,0,none⟩ 0 k6 #[]) wr= .ok c1.toArray wr:=TK hl1 (m:=0) HST.out.b2 (fun j v hj=>by rw[afM,aec (aej.1 hj).1];exact hj)
   obtain⟨W2,s1c,HB2,HK2,HZ2⟩:=rC wr #[.string ⟨#[]⟩,.string ⟨#[]⟩,.string ⟨#[]⟩,.int .i64 0,.int .i64 0,.slice none 0 0] c1 24 (by rw[hl1,H6.out];rfl) HO1.out
   have lj2:=kJ hl1 HB2
   have hcall:Calls Tryz.prog 14 #[.agg c1.toArray] W2 fun e w'=>e= .returned (.int .i64 n1)/\Kept W2 w':=by
    rw[HQ1.out]
    exact HL was s1 n1 HS1.out ((HST.out.kept.trans HK2).agr HG.out) HT.out HC1.out
   have HB2:Aside _:=HB2;have HK2:Aside _:=HK2;have HZ2:Aside _:=HZ2
   by_cases hn:n1=0
   ·go_wp2_with (go_at_fn 14;refine hcall.mono ?_;rintro e W4 ⟨rfl,hk4⟩)
    go_roundg 1
    case measure=>omega
    case rel=>exact⟨1,rfl,by decide,by decide,fun _=>hn,fun h=>absurd h (by decide),HST.out.keep (HK2.out.trans hk4)⟩
   ·go_wp2_with (go_at_fn 14;refine hcall.mono ?_;rintro e W4 ⟨rfl,hk4⟩)
    go_ret2
    obtain⟨_,rfl,rfl⟩:n1≠0/\out=[]/\f=n1:=by
     rcases HM.out with h | h | h
     ·exact h
     ·exact absurd h.1 hn
     ·exact absurd h.1 hn
    exact sH HG.out (HST.out.kept.trans (HK2.out.trans hk4))
  ·by_cases hi1:i=1
   ·subst hi1
    have hn1:n1=0:=HN1.out (aft _)
    have lj:Sem.run Tryz.prog (loadCellsFrom ⟨w.heap.size+1+1,k6,none⟩ 0 k6 #[]) wr= .ok c2.toArray wr:=TK hl2 (m:=k6) HST.out.b2 (fun j v hj=>by rw[aed (by omega),show k6+j - c1.length=j by omega];exact hj)
    obtain⟨W2,s1c,HB2,HK2,HZ2⟩:=rC wr #[.string ⟨#[]⟩,.string ⟨#[]⟩,.string ⟨#[]⟩,.int .i64 0,.int .i64 0,.slice none 0 0] c2 24 (by rw[hl2,H6.out];rfl) HO2.out
    have lj2:=kJ hl2 HB2
    have hcall:Calls Tryz.prog 14 #[.agg c2.toArray] W2 fun e w'=>e= .returned (.int .i64 n2)/\Kept W2 w':=by
     rw[HQ2.out]
     exact HL is s2 n2 HS2.out ((HST.out.kept.trans HK2).agr HG.out) HT.out HC2.out
    have HB2:Aside _:=HB2;have HK2:Aside _:=HK2;have HZ2:Aside _:=HZ2
    have HH1:Aside _:=hn1
    clear hn1
    by_cases hn:n2=0
    ·go_wp2_with (go_at_fn 14;refine hcall.mono ?_;rintro e W4 ⟨rfl,hk4⟩)
     go_roundg 0
     case measure=>omega
     case rel=>exact⟨2,rfl,by decide,by decide,fun _=>HH1.out,fun _=>hn,HST.out.keep (HK2.out.trans hk4)⟩
    ·go_wp2_with (go_at_fn 14;refine hcall.mono ?_;rintro e W4 ⟨rfl,hk4⟩)
     go_ret2
     obtain⟨_,rfl,rfl⟩:n2≠0/\out=[]/\f=n2:=by
      rcases HM.out with h | h | h
      ·exact absurd HH1.out h.1
      ·exact h.2
      ·exact absurd h.2.1 hn
     exact sH HG.out (HST.out.kept.trans (HK2.out.trans hk4))
   ·have hi2:i=2:=by omega
    subst hi2
    obtain⟨la,lb,HLA,HLB,HM2⟩:∃ la lb,Aside (gF was=some (la,()))/\Aside (gF is=some (lb,()))/\Aside _:=by
     rcases HM.out with h | h | h
     ·exact absurd (HN1.out (by decide)) h.1
     ·exact absurd (HN2.out (by decide)) h.2.1
     ·obtain⟨_,_,a,b,h1,h2,h3⟩:=h
      exact⟨a,b,h1,h2,h3⟩
    clear HM HC1 HC2 HN1 HN2
    go_wp2
    go_cut [9,10] from 27 (fun s9 s10 wc=>∃ (bA bB:Nat) (esA esB:Array MapEntry) (ckA ckB:Nat),s9= .map (some bA)/\s10= .map (some bB)/\Aside (dZ wc la bA esA ckA)/\Aside (dZ wc lb bB esB ckB)/\Aside (bA≠bB)/\Aside (St0 w c1 c2 wc))
    case first=>
     have hcA:∀ W,Kept wr W->Calls Tryz.prog 15 #[.agg c1.toArray] W fun e w'=>∃ b es clock,e= .returned (.map (some b))/\W.heap.size<=b/\dZ w' la b es clock/\Kept W w':=fun W hW=>by
      rw[HQ1.out];exact MS was s1 la HS1.out ((HST.out.kept.trans hW).agr HG.out) HT.out HLA.out
     have hcB:∀ W,Kept wr W->Calls Tryz.prog 15 #[.agg c2.toArray] W fun e w'=>∃ b es clock,e= .returned (.map (some b))/\W.heap.size<=b/\dZ w' lb b es clock/\Kept W w':=fun W hW=>by
      rw[HQ2.out];exact MS is s2 lb HS2.out ((HST.out.kept.trans hW).agr HG.out) HT.out HLB.out
     have hd:Kept wr wr.drew:=⟨aft _,rfl,rfl,fun _ _=>rfl⟩
     have hSt:∀ W,Kept wr W->Sem.run Tryz.prog (loadCellsFrom ⟨w.heap.size,0,none⟩ 0 k6 #[]) W= .ok c1.toArray W/\Sem.run Tryz.prog (loadCellsFrom ⟨w.heap.size+1,0,none⟩ 0 k6 #[]) W= .ok c2.toArray W/\Aside (Kept wr W):=fun W hW=>
      ⟨kJ hl1 (HST.out.keep hW).b0,kJ hl2 (HST.out.keep hW).b1,hW⟩
     go_region_held3 (fun W=>Sem.run Tryz.prog (loadCellsFrom ⟨w.heap.size,0,none⟩ 0 k6 #[]) W= .ok c1.toArray W/\Sem.run Tryz.prog (loadCellsFrom ⟨w.heap.size+1,0,none⟩ 0 k6 #[]) W= .ok c2.toArray W/\Aside (Kept wr W))
      (first
        | exact hSt _ hd
        | exact hSt _ (hd.trans hkA)
        | exact hSt _ (hd.trans hkB)
        | exact hSt _ (hd.trans (hkA.trans hkB))
        | exact hSt _ (hd.trans (hkB.trans hkA)))
      (first
        | (go_at_call_of 15 c1.toArray;refine (hcA _ (by first | exact hd | exact hd.trans hkB)).mono ?_;rintro e W4 ⟨bA,esA,ckA,rfl,hbA,hLA,hkA⟩)
        | (go_at_call_of 15 c2.toArray;refine (hcB _ (by first | exact hd | exact hd.trans hkA)).mono ?_;rintro e W5 ⟨bB,esB,ckB,rfl,hbB,hLB,hkB⟩))
     go_wp2
     go_meet
     case rel=>exact⟨bA,bB,esA,esB,ckA,ckB,rfl,rfl,⟨(hkB.block _ (bf hLA.heap)).trans hLA.heap,hLA.ent,hLA.born,hLA.incr⟩,hLB,(fun e=>by have:=bf hLA.heap;omega),HST.out.keep (hd.trans (hkA.trans hkB))⟩
    case rest=>
     obtain⟨bA,bB,esA,esB,ckA,ckB,rfl,rfl,HA,HB,HNE,HST2⟩:=hcut
     clear HST
     have a0:wc.cell? ⟨w.heap.size,0,none⟩=some (.string (bs was.1)):=ij HST2.out.b0 0 _ (by rw[HQ1.out];rfl)
     have a1:wc.cell? ⟨w.heap.size,1,none⟩=some (.string (bs was.2.1)):=ij HST2.out.b0 1 _ (by rw[HQ1.out];rfl)
     have a2:wc.cell? ⟨w.heap.size,2,none⟩=some (.string (bs was.2.2.1)):=ij HST2.out.b0 2 _ (by rw[HQ1.out];rfl)
     have b0:wc.cell? ⟨w.heap.size+1,0,none⟩=some (.string (bs is.1)):=ij HST2.out.b1 0 _ (by rw[HQ2.out];rfl)
     have b1:wc.cell? ⟨w.heap.size+1,1,none⟩=some (.string (bs is.2.1)):=ij HST2.out.b1 1 _ (by rw[HQ2.out];rfl)
     have b2:wc.cell? ⟨w.heap.size+1,2,none⟩=some (.string (bs is.2.2.1)):=ij HST2.out.b1 2 _ (by rw[HQ2.out];rfl)
     have HN:Aside (¬ (was.1=is.1/\was.2.1=is.2.1/\was.2.2.1=is.2.2.1)->out=[]/\f=12):=fun h=>by
      rcases HM2.out with h2 | h2
      ·exact h2.2
      ·exact absurd h2.1 h
     obtain e0 | e0:=adj ((bs was.1).toList==(bs is.1).toList)
     rotate_left
     ·go_wp2
      go_ret2
      obtain⟨rfl,rfl⟩:=HN.out fun q=>(by rw[q.1,afZ] at e0;cases e0)
      exact sH HG.out HST2.out.kept
     obtain e1 | e1:=adj ((bs was.2.1).toList==(bs is.2.1).toList)
     rotate_left
     ·go_wp2
      go_ret2
      obtain⟨rfl,rfl⟩:=HN.out fun q=>(by rw[q.2.1,afZ] at e1;cases e1)
      exact sH HG.out HST2.out.kept
     obtain e2 | e2:=adj ((bs was.2.2.1).toList==(bs is.2.2.1).toList)
     rotate_left
     ·go_wp2
      go_ret2
      obtain⟨rfl,rfl⟩:=HN.out fun q=>(by rw[q.2.2,afZ] at e2;cases e2)
      exact sH HG.out HST2.out.kept
     have q0:=eq_of_beq e0
     have q1:=eq_of_beq e1
     have q2:=eq_of_beq e2
     rw[qY,qY] at q0 q1 q2
     have HM3:Aside _:=HM2.out.resolve_left fun h=>h.1 ⟨q0,q1,q2⟩
     clear q0 q1 q2
     clear HM2 HN
     obtain⟨W1,hrange,HB1,HI1,HK1,HS1'⟩:∃ W1,Sem.run Tryz.prog (Instr.range 49 (.map (some bA))) (wc.alloc (.map #[] 0))= .ok (.pointer (some ⟨wc.heap.size+1,0,none⟩)) W1/\Aside (mz W1 [] wc.heap.size)/\Aside (W1.heap[wc.heap.size+1]? =some (.mapIter (some bA) ckA #[] ckA))/\Aside (Kept wc W1)/\Aside (W1.heap.size=wc.heap.size+2):=by
      have hsz:(wc.alloc (.map #[] 0)).heap.size=wc.heap.size+1:=ac8 _
      have hk:Kept wc (wc.alloc (.map #[] 0)):=oZ (Kept.refl wc) _
      have h:=run_range_map (P:=Tryz.prog) (wc.alloc (.map #[] 0)) 49 3 53 bA esA ckA Tryz.underlying49 ((hk.block bA (bf HA.out.heap)).trans HA.out.heap)
      rw[hsz] at h
      refine⟨_,h,(aaq wc).keep (heap_alloc_old _ _ (by omega)),by show _=_;rw[<- hsz];exact heap_alloc_new _ _,oZ hk _, ?_⟩
      show ((wc.alloc (.map #[] 0)).heap.push _).size=_
      rw[ac8,hsz]
     have hmk:Sem.run Tryz.prog (Instr.makeMap 51 none) wc= .ok (.map (some wc.heap.size)) (wc.alloc (.map #[] 0)):=by simp[Instr.makeMap]
     go_wp2
     clear hrange hmk e0 e1 e2 a0 a1 a2 b0 b1 b2
     go_loopg [] (leftOf esA #[]).size (fun g wr=>∃ (seen:Array Nat) (c0:Nat) (L:List Int),(leftOf esA seen).size<=g/\Aside (ckA<=c0)/\Aside (wr.heap[wc.heap.size+1]? =some (.mapIter (some bA) ckA seen c0))/\Aside (mz wr L wc.heap.size)/\Aside (sE [] la esA seen L)/\Aside (KB wc.heap.size wc wr)/\Aside (wc.heap.size+2<=wr.heap.size)/\Aside (∀ (i:Nat) (p:Int×ai) (e:MapEntry),la[i]? =some p->esA.toList[i]? =some e->seen.contains e.born=true->q8 lb p=false))
     case atStart=>
      exact⟨#[],ckA,[],aft _,aft _,HI1.out,HB1.out,sE.start List.nodup_nil (fun _=>Iff.rfl),KB.of HK1.out (aft _),Nat.le_of_eq HS1'.out.symm,fun _ _ _ _ _ h=>by simp at h⟩
     case round=>
      obtain⟨seen,c0,L,hg2,HC0,HIT,HBM,HSE,HKB,HSZ,HNC⟩:=hrel
      have hbAl:bA<wc.heap.size:=bf HA.out.heap
      have hbBl:bB<wc.heap.size:=bf HB.out.heap
      have HLAr:Aside (dZ wr la bA esA ckA):=HA.out.wh HKB.out hbAl
      rcases QD (ty:=0) HLAr.out HIT.out HC0.out with ⟨hall,hnext⟩ | ⟨ix,p,en,W,hp,hen,hlt,hnext,hentry,hWr,hWo,hWs,hWos,hWout⟩
      ·have HALL:Aside _:=hall
       clear hall
       have hkeysA:=HSE.out.done HA.out HALL.out
       have hclash:iq la lb=false:=WH fun i q hq=>by
        obtain⟨e',he'⟩:=HA.out.get' hq
        exact HNC.out i q e' hq he' (HALL.out i e' he')
       have HM4:Aside _:=HM3.out.2.2.2.2.2.resolve_left fun h=>by rw[hclash] at h;cases h.1
       have HNDA:Aside (la.map (·.1)).Nodup:=HM3.out.2.1
       have HNDB:Aside (lb.map (·.1)).Nodup:=HM3.out.2.2.1
       have HKOA:Aside (mK la=true):=HM3.out.2.2.2.1
       have HKOB:Aside (mK lb=true):=HM3.out.2.2.2.2.1
       clear hclash
       obtain⟨rB,hrB⟩:∃ r,r=wr.heap.size:=⟨_,rfl⟩
       obtain⟨W5,hrange2,HB5,HI5,HKB5,HRB,HSZ5⟩:∃ W5,Sem.run Tryz.prog (Instr.range 49 (.map (some bB))) wr= .ok (.pointer (some ⟨rB,0,none⟩)) W5/\Aside (mz W5 L wc.heap.size)/\Aside (W5.heap[rB]? =some (.mapIter (some bB) ckB #[] ckB))/\Aside (KB wc.heap.size wc W5)/\Aside (wc.heap.size+2<=rB)/\Aside (rB<W5.heap.size):=by
        subst hrB
        have h:=run_range_map (P:=Tryz.prog) wr 49 3 53 bB esB ckB Tryz.underlying49 (HB.out.wh HKB.out hbBl).heap
        exact⟨_,h,HBM.out.keep (heap_alloc_old _ _ (by have:=HSZ.out;omega)),heap_alloc_new _ _,HKB.out.trans ⟨by show _<=(wr.heap.push _).size;rw[ac8];omega,rfl,rfl,fun k hk=>heap_alloc_old _ _ (by have:=HSZ.out;omega)⟩,HSZ.out,by show _<(wr.heap.push _).size;rw[ac8];omega⟩
       have HKEYS:Aside (L.Nodup/\∀ n,n∈L↔n∈la.map (·.1)):=⟨HSE.out.nd,fun n=>(hkeysA n).trans ⟨fun h=>h.resolve_left (fun h=>nomatch h),.inr⟩⟩
       clear hkeysA hrB
       go_wp2
       clear hrange2 hnext HALL HC0 HIT HBM HSE HKB HSZ HNC HLAr
       go_loopg [] (leftOf esB #[]).size (fun g wr=>∃ (seen:Array Nat) (c0:Nat) (L:List Int),(leftOf esB seen).size<=g/\Aside (ckB<=c0)/\Aside (wr.heap[rB]? =some (.mapIter (some bB) ckB seen c0))/\Aside (mz wr L wc.heap.size)/\Aside (sE (la.map (·.1)) lb esB seen L)/\Aside (KB wc.heap.size wc wr)/\Aside (rB<wr.heap.size))
       case atStart=>
        exact⟨#[],ckB,L,aft _,aft _,HI5.out,HB5.out,sE.start HKEYS.out.1 HKEYS.out.2,HKB5.out,HSZ5.out⟩
       case round=>
        obtain⟨seen2,c02,L2,hg3,HC02,HIT2,HBM2,HSE2,HKBr,HSZ2⟩:=hrel
        have HLBr:Aside (dZ wr lb bB esB ckB):=HB.out.wh HKBr.out hbBl
        rcases QD (ty:=0) HLBr.out HIT2.out HC02.out with ⟨hall,hnext⟩ | ⟨ix,p,en,W,hp,hen,hlt,hnext,hentry,hWr,hWo,hWs,hWos,hWout⟩
        ·have HALL:Aside _:=hall
         clear hall
         have hun:=aaM HNDA.out HNDB.out HSE2.out.nd (HSE2.out.done HB.out HALL.out)
         have HST3:Aside (St0 w c1 c2 wr):=HST2.out.wh HKBr.out HST2.out.sz
         have a3:wr.cell? ⟨w.heap.size,3,none⟩=some (.int .i64 was.2.2.2.1):=ij HST3.out.b0 3 _ (by rw[HQ1.out];rfl)
         have b3:wr.cell? ⟨w.heap.size+1,3,none⟩=some (.int .i64 is.2.2.2.1):=ij HST3.out.b1 3 _ (by rw[HQ2.out];rfl)
         by_cases hd:is.2.2.2.1<was.2.2.2.1
         ·go_wp2
          go_ret2
          obtain⟨rfl,rfl⟩:out=[]/\f=8:=by
           rcases HM4.out.2 with h | h
           ·exact h.2
           ·have h1:=h.1;omega
          exact sH HG.out HST3.out.kept
         obtain⟨q,n3,HROW,HQL,HCD,HOUT⟩:∃ q n3,Aside (iR la lb is.2.2.2.1 (dS la lb) []=some q)/\Aside (q.length<=1000000)/\Aside (dL q=some (n3,()))/\Aside ((n3≠0/\out=[]/\f=n3)\/(n3=0/\out=q/\f=0)):=by
          rcases HM4.out.2 with h | h
          ·have h1:=h.1;omega
          ·obtain⟨_,q,n3,h1,h2,h3,h4⟩:=h
           exact⟨q,n3,h1,h2,h3,h4⟩
         obtain⟨bt,hc13⟩:=Xe wc.heap.size wr
         have hlen2:L2.length=(dS la lb).length:=by rw[<- hun,aeB]
         have hc12:Calls Tryz.prog 16 #[.func (.func 43) #[] #[.pointer (some ⟨wr.heap.size,0,none⟩)]] (wr.alloc (.cells #[.map (some wc.heap.size)] bt)) fun e w'=>∃ a cap,e= .returned (.slice a (dS la lb).length cap)/\Aside ((dS la lb).length<=2000000)/\Aside ((dS la lb).length=0\/∃ g cur,a=some ⟨g,0,none⟩/\w'.heap[g]? =some (.cells cur 3 (0,0))/\cur.toList.take ((dS la lb).length*1)=(dS la lb).map encZ)/\Aside (Kept wr w'):=by
          have hoA:=HKOA.out
          have hoB:=HKOB.out
          simp only[mK,adf,af7] at hoA hoB
          have hul:(dS la lb).length<=2000000:=by
           unfold dS
           rw[aeB,aev,aeA]
           have:=aez (fun n=> !(la.any fun p=>p.1==n)) (lb.map (·.1))
           rw[aeA] at this
           omega
          have hk:Kept wr (wr.alloc (.cells #[.map (some wc.heap.size)] bt)):=oZ (Kept.refl wr) _
          refine (Uh (HBM2.out.keep (heap_alloc_old _ _ HBM2.out.lt)) (heap_alloc_new _ _) HSE2.out.nd (by omega) (fun n hn=> ?_)).mono ?_
          ·rcases (HSE2.out.done HB.out HALL.out n).1 hn with h | h
           ·obtain⟨p,hp,rfl⟩:=aeV.1 h
            exact agl (adQ.1 hoA.2.1 p hp)
           ·obtain⟨p,hp,rfl⟩:=aeV.1 h
            exact agl (adQ.1 hoB.2.1 p hp)
          ·rintro e w' ⟨v,rfl,hown,hkw⟩
           rw[hun,hlen2] at hown
           obtain⟨a,cap,rfl,_,hrow⟩:=Mu hown
           exact⟨a,cap,rfl,hul,hrow.imp id fun ⟨g,cur,h1,_,h2,h3⟩=>⟨g,cur,h1,h2,h3⟩,hk.trans hkw⟩
         obtain⟨K,hK⟩:∃ K,K=dS la lb:=⟨_,rfl⟩
         rw[<- hK] at hc12 HROW
         clear hun hlen2 hK HNDA HNDB HKOA HKOB HM4 HM3 HALL HLBr HC02 HIT2 HSE2 HKEYS HI5 HB5 HKB5 HSZ5 HSZ2
         go_wp2_with (first | (go_at_fn 17;refine hc13.mono ?_;rintro e w' ⟨rfl,rfl⟩) | (go_at_fn 16;refine hc12.mono ?_;rintro e W7 ⟨aK,capK,rfl,HKL,HKR,HK7⟩))
         have HST7:Aside (St0 w c1 c2 W7):=HST3.out.keep HK7.out
         have HA7:Aside (dZ W7 la bA esA ckA):=(HA.out.wh HKBr.out hbAl).keep HK7.out
         have HB7:Aside (dZ W7 lb bB esB ckB):=(HB.out.wh HKBr.out hbBl).keep HK7.out
         have hkl:K.length<=9223372036854775807:=by have:=HKL.out;omega
         clear HST2 HST3 HA HB HKBr HK7 HRB HBM2 a3 b3 hc12 hc13 hd hnext HK1 HS1' HB1 HI1 hg2 hg3
         go_loopg [17,112] K.length (fun g s17 s112 wr=>∃ (i:Nat) (acc:List aa) (a17:Option Addr) (cap17:Nat),s112= .int .i64 (i:Int)/\s17= .slice a17 acc.length cap17/\i<=K.length/\K.length - i<=g/\Aside (iR la lb is.2.2.2.1 (K.drop i) acc=some q)/\Aside (wr.ownsRow W7.heap.size 33 13 (.slice a17 acc.length cap17) acc.length (acc.flatMap eN))/\Aside (KB W7.heap.size W7 wr))
         case atStart=>
          exact⟨0,[],none,0,rfl,rfl,afN _,aft _,HROW.out,⟨rfl,.inl ⟨rfl,rfl⟩⟩,KB.refl _ _⟩
         case round=>
          obtain⟨i,acc,a17,cap17,rfl,rfl,hiK,hgK,HRW,HOW,HKW⟩:=hrel
          have hQA:acc.length<=1000000:=afu (Fm _ _ _ HRW.out) HQL.out
          by_cases hltK:i<K.length
          ·have hltz:(i:Int)<(K.length:Int):=by omega
           obtain⟨nn,hnn⟩:∃ n,K[i]? =some n:=⟨_,aeh hltK⟩
           have hdropK:K.drop i=nn::K.drop (i+1):=by
            rw[ad0 hltK]
            congr 1
            exact (aej.1 hnn).2
           obtain⟨l,hch,hrest⟩:=UA (hdropK ▸ HRW.out)
           have HREST:Aside _:=hrest
           have hnl:acc.length+l.length<=1000000:=by
            have h1:=Fm _ _ _ HREST.out
            rw[rE] at h1
            exact afu h1 HQL.out
           rcases HKR.out with hr | ⟨gK,curK,haK,hgK,hcurK⟩
           ·omega
           subst haK
           have kc:wr.cell? ⟨gK,i,none⟩=some (.int .i64 nn):=Ue ((HKW.out.block gK (bf hgK)).trans hgK) hcurK (by rw[aek,hnn];rfl)
           have HLX:Aside (dZ wr la bA esA ckA):=HA7.out.wh HKW.out (bf HA7.out.heap)
           have HLY:Aside (dZ wr lb bB esB ckB):=HB7.out.wh HKW.out (bf HB7.out.heap)
           have hlookX:=IM HLX.out nn
           obtain⟨cX,hcX⟩:∃ c,c=gi ((aM la nn).getD eC):=⟨_,rfl⟩
           rw[<- hcX] at hlookX
           have hlX:cX.length=k8:=by rw[hcX,H8.out];rfl
           obtain⟨WA,s2X,HBX,HKX,HZX⟩:=rC wr #[.int .i64 0,.string ⟨#[]⟩,.int .i64 0,.int .i64 0,.string ⟨#[]⟩,.int .i64 0,.int .i64 0,.int .i64 0] cX 53 (by rw[hlX,H8.out];rfl) (by rw[hcX];exact Ga _)
           have hlookY:=IM (HLY.out.keep HKX) nn
           obtain⟨cY,hcY⟩:∃ c,c=gi ((aM lb nn).getD eC):=⟨_,rfl⟩
           rw[<- hcY] at hlookY
           have hlY:cY.length=k8:=by rw[hcY,H8.out];rfl
           obtain⟨WB,s2Y,HBY,HKY,HZY⟩:=rC WA #[.int .i64 0,.string ⟨#[]⟩,.int .i64 0,.int .i64 0,.string ⟨#[]⟩,.int .i64 0,.int .i64 0,.int .i64 0] cY 53 (by rw[hlY,H8.out];rfl) (by rw[hcY];exact Ga _)
           have ldX:=kJ hlX ((HKY.block _ (bf HBX)).trans HBX)
           have ldY:=kJ hlY HBY
           have HKR2:Aside (Kept wr WB):=HKX.trans HKY
           have hSTB:St0 w c1 c2 WB:=(HST7.out.wh HKW.out HST7.out.sz).keep HKR2.out
           have b3:WB.cell? ⟨w.heap.size+1,3,none⟩=some (.int .i64 is.2.2.2.1):=ij hSTB.b1 3 _ (by rw[HQ2.out];rfl)
           have hc14:Calls Tryz.prog 18 #[.agg (gi ((aM la nn).getD eC)).toArray,.agg (gi ((aM lb nn).getD eC)).toArray,.bool (aM la nn).isSome,.bool (aM lb nn).isSome,.agg (eN (vq is.2.2.2.1 nn)).toArray] WB fun e w'=>∃ aV capV,e= .returned (.slice aV l.length capV)/\Aside (l.length=0\/∃ g cur,aV=some ⟨g,0,none⟩/\WB.heap.size<=g/\w'.heap[g]? =some (.cells cur 33 (0,0))/\cur.toList.take (l.length*13)=l.flatMap eN)/\Aside (Kept WB w'):=by
            refine (Rp _ _ _ _ _ l (hSTB.kept.agr HG.out) HT.out hch).mono ?_
            rintro e w' ⟨v,rfl,hown,hkw⟩
            obtain⟨a,cap,rfl,_,hrow⟩:=Mu hown
            exact⟨a,cap,rfl,hrow,hkw⟩
           rw[<- hcX, <- hcY] at hc14
           obtain⟨hX,hhX⟩:∃ b,b=(aM la nn).isSome:=⟨_,rfl⟩
           obtain⟨hY,hhY⟩:∃ b,b=(aM lb nn).isSome:=⟨_,rfl⟩
           rw[<- hhX] at hlookX hc14
           rw[<- hhY] at hlookY hc14
           change Calls Tryz.prog 18 #[.agg cX.toArray,.agg cY.toArray,.bool hX,.bool hY,.agg #[.int .i64 is.2.2.2.1,.int .i64 1,.int .i64 0,.int .i64 0,.int .i64 nn,.string ⟨#[]⟩,.int .i64 0,.int .i64 0,.string ⟨#[]⟩,.int .i64 0,.int .i64 0,.int .i64 0,.int .i64 0]] WB _ at hc14
           have HOWB:Aside (WB.ownsRow W7.heap.size 33 13 (.slice a17 acc.length cap17) acc.length (acc.flatMap eN)):=BP HOW.out HKR2.out
           have HKWB:Aside (KB W7.heap.size W7 WB):=HKW.out.trans (KB.of HKR2.out HKW.out.size)
           have HA17:Aside (∀ a,a17=some a->a.block<WB.heap.size):=fun a ha=>by
            obtain⟨a',cap',he,_,hrow⟩:=Mu HOWB.out
            have he':a17=a':=by injection he
            rcases hrow with h | ⟨g,cur,hg,_,hgh,_⟩
            ·rcases HOWB.out.2 with ⟨h1,_⟩ | ⟨g,cap,cur,h1,_,h2,_⟩
             ·injection h1 with h1;rw[h1] at ha;cases ha
             ·injection h1 with h1;rw[h1] at ha;cases ha;exact bf h2
            ·rw[he',hg] at ha;cases ha;exact bf hgh
           clear hhX hhY hch hrest hcurK hgK hcX hcY HBX HBY HKX HKY HZX HZY hSTB hdropK hnn HLX HLY
           go_wp2_with (go_at_fn 18;refine hc14.mono ?_;rintro e W8 ⟨aV,capV,rfl,HVR,HK8⟩)
           clear hc14 hlookX hlookY s2X s2Y ldX ldY b3 kc
           have HOW8:Aside (W8.ownsRow W7.heap.size 33 13 (.slice a17 acc.length cap17) acc.length (acc.flatMap eN)):=BP HOWB.out HK8.out
           have HKW8:Aside (KB W7.heap.size W7 W8):=HKWB.out.trans (KB.of HK8.out HKWB.out.size)
           have HAV:Aside (∀ g,aV=some ⟨g,0,none⟩->l.length≠0->WB.heap.size<=g):=fun g hg h0=>by
            rcases HVR.out with h | ⟨g',cur,hg',h1,_⟩
            ·exact absurd h h0
            ·rw[hg] at hg';cases hg';exact h1
           have hlm:l.length<=9223372036854775807:=by omega
           go_loopg [17,138] l.length (fun g s17 s138 wr=>∃ (j:Nat) (accj:List aa) (a17:Option Addr) (cap17:Nat),s138= .int .i64 (j:Int)/\s17= .slice a17 accj.length cap17/\j<=l.length/\l.length - j<=g/\Aside (fY accj (l.drop j)=fY acc l)/\Aside (wr.ownsRow W7.heap.size 33 13 (.slice a17 accj.length cap17) accj.length (accj.flatMap eN))/\Aside (KB W7.heap.size W7 wr)/\Aside (W8.heap.size<=wr.heap.size)/\
            Aside (∀ g,aV=some ⟨g,0,none⟩->l.length≠0->wr.heap[g]? =W8.heap[g]? /\∀ a,a17=some a->a.block≠g))
           case atStart=>
            exact⟨0,acc,a17,cap17,rfl,rfl,afN _,aft _,(rfl:fY acc (l.drop 0)=_),HOW8.out,HKW8.out,aft _,fun g hg h0=>⟨rfl,fun a ha=>by have h1:=HAV.out g hg h0;have h2:=HA17.out a ha;omega⟩⟩
           case round=>
            obtain⟨j,accj,a17j,cap17j,rfl,rfl,hjl,hgj,HNUM,HOJ,HKJ,HSJ,HPJ⟩:=hrel
            have hnj:accj.length+(l.length - j)<=1000000:=by
             have h:=congrArg List.length HNUM.out
             rw[rE,rE,aex] at h
             omega
            by_cases hltj:j<l.length
            ·have hltjz:(j:Int)<(l.length:Int):=by omega
             obtain⟨d,hd⟩:∃ d,l[j]? =some d:=⟨_,aeh hltj⟩
             have hdropj:l.drop j=d::l.drop (j+1):=by
              rw[ad0 hltj]
              congr 1
              exact (aej.1 hd).2
             rcases HVR.out with hr | ⟨gV,curV,haV,hgVB,hgV,hcurV⟩
             ·omega
             subst haV
             have hpg:=HPJ.out gV rfl (by omega)
             have hgVr:=hpg.1.trans hgV
             obtain⟨cD,hcD⟩:∃ c,c=eN d:=⟨_,rfl⟩
             have hlD:cD.length=k13:=by rw[hcD,H13.out];rfl
             have lj:Sem.run Tryz.prog (loadCellsFrom ⟨gV,j*k13,none⟩ 0 k13 #[]) wr= .ok cD.toArray wr:=by
              have:=run_loadCells_list (P:=Tryz.prog) wr ⟨gV,j*k13,none⟩ cD (fun t v ht=>by rw[Addr.add_lit];rw[H13.out];exact Ue hgVr hcurV (flat_get l j d hd t v (by rw[<- hcD];exact ht)))
              rw[hlD] at this
              exact this
             obtain⟨WC,s2D,HBD,HKD,HZD⟩:=rC wr #[.int .i64 0,.int .i64 0,.int .i64 0,.int .i64 0,.int .i64 0,.string ⟨#[]⟩,.int .i64 0,.int .i64 0,.string ⟨#[]⟩,.int .i64 0,.int .i64 0,.int .i64 0,.int .i64 0] cD 33 (by rw[hlD,H13.out];rfl) (by rw[hcD];exact TT _)
             have f2:WC.frozen? ⟨wr.heap.size,2,none⟩=false:=by unfold World.frozen?;rw[HBD];rfl
             have c2':WC.cell? ⟨wr.heap.size,2,none⟩=some (.int .i64 d.2.2.1):=ij HBD 2 _ (by rw[hcD];rfl)
             have hds:=Yv (W:=wr) (n:=(accj.length:Int)+1) H13.out (by rw[<- hcD];exact HBD) (aft _) HKD
             obtain⟨cE,hcE⟩:∃ c,c=eN (d.1,d.2.1,(accj.length:Int)+1,d.2.2.2):=⟨_,rfl⟩
             rw[<- hcE] at hds
             obtain⟨lE,gN,WE,hbs,hE1,hKE⟩:=hds
             have hlE:cE.length=1*13:=by rw[hcE];rfl
             have HCE:Aside _:=hcE
             have oneE:∀ u∈cE,u.oneCell'=true:=by rw[hcE];exact TT _
             have hownE:=BP HOJ.out hKE
             have hnews:=World.news_of_block hE1
             have hbaseE:W7.heap.size<=WE.heap.size:=afu HKJ.out.size hKE.size
             have HKE:Aside (Kept wr WE):=hKE
             have HPG:Aside (∀ a,a17j=some a->a.block≠gV):=hpg.2
             have HGV:Aside (wr.heap[gV]? =W8.heap[gV]?):=hpg.1
             have HGVL:Aside (gV<wr.heap.size):=bf hgVr
             have HDROP:Aside _:=hdropj
             clear hcurV hgV hgVB hpg hgVr hcD hcE HBD HKD HZD hKE hd hdropj hE1
             go_wp2_with (first | ((with_reducible refine ZC hbs (.tmp 147) ?_ ?_ ?_ ?_);rfl;rfl;rfl) | (at_builtin;refine wpList_append_lies _ rfl _ _ _ rfl W7.heap.size 33 Tryz.t33 (.agg #[.int .i64 0,.int .i64 0,.int .i64 0,.int .i64 0,.int .i64 0,.string ⟨#[]⟩,.int .i64 0,.int .i64 0,.string ⟨#[]⟩,.int .i64 0,.int .i64 0,.int .i64 0,.int .i64 0]) 13 120 Tryz.underlying25 (by kernel_rfl) (by kernel_rfl) (by kernel_rfl) (by kernel_rfl) rfl (by decide) _ _ _ rfl hownE ⟨gN,0,none⟩ 1 1 cE rfl hlE hnews oneE (by decide) (by simp only[maxLen];omega) (by omega) hbaseE _ rfl ?_;intro g17 cap17' W10 hown10 hgrow hat hlt10))
             go_roundg (l.length - (j+1))
             case measure=>omega
             case rel=>
              have hne:∀ k,k<W7.heap.size->some k≠(Value.slice a17j accj.length cap17j).ownBlock:=fun k hk e=>by
               have:=((nr hownE).2 k e.symm).1
               omega
              have hKB1:=HKJ.out.trans (KB.of HKE.out HKJ.out.size)
              refine⟨j+1,accj++[(d.1,d.2.1,(accj.length:Int)+1,d.2.2.2)],some ⟨g17,0,none⟩,cap17',by go_num, ?_,hltj,aft _, ?_, ?_, ?_, ?_, ?_⟩
              ·rw[aev];rfl
              ·show fY (accj++[(d.1,d.2.1,(accj.length:Int)+1,d.2.2.2)]) (l.drop (j+1))=_
               have h:=HNUM.out
               rw[HDROP.out,fY] at h
               exact h
              ·show W10.ownsRow W7.heap.size 33 13 (.slice (some ⟨g17,0,none⟩) (accj++[(d.1,d.2.1,(accj.length:Int)+1,d.2.2.2)]).length cap17') (accj++[(d.1,d.2.1,(accj.length:Int)+1,d.2.2.2)]).length ((accj++[(d.1,d.2.1,(accj.length:Int)+1,d.2.2.2)]).flatMap eN)
               rw[aev,aeG,List.flatMap_append,List.flatMap_singleton, <- HCE.out]
               exact hown10
              ·exact⟨afu hKB1.size hgrow.size,hgrow.os.trans hKB1.os,hgrow.output.trans hKB1.output,fun k hk=>(hgrow.block k (afx hk hKB1.size) (hne k hk)).trans (hKB1.block k hk)⟩
              ·exact afu HSJ.out (afu HKE.out.size hgrow.size)
              ·intro g hg h0
               cases hg
               refine⟨(hgrow.block gV (afx HGVL.out HKE.out.size) fun e=> ?_).trans ((HKE.out.block gV HGVL.out).trans HGV.out),fun a ha=> ?_⟩
               ·cases ha17:a17j with
                | none=>rw[ha17] at e;cases e
                | some a=>rw[ha17] at e;exact HPG.out a ha17 (Option.some.inj e).symm
               ·cases ha
                show g17≠gV
                rcases hat with h | h
                ·cases ha17:a17j with
                 | none=>rw[ha17] at h;cases h
                 | some a=>rw[ha17] at h;exact fun e=>HPG.out a ha17 ((Option.some.inj h).trans e)
                ·have:=HGVL.out;have:=HKE.out.size;omega
            ·have hltjz:¬ (j:Int)<(l.length:Int):=by omega
             have hacj:accj=fY acc l:=by
              have h:=HNUM.out
              rw[List.drop_eq_nil_of_le (by omega),fY] at h
              exact h
             have HACJ:Aside _:=hacj
             clear hacj
             go_wp2
             go_roundg (K.length - (i+1))
             case measure=>omega
             case rel=>exact⟨i+1,accj,a17j,cap17j,by go_num,rfl,hltK,aft _,(by rw[HACJ.out];exact HREST.out:iR la lb is.2.2.2.1 (K.drop (i+1)) accj=some q),HOJ.out,HKJ.out⟩
          ·have hltz:¬ (i:Int)<(K.length:Int):=by omega
           have hacc:acc=q:=by
            have h:=HRW.out
            rw[List.drop_eq_nil_of_le (by omega),iR] at h
            exact Option.some.inj h
           subst hacc
           have hG1:Agr G wr:=HKW.out.agr (HST7.out.kept.agr HG.out) fun b o hb=>afx (bf (HG.out b o hb)) HST7.out.kept.size
           obtain⟨G2,hle,hhnd,hagr,hlow,hrep⟩:=WZ hG1 (fun b o hb=>afx (bf (HG.out b o hb)) HST7.out.kept.size) HOW.out
           have hc15:=SO acc _ n3 hrep hagr (HT.out.mono hle) HCD.out
           have HF:Aside (G.le G2/\G2.hnd=G.hnd/\Agr G2 wr/\(∀ b,b<W7.heap.size->G2 b=G b)/\de G2 aq.size (aB G2 aq) acc (.slice a17 acc.length cap17)):=⟨hle,hhnd,hagr,hlow,hrep⟩
           have HKF:Aside (Kept w wr):=⟨afu HST7.out.kept.size HKW.out.size,HKW.out.os.trans HST7.out.kept.os,HKW.out.output.trans HST7.out.kept.output,fun b hb=>(HKW.out.block b (afx hb HST7.out.kept.size)).trans (HST7.out.kept.block b hb)⟩
           clear hG1 hle hhnd hagr hlow hrep
           by_cases hn3:n3=0
           ·go_wp2_with (go_at_fn 19;refine hc15.mono ?_;rintro e W9 ⟨rfl,hk9⟩)
            go_ret2
            obtain⟨_,rfl,rfl⟩:n3=0/\out=acc/\f=0:=by
             rcases HOUT.out with h | h
             ·exact absurd hn3 h.1
             ·exact h
            exact⟨_,G2,rfl,HKF.out.trans hk9,HF.out.1,HF.out.2.1,hk9.agr HF.out.2.2.1,fun b hb=>HF.out.2.2.2.1 b (afx hb HST7.out.kept.size),HF.out.2.2.2.2⟩
           ·go_wp2_with (go_at_fn 19;refine hc15.mono ?_;rintro e W9 ⟨rfl,hk9⟩)
            go_ret2
            obtain⟨_,rfl,rfl⟩:n3≠0/\out=[]/\f=n3:=by
             rcases HOUT.out with h | h
             ·exact h
             ·exact absurd h.1 hn3
            exact sH HG.out (HKF.out.trans hk9)
        ·have hbmW:mz W L2 wc.heap.size:=HBM2.out.keep (hWo _ (by have:=HRB.out;omega))
         obtain⟨W4,hupd,hbm4,ho4,hs4,hos4,hout4⟩:=Un hbmW p.1
         have HREL:Aside (∃ (seen:Array Nat) (c0:Nat) (L:List Int),(leftOf esB seen).size<=(leftOf esB (seen2.push en.born)).size/\Aside (ckB<=c0)/\Aside (W4.heap[rB]? =some (.mapIter (some bB) ckB seen c0))/\Aside (mz W4 L wc.heap.size)/\Aside (sE (la.map (·.1)) lb esB seen L)/\Aside (KB wc.heap.size wc W4)/\Aside (rB<W4.heap.size)):=by
          refine⟨seen2.push en.born,ckB,zN L2 p.1,aft _,aft _,(ho4 _ (by have:=HRB.out;omega)).trans hWr,hbm4,HSE2.out.step HB.out hp hen,HKBr.out.trans ⟨by omega,hos4.trans hWos,hout4.trans hWout,fun k hk=>(ho4 k (by omega)).trans (hWo k (by have:=HRB.out;omega))⟩, ?_⟩
          show rB<W4.heap.size
          have:=HSZ2.out;omega
         clear hp hen hWr hWo hWs hWos hWout hbm4 ho4 hs4 hos4 hout4 hbmW
         obtain⟨cP,hcP⟩:∃ c,c=gi p.2:=⟨_,rfl⟩
         rw[<- hcP] at hnext hentry
         clear hcP
         go_wp2
         go_roundg (leftOf esB (seen2.push en.born)).size
         case measure=>omega
         case rel=>exact HREL.out
      ·have HP:Aside _:=hp
       have HEN:Aside _:=hen
       have HW:Aside _:=And.intro hWr (And.intro hWo (And.intro hWs (And.intro hWos hWout)))
       clear hp hen hWr hWo hWs hWos hWout
       obtain⟨cP,hcP⟩:∃ c,c=gi p.2:=⟨_,rfl⟩
       rw[<- hcP] at hnext hentry
       have hlP:cP.length=k8:=by rw[hcP,H8.out];rfl
       have HCP:Aside _:=hcP
       clear hcP
       obtain⟨W2,s2P,HB2P,HK2P,HZ2P⟩:=rC W #[.int .i64 0,.string ⟨#[]⟩,.int .i64 0,.int .i64 0,.string ⟨#[]⟩,.int .i64 0,.int .i64 0,.int .i64 0] cP 53 (by rw[hlP,H8.out];rfl) (by rw[HCP.out];exact Ga _)
       have HB2P:Aside _:=HB2P
       have HK2P:Aside _:=HK2P
       have HZ2P:Aside _:=HZ2P
       have hKBW:KB wc.heap.size wc W:=HKB.out.trans ⟨Nat.le_of_eq HW.out.2.2.1.symm,HW.out.2.2.2.1,HW.out.2.2.2.2,fun k hk=>HW.out.2.1 k (by omega)⟩
       have hszW:wc.heap.size+2<=W.heap.size:=by have:=HSZ.out;have:=HW.out.2.2.1;omega
       have HKB2:Aside (KB wc.heap.size wc W2):=hKBW.trans (KB.of HK2P.out (by omega))
       have HSW:Aside _:=hszW
       clear hKBW hszW
       have hlook:=IM (HB.out.wh HKB2.out hbBl) p.1
       obtain⟨cY,hcY⟩:∃ c,c=gi ((aM lb p.1).getD eC):=⟨_,rfl⟩
       rw[<- hcY] at hlook
       have hlY:cY.length=k8:=by rw[hcY,H8.out];rfl
       have HCY:Aside _:=hcY
       clear hcY
       obtain⟨W3,s2Y,HB3Y,HK3Y,HZ3Y⟩:=rC W2 #[.int .i64 0,.string ⟨#[]⟩,.int .i64 0,.int .i64 0,.string ⟨#[]⟩,.int .i64 0,.int .i64 0,.int .i64 0] cY 53 (by rw[hlY,H8.out];rfl) (by rw[HCY.out];exact Ga _)
       have HB3Y:Aside _:=HB3Y
       have HK3Y:Aside _:=HK3Y
       have HZ3Y:Aside _:=HZ3Y
       have hPb:W3.heap[W.heap.size]? =some (.cells cP.toArray 53 (0,0)):=(HK3Y.out.block _ (bf HB2P.out)).trans HB2P.out
       have pa1:W3.cell? ⟨W.heap.size,1,none⟩=some (.string (bs p.2.2.1)):=ij hPb 1 _ (by rw[HCP.out];rfl)
       have pa4:W3.cell? ⟨W.heap.size,4,none⟩=some (.string (bs p.2.2.2.2.1)):=ij hPb 4 _ (by rw[HCP.out];rfl)
       have py1:W3.cell? ⟨W2.heap.size,1,none⟩=some (.string (bs ((aM lb p.1).getD eC).2.1)):=ij HB3Y.out 1 _ (by rw[HCY.out];rfl)
       have py4:W3.cell? ⟨W2.heap.size,4,none⟩=some (.string (bs ((aM lb p.1).getD eC).2.2.2.1)):=ij HB3Y.out 4 _ (by rw[HCY.out];rfl)
       clear hPb
       have HKB3:Aside (KB wc.heap.size wc W3):=HKB2.out.trans (KB.of HK3Y.out (by have:=HSW.out;have:=HZ2P.out;omega))
       have hbm3:mz W3 L wc.heap.size:=HBM.out.keep (by
        rw[HK3Y.out.block _ (by have:=HSW.out;have:=HZ2P.out;omega),HK2P.out.block _ (by have:=HSW.out;omega)]
        exact HW.out.2.1 _ (by omega))
       have hit3:W3.heap[wc.heap.size+1]? =some (.mapIter (some bA) ckA (seen.push en.born) ckA):=by
        rw[HK3Y.out.block _ (by have:=HSW.out;have:=HZ2P.out;omega),HK2P.out.block _ (by have:=HSW.out;omega)]
        exact HW.out.1
       obtain⟨W4,hupd,hbm4,ho4,hs4,hos4,hout4⟩:=Un hbm3 p.1
       have HREL:Aside (q8 lb p=false->∃ (seen':Array Nat) (c0:Nat) (L:List Int),(leftOf esA seen').size<=(leftOf esA (seen.push en.born)).size/\Aside (ckA<=c0)/\Aside (W4.heap[wc.heap.size+1]? =some (.mapIter (some bA) ckA seen' c0))/\Aside (mz W4 L wc.heap.size)/\Aside (sE [] la esA seen' L)/\Aside (KB wc.heap.size wc W4)/\Aside (wc.heap.size+2<=W4.heap.size)/\Aside (∀ (i:Nat) (p:Int×ai) (e:MapEntry),la[i]? =some p->esA.toList[i]? =some e->seen'.contains e.born=true->q8 lb p=false)):=fun hnc=>by
        refine⟨seen.push en.born,ckA,zN L p.1,aft _,aft _,(ho4 _ (by omega)).trans hit3,hbm4,HSE.out.step HA.out HP.out HEN.out,HKB3.out.trans ⟨Nat.le_of_eq hs4.symm,hos4,hout4,fun k hk=>ho4 k (by omega)⟩, ?_, ?_⟩
        ·show wc.heap.size+2<=W4.heap.size
         have:=HSW.out;have:=HZ2P.out;have:=HZ3Y.out;omega
        ·intro j q e' hq he' hc
         rcases (CX HA.out HEN.out he').1 hc with h | h
         ·exact HNC.out j q e' hq he' h
         ·subst h;rw[HP.out] at hq;cases hq;exact hnc
       have HPC:Aside (q8 lb p=true->¬ is.2.2.2.1<is.2.2.2.1/\out=[]/\f=12):=fun hc=>by
        have hcc:=WI HP.out hc
        rcases HM3.out.2.2.2.2.2 with h | h
        ·exact⟨Int.lt_irrefl _,h.2⟩
        ·rw[hcc] at h;cases h.1
       have HG3:Aside (Kept w W3):=HST2.out.kept.trans ⟨HKB3.out.size,HKB3.out.os,HKB3.out.output,fun k hk=>HKB3.out.block k hk⟩
       clear hbm3 hit3 hbm4 ho4 hs4 hos4 hout4
       obtain hh | hh:=adj (aM lb p.1).isSome
       rotate_left
       ·rw[hh] at hlook
        go_wp2
        go_roundg (leftOf esA (seen.push en.born)).size
        case measure=>omega
        case rel=>exact HREL.out (by unfold q8;cases hk:aM lb p.1 with
         | none=>rfl
         | some y=>rw[hk] at hh;cases hh)
       ·rw[hh] at hlook
        obtain⟨y,hy⟩:=afS.1 hh
        rw[hy] at py1 py4
        rw[show (some y).getD eC=y from rfl] at py1 py4
        have HY:Aside _:=hy
        clear hh hy
        have HCL:Aside (q8 lb p=(!(y.2.1==p.2.2.1)|| !(y.2.2.2.1==p.2.2.2.2.1))):=by show q8 lb p=_;unfold q8;rw[HY.out]
        obtain e3 | e3:=adj ((bs y.2.1).toList==(bs p.2.2.1).toList)
        rotate_left
        ·go_wp2
         go_ret2
         obtain⟨_,rfl,rfl⟩:=HPC.out (by rw[qY,qY] at e3;rw[HCL.out,e3];rfl)
         exact sH HG.out HG3.out
        obtain e4 | e4:=adj ((bs y.2.2.2.1).toList==(bs p.2.2.2.2.1).toList)
        rotate_left
        ·go_wp2
         go_ret2
         obtain⟨_,rfl,rfl⟩:=HPC.out (by rw[qY,qY] at e4;rw[HCL.out,e4];exact Bool.or_true _)
         exact sH HG.out HG3.out
        have HE3:Aside _:=e3
        have HE4:Aside _:=e4
        go_wp2
        go_roundg (leftOf esA (seen.push en.born)).size
        case measure=>omega
        case rel=>exact HREL.out (by have h3:=HE3.out;have h4:=HE4.out;rw[qY,qY] at h3 h4;rw[HCL.out,h3,h4];rfl)
end Go.Proofs.SeatA
set_option maxRecDepth 100000
namespace Go.Proofs.SeatA
open Go.Dn Go.Md Go.Proofs Go.RowKit Go.Shelf Go.Lib
noncomputable def B9:av:=⟨[.val aH,.val aH],[.val (.slice aq),.val tI],fun x=>jZ x.1 x.2.1⟩
theorem L9:fe Tryz.prog 4:=jW (fn:=Tryz.f4) (by kernel_rfl) rfl (by decide)
theorem Mh:ig Tryz.prog 4 B9:=by
 intro G w ow args x y hG how ha hm hT
 obtain⟨was,is,u⟩:=x
 obtain⟨out,f,u'⟩:=y
 obtain⟨v1,us1,h1,_,⟨vs1,e1,hv1⟩,v2,us2,h2,_,⟨vs2,e2,hv2⟩,h3⟩:=ha
 have q1:=h1 rfl
 have q2:=h2 rfl
 have q3:us2=[]:=h3
 subst q3
 obtain⟨s1,rfl,hs1⟩:=QI hv1
 obtain⟨s2,rfl,hs2⟩:=QI hv2
 cases e1
 cases e2
 subst q2
 subst q1
 refine (SN 6 8 13 Tryz.sizeOf24 Tryz.sizeOf53 Tryz.sizeOf33 rfl rfl rfl G w was is s1 s2 _ _ f out hs1 hs2 hG hT (iU was) (iU is) hm).mono ?_
 rintro e w' ⟨v,G',rfl,hk,hle,hhnd,hagr,hlow,hrep⟩
 refine⟨G',fun _=>none,[v,.int .i64 f], ?_⟩
 exact {
  ret:=rfl
  le:=hle
  agr:=hagr
  size:=hk.size
  os:=hk.os
  output:=hk.output
  old:=fun i hlt _=>⟨hk.block i hlt,hlow i hlt⟩
  own:=fun i j hij=>by cases hij
  out:=⟨_,_,rfl,⟨_,rfl,hrep⟩,_,_,rfl,rfl,rfl,trivial⟩
  hnd:=fun h=>by rw[hhnd] }
end Go.Proofs.SeatA
