/-
  Plain facts: deeds and orders checked; what a deed does with a line. No condition.
-/
import Derived.Test.YtcndcnfjdanbeaaGreatDoorVo
import Derived.Test.YtcndcnfjdanbeaaGreatDoorVr
set_option linter.all false
namespace Go.Md
open Go.Dn
theorem fH (k:Int):oA k=some (decide (k=5∨k=6∨k=7∨k=9),()):=by
 unfold oA
 by_cases h5:k=5
 ·subst h5;rfl
 by_cases h6:k=6
 ·subst h6;rfl
 by_cases h7:k=7
 ·subst h7;rfl
 by_cases h9:k=9
 ·subst h9;rfl
 have e5:(k==5)=false:=by simp [h5]
 have e6:(k==6)=false:=by simp [h6]
 have e7:(k==7)=false:=by simp [h7]
 have e9:(k==9)=false:=by simp [h9]
 simp only [e5,e6,e7,e9,cond_false]
 simp [h5,h6,h7,h9]
def usA (k:Int):Bool:=decide (k=1)
def usQ (k:Int):Bool:=decide (k≠3∧k≠4∧k≠5∧k≠6∧k≠8)
def usP (k:Int):Bool:=decide (k=1∨k=4)
def usU (k:Int):Bool:=decide (k=1∨k=3∨k=7)
def usT (k:Int):Bool:=decide (k=5∨k=6∨k=8)
theorem Q8 (k:Int):uc k=some ((usA k,usQ k,usA k,usP k,usU k,usT k),()):=by
 unfold uc
 by_cases h1:k=1
 ·subst h1;rfl
 by_cases h3:k=3
 ·subst h3;rfl
 by_cases h4:k=4
 ·subst h4;rfl
 by_cases h5:k=5
 ·subst h5;rfl
 by_cases h6:k=6
 ·subst h6;rfl
 by_cases h7:k=7
 ·subst h7;rfl
 by_cases h8:k=8
 ·subst h8;rfl
 have e1:(k==1)=false:=by simp [h1]
 have e3:(k==3)=false:=by simp [h3]
 have e4:(k==4)=false:=by simp [h4]
 have e5:(k==5)=false:=by simp [h5]
 have e6:(k==6)=false:=by simp [h6]
 have e8:(k==8)=false:=by simp [h8]
 have e7:(k==7)=false:=by simp [h7]
 simp only [e1,e3,e4,e5,e6,e7,e8,cond_false]
 simp [h1,h3,h4,h5,h6,h7,h8,usA,usQ,usP,usU,usT]
def xq (n:Int):Bool:=decide (1≤n∧n≤3652059)
def CG (n:Int):Bool:=decide (1≤n∧n≤2000)
def Rx (ua uq up uu ut k2:Bool) (art:List UInt8) (q:aa) (unit:List UInt8) (p:aa) (un to:Int):Int:=
 bif uq&& !qOk q k2 then 1
 else bif up&& !inR p 0 1000000000 4 then 1
 else bif uu&& !xq un then 1
 else bif ua&&(!cL art|| !cL unit) then 5
 else bif ut&& !CG to then 1
 else bif (!ua&& !(art==[]))||((!uq&& !(q.1==0&&q.2==0))||((!ua&& !(unit==[]))||((!up&& !(p.1==0&&p.2==0))||((!uu&&un != 0)||(!ut&&to != 0))))) then 3
 else 0
def DL (d:ah):Int:=
 Rx (usA d.2.2.2.1) (usQ d.2.2.2.1) (usP d.2.2.2.1) (usU d.2.2.2.1) (usT d.2.2.2.1) (d.2.2.2.1==2) d.2.2.2.2.2.1 d.2.2.2.2.2.2.1 d.2.2.2.2.2.2.2.1 d.2.2.2.2.2.2.2.2.1 d.2.2.2.2.2.2.2.2.2.1 d.2.2.2.2.2.2.2.2.2.2
theorem Uj (n:Int):ou n=some (xq n,()):=tQ n
theorem aaC (n:Int):cX n 1 2000=some (!CG n,()):=by
 rw [fU]
 congr 2
 unfold CG
 by_cases h1:1≤n<;>by_cases h2:n≤2000<;>simp [h1,h2]<;>omega
theorem MK (d:ah):s4 d=some (DL d,()):=by
 obtain ⟨day,byy,no,k,line,art,⟨q1,q2⟩,unit,⟨p1,p2⟩,un,to⟩:=d
 unfold s4 DL
 dsimp only
 rw [Q8,Option.bind_some]
 dsimp only
 rw [wK]
 simp only [AA,Uj,CH,aaC,Option.bind_some]
 generalize usA k=ua
 generalize usQ k=uq
 generalize usP k=up
 generalize usU k=uu
 generalize usT k=ut
 generalize (k==2)=k2
 unfold Rx
 generalize qOk (q1,q2) k2=b1
 have step1:∀ (A:Option ((Int×Unit) ⊕ (Int×Int×Int×Int×Int×(List UInt8)×Int×Int×(List UInt8)×Int×Int×Int×Int×Bool×Bool×Bool×Bool×Bool×Bool×Unit))) (v:Int×Int×Int×Int×Int×(List UInt8)×Int×Int×(List UInt8)×Int×Int×Int×Int×Bool×Bool×Bool×Bool×Bool×Bool×Unit) (K:(Int×Int×Int×Int×Int×(List UInt8)×Int×Int×(List UInt8)×Int×Int×Int×Int×Bool×Bool×Bool×Bool×Bool×Bool×Unit)→Option (Int×Unit)),
  A=some (.inr v)→aJ A K=K v:=fun A v K h=>by rw [h];rfl
 cases uq
 ·refine Eq.trans (step1 _ _ _ (by exact rfl)) ?_
  cases up
  ·refine Eq.trans (step1 _ _ _ (by exact rfl)) ?_
   dsimp only
   generalize xq un=b3
   generalize cL art=b4
   generalize cL unit=b5
   generalize CG to=b6
   generalize (art==[])=c1
   generalize (q1==0)=c2
   generalize (q2==0)=c3
   generalize (unit==[])=c4
   generalize (p1==0)=c5
   generalize (p2==0)=c6
   generalize (un != 0)=c7
   generalize (to != 0)=c8
   cases uu
   ·cases ua
    ·cases ut
     ·cases c1<;>first | rfl | (cases c4<;>first | rfl | (cases c7<;>first | rfl | (cases c8<;>first | rfl | (cases c2<;>first | rfl | (cases c3<;>first | rfl | (cases c5<;>first | rfl | (cases c6<;>rfl)))))))
     ·cases b6
      ·rfl
      ·cases c1<;>first | rfl | (cases c4<;>first | rfl | (cases c7<;>first | rfl | (cases c8<;>first | rfl | (cases c2<;>first | rfl | (cases c3<;>first | rfl | (cases c5<;>first | rfl | (cases c6<;>rfl)))))))
    ·cases b4
     ·rfl
     ·cases b5
      ·rfl
      ·cases ut
       ·cases c1<;>first | rfl | (cases c4<;>first | rfl | (cases c7<;>first | rfl | (cases c8<;>first | rfl | (cases c2<;>first | rfl | (cases c3<;>first | rfl | (cases c5<;>first | rfl | (cases c6<;>rfl)))))))
       ·cases b6
        ·rfl
        ·cases c1<;>first | rfl | (cases c4<;>first | rfl | (cases c7<;>first | rfl | (cases c8<;>first | rfl | (cases c2<;>first | rfl | (cases c3<;>first | rfl | (cases c5<;>first | rfl | (cases c6<;>rfl)))))))
   ·cases b3
    ·rfl
    ·cases ua
     ·cases ut
      ·cases c1<;>first | rfl | (cases c4<;>first | rfl | (cases c7<;>first | rfl | (cases c8<;>first | rfl | (cases c2<;>first | rfl | (cases c3<;>first | rfl | (cases c5<;>first | rfl | (cases c6<;>rfl)))))))
      ·cases b6
       ·rfl
       ·cases c1<;>first | rfl | (cases c4<;>first | rfl | (cases c7<;>first | rfl | (cases c8<;>first | rfl | (cases c2<;>first | rfl | (cases c3<;>first | rfl | (cases c5<;>first | rfl | (cases c6<;>rfl)))))))
     ·cases b4
      ·rfl
      ·cases b5
       ·rfl
       ·cases ut
        ·cases c1<;>first | rfl | (cases c4<;>first | rfl | (cases c7<;>first | rfl | (cases c8<;>first | rfl | (cases c2<;>first | rfl | (cases c3<;>first | rfl | (cases c5<;>first | rfl | (cases c6<;>rfl)))))))
        ·cases b6
         ·rfl
         ·cases c1<;>first | rfl | (cases c4<;>first | rfl | (cases c7<;>first | rfl | (cases c8<;>first | rfl | (cases c2<;>first | rfl | (cases c3<;>first | rfl | (cases c5<;>first | rfl | (cases c6<;>rfl)))))))
  ·dsimp only
   generalize inR (p1,p2) 0 1000000000 4=b2
   cases b2
   ·rfl
   ·refine Eq.trans (step1 _ _ _ (by exact rfl)) ?_
    dsimp only
    generalize xq un=b3
    generalize cL art=b4
    generalize cL unit=b5
    generalize CG to=b6
    generalize (art==[])=c1
    generalize (q1==0)=c2
    generalize (q2==0)=c3
    generalize (unit==[])=c4
    generalize (p1==0)=c5
    generalize (p2==0)=c6
    generalize (un != 0)=c7
    generalize (to != 0)=c8
    cases uu
    ·cases ua
     ·cases ut
      ·cases c1<;>first | rfl | (cases c4<;>first | rfl | (cases c7<;>first | rfl | (cases c8<;>first | rfl | (cases c2<;>first | rfl | (cases c3<;>first | rfl | (cases c5<;>first | rfl | (cases c6<;>rfl)))))))
      ·cases b6
       ·rfl
       ·cases c1<;>first | rfl | (cases c4<;>first | rfl | (cases c7<;>first | rfl | (cases c8<;>first | rfl | (cases c2<;>first | rfl | (cases c3<;>first | rfl | (cases c5<;>first | rfl | (cases c6<;>rfl)))))))
     ·cases b4
      ·rfl
      ·cases b5
       ·rfl
       ·cases ut
        ·cases c1<;>first | rfl | (cases c4<;>first | rfl | (cases c7<;>first | rfl | (cases c8<;>first | rfl | (cases c2<;>first | rfl | (cases c3<;>first | rfl | (cases c5<;>first | rfl | (cases c6<;>rfl)))))))
        ·cases b6
         ·rfl
         ·cases c1<;>first | rfl | (cases c4<;>first | rfl | (cases c7<;>first | rfl | (cases c8<;>first | rfl | (cases c2<;>first | rfl | (cases c3<;>first | rfl | (cases c5<;>first | rfl | (cases c6<;>rfl)))))))
    ·cases b3
     ·rfl
     ·cases ua
      ·cases ut
       ·cases c1<;>first | rfl | (cases c4<;>first | rfl | (cases c7<;>first | rfl | (cases c8<;>first | rfl | (cases c2<;>first | rfl | (cases c3<;>first | rfl | (cases c5<;>first | rfl | (cases c6<;>rfl)))))))
       ·cases b6
        ·rfl
        ·cases c1<;>first | rfl | (cases c4<;>first | rfl | (cases c7<;>first | rfl | (cases c8<;>first | rfl | (cases c2<;>first | rfl | (cases c3<;>first | rfl | (cases c5<;>first | rfl | (cases c6<;>rfl)))))))
      ·cases b4
       ·rfl
       ·cases b5
        ·rfl
        ·cases ut
         ·cases c1<;>first | rfl | (cases c4<;>first | rfl | (cases c7<;>first | rfl | (cases c8<;>first | rfl | (cases c2<;>first | rfl | (cases c3<;>first | rfl | (cases c5<;>first | rfl | (cases c6<;>rfl)))))))
         ·cases b6
          ·rfl
          ·cases c1<;>first | rfl | (cases c4<;>first | rfl | (cases c7<;>first | rfl | (cases c8<;>first | rfl | (cases c2<;>first | rfl | (cases c3<;>first | rfl | (cases c5<;>first | rfl | (cases c6<;>rfl)))))))
 ·cases b1
  ·rfl
  ·refine Eq.trans (step1 _ _ _ (by exact rfl)) ?_
   cases up
   ·refine Eq.trans (step1 _ _ _ (by exact rfl)) ?_
    dsimp only
    generalize xq un=b3
    generalize cL art=b4
    generalize cL unit=b5
    generalize CG to=b6
    generalize (art==[])=c1
    generalize (q1==0)=c2
    generalize (q2==0)=c3
    generalize (unit==[])=c4
    generalize (p1==0)=c5
    generalize (p2==0)=c6
    generalize (un != 0)=c7
    generalize (to != 0)=c8
    cases uu
    ·cases ua
     ·cases ut
      ·cases c1<;>first | rfl | (cases c4<;>first | rfl | (cases c7<;>first | rfl | (cases c8<;>first | rfl | (cases c2<;>first | rfl | (cases c3<;>first | rfl | (cases c5<;>first | rfl | (cases c6<;>rfl)))))))
      ·cases b6
       ·rfl
       ·cases c1<;>first | rfl | (cases c4<;>first | rfl | (cases c7<;>first | rfl | (cases c8<;>first | rfl | (cases c2<;>first | rfl | (cases c3<;>first | rfl | (cases c5<;>first | rfl | (cases c6<;>rfl)))))))
     ·cases b4
      ·rfl
      ·cases b5
       ·rfl
       ·cases ut
        ·cases c1<;>first | rfl | (cases c4<;>first | rfl | (cases c7<;>first | rfl | (cases c8<;>first | rfl | (cases c2<;>first | rfl | (cases c3<;>first | rfl | (cases c5<;>first | rfl | (cases c6<;>rfl)))))))
        ·cases b6
         ·rfl
         ·cases c1<;>first | rfl | (cases c4<;>first | rfl | (cases c7<;>first | rfl | (cases c8<;>first | rfl | (cases c2<;>first | rfl | (cases c3<;>first | rfl | (cases c5<;>first | rfl | (cases c6<;>rfl)))))))
    ·cases b3
     ·rfl
     ·cases ua
      ·cases ut
       ·cases c1<;>first | rfl | (cases c4<;>first | rfl | (cases c7<;>first | rfl | (cases c8<;>first | rfl | (cases c2<;>first | rfl | (cases c3<;>first | rfl | (cases c5<;>first | rfl | (cases c6<;>rfl)))))))
       ·cases b6
        ·rfl
        ·cases c1<;>first | rfl | (cases c4<;>first | rfl | (cases c7<;>first | rfl | (cases c8<;>first | rfl | (cases c2<;>first | rfl | (cases c3<;>first | rfl | (cases c5<;>first | rfl | (cases c6<;>rfl)))))))
      ·cases b4
       ·rfl
       ·cases b5
        ·rfl
        ·cases ut
         ·cases c1<;>first | rfl | (cases c4<;>first | rfl | (cases c7<;>first | rfl | (cases c8<;>first | rfl | (cases c2<;>first | rfl | (cases c3<;>first | rfl | (cases c5<;>first | rfl | (cases c6<;>rfl)))))))
         ·cases b6
          ·rfl
          ·cases c1<;>first | rfl | (cases c4<;>first | rfl | (cases c7<;>first | rfl | (cases c8<;>first | rfl | (cases c2<;>first | rfl | (cases c3<;>first | rfl | (cases c5<;>first | rfl | (cases c6<;>rfl)))))))
   ·dsimp only
    generalize inR (p1,p2) 0 1000000000 4=b2
    cases b2
    ·rfl
    ·refine Eq.trans (step1 _ _ _ (by exact rfl)) ?_
     dsimp only
     generalize xq un=b3
     generalize cL art=b4
     generalize cL unit=b5
     generalize CG to=b6
     generalize (art==[])=c1
     generalize (q1==0)=c2
     generalize (q2==0)=c3
     generalize (unit==[])=c4
     generalize (p1==0)=c5
     generalize (p2==0)=c6
     generalize (un != 0)=c7
     generalize (to != 0)=c8
     cases uu
     ·cases ua
      ·cases ut
       ·cases c1<;>first | rfl | (cases c4<;>first | rfl | (cases c7<;>first | rfl | (cases c8<;>first | rfl | (cases c2<;>first | rfl | (cases c3<;>first | rfl | (cases c5<;>first | rfl | (cases c6<;>rfl)))))))
       ·cases b6
        ·rfl
        ·cases c1<;>first | rfl | (cases c4<;>first | rfl | (cases c7<;>first | rfl | (cases c8<;>first | rfl | (cases c2<;>first | rfl | (cases c3<;>first | rfl | (cases c5<;>first | rfl | (cases c6<;>rfl)))))))
      ·cases b4
       ·rfl
       ·cases b5
        ·rfl
        ·cases ut
         ·cases c1<;>first | rfl | (cases c4<;>first | rfl | (cases c7<;>first | rfl | (cases c8<;>first | rfl | (cases c2<;>first | rfl | (cases c3<;>first | rfl | (cases c5<;>first | rfl | (cases c6<;>rfl)))))))
         ·cases b6
          ·rfl
          ·cases c1<;>first | rfl | (cases c4<;>first | rfl | (cases c7<;>first | rfl | (cases c8<;>first | rfl | (cases c2<;>first | rfl | (cases c3<;>first | rfl | (cases c5<;>first | rfl | (cases c6<;>rfl)))))))
     ·cases b3
      ·rfl
      ·cases ua
       ·cases ut
        ·cases c1<;>first | rfl | (cases c4<;>first | rfl | (cases c7<;>first | rfl | (cases c8<;>first | rfl | (cases c2<;>first | rfl | (cases c3<;>first | rfl | (cases c5<;>first | rfl | (cases c6<;>rfl)))))))
        ·cases b6
         ·rfl
         ·cases c1<;>first | rfl | (cases c4<;>first | rfl | (cases c7<;>first | rfl | (cases c8<;>first | rfl | (cases c2<;>first | rfl | (cases c3<;>first | rfl | (cases c5<;>first | rfl | (cases c6<;>rfl)))))))
       ·cases b4
        ·rfl
        ·cases b5
         ·rfl
         ·cases ut
          ·cases c1<;>first | rfl | (cases c4<;>first | rfl | (cases c7<;>first | rfl | (cases c8<;>first | rfl | (cases c2<;>first | rfl | (cases c3<;>first | rfl | (cases c5<;>first | rfl | (cases c6<;>rfl)))))))
          ·cases b6
           ·rfl
           ·cases c1<;>first | rfl | (cases c4<;>first | rfl | (cases c7<;>first | rfl | (cases c8<;>first | rfl | (cases c2<;>first | rfl | (cases c3<;>first | rfl | (cases c5<;>first | rfl | (cases c6<;>rfl)))))))
def bn (d:ah):Int:=
 if ¬(1≤d.1∧d.1≤3652059) then 1
 else if ¬(1≤d.2.1∧d.2.1≤2) then 4
 else if ¬(1≤d.2.2.1∧d.2.2.1≤2000) then 1
 else if ¬(1≤d.2.2.2.1∧d.2.2.2.1≤11) then 4
 else if ¬((d.2.2.2.1=5∨d.2.2.2.1=6∨d.2.2.2.1=7∨d.2.2.2.1=9)↔d.2.1=2) then 4
 else if ¬(1≤d.2.2.2.2.1∧d.2.2.2.2.1≤99999) then 1
 else DL d
theorem Sr (n a b:Int):decide (n<a∨b<n)= !decide (a≤n∧n≤b):=by
 by_cases h1:a≤n<;>by_cases h2:n≤b<;>simp [h1,h2]<;>omega
theorem MI (d:ah):sY d=some (bn d,()):=by
 unfold sY bn
 simp only [tQ,fU,Sr,fH,MK,Option.bind_some]
 by_cases h1:1≤d.1∧d.1≤3652059
 ·by_cases h2:1≤d.2.1∧d.2.1≤2
  ·by_cases h3:1≤d.2.2.1∧d.2.2.1≤2000
   ·by_cases h4:1≤d.2.2.2.1∧d.2.2.2.1≤11
    ·by_cases h5:(d.2.2.2.1=5∨d.2.2.2.1=6∨d.2.2.2.1=7∨d.2.2.2.1=9)↔d.2.1=2
     ·have e5:(decide (d.2.2.2.1=5∨d.2.2.2.1=6∨d.2.2.2.1=7∨d.2.2.2.1=9)==(d.2.1==2))=true:=by
       by_cases h6:d.2.1=2
       ·simp [h6,h5.2 h6]
       ·have:¬(d.2.2.2.1=5∨d.2.2.2.1=6∨d.2.2.2.1=7∨d.2.2.2.1=9):=fun h=>h6 (h5.1 h)
        simp [h6,this]
      by_cases h6:1≤d.2.2.2.2.1∧d.2.2.2.2.1≤99999
      ·rw [e5]
       simp only [h1,h2,h3,h4,h5,h6,iff_self,afw,Bool.not_true,cond_false,not_true,afz,afn]
      ·rw [e5]
       simp only [h1,h2,h3,h4,h5,h6,iff_self,afw,afv,Bool.not_true,ade,cond_false,cond_true,not_true,afD,afz,afA,afn]
     ·have e5:(decide (d.2.2.2.1=5∨d.2.2.2.1=6∨d.2.2.2.1=7∨d.2.2.2.1=9)==(d.2.1==2))=false:=by
       by_cases h6:d.2.1=2
       ·have:¬(d.2.2.2.1=5∨d.2.2.2.1=6∨d.2.2.2.1=7∨d.2.2.2.1=9):=fun h=>h5 ⟨fun _=>h6,fun _=>h⟩
        simp [h6,this]
       ·have:(d.2.2.2.1=5∨d.2.2.2.1=6∨d.2.2.2.1=7∨d.2.2.2.1=9):=Classical.byContradiction fun h=>h5 ⟨fun h'=>absurd h' h,fun h'=>absurd h' h6⟩
        simp [h6,this]
      rw [e5]
      simp only [h1,h2,h3,h4,h5,afw,Bool.not_true,ade,cond_false,cond_true,not_true,afD,afz,afA,afn]
    ·simp only [h1,h2,h3,h4,afw,afv,Bool.not_true,ade,cond_false,cond_true,not_true,afD,afz,afA,afn]
   ·simp only [h1,h2,h3,afw,afv,Bool.not_true,ade,cond_false,cond_true,not_true,afD,afz,afA,afn]
  ·simp only [h1,h2,afw,afv,Bool.not_true,ade,cond_false,cond_true,not_true,afD,afz,afA,afn]
 ·simp only [h1,afv,ade,cond_true,afD,afA]
theorem bG {d:ah} (h:bn d=0):(1≤d.1∧d.1≤3652059)∧(1≤d.2.1∧d.2.1≤2)∧(1≤d.2.2.1∧d.2.2.1≤2000)∧(1≤d.2.2.2.1∧d.2.2.2.1≤11)∧
 ((d.2.2.2.1=5∨d.2.2.2.1=6∨d.2.2.2.1=7∨d.2.2.2.1=9)↔d.2.1=2)∧(1≤d.2.2.2.2.1∧d.2.2.2.2.1≤99999)∧DL d=0:=by
 unfold bn at h
 split at h
 ·cases h
 ·rename_i h1
  split at h
  ·cases h
  ·rename_i h2
   split at h
   ·cases h
   ·rename_i h3
    split at h
    ·cases h
    ·rename_i h4
     split at h
     ·cases h
     ·rename_i h5
      split at h
      ·cases h
      ·rename_i h6
       exact ⟨adi.1 h1,adi.1 h2,adi.1 h3,adi.1 h4,adi.1 h5,adi.1 h6,h⟩
end Go.Md
namespace Go.Md
open Go.Dn
def dCw (a b:ah):Int:=if w64 (a.1 - b.1)≠0 then w64 (a.1 - b.1) else if w64 (a.2.1 - b.2.1)≠0 then w64 (a.2.1 - b.2.1) else w64 (a.2.2.1 - b.2.2.1)
theorem JV (a b:ah):jX a b=some (dCw a b,()):=by
 unfold jX dCw
 generalize w64 (a.1 - b.1)=x
 generalize w64 (a.2.1 - b.2.1)=y
 generalize w64 (a.2.2.1 - b.2.2.1)=z
 simp only [aec,aee]
 have key:iter (X:=kN) (β:=kM) 8 (3,0,[x,y,z],()) p6=(bif x != 0 then some (Sum.inl (x,())) else bif y != 0 then some (Sum.inl (y,())) else bif z != 0 then some (Sum.inl (z,())) else some (Sum.inr ())):=by kernel_rfl
 show aJ (β:=(Int×Unit)) (γ:=Unit) (iter 8 (3,0,[x,y,z],()) p6) _=_
 rw [key]
 by_cases hx:x=0
 ·subst hx
  by_cases hy:y=0
  ·subst hy
   by_cases hz:z=0
   ·subst hz;rfl
   ·have:(z != 0)=true:=by simp [hz]
    rw [this];simp [aJ]
  ·have:(y != 0)=true:=by simp [hy]
   rw [this];simp [aJ,hy]
 ·have:(x != 0)=true:=by simp [hx]
  rw [this];simp [aJ,hx]
def cU:List ah→Option ah→Int→Int→Int
 | [],_,_,_=>0
 | d::r,p,nb,ns=>
  if bn d≠0 then bn d
  else if (p.any fun q=>decide (0≤dCw q d))=true then 8
  else if d.2.1=1 then (if d.2.2.1≠w64 (nb+1) then 9 else cU r (some d) d.2.2.1 ns)
  else (if d.2.2.1≠w64 (ns+1) then 9 else cU r (some d) nb d.2.2.1)
def mC (l:List ah):Int:=if 2000<l.length then 2 else cU l none 0 0
def bK {α:Type} (l:List α):Nat→Option α
 | 0=>none
 | i+1=>l[i]?
def dG (a0:List ah) (s:Int×Int×Int) (i:Nat) (y:ah) (k:(Int×Int×Int)→Option gu):Option gu:=
 if bn y≠0 then some (Sum.inl (bn y,()))
 else if ((bK a0 i).any fun q=>decide (0≤dCw q y))=true then some (Sum.inl (8,()))
 else if y.2.1=1 then (if y.2.2.1≠w64 (s.2.1+1) then some (Sum.inl (9,())) else k (s.1,y.2.2.1,s.2.2))
 else (if y.2.2.1≠w64 (s.2.2+1) then some (Sum.inl (9,())) else k (s.1,s.2.1,y.2.2.1))
theorem cq {a b:Int} (h:a≠b):(a != b)=true:=by simp [h]
theorem cD {a b:Int} (h:a≠b):(a==b)=false:=by simp [h]
theorem bJ {α:Type} {l:List α} {i:Nat} {y:α} (h:l[i]? =some y):idx l (i:Int)=some y:=by
 unfold idx
 rw [if_pos (adt i)]
 exact h
theorem P5 (a0:List ah) (hl:a0.length≤2000) (s:Int×Int×Int) (i:Nat) (y:ah) (again:jr→Option gu) (hy:a0[i]? =some y):
 jq (a0,a0,(a0.length:Int),(i:Int),s.1,s.2.1,s.2.2,()) again=dG a0 s i y fun s'=>again (a0,a0,(a0.length:Int),((i+1:Nat):Int),s'.1,s'.2.1,s'.2.2,()):=by
 have hi:i<a0.length:=(List.getElem?_eq_some_iff.1 hy).1
 unfold jq dG
 dsimp only
 rw [decide_eq_true (show (i:Int)<(a0.length:Int) by omega),cond_true,bJ hy,Option.bind_some,MI,Option.bind_some]
 dsimp only
 have hw:w64 ((i:Int)+1)=((i+1:Nat):Int):=by rw [aA (by omega) (by omega)];omega
 rw [hw]
 by_cases hf:bn y=0
 ·rw [hf,show ((0:Int) != 0)=false from rfl,cond_false,if_neg (by simp)]
  obtain ⟨_,hby,_⟩:=bG hf
  have hprev':(bif decide ((i:Int)>0) then Option.bind (idx a0 (w64 ((i:Int) - 1))) fun y4=>Option.bind (jX y4 y) fun r5=>some (decide (r5.1≥0),()) else some (false,()))=some ((bK a0 i).any fun q=>decide (0≤dCw q y),()):=by
   cases i with
   | zero=>rfl
   | succ j=>
    have hj:j<a0.length:=by omega
    have hq:a0[j]? =some a0[j]:=List.getElem?_eq_getElem hj
    have e:w64 (((j+1:Nat):Int) - 1)=(j:Int):=by rw [aA (by omega) (by omega)];omega
    rw [decide_eq_true (by omega),cond_true,e,bJ hq,Option.bind_some,JV,Option.bind_some]
    simp only [bK,hq,Option.any_some]
  rw [hprev',Option.bind_some]
  dsimp only
  cases ((bK a0 i).any fun q=>decide (0≤dCw q y)) with
  | true=>rfl
  | false=>
   rw [cond_false,if_neg (by simp)]
   by_cases h1:y.2.1=1
   ·rw [cD (show y.2.1≠0 by omega),cond_false,show (y.2.1==1)=true by simp [h1],cond_true,if_pos h1]
    by_cases hn:y.2.2.1=w64 (s.2.1+1)
    ·rw [show (y.2.2.1 != w64 (s.2.1+1))=false by simp [hn],cond_false,if_neg (by simp [hn])]
     rfl
    ·rw [cq hn,cond_true,if_pos hn]
   ·have h2:y.2.1=2:=by omega
    rw [cD (show y.2.1≠0 by omega),cond_false,cD h1,cond_false,show (y.2.1==2)=true by simp [h2],cond_true,if_neg h1]
    by_cases hn:y.2.2.1=w64 (s.2.2+1)
    ·rw [show (y.2.2.1 != w64 (s.2.2+1))=false by simp [hn],cond_false,if_neg (by simp [hn])]
     rfl
    ·rw [cq hn,cond_true,if_pos hn]
 ·rw [cq hf,cond_true,if_pos hf]
def O8 (f:Int):Option ((Int×Unit) ⊕ Unit):=if f=0 then some (Sum.inr ()) else some (Sum.inl (f,()))
theorem L3 {f:Int} (h:f=0):O8 f=some (Sum.inr ()):=if_pos h
theorem Ix {f:Int} (h:f≠0):O8 f=some (Sum.inl (f,())):=if_neg h
theorem LP (a0:List ah):∀ (r:List ah) (i:Nat) (s:Int×Int×Int),a0.drop i=r→
 Ew (dG a0) (fun _=>some (Sum.inr ())) r i s=O8 (cU r (bK a0 i) s.2.1 s.2.2)
 | [],_,_,_=>by simp [Ew,cU,O8]
 | y::r,i,s,hd=>by
  have hy:a0[i]? =some y:=by
   have:=congrArg (·[0]?) hd
   simpa [ad1] using this
  have hr:a0.drop (i+1)=r:=by
   have:=congrArg List.tail hd
   simpa [aeH] using this
  have hp:bK a0 (i+1)=some y:=hy
  show dG a0 s i y (fun s'=>Ew (dG a0) (fun _=>some (Sum.inr ())) r (i+1) s')=_
  rw [show (fun s'=>Ew (dG a0) (fun _=>some (Sum.inr ())) r (i+1) s')=fun s'=>O8 (cU r (bK a0 (i+1)) s'.2.1 s'.2.2) from funext fun s'=>LP a0 r (i+1) s' hr,hp]
  unfold dG
  by_cases hf:bn y=0
  ·have e0:¬bn y≠0:=fun h=>h hf
   rw [if_neg e0]
   by_cases ha:((bK a0 i).any fun q=>decide (0≤dCw q y))=true
   ·rw [if_pos ha,show cU (y::r) (bK a0 i) s.2.1 s.2.2=8 by simp only [cU];rw [if_neg e0,if_pos ha]]
    rfl
   ·rw [if_neg ha]
    by_cases h1:y.2.1=1
    ·rw [if_pos h1]
     by_cases hn:y.2.2.1≠w64 (s.2.1+1)
     ·rw [if_pos hn,show cU (y::r) (bK a0 i) s.2.1 s.2.2=9 by simp only [cU];rw [if_neg e0,if_neg ha,if_pos h1,if_pos hn]]
      rfl
     ·rw [if_neg hn,show cU (y::r) (bK a0 i) s.2.1 s.2.2=cU r (some y) y.2.2.1 s.2.2 by rw [cU,if_neg e0,if_neg ha,if_pos h1,if_neg hn]]
    ·rw [if_neg h1]
     by_cases hn:y.2.2.1≠w64 (s.2.2+1)
     ·rw [if_pos hn,show cU (y::r) (bK a0 i) s.2.1 s.2.2=9 by simp only [cU];rw [if_neg e0,if_neg ha,if_neg h1,if_pos hn]]
      rfl
     ·rw [if_neg hn,show cU (y::r) (bK a0 i) s.2.1 s.2.2=cU r (some y) s.2.1 y.2.2.1 by rw [cU,if_neg e0,if_neg ha,if_neg h1,if_neg hn]]
  ·rw [if_pos hf,show cU (y::r) (bK a0 i) s.2.1 s.2.2=bn y by rw [cU,if_pos hf],Ix hf]
theorem K9 (l:List ah):mJ l=some (mC l,()):=by
 unfold mJ mC
 by_cases hl:2000<l.length
 ·rw [decide_eq_true (show (l.length:Int)>2000 by omega),cond_true,if_pos hl]
 ·rw [afs (show ¬ (l.length:Int)>2000 by omega),cond_false,if_neg hl]
  have:=JE (f:=jq) (fun (s:Int×Int×Int) (i:Nat)=>((l,l,(l.length:Int),(i:Int),s.1,s.2.1,s.2.2,()):jr)) l (dG l) (fun _=>some (Sum.inr ()))
   (fun s i y again hy=>P5 l (by omega) s i y again hy) (fun s again=>by
     unfold jq
     dsimp only
     rw [afs (by omega)];rfl) (0,0,0)
  refine (congrArg (fun z=>aJ (β:=(Int×Unit)) (γ:=Unit) z fun _=>some (0,())) (this _ (by omega))).trans ?_
  rw [LP l l 0 (0,0,0) rfl]
  simp only [bK]
  by_cases h:cU l none 0 0=0
  ·rw [L3 h,h];rfl
  ·rw [Ix h];rfl
theorem Ep:∀ {l:List ah} {p:Option ah} {nb ns:Int},cU l p nb ns=0→∀ d,d∈l→bn d=0
 | [],_,_,_,_,_,h=>by cases h
 | y::r,p,nb,ns,h,d,hd=>by
  simp only [cU] at h
  by_cases hf:bn y=0
  ·rw [if_neg (by simp [hf])] at h
   rcases aeq.1 hd with rfl | hd
   ·exact hf
   ·split at h
    ·cases h
    ·split at h
     ·split at h
      ·cases h
      ·exact Ep h d hd
     ·split at h
      ·cases h
      ·exact Ep h d hd
  ·rw [if_pos hf] at h
   exact absurd h hf
theorem si {l:List ah} (h:mC l=0):l.length≤2000∧∀ d,d∈l→bn d=0:=by
 unfold mC at h
 split at h
 ·cases h
 ·rename_i hl
  exact ⟨by omega,Ep h⟩
abbrev EP (o:ai):=o.1
abbrev EO (o:ai):=o.2.1
abbrev JM (o:ai):=o.2.2.1
abbrev cw (o:ai):=o.2.2.2.1
abbrev bN (o:ai):=o.2.2.2.2.1
abbrev gS (o:ai):=o.2.2.2.2.2
def cO (day:Int) (p:Option aK) (x:aK):Int:=
 if ¬(1≤x.1∧x.1≤99999) then 1
 else if (p.any fun q=>decide (x.1≤q.1))=true then 8
 else if cL x.2.1=false then 5
 else if qOk x.2.2.1 false=false then 1
 else if cL x.2.2.2.1=false then 5
 else if inR x.2.2.2.2.1 0 1000000000 4=false then 1
 else if ¬(day≤x.2.2.2.2.2∧x.2.2.2.2.2≤3652059) then 1
 else 0
def iO (day:Int):List aK→Option aK→Int
 | [],_=>0
 | x::r,p=>if cO day p x≠0 then cO day p x else iO day r (some x)
def jW (o:ai):Int:=
 if cL (EP o)=false∨cL (EO o)=false∨cL (JM o)=false then 5
 else if EO o=JM o then 12
 else if ¬(1≤cw o∧cw o≤3652059) then 1
 else if ¬(0≤bN o∧bN o≤1000) then 1
 else if gS o=[] then 9
 else if 500<(gS o).length then 2
 else iO (cw o) (gS o) none
theorem acC (b:Bool):((if b=true then (0:Int) else 1) != 0)= !b:=by cases b<;>rfl
theorem MJ (o:ai) (i:Nat) (x:aK) (hi:(gS o)[i]? =some x) (hl:(gS o).length≤500):sZ o (i:Int)=some (cO (cw o) (bK (gS o) i) x,()):=by
 have hlt:i<(gS o).length:=(List.getElem?_eq_some_iff.1 hi).1
 unfold sZ
 rw [bJ hi,Option.bind_some]
 simp only [fU,Sr,CH,wK,AA,Option.bind_some,acC]
 have tail:∀ (p:Option aK) (hp:(p.any fun q=>decide (x.1≤q.1))=false) (h1:1≤x.1∧x.1≤99999),
  (bif !cL x.2.1 then some (5,()) else bif !qOk x.2.2.1 false then some ((if qOk x.2.2.1 false=true then 0 else 1),()) else bif !cL x.2.2.2.1 then some (5,()) else
    bif !inR x.2.2.2.2.1 0 1000000000 4 then some ((if inR x.2.2.2.2.1 0 1000000000 4=true then 0 else 1),()) else bif !decide (cw o≤x.2.2.2.2.2∧x.2.2.2.2.2≤3652059) then some (1,()) else some (0,()))=some (cO (cw o) p x,()):=fun p hp h1=>by
  unfold cO
  rw [if_neg (show ¬¬(1≤x.1∧x.1≤99999) from fun h=>h h1),if_neg (show ¬(p.any fun q=>decide (x.1≤q.1))=true by rw [hp];exact ac7)]
  cases cL x.2.1
  ·rfl
  ·cases qOk x.2.2.1 false
   ·rfl
   ·cases cL x.2.2.2.1
    ·rfl
    ·cases inR x.2.2.2.2.1 0 1000000000 4
     ·rfl
     ·by_cases hd:cw o≤x.2.2.2.2.2∧x.2.2.2.2.2≤3652059
      ·simp [hd]
      ·simp [hd]
 by_cases h1:1≤x.1∧x.1≤99999
 ·rw [decide_eq_true h1,Bool.not_true,cond_false]
  cases i with
  | zero=>
   rw [afs (show ¬((0:Nat):Int)>0 by omega),cond_false]
   exact tail none rfl h1
  | succ j=>
   have hq:(gS o)[j]? =some (gS o)[j]:=List.getElem?_eq_getElem (by omega)
   have e:w64 (((j+1:Nat):Int) - 1)=(j:Int):=by rw [aA (by omega) (by omega)];omega
   rw [decide_eq_true (show ((j+1:Nat):Int)>0 by omega),cond_true,e,bJ hq,Option.bind_some]
   simp only [bK,hq]
   by_cases h2:x.1≤(gS o)[j].1
   ·rw [decide_eq_true h2,Option.bind_some]
    have:cO (cw o) (some (gS o)[j]) x=8:=by
     unfold cO
     rw [if_neg (show ¬¬(1≤x.1∧x.1≤99999) from fun h=>h h1),if_pos (show (Option.any (fun q=>decide (x.1≤q.1)) (some (gS o)[j]))=true from decide_eq_true h2)]
    rw [this]
    rfl
   ·rw [afs h2,Option.bind_some]
    exact tail (some (gS o)[j]) (by simp [h2]) h1
 ·rw [afs h1,ade,cond_true]
  unfold cO
  rw [if_pos h1]
theorem CL (a0:List aK) (day:Int):∀ (r:List aK) (i:Nat) (s:Unit),a0.drop i=r→
 Ew (fun (_:Unit) i y k=>if cO day (bK a0 i) y≠0 then some (Sum.inl (cO day (bK a0 i) y,())) else k ()) (fun _=>(some (Sum.inr ()):Option lS)) r i s=O8 (iO day r (bK a0 i))
 | [],_,_,_=>by simp [Ew,iO,O8]
 | y::r,i,s,hd=>by
  have hy:a0[i]? =some y:=by
   have:=congrArg (·[0]?) hd
   simpa [ad1] using this
  have hr:a0.drop (i+1)=r:=by
   have:=congrArg List.tail hd
   simpa [aeH] using this
  have hp:bK a0 (i+1)=some y:=hy
  have ih:=CL a0 day r (i+1) () hr
  rw [hp] at ih
  by_cases hf:cO day (bK a0 i) y=0
  ·have e0:¬cO day (bK a0 i) y≠0:=fun h=>h hf
   rw [show iO day (y::r) (bK a0 i)=iO day r (some y) by rw [iO,if_neg e0], ← ih]
   show (if cO day (bK a0 i) y≠0 then _ else _)=_
   rw [if_neg e0]
  ·rw [show iO day (y::r) (bK a0 i)=cO day (bK a0 i) y by rw [iO,if_pos hf],Ix hf]
   show (if cO day (bK a0 i) y≠0 then _ else _)=_
   rw [if_pos hf]
theorem La (o:ai):qO o=some (jW o,()):=by
 unfold qO jW
 simp only [CH,tQ,fU,Sr,Option.bind_some]
 cases h1:cL o.1
 ·simp [EP,h1]
 cases h2:cL o.2.1
 ·simp [EP,EO,h1,h2]
 cases h3:cL o.2.2.1
 ·simp [EP,EO,JM,h1,h2,h3]
 rw [if_neg (by simp [EP,EO,JM,h1,h2,h3])]
 simp only [Bool.not_true,cond_false]
 by_cases h4:o.2.1=o.2.2.1
 ·rw [if_pos h4,show (o.2.1==o.2.2.1)=true by simp [h4],cond_true]
 rw [if_neg h4,show (o.2.1==o.2.2.1)=false by simp [h4],cond_false]
 by_cases h5:1≤o.2.2.2.1∧o.2.2.2.1≤3652059
 ·rw [if_neg (by simp [cw,h5]),decide_eq_true h5,Bool.not_true,cond_false]
  by_cases h6:0≤o.2.2.2.2.1∧o.2.2.2.2.1≤1000
  ·rw [if_neg (by simp [bN,h6]),decide_eq_true h6,Bool.not_true,cond_false]
   by_cases h7:o.2.2.2.2.2=[]
   ·rw [if_pos h7,h7];rfl
   ·have h7':o.2.2.2.2.2.length≠0:=fun e=>h7 (adQ e)
    rw [if_neg h7,cD (show (o.2.2.2.2.2.length:Int)≠0 by omega),cond_false]
    by_cases h8:500<o.2.2.2.2.2.length
    ·rw [if_pos h8,decide_eq_true (by omega),cond_true]
    ·rw [if_neg h8,afs (by omega),cond_false]
     have:=JE (f:=lR) (fun (_:Unit) (i:Nat)=>(((o.2.2.2.2.2.length:Int),(i:Int),o.1,o.2.1,o.2.2.1,o.2.2.2.1,o.2.2.2.2.1,o.2.2.2.2.2,()):lT)) o.2.2.2.2.2
      (fun (_:Unit) i y k=>if cO (cw o) (bK o.2.2.2.2.2 i) y≠0 then some (Sum.inl (cO (cw o) (bK o.2.2.2.2.2 i) y,())) else k ()) (fun _=>some (Sum.inr ()))
      (fun s i y again hy=>by
        have hlt:i<o.2.2.2.2.2.length:=(List.getElem?_eq_some_iff.1 hy).1
        unfold lR
        dsimp only
        rw [decide_eq_true (by omega),cond_true]
        have:=MJ o i y hy (by show o.2.2.2.2.2.length≤500;omega)
        rw [show ((o.1,o.2.1,o.2.2.1,o.2.2.2.1,o.2.2.2.2.1,o.2.2.2.2.2):ai)=o from rfl,this,Option.bind_some]
        dsimp only
        by_cases hf:cO (cw o) (bK o.2.2.2.2.2 i) y=0
        ·rw [if_neg (by simp [hf]),show (cO (cw o) (bK (gS o) i) y != 0)=false by simp [hf],cond_false,aA (by omega) (by omega)]
         rfl
        ·rw [if_pos hf,show (cO (cw o) (bK (gS o) i) y != 0)=true by simp [hf],cond_true]) (fun s again=>by
        unfold lR
        dsimp only
        rw [afs (show ¬((o.2.2.2.2.2.length:Int)<(o.2.2.2.2.2.length:Int)) by omega)];rfl) ()
     refine (congrArg (fun z=>aJ (β:=(Int×Unit)) (γ:=Unit) z fun _=>some (0,())) (this _ (by omega))).trans ?_
     rw [CL o.2.2.2.2.2 (cw o) o.2.2.2.2.2 0 () rfl]
     simp only [bK]
     by_cases h:iO (cw o) o.2.2.2.2.2 none=0
     ·rw [L3 h,h];rfl
     ·rw [Ix h];rfl
  ·rw [if_pos h6,afs h6];rfl
 ·rw [if_pos h5,afs h5];rfl
theorem E0 (o:ai) (l:List ah):rK o l=some (if jW o≠0 then jW o else mC l,()):=by
 unfold rK
 rw [La,Option.bind_some,K9]
 dsimp only
 by_cases h:jW o=0
 ·rw [h];rfl
 ·rw [cq h,cond_true,if_pos h]
end Go.Md
namespace Go.Md
open Go.Dn
def aO (d:aa):Int:=d.1*10 ^ (3 - d.2).toNat
theorem Cn {d:aa} {z:Bool} (h:qOk d z=true):(0≤d.2∧d.2≤3)∧0≤d.1∧d.1≤1000000000*10 ^ d.2.toNat∧(z=false→d.1≠0):=by
 unfold qOk inR at h
 simp only [ac1,afu,adg,adb,afo] at h
 obtain ⟨⟨h1,h2,h3,h4⟩,h5⟩:=h
 exact ⟨⟨h1.2.1,h2⟩,by omega,h4,fun hz=>by rcases h5 with h5 | h5;exact h5;rw [hz] at h5;cases h5⟩
theorem kC {d:aa} {z:Bool} (h:qOk d z=true):0≤aO d∧aO d≤1000000000000∧(z=false→0<aO d):=by
 obtain ⟨⟨h1,h2⟩,h3,h4,h5⟩:=Cn h
 unfold aO
 obtain ⟨k,hk⟩:∃ k:Nat,d.2=k:=⟨d.2.toNat,by omega⟩
 rw [hk] at h1 h2 h4 ⊢
 have:k=0∨k=1∨k=2∨k=3:=by omega
 rcases this with rfl | rfl | rfl | rfl<;>simp at h4 ⊢ <;>refine ⟨by omega,by omega,fun hz=> ?_⟩<;>have:=h5 hz<;>omega
theorem mo {d:aa} {z:Bool} (h:qOk d z=true):gB d=some (aO d,()):=by
 obtain ⟨⟨h1,h2⟩,h3,h4,_⟩:=Cn h
 obtain ⟨u1,u2,_⟩:=kC h
 unfold gB
 rw [aA (n:=3 - d.2) (by omega) (by omega),AV (3 - d.2) (by omega) (by omega),Option.bind_some]
 show some (w64 (aO d),())=_
 rw [aA (by omega) (by omega)]
structure aj where
 no:Int
 art:List UInt8
 unit:List UInt8
 ord:Int
 shp:Int
 rcv:Int
 ret:Int
 price:aa
 due:Int
 wish:Int
 ono:Int
 oq:Int
 ount:Int
abbrev aj.tup (x:aj):aG:=(x.no,x.art,x.unit,x.ord,x.shp,x.rcv,x.ret,x.price,x.due,x.wish,x.ono,x.oq,x.ount)
def aj.opn (x:aj):Int:=if x.ord - x.shp+x.ret>0 then x.ord - x.shp+x.ret else 0
structure LOk (x:aj):Prop where
 ret0:0≤x.ret
 retr:x.ret≤x.rcv
 rcvs:x.rcv≤x.shp
 shp1:x.shp≤1000000000000000
 pZ:0≤x.ord
 ord1:x.ord≤1000000000000
 off:x.ono≠0→0<x.oq∧x.oq+x.shp - x.ret≤x.ord
def qN (i:Nat):List aj→List (Int×Option Nat)
 | []=>[]
 | x::r=>(x.no,some i)::qN (i+1) r
abbrev mapOf (A:List aj):List (Int×Option Nat):=qN 0 A
def bR (n:Int) (i:Nat):List aj→Option Nat
 | []=>none
 | x::r=>if n=x.no then some i else bR n (i+1) r
abbrev dw (n:Int) (A:List aj):Option Nat:=bR n 0 A
theorem Zp (n:Int):EI n n=true:=by simp [EI]
theorem Xo {n a:Int} (h:n≠a):EI n a=false:=by simp [EI,h]
theorem gd (n:Int):∀ (A:List aj) (i:Nat),Option.getD (α:=Option Nat) (mG (k:=tI) (v:= .hnd) (qN i A) n) none=bR n i A
 | [],i=>rfl
 | x::r,i=>by
  have e:= @ZH tI .hnd (x.no,some i) (qN (i+1) r) n
  refine (congrArg (fun z:Option (Option Nat)=>Option.getD z none) e).trans ?_
  have ih:=gd n r (i+1)
  by_cases h:n=x.no
  ·subst h
   show Option.getD (α:=Option Nat) (bif EI x.no x.no then some (some i) else _) none=_
   rw [Zp]
   simp only [bR,if_pos]
   rfl
  ·show Option.getD (α:=Option Nat) (bif EI n x.no then some (some i) else _) none=_
   rw [Xo h]
   simp only [bR,if_neg h]
   exact ih
theorem Po (n:Int) (y:aj) (hy:y.no=n):∀ (A:List aj) (i:Nat),bR n i A=none→AU (k:=tI) (v:= .hnd) (qN i A) n (some (i+A.length))=qN i (A++[y])
 | [],i,_=>by subst hy;rfl
 | x::r,i,h=>by
  simp only [bR] at h
  by_cases hx:n=x.no
  ·rw [if_pos hx] at h;cases h
  ·rw [if_neg hx] at h
   have ih:=Po n y hy r (i+1) h
   have e:i+(x::r).length=i+1+r.length:=by simp only [aec];omega
   rw [e]
   show (bif EI n x.no then _ else (x.no,some i)::AU (k:=tI) (v:= .hnd) (qN (i+1) r) n (some (i+1+r.length)))=_
   rw [Xo hx]
   exact congrArg (fun z=>(x.no,some i)::z) ih
theorem Cd:∀ (A:List aj) (i:Nat),(qN i A).length=A.length
 | [],_=>rfl
 | x::r,i=>by simp [qN,Cd r]
theorem ZE {k:Nat} {y:aj}:∀ (A:List aj) (i:Nat),(∀ x,A[k]? =some x→y.no=x.no)→qN i (A.set k y)=qN i A:=by
 intro A
 induction A generalizing k with
 | nil=>intro i _;rfl
 | cons x r ih=>
  intro i h
  cases k with
  | zero=>simp only [List.set_cons_zero,qN];rw [h x rfl]
  | succ k=>simp only [List.set_cons_succ,qN];rw [ih (i+1) (fun z hz=>h z (by simpa using hz))]
theorem Oq {n:Int}:∀ {A:List aj} {i k:Nat},bR n i A=some k→i≤k∧∃ x,A[k - i]? =some x∧x.no=n
 | [],_,_,h=>by cases h
 | x::r,i,k,h=>by
  simp only [bR] at h
  by_cases hx:n=x.no
  ·rw [if_pos hx] at h;cases h;exact ⟨aeX _,x,by simp,hx.symm⟩
  ·rw [if_neg hx] at h
   obtain ⟨h1,y,h2,h3⟩:=Oq h
   refine ⟨by omega,y, ?_,h3⟩
   rw [show k - i=k - (i+1)+1 by omega,adZ];exact h2
theorem qM {n:Int} {A:List aj} {k:Nat} (h:dw n A=some k):∃ x,A[k]? =some x∧x.no=n:=(Oq h).2
theorem Jq {n:Int} {k:Nat} {y:aj}:∀ (A:List aj) (i:Nat),(∀ x,A[k]? =some x→y.no=x.no)→bR n i (A.set k y)=bR n i A:=by
 intro A
 induction A generalizing k with
 | nil=>intro i _;rfl
 | cons x r ih=>
  intro i h
  cases k with
  | zero=>simp only [List.set_cons_zero,bR];rw [h x rfl]
  | succ k=>simp only [List.set_cons_succ,bR];rw [ih (i+1) (fun z hz=>h z (by simpa using hz))]
theorem Dp {n:Int} {y:aj}:∀ (A:List aj) (i:Nat),bR n i (A++[y])=(bR n i A).or (if n=y.no then some (i+A.length) else none)
 | [],i=>by simp [bR]
 | x::r,i=>by
  simp only [adH,bR,aec]
  by_cases h:n=x.no
  ·simp [h]
  ·rw [if_neg h,if_neg h,Dp r (i+1),show i+(r.length+1)=i+1+r.length by omega]
theorem qp {A:List aj} {k:Nat} {x:aj} (h:A[k]? =some x):(A.map aj.tup)[k]? =some x.tup:=by rw [List.getElem?_map,h];rfl
theorem XS (A:List aj) (k:Nat) (y:aj):(A.map aj.tup).set k y.tup=(A.set k y).map aj.tup:=by rw [List.map_set]
theorem Nf {A:List aj} {k:Nat} {x:aj} (h:A[k]? =some x) (y:aj):(A.set k y)[k]? =some y:=by
 have:=(List.getElem?_eq_some_iff.1 h).1
 simp [ad4,this]
theorem tZ {A:List aj} {k:Nat} {x:aj} (h:A[k]? =some x) (hx:LOk x):iS (some k) (A.map aj.tup)=some (x.opn,()):=by
 unfold iS
 have ht:=qp h
 simp only [Option.bind_some,ht]
 have:=hx.ret0;have:=hx.retr;have:=hx.rcvs;have:=hx.shp1;have:=hx.pZ;have:=hx.ord1
 rw [aA (n:=x.ord - x.shp) (by omega) (by omega),aA (n:=x.ord - x.shp+x.ret) (by omega) (by omega)]
 rfl
end Go.Md
namespace Go.Md
open Go.Dn
abbrev dNo (d:ah):=d.2.2.1
abbrev aF (d:ah):=d.2.2.2.1
abbrev cH (d:ah):=d.2.2.2.2.1
abbrev dQ (d:ah):=d.2.2.2.2.2.2.1
abbrev Ip (d:ah):=d.2.2.2.2.2.2.2.2.1
abbrev ef (d:ah):=d.2.2.2.2.2.2.2.2.2.1
abbrev dTo (d:ah):=d.2.2.2.2.2.2.2.2.2.2
theorem cG {d:ah} (h:DL d=0):(usQ (aF d)=true→qOk (dQ d) (aF d==2)=true)∧(usP (aF d)=true→inR (Ip d) 0 1000000000 4=true)∧(usU (aF d)=true→xq (ef d)=true)∧(usA (aF d)=true→cL d.2.2.2.2.2.1=true∧cL d.2.2.2.2.2.2.2.1=true)∧(usT (aF d)=true→CG (dTo d)=true):=by
 unfold DL Rx at h
 show (usQ d.2.2.2.1=true→qOk d.2.2.2.2.2.2.1 (d.2.2.2.1==2)=true)∧(usP d.2.2.2.1=true→inR d.2.2.2.2.2.2.2.2.1 0 1000000000 4=true)∧(usU d.2.2.2.1=true→xq d.2.2.2.2.2.2.2.2.2.1=true)∧(usA d.2.2.2.1=true→cL d.2.2.2.2.2.1=true∧cL d.2.2.2.2.2.2.2.1=true)∧(usT d.2.2.2.1=true→CG d.2.2.2.2.2.2.2.2.2.2=true)
 generalize usA d.2.2.2.1=ua at*
 generalize usQ d.2.2.2.1=uq at*
 generalize usP d.2.2.2.1=up at*
 generalize usU d.2.2.2.1=uu at*
 generalize usT d.2.2.2.1=ut at*
 generalize qOk d.2.2.2.2.2.2.1 (d.2.2.2.1==2)=b1 at*
 generalize inR d.2.2.2.2.2.2.2.2.1 0 1000000000 4=b2 at*
 generalize xq d.2.2.2.2.2.2.2.2.2.1=b3 at*
 generalize cL d.2.2.2.2.2.1=b4 at*
 generalize cL d.2.2.2.2.2.2.2.1=b5 at*
 generalize CG d.2.2.2.2.2.2.2.2.2.2=b6 at*
 cases hq:(uq&& !b1)
 ·rw [hq,cond_false] at h
  cases hp:(up&& !b2)
  ·rw [hp,cond_false] at h
   cases hu:(uu&& !b3)
   ·rw [hu,cond_false] at h
    cases ha:(ua&&(!b4|| !b5))
    ·rw [ha,cond_false] at h
     cases ht:(ut&& !b6)
     ·refine ⟨?_, ?_, ?_, ?_, ?_⟩
      ·revert hq;cases uq<;>cases b1<;>simp
      ·revert hp;cases up<;>cases b2<;>simp
      ·revert hu;cases uu<;>cases b3<;>simp
      ·revert ha;cases ua<;>cases b4<;>cases b5<;>simp
      ·revert ht;cases ut<;>cases b6<;>simp
     ·rw [ht,cond_true] at h;cases h
    ·rw [ha,cond_true] at h;cases h
   ·rw [hu,cond_true] at h;cases h
  ·rw [hp,cond_true] at h;cases h
 ·rw [hq,cond_true] at h;cases h
def rA (day:Int) (i:Int) (d:ah) (x:aj):Int×aj:=
 if aF d=3∧ef d<day then (1,x) else if 0≤x.wish then (11,x) else (0,{ x with wish:=i })
def fP (l:List ah) (x:aj):ah:=l.getD x.wish.toNat (0,0,0,0,0,[],(0,0),[],(0,0),0,0)
def bI (l:List ah) (d:ah) (x:aj):Int×aj:=
 if x.wish<0 then (5,x)
 else if dNo (fP l x)≠dTo d then (5,x)
 else if aF d=5 then
  (if aF (fP l x)=2 then (if aO (dQ (fP l x))<x.shp - x.ret then (12,x) else (0,{ x with ord:=aO (dQ (fP l x)),wish:= -1 }))
  else if aF (fP l x)=1 then (0,{ x with ord:=aO (dQ (fP l x)),wish:= -1 })
  else if aF (fP l x)=3 then (0,{ x with due:=ef (fP l x),wish:= -1 })
  else (0,{ x with price:=Ip (fP l x),wish:= -1 }))
 else (0,{ x with wish:= -1 })
def jA (day:Int) (d:ah) (x:aj):Int:=
 if ef d<day then 1 else if 0≤x.wish∨x.opn=0 then 11 else if x.opn<aO (dQ d) then 12 else 0
def BH (d:ah) (x:aj):Int×aj:=
 if 0≤x.wish then (11,x) else if x.ono=0∨x.ono≠dTo d then (5,x) else (0,{ x with ord:=x.shp - x.ret+x.oq,due:=x.ount,ono:=0,oq:=0,ount:=0 })
def bW (ext:Int) (d:ah) (x:aj):Int×aj:=
 if aF d=9 then
  (if x.ord+x.ord*ext / 1000<x.shp - x.ret+aO (dQ d) then (12,x)
  else if 1000000000000000<x.shp+aO (dQ d) then (16,x)
  else (0,{ x with shp:=x.shp+aO (dQ d) }))
 else if aF d=10 then (if x.shp<x.rcv+aO (dQ d) then (12,x) else (0,{ x with rcv:=x.rcv+aO (dQ d) }))
 else (if x.rcv<x.ret+aO (dQ d) then (12,x) else (0,{ x with ret:=x.ret+aO (dQ d) }))
theorem iT {A:List aj} {k:Nat} {x:aj} (h:A[k]? =some x):A.set k x=A:=by
 obtain ⟨h1,h2⟩:=List.getElem?_eq_some_iff.1 h
 rw [← h2];exact List.set_getElem_self h1
theorem nh {A:List aj} {k:Nat} (y:aj) (T:aG) (hT:T=y.tup):List.set (A.map aj.tup) k T=(A.set k y).map aj.tup:=by rw [hT,XS]
theorem Ey {A:List aj} {k:Nat} {x:aj} (h:A[k]? =some x) (T:aG):(List.set (A.map aj.tup) k T)[k]? =some T:=by
 have:=(List.getElem?_eq_some_iff.1 h).1
 rw [ad6 (by simpa using this)]
variable {o:ai} {l:List ah} {m:List (Int×Option Nat)} {ref:List aa} {pts:List ay} {wt:Int} {A:List aj} {k:Nat} {x:aj}
theorem oU (h:A[k]? =some x) {i:Nat} {d:ah} (hd:l[i]? =some d):
 nC (o,l,m,ref,pts,wt,()) (some k) (i:Int) (A.map aj.tup)=some ((rA (cw o) i d x).1,(o,l,m,ref,pts,wt,()),(A.set k (rA (cw o) i d x).2).map aj.tup,()):=by
 unfold nC rA
 dsimp only
 rw [bJ hd,Option.bind_some]
 have hv:(bif d.2.2.2.1==3 then some (decide (d.2.2.2.2.2.2.2.2.2.1<o.2.2.2.1),()) else some (false,()))=some (decide (aF d=3∧ef d<cw o),()):=by
  by_cases h3:d.2.2.2.1=3
  ·rw [show (d.2.2.2.1==3)=true by simp [h3],cond_true]
   simp [aF,h3]
  ·rw [show (d.2.2.2.1==3)=false by simp [h3],cond_false]
   simp [aF,h3]
 rw [hv,Option.bind_some]
 dsimp only
 by_cases h1:aF d=3∧ef d<cw o
 ·rw [decide_eq_true h1,cond_true,if_pos h1,iT h]
 ·rw [afs h1,cond_false,if_neg h1]
  simp only [Option.bind_some,qp h]
  by_cases h2:0≤x.wish
  ·rw [if_pos h2,decide_eq_true (show x.wish≥0 from h2),cond_true,iT h]
  ·rw [if_neg h2,afs (show ¬x.wish≥0 from h2),cond_false,nh { x with wish:=(i:Int) } _ rfl]
structure WOk (l:List ah) (x:aj):Prop where
 low: -1≤x.wish
 kind:0≤x.wish→∃ d,l[x.wish.toNat]? =some d∧aF d≤4
theorem jR {d:ah} (hw:l[x.wish.toNat]? =some d):fP l x=d:=by
 unfold fP
 rw [adV,hw];rfl
theorem JB {d:ah} (h0:0≤x.wish) (hw:l[x.wish.toNat]? =some d):idx l x.wish=some d:=by
 unfold idx;rw [if_pos h0];exact hw
theorem tY (h:A[k]? =some x) (hx:LOk x) (hw:WOk l x) (hl:∀ d,d∈l→bn d=0) (d:ah):
 kO (o,l,m,ref,pts,wt,()) (some k) d (A.map aj.tup)=some ((bI l d x).1,(o,l,m,ref,pts,wt,()),(A.set k (bI l d x).2).map aj.tup,()):=by
 unfold kO bI
 simp only [Option.bind_some,qp h]
 by_cases h1:x.wish<0
 ·rw [if_pos h1,decide_eq_true h1,cond_true,iT h]
 ·rw [if_neg h1,afs h1,cond_false]
  obtain ⟨w,hw1,hw2⟩:=hw.kind (by omega)
  rw [JB (by omega) hw1,jR hw1]
  simp only [Option.bind_some]
  have hwf:=hl w (List.mem_of_getElem? hw1)
  obtain ⟨_,_,_,hk,_,_,hu⟩:=bG hwf
  obtain ⟨uq,_⟩:=cG hu
  have b0:=hx.ret0;have b1:=hx.retr;have b2:=hx.rcvs;have b3:=hx.shp1
  by_cases h2:dNo w=dTo d
  ·rw [if_neg (fun e=>e h2),show (w.2.2.1 != d.2.2.2.2.2.2.2.2.2.2)=false by simpa using h2,cond_false]
   by_cases h3:aF d=5
   ·rw [if_pos h3,show (d.2.2.2.1==5)=true by simpa using h3,cond_true]
    by_cases k2:aF w=2
    ·have hq:=uq (by rw [k2];rfl)
     rw [if_pos k2,show (w.2.2.2.1==2)=true by simpa using k2,cond_true]
     simp only [mo hq,Option.bind_some,Ey h,aeF]
     rw [aA (n:=x.shp - x.ret) (by omega) (by omega)]
     by_cases h4:aO (dQ w)<x.shp - x.ret
     ·rw [if_pos h4,decide_eq_true h4,cond_true,iT h]
     ·rw [if_neg h4,afs h4,cond_false,nh { x with ord:=aO (dQ w),wish:= -1 } _ rfl]
    ·rw [if_neg k2,show (w.2.2.2.1==2)=false by simpa using k2,cond_false]
     by_cases k1:aF w=1
     ·have hq:=uq (by rw [k1];rfl)
      rw [if_pos k1,show (w.2.2.2.1==1)=true by simpa using k1,cond_true]
      simp only [mo hq,Option.bind_some,Ey h,aeF]
      rw [nh { x with ord:=aO (dQ w),wish:= -1 } _ rfl]
     ·rw [if_neg k1,show (w.2.2.2.1==1)=false by simpa using k1,cond_false]
      by_cases k3:aF w=3
      ·rw [if_pos k3,show (w.2.2.2.1==3)=true by simpa using k3,cond_true]
       simp only [Option.bind_some,Ey h,aeF]
       rw [nh { x with due:=ef w,wish:= -1 } _ rfl]
      ·rw [if_neg k3,show (w.2.2.2.1==3)=false by simpa using k3,cond_false]
       simp only [Option.bind_some,Ey h,aeF]
       rw [nh { x with price:=Ip w,wish:= -1 } _ rfl]
   ·rw [if_neg h3,show (d.2.2.2.1==5)=false by simpa using h3,cond_false,nh { x with wish:= -1 } _ rfl]
  ·rw [if_pos h2,show (w.2.2.1 != d.2.2.2.2.2.2.2.2.2.2)=true by simpa using h2,cond_true,iT h]
theorem DC (h:A[k]? =some x) (hx:LOk x) {d:ah} {z:Bool} (hq:qOk (dQ d) z=true):
 jN (o,l,m,ref,pts,wt,()) (some k) d (A.map aj.tup)=some (jA (cw o) d x,(o,l,m,ref,pts,wt,()),A.map aj.tup,()):=by
 unfold jN jA
 simp only [Option.bind_some,qp h,tZ h hx,mo hq]
 by_cases h1:ef d<cw o
 ·rw [if_pos h1,decide_eq_true h1,cond_true]
 ·rw [if_neg h1,afs h1,cond_false]
  by_cases h2:0≤x.wish
  ·rw [if_pos (.inl h2),decide_eq_true (show x.wish≥0 from h2),cond_true]
  ·rw [afs (show ¬x.wish≥0 from h2),cond_false]
   by_cases h3:x.opn=0
   ·rw [if_pos (.inr h3),show (x.opn==0)=true by simp [h3],cond_true]
   ·rw [if_neg (fun e=>e.elim h2 h3),show (x.opn==0)=false by simp [h3],cond_false]
    by_cases h4:x.opn<aO (dQ d)
    ·rw [if_pos h4,decide_eq_true (show aO (dQ d)>x.opn from h4),cond_true]
    ·rw [if_neg h4,afs (show ¬aO (dQ d)>x.opn from h4),cond_false]
theorem Ht (h:A[k]? =some x) (hx:LOk x) (d:ah):
 nB (o,l,m,ref,pts,wt,()) (some k) d (A.map aj.tup)=some ((BH d x).1,(o,l,m,ref,pts,wt,()),(A.set k (BH d x).2).map aj.tup,()):=by
 unfold nB BH
 simp only [Option.bind_some,qp h,Ey h,aeF]
 have b0:=hx.ret0;have b1:=hx.retr;have b2:=hx.rcvs;have b3:=hx.shp1;have b4:=hx.pZ;have b5:=hx.ord1
 by_cases h1:0≤x.wish
 ·rw [if_pos h1,decide_eq_true (show x.wish≥0 from h1),cond_true,iT h]
 ·rw [if_neg h1,afs (show ¬x.wish≥0 from h1),cond_false]
  by_cases h2:x.ono=0
  ·rw [if_pos (.inl h2),show (x.ono==0)=true by simp [h2],cond_true,iT h]
  ·rw [show (x.ono==0)=false by simp [h2],cond_false]
   by_cases h3:x.ono=dTo d
   ·obtain ⟨c1,c2⟩:=hx.off h2
    rw [if_neg (fun e=>e.elim h2 (fun e=>e h3)),show (x.ono != d.2.2.2.2.2.2.2.2.2.2)=false by simpa using h3,cond_false,
     aA (n:=x.shp - x.ret) (by omega) (by omega),aA (n:=x.shp - x.ret+x.oq) (by omega) (by omega),
     nh { x with ord:=x.shp - x.ret+x.oq,due:=x.ount,ono:=0,oq:=0,ount:=0 } _ rfl]
   ·rw [if_pos (.inr h3),show (x.ono != d.2.2.2.2.2.2.2.2.2.2)=true by simpa using h3,cond_true,iT h]
theorem oT (h:A[k]? =some x) (hx:LOk x) (he0:0≤bN o) (he1:bN o≤1000) {d:ah} {z:Bool} (hq:qOk (dQ d) z=true):
 nA (o,l,m,ref,pts,wt,()) (some k) d (A.map aj.tup)=some ((bW (bN o) d x).1,(o,l,m,ref,pts,wt,()),(A.set k (bW (bN o) d x).2).map aj.tup,()):=by
 unfold nA bW
 simp only [Option.bind_some,qp h,Ey h,mo hq]
 have b0:=hx.ret0;have b1:=hx.retr;have b2:=hx.rcvs;have b3:=hx.shp1;have b4:=hx.pZ;have b5:=hx.ord1
 obtain ⟨q0,q1,_⟩:=kC hq
 by_cases k9:aF d=9
 ·rw [if_pos k9,show (d.2.2.2.1==9)=true by simpa using k9,cond_true]
  have m0:0≤x.ord*bN o:=ado b4 he0
  have m1:x.ord*bN o≤x.ord*1000:=adn he1 b4
  have e1:w64 (x.ord*bN o)=x.ord*bN o:=aA (by omega) (by omega)
  have e2:Int.tdiv (x.ord*bN o) 1000=x.ord*bN o / 1000:=ady m0
  have d0:0≤x.ord*bN o / 1000:=Int.ediv_nonneg m0 (by omega)
  have d1:x.ord*bN o / 1000≤x.ord:=by omega
  rw [show w64 (x.ord*o.2.2.2.2.1)=x.ord*bN o from e1,e2,aA (n:=x.ord*bN o / 1000) (by omega) (by omega),aA (n:=x.ord+x.ord*bN o / 1000) (by omega) (by omega),
   aA (n:=x.shp - x.ret) (by omega) (by omega),aA (n:=x.shp - x.ret+aO (dQ d)) (by omega) (by omega),aA (n:=x.shp+aO (dQ d)) (by omega) (by omega)]
  by_cases c1:x.ord+x.ord*bN o / 1000<x.shp - x.ret+aO (dQ d)
  ·rw [if_pos c1,decide_eq_true (show x.shp - x.ret+aO (dQ d)>x.ord+x.ord*bN o / 1000 from c1),cond_true,iT h]
  ·rw [if_neg c1,afs (show ¬x.shp - x.ret+aO (dQ d)>x.ord+x.ord*bN o / 1000 from c1),cond_false]
   by_cases c2:1000000000000000<x.shp+aO (dQ d)
   ·rw [if_pos c2,decide_eq_true (show x.shp+aO (dQ d)>1000000000000000 from c2),cond_true,iT h]
   ·rw [if_neg c2,afs (show ¬x.shp+aO (dQ d)>1000000000000000 from c2),cond_false,nh { x with shp:=x.shp+aO (dQ d) } _ rfl]
 ·rw [if_neg k9,show (d.2.2.2.1==9)=false by simpa using k9,cond_false]
  by_cases k10:aF d=10
  ·rw [if_pos k10,show (d.2.2.2.1==10)=true by simpa using k10,cond_true,aA (n:=x.rcv+aO (dQ d)) (by omega) (by omega)]
   by_cases c1:x.shp<x.rcv+aO (dQ d)
   ·rw [if_pos c1,decide_eq_true (show x.rcv+aO (dQ d)>x.shp from c1),cond_true,iT h]
   ·rw [if_neg c1,afs (show ¬x.rcv+aO (dQ d)>x.shp from c1),cond_false,nh { x with rcv:=x.rcv+aO (dQ d) } _ rfl]
  ·rw [if_neg k10,show (d.2.2.2.1==10)=false by simpa using k10,cond_false,aA (n:=x.ret+aO (dQ d)) (by omega) (by omega)]
   by_cases c1:x.rcv<x.ret+aO (dQ d)
   ·rw [if_pos c1,decide_eq_true (show x.ret+aO (dQ d)>x.rcv from c1),cond_true,iT h]
   ·rw [if_neg c1,afs (show ¬x.ret+aO (dQ d)>x.rcv from c1),cond_false,nh { x with ret:=x.ret+aO (dQ d) } _ rfl]
end Go.Md
namespace Go.Md
open Go.Dn
def aj.clr (x:aj):aj:={ x with ono:=0,oq:=0,ount:=0 }
def bg (o:ai) (l:List ah) (i:Nat) (d:ah) (x:aj):Int×aj:=
 if aF d≤4 then rA (cw o) i d x
 else if aF d≤6 then (if (bI l d x).1=0 then (0,(bI l d x).2.clr) else bI l d x)
 else if aF d=7 then (if jA (cw o) d x=0 then (0,{ x with ono:=dNo d,oq:=aO (dQ d),ount:=ef d }) else (jA (cw o) d x,x))
 else if aF d=8 then BH d x
 else if aF d=9 then (if (bW (bN o) d x).1=0 then (0,(bW (bN o) d x).2.clr) else bW (bN o) d x)
 else bW (bN o) d x
def eC (i:Nat) (d:ah):aj:=⟨cH d,d.2.2.2.2.2.1,d.2.2.2.2.2.2.2.1,0,0,0,0,Ip d,ef d,i,0,0,0⟩
def bS (o:ai) (l:List ah) (i:Nat) (d:ah) (A:List aj):Int×List aj:=
 if aF d=1 then
  (match dw (cH d) A with
  | some _=>(7,A)
  | none=>if 500≤A.length then (16,A) else if ef d<cw o then (1,A) else (0,A++[eC i d]))
 else match dw (cH d) A with
  | none=>(9,A)
  | some k=>match A[k]? with
   | some x=>((bg o l i d x).1,A.set k (bg o l i d x).2)
   | none=>(9,A)
structure Sound (l:List ah) (A:List aj):Prop where
 line:∀ x,x∈A→LOk x∧WOk l x
theorem abX {x:aj} (h:LOk x):LOk x.clr:=⟨h.ret0,h.retr,h.rcvs,h.shp1,h.pZ,h.ord1,fun e=>absurd rfl e⟩
theorem XY {l:List ah} {d:ah} {x:aj} (hx:LOk x) (hw:WOk l x) (hl:∀ d,d∈l→bn d=0):((bI l d x).1=0→LOk (bI l d x).2.clr)∧((bI l d x).1≠0→(bI l d x).2=x)∧((bI l d x).2=x∨(bI l d x).2.wish= -1)∧(bI l d x).2.no=x.no:=by
 have hk:LOk x.clr:=abX hx
 unfold bI
 by_cases h1:x.wish<0
 ·rw [if_pos h1];exact ⟨nofun,fun _=>rfl,.inl rfl,rfl⟩
 rw [if_neg h1]
 obtain ⟨w,hw1,hw2⟩:=hw.kind (by omega)
 rw [jR hw1]
 obtain ⟨_,_,_,_,_,_,hu⟩:=bG (hl w (List.mem_of_getElem? hw1))
 obtain ⟨uq,_⟩:=cG hu
 by_cases h2:dNo w≠dTo d
 ·rw [if_pos h2];exact ⟨nofun,fun _=>rfl,.inl rfl,rfl⟩
 rw [if_neg h2]
 by_cases h3:aF d=5
 ·rw [if_pos h3]
  by_cases k2:aF w=2
  ·rw [if_pos k2]
   obtain ⟨q0,q1,_⟩:=kC (uq (by rw [k2];rfl))
   by_cases h4:aO (dQ w)<x.shp - x.ret
   ·rw [if_pos h4];exact ⟨nofun,fun _=>rfl,.inl rfl,rfl⟩
   ·rw [if_neg h4];exact ⟨fun _=>⟨hx.ret0,hx.retr,hx.rcvs,hx.shp1,q0,q1,fun e=>absurd rfl e⟩,fun e=>absurd rfl e,.inr rfl,rfl⟩
  ·rw [if_neg k2]
   by_cases k1:aF w=1
   ·rw [if_pos k1]
    obtain ⟨q0,q1,_⟩:=kC (uq (by rw [k1];rfl))
    exact ⟨fun _=>⟨hx.ret0,hx.retr,hx.rcvs,hx.shp1,q0,q1,fun e=>absurd rfl e⟩,fun e=>absurd rfl e,.inr rfl,rfl⟩
   ·rw [if_neg k1]
    by_cases k3:aF w=3
    ·rw [if_pos k3];exact ⟨fun _=>⟨hx.ret0,hx.retr,hx.rcvs,hx.shp1,hx.pZ,hx.ord1,fun e=>absurd rfl e⟩,fun e=>absurd rfl e,.inr rfl,rfl⟩
    ·rw [if_neg k3];exact ⟨fun _=>⟨hx.ret0,hx.retr,hx.rcvs,hx.shp1,hx.pZ,hx.ord1,fun e=>absurd rfl e⟩,fun e=>absurd rfl e,.inr rfl,rfl⟩
 ·rw [if_neg h3];exact ⟨fun _=>⟨hx.ret0,hx.retr,hx.rcvs,hx.shp1,hx.pZ,hx.ord1,fun e=>absurd rfl e⟩,fun e=>absurd rfl e,.inr rfl,rfl⟩
theorem aau {ext:Int} {d:ah} {x:aj} {z:Bool} (hx:LOk x) (hq:qOk (dQ d) z=true):((bW ext d x).1=0→LOk (if aF d=9 then (bW ext d x).2.clr else (bW ext d x).2))∧((bW ext d x).1≠0→(bW ext d x).2=x)∧(bW ext d x).2.wish=x.wish∧(bW ext d x).2.no=x.no:=by
 obtain ⟨q0,q1,_⟩:=kC hq
 have b0:=hx.ret0;have b1:=hx.retr;have b2:=hx.rcvs;have b3:=hx.shp1
 unfold bW
 by_cases k9:aF d=9
 ·rw [if_pos k9,if_pos k9]
  split
  ·exact ⟨nofun,fun _=>rfl,rfl,rfl⟩
  ·split
   ·exact ⟨nofun,fun _=>rfl,rfl,rfl⟩
   ·rename_i h1 h2
    exact ⟨fun _=>⟨b0,b1,by show x.rcv≤x.shp+aO (dQ d);omega,by show x.shp+aO (dQ d)≤_;omega,hx.pZ,hx.ord1,fun e=>absurd rfl e⟩,fun e=>absurd rfl e,rfl,rfl⟩
 ·rw [if_neg k9,if_neg k9]
  by_cases k10:aF d=10
  ·rw [if_pos k10]
   split
   ·exact ⟨nofun,fun _=>rfl,rfl,rfl⟩
   ·rename_i h1
    exact ⟨fun _=>⟨b0,by show x.ret≤x.rcv+aO (dQ d);omega,by show x.rcv+aO (dQ d)≤x.shp;omega,b3,hx.pZ,hx.ord1,hx.off⟩,fun e=>absurd rfl e,rfl,rfl⟩
  ·rw [if_neg k10]
   split
   ·exact ⟨nofun,fun _=>rfl,rfl,rfl⟩
   ·rename_i h1
    exact ⟨fun _=>⟨by show 0≤x.ret+aO (dQ d);omega,by show x.ret+aO (dQ d)≤x.rcv;omega,b2,b3,hx.pZ,hx.ord1,fun e=>by
     obtain ⟨c1,c2⟩:=hx.off e
     exact ⟨c1,by show x.oq+x.shp - (x.ret+aO (dQ d))≤x.ord;omega⟩⟩,fun e=>absurd rfl e,rfl,rfl⟩
theorem DO {o:ai} {l:List ah} {i:Nat} {d:ah} {x:aj} (hx:LOk x) (hw:WOk l x) (hl:∀ d,d∈l→bn d=0) (hd:l[i]? =some d):
 LOk (bg o l i d x).2∧WOk l (bg o l i d x).2∧(bg o l i d x).2.no=x.no∧((bg o l i d x).1≠0→(bg o l i d x).2=x):=by
 obtain ⟨_,_,_,hk,_,_,hu⟩:=bG (hl d (List.mem_of_getElem? hd))
 obtain ⟨uq,_⟩:=cG hu
 unfold bg
 by_cases k4:aF d≤4
 ·rw [if_pos k4]
  unfold rA
  split
  ·exact ⟨hx,hw,rfl,fun _=>rfl⟩
  ·split
   ·exact ⟨hx,hw,rfl,fun _=>rfl⟩
   ·refine ⟨⟨hx.ret0,hx.retr,hx.rcvs,hx.shp1,hx.pZ,hx.ord1,hx.off⟩,⟨by show (-1:Int)≤(i:Int);omega,fun _=>⟨d,by show l[((i:Int)).toNat]? =some d;simpa using hd,k4⟩⟩,rfl,fun e=>absurd rfl e⟩
 ·rw [if_neg k4]
  by_cases k6:aF d≤6
  ·rw [if_pos k6]
   obtain ⟨a1,a2,a3,a4⟩:=XY (d:=d) hx hw hl
   split
   ·rename_i e
    refine ⟨a1 e, ?_,a4,fun e=>absurd rfl e⟩
    rcases a3 with a3 | a3
    ·rw [a3];exact ⟨hw.low,hw.kind⟩
    ·exact ⟨by show -1≤(bI l d x).2.wish;omega,fun h=>by have:0≤(bI l d x).2.wish:=h;omega⟩
   ·rename_i e
    rw [a2 e];exact ⟨hx,hw,rfl,fun _=>rfl⟩
  ·rw [if_neg k6]
   by_cases k7:aF d=7
   ·rw [if_pos k7]
    have hq:=uq (by rw [k7];rfl)
    rw [show (aF d==2)=false by rw [k7];rfl] at hq
    obtain ⟨q0,q1,q2⟩:=kC hq
    split
    ·rename_i e
     refine ⟨⟨hx.ret0,hx.retr,hx.rcvs,hx.shp1,hx.pZ,hx.ord1,fun _=>⟨q2 rfl, ?_⟩⟩,⟨hw.low,hw.kind⟩,rfl,fun e=>absurd rfl e⟩
     show aO (dQ d)+x.shp - x.ret≤x.ord
     unfold jA at e
     split at e
     ·cases e
     ·split at e
      ·cases e
      ·split at e
       ·cases e
       ·rename_i h1 h2 h3
        have:=q2 rfl
        unfold aj.opn at h3
        split at h3<;>omega
    ·exact ⟨hx,hw,rfl,fun _=>rfl⟩
   ·rw [if_neg k7]
    by_cases k8:aF d=8
    ·rw [if_pos k8]
     unfold BH
     split
     ·exact ⟨hx,hw,rfl,fun _=>rfl⟩
     ·split
      ·exact ⟨hx,hw,rfl,fun _=>rfl⟩
      ·rename_i h1 h2
       obtain ⟨c1,c2⟩:=hx.off (fun e=>h2 (.inl e))
       have:=hx.ret0;have:=hx.retr;have:=hx.rcvs;have:=hx.ord1
       refine ⟨⟨hx.ret0,hx.retr,hx.rcvs,hx.shp1, ?_, ?_,fun e=>absurd rfl e⟩,⟨hw.low,hw.kind⟩,rfl,fun e=>absurd rfl e⟩
       ·show 0≤x.shp - x.ret+x.oq;omega
       ·show x.shp - x.ret+x.oq≤1000000000000;omega
    ·rw [if_neg k8]
     have hq:=uq (by
      unfold usQ
      refine decide_eq_true ⟨by omega,by omega,by omega,by omega,by omega⟩)
     obtain ⟨a1,a2,a3,a4⟩:=aau (ext:=bN o) hx hq
     by_cases k9:aF d=9
     ·rw [if_pos k9]
      split
      ·rename_i e
       have:=a1 e
       rw [if_pos k9] at this
       exact ⟨this,⟨by show -1≤(bW (bN o) d x).2.wish;rw [a3];exact hw.low,fun h=>by
        have h':0≤(bW (bN o) d x).2.wish:=h
        rw [a3] at h'
        show ∃ d',l[(bW (bN o) d x).2.wish.toNat]? =some d'∧_
        rw [a3];exact hw.kind h'⟩,a4,fun e=>absurd rfl e⟩
      ·rename_i e
       rw [a2 e];exact ⟨hx,hw,rfl,fun _=>rfl⟩
     ·rw [if_neg k9]
      by_cases e:(bW (bN o) d x).1=0
      ·have:=a1 e
       rw [if_neg k9] at this
       exact ⟨this,⟨by rw [a3];exact hw.low,fun h=>by rw [a3] at h ⊢;exact hw.kind h⟩,a4,fun h=>absurd e h⟩
      ·rw [a2 e];exact ⟨hx,hw,rfl,fun _=>rfl⟩
theorem Z2 {l:List ah} {A:List aj} (h:Sound l A) {k:Nat} {y:aj} (h1:LOk y) (h2:WOk l y):Sound l (A.set k y):=⟨fun x hx=>by
 rcases aex hx with hx | hx
 ·exact h.line x hx
 ·subst hx;exact ⟨h1,h2⟩⟩
theorem OS {o:ai} {l:List ah} {i:Nat} {d:ah} {A:List aj} (hA:Sound l A) (hl:∀ d,d∈l→bn d=0) (hd:l[i]? =some d):
 Sound l (bS o l i d A).2∧((bS o l i d A).1≠0→(bS o l i d A).2=A):=by
 unfold bS
 by_cases k1:aF d=1
 ·rw [if_pos k1]
  split
  ·exact ⟨hA,fun _=>rfl⟩
  ·split
   ·exact ⟨hA,fun _=>rfl⟩
   ·split
    ·exact ⟨hA,fun _=>rfl⟩
    ·refine ⟨⟨fun x hx=> ?_⟩,fun e=>absurd rfl e⟩
     rcases aen.1 hx with hx | hx
     ·exact hA.line x hx
     ·simp only [aez] at hx
      subst hx
      exact ⟨⟨by show (0:Int)≤0;omega,by show (0:Int)≤0;omega,by show (0:Int)≤0;omega,by show (0:Int)≤_;omega,by show (0:Int)≤0;omega,by show (0:Int)≤_;omega,fun e=>absurd rfl e⟩,
       ⟨by show (-1:Int)≤(i:Int);omega,fun _=>⟨d,by show l[((i:Int)).toNat]? =some d;simpa using hd,by omega⟩⟩⟩
 ·rw [if_neg k1]
  split
  ·exact ⟨hA,fun _=>rfl⟩
  ·rename_i k hk
   split
   ·rename_i x hx
    obtain ⟨h1,h2⟩:=hA.line x (List.mem_of_getElem? hx)
    obtain ⟨a1,a2,a3,a4⟩:=DO (o:=o) h1 h2 hl hd
    exact ⟨Z2 hA a1 a2,fun e=>by rw [a4 e];exact iT hx⟩
   ·exact ⟨hA,fun _=>rfl⟩
variable {o:ai} {l:List ah} {ref:List aa} {pts:List ay} {wt:Int} {A:List aj}
theorem IP {i:Nat} {d:ah} (hd:l[i]? =some d) (k1:aF d=1):
 oz (o,l,mapOf A,ref,pts,wt,()) (i:Int) (A.map aj.tup)=some ((bS o l i d A).1,(o,l,mapOf (bS o l i d A).2,ref,pts,wt,()),(bS o l i d A).2.map aj.tup,()):=by
 unfold oz bS
 dsimp only
 rw [bJ hd,Option.bind_some,gd,if_pos k1]
 cases hf:dw (cH d) A with
 | some k=>rw [show bR d.2.2.2.2.1 0 A=some k from hf];rfl
 | none=>
  rw [show bR d.2.2.2.2.1 0 A=none from hf]
  dsimp only
  rw [show (!Option.isNone (none:Option Nat))=false from rfl,cond_false]
  by_cases h1:500≤A.length
  ·rw [if_pos h1,decide_eq_true (show ((mapOf A).length:Int)≥500 by rw [Cd];omega),cond_true]
  ·rw [if_neg h1,afs (show ¬((mapOf A).length:Int)≥500 by rw [Cd];omega),cond_false]
   by_cases h2:ef d<cw o
   ·rw [if_pos h2,decide_eq_true h2,cond_true]
   ·rw [if_neg h2,afs h2,cond_false]
    have hs:=Po (cH d) (eC i d) rfl A 0 hf
    rw [aff] at hs
    rw [List.length_map]
    refine congrArg some ?_
    refine Prod.ext rfl (Prod.ext ?_ (Prod.ext ?_ rfl))
    ·exact Prod.ext rfl (Prod.ext rfl (Prod.ext hs rfl))
    ·show List.map aj.tup A++[_]=List.map aj.tup (A++[eC i d])
     rw [aei]
     rfl
end Go.Md
namespace Go.Md
open Go.Dn
theorem Jc {o:ai} {l:List ah} {i:Nat} {d:ah} {A:List aj} (k1:aF d≠1) (hf:dw (cH d) A=none):bS o l i d A=(9,A):=by
 unfold bS;rw [if_neg k1,hf]
theorem LO {o:ai} {l:List ah} {i:Nat} {d:ah} {A:List aj} {k:Nat} {x:aj} (k1:aF d≠1) (hf:dw (cH d) A=some k) (hx:A[k]? =some x):bS o l i d A=((bg o l i d x).1,A.set k (bg o l i d x).2):=by
 unfold bS;rw [if_neg k1,hf];dsimp only;rw [hx]
variable {o:ai} {l:List ah} {ref:List aa} {pts:List ay} {wt:Int} {A:List aj}
theorem SE {k:Nat} (x:aj) (y:aj) (T:aG) (hT:T=y.tup):List.set ((A.set k x).map aj.tup) k T=(A.set k y).map aj.tup:=by
 rw [hT,XS,aeF]
theorem aa8 {onum obuy osel:List UInt8} {oday oext:Int} {olns:List aK} {day byy no line:Int} {art:List UInt8} {q:aa} {unit:List UInt8} {p:aa} {un to:Int} {i:Nat} (he0:0≤oext) (he1:oext≤1000) (hl:∀ d,d∈l→bn d=0)
 (hd:l[i]? =some (day,byy,no,2,line,art,q,unit,p,un,to)) {k:Nat} {x:aj} (hf:bR line 0 A=some k) (hx:A[k]? =some x) (hs:LOk x) (hw:WOk l x):
 aQ ((onum,obuy,osel,oday,oext,olns),l,mapOf A,ref,pts,wt,()) (i:Int) (A.map aj.tup)=some ((bg (onum,obuy,osel,oday,oext,olns) l i (day,byy,no,2,line,art,q,unit,p,un,to) x).1,((onum,obuy,osel,oday,oext,olns),l,mapOf A,ref,pts,wt,()),(A.set k (bg (onum,obuy,osel,oday,oext,olns) l i (day,byy,no,2,line,art,q,unit,p,un,to) x).2).map aj.tup,()):=by
 have hdf:=hl _ (List.mem_of_getElem? hd)
 obtain ⟨_,_,_,_,_,_,hu⟩:=bG hdf
 obtain ⟨uq,_⟩:=cG hu
 have h21:((2:Int)==1)=false:=rfl
 have h22:((2:Int)==2)=true:=rfl
 have h23:((2:Int)==3)=false:=rfl
 have h24:((2:Int)==4)=false:=rfl
 have h25:((2:Int)==5)=false:=rfl
 have h26:((2:Int)==6)=false:=rfl
 have h27:((2:Int)==7)=false:=rfl
 have h28:((2:Int)==8)=false:=rfl
 have h29:((2:Int)==9)=false:=rfl
 unfold aQ
 dsimp only
 rw [bJ hd,Option.bind_some]
 dsimp only
 rw [gd,hf]
 simp only [h21,h22,h23,h24,h25,h26,h27,h28,h29,cond_true,cond_false,aJ,afj,Option.bind_some,oU hx hd]
 rfl
theorem aa9 {onum obuy osel:List UInt8} {oday oext:Int} {olns:List aK} {day byy no line:Int} {art:List UInt8} {q:aa} {unit:List UInt8} {p:aa} {un to:Int} {i:Nat} (he0:0≤oext) (he1:oext≤1000) (hl:∀ d,d∈l→bn d=0)
 (hd:l[i]? =some (day,byy,no,3,line,art,q,unit,p,un,to)) {k:Nat} {x:aj} (hf:bR line 0 A=some k) (hx:A[k]? =some x) (hs:LOk x) (hw:WOk l x):
 aQ ((onum,obuy,osel,oday,oext,olns),l,mapOf A,ref,pts,wt,()) (i:Int) (A.map aj.tup)=some ((bg (onum,obuy,osel,oday,oext,olns) l i (day,byy,no,3,line,art,q,unit,p,un,to) x).1,((onum,obuy,osel,oday,oext,olns),l,mapOf A,ref,pts,wt,()),(A.set k (bg (onum,obuy,osel,oday,oext,olns) l i (day,byy,no,3,line,art,q,unit,p,un,to) x).2).map aj.tup,()):=by
 have hdf:=hl _ (List.mem_of_getElem? hd)
 obtain ⟨_,_,_,_,_,_,hu⟩:=bG hdf
 obtain ⟨uq,_⟩:=cG hu
 have h31:((3:Int)==1)=false:=rfl
 have h32:((3:Int)==2)=false:=rfl
 have h33:((3:Int)==3)=true:=rfl
 have h34:((3:Int)==4)=false:=rfl
 have h35:((3:Int)==5)=false:=rfl
 have h36:((3:Int)==6)=false:=rfl
 have h37:((3:Int)==7)=false:=rfl
 have h38:((3:Int)==8)=false:=rfl
 have h39:((3:Int)==9)=false:=rfl
 unfold aQ
 dsimp only
 rw [bJ hd,Option.bind_some]
 dsimp only
 rw [gd,hf]
 simp only [h31,h32,h33,h34,h35,h36,h37,h38,h39,cond_true,cond_false,aJ,afj,Option.bind_some,oU hx hd]
 rfl
theorem aba {onum obuy osel:List UInt8} {oday oext:Int} {olns:List aK} {day byy no line:Int} {art:List UInt8} {q:aa} {unit:List UInt8} {p:aa} {un to:Int} {i:Nat} (he0:0≤oext) (he1:oext≤1000) (hl:∀ d,d∈l→bn d=0)
 (hd:l[i]? =some (day,byy,no,4,line,art,q,unit,p,un,to)) {k:Nat} {x:aj} (hf:bR line 0 A=some k) (hx:A[k]? =some x) (hs:LOk x) (hw:WOk l x):
 aQ ((onum,obuy,osel,oday,oext,olns),l,mapOf A,ref,pts,wt,()) (i:Int) (A.map aj.tup)=some ((bg (onum,obuy,osel,oday,oext,olns) l i (day,byy,no,4,line,art,q,unit,p,un,to) x).1,((onum,obuy,osel,oday,oext,olns),l,mapOf A,ref,pts,wt,()),(A.set k (bg (onum,obuy,osel,oday,oext,olns) l i (day,byy,no,4,line,art,q,unit,p,un,to) x).2).map aj.tup,()):=by
 have hdf:=hl _ (List.mem_of_getElem? hd)
 obtain ⟨_,_,_,_,_,_,hu⟩:=bG hdf
 obtain ⟨uq,_⟩:=cG hu
 have h41:((4:Int)==1)=false:=rfl
 have h42:((4:Int)==2)=false:=rfl
 have h43:((4:Int)==3)=false:=rfl
 have h44:((4:Int)==4)=true:=rfl
 have h45:((4:Int)==5)=false:=rfl
 have h46:((4:Int)==6)=false:=rfl
 have h47:((4:Int)==7)=false:=rfl
 have h48:((4:Int)==8)=false:=rfl
 have h49:((4:Int)==9)=false:=rfl
 unfold aQ
 dsimp only
 rw [bJ hd,Option.bind_some]
 dsimp only
 rw [gd,hf]
 simp only [h41,h42,h43,h44,h45,h46,h47,h48,h49,cond_true,cond_false,aJ,afj,Option.bind_some,oU hx hd]
 rfl
theorem abb {onum obuy osel:List UInt8} {oday oext:Int} {olns:List aK} {day byy no line:Int} {art:List UInt8} {q:aa} {unit:List UInt8} {p:aa} {un to:Int} {i:Nat} (he0:0≤oext) (he1:oext≤1000) (hl:∀ d,d∈l→bn d=0)
 (hd:l[i]? =some (day,byy,no,5,line,art,q,unit,p,un,to)) {k:Nat} {x:aj} (hf:bR line 0 A=some k) (hx:A[k]? =some x) (hs:LOk x) (hw:WOk l x):
 aQ ((onum,obuy,osel,oday,oext,olns),l,mapOf A,ref,pts,wt,()) (i:Int) (A.map aj.tup)=some ((bg (onum,obuy,osel,oday,oext,olns) l i (day,byy,no,5,line,art,q,unit,p,un,to) x).1,((onum,obuy,osel,oday,oext,olns),l,mapOf A,ref,pts,wt,()),(A.set k (bg (onum,obuy,osel,oday,oext,olns) l i (day,byy,no,5,line,art,q,unit,p,un,to) x).2).map aj.tup,()):=by
 have hdf:=hl _ (List.mem_of_getElem? hd)
 obtain ⟨_,_,_,_,_,_,hu⟩:=bG hdf
 obtain ⟨uq,_⟩:=cG hu
 have h51:((5:Int)==1)=false:=rfl
 have h52:((5:Int)==2)=false:=rfl
 have h53:((5:Int)==3)=false:=rfl
 have h54:((5:Int)==4)=false:=rfl
 have h55:((5:Int)==5)=true:=rfl
 have h56:((5:Int)==6)=false:=rfl
 have h57:((5:Int)==7)=false:=rfl
 have h58:((5:Int)==8)=false:=rfl
 have h59:((5:Int)==9)=false:=rfl
 unfold aQ
 dsimp only
 rw [bJ hd,Option.bind_some]
 dsimp only
 rw [gd,hf]
 simp only [h51,h52,h53,h54,h55,h56,h57,h58,h59,cond_true,cond_false,aJ,afj,Option.bind_some,tY hx hs hw hl,fH]
 have ha:bg (onum,obuy,osel,oday,oext,olns) l i (day,byy,no,5,line,art,q,unit,p,un,to) x=(if (bI l (day,byy,no,5,line,art,q,unit,p,un,to) x).1=0 then (0,(bI l (day,byy,no,5,line,art,q,unit,p,un,to) x).2.clr) else bI l (day,byy,no,5,line,art,q,unit,p,un,to) x):=rfl
 rw [ha]
 by_cases e:(bI l (day,byy,no,5,line,art,q,unit,p,un,to) x).1=0
 ·rw [if_pos e,e]
  simp only [show ((0:Int)==0)=true from rfl,cond_true,Option.bind_some,qp (Nf hx _)]
  simp only [true_or,or_true,afw,cond_true]
  refine congrArg some (Prod.ext rfl (Prod.ext rfl (Prod.ext ?_ rfl)))
  exact SE (bI l (day,byy,no,5,line,art,q,unit,p,un,to) x).2 ((bI l (day,byy,no,5,line,art,q,unit,p,un,to) x).2.clr) _ rfl
 ·rw [if_neg e,cD e,cond_false]
  rfl
theorem abc {onum obuy osel:List UInt8} {oday oext:Int} {olns:List aK} {day byy no line:Int} {art:List UInt8} {q:aa} {unit:List UInt8} {p:aa} {un to:Int} {i:Nat} (he0:0≤oext) (he1:oext≤1000) (hl:∀ d,d∈l→bn d=0)
 (hd:l[i]? =some (day,byy,no,6,line,art,q,unit,p,un,to)) {k:Nat} {x:aj} (hf:bR line 0 A=some k) (hx:A[k]? =some x) (hs:LOk x) (hw:WOk l x):
 aQ ((onum,obuy,osel,oday,oext,olns),l,mapOf A,ref,pts,wt,()) (i:Int) (A.map aj.tup)=some ((bg (onum,obuy,osel,oday,oext,olns) l i (day,byy,no,6,line,art,q,unit,p,un,to) x).1,((onum,obuy,osel,oday,oext,olns),l,mapOf A,ref,pts,wt,()),(A.set k (bg (onum,obuy,osel,oday,oext,olns) l i (day,byy,no,6,line,art,q,unit,p,un,to) x).2).map aj.tup,()):=by
 have hdf:=hl _ (List.mem_of_getElem? hd)
 obtain ⟨_,_,_,_,_,_,hu⟩:=bG hdf
 obtain ⟨uq,_⟩:=cG hu
 have h61:((6:Int)==1)=false:=rfl
 have h62:((6:Int)==2)=false:=rfl
 have h63:((6:Int)==3)=false:=rfl
 have h64:((6:Int)==4)=false:=rfl
 have h65:((6:Int)==5)=false:=rfl
 have h66:((6:Int)==6)=true:=rfl
 have h67:((6:Int)==7)=false:=rfl
 have h68:((6:Int)==8)=false:=rfl
 have h69:((6:Int)==9)=false:=rfl
 unfold aQ
 dsimp only
 rw [bJ hd,Option.bind_some]
 dsimp only
 rw [gd,hf]
 simp only [h61,h62,h63,h64,h65,h66,h67,h68,h69,cond_true,cond_false,aJ,afj,Option.bind_some,tY hx hs hw hl,fH]
 have ha:bg (onum,obuy,osel,oday,oext,olns) l i (day,byy,no,6,line,art,q,unit,p,un,to) x=(if (bI l (day,byy,no,6,line,art,q,unit,p,un,to) x).1=0 then (0,(bI l (day,byy,no,6,line,art,q,unit,p,un,to) x).2.clr) else bI l (day,byy,no,6,line,art,q,unit,p,un,to) x):=rfl
 rw [ha]
 by_cases e:(bI l (day,byy,no,6,line,art,q,unit,p,un,to) x).1=0
 ·rw [if_pos e,e]
  simp only [show ((0:Int)==0)=true from rfl,cond_true,Option.bind_some,qp (Nf hx _)]
  simp only [true_or,or_true,afw,cond_true]
  refine congrArg some (Prod.ext rfl (Prod.ext rfl (Prod.ext ?_ rfl)))
  exact SE (bI l (day,byy,no,6,line,art,q,unit,p,un,to) x).2 ((bI l (day,byy,no,6,line,art,q,unit,p,un,to) x).2.clr) _ rfl
 ·rw [if_neg e,cD e,cond_false]
  rfl
theorem abd {onum obuy osel:List UInt8} {oday oext:Int} {olns:List aK} {day byy no line:Int} {art:List UInt8} {q:aa} {unit:List UInt8} {p:aa} {un to:Int} {i:Nat} (he0:0≤oext) (he1:oext≤1000) (hl:∀ d,d∈l→bn d=0)
 (hd:l[i]? =some (day,byy,no,7,line,art,q,unit,p,un,to)) {k:Nat} {x:aj} (hf:bR line 0 A=some k) (hx:A[k]? =some x) (hs:LOk x) (hw:WOk l x):
 aQ ((onum,obuy,osel,oday,oext,olns),l,mapOf A,ref,pts,wt,()) (i:Int) (A.map aj.tup)=some ((bg (onum,obuy,osel,oday,oext,olns) l i (day,byy,no,7,line,art,q,unit,p,un,to) x).1,((onum,obuy,osel,oday,oext,olns),l,mapOf A,ref,pts,wt,()),(A.set k (bg (onum,obuy,osel,oday,oext,olns) l i (day,byy,no,7,line,art,q,unit,p,un,to) x).2).map aj.tup,()):=by
 have hdf:=hl _ (List.mem_of_getElem? hd)
 obtain ⟨_,_,_,_,_,_,hu⟩:=bG hdf
 obtain ⟨uq,_⟩:=cG hu
 have h71:((7:Int)==1)=false:=rfl
 have h72:((7:Int)==2)=false:=rfl
 have h73:((7:Int)==3)=false:=rfl
 have h74:((7:Int)==4)=false:=rfl
 have h75:((7:Int)==5)=false:=rfl
 have h76:((7:Int)==6)=false:=rfl
 have h77:((7:Int)==7)=true:=rfl
 have h78:((7:Int)==8)=false:=rfl
 have h79:((7:Int)==9)=false:=rfl
 unfold aQ
 dsimp only
 rw [bJ hd,Option.bind_some]
 dsimp only
 rw [gd,hf]
 have hq:qOk q false=true:=uq rfl
 simp only [h71,h72,h73,h74,h75,h76,h77,h78,h79,cond_true,cond_false,aJ,afj,Option.bind_some,DC hx hs (d:=(day,byy,no,7,line,art,q,unit,p,un,to)) hq,fH]
 have ha:bg (onum,obuy,osel,oday,oext,olns) l i (day,byy,no,7,line,art,q,unit,p,un,to) x=(if jA oday (day,byy,no,7,line,art,q,unit,p,un,to) x=0 then (0,{ x with ono:=no,oq:=aO q,ount:=un }) else (jA oday (day,byy,no,7,line,art,q,unit,p,un,to) x,x)):=rfl
 rw [ha]
 by_cases e:jA oday (day,byy,no,7,line,art,q,unit,p,un,to) x=0
 ·rw [if_pos e,show jA (cw (onum,obuy,osel,oday,oext,olns)) (day,byy,no,7,line,art,q,unit,p,un,to) x=0 from e]
  simp only [show ((0:Int)==0)=true from rfl,cond_true,Option.bind_some,qp hx]
  simp only [true_or,or_true,afw,cond_true]
  rw [show gB (q.1,q.2)=some (aO q,()) from mo hq,Option.bind_some]
  simp only [Ey hx,Option.bind_some,aeF]
  rw [nh { x with ono:=no,oq:=aO q,ount:=un } _ rfl]
 ·rw [if_neg e,show (jA (cw (onum,obuy,osel,oday,oext,olns)) (day,byy,no,7,line,art,q,unit,p,un,to) x==0)=false from cD e,cond_false,iT hx]
  rfl
theorem abe {onum obuy osel:List UInt8} {oday oext:Int} {olns:List aK} {day byy no line:Int} {art:List UInt8} {q:aa} {unit:List UInt8} {p:aa} {un to:Int} {i:Nat} (he0:0≤oext) (he1:oext≤1000) (hl:∀ d,d∈l→bn d=0)
 (hd:l[i]? =some (day,byy,no,8,line,art,q,unit,p,un,to)) {k:Nat} {x:aj} (hf:bR line 0 A=some k) (hx:A[k]? =some x) (hs:LOk x) (hw:WOk l x):
 aQ ((onum,obuy,osel,oday,oext,olns),l,mapOf A,ref,pts,wt,()) (i:Int) (A.map aj.tup)=some ((bg (onum,obuy,osel,oday,oext,olns) l i (day,byy,no,8,line,art,q,unit,p,un,to) x).1,((onum,obuy,osel,oday,oext,olns),l,mapOf A,ref,pts,wt,()),(A.set k (bg (onum,obuy,osel,oday,oext,olns) l i (day,byy,no,8,line,art,q,unit,p,un,to) x).2).map aj.tup,()):=by
 have hdf:=hl _ (List.mem_of_getElem? hd)
 obtain ⟨_,_,_,_,_,_,hu⟩:=bG hdf
 obtain ⟨uq,_⟩:=cG hu
 have h81:((8:Int)==1)=false:=rfl
 have h82:((8:Int)==2)=false:=rfl
 have h83:((8:Int)==3)=false:=rfl
 have h84:((8:Int)==4)=false:=rfl
 have h85:((8:Int)==5)=false:=rfl
 have h86:((8:Int)==6)=false:=rfl
 have h87:((8:Int)==7)=false:=rfl
 have h88:((8:Int)==8)=true:=rfl
 have h89:((8:Int)==9)=false:=rfl
 unfold aQ
 dsimp only
 rw [bJ hd,Option.bind_some]
 dsimp only
 rw [gd,hf]
 simp only [h81,h82,h83,h84,h85,h86,h87,h88,h89,cond_true,cond_false,aJ,afj,Option.bind_some,Ht hx hs]
 rfl
theorem abf {onum obuy osel:List UInt8} {oday oext:Int} {olns:List aK} {day byy no line:Int} {art:List UInt8} {q:aa} {unit:List UInt8} {p:aa} {un to:Int} {i:Nat} (he0:0≤oext) (he1:oext≤1000) (hl:∀ d,d∈l→bn d=0)
 (hd:l[i]? =some (day,byy,no,9,line,art,q,unit,p,un,to)) {k:Nat} {x:aj} (hf:bR line 0 A=some k) (hx:A[k]? =some x) (hs:LOk x) (hw:WOk l x):
 aQ ((onum,obuy,osel,oday,oext,olns),l,mapOf A,ref,pts,wt,()) (i:Int) (A.map aj.tup)=some ((bg (onum,obuy,osel,oday,oext,olns) l i (day,byy,no,9,line,art,q,unit,p,un,to) x).1,((onum,obuy,osel,oday,oext,olns),l,mapOf A,ref,pts,wt,()),(A.set k (bg (onum,obuy,osel,oday,oext,olns) l i (day,byy,no,9,line,art,q,unit,p,un,to) x).2).map aj.tup,()):=by
 have hdf:=hl _ (List.mem_of_getElem? hd)
 obtain ⟨_,_,_,_,_,_,hu⟩:=bG hdf
 obtain ⟨uq,_⟩:=cG hu
 have h91:((9:Int)==1)=false:=rfl
 have h92:((9:Int)==2)=false:=rfl
 have h93:((9:Int)==3)=false:=rfl
 have h94:((9:Int)==4)=false:=rfl
 have h95:((9:Int)==5)=false:=rfl
 have h96:((9:Int)==6)=false:=rfl
 have h97:((9:Int)==7)=false:=rfl
 have h98:((9:Int)==8)=false:=rfl
 have h99:((9:Int)==9)=true:=rfl
 unfold aQ
 dsimp only
 rw [bJ hd,Option.bind_some]
 dsimp only
 rw [gd,hf]
 have hq:qOk q false=true:=uq rfl
 simp only [h91,h92,h93,h94,h95,h96,h97,h98,h99,cond_true,cond_false,aJ,afj,Option.bind_some,oT hx hs (o:=(onum,obuy,osel,oday,oext,olns)) he0 he1 (d:=(day,byy,no,9,line,art,q,unit,p,un,to)) hq,fH]
 have ha:bg (onum,obuy,osel,oday,oext,olns) l i (day,byy,no,9,line,art,q,unit,p,un,to) x=(if (bW oext (day,byy,no,9,line,art,q,unit,p,un,to) x).1=0 then (0,(bW oext (day,byy,no,9,line,art,q,unit,p,un,to) x).2.clr) else bW oext (day,byy,no,9,line,art,q,unit,p,un,to) x):=rfl
 rw [ha]
 by_cases e:(bW oext (day,byy,no,9,line,art,q,unit,p,un,to) x).1=0
 ·rw [if_pos e,show (bW (bN (onum,obuy,osel,oday,oext,olns)) (day,byy,no,9,line,art,q,unit,p,un,to) x).1=0 from e]
  simp only [show ((0:Int)==0)=true from rfl,cond_true,Option.bind_some,qp (Nf hx _)]
  simp only [true_or,or_true,afw,cond_true]
  refine congrArg some (Prod.ext rfl (Prod.ext rfl (Prod.ext ?_ rfl)))
  exact SE (bW oext (day,byy,no,9,line,art,q,unit,p,un,to) x).2 ((bW oext (day,byy,no,9,line,art,q,unit,p,un,to) x).2.clr) _ rfl
 ·rw [if_neg e,show ((bW (bN (onum,obuy,osel,oday,oext,olns)) (day,byy,no,9,line,art,q,unit,p,un,to) x).1==0)=false from cD e,cond_false]
  rfl
theorem aai {onum obuy osel:List UInt8} {oday oext:Int} {olns:List aK} {day byy no line:Int} {art:List UInt8} {q:aa} {unit:List UInt8} {p:aa} {un to:Int} {i:Nat} (he0:0≤oext) (he1:oext≤1000) (hl:∀ d,d∈l→bn d=0)
 (hd:l[i]? =some (day,byy,no,10,line,art,q,unit,p,un,to)) {k:Nat} {x:aj} (hf:bR line 0 A=some k) (hx:A[k]? =some x) (hs:LOk x) (hw:WOk l x):
 aQ ((onum,obuy,osel,oday,oext,olns),l,mapOf A,ref,pts,wt,()) (i:Int) (A.map aj.tup)=some ((bg (onum,obuy,osel,oday,oext,olns) l i (day,byy,no,10,line,art,q,unit,p,un,to) x).1,((onum,obuy,osel,oday,oext,olns),l,mapOf A,ref,pts,wt,()),(A.set k (bg (onum,obuy,osel,oday,oext,olns) l i (day,byy,no,10,line,art,q,unit,p,un,to) x).2).map aj.tup,()):=by
 have hdf:=hl _ (List.mem_of_getElem? hd)
 obtain ⟨_,_,_,_,_,_,hu⟩:=bG hdf
 obtain ⟨uq,_⟩:=cG hu
 have h101:((10:Int)==1)=false:=rfl
 have h102:((10:Int)==2)=false:=rfl
 have h103:((10:Int)==3)=false:=rfl
 have h104:((10:Int)==4)=false:=rfl
 have h105:((10:Int)==5)=false:=rfl
 have h106:((10:Int)==6)=false:=rfl
 have h107:((10:Int)==7)=false:=rfl
 have h108:((10:Int)==8)=false:=rfl
 have h109:((10:Int)==9)=false:=rfl
 unfold aQ
 dsimp only
 rw [bJ hd,Option.bind_some]
 dsimp only
 rw [gd,hf]
 have hq:qOk q false=true:=uq rfl
 simp only [h101,h102,h103,h104,h105,h106,h107,h108,h109,cond_true,cond_false,aJ,afj,Option.bind_some,oT hx hs (o:=(onum,obuy,osel,oday,oext,olns)) he0 he1 (d:=(day,byy,no,10,line,art,q,unit,p,un,to)) hq,fH]
 have ha:bg (onum,obuy,osel,oday,oext,olns) l i (day,byy,no,10,line,art,q,unit,p,un,to) x=bW oext (day,byy,no,10,line,art,q,unit,p,un,to) x:=rfl
 rw [ha]
 by_cases e:(bW oext (day,byy,no,10,line,art,q,unit,p,un,to) x).1=0
 ·rw [show ((bW (bN (onum,obuy,osel,oday,oext,olns)) (day,byy,no,10,line,art,q,unit,p,un,to) x).1==0)=true by show ((bW oext (day,byy,no,10,line,art,q,unit,p,un,to) x).1==0)=true;rw [e];rfl]
  rfl
 ·rw [show ((bW (bN (onum,obuy,osel,oday,oext,olns)) (day,byy,no,10,line,art,q,unit,p,un,to) x).1==0)=false from cD e]
  rfl
theorem aaj {onum obuy osel:List UInt8} {oday oext:Int} {olns:List aK} {day byy no line:Int} {art:List UInt8} {q:aa} {unit:List UInt8} {p:aa} {un to:Int} {i:Nat} (he0:0≤oext) (he1:oext≤1000) (hl:∀ d,d∈l→bn d=0)
 (hd:l[i]? =some (day,byy,no,11,line,art,q,unit,p,un,to)) {k:Nat} {x:aj} (hf:bR line 0 A=some k) (hx:A[k]? =some x) (hs:LOk x) (hw:WOk l x):
 aQ ((onum,obuy,osel,oday,oext,olns),l,mapOf A,ref,pts,wt,()) (i:Int) (A.map aj.tup)=some ((bg (onum,obuy,osel,oday,oext,olns) l i (day,byy,no,11,line,art,q,unit,p,un,to) x).1,((onum,obuy,osel,oday,oext,olns),l,mapOf A,ref,pts,wt,()),(A.set k (bg (onum,obuy,osel,oday,oext,olns) l i (day,byy,no,11,line,art,q,unit,p,un,to) x).2).map aj.tup,()):=by
 have hdf:=hl _ (List.mem_of_getElem? hd)
 obtain ⟨_,_,_,_,_,_,hu⟩:=bG hdf
 obtain ⟨uq,_⟩:=cG hu
 have h111:((11:Int)==1)=false:=rfl
 have h112:((11:Int)==2)=false:=rfl
 have h113:((11:Int)==3)=false:=rfl
 have h114:((11:Int)==4)=false:=rfl
 have h115:((11:Int)==5)=false:=rfl
 have h116:((11:Int)==6)=false:=rfl
 have h117:((11:Int)==7)=false:=rfl
 have h118:((11:Int)==8)=false:=rfl
 have h119:((11:Int)==9)=false:=rfl
 unfold aQ
 dsimp only
 rw [bJ hd,Option.bind_some]
 dsimp only
 rw [gd,hf]
 have hq:qOk q false=true:=uq rfl
 simp only [h111,h112,h113,h114,h115,h116,h117,h118,h119,cond_true,cond_false,aJ,afj,Option.bind_some,oT hx hs (o:=(onum,obuy,osel,oday,oext,olns)) he0 he1 (d:=(day,byy,no,11,line,art,q,unit,p,un,to)) hq,fH]
 have ha:bg (onum,obuy,osel,oday,oext,olns) l i (day,byy,no,11,line,art,q,unit,p,un,to) x=bW oext (day,byy,no,11,line,art,q,unit,p,un,to) x:=rfl
 rw [ha]
 by_cases e:(bW oext (day,byy,no,11,line,art,q,unit,p,un,to) x).1=0
 ·rw [show ((bW (bN (onum,obuy,osel,oday,oext,olns)) (day,byy,no,11,line,art,q,unit,p,un,to) x).1==0)=true by show ((bW oext (day,byy,no,11,line,art,q,unit,p,un,to) x).1==0)=true;rw [e];rfl]
  rfl
 ·rw [show ((bW (bN (onum,obuy,osel,oday,oext,olns)) (day,byy,no,11,line,art,q,unit,p,un,to) x).1==0)=false from cD e]
  rfl
theorem Hs {i:Nat} {d:ah} (hA:Sound l A) (hl:∀ d,d∈l→bn d=0) (hd:l[i]? =some d) (he0:0≤bN o) (he1:bN o≤1000):
 aQ (o,l,mapOf A,ref,pts,wt,()) (i:Int) (A.map aj.tup)=some ((bS o l i d A).1,(o,l,mapOf (bS o l i d A).2,ref,pts,wt,()),(bS o l i d A).2.map aj.tup,()):=by
 obtain ⟨_,_,_,hk,_,_,_⟩:=bG (hl d (List.mem_of_getElem? hd))
 by_cases k1:aF d=1
 ·unfold aQ
  dsimp only
  rw [bJ hd,Option.bind_some,show (d.2.2.2.1==1)=true by simpa using k1,cond_true]
  rw [IP hd k1,Option.bind_some]
 ·cases hf:dw (cH d) A with
  | none=>
   rw [Jc k1 hf]
   unfold aQ
   dsimp only
   rw [bJ hd,Option.bind_some,show (d.2.2.2.1==1)=false by simpa using k1,cond_false]
   rw [gd,show bR d.2.2.2.2.1 0 A=none from hf]
   rfl
  | some k=>
   obtain ⟨x,hx,hxn⟩:=qM hf
   rw [LO k1 hf hx]
   obtain ⟨hs,hw⟩:=hA.line x (List.mem_of_getElem? hx)
   have hm:mapOf (A.set k (bg o l i d x).2)=mapOf A:=ZE A 0 (fun z hz=>by
    rw [hx] at hz;cases hz
    exact (DO (o:=o) hs hw hl hd).2.2.1)
   rw [hm]
   obtain ⟨onum,obuy,osel,oday,oext,olns⟩:=o
   obtain ⟨day,byy,no,kk,line,art,q,unit,p,un,to⟩:=d
   have hk':kk=2∨kk=3∨kk=4∨kk=5∨kk=6∨kk=7∨kk=8∨kk=9∨kk=10∨kk=11:=by
    have h1:1≤kk∧kk≤11:=hk
    have h2:kk≠1:=k1
    omega
   rcases hk' with rfl | rfl | rfl | rfl | rfl | rfl | rfl | rfl | rfl | rfl
   ·exact aa8 he0 he1 hl hd hf hx hs hw
   ·exact aa9 he0 he1 hl hd hf hx hs hw
   ·exact aba he0 he1 hl hd hf hx hs hw
   ·exact abb he0 he1 hl hd hf hx hs hw
   ·exact abc he0 he1 hl hd hf hx hs hw
   ·exact abd he0 he1 hl hd hf hx hs hw
   ·exact abe he0 he1 hl hd hf hx hs hw
   ·exact abf he0 he1 hl hd hf hx hs hw
   ·exact aai he0 he1 hl hd hf hx hs hw
   ·exact aaj he0 he1 hl hd hf hx hs hw
end Go.Md
