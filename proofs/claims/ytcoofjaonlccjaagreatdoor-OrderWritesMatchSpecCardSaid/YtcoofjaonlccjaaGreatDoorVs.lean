/-
  Plain facts: deeds and orders checked; what a deed does with a line. No condition.
-/
import Derived.Test.YtcoofjaonlccjaaGreatDoorVo
import Derived.Test.YtcoofjaonlccjaaGreatDoorVr
set_option linter.all false
namespace Go.Md
open Go.Dn
theorem eZ (k:Int):mX k=some (decide (k=5∨k=6∨k=7∨k=9),()):=by
 unfold mX
 by_cases h5:k=5
 ·subst h5;rfl
 by_cases h6:k=6
 ·subst h6;rfl
 by_cases h7:k=7
 ·subst h7;rfl
 by_cases h9:k=9
 ·subst h9;rfl
 have e5:(k==5)=false:=by simp [h5]
 have e6:(k==6)=false:=by simp [h6]
 have e7:(k==7)=false:=by simp [h7]
 have e9:(k==9)=false:=by simp [h9]
 simp only [e5,e6,e7,e9,cond_false]
 simp [h5,h6,h7,h9]
def usA (k:Int):Bool:=decide (k=1)
def usQ (k:Int):Bool:=decide (k≠3∧k≠4∧k≠5∧k≠6∧k≠8)
def usP (k:Int):Bool:=decide (k=1∨k=4)
def usU (k:Int):Bool:=decide (k=1∨k=3∨k=7)
def usT (k:Int):Bool:=decide (k=5∨k=6∨k=8)
theorem N9 (k:Int):se k=some ((usA k,usQ k,usA k,usP k,usU k,usT k),()):=by
 unfold se
 by_cases h1:k=1
 ·subst h1;rfl
 by_cases h3:k=3
 ·subst h3;rfl
 by_cases h4:k=4
 ·subst h4;rfl
 by_cases h5:k=5
 ·subst h5;rfl
 by_cases h6:k=6
 ·subst h6;rfl
 by_cases h7:k=7
 ·subst h7;rfl
 by_cases h8:k=8
 ·subst h8;rfl
 have e1:(k==1)=false:=by simp [h1]
 have e3:(k==3)=false:=by simp [h3]
 have e4:(k==4)=false:=by simp [h4]
 have e5:(k==5)=false:=by simp [h5]
 have e6:(k==6)=false:=by simp [h6]
 have e8:(k==8)=false:=by simp [h8]
 have e7:(k==7)=false:=by simp [h7]
 simp only [e1,e3,e4,e5,e6,e7,e8,cond_false]
 simp [h1,h3,h4,h5,h6,h7,h8,usA,usQ,usP,usU,usT]
def w8 (n:Int):Bool:=decide (1≤n∧n≤3652059)
def AM (n:Int):Bool:=decide (1≤n∧n≤2000)
def OA (ua uq up uu ut k2:Bool) (art:List UInt8) (q:ah) (unit:List UInt8) (p:ah) (un to:Int):Int:=
 bif uq&& !qOk q k2 then 1
 else bif up&& !inR p 0 1000000000 4 then 1
 else bif uu&& !w8 un then 1
 else bif ua&&(!cB art|| !cB unit) then 5
 else bif ut&& !AM to then 1
 else bif (!ua&& !(art==[]))||((!uq&& !(q.1==0&&q.2==0))||((!ua&& !(unit==[]))||((!up&& !(p.1==0&&p.2==0))||((!uu&&un != 0)||(!ut&&to != 0))))) then 3
 else 0
def BK (d:aa):Int:=
 OA (usA d.2.2.2.1) (usQ d.2.2.2.1) (usP d.2.2.2.1) (usU d.2.2.2.1) (usT d.2.2.2.1) (d.2.2.2.1==2) d.2.2.2.2.2.1 d.2.2.2.2.2.2.1 d.2.2.2.2.2.2.2.1 d.2.2.2.2.2.2.2.2.1 d.2.2.2.2.2.2.2.2.2.1 d.2.2.2.2.2.2.2.2.2.2
theorem Q2 (n:Int):mS n=some (w8 n,()):=rV n
theorem Xw (n:Int):dF n 1 2000=some (!AM n,()):=by
 rw [iU]
 congr 2
 unfold AM
 by_cases h1:1≤n<;>by_cases h2:n≤2000<;>simp [h1,h2]<;>omega
theorem Kc (d:aa):rf d=some (BK d,()):=by
 obtain ⟨day,byy,no,k,line,art,⟨q1,q2⟩,unit,⟨p1,p2⟩,un,to⟩:=d
 unfold rf BK
 dsimp only
 rw [N9,Option.bind_some]
 dsimp only
 rw [uG]
 simp only [yp,Q2,AN,Xw,Option.bind_some]
 generalize usA k=ua
 generalize usQ k=uq
 generalize usP k=up
 generalize usU k=uu
 generalize usT k=ut
 generalize (k==2)=k2
 unfold OA
 generalize qOk (q1,q2) k2=b1
 have step1:∀ (A:Option ((Int×Unit) ⊕ (Int×Int×Int×Int×Int×(List UInt8)×Int×Int×(List UInt8)×Int×Int×Int×Int×Bool×Bool×Bool×Bool×Bool×Bool×Unit))) (v:Int×Int×Int×Int×Int×(List UInt8)×Int×Int×(List UInt8)×Int×Int×Int×Int×Bool×Bool×Bool×Bool×Bool×Bool×Unit) (K:(Int×Int×Int×Int×Int×(List UInt8)×Int×Int×(List UInt8)×Int×Int×Int×Int×Bool×Bool×Bool×Bool×Bool×Bool×Unit)→Option (Int×Unit)),
  A=some (.inr v)→aL A K=K v:=fun A v K h=>by rw [h];rfl
 cases uq
 ·refine Eq.trans (step1 _ _ _ (by exact rfl)) ?_
  cases up
  ·refine Eq.trans (step1 _ _ _ (by exact rfl)) ?_
   dsimp only
   generalize w8 un=b3
   generalize cB art=b4
   generalize cB unit=b5
   generalize AM to=b6
   generalize (art==[])=c1
   generalize (q1==0)=c2
   generalize (q2==0)=c3
   generalize (unit==[])=c4
   generalize (p1==0)=c5
   generalize (p2==0)=c6
   generalize (un != 0)=c7
   generalize (to != 0)=c8
   cases uu
   ·cases ua
    ·cases ut
     ·cases c1<;>first | rfl | (cases c4<;>first | rfl | (cases c7<;>first | rfl | (cases c8<;>first | rfl | (cases c2<;>first | rfl | (cases c3<;>first | rfl | (cases c5<;>first | rfl | (cases c6<;>rfl)))))))
     ·cases b6
      ·rfl
      ·cases c1<;>first | rfl | (cases c4<;>first | rfl | (cases c7<;>first | rfl | (cases c8<;>first | rfl | (cases c2<;>first | rfl | (cases c3<;>first | rfl | (cases c5<;>first | rfl | (cases c6<;>rfl)))))))
    ·cases b4
     ·rfl
     ·cases b5
      ·rfl
      ·cases ut
       ·cases c1<;>first | rfl | (cases c4<;>first | rfl | (cases c7<;>first | rfl | (cases c8<;>first | rfl | (cases c2<;>first | rfl | (cases c3<;>first | rfl | (cases c5<;>first | rfl | (cases c6<;>rfl)))))))
       ·cases b6
        ·rfl
        ·cases c1<;>first | rfl | (cases c4<;>first | rfl | (cases c7<;>first | rfl | (cases c8<;>first | rfl | (cases c2<;>first | rfl | (cases c3<;>first | rfl | (cases c5<;>first | rfl | (cases c6<;>rfl)))))))
   ·cases b3
    ·rfl
    ·cases ua
     ·cases ut
      ·cases c1<;>first | rfl | (cases c4<;>first | rfl | (cases c7<;>first | rfl | (cases c8<;>first | rfl | (cases c2<;>first | rfl | (cases c3<;>first | rfl | (cases c5<;>first | rfl | (cases c6<;>rfl)))))))
      ·cases b6
       ·rfl
       ·cases c1<;>first | rfl | (cases c4<;>first | rfl | (cases c7<;>first | rfl | (cases c8<;>first | rfl | (cases c2<;>first | rfl | (cases c3<;>first | rfl | (cases c5<;>first | rfl | (cases c6<;>rfl)))))))
     ·cases b4
      ·rfl
      ·cases b5
       ·rfl
       ·cases ut
        ·cases c1<;>first | rfl | (cases c4<;>first | rfl | (cases c7<;>first | rfl | (cases c8<;>first | rfl | (cases c2<;>first | rfl | (cases c3<;>first | rfl | (cases c5<;>first | rfl | (cases c6<;>rfl)))))))
        ·cases b6
         ·rfl
         ·cases c1<;>first | rfl | (cases c4<;>first | rfl | (cases c7<;>first | rfl | (cases c8<;>first | rfl | (cases c2<;>first | rfl | (cases c3<;>first | rfl | (cases c5<;>first | rfl | (cases c6<;>rfl)))))))
  ·dsimp only
   generalize inR (p1,p2) 0 1000000000 4=b2
   cases b2
   ·rfl
   ·refine Eq.trans (step1 _ _ _ (by exact rfl)) ?_
    dsimp only
    generalize w8 un=b3
    generalize cB art=b4
    generalize cB unit=b5
    generalize AM to=b6
    generalize (art==[])=c1
    generalize (q1==0)=c2
    generalize (q2==0)=c3
    generalize (unit==[])=c4
    generalize (p1==0)=c5
    generalize (p2==0)=c6
    generalize (un != 0)=c7
    generalize (to != 0)=c8
    cases uu
    ·cases ua
     ·cases ut
      ·cases c1<;>first | rfl | (cases c4<;>first | rfl | (cases c7<;>first | rfl | (cases c8<;>first | rfl | (cases c2<;>first | rfl | (cases c3<;>first | rfl | (cases c5<;>first | rfl | (cases c6<;>rfl)))))))
      ·cases b6
       ·rfl
       ·cases c1<;>first | rfl | (cases c4<;>first | rfl | (cases c7<;>first | rfl | (cases c8<;>first | rfl | (cases c2<;>first | rfl | (cases c3<;>first | rfl | (cases c5<;>first | rfl | (cases c6<;>rfl)))))))
     ·cases b4
      ·rfl
      ·cases b5
       ·rfl
       ·cases ut
        ·cases c1<;>first | rfl | (cases c4<;>first | rfl | (cases c7<;>first | rfl | (cases c8<;>first | rfl | (cases c2<;>first | rfl | (cases c3<;>first | rfl | (cases c5<;>first | rfl | (cases c6<;>rfl)))))))
        ·cases b6
         ·rfl
         ·cases c1<;>first | rfl | (cases c4<;>first | rfl | (cases c7<;>first | rfl | (cases c8<;>first | rfl | (cases c2<;>first | rfl | (cases c3<;>first | rfl | (cases c5<;>first | rfl | (cases c6<;>rfl)))))))
    ·cases b3
     ·rfl
     ·cases ua
      ·cases ut
       ·cases c1<;>first | rfl | (cases c4<;>first | rfl | (cases c7<;>first | rfl | (cases c8<;>first | rfl | (cases c2<;>first | rfl | (cases c3<;>first | rfl | (cases c5<;>first | rfl | (cases c6<;>rfl)))))))
       ·cases b6
        ·rfl
        ·cases c1<;>first | rfl | (cases c4<;>first | rfl | (cases c7<;>first | rfl | (cases c8<;>first | rfl | (cases c2<;>first | rfl | (cases c3<;>first | rfl | (cases c5<;>first | rfl | (cases c6<;>rfl)))))))
      ·cases b4
       ·rfl
       ·cases b5
        ·rfl
        ·cases ut
         ·cases c1<;>first | rfl | (cases c4<;>first | rfl | (cases c7<;>first | rfl | (cases c8<;>first | rfl | (cases c2<;>first | rfl | (cases c3<;>first | rfl | (cases c5<;>first | rfl | (cases c6<;>rfl)))))))
         ·cases b6
          ·rfl
          ·cases c1<;>first | rfl | (cases c4<;>first | rfl | (cases c7<;>first | rfl | (cases c8<;>first | rfl | (cases c2<;>first | rfl | (cases c3<;>first | rfl | (cases c5<;>first | rfl | (cases c6<;>rfl)))))))
 ·cases b1
  ·rfl
  ·refine Eq.trans (step1 _ _ _ (by exact rfl)) ?_
   cases up
   ·refine Eq.trans (step1 _ _ _ (by exact rfl)) ?_
    dsimp only
    generalize w8 un=b3
    generalize cB art=b4
    generalize cB unit=b5
    generalize AM to=b6
    generalize (art==[])=c1
    generalize (q1==0)=c2
    generalize (q2==0)=c3
    generalize (unit==[])=c4
    generalize (p1==0)=c5
    generalize (p2==0)=c6
    generalize (un != 0)=c7
    generalize (to != 0)=c8
    cases uu
    ·cases ua
     ·cases ut
      ·cases c1<;>first | rfl | (cases c4<;>first | rfl | (cases c7<;>first | rfl | (cases c8<;>first | rfl | (cases c2<;>first | rfl | (cases c3<;>first | rfl | (cases c5<;>first | rfl | (cases c6<;>rfl)))))))
      ·cases b6
       ·rfl
       ·cases c1<;>first | rfl | (cases c4<;>first | rfl | (cases c7<;>first | rfl | (cases c8<;>first | rfl | (cases c2<;>first | rfl | (cases c3<;>first | rfl | (cases c5<;>first | rfl | (cases c6<;>rfl)))))))
     ·cases b4
      ·rfl
      ·cases b5
       ·rfl
       ·cases ut
        ·cases c1<;>first | rfl | (cases c4<;>first | rfl | (cases c7<;>first | rfl | (cases c8<;>first | rfl | (cases c2<;>first | rfl | (cases c3<;>first | rfl | (cases c5<;>first | rfl | (cases c6<;>rfl)))))))
        ·cases b6
         ·rfl
         ·cases c1<;>first | rfl | (cases c4<;>first | rfl | (cases c7<;>first | rfl | (cases c8<;>first | rfl | (cases c2<;>first | rfl | (cases c3<;>first | rfl | (cases c5<;>first | rfl | (cases c6<;>rfl)))))))
    ·cases b3
     ·rfl
     ·cases ua
      ·cases ut
       ·cases c1<;>first | rfl | (cases c4<;>first | rfl | (cases c7<;>first | rfl | (cases c8<;>first | rfl | (cases c2<;>first | rfl | (cases c3<;>first | rfl | (cases c5<;>first | rfl | (cases c6<;>rfl)))))))
       ·cases b6
        ·rfl
        ·cases c1<;>first | rfl | (cases c4<;>first | rfl | (cases c7<;>first | rfl | (cases c8<;>first | rfl | (cases c2<;>first | rfl | (cases c3<;>first | rfl | (cases c5<;>first | rfl | (cases c6<;>rfl)))))))
      ·cases b4
       ·rfl
       ·cases b5
        ·rfl
        ·cases ut
         ·cases c1<;>first | rfl | (cases c4<;>first | rfl | (cases c7<;>first | rfl | (cases c8<;>first | rfl | (cases c2<;>first | rfl | (cases c3<;>first | rfl | (cases c5<;>first | rfl | (cases c6<;>rfl)))))))
         ·cases b6
          ·rfl
          ·cases c1<;>first | rfl | (cases c4<;>first | rfl | (cases c7<;>first | rfl | (cases c8<;>first | rfl | (cases c2<;>first | rfl | (cases c3<;>first | rfl | (cases c5<;>first | rfl | (cases c6<;>rfl)))))))
   ·dsimp only
    generalize inR (p1,p2) 0 1000000000 4=b2
    cases b2
    ·rfl
    ·refine Eq.trans (step1 _ _ _ (by exact rfl)) ?_
     dsimp only
     generalize w8 un=b3
     generalize cB art=b4
     generalize cB unit=b5
     generalize AM to=b6
     generalize (art==[])=c1
     generalize (q1==0)=c2
     generalize (q2==0)=c3
     generalize (unit==[])=c4
     generalize (p1==0)=c5
     generalize (p2==0)=c6
     generalize (un != 0)=c7
     generalize (to != 0)=c8
     cases uu
     ·cases ua
      ·cases ut
       ·cases c1<;>first | rfl | (cases c4<;>first | rfl | (cases c7<;>first | rfl | (cases c8<;>first | rfl | (cases c2<;>first | rfl | (cases c3<;>first | rfl | (cases c5<;>first | rfl | (cases c6<;>rfl)))))))
       ·cases b6
        ·rfl
        ·cases c1<;>first | rfl | (cases c4<;>first | rfl | (cases c7<;>first | rfl | (cases c8<;>first | rfl | (cases c2<;>first | rfl | (cases c3<;>first | rfl | (cases c5<;>first | rfl | (cases c6<;>rfl)))))))
      ·cases b4
       ·rfl
       ·cases b5
        ·rfl
        ·cases ut
         ·cases c1<;>first | rfl | (cases c4<;>first | rfl | (cases c7<;>first | rfl | (cases c8<;>first | rfl | (cases c2<;>first | rfl | (cases c3<;>first | rfl | (cases c5<;>first | rfl | (cases c6<;>rfl)))))))
         ·cases b6
          ·rfl
          ·cases c1<;>first | rfl | (cases c4<;>first | rfl | (cases c7<;>first | rfl | (cases c8<;>first | rfl | (cases c2<;>first | rfl | (cases c3<;>first | rfl | (cases c5<;>first | rfl | (cases c6<;>rfl)))))))
     ·cases b3
      ·rfl
      ·cases ua
       ·cases ut
        ·cases c1<;>first | rfl | (cases c4<;>first | rfl | (cases c7<;>first | rfl | (cases c8<;>first | rfl | (cases c2<;>first | rfl | (cases c3<;>first | rfl | (cases c5<;>first | rfl | (cases c6<;>rfl)))))))
        ·cases b6
         ·rfl
         ·cases c1<;>first | rfl | (cases c4<;>first | rfl | (cases c7<;>first | rfl | (cases c8<;>first | rfl | (cases c2<;>first | rfl | (cases c3<;>first | rfl | (cases c5<;>first | rfl | (cases c6<;>rfl)))))))
       ·cases b4
        ·rfl
        ·cases b5
         ·rfl
         ·cases ut
          ·cases c1<;>first | rfl | (cases c4<;>first | rfl | (cases c7<;>first | rfl | (cases c8<;>first | rfl | (cases c2<;>first | rfl | (cases c3<;>first | rfl | (cases c5<;>first | rfl | (cases c6<;>rfl)))))))
          ·cases b6
           ·rfl
           ·cases c1<;>first | rfl | (cases c4<;>first | rfl | (cases c7<;>first | rfl | (cases c8<;>first | rfl | (cases c2<;>first | rfl | (cases c3<;>first | rfl | (cases c5<;>first | rfl | (cases c6<;>rfl)))))))
def aY (d:aa):Int:=
 if ¬(1≤d.1∧d.1≤3652059) then 1
 else if ¬(1≤d.2.1∧d.2.1≤2) then 4
 else if ¬(1≤d.2.2.1∧d.2.2.1≤2000) then 1
 else if ¬(1≤d.2.2.2.1∧d.2.2.2.1≤11) then 4
 else if ¬((d.2.2.2.1=5∨d.2.2.2.1=6∨d.2.2.2.1=7∨d.2.2.2.1=9)↔d.2.1=2) then 4
 else if ¬(1≤d.2.2.2.2.1∧d.2.2.2.2.1≤99999) then 1
 else BK d
theorem Pn (n a b:Int):decide (n<a∨b<n)= !decide (a≤n∧n≤b):=by
 by_cases h1:a≤n<;>by_cases h2:n≤b<;>simp [h1,h2]<;>omega
theorem Ka (d:aa):qZ d=some (aY d,()):=by
 unfold qZ aY
 simp only [rV,iU,Pn,eZ,Kc,Option.bind_some]
 by_cases h1:1≤d.1∧d.1≤3652059
 ·by_cases h2:1≤d.2.1∧d.2.1≤2
  ·by_cases h3:1≤d.2.2.1∧d.2.2.1≤2000
   ·by_cases h4:1≤d.2.2.2.1∧d.2.2.2.1≤11
    ·by_cases h5:(d.2.2.2.1=5∨d.2.2.2.1=6∨d.2.2.2.1=7∨d.2.2.2.1=9)↔d.2.1=2
     ·have e5:(decide (d.2.2.2.1=5∨d.2.2.2.1=6∨d.2.2.2.1=7∨d.2.2.2.1=9)==(d.2.1==2))=true:=by
       by_cases h6:d.2.1=2
       ·simp [h6,h5.2 h6]
       ·have:¬(d.2.2.2.1=5∨d.2.2.2.1=6∨d.2.2.2.1=7∨d.2.2.2.1=9):=fun h=>h6 (h5.1 h)
        simp [h6,this]
      by_cases h6:1≤d.2.2.2.2.1∧d.2.2.2.2.1≤99999
      ·rw [e5]
       simp only [h1,h2,h3,h4,h5,h6,iff_self,abL,Bool.not_true,cond_false,not_true,abO,abC]
      ·rw [e5]
       simp only [h1,h2,h3,h4,h5,h6,iff_self,abL,abK,Bool.not_true,ZF,cond_false,cond_true,not_true,abS,abO,abP,abC]
     ·have e5:(decide (d.2.2.2.1=5∨d.2.2.2.1=6∨d.2.2.2.1=7∨d.2.2.2.1=9)==(d.2.1==2))=false:=by
       by_cases h6:d.2.1=2
       ·have:¬(d.2.2.2.1=5∨d.2.2.2.1=6∨d.2.2.2.1=7∨d.2.2.2.1=9):=fun h=>h5 ⟨fun _=>h6,fun _=>h⟩
        simp [h6,this]
       ·have:(d.2.2.2.1=5∨d.2.2.2.1=6∨d.2.2.2.1=7∨d.2.2.2.1=9):=Classical.byContradiction fun h=>h5 ⟨fun h'=>absurd h' h,fun h'=>absurd h' h6⟩
        simp [h6,this]
      rw [e5]
      simp only [h1,h2,h3,h4,h5,abL,Bool.not_true,ZF,cond_false,cond_true,not_true,abS,abO,abP,abC]
    ·simp only [h1,h2,h3,h4,abL,abK,Bool.not_true,ZF,cond_false,cond_true,not_true,abS,abO,abP,abC]
   ·simp only [h1,h2,h3,abL,abK,Bool.not_true,ZF,cond_false,cond_true,not_true,abS,abO,abP,abC]
  ·simp only [h1,h2,abL,abK,Bool.not_true,ZF,cond_false,cond_true,not_true,abS,abO,abP,abC]
 ·simp only [h1,abK,ZF,cond_true,abS,abP]
theorem bz {d:aa} (h:aY d=0):(1≤d.1∧d.1≤3652059)∧(1≤d.2.1∧d.2.1≤2)∧(1≤d.2.2.1∧d.2.2.1≤2000)∧(1≤d.2.2.2.1∧d.2.2.2.1≤11)∧
 ((d.2.2.2.1=5∨d.2.2.2.1=6∨d.2.2.2.1=7∨d.2.2.2.1=9)↔d.2.1=2)∧(1≤d.2.2.2.2.1∧d.2.2.2.2.1≤99999)∧BK d=0:=by
 unfold aY at h
 split at h
 ·cases h
 ·rename_i h1
  split at h
  ·cases h
  ·rename_i h2
   split at h
   ·cases h
   ·rename_i h3
    split at h
    ·cases h
    ·rename_i h4
     split at h
     ·cases h
     ·rename_i h5
      split at h
      ·cases h
      ·rename_i h6
       exact ⟨ZJ.1 h1,ZJ.1 h2,ZJ.1 h3,ZJ.1 h4,ZJ.1 h5,ZJ.1 h6,h⟩
end Go.Md
namespace Go.Md
open Go.Dn
def dCw (a b:aa):Int:=if w64 (a.1 - b.1)≠0 then w64 (a.1 - b.1) else if w64 (a.2.1 - b.2.1)≠0 then w64 (a.2.1 - b.2.1) else w64 (a.2.2.1 - b.2.2.1)
theorem Hj (a b:aa):jk a b=some (dCw a b,()):=by
 unfold jk dCw
 generalize w64 (a.1 - b.1)=x
 generalize w64 (a.2.1 - b.2.1)=y
 generalize w64 (a.2.2.1 - b.2.2.1)=z
 simp only [aau,aax]
 have key:iter (X:=jO) (β:=jN) 8 (3,0,[x,y,z],()) oz=(bif x != 0 then some (Sum.inl (x,())) else bif y != 0 then some (Sum.inl (y,())) else bif z != 0 then some (Sum.inl (z,())) else some (Sum.inr ())):=by kernel_rfl
 show aL (β:=(Int×Unit)) (γ:=Unit) (iter 8 (3,0,[x,y,z],()) oz) _=_
 rw [key]
 by_cases hx:x=0
 ·subst hx
  by_cases hy:y=0
  ·subst hy
   by_cases hz:z=0
   ·subst hz;rfl
   ·have:(z != 0)=true:=by simp [hz]
    rw [this];simp [aL]
  ·have:(y != 0)=true:=by simp [hy]
   rw [this];simp [aL,hy]
 ·have:(x != 0)=true:=by simp [hx]
  rw [this];simp [aL,hx]
def cN:List aa→Option aa→Int→Int→Int
 | [],_,_,_=>0
 | d::r,p,nb,ns=>
  if aY d≠0 then aY d
  else if (p.any fun q=>decide (0≤dCw q d))=true then 8
  else if d.2.1=1 then (if d.2.2.1≠w64 (nb+1) then 9 else cN r (some d) d.2.2.1 ns)
  else (if d.2.2.1≠w64 (ns+1) then 9 else cN r (some d) nb d.2.2.1)
def eV (l:List aa):Int:=if 2000<l.length then 2 else cN l none 0 0
def bE {α:Type} (l:List α):Nat→Option α
 | 0=>none
 | i+1=>l[i]?
def dG (a0:List aa) (s:Int×Int×Int) (i:Nat) (y:aa) (k:(Int×Int×Int)→Option fQ):Option fQ:=
 if aY y≠0 then some (Sum.inl (aY y,()))
 else if ((bE a0 i).any fun q=>decide (0≤dCw q y))=true then some (Sum.inl (8,()))
 else if y.2.1=1 then (if y.2.2.1≠w64 (s.2.1+1) then some (Sum.inl (9,())) else k (s.1,y.2.2.1,s.2.2))
 else (if y.2.2.1≠w64 (s.2.2+1) then some (Sum.inl (9,())) else k (s.1,s.2.1,y.2.2.1))
theorem cR {a b:Int} (h:a≠b):(a != b)=true:=by simp [h]
theorem bU {a b:Int} (h:a≠b):(a==b)=false:=by simp [h]
theorem bQ {α:Type} {l:List α} {i:Nat} {y:α} (h:l[i]? =some y):idx l (i:Int)=some y:=by
 unfold idx
 rw [if_pos (ZS i)]
 exact h
theorem M9 (a0:List aa) (hl:a0.length≤2000) (s:Int×Int×Int) (i:Nat) (y:aa) (again:iP→Option fQ) (hy:a0[i]? =some y):
 iO (a0,a0,(a0.length:Int),(i:Int),s.1,s.2.1,s.2.2,()) again=dG a0 s i y fun s'=>again (a0,a0,(a0.length:Int),((i+1:Nat):Int),s'.1,s'.2.1,s'.2.2,()):=by
 have hi:i<a0.length:=(List.getElem?_eq_some_iff.1 hy).1
 unfold iO dG
 dsimp only
 rw [decide_eq_true (show (i:Int)<(a0.length:Int) by omega),cond_true,bQ hy,Option.bind_some,Ka,Option.bind_some]
 dsimp only
 have hw:w64 ((i:Int)+1)=((i+1:Nat):Int):=by rw [aD (by omega) (by omega)];omega
 rw [hw]
 by_cases hf:aY y=0
 ·rw [hf,show ((0:Int) != 0)=false from rfl,cond_false,if_neg (by simp)]
  obtain ⟨_,hby,_⟩:=bz hf
  have hprev':(bif decide ((i:Int)>0) then Option.bind (idx a0 (w64 ((i:Int) - 1))) fun y4=>Option.bind (jk y4 y) fun r5=>some (decide (r5.1≥0),()) else some (false,()))=some ((bE a0 i).any fun q=>decide (0≤dCw q y),()):=by
   cases i with
   | zero=>rfl
   | succ j=>
    have hj:j<a0.length:=by omega
    have hq:a0[j]? =some a0[j]:=List.getElem?_eq_getElem hj
    have e:w64 (((j+1:Nat):Int) - 1)=(j:Int):=by rw [aD (by omega) (by omega)];omega
    rw [decide_eq_true (by omega),cond_true,e,bQ hq,Option.bind_some,Hj,Option.bind_some]
    simp only [bE,hq,Option.any_some]
  rw [hprev',Option.bind_some]
  dsimp only
  cases ((bE a0 i).any fun q=>decide (0≤dCw q y)) with
  | true=>rfl
  | false=>
   rw [cond_false,if_neg (by simp)]
   by_cases h1:y.2.1=1
   ·rw [bU (show y.2.1≠0 by omega),cond_false,show (y.2.1==1)=true by simp [h1],cond_true,if_pos h1]
    by_cases hn:y.2.2.1=w64 (s.2.1+1)
    ·rw [show (y.2.2.1 != w64 (s.2.1+1))=false by simp [hn],cond_false,if_neg (by simp [hn])]
     rfl
    ·rw [cR hn,cond_true,if_pos hn]
   ·have h2:y.2.1=2:=by omega
    rw [bU (show y.2.1≠0 by omega),cond_false,bU h1,cond_false,show (y.2.1==2)=true by simp [h2],cond_true,if_neg h1]
    by_cases hn:y.2.2.1=w64 (s.2.2+1)
    ·rw [show (y.2.2.1 != w64 (s.2.2+1))=false by simp [hn],cond_false,if_neg (by simp [hn])]
     rfl
    ·rw [cR hn,cond_true,if_pos hn]
 ·rw [cR hf,cond_true,if_pos hf]
def Mv (f:Int):Option ((Int×Unit) ⊕ Unit):=if f=0 then some (Sum.inr ()) else some (Sum.inl (f,()))
theorem Jr {f:Int} (h:f=0):Mv f=some (Sum.inr ()):=if_pos h
theorem FI {f:Int} (h:f≠0):Mv f=some (Sum.inl (f,())):=if_neg h
theorem Jg (a0:List aa):∀ (r:List aa) (i:Nat) (s:Int×Int×Int),a0.drop i=r→
 Cr (dG a0) (fun _=>some (Sum.inr ())) r i s=Mv (cN r (bE a0 i) s.2.1 s.2.2)
 | [],_,_,_=>by simp [Cr,cN,Mv]
 | y::r,i,s,hd=>by
  have hy:a0[i]? =some y:=by
   have:=congrArg (·[0]?) hd
   simpa [aal] using this
  have hr:a0.drop (i+1)=r:=by
   have:=congrArg List.tail hd
   simpa [aaW] using this
  have hp:bE a0 (i+1)=some y:=hy
  show dG a0 s i y (fun s'=>Cr (dG a0) (fun _=>some (Sum.inr ())) r (i+1) s')=_
  rw [show (fun s'=>Cr (dG a0) (fun _=>some (Sum.inr ())) r (i+1) s')=fun s'=>Mv (cN r (bE a0 (i+1)) s'.2.1 s'.2.2) from funext fun s'=>Jg a0 r (i+1) s' hr,hp]
  unfold dG
  by_cases hf:aY y=0
  ·have e0:¬aY y≠0:=fun h=>h hf
   rw [if_neg e0]
   by_cases ha:((bE a0 i).any fun q=>decide (0≤dCw q y))=true
   ·rw [if_pos ha,show cN (y::r) (bE a0 i) s.2.1 s.2.2=8 by simp only [cN];rw [if_neg e0,if_pos ha]]
    rfl
   ·rw [if_neg ha]
    by_cases h1:y.2.1=1
    ·rw [if_pos h1]
     by_cases hn:y.2.2.1≠w64 (s.2.1+1)
     ·rw [if_pos hn,show cN (y::r) (bE a0 i) s.2.1 s.2.2=9 by simp only [cN];rw [if_neg e0,if_neg ha,if_pos h1,if_pos hn]]
      rfl
     ·rw [if_neg hn,show cN (y::r) (bE a0 i) s.2.1 s.2.2=cN r (some y) y.2.2.1 s.2.2 by rw [cN,if_neg e0,if_neg ha,if_pos h1,if_neg hn]]
    ·rw [if_neg h1]
     by_cases hn:y.2.2.1≠w64 (s.2.2+1)
     ·rw [if_pos hn,show cN (y::r) (bE a0 i) s.2.1 s.2.2=9 by simp only [cN];rw [if_neg e0,if_neg ha,if_neg h1,if_pos hn]]
      rfl
     ·rw [if_neg hn,show cN (y::r) (bE a0 i) s.2.1 s.2.2=cN r (some y) s.2.1 y.2.2.1 by rw [cN,if_neg e0,if_neg ha,if_neg h1,if_neg hn]]
  ·rw [if_pos hf,show cN (y::r) (bE a0 i) s.2.1 s.2.2=aY y by rw [cN,if_pos hf],FI hf]
theorem ym (l:List aa):iV l=some (eV l,()):=by
 unfold iV eV
 by_cases hl:2000<l.length
 ·rw [decide_eq_true (show (l.length:Int)>2000 by omega),cond_true,if_pos hl]
 ·rw [abH (show ¬ (l.length:Int)>2000 by omega),cond_false,if_neg hl]
  have:=GU (f:=iO) (fun (s:Int×Int×Int) (i:Nat)=>((l,l,(l.length:Int),(i:Int),s.1,s.2.1,s.2.2,()):iP)) l (dG l) (fun _=>some (Sum.inr ()))
   (fun s i y again hy=>M9 l (by omega) s i y again hy) (fun s again=>by
     unfold iO
     dsimp only
     rw [abH (by omega)];rfl) (0,0,0)
  refine (congrArg (fun z=>aL (β:=(Int×Unit)) (γ:=Unit) z fun _=>some (0,())) (this _ (by omega))).trans ?_
  rw [Jg l l 0 (0,0,0) rfl]
  simp only [bE]
  by_cases h:cN l none 0 0=0
  ·rw [Jr h,h];rfl
  ·rw [FI h];rfl
theorem Cl:∀ {l:List aa} {p:Option aa} {nb ns:Int},cN l p nb ns=0→∀ d,d∈l→aY d=0
 | [],_,_,_,_,_,h=>by cases h
 | y::r,p,nb,ns,h,d,hd=>by
  simp only [cN] at h
  by_cases hf:aY y=0
  ·rw [if_neg (by simp [hf])] at h
   rcases aaH.1 hd with rfl | hd
   ·exact hf
   ·split at h
    ·cases h
    ·split at h
     ·split at h
      ·cases h
      ·exact Cl h d hd
     ·split at h
      ·cases h
      ·exact Cl h d hd
  ·rw [if_pos hf] at h
   exact absurd h hf
theorem gW {l:List aa} (h:eV l=0):l.length≤2000∧∀ d,d∈l→aY d=0:=by
 unfold eV at h
 split at h
 ·cases h
 ·rename_i hl
  exact ⟨by omega,Cl h⟩
abbrev CJ (o:ai):=o.1
abbrev CI (o:ai):=o.2.1
abbrev G8 (o:ai):=o.2.2.1
abbrev cu (o:ai):=o.2.2.2.1
abbrev bM (o:ai):=o.2.2.2.2.1
abbrev gB (o:ai):=o.2.2.2.2.2
def cF (day:Int) (p:Option aI) (x:aI):Int:=
 if ¬(1≤x.1∧x.1≤99999) then 1
 else if (p.any fun q=>decide (x.1≤q.1))=true then 8
 else if cB x.2.1=false then 5
 else if qOk x.2.2.1 false=false then 1
 else if cB x.2.2.2.1=false then 5
 else if inR x.2.2.2.2.1 0 1000000000 4=false then 1
 else if ¬(day≤x.2.2.2.2.2∧x.2.2.2.2.2≤3652059) then 1
 else 0
def ir (day:Int):List aI→Option aI→Int
 | [],_=>0
 | x::r,p=>if cF day p x≠0 then cF day p x else ir day r (some x)
def iu (o:ai):Int:=
 if cB (CJ o)=false∨cB (CI o)=false∨cB (G8 o)=false then 5
 else if CI o=G8 o then 12
 else if ¬(1≤cu o∧cu o≤3652059) then 1
 else if ¬(0≤bM o∧bM o≤1000) then 1
 else if gB o=[] then 9
 else if 500<(gB o).length then 2
 else ir (cu o) (gB o) none
theorem Y7 (b:Bool):((if b=true then (0:Int) else 1) != 0)= !b:=by cases b<;>rfl
theorem Kb (o:ai) (i:Nat) (x:aI) (hi:(gB o)[i]? =some x) (hl:(gB o).length≤500):q7 o (i:Int)=some (cF (cu o) (bE (gB o) i) x,()):=by
 have hlt:i<(gB o).length:=(List.getElem?_eq_some_iff.1 hi).1
 unfold q7
 rw [bQ hi,Option.bind_some]
 simp only [iU,Pn,AN,uG,yp,Option.bind_some,Y7]
 have tail:∀ (p:Option aI) (hp:(p.any fun q=>decide (x.1≤q.1))=false) (h1:1≤x.1∧x.1≤99999),
  (bif !cB x.2.1 then some (5,()) else bif !qOk x.2.2.1 false then some ((if qOk x.2.2.1 false=true then 0 else 1),()) else bif !cB x.2.2.2.1 then some (5,()) else
    bif !inR x.2.2.2.2.1 0 1000000000 4 then some ((if inR x.2.2.2.2.1 0 1000000000 4=true then 0 else 1),()) else bif !decide (cu o≤x.2.2.2.2.2∧x.2.2.2.2.2≤3652059) then some (1,()) else some (0,()))=some (cF (cu o) p x,()):=fun p hp h1=>by
  unfold cF
  rw [if_neg (show ¬¬(1≤x.1∧x.1≤99999) from fun h=>h h1),if_neg (show ¬(p.any fun q=>decide (x.1≤q.1))=true by rw [hp];exact ZA)]
  cases cB x.2.1
  ·rfl
  ·cases qOk x.2.2.1 false
   ·rfl
   ·cases cB x.2.2.2.1
    ·rfl
    ·cases inR x.2.2.2.2.1 0 1000000000 4
     ·rfl
     ·by_cases hd:cu o≤x.2.2.2.2.2∧x.2.2.2.2.2≤3652059
      ·simp [hd]
      ·simp [hd]
 by_cases h1:1≤x.1∧x.1≤99999
 ·rw [decide_eq_true h1,Bool.not_true,cond_false]
  cases i with
  | zero=>
   rw [abH (show ¬((0:Nat):Int)>0 by omega),cond_false]
   exact tail none rfl h1
  | succ j=>
   have hq:(gB o)[j]? =some (gB o)[j]:=List.getElem?_eq_getElem (by omega)
   have e:w64 (((j+1:Nat):Int) - 1)=(j:Int):=by rw [aD (by omega) (by omega)];omega
   rw [decide_eq_true (show ((j+1:Nat):Int)>0 by omega),cond_true,e,bQ hq,Option.bind_some]
   simp only [bE,hq]
   by_cases h2:x.1≤(gB o)[j].1
   ·rw [decide_eq_true h2,Option.bind_some]
    have:cF (cu o) (some (gB o)[j]) x=8:=by
     unfold cF
     rw [if_neg (show ¬¬(1≤x.1∧x.1≤99999) from fun h=>h h1),if_pos (show (Option.any (fun q=>decide (x.1≤q.1)) (some (gB o)[j]))=true from decide_eq_true h2)]
    rw [this]
    rfl
   ·rw [abH h2,Option.bind_some]
    exact tail (some (gB o)[j]) (by simp [h2]) h1
 ·rw [abH h1,ZF,cond_true]
  unfold cF
  rw [if_pos h1]
theorem AQ (a0:List aI) (day:Int):∀ (r:List aI) (i:Nat) (s:Unit),a0.drop i=r→
 Cr (fun (_:Unit) i y k=>if cF day (bE a0 i) y≠0 then some (Sum.inl (cF day (bE a0 i) y,())) else k ()) (fun _=>(some (Sum.inr ()):Option kQ)) r i s=Mv (ir day r (bE a0 i))
 | [],_,_,_=>by simp [Cr,ir,Mv]
 | y::r,i,s,hd=>by
  have hy:a0[i]? =some y:=by
   have:=congrArg (·[0]?) hd
   simpa [aal] using this
  have hr:a0.drop (i+1)=r:=by
   have:=congrArg List.tail hd
   simpa [aaW] using this
  have hp:bE a0 (i+1)=some y:=hy
  have ih:=AQ a0 day r (i+1) () hr
  rw [hp] at ih
  by_cases hf:cF day (bE a0 i) y=0
  ·have e0:¬cF day (bE a0 i) y≠0:=fun h=>h hf
   rw [show ir day (y::r) (bE a0 i)=ir day r (some y) by rw [ir,if_neg e0], ← ih]
   show (if cF day (bE a0 i) y≠0 then _ else _)=_
   rw [if_neg e0]
  ·rw [show ir day (y::r) (bE a0 i)=cF day (bE a0 i) y by rw [ir,if_pos hf],FI hf]
   show (if cF day (bE a0 i) y≠0 then _ else _)=_
   rw [if_pos hf]
theorem IG (o:ai):pI o=some (iu o,()):=by
 unfold pI iu
 simp only [AN,rV,iU,Pn,Option.bind_some]
 cases h1:cB o.1
 ·simp [CJ,h1]
 cases h2:cB o.2.1
 ·simp [CJ,CI,h1,h2]
 cases h3:cB o.2.2.1
 ·simp [CJ,CI,G8,h1,h2,h3]
 rw [if_neg (by simp [CJ,CI,G8,h1,h2,h3])]
 simp only [Bool.not_true,cond_false]
 by_cases h4:o.2.1=o.2.2.1
 ·rw [if_pos h4,show (o.2.1==o.2.2.1)=true by simp [h4],cond_true]
 rw [if_neg h4,show (o.2.1==o.2.2.1)=false by simp [h4],cond_false]
 by_cases h5:1≤o.2.2.2.1∧o.2.2.2.1≤3652059
 ·rw [if_neg (by simp [cu,h5]),decide_eq_true h5,Bool.not_true,cond_false]
  by_cases h6:0≤o.2.2.2.2.1∧o.2.2.2.2.1≤1000
  ·rw [if_neg (by simp [bM,h6]),decide_eq_true h6,Bool.not_true,cond_false]
   by_cases h7:o.2.2.2.2.2=[]
   ·rw [if_pos h7,h7];rfl
   ·have h7':o.2.2.2.2.2.length≠0:=fun e=>h7 (aad e)
    rw [if_neg h7,bU (show (o.2.2.2.2.2.length:Int)≠0 by omega),cond_false]
    by_cases h8:500<o.2.2.2.2.2.length
    ·rw [if_pos h8,decide_eq_true (by omega),cond_true]
    ·rw [if_neg h8,abH (by omega),cond_false]
     have:=GU (f:=kP) (fun (_:Unit) (i:Nat)=>(((o.2.2.2.2.2.length:Int),(i:Int),o.1,o.2.1,o.2.2.1,o.2.2.2.1,o.2.2.2.2.1,o.2.2.2.2.2,()):kR)) o.2.2.2.2.2
      (fun (_:Unit) i y k=>if cF (cu o) (bE o.2.2.2.2.2 i) y≠0 then some (Sum.inl (cF (cu o) (bE o.2.2.2.2.2 i) y,())) else k ()) (fun _=>some (Sum.inr ()))
      (fun s i y again hy=>by
        have hlt:i<o.2.2.2.2.2.length:=(List.getElem?_eq_some_iff.1 hy).1
        unfold kP
        dsimp only
        rw [decide_eq_true (by omega),cond_true]
        have:=Kb o i y hy (by show o.2.2.2.2.2.length≤500;omega)
        rw [show ((o.1,o.2.1,o.2.2.1,o.2.2.2.1,o.2.2.2.2.1,o.2.2.2.2.2):ai)=o from rfl,this,Option.bind_some]
        dsimp only
        by_cases hf:cF (cu o) (bE o.2.2.2.2.2 i) y=0
        ·rw [if_neg (by simp [hf]),show (cF (cu o) (bE (gB o) i) y != 0)=false by simp [hf],cond_false,aD (by omega) (by omega)]
         rfl
        ·rw [if_pos hf,show (cF (cu o) (bE (gB o) i) y != 0)=true by simp [hf],cond_true]) (fun s again=>by
        unfold kP
        dsimp only
        rw [abH (show ¬((o.2.2.2.2.2.length:Int)<(o.2.2.2.2.2.length:Int)) by omega)];rfl) ()
     refine (congrArg (fun z=>aL (β:=(Int×Unit)) (γ:=Unit) z fun _=>some (0,())) (this _ (by omega))).trans ?_
     rw [AQ o.2.2.2.2.2 (cu o) o.2.2.2.2.2 0 () rfl]
     simp only [bE]
     by_cases h:ir (cu o) o.2.2.2.2.2 none=0
     ·rw [Jr h,h];rfl
     ·rw [FI h];rfl
  ·rw [if_pos h6,abH h6];rfl
 ·rw [if_pos h5,abH h5];rfl
theorem vC (o:ai) (l:List aa):mA o l=some (if iu o≠0 then iu o else eV l,()):=by
 unfold mA
 rw [IG,Option.bind_some,ym]
 dsimp only
 by_cases h:iu o=0
 ·rw [h];rfl
 ·rw [cR h,cond_true,if_pos h]
end Go.Md
namespace Go.Md
open Go.Dn
def aN (d:ah):Int:=d.1*10 ^ (3 - d.2).toNat
theorem Aw {d:ah} {z:Bool} (h:qOk d z=true):(0≤d.2∧d.2≤3)∧0≤d.1∧d.1≤1000000000*10 ^ d.2.toNat∧(z=false→d.1≠0):=by
 unfold qOk inR at h
 simp only [Zv,abJ,ZH,ZE,abD] at h
 obtain ⟨⟨h1,h2,h3,h4⟩,h5⟩:=h
 exact ⟨⟨h1.2.1,h2⟩,by omega,h4,fun hz=>by rcases h5 with h5 | h5;exact h5;rw [hz] at h5;cases h5⟩
theorem jD {d:ah} {z:Bool} (h:qOk d z=true):0≤aN d∧aN d≤1000000000000∧(z=false→0<aN d):=by
 obtain ⟨⟨h1,h2⟩,h3,h4,h5⟩:=Aw h
 unfold aN
 obtain ⟨k,hk⟩:∃ k:Nat,d.2=k:=⟨d.2.toNat,by omega⟩
 rw [hk] at h1 h2 h4 ⊢
 have:k=0∨k=1∨k=2∨k=3:=by omega
 rcases this with rfl | rfl | rfl | rfl<;>simp at h4 ⊢ <;>refine ⟨by omega,by omega,fun hz=> ?_⟩<;>have:=h5 hz<;>omega
theorem lq {d:ah} {z:Bool} (h:qOk d z=true):fZ d=some (aN d,()):=by
 obtain ⟨⟨h1,h2⟩,h3,h4,_⟩:=Aw h
 obtain ⟨u1,u2,_⟩:=jD h
 unfold fZ
 rw [aD (n:=3 - d.2) (by omega) (by omega),yL (3 - d.2) (by omega) (by omega),Option.bind_some]
 show some (w64 (aN d),())=_
 rw [aD (by omega) (by omega)]
structure aj where
 no:Int
 art:List UInt8
 unit:List UInt8
 ord:Int
 shp:Int
 rcv:Int
 ret:Int
 price:ah
 due:Int
 wish:Int
 ono:Int
 oq:Int
 ount:Int
abbrev aj.tup (x:aj):aM:=(x.no,x.art,x.unit,x.ord,x.shp,x.rcv,x.ret,x.price,x.due,x.wish,x.ono,x.oq,x.ount)
def aj.opn (x:aj):Int:=if x.ord - x.shp+x.ret>0 then x.ord - x.shp+x.ret else 0
structure LOk (x:aj):Prop where
 ret0:0≤x.ret
 retr:x.ret≤x.rcv
 rcvs:x.rcv≤x.shp
 shp1:x.shp≤1000000000000000
 qO:0≤x.ord
 ord1:x.ord≤1000000000000
 off:x.ono≠0→0<x.oq∧x.oq+x.shp - x.ret≤x.ord
def s9 (i:Nat):List aj→List (Int×Option Nat)
 | []=>[]
 | x::r=>(x.no,some i)::s9 (i+1) r
abbrev mapOf (A:List aj):List (Int×Option Nat):=s9 0 A
def bR (n:Int) (i:Nat):List aj→Option Nat
 | []=>none
 | x::r=>if n=x.no then some i else bR n (i+1) r
abbrev fD (n:Int) (A:List aj):Option Nat:=bR n 0 A
theorem V8 (n:Int):CC n n=true:=by simp [CC]
theorem T4 {n a:Int} (h:n≠a):CC n a=false:=by simp [CC,h]
theorem ij (n:Int):∀ (A:List aj) (i:Nat),Option.getD (α:=Option Nat) (ot (k:=tI) (v:= .hnd) (s9 i A) n) none=bR n i A
 | [],i=>rfl
 | x::r,i=>by
  have e:= @Wp tI .hnd (x.no,some i) (s9 (i+1) r) n
  refine (congrArg (fun z:Option (Option Nat)=>Option.getD z none) e).trans ?_
  have ih:=ij n r (i+1)
  by_cases h:n=x.no
  ·subst h
   show Option.getD (α:=Option Nat) (bif CC x.no x.no then some (some i) else _) none=_
   rw [V8]
   simp only [bR,if_pos]
   rfl
  ·show Option.getD (α:=Option Nat) (bif CC n x.no then some (some i) else _) none=_
   rw [T4 h]
   simp only [bR,if_neg h]
   exact ih
theorem ME (n:Int) (y:aj) (hy:y.no=n):∀ (A:List aj) (i:Nat),bR n i A=none→yK (k:=tI) (v:= .hnd) (s9 i A) n (some (i+A.length))=s9 i (A++[y])
 | [],i,_=>by subst hy;rfl
 | x::r,i,h=>by
  simp only [bR] at h
  by_cases hx:n=x.no
  ·rw [if_pos hx] at h;cases h
  ·rw [if_neg hx] at h
   have ih:=ME n y hy r (i+1) h
   have e:i+(x::r).length=i+1+r.length:=by simp only [aau];omega
   rw [e]
   show (bif CC n x.no then _ else (x.no,some i)::yK (k:=tI) (v:= .hnd) (s9 (i+1) r) n (some (i+1+r.length)))=_
   rw [T4 hx]
   exact congrArg (fun z=>(x.no,some i)::z) ih
theorem JR:∀ (A:List aj) (i:Nat),(s9 i A).length=A.length
 | [],_=>rfl
 | x::r,i=>by simp [s9,JR r]
theorem Wm {k:Nat} {y:aj}:∀ (A:List aj) (i:Nat),(∀ x,A[k]? =some x→y.no=x.no)→s9 i (A.set k y)=s9 i A:=by
 intro A
 induction A generalizing k with
 | nil=>intro i _;rfl
 | cons x r ih=>
  intro i h
  cases k with
  | zero=>simp only [List.set_cons_zero,s9];rw [h x rfl]
  | succ k=>simp only [List.set_cons_succ,s9];rw [ih (i+1) (fun z hz=>h z (by simpa using hz))]
theorem LS {n:Int}:∀ {A:List aj} {i k:Nat},bR n i A=some k→i≤k∧∃ x,A[k - i]? =some x∧x.no=n
 | [],_,_,h=>by cases h
 | x::r,i,k,h=>by
  simp only [bR] at h
  by_cases hx:n=x.no
  ·rw [if_pos hx] at h;cases h;exact ⟨abb _,x,by simp,hx.symm⟩
  ·rw [if_neg hx] at h
   obtain ⟨h1,y,h2,h3⟩:=LS h
   refine ⟨by omega,y, ?_,h3⟩
   rw [show k - i=k - (i+1)+1 by omega,aaj];exact h2
theorem s6 {n:Int} {A:List aj} {k:Nat} (h:fD n A=some k):∃ x,A[k]? =some x∧x.no=n:=(LS h).2
theorem GG {n:Int} {k:Nat} {y:aj}:∀ (A:List aj) (i:Nat),(∀ x,A[k]? =some x→y.no=x.no)→bR n i (A.set k y)=bR n i A:=by
 intro A
 induction A generalizing k with
 | nil=>intro i _;rfl
 | cons x r ih=>
  intro i h
  cases k with
  | zero=>simp only [List.set_cons_zero,bR];rw [h x rfl]
  | succ k=>simp only [List.set_cons_succ,bR];rw [ih (i+1) (fun z hz=>h z (by simpa using hz))]
theorem Bq {n:Int} {y:aj}:∀ (A:List aj) (i:Nat),bR n i (A++[y])=(bR n i A).or (if n=y.no then some (i+A.length) else none)
 | [],i=>by simp [bR]
 | x::r,i=>by
  simp only [Z4,bR,aau]
  by_cases h:n=x.no
  ·simp [h]
  ·rw [if_neg h,if_neg h,Bq r (i+1),show i+(r.length+1)=i+1+r.length by omega]
theorem oQ {A:List aj} {k:Nat} {x:aj} (h:A[k]? =some x):(A.map aj.tup)[k]? =some x.tup:=by rw [List.getElem?_map,h];rfl
theorem Uy (A:List aj) (k:Nat) (y:aj):(A.map aj.tup).set k y.tup=(A.set k y).map aj.tup:=by rw [List.map_set]
theorem KK {A:List aj} {k:Nat} {x:aj} (h:A[k]? =some x) (y:aj):(A.set k y)[k]? =some y:=by
 have:=(List.getElem?_eq_some_iff.1 h).1
 simp [aan,this]
theorem Ao {A:List aj} {k:Nat} {x:aj} (h:A[k]? =some x) (hx:LOk x):jS (some k) (A.map aj.tup)=some (x.opn,()):=by
 unfold jS
 have ht:=oQ h
 simp only [Option.bind_some,ht]
 have:=hx.ret0;have:=hx.retr;have:=hx.rcvs;have:=hx.shp1;have:=hx.qO;have:=hx.ord1
 rw [aD (n:=x.ord - x.shp) (by omega) (by omega),aD (n:=x.ord - x.shp+x.ret) (by omega) (by omega)]
 rfl
end Go.Md
namespace Go.Md
open Go.Dn
abbrev dNo (d:aa):=d.2.2.1
abbrev aG (d:aa):=d.2.2.2.1
abbrev cD (d:aa):=d.2.2.2.2.1
abbrev dQ (d:aa):=d.2.2.2.2.2.2.1
abbrev FA (d:aa):=d.2.2.2.2.2.2.2.2.1
abbrev eU (d:aa):=d.2.2.2.2.2.2.2.2.2.1
abbrev dTo (d:aa):=d.2.2.2.2.2.2.2.2.2.2
theorem cW {d:aa} (h:BK d=0):(usQ (aG d)=true→qOk (dQ d) (aG d==2)=true)∧(usP (aG d)=true→inR (FA d) 0 1000000000 4=true)∧(usU (aG d)=true→w8 (eU d)=true)∧(usA (aG d)=true→cB d.2.2.2.2.2.1=true∧cB d.2.2.2.2.2.2.2.1=true)∧(usT (aG d)=true→AM (dTo d)=true):=by
 unfold BK OA at h
 show (usQ d.2.2.2.1=true→qOk d.2.2.2.2.2.2.1 (d.2.2.2.1==2)=true)∧(usP d.2.2.2.1=true→inR d.2.2.2.2.2.2.2.2.1 0 1000000000 4=true)∧(usU d.2.2.2.1=true→w8 d.2.2.2.2.2.2.2.2.2.1=true)∧(usA d.2.2.2.1=true→cB d.2.2.2.2.2.1=true∧cB d.2.2.2.2.2.2.2.1=true)∧(usT d.2.2.2.1=true→AM d.2.2.2.2.2.2.2.2.2.2=true)
 generalize usA d.2.2.2.1=ua at*
 generalize usQ d.2.2.2.1=uq at*
 generalize usP d.2.2.2.1=up at*
 generalize usU d.2.2.2.1=uu at*
 generalize usT d.2.2.2.1=ut at*
 generalize qOk d.2.2.2.2.2.2.1 (d.2.2.2.1==2)=b1 at*
 generalize inR d.2.2.2.2.2.2.2.2.1 0 1000000000 4=b2 at*
 generalize w8 d.2.2.2.2.2.2.2.2.2.1=b3 at*
 generalize cB d.2.2.2.2.2.1=b4 at*
 generalize cB d.2.2.2.2.2.2.2.1=b5 at*
 generalize AM d.2.2.2.2.2.2.2.2.2.2=b6 at*
 cases hq:(uq&& !b1)
 ·rw [hq,cond_false] at h
  cases hp:(up&& !b2)
  ·rw [hp,cond_false] at h
   cases hu:(uu&& !b3)
   ·rw [hu,cond_false] at h
    cases ha:(ua&&(!b4|| !b5))
    ·rw [ha,cond_false] at h
     cases ht:(ut&& !b6)
     ·refine ⟨?_, ?_, ?_, ?_, ?_⟩
      ·revert hq;cases uq<;>cases b1<;>simp
      ·revert hp;cases up<;>cases b2<;>simp
      ·revert hu;cases uu<;>cases b3<;>simp
      ·revert ha;cases ua<;>cases b4<;>cases b5<;>simp
      ·revert ht;cases ut<;>cases b6<;>simp
     ·rw [ht,cond_true] at h;cases h
    ·rw [ha,cond_true] at h;cases h
   ·rw [hu,cond_true] at h;cases h
  ·rw [hp,cond_true] at h;cases h
 ·rw [hq,cond_true] at h;cases h
def rB (day:Int) (i:Int) (d:aa) (x:aj):Int×aj:=
 if aG d=3∧eU d<day then (1,x) else if 0≤x.wish then (11,x) else (0,{ x with wish:=i })
def gF (l:List aa) (x:aj):aa:=l.getD x.wish.toNat (0,0,0,0,0,[],(0,0),[],(0,0),0,0)
def bA (l:List aa) (d:aa) (x:aj):Int×aj:=
 if x.wish<0 then (5,x)
 else if dNo (gF l x)≠dTo d then (5,x)
 else if aG d=5 then
  (if aG (gF l x)=2 then (if aN (dQ (gF l x))<x.shp - x.ret then (12,x) else (0,{ x with ord:=aN (dQ (gF l x)),wish:= -1 }))
  else if aG (gF l x)=1 then (0,{ x with ord:=aN (dQ (gF l x)),wish:= -1 })
  else if aG (gF l x)=3 then (0,{ x with due:=eU (gF l x),wish:= -1 })
  else (0,{ x with price:=FA (gF l x),wish:= -1 }))
 else (0,{ x with wish:= -1 })
def kr (day:Int) (d:aa) (x:aj):Int:=
 if eU d<day then 1 else if 0≤x.wish∨x.opn=0 then 11 else if x.opn<aN (dQ d) then 12 else 0
def BI (d:aa) (x:aj):Int×aj:=
 if 0≤x.wish then (11,x) else if x.ono=0∨x.ono≠dTo d then (5,x) else (0,{ x with ord:=x.shp - x.ret+x.oq,due:=x.ount,ono:=0,oq:=0,ount:=0 })
def bW (ext:Int) (d:aa) (x:aj):Int×aj:=
 if aG d=9 then
  (if x.ord+x.ord*ext / 1000<x.shp - x.ret+aN (dQ d) then (12,x)
  else if 1000000000000000<x.shp+aN (dQ d) then (16,x)
  else (0,{ x with shp:=x.shp+aN (dQ d) }))
 else if aG d=10 then (if x.shp<x.rcv+aN (dQ d) then (12,x) else (0,{ x with rcv:=x.rcv+aN (dQ d) }))
 else (if x.rcv<x.ret+aN (dQ d) then (12,x) else (0,{ x with ret:=x.ret+aN (dQ d) }))
theorem iw {A:List aj} {k:Nat} {x:aj} (h:A[k]? =some x):A.set k x=A:=by
 obtain ⟨h1,h2⟩:=List.getElem?_eq_some_iff.1 h
 rw [← h2];exact List.set_getElem_self h1
theorem lU {A:List aj} {k:Nat} (y:aj) (T:aM) (hT:T=y.tup):List.set (A.map aj.tup) k T=(A.set k y).map aj.tup:=by rw [hT,Uy]
theorem Cs {A:List aj} {k:Nat} {x:aj} (h:A[k]? =some x) (T:aM):(List.set (A.map aj.tup) k T)[k]? =some T:=by
 have:=(List.getElem?_eq_some_iff.1 h).1
 rw [aap (by simpa using this)]
variable {o:ai} {l:List aa} {m:List (Int×Option Nat)} {ref:List ah} {pts:List aB} {wt:Int} {A:List aj} {k:Nat} {x:aj}
theorem nD (h:A[k]? =some x) {i:Nat} {d:aa} (hd:l[i]? =some d):
 me (o,l,m,ref,pts,wt,()) (some k) (i:Int) (A.map aj.tup)=some ((rB (cu o) i d x).1,(o,l,m,ref,pts,wt,()),(A.set k (rB (cu o) i d x).2).map aj.tup,()):=by
 unfold me rB
 dsimp only
 rw [bQ hd,Option.bind_some]
 have hv:(bif d.2.2.2.1==3 then some (decide (d.2.2.2.2.2.2.2.2.2.1<o.2.2.2.1),()) else some (false,()))=some (decide (aG d=3∧eU d<cu o),()):=by
  by_cases h3:d.2.2.2.1=3
  ·rw [show (d.2.2.2.1==3)=true by simp [h3],cond_true]
   simp [aG,h3]
  ·rw [show (d.2.2.2.1==3)=false by simp [h3],cond_false]
   simp [aG,h3]
 rw [hv,Option.bind_some]
 dsimp only
 by_cases h1:aG d=3∧eU d<cu o
 ·rw [decide_eq_true h1,cond_true,if_pos h1,iw h]
 ·rw [abH h1,cond_false,if_neg h1]
  simp only [Option.bind_some,oQ h]
  by_cases h2:0≤x.wish
  ·rw [if_pos h2,decide_eq_true (show x.wish≥0 from h2),cond_true,iw h]
  ·rw [if_neg h2,abH (show ¬x.wish≥0 from h2),cond_false,lU { x with wish:=(i:Int) } _ rfl]
structure WOk (l:List aa) (x:aj):Prop where
 low: -1≤x.wish
 kind:0≤x.wish→∃ d,l[x.wish.toNat]? =some d∧aG d≤4
theorem k5 {d:aa} (hw:l[x.wish.toNat]? =some d):gF l x=d:=by
 unfold gF
 rw [aag,hw];rfl
theorem GQ {d:aa} (h0:0≤x.wish) (hw:l[x.wish.toNat]? =some d):idx l x.wish=some d:=by
 unfold idx;rw [if_pos h0];exact hw
theorem sd (h:A[k]? =some x) (hx:LOk x) (hw:WOk l x) (hl:∀ d,d∈l→aY d=0) (d:aa):
 jP (o,l,m,ref,pts,wt,()) (some k) d (A.map aj.tup)=some ((bA l d x).1,(o,l,m,ref,pts,wt,()),(A.set k (bA l d x).2).map aj.tup,()):=by
 unfold jP bA
 simp only [Option.bind_some,oQ h]
 by_cases h1:x.wish<0
 ·rw [if_pos h1,decide_eq_true h1,cond_true,iw h]
 ·rw [if_neg h1,abH h1,cond_false]
  obtain ⟨w,hw1,hw2⟩:=hw.kind (by omega)
  rw [GQ (by omega) hw1,k5 hw1]
  simp only [Option.bind_some]
  have hwf:=hl w (List.mem_of_getElem? hw1)
  obtain ⟨_,_,_,hk,_,_,hu⟩:=bz hwf
  obtain ⟨uq,_⟩:=cW hu
  have b0:=hx.ret0;have b1:=hx.retr;have b2:=hx.rcvs;have b3:=hx.shp1
  by_cases h2:dNo w=dTo d
  ·rw [if_neg (fun e=>e h2),show (w.2.2.1 != d.2.2.2.2.2.2.2.2.2.2)=false by simpa using h2,cond_false]
   by_cases h3:aG d=5
   ·rw [if_pos h3,show (d.2.2.2.1==5)=true by simpa using h3,cond_true]
    by_cases k2:aG w=2
    ·have hq:=uq (by rw [k2];rfl)
     rw [if_pos k2,show (w.2.2.2.1==2)=true by simpa using k2,cond_true]
     simp only [lq hq,Option.bind_some,Cs h,aaU]
     rw [aD (n:=x.shp - x.ret) (by omega) (by omega)]
     by_cases h4:aN (dQ w)<x.shp - x.ret
     ·rw [if_pos h4,decide_eq_true h4,cond_true,iw h]
     ·rw [if_neg h4,abH h4,cond_false,lU { x with ord:=aN (dQ w),wish:= -1 } _ rfl]
    ·rw [if_neg k2,show (w.2.2.2.1==2)=false by simpa using k2,cond_false]
     by_cases k1:aG w=1
     ·have hq:=uq (by rw [k1];rfl)
      rw [if_pos k1,show (w.2.2.2.1==1)=true by simpa using k1,cond_true]
      simp only [lq hq,Option.bind_some,Cs h,aaU]
      rw [lU { x with ord:=aN (dQ w),wish:= -1 } _ rfl]
     ·rw [if_neg k1,show (w.2.2.2.1==1)=false by simpa using k1,cond_false]
      by_cases k3:aG w=3
      ·rw [if_pos k3,show (w.2.2.2.1==3)=true by simpa using k3,cond_true]
       simp only [Option.bind_some,Cs h,aaU]
       rw [lU { x with due:=eU w,wish:= -1 } _ rfl]
      ·rw [if_neg k3,show (w.2.2.2.1==3)=false by simpa using k3,cond_false]
       simp only [Option.bind_some,Cs h,aaU]
       rw [lU { x with price:=FA w,wish:= -1 } _ rfl]
   ·rw [if_neg h3,show (d.2.2.2.1==5)=false by simpa using h3,cond_false,lU { x with wish:= -1 } _ rfl]
  ·rw [if_pos h2,show (w.2.2.1 != d.2.2.2.2.2.2.2.2.2.2)=true by simpa using h2,cond_true,iw h]
theorem BC (h:A[k]? =some x) (hx:LOk x) {d:aa} {z:Bool} (hq:qOk (dQ d) z=true):
 jf (o,l,m,ref,pts,wt,()) (some k) d (A.map aj.tup)=some (kr (cu o) d x,(o,l,m,ref,pts,wt,()),A.map aj.tup,()):=by
 unfold jf kr
 simp only [Option.bind_some,oQ h,Ao h hx,lq hq]
 by_cases h1:eU d<cu o
 ·rw [if_pos h1,decide_eq_true h1,cond_true]
 ·rw [if_neg h1,abH h1,cond_false]
  by_cases h2:0≤x.wish
  ·rw [if_pos (.inl h2),decide_eq_true (show x.wish≥0 from h2),cond_true]
  ·rw [abH (show ¬x.wish≥0 from h2),cond_false]
   by_cases h3:x.opn=0
   ·rw [if_pos (.inr h3),show (x.opn==0)=true by simp [h3],cond_true]
   ·rw [if_neg (fun e=>e.elim h2 h3),show (x.opn==0)=false by simp [h3],cond_false]
    by_cases h4:x.opn<aN (dQ d)
    ·rw [if_pos h4,decide_eq_true (show aN (dQ d)>x.opn from h4),cond_true]
    ·rw [if_neg h4,abH (show ¬aN (dQ d)>x.opn from h4),cond_false]
theorem EN (h:A[k]? =some x) (hx:LOk x) (d:aa):
 mc (o,l,m,ref,pts,wt,()) (some k) d (A.map aj.tup)=some ((BI d x).1,(o,l,m,ref,pts,wt,()),(A.set k (BI d x).2).map aj.tup,()):=by
 unfold mc BI
 simp only [Option.bind_some,oQ h,Cs h,aaU]
 have b0:=hx.ret0;have b1:=hx.retr;have b2:=hx.rcvs;have b3:=hx.shp1;have b4:=hx.qO;have b5:=hx.ord1
 by_cases h1:0≤x.wish
 ·rw [if_pos h1,decide_eq_true (show x.wish≥0 from h1),cond_true,iw h]
 ·rw [if_neg h1,abH (show ¬x.wish≥0 from h1),cond_false]
  by_cases h2:x.ono=0
  ·rw [if_pos (.inl h2),show (x.ono==0)=true by simp [h2],cond_true,iw h]
  ·rw [show (x.ono==0)=false by simp [h2],cond_false]
   by_cases h3:x.ono=dTo d
   ·obtain ⟨c1,c2⟩:=hx.off h2
    rw [if_neg (fun e=>e.elim h2 (fun e=>e h3)),show (x.ono != d.2.2.2.2.2.2.2.2.2.2)=false by simpa using h3,cond_false,
     aD (n:=x.shp - x.ret) (by omega) (by omega),aD (n:=x.shp - x.ret+x.oq) (by omega) (by omega),
     lU { x with ord:=x.shp - x.ret+x.oq,due:=x.ount,ono:=0,oq:=0,ount:=0 } _ rfl]
   ·rw [if_pos (.inr h3),show (x.ono != d.2.2.2.2.2.2.2.2.2.2)=true by simpa using h3,cond_true,iw h]
theorem nC (h:A[k]? =some x) (hx:LOk x) (he0:0≤bM o) (he1:bM o≤1000) {d:aa} {z:Bool} (hq:qOk (dQ d) z=true):
 l9 (o,l,m,ref,pts,wt,()) (some k) d (A.map aj.tup)=some ((bW (bM o) d x).1,(o,l,m,ref,pts,wt,()),(A.set k (bW (bM o) d x).2).map aj.tup,()):=by
 unfold l9 bW
 simp only [Option.bind_some,oQ h,Cs h,lq hq]
 have b0:=hx.ret0;have b1:=hx.retr;have b2:=hx.rcvs;have b3:=hx.shp1;have b4:=hx.qO;have b5:=hx.ord1
 obtain ⟨q0,q1,_⟩:=jD hq
 by_cases k9:aG d=9
 ·rw [if_pos k9,show (d.2.2.2.1==9)=true by simpa using k9,cond_true]
  have m0:0≤x.ord*bM o:=ZO b4 he0
  have m1:x.ord*bM o≤x.ord*1000:=ZN he1 b4
  have e1:w64 (x.ord*bM o)=x.ord*bM o:=aD (by omega) (by omega)
  have e2:Int.tdiv (x.ord*bM o) 1000=x.ord*bM o / 1000:=ZW m0
  have d0:0≤x.ord*bM o / 1000:=Int.ediv_nonneg m0 (by omega)
  have d1:x.ord*bM o / 1000≤x.ord:=by omega
  rw [show w64 (x.ord*o.2.2.2.2.1)=x.ord*bM o from e1,e2,aD (n:=x.ord*bM o / 1000) (by omega) (by omega),aD (n:=x.ord+x.ord*bM o / 1000) (by omega) (by omega),
   aD (n:=x.shp - x.ret) (by omega) (by omega),aD (n:=x.shp - x.ret+aN (dQ d)) (by omega) (by omega),aD (n:=x.shp+aN (dQ d)) (by omega) (by omega)]
  by_cases c1:x.ord+x.ord*bM o / 1000<x.shp - x.ret+aN (dQ d)
  ·rw [if_pos c1,decide_eq_true (show x.shp - x.ret+aN (dQ d)>x.ord+x.ord*bM o / 1000 from c1),cond_true,iw h]
  ·rw [if_neg c1,abH (show ¬x.shp - x.ret+aN (dQ d)>x.ord+x.ord*bM o / 1000 from c1),cond_false]
   by_cases c2:1000000000000000<x.shp+aN (dQ d)
   ·rw [if_pos c2,decide_eq_true (show x.shp+aN (dQ d)>1000000000000000 from c2),cond_true,iw h]
   ·rw [if_neg c2,abH (show ¬x.shp+aN (dQ d)>1000000000000000 from c2),cond_false,lU { x with shp:=x.shp+aN (dQ d) } _ rfl]
 ·rw [if_neg k9,show (d.2.2.2.1==9)=false by simpa using k9,cond_false]
  by_cases k10:aG d=10
  ·rw [if_pos k10,show (d.2.2.2.1==10)=true by simpa using k10,cond_true,aD (n:=x.rcv+aN (dQ d)) (by omega) (by omega)]
   by_cases c1:x.shp<x.rcv+aN (dQ d)
   ·rw [if_pos c1,decide_eq_true (show x.rcv+aN (dQ d)>x.shp from c1),cond_true,iw h]
   ·rw [if_neg c1,abH (show ¬x.rcv+aN (dQ d)>x.shp from c1),cond_false,lU { x with rcv:=x.rcv+aN (dQ d) } _ rfl]
  ·rw [if_neg k10,show (d.2.2.2.1==10)=false by simpa using k10,cond_false,aD (n:=x.ret+aN (dQ d)) (by omega) (by omega)]
   by_cases c1:x.rcv<x.ret+aN (dQ d)
   ·rw [if_pos c1,decide_eq_true (show x.ret+aN (dQ d)>x.rcv from c1),cond_true,iw h]
   ·rw [if_neg c1,abH (show ¬x.ret+aN (dQ d)>x.rcv from c1),cond_false,lU { x with ret:=x.ret+aN (dQ d) } _ rfl]
end Go.Md
namespace Go.Md
open Go.Dn
def aj.clr (x:aj):aj:={ x with ono:=0,oq:=0,ount:=0 }
def aV (o:ai) (l:List aa) (i:Nat) (d:aa) (x:aj):Int×aj:=
 if aG d≤4 then rB (cu o) i d x
 else if aG d≤6 then (if (bA l d x).1=0 then (0,(bA l d x).2.clr) else bA l d x)
 else if aG d=7 then (if kr (cu o) d x=0 then (0,{ x with ono:=dNo d,oq:=aN (dQ d),ount:=eU d }) else (kr (cu o) d x,x))
 else if aG d=8 then BI d x
 else if aG d=9 then (if (bW (bM o) d x).1=0 then (0,(bW (bM o) d x).2.clr) else bW (bM o) d x)
 else bW (bM o) d x
def eN (i:Nat) (d:aa):aj:=⟨cD d,d.2.2.2.2.2.1,d.2.2.2.2.2.2.2.1,0,0,0,0,FA d,eU d,i,0,0,0⟩
def bg (o:ai) (l:List aa) (i:Nat) (d:aa) (A:List aj):Int×List aj:=
 if aG d=1 then
  (match fD (cD d) A with
  | some _=>(7,A)
  | none=>if 500≤A.length then (16,A) else if eU d<cu o then (1,A) else (0,A++[eN i d]))
 else match fD (cD d) A with
  | none=>(9,A)
  | some k=>match A[k]? with
   | some x=>((aV o l i d x).1,A.set k (aV o l i d x).2)
   | none=>(9,A)
structure Sound (l:List aa) (A:List aj):Prop where
 line:∀ x,x∈A→LOk x∧WOk l x
theorem YE {x:aj} (h:LOk x):LOk x.clr:=⟨h.ret0,h.retr,h.rcvs,h.shp1,h.qO,h.ord1,fun e=>absurd rfl e⟩
theorem UF {l:List aa} {d:aa} {x:aj} (hx:LOk x) (hw:WOk l x) (hl:∀ d,d∈l→aY d=0):((bA l d x).1=0→LOk (bA l d x).2.clr)∧((bA l d x).1≠0→(bA l d x).2=x)∧((bA l d x).2=x∨(bA l d x).2.wish= -1)∧(bA l d x).2.no=x.no:=by
 have hk:LOk x.clr:=YE hx
 unfold bA
 by_cases h1:x.wish<0
 ·rw [if_pos h1];exact ⟨nofun,fun _=>rfl,.inl rfl,rfl⟩
 rw [if_neg h1]
 obtain ⟨w,hw1,hw2⟩:=hw.kind (by omega)
 rw [k5 hw1]
 obtain ⟨_,_,_,_,_,_,hu⟩:=bz (hl w (List.mem_of_getElem? hw1))
 obtain ⟨uq,_⟩:=cW hu
 by_cases h2:dNo w≠dTo d
 ·rw [if_pos h2];exact ⟨nofun,fun _=>rfl,.inl rfl,rfl⟩
 rw [if_neg h2]
 by_cases h3:aG d=5
 ·rw [if_pos h3]
  by_cases k2:aG w=2
  ·rw [if_pos k2]
   obtain ⟨q0,q1,_⟩:=jD (uq (by rw [k2];rfl))
   by_cases h4:aN (dQ w)<x.shp - x.ret
   ·rw [if_pos h4];exact ⟨nofun,fun _=>rfl,.inl rfl,rfl⟩
   ·rw [if_neg h4];exact ⟨fun _=>⟨hx.ret0,hx.retr,hx.rcvs,hx.shp1,q0,q1,fun e=>absurd rfl e⟩,fun e=>absurd rfl e,.inr rfl,rfl⟩
  ·rw [if_neg k2]
   by_cases k1:aG w=1
   ·rw [if_pos k1]
    obtain ⟨q0,q1,_⟩:=jD (uq (by rw [k1];rfl))
    exact ⟨fun _=>⟨hx.ret0,hx.retr,hx.rcvs,hx.shp1,q0,q1,fun e=>absurd rfl e⟩,fun e=>absurd rfl e,.inr rfl,rfl⟩
   ·rw [if_neg k1]
    by_cases k3:aG w=3
    ·rw [if_pos k3];exact ⟨fun _=>⟨hx.ret0,hx.retr,hx.rcvs,hx.shp1,hx.qO,hx.ord1,fun e=>absurd rfl e⟩,fun e=>absurd rfl e,.inr rfl,rfl⟩
    ·rw [if_neg k3];exact ⟨fun _=>⟨hx.ret0,hx.retr,hx.rcvs,hx.shp1,hx.qO,hx.ord1,fun e=>absurd rfl e⟩,fun e=>absurd rfl e,.inr rfl,rfl⟩
 ·rw [if_neg h3];exact ⟨fun _=>⟨hx.ret0,hx.retr,hx.rcvs,hx.shp1,hx.qO,hx.ord1,fun e=>absurd rfl e⟩,fun e=>absurd rfl e,.inr rfl,rfl⟩
theorem Xk {ext:Int} {d:aa} {x:aj} {z:Bool} (hx:LOk x) (hq:qOk (dQ d) z=true):((bW ext d x).1=0→LOk (if aG d=9 then (bW ext d x).2.clr else (bW ext d x).2))∧((bW ext d x).1≠0→(bW ext d x).2=x)∧(bW ext d x).2.wish=x.wish∧(bW ext d x).2.no=x.no:=by
 obtain ⟨q0,q1,_⟩:=jD hq
 have b0:=hx.ret0;have b1:=hx.retr;have b2:=hx.rcvs;have b3:=hx.shp1
 unfold bW
 by_cases k9:aG d=9
 ·rw [if_pos k9,if_pos k9]
  split
  ·exact ⟨nofun,fun _=>rfl,rfl,rfl⟩
  ·split
   ·exact ⟨nofun,fun _=>rfl,rfl,rfl⟩
   ·rename_i h1 h2
    exact ⟨fun _=>⟨b0,b1,by show x.rcv≤x.shp+aN (dQ d);omega,by show x.shp+aN (dQ d)≤_;omega,hx.qO,hx.ord1,fun e=>absurd rfl e⟩,fun e=>absurd rfl e,rfl,rfl⟩
 ·rw [if_neg k9,if_neg k9]
  by_cases k10:aG d=10
  ·rw [if_pos k10]
   split
   ·exact ⟨nofun,fun _=>rfl,rfl,rfl⟩
   ·rename_i h1
    exact ⟨fun _=>⟨b0,by show x.ret≤x.rcv+aN (dQ d);omega,by show x.rcv+aN (dQ d)≤x.shp;omega,b3,hx.qO,hx.ord1,hx.off⟩,fun e=>absurd rfl e,rfl,rfl⟩
  ·rw [if_neg k10]
   split
   ·exact ⟨nofun,fun _=>rfl,rfl,rfl⟩
   ·rename_i h1
    exact ⟨fun _=>⟨by show 0≤x.ret+aN (dQ d);omega,by show x.ret+aN (dQ d)≤x.rcv;omega,b2,b3,hx.qO,hx.ord1,fun e=>by
     obtain ⟨c1,c2⟩:=hx.off e
     exact ⟨c1,by show x.oq+x.shp - (x.ret+aN (dQ d))≤x.ord;omega⟩⟩,fun e=>absurd rfl e,rfl,rfl⟩
theorem BN {o:ai} {l:List aa} {i:Nat} {d:aa} {x:aj} (hx:LOk x) (hw:WOk l x) (hl:∀ d,d∈l→aY d=0) (hd:l[i]? =some d):
 LOk (aV o l i d x).2∧WOk l (aV o l i d x).2∧(aV o l i d x).2.no=x.no∧((aV o l i d x).1≠0→(aV o l i d x).2=x):=by
 obtain ⟨_,_,_,hk,_,_,hu⟩:=bz (hl d (List.mem_of_getElem? hd))
 obtain ⟨uq,_⟩:=cW hu
 unfold aV
 by_cases k4:aG d≤4
 ·rw [if_pos k4]
  unfold rB
  split
  ·exact ⟨hx,hw,rfl,fun _=>rfl⟩
  ·split
   ·exact ⟨hx,hw,rfl,fun _=>rfl⟩
   ·refine ⟨⟨hx.ret0,hx.retr,hx.rcvs,hx.shp1,hx.qO,hx.ord1,hx.off⟩,⟨by show (-1:Int)≤(i:Int);omega,fun _=>⟨d,by show l[((i:Int)).toNat]? =some d;simpa using hd,k4⟩⟩,rfl,fun e=>absurd rfl e⟩
 ·rw [if_neg k4]
  by_cases k6:aG d≤6
  ·rw [if_pos k6]
   obtain ⟨a1,a2,a3,a4⟩:=UF (d:=d) hx hw hl
   split
   ·rename_i e
    refine ⟨a1 e, ?_,a4,fun e=>absurd rfl e⟩
    rcases a3 with a3 | a3
    ·rw [a3];exact ⟨hw.low,hw.kind⟩
    ·exact ⟨by show -1≤(bA l d x).2.wish;omega,fun h=>by have:0≤(bA l d x).2.wish:=h;omega⟩
   ·rename_i e
    rw [a2 e];exact ⟨hx,hw,rfl,fun _=>rfl⟩
  ·rw [if_neg k6]
   by_cases k7:aG d=7
   ·rw [if_pos k7]
    have hq:=uq (by rw [k7];rfl)
    rw [show (aG d==2)=false by rw [k7];rfl] at hq
    obtain ⟨q0,q1,q2⟩:=jD hq
    split
    ·rename_i e
     refine ⟨⟨hx.ret0,hx.retr,hx.rcvs,hx.shp1,hx.qO,hx.ord1,fun _=>⟨q2 rfl, ?_⟩⟩,⟨hw.low,hw.kind⟩,rfl,fun e=>absurd rfl e⟩
     show aN (dQ d)+x.shp - x.ret≤x.ord
     unfold kr at e
     split at e
     ·cases e
     ·split at e
      ·cases e
      ·split at e
       ·cases e
       ·rename_i h1 h2 h3
        have:=q2 rfl
        unfold aj.opn at h3
        split at h3<;>omega
    ·exact ⟨hx,hw,rfl,fun _=>rfl⟩
   ·rw [if_neg k7]
    by_cases k8:aG d=8
    ·rw [if_pos k8]
     unfold BI
     split
     ·exact ⟨hx,hw,rfl,fun _=>rfl⟩
     ·split
      ·exact ⟨hx,hw,rfl,fun _=>rfl⟩
      ·rename_i h1 h2
       obtain ⟨c1,c2⟩:=hx.off (fun e=>h2 (.inl e))
       have:=hx.ret0;have:=hx.retr;have:=hx.rcvs;have:=hx.ord1
       refine ⟨⟨hx.ret0,hx.retr,hx.rcvs,hx.shp1, ?_, ?_,fun e=>absurd rfl e⟩,⟨hw.low,hw.kind⟩,rfl,fun e=>absurd rfl e⟩
       ·show 0≤x.shp - x.ret+x.oq;omega
       ·show x.shp - x.ret+x.oq≤1000000000000;omega
    ·rw [if_neg k8]
     have hq:=uq (by
      unfold usQ
      refine decide_eq_true ⟨by omega,by omega,by omega,by omega,by omega⟩)
     obtain ⟨a1,a2,a3,a4⟩:=Xk (ext:=bM o) hx hq
     by_cases k9:aG d=9
     ·rw [if_pos k9]
      split
      ·rename_i e
       have:=a1 e
       rw [if_pos k9] at this
       exact ⟨this,⟨by show -1≤(bW (bM o) d x).2.wish;rw [a3];exact hw.low,fun h=>by
        have h':0≤(bW (bM o) d x).2.wish:=h
        rw [a3] at h'
        show ∃ d',l[(bW (bM o) d x).2.wish.toNat]? =some d'∧_
        rw [a3];exact hw.kind h'⟩,a4,fun e=>absurd rfl e⟩
      ·rename_i e
       rw [a2 e];exact ⟨hx,hw,rfl,fun _=>rfl⟩
     ·rw [if_neg k9]
      by_cases e:(bW (bM o) d x).1=0
      ·have:=a1 e
       rw [if_neg k9] at this
       exact ⟨this,⟨by rw [a3];exact hw.low,fun h=>by rw [a3] at h ⊢;exact hw.kind h⟩,a4,fun h=>absurd e h⟩
      ·rw [a2 e];exact ⟨hx,hw,rfl,fun _=>rfl⟩
theorem WM {l:List aa} {A:List aj} (h:Sound l A) {k:Nat} {y:aj} (h1:LOk y) (h2:WOk l y):Sound l (A.set k y):=⟨fun x hx=>by
 rcases aaN hx with hx | hx
 ·exact h.line x hx
 ·subst hx;exact ⟨h1,h2⟩⟩
theorem Mg {o:ai} {l:List aa} {i:Nat} {d:aa} {A:List aj} (hA:Sound l A) (hl:∀ d,d∈l→aY d=0) (hd:l[i]? =some d):
 Sound l (bg o l i d A).2∧((bg o l i d A).1≠0→(bg o l i d A).2=A):=by
 unfold bg
 by_cases k1:aG d=1
 ·rw [if_pos k1]
  split
  ·exact ⟨hA,fun _=>rfl⟩
  ·split
   ·exact ⟨hA,fun _=>rfl⟩
   ·split
    ·exact ⟨hA,fun _=>rfl⟩
    ·refine ⟨⟨fun x hx=> ?_⟩,fun e=>absurd rfl e⟩
     rcases aaE.1 hx with hx | hx
     ·exact hA.line x hx
     ·simp only [aaP] at hx
      subst hx
      exact ⟨⟨by show (0:Int)≤0;omega,by show (0:Int)≤0;omega,by show (0:Int)≤0;omega,by show (0:Int)≤_;omega,by show (0:Int)≤0;omega,by show (0:Int)≤_;omega,fun e=>absurd rfl e⟩,
       ⟨by show (-1:Int)≤(i:Int);omega,fun _=>⟨d,by show l[((i:Int)).toNat]? =some d;simpa using hd,by omega⟩⟩⟩
 ·rw [if_neg k1]
  split
  ·exact ⟨hA,fun _=>rfl⟩
  ·rename_i k hk
   split
   ·rename_i x hx
    obtain ⟨h1,h2⟩:=hA.line x (List.mem_of_getElem? hx)
    obtain ⟨a1,a2,a3,a4⟩:=BN (o:=o) h1 h2 hl hd
    exact ⟨WM hA a1 a2,fun e=>by rw [a4 e];exact iw hx⟩
   ·exact ⟨hA,fun _=>rfl⟩
variable {o:ai} {l:List aa} {ref:List ah} {pts:List aB} {wt:Int} {A:List aj}
theorem FZ {i:Nat} {d:aa} (hd:l[i]? =some d) (k1:aG d=1):
 mW (o,l,mapOf A,ref,pts,wt,()) (i:Int) (A.map aj.tup)=some ((bg o l i d A).1,(o,l,mapOf (bg o l i d A).2,ref,pts,wt,()),(bg o l i d A).2.map aj.tup,()):=by
 unfold mW bg
 dsimp only
 rw [bQ hd,Option.bind_some,ij,if_pos k1]
 cases hf:fD (cD d) A with
 | some k=>rw [show bR d.2.2.2.2.1 0 A=some k from hf];rfl
 | none=>
  rw [show bR d.2.2.2.2.1 0 A=none from hf]
  dsimp only
  rw [show (!Option.isNone (none:Option Nat))=false from rfl,cond_false]
  by_cases h1:500≤A.length
  ·rw [if_pos h1,decide_eq_true (show ((mapOf A).length:Int)≥500 by rw [JR];omega),cond_true]
  ·rw [if_neg h1,abH (show ¬((mapOf A).length:Int)≥500 by rw [JR];omega),cond_false]
   by_cases h2:eU d<cu o
   ·rw [if_pos h2,decide_eq_true h2,cond_true]
   ·rw [if_neg h2,abH h2,cond_false]
    have hs:=ME (cD d) (eN i d) rfl A 0 hf
    rw [abu] at hs
    rw [aaw]
    refine congrArg some ?_
    refine Prod.ext rfl (Prod.ext ?_ (Prod.ext ?_ rfl))
    ·exact Prod.ext rfl (Prod.ext rfl (Prod.ext hs rfl))
    ·show List.map aj.tup A++[_]=List.map aj.tup (A++[eN i d])
     rw [aaB]
     rfl
end Go.Md
namespace Go.Md
open Go.Dn
theorem Gq {o:ai} {l:List aa} {i:Nat} {d:aa} {A:List aj} (k1:aG d≠1) (hf:fD (cD d) A=none):bg o l i d A=(9,A):=by
 unfold bg;rw [if_neg k1,hf]
theorem Jf {o:ai} {l:List aa} {i:Nat} {d:aa} {A:List aj} {k:Nat} {x:aj} (k1:aG d≠1) (hf:fD (cD d) A=some k) (hx:A[k]? =some x):bg o l i d A=((aV o l i d x).1,A.set k (aV o l i d x).2):=by
 unfold bg;rw [if_neg k1,hf];dsimp only;rw [hx]
variable {o:ai} {l:List aa} {ref:List ah} {pts:List aB} {wt:Int} {A:List aj}
theorem PA {k:Nat} (x:aj) (y:aj) (T:aM) (hT:T=y.tup):List.set ((A.set k x).map aj.tup) k T=(A.set k y).map aj.tup:=by
 rw [hT,Uy,aaU]
theorem XX {onum obuy osel:List UInt8} {oday oext:Int} {olns:List aI} {day byy no line:Int} {art:List UInt8} {q:ah} {unit:List UInt8} {p:ah} {un to:Int} {i:Nat} (he0:0≤oext) (he1:oext≤1000) (hl:∀ d,d∈l→aY d=0)
 (hd:l[i]? =some (day,byy,no,2,line,art,q,unit,p,un,to)) {k:Nat} {x:aj} (hf:bR line 0 A=some k) (hx:A[k]? =some x) (hs:LOk x) (hw:WOk l x):
 aP ((onum,obuy,osel,oday,oext,olns),l,mapOf A,ref,pts,wt,()) (i:Int) (A.map aj.tup)=some ((aV (onum,obuy,osel,oday,oext,olns) l i (day,byy,no,2,line,art,q,unit,p,un,to) x).1,((onum,obuy,osel,oday,oext,olns),l,mapOf A,ref,pts,wt,()),(A.set k (aV (onum,obuy,osel,oday,oext,olns) l i (day,byy,no,2,line,art,q,unit,p,un,to) x).2).map aj.tup,()):=by
 have hdf:=hl _ (List.mem_of_getElem? hd)
 obtain ⟨_,_,_,_,_,_,hu⟩:=bz hdf
 obtain ⟨uq,_⟩:=cW hu
 have h21:((2:Int)==1)=false:=rfl
 have h22:((2:Int)==2)=true:=rfl
 have h23:((2:Int)==3)=false:=rfl
 have h24:((2:Int)==4)=false:=rfl
 have h25:((2:Int)==5)=false:=rfl
 have h26:((2:Int)==6)=false:=rfl
 have h27:((2:Int)==7)=false:=rfl
 have h28:((2:Int)==8)=false:=rfl
 have h29:((2:Int)==9)=false:=rfl
 unfold aP
 dsimp only
 rw [bQ hd,Option.bind_some]
 dsimp only
 rw [ij,hf]
 simp only [h21,h22,h23,h24,h25,h26,h27,h28,h29,cond_true,cond_false,aL,aby,Option.bind_some,nD hx hd]
 rfl
theorem XY {onum obuy osel:List UInt8} {oday oext:Int} {olns:List aI} {day byy no line:Int} {art:List UInt8} {q:ah} {unit:List UInt8} {p:ah} {un to:Int} {i:Nat} (he0:0≤oext) (he1:oext≤1000) (hl:∀ d,d∈l→aY d=0)
 (hd:l[i]? =some (day,byy,no,3,line,art,q,unit,p,un,to)) {k:Nat} {x:aj} (hf:bR line 0 A=some k) (hx:A[k]? =some x) (hs:LOk x) (hw:WOk l x):
 aP ((onum,obuy,osel,oday,oext,olns),l,mapOf A,ref,pts,wt,()) (i:Int) (A.map aj.tup)=some ((aV (onum,obuy,osel,oday,oext,olns) l i (day,byy,no,3,line,art,q,unit,p,un,to) x).1,((onum,obuy,osel,oday,oext,olns),l,mapOf A,ref,pts,wt,()),(A.set k (aV (onum,obuy,osel,oday,oext,olns) l i (day,byy,no,3,line,art,q,unit,p,un,to) x).2).map aj.tup,()):=by
 have hdf:=hl _ (List.mem_of_getElem? hd)
 obtain ⟨_,_,_,_,_,_,hu⟩:=bz hdf
 obtain ⟨uq,_⟩:=cW hu
 have h31:((3:Int)==1)=false:=rfl
 have h32:((3:Int)==2)=false:=rfl
 have h33:((3:Int)==3)=true:=rfl
 have h34:((3:Int)==4)=false:=rfl
 have h35:((3:Int)==5)=false:=rfl
 have h36:((3:Int)==6)=false:=rfl
 have h37:((3:Int)==7)=false:=rfl
 have h38:((3:Int)==8)=false:=rfl
 have h39:((3:Int)==9)=false:=rfl
 unfold aP
 dsimp only
 rw [bQ hd,Option.bind_some]
 dsimp only
 rw [ij,hf]
 simp only [h31,h32,h33,h34,h35,h36,h37,h38,h39,cond_true,cond_false,aL,aby,Option.bind_some,nD hx hd]
 rfl
theorem XZ {onum obuy osel:List UInt8} {oday oext:Int} {olns:List aI} {day byy no line:Int} {art:List UInt8} {q:ah} {unit:List UInt8} {p:ah} {un to:Int} {i:Nat} (he0:0≤oext) (he1:oext≤1000) (hl:∀ d,d∈l→aY d=0)
 (hd:l[i]? =some (day,byy,no,4,line,art,q,unit,p,un,to)) {k:Nat} {x:aj} (hf:bR line 0 A=some k) (hx:A[k]? =some x) (hs:LOk x) (hw:WOk l x):
 aP ((onum,obuy,osel,oday,oext,olns),l,mapOf A,ref,pts,wt,()) (i:Int) (A.map aj.tup)=some ((aV (onum,obuy,osel,oday,oext,olns) l i (day,byy,no,4,line,art,q,unit,p,un,to) x).1,((onum,obuy,osel,oday,oext,olns),l,mapOf A,ref,pts,wt,()),(A.set k (aV (onum,obuy,osel,oday,oext,olns) l i (day,byy,no,4,line,art,q,unit,p,un,to) x).2).map aj.tup,()):=by
 have hdf:=hl _ (List.mem_of_getElem? hd)
 obtain ⟨_,_,_,_,_,_,hu⟩:=bz hdf
 obtain ⟨uq,_⟩:=cW hu
 have h41:((4:Int)==1)=false:=rfl
 have h42:((4:Int)==2)=false:=rfl
 have h43:((4:Int)==3)=false:=rfl
 have h44:((4:Int)==4)=true:=rfl
 have h45:((4:Int)==5)=false:=rfl
 have h46:((4:Int)==6)=false:=rfl
 have h47:((4:Int)==7)=false:=rfl
 have h48:((4:Int)==8)=false:=rfl
 have h49:((4:Int)==9)=false:=rfl
 unfold aP
 dsimp only
 rw [bQ hd,Option.bind_some]
 dsimp only
 rw [ij,hf]
 simp only [h41,h42,h43,h44,h45,h46,h47,h48,h49,cond_true,cond_false,aL,aby,Option.bind_some,nD hx hd]
 rfl
theorem X0 {onum obuy osel:List UInt8} {oday oext:Int} {olns:List aI} {day byy no line:Int} {art:List UInt8} {q:ah} {unit:List UInt8} {p:ah} {un to:Int} {i:Nat} (he0:0≤oext) (he1:oext≤1000) (hl:∀ d,d∈l→aY d=0)
 (hd:l[i]? =some (day,byy,no,5,line,art,q,unit,p,un,to)) {k:Nat} {x:aj} (hf:bR line 0 A=some k) (hx:A[k]? =some x) (hs:LOk x) (hw:WOk l x):
 aP ((onum,obuy,osel,oday,oext,olns),l,mapOf A,ref,pts,wt,()) (i:Int) (A.map aj.tup)=some ((aV (onum,obuy,osel,oday,oext,olns) l i (day,byy,no,5,line,art,q,unit,p,un,to) x).1,((onum,obuy,osel,oday,oext,olns),l,mapOf A,ref,pts,wt,()),(A.set k (aV (onum,obuy,osel,oday,oext,olns) l i (day,byy,no,5,line,art,q,unit,p,un,to) x).2).map aj.tup,()):=by
 have hdf:=hl _ (List.mem_of_getElem? hd)
 obtain ⟨_,_,_,_,_,_,hu⟩:=bz hdf
 obtain ⟨uq,_⟩:=cW hu
 have h51:((5:Int)==1)=false:=rfl
 have h52:((5:Int)==2)=false:=rfl
 have h53:((5:Int)==3)=false:=rfl
 have h54:((5:Int)==4)=false:=rfl
 have h55:((5:Int)==5)=true:=rfl
 have h56:((5:Int)==6)=false:=rfl
 have h57:((5:Int)==7)=false:=rfl
 have h58:((5:Int)==8)=false:=rfl
 have h59:((5:Int)==9)=false:=rfl
 unfold aP
 dsimp only
 rw [bQ hd,Option.bind_some]
 dsimp only
 rw [ij,hf]
 simp only [h51,h52,h53,h54,h55,h56,h57,h58,h59,cond_true,cond_false,aL,aby,Option.bind_some,sd hx hs hw hl,eZ]
 have ha:aV (onum,obuy,osel,oday,oext,olns) l i (day,byy,no,5,line,art,q,unit,p,un,to) x=(if (bA l (day,byy,no,5,line,art,q,unit,p,un,to) x).1=0 then (0,(bA l (day,byy,no,5,line,art,q,unit,p,un,to) x).2.clr) else bA l (day,byy,no,5,line,art,q,unit,p,un,to) x):=rfl
 rw [ha]
 by_cases e:(bA l (day,byy,no,5,line,art,q,unit,p,un,to) x).1=0
 ·rw [if_pos e,e]
  simp only [show ((0:Int)==0)=true from rfl,cond_true,Option.bind_some,oQ (KK hx _)]
  simp only [true_or,or_true,abL,cond_true]
  refine congrArg some (Prod.ext rfl (Prod.ext rfl (Prod.ext ?_ rfl)))
  exact PA (bA l (day,byy,no,5,line,art,q,unit,p,un,to) x).2 ((bA l (day,byy,no,5,line,art,q,unit,p,un,to) x).2.clr) _ rfl
 ·rw [if_neg e,bU e,cond_false]
  rfl
theorem X1 {onum obuy osel:List UInt8} {oday oext:Int} {olns:List aI} {day byy no line:Int} {art:List UInt8} {q:ah} {unit:List UInt8} {p:ah} {un to:Int} {i:Nat} (he0:0≤oext) (he1:oext≤1000) (hl:∀ d,d∈l→aY d=0)
 (hd:l[i]? =some (day,byy,no,6,line,art,q,unit,p,un,to)) {k:Nat} {x:aj} (hf:bR line 0 A=some k) (hx:A[k]? =some x) (hs:LOk x) (hw:WOk l x):
 aP ((onum,obuy,osel,oday,oext,olns),l,mapOf A,ref,pts,wt,()) (i:Int) (A.map aj.tup)=some ((aV (onum,obuy,osel,oday,oext,olns) l i (day,byy,no,6,line,art,q,unit,p,un,to) x).1,((onum,obuy,osel,oday,oext,olns),l,mapOf A,ref,pts,wt,()),(A.set k (aV (onum,obuy,osel,oday,oext,olns) l i (day,byy,no,6,line,art,q,unit,p,un,to) x).2).map aj.tup,()):=by
 have hdf:=hl _ (List.mem_of_getElem? hd)
 obtain ⟨_,_,_,_,_,_,hu⟩:=bz hdf
 obtain ⟨uq,_⟩:=cW hu
 have h61:((6:Int)==1)=false:=rfl
 have h62:((6:Int)==2)=false:=rfl
 have h63:((6:Int)==3)=false:=rfl
 have h64:((6:Int)==4)=false:=rfl
 have h65:((6:Int)==5)=false:=rfl
 have h66:((6:Int)==6)=true:=rfl
 have h67:((6:Int)==7)=false:=rfl
 have h68:((6:Int)==8)=false:=rfl
 have h69:((6:Int)==9)=false:=rfl
 unfold aP
 dsimp only
 rw [bQ hd,Option.bind_some]
 dsimp only
 rw [ij,hf]
 simp only [h61,h62,h63,h64,h65,h66,h67,h68,h69,cond_true,cond_false,aL,aby,Option.bind_some,sd hx hs hw hl,eZ]
 have ha:aV (onum,obuy,osel,oday,oext,olns) l i (day,byy,no,6,line,art,q,unit,p,un,to) x=(if (bA l (day,byy,no,6,line,art,q,unit,p,un,to) x).1=0 then (0,(bA l (day,byy,no,6,line,art,q,unit,p,un,to) x).2.clr) else bA l (day,byy,no,6,line,art,q,unit,p,un,to) x):=rfl
 rw [ha]
 by_cases e:(bA l (day,byy,no,6,line,art,q,unit,p,un,to) x).1=0
 ·rw [if_pos e,e]
  simp only [show ((0:Int)==0)=true from rfl,cond_true,Option.bind_some,oQ (KK hx _)]
  simp only [true_or,or_true,abL,cond_true]
  refine congrArg some (Prod.ext rfl (Prod.ext rfl (Prod.ext ?_ rfl)))
  exact PA (bA l (day,byy,no,6,line,art,q,unit,p,un,to) x).2 ((bA l (day,byy,no,6,line,art,q,unit,p,un,to) x).2.clr) _ rfl
 ·rw [if_neg e,bU e,cond_false]
  rfl
theorem X2 {onum obuy osel:List UInt8} {oday oext:Int} {olns:List aI} {day byy no line:Int} {art:List UInt8} {q:ah} {unit:List UInt8} {p:ah} {un to:Int} {i:Nat} (he0:0≤oext) (he1:oext≤1000) (hl:∀ d,d∈l→aY d=0)
 (hd:l[i]? =some (day,byy,no,7,line,art,q,unit,p,un,to)) {k:Nat} {x:aj} (hf:bR line 0 A=some k) (hx:A[k]? =some x) (hs:LOk x) (hw:WOk l x):
 aP ((onum,obuy,osel,oday,oext,olns),l,mapOf A,ref,pts,wt,()) (i:Int) (A.map aj.tup)=some ((aV (onum,obuy,osel,oday,oext,olns) l i (day,byy,no,7,line,art,q,unit,p,un,to) x).1,((onum,obuy,osel,oday,oext,olns),l,mapOf A,ref,pts,wt,()),(A.set k (aV (onum,obuy,osel,oday,oext,olns) l i (day,byy,no,7,line,art,q,unit,p,un,to) x).2).map aj.tup,()):=by
 have hdf:=hl _ (List.mem_of_getElem? hd)
 obtain ⟨_,_,_,_,_,_,hu⟩:=bz hdf
 obtain ⟨uq,_⟩:=cW hu
 have h71:((7:Int)==1)=false:=rfl
 have h72:((7:Int)==2)=false:=rfl
 have h73:((7:Int)==3)=false:=rfl
 have h74:((7:Int)==4)=false:=rfl
 have h75:((7:Int)==5)=false:=rfl
 have h76:((7:Int)==6)=false:=rfl
 have h77:((7:Int)==7)=true:=rfl
 have h78:((7:Int)==8)=false:=rfl
 have h79:((7:Int)==9)=false:=rfl
 unfold aP
 dsimp only
 rw [bQ hd,Option.bind_some]
 dsimp only
 rw [ij,hf]
 have hq:qOk q false=true:=uq rfl
 simp only [h71,h72,h73,h74,h75,h76,h77,h78,h79,cond_true,cond_false,aL,aby,Option.bind_some,BC hx hs (d:=(day,byy,no,7,line,art,q,unit,p,un,to)) hq,eZ]
 have ha:aV (onum,obuy,osel,oday,oext,olns) l i (day,byy,no,7,line,art,q,unit,p,un,to) x=(if kr oday (day,byy,no,7,line,art,q,unit,p,un,to) x=0 then (0,{ x with ono:=no,oq:=aN q,ount:=un }) else (kr oday (day,byy,no,7,line,art,q,unit,p,un,to) x,x)):=rfl
 rw [ha]
 by_cases e:kr oday (day,byy,no,7,line,art,q,unit,p,un,to) x=0
 ·rw [if_pos e,show kr (cu (onum,obuy,osel,oday,oext,olns)) (day,byy,no,7,line,art,q,unit,p,un,to) x=0 from e]
  simp only [show ((0:Int)==0)=true from rfl,cond_true,Option.bind_some,oQ hx]
  simp only [true_or,or_true,abL,cond_true]
  rw [show fZ (q.1,q.2)=some (aN q,()) from lq hq,Option.bind_some]
  simp only [Cs hx,Option.bind_some,aaU]
  rw [lU { x with ono:=no,oq:=aN q,ount:=un } _ rfl]
 ·rw [if_neg e,show (kr (cu (onum,obuy,osel,oday,oext,olns)) (day,byy,no,7,line,art,q,unit,p,un,to) x==0)=false from bU e,cond_false,iw hx]
  rfl
theorem X3 {onum obuy osel:List UInt8} {oday oext:Int} {olns:List aI} {day byy no line:Int} {art:List UInt8} {q:ah} {unit:List UInt8} {p:ah} {un to:Int} {i:Nat} (he0:0≤oext) (he1:oext≤1000) (hl:∀ d,d∈l→aY d=0)
 (hd:l[i]? =some (day,byy,no,8,line,art,q,unit,p,un,to)) {k:Nat} {x:aj} (hf:bR line 0 A=some k) (hx:A[k]? =some x) (hs:LOk x) (hw:WOk l x):
 aP ((onum,obuy,osel,oday,oext,olns),l,mapOf A,ref,pts,wt,()) (i:Int) (A.map aj.tup)=some ((aV (onum,obuy,osel,oday,oext,olns) l i (day,byy,no,8,line,art,q,unit,p,un,to) x).1,((onum,obuy,osel,oday,oext,olns),l,mapOf A,ref,pts,wt,()),(A.set k (aV (onum,obuy,osel,oday,oext,olns) l i (day,byy,no,8,line,art,q,unit,p,un,to) x).2).map aj.tup,()):=by
 have hdf:=hl _ (List.mem_of_getElem? hd)
 obtain ⟨_,_,_,_,_,_,hu⟩:=bz hdf
 obtain ⟨uq,_⟩:=cW hu
 have h81:((8:Int)==1)=false:=rfl
 have h82:((8:Int)==2)=false:=rfl
 have h83:((8:Int)==3)=false:=rfl
 have h84:((8:Int)==4)=false:=rfl
 have h85:((8:Int)==5)=false:=rfl
 have h86:((8:Int)==6)=false:=rfl
 have h87:((8:Int)==7)=false:=rfl
 have h88:((8:Int)==8)=true:=rfl
 have h89:((8:Int)==9)=false:=rfl
 unfold aP
 dsimp only
 rw [bQ hd,Option.bind_some]
 dsimp only
 rw [ij,hf]
 simp only [h81,h82,h83,h84,h85,h86,h87,h88,h89,cond_true,cond_false,aL,aby,Option.bind_some,EN hx hs]
 rfl
theorem X4 {onum obuy osel:List UInt8} {oday oext:Int} {olns:List aI} {day byy no line:Int} {art:List UInt8} {q:ah} {unit:List UInt8} {p:ah} {un to:Int} {i:Nat} (he0:0≤oext) (he1:oext≤1000) (hl:∀ d,d∈l→aY d=0)
 (hd:l[i]? =some (day,byy,no,9,line,art,q,unit,p,un,to)) {k:Nat} {x:aj} (hf:bR line 0 A=some k) (hx:A[k]? =some x) (hs:LOk x) (hw:WOk l x):
 aP ((onum,obuy,osel,oday,oext,olns),l,mapOf A,ref,pts,wt,()) (i:Int) (A.map aj.tup)=some ((aV (onum,obuy,osel,oday,oext,olns) l i (day,byy,no,9,line,art,q,unit,p,un,to) x).1,((onum,obuy,osel,oday,oext,olns),l,mapOf A,ref,pts,wt,()),(A.set k (aV (onum,obuy,osel,oday,oext,olns) l i (day,byy,no,9,line,art,q,unit,p,un,to) x).2).map aj.tup,()):=by
 have hdf:=hl _ (List.mem_of_getElem? hd)
 obtain ⟨_,_,_,_,_,_,hu⟩:=bz hdf
 obtain ⟨uq,_⟩:=cW hu
 have h91:((9:Int)==1)=false:=rfl
 have h92:((9:Int)==2)=false:=rfl
 have h93:((9:Int)==3)=false:=rfl
 have h94:((9:Int)==4)=false:=rfl
 have h95:((9:Int)==5)=false:=rfl
 have h96:((9:Int)==6)=false:=rfl
 have h97:((9:Int)==7)=false:=rfl
 have h98:((9:Int)==8)=false:=rfl
 have h99:((9:Int)==9)=true:=rfl
 unfold aP
 dsimp only
 rw [bQ hd,Option.bind_some]
 dsimp only
 rw [ij,hf]
 have hq:qOk q false=true:=uq rfl
 simp only [h91,h92,h93,h94,h95,h96,h97,h98,h99,cond_true,cond_false,aL,aby,Option.bind_some,nC hx hs (o:=(onum,obuy,osel,oday,oext,olns)) he0 he1 (d:=(day,byy,no,9,line,art,q,unit,p,un,to)) hq,eZ]
 have ha:aV (onum,obuy,osel,oday,oext,olns) l i (day,byy,no,9,line,art,q,unit,p,un,to) x=(if (bW oext (day,byy,no,9,line,art,q,unit,p,un,to) x).1=0 then (0,(bW oext (day,byy,no,9,line,art,q,unit,p,un,to) x).2.clr) else bW oext (day,byy,no,9,line,art,q,unit,p,un,to) x):=rfl
 rw [ha]
 by_cases e:(bW oext (day,byy,no,9,line,art,q,unit,p,un,to) x).1=0
 ·rw [if_pos e,show (bW (bM (onum,obuy,osel,oday,oext,olns)) (day,byy,no,9,line,art,q,unit,p,un,to) x).1=0 from e]
  simp only [show ((0:Int)==0)=true from rfl,cond_true,Option.bind_some,oQ (KK hx _)]
  simp only [true_or,or_true,abL,cond_true]
  refine congrArg some (Prod.ext rfl (Prod.ext rfl (Prod.ext ?_ rfl)))
  exact PA (bW oext (day,byy,no,9,line,art,q,unit,p,un,to) x).2 ((bW oext (day,byy,no,9,line,art,q,unit,p,un,to) x).2.clr) _ rfl
 ·rw [if_neg e,show ((bW (bM (onum,obuy,osel,oday,oext,olns)) (day,byy,no,9,line,art,q,unit,p,un,to) x).1==0)=false from bU e,cond_false]
  rfl
theorem W7 {onum obuy osel:List UInt8} {oday oext:Int} {olns:List aI} {day byy no line:Int} {art:List UInt8} {q:ah} {unit:List UInt8} {p:ah} {un to:Int} {i:Nat} (he0:0≤oext) (he1:oext≤1000) (hl:∀ d,d∈l→aY d=0)
 (hd:l[i]? =some (day,byy,no,10,line,art,q,unit,p,un,to)) {k:Nat} {x:aj} (hf:bR line 0 A=some k) (hx:A[k]? =some x) (hs:LOk x) (hw:WOk l x):
 aP ((onum,obuy,osel,oday,oext,olns),l,mapOf A,ref,pts,wt,()) (i:Int) (A.map aj.tup)=some ((aV (onum,obuy,osel,oday,oext,olns) l i (day,byy,no,10,line,art,q,unit,p,un,to) x).1,((onum,obuy,osel,oday,oext,olns),l,mapOf A,ref,pts,wt,()),(A.set k (aV (onum,obuy,osel,oday,oext,olns) l i (day,byy,no,10,line,art,q,unit,p,un,to) x).2).map aj.tup,()):=by
 have hdf:=hl _ (List.mem_of_getElem? hd)
 obtain ⟨_,_,_,_,_,_,hu⟩:=bz hdf
 obtain ⟨uq,_⟩:=cW hu
 have h101:((10:Int)==1)=false:=rfl
 have h102:((10:Int)==2)=false:=rfl
 have h103:((10:Int)==3)=false:=rfl
 have h104:((10:Int)==4)=false:=rfl
 have h105:((10:Int)==5)=false:=rfl
 have h106:((10:Int)==6)=false:=rfl
 have h107:((10:Int)==7)=false:=rfl
 have h108:((10:Int)==8)=false:=rfl
 have h109:((10:Int)==9)=false:=rfl
 unfold aP
 dsimp only
 rw [bQ hd,Option.bind_some]
 dsimp only
 rw [ij,hf]
 have hq:qOk q false=true:=uq rfl
 simp only [h101,h102,h103,h104,h105,h106,h107,h108,h109,cond_true,cond_false,aL,aby,Option.bind_some,nC hx hs (o:=(onum,obuy,osel,oday,oext,olns)) he0 he1 (d:=(day,byy,no,10,line,art,q,unit,p,un,to)) hq,eZ]
 have ha:aV (onum,obuy,osel,oday,oext,olns) l i (day,byy,no,10,line,art,q,unit,p,un,to) x=bW oext (day,byy,no,10,line,art,q,unit,p,un,to) x:=rfl
 rw [ha]
 by_cases e:(bW oext (day,byy,no,10,line,art,q,unit,p,un,to) x).1=0
 ·rw [show ((bW (bM (onum,obuy,osel,oday,oext,olns)) (day,byy,no,10,line,art,q,unit,p,un,to) x).1==0)=true by show ((bW oext (day,byy,no,10,line,art,q,unit,p,un,to) x).1==0)=true;rw [e];rfl]
  rfl
 ·rw [show ((bW (bM (onum,obuy,osel,oday,oext,olns)) (day,byy,no,10,line,art,q,unit,p,un,to) x).1==0)=false from bU e]
  rfl
theorem W8 {onum obuy osel:List UInt8} {oday oext:Int} {olns:List aI} {day byy no line:Int} {art:List UInt8} {q:ah} {unit:List UInt8} {p:ah} {un to:Int} {i:Nat} (he0:0≤oext) (he1:oext≤1000) (hl:∀ d,d∈l→aY d=0)
 (hd:l[i]? =some (day,byy,no,11,line,art,q,unit,p,un,to)) {k:Nat} {x:aj} (hf:bR line 0 A=some k) (hx:A[k]? =some x) (hs:LOk x) (hw:WOk l x):
 aP ((onum,obuy,osel,oday,oext,olns),l,mapOf A,ref,pts,wt,()) (i:Int) (A.map aj.tup)=some ((aV (onum,obuy,osel,oday,oext,olns) l i (day,byy,no,11,line,art,q,unit,p,un,to) x).1,((onum,obuy,osel,oday,oext,olns),l,mapOf A,ref,pts,wt,()),(A.set k (aV (onum,obuy,osel,oday,oext,olns) l i (day,byy,no,11,line,art,q,unit,p,un,to) x).2).map aj.tup,()):=by
 have hdf:=hl _ (List.mem_of_getElem? hd)
 obtain ⟨_,_,_,_,_,_,hu⟩:=bz hdf
 obtain ⟨uq,_⟩:=cW hu
 have h111:((11:Int)==1)=false:=rfl
 have h112:((11:Int)==2)=false:=rfl
 have h113:((11:Int)==3)=false:=rfl
 have h114:((11:Int)==4)=false:=rfl
 have h115:((11:Int)==5)=false:=rfl
 have h116:((11:Int)==6)=false:=rfl
 have h117:((11:Int)==7)=false:=rfl
 have h118:((11:Int)==8)=false:=rfl
 have h119:((11:Int)==9)=false:=rfl
 unfold aP
 dsimp only
 rw [bQ hd,Option.bind_some]
 dsimp only
 rw [ij,hf]
 have hq:qOk q false=true:=uq rfl
 simp only [h111,h112,h113,h114,h115,h116,h117,h118,h119,cond_true,cond_false,aL,aby,Option.bind_some,nC hx hs (o:=(onum,obuy,osel,oday,oext,olns)) he0 he1 (d:=(day,byy,no,11,line,art,q,unit,p,un,to)) hq,eZ]
 have ha:aV (onum,obuy,osel,oday,oext,olns) l i (day,byy,no,11,line,art,q,unit,p,un,to) x=bW oext (day,byy,no,11,line,art,q,unit,p,un,to) x:=rfl
 rw [ha]
 by_cases e:(bW oext (day,byy,no,11,line,art,q,unit,p,un,to) x).1=0
 ·rw [show ((bW (bM (onum,obuy,osel,oday,oext,olns)) (day,byy,no,11,line,art,q,unit,p,un,to) x).1==0)=true by show ((bW oext (day,byy,no,11,line,art,q,unit,p,un,to) x).1==0)=true;rw [e];rfl]
  rfl
 ·rw [show ((bW (bM (onum,obuy,osel,oday,oext,olns)) (day,byy,no,11,line,art,q,unit,p,un,to) x).1==0)=false from bU e]
  rfl
theorem EM {i:Nat} {d:aa} (hA:Sound l A) (hl:∀ d,d∈l→aY d=0) (hd:l[i]? =some d) (he0:0≤bM o) (he1:bM o≤1000):
 aP (o,l,mapOf A,ref,pts,wt,()) (i:Int) (A.map aj.tup)=some ((bg o l i d A).1,(o,l,mapOf (bg o l i d A).2,ref,pts,wt,()),(bg o l i d A).2.map aj.tup,()):=by
 obtain ⟨_,_,_,hk,_,_,_⟩:=bz (hl d (List.mem_of_getElem? hd))
 by_cases k1:aG d=1
 ·unfold aP
  dsimp only
  rw [bQ hd,Option.bind_some,show (d.2.2.2.1==1)=true by simpa using k1,cond_true]
  rw [FZ hd k1,Option.bind_some]
 ·cases hf:fD (cD d) A with
  | none=>
   rw [Gq k1 hf]
   unfold aP
   dsimp only
   rw [bQ hd,Option.bind_some,show (d.2.2.2.1==1)=false by simpa using k1,cond_false]
   rw [ij,show bR d.2.2.2.2.1 0 A=none from hf]
   rfl
  | some k=>
   obtain ⟨x,hx,hxn⟩:=s6 hf
   rw [Jf k1 hf hx]
   obtain ⟨hs,hw⟩:=hA.line x (List.mem_of_getElem? hx)
   have hm:mapOf (A.set k (aV o l i d x).2)=mapOf A:=Wm A 0 (fun z hz=>by
    rw [hx] at hz;cases hz
    exact (BN (o:=o) hs hw hl hd).2.2.1)
   rw [hm]
   obtain ⟨onum,obuy,osel,oday,oext,olns⟩:=o
   obtain ⟨day,byy,no,kk,line,art,q,unit,p,un,to⟩:=d
   have hk':kk=2∨kk=3∨kk=4∨kk=5∨kk=6∨kk=7∨kk=8∨kk=9∨kk=10∨kk=11:=by
    have h1:1≤kk∧kk≤11:=hk
    have h2:kk≠1:=k1
    omega
   rcases hk' with rfl | rfl | rfl | rfl | rfl | rfl | rfl | rfl | rfl | rfl
   ·exact XX he0 he1 hl hd hf hx hs hw
   ·exact XY he0 he1 hl hd hf hx hs hw
   ·exact XZ he0 he1 hl hd hf hx hs hw
   ·exact X0 he0 he1 hl hd hf hx hs hw
   ·exact X1 he0 he1 hl hd hf hx hs hw
   ·exact X2 he0 he1 hl hd hf hx hs hw
   ·exact X3 he0 he1 hl hd hf hx hs hw
   ·exact X4 he0 he1 hl hd hf hx hs hw
   ·exact W7 he0 he1 hl hd hf hx hs hw
   ·exact W8 he0 he1 hl hd hf hx hs hw
end Go.Md
