/-
  Plain facts: deeds checked. No condition.
-/
import Derived.Test.YtfghdjdpccoleaaGreatDoorYo
import Derived.Test.YtfghdjdpccoleaaGreatDoorYr
import Derived.Test.YtfghdjdpccoleaaGreatDoorYq
set_option linter.all false
namespace Go.Md
open Go.Dn
theorem zX (k:Int):lM k=some (decide (k=5\/k=6\/k=7\/k=9),()):=by
 unfold lM
 by_cases h5:k=5
 ·subst h5;rfl
 by_cases h6:k=6
 ·subst h6;rfl
 by_cases h7:k=7
 ·subst h7;rfl
 by_cases h9:k=9
 ·subst h9;rfl
 have e5:(k==5)=false:=by simp[h5]
 have e6:(k==6)=false:=by simp[h6]
 have e7:(k==7)=false:=by simp[h7]
 have e9:(k==9)=false:=by simp[h9]
 simp only[e5,e6,e7,e9,QI]
 simp[h5,h6,h7,h9]
def usA (k:Int):Bool:=decide (k=1)
def usQ (k:Int):Bool:=decide (k≠3/\k≠4/\k≠5/\k≠6/\k≠8)
def usP (k:Int):Bool:=decide (k=1\/k=4)
def usU (k:Int):Bool:=decide (k=1\/k=3\/k=7)
def usT (k:Int):Bool:=decide (k=5\/k=6\/k=8)
theorem Dk (k:Int):bq k=some ((usA k,usQ k,usA k,usP k,usU k,usT k),()):=by
 unfold bq
 by_cases h1:k=1
 ·subst h1;rfl
 by_cases h3:k=3
 ·subst h3;rfl
 by_cases h4:k=4
 ·subst h4;rfl
 by_cases h5:k=5
 ·subst h5;rfl
 by_cases h6:k=6
 ·subst h6;rfl
 by_cases h7:k=7
 ·subst h7;rfl
 by_cases h8:k=8
 ·subst h8;rfl
 have e1:(k==1)=false:=by simp[h1]
 have e3:(k==3)=false:=by simp[h3]
 have e4:(k==4)=false:=by simp[h4]
 have e5:(k==5)=false:=by simp[h5]
 have e6:(k==6)=false:=by simp[h6]
 have e8:(k==8)=false:=by simp[h8]
 have e7:(k==7)=false:=by simp[h7]
 simp only[e1,e3,e4,e5,e6,e7,e8,QI]
 simp[h1,h3,h4,h5,h6,h7,h8,usA,usQ,usP,usU,usT]
def uY (n:Int):Bool:=decide (1<=n/\n<=3652059)
def xw (n:Int):Bool:=decide (1<=n/\n<=2000)
def HY (ua uq up uu ut k2:Bool) (art:List UInt8) (q:aa) (unit:List UInt8) (p:aa) (un to:Int):Int:=
 bif uq&& !qOk q k2 then 1
 else bif up&& !inR p 0 1000000000 4 then 1
 else bif uu&& !uY un then 1
 else bif ua&&(!nq art|| !nq unit) then 5
 else bif ut&& !xw to then 1
 else bif (!ua&& !(art==[]))||((!uq&& !(q.1==0&&q.2==0))||((!ua&& !(unit==[]))||((!up&& !(p.1==0&&p.2==0))||((!uu&&un != 0)||(!ut&&to != 0))))) then 3
 else 0
def x7 (d:ah):Int:=
 HY (usA d.2.2.2.1) (usQ d.2.2.2.1) (usP d.2.2.2.1) (usU d.2.2.2.1) (usT d.2.2.2.1) (d.2.2.2.1==2) d.2.2.2.2.2.1 d.2.2.2.2.2.2.1 d.2.2.2.2.2.2.2.1 d.2.2.2.2.2.2.2.2.1 d.2.2.2.2.2.2.2.2.2.1 d.2.2.2.2.2.2.2.2.2.2
theorem F1 (n:Int):oU n=some (uY n,()):=zM n
theorem Mg (n:Int):eg n 1 2000=some (!xw n,()):=by
 rw[jF]
 congr 2
 unfold xw
 by_cases h1:1<=n<;>by_cases h2:n<=2000<;>simp[h1,h2]<;>omega
theorem zY (d:ah):lN d=some (x7 d,()):=by
 obtain⟨day,byy,no,k,line,art,⟨q1,q2⟩,unit,⟨p1,p2⟩,un,to⟩:=d
 unfold lN x7
 dsimp only
 rw[Dk,Qy]
 dsimp only
 rw[vC]
 simp only[yE,F1,F2,Mg,Qy]
 generalize usA k=ua
 generalize usQ k=uq
 generalize usP k=up
 generalize usU k=uu
 generalize usT k=ut
 generalize (k==2)=k2
 unfold HY
 generalize qOk (q1,q2) k2=b1
 have step1:∀ (A:Option ((Int×Unit) ⊕ (Int×Int×Int×Int×Int×(List UInt8)×Int×Int×(List UInt8)×Int×Int×Int×Int×Bool×Bool×Bool×Bool×Bool×Bool×Unit))) (v:Int×Int×Int×Int×Int×(List UInt8)×Int×Int×(List UInt8)×Int×Int×Int×Int×Bool×Bool×Bool×Bool×Bool×Bool×Unit) (K:(Int×Int×Int×Int×Int×(List UInt8)×Int×Int×(List UInt8)×Int×Int×Int×Int×Bool×Bool×Bool×Bool×Bool×Bool×Unit)->Option (Int×Unit)),
  A=some (.inr v)->aR A K=K v:=fun A v K h=>by rw[h];rfl
 cases uq
 ·refine Eq.trans (step1 _ _ _ (by exact rfl)) ?_
  cases up
  ·refine Eq.trans (step1 _ _ _ (by exact rfl)) ?_
   dsimp only
   generalize uY un=b3
   generalize nq art=b4
   generalize nq unit=b5
   generalize xw to=b6
   generalize (art==[])=c1
   generalize (q1==0)=c2
   generalize (q2==0)=c3
   generalize (unit==[])=c4
   generalize (p1==0)=c5
   generalize (p2==0)=c6
   generalize (un != 0)=c7
   generalize (to != 0)=c8
   cases uu
   ·cases ua
    ·cases ut
     ·cases c1<;>first | rfl | (cases c4<;>first | rfl | (cases c7<;>first | rfl | (cases c8<;>first | rfl | (cases c2<;>first | rfl | (cases c3<;>first | rfl | (cases c5<;>first | rfl | (cases c6<;>rfl)))))))
     ·cases b6
      ·rfl
      ·cases c1<;>first | rfl | (cases c4<;>first | rfl | (cases c7<;>first | rfl | (cases c8<;>first | rfl | (cases c2<;>first | rfl | (cases c3<;>first | rfl | (cases c5<;>first | rfl | (cases c6<;>rfl)))))))
    ·cases b4
     ·rfl
     ·cases b5
      ·rfl
      ·cases ut
       ·cases c1<;>first | rfl | (cases c4<;>first | rfl | (cases c7<;>first | rfl | (cases c8<;>first | rfl | (cases c2<;>first | rfl | (cases c3<;>first | rfl | (cases c5<;>first | rfl | (cases c6<;>rfl)))))))
       ·cases b6
        ·rfl
        ·cases c1<;>first | rfl | (cases c4<;>first | rfl | (cases c7<;>first | rfl | (cases c8<;>first | rfl | (cases c2<;>first | rfl | (cases c3<;>first | rfl | (cases c5<;>first | rfl | (cases c6<;>rfl)))))))
   ·cases b3
    ·rfl
    ·cases ua
     ·cases ut
      ·cases c1<;>first | rfl | (cases c4<;>first | rfl | (cases c7<;>first | rfl | (cases c8<;>first | rfl | (cases c2<;>first | rfl | (cases c3<;>first | rfl | (cases c5<;>first | rfl | (cases c6<;>rfl)))))))
      ·cases b6
       ·rfl
       ·cases c1<;>first | rfl | (cases c4<;>first | rfl | (cases c7<;>first | rfl | (cases c8<;>first | rfl | (cases c2<;>first | rfl | (cases c3<;>first | rfl | (cases c5<;>first | rfl | (cases c6<;>rfl)))))))
     ·cases b4
      ·rfl
      ·cases b5
       ·rfl
       ·cases ut
        ·cases c1<;>first | rfl | (cases c4<;>first | rfl | (cases c7<;>first | rfl | (cases c8<;>first | rfl | (cases c2<;>first | rfl | (cases c3<;>first | rfl | (cases c5<;>first | rfl | (cases c6<;>rfl)))))))
        ·cases b6
         ·rfl
         ·cases c1<;>first | rfl | (cases c4<;>first | rfl | (cases c7<;>first | rfl | (cases c8<;>first | rfl | (cases c2<;>first | rfl | (cases c3<;>first | rfl | (cases c5<;>first | rfl | (cases c6<;>rfl)))))))
  ·dsimp only
   generalize inR (p1,p2) 0 1000000000 4=b2
   cases b2
   ·rfl
   ·refine Eq.trans (step1 _ _ _ (by exact rfl)) ?_
    dsimp only
    generalize uY un=b3
    generalize nq art=b4
    generalize nq unit=b5
    generalize xw to=b6
    generalize (art==[])=c1
    generalize (q1==0)=c2
    generalize (q2==0)=c3
    generalize (unit==[])=c4
    generalize (p1==0)=c5
    generalize (p2==0)=c6
    generalize (un != 0)=c7
    generalize (to != 0)=c8
    cases uu
    ·cases ua
     ·cases ut
      ·cases c1<;>first | rfl | (cases c4<;>first | rfl | (cases c7<;>first | rfl | (cases c8<;>first | rfl | (cases c2<;>first | rfl | (cases c3<;>first | rfl | (cases c5<;>first | rfl | (cases c6<;>rfl)))))))
      ·cases b6
       ·rfl
       ·cases c1<;>first | rfl | (cases c4<;>first | rfl | (cases c7<;>first | rfl | (cases c8<;>first | rfl | (cases c2<;>first | rfl | (cases c3<;>first | rfl | (cases c5<;>first | rfl | (cases c6<;>rfl)))))))
     ·cases b4
      ·rfl
      ·cases b5
       ·rfl
       ·cases ut
        ·cases c1<;>first | rfl | (cases c4<;>first | rfl | (cases c7<;>first | rfl | (cases c8<;>first | rfl | (cases c2<;>first | rfl | (cases c3<;>first | rfl | (cases c5<;>first | rfl | (cases c6<;>rfl)))))))
        ·cases b6
         ·rfl
         ·cases c1<;>first | rfl | (cases c4<;>first | rfl | (cases c7<;>first | rfl | (cases c8<;>first | rfl | (cases c2<;>first | rfl | (cases c3<;>first | rfl | (cases c5<;>first | rfl | (cases c6<;>rfl)))))))
    ·cases b3
     ·rfl
     ·cases ua
      ·cases ut
       ·cases c1<;>first | rfl | (cases c4<;>first | rfl | (cases c7<;>first | rfl | (cases c8<;>first | rfl | (cases c2<;>first | rfl | (cases c3<;>first | rfl | (cases c5<;>first | rfl | (cases c6<;>rfl)))))))
       ·cases b6
        ·rfl
        ·cases c1<;>first | rfl | (cases c4<;>first | rfl | (cases c7<;>first | rfl | (cases c8<;>first | rfl | (cases c2<;>first | rfl | (cases c3<;>first | rfl | (cases c5<;>first | rfl | (cases c6<;>rfl)))))))
      ·cases b4
       ·rfl
       ·cases b5
        ·rfl
        ·cases ut
         ·cases c1<;>first | rfl | (cases c4<;>first | rfl | (cases c7<;>first | rfl | (cases c8<;>first | rfl | (cases c2<;>first | rfl | (cases c3<;>first | rfl | (cases c5<;>first | rfl | (cases c6<;>rfl)))))))
         ·cases b6
          ·rfl
          ·cases c1<;>first | rfl | (cases c4<;>first | rfl | (cases c7<;>first | rfl | (cases c8<;>first | rfl | (cases c2<;>first | rfl | (cases c3<;>first | rfl | (cases c5<;>first | rfl | (cases c6<;>rfl)))))))
 ·cases b1
  ·rfl
  ·refine Eq.trans (step1 _ _ _ (by exact rfl)) ?_
   cases up
   ·refine Eq.trans (step1 _ _ _ (by exact rfl)) ?_
    dsimp only
    generalize uY un=b3
    generalize nq art=b4
    generalize nq unit=b5
    generalize xw to=b6
    generalize (art==[])=c1
    generalize (q1==0)=c2
    generalize (q2==0)=c3
    generalize (unit==[])=c4
    generalize (p1==0)=c5
    generalize (p2==0)=c6
    generalize (un != 0)=c7
    generalize (to != 0)=c8
    cases uu
    ·cases ua
     ·cases ut
      ·cases c1<;>first | rfl | (cases c4<;>first | rfl | (cases c7<;>first | rfl | (cases c8<;>first | rfl | (cases c2<;>first | rfl | (cases c3<;>first | rfl | (cases c5<;>first | rfl | (cases c6<;>rfl)))))))
      ·cases b6
       ·rfl
       ·cases c1<;>first | rfl | (cases c4<;>first | rfl | (cases c7<;>first | rfl | (cases c8<;>first | rfl | (cases c2<;>first | rfl | (cases c3<;>first | rfl | (cases c5<;>first | rfl | (cases c6<;>rfl)))))))
     ·cases b4
      ·rfl
      ·cases b5
       ·rfl
       ·cases ut
        ·cases c1<;>first | rfl | (cases c4<;>first | rfl | (cases c7<;>first | rfl | (cases c8<;>first | rfl | (cases c2<;>first | rfl | (cases c3<;>first | rfl | (cases c5<;>first | rfl | (cases c6<;>rfl)))))))
        ·cases b6
         ·rfl
         ·cases c1<;>first | rfl | (cases c4<;>first | rfl | (cases c7<;>first | rfl | (cases c8<;>first | rfl | (cases c2<;>first | rfl | (cases c3<;>first | rfl | (cases c5<;>first | rfl | (cases c6<;>rfl)))))))
    ·cases b3
     ·rfl
     ·cases ua
      ·cases ut
       ·cases c1<;>first | rfl | (cases c4<;>first | rfl | (cases c7<;>first | rfl | (cases c8<;>first | rfl | (cases c2<;>first | rfl | (cases c3<;>first | rfl | (cases c5<;>first | rfl | (cases c6<;>rfl)))))))
       ·cases b6
        ·rfl
        ·cases c1<;>first | rfl | (cases c4<;>first | rfl | (cases c7<;>first | rfl | (cases c8<;>first | rfl | (cases c2<;>first | rfl | (cases c3<;>first | rfl | (cases c5<;>first | rfl | (cases c6<;>rfl)))))))
      ·cases b4
       ·rfl
       ·cases b5
        ·rfl
        ·cases ut
         ·cases c1<;>first | rfl | (cases c4<;>first | rfl | (cases c7<;>first | rfl | (cases c8<;>first | rfl | (cases c2<;>first | rfl | (cases c3<;>first | rfl | (cases c5<;>first | rfl | (cases c6<;>rfl)))))))
         ·cases b6
          ·rfl
          ·cases c1<;>first | rfl | (cases c4<;>first | rfl | (cases c7<;>first | rfl | (cases c8<;>first | rfl | (cases c2<;>first | rfl | (cases c3<;>first | rfl | (cases c5<;>first | rfl | (cases c6<;>rfl)))))))
   ·dsimp only
    generalize inR (p1,p2) 0 1000000000 4=b2
    cases b2
    ·rfl
    ·refine Eq.trans (step1 _ _ _ (by exact rfl)) ?_
     dsimp only
     generalize uY un=b3
     generalize nq art=b4
     generalize nq unit=b5
     generalize xw to=b6
     generalize (art==[])=c1
     generalize (q1==0)=c2
     generalize (q2==0)=c3
     generalize (unit==[])=c4
     generalize (p1==0)=c5
     generalize (p2==0)=c6
     generalize (un != 0)=c7
     generalize (to != 0)=c8
     cases uu
     ·cases ua
      ·cases ut
       ·cases c1<;>first | rfl | (cases c4<;>first | rfl | (cases c7<;>first | rfl | (cases c8<;>first | rfl | (cases c2<;>first | rfl | (cases c3<;>first | rfl | (cases c5<;>first | rfl | (cases c6<;>rfl)))))))
       ·cases b6
        ·rfl
        ·cases c1<;>first | rfl | (cases c4<;>first | rfl | (cases c7<;>first | rfl | (cases c8<;>first | rfl | (cases c2<;>first | rfl | (cases c3<;>first | rfl | (cases c5<;>first | rfl | (cases c6<;>rfl)))))))
      ·cases b4
       ·rfl
       ·cases b5
        ·rfl
        ·cases ut
         ·cases c1<;>first | rfl | (cases c4<;>first | rfl | (cases c7<;>first | rfl | (cases c8<;>first | rfl | (cases c2<;>first | rfl | (cases c3<;>first | rfl | (cases c5<;>first | rfl | (cases c6<;>rfl)))))))
         ·cases b6
          ·rfl
          ·cases c1<;>first | rfl | (cases c4<;>first | rfl | (cases c7<;>first | rfl | (cases c8<;>first | rfl | (cases c2<;>first | rfl | (cases c3<;>first | rfl | (cases c5<;>first | rfl | (cases c6<;>rfl)))))))
     ·cases b3
      ·rfl
      ·cases ua
       ·cases ut
        ·cases c1<;>first | rfl | (cases c4<;>first | rfl | (cases c7<;>first | rfl | (cases c8<;>first | rfl | (cases c2<;>first | rfl | (cases c3<;>first | rfl | (cases c5<;>first | rfl | (cases c6<;>rfl)))))))
        ·cases b6
         ·rfl
         ·cases c1<;>first | rfl | (cases c4<;>first | rfl | (cases c7<;>first | rfl | (cases c8<;>first | rfl | (cases c2<;>first | rfl | (cases c3<;>first | rfl | (cases c5<;>first | rfl | (cases c6<;>rfl)))))))
       ·cases b4
        ·rfl
        ·cases b5
         ·rfl
         ·cases ut
          ·cases c1<;>first | rfl | (cases c4<;>first | rfl | (cases c7<;>first | rfl | (cases c8<;>first | rfl | (cases c2<;>first | rfl | (cases c3<;>first | rfl | (cases c5<;>first | rfl | (cases c6<;>rfl)))))))
          ·cases b6
           ·rfl
           ·cases c1<;>first | rfl | (cases c4<;>first | rfl | (cases c7<;>first | rfl | (cases c8<;>first | rfl | (cases c2<;>first | rfl | (cases c3<;>first | rfl | (cases c5<;>first | rfl | (cases c6<;>rfl)))))))
def cJ (d:ah):Int:=
 if ¬(1<=d.1/\d.1<=3652059) then 1
 else if ¬(1<=d.2.1/\d.2.1<=2) then 4
 else if ¬(1<=d.2.2.1/\d.2.2.1<=2000) then 1
 else if ¬(1<=d.2.2.2.1/\d.2.2.2.1<=11) then 4
 else if ¬((d.2.2.2.1=5\/d.2.2.2.1=6\/d.2.2.2.1=7\/d.2.2.2.1=9)↔d.2.1=2) then 4
 else if ¬(1<=d.2.2.2.2.1/\d.2.2.2.2.1<=99999) then 1
 else x7 d
theorem MU (n a b:Int):decide (n<a\/b<n)= !decide (a<=n/\n<=b):=by
 by_cases h1:a<=n<;>by_cases h2:n<=b<;>simp[h1,h2]<;>omega
theorem zW (d:ah):lK d=some (cJ d,()):=by
 unfold lK cJ
 simp only[zM,jF,MU,zX,zY,Qy]
 by_cases h1:1<=d.1/\d.1<=3652059
 ·by_cases h2:1<=d.2.1/\d.2.1<=2
  ·by_cases h3:1<=d.2.2.1/\d.2.2.1<=2000
   ·by_cases h4:1<=d.2.2.2.1/\d.2.2.2.1<=11
    ·by_cases h5:(d.2.2.2.1=5\/d.2.2.2.1=6\/d.2.2.2.1=7\/d.2.2.2.1=9)↔d.2.1=2
     ·have e5:(decide (d.2.2.2.1=5\/d.2.2.2.1=6\/d.2.2.2.1=7\/d.2.2.2.1=9)==(d.2.1==2))=true:=by
       by_cases h6:d.2.1=2
       ·simp[h6,h5.2 h6]
       ·have:¬(d.2.2.2.1=5\/d.2.2.2.1=6\/d.2.2.2.1=7\/d.2.2.2.1=9):=fun h=>h6 (h5.1 h)
        simp[h6,this]
      by_cases h6:1<=d.2.2.2.2.1/\d.2.2.2.2.1<=99999
      ·rw[e5]
       simp only[h1,h2,h3,h4,h5,h6,iff_self,QS,OD,QI,not_true,QV,QF]
      ·rw[e5]
       simp only[h1,h2,h3,h4,h5,h6,iff_self,QS,QO,OD,OC,QI,QJ,not_true,Q1,QV,QY,QF]
     ·have e5:(decide (d.2.2.2.1=5\/d.2.2.2.1=6\/d.2.2.2.1=7\/d.2.2.2.1=9)==(d.2.1==2))=false:=by
       by_cases h6:d.2.1=2
       ·have:¬(d.2.2.2.1=5\/d.2.2.2.1=6\/d.2.2.2.1=7\/d.2.2.2.1=9):=fun h=>h5 ⟨fun _=>h6,fun _=>h⟩
        simp[h6,this]
       ·have:(d.2.2.2.1=5\/d.2.2.2.1=6\/d.2.2.2.1=7\/d.2.2.2.1=9):=Classical.byContradiction fun h=>h5 ⟨fun h'=>absurd h' h,fun h'=>absurd h' h6⟩
        simp[h6,this]
      rw[e5]
      simp only[h1,h2,h3,h4,h5,QS,OD,OC,QI,QJ,not_true,Q1,QV,QY,QF]
    ·simp only[h1,h2,h3,h4,QS,QO,OD,OC,QI,QJ,not_true,Q1,QV,QY,QF]
   ·simp only[h1,h2,h3,QS,QO,OD,OC,QI,QJ,not_true,Q1,QV,QY,QF]
  ·simp only[h1,h2,QS,QO,OD,OC,QI,QJ,not_true,Q1,QV,QY,QF]
 ·simp only[h1,QO,OC,QJ,Q1,QY]
theorem xh {d:ah} (h:cJ d=0):(1<=d.1/\d.1<=3652059)/\(1<=d.2.1/\d.2.1<=2)/\(1<=d.2.2.1/\d.2.2.1<=2000)/\(1<=d.2.2.2.1/\d.2.2.2.1<=11)/\ ((d.2.2.2.1=5\/d.2.2.2.1=6\/d.2.2.2.1=7\/d.2.2.2.1=9)↔d.2.1=2)/\(1<=d.2.2.2.2.1/\d.2.2.2.2.1<=99999)/\x7 d=0:=by
 unfold cJ at h
 split at h
 ·cases h
 ·rename_i h1
  split at h
  ·cases h
  ·rename_i h2
   split at h
   ·cases h
   ·rename_i h3
    split at h
    ·cases h
    ·rename_i h4
     split at h
     ·cases h
     ·rename_i h5
      split at h
      ·cases h
      ·rename_i h6
       exact⟨OH.1 h1,OH.1 h2,OH.1 h3,OH.1 h4,OH.1 h5,OH.1 h6,h⟩
end Go.Md
namespace Go.Md
open Go.Dn
def dCw (a b:ah):Int:=if w64 (a.1 - b.1)≠0 then w64 (a.1 - b.1) else if w64 (a.2.1 - b.2.1)≠0 then w64 (a.2.1 - b.2.1) else w64 (a.2.2.1 - b.2.2.1)
theorem xK (a b:ah):gu a b=some (dCw a b,()):=by
 unfold gu dCw
 generalize w64 (a.1 - b.1)=x
 generalize w64 (a.2.1 - b.2.1)=y
 generalize w64 (a.2.2.1 - b.2.2.1)=z
 simp only[PE,PI]
 have key:iter (X:=gC) (β:=gB) 8 (3,0,[x,y,z],()) jI=(bif x != 0 then some (Sum.inl (x,())) else bif y != 0 then some (Sum.inl (y,())) else bif z != 0 then some (Sum.inl (z,())) else some (Sum.inr ())):=by kernel_rfl
 show aR (β:=(Int×Unit)) (γ:=Unit) (iter 8 (3,0,[x,y,z],()) jI) _=_
 rw[key]
 by_cases hx:x=0
 ·subst hx
  by_cases hy:y=0
  ·subst hy
   by_cases hz:z=0
   ·subst hz;rfl
   ·have:(z != 0)=true:=by simp[hz]
    rw[this];simp[aR]
  ·have:(y != 0)=true:=by simp[hy]
   rw[this];simp[aR,hy]
 ·have:(x != 0)=true:=by simp[hx]
  rw[this];simp[aR,hx]
def di:List ah->Option ah->Int->Int->Int
 | [],_,_,_=>0
 | d::r,p,nb,ns=>
  if cJ d≠0 then cJ d
  else if (p.any fun q=>decide (0<=dCw q d))=true then 8
  else if d.2.1=1 then (if d.2.2.1≠w64 (nb+1) then 9 else di r (some d) d.2.2.1 ns)
  else (if d.2.2.1≠w64 (ns+1) then 9 else di r (some d) nb d.2.2.1)
def wu (l:List ah):Int:=if 2000<l.length then 2 else di l none 0 0
def dW {α:Type} (l:List α):Nat->Option α
 | 0=>none
 | i+1=>l[i]?
def dG (a0:List ah) (s:Int×Int×Int) (i:Nat) (y:ah) (k:(Int×Int×Int)->Option eI):Option eI:=
 if cJ y≠0 then some (Sum.inl (cJ y,()))
 else if ((dW a0 i).any fun q=>decide (0<=dCw q y))=true then some (Sum.inl (8,()))
 else if y.2.1=1 then (if y.2.2.1≠w64 (s.2.1+1) then some (Sum.inl (9,())) else k (s.1,y.2.2.1,s.2.2))
 else (if y.2.2.1≠w64 (s.2.2+1) then some (Sum.inl (9,())) else k (s.1,s.2.1,y.2.2.1))
theorem jV {a b:Int} (h:a≠b):(a != b)=true:=by simp[h]
theorem iS {a b:Int} (h:a≠b):(a==b)=false:=by simp[h]
theorem tC {α:Type} {l:List α} {i:Nat} {y:α} (h:l[i]? =some y):idx l (i:Int)=some y:=by
 unfold idx
 rw[QX (Int.natCast_nonneg i)]
 exact h
theorem CM (a0:List ah) (hl:a0.length<=2000) (s:Int×Int×Int) (i:Nat) (y:ah) (again:fU->Option eI) (hy:a0[i]? =some y): fT (a0,a0,(a0.length:Int),(i:Int),s.1,s.2.1,s.2.2,()) again=dG a0 s i y fun s'=>again (a0,a0,(a0.length:Int),((i+1:Nat):Int),s'.1,s'.2.1,s'.2.2,()):=by
 have hi:i<a0.length:=(Pp.1 hy).1
 unfold fT dG
 dsimp only
 rw[QM (show (i:Int)<(a0.length:Int) by omega),QJ,tC hy,Qy,zW,Qy]
 dsimp only
 have hw:w64 ((i:Int)+1)=((i+1:Nat):Int):=by rw[aA (by omega) (by omega)];omega
 rw[hw]
 by_cases hf:cJ y=0
 ·rw[hf,show ((0:Int) != 0)=false from rfl,QI,QW (by simp)]
  obtain⟨_,hby,_⟩:=xh hf
  have hprev':(bif decide ((i:Int)>0) then Option.bind (idx a0 (w64 ((i:Int) - 1))) fun y4=>Option.bind (gu y4 y) fun r5=>some (decide (r5.1>=0),()) else some (false,()))=some ((dW a0 i).any fun q=>decide (0<=dCw q y),()):=by
   cases i with
   | zero=>rfl
   | succ j=>
    have hj:j<a0.length:=by omega
    have hq:a0[j]? =some a0[j]:=Pn hj
    have e:w64 (((j+1:Nat):Int) - 1)=(j:Int):=by rw[aA (by omega) (by omega)];omega
    rw[QM (by omega),QJ,e,tC hq,Qy,xK,Qy]
    simp only[dW,hq,Option.any_some]
  rw[hprev',Qy]
  dsimp only
  cases ((dW a0 i).any fun q=>decide (0<=dCw q y)) with
  | true=>rfl
  | false=>
   rw[QI,QW (by simp)]
   by_cases h1:y.2.1=1
   ·rw[iS (show y.2.1≠0 by omega),QI,show (y.2.1==1)=true by simp[h1],QJ,QX h1]
    by_cases hn:y.2.2.1=w64 (s.2.1+1)
    ·rw[show (y.2.2.1 != w64 (s.2.1+1))=false by simp[hn],QI,QW (by simp[hn])]
     rfl
    ·rw[jV hn,QJ,QX hn]
   ·have h2:y.2.1=2:=by omega
    rw[iS (show y.2.1≠0 by omega),QI,iS h1,QI,show (y.2.1==2)=true by simp[h2],QJ,QW h1]
    by_cases hn:y.2.2.1=w64 (s.2.2+1)
    ·rw[show (y.2.2.1 != w64 (s.2.2+1))=false by simp[hn],QI,QW (by simp[hn])]
     rfl
    ·rw[jV hn,QJ,QX hn]
 ·rw[jV hf,QJ,QX hf]
def Hj (f:Int):Option ((Int×Unit) ⊕ Unit):=if f=0 then some (Sum.inr ()) else some (Sum.inl (f,()))
theorem KW {f:Int} (h:f=0):Hj f=some (Sum.inr ()):=QX h
theorem I7 {f:Int} (h:f≠0):Hj f=some (Sum.inl (f,())):=QW h
theorem zl (a0:List ah):∀ (r:List ah) (i:Nat) (s:Int×Int×Int),a0.drop i=r-> Cd (dG a0) (fun _=>some (Sum.inr ())) r i s=Hj (di r (dW a0 i) s.2.1 s.2.2)
 | [],_,_,_=>by simp[Cd,di,Hj]
 | y::r,i,s,hd=>by
  have hy:a0[i]? =some y:=by
   have:=congrArg (·[0]?) hd
   simpa [Pm] using this
  have hr:a0.drop (i+1)=r:=by
   have:=congrArg List.tail hd
   simpa [P7] using this
  have hp:dW a0 (i+1)=some y:=hy
  show dG a0 s i y (fun s'=>Cd (dG a0) (fun _=>some (Sum.inr ())) r (i+1) s')=_
  rw[show (fun s'=>Cd (dG a0) (fun _=>some (Sum.inr ())) r (i+1) s')=fun s'=>Hj (di r (dW a0 (i+1)) s'.2.1 s'.2.2) from funext fun s'=>zl a0 r (i+1) s' hr,hp]
  unfold dG
  by_cases hf:cJ y=0
  ·have e0:¬cJ y≠0:=fun h=>h hf
   rw[QW e0]
   by_cases ha:((dW a0 i).any fun q=>decide (0<=dCw q y))=true
   ·rw[QX ha,show di (y::r) (dW a0 i) s.2.1 s.2.2=8 by simp only[di];rw[QW e0,QX ha]]
    rfl
   ·rw[QW ha]
    by_cases h1:y.2.1=1
    ·rw[QX h1]
     by_cases hn:y.2.2.1≠w64 (s.2.1+1)
     ·rw[QX hn,show di (y::r) (dW a0 i) s.2.1 s.2.2=9 by simp only[di];rw[QW e0,QW ha,QX h1,QX hn]]
      rfl
     ·rw[QW hn,show di (y::r) (dW a0 i) s.2.1 s.2.2=di r (some y) y.2.2.1 s.2.2 by rw[di,QW e0,QW ha,QX h1,QW hn]]
    ·rw[QW h1]
     by_cases hn:y.2.2.1≠w64 (s.2.2+1)
     ·rw[QX hn,show di (y::r) (dW a0 i) s.2.1 s.2.2=9 by simp only[di];rw[QW e0,QW ha,QW h1,QX hn]]
      rfl
     ·rw[QW hn,show di (y::r) (dW a0 i) s.2.1 s.2.2=di r (some y) s.2.1 y.2.2.1 by rw[di,QW e0,QW ha,QW h1,QW hn]]
  ·rw[QX hf,show di (y::r) (dW a0 i) s.2.1 s.2.2=cJ y by rw[di,QX hf],I7 hf]
theorem yD (l:List ah):kE l=some (wu l,()):=by
 unfold kE wu
 by_cases hl:2000<l.length
 ·rw[QM (show (l.length:Int)>2000 by omega),QJ,QX hl]
 ·rw[QL (show ¬ (l.length:Int)>2000 by omega),QI,QW hl]
  have:=LZ (f:=fT) (fun (s:Int×Int×Int) (i:Nat)=>((l,l,(l.length:Int),(i:Int),s.1,s.2.1,s.2.2,()):fU)) l (dG l) (fun _=>some (Sum.inr ()))
   (fun s i y again hy=>CM l (by omega) s i y again hy) (fun s again=>by
     unfold fT
     dsimp only
     rw[QL (by omega)];rfl) (0,0,0)
  refine (congrArg (fun z=>aR (β:=(Int×Unit)) (γ:=Unit) z fun _=>some (0,())) (this _ (by omega))).trans ?_
  rw[zl l l 0 (0,0,0) rfl]
  simp only[dW]
  by_cases h:di l none 0 0=0
  ·rw[KW h,h];rfl
  ·rw[I7 h];rfl
end Go.Md
namespace Go.Md
open Go.Dn
structure gM where
 no:Int
 art:List UInt8
 unit:List UInt8
 ord:Int
 shp:Int
 rcv:Int
 ret:Int
 price:aa
 due:Int
 wish:Int
 ono:Int
 oq:Int
 ount:Int
abbrev gM.tup (x:gM):Gx:=(x.no,x.art,x.unit,x.ord,x.shp,x.rcv,x.ret,x.price,x.due,x.wish,x.ono,x.oq,x.ount)
def gM.opn (x:gM):Int:=if x.ord - x.shp+x.ret>0 then x.ord - x.shp+x.ret else 0
structure LOk (x:gM):Prop where
 ret0:0<=x.ret
 retr:x.ret<=x.rcv
 rcvs:x.rcv<=x.shp
 shp1:x.shp<=1000000000000000
 ord0:0<=x.ord
 ord1:x.ord<=1000000000000
 off:x.ono≠0->0<x.oq/\x.oq+x.shp - x.ret<=x.ord
def KV (n:Int) (i:Nat):List gM->Option Nat
 | []=>none
 | x::r=>if n=x.no then some i else KV n (i+1) r
abbrev NT (n:Int) (A:List gM):Option Nat:=KV n 0 A
end Go.Md
namespace Go.Md
open Go.Dn
abbrev NR (d:ah):=d.2.2.2.1
abbrev NS (d:ah):=d.2.2.2.2.1
variable {o:vj} {l:List ah} {m:List (Int×Option Nat)} {ref:List aa} {pts:List nr} {wt:Int} {A:List gM} {k:Nat} {x:gM}
structure WOk (l:List ah) (x:gM):Prop where
 low: -1<=x.wish
 kind:0<=x.wish->∃ d,l[x.wish.toNat]? =some d/\NR d<=4
end Go.Md
namespace Go.Md
open Go.Dn
structure Sound (l:List ah) (A:List gM):Prop where
 line:∀ x,x∈A->LOk x/\WOk l x
variable {o:vj} {l:List ah} {ref:List aa} {pts:List nr} {wt:Int} {A:List gM}
end Go.Md
namespace Go.Md
open Go.Dn
variable {o:vj} {l:List ah} {ref:List aa} {pts:List nr} {wt:Int} {A:List gM}
end Go.Md
namespace Go.Md
open Go.Dn
theorem DQ {α:Type} {l:List α} {i:Nat} {y:α} (h:l[i]? =some y):l.take (i+1)=l.take i++[y]:=by
 rw[List.take_add_one,h];rfl
def DR (n:Int):aa:=((few 3 n).1,((few 3 n).2:Int))
def Nt (d:aa):aa:=((few d.2.toNat d.1).1,((few d.2.toNat d.1).2:Int))
def NL (x:gM):Bj:=(x.no,x.art,x.unit,DR x.ord,Nt x.price,x.due,DR x.shp,DR x.rcv,DR x.ret,DR x.opn)
def N7 (x:gM):Prop:=0<=x.price.1/\x.price.1<=1000000000000000/\0<=x.price.2/\x.price.2<=9
end Go.Md
namespace Go.Md
open Go.Dn
structure Good (l:List ah) (A:List gM):Prop where
 sound:Sound l A
 pr:∀ x,x∈A->N7 x
def NZ (n:Int) (A:List gM):Option gM:=(NT n A).bind fun k=>A[k]?
theorem KK {β:Type} {b:Bool} (h:b=true) (x:Option β):chk b x=x:=by rw[h];rfl
end Go.Md
namespace Go.Md
open Go.Dn
theorem Nj:Ci=some (true,()):=by kernel_rfl
end Go.Md
namespace Go.Md
open Go.Dn
structure Pts (l:List ah) (wt:Int) (n:Nat) (A:List gM) (pts:List nr):Prop where
 pt:∀ (j:Nat) (p:nr),pts[j]? =some p->0<=p.1/\p.1<n/\(∃ d,idx l p.1=some d/\NS d=wt)/\∀ q,0<j->pts[j - 1]? =some q->q.1<p.1
 last:∀ p,pts.getLast? =some p->∃ x,NZ wt A=some x/\p.2=NL x
end Go.Md
namespace Go.Md
open Go.Dn
theorem vK (l:List ah) (hl:l.length<=2000):gE l l=some (true,()):=by
 unfold gE
 rw[show ((l.length:Int) != (l.length:Int))=false by simp,QI]
 have:∀ n,l.length<n->iter (X:=dX) (β:=fL) n (l,l,(l.length:Int),0,()) fK=some (Sum.inr ()):=by
  intro n hn
  refine bT (Inv:=fun i X=>X=((l,l,(l.length:Int),(i:Int),()):dX)) l.length (fun z=>z=some (Sum.inr ())) ?_ ?_ n 0 _ rfl (Qx _) (by omega)
  ·rintro i X again hi rfl hag
   unfold fK
   dsimp only
   obtain⟨y,hy⟩:∃ y,l[i]? =some y:=⟨l[i],Pn hi⟩
   rw[QM (show (i:Int)<(l.length:Int) by omega),QJ,tC hy,Qy,Qy,aA (n:=(i:Int)+1) (by omega) (by omega)]
   simp only[QG,Ot,OD,QI]
   exact hag _ rfl
  ·rintro X again rfl
   unfold fK
   dsimp only
   rw[QL (show ¬(l.length:Int)<(l.length:Int) by omega),QI]
 rw[this _ (by omega)]
 rfl
end Go.Md
namespace Go.Md
open Go.Dn
theorem mg (a b c:Int):jZ a b c=some (decide (b<=a/\a<=c),()):=by
 unfold jZ
 by_cases h:b<=a
 ·rw[aJ h];simp[h]
 ·rw[aN h];simp[h]
theorem Fv {a b:aa} (ha:eo a) (hb:eo b):Ad a b=some ((lE a - lE b).sign,()):=Kk ha hb
theorem AB:eo ((1000000000,0):aa)/\lE ((1000000000,0):aa)=1000000000*10 ^ 9:=⟨⟨by decide,by decide,by decide⟩,by simp[lE]⟩
theorem Ja {d:aa} (hd:eo d) (pl:Int):inR d 0 1000000000 pl=(!decide (d.1<0)&&(!decide ((lE d - 1000000000*10 ^ 9).sign>0)&& !decide (d.2>pl))):=by
 have h1:(lE d - 1000000000*10 ^ 9).sign>0↔¬d.1<=1000000000*10 ^ d.2.toNat:=by
  rw[<- MG hd.2.1 hd.2.2,gt_iff_lt,Int.sign_pos_iff]
  omega
 unfold inR
 rw[Ov]
 simp only[QN,Oo,OB,decide_eq_false_iff_not]
 rw[h1]
 constructor
 ·rintro⟨_,h2,h3,h4⟩;exact⟨by omega,fun h=>h h4,by omega⟩
 ·rintro⟨h2,h3,h4⟩;exact⟨hd,by omega,by omega,OH.1 h3⟩
theorem Jb {d:aa} (hd:¬eo d) (a b pl:Int):inR d a b pl=false:=QL (fun h=>hd h.1)
theorem yF (d:aa) (z:Bool):kK d z=some (if qOk d z=true then 0 else 1,()):=by
 unfold kK qOk qN
 simp only[Qy]
 rw[qn,Qy]
 by_cases hd:eo d
 ·rw[QX hd,Ja hd 3,Fv hd AB.1,AB.2]
  generalize decide (d.1<0)=b1
  generalize (lE d - 1000000000*10 ^ 9).sign=sg
  generalize decide (d.2>3)=b3
  generalize (d.1==0)=b4
  simp only[Qy]
  generalize decide (sg>0)=b2
  cases b1<;>cases b4<;>cases z<;>cases b2<;>cases b3<;>rfl
 ·rw[QW hd,Jb hd]
  rfl
theorem Cr (d:aa):n9 d=some (if inR d 0 1000000000 4=true then 0 else 1,()):=by
 unfold n9 qN
 simp only[Qy]
 rw[qn,Qy]
 by_cases hd:eo d
 ·rw[QX hd,Ja hd 4,Fv hd AB.1,AB.2]
  generalize decide (d.1<0)=b1
  generalize (lE d - 1000000000*10 ^ 9).sign=sg
  generalize decide (d.2>4)=b3
  simp only[Qy]
  generalize decide (sg>0)=b2
  cases b1<;>cases b2<;>cases b3<;>rfl
 ·rw[QW hd,Jb hd]
  rfl
theorem HP {k:Int} (hk:1<=k/\k<=11):cy k=some ((usQ k,usP k,usU k,usA k,usT k),()):=by
 have:k=1\/k=2\/k=3\/k=4\/k=5\/k=6\/k=7\/k=8\/k=9\/k=10\/k=11:=by omega
 rcases this with rfl | rfl | rfl | rfl | rfl | rfl | rfl | rfl | rfl | rfl | rfl<;>rfl
theorem Nk (a b:Bool):(bif a then some (b,()) else some (false,()))=some (a&&b,()):=by cases a<;>rfl
theorem bOr (a b:Bool):(bif a then some (true,()) else some (b,()))=some (a||b,()):=by cases a<;>rfl
theorem bAO (a b x:Bool):(bif a then some (b||x,()) else some (x,()))=some (a&&b||x,()):=by cases a<;>rfl
theorem N9 (b:Bool):((if b=true then (0:Int) else 1) != 0)= !b:=by cases b<;>rfl
theorem NQ {β:Type} (x:Option β):chk true x=x:=rfl
theorem ME (a b:List UInt8):((a++b)==[])=((a==[])&&(b==[])):=by cases a<;>cases b<;>rfl
theorem Be {d:ah} (hk:1<=d.2.2.2.1/\d.2.2.2.1<=11) (hs:d.2.2.2.2.2.1.length+d.2.2.2.2.2.2.2.1.length<=maxLen):mZ d=some (x7 d,()):=by
 unfold mZ x7 HY
 rw[HP hk,Qy]
 simp only[yF,Cr,Bz,HL,mg,Qy,QM hs,NQ,N9,ME]
 rw[show decide (1<=d.2.2.2.2.2.2.2.2.2.1/\d.2.2.2.2.2.2.2.2.2.1<=3652059)=uY d.2.2.2.2.2.2.2.2.2.1 from rfl,show decide (1<=d.2.2.2.2.2.2.2.2.2.2/\d.2.2.2.2.2.2.2.2.2.2<=2000)=xw d.2.2.2.2.2.2.2.2.2.2 from rfl]
 generalize usQ d.2.2.2.1=uq
 generalize usP d.2.2.2.1=up
 generalize usU d.2.2.2.1=uu
 generalize usA d.2.2.2.1=ua
 generalize usT d.2.2.2.1=ut
 generalize (d.2.2.2.1==2)=k2
 generalize qOk d.2.2.2.2.2.2.1 k2=q
 generalize inR d.2.2.2.2.2.2.2.2.1 0 1000000000 4=p
 generalize uY d.2.2.2.2.2.2.2.2.2.1=dy
 generalize xw d.2.2.2.2.2.2.2.2.2.2=tt
 generalize nq d.2.2.2.2.2.1=n1
 generalize nq d.2.2.2.2.2.2.2.1=n2
 generalize (d.2.2.2.2.2.1==[])=e1
 generalize (d.2.2.2.2.2.2.2.1==[])=e2
 generalize (d.2.2.2.2.2.2.2.2.2.1 != 0)=un
 generalize (d.2.2.2.2.2.2.2.2.2.2 != 0)=to
 simp only[Ou]
 generalize (d.2.2.2.2.2.2.1.1==0&&d.2.2.2.2.2.2.1.2==0)=q0
 generalize (d.2.2.2.2.2.2.2.2.1.1==0&&d.2.2.2.2.2.2.2.2.1.2==0)=p0
 simp only[Nk,bOr,bAO,Qy]
 generalize h1:(uq&& !q)=c1
 cases c1
 ·simp only[QI]
  generalize h2:(up&& !p)=c2
  cases c2
  ·simp only[QI]
   generalize h3:(uu&& !dy)=c3
   cases c3
   ·simp only[QI]
    generalize h4:(ua&&(!n1|| !n2))=c4
    cases c4
    ·simp only[QI]
     generalize h5:(ut&& !tt)=c5
     cases c5
     ·simp only[QI]
      have e:((!uq&& !q0)||((!up&& !p0)||((!uu&&un)||((!ua&& !(e1&&e2))||(!ut&&to)))))=((!ua&& !e1)||((!uq&& !q0)||((!ua&& !e2)||((!up&& !p0)||((!uu&&un)||(!ut&&to)))))):=by
       generalize (!uq&& !q0)=x1
       generalize (!up&& !p0)=x2
       generalize (!uu&&un)=x3
       generalize (!ut&&to)=x4
       cases ua<;>cases e1<;>cases e2<;>cases x1<;>cases x2<;>cases x3<;>cases x4<;>rfl
      rw[e]
      generalize ((!ua&& !e1)||((!uq&& !q0)||((!ua&& !e2)||((!up&& !p0)||((!uu&&un)||(!ut&&to))))))=c6
      cases c6<;>rfl
     ·rfl
    ·rfl
   ·rfl
  ·rfl
 ·rfl
theorem EO (k:Int):rF k=some (decide ((1<=k/\k<=4)\/k=8\/k=10\/k=11),()):=by
 unfold rF
 rw[mg,Qy]
 dsimp only
 by_cases h1:1<=k/\k<=4
 ·rw[QM h1,QJ,QM (.inl h1)]
 ·rw[QL h1,QI]
  by_cases h2:k=8
  ·subst h2;rfl
  ·rw[iS h2,QI]
   by_cases h3:k=10
   ·subst h3;rfl
   ·rw[iS h3,QI]
    by_cases h4:k=11
    ·subst h4;rfl
    ·rw[iS h4,QL (fun h=>by omega)]
theorem Dt (a b:ah):l9 a b=some (dCw a b,()):=by
 unfold l9 dCw
 generalize w64 (a.1 - b.1)=x
 generalize w64 (a.2.1 - b.2.1)=y
 generalize w64 (a.2.2.1 - b.2.2.1)=z
 simp only[PE,PI]
 have key:iter (X:=lP) (β:=lO) 8 (3,0,[x,y,z],()) pX=(bif x != 0 then some (Sum.inl (x,())) else bif y != 0 then some (Sum.inl (y,())) else bif z != 0 then some (Sum.inl (z,())) else some (Sum.inr ())):=by kernel_rfl
 show aR (β:=(Int×Unit)) (γ:=Unit) (iter 8 (3,0,[x,y,z],()) pX) _=_
 rw[key]
 by_cases hx:x=0
 ·subst hx
  by_cases hy:y=0
  ·subst hy
   by_cases hz:z=0
   ·subst hz;rfl
   ·have:(z != 0)=true:=by simp[hz]
    rw[this];simp[aR]
  ·have:(y != 0)=true:=by simp[hy]
   rw[this];simp[aR,hy]
 ·have:(x != 0)=true:=by simp[hx]
  rw[this];simp[aR,hx]
def jv (b:Int) (l:List ah):Int:=l.foldl (fun m d=>if d.2.1=b then d.2.2.1 else m) 0
theorem HN (b:Int) (l:List ah) (hl:l.length<=2000):u9 l b=some (jv b l,()):=by
 unfold u9
 have:∀ n,l.length<n->iter (X:=mc) (β:=pZ) n (b,0,l,(l.length:Int),0,()) pY=some (Sum.inr (jv b l,())):=by
  intro n hn
  refine bT (Inv:=fun i X=>X=((b,jv b (l.take i),l,(l.length:Int),(i:Int),()):mc)) l.length (fun z=>z=some (Sum.inr (jv b l,()))) ?_ ?_ n 0 _ rfl (Qx _) (by omega)
  ·rintro i X again hi rfl hag
   unfold pY
   dsimp only
   obtain⟨y,hy⟩:∃ y,l[i]? =some y:=⟨l[i],Pn hi⟩
   rw[QM (show (i:Int)<(l.length:Int) by omega),QJ,tC hy,Qy,aA (n:=(i:Int)+1) (by omega) (by omega)]
   have e:jv b (l.take (i+1))=if y.2.1=b then y.2.2.1 else jv b (l.take i):=by
    unfold jv
    rw[DQ hy,Pd];rfl
   by_cases hb:y.2.1=b
   ·rw[show (y.2.1==b)=true by simpa using hb,QJ]
    rw[QX hb] at e
    exact hag _ (by rw[e];rfl)
   ·rw[iS hb,QI]
    rw[QW hb] at e
    exact hag _ (by rw[e];rfl)
  ·rintro X again rfl
   unfold pY
   dsimp only
   rw[QL (show ¬(l.length:Int)<(l.length:Int) by omega),QI,List.take_length]
 rw[this _ (by omega)]
 rfl
theorem LQ {a b:ah} (ha:cJ a=0) (hb:cJ b=0):decide (dCw b a<=0)=decide (0<=dCw a b):=by
 obtain⟨a1,a2,a3,_⟩:=xh ha
 obtain⟨b1,b2,b3,_⟩:=xh hb
 unfold dCw
 rw[aA (n:=b.1 - a.1) (by omega) (by omega),aA (n:=a.1 - b.1) (by omega) (by omega),aA (n:=b.2.1 - a.2.1) (by omega) (by omega),aA (n:=a.2.1 - b.2.1) (by omega) (by omega),
  aA (n:=b.2.2.1 - a.2.2.1) (by omega) (by omega),aA (n:=a.2.2.1 - b.2.2.1) (by omega) (by omega),QK]
 by_cases h1:a.1 - b.1=0
 ·rw[QW (show ¬(b.1 - a.1≠0) by omega),QW (show ¬(a.1 - b.1≠0) by omega)]
  by_cases h2:a.2.1 - b.2.1=0
  ·rw[QW (show ¬(b.2.1 - a.2.1≠0) by omega),QW (show ¬(a.2.1 - b.2.1≠0) by omega)];omega
  ·rw[QX (show (b.2.1 - a.2.1≠0) by omega),QX (show (a.2.1 - b.2.1≠0) by omega)];omega
 ·rw[QX (show (b.1 - a.1≠0) by omega),QX (show (a.1 - b.1≠0) by omega)];omega
def Txt (d:ah):Prop:=d.2.2.2.2.2.1.length+d.2.2.2.2.2.2.2.1.length<=maxLen
theorem Cq (l:List ah) (hs:∀ d,d∈l->Txt d):n8 l=some (wu l,()):=by
 unfold n8 wu
 by_cases hlen:2000<l.length
 ·rw[QX hlen,QM (show (l.length:Int)>2000 by omega),QJ]
 rw[QW hlen,QL (show ¬(l.length:Int)>2000 by omega),QI]
 have loop:∀ (r:List ah) (i n:Nat),l.drop i=r->i<=l.length->(∀ q,dW l i=some q->cJ q=0)->r.length<n->
  aR (β:=(Int×Unit)) (γ:=Unit) (iter (X:=kJ) (β:=kI) n (l,l,(l.length:Int),(i:Int),()) iu) (fun _=>some (0,()))=some (di r (dW l i) (jv 1 (l.take i)) (jv 2 (l.take i)),()):=by
  intro r
  induction r with
  | nil=>
   intro i n hd hi _ hn
   have:i=l.length:=by
    have:=congrArg List.length hd
    simp at this;omega
   subst this
   obtain⟨n,rfl⟩:∃ m,n=m+1:=⟨n - 1,by omega⟩
   rw[jW]
   unfold iu
   dsimp only
   rw[QL (show ¬((l.length:Int)<(l.length:Int)) by omega),QI]
   rfl
  | cons d r ih=>
   intro i n hdr hi hq hn
   have hd:l[i]? =some d:=by
    have:=congrArg (·[0]?) hdr
    simpa [Pm] using this
   have hr':l.drop (i+1)=r:=by
    have:=congrArg List.tail hdr
    simpa [P7] using this
   have hlt:i<l.length:=(Pp.1 hd).1
   obtain⟨n,rfl⟩:∃ m,n=m+1:=⟨n - 1,by simp at hn;omega⟩
   rw[jW]
   generalize hag:(fun y=>iter n y iu)=again
   unfold iu
   dsimp only
   rw[QM (show (i:Int)<(l.length:Int) by omega),QJ,tC hd,Qy,Bz,Qy]
   simp only[di]
   by_cases h1:1<=d.1/\d.1<=3652059
   rotate_left
   ·have e:cJ d=1:=by unfold cJ;rw[QX h1]
    rw[QL h1,QX (show cJ d≠0 by omega),e];rfl
   rw[QM h1,OD,QI]
   have eby:(bif d.2.1 != 1 then some (d.2.1 != 2,()) else some (false,()))=some (!decide (1<=d.2.1/\d.2.1<=2),()):=by
    rw[Nk]
    congr 2
    by_cases k1:d.2.1=1
    ·simp[k1]
    ·by_cases k2:d.2.1=2
     ·simp[k2]
     ·rw[jV k1,jV k2,QL (by omega)];rfl
   rw[eby,Qy]
   dsimp only
   by_cases h2:1<=d.2.1/\d.2.1<=2
   rotate_left
   ·have e:cJ d=4:=by unfold cJ;rw[QW (show ¬¬_ from fun e=>e h1),QX h2]
    rw[QL h2,QX (show cJ d≠0 by omega),e];rfl
   rw[QM h2,OD,QI,mg,Qy]
   dsimp only
   by_cases h3:1<=d.2.2.1/\d.2.2.1<=2000
   rotate_left
   ·have e:cJ d=1:=by unfold cJ;rw[QW (show ¬¬_ from fun e=>e h1),QW (show ¬¬_ from fun e=>e h2),QX h3]
    rw[QL h3,QX (show cJ d≠0 by omega),e];rfl
   rw[QM h3,OD,QI,mg,Qy]
   dsimp only
   by_cases h4:1<=d.2.2.2.1/\d.2.2.2.1<=11
   rotate_left
   ·have e:cJ d=4:=by unfold cJ;rw[QW (show ¬¬_ from fun e=>e h1),QW (show ¬¬_ from fun e=>e h2),QW (show ¬¬_ from fun e=>e h3),QX h4]
    rw[QL h4,QX (show cJ d≠0 by omega),e];rfl
   rw[QM h4,OD,QI,EO,Qy]
   dsimp only
   by_cases h5:(d.2.2.2.1=5\/d.2.2.2.1=6\/d.2.2.2.1=7\/d.2.2.2.1=9)↔d.2.1=2
   rotate_left
   ·have e:cJ d=4:=by unfold cJ;rw[QW (show ¬¬_ from fun e=>e h1),QW (show ¬¬_ from fun e=>e h2),QW (show ¬¬_ from fun e=>e h3),QW (show ¬¬_ from fun e=>e h4),QX h5]
    have e2:(decide ((1<=d.2.2.2.1/\d.2.2.2.1<=4)\/d.2.2.2.1=8\/d.2.2.2.1=10\/d.2.2.2.1=11)==(d.2.1==1))=false:=by
     by_cases k:d.2.1=1
     ·rw[k,show ((1:Int)==1)=true from rfl,QL (fun h=>h5 (by omega))];rfl
     ·rw[iS k,QM (Classical.byContradiction fun h=>h5 (by omega))];rfl
    rw[e2,QX (show cJ d≠0 by omega),e];rfl
   have e5:(decide ((1<=d.2.2.2.1/\d.2.2.2.1<=4)\/d.2.2.2.1=8\/d.2.2.2.1=10\/d.2.2.2.1=11)==(d.2.1==1))=true:=by
    by_cases k:d.2.1=1
    ·rw[k,show ((1:Int)==1)=true from rfl,QM (by omega)];rfl
    ·rw[iS k,QL (by omega)];rfl
   rw[e5,OD,QI,mg,Qy]
   dsimp only
   by_cases h6:1<=d.2.2.2.2.1/\d.2.2.2.2.1<=99999
   rotate_left
   ·have e:cJ d=1:=by unfold cJ;rw[QW (show ¬¬_ from fun e=>e h1),QW (show ¬¬_ from fun e=>e h2),QW (show ¬¬_ from fun e=>e h3),QW (show ¬¬_ from fun e=>e h4),QW (show ¬¬_ from fun e=>e h5),QX h6]
    rw[QL h6,QX (show cJ d≠0 by omega),e];rfl
   have ed:cJ d=x7 d:=by unfold cJ;rw[QW (show ¬¬_ from fun e=>e h1),QW (show ¬¬_ from fun e=>e h2),QW (show ¬¬_ from fun e=>e h3),QW (show ¬¬_ from fun e=>e h4),QW (show ¬¬_ from fun e=>e h5),QW (show ¬¬_ from fun e=>e h6)]
   rw[QM h6,OD,QI,Be h4 (hs d (PY hd)),Qy, <- ed]
   dsimp only
   by_cases h7:cJ d=0
   rotate_left
   ·rw[jV h7,QX h7];rfl
   rw[h7,show ((0:Int) != 0)=false from rfl,QI,QW (show ¬(0:Int)≠0 from fun e=>e rfl)]
   have epr:(bif decide ((i:Int)>0) then Option.bind (idx l (w64 ((i:Int) - 1))) fun y10=>Option.bind (l9 d y10) fun r11=>some (decide (r11.1<=0),()) else some (false,()))=some ((dW l i).any fun q=>decide (0<=dCw q d),()):=by
    cases i with
    | zero=>rfl
    | succ i=>
     obtain⟨q,hqq⟩:∃ q,l[i]? =some q:=⟨l[i],Pn (by omega)⟩
     rw[QM (show ((i+1:Nat):Int)>0 by omega),QJ,aA (n:=((i+1:Nat):Int) - 1) (by omega) (by omega),show ((i+1:Nat):Int) - 1=(i:Int) by omega,tC hqq,Qy,Dt,Qy]
     show some (decide (dCw d q<=0),())=some ((dW l (i+1)).any _,())
     rw[show dW l (i+1)=some q from hqq,LQ (hq q hqq) h7]
     rfl
   rw[epr,Qy]
   dsimp only
   cases h8:((dW l i).any fun q=>decide (0<=dCw q d))
   rotate_left
   ·rfl
   rw[QI,QW (show ¬false=true from Ox)]
   rw[KK (by simp only[Oo,QN];omega),OS,O8,HN _ _ (by simp;omega),Qy]
   dsimp only
   have htk:∀ b,jv b (l.take (i+1))=if d.2.1=b then d.2.2.1 else jv b (l.take i):=by
    intro b
    unfold jv
    rw[DQ hd,Pd];rfl
   have hnext:∀ q,dW l (i+1)=some q->cJ q=0:=by
    intro q hqq
    have:l[i]? =some q:=hqq
    rw[hd] at this;cases this;exact h7
   have ih':=ih (i+1) n hr' (by omega) hnext (by simp at hn;omega)
   rw[show dW l (i+1)=some d from hd,htk 1,htk 2] at ih'
   rw[aA (n:=(i:Int)+1) (by omega) (by omega)]
   have hi1:(i:Int)+1=((i+1:Nat):Int):=by omega
   by_cases k1:d.2.1=1
   ·rw[QX k1]
    rw[QX k1,QW (show ¬d.2.1=2 by omega)] at ih'
    rw[k1]
    by_cases h9:d.2.2.1=w64 (jv 1 (l.take i)+1)
    ·rw[show (d.2.2.1 != w64 (jv 1 (l.take i)+1))=false by simpa using h9,QI,QW (fun e=>e h9),hi1, <- hag]
     exact ih'
    ·rw[jV h9,QX h9];rfl
   ·have k2:d.2.1=2:=by omega
    rw[QW k1]
    rw[QW k1,QX k2] at ih'
    rw[k2]
    by_cases h9:d.2.2.1=w64 (jv 2 (l.take i)+1)
    ·rw[show (d.2.2.1 != w64 (jv 2 (l.take i)+1))=false by simpa using h9,QI,QW (fun e=>e h9),hi1, <- hag]
     exact ih'
    ·rw[jV h9,QX h9];rfl
 exact loop l 0 _ rfl (Qx _) (fun q hq=>by cases hq) (by omega)
end Go.Md
