/-
  Plain facts: deeds and orders checked; what a deed does with a line. No condition.
-/
import Derived.Test.YtgmbmgfhpkoajacGreatDoorYo
import Derived.Test.YtgmbmgfhpkoajacGreatDoorYr
set_option linter.all false
namespace Go.Md
open Go.Dn
theorem eH (k:Int):kQ k=some (decide (k=5\/k=6\/k=7\/k=9),()):=by
 unfold kQ
 by_cases h5:k=5
 ·subst h5;rfl
 by_cases h6:k=6
 ·subst h6;rfl
 by_cases h7:k=7
 ·subst h7;rfl
 by_cases h9:k=9
 ·subst h9;rfl
 have e5:(k==5)=false:=by simp[h5]
 have e6:(k==6)=false:=by simp[h6]
 have e7:(k==7)=false:=by simp[h7]
 have e9:(k==9)=false:=by simp[h9]
 simp only[e5,e6,e7,e9,WU]
 simp[h5,h6,h7,h9]
def usA (k:Int):Bool:=decide (k=1)
def usQ (k:Int):Bool:=decide (k≠3/\k≠4/\k≠5/\k≠6/\k≠8)
def usP (k:Int):Bool:=decide (k=1\/k=4)
def usU (k:Int):Bool:=decide (k=1\/k=3\/k=7)
def usT (k:Int):Bool:=decide (k=5\/k=6\/k=8)
theorem HD (k:Int):oU k=some ((usA k,usQ k,usA k,usP k,usU k,usT k),()):=by
 unfold oU
 by_cases h1:k=1
 ·subst h1;rfl
 by_cases h3:k=3
 ·subst h3;rfl
 by_cases h4:k=4
 ·subst h4;rfl
 by_cases h5:k=5
 ·subst h5;rfl
 by_cases h6:k=6
 ·subst h6;rfl
 by_cases h7:k=7
 ·subst h7;rfl
 by_cases h8:k=8
 ·subst h8;rfl
 have e1:(k==1)=false:=by simp[h1]
 have e3:(k==3)=false:=by simp[h3]
 have e4:(k==4)=false:=by simp[h4]
 have e5:(k==5)=false:=by simp[h5]
 have e6:(k==6)=false:=by simp[h6]
 have e8:(k==8)=false:=by simp[h8]
 have e7:(k==7)=false:=by simp[h7]
 simp only[e1,e3,e4,e5,e6,e7,e8,WU]
 simp[h1,h3,h4,h5,h6,h7,h8,usA,usQ,usP,usU,usT]
def wN (n:Int):Bool:=decide (1<=n/\n<=3652059)
def xO (n:Int):Bool:=decide (1<=n/\n<=2000)
def Ik (ua uq up uu ut k2:Bool) (art:List UInt8) (q:ah) (unit:List UInt8) (p:ah) (un to:Int):Int:=
 bif uq&& !qOk q k2 then 1
 else bif up&& !inR p 0 1000000000 4 then 1
 else bif uu&& !wN un then 1
 else bif ua&&(!dw art|| !dw unit) then 5
 else bif ut&& !xO to then 1
 else bif (!ua&& !(art==[]))||((!uq&& !(q.1==0&&q.2==0))||((!ua&& !(unit==[]))||((!up&& !(p.1==0&&p.2==0))||((!uu&&un != 0)||(!ut&&to != 0))))) then 3
 else 0
def BO (d:aa):Int:=
 Ik (usA d.2.2.2.1) (usQ d.2.2.2.1) (usP d.2.2.2.1) (usU d.2.2.2.1) (usT d.2.2.2.1) (d.2.2.2.1==2) d.2.2.2.2.2.1 d.2.2.2.2.2.2.1 d.2.2.2.2.2.2.2.1 d.2.2.2.2.2.2.2.2.1 d.2.2.2.2.2.2.2.2.2.1 d.2.2.2.2.2.2.2.2.2.2
theorem KH (n:Int):kO n=some (wN n,()):=oN n
theorem RF (n:Int):dB n 1 2000=some (!xO n,()):=by
 rw[gR]
 congr 2
 unfold xO
 by_cases h1:1<=n<;>by_cases h2:n<=2000<;>simp[h1,h2]<;>omega
theorem Dv (d:aa):ov d=some (BO d,()):=by
 obtain⟨day,byy,no,k,line,art,⟨q1,q2⟩,unit,⟨p1,p2⟩,un,to⟩:=d
 unfold ov BO
 dsimp only
 rw[HD,WG]
 dsimp only
 rw[qC]
 simp only[tU,KH,vX,RF,WG]
 generalize usA k=ua
 generalize usQ k=uq
 generalize usP k=up
 generalize usU k=uu
 generalize usT k=ut
 generalize (k==2)=k2
 unfold Ik
 generalize qOk (q1,q2) k2=b1
 have step1:∀ (A:Option ((Int×Unit) ⊕ (Int×Int×Int×Int×Int×(List UInt8)×Int×Int×(List UInt8)×Int×Int×Int×Int×Bool×Bool×Bool×Bool×Bool×Bool×Unit))) (v:Int×Int×Int×Int×Int×(List UInt8)×Int×Int×(List UInt8)×Int×Int×Int×Int×Bool×Bool×Bool×Bool×Bool×Bool×Unit) (K:(Int×Int×Int×Int×Int×(List UInt8)×Int×Int×(List UInt8)×Int×Int×Int×Int×Bool×Bool×Bool×Bool×Bool×Bool×Unit)->Option (Int×Unit)),
  A=some (.inr v)->aI A K=K v:=fun A v K h=>by rw[h];rfl
 cases uq
 ·refine Eq.trans (step1 _ _ _ (by exact rfl)) ?_
  cases up
  ·refine Eq.trans (step1 _ _ _ (by exact rfl)) ?_
   dsimp only
   generalize wN un=b3
   generalize dw art=b4
   generalize dw unit=b5
   generalize xO to=b6
   generalize (art==[])=c1
   generalize (q1==0)=c2
   generalize (q2==0)=c3
   generalize (unit==[])=c4
   generalize (p1==0)=c5
   generalize (p2==0)=c6
   generalize (un != 0)=c7
   generalize (to != 0)=c8
   cases uu
   ·cases ua
    ·cases ut
     ·cases c1<;>first | rfl | (cases c4<;>first | rfl | (cases c7<;>first | rfl | (cases c8<;>first | rfl | (cases c2<;>first | rfl | (cases c3<;>first | rfl | (cases c5<;>first | rfl | (cases c6<;>rfl)))))))
     ·cases b6
      ·rfl
      ·cases c1<;>first | rfl | (cases c4<;>first | rfl | (cases c7<;>first | rfl | (cases c8<;>first | rfl | (cases c2<;>first | rfl | (cases c3<;>first | rfl | (cases c5<;>first | rfl | (cases c6<;>rfl)))))))
    ·cases b4
     ·rfl
     ·cases b5
      ·rfl
      ·cases ut
       ·cases c1<;>first | rfl | (cases c4<;>first | rfl | (cases c7<;>first | rfl | (cases c8<;>first | rfl | (cases c2<;>first | rfl | (cases c3<;>first | rfl | (cases c5<;>first | rfl | (cases c6<;>rfl)))))))
       ·cases b6
        ·rfl
        ·cases c1<;>first | rfl | (cases c4<;>first | rfl | (cases c7<;>first | rfl | (cases c8<;>first | rfl | (cases c2<;>first | rfl | (cases c3<;>first | rfl | (cases c5<;>first | rfl | (cases c6<;>rfl)))))))
   ·cases b3
    ·rfl
    ·cases ua
     ·cases ut
      ·cases c1<;>first | rfl | (cases c4<;>first | rfl | (cases c7<;>first | rfl | (cases c8<;>first | rfl | (cases c2<;>first | rfl | (cases c3<;>first | rfl | (cases c5<;>first | rfl | (cases c6<;>rfl)))))))
      ·cases b6
       ·rfl
       ·cases c1<;>first | rfl | (cases c4<;>first | rfl | (cases c7<;>first | rfl | (cases c8<;>first | rfl | (cases c2<;>first | rfl | (cases c3<;>first | rfl | (cases c5<;>first | rfl | (cases c6<;>rfl)))))))
     ·cases b4
      ·rfl
      ·cases b5
       ·rfl
       ·cases ut
        ·cases c1<;>first | rfl | (cases c4<;>first | rfl | (cases c7<;>first | rfl | (cases c8<;>first | rfl | (cases c2<;>first | rfl | (cases c3<;>first | rfl | (cases c5<;>first | rfl | (cases c6<;>rfl)))))))
        ·cases b6
         ·rfl
         ·cases c1<;>first | rfl | (cases c4<;>first | rfl | (cases c7<;>first | rfl | (cases c8<;>first | rfl | (cases c2<;>first | rfl | (cases c3<;>first | rfl | (cases c5<;>first | rfl | (cases c6<;>rfl)))))))
  ·dsimp only
   generalize inR (p1,p2) 0 1000000000 4=b2
   cases b2
   ·rfl
   ·refine Eq.trans (step1 _ _ _ (by exact rfl)) ?_
    dsimp only
    generalize wN un=b3
    generalize dw art=b4
    generalize dw unit=b5
    generalize xO to=b6
    generalize (art==[])=c1
    generalize (q1==0)=c2
    generalize (q2==0)=c3
    generalize (unit==[])=c4
    generalize (p1==0)=c5
    generalize (p2==0)=c6
    generalize (un != 0)=c7
    generalize (to != 0)=c8
    cases uu
    ·cases ua
     ·cases ut
      ·cases c1<;>first | rfl | (cases c4<;>first | rfl | (cases c7<;>first | rfl | (cases c8<;>first | rfl | (cases c2<;>first | rfl | (cases c3<;>first | rfl | (cases c5<;>first | rfl | (cases c6<;>rfl)))))))
      ·cases b6
       ·rfl
       ·cases c1<;>first | rfl | (cases c4<;>first | rfl | (cases c7<;>first | rfl | (cases c8<;>first | rfl | (cases c2<;>first | rfl | (cases c3<;>first | rfl | (cases c5<;>first | rfl | (cases c6<;>rfl)))))))
     ·cases b4
      ·rfl
      ·cases b5
       ·rfl
       ·cases ut
        ·cases c1<;>first | rfl | (cases c4<;>first | rfl | (cases c7<;>first | rfl | (cases c8<;>first | rfl | (cases c2<;>first | rfl | (cases c3<;>first | rfl | (cases c5<;>first | rfl | (cases c6<;>rfl)))))))
        ·cases b6
         ·rfl
         ·cases c1<;>first | rfl | (cases c4<;>first | rfl | (cases c7<;>first | rfl | (cases c8<;>first | rfl | (cases c2<;>first | rfl | (cases c3<;>first | rfl | (cases c5<;>first | rfl | (cases c6<;>rfl)))))))
    ·cases b3
     ·rfl
     ·cases ua
      ·cases ut
       ·cases c1<;>first | rfl | (cases c4<;>first | rfl | (cases c7<;>first | rfl | (cases c8<;>first | rfl | (cases c2<;>first | rfl | (cases c3<;>first | rfl | (cases c5<;>first | rfl | (cases c6<;>rfl)))))))
       ·cases b6
        ·rfl
        ·cases c1<;>first | rfl | (cases c4<;>first | rfl | (cases c7<;>first | rfl | (cases c8<;>first | rfl | (cases c2<;>first | rfl | (cases c3<;>first | rfl | (cases c5<;>first | rfl | (cases c6<;>rfl)))))))
      ·cases b4
       ·rfl
       ·cases b5
        ·rfl
        ·cases ut
         ·cases c1<;>first | rfl | (cases c4<;>first | rfl | (cases c7<;>first | rfl | (cases c8<;>first | rfl | (cases c2<;>first | rfl | (cases c3<;>first | rfl | (cases c5<;>first | rfl | (cases c6<;>rfl)))))))
         ·cases b6
          ·rfl
          ·cases c1<;>first | rfl | (cases c4<;>first | rfl | (cases c7<;>first | rfl | (cases c8<;>first | rfl | (cases c2<;>first | rfl | (cases c3<;>first | rfl | (cases c5<;>first | rfl | (cases c6<;>rfl)))))))
 ·cases b1
  ·rfl
  ·refine Eq.trans (step1 _ _ _ (by exact rfl)) ?_
   cases up
   ·refine Eq.trans (step1 _ _ _ (by exact rfl)) ?_
    dsimp only
    generalize wN un=b3
    generalize dw art=b4
    generalize dw unit=b5
    generalize xO to=b6
    generalize (art==[])=c1
    generalize (q1==0)=c2
    generalize (q2==0)=c3
    generalize (unit==[])=c4
    generalize (p1==0)=c5
    generalize (p2==0)=c6
    generalize (un != 0)=c7
    generalize (to != 0)=c8
    cases uu
    ·cases ua
     ·cases ut
      ·cases c1<;>first | rfl | (cases c4<;>first | rfl | (cases c7<;>first | rfl | (cases c8<;>first | rfl | (cases c2<;>first | rfl | (cases c3<;>first | rfl | (cases c5<;>first | rfl | (cases c6<;>rfl)))))))
      ·cases b6
       ·rfl
       ·cases c1<;>first | rfl | (cases c4<;>first | rfl | (cases c7<;>first | rfl | (cases c8<;>first | rfl | (cases c2<;>first | rfl | (cases c3<;>first | rfl | (cases c5<;>first | rfl | (cases c6<;>rfl)))))))
     ·cases b4
      ·rfl
      ·cases b5
       ·rfl
       ·cases ut
        ·cases c1<;>first | rfl | (cases c4<;>first | rfl | (cases c7<;>first | rfl | (cases c8<;>first | rfl | (cases c2<;>first | rfl | (cases c3<;>first | rfl | (cases c5<;>first | rfl | (cases c6<;>rfl)))))))
        ·cases b6
         ·rfl
         ·cases c1<;>first | rfl | (cases c4<;>first | rfl | (cases c7<;>first | rfl | (cases c8<;>first | rfl | (cases c2<;>first | rfl | (cases c3<;>first | rfl | (cases c5<;>first | rfl | (cases c6<;>rfl)))))))
    ·cases b3
     ·rfl
     ·cases ua
      ·cases ut
       ·cases c1<;>first | rfl | (cases c4<;>first | rfl | (cases c7<;>first | rfl | (cases c8<;>first | rfl | (cases c2<;>first | rfl | (cases c3<;>first | rfl | (cases c5<;>first | rfl | (cases c6<;>rfl)))))))
       ·cases b6
        ·rfl
        ·cases c1<;>first | rfl | (cases c4<;>first | rfl | (cases c7<;>first | rfl | (cases c8<;>first | rfl | (cases c2<;>first | rfl | (cases c3<;>first | rfl | (cases c5<;>first | rfl | (cases c6<;>rfl)))))))
      ·cases b4
       ·rfl
       ·cases b5
        ·rfl
        ·cases ut
         ·cases c1<;>first | rfl | (cases c4<;>first | rfl | (cases c7<;>first | rfl | (cases c8<;>first | rfl | (cases c2<;>first | rfl | (cases c3<;>first | rfl | (cases c5<;>first | rfl | (cases c6<;>rfl)))))))
         ·cases b6
          ·rfl
          ·cases c1<;>first | rfl | (cases c4<;>first | rfl | (cases c7<;>first | rfl | (cases c8<;>first | rfl | (cases c2<;>first | rfl | (cases c3<;>first | rfl | (cases c5<;>first | rfl | (cases c6<;>rfl)))))))
   ·dsimp only
    generalize inR (p1,p2) 0 1000000000 4=b2
    cases b2
    ·rfl
    ·refine Eq.trans (step1 _ _ _ (by exact rfl)) ?_
     dsimp only
     generalize wN un=b3
     generalize dw art=b4
     generalize dw unit=b5
     generalize xO to=b6
     generalize (art==[])=c1
     generalize (q1==0)=c2
     generalize (q2==0)=c3
     generalize (unit==[])=c4
     generalize (p1==0)=c5
     generalize (p2==0)=c6
     generalize (un != 0)=c7
     generalize (to != 0)=c8
     cases uu
     ·cases ua
      ·cases ut
       ·cases c1<;>first | rfl | (cases c4<;>first | rfl | (cases c7<;>first | rfl | (cases c8<;>first | rfl | (cases c2<;>first | rfl | (cases c3<;>first | rfl | (cases c5<;>first | rfl | (cases c6<;>rfl)))))))
       ·cases b6
        ·rfl
        ·cases c1<;>first | rfl | (cases c4<;>first | rfl | (cases c7<;>first | rfl | (cases c8<;>first | rfl | (cases c2<;>first | rfl | (cases c3<;>first | rfl | (cases c5<;>first | rfl | (cases c6<;>rfl)))))))
      ·cases b4
       ·rfl
       ·cases b5
        ·rfl
        ·cases ut
         ·cases c1<;>first | rfl | (cases c4<;>first | rfl | (cases c7<;>first | rfl | (cases c8<;>first | rfl | (cases c2<;>first | rfl | (cases c3<;>first | rfl | (cases c5<;>first | rfl | (cases c6<;>rfl)))))))
         ·cases b6
          ·rfl
          ·cases c1<;>first | rfl | (cases c4<;>first | rfl | (cases c7<;>first | rfl | (cases c8<;>first | rfl | (cases c2<;>first | rfl | (cases c3<;>first | rfl | (cases c5<;>first | rfl | (cases c6<;>rfl)))))))
     ·cases b3
      ·rfl
      ·cases ua
       ·cases ut
        ·cases c1<;>first | rfl | (cases c4<;>first | rfl | (cases c7<;>first | rfl | (cases c8<;>first | rfl | (cases c2<;>first | rfl | (cases c3<;>first | rfl | (cases c5<;>first | rfl | (cases c6<;>rfl)))))))
        ·cases b6
         ·rfl
         ·cases c1<;>first | rfl | (cases c4<;>first | rfl | (cases c7<;>first | rfl | (cases c8<;>first | rfl | (cases c2<;>first | rfl | (cases c3<;>first | rfl | (cases c5<;>first | rfl | (cases c6<;>rfl)))))))
       ·cases b4
        ·rfl
        ·cases b5
         ·rfl
         ·cases ut
          ·cases c1<;>first | rfl | (cases c4<;>first | rfl | (cases c7<;>first | rfl | (cases c8<;>first | rfl | (cases c2<;>first | rfl | (cases c3<;>first | rfl | (cases c5<;>first | rfl | (cases c6<;>rfl)))))))
          ·cases b6
           ·rfl
           ·cases c1<;>first | rfl | (cases c4<;>first | rfl | (cases c7<;>first | rfl | (cases c8<;>first | rfl | (cases c2<;>first | rfl | (cases c3<;>first | rfl | (cases c5<;>first | rfl | (cases c6<;>rfl)))))))
def cc (d:aa):Int:=
 if ¬(1<=d.1/\d.1<=3652059) then 1
 else if ¬(1<=d.2.1/\d.2.1<=2) then 4
 else if ¬(1<=d.2.2.1/\d.2.2.1<=2000) then 1
 else if ¬(1<=d.2.2.2.1/\d.2.2.2.1<=11) then 4
 else if ¬((d.2.2.2.1=5\/d.2.2.2.1=6\/d.2.2.2.1=7\/d.2.2.2.1=9)↔d.2.1=2) then 4
 else if ¬(1<=d.2.2.2.2.1/\d.2.2.2.2.1<=99999) then 1
 else BO d
theorem IV (n a b:Int):decide (n<a\/b<n)= !decide (a<=n/\n<=b):=by
 by_cases h1:a<=n<;>by_cases h2:n<=b<;>simp[h1,h2]<;>omega
theorem Dt (d:aa):ot d=some (cc d,()):=by
 unfold ot cc
 simp only[oN,gR,IV,eH,Dv,WG]
 by_cases h1:1<=d.1/\d.1<=3652059
 ·by_cases h2:1<=d.2.1/\d.2.1<=2
  ·by_cases h3:1<=d.2.2.1/\d.2.2.1<=2000
   ·by_cases h4:1<=d.2.2.2.1/\d.2.2.2.1<=11
    ·by_cases h5:(d.2.2.2.1=5\/d.2.2.2.1=6\/d.2.2.2.1=7\/d.2.2.2.1=9)↔d.2.1=2
     ·have e5:(decide (d.2.2.2.1=5\/d.2.2.2.1=6\/d.2.2.2.1=7\/d.2.2.2.1=9)==(d.2.1==2))=true:=by
       by_cases h6:d.2.1=2
       ·simp[h6,h5.2 h6]
       ·have:¬(d.2.2.2.1=5\/d.2.2.2.1=6\/d.2.2.2.1=7\/d.2.2.2.1=9):=fun h=>h6 (h5.1 h)
        simp[h6,this]
      by_cases h6:1<=d.2.2.2.2.1/\d.2.2.2.2.1<=99999
      ·rw[e5]
       simp only[h1,h2,h3,h4,h5,h6,iff_self,W6,Us,WU,not_true,Xc,WN]
      ·rw[e5]
       simp only[h1,h2,h3,h4,h5,h6,iff_self,W6,WZ,Us,Ur,WU,WV,not_true,Xi,Xc,Xf,WN]
     ·have e5:(decide (d.2.2.2.1=5\/d.2.2.2.1=6\/d.2.2.2.1=7\/d.2.2.2.1=9)==(d.2.1==2))=false:=by
       by_cases h6:d.2.1=2
       ·have:¬(d.2.2.2.1=5\/d.2.2.2.1=6\/d.2.2.2.1=7\/d.2.2.2.1=9):=fun h=>h5 ⟨fun _=>h6,fun _=>h⟩
        simp[h6,this]
       ·have:(d.2.2.2.1=5\/d.2.2.2.1=6\/d.2.2.2.1=7\/d.2.2.2.1=9):=Classical.byContradiction fun h=>h5 ⟨fun h'=>absurd h' h,fun h'=>absurd h' h6⟩
        simp[h6,this]
      rw[e5]
      simp only[h1,h2,h3,h4,h5,W6,Us,Ur,WU,WV,not_true,Xi,Xc,Xf,WN]
    ·simp only[h1,h2,h3,h4,W6,WZ,Us,Ur,WU,WV,not_true,Xi,Xc,Xf,WN]
   ·simp only[h1,h2,h3,W6,WZ,Us,Ur,WU,WV,not_true,Xi,Xc,Xf,WN]
  ·simp only[h1,h2,W6,WZ,Us,Ur,WU,WV,not_true,Xi,Xc,Xf,WN]
 ·simp only[h1,WZ,Ur,WV,Xi,Xf]
theorem cJ {d:aa} (h:cc d=0):(1<=d.1/\d.1<=3652059)/\(1<=d.2.1/\d.2.1<=2)/\(1<=d.2.2.1/\d.2.2.1<=2000)/\(1<=d.2.2.2.1/\d.2.2.2.1<=11)/\ ((d.2.2.2.1=5\/d.2.2.2.1=6\/d.2.2.2.1=7\/d.2.2.2.1=9)↔d.2.1=2)/\(1<=d.2.2.2.2.1/\d.2.2.2.2.1<=99999)/\BO d=0:=by
 unfold cc at h
 split at h
 ·cases h
 ·rename_i h1
  split at h
  ·cases h
  ·rename_i h2
   split at h
   ·cases h
   ·rename_i h3
    split at h
    ·cases h
    ·rename_i h4
     split at h
     ·cases h
     ·rename_i h5
      split at h
      ·cases h
      ·rename_i h6
       exact⟨Uw.1 h1,Uw.1 h2,Uw.1 h3,Uw.1 h4,Uw.1 h5,Uw.1 h6,h⟩
end Go.Md
namespace Go.Md
open Go.Dn
def dCw (a b:aa):Int:=if w64 (a.1 - b.1)≠0 then w64 (a.1 - b.1) else if w64 (a.2.1 - b.2.1)≠0 then w64 (a.2.1 - b.2.1) else w64 (a.2.2.1 - b.2.2.1)
theorem Bw (a b:aa):iw a b=some (dCw a b,()):=by
 unfold iw dCw
 generalize w64 (a.1 - b.1)=x
 generalize w64 (a.2.1 - b.2.1)=y
 generalize w64 (a.2.2.1 - b.2.2.1)=z
 simp only[Vs,Vv]
 have key:iter (X:=iH) (β:=iG) 8 (3,0,[x,y,z],()) me=(bif x != 0 then some (Sum.inl (x,())) else bif y != 0 then some (Sum.inl (y,())) else bif z != 0 then some (Sum.inl (z,())) else some (Sum.inr ())):=by kernel_rfl
 show aI (β:=(Int×Unit)) (γ:=Unit) (iter 8 (3,0,[x,y,z],()) me) _=_
 rw[key]
 by_cases hx:x=0
 ·subst hx
  by_cases hy:y=0
  ·subst hy
   by_cases hz:z=0
   ·subst hz;rfl
   ·have:(z != 0)=true:=by simp[hz]
    rw[this];simp[aI]
  ·have:(y != 0)=true:=by simp[hy]
   rw[this];simp[aI,hy]
 ·have:(x != 0)=true:=by simp[hx]
  rw[this];simp[aI,hx]
def b8:List aa->Option aa->Int->Int->Int
 | [],_,_,_=>0
 | d::r,p,nb,ns=>
  if cc d≠0 then cc d
  else if (p.any fun q=>decide (0<=dCw q d))=true then 8
  else if d.2.1=1 then (if d.2.2.1≠w64 (nb+1) then 9 else b8 r (some d) d.2.2.1 ns)
  else (if d.2.2.1≠w64 (ns+1) then 9 else b8 r (some d) nb d.2.2.1)
def fC (l:List aa):Int:=if 2000<l.length then 2 else b8 l none 0 0
def cB {α:Type} (l:List α):Nat->Option α
 | 0=>none
 | i+1=>l[i]?
def dG (a0:List aa) (s:Int×Int×Int) (i:Nat) (y:aa) (k:(Int×Int×Int)->Option fo):Option fo:=
 if cc y≠0 then some (Sum.inl (cc y,()))
 else if ((cB a0 i).any fun q=>decide (0<=dCw q y))=true then some (Sum.inl (8,()))
 else if y.2.1=1 then (if y.2.2.1≠w64 (s.2.1+1) then some (Sum.inl (9,())) else k (s.1,y.2.2.1,s.2.2))
 else (if y.2.2.1≠w64 (s.2.2+1) then some (Sum.inl (9,())) else k (s.1,s.2.1,y.2.2.1))
theorem gA {a b:Int} (h:a≠b):(a != b)=true:=by simp[h]
theorem jj {a b:Int} (h:a≠b):(a==b)=false:=by simp[h]
theorem cO {α:Type} {l:List α} {i:Nat} {y:α} (h:l[i]? =some y):idx l (i:Int)=some y:=by
 unfold idx
 rw[Xe (UE i)]
 exact h
theorem Gv (a0:List aa) (hl:a0.length<=2000) (s:Int×Int×Int) (i:Nat) (y:aa) (again:gJ->Option fo) (hy:a0[i]? =some y): gI (a0,a0,(a0.length:Int),(i:Int),s.1,s.2.1,s.2.2,()) again=dG a0 s i y fun s'=>again (a0,a0,(a0.length:Int),((i+1:Nat):Int),s'.1,s'.2.1,s'.2.2,()):=by
 have hi:i<a0.length:=(Vg.1 hy).1
 unfold gI dG
 dsimp only
 rw[WX (show (i:Int)<(a0.length:Int) by omega),WV,cO hy,WG,Dt,WG]
 dsimp only
 have hw:w64 ((i:Int)+1)=((i+1:Nat):Int):=by rw[aG (by omega) (by omega)];omega
 rw[hw]
 by_cases hf:cc y=0
 ·rw[hf,show ((0:Int) != 0)=false from rfl,WU,Xd (by simp)]
  obtain⟨_,hby,_⟩:=cJ hf
  have hprev':(bif decide ((i:Int)>0) then Option.bind (idx a0 (w64 ((i:Int) - 1))) fun y4=>Option.bind (iw y4 y) fun r5=>some (decide (r5.1>=0),()) else some (false,()))=some ((cB a0 i).any fun q=>decide (0<=dCw q y),()):=by
   cases i with
   | zero=>rfl
   | succ j=>
    have hj:j<a0.length:=by omega
    have hq:a0[j]? =some a0[j]:=Ve hj
    have e:w64 (((j+1:Nat):Int) - 1)=(j:Int):=by rw[aG (by omega) (by omega)];omega
    rw[WX (by omega),WV,e,cO hq,WG,Bw,WG]
    simp only[cB,hq,Option.any_some]
  rw[hprev',WG]
  dsimp only
  cases ((cB a0 i).any fun q=>decide (0<=dCw q y)) with
  | true=>rfl
  | false=>
   rw[WU,Xd (by simp)]
   by_cases h1:y.2.1=1
   ·rw[jj (show y.2.1≠0 by omega),WU,show (y.2.1==1)=true by simp[h1],WV,Xe h1]
    by_cases hn:y.2.2.1=w64 (s.2.1+1)
    ·rw[show (y.2.2.1 != w64 (s.2.1+1))=false by simp[hn],WU,Xd (by simp[hn])]
     rfl
    ·rw[gA hn,WV,Xe hn]
   ·have h2:y.2.1=2:=by omega
    rw[jj (show y.2.1≠0 by omega),WU,jj h1,WU,show (y.2.1==2)=true by simp[h2],WV,Xd h1]
    by_cases hn:y.2.2.1=w64 (s.2.2+1)
    ·rw[show (y.2.2.1 != w64 (s.2.2+1))=false by simp[hn],WU,Xd (by simp[hn])]
     rfl
    ·rw[gA hn,WV,Xe hn]
 ·rw[gA hf,WV,Xe hf]
def FK (f:Int):Option ((Int×Unit) ⊕ Unit):=if f=0 then some (Sum.inr ()) else some (Sum.inl (f,()))
theorem Jt {f:Int} (h:f=0):FK f=some (Sum.inr ()):=Xe h
theorem Ea {f:Int} (h:f≠0):FK f=some (Sum.inl (f,())):=Xd h
theorem CU (a0:List aa):∀ (r:List aa) (i:Nat) (s:Int×Int×Int),a0.drop i=r-> oJ (dG a0) (fun _=>some (Sum.inr ())) r i s=FK (b8 r (cB a0 i) s.2.1 s.2.2)
 | [],_,_,_=>by simp[oJ,b8,FK]
 | y::r,i,s,hd=>by
  have hy:a0[i]? =some y:=by
   have:=congrArg (·[0]?) hd
   simpa [Vd] using this
  have hr:a0.drop (i+1)=r:=by
   have:=congrArg List.tail hd
   simpa [V0] using this
  have hp:cB a0 (i+1)=some y:=hy
  show dG a0 s i y (fun s'=>oJ (dG a0) (fun _=>some (Sum.inr ())) r (i+1) s')=_
  rw[show (fun s'=>oJ (dG a0) (fun _=>some (Sum.inr ())) r (i+1) s')=fun s'=>FK (b8 r (cB a0 (i+1)) s'.2.1 s'.2.2) from funext fun s'=>CU a0 r (i+1) s' hr,hp]
  unfold dG
  by_cases hf:cc y=0
  ·have e0:¬cc y≠0:=fun h=>h hf
   rw[Xd e0]
   by_cases ha:((cB a0 i).any fun q=>decide (0<=dCw q y))=true
   ·rw[Xe ha,show b8 (y::r) (cB a0 i) s.2.1 s.2.2=8 by simp only[b8];rw[Xd e0,Xe ha]]
    rfl
   ·rw[Xd ha]
    by_cases h1:y.2.1=1
    ·rw[Xe h1]
     by_cases hn:y.2.2.1≠w64 (s.2.1+1)
     ·rw[Xe hn,show b8 (y::r) (cB a0 i) s.2.1 s.2.2=9 by simp only[b8];rw[Xd e0,Xd ha,Xe h1,Xe hn]]
      rfl
     ·rw[Xd hn,show b8 (y::r) (cB a0 i) s.2.1 s.2.2=b8 r (some y) y.2.2.1 s.2.2 by rw[b8,Xd e0,Xd ha,Xe h1,Xd hn]]
    ·rw[Xd h1]
     by_cases hn:y.2.2.1≠w64 (s.2.2+1)
     ·rw[Xe hn,show b8 (y::r) (cB a0 i) s.2.1 s.2.2=9 by simp only[b8];rw[Xd e0,Xd ha,Xd h1,Xe hn]]
      rfl
     ·rw[Xd hn,show b8 (y::r) (cB a0 i) s.2.1 s.2.2=b8 r (some y) s.2.1 y.2.2.1 by rw[b8,Xd e0,Xd ha,Xd h1,Xd hn]]
  ·rw[Xe hf,show b8 (y::r) (cB a0 i) s.2.1 s.2.2=cc y by rw[b8,Xe hf],Ea hf]
theorem tT (l:List aa):cU l=some (fC l,()):=by
 unfold cU fC
 by_cases hl:2000<l.length
 ·rw[WX (show (l.length:Int)>2000 by omega),WV,Xe hl]
 ·rw[WW (show ¬ (l.length:Int)>2000 by omega),WU,Xd hl]
  have:=mP (f:=gI) (fun (s:Int×Int×Int) (i:Nat)=>((l,l,(l.length:Int),(i:Int),s.1,s.2.1,s.2.2,()):gJ)) l (dG l) (fun _=>some (Sum.inr ()))
   (fun s i y again hy=>Gv l (by omega) s i y again hy) (fun s again=>by
     unfold gI
     dsimp only
     rw[WW (by omega)];rfl) (0,0,0)
  refine (congrArg (fun z=>aI (β:=(Int×Unit)) (γ:=Unit) z fun _=>some (0,())) (this _ (by omega))).trans ?_
  rw[CU l l 0 (0,0,0) rfl]
  simp only[cB]
  by_cases h:b8 l none 0 0=0
  ·rw[Jt h,h];rfl
  ·rw[Ea h];rfl
theorem xA:∀ {l:List aa} {p:Option aa} {nb ns:Int},b8 l p nb ns=0->∀ d,d∈l->cc d=0
 | [],_,_,_,_,_,h=>by cases h
 | y::r,p,nb,ns,h,d,hd=>by
  simp only[b8] at h
  by_cases hf:cc y=0
  ·rw[Xd (by simp[hf])] at h
   rcases VH.1 hd with rfl | hd
   ·exact hf
   ·split at h
    ·cases h
    ·split at h
     ·split at h
      ·cases h
      ·exact xA h d hd
     ·split at h
      ·cases h
      ·exact xA h d hd
  ·rw[Xe hf] at h
   exact absurd h hf
theorem uP {l:List aa} (h:fC l=0):l.length<=2000/\∀ d,d∈l->cc d=0:=by
 unfold fC at h
 split at h
 ·cases h
 ·rename_i hl
  exact⟨by omega,xA h⟩
abbrev FT (o:aj):=o.1
abbrev Dq (o:aj):=o.2.1
abbrev FU (o:aj):=o.2.2.1
abbrev bH (o:aj):=o.2.2.2.1
abbrev dD (o:aj):=o.2.2.2.2.1
abbrev bT (o:aj):=o.2.2.2.2.2
def eF (day:Int) (p:Option ai) (x:ai):Int:=
 if ¬(1<=x.1/\x.1<=99999) then 1
 else if (p.any fun q=>decide (x.1<=q.1))=true then 8
 else if dw x.2.1=false then 5
 else if qOk x.2.2.1 false=false then 1
 else if dw x.2.2.2.1=false then 5
 else if inR x.2.2.2.2.1 0 1000000000 4=false then 1
 else if ¬(day<=x.2.2.2.2.2/\x.2.2.2.2.2<=3652059) then 1
 else 0
def gS (day:Int):List ai->Option ai->Int
 | [],_=>0
 | x::r,p=>if eF day p x≠0 then eF day p x else gS day r (some x)
def eV (o:aj):Int:=
 if dw (FT o)=false\/dw (Dq o)=false\/dw (FU o)=false then 5
 else if Dq o=FU o then 12
 else if ¬(1<=bH o/\bH o<=3652059) then 1
 else if ¬(0<=dD o/\dD o<=1000) then 1
 else if bT o=[] then 9
 else if 500<(bT o).length then 2
 else gS (bH o) (bT o) none
theorem TI (b:Bool):((if b=true then (0:Int) else 1) != 0)= !b:=by cases b<;>rfl
theorem Du (o:aj) (i:Nat) (x:ai) (hi:(bT o)[i]? =some x) (hl:(bT o).length<=500):ou o (i:Int)=some (eF (bH o) (cB (bT o) i) x,()):=by
 have hlt:i<(bT o).length:=(Vg.1 hi).1
 unfold ou
 rw[cO hi,WG]
 simp only[gR,IV,vX,qC,tU,WG,TI]
 have tail:∀ (p:Option ai) (hp:(p.any fun q=>decide (x.1<=q.1))=false) (h1:1<=x.1/\x.1<=99999),
  (bif !dw x.2.1 then some (5,()) else bif !qOk x.2.2.1 false then some ((if qOk x.2.2.1 false=true then 0 else 1),()) else bif !dw x.2.2.2.1 then some (5,()) else
    bif !inR x.2.2.2.2.1 0 1000000000 4 then some ((if inR x.2.2.2.2.1 0 1000000000 4=true then 0 else 1),()) else bif !decide (bH o<=x.2.2.2.2.2/\x.2.2.2.2.2<=3652059) then some (1,()) else some (0,()))=some (eF (bH o) p x,()):=fun p hp h1=>by
  unfold eF
  rw[Xd (show ¬¬(1<=x.1/\x.1<=99999) from fun h=>h h1),Xd (show ¬(p.any fun q=>decide (x.1<=q.1))=true by rw[hp];exact Um)]
  cases dw x.2.1
  ·rfl
  ·cases qOk x.2.2.1 false
   ·rfl
   ·cases dw x.2.2.2.1
    ·rfl
    ·cases inR x.2.2.2.2.1 0 1000000000 4
     ·rfl
     ·by_cases hd:bH o<=x.2.2.2.2.2/\x.2.2.2.2.2<=3652059
      ·simp[hd]
      ·simp[hd]
 by_cases h1:1<=x.1/\x.1<=99999
 ·rw[WX h1,Us,WU]
  cases i with
  | zero=>
   rw[WW (show ¬((0:Nat):Int)>0 by omega),WU]
   exact tail none rfl h1
  | succ j=>
   have hq:(bT o)[j]? =some (bT o)[j]:=Ve (by omega)
   have e:w64 (((j+1:Nat):Int) - 1)=(j:Int):=by rw[aG (by omega) (by omega)];omega
   rw[WX (show ((j+1:Nat):Int)>0 by omega),WV,e,cO hq,WG]
   simp only[cB,hq]
   by_cases h2:x.1<=(bT o)[j].1
   ·rw[WX h2,WG]
    have:eF (bH o) (some (bT o)[j]) x=8:=by
     unfold eF
     rw[Xd (show ¬¬(1<=x.1/\x.1<=99999) from fun h=>h h1),Xe (show (Option.any (fun q=>decide (x.1<=q.1)) (some (bT o)[j]))=true from WX h2)]
    rw[this]
    rfl
   ·rw[WW h2,WG]
    exact tail (some (bT o)[j]) (by simp[h2]) h1
 ·rw[WW h1,Ur,WV]
  unfold eF
  rw[Xe h1]
theorem B0 (a0:List ai) (day:Int):∀ (r:List ai) (i:Nat) (s:Unit),a0.drop i=r-> oJ (fun (_:Unit) i y k=>if eF day (cB a0 i) y≠0 then some (Sum.inl (eF day (cB a0 i) y,())) else k ()) (fun _=>(some (Sum.inr ()):Option je)) r i s=FK (gS day r (cB a0 i))
 | [],_,_,_=>by simp[oJ,gS,FK]
 | y::r,i,s,hd=>by
  have hy:a0[i]? =some y:=by
   have:=congrArg (·[0]?) hd
   simpa [Vd] using this
  have hr:a0.drop (i+1)=r:=by
   have:=congrArg List.tail hd
   simpa [V0] using this
  have hp:cB a0 (i+1)=some y:=hy
  have ih:=B0 a0 day r (i+1) () hr
  rw[hp] at ih
  by_cases hf:eF day (cB a0 i) y=0
  ·have e0:¬eF day (cB a0 i) y≠0:=fun h=>h hf
   rw[show gS day (y::r) (cB a0 i)=gS day r (some y) by rw[gS,Xd e0], <- ih]
   show (if eF day (cB a0 i) y≠0 then _ else _)=_
   rw[Xd e0]
  ·rw[show gS day (y::r) (cB a0 i)=eF day (cB a0 i) y by rw[gS,Xe hf],Ea hf]
   show (if eF day (cB a0 i) y≠0 then _ else _)=_
   rw[Xe hf]
theorem gM (o:aj):cV o=some (eV o,()):=by
 unfold cV eV
 simp only[vX,oN,gR,IV,WG]
 cases h1:dw o.1
 ·simp[FT,h1]
 cases h2:dw o.2.1
 ·simp[FT,Dq,h1,h2]
 cases h3:dw o.2.2.1
 ·simp[FT,Dq,FU,h1,h2,h3]
 rw[Xd (by simp[FT,Dq,FU,h1,h2,h3])]
 simp only[Us,WU]
 by_cases h4:o.2.1=o.2.2.1
 ·rw[Xe h4,show (o.2.1==o.2.2.1)=true by simp[h4],WV]
 rw[Xd h4,show (o.2.1==o.2.2.1)=false by simp[h4],WU]
 by_cases h5:1<=o.2.2.2.1/\o.2.2.2.1<=3652059
 ·rw[Xd (by simp[bH,h5]),WX h5,Us,WU]
  by_cases h6:0<=o.2.2.2.2.1/\o.2.2.2.2.1<=1000
  ·rw[Xd (by simp[dD,h6]),WX h6,Us,WU]
   by_cases h7:o.2.2.2.2.2=[]
   ·rw[Xe h7,h7];rfl
   ·have h7':o.2.2.2.2.2.length≠0:=fun e=>h7 (U2 e)
    rw[Xd h7,jj (show (o.2.2.2.2.2.length:Int)≠0 by omega),WU]
    by_cases h8:500<o.2.2.2.2.2.length
    ·rw[Xe h8,WX (by omega),WV]
    ·rw[Xd h8,WW (by omega),WU]
     have:=mP (f:=jd) (fun (_:Unit) (i:Nat)=>(((o.2.2.2.2.2.length:Int),(i:Int),o.1,o.2.1,o.2.2.1,o.2.2.2.1,o.2.2.2.2.1,o.2.2.2.2.2,()):jf)) o.2.2.2.2.2
      (fun (_:Unit) i y k=>if eF (bH o) (cB o.2.2.2.2.2 i) y≠0 then some (Sum.inl (eF (bH o) (cB o.2.2.2.2.2 i) y,())) else k ()) (fun _=>some (Sum.inr ()))
      (fun s i y again hy=>by
        have hlt:i<o.2.2.2.2.2.length:=(Vg.1 hy).1
        unfold jd
        dsimp only
        rw[WX (by omega),WV]
        have:=Du o i y hy (by show o.2.2.2.2.2.length<=500;omega)
        rw[show ((o.1,o.2.1,o.2.2.1,o.2.2.2.1,o.2.2.2.2.1,o.2.2.2.2.2):aj)=o from rfl,this,WG]
        dsimp only
        by_cases hf:eF (bH o) (cB o.2.2.2.2.2 i) y=0
        ·rw[Xd (by simp[hf]),show (eF (bH o) (cB (bT o) i) y != 0)=false by simp[hf],WU,aG (by omega) (by omega)]
         rfl
        ·rw[Xe hf,show (eF (bH o) (cB (bT o) i) y != 0)=true by simp[hf],WV]) (fun s again=>by
        unfold jd
        dsimp only
        rw[WW (show ¬((o.2.2.2.2.2.length:Int)<(o.2.2.2.2.2.length:Int)) by omega)];rfl) ()
     refine (congrArg (fun z=>aI (β:=(Int×Unit)) (γ:=Unit) z fun _=>some (0,())) (this _ (by omega))).trans ?_
     rw[B0 o.2.2.2.2.2 (bH o) o.2.2.2.2.2 0 () rfl]
     simp only[cB]
     by_cases h:gS (bH o) o.2.2.2.2.2 none=0
     ·rw[Jt h,h];rfl
     ·rw[Ea h];rfl
  ·rw[Xe h6,WW h6];rfl
 ·rw[Xe h5,WW h5];rfl
theorem xU (o:aj) (l:List aa):nA o l=some (if eV o≠0 then eV o else fC l,()):=by
 unfold nA
 rw[gM,WG,tT]
 dsimp only
 by_cases h:eV o=0
 ·rw[h];rfl
 ·rw[gA h,WV,Xe h]
end Go.Md
namespace Go.Md
open Go.Dn
def aQ (d:ah):Int:=d.1*10 ^ (3 - d.2).toNat
theorem DA {d:ah} {z:Bool} (h:qOk d z=true):(0<=d.2/\d.2<=3)/\0<=d.1/\d.1<=1000000000*10 ^ d.2.toNat/\(z=false->d.1≠0):=by
 unfold qOk inR at h
 simp only[Ug,WY,Uu,Uq,WQ] at h
 obtain⟨⟨h1,h2,h3,h4⟩,h5⟩:=h
 exact⟨⟨h1.2.1,h2⟩,by omega,h4,fun hz=>by rcases h5 with h5 | h5;exact h5;rw[hz] at h5;cases h5⟩
theorem iC {d:ah} {z:Bool} (h:qOk d z=true):0<=aQ d/\aQ d<=1000000000000/\(z=false->0<aQ d):=by
 obtain⟨⟨h1,h2⟩,h3,h4,h5⟩:=DA h
 unfold aQ
 obtain⟨k,hk⟩:∃ k:Nat,d.2=k:=⟨d.2.toNat,by omega⟩
 rw[hk] at h1 h2 h4 ⊢
 have:k=0\/k=1\/k=2\/k=3:=by omega
 rcases this with rfl | rfl | rfl | rfl<;>simp at h4 ⊢ <;>refine⟨by omega,by omega,fun hz=> ?_⟩<;>have:=h5 hz<;>omega
theorem jv {d:ah} {z:Bool} (h:qOk d z=true):fD d=some (aQ d,()):=by
 obtain⟨⟨h1,h2⟩,h3,h4,_⟩:=DA h
 obtain⟨u1,u2,_⟩:=iC h
 unfold fD
 rw[aG (n:=3 - d.2) (by omega) (by omega),uv (3 - d.2) (by omega) (by omega),WG]
 show some (w64 (aQ d),())=_
 rw[aG (by omega) (by omega)]
structure ak where
 no:Int
 art:List UInt8
 unit:List UInt8
 ord:Int
 shp:Int
 rcv:Int
 ret:Int
 price:ah
 due:Int
 wish:Int
 ono:Int
 oq:Int
 ount:Int
abbrev ak.tup (x:ak):aF:=(x.no,x.art,x.unit,x.ord,x.shp,x.rcv,x.ret,x.price,x.due,x.wish,x.ono,x.oq,x.ount)
def ak.opn (x:ak):Int:=if x.ord - x.shp+x.ret>0 then x.ord - x.shp+x.ret else 0
structure LOk (x:ak):Prop where
 ret0:0<=x.ret
 retr:x.ret<=x.rcv
 rcvs:x.rcv<=x.shp
 shp1:x.shp<=1000000000000000
 qj:0<=x.ord
 ord1:x.ord<=1000000000000
 off:x.ono≠0->0<x.oq/\x.oq+x.shp - x.ret<=x.ord
def mS (i:Nat):List ak->List (Int×Option Nat)
 | []=>[]
 | x::r=>(x.no,some i)::mS (i+1) r
abbrev mapOf (A:List ak):List (Int×Option Nat):=mS 0 A
def bp (n:Int) (i:Nat):List ak->Option Nat
 | []=>none
 | x::r=>if n=x.no then some i else bp n (i+1) r
abbrev gD (n:Int) (A:List ak):Option Nat:=bp n 0 A
theorem Qc (n:Int):xM n n=true:=by simp[xM]
theorem NJ {n a:Int} (h:n≠a):xM n a=false:=by simp[xM,h]
theorem fM (n:Int):∀ (A:List ak) (i:Nat),Option.getD (α:=Option Nat) (dL (k:=tI) (v:= .hnd) (mS i A) n) none=bp n i A
 | [],i=>rfl
 | x::r,i=>by
  have e:= @JI tI .hnd (x.no,some i) (mS (i+1) r) n
  refine (congrArg (fun z:Option (Option Nat)=>Option.getD z none) e).trans ?_
  have ih:=fM n r (i+1)
  by_cases h:n=x.no
  ·subst h
   show Option.getD (α:=Option Nat) (bif xM x.no x.no then some (some i) else _) none=_
   rw[Qc]
   simp only[bp,Xe]
   rfl
  ·show Option.getD (α:=Option Nat) (bif xM n x.no then some (some i) else _) none=_
   rw[NJ h]
   simp only[bp,Xd h]
   exact ih
theorem FR (n:Int) (y:ak) (hy:y.no=n):∀ (A:List ak) (i:Nat),bp n i A=none->jB (k:=tI) (v:= .hnd) (mS i A) n (some (i+A.length))=mS i (A++[y])
 | [],i,_=>by subst hy;rfl
 | x::r,i,h=>by
  simp only[bp] at h
  by_cases hx:n=x.no
  ·rw[Xe hx] at h;cases h
  ·rw[Xd hx] at h
   have ih:=FR n y hy r (i+1) h
   have e:i+(x::r).length=i+1+r.length:=by simp only[Vs];omega
   rw[e]
   show (bif xM n x.no then _ else (x.no,some i)::jB (k:=tI) (v:= .hnd) (mS (i+1) r) n (some (i+1+r.length)))=_
   rw[NJ hx]
   exact congrArg (fun z=>(x.no,some i)::z) ih
theorem vw:∀ (A:List ak) (i:Nat),(mS i A).length=A.length
 | [],_=>rfl
 | x::r,i=>by simp[mS,vw r]
theorem Qs {k:Nat} {y:ak}:∀ (A:List ak) (i:Nat),(∀ x,A[k]? =some x->y.no=x.no)->mS i (A.set k y)=mS i A:=by
 intro A
 induction A generalizing k with
 | nil=>intro i _;rfl
 | cons x r ih=>
  intro i h
  cases k with
  | zero=>simp only[List.set_cons_zero,mS];rw[h x rfl]
  | succ k=>simp only[List.set_cons_succ,mS];rw[ih (i+1) (fun z hz=>h z (by simpa using hz))]
theorem ER {n:Int}:∀ {A:List ak} {i k:Nat},bp n i A=some k->i<=k/\∃ x,A[k - i]? =some x/\x.no=n
 | [],_,_,h=>by cases h
 | x::r,i,k,h=>by
  simp only[bp] at h
  by_cases hx:n=x.no
  ·rw[Xe hx] at h;cases h;exact⟨Wj _,x,by simp,hx.symm⟩
  ·rw[Xd hx] at h
   obtain⟨h1,y,h2,h3⟩:=ER h
   refine⟨by omega,y, ?_,h3⟩
   rw[show k - i=k - (i+1)+1 by omega,Vb];exact h2
theorem G9 {n:Int} {A:List ak} {k:Nat} (h:gD n A=some k):∃ x,A[k]? =some x/\x.no=n:=(ER h).2
theorem OH {n:Int} {k:Nat} {y:ak}:∀ (A:List ak) (i:Nat),(∀ x,A[k]? =some x->y.no=x.no)->bp n i (A.set k y)=bp n i A:=by
 intro A
 induction A generalizing k with
 | nil=>intro i _;rfl
 | cons x r ih=>
  intro i h
  cases k with
  | zero=>simp only[List.set_cons_zero,bp];rw[h x rfl]
  | succ k=>simp only[List.set_cons_succ,bp];rw[ih (i+1) (fun z hz=>h z (by simpa using hz))]
theorem G8 {n:Int} {y:ak}:∀ (A:List ak) (i:Nat),bp n i (A++[y])=(bp n i A).or (if n=y.no then some (i+A.length) else none)
 | [],i=>by simp[bp]
 | x::r,i=>by
  simp only[US,bp,Vs]
  by_cases h:n=x.no
  ·simp[h]
  ·rw[Xd h,Xd h,G8 r (i+1),show i+(r.length+1)=i+1+r.length by omega]
theorem ko {A:List ak} {k:Nat} {x:ak} (h:A[k]? =some x):(A.map ak.tup)[k]? =some x.tup:=by rw[Vh,h];rfl
theorem Od (A:List ak) (k:Nat) (y:ak):(A.map ak.tup).set k y.tup=(A.set k y).map ak.tup:=by rw[List.map_set]
theorem Eb {A:List ak} {k:Nat} {x:ak} (h:A[k]? =some x) (y:ak):(A.set k y)[k]? =some y:=by
 have:=(Vg.1 h).1
 simp[Vk,this]
theorem vC {A:List ak} {k:Nat} {x:ak} (h:A[k]? =some x) (hx:LOk x):iM (some k) (A.map ak.tup)=some (x.opn,()):=by
 unfold iM
 have ht:=ko h
 simp only[WG,ht]
 have:=hx.ret0;have:=hx.retr;have:=hx.rcvs;have:=hx.shp1;have:=hx.qj;have:=hx.ord1
 rw[aG (n:=x.ord - x.shp) (by omega) (by omega),aG (n:=x.ord - x.shp+x.ret) (by omega) (by omega)]
 rfl
end Go.Md
namespace Go.Md
open Go.Dn
abbrev dNo (d:aa):=d.2.2.1
abbrev aB (d:aa):=d.2.2.2.1
abbrev aH (d:aa):=d.2.2.2.2.1
abbrev dQ (d:aa):=d.2.2.2.2.2.2.1
abbrev Ag (d:aa):=d.2.2.2.2.2.2.2.2.1
abbrev dX (d:aa):=d.2.2.2.2.2.2.2.2.2.1
abbrev dTo (d:aa):=d.2.2.2.2.2.2.2.2.2.2
theorem eM {d:aa} (h:BO d=0):(usQ (aB d)=true->qOk (dQ d) (aB d==2)=true)/\(usP (aB d)=true->inR (Ag d) 0 1000000000 4=true)/\(usU (aB d)=true->wN (dX d)=true)/\(usA (aB d)=true->dw d.2.2.2.2.2.1=true/\dw d.2.2.2.2.2.2.2.1=true)/\(usT (aB d)=true->xO (dTo d)=true):=by
 unfold BO Ik at h
 show (usQ d.2.2.2.1=true->qOk d.2.2.2.2.2.2.1 (d.2.2.2.1==2)=true)/\(usP d.2.2.2.1=true->inR d.2.2.2.2.2.2.2.2.1 0 1000000000 4=true)/\(usU d.2.2.2.1=true->wN d.2.2.2.2.2.2.2.2.2.1=true)/\(usA d.2.2.2.1=true->dw d.2.2.2.2.2.1=true/\dw d.2.2.2.2.2.2.2.1=true)/\(usT d.2.2.2.1=true->xO d.2.2.2.2.2.2.2.2.2.2=true)
 generalize usA d.2.2.2.1=ua at*
 generalize usQ d.2.2.2.1=uq at*
 generalize usP d.2.2.2.1=up at*
 generalize usU d.2.2.2.1=uu at*
 generalize usT d.2.2.2.1=ut at*
 generalize qOk d.2.2.2.2.2.2.1 (d.2.2.2.1==2)=b1 at*
 generalize inR d.2.2.2.2.2.2.2.2.1 0 1000000000 4=b2 at*
 generalize wN d.2.2.2.2.2.2.2.2.2.1=b3 at*
 generalize dw d.2.2.2.2.2.1=b4 at*
 generalize dw d.2.2.2.2.2.2.2.1=b5 at*
 generalize xO d.2.2.2.2.2.2.2.2.2.2=b6 at*
 cases hq:(uq&& !b1)
 ·rw[hq,WU] at h
  cases hp:(up&& !b2)
  ·rw[hp,WU] at h
   cases hu:(uu&& !b3)
   ·rw[hu,WU] at h
    cases ha:(ua&&(!b4|| !b5))
    ·rw[ha,WU] at h
     cases ht:(ut&& !b6)
     ·refine⟨?_, ?_, ?_, ?_, ?_⟩
      ·revert hq;cases uq<;>cases b1<;>simp
      ·revert hp;cases up<;>cases b2<;>simp
      ·revert hu;cases uu<;>cases b3<;>simp
      ·revert ha;cases ua<;>cases b4<;>cases b5<;>simp
      ·revert ht;cases ut<;>cases b6<;>simp
     ·rw[ht,WV] at h;cases h
    ·rw[ha,WV] at h;cases h
   ·rw[hu,WV] at h;cases h
  ·rw[hp,WV] at h;cases h
 ·rw[hq,WV] at h;cases h
def BS (day:Int) (i:Int) (d:aa) (x:ak):Int×ak:=
 if aB d=3/\dX d<day then (1,x) else if 0<=x.wish then (11,x) else (0,{ x with wish:=i })
def gw (l:List aa) (x:ak):aa:=l.getD x.wish.toNat (0,0,0,0,0,[],(0,0),[],(0,0),0,0)
def bW (l:List aa) (d:aa) (x:ak):Int×ak:=
 if x.wish<0 then (5,x)
 else if dNo (gw l x)≠dTo d then (5,x)
 else if aB d=5 then
  (if aB (gw l x)=2 then (if aQ (dQ (gw l x))<x.shp - x.ret then (12,x) else (0,{ x with ord:=aQ (dQ (gw l x)),wish:= -1 }))
  else if aB (gw l x)=1 then (0,{ x with ord:=aQ (dQ (gw l x)),wish:= -1 })
  else if aB (gw l x)=3 then (0,{ x with due:=dX (gw l x),wish:= -1 })
  else (0,{ x with price:=Ag (gw l x),wish:= -1 }))
 else (0,{ x with wish:= -1 })
def lF (day:Int) (d:aa) (x:ak):Int:=
 if dX d<day then 1 else if 0<=x.wish\/x.opn=0 then 11 else if x.opn<aQ (dQ d) then 12 else 0
def Eo (d:aa) (x:ak):Int×ak:=
 if 0<=x.wish then (11,x) else if x.ono=0\/x.ono≠dTo d then (5,x) else (0,{ x with ord:=x.shp - x.ret+x.oq,due:=x.ount,ono:=0,oq:=0,ount:=0 })
def cL (ext:Int) (d:aa) (x:ak):Int×ak:=
 if aB d=9 then
  (if x.ord+x.ord*ext / 1000<x.shp - x.ret+aQ (dQ d) then (12,x)
  else if 1000000000000000<x.shp+aQ (dQ d) then (16,x)
  else (0,{ x with shp:=x.shp+aQ (dQ d) }))
 else if aB d=10 then (if x.shp<x.rcv+aQ (dQ d) then (12,x) else (0,{ x with rcv:=x.rcv+aQ (dQ d) }))
 else (if x.rcv<x.ret+aQ (dQ d) then (12,x) else (0,{ x with ret:=x.ret+aQ (dQ d) }))
theorem gv {A:List ak} {k:Nat} {x:ak} (h:A[k]? =some x):A.set k x=A:=by
 obtain⟨h1,h2⟩:=Vg.1 h
 rw[<- h2];exact List.set_getElem_self h1
theorem jH {A:List ak} {k:Nat} (y:ak) (T:aF) (hT:T=y.tup):List.set (A.map ak.tup) k T=(A.set k y).map ak.tup:=by rw[hT,Od]
theorem xK {A:List ak} {k:Nat} {x:ak} (h:A[k]? =some x) (T:aF):(List.set (A.map ak.tup) k T)[k]? =some T:=by
 have:=(Vg.1 h).1
 rw[Vm (by simpa using this)]
variable {o:aj} {l:List aa} {m:List (Int×Option Nat)} {ref:List ah} {pts:List az} {wt:Int} {A:List ak} {k:Nat} {x:ak}
theorem lH (h:A[k]? =some x) {i:Nat} {d:aa} (hd:l[i]? =some d): jS (o,l,m,ref,pts,wt,()) (some k) (i:Int) (A.map ak.tup)=some ((BS (bH o) i d x).1,(o,l,m,ref,pts,wt,()),(A.set k (BS (bH o) i d x).2).map ak.tup,()):=by
 unfold jS BS
 dsimp only
 rw[cO hd,WG]
 have hv:(bif d.2.2.2.1==3 then some (decide (d.2.2.2.2.2.2.2.2.2.1<o.2.2.2.1),()) else some (false,()))=some (decide (aB d=3/\dX d<bH o),()):=by
  by_cases h3:d.2.2.2.1=3
  ·rw[show (d.2.2.2.1==3)=true by simp[h3],WV]
   simp[aB,h3]
  ·rw[show (d.2.2.2.1==3)=false by simp[h3],WU]
   simp[aB,h3]
 rw[hv,WG]
 dsimp only
 by_cases h1:aB d=3/\dX d<bH o
 ·rw[WX h1,WV,Xe h1,gv h]
 ·rw[WW h1,WU,Xd h1]
  simp only[WG,ko h]
  by_cases h2:0<=x.wish
  ·rw[Xe h2,WX (show x.wish>=0 from h2),WV,gv h]
  ·rw[Xd h2,WW (show ¬x.wish>=0 from h2),WU,jH { x with wish:=(i:Int) } _ rfl]
structure WOk (l:List aa) (x:ak):Prop where
 low: -1<=x.wish
 kind:0<=x.wish->∃ d,l[x.wish.toNat]? =some d/\aB d<=4
theorem vf {d:aa} (hw:l[x.wish.toNat]? =some d):gw l x=d:=by
 unfold gw
 rw[U7,hw];rfl
theorem Rk {d:aa} (h0:0<=x.wish) (hw:l[x.wish.toNat]? =some d):idx l x.wish=some d:=by
 unfold idx;rw[Xe h0];exact hw
theorem oT (h:A[k]? =some x) (hx:LOk x) (hw:WOk l x) (hl:∀ d,d∈l->cc d=0) (d:aa): iI (o,l,m,ref,pts,wt,()) (some k) d (A.map ak.tup)=some ((bW l d x).1,(o,l,m,ref,pts,wt,()),(A.set k (bW l d x).2).map ak.tup,()):=by
 unfold iI bW
 simp only[WG,ko h]
 by_cases h1:x.wish<0
 ·rw[Xe h1,WX h1,WV,gv h]
 ·rw[Xd h1,WW h1,WU]
  obtain⟨w,hw1,hw2⟩:=hw.kind (by omega)
  rw[Rk (by omega) hw1,vf hw1]
  simp only[WG]
  have hwf:=hl w (VO hw1)
  obtain⟨_,_,_,hk,_,_,hu⟩:=cJ hwf
  obtain⟨uq,_⟩:=eM hu
  have b0:=hx.ret0;have b1:=hx.retr;have b2:=hx.rcvs;have b3:=hx.shp1
  by_cases h2:dNo w=dTo d
  ·rw[Xd (fun e=>e h2),show (w.2.2.1 != d.2.2.2.2.2.2.2.2.2.2)=false by simpa using h2,WU]
   by_cases h3:aB d=5
   ·rw[Xe h3,show (d.2.2.2.1==5)=true by simpa using h3,WV]
    by_cases k2:aB w=2
    ·have hq:=uq (by rw[k2];rfl)
     rw[Xe k2,show (w.2.2.2.1==2)=true by simpa using k2,WV]
     simp only[jv hq,WG,xK h,VY]
     rw[aG (n:=x.shp - x.ret) (by omega) (by omega)]
     by_cases h4:aQ (dQ w)<x.shp - x.ret
     ·rw[Xe h4,WX h4,WV,gv h]
     ·rw[Xd h4,WW h4,WU,jH { x with ord:=aQ (dQ w),wish:= -1 } _ rfl]
    ·rw[Xd k2,show (w.2.2.2.1==2)=false by simpa using k2,WU]
     by_cases k1:aB w=1
     ·have hq:=uq (by rw[k1];rfl)
      rw[Xe k1,show (w.2.2.2.1==1)=true by simpa using k1,WV]
      simp only[jv hq,WG,xK h,VY]
      rw[jH { x with ord:=aQ (dQ w),wish:= -1 } _ rfl]
     ·rw[Xd k1,show (w.2.2.2.1==1)=false by simpa using k1,WU]
      by_cases k3:aB w=3
      ·rw[Xe k3,show (w.2.2.2.1==3)=true by simpa using k3,WV]
       simp only[WG,xK h,VY]
       rw[jH { x with due:=dX w,wish:= -1 } _ rfl]
      ·rw[Xd k3,show (w.2.2.2.1==3)=false by simpa using k3,WU]
       simp only[WG,xK h,VY]
       rw[jH { x with price:=Ag w,wish:= -1 } _ rfl]
   ·rw[Xd h3,show (d.2.2.2.1==5)=false by simpa using h3,WU,jH { x with wish:= -1 } _ rfl]
  ·rw[Xe h2,show (w.2.2.1 != d.2.2.2.2.2.2.2.2.2.2)=true by simpa using h2,WV,gv h]
theorem wQ (h:A[k]? =some x) (hx:LOk x) {d:aa} {z:Bool} (hq:qOk (dQ d) z=true): ig (o,l,m,ref,pts,wt,()) (some k) d (A.map ak.tup)=some (lF (bH o) d x,(o,l,m,ref,pts,wt,()),A.map ak.tup,()):=by
 unfold ig lF
 simp only[WG,ko h,vC h hx,jv hq]
 by_cases h1:dX d<bH o
 ·rw[Xe h1,WX h1,WV]
 ·rw[Xd h1,WW h1,WU]
  by_cases h2:0<=x.wish
  ·rw[Xe (.inl h2),WX (show x.wish>=0 from h2),WV]
  ·rw[WW (show ¬x.wish>=0 from h2),WU]
   by_cases h3:x.opn=0
   ·rw[Xe (.inr h3),show (x.opn==0)=true by simp[h3],WV]
   ·rw[Xd (fun e=>e.elim h2 h3),show (x.opn==0)=false by simp[h3],WU]
    by_cases h4:x.opn<aQ (dQ d)
    ·rw[Xe h4,WX (show aQ (dQ d)>x.opn from h4),WV]
    ·rw[Xd h4,WW (show ¬aQ (dQ d)>x.opn from h4),WU]
theorem zL (h:A[k]? =some x) (hx:LOk x) (d:aa): jR (o,l,m,ref,pts,wt,()) (some k) d (A.map ak.tup)=some ((Eo d x).1,(o,l,m,ref,pts,wt,()),(A.set k (Eo d x).2).map ak.tup,()):=by
 unfold jR Eo
 simp only[WG,ko h,xK h,VY]
 have b0:=hx.ret0;have b1:=hx.retr;have b2:=hx.rcvs;have b3:=hx.shp1;have b4:=hx.qj;have b5:=hx.ord1
 by_cases h1:0<=x.wish
 ·rw[Xe h1,WX (show x.wish>=0 from h1),WV,gv h]
 ·rw[Xd h1,WW (show ¬x.wish>=0 from h1),WU]
  by_cases h2:x.ono=0
  ·rw[Xe (.inl h2),show (x.ono==0)=true by simp[h2],WV,gv h]
  ·rw[show (x.ono==0)=false by simp[h2],WU]
   by_cases h3:x.ono=dTo d
   ·obtain⟨c1,c2⟩:=hx.off h2
    rw[Xd (fun e=>e.elim h2 (fun e=>e h3)),show (x.ono != d.2.2.2.2.2.2.2.2.2.2)=false by simpa using h3,WU,
     aG (n:=x.shp - x.ret) (by omega) (by omega),aG (n:=x.shp - x.ret+x.oq) (by omega) (by omega),
     jH { x with ord:=x.shp - x.ret+x.oq,due:=x.ount,ono:=0,oq:=0,ount:=0 } _ rfl]
   ·rw[Xe (.inr h3),show (x.ono != d.2.2.2.2.2.2.2.2.2.2)=true by simpa using h3,WV,gv h]
theorem lG (h:A[k]? =some x) (hx:LOk x) (he0:0<=dD o) (he1:dD o<=1000) {d:aa} {z:Bool} (hq:qOk (dQ d) z=true): jQ (o,l,m,ref,pts,wt,()) (some k) d (A.map ak.tup)=some ((cL (dD o) d x).1,(o,l,m,ref,pts,wt,()),(A.set k (cL (dD o) d x).2).map ak.tup,()):=by
 unfold jQ cL
 simp only[WG,ko h,xK h,jv hq]
 have b0:=hx.ret0;have b1:=hx.retr;have b2:=hx.rcvs;have b3:=hx.shp1;have b4:=hx.qj;have b5:=hx.ord1
 obtain⟨q0,q1,_⟩:=iC hq
 by_cases k9:aB d=9
 ·rw[Xe k9,show (d.2.2.2.1==9)=true by simpa using k9,WV]
  have m0:0<=x.ord*dD o:=Int.mul_nonneg b4 he0
  have m1:x.ord*dD o<=x.ord*1000:=UB he1 b4
  have e1:w64 (x.ord*dD o)=x.ord*dD o:=aG (by omega) (by omega)
  have e2:Int.tdiv (x.ord*dD o) 1000=x.ord*dD o / 1000:=UJ m0
  have d0:0<=x.ord*dD o / 1000:=Int.ediv_nonneg m0 (by omega)
  have d1:x.ord*dD o / 1000<=x.ord:=by omega
  rw[show w64 (x.ord*o.2.2.2.2.1)=x.ord*dD o from e1,e2,aG (n:=x.ord*dD o / 1000) (by omega) (by omega),aG (n:=x.ord+x.ord*dD o / 1000) (by omega) (by omega),
   aG (n:=x.shp - x.ret) (by omega) (by omega),aG (n:=x.shp - x.ret+aQ (dQ d)) (by omega) (by omega),aG (n:=x.shp+aQ (dQ d)) (by omega) (by omega)]
  by_cases c1:x.ord+x.ord*dD o / 1000<x.shp - x.ret+aQ (dQ d)
  ·rw[Xe c1,WX (show x.shp - x.ret+aQ (dQ d)>x.ord+x.ord*dD o / 1000 from c1),WV,gv h]
  ·rw[Xd c1,WW (show ¬x.shp - x.ret+aQ (dQ d)>x.ord+x.ord*dD o / 1000 from c1),WU]
   by_cases c2:1000000000000000<x.shp+aQ (dQ d)
   ·rw[Xe c2,WX (show x.shp+aQ (dQ d)>1000000000000000 from c2),WV,gv h]
   ·rw[Xd c2,WW (show ¬x.shp+aQ (dQ d)>1000000000000000 from c2),WU,jH { x with shp:=x.shp+aQ (dQ d) } _ rfl]
 ·rw[Xd k9,show (d.2.2.2.1==9)=false by simpa using k9,WU]
  by_cases k10:aB d=10
  ·rw[Xe k10,show (d.2.2.2.1==10)=true by simpa using k10,WV,aG (n:=x.rcv+aQ (dQ d)) (by omega) (by omega)]
   by_cases c1:x.shp<x.rcv+aQ (dQ d)
   ·rw[Xe c1,WX (show x.rcv+aQ (dQ d)>x.shp from c1),WV,gv h]
   ·rw[Xd c1,WW (show ¬x.rcv+aQ (dQ d)>x.shp from c1),WU,jH { x with rcv:=x.rcv+aQ (dQ d) } _ rfl]
  ·rw[Xd k10,show (d.2.2.2.1==10)=false by simpa using k10,WU,aG (n:=x.ret+aQ (dQ d)) (by omega) (by omega)]
   by_cases c1:x.rcv<x.ret+aQ (dQ d)
   ·rw[Xe c1,WX (show x.ret+aQ (dQ d)>x.rcv from c1),WV,gv h]
   ·rw[Xd c1,WW (show ¬x.ret+aQ (dQ d)>x.rcv from c1),WU,jH { x with ret:=x.ret+aQ (dQ d) } _ rfl]
end Go.Md
namespace Go.Md
open Go.Dn
def ak.clr (x:ak):ak:={ x with ono:=0,oq:=0,ount:=0 }
def dA (o:aj) (l:List aa) (i:Nat) (d:aa) (x:ak):Int×ak:=
 if aB d<=4 then BS (bH o) i d x
 else if aB d<=6 then (if (bW l d x).1=0 then (0,(bW l d x).2.clr) else bW l d x)
 else if aB d=7 then (if lF (bH o) d x=0 then (0,{ x with ono:=dNo d,oq:=aQ (dQ d),ount:=dX d }) else (lF (bH o) d x,x))
 else if aB d=8 then Eo d x
 else if aB d=9 then (if (cL (dD o) d x).1=0 then (0,(cL (dD o) d x).2.clr) else cL (dD o) d x)
 else cL (dD o) d x
def pX (i:Nat) (d:aa):ak:=⟨aH d,d.2.2.2.2.2.1,d.2.2.2.2.2.2.2.1,0,0,0,0,Ag d,dX d,i,0,0,0⟩
def bY (o:aj) (l:List aa) (i:Nat) (d:aa) (A:List ak):Int×List ak:=
 if aB d=1 then
  (match gD (aH d) A with
  | some _=>(7,A)
  | none=>if 500<=A.length then (16,A) else if dX d<bH o then (1,A) else (0,A++[pX i d]))
 else match gD (aH d) A with
  | none=>(9,A)
  | some k=>match A[k]? with
   | some x=>((dA o l i d x).1,A.set k (dA o l i d x).2)
   | none=>(9,A)
structure Sound (l:List aa) (A:List ak):Prop where
 line:∀ x,x∈A->LOk x/\WOk l x
theorem S4 {x:ak} (h:LOk x):LOk x.clr:=⟨h.ret0,h.retr,h.rcvs,h.shp1,h.qj,h.ord1,fun e=>absurd rfl e⟩
theorem On {l:List aa} {d:aa} {x:ak} (hx:LOk x) (hw:WOk l x) (hl:∀ d,d∈l->cc d=0):((bW l d x).1=0->LOk (bW l d x).2.clr)/\((bW l d x).1≠0->(bW l d x).2=x)/\((bW l d x).2=x\/(bW l d x).2.wish= -1)/\(bW l d x).2.no=x.no:=by
 have hk:LOk x.clr:=S4 hx
 unfold bW
 by_cases h1:x.wish<0
 ·rw[Xe h1];exact⟨nofun,fun _=>rfl,.inl rfl,rfl⟩
 rw[Xd h1]
 obtain⟨w,hw1,hw2⟩:=hw.kind (by omega)
 rw[vf hw1]
 obtain⟨_,_,_,_,_,_,hu⟩:=cJ (hl w (VO hw1))
 obtain⟨uq,_⟩:=eM hu
 by_cases h2:dNo w≠dTo d
 ·rw[Xe h2];exact⟨nofun,fun _=>rfl,.inl rfl,rfl⟩
 rw[Xd h2]
 by_cases h3:aB d=5
 ·rw[Xe h3]
  by_cases k2:aB w=2
  ·rw[Xe k2]
   obtain⟨q0,q1,_⟩:=iC (uq (by rw[k2];rfl))
   by_cases h4:aQ (dQ w)<x.shp - x.ret
   ·rw[Xe h4];exact⟨nofun,fun _=>rfl,.inl rfl,rfl⟩
   ·rw[Xd h4];exact⟨fun _=>⟨hx.ret0,hx.retr,hx.rcvs,hx.shp1,q0,q1,fun e=>absurd rfl e⟩,fun e=>absurd rfl e,.inr rfl,rfl⟩
  ·rw[Xd k2]
   by_cases k1:aB w=1
   ·rw[Xe k1]
    obtain⟨q0,q1,_⟩:=iC (uq (by rw[k1];rfl))
    exact⟨fun _=>⟨hx.ret0,hx.retr,hx.rcvs,hx.shp1,q0,q1,fun e=>absurd rfl e⟩,fun e=>absurd rfl e,.inr rfl,rfl⟩
   ·rw[Xd k1]
    by_cases k3:aB w=3
    ·rw[Xe k3];exact⟨fun _=>⟨hx.ret0,hx.retr,hx.rcvs,hx.shp1,hx.qj,hx.ord1,fun e=>absurd rfl e⟩,fun e=>absurd rfl e,.inr rfl,rfl⟩
    ·rw[Xd k3];exact⟨fun _=>⟨hx.ret0,hx.retr,hx.rcvs,hx.shp1,hx.qj,hx.ord1,fun e=>absurd rfl e⟩,fun e=>absurd rfl e,.inr rfl,rfl⟩
 ·rw[Xd h3];exact⟨fun _=>⟨hx.ret0,hx.retr,hx.rcvs,hx.shp1,hx.qj,hx.ord1,fun e=>absurd rfl e⟩,fun e=>absurd rfl e,.inr rfl,rfl⟩
theorem Ru {ext:Int} {d:aa} {x:ak} {z:Bool} (hx:LOk x) (hq:qOk (dQ d) z=true):((cL ext d x).1=0->LOk (if aB d=9 then (cL ext d x).2.clr else (cL ext d x).2))/\((cL ext d x).1≠0->(cL ext d x).2=x)/\(cL ext d x).2.wish=x.wish/\(cL ext d x).2.no=x.no:=by
 obtain⟨q0,q1,_⟩:=iC hq
 have b0:=hx.ret0;have b1:=hx.retr;have b2:=hx.rcvs;have b3:=hx.shp1
 unfold cL
 by_cases k9:aB d=9
 ·rw[Xe k9,Xe k9]
  split
  ·exact⟨nofun,fun _=>rfl,rfl,rfl⟩
  ·split
   ·exact⟨nofun,fun _=>rfl,rfl,rfl⟩
   ·rename_i h1 h2
    exact⟨fun _=>⟨b0,b1,by show x.rcv<=x.shp+aQ (dQ d);omega,by show x.shp+aQ (dQ d)<=_;omega,hx.qj,hx.ord1,fun e=>absurd rfl e⟩,fun e=>absurd rfl e,rfl,rfl⟩
 ·rw[Xd k9,Xd k9]
  by_cases k10:aB d=10
  ·rw[Xe k10]
   split
   ·exact⟨nofun,fun _=>rfl,rfl,rfl⟩
   ·rename_i h1
    exact⟨fun _=>⟨b0,by show x.ret<=x.rcv+aQ (dQ d);omega,by show x.rcv+aQ (dQ d)<=x.shp;omega,b3,hx.qj,hx.ord1,hx.off⟩,fun e=>absurd rfl e,rfl,rfl⟩
  ·rw[Xd k10]
   split
   ·exact⟨nofun,fun _=>rfl,rfl,rfl⟩
   ·rename_i h1
    exact⟨fun _=>⟨by show 0<=x.ret+aQ (dQ d);omega,by show x.ret+aQ (dQ d)<=x.rcv;omega,b2,b3,hx.qj,hx.ord1,fun e=>by
     obtain⟨c1,c2⟩:=hx.off e
     exact⟨c1,by show x.oq+x.shp - (x.ret+aQ (dQ d))<=x.ord;omega⟩⟩,fun e=>absurd rfl e,rfl,rfl⟩
theorem D1 {o:aj} {l:List aa} {i:Nat} {d:aa} {x:ak} (hx:LOk x) (hw:WOk l x) (hl:∀ d,d∈l->cc d=0) (hd:l[i]? =some d): LOk (dA o l i d x).2/\WOk l (dA o l i d x).2/\(dA o l i d x).2.no=x.no/\((dA o l i d x).1≠0->(dA o l i d x).2=x):=by
 obtain⟨_,_,_,hk,_,_,hu⟩:=cJ (hl d (VO hd))
 obtain⟨uq,_⟩:=eM hu
 unfold dA
 by_cases k4:aB d<=4
 ·rw[Xe k4]
  unfold BS
  split
  ·exact⟨hx,hw,rfl,fun _=>rfl⟩
  ·split
   ·exact⟨hx,hw,rfl,fun _=>rfl⟩
   ·refine⟨⟨hx.ret0,hx.retr,hx.rcvs,hx.shp1,hx.qj,hx.ord1,hx.off⟩,⟨by show (-1:Int)<=(i:Int);omega,fun _=>⟨d,by show l[((i:Int)).toNat]? =some d;simpa using hd,k4⟩⟩,rfl,fun e=>absurd rfl e⟩
 ·rw[Xd k4]
  by_cases k6:aB d<=6
  ·rw[Xe k6]
   obtain⟨a1,a2,a3,a4⟩:=On (d:=d) hx hw hl
   split
   ·rename_i e
    refine⟨a1 e, ?_,a4,fun e=>absurd rfl e⟩
    rcases a3 with a3 | a3
    ·rw[a3];exact⟨hw.low,hw.kind⟩
    ·exact⟨by show -1<=(bW l d x).2.wish;omega,fun h=>by have:0<=(bW l d x).2.wish:=h;omega⟩
   ·rename_i e
    rw[a2 e];exact⟨hx,hw,rfl,fun _=>rfl⟩
  ·rw[Xd k6]
   by_cases k7:aB d=7
   ·rw[Xe k7]
    have hq:=uq (by rw[k7];rfl)
    rw[show (aB d==2)=false by rw[k7];rfl] at hq
    obtain⟨q0,q1,q2⟩:=iC hq
    split
    ·rename_i e
     refine⟨⟨hx.ret0,hx.retr,hx.rcvs,hx.shp1,hx.qj,hx.ord1,fun _=>⟨q2 rfl, ?_⟩⟩,⟨hw.low,hw.kind⟩,rfl,fun e=>absurd rfl e⟩
     show aQ (dQ d)+x.shp - x.ret<=x.ord
     unfold lF at e
     split at e
     ·cases e
     ·split at e
      ·cases e
      ·split at e
       ·cases e
       ·rename_i h1 h2 h3
        have:=q2 rfl
        unfold ak.opn at h3
        split at h3<;>omega
    ·exact⟨hx,hw,rfl,fun _=>rfl⟩
   ·rw[Xd k7]
    by_cases k8:aB d=8
    ·rw[Xe k8]
     unfold Eo
     split
     ·exact⟨hx,hw,rfl,fun _=>rfl⟩
     ·split
      ·exact⟨hx,hw,rfl,fun _=>rfl⟩
      ·rename_i h1 h2
       obtain⟨c1,c2⟩:=hx.off (fun e=>h2 (.inl e))
       have:=hx.ret0;have:=hx.retr;have:=hx.rcvs;have:=hx.ord1
       refine⟨⟨hx.ret0,hx.retr,hx.rcvs,hx.shp1, ?_, ?_,fun e=>absurd rfl e⟩,⟨hw.low,hw.kind⟩,rfl,fun e=>absurd rfl e⟩
       ·show 0<=x.shp - x.ret+x.oq;omega
       ·show x.shp - x.ret+x.oq<=1000000000000;omega
    ·rw[Xd k8]
     have hq:=uq (by
      unfold usQ
      refine WX ⟨by omega,by omega,by omega,by omega,by omega⟩)
     obtain⟨a1,a2,a3,a4⟩:=Ru (ext:=dD o) hx hq
     by_cases k9:aB d=9
     ·rw[Xe k9]
      split
      ·rename_i e
       have:=a1 e
       rw[Xe k9] at this
       exact⟨this,⟨by show -1<=(cL (dD o) d x).2.wish;rw[a3];exact hw.low,fun h=>by
        have h':0<=(cL (dD o) d x).2.wish:=h
        rw[a3] at h'
        show ∃ d',l[(cL (dD o) d x).2.wish.toNat]? =some d'/\_
        rw[a3];exact hw.kind h'⟩,a4,fun e=>absurd rfl e⟩
      ·rename_i e
       rw[a2 e];exact⟨hx,hw,rfl,fun _=>rfl⟩
     ·rw[Xd k9]
      by_cases e:(cL (dD o) d x).1=0
      ·have:=a1 e
       rw[Xd k9] at this
       exact⟨this,⟨by rw[a3];exact hw.low,fun h=>by rw[a3] at h ⊢;exact hw.kind h⟩,a4,fun h=>absurd e h⟩
      ·rw[a2 e];exact⟨hx,hw,rfl,fun _=>rfl⟩
theorem QW {l:List aa} {A:List ak} (h:Sound l A) {k:Nat} {y:ak} (h1:LOk y) (h2:WOk l y):Sound l (A.set k y):=⟨fun x hx=>by
 rcases VP hx with hx | hx
 ·exact h.line x hx
 ·subst hx;exact⟨h1,h2⟩⟩
theorem Rc {o:aj} {l:List aa} {i:Nat} {d:aa} {A:List ak} (hA:Sound l A) (hl:∀ d,d∈l->cc d=0) (hd:l[i]? =some d): Sound l (bY o l i d A).2/\((bY o l i d A).1≠0->(bY o l i d A).2=A):=by
 unfold bY
 by_cases k1:aB d=1
 ·rw[Xe k1]
  split
  ·exact⟨hA,fun _=>rfl⟩
  ·split
   ·exact⟨hA,fun _=>rfl⟩
   ·split
    ·exact⟨hA,fun _=>rfl⟩
    ·refine⟨⟨fun x hx=> ?_⟩,fun e=>absurd rfl e⟩
     rcases VF.1 hx with hx | hx
     ·exact hA.line x hx
     ·simp only[VR] at hx
      subst hx
      exact⟨⟨by show (0:Int)<=0;omega,by show (0:Int)<=0;omega,by show (0:Int)<=0;omega,by show (0:Int)<=_;omega,by show (0:Int)<=0;omega,by show (0:Int)<=_;omega,fun e=>absurd rfl e⟩,
       ⟨by show (-1:Int)<=(i:Int);omega,fun _=>⟨d,by show l[((i:Int)).toNat]? =some d;simpa using hd,by omega⟩⟩⟩
 ·rw[Xd k1]
  split
  ·exact⟨hA,fun _=>rfl⟩
  ·rename_i k hk
   split
   ·rename_i x hx
    obtain⟨h1,h2⟩:=hA.line x (VO hx)
    obtain⟨a1,a2,a3,a4⟩:=D1 (o:=o) h1 h2 hl hd
    exact⟨QW hA a1 a2,fun e=>by rw[a4 e];exact gv hx⟩
   ·exact⟨hA,fun _=>rfl⟩
variable {o:aj} {l:List aa} {ref:List ah} {pts:List az} {wt:Int} {A:List ak}
theorem Aw {i:Nat} {d:aa} (hd:l[i]? =some d) (k1:aB d=1): kP (o,l,mapOf A,ref,pts,wt,()) (i:Int) (A.map ak.tup)=some ((bY o l i d A).1,(o,l,mapOf (bY o l i d A).2,ref,pts,wt,()),(bY o l i d A).2.map ak.tup,()):=by
 unfold kP bY
 dsimp only
 rw[cO hd,WG,fM,Xe k1]
 cases hf:gD (aH d) A with
 | some k=>rw[show bp d.2.2.2.2.1 0 A=some k from hf];rfl
 | none=>
  rw[show bp d.2.2.2.2.1 0 A=none from hf]
  dsimp only
  rw[show (!Option.isNone (none:Option Nat))=false from rfl,WU]
  by_cases h1:500<=A.length
  ·rw[Xe h1,WX (show ((mapOf A).length:Int)>=500 by rw[vw];omega),WV]
  ·rw[Xd h1,WW (show ¬((mapOf A).length:Int)>=500 by rw[vw];omega),WU]
   by_cases h2:dX d<bH o
   ·rw[Xe h2,WX h2,WV]
   ·rw[Xd h2,WW h2,WU]
    have hs:=FR (aH d) (pX i d) rfl A 0 hf
    rw[Wz] at hs
    rw[Vt]
    refine congrArg some ?_
    refine Prod.ext rfl (Prod.ext ?_ (Prod.ext ?_ rfl))
    ·exact Prod.ext rfl (Prod.ext rfl (Prod.ext hs rfl))
    ·show List.map ak.tup A++[_]=List.map ak.tup (A++[pX i d])
     rw[VB]
     rfl
end Go.Md
namespace Go.Md
open Go.Dn
theorem OC {o:aj} {l:List aa} {i:Nat} {d:aa} {A:List ak} (k1:aB d≠1) (hf:gD (aH d) A=none):bY o l i d A=(9,A):=by
 unfold bY;rw[Xd k1,hf]
theorem PW {o:aj} {l:List aa} {i:Nat} {d:aa} {A:List ak} {k:Nat} {x:ak} (k1:aB d≠1) (hf:gD (aH d) A=some k) (hx:A[k]? =some x):bY o l i d A=((dA o l i d x).1,A.set k (dA o l i d x).2):=by
 unfold bY;rw[Xd k1,hf];dsimp only;rw[hx]
variable {o:aj} {l:List aa} {ref:List ah} {pts:List az} {wt:Int} {A:List ak}
theorem I4 {k:Nat} (x:ak) (y:ak) (T:aF) (hT:T=y.tup):List.set ((A.set k x).map ak.tup) k T=(A.set k y).map ak.tup:=by
 rw[hT,Od,VY]
theorem Sd {onum obuy osel:List UInt8} {oday oext:Int} {olns:List ai} {day byy no line:Int} {art:List UInt8} {q:ah} {unit:List UInt8} {p:ah} {un to:Int} {i:Nat} (he0:0<=oext) (he1:oext<=1000) (hl:∀ d,d∈l->cc d=0) (hd:l[i]? =some (day,byy,no,2,line,art,q,unit,p,un,to)) {k:Nat} {x:ak} (hf:bp line 0 A=some k) (hx:A[k]? =some x) (hs:LOk x) (hw:WOk l x): aJ ((onum,obuy,osel,oday,oext,olns),l,mapOf A,ref,pts,wt,()) (i:Int) (A.map ak.tup)=some ((dA (onum,obuy,osel,oday,oext,olns) l i (day,byy,no,2,line,art,q,unit,p,un,to) x).1,((onum,obuy,osel,oday,oext,olns),l,mapOf A,ref,pts,wt,()),(A.set k (dA (onum,obuy,osel,oday,oext,olns) l i (day,byy,no,2,line,art,q,unit,p,un,to) x).2).map ak.tup,()):=by
 have hdf:=hl _ (VO hd)
 obtain⟨_,_,_,_,_,_,hu⟩:=cJ hdf
 obtain⟨uq,_⟩:=eM hu
 have h21:((2:Int)==1)=false:=rfl
 have h22:((2:Int)==2)=true:=rfl
 have h23:((2:Int)==3)=false:=rfl
 have h24:((2:Int)==4)=false:=rfl
 have h25:((2:Int)==5)=false:=rfl
 have h26:((2:Int)==6)=false:=rfl
 have h27:((2:Int)==7)=false:=rfl
 have h28:((2:Int)==8)=false:=rfl
 have h29:((2:Int)==9)=false:=rfl
 unfold aJ
 dsimp only
 rw[cO hd,WG]
 dsimp only
 rw[fM,hf]
 simp only[h21,h22,h23,h24,h25,h26,h27,h28,h29,WV,WU,aI,WJ,WG,lH hx hd]
 rfl
theorem Se {onum obuy osel:List UInt8} {oday oext:Int} {olns:List ai} {day byy no line:Int} {art:List UInt8} {q:ah} {unit:List UInt8} {p:ah} {un to:Int} {i:Nat} (he0:0<=oext) (he1:oext<=1000) (hl:∀ d,d∈l->cc d=0) (hd:l[i]? =some (day,byy,no,3,line,art,q,unit,p,un,to)) {k:Nat} {x:ak} (hf:bp line 0 A=some k) (hx:A[k]? =some x) (hs:LOk x) (hw:WOk l x): aJ ((onum,obuy,osel,oday,oext,olns),l,mapOf A,ref,pts,wt,()) (i:Int) (A.map ak.tup)=some ((dA (onum,obuy,osel,oday,oext,olns) l i (day,byy,no,3,line,art,q,unit,p,un,to) x).1,((onum,obuy,osel,oday,oext,olns),l,mapOf A,ref,pts,wt,()),(A.set k (dA (onum,obuy,osel,oday,oext,olns) l i (day,byy,no,3,line,art,q,unit,p,un,to) x).2).map ak.tup,()):=by
 have hdf:=hl _ (VO hd)
 obtain⟨_,_,_,_,_,_,hu⟩:=cJ hdf
 obtain⟨uq,_⟩:=eM hu
 have h31:((3:Int)==1)=false:=rfl
 have h32:((3:Int)==2)=false:=rfl
 have h33:((3:Int)==3)=true:=rfl
 have h34:((3:Int)==4)=false:=rfl
 have h35:((3:Int)==5)=false:=rfl
 have h36:((3:Int)==6)=false:=rfl
 have h37:((3:Int)==7)=false:=rfl
 have h38:((3:Int)==8)=false:=rfl
 have h39:((3:Int)==9)=false:=rfl
 unfold aJ
 dsimp only
 rw[cO hd,WG]
 dsimp only
 rw[fM,hf]
 simp only[h31,h32,h33,h34,h35,h36,h37,h38,h39,WV,WU,aI,WJ,WG,lH hx hd]
 rfl
theorem Sf {onum obuy osel:List UInt8} {oday oext:Int} {olns:List ai} {day byy no line:Int} {art:List UInt8} {q:ah} {unit:List UInt8} {p:ah} {un to:Int} {i:Nat} (he0:0<=oext) (he1:oext<=1000) (hl:∀ d,d∈l->cc d=0) (hd:l[i]? =some (day,byy,no,4,line,art,q,unit,p,un,to)) {k:Nat} {x:ak} (hf:bp line 0 A=some k) (hx:A[k]? =some x) (hs:LOk x) (hw:WOk l x): aJ ((onum,obuy,osel,oday,oext,olns),l,mapOf A,ref,pts,wt,()) (i:Int) (A.map ak.tup)=some ((dA (onum,obuy,osel,oday,oext,olns) l i (day,byy,no,4,line,art,q,unit,p,un,to) x).1,((onum,obuy,osel,oday,oext,olns),l,mapOf A,ref,pts,wt,()),(A.set k (dA (onum,obuy,osel,oday,oext,olns) l i (day,byy,no,4,line,art,q,unit,p,un,to) x).2).map ak.tup,()):=by
 have hdf:=hl _ (VO hd)
 obtain⟨_,_,_,_,_,_,hu⟩:=cJ hdf
 obtain⟨uq,_⟩:=eM hu
 have h41:((4:Int)==1)=false:=rfl
 have h42:((4:Int)==2)=false:=rfl
 have h43:((4:Int)==3)=false:=rfl
 have h44:((4:Int)==4)=true:=rfl
 have h45:((4:Int)==5)=false:=rfl
 have h46:((4:Int)==6)=false:=rfl
 have h47:((4:Int)==7)=false:=rfl
 have h48:((4:Int)==8)=false:=rfl
 have h49:((4:Int)==9)=false:=rfl
 unfold aJ
 dsimp only
 rw[cO hd,WG]
 dsimp only
 rw[fM,hf]
 simp only[h41,h42,h43,h44,h45,h46,h47,h48,h49,WV,WU,aI,WJ,WG,lH hx hd]
 rfl
theorem Sg {onum obuy osel:List UInt8} {oday oext:Int} {olns:List ai} {day byy no line:Int} {art:List UInt8} {q:ah} {unit:List UInt8} {p:ah} {un to:Int} {i:Nat} (he0:0<=oext) (he1:oext<=1000) (hl:∀ d,d∈l->cc d=0) (hd:l[i]? =some (day,byy,no,5,line,art,q,unit,p,un,to)) {k:Nat} {x:ak} (hf:bp line 0 A=some k) (hx:A[k]? =some x) (hs:LOk x) (hw:WOk l x): aJ ((onum,obuy,osel,oday,oext,olns),l,mapOf A,ref,pts,wt,()) (i:Int) (A.map ak.tup)=some ((dA (onum,obuy,osel,oday,oext,olns) l i (day,byy,no,5,line,art,q,unit,p,un,to) x).1,((onum,obuy,osel,oday,oext,olns),l,mapOf A,ref,pts,wt,()),(A.set k (dA (onum,obuy,osel,oday,oext,olns) l i (day,byy,no,5,line,art,q,unit,p,un,to) x).2).map ak.tup,()):=by
 have hdf:=hl _ (VO hd)
 obtain⟨_,_,_,_,_,_,hu⟩:=cJ hdf
 obtain⟨uq,_⟩:=eM hu
 have h51:((5:Int)==1)=false:=rfl
 have h52:((5:Int)==2)=false:=rfl
 have h53:((5:Int)==3)=false:=rfl
 have h54:((5:Int)==4)=false:=rfl
 have h55:((5:Int)==5)=true:=rfl
 have h56:((5:Int)==6)=false:=rfl
 have h57:((5:Int)==7)=false:=rfl
 have h58:((5:Int)==8)=false:=rfl
 have h59:((5:Int)==9)=false:=rfl
 unfold aJ
 dsimp only
 rw[cO hd,WG]
 dsimp only
 rw[fM,hf]
 simp only[h51,h52,h53,h54,h55,h56,h57,h58,h59,WV,WU,aI,WJ,WG,oT hx hs hw hl,eH]
 have ha:dA (onum,obuy,osel,oday,oext,olns) l i (day,byy,no,5,line,art,q,unit,p,un,to) x=(if (bW l (day,byy,no,5,line,art,q,unit,p,un,to) x).1=0 then (0,(bW l (day,byy,no,5,line,art,q,unit,p,un,to) x).2.clr) else bW l (day,byy,no,5,line,art,q,unit,p,un,to) x):=rfl
 rw[ha]
 by_cases e:(bW l (day,byy,no,5,line,art,q,unit,p,un,to) x).1=0
 ·rw[Xe e,e]
  simp only[show ((0:Int)==0)=true from rfl,WV,WG,ko (Eb hx _)]
  simp only[true_or,or_true,W6,WV]
  refine congrArg some (Prod.ext rfl (Prod.ext rfl (Prod.ext ?_ rfl)))
  exact I4 (bW l (day,byy,no,5,line,art,q,unit,p,un,to) x).2 ((bW l (day,byy,no,5,line,art,q,unit,p,un,to) x).2.clr) _ rfl
 ·rw[Xd e,jj e,WU]
  rfl
theorem Sh {onum obuy osel:List UInt8} {oday oext:Int} {olns:List ai} {day byy no line:Int} {art:List UInt8} {q:ah} {unit:List UInt8} {p:ah} {un to:Int} {i:Nat} (he0:0<=oext) (he1:oext<=1000) (hl:∀ d,d∈l->cc d=0) (hd:l[i]? =some (day,byy,no,6,line,art,q,unit,p,un,to)) {k:Nat} {x:ak} (hf:bp line 0 A=some k) (hx:A[k]? =some x) (hs:LOk x) (hw:WOk l x): aJ ((onum,obuy,osel,oday,oext,olns),l,mapOf A,ref,pts,wt,()) (i:Int) (A.map ak.tup)=some ((dA (onum,obuy,osel,oday,oext,olns) l i (day,byy,no,6,line,art,q,unit,p,un,to) x).1,((onum,obuy,osel,oday,oext,olns),l,mapOf A,ref,pts,wt,()),(A.set k (dA (onum,obuy,osel,oday,oext,olns) l i (day,byy,no,6,line,art,q,unit,p,un,to) x).2).map ak.tup,()):=by
 have hdf:=hl _ (VO hd)
 obtain⟨_,_,_,_,_,_,hu⟩:=cJ hdf
 obtain⟨uq,_⟩:=eM hu
 have h61:((6:Int)==1)=false:=rfl
 have h62:((6:Int)==2)=false:=rfl
 have h63:((6:Int)==3)=false:=rfl
 have h64:((6:Int)==4)=false:=rfl
 have h65:((6:Int)==5)=false:=rfl
 have h66:((6:Int)==6)=true:=rfl
 have h67:((6:Int)==7)=false:=rfl
 have h68:((6:Int)==8)=false:=rfl
 have h69:((6:Int)==9)=false:=rfl
 unfold aJ
 dsimp only
 rw[cO hd,WG]
 dsimp only
 rw[fM,hf]
 simp only[h61,h62,h63,h64,h65,h66,h67,h68,h69,WV,WU,aI,WJ,WG,oT hx hs hw hl,eH]
 have ha:dA (onum,obuy,osel,oday,oext,olns) l i (day,byy,no,6,line,art,q,unit,p,un,to) x=(if (bW l (day,byy,no,6,line,art,q,unit,p,un,to) x).1=0 then (0,(bW l (day,byy,no,6,line,art,q,unit,p,un,to) x).2.clr) else bW l (day,byy,no,6,line,art,q,unit,p,un,to) x):=rfl
 rw[ha]
 by_cases e:(bW l (day,byy,no,6,line,art,q,unit,p,un,to) x).1=0
 ·rw[Xe e,e]
  simp only[show ((0:Int)==0)=true from rfl,WV,WG,ko (Eb hx _)]
  simp only[true_or,or_true,W6,WV]
  refine congrArg some (Prod.ext rfl (Prod.ext rfl (Prod.ext ?_ rfl)))
  exact I4 (bW l (day,byy,no,6,line,art,q,unit,p,un,to) x).2 ((bW l (day,byy,no,6,line,art,q,unit,p,un,to) x).2.clr) _ rfl
 ·rw[Xd e,jj e,WU]
  rfl
theorem Si {onum obuy osel:List UInt8} {oday oext:Int} {olns:List ai} {day byy no line:Int} {art:List UInt8} {q:ah} {unit:List UInt8} {p:ah} {un to:Int} {i:Nat} (he0:0<=oext) (he1:oext<=1000) (hl:∀ d,d∈l->cc d=0) (hd:l[i]? =some (day,byy,no,7,line,art,q,unit,p,un,to)) {k:Nat} {x:ak} (hf:bp line 0 A=some k) (hx:A[k]? =some x) (hs:LOk x) (hw:WOk l x): aJ ((onum,obuy,osel,oday,oext,olns),l,mapOf A,ref,pts,wt,()) (i:Int) (A.map ak.tup)=some ((dA (onum,obuy,osel,oday,oext,olns) l i (day,byy,no,7,line,art,q,unit,p,un,to) x).1,((onum,obuy,osel,oday,oext,olns),l,mapOf A,ref,pts,wt,()),(A.set k (dA (onum,obuy,osel,oday,oext,olns) l i (day,byy,no,7,line,art,q,unit,p,un,to) x).2).map ak.tup,()):=by
 have hdf:=hl _ (VO hd)
 obtain⟨_,_,_,_,_,_,hu⟩:=cJ hdf
 obtain⟨uq,_⟩:=eM hu
 have h71:((7:Int)==1)=false:=rfl
 have h72:((7:Int)==2)=false:=rfl
 have h73:((7:Int)==3)=false:=rfl
 have h74:((7:Int)==4)=false:=rfl
 have h75:((7:Int)==5)=false:=rfl
 have h76:((7:Int)==6)=false:=rfl
 have h77:((7:Int)==7)=true:=rfl
 have h78:((7:Int)==8)=false:=rfl
 have h79:((7:Int)==9)=false:=rfl
 unfold aJ
 dsimp only
 rw[cO hd,WG]
 dsimp only
 rw[fM,hf]
 have hq:qOk q false=true:=uq rfl
 simp only[h71,h72,h73,h74,h75,h76,h77,h78,h79,WV,WU,aI,WJ,WG,wQ hx hs (d:=(day,byy,no,7,line,art,q,unit,p,un,to)) hq,eH]
 have ha:dA (onum,obuy,osel,oday,oext,olns) l i (day,byy,no,7,line,art,q,unit,p,un,to) x=(if lF oday (day,byy,no,7,line,art,q,unit,p,un,to) x=0 then (0,{ x with ono:=no,oq:=aQ q,ount:=un }) else (lF oday (day,byy,no,7,line,art,q,unit,p,un,to) x,x)):=rfl
 rw[ha]
 by_cases e:lF oday (day,byy,no,7,line,art,q,unit,p,un,to) x=0
 ·rw[Xe e,show lF (bH (onum,obuy,osel,oday,oext,olns)) (day,byy,no,7,line,art,q,unit,p,un,to) x=0 from e]
  simp only[show ((0:Int)==0)=true from rfl,WV,WG,ko hx]
  simp only[true_or,or_true,W6,WV]
  rw[show fD (q.1,q.2)=some (aQ q,()) from jv hq,WG]
  simp only[xK hx,WG,VY]
  rw[jH { x with ono:=no,oq:=aQ q,ount:=un } _ rfl]
 ·rw[Xd e,show (lF (bH (onum,obuy,osel,oday,oext,olns)) (day,byy,no,7,line,art,q,unit,p,un,to) x==0)=false from jj e,WU,gv hx]
  rfl
theorem Sj {onum obuy osel:List UInt8} {oday oext:Int} {olns:List ai} {day byy no line:Int} {art:List UInt8} {q:ah} {unit:List UInt8} {p:ah} {un to:Int} {i:Nat} (he0:0<=oext) (he1:oext<=1000) (hl:∀ d,d∈l->cc d=0) (hd:l[i]? =some (day,byy,no,8,line,art,q,unit,p,un,to)) {k:Nat} {x:ak} (hf:bp line 0 A=some k) (hx:A[k]? =some x) (hs:LOk x) (hw:WOk l x): aJ ((onum,obuy,osel,oday,oext,olns),l,mapOf A,ref,pts,wt,()) (i:Int) (A.map ak.tup)=some ((dA (onum,obuy,osel,oday,oext,olns) l i (day,byy,no,8,line,art,q,unit,p,un,to) x).1,((onum,obuy,osel,oday,oext,olns),l,mapOf A,ref,pts,wt,()),(A.set k (dA (onum,obuy,osel,oday,oext,olns) l i (day,byy,no,8,line,art,q,unit,p,un,to) x).2).map ak.tup,()):=by
 have hdf:=hl _ (VO hd)
 obtain⟨_,_,_,_,_,_,hu⟩:=cJ hdf
 obtain⟨uq,_⟩:=eM hu
 have h81:((8:Int)==1)=false:=rfl
 have h82:((8:Int)==2)=false:=rfl
 have h83:((8:Int)==3)=false:=rfl
 have h84:((8:Int)==4)=false:=rfl
 have h85:((8:Int)==5)=false:=rfl
 have h86:((8:Int)==6)=false:=rfl
 have h87:((8:Int)==7)=false:=rfl
 have h88:((8:Int)==8)=true:=rfl
 have h89:((8:Int)==9)=false:=rfl
 unfold aJ
 dsimp only
 rw[cO hd,WG]
 dsimp only
 rw[fM,hf]
 simp only[h81,h82,h83,h84,h85,h86,h87,h88,h89,WV,WU,aI,WJ,WG,zL hx hs]
 rfl
theorem Sk {onum obuy osel:List UInt8} {oday oext:Int} {olns:List ai} {day byy no line:Int} {art:List UInt8} {q:ah} {unit:List UInt8} {p:ah} {un to:Int} {i:Nat} (he0:0<=oext) (he1:oext<=1000) (hl:∀ d,d∈l->cc d=0) (hd:l[i]? =some (day,byy,no,9,line,art,q,unit,p,un,to)) {k:Nat} {x:ak} (hf:bp line 0 A=some k) (hx:A[k]? =some x) (hs:LOk x) (hw:WOk l x): aJ ((onum,obuy,osel,oday,oext,olns),l,mapOf A,ref,pts,wt,()) (i:Int) (A.map ak.tup)=some ((dA (onum,obuy,osel,oday,oext,olns) l i (day,byy,no,9,line,art,q,unit,p,un,to) x).1,((onum,obuy,osel,oday,oext,olns),l,mapOf A,ref,pts,wt,()),(A.set k (dA (onum,obuy,osel,oday,oext,olns) l i (day,byy,no,9,line,art,q,unit,p,un,to) x).2).map ak.tup,()):=by
 have hdf:=hl _ (VO hd)
 obtain⟨_,_,_,_,_,_,hu⟩:=cJ hdf
 obtain⟨uq,_⟩:=eM hu
 have h91:((9:Int)==1)=false:=rfl
 have h92:((9:Int)==2)=false:=rfl
 have h93:((9:Int)==3)=false:=rfl
 have h94:((9:Int)==4)=false:=rfl
 have h95:((9:Int)==5)=false:=rfl
 have h96:((9:Int)==6)=false:=rfl
 have h97:((9:Int)==7)=false:=rfl
 have h98:((9:Int)==8)=false:=rfl
 have h99:((9:Int)==9)=true:=rfl
 unfold aJ
 dsimp only
 rw[cO hd,WG]
 dsimp only
 rw[fM,hf]
 have hq:qOk q false=true:=uq rfl
 simp only[h91,h92,h93,h94,h95,h96,h97,h98,h99,WV,WU,aI,WJ,WG,lG hx hs (o:=(onum,obuy,osel,oday,oext,olns)) he0 he1 (d:=(day,byy,no,9,line,art,q,unit,p,un,to)) hq,eH]
 have ha:dA (onum,obuy,osel,oday,oext,olns) l i (day,byy,no,9,line,art,q,unit,p,un,to) x=(if (cL oext (day,byy,no,9,line,art,q,unit,p,un,to) x).1=0 then (0,(cL oext (day,byy,no,9,line,art,q,unit,p,un,to) x).2.clr) else cL oext (day,byy,no,9,line,art,q,unit,p,un,to) x):=rfl
 rw[ha]
 by_cases e:(cL oext (day,byy,no,9,line,art,q,unit,p,un,to) x).1=0
 ·rw[Xe e,show (cL (dD (onum,obuy,osel,oday,oext,olns)) (day,byy,no,9,line,art,q,unit,p,un,to) x).1=0 from e]
  simp only[show ((0:Int)==0)=true from rfl,WV,WG,ko (Eb hx _)]
  simp only[true_or,or_true,W6,WV]
  refine congrArg some (Prod.ext rfl (Prod.ext rfl (Prod.ext ?_ rfl)))
  exact I4 (cL oext (day,byy,no,9,line,art,q,unit,p,un,to) x).2 ((cL oext (day,byy,no,9,line,art,q,unit,p,un,to) x).2.clr) _ rfl
 ·rw[Xd e,show ((cL (dD (onum,obuy,osel,oday,oext,olns)) (day,byy,no,9,line,art,q,unit,p,un,to) x).1==0)=false from jj e,WU]
  rfl
theorem Re {onum obuy osel:List UInt8} {oday oext:Int} {olns:List ai} {day byy no line:Int} {art:List UInt8} {q:ah} {unit:List UInt8} {p:ah} {un to:Int} {i:Nat} (he0:0<=oext) (he1:oext<=1000) (hl:∀ d,d∈l->cc d=0) (hd:l[i]? =some (day,byy,no,10,line,art,q,unit,p,un,to)) {k:Nat} {x:ak} (hf:bp line 0 A=some k) (hx:A[k]? =some x) (hs:LOk x) (hw:WOk l x): aJ ((onum,obuy,osel,oday,oext,olns),l,mapOf A,ref,pts,wt,()) (i:Int) (A.map ak.tup)=some ((dA (onum,obuy,osel,oday,oext,olns) l i (day,byy,no,10,line,art,q,unit,p,un,to) x).1,((onum,obuy,osel,oday,oext,olns),l,mapOf A,ref,pts,wt,()),(A.set k (dA (onum,obuy,osel,oday,oext,olns) l i (day,byy,no,10,line,art,q,unit,p,un,to) x).2).map ak.tup,()):=by
 have hdf:=hl _ (VO hd)
 obtain⟨_,_,_,_,_,_,hu⟩:=cJ hdf
 obtain⟨uq,_⟩:=eM hu
 have h101:((10:Int)==1)=false:=rfl
 have h102:((10:Int)==2)=false:=rfl
 have h103:((10:Int)==3)=false:=rfl
 have h104:((10:Int)==4)=false:=rfl
 have h105:((10:Int)==5)=false:=rfl
 have h106:((10:Int)==6)=false:=rfl
 have h107:((10:Int)==7)=false:=rfl
 have h108:((10:Int)==8)=false:=rfl
 have h109:((10:Int)==9)=false:=rfl
 unfold aJ
 dsimp only
 rw[cO hd,WG]
 dsimp only
 rw[fM,hf]
 have hq:qOk q false=true:=uq rfl
 simp only[h101,h102,h103,h104,h105,h106,h107,h108,h109,WV,WU,aI,WJ,WG,lG hx hs (o:=(onum,obuy,osel,oday,oext,olns)) he0 he1 (d:=(day,byy,no,10,line,art,q,unit,p,un,to)) hq,eH]
 have ha:dA (onum,obuy,osel,oday,oext,olns) l i (day,byy,no,10,line,art,q,unit,p,un,to) x=cL oext (day,byy,no,10,line,art,q,unit,p,un,to) x:=rfl
 rw[ha]
 by_cases e:(cL oext (day,byy,no,10,line,art,q,unit,p,un,to) x).1=0
 ·rw[show ((cL (dD (onum,obuy,osel,oday,oext,olns)) (day,byy,no,10,line,art,q,unit,p,un,to) x).1==0)=true by show ((cL oext (day,byy,no,10,line,art,q,unit,p,un,to) x).1==0)=true;rw[e];rfl]
  rfl
 ·rw[show ((cL (dD (onum,obuy,osel,oday,oext,olns)) (day,byy,no,10,line,art,q,unit,p,un,to) x).1==0)=false from jj e]
  rfl
theorem Rf {onum obuy osel:List UInt8} {oday oext:Int} {olns:List ai} {day byy no line:Int} {art:List UInt8} {q:ah} {unit:List UInt8} {p:ah} {un to:Int} {i:Nat} (he0:0<=oext) (he1:oext<=1000) (hl:∀ d,d∈l->cc d=0) (hd:l[i]? =some (day,byy,no,11,line,art,q,unit,p,un,to)) {k:Nat} {x:ak} (hf:bp line 0 A=some k) (hx:A[k]? =some x) (hs:LOk x) (hw:WOk l x): aJ ((onum,obuy,osel,oday,oext,olns),l,mapOf A,ref,pts,wt,()) (i:Int) (A.map ak.tup)=some ((dA (onum,obuy,osel,oday,oext,olns) l i (day,byy,no,11,line,art,q,unit,p,un,to) x).1,((onum,obuy,osel,oday,oext,olns),l,mapOf A,ref,pts,wt,()),(A.set k (dA (onum,obuy,osel,oday,oext,olns) l i (day,byy,no,11,line,art,q,unit,p,un,to) x).2).map ak.tup,()):=by
 have hdf:=hl _ (VO hd)
 obtain⟨_,_,_,_,_,_,hu⟩:=cJ hdf
 obtain⟨uq,_⟩:=eM hu
 have h111:((11:Int)==1)=false:=rfl
 have h112:((11:Int)==2)=false:=rfl
 have h113:((11:Int)==3)=false:=rfl
 have h114:((11:Int)==4)=false:=rfl
 have h115:((11:Int)==5)=false:=rfl
 have h116:((11:Int)==6)=false:=rfl
 have h117:((11:Int)==7)=false:=rfl
 have h118:((11:Int)==8)=false:=rfl
 have h119:((11:Int)==9)=false:=rfl
 unfold aJ
 dsimp only
 rw[cO hd,WG]
 dsimp only
 rw[fM,hf]
 have hq:qOk q false=true:=uq rfl
 simp only[h111,h112,h113,h114,h115,h116,h117,h118,h119,WV,WU,aI,WJ,WG,lG hx hs (o:=(onum,obuy,osel,oday,oext,olns)) he0 he1 (d:=(day,byy,no,11,line,art,q,unit,p,un,to)) hq,eH]
 have ha:dA (onum,obuy,osel,oday,oext,olns) l i (day,byy,no,11,line,art,q,unit,p,un,to) x=cL oext (day,byy,no,11,line,art,q,unit,p,un,to) x:=rfl
 rw[ha]
 by_cases e:(cL oext (day,byy,no,11,line,art,q,unit,p,un,to) x).1=0
 ·rw[show ((cL (dD (onum,obuy,osel,oday,oext,olns)) (day,byy,no,11,line,art,q,unit,p,un,to) x).1==0)=true by show ((cL oext (day,byy,no,11,line,art,q,unit,p,un,to) x).1==0)=true;rw[e];rfl]
  rfl
 ·rw[show ((cL (dD (onum,obuy,osel,oday,oext,olns)) (day,byy,no,11,line,art,q,unit,p,un,to) x).1==0)=false from jj e]
  rfl
theorem zK {i:Nat} {d:aa} (hA:Sound l A) (hl:∀ d,d∈l->cc d=0) (hd:l[i]? =some d) (he0:0<=dD o) (he1:dD o<=1000): aJ (o,l,mapOf A,ref,pts,wt,()) (i:Int) (A.map ak.tup)=some ((bY o l i d A).1,(o,l,mapOf (bY o l i d A).2,ref,pts,wt,()),(bY o l i d A).2.map ak.tup,()):=by
 obtain⟨_,_,_,hk,_,_,_⟩:=cJ (hl d (VO hd))
 by_cases k1:aB d=1
 ·unfold aJ
  dsimp only
  rw[cO hd,WG,show (d.2.2.2.1==1)=true by simpa using k1,WV]
  rw[Aw hd k1,WG]
 ·cases hf:gD (aH d) A with
  | none=>
   rw[OC k1 hf]
   unfold aJ
   dsimp only
   rw[cO hd,WG,show (d.2.2.2.1==1)=false by simpa using k1,WU]
   rw[fM,show bp d.2.2.2.2.1 0 A=none from hf]
   rfl
  | some k=>
   obtain⟨x,hx,hxn⟩:=G9 hf
   rw[PW k1 hf hx]
   obtain⟨hs,hw⟩:=hA.line x (VO hx)
   have hm:mapOf (A.set k (dA o l i d x).2)=mapOf A:=Qs A 0 (fun z hz=>by
    rw[hx] at hz;cases hz
    exact (D1 (o:=o) hs hw hl hd).2.2.1)
   rw[hm]
   obtain⟨onum,obuy,osel,oday,oext,olns⟩:=o
   obtain⟨day,byy,no,kk,line,art,q,unit,p,un,to⟩:=d
   have hk':kk=2\/kk=3\/kk=4\/kk=5\/kk=6\/kk=7\/kk=8\/kk=9\/kk=10\/kk=11:=by
    have h1:1<=kk/\kk<=11:=hk
    have h2:kk≠1:=k1
    omega
   rcases hk' with rfl | rfl | rfl | rfl | rfl | rfl | rfl | rfl | rfl | rfl
   ·exact Sd he0 he1 hl hd hf hx hs hw
   ·exact Se he0 he1 hl hd hf hx hs hw
   ·exact Sf he0 he1 hl hd hf hx hs hw
   ·exact Sg he0 he1 hl hd hf hx hs hw
   ·exact Sh he0 he1 hl hd hf hx hs hw
   ·exact Si he0 he1 hl hd hf hx hs hw
   ·exact Sj he0 he1 hl hd hf hx hs hw
   ·exact Sk he0 he1 hl hd hf hx hs hw
   ·exact Re he0 he1 hl hd hf hx hs hw
   ·exact Rf he0 he1 hl hd hf hx hs hw
end Go.Md
