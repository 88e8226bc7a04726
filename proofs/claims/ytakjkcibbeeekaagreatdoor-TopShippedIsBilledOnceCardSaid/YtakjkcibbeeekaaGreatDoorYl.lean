/-
  Plain facts, a part. No condition.
-/
import Derived.Test.YtakjkcibbeeekaaGreatDoorYk
import Derived.Test.YtakjkcibbeeekaaGreatDoorYg
import Derived.Test.YtakjkcibbeeekaaGreatDoorYj
set_option linter.all false
namespace Go.Md
open Go.Dn
theorem jw (k:Int):s5 k=some (decide (k=5\/k=6\/k=7\/k=9),()):=by
 unfold s5
 by_cases h5:k=5
 ·subst h5;rfl
 by_cases h6:k=6
 ·subst h6;rfl
 by_cases h7:k=7
 ·subst h7;rfl
 by_cases h9:k=9
 ·subst h9;rfl
 have e5:(k==5)=false:=by simp[h5]
 have e6:(k==6)=false:=by simp[h6]
 have e7:(k==7)=false:=by simp[h7]
 have e9:(k==9)=false:=by simp[h9]
 simp only[e5,e6,e7,e9,ajN]
 simp[h5,h6,h7,h9]
def usA (k:Int):Bool:=decide (k=1)
def usQ (k:Int):Bool:=decide (k≠3/\k≠4/\k≠5/\k≠6/\k≠8)
def usP (k:Int):Bool:=decide (k=1\/k=4)
def usU (k:Int):Bool:=decide (k=1\/k=3\/k=7)
def usT (k:Int):Bool:=decide (k=5\/k=6\/k=8)
theorem TB (k:Int):C9 k=some ((usA k,usQ k,usA k,usP k,usU k,usT k),()):=by
 unfold C9
 by_cases h1:k=1
 ·subst h1;rfl
 by_cases h3:k=3
 ·subst h3;rfl
 by_cases h4:k=4
 ·subst h4;rfl
 by_cases h5:k=5
 ·subst h5;rfl
 by_cases h6:k=6
 ·subst h6;rfl
 by_cases h7:k=7
 ·subst h7;rfl
 by_cases h8:k=8
 ·subst h8;rfl
 have e1:(k==1)=false:=by simp[h1]
 have e3:(k==3)=false:=by simp[h3]
 have e4:(k==4)=false:=by simp[h4]
 have e5:(k==5)=false:=by simp[h5]
 have e6:(k==6)=false:=by simp[h6]
 have e8:(k==8)=false:=by simp[h8]
 have e7:(k==7)=false:=by simp[h7]
 simp only[e1,e3,e4,e5,e6,e7,e8,ajN]
 simp[h1,h3,h4,h5,h6,h7,h8,usA,usQ,usP,usU,usT]
def Gs (n:Int):Bool:=decide (1<=n/\n<=3652059)
def Jv (n:Int):Bool:=decide (1<=n/\n<=2000)
def H6 (ua uq up uu ut k2:Bool) (art:Bys) (q:ah) (unit:Bys) (p:ah) (un to:Int):Int:=
 bif uq&& !qOk q k2 then 1
 else bif up&& !inR p 0 1000000000 4 then 1
 else bif uu&& !Gs un then 1
 else bif ua&&(!bF art|| !bF unit) then 5
 else bif ut&& !Jv to then 1
 else bif (!ua&& !(art==[]))||((!uq&& !(q.1==0&&q.2==0))||((!ua&& !(unit==[]))||((!up&& !(p.1==0&&p.2==0))||((!uu&&un != 0)||(!ut&&to != 0))))) then 3
 else 0
def IY (d:aa):Int:=
 H6 (usA d.2.2.2.1) (usQ d.2.2.2.1) (usP d.2.2.2.1) (usU d.2.2.2.1) (usT d.2.2.2.1) (d.2.2.2.1==2) d.2.2.2.2.2.1 d.2.2.2.2.2.2.1 d.2.2.2.2.2.2.2.1 d.2.2.2.2.2.2.2.2.1 d.2.2.2.2.2.2.2.2.2.1 d.2.2.2.2.2.2.2.2.2.2
theorem WN (n:Int):oc n=some (Gs n,()):=qO n
theorem ad4 (n:Int):b8 n 1 2000=some (!Jv n,()):=by
 rw[cG]
 congr 2
 unfold Jv
 by_cases h1:1<=n<;>by_cases h2:n<=2000<;>simp[h1,h2]<;>omega
theorem OM (d:aa):yB d=some (IY d,()):=by
 obtain⟨day,byy,no,k,line,art,⟨q1,q2⟩,unit,⟨p1,p2⟩,un,to⟩:=d
 unfold yB IY
 dsimp only
 rw[TB,ajA]
 dsimp only
 rw[kN]
 simp only[xT,WN,gH,ad4,ajA]
 generalize usA k=ua
 generalize usQ k=uq
 generalize usP k=up
 generalize usU k=uu
 generalize usT k=ut
 generalize (k==2)=k2
 unfold H6
 generalize qOk (q1,q2) k2=b1
 have step1:∀ (A:Option ((Int×Unit) ⊕ (Int×Int×Int×Int×Int×Bys×Int×Int×Bys×Int×Int×Int×Int×Bool×Bool×Bool×Bool×Bool×Bool×Unit))) (v:Int×Int×Int×Int×Int×Bys×Int×Int×Bys×Int×Int×Int×Int×Bool×Bool×Bool×Bool×Bool×Bool×Unit) (K:(Int×Int×Int×Int×Int×Bys×Int×Int×Bys×Int×Int×Int×Int×Bool×Bool×Bool×Bool×Bool×Bool×Unit)->Option (Int×Unit)),
  A=some (.inr v)->aG A K=K v:=fun A v K h=>by rw[h];rfl
 cases uq
 ·refine Eq.trans (step1 _ _ _ (by exact rfl)) ?_
  cases up
  ·refine Eq.trans (step1 _ _ _ (by exact rfl)) ?_
   dsimp only
   generalize Gs un=b3
   generalize bF art=b4
   generalize bF unit=b5
   generalize Jv to=b6
   generalize (art==[])=c1
   generalize (q1==0)=c2
   generalize (q2==0)=c3
   generalize (unit==[])=c4
   generalize (p1==0)=c5
   generalize (p2==0)=c6
   generalize (un != 0)=c7
   generalize (to != 0)=c8
   cases uu
   ·cases ua
    ·cases ut
     ·cases c1<;>first | rfl | (cases c4<;>first | rfl | (cases c7<;>first | rfl | (cases c8<;>first | rfl | (cases c2<;>first | rfl | (cases c3<;>first | rfl | (cases c5<;>first | rfl | (cases c6<;>rfl)))))))
     ·cases b6
      ·rfl
      ·cases c1<;>first | rfl | (cases c4<;>first | rfl | (cases c7<;>first | rfl | (cases c8<;>first | rfl | (cases c2<;>first | rfl | (cases c3<;>first | rfl | (cases c5<;>first | rfl | (cases c6<;>rfl)))))))
    ·cases b4
     ·rfl
     ·cases b5
      ·rfl
      ·cases ut
       ·cases c1<;>first | rfl | (cases c4<;>first | rfl | (cases c7<;>first | rfl | (cases c8<;>first | rfl | (cases c2<;>first | rfl | (cases c3<;>first | rfl | (cases c5<;>first | rfl | (cases c6<;>rfl)))))))
       ·cases b6
        ·rfl
        ·cases c1<;>first | rfl | (cases c4<;>first | rfl | (cases c7<;>first | rfl | (cases c8<;>first | rfl | (cases c2<;>first | rfl | (cases c3<;>first | rfl | (cases c5<;>first | rfl | (cases c6<;>rfl)))))))
   ·cases b3
    ·rfl
    ·cases ua
     ·cases ut
      ·cases c1<;>first | rfl | (cases c4<;>first | rfl | (cases c7<;>first | rfl | (cases c8<;>first | rfl | (cases c2<;>first | rfl | (cases c3<;>first | rfl | (cases c5<;>first | rfl | (cases c6<;>rfl)))))))
      ·cases b6
       ·rfl
       ·cases c1<;>first | rfl | (cases c4<;>first | rfl | (cases c7<;>first | rfl | (cases c8<;>first | rfl | (cases c2<;>first | rfl | (cases c3<;>first | rfl | (cases c5<;>first | rfl | (cases c6<;>rfl)))))))
     ·cases b4
      ·rfl
      ·cases b5
       ·rfl
       ·cases ut
        ·cases c1<;>first | rfl | (cases c4<;>first | rfl | (cases c7<;>first | rfl | (cases c8<;>first | rfl | (cases c2<;>first | rfl | (cases c3<;>first | rfl | (cases c5<;>first | rfl | (cases c6<;>rfl)))))))
        ·cases b6
         ·rfl
         ·cases c1<;>first | rfl | (cases c4<;>first | rfl | (cases c7<;>first | rfl | (cases c8<;>first | rfl | (cases c2<;>first | rfl | (cases c3<;>first | rfl | (cases c5<;>first | rfl | (cases c6<;>rfl)))))))
  ·dsimp only
   generalize inR (p1,p2) 0 1000000000 4=b2
   cases b2
   ·rfl
   ·refine Eq.trans (step1 _ _ _ (by exact rfl)) ?_
    dsimp only
    generalize Gs un=b3
    generalize bF art=b4
    generalize bF unit=b5
    generalize Jv to=b6
    generalize (art==[])=c1
    generalize (q1==0)=c2
    generalize (q2==0)=c3
    generalize (unit==[])=c4
    generalize (p1==0)=c5
    generalize (p2==0)=c6
    generalize (un != 0)=c7
    generalize (to != 0)=c8
    cases uu
    ·cases ua
     ·cases ut
      ·cases c1<;>first | rfl | (cases c4<;>first | rfl | (cases c7<;>first | rfl | (cases c8<;>first | rfl | (cases c2<;>first | rfl | (cases c3<;>first | rfl | (cases c5<;>first | rfl | (cases c6<;>rfl)))))))
      ·cases b6
       ·rfl
       ·cases c1<;>first | rfl | (cases c4<;>first | rfl | (cases c7<;>first | rfl | (cases c8<;>first | rfl | (cases c2<;>first | rfl | (cases c3<;>first | rfl | (cases c5<;>first | rfl | (cases c6<;>rfl)))))))
     ·cases b4
      ·rfl
      ·cases b5
       ·rfl
       ·cases ut
        ·cases c1<;>first | rfl | (cases c4<;>first | rfl | (cases c7<;>first | rfl | (cases c8<;>first | rfl | (cases c2<;>first | rfl | (cases c3<;>first | rfl | (cases c5<;>first | rfl | (cases c6<;>rfl)))))))
        ·cases b6
         ·rfl
         ·cases c1<;>first | rfl | (cases c4<;>first | rfl | (cases c7<;>first | rfl | (cases c8<;>first | rfl | (cases c2<;>first | rfl | (cases c3<;>first | rfl | (cases c5<;>first | rfl | (cases c6<;>rfl)))))))
    ·cases b3
     ·rfl
     ·cases ua
      ·cases ut
       ·cases c1<;>first | rfl | (cases c4<;>first | rfl | (cases c7<;>first | rfl | (cases c8<;>first | rfl | (cases c2<;>first | rfl | (cases c3<;>first | rfl | (cases c5<;>first | rfl | (cases c6<;>rfl)))))))
       ·cases b6
        ·rfl
        ·cases c1<;>first | rfl | (cases c4<;>first | rfl | (cases c7<;>first | rfl | (cases c8<;>first | rfl | (cases c2<;>first | rfl | (cases c3<;>first | rfl | (cases c5<;>first | rfl | (cases c6<;>rfl)))))))
      ·cases b4
       ·rfl
       ·cases b5
        ·rfl
        ·cases ut
         ·cases c1<;>first | rfl | (cases c4<;>first | rfl | (cases c7<;>first | rfl | (cases c8<;>first | rfl | (cases c2<;>first | rfl | (cases c3<;>first | rfl | (cases c5<;>first | rfl | (cases c6<;>rfl)))))))
         ·cases b6
          ·rfl
          ·cases c1<;>first | rfl | (cases c4<;>first | rfl | (cases c7<;>first | rfl | (cases c8<;>first | rfl | (cases c2<;>first | rfl | (cases c3<;>first | rfl | (cases c5<;>first | rfl | (cases c6<;>rfl)))))))
 ·cases b1
  ·rfl
  ·refine Eq.trans (step1 _ _ _ (by exact rfl)) ?_
   cases up
   ·refine Eq.trans (step1 _ _ _ (by exact rfl)) ?_
    dsimp only
    generalize Gs un=b3
    generalize bF art=b4
    generalize bF unit=b5
    generalize Jv to=b6
    generalize (art==[])=c1
    generalize (q1==0)=c2
    generalize (q2==0)=c3
    generalize (unit==[])=c4
    generalize (p1==0)=c5
    generalize (p2==0)=c6
    generalize (un != 0)=c7
    generalize (to != 0)=c8
    cases uu
    ·cases ua
     ·cases ut
      ·cases c1<;>first | rfl | (cases c4<;>first | rfl | (cases c7<;>first | rfl | (cases c8<;>first | rfl | (cases c2<;>first | rfl | (cases c3<;>first | rfl | (cases c5<;>first | rfl | (cases c6<;>rfl)))))))
      ·cases b6
       ·rfl
       ·cases c1<;>first | rfl | (cases c4<;>first | rfl | (cases c7<;>first | rfl | (cases c8<;>first | rfl | (cases c2<;>first | rfl | (cases c3<;>first | rfl | (cases c5<;>first | rfl | (cases c6<;>rfl)))))))
     ·cases b4
      ·rfl
      ·cases b5
       ·rfl
       ·cases ut
        ·cases c1<;>first | rfl | (cases c4<;>first | rfl | (cases c7<;>first | rfl | (cases c8<;>first | rfl | (cases c2<;>first | rfl | (cases c3<;>first | rfl | (cases c5<;>first | rfl | (cases c6<;>rfl)))))))
        ·cases b6
         ·rfl
         ·cases c1<;>first | rfl | (cases c4<;>first | rfl | (cases c7<;>first | rfl | (cases c8<;>first | rfl | (cases c2<;>first | rfl | (cases c3<;>first | rfl | (cases c5<;>first | rfl | (cases c6<;>rfl)))))))
    ·cases b3
     ·rfl
     ·cases ua
      ·cases ut
       ·cases c1<;>first | rfl | (cases c4<;>first | rfl | (cases c7<;>first | rfl | (cases c8<;>first | rfl | (cases c2<;>first | rfl | (cases c3<;>first | rfl | (cases c5<;>first | rfl | (cases c6<;>rfl)))))))
       ·cases b6
        ·rfl
        ·cases c1<;>first | rfl | (cases c4<;>first | rfl | (cases c7<;>first | rfl | (cases c8<;>first | rfl | (cases c2<;>first | rfl | (cases c3<;>first | rfl | (cases c5<;>first | rfl | (cases c6<;>rfl)))))))
      ·cases b4
       ·rfl
       ·cases b5
        ·rfl
        ·cases ut
         ·cases c1<;>first | rfl | (cases c4<;>first | rfl | (cases c7<;>first | rfl | (cases c8<;>first | rfl | (cases c2<;>first | rfl | (cases c3<;>first | rfl | (cases c5<;>first | rfl | (cases c6<;>rfl)))))))
         ·cases b6
          ·rfl
          ·cases c1<;>first | rfl | (cases c4<;>first | rfl | (cases c7<;>first | rfl | (cases c8<;>first | rfl | (cases c2<;>first | rfl | (cases c3<;>first | rfl | (cases c5<;>first | rfl | (cases c6<;>rfl)))))))
   ·dsimp only
    generalize inR (p1,p2) 0 1000000000 4=b2
    cases b2
    ·rfl
    ·refine Eq.trans (step1 _ _ _ (by exact rfl)) ?_
     dsimp only
     generalize Gs un=b3
     generalize bF art=b4
     generalize bF unit=b5
     generalize Jv to=b6
     generalize (art==[])=c1
     generalize (q1==0)=c2
     generalize (q2==0)=c3
     generalize (unit==[])=c4
     generalize (p1==0)=c5
     generalize (p2==0)=c6
     generalize (un != 0)=c7
     generalize (to != 0)=c8
     cases uu
     ·cases ua
      ·cases ut
       ·cases c1<;>first | rfl | (cases c4<;>first | rfl | (cases c7<;>first | rfl | (cases c8<;>first | rfl | (cases c2<;>first | rfl | (cases c3<;>first | rfl | (cases c5<;>first | rfl | (cases c6<;>rfl)))))))
       ·cases b6
        ·rfl
        ·cases c1<;>first | rfl | (cases c4<;>first | rfl | (cases c7<;>first | rfl | (cases c8<;>first | rfl | (cases c2<;>first | rfl | (cases c3<;>first | rfl | (cases c5<;>first | rfl | (cases c6<;>rfl)))))))
      ·cases b4
       ·rfl
       ·cases b5
        ·rfl
        ·cases ut
         ·cases c1<;>first | rfl | (cases c4<;>first | rfl | (cases c7<;>first | rfl | (cases c8<;>first | rfl | (cases c2<;>first | rfl | (cases c3<;>first | rfl | (cases c5<;>first | rfl | (cases c6<;>rfl)))))))
         ·cases b6
          ·rfl
          ·cases c1<;>first | rfl | (cases c4<;>first | rfl | (cases c7<;>first | rfl | (cases c8<;>first | rfl | (cases c2<;>first | rfl | (cases c3<;>first | rfl | (cases c5<;>first | rfl | (cases c6<;>rfl)))))))
     ·cases b3
      ·rfl
      ·cases ua
       ·cases ut
        ·cases c1<;>first | rfl | (cases c4<;>first | rfl | (cases c7<;>first | rfl | (cases c8<;>first | rfl | (cases c2<;>first | rfl | (cases c3<;>first | rfl | (cases c5<;>first | rfl | (cases c6<;>rfl)))))))
        ·cases b6
         ·rfl
         ·cases c1<;>first | rfl | (cases c4<;>first | rfl | (cases c7<;>first | rfl | (cases c8<;>first | rfl | (cases c2<;>first | rfl | (cases c3<;>first | rfl | (cases c5<;>first | rfl | (cases c6<;>rfl)))))))
       ·cases b4
        ·rfl
        ·cases b5
         ·rfl
         ·cases ut
          ·cases c1<;>first | rfl | (cases c4<;>first | rfl | (cases c7<;>first | rfl | (cases c8<;>first | rfl | (cases c2<;>first | rfl | (cases c3<;>first | rfl | (cases c5<;>first | rfl | (cases c6<;>rfl)))))))
          ·cases b6
           ·rfl
           ·cases c1<;>first | rfl | (cases c4<;>first | rfl | (cases c7<;>first | rfl | (cases c8<;>first | rfl | (cases c2<;>first | rfl | (cases c3<;>first | rfl | (cases c5<;>first | rfl | (cases c6<;>rfl)))))))
def dP (d:aa):Int:=
 if ¬(1<=d.1/\d.1<=3652059) then 1
 else if ¬(1<=d.2.1/\d.2.1<=2) then 4
 else if ¬(1<=d.2.2.1/\d.2.2.1<=2000) then 1
 else if ¬(1<=d.2.2.2.1/\d.2.2.2.1<=11) then 4
 else if ¬((d.2.2.2.1=5\/d.2.2.2.1=6\/d.2.2.2.1=7\/d.2.2.2.1=9)↔d.2.1=2) then 4
 else if ¬(1<=d.2.2.2.2.1/\d.2.2.2.2.1<=99999) then 1
 else IY d
theorem Vd (n a b:Int):decide (n<a\/b<n)= !decide (a<=n/\n<=b):=by
 by_cases h1:a<=n<;>by_cases h2:n<=b<;>simp[h1,h2]<;>omega
theorem OK (d:aa):yz d=some (dP d,()):=by
 unfold yz dP
 simp only[qO,cG,Vd,jw,OM,ajA]
 by_cases h1:1<=d.1/\d.1<=3652059
 ·by_cases h2:1<=d.2.1/\d.2.1<=2
  ·by_cases h3:1<=d.2.2.1/\d.2.2.1<=2000
   ·by_cases h4:1<=d.2.2.2.1/\d.2.2.2.1<=11
    ·by_cases h5:(d.2.2.2.1=5\/d.2.2.2.1=6\/d.2.2.2.1=7\/d.2.2.2.1=9)↔d.2.1=2
     ·have e5:(decide (d.2.2.2.1=5\/d.2.2.2.1=6\/d.2.2.2.1=7\/d.2.2.2.1=9)==(d.2.1==2))=true:=by
       by_cases h6:d.2.1=2
       ·simp[h6,h5.2 h6]
       ·have:¬(d.2.2.2.1=5\/d.2.2.2.1=6\/d.2.2.2.1=7\/d.2.2.2.1=9):=fun h=>h6 (h5.1 h)
        simp[h6,this]
      by_cases h6:1<=d.2.2.2.2.1/\d.2.2.2.2.1<=99999
      ·rw[e5]
       simp only[h1,h2,h3,h4,h5,h6,iff_self,ajU,ahd,ajN,not_true,ajX,ajI]
      ·rw[e5]
       simp only[h1,h2,h3,h4,h5,h6,iff_self,ajU,ajT,ahd,ahc,ajN,ajO,not_true,aj3,ajX,aj0,ajI]
     ·have e5:(decide (d.2.2.2.1=5\/d.2.2.2.1=6\/d.2.2.2.1=7\/d.2.2.2.1=9)==(d.2.1==2))=false:=by
       by_cases h6:d.2.1=2
       ·have:¬(d.2.2.2.1=5\/d.2.2.2.1=6\/d.2.2.2.1=7\/d.2.2.2.1=9):=fun h=>h5 ⟨fun _=>h6,fun _=>h⟩
        simp[h6,this]
       ·have:(d.2.2.2.1=5\/d.2.2.2.1=6\/d.2.2.2.1=7\/d.2.2.2.1=9):=Classical.byContradiction fun h=>h5 ⟨fun h'=>absurd h' h,fun h'=>absurd h' h6⟩
        simp[h6,this]
      rw[e5]
      simp only[h1,h2,h3,h4,h5,ajU,ahd,ahc,ajN,ajO,not_true,aj3,ajX,aj0,ajI]
    ·simp only[h1,h2,h3,h4,ajU,ajT,ahd,ahc,ajN,ajO,not_true,aj3,ajX,aj0,ajI]
   ·simp only[h1,h2,h3,ajU,ajT,ahd,ahc,ajN,ajO,not_true,aj3,ajX,aj0,ajI]
  ·simp only[h1,h2,ajU,ajT,ahd,ahc,ajN,ajO,not_true,aj3,ajX,aj0,ajI]
 ·simp only[h1,ajT,ahc,ajO,aj3,aj0]
theorem fh {d:aa} (h:dP d=0):(1<=d.1/\d.1<=3652059)/\(1<=d.2.1/\d.2.1<=2)/\(1<=d.2.2.1/\d.2.2.1<=2000)/\(1<=d.2.2.2.1/\d.2.2.2.1<=11)/\ ((d.2.2.2.1=5\/d.2.2.2.1=6\/d.2.2.2.1=7\/d.2.2.2.1=9)↔d.2.1=2)/\(1<=d.2.2.2.2.1/\d.2.2.2.2.1<=99999)/\IY d=0:=by
 unfold dP at h
 split at h
 ·cases h
 ·rename_i h1
  split at h
  ·cases h
  ·rename_i h2
   split at h
   ·cases h
   ·rename_i h3
    split at h
    ·cases h
    ·rename_i h4
     split at h
     ·cases h
     ·rename_i h5
      split at h
      ·cases h
      ·rename_i h6
       exact⟨ahj.1 h1,ahj.1 h2,ahj.1 h3,ahj.1 h4,ahj.1 h5,ahj.1 h6,h⟩
end Go.Md
namespace Go.Md
open Go.Dn
def dCw (a b:aa):Int:=if w64 (a.1 - b.1)≠0 then w64 (a.1 - b.1) else if w64 (a.2.1 - b.2.1)≠0 then w64 (a.2.1 - b.2.1) else w64 (a.2.2.1 - b.2.2.1)
theorem LX (a b:aa):om a b=some (dCw a b,()):=by
 unfold om dCw
 generalize w64 (a.1 - b.1)=x
 generalize w64 (a.2.1 - b.2.1)=y
 generalize w64 (a.2.2.1 - b.2.2.1)=z
 simp only[ain,aip]
 have key:iter (X:=oJ) (β:=oI) 8 (3,0,[x,y,z],()) vk=(bif x != 0 then some (Sum.inl (x,())) else bif y != 0 then some (Sum.inl (y,())) else bif z != 0 then some (Sum.inl (z,())) else some (Sum.inr ())):=by kernel_rfl
 show aG (β:=(Int×Unit)) (γ:=Unit) (iter 8 (3,0,[x,y,z],()) vk) _=_
 rw[key]
 by_cases hx:x=0
 ·subst hx
  by_cases hy:y=0
  ·subst hy
   by_cases hz:z=0
   ·subst hz;rfl
   ·have:(z != 0)=true:=by simp[hz]
    rw[this];simp[aG]
  ·have:(y != 0)=true:=by simp[hy]
   rw[this];simp[aG,hy]
 ·have:(x != 0)=true:=by simp[hx]
  rw[this];simp[aG,hx]
def dy:List aa->Option aa->Int->Int->Int
 | [],_,_,_=>0
 | d::r,p,nb,ns=>
  if dP d≠0 then dP d
  else if (p.any fun q=>decide (0<=dCw q d))=true then 8
  else if d.2.1=1 then (if d.2.2.1≠w64 (nb+1) then 9 else dy r (some d) d.2.2.1 ns)
  else (if d.2.2.1≠w64 (ns+1) then 9 else dy r (some d) nb d.2.2.1)
def xb (l:List aa):Int:=if 2000<l.length then 2 else dy l none 0 0
def de {α:Type} (l:List α):Nat->Option α
 | 0=>none
 | i+1=>l[i]?
def dG (a0:List aa) (s:Int×Int×Int) (i:Nat) (y:aa) (k:(Int×Int×Int)->Option kC):Option kC:=
 if dP y≠0 then some (Sum.inl (dP y,()))
 else if ((de a0 i).any fun q=>decide (0<=dCw q y))=true then some (Sum.inl (8,()))
 else if y.2.1=1 then (if y.2.2.1≠w64 (s.2.1+1) then some (Sum.inl (9,())) else k (s.1,y.2.2.1,s.2.2))
 else (if y.2.2.1≠w64 (s.2.2+1) then some (Sum.inl (9,())) else k (s.1,s.2.1,y.2.2.1))
theorem dX {a b:Int} (h:a≠b):(a != b)=true:=by simp[h]
theorem qx {a b:Int} (h:a≠b):(a==b)=false:=by simp[h]
theorem iB {α:Type} {l:List α} {i:Nat} {y:α} (h:l[i]? =some y):idx l (i:Int)=some y:=by
 unfold idx
 rw[ajZ (aht i)]
 exact h
theorem Sl (a0:List aa) (hl:a0.length<=2000) (s:Int×Int×Int) (i:Nat) (y:aa) (again:nB->Option kC) (hy:a0[i]? =some y): nA (a0,a0,(a0.length:Int),(i:Int),s.1,s.2.1,s.2.2,()) again=dG a0 s i y fun s'=>again (a0,a0,(a0.length:Int),((i+1:Nat):Int),s'.1,s'.2.1,s'.2.2,()):=by
 have hi:i<a0.length:=(aia.1 hy).1
 unfold nA dG
 dsimp only
 rw[ajR (show (i:Int)<(a0.length:Int) by omega),ajO,iB hy,ajA,OK,ajA]
 dsimp only
 have hw:w64 ((i:Int)+1)=((i+1:Nat):Int):=by rw[ax (by omega) (by omega)];omega
 rw[hw]
 by_cases hf:dP y=0
 ·rw[hf,zne,ajN,ajY (by simp)]
  obtain⟨_,hby,_⟩:=fh hf
  have hprev':(bif decide ((i:Int)>0) then Option.bind (idx a0 (w64 ((i:Int) - 1))) fun y4=>Option.bind (om y4 y) fun r5=>some (decide (r5.1>=0),()) else some (false,()))=some ((de a0 i).any fun q=>decide (0<=dCw q y),()):=by
   cases i with
   | zero=>rfl
   | succ j=>
    have hj:j<a0.length:=by omega
    have hq:a0[j]? =some a0[j]:=ah8 hj
    have e:w64 (((j+1:Nat):Int) - 1)=(j:Int):=by rw[ax (by omega) (by omega)];omega
    rw[ajR (by omega),ajO,e,iB hq,ajA,LX,ajA]
    simp only[de,hq,Option.any_some]
  rw[hprev',ajA]
  dsimp only
  cases ((de a0 i).any fun q=>decide (0<=dCw q y)) with
  | true=>rfl
  | false=>
   rw[ajN,ajY (by simp)]
   by_cases h1:y.2.1=1
   ·rw[qx (show y.2.1≠0 by omega),ajN,show (y.2.1==1)=true by simp[h1],ajO,ajZ h1]
    by_cases hn:y.2.2.1=w64 (s.2.1+1)
    ·rw[show (y.2.2.1 != w64 (s.2.1+1))=false by simp[hn],ajN,ajY (by simp[hn])]
     rfl
    ·rw[dX hn,ajO,ajZ hn]
   ·have h2:y.2.1=2:=by omega
    rw[qx (show y.2.1≠0 by omega),ajN,qx h1,ajN,show (y.2.1==2)=true by simp[h2],ajO,ajY h1]
    by_cases hn:y.2.2.1=w64 (s.2.2+1)
    ·rw[show (y.2.2.1 != w64 (s.2.2+1))=false by simp[hn],ajN,ajY (by simp[hn])]
     rfl
    ·rw[dX hn,ajO,ajZ hn]
 ·rw[dX hf,ajO,ajZ hf]
def Rw (f:Int):Option ((Int×Unit) ⊕ Unit):=if f=0 then some (Sum.inr ()) else some (Sum.inl (f,()))
theorem VN {f:Int} (h:f=0):Rw f=some (Sum.inr ()):=ajZ h
theorem Po {f:Int} (h:f≠0):Rw f=some (Sum.inl (f,())):=ajY h
theorem NW (a0:List aa):∀ (r:List aa) (i:Nat) (s:Int×Int×Int),a0.drop i=r-> Ju (dG a0) (fun _=>some (Sum.inr ())) r i s=Rw (dy r (de a0 i) s.2.1 s.2.2)
 | [],_,_,_=>by simp[Ju,dy,Rw]
 | y::r,i,s,hd=>by
  have hy:a0[i]? =some y:=by
   have:=congrArg (·[0]?) hd
   simpa [ah7] using this
  have hr:a0.drop (i+1)=r:=by
   have:=congrArg List.tail hd
   simpa [aiU] using this
  have hp:de a0 (i+1)=some y:=hy
  show dG a0 s i y (fun s'=>Ju (dG a0) (fun _=>some (Sum.inr ())) r (i+1) s')=_
  rw[show (fun s'=>Ju (dG a0) (fun _=>some (Sum.inr ())) r (i+1) s')=fun s'=>Rw (dy r (de a0 (i+1)) s'.2.1 s'.2.2) from funext fun s'=>NW a0 r (i+1) s' hr,hp]
  unfold dG
  by_cases hf:dP y=0
  ·have e0:¬dP y≠0:=fun h=>h hf
   rw[ajY e0]
   by_cases ha:((de a0 i).any fun q=>decide (0<=dCw q y))=true
   ·rw[ajZ ha,show dy (y::r) (de a0 i) s.2.1 s.2.2=8 by simp only[dy];rw[ajY e0,ajZ ha]]
    rfl
   ·rw[ajY ha]
    by_cases h1:y.2.1=1
    ·rw[ajZ h1]
     by_cases hn:y.2.2.1≠w64 (s.2.1+1)
     ·rw[ajZ hn,show dy (y::r) (de a0 i) s.2.1 s.2.2=9 by simp only[dy];rw[ajY e0,ajY ha,ajZ h1,ajZ hn]]
      rfl
     ·rw[ajY hn,show dy (y::r) (de a0 i) s.2.1 s.2.2=dy r (some y) y.2.2.1 s.2.2 by rw[dy,ajY e0,ajY ha,ajZ h1,ajY hn]]
    ·rw[ajY h1]
     by_cases hn:y.2.2.1≠w64 (s.2.2+1)
     ·rw[ajZ hn,show dy (y::r) (de a0 i) s.2.1 s.2.2=9 by simp only[dy];rw[ajY e0,ajY ha,ajY h1,ajZ hn]]
      rfl
     ·rw[ajY hn,show dy (y::r) (de a0 i) s.2.1 s.2.2=dy r (some y) s.2.1 y.2.2.1 by rw[dy,ajY e0,ajY ha,ajY h1,ajY hn]]
  ·rw[ajZ hf,show dy (y::r) (de a0 i) s.2.1 s.2.2=dP y by rw[dy,ajZ hf],Po hf]
theorem xS (l:List aa):nM l=some (xb l,()):=by
 unfold nM xb
 by_cases hl:2000<l.length
 ·rw[ajR (show (l.length:Int)>2000 by omega),ajO,ajZ hl]
 ·rw[ajQ (show ¬ (l.length:Int)>2000 by omega),ajN,ajY hl]
  have:=RA (f:=nA) (fun (s:Int×Int×Int) (i:Nat)=>((l,l,(l.length:Int),(i:Int),s.1,s.2.1,s.2.2,()):nB)) l (dG l) (fun _=>some (Sum.inr ()))
   (fun s i y again hy=>Sl l (by omega) s i y again hy) (fun s again=>by
     unfold nA
     dsimp only
     rw[ajQ (by omega)];rfl) (0,0,0)
  refine (congrArg (fun z=>aG (β:=(Int×Unit)) (γ:=Unit) z fun _=>some (0,())) (this _ (by omega))).trans ?_
  rw[NW l l 0 (0,0,0) rfl]
  simp only[de]
  by_cases h:dy l none 0 0=0
  ·rw[VN h,h];rfl
  ·rw[Po h];rfl
theorem G8:∀ {l:List aa} {p:Option aa} {nb ns:Int},dy l p nb ns=0->∀ d,d∈l->dP d=0
 | [],_,_,_,_,_,h=>by cases h
 | y::r,p,nb,ns,h,d,hd=>by
  simp only[dy] at h
  by_cases hf:dP y=0
  ·rw[ajY (by simp[hf])] at h
   rcases aiz.1 hd with rfl | hd
   ·exact hf
   ·split at h
    ·cases h
    ·split at h
     ·split at h
      ·cases h
      ·exact G8 h d hd
     ·split at h
      ·cases h
      ·exact G8 h d hd
  ·rw[ajZ hf] at h
   exact absurd h hf
theorem Qs {l:List aa} (h:xb l=0):l.length<=2000/\∀ d,d∈l->dP d=0:=by
 unfold xb at h
 split at h
 ·cases h
 ·rename_i hl
  exact⟨by omega,G8 h⟩
abbrev FP (o:ai):=o.1
abbrev OG (o:ai):=o.2.1
abbrev RF (o:ai):=o.2.2.1
abbrev bT (o:ai):=o.2.2.2.1
abbrev fA (o:ai):=o.2.2.2.2.1
abbrev nK (o:ai):=o.2.2.2.2.2
def jr (day:Int) (p:Option aT) (x:aT):Int:=
 if ¬(1<=x.1/\x.1<=99999) then 1
 else if (p.any fun q=>decide (x.1<=q.1))=true then 8
 else if bF x.2.1=false then 5
 else if qOk x.2.2.1 false=false then 1
 else if bF x.2.2.2.1=false then 5
 else if inR x.2.2.2.2.1 0 1000000000 4=false then 1
 else if ¬(day<=x.2.2.2.2.2/\x.2.2.2.2.2<=3652059) then 1
 else 0
def nL (day:Int):List aT->Option aT->Int
 | [],_=>0
 | x::r,p=>if jr day p x≠0 then jr day p x else nL day r (some x)
def gf (o:ai):Int:=
 if bF (FP o)=false\/bF (OG o)=false\/bF (RF o)=false then 5
 else if OG o=RF o then 12
 else if ¬(1<=bT o/\bT o<=3652059) then 1
 else if ¬(0<=fA o/\fA o<=1000) then 1
 else if nK o=[] then 9
 else if 500<(nK o).length then 2
 else nL (bT o) (nK o) none
theorem agu (b:Bool):((if b=true then (0:Int) else 1) != 0)= !b:=by cases b<;>rfl
theorem OL (o:ai) (i:Nat) (x:aT) (hi:(nK o)[i]? =some x) (hl:(nK o).length<=500):yA o (i:Int)=some (jr (bT o) (de (nK o) i) x,()):=by
 have hlt:i<(nK o).length:=(aia.1 hi).1
 unfold yA
 rw[iB hi,ajA]
 simp only[cG,Vd,gH,kN,xT,ajA,agu]
 have tail:∀ (p:Option aT) (hp:(p.any fun q=>decide (x.1<=q.1))=false) (h1:1<=x.1/\x.1<=99999),
  (bif !bF x.2.1 then some (5,()) else bif !qOk x.2.2.1 false then some ((if qOk x.2.2.1 false=true then 0 else 1),()) else bif !bF x.2.2.2.1 then some (5,()) else
    bif !inR x.2.2.2.2.1 0 1000000000 4 then some ((if inR x.2.2.2.2.1 0 1000000000 4=true then 0 else 1),()) else bif !decide (bT o<=x.2.2.2.2.2/\x.2.2.2.2.2<=3652059) then some (1,()) else some (0,()))=some (jr (bT o) p x,()):=fun p hp h1=>by
  unfold jr
  rw[ajY (show ¬¬(1<=x.1/\x.1<=99999) from fun h=>h h1),ajY (show ¬(p.any fun q=>decide (x.1<=q.1))=true by rw[hp];exact ag7)]
  cases bF x.2.1
  ·rfl
  ·cases qOk x.2.2.1 false
   ·rfl
   ·cases bF x.2.2.2.1
    ·rfl
    ·cases inR x.2.2.2.2.1 0 1000000000 4
     ·rfl
     ·by_cases hd:bT o<=x.2.2.2.2.2/\x.2.2.2.2.2<=3652059
      ·simp[hd]
      ·simp[hd]
 by_cases h1:1<=x.1/\x.1<=99999
 ·rw[ajR h1,ahd,ajN]
  cases i with
  | zero=>
   rw[ajQ (show ¬((0:Nat):Int)>0 by omega),ajN]
   exact tail none rfl h1
  | succ j=>
   have hq:(nK o)[j]? =some (nK o)[j]:=ah8 (by omega)
   have e:w64 (((j+1:Nat):Int) - 1)=(j:Int):=by rw[ax (by omega) (by omega)];omega
   rw[ajR (show ((j+1:Nat):Int)>0 by omega),ajO,e,iB hq,ajA]
   simp only[de,hq]
   by_cases h2:x.1<=(nK o)[j].1
   ·rw[ajR h2,ajA]
    have:jr (bT o) (some (nK o)[j]) x=8:=by
     unfold jr
     rw[ajY (show ¬¬(1<=x.1/\x.1<=99999) from fun h=>h h1),ajZ (show (Option.any (fun q=>decide (x.1<=q.1)) (some (nK o)[j]))=true from ajR h2)]
    rw[this]
    rfl
   ·rw[ajQ h2,ajA]
    exact tail (some (nK o)[j]) (by simp[h2]) h1
 ·rw[ajQ h1,ahc,ajO]
  unfold jr
  rw[ajZ h1]
theorem MD (a0:List aT) (day:Int):∀ (r:List aT) (i:Nat) (s:Unit),a0.drop i=r-> Ju (fun (_:Unit) i y k=>if jr day (de a0 i) y≠0 then some (Sum.inl (jr day (de a0 i) y,())) else k ()) (fun _=>(some (Sum.inr ()):Option pY)) r i s=Rw (nL day r (de a0 i))
 | [],_,_,_=>by simp[Ju,nL,Rw]
 | y::r,i,s,hd=>by
  have hy:a0[i]? =some y:=by
   have:=congrArg (·[0]?) hd
   simpa [ah7] using this
  have hr:a0.drop (i+1)=r:=by
   have:=congrArg List.tail hd
   simpa [aiU] using this
  have hp:de a0 (i+1)=some y:=hy
  have ih:=MD a0 day r (i+1) () hr
  rw[hp] at ih
  by_cases hf:jr day (de a0 i) y=0
  ·have e0:¬jr day (de a0 i) y≠0:=fun h=>h hf
   rw[show nL day (y::r) (de a0 i)=nL day r (some y) by rw[nL,ajY e0], <- ih]
   show (if jr day (de a0 i) y≠0 then _ else _)=_
   rw[ajY e0]
  ·rw[show nL day (y::r) (de a0 i)=jr day (de a0 i) y by rw[nL,ajZ hf],Po hf]
   show (if jr day (de a0 i) y≠0 then _ else _)=_
   rw[ajZ hf]
theorem nC (o:ai):jt o=some (gf o,()):=by
 unfold jt gf
 simp only[gH,qO,cG,Vd,ajA]
 cases h1:bF o.1
 ·simp[FP,h1]
 cases h2:bF o.2.1
 ·simp[FP,OG,h1,h2]
 cases h3:bF o.2.2.1
 ·simp[FP,OG,RF,h1,h2,h3]
 rw[ajY (by simp[FP,OG,RF,h1,h2,h3])]
 simp only[ahd,ajN]
 by_cases h4:o.2.1=o.2.2.1
 ·rw[ajZ h4,show (o.2.1==o.2.2.1)=true by simp[h4],ajO]
 rw[ajY h4,show (o.2.1==o.2.2.1)=false by simp[h4],ajN]
 by_cases h5:1<=o.2.2.2.1/\o.2.2.2.1<=3652059
 ·rw[ajY (by simp[bT,h5]),ajR h5,ahd,ajN]
  by_cases h6:0<=o.2.2.2.2.1/\o.2.2.2.2.1<=1000
  ·rw[ajY (by simp[fA,h6]),ajR h6,ahd,ajN]
   by_cases h7:o.2.2.2.2.2=[]
   ·rw[ajZ h7,h7];rfl
   ·have h7':o.2.2.2.2.2.length≠0:=fun e=>h7 (ahV e)
    rw[ajY h7,qx (show (o.2.2.2.2.2.length:Int)≠0 by omega),ajN]
    by_cases h8:500<o.2.2.2.2.2.length
    ·rw[ajZ h8,ajR (by omega),ajO]
    ·rw[ajY h8,ajQ (by omega),ajN]
     have:=RA (f:=pX) (fun (_:Unit) (i:Nat)=>(((o.2.2.2.2.2.length:Int),(i:Int),o.1,o.2.1,o.2.2.1,o.2.2.2.1,o.2.2.2.2.1,o.2.2.2.2.2,()):pZ)) o.2.2.2.2.2
      (fun (_:Unit) i y k=>if jr (bT o) (de o.2.2.2.2.2 i) y≠0 then some (Sum.inl (jr (bT o) (de o.2.2.2.2.2 i) y,())) else k ()) (fun _=>some (Sum.inr ()))
      (fun s i y again hy=>by
        have hlt:i<o.2.2.2.2.2.length:=(aia.1 hy).1
        unfold pX
        dsimp only
        rw[ajR (by omega),ajO]
        have:=OL o i y hy (by show o.2.2.2.2.2.length<=500;omega)
        rw[show ((o.1,o.2.1,o.2.2.1,o.2.2.2.1,o.2.2.2.2.1,o.2.2.2.2.2):ai)=o from rfl,this,ajA]
        dsimp only
        by_cases hf:jr (bT o) (de o.2.2.2.2.2 i) y=0
        ·rw[ajY (by simp[hf]),show (jr (bT o) (de (nK o) i) y != 0)=false by simp[hf],ajN,ax (by omega) (by omega)]
         rfl
        ·rw[ajZ hf,show (jr (bT o) (de (nK o) i) y != 0)=true by simp[hf],ajO]) (fun s again=>by
        unfold pX
        dsimp only
        rw[ajQ (show ¬((o.2.2.2.2.2.length:Int)<(o.2.2.2.2.2.length:Int)) by omega)];rfl) ()
     refine (congrArg (fun z=>aG (β:=(Int×Unit)) (γ:=Unit) z fun _=>some (0,())) (this _ (by omega))).trans ?_
     rw[MD o.2.2.2.2.2 (bT o) o.2.2.2.2.2 0 () rfl]
     simp only[de]
     by_cases h:nL (bT o) o.2.2.2.2.2 none=0
     ·rw[VN h,h];rfl
     ·rw[Po h];rfl
  ·rw[ajZ h6,ajQ h6];rfl
 ·rw[ajZ h5,ajQ h5];rfl
theorem HG (o:ai) (l:List aa):xk o l=some (if gf o≠0 then gf o else xb l,()):=by
 unfold xk
 rw[nC,ajA,xS]
 dsimp only
 by_cases h:gf o=0
 ·rw[h];rfl
 ·rw[dX h,ajO,ajZ h]
end Go.Md
namespace Go.Md
open Go.Dn
def bW (d:ah):Int:=d.1*10 ^ (3 - d.2).toNat
theorem IG {d:ah} {z:Bool} (h:qOk d z=true):(0<=d.2/\d.2<=3)/\0<=d.1/\d.1<=1000000000*10 ^ d.2.toNat/\(z=false->d.1≠0):=by
 unfold qOk inR at h
 simp only[ag1,ajS,ahf,ahb,ajK] at h
 obtain⟨⟨h1,h2,h3,h4⟩,h5⟩:=h
 exact⟨⟨h1.2.1,h2⟩,by omega,h4,fun hz=>by rcases h5 with h5 | h5;exact h5;rw[hz] at h5;cases h5⟩
theorem vR {d:ah} {z:Bool} (h:qOk d z=true):0<=bW d/\bW d<=1000000000000/\(z=false->0<bW d):=by
 obtain⟨⟨h1,h2⟩,h3,h4,h5⟩:=IG h
 unfold bW
 obtain⟨k,hk⟩:∃ k:Nat,d.2=k:=⟨d.2.toNat,by omega⟩
 rw[hk] at h1 h2 h4 ⊢
 have:k=0\/k=1\/k=2\/k=3:=by omega
 rcases this with rfl | rfl | rfl | rfl<;>simp at h4 ⊢ <;>refine⟨by omega,by omega,fun hz=> ?_⟩<;>have:=h5 hz<;>omega
theorem qF {d:ah} {z:Bool} (h:qOk d z=true):kO d=some (bW d,()):=by
 obtain⟨⟨h1,h2⟩,h3,h4,_⟩:=IG h
 obtain⟨u1,u2,_⟩:=vR h
 unfold kO
 rw[ax (n:=3 - d.2) (by omega) (by omega),Eh (3 - d.2) (by omega) (by omega),ajA]
 show some (w64 (bW d),())=_
 rw[ax (by omega) (by omega)]
structure aq where
 no:Int
 art:Bys
 unit:Bys
 ord:Int
 shp:Int
 rcv:Int
 ret:Int
 price:ah
 due:Int
 wish:Int
 ono:Int
 oq:Int
 ount:Int
abbrev aq.tup (x:aq):bf:=(x.no,x.art,x.unit,x.ord,x.shp,x.rcv,x.ret,x.price,x.due,x.wish,x.ono,x.oq,x.ount)
def aq.opn (x:aq):Int:=if x.ord - x.shp+x.ret>0 then x.ord - x.shp+x.ret else 0
structure LOk (x:aq):Prop where
 ret0:0<=x.ret
 retr:x.ret<=x.rcv
 rcvs:x.rcv<=x.shp
 shp1:x.shp<=1000000000000000
 C8:0<=x.ord
 ord1:x.ord<=1000000000000
 off:x.ono≠0->0<x.oq/\x.oq+x.shp - x.ret<=x.ord
def wu (i:Nat):List aq->List (Int×Option Nat)
 | []=>[]
 | x::r=>(x.no,some i)::wu (i+1) r
abbrev mapOf (A:List aq):List (Int×Option Nat):=wu 0 A
def cH (n:Int) (i:Nat):List aq->Option Nat
 | []=>none
 | x::r=>if n=x.no then some i else cH n (i+1) r
abbrev oG (n:Int) (A:List aq):Option Nat:=cH n 0 A
theorem ab7 (n:Int):Hy n n=true:=by simp[Hy]
theorem ZS {n a:Int} (h:n≠a):Hy n a=false:=by simp[Hy,h]
theorem lB (n:Int):∀ (A:List aq) (i:Nat),Option.getD (α:=Option Nat) (dN (k:=tI) (v:= .hnd) (wu i A) n) none=cH n i A
 | [],i=>rfl
 | x::r,i=>by
  have e:= @zg tI .hnd (x.no,some i) (wu (i+1) r) n
  refine (congrArg (fun z:Option (Option Nat)=>Option.getD z none) e).trans ?_
  have ih:=lB n r (i+1)
  by_cases h:n=x.no
  ·subst h
   show Option.getD (α:=Option Nat) (bif Hy x.no x.no then some (some i) else _) none=_
   rw[ab7]
   simp only[cH,ajZ]
   rfl
  ·show Option.getD (α:=Option Nat) (bif Hy n x.no then some (some i) else _) none=_
   rw[ZS h]
   simp only[cH,ajY h]
   exact ih
theorem RD (n:Int) (y:aq) (hy:y.no=n):∀ (A:List aq) (i:Nat),cH n i A=none->jG (k:=tI) (v:= .hnd) (wu i A) n (some (i+A.length))=wu i (A++[y])
 | [],i,_=>by subst hy;rfl
 | x::r,i,h=>by
  simp only[cH] at h
  by_cases hx:n=x.no
  ·rw[ajZ hx] at h;cases h
  ·rw[ajY hx] at h
   have ih:=RD n y hy r (i+1) h
   have e:i+(x::r).length=i+1+r.length:=by simp only[ain];omega
   rw[e]
   show (bif Hy n x.no then _ else (x.no,some i)::jG (k:=tI) (v:= .hnd) (wu (i+1) r) n (some (i+1+r.length)))=_
   rw[ZS hx]
   exact congrArg (fun z=>(x.no,some i)::z) ih
theorem Fb:∀ (A:List aq) (i:Nat),(wu i A).length=A.length
 | [],_=>rfl
 | x::r,i=>by simp[wu,Fb r]
theorem acw {k:Nat} {y:aq}:∀ (A:List aq) (i:Nat),(∀ x,A[k]? =some x->y.no=x.no)->wu i (A.set k y)=wu i A:=by
 intro A
 induction A generalizing k with
 | nil=>intro i _;rfl
 | cons x r ih=>
  intro i h
  cases k with
  | zero=>simp only[List.set_cons_zero,wu];rw[h x rfl]
  | succ k=>simp only[aiR,wu];rw[ih (i+1) (fun z hz=>h z (by simpa using hz))]
theorem Qz {n:Int}:∀ {A:List aq} {i k:Nat},cH n i A=some k->i<=k/\∃ x,A[k - i]? =some x/\x.no=n
 | [],_,_,h=>by cases h
 | x::r,i,k,h=>by
  simp only[cH] at h
  by_cases hx:n=x.no
  ·rw[ajZ hx] at h;cases h;exact⟨ajc _,x,by simp,hx.symm⟩
  ·rw[ajY hx] at h
   obtain⟨h1,y,h2,h3⟩:=Qz h
   refine⟨by omega,y, ?_,h3⟩
   rw[show k - i=k - (i+1)+1 by omega,ah5];exact h2
theorem S7 {n:Int} {A:List aq} {k:Nat} (h:oG n A=some k):∃ x,A[k]? =some x/\x.no=n:=(Qz h).2
theorem aaN {n:Int} {k:Nat} {y:aq}:∀ (A:List aq) (i:Nat),(∀ x,A[k]? =some x->y.no=x.no)->cH n i (A.set k y)=cH n i A:=by
 intro A
 induction A generalizing k with
 | nil=>intro i _;rfl
 | cons x r ih=>
  intro i h
  cases k with
  | zero=>simp only[List.set_cons_zero,cH];rw[h x rfl]
  | succ k=>simp only[aiR,cH];rw[ih (i+1) (fun z hz=>h z (by simpa using hz))]
theorem S5 {n:Int} {y:aq}:∀ (A:List aq) (i:Nat),cH n i (A++[y])=(cH n i A).or (if n=y.no then some (i+A.length) else none)
 | [],i=>by simp[cH]
 | x::r,i=>by
  simp only[ahN,cH,ain]
  by_cases h:n=x.no
  ·simp[h]
  ·rw[ajY h,ajY h,S5 r (i+1),show i+(r.length+1)=i+1+r.length by omega]
theorem vF {A:List aq} {k:Nat} {x:aq} (h:A[k]? =some x):(A.map aq.tup)[k]? =some x.tup:=by rw[aib,h];rfl
theorem aaq (A:List aq) (k:Nat) (y:aq):(A.map aq.tup).set k y.tup=(A.set k y).map aq.tup:=by rw[List.map_set]
theorem Pq {A:List aq} {k:Nat} {x:aq} (h:A[k]? =some x) (y:aq):(A.set k y)[k]? =some y:=by
 have:=(aia.1 h).1
 simp[aie,this]
theorem zk {A:List aq} {k:Nat} {x:aq} (h:A[k]? =some x) (hx:LOk x):mG (some k) (A.map aq.tup)=some (x.opn,()):=by
 unfold mG
 have ht:=vF h
 simp only[ajA,ht]
 have:=hx.ret0;have:=hx.retr;have:=hx.rcvs;have:=hx.shp1;have:=hx.C8;have:=hx.ord1
 rw[ax (n:=x.ord - x.shp) (by omega) (by omega),ax (n:=x.ord - x.shp+x.ret) (by omega) (by omega)]
 rfl
end Go.Md
namespace Go.Md
open Go.Dn
abbrev dNo (d:aa):=d.2.2.1
abbrev b9 (d:aa):=d.2.2.2.1
abbrev ry (d:aa):=d.2.2.2.2.1
abbrev dQ (d:aa):=d.2.2.2.2.2.2.1
abbrev SJ (d:aa):=d.2.2.2.2.2.2.2.2.1
abbrev w9 (d:aa):=d.2.2.2.2.2.2.2.2.2.1
abbrev dTo (d:aa):=d.2.2.2.2.2.2.2.2.2.2
theorem jA {d:aa} (h:IY d=0):(usQ (b9 d)=true->qOk (dQ d) (b9 d==2)=true)/\(usP (b9 d)=true->inR (SJ d) 0 1000000000 4=true)/\(usU (b9 d)=true->Gs (w9 d)=true)/\(usA (b9 d)=true->bF d.2.2.2.2.2.1=true/\bF d.2.2.2.2.2.2.2.1=true)/\(usT (b9 d)=true->Jv (dTo d)=true):=by
 unfold IY H6 at h
 show (usQ d.2.2.2.1=true->qOk d.2.2.2.2.2.2.1 (d.2.2.2.1==2)=true)/\(usP d.2.2.2.1=true->inR d.2.2.2.2.2.2.2.2.1 0 1000000000 4=true)/\(usU d.2.2.2.1=true->Gs d.2.2.2.2.2.2.2.2.2.1=true)/\(usA d.2.2.2.1=true->bF d.2.2.2.2.2.1=true/\bF d.2.2.2.2.2.2.2.1=true)/\(usT d.2.2.2.1=true->Jv d.2.2.2.2.2.2.2.2.2.2=true)
 generalize usA d.2.2.2.1=ua at*
 generalize usQ d.2.2.2.1=uq at*
 generalize usP d.2.2.2.1=up at*
 generalize usU d.2.2.2.1=uu at*
 generalize usT d.2.2.2.1=ut at*
 generalize qOk d.2.2.2.2.2.2.1 (d.2.2.2.1==2)=b1 at*
 generalize inR d.2.2.2.2.2.2.2.2.1 0 1000000000 4=b2 at*
 generalize Gs d.2.2.2.2.2.2.2.2.2.1=b3 at*
 generalize bF d.2.2.2.2.2.1=b4 at*
 generalize bF d.2.2.2.2.2.2.2.1=b5 at*
 generalize Jv d.2.2.2.2.2.2.2.2.2.2=b6 at*
 cases hq:(uq&& !b1)
 ·rw[hq,ajN] at h
  cases hp:(up&& !b2)
  ·rw[hp,ajN] at h
   cases hu:(uu&& !b3)
   ·rw[hu,ajN] at h
    cases ha:(ua&&(!b4|| !b5))
    ·rw[ha,ajN] at h
     cases ht:(ut&& !b6)
     ·refine⟨?_, ?_, ?_, ?_, ?_⟩
      ·revert hq;cases uq<;>cases b1<;>simp
      ·revert hp;cases up<;>cases b2<;>simp
      ·revert hu;cases uu<;>cases b3<;>simp
      ·revert ha;cases ua<;>cases b4<;>cases b5<;>simp
      ·revert ht;cases ut<;>cases b6<;>simp
     ·rw[ht,ajO] at h;cases h
    ·rw[ha,ajO] at h;cases h
   ·rw[hu,ajO] at h;cases h
  ·rw[hp,ajO] at h;cases h
 ·rw[hq,ajO] at h;cases h
def PL (day:Int) (i:Int) (d:aa) (x:aq):Int×aq:=
 if b9 d=3/\w9 d<day then (1,x) else if 0<=x.wish then (11,x) else (0,{ x with wish:=i })
def ri (l:List aa) (x:aq):aa:=l.getD x.wish.toNat (0,0,0,0,0,[],(0,0),[],(0,0),0,0)
def dL (l:List aa) (d:aa) (x:aq):Int×aq:=
 if x.wish<0 then (5,x)
 else if dNo (ri l x)≠dTo d then (5,x)
 else if b9 d=5 then
  (if b9 (ri l x)=2 then (if bW (dQ (ri l x))<x.shp - x.ret then (12,x) else (0,{ x with ord:=bW (dQ (ri l x)),wish:= -1 }))
  else if b9 (ri l x)=1 then (0,{ x with ord:=bW (dQ (ri l x)),wish:= -1 })
  else if b9 (ri l x)=3 then (0,{ x with due:=w9 (ri l x),wish:= -1 })
  else (0,{ x with price:=SJ (ri l x),wish:= -1 }))
 else (0,{ x with wish:= -1 })
def uv (day:Int) (d:aa) (x:aq):Int:=
 if w9 d<day then 1 else if 0<=x.wish\/x.opn=0 then 11 else if x.opn<bW (dQ d) then 12 else 0
def PI (d:aa) (x:aq):Int×aq:=
 if 0<=x.wish then (11,x) else if x.ono=0\/x.ono≠dTo d then (5,x) else (0,{ x with ord:=x.shp - x.ret+x.oq,due:=x.ount,ono:=0,oq:=0,ount:=0 })
def dK (ext:Int) (d:aa) (x:aq):Int×aq:=
 if b9 d=9 then
  (if x.ord+x.ord*ext / 1000<x.shp - x.ret+bW (dQ d) then (12,x)
  else if 1000000000000000<x.shp+bW (dQ d) then (16,x)
  else (0,{ x with shp:=x.shp+bW (dQ d) }))
 else if b9 d=10 then (if x.shp<x.rcv+bW (dQ d) then (12,x) else (0,{ x with rcv:=x.rcv+bW (dQ d) }))
 else (if x.rcv<x.ret+bW (dQ d) then (12,x) else (0,{ x with ret:=x.ret+bW (dQ d) }))
theorem mK {A:List aq} {k:Nat} {x:aq} (h:A[k]? =some x):A.set k x=A:=by
 obtain⟨h1,h2⟩:=aia.1 h
 rw[<- h2];exact List.set_getElem_self h1
theorem q8 {A:List aq} {k:Nat} (y:aq) (T:bf) (hT:T=y.tup):List.set (A.map aq.tup) k T=(A.set k y).map aq.tup:=by rw[hT,aaq]
theorem Hu {A:List aq} {k:Nat} {x:aq} (h:A[k]? =some x) (T:bf):(List.set (A.map aq.tup) k T)[k]? =some T:=by
 have:=(aia.1 h).1
 rw[aih (by simpa using this)]
variable {o:ai} {l:List aa} {m:List (Int×Option Nat)} {ref:List ah} {pts:List bn} {wt:Int} {A:List aq} {k:Nat} {x:aq}
theorem ux (h:A[k]? =some x) {i:Nat} {d:aa} (hd:l[i]? =some d): rD (o,l,m,ref,pts,wt,()) (some k) (i:Int) (A.map aq.tup)=some ((PL (bT o) i d x).1,(o,l,m,ref,pts,wt,()),(A.set k (PL (bT o) i d x).2).map aq.tup,()):=by
 unfold rD PL
 dsimp only
 rw[iB hd,ajA]
 have hv:(bif d.2.2.2.1==3 then some (decide (d.2.2.2.2.2.2.2.2.2.1<o.2.2.2.1),()) else some (false,()))=some (decide (b9 d=3/\w9 d<bT o),()):=by
  by_cases h3:d.2.2.2.1=3
  ·rw[show (d.2.2.2.1==3)=true by simp[h3],ajO]
   simp[b9,h3]
  ·rw[show (d.2.2.2.1==3)=false by simp[h3],ajN]
   simp[b9,h3]
 rw[hv,ajA]
 dsimp only
 by_cases h1:b9 d=3/\w9 d<bT o
 ·rw[ajR h1,ajO,ajZ h1,mK h]
 ·rw[ajQ h1,ajN,ajY h1]
  simp only[ajA,vF h]
  by_cases h2:0<=x.wish
  ·rw[ajZ h2,ajR (show x.wish>=0 from h2),ajO,mK h]
  ·rw[ajY h2,ajQ (show ¬x.wish>=0 from h2),ajN,q8 { x with wish:=(i:Int) } _ rfl]
structure WOk (l:List aa) (x:aq):Prop where
 low: -1<=x.wish
 kind:0<=x.wish->∃ d,l[x.wish.toNat]? =some d/\b9 d<=4
theorem JJ {d:aa} (hw:l[x.wish.toNat]? =some d):ri l x=d:=by
 unfold ri
 rw[ah1,hw];rfl
theorem adI {d:aa} (h0:0<=x.wish) (hw:l[x.wish.toNat]? =some d):idx l x.wish=some d:=by
 unfold idx;rw[ajZ h0];exact hw
theorem zi (h:A[k]? =some x) (hx:LOk x) (hw:WOk l x) (hl:∀ d,d∈l->dP d=0) (d:aa): oK (o,l,m,ref,pts,wt,()) (some k) d (A.map aq.tup)=some ((dL l d x).1,(o,l,m,ref,pts,wt,()),(A.set k (dL l d x).2).map aq.tup,()):=by
 unfold oK dL
 simp only[ajA,vF h]
 by_cases h1:x.wish<0
 ·rw[ajZ h1,ajR h1,ajO,mK h]
 ·rw[ajY h1,ajQ h1,ajN]
  obtain⟨w,hw1,hw2⟩:=hw.kind (by omega)
  rw[adI (by omega) hw1,JJ hw1]
  simp only[ajA]
  have hwf:=hl w (aiF hw1)
  obtain⟨_,_,_,hk,_,_,hu⟩:=fh hwf
  obtain⟨uq,_⟩:=jA hu
  have b0:=hx.ret0;have b1:=hx.retr;have b2:=hx.rcvs;have b3:=hx.shp1
  by_cases h2:dNo w=dTo d
  ·rw[ajY (fun e=>e h2),show (w.2.2.1 != d.2.2.2.2.2.2.2.2.2.2)=false by simpa using h2,ajN]
   by_cases h3:b9 d=5
   ·rw[ajZ h3,show (d.2.2.2.1==5)=true by simpa using h3,ajO]
    by_cases k2:b9 w=2
    ·have hq:=uq (by rw[k2];rfl)
     rw[ajZ k2,show (w.2.2.2.1==2)=true by simpa using k2,ajO]
     simp only[qF hq,ajA,Hu h,aiS]
     rw[ax (n:=x.shp - x.ret) (by omega) (by omega)]
     by_cases h4:bW (dQ w)<x.shp - x.ret
     ·rw[ajZ h4,ajR h4,ajO,mK h]
     ·rw[ajY h4,ajQ h4,ajN,q8 { x with ord:=bW (dQ w),wish:= -1 } _ rfl]
    ·rw[ajY k2,show (w.2.2.2.1==2)=false by simpa using k2,ajN]
     by_cases k1:b9 w=1
     ·have hq:=uq (by rw[k1];rfl)
      rw[ajZ k1,show (w.2.2.2.1==1)=true by simpa using k1,ajO]
      simp only[qF hq,ajA,Hu h,aiS]
      rw[q8 { x with ord:=bW (dQ w),wish:= -1 } _ rfl]
     ·rw[ajY k1,show (w.2.2.2.1==1)=false by simpa using k1,ajN]
      by_cases k3:b9 w=3
      ·rw[ajZ k3,show (w.2.2.2.1==3)=true by simpa using k3,ajO]
       simp only[ajA,Hu h,aiS]
       rw[q8 { x with due:=w9 w,wish:= -1 } _ rfl]
      ·rw[ajY k3,show (w.2.2.2.1==3)=false by simpa using k3,ajN]
       simp only[ajA,Hu h,aiS]
       rw[q8 { x with price:=SJ w,wish:= -1 } _ rfl]
   ·rw[ajY h3,show (d.2.2.2.1==5)=false by simpa using h3,ajN,q8 { x with wish:= -1 } _ rfl]
  ·rw[ajZ h2,show (w.2.2.1 != d.2.2.2.2.2.2.2.2.2.2)=true by simpa using h2,ajO,mK h]
theorem Gx (h:A[k]? =some x) (hx:LOk x) {d:aa} {z:Bool} (hq:qOk (dQ d) z=true): nV (o,l,m,ref,pts,wt,()) (some k) d (A.map aq.tup)=some (uv (bT o) d x,(o,l,m,ref,pts,wt,()),A.map aq.tup,()):=by
 unfold nV uv
 simp only[ajA,vF h,zk h hx,qF hq]
 by_cases h1:w9 d<bT o
 ·rw[ajZ h1,ajR h1,ajO]
 ·rw[ajY h1,ajQ h1,ajN]
  by_cases h2:0<=x.wish
  ·rw[ajZ (.inl h2),ajR (show x.wish>=0 from h2),ajO]
  ·rw[ajQ (show ¬x.wish>=0 from h2),ajN]
   by_cases h3:x.opn=0
   ·rw[ajZ (.inr h3),show (x.opn==0)=true by simp[h3],ajO]
   ·rw[ajY (fun e=>e.elim h2 h3),show (x.opn==0)=false by simp[h3],ajN]
    by_cases h4:x.opn<bW (dQ d)
    ·rw[ajZ h4,ajR (show bW (dQ d)>x.opn from h4),ajO]
    ·rw[ajY h4,ajQ (show ¬bW (dQ d)>x.opn from h4),ajN]
theorem JE (h:A[k]? =some x) (hx:LOk x) (d:aa): rC (o,l,m,ref,pts,wt,()) (some k) d (A.map aq.tup)=some ((PI d x).1,(o,l,m,ref,pts,wt,()),(A.set k (PI d x).2).map aq.tup,()):=by
 unfold rC PI
 simp only[ajA,vF h,Hu h,aiS]
 have b0:=hx.ret0;have b1:=hx.retr;have b2:=hx.rcvs;have b3:=hx.shp1;have b4:=hx.C8;have b5:=hx.ord1
 by_cases h1:0<=x.wish
 ·rw[ajZ h1,ajR (show x.wish>=0 from h1),ajO,mK h]
 ·rw[ajY h1,ajQ (show ¬x.wish>=0 from h1),ajN]
  by_cases h2:x.ono=0
  ·rw[ajZ (.inl h2),show (x.ono==0)=true by simp[h2],ajO,mK h]
  ·rw[show (x.ono==0)=false by simp[h2],ajN]
   by_cases h3:x.ono=dTo d
   ·obtain⟨c1,c2⟩:=hx.off h2
    rw[ajY (fun e=>e.elim h2 (fun e=>e h3)),show (x.ono != d.2.2.2.2.2.2.2.2.2.2)=false by simpa using h3,ajN,
     ax (n:=x.shp - x.ret) (by omega) (by omega),ax (n:=x.shp - x.ret+x.oq) (by omega) (by omega),
     q8 { x with ord:=x.shp - x.ret+x.oq,due:=x.ount,ono:=0,oq:=0,ount:=0 } _ rfl]
   ·rw[ajZ (.inr h3),show (x.ono != d.2.2.2.2.2.2.2.2.2.2)=true by simpa using h3,ajO,mK h]
theorem uw (h:A[k]? =some x) (hx:LOk x) (he0:0<=fA o) (he1:fA o<=1000) {d:aa} {z:Bool} (hq:qOk (dQ d) z=true): rB (o,l,m,ref,pts,wt,()) (some k) d (A.map aq.tup)=some ((dK (fA o) d x).1,(o,l,m,ref,pts,wt,()),(A.set k (dK (fA o) d x).2).map aq.tup,()):=by
 unfold rB dK
 simp only[ajA,vF h,Hu h,qF hq]
 have b0:=hx.ret0;have b1:=hx.retr;have b2:=hx.rcvs;have b3:=hx.shp1;have b4:=hx.C8;have b5:=hx.ord1
 obtain⟨q0,q1,_⟩:=vR hq
 by_cases k9:b9 d=9
 ·rw[ajZ k9,show (d.2.2.2.1==9)=true by simpa using k9,ajO]
  have m0:0<=x.ord*fA o:=ahr b4 he0
  have m1:x.ord*fA o<=x.ord*1000:=ahp he1 b4
  have e1:w64 (x.ord*fA o)=x.ord*fA o:=ax (by omega) (by omega)
  have e2:Int.tdiv (x.ord*fA o) 1000=x.ord*fA o / 1000:=ahA m0
  have d0:0<=x.ord*fA o / 1000:=Int.ediv_nonneg m0 (by omega)
  have d1:x.ord*fA o / 1000<=x.ord:=by omega
  rw[show w64 (x.ord*o.2.2.2.2.1)=x.ord*fA o from e1,e2,ax (n:=x.ord*fA o / 1000) (by omega) (by omega),ax (n:=x.ord+x.ord*fA o / 1000) (by omega) (by omega),
   ax (n:=x.shp - x.ret) (by omega) (by omega),ax (n:=x.shp - x.ret+bW (dQ d)) (by omega) (by omega),ax (n:=x.shp+bW (dQ d)) (by omega) (by omega)]
  by_cases c1:x.ord+x.ord*fA o / 1000<x.shp - x.ret+bW (dQ d)
  ·rw[ajZ c1,ajR (show x.shp - x.ret+bW (dQ d)>x.ord+x.ord*fA o / 1000 from c1),ajO,mK h]
  ·rw[ajY c1,ajQ (show ¬x.shp - x.ret+bW (dQ d)>x.ord+x.ord*fA o / 1000 from c1),ajN]
   by_cases c2:1000000000000000<x.shp+bW (dQ d)
   ·rw[ajZ c2,ajR (show x.shp+bW (dQ d)>1000000000000000 from c2),ajO,mK h]
   ·rw[ajY c2,ajQ (show ¬x.shp+bW (dQ d)>1000000000000000 from c2),ajN,q8 { x with shp:=x.shp+bW (dQ d) } _ rfl]
 ·rw[ajY k9,show (d.2.2.2.1==9)=false by simpa using k9,ajN]
  by_cases k10:b9 d=10
  ·rw[ajZ k10,show (d.2.2.2.1==10)=true by simpa using k10,ajO,ax (n:=x.rcv+bW (dQ d)) (by omega) (by omega)]
   by_cases c1:x.shp<x.rcv+bW (dQ d)
   ·rw[ajZ c1,ajR (show x.rcv+bW (dQ d)>x.shp from c1),ajO,mK h]
   ·rw[ajY c1,ajQ (show ¬x.rcv+bW (dQ d)>x.shp from c1),ajN,q8 { x with rcv:=x.rcv+bW (dQ d) } _ rfl]
  ·rw[ajY k10,show (d.2.2.2.1==10)=false by simpa using k10,ajN,ax (n:=x.ret+bW (dQ d)) (by omega) (by omega)]
   by_cases c1:x.rcv<x.ret+bW (dQ d)
   ·rw[ajZ c1,ajR (show x.ret+bW (dQ d)>x.rcv from c1),ajO,mK h]
   ·rw[ajY c1,ajQ (show ¬x.ret+bW (dQ d)>x.rcv from c1),ajN,q8 { x with ret:=x.ret+bW (dQ d) } _ rfl]
end Go.Md
namespace Go.Md
open Go.Dn
def aq.clr (x:aq):aq:={ x with ono:=0,oq:=0,ount:=0 }
def fQ (o:ai) (l:List aa) (i:Nat) (d:aa) (x:aq):Int×aq:=
 if b9 d<=4 then PL (bT o) i d x
 else if b9 d<=6 then (if (dL l d x).1=0 then (0,(dL l d x).2.clr) else dL l d x)
 else if b9 d=7 then (if uv (bT o) d x=0 then (0,{ x with ono:=dNo d,oq:=bW (dQ d),ount:=w9 d }) else (uv (bT o) d x,x))
 else if b9 d=8 then PI d x
 else if b9 d=9 then (if (dK (fA o) d x).1=0 then (0,(dK (fA o) d x).2.clr) else dK (fA o) d x)
 else dK (fA o) d x
def GH (i:Nat) (d:aa):aq:=⟨ry d,d.2.2.2.2.2.1,d.2.2.2.2.2.2.2.1,0,0,0,0,SJ d,w9 d,i,0,0,0⟩
def gV (o:ai) (l:List aa) (i:Nat) (d:aa) (A:List aq):Int×List aq:=
 if b9 d=1 then
  (match oG (ry d) A with
  | some _=>(7,A)
  | none=>if 500<=A.length then (16,A) else if w9 d<bT o then (1,A) else (0,A++[GH i d]))
 else match oG (ry d) A with
  | none=>(9,A)
  | some k=>match A[k]? with
   | some x=>((fQ o l i d x).1,A.set k (fQ o l i d x).2)
   | none=>(9,A)
structure Sound (l:List aa) (A:List aq):Prop where
 line:∀ x,x∈A->LOk x/\WOk l x
theorem afD {x:aq} (h:LOk x):LOk x.clr:=⟨h.ret0,h.retr,h.rcvs,h.shp1,h.C8,h.ord1,fun e=>absurd rfl e⟩
theorem aaE {l:List aa} {d:aa} {x:aq} (hx:LOk x) (hw:WOk l x) (hl:∀ d,d∈l->dP d=0):((dL l d x).1=0->LOk (dL l d x).2.clr)/\((dL l d x).1≠0->(dL l d x).2=x)/\((dL l d x).2=x\/(dL l d x).2.wish= -1)/\(dL l d x).2.no=x.no:=by
 have hk:LOk x.clr:=afD hx
 unfold dL
 by_cases h1:x.wish<0
 ·rw[ajZ h1];exact⟨nofun,fun _=>rfl,.inl rfl,rfl⟩
 rw[ajY h1]
 obtain⟨w,hw1,hw2⟩:=hw.kind (by omega)
 rw[JJ hw1]
 obtain⟨_,_,_,_,_,_,hu⟩:=fh (hl w (aiF hw1))
 obtain⟨uq,_⟩:=jA hu
 by_cases h2:dNo w≠dTo d
 ·rw[ajZ h2];exact⟨nofun,fun _=>rfl,.inl rfl,rfl⟩
 rw[ajY h2]
 by_cases h3:b9 d=5
 ·rw[ajZ h3]
  by_cases k2:b9 w=2
  ·rw[ajZ k2]
   obtain⟨q0,q1,_⟩:=vR (uq (by rw[k2];rfl))
   by_cases h4:bW (dQ w)<x.shp - x.ret
   ·rw[ajZ h4];exact⟨nofun,fun _=>rfl,.inl rfl,rfl⟩
   ·rw[ajY h4];exact⟨fun _=>⟨hx.ret0,hx.retr,hx.rcvs,hx.shp1,q0,q1,fun e=>absurd rfl e⟩,fun e=>absurd rfl e,.inr rfl,rfl⟩
  ·rw[ajY k2]
   by_cases k1:b9 w=1
   ·rw[ajZ k1]
    obtain⟨q0,q1,_⟩:=vR (uq (by rw[k1];rfl))
    exact⟨fun _=>⟨hx.ret0,hx.retr,hx.rcvs,hx.shp1,q0,q1,fun e=>absurd rfl e⟩,fun e=>absurd rfl e,.inr rfl,rfl⟩
   ·rw[ajY k1]
    by_cases k3:b9 w=3
    ·rw[ajZ k3];exact⟨fun _=>⟨hx.ret0,hx.retr,hx.rcvs,hx.shp1,hx.C8,hx.ord1,fun e=>absurd rfl e⟩,fun e=>absurd rfl e,.inr rfl,rfl⟩
    ·rw[ajY k3];exact⟨fun _=>⟨hx.ret0,hx.retr,hx.rcvs,hx.shp1,hx.C8,hx.ord1,fun e=>absurd rfl e⟩,fun e=>absurd rfl e,.inr rfl,rfl⟩
 ·rw[ajY h3];exact⟨fun _=>⟨hx.ret0,hx.retr,hx.rcvs,hx.shp1,hx.C8,hx.ord1,fun e=>absurd rfl e⟩,fun e=>absurd rfl e,.inr rfl,rfl⟩
theorem adX {ext:Int} {d:aa} {x:aq} {z:Bool} (hx:LOk x) (hq:qOk (dQ d) z=true):((dK ext d x).1=0->LOk (if b9 d=9 then (dK ext d x).2.clr else (dK ext d x).2))/\((dK ext d x).1≠0->(dK ext d x).2=x)/\(dK ext d x).2.wish=x.wish/\(dK ext d x).2.no=x.no:=by
 obtain⟨q0,q1,_⟩:=vR hq
 have b0:=hx.ret0;have b1:=hx.retr;have b2:=hx.rcvs;have b3:=hx.shp1
 unfold dK
 by_cases k9:b9 d=9
 ·rw[ajZ k9,ajZ k9]
  split
  ·exact⟨nofun,fun _=>rfl,rfl,rfl⟩
  ·split
   ·exact⟨nofun,fun _=>rfl,rfl,rfl⟩
   ·rename_i h1 h2
    exact⟨fun _=>⟨b0,b1,by show x.rcv<=x.shp+bW (dQ d);omega,by show x.shp+bW (dQ d)<=_;omega,hx.C8,hx.ord1,fun e=>absurd rfl e⟩,fun e=>absurd rfl e,rfl,rfl⟩
 ·rw[ajY k9,ajY k9]
  by_cases k10:b9 d=10
  ·rw[ajZ k10]
   split
   ·exact⟨nofun,fun _=>rfl,rfl,rfl⟩
   ·rename_i h1
    exact⟨fun _=>⟨b0,by show x.ret<=x.rcv+bW (dQ d);omega,by show x.rcv+bW (dQ d)<=x.shp;omega,b3,hx.C8,hx.ord1,hx.off⟩,fun e=>absurd rfl e,rfl,rfl⟩
  ·rw[ajY k10]
   split
   ·exact⟨nofun,fun _=>rfl,rfl,rfl⟩
   ·rename_i h1
    exact⟨fun _=>⟨by show 0<=x.ret+bW (dQ d);omega,by show x.ret+bW (dQ d)<=x.rcv;omega,b2,b3,hx.C8,hx.ord1,fun e=>by
     obtain⟨c1,c2⟩:=hx.off e
     exact⟨c1,by show x.oq+x.shp - (x.ret+bW (dQ d))<=x.ord;omega⟩⟩,fun e=>absurd rfl e,rfl,rfl⟩
theorem Pd {o:ai} {l:List aa} {i:Nat} {d:aa} {x:aq} (hx:LOk x) (hw:WOk l x) (hl:∀ d,d∈l->dP d=0) (hd:l[i]? =some d): LOk (fQ o l i d x).2/\WOk l (fQ o l i d x).2/\(fQ o l i d x).2.no=x.no/\((fQ o l i d x).1≠0->(fQ o l i d x).2=x):=by
 obtain⟨_,_,_,hk,_,_,hu⟩:=fh (hl d (aiF hd))
 obtain⟨uq,_⟩:=jA hu
 unfold fQ
 by_cases k4:b9 d<=4
 ·rw[ajZ k4]
  unfold PL
  split
  ·exact⟨hx,hw,rfl,fun _=>rfl⟩
  ·split
   ·exact⟨hx,hw,rfl,fun _=>rfl⟩
   ·refine⟨⟨hx.ret0,hx.retr,hx.rcvs,hx.shp1,hx.C8,hx.ord1,hx.off⟩,⟨by show (-1:Int)<=(i:Int);omega,fun _=>⟨d,by show l[((i:Int)).toNat]? =some d;simpa using hd,k4⟩⟩,rfl,fun e=>absurd rfl e⟩
 ·rw[ajY k4]
  by_cases k6:b9 d<=6
  ·rw[ajZ k6]
   obtain⟨a1,a2,a3,a4⟩:=aaE (d:=d) hx hw hl
   split
   ·rename_i e
    refine⟨a1 e, ?_,a4,fun e=>absurd rfl e⟩
    rcases a3 with a3 | a3
    ·rw[a3];exact⟨hw.low,hw.kind⟩
    ·exact⟨by show -1<=(dL l d x).2.wish;omega,fun h=>by have:0<=(dL l d x).2.wish:=h;omega⟩
   ·rename_i e
    rw[a2 e];exact⟨hx,hw,rfl,fun _=>rfl⟩
  ·rw[ajY k6]
   by_cases k7:b9 d=7
   ·rw[ajZ k7]
    have hq:=uq (by rw[k7];rfl)
    rw[show (b9 d==2)=false by rw[k7];rfl] at hq
    obtain⟨q0,q1,q2⟩:=vR hq
    split
    ·rename_i e
     refine⟨⟨hx.ret0,hx.retr,hx.rcvs,hx.shp1,hx.C8,hx.ord1,fun _=>⟨q2 rfl, ?_⟩⟩,⟨hw.low,hw.kind⟩,rfl,fun e=>absurd rfl e⟩
     show bW (dQ d)+x.shp - x.ret<=x.ord
     unfold uv at e
     split at e
     ·cases e
     ·split at e
      ·cases e
      ·split at e
       ·cases e
       ·rename_i h1 h2 h3
        have:=q2 rfl
        unfold aq.opn at h3
        split at h3<;>omega
    ·exact⟨hx,hw,rfl,fun _=>rfl⟩
   ·rw[ajY k7]
    by_cases k8:b9 d=8
    ·rw[ajZ k8]
     unfold PI
     split
     ·exact⟨hx,hw,rfl,fun _=>rfl⟩
     ·split
      ·exact⟨hx,hw,rfl,fun _=>rfl⟩
      ·rename_i h1 h2
       obtain⟨c1,c2⟩:=hx.off (fun e=>h2 (.inl e))
       have:=hx.ret0;have:=hx.retr;have:=hx.rcvs;have:=hx.ord1
       refine⟨⟨hx.ret0,hx.retr,hx.rcvs,hx.shp1, ?_, ?_,fun e=>absurd rfl e⟩,⟨hw.low,hw.kind⟩,rfl,fun e=>absurd rfl e⟩
       ·show 0<=x.shp - x.ret+x.oq;omega
       ·show x.shp - x.ret+x.oq<=1000000000000;omega
    ·rw[ajY k8]
     have hq:=uq (by
      unfold usQ
      refine ajR ⟨by omega,by omega,by omega,by omega,by omega⟩)
     obtain⟨a1,a2,a3,a4⟩:=adX (ext:=fA o) hx hq
     by_cases k9:b9 d=9
     ·rw[ajZ k9]
      split
      ·rename_i e
       have:=a1 e
       rw[ajZ k9] at this
       exact⟨this,⟨by show -1<=(dK (fA o) d x).2.wish;rw[a3];exact hw.low,fun h=>by
        have h':0<=(dK (fA o) d x).2.wish:=h
        rw[a3] at h'
        show ∃ d',l[(dK (fA o) d x).2.wish.toNat]? =some d'/\_
        rw[a3];exact hw.kind h'⟩,a4,fun e=>absurd rfl e⟩
      ·rename_i e
       rw[a2 e];exact⟨hx,hw,rfl,fun _=>rfl⟩
     ·rw[ajY k9]
      by_cases e:(dK (fA o) d x).1=0
      ·have:=a1 e
       rw[ajY k9] at this
       exact⟨this,⟨by rw[a3];exact hw.low,fun h=>by rw[a3] at h ⊢;exact hw.kind h⟩,a4,fun h=>absurd e h⟩
      ·rw[a2 e];exact⟨hx,hw,rfl,fun _=>rfl⟩
theorem ac9 {l:List aa} {A:List aq} (h:Sound l A) {k:Nat} {y:aq} (h1:LOk y) (h2:WOk l y):Sound l (A.set k y):=⟨fun x hx=>by
 rcases aiH hx with hx | hx
 ·exact h.line x hx
 ·subst hx;exact⟨h1,h2⟩⟩
theorem adz {o:ai} {l:List aa} {i:Nat} {d:aa} {A:List aq} (hA:Sound l A) (hl:∀ d,d∈l->dP d=0) (hd:l[i]? =some d): Sound l (gV o l i d A).2/\((gV o l i d A).1≠0->(gV o l i d A).2=A):=by
 unfold gV
 by_cases k1:b9 d=1
 ·rw[ajZ k1]
  split
  ·exact⟨hA,fun _=>rfl⟩
  ·split
   ·exact⟨hA,fun _=>rfl⟩
   ·split
    ·exact⟨hA,fun _=>rfl⟩
    ·refine⟨⟨fun x hx=> ?_⟩,fun e=>absurd rfl e⟩
     rcases aiy.1 hx with hx | hx
     ·exact hA.line x hx
     ·simp only[aiJ] at hx
      subst hx
      exact⟨⟨by show (0:Int)<=0;omega,by show (0:Int)<=0;omega,by show (0:Int)<=0;omega,by show (0:Int)<=_;omega,by show (0:Int)<=0;omega,by show (0:Int)<=_;omega,fun e=>absurd rfl e⟩,
       ⟨by show (-1:Int)<=(i:Int);omega,fun _=>⟨d,by show l[((i:Int)).toNat]? =some d;simpa using hd,by omega⟩⟩⟩
 ·rw[ajY k1]
  split
  ·exact⟨hA,fun _=>rfl⟩
  ·rename_i k hk
   split
   ·rename_i x hx
    obtain⟨h1,h2⟩:=hA.line x (aiF hx)
    obtain⟨a1,a2,a3,a4⟩:=Pd (o:=o) h1 h2 hl hd
    exact⟨ac9 hA a1 a2,fun e=>by rw[a4 e];exact mK hx⟩
   ·exact⟨hA,fun _=>rfl⟩
variable {o:ai} {l:List aa} {ref:List ah} {pts:List bn} {wt:Int} {A:List aq}
theorem Kr {i:Nat} {d:aa} (hd:l[i]? =some d) (k1:b9 d=1): sY (o,l,mapOf A,ref,pts,wt,()) (i:Int) (A.map aq.tup)=some ((gV o l i d A).1,(o,l,mapOf (gV o l i d A).2,ref,pts,wt,()),(gV o l i d A).2.map aq.tup,()):=by
 unfold sY gV
 dsimp only
 rw[iB hd,ajA,lB,ajZ k1]
 cases hf:oG (ry d) A with
 | some k=>rw[show cH d.2.2.2.2.1 0 A=some k from hf];rfl
 | none=>
  rw[show cH d.2.2.2.2.1 0 A=none from hf]
  dsimp only
  rw[show (!Option.isNone (none:Option Nat))=false from rfl,ajN]
  by_cases h1:500<=A.length
  ·rw[ajZ h1,ajR (show ((mapOf A).length:Int)>=500 by rw[Fb];omega),ajO]
  ·rw[ajY h1,ajQ (show ¬((mapOf A).length:Int)>=500 by rw[Fb];omega),ajN]
   by_cases h2:w9 d<bT o
   ·rw[ajZ h2,ajR h2,ajO]
   ·rw[ajY h2,ajQ h2,ajN]
    have hs:=RD (ry d) (GH i d) rfl A 0 hf
    rw[ajx] at hs
    rw[aio]
    refine congrArg some ?_
    refine Prod.ext rfl (Prod.ext ?_ (Prod.ext ?_ rfl))
    ·exact Prod.ext rfl (Prod.ext rfl (Prod.ext hs rfl))
    ·show List.map aq.tup A++[_]=List.map aq.tup (A++[GH i d])
     rw[ait]
     rfl
end Go.Md
namespace Go.Md
open Go.Dn
theorem aaL {o:ai} {l:List aa} {i:Nat} {d:aa} {A:List aq} (k1:b9 d≠1) (hf:oG (ry d) A=none):gV o l i d A=(9,A):=by
 unfold gV;rw[ajY k1,hf]
theorem VI {o:ai} {l:List aa} {i:Nat} {d:aa} {A:List aq} {k:Nat} {x:aq} (k1:b9 d≠1) (hf:oG (ry d) A=some k) (hx:A[k]? =some x):gV o l i d A=((fQ o l i d x).1,A.set k (fQ o l i d x).2):=by
 unfold gV;rw[ajY k1,hf];dsimp only;rw[hx]
variable {o:ai} {l:List aa} {ref:List ah} {pts:List bn} {wt:Int} {A:List aq}
theorem Vm {k:Nat} (x:aq) (y:aq) (T:bf) (hT:T=y.tup):List.set ((A.set k x).map aq.tup) k T=(A.set k y).map aq.tup:=by
 rw[hT,aaq,aiS]
theorem aeN {onum obuy osel:Bys} {oday oext:Int} {olns:List aT} {day byy no line:Int} {art:Bys} {q:ah} {unit:Bys} {p:ah} {un to:Int} {i:Nat} (he0:0<=oext) (he1:oext<=1000) (hl:∀ d,d∈l->dP d=0) (hd:l[i]? =some (day,byy,no,2,line,art,q,unit,p,un,to)) {k:Nat} {x:aq} (hf:cH line 0 A=some k) (hx:A[k]? =some x) (hs:LOk x) (hw:WOk l x): bp ((onum,obuy,osel,oday,oext,olns),l,mapOf A,ref,pts,wt,()) (i:Int) (A.map aq.tup)=some ((fQ (onum,obuy,osel,oday,oext,olns) l i (day,byy,no,2,line,art,q,unit,p,un,to) x).1,((onum,obuy,osel,oday,oext,olns),l,mapOf A,ref,pts,wt,()),(A.set k (fQ (onum,obuy,osel,oday,oext,olns) l i (day,byy,no,2,line,art,q,unit,p,un,to) x).2).map aq.tup,()):=by
 have hdf:=hl _ (aiF hd)
 obtain⟨_,_,_,_,_,_,hu⟩:=fh hdf
 obtain⟨uq,_⟩:=jA hu
 have h21:((2:Int)==1)=false:=rfl
 have h22:((2:Int)==2)=true:=rfl
 have h23:((2:Int)==3)=false:=rfl
 have h24:((2:Int)==4)=false:=rfl
 have h25:((2:Int)==5)=false:=rfl
 have h26:((2:Int)==6)=false:=rfl
 have h27:((2:Int)==7)=false:=rfl
 have h28:((2:Int)==8)=false:=rfl
 have h29:((2:Int)==9)=false:=rfl
 unfold bp
 dsimp only
 rw[iB hd,ajA]
 dsimp only
 rw[lB,hf]
 simp only[h21,h22,h23,h24,h25,h26,h27,h28,h29,ajO,ajN,aG,ajD,ajA,ux hx hd]
 rfl
theorem aeO {onum obuy osel:Bys} {oday oext:Int} {olns:List aT} {day byy no line:Int} {art:Bys} {q:ah} {unit:Bys} {p:ah} {un to:Int} {i:Nat} (he0:0<=oext) (he1:oext<=1000) (hl:∀ d,d∈l->dP d=0) (hd:l[i]? =some (day,byy,no,3,line,art,q,unit,p,un,to)) {k:Nat} {x:aq} (hf:cH line 0 A=some k) (hx:A[k]? =some x) (hs:LOk x) (hw:WOk l x): bp ((onum,obuy,osel,oday,oext,olns),l,mapOf A,ref,pts,wt,()) (i:Int) (A.map aq.tup)=some ((fQ (onum,obuy,osel,oday,oext,olns) l i (day,byy,no,3,line,art,q,unit,p,un,to) x).1,((onum,obuy,osel,oday,oext,olns),l,mapOf A,ref,pts,wt,()),(A.set k (fQ (onum,obuy,osel,oday,oext,olns) l i (day,byy,no,3,line,art,q,unit,p,un,to) x).2).map aq.tup,()):=by
 have hdf:=hl _ (aiF hd)
 obtain⟨_,_,_,_,_,_,hu⟩:=fh hdf
 obtain⟨uq,_⟩:=jA hu
 have h31:((3:Int)==1)=false:=rfl
 have h32:((3:Int)==2)=false:=rfl
 have h33:((3:Int)==3)=true:=rfl
 have h34:((3:Int)==4)=false:=rfl
 have h35:((3:Int)==5)=false:=rfl
 have h36:((3:Int)==6)=false:=rfl
 have h37:((3:Int)==7)=false:=rfl
 have h38:((3:Int)==8)=false:=rfl
 have h39:((3:Int)==9)=false:=rfl
 unfold bp
 dsimp only
 rw[iB hd,ajA]
 dsimp only
 rw[lB,hf]
 simp only[h31,h32,h33,h34,h35,h36,h37,h38,h39,ajO,ajN,aG,ajD,ajA,ux hx hd]
 rfl
theorem aeP {onum obuy osel:Bys} {oday oext:Int} {olns:List aT} {day byy no line:Int} {art:Bys} {q:ah} {unit:Bys} {p:ah} {un to:Int} {i:Nat} (he0:0<=oext) (he1:oext<=1000) (hl:∀ d,d∈l->dP d=0) (hd:l[i]? =some (day,byy,no,4,line,art,q,unit,p,un,to)) {k:Nat} {x:aq} (hf:cH line 0 A=some k) (hx:A[k]? =some x) (hs:LOk x) (hw:WOk l x): bp ((onum,obuy,osel,oday,oext,olns),l,mapOf A,ref,pts,wt,()) (i:Int) (A.map aq.tup)=some ((fQ (onum,obuy,osel,oday,oext,olns) l i (day,byy,no,4,line,art,q,unit,p,un,to) x).1,((onum,obuy,osel,oday,oext,olns),l,mapOf A,ref,pts,wt,()),(A.set k (fQ (onum,obuy,osel,oday,oext,olns) l i (day,byy,no,4,line,art,q,unit,p,un,to) x).2).map aq.tup,()):=by
 have hdf:=hl _ (aiF hd)
 obtain⟨_,_,_,_,_,_,hu⟩:=fh hdf
 obtain⟨uq,_⟩:=jA hu
 have h41:((4:Int)==1)=false:=rfl
 have h42:((4:Int)==2)=false:=rfl
 have h43:((4:Int)==3)=false:=rfl
 have h44:((4:Int)==4)=true:=rfl
 have h45:((4:Int)==5)=false:=rfl
 have h46:((4:Int)==6)=false:=rfl
 have h47:((4:Int)==7)=false:=rfl
 have h48:((4:Int)==8)=false:=rfl
 have h49:((4:Int)==9)=false:=rfl
 unfold bp
 dsimp only
 rw[iB hd,ajA]
 dsimp only
 rw[lB,hf]
 simp only[h41,h42,h43,h44,h45,h46,h47,h48,h49,ajO,ajN,aG,ajD,ajA,ux hx hd]
 rfl
theorem aeQ {onum obuy osel:Bys} {oday oext:Int} {olns:List aT} {day byy no line:Int} {art:Bys} {q:ah} {unit:Bys} {p:ah} {un to:Int} {i:Nat} (he0:0<=oext) (he1:oext<=1000) (hl:∀ d,d∈l->dP d=0) (hd:l[i]? =some (day,byy,no,5,line,art,q,unit,p,un,to)) {k:Nat} {x:aq} (hf:cH line 0 A=some k) (hx:A[k]? =some x) (hs:LOk x) (hw:WOk l x): bp ((onum,obuy,osel,oday,oext,olns),l,mapOf A,ref,pts,wt,()) (i:Int) (A.map aq.tup)=some ((fQ (onum,obuy,osel,oday,oext,olns) l i (day,byy,no,5,line,art,q,unit,p,un,to) x).1,((onum,obuy,osel,oday,oext,olns),l,mapOf A,ref,pts,wt,()),(A.set k (fQ (onum,obuy,osel,oday,oext,olns) l i (day,byy,no,5,line,art,q,unit,p,un,to) x).2).map aq.tup,()):=by
 have hdf:=hl _ (aiF hd)
 obtain⟨_,_,_,_,_,_,hu⟩:=fh hdf
 obtain⟨uq,_⟩:=jA hu
 have h51:((5:Int)==1)=false:=rfl
 have h52:((5:Int)==2)=false:=rfl
 have h53:((5:Int)==3)=false:=rfl
 have h54:((5:Int)==4)=false:=rfl
 have h55:((5:Int)==5)=true:=rfl
 have h56:((5:Int)==6)=false:=rfl
 have h57:((5:Int)==7)=false:=rfl
 have h58:((5:Int)==8)=false:=rfl
 have h59:((5:Int)==9)=false:=rfl
 unfold bp
 dsimp only
 rw[iB hd,ajA]
 dsimp only
 rw[lB,hf]
 simp only[h51,h52,h53,h54,h55,h56,h57,h58,h59,ajO,ajN,aG,ajD,ajA,zi hx hs hw hl,jw]
 have ha:fQ (onum,obuy,osel,oday,oext,olns) l i (day,byy,no,5,line,art,q,unit,p,un,to) x=(if (dL l (day,byy,no,5,line,art,q,unit,p,un,to) x).1=0 then (0,(dL l (day,byy,no,5,line,art,q,unit,p,un,to) x).2.clr) else dL l (day,byy,no,5,line,art,q,unit,p,un,to) x):=rfl
 rw[ha]
 by_cases e:(dL l (day,byy,no,5,line,art,q,unit,p,un,to) x).1=0
 ·rw[ajZ e,e]
  simp only[show ((0:Int)==0)=true from rfl,ajO,ajA,vF (Pq hx _)]
  simp only[true_or,or_true,ajU,ajO]
  refine congrArg some (Prod.ext rfl (Prod.ext rfl (Prod.ext ?_ rfl)))
  exact Vm (dL l (day,byy,no,5,line,art,q,unit,p,un,to) x).2 ((dL l (day,byy,no,5,line,art,q,unit,p,un,to) x).2.clr) _ rfl
 ·rw[ajY e,qx e,ajN]
  rfl
theorem aeR {onum obuy osel:Bys} {oday oext:Int} {olns:List aT} {day byy no line:Int} {art:Bys} {q:ah} {unit:Bys} {p:ah} {un to:Int} {i:Nat} (he0:0<=oext) (he1:oext<=1000) (hl:∀ d,d∈l->dP d=0) (hd:l[i]? =some (day,byy,no,6,line,art,q,unit,p,un,to)) {k:Nat} {x:aq} (hf:cH line 0 A=some k) (hx:A[k]? =some x) (hs:LOk x) (hw:WOk l x): bp ((onum,obuy,osel,oday,oext,olns),l,mapOf A,ref,pts,wt,()) (i:Int) (A.map aq.tup)=some ((fQ (onum,obuy,osel,oday,oext,olns) l i (day,byy,no,6,line,art,q,unit,p,un,to) x).1,((onum,obuy,osel,oday,oext,olns),l,mapOf A,ref,pts,wt,()),(A.set k (fQ (onum,obuy,osel,oday,oext,olns) l i (day,byy,no,6,line,art,q,unit,p,un,to) x).2).map aq.tup,()):=by
 have hdf:=hl _ (aiF hd)
 obtain⟨_,_,_,_,_,_,hu⟩:=fh hdf
 obtain⟨uq,_⟩:=jA hu
 have h61:((6:Int)==1)=false:=rfl
 have h62:((6:Int)==2)=false:=rfl
 have h63:((6:Int)==3)=false:=rfl
 have h64:((6:Int)==4)=false:=rfl
 have h65:((6:Int)==5)=false:=rfl
 have h66:((6:Int)==6)=true:=rfl
 have h67:((6:Int)==7)=false:=rfl
 have h68:((6:Int)==8)=false:=rfl
 have h69:((6:Int)==9)=false:=rfl
 unfold bp
 dsimp only
 rw[iB hd,ajA]
 dsimp only
 rw[lB,hf]
 simp only[h61,h62,h63,h64,h65,h66,h67,h68,h69,ajO,ajN,aG,ajD,ajA,zi hx hs hw hl,jw]
 have ha:fQ (onum,obuy,osel,oday,oext,olns) l i (day,byy,no,6,line,art,q,unit,p,un,to) x=(if (dL l (day,byy,no,6,line,art,q,unit,p,un,to) x).1=0 then (0,(dL l (day,byy,no,6,line,art,q,unit,p,un,to) x).2.clr) else dL l (day,byy,no,6,line,art,q,unit,p,un,to) x):=rfl
 rw[ha]
 by_cases e:(dL l (day,byy,no,6,line,art,q,unit,p,un,to) x).1=0
 ·rw[ajZ e,e]
  simp only[show ((0:Int)==0)=true from rfl,ajO,ajA,vF (Pq hx _)]
  simp only[true_or,or_true,ajU,ajO]
  refine congrArg some (Prod.ext rfl (Prod.ext rfl (Prod.ext ?_ rfl)))
  exact Vm (dL l (day,byy,no,6,line,art,q,unit,p,un,to) x).2 ((dL l (day,byy,no,6,line,art,q,unit,p,un,to) x).2.clr) _ rfl
 ·rw[ajY e,qx e,ajN]
  rfl
theorem aeS {onum obuy osel:Bys} {oday oext:Int} {olns:List aT} {day byy no line:Int} {art:Bys} {q:ah} {unit:Bys} {p:ah} {un to:Int} {i:Nat} (he0:0<=oext) (he1:oext<=1000) (hl:∀ d,d∈l->dP d=0) (hd:l[i]? =some (day,byy,no,7,line,art,q,unit,p,un,to)) {k:Nat} {x:aq} (hf:cH line 0 A=some k) (hx:A[k]? =some x) (hs:LOk x) (hw:WOk l x): bp ((onum,obuy,osel,oday,oext,olns),l,mapOf A,ref,pts,wt,()) (i:Int) (A.map aq.tup)=some ((fQ (onum,obuy,osel,oday,oext,olns) l i (day,byy,no,7,line,art,q,unit,p,un,to) x).1,((onum,obuy,osel,oday,oext,olns),l,mapOf A,ref,pts,wt,()),(A.set k (fQ (onum,obuy,osel,oday,oext,olns) l i (day,byy,no,7,line,art,q,unit,p,un,to) x).2).map aq.tup,()):=by
 have hdf:=hl _ (aiF hd)
 obtain⟨_,_,_,_,_,_,hu⟩:=fh hdf
 obtain⟨uq,_⟩:=jA hu
 have h71:((7:Int)==1)=false:=rfl
 have h72:((7:Int)==2)=false:=rfl
 have h73:((7:Int)==3)=false:=rfl
 have h74:((7:Int)==4)=false:=rfl
 have h75:((7:Int)==5)=false:=rfl
 have h76:((7:Int)==6)=false:=rfl
 have h77:((7:Int)==7)=true:=rfl
 have h78:((7:Int)==8)=false:=rfl
 have h79:((7:Int)==9)=false:=rfl
 unfold bp
 dsimp only
 rw[iB hd,ajA]
 dsimp only
 rw[lB,hf]
 have hq:qOk q false=true:=uq rfl
 simp only[h71,h72,h73,h74,h75,h76,h77,h78,h79,ajO,ajN,aG,ajD,ajA,Gx hx hs (d:=(day,byy,no,7,line,art,q,unit,p,un,to)) hq,jw]
 have ha:fQ (onum,obuy,osel,oday,oext,olns) l i (day,byy,no,7,line,art,q,unit,p,un,to) x=(if uv oday (day,byy,no,7,line,art,q,unit,p,un,to) x=0 then (0,{ x with ono:=no,oq:=bW q,ount:=un }) else (uv oday (day,byy,no,7,line,art,q,unit,p,un,to) x,x)):=rfl
 rw[ha]
 by_cases e:uv oday (day,byy,no,7,line,art,q,unit,p,un,to) x=0
 ·rw[ajZ e,show uv (bT (onum,obuy,osel,oday,oext,olns)) (day,byy,no,7,line,art,q,unit,p,un,to) x=0 from e]
  simp only[show ((0:Int)==0)=true from rfl,ajO,ajA,vF hx]
  simp only[true_or,or_true,ajU,ajO]
  rw[show kO (q.1,q.2)=some (bW q,()) from qF hq,ajA]
  simp only[Hu hx,ajA,aiS]
  rw[q8 { x with ono:=no,oq:=bW q,ount:=un } _ rfl]
 ·rw[ajY e,show (uv (bT (onum,obuy,osel,oday,oext,olns)) (day,byy,no,7,line,art,q,unit,p,un,to) x==0)=false from qx e,ajN,mK hx]
  rfl
theorem aeT {onum obuy osel:Bys} {oday oext:Int} {olns:List aT} {day byy no line:Int} {art:Bys} {q:ah} {unit:Bys} {p:ah} {un to:Int} {i:Nat} (he0:0<=oext) (he1:oext<=1000) (hl:∀ d,d∈l->dP d=0) (hd:l[i]? =some (day,byy,no,8,line,art,q,unit,p,un,to)) {k:Nat} {x:aq} (hf:cH line 0 A=some k) (hx:A[k]? =some x) (hs:LOk x) (hw:WOk l x): bp ((onum,obuy,osel,oday,oext,olns),l,mapOf A,ref,pts,wt,()) (i:Int) (A.map aq.tup)=some ((fQ (onum,obuy,osel,oday,oext,olns) l i (day,byy,no,8,line,art,q,unit,p,un,to) x).1,((onum,obuy,osel,oday,oext,olns),l,mapOf A,ref,pts,wt,()),(A.set k (fQ (onum,obuy,osel,oday,oext,olns) l i (day,byy,no,8,line,art,q,unit,p,un,to) x).2).map aq.tup,()):=by
 have hdf:=hl _ (aiF hd)
 obtain⟨_,_,_,_,_,_,hu⟩:=fh hdf
 obtain⟨uq,_⟩:=jA hu
 have h81:((8:Int)==1)=false:=rfl
 have h82:((8:Int)==2)=false:=rfl
 have h83:((8:Int)==3)=false:=rfl
 have h84:((8:Int)==4)=false:=rfl
 have h85:((8:Int)==5)=false:=rfl
 have h86:((8:Int)==6)=false:=rfl
 have h87:((8:Int)==7)=false:=rfl
 have h88:((8:Int)==8)=true:=rfl
 have h89:((8:Int)==9)=false:=rfl
 unfold bp
 dsimp only
 rw[iB hd,ajA]
 dsimp only
 rw[lB,hf]
 simp only[h81,h82,h83,h84,h85,h86,h87,h88,h89,ajO,ajN,aG,ajD,ajA,JE hx hs]
 rfl
theorem aeU {onum obuy osel:Bys} {oday oext:Int} {olns:List aT} {day byy no line:Int} {art:Bys} {q:ah} {unit:Bys} {p:ah} {un to:Int} {i:Nat} (he0:0<=oext) (he1:oext<=1000) (hl:∀ d,d∈l->dP d=0) (hd:l[i]? =some (day,byy,no,9,line,art,q,unit,p,un,to)) {k:Nat} {x:aq} (hf:cH line 0 A=some k) (hx:A[k]? =some x) (hs:LOk x) (hw:WOk l x): bp ((onum,obuy,osel,oday,oext,olns),l,mapOf A,ref,pts,wt,()) (i:Int) (A.map aq.tup)=some ((fQ (onum,obuy,osel,oday,oext,olns) l i (day,byy,no,9,line,art,q,unit,p,un,to) x).1,((onum,obuy,osel,oday,oext,olns),l,mapOf A,ref,pts,wt,()),(A.set k (fQ (onum,obuy,osel,oday,oext,olns) l i (day,byy,no,9,line,art,q,unit,p,un,to) x).2).map aq.tup,()):=by
 have hdf:=hl _ (aiF hd)
 obtain⟨_,_,_,_,_,_,hu⟩:=fh hdf
 obtain⟨uq,_⟩:=jA hu
 have h91:((9:Int)==1)=false:=rfl
 have h92:((9:Int)==2)=false:=rfl
 have h93:((9:Int)==3)=false:=rfl
 have h94:((9:Int)==4)=false:=rfl
 have h95:((9:Int)==5)=false:=rfl
 have h96:((9:Int)==6)=false:=rfl
 have h97:((9:Int)==7)=false:=rfl
 have h98:((9:Int)==8)=false:=rfl
 have h99:((9:Int)==9)=true:=rfl
 unfold bp
 dsimp only
 rw[iB hd,ajA]
 dsimp only
 rw[lB,hf]
 have hq:qOk q false=true:=uq rfl
 simp only[h91,h92,h93,h94,h95,h96,h97,h98,h99,ajO,ajN,aG,ajD,ajA,uw hx hs (o:=(onum,obuy,osel,oday,oext,olns)) he0 he1 (d:=(day,byy,no,9,line,art,q,unit,p,un,to)) hq,jw]
 have ha:fQ (onum,obuy,osel,oday,oext,olns) l i (day,byy,no,9,line,art,q,unit,p,un,to) x=(if (dK oext (day,byy,no,9,line,art,q,unit,p,un,to) x).1=0 then (0,(dK oext (day,byy,no,9,line,art,q,unit,p,un,to) x).2.clr) else dK oext (day,byy,no,9,line,art,q,unit,p,un,to) x):=rfl
 rw[ha]
 by_cases e:(dK oext (day,byy,no,9,line,art,q,unit,p,un,to) x).1=0
 ·rw[ajZ e,show (dK (fA (onum,obuy,osel,oday,oext,olns)) (day,byy,no,9,line,art,q,unit,p,un,to) x).1=0 from e]
  simp only[show ((0:Int)==0)=true from rfl,ajO,ajA,vF (Pq hx _)]
  simp only[true_or,or_true,ajU,ajO]
  refine congrArg some (Prod.ext rfl (Prod.ext rfl (Prod.ext ?_ rfl)))
  exact Vm (dK oext (day,byy,no,9,line,art,q,unit,p,un,to) x).2 ((dK oext (day,byy,no,9,line,art,q,unit,p,un,to) x).2.clr) _ rfl
 ·rw[ajY e,show ((dK (fA (onum,obuy,osel,oday,oext,olns)) (day,byy,no,9,line,art,q,unit,p,un,to) x).1==0)=false from qx e,ajN]
  rfl
theorem adA {onum obuy osel:Bys} {oday oext:Int} {olns:List aT} {day byy no line:Int} {art:Bys} {q:ah} {unit:Bys} {p:ah} {un to:Int} {i:Nat} (he0:0<=oext) (he1:oext<=1000) (hl:∀ d,d∈l->dP d=0) (hd:l[i]? =some (day,byy,no,10,line,art,q,unit,p,un,to)) {k:Nat} {x:aq} (hf:cH line 0 A=some k) (hx:A[k]? =some x) (hs:LOk x) (hw:WOk l x): bp ((onum,obuy,osel,oday,oext,olns),l,mapOf A,ref,pts,wt,()) (i:Int) (A.map aq.tup)=some ((fQ (onum,obuy,osel,oday,oext,olns) l i (day,byy,no,10,line,art,q,unit,p,un,to) x).1,((onum,obuy,osel,oday,oext,olns),l,mapOf A,ref,pts,wt,()),(A.set k (fQ (onum,obuy,osel,oday,oext,olns) l i (day,byy,no,10,line,art,q,unit,p,un,to) x).2).map aq.tup,()):=by
 have hdf:=hl _ (aiF hd)
 obtain⟨_,_,_,_,_,_,hu⟩:=fh hdf
 obtain⟨uq,_⟩:=jA hu
 have h101:((10:Int)==1)=false:=rfl
 have h102:((10:Int)==2)=false:=rfl
 have h103:((10:Int)==3)=false:=rfl
 have h104:((10:Int)==4)=false:=rfl
 have h105:((10:Int)==5)=false:=rfl
 have h106:((10:Int)==6)=false:=rfl
 have h107:((10:Int)==7)=false:=rfl
 have h108:((10:Int)==8)=false:=rfl
 have h109:((10:Int)==9)=false:=rfl
 unfold bp
 dsimp only
 rw[iB hd,ajA]
 dsimp only
 rw[lB,hf]
 have hq:qOk q false=true:=uq rfl
 simp only[h101,h102,h103,h104,h105,h106,h107,h108,h109,ajO,ajN,aG,ajD,ajA,uw hx hs (o:=(onum,obuy,osel,oday,oext,olns)) he0 he1 (d:=(day,byy,no,10,line,art,q,unit,p,un,to)) hq,jw]
 have ha:fQ (onum,obuy,osel,oday,oext,olns) l i (day,byy,no,10,line,art,q,unit,p,un,to) x=dK oext (day,byy,no,10,line,art,q,unit,p,un,to) x:=rfl
 rw[ha]
 by_cases e:(dK oext (day,byy,no,10,line,art,q,unit,p,un,to) x).1=0
 ·rw[show ((dK (fA (onum,obuy,osel,oday,oext,olns)) (day,byy,no,10,line,art,q,unit,p,un,to) x).1==0)=true by show ((dK oext (day,byy,no,10,line,art,q,unit,p,un,to) x).1==0)=true;rw[e];rfl]
  rfl
 ·rw[show ((dK (fA (onum,obuy,osel,oday,oext,olns)) (day,byy,no,10,line,art,q,unit,p,un,to) x).1==0)=false from qx e]
  rfl
theorem adB {onum obuy osel:Bys} {oday oext:Int} {olns:List aT} {day byy no line:Int} {art:Bys} {q:ah} {unit:Bys} {p:ah} {un to:Int} {i:Nat} (he0:0<=oext) (he1:oext<=1000) (hl:∀ d,d∈l->dP d=0) (hd:l[i]? =some (day,byy,no,11,line,art,q,unit,p,un,to)) {k:Nat} {x:aq} (hf:cH line 0 A=some k) (hx:A[k]? =some x) (hs:LOk x) (hw:WOk l x): bp ((onum,obuy,osel,oday,oext,olns),l,mapOf A,ref,pts,wt,()) (i:Int) (A.map aq.tup)=some ((fQ (onum,obuy,osel,oday,oext,olns) l i (day,byy,no,11,line,art,q,unit,p,un,to) x).1,((onum,obuy,osel,oday,oext,olns),l,mapOf A,ref,pts,wt,()),(A.set k (fQ (onum,obuy,osel,oday,oext,olns) l i (day,byy,no,11,line,art,q,unit,p,un,to) x).2).map aq.tup,()):=by
 have hdf:=hl _ (aiF hd)
 obtain⟨_,_,_,_,_,_,hu⟩:=fh hdf
 obtain⟨uq,_⟩:=jA hu
 have h111:((11:Int)==1)=false:=rfl
 have h112:((11:Int)==2)=false:=rfl
 have h113:((11:Int)==3)=false:=rfl
 have h114:((11:Int)==4)=false:=rfl
 have h115:((11:Int)==5)=false:=rfl
 have h116:((11:Int)==6)=false:=rfl
 have h117:((11:Int)==7)=false:=rfl
 have h118:((11:Int)==8)=false:=rfl
 have h119:((11:Int)==9)=false:=rfl
 unfold bp
 dsimp only
 rw[iB hd,ajA]
 dsimp only
 rw[lB,hf]
 have hq:qOk q false=true:=uq rfl
 simp only[h111,h112,h113,h114,h115,h116,h117,h118,h119,ajO,ajN,aG,ajD,ajA,uw hx hs (o:=(onum,obuy,osel,oday,oext,olns)) he0 he1 (d:=(day,byy,no,11,line,art,q,unit,p,un,to)) hq,jw]
 have ha:fQ (onum,obuy,osel,oday,oext,olns) l i (day,byy,no,11,line,art,q,unit,p,un,to) x=dK oext (day,byy,no,11,line,art,q,unit,p,un,to) x:=rfl
 rw[ha]
 by_cases e:(dK oext (day,byy,no,11,line,art,q,unit,p,un,to) x).1=0
 ·rw[show ((dK (fA (onum,obuy,osel,oday,oext,olns)) (day,byy,no,11,line,art,q,unit,p,un,to) x).1==0)=true by show ((dK oext (day,byy,no,11,line,art,q,unit,p,un,to) x).1==0)=true;rw[e];rfl]
  rfl
 ·rw[show ((dK (fA (onum,obuy,osel,oday,oext,olns)) (day,byy,no,11,line,art,q,unit,p,un,to) x).1==0)=false from qx e]
  rfl
theorem JD {i:Nat} {d:aa} (hA:Sound l A) (hl:∀ d,d∈l->dP d=0) (hd:l[i]? =some d) (he0:0<=fA o) (he1:fA o<=1000): bp (o,l,mapOf A,ref,pts,wt,()) (i:Int) (A.map aq.tup)=some ((gV o l i d A).1,(o,l,mapOf (gV o l i d A).2,ref,pts,wt,()),(gV o l i d A).2.map aq.tup,()):=by
 obtain⟨_,_,_,hk,_,_,_⟩:=fh (hl d (aiF hd))
 by_cases k1:b9 d=1
 ·unfold bp
  dsimp only
  rw[iB hd,ajA,show (d.2.2.2.1==1)=true by simpa using k1,ajO]
  rw[Kr hd k1,ajA]
 ·cases hf:oG (ry d) A with
  | none=>
   rw[aaL k1 hf]
   unfold bp
   dsimp only
   rw[iB hd,ajA,show (d.2.2.2.1==1)=false by simpa using k1,ajN]
   rw[lB,show cH d.2.2.2.2.1 0 A=none from hf]
   rfl
  | some k=>
   obtain⟨x,hx,hxn⟩:=S7 hf
   rw[VI k1 hf hx]
   obtain⟨hs,hw⟩:=hA.line x (aiF hx)
   have hm:mapOf (A.set k (fQ o l i d x).2)=mapOf A:=acw A 0 (fun z hz=>by
    rw[hx] at hz;cases hz
    exact (Pd (o:=o) hs hw hl hd).2.2.1)
   rw[hm]
   obtain⟨onum,obuy,osel,oday,oext,olns⟩:=o
   obtain⟨day,byy,no,kk,line,art,q,unit,p,un,to⟩:=d
   have hk':kk=2\/kk=3\/kk=4\/kk=5\/kk=6\/kk=7\/kk=8\/kk=9\/kk=10\/kk=11:=by
    have h1:1<=kk/\kk<=11:=hk
    have h2:kk≠1:=k1
    omega
   rcases hk' with rfl | rfl | rfl | rfl | rfl | rfl | rfl | rfl | rfl | rfl
   ·exact aeN he0 he1 hl hd hf hx hs hw
   ·exact aeO he0 he1 hl hd hf hx hs hw
   ·exact aeP he0 he1 hl hd hf hx hs hw
   ·exact aeQ he0 he1 hl hd hf hx hs hw
   ·exact aeR he0 he1 hl hd hf hx hs hw
   ·exact aeS he0 he1 hl hd hf hx hs hw
   ·exact aeT he0 he1 hl hd hf hx hs hw
   ·exact aeU he0 he1 hl hd hf hx hs hw
   ·exact adA he0 he1 hl hd hf hx hs hw
   ·exact adB he0 he1 hl hd hf hx hs hw
end Go.Md
namespace Go.Md
open Go.Dn
theorem Zs {day:Int} {p:Option aT} {x:aT} (h:jr day p x=0):(1<=x.1/\x.1<=99999)/\(∀ q,p=some q->q.1<x.1)/\bF x.2.1=true/\qOk x.2.2.1 false=true/\bF x.2.2.2.1=true/\inR x.2.2.2.2.1 0 1000000000 4=true/\(day<=x.2.2.2.2.2/\x.2.2.2.2.2<=3652059):=by
 unfold jr at h
 split at h
 ·cases h
 ·rename_i h1
  split at h
  ·cases h
  ·rename_i h2
   split at h
   ·cases h
   ·rename_i h3
    split at h
    ·cases h
    ·rename_i h4
     split at h
     ·cases h
     ·rename_i h5
      split at h
      ·cases h
      ·rename_i h6
       split at h
       ·cases h
       ·rename_i h7
        refine⟨ahj.1 h1,fun q hq=> ?_,by simpa using h3,by simpa using h4,by simpa using h5,by simpa using h6,ahj.1 h7⟩
        subst hq
        have:¬x.1<=q.1:=fun e=>h2 (ajR e)
        omega
theorem pg {day:Int}:∀ {r:List aT} {p:Option aT},nL day r p=0-> (∀ x,x∈r->bF x.2.1=true/\qOk x.2.2.1 false=true/\bF x.2.2.2.1=true/\inR x.2.2.2.2.1 0 1000000000 4=true/\(1<=x.1/\x.1<=99999)/\(day<=x.2.2.2.2.2/\x.2.2.2.2.2<=3652059))/\(∀ q,p=some q->∀ x,x∈r->q.1<x.1)/\r.Pairwise (fun a b=>a.1<b.1)
 | [],p,_=>⟨nofun,fun _ _ _ h=>(nomatch h),List.Pairwise.nil⟩
 | y::r,p,h=>by
  simp only[nL] at h
  by_cases hf:jr day p y=0
  ·rw[ajY (fun e=>e hf)] at h
   obtain⟨a1,a2,a3⟩:=pg h
   obtain⟨b1,b2,b3,b4,b5,b6,b7⟩:=Zs hf
   refine⟨fun x hx=> ?_,fun q hq x hx=> ?_,List.Pairwise.cons (fun x hx=>a2 y rfl x hx) a3⟩
   ·rcases aiz.1 hx with rfl | hx
    ·exact⟨b3,b4,b5,b6,b1,b7⟩
    ·exact a1 x hx
   ·rcases aiz.1 hx with rfl | hx
    ·exact b2 q hq
    ·have:=b2 q hq
     have:=a2 y rfl x hx
     omega
  ·rw[ajZ hf] at h
   exact absurd h hf
theorem gy {o:ai} (h:gf o=0):(1<=bT o/\bT o<=3652059)/\(0<=fA o/\fA o<=1000)/\(nK o).length<=500/\nK o≠[]/\nL (bT o) (nK o) none=0/\(bF (FP o)=true/\bF (OG o)=true/\bF (RF o)=true/\OG o≠RF o):=by
 unfold gf at h
 split at h
 ·cases h
 ·rename_i h1
  split at h
  ·cases h
  ·rename_i h2
   split at h
   ·cases h
   ·rename_i h3
    split at h
    ·cases h
    ·rename_i h4
     split at h
     ·cases h
     ·rename_i h5
      split at h
      ·cases h
      ·rename_i h6
       refine⟨ahj.1 h3,ahj.1 h4,by omega,h5,h, ?_, ?_, ?_,h2⟩
       ·cases hb:bF (FP o)
        ·exact absurd (.inl hb) h1
        ·rfl
       ·cases hb:bF (OG o)
        ·exact absurd (.inr (.inl hb)) h1
        ·rfl
       ·cases hb:bF (RF o)
        ·exact absurd (.inr (.inr hb)) h1
        ·rfl
def ny (x:aT):aq:=⟨x.1,x.2.1,x.2.2.2.1,bW x.2.2.1,0,0,0,x.2.2.2.2.1,x.2.2.2.2.2, -1,0,0,0⟩
abbrev aO (o:ai):List aq:=(nK o).map ny
theorem Qy {n:Int}:∀ {A:List aq} {i:Nat},(∀ x,x∈A->x.no≠n)->cH n i A=none
 | [],_,_=>rfl
 | x::r,i,h=>by
  simp only[cH]
  rw[ajY (fun e=>h x (by simp) e.symm)]
  exact Qy (fun y hy=>h y (by simp[hy]))
theorem T3 {α:Type} {l:List α} {i:Nat} {y:α} (h:l[i]? =some y):l.take (i+1)=l.take i++[y]:=by
 rw[aiV,h];rfl
theorem LY {o:ai} (ho:gf o=0) (l:List aa):mT o l []=some ((o,l,mapOf (aO o),[],[],0,()),(aO o).map aq.tup,()):=by
 obtain⟨_,_,hlen,_,hgo,_⟩:=gy ho
 obtain⟨hln,_,hpw⟩:=pg hgo
 obtain⟨onum,obuy,osel,oday,oext,lns⟩:=o
 change lns.length<=500 at hlen
 change ∀ x,x∈lns->_ at hln
 change lns.Pairwise _ at hpw
 unfold mT
 have:=RA (f:=p8) (fun (_:Unit) (i:Nat)=>((lns,(lns.length:Int),(i:Int),onum,obuy,osel,oday,oext,lns,l,[],[],0,mapOf ((lns.take i).map ny),((lns.take i).map ny).map aq.tup,()):p9)) lns
  (fun (_:Unit) _ _ k=>k ()) (fun _=>some (Sum.inr (onum,obuy,osel,oday,oext,lns,l,[],[],0,mapOf (lns.map ny),(lns.map ny).map aq.tup,()))) (fun s i y again hy=>by
    have hi:i<lns.length:=(aia.1 hy).1
    unfold p8
    dsimp only
    rw[ajR (show (i:Int)<(lns.length:Int) by omega),ajO,iB hy,ajA,qF (hln y (aiF hy)).2.1,ajA]
    have hno:cH y.1 0 ((lns.take i).map ny)=none:=Qy fun z hz=>by
     obtain⟨q,hq,rfl⟩:=aiE.1 hz
     obtain⟨j,hj⟩:=aiD.1 hq
     have hji:j<i:=by
      have:=(aia.1 hj).1
      simp at this;omega
     rw[aij hji] at hj
     have h1:=aiN.1 hpw j i (by omega) hi hji
     have e1:lns[j]=q:=by have:=ah8 (show j<lns.length by omega);rw[hj] at this;exact (Option.some.inj this).symm
     have e2:lns[i]=y:=by have:=ah8 hi;rw[hy] at this;exact (Option.some.inj this).symm
     rw[e1,e2] at h1
     show q.1≠y.1
     omega
    have hs:=RD y.1 (ny y) rfl ((lns.take i).map ny) 0 hno
    rw[ajx] at hs
    rw[aio,ax (n:=(i:Int)+1) (by omega) (by omega)]
    have ht:(lns.take (i+1)).map ny=(lns.take i).map ny++[ny y]:=by rw[T3 hy,ait];rfl
    rw[ht]
    refine congrArg again ?_
    refine Prod.ext rfl (Prod.ext rfl (Prod.ext rfl (Prod.ext rfl (Prod.ext rfl (Prod.ext rfl (Prod.ext rfl (Prod.ext rfl (Prod.ext rfl (Prod.ext rfl (Prod.ext rfl (Prod.ext rfl (Prod.ext rfl (Prod.ext hs (Prod.ext ?_ rfl))))))))))))))
    show List.map aq.tup _++[_]=List.map aq.tup (_++[ny y])
    rw[ait];rfl) (fun s again=>by
    unfold p8
    dsimp only
    rw[ajQ (show ¬((lns.length:Int)<(lns.length:Int)) by omega),ajN,aiY]) ()
 have hfor:∀ (r:List aT) (i:Nat) (β:Type) (f:Option β),Ju (fun (_:Unit) _ _ k=>k ()) (fun _=>f) r i ()=f:=by
  intro r
  induction r with
  | nil=>intro i β f;rfl
  | cons y r ih=>intro i β f;exact ih (i+1) β f
 refine (congrArg (fun z=>aG z _) ((this _ ?_).trans (hfor _ _ _ _))).trans rfl
 simp only[aip]
 omega
def eP (n:Int):ah:=((few 3 n).1,((few 3 n).2:Int))
theorem xm {n:Int} (h0:0<=n) (h1:n<=1000000000000000):s6 n=some (eP n,()):=by
 unfold s6
 rw[l9 n (by omega) (by omega),ajA]
 have hb:n.natAbs<4294967296 ^ 99:=ajh (show n.natAbs<4294967296 ^ 2 by omega) (ajv (by omega) (by omega))
 have:=vX n hb 3 (by omega)
 rw[show ((3:Nat):Int)=3 from rfl] at this
 dsimp only
 rw[this,ajA,ajZ (by have:=(mR 3 n).2.2;omega)]
 rfl
def E9 (d:ah):ah:=((few d.2.toNat d.1).1,((few d.2.toNat d.1).2:Int))
theorem Sa {d:ah} (h0:0<=d.1) (h1:d.1<=1000000000000000) (h2:0<=d.2) (h3:d.2<=9):CO d=some (E9 d,()):=by
 unfold CO
 have loop:∀ (n:Nat) (z:Int) (p:Nat),0<=z->z<=1000000000000000->p<=9->p<n->iter (X:=yh) (β:=yg) n (z,(p:Int),0,0,()) yf=some (Sum.inr ((few p z).1,((few p z).2:Int),0,0,())):=by
  intro n
  induction n with
  | zero=>intro z p _ _ _ h;omega
  | succ n ih=>
   intro z p hz hz1 hp hn
   rw[bR]
   generalize hag:(fun y=>iter n y yf)=again
   unfold yf
   dsimp only
   cases p with
   | zero=>rfl
   | succ p=>
    rw[ajR (show ((p+1:Nat):Int)>0 by omega),ajO,ajA]
    dsimp only
    rw[ahB hz]
    by_cases hm:z % 10=0
    ·rw[show (z % 10==0)=true by simp[hm],ajO,ahA hz,ax (n:=z / 10) (by omega) (by omega),ax (n:=((p+1:Nat):Int) - 1) (by omega) (by omega),
      show ((p+1:Nat):Int) - 1=(p:Int) by omega, <- hag]
     refine (ih (z / 10) p (by omega) (by omega) (by omega) (by omega)).trans ?_
     rw[show few (p+1) z=few p (z / 10) by rw[few,ajZ hm]]
    ·rw[show (z % 10==0)=false by simp[hm],ajN,show few (p+1) z=(z,p+1) by rw[few,ajY hm]]
 obtain⟨k,hk⟩:∃ k:Nat,d.2=k:=⟨d.2.toNat,by omega⟩
 rw[hk]
 have:=loop (d.1.natAbs+(Int.natAbs (k:Int)+(Int.natAbs (0:Int)+(Int.natAbs (0:Int)+2)))) d.1 k h0 h1 (by omega) (by omega)
 rw[this]
 unfold E9
 rw[hk]
 rfl
def dB (x:aq):aj:=(x.no,x.art,x.unit,eP x.ord,E9 x.price,x.due,eP x.shp,eP x.rcv,eP x.ret,eP x.opn)
def I2 (x:aq):Prop:=0<=x.price.1/\x.price.1<=1000000000000000/\0<=x.price.2/\x.price.2<=9
theorem afX {x:aq} (h:LOk x):0<=x.opn/\x.opn<=1000000000000:=by
 have:=h.ret0;have:=h.retr;have:=h.rcvs;have:=h.ord1
 unfold aq.opn
 split<;>omega
theorem DR {A:List aq} {k:Nat} {x:aq} (h:A[k]? =some x) (hx:LOk x) (hp:I2 x):nN (some k) (A.map aq.tup)=some (dB x,()):=by
 obtain⟨p1,p2,p3,p4⟩:=hp
 obtain⟨q1,q2⟩:=afX hx
 have:=hx.ret0;have:=hx.retr;have:=hx.rcvs;have:=hx.shp1;have:=hx.C8;have:=hx.ord1
 unfold nN
 simp only[ajA,vF h,zk h hx]
 rw[xm (n:=x.ord) (by omega) (by omega),xm (n:=x.shp) (by omega) (by omega),xm (n:=x.rcv) (by omega) (by omega),xm (n:=x.ret) (by omega) (by omega),xm (n:=x.opn) (by omega) (by omega),Sa p1 p2 p3 p4]
 rfl
end Go.Md
namespace Go.Md
open Go.Dn
theorem Oj {d:ah} (h:inR d 0 1000000000 4=true):0<=d.1/\d.1<=1000000000000000/\0<=d.2/\d.2<=9:=by
 unfold inR at h
 obtain⟨⟨h1,h2,h3⟩,h4,h5,h6⟩:=aj5 h
 refine⟨by omega,by omega,h2,h3⟩
theorem aaF {l:List aa} {d:aa} {x:aq} (hw:WOk l x) (hl:∀ d,d∈l->dP d=0) (hp:I2 x):I2 (dL l d x).2:=by
 unfold dL
 by_cases h1:x.wish<0
 ·rw[ajZ h1];exact hp
 rw[ajY h1]
 obtain⟨w,hw1,hw2⟩:=hw.kind (by omega)
 rw[JJ hw1]
 obtain⟨_,_,_,hk,_,_,hu⟩:=fh (hl w (aiF hw1))
 obtain⟨_,up,_⟩:=jA hu
 by_cases h2:dNo w≠dTo d
 ·rw[ajZ h2];exact hp
 rw[ajY h2]
 by_cases h3:b9 d=5
 ·rw[ajZ h3]
  by_cases k2:b9 w=2
  ·rw[ajZ k2]
   split<;>exact hp
  ·rw[ajY k2]
   by_cases k1:b9 w=1
   ·rw[ajZ k1];exact hp
   ·rw[ajY k1]
    by_cases k3:b9 w=3
    ·rw[ajZ k3];exact hp
    ·rw[ajY k3]
     have hk':1<=b9 w/\b9 w<=11:=hk
     exact Oj (up (by unfold usP;exact ajR (.inr (by omega))))
 ·rw[ajY h3];exact hp
theorem adY {ext:Int} {d:aa} {x:aq} (hp:I2 x):I2 (dK ext d x).2:=by
 unfold dK
 split
 ·split
  ·exact hp
  ·split<;>exact hp
 ·split
  ·split<;>exact hp
  ·split<;>exact hp
theorem aeE {o:ai} {l:List aa} {i:Nat} {d:aa} {x:aq} (hw:WOk l x) (hl:∀ d,d∈l->dP d=0) (hp:I2 x):I2 (fQ o l i d x).2:=by
 have ha:=aaF (d:=d) hw hl hp
 have hm:=adY (ext:=fA o) (d:=d) hp
 unfold fQ
 split
 ·unfold PL
  split
  ·exact hp
  ·split<;>exact hp
 ·split
  ·split<;>exact ha
  ·split
   ·split<;>exact hp
   ·split
    ·unfold PI
     split
     ·exact hp
     ·split<;>exact hp
    ·split
     ·split<;>exact hm
     ·exact hm
structure Good (l:List aa) (A:List aq):Prop where
 sound:Sound l A
 pr:∀ x,x∈A->I2 x
theorem SK {o:ai} {l:List aa} {i:Nat} {d:aa} {A:List aq} (hA:Good l A) (hl:∀ d,d∈l->dP d=0) (hd:l[i]? =some d):Good l (gV o l i d A).2:=by
 refine⟨(adz hA.sound hl hd).1,fun x hx=> ?_⟩
 unfold gV at hx
 by_cases k1:b9 d=1
 ·rw[ajZ k1] at hx
  split at hx
  ·exact hA.pr x hx
  ·split at hx
   ·exact hA.pr x hx
   ·split at hx
    ·exact hA.pr x hx
    ·rcases aiy.1 hx with hx | hx
     ·exact hA.pr x hx
     ·simp only[aiJ] at hx
      subst hx
      obtain⟨_,_,_,_,_,_,hu⟩:=fh (hl d (aiF hd))
      exact Oj ((jA hu).2.1 (by rw[k1];rfl))
 ·rw[ajY k1] at hx
  split at hx
  ·exact hA.pr x hx
  ·split at hx
   ·rename_i y hy
    rcases aiH hx with hx | hx
    ·exact hA.pr x hx
    ·subst hx
     have hm:=aiF hy
     exact aeE (hA.sound.line y hm).2 hl (hA.pr y hm)
   ·exact hA.pr x hx
def aa2 (n:Int) (A:List aq):Option aq:=(oG n A).bind fun k=>A[k]?
theorem aa3 {n:Int} {A:List aq} {k:Nat} {x:aq} (h:oG n A=some k) (hx:A[k]? =some x):aa2 n A=some x:=by unfold aa2;rw[h];exact hx
theorem Zc {o:ai} {l:List aa} {i:Nat} {d:aa} {A:List aq} (hA:Sound l A) (hl:∀ d,d∈l->dP d=0) (hd:l[i]? =some d) (h0:(gV o l i d A).1=0): ∃ k x,oG (ry d) (gV o l i d A).2=some k/\(gV o l i d A).2[k]? =some x:=by
 unfold gV at h0 ⊢
 by_cases k1:b9 d=1
 ·rw[ajZ k1] at h0 ⊢
  split at h0
  ·cases h0
  ·rename_i hf
   split at h0
   ·cases h0
   ·rename_i h5
    split at h0
    ·cases h0
    ·rename_i h6
     rw[ajY h5,ajY h6]
     refine⟨A.length,GH i d, ?_,by simp⟩
     show cH (ry d) 0 (A++[GH i d])=_
     rw[S5,show cH (ry d) 0 A=none from hf,ajZ (show ry d=(GH i d).no from rfl)]
     simp
 ·rw[ajY k1] at h0 ⊢
  split at h0
  ·cases h0
  ·rename_i k hk
   obtain⟨x,hx,hxn⟩:=S7 hk
   rw[hx]
   dsimp only
   obtain⟨h1,h2⟩:=hA.line x (aiF hx)
   refine⟨k,_, ?_,Pq hx _⟩
   show cH (ry d) 0 (A.set k _)=_
   rw[aaN A 0 (fun z hz=>by rw[hx] at hz;cases hz;exact (Pd (o:=o) h1 h2 hl hd).2.2.1)]
   exact hk
def RP (wt:Int) (i:Nat) (d:aa) (A:List aq) (pts:List bn):List bn:=
 if ry d=wt then (match aa2 (ry d) A with | some x=>pts++[((i:Int),dB x)] | none=>pts) else pts
def qq (o:ai) (l:List aa) (wt day:Int):List aa->Nat->List aq->List (Int×Int)->List bn->List aq×List (Int×Int)×List bn
 | [],_,A,ref,pts=>(A,ref,pts)
 | d::r,i,A,ref,pts=>
  if day<d.1 then (A,ref,pts)
  else if (gV o l i d A).1≠0 then qq o l wt day r (i+1) (gV o l i d A).2 (ref++[((i:Int),(gV o l i d A).1)]) pts
  else qq o l wt day r (i+1) (gV o l i d A).2 ref (RP wt i d (gV o l i d A).2 pts)
theorem yT {β:Type} {b:Bool} (h:b=true) (x:Option β):chk b x=x:=by rw[h];rfl
theorem aec {onum obuy osel:Bys} {oday oext:Int} {olns:List aT} {l:List aa} {wt day:Int} (he0:0<=oext) (he1:oext<=1000) (hl:∀ d,d∈l->dP d=0) (hlen:l.length<=2000): ∀ (r:List aa) (i n:Nat) (A:List aq) (ref:List (Int×Int)) (pts:List bn),l.drop i=r->i<=l.length->Good l A->ref.length<=i->pts.length<=i->r.length<n-> iter (X:=oM) (β:=oL) n (day,l,(l.length:Int),(i:Int),onum,obuy,osel,oday,oext,olns,l,mapOf A,ref,pts,wt,A.map aq.tup,()) lM= some (Sum.inr (onum,obuy,osel,oday,oext,olns,l,mapOf (qq (onum,obuy,osel,oday,oext,olns) l wt day r i A ref pts).1,(qq (onum,obuy,osel,oday,oext,olns) l wt day r i A ref pts).2.1,(qq (onum,obuy,osel,oday,oext,olns) l wt day r i A ref pts).2.2,wt,(qq (onum,obuy,osel,oday,oext,olns) l wt day r i A ref pts).1.map aq.tup,())):=by
 intro r
 induction r with
 | nil=>
  intro i n A ref pts hd hi hA hr hp hn
  have:i=l.length:=by
   have:=congrArg List.length hd
   simp at this;omega
  subst this
  obtain⟨n,rfl⟩:∃ m,n=m+1:=⟨n - 1,by omega⟩
  rw[bR]
  unfold lM
  dsimp only
  rw[ajQ (show ¬((l.length:Int)<(l.length:Int)) by omega),ajN]
  rfl
 | cons d r ih=>
  intro i n A ref pts hdr hi hA hr hp hn
  have hd:l[i]? =some d:=by
   have:=congrArg (·[0]?) hdr
   simpa [ah7] using this
  have hr':l.drop (i+1)=r:=by
   have:=congrArg List.tail hdr
   simpa [aiU] using this
  have hlt:i<l.length:=(aia.1 hd).1
  obtain⟨n,rfl⟩:∃ m,n=m+1:=⟨n - 1,by simp at hn;omega⟩
  rw[bR]
  generalize hag:(fun y=>iter n y lM)=again
  unfold lM
  dsimp only
  rw[ajR (show (i:Int)<(l.length:Int) by omega),ajO,iB hd,ajA]
  have hdeed:=JD (o:=(onum,obuy,osel,oday,oext,olns)) (ref:=ref) (pts:=pts) (wt:=wt) hA.sound hl hd he0 he1
  have hgood:=SK (o:=(onum,obuy,osel,oday,oext,olns)) hA hl hd
  by_cases hday:day<d.1
  ·rw[ajR (show d.1>day from hday),ajO]
   simp only[qq,ajZ hday]
  ·rw[ajQ (show ¬d.1>day from hday),ajN]
   rw[hdeed,ajA]
   dsimp only
   rw[ax (n:=(i:Int)+1) (by omega) (by omega)]
   simp only[qq,ajY hday]
   have BN:maxLen=9223372036854775807:=rfl
   have hi1:(i:Int)+1=((i+1:Nat):Int):=by omega
   by_cases he:(gV (onum,obuy,osel,oday,oext,olns) l i d A).1=0
   ·rw[ajY (fun h=>h he),he]
    rw[zne,ajN]
    by_cases hw:ry d=wt
    ·obtain⟨k,x,hk,hx⟩:=Zc hA.sound hl hd he
     have hxm:=aiF hx
     rw[show (d.2.2.2.2.1==wt)=true by simpa using hw,ajO,lB,show cH d.2.2.2.2.1 0 _=some k from hk,
      DR hx (hgood.sound.line x hxm).1 (hgood.pr x hxm),ajA]
     rw[yT (by rw[ag1];exact⟨ajR (by omega),ajR (by omega)⟩)]
     have hpt:RP wt i d (gV (onum,obuy,osel,oday,oext,olns) l i d A).2 pts=pts++[((i:Int),dB x)]:=by
      unfold RP
      rw[ajZ hw,aa3 hk hx]
     rw[hpt,hi1, <- hag]
     exact ih (i+1) n _ ref _ hr' (by omega) hgood (by omega) (by simp;omega) (by simp at hn;omega)
    ·rw[show (d.2.2.2.2.1==wt)=false by simpa using hw,ajN]
     have hpt:RP wt i d (gV (onum,obuy,osel,oday,oext,olns) l i d A).2 pts=pts:=by
      unfold RP
      rw[ajY hw]
     rw[hpt,hi1, <- hag]
     exact ih (i+1) n _ ref pts hr' (by omega) hgood (by omega) (by omega) (by simp at hn;omega)
   ·rw[ajZ he,dX he,ajO]
    rw[yT (by rw[ag1];exact⟨ajR (by omega),ajR (by omega)⟩)]
    rw[hi1, <- hag]
    exact ih (i+1) n _ _ pts hr' (by omega) hgood (by simp;omega) (by omega) (by simp at hn;omega)
theorem Ks {o:ai} {l:List aa} {wt day:Int} {A:List aq} (he:0<=fA o/\fA o<=1000) (hl:∀ d,d∈l->dP d=0) (hlen:l.length<=2000) (hA:Good l A): lK (o,l,mapOf A,[],[],wt,()) day (A.map aq.tup)=some ((o,l,mapOf (qq o l wt day l 0 A [] []).1,(qq o l wt day l 0 A [] []).2.1,(qq o l wt day l 0 A [] []).2.2,wt,()),(qq o l wt day l 0 A [] []).1.map aq.tup,()):=by
 obtain⟨onum,obuy,osel,oday,oext,olns⟩:=o
 unfold lK
 refine (congrArg (fun z=>aG z _) (aec (onum:=onum) (obuy:=obuy) (osel:=osel) (oday:=oday) (olns:=olns) (wt:=wt) (day:=day) he.1 he.2 hl hlen l 0 _ A [] [] rfl (ajy _) hA (ajy _) (ajy _) ?_)).trans rfl
 dsimp only
 omega
theorem Tp {o:ai} (ho:gf o=0) (l:List aa):Good l (aO o):=by
 obtain⟨_,_,_,_,hgo,_⟩:=gy ho
 obtain⟨hln,_,_⟩:=pg hgo
 refine⟨⟨fun x hx=> ?_⟩,fun x hx=> ?_⟩
 ·obtain⟨q,hq,rfl⟩:=aiE.1 hx
  obtain⟨_,h2,_⟩:=hln q hq
  obtain⟨u0,u1,_⟩:=vR h2
  exact⟨⟨by show (0:Int)<=0;omega,by show (0:Int)<=0;omega,by show (0:Int)<=0;omega,by show (0:Int)<=_;omega,u0,u1,fun e=>absurd rfl e⟩,⟨by show (-1:Int)<= -1;omega,fun h=>by have:(0:Int)<= -1:=h;omega⟩⟩
 ·obtain⟨q,hq,rfl⟩:=aiE.1 hx
  obtain⟨_,_,_,h4,_⟩:=hln q hq
  exact Oj h4
def sd (o:ai) (l:List aa) (wt day:Int):List aq×List (Int×Int)×List bn:=qq o l wt day l 0 (aO o) [] []
def dM (o:ai) (l:List aa):Int:=if gf o≠0 then gf o else xb l
theorem NB {o:ai} {l:List aa} (h:dM o l=0):gf o=0/\xb l=0:=by
 unfold dM at h
 split at h
 ·rename_i h1;exact absurd h h1
 ·rename_i h1;exact⟨ahj.1 h1,h⟩
theorem start_eq {o:ai} {l:List aa} (h:dM o l=0) (wt day:Int):∃ q,mT o l []=some ((o,l,mapOf (aO o),[],[],0,()),(aO o).map aq.tup,())/\ lK (o,l,mapOf (aO o),[],[],wt,()) day ((aO o).map aq.tup)=some ((o,l,mapOf (sd o l wt day).1,(sd o l wt day).2.1,(sd o l wt day).2.2,wt,()),(sd o l wt day).1.map aq.tup,())/\q=():=by
 obtain⟨h1,h2⟩:=NB h
 obtain⟨h3,h4⟩:=Qs h2
 exact⟨(),LY h1 l,Ks (gy h1).2.1 h4 h3 (Tp h1 l),rfl⟩
theorem FQ (o:ai) (l:List aa) (day:Int):Ak o l day []=(if dM o l≠0 then some (none,dM o l,[],()) else if ¬(1<=day/\day<=3652059) then some (none,1,[],()) else none):=by
 unfold Ak
 rw[HG,ajA,qO]
 dsimp only
 by_cases h:dM o l=0
 ·rw[ajY (show ¬dM o l≠0 from fun e=>e h),show (if gf o≠0 then gf o else xb l)=0 from h,zne,ajN,ajA]
  by_cases hd:1<=day/\day<=3652059
  ·rw[ajY (show ¬¬(1<=day/\day<=3652059) from fun e=>e hd),ajR hd]
   obtain⟨_,e1,e2,_⟩:=start_eq h 0 day
   dsimp only
   rw[ahd,ajN,e1,ajA]
   dsimp only
   rw[e2];rfl
  ·rw[ajZ hd,ajQ hd];rfl
 ·rw[ajZ (show dM o l≠0 from h),show ((if gf o≠0 then gf o else xb l) != 0)=true from dX h,ajO]
  rfl
theorem JC {o:ai} {l:List aa} {day:Int} (h:dM o l=0) (hd:1<=day/\day<=3652059):Eg o l day []=some ((o,l,mapOf (sd o l 0 day).1,(sd o l 0 day).2.1,(sd o l 0 day).2.2,0,()),0,(sd o l 0 day).1.map aq.tup,()):=by
 unfold Eg
 rw[HG,ajA,qO]
 dsimp only
 rw[show (if gf o≠0 then gf o else xb l)=0 from h,zne,ajN,ajA,ajR hd]
 obtain⟨_,e1,e2,_⟩:=start_eq h 0 day
 dsimp only
 rw[ahd,ajN,e1,ajA]
 dsimp only
 rw[e2];rfl
end Go.Md
namespace Go.Md
open Go.Dn
theorem Gv {α β:Type} {f:α->Option β} {g:Option β}:Gu (none:Option α) f g=g:=rfl
end Go.Md
namespace Go.Md
open Go.Dn
theorem OJ {o:ai} {l:List aa} (h:dM o l=0):oH o l=some ((sd o l 0 3652059).2.1,0,()):=by
 unfold oH
 rw[FQ,ajY (show ¬dM o l≠0 from fun e=>e h),ajY (show ¬¬((1:Int)<=3652059/\(3652059:Int)<=3652059) from fun e=>e (by omega))]
 refine Eq.trans Gv ?_
 rw[JC h (by omega),ajA]
 rfl
end Go.Md
