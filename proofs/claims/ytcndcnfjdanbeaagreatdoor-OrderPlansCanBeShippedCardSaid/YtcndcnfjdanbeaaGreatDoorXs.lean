/-
  Plain facts: deeds and orders checked; what a deed does with a line. No condition.
-/
import Derived.Test.YtcndcnfjdanbeaaGreatDoorXo
import Derived.Test.YtcndcnfjdanbeaaGreatDoorXr
set_option linter.all false
namespace Go.Md
open Go.Dn
theorem gF (k:Int):oy k=some (decide (k=5∨k=6∨k=7∨k=9),()):=by
 unfold oy
 by_cases h5:k=5
 ·subst h5;rfl
 by_cases h6:k=6
 ·subst h6;rfl
 by_cases h7:k=7
 ·subst h7;rfl
 by_cases h9:k=9
 ·subst h9;rfl
 have e5:(k==5)=false:=by simp[h5]
 have e6:(k==6)=false:=by simp[h6]
 have e7:(k==7)=false:=by simp[h7]
 have e9:(k==9)=false:=by simp[h9]
 simp only[e5,e6,e7,e9,Yy]
 simp[h5,h6,h7,h9]
def usA (k:Int):Bool:=decide (k=1)
def usQ (k:Int):Bool:=decide (k≠3∧k≠4∧k≠5∧k≠6∧k≠8)
def usP (k:Int):Bool:=decide (k=1∨k=4)
def usU (k:Int):Bool:=decide (k=1∨k=3∨k=7)
def usT (k:Int):Bool:=decide (k=5∨k=6∨k=8)
theorem KM (k:Int):tc k=some ((usA k,usQ k,usA k,usP k,usU k,usT k),()):=by
 unfold tc
 by_cases h1:k=1
 ·subst h1;rfl
 by_cases h3:k=3
 ·subst h3;rfl
 by_cases h4:k=4
 ·subst h4;rfl
 by_cases h5:k=5
 ·subst h5;rfl
 by_cases h6:k=6
 ·subst h6;rfl
 by_cases h7:k=7
 ·subst h7;rfl
 by_cases h8:k=8
 ·subst h8;rfl
 have e1:(k==1)=false:=by simp[h1]
 have e3:(k==3)=false:=by simp[h3]
 have e4:(k==4)=false:=by simp[h4]
 have e5:(k==5)=false:=by simp[h5]
 have e6:(k==6)=false:=by simp[h6]
 have e8:(k==8)=false:=by simp[h8]
 have e7:(k==7)=false:=by simp[h7]
 simp only[e1,e3,e4,e5,e6,e7,e8,Yy]
 simp[h1,h3,h4,h5,h6,h7,h8,usA,usQ,usP,usU,usT]
def yA (n:Int):Bool:=decide (1≤n∧n≤3652059)
def CG (n:Int):Bool:=decide (1≤n∧n≤2000)
def HK (ua uq up uu ut k2:Bool) (art:Bys) (q:ah) (unit:Bys) (p:ah) (un to:Int):Int:=
 bif uq&& !qOk q k2 then 1
 else bif up&& !inR p 0 1000000000 4 then 1
 else bif uu&& !yA un then 1
 else bif ua&&(!ef art|| !ef unit) then 5
 else bif ut&& !CG to then 1
 else bif (!ua&& !(art==[]))||((!uq&& !(q.1==0&&q.2==0))||((!ua&& !(unit==[]))||((!up&& !(p.1==0&&p.2==0))||((!uu&&un != 0)||(!ut&&to != 0))))) then 3
 else 0
def Cm (d:aa):Int:=
 HK (usA d.2.2.2.1) (usQ d.2.2.2.1) (usP d.2.2.2.1) (usU d.2.2.2.1) (usT d.2.2.2.1) (d.2.2.2.1==2) d.2.2.2.2.2.1 d.2.2.2.2.2.2.1 d.2.2.2.2.2.2.2.1 d.2.2.2.2.2.2.2.2.1 d.2.2.2.2.2.2.2.2.2.1 d.2.2.2.2.2.2.2.2.2.2
theorem Nh (n:Int):ov n=some (yA n,()):=sY n
theorem TE (n:Int):eN n 1 2000=some (!CG n,()):=by
 rw[jW]
 congr 2
 unfold CG
 by_cases h1:1≤n<;>by_cases h2:n≤2000<;>simp[h1,h2]<;>omega
theorem Hv (d:aa):sj d=some (Cm d,()):=by
 obtain⟨day,byy,no,k,line,art,⟨q1,q2⟩,unit,⟨p1,p2⟩,un,to⟩:=d
 unfold sj Cm
 dsimp only
 rw[KM,Yo]
 dsimp only
 rw[oN]
 simp only[xS,Nh,qX,TE,Yo]
 generalize usA k=ua
 generalize usQ k=uq
 generalize usP k=up
 generalize usU k=uu
 generalize usT k=ut
 generalize (k==2)=k2
 unfold HK
 generalize qOk (q1,q2) k2=b1
 have step1:∀ (A:Option ((Int×Unit) ⊕ (Int×Int×Int×Int×Int×Bys×Int×Int×Bys×Int×Int×Int×Int×Bool×Bool×Bool×Bool×Bool×Bool×Unit))) (v:Int×Int×Int×Int×Int×Bys×Int×Int×Bys×Int×Int×Int×Int×Bool×Bool×Bool×Bool×Bool×Bool×Unit) (K:(Int×Int×Int×Int×Int×Bys×Int×Int×Bys×Int×Int×Int×Int×Bool×Bool×Bool×Bool×Bool×Bool×Unit)→Option (Int×Unit)),
  A=some (.inr v)→aL A K=K v:=fun A v K h=>by rw[h];rfl
 cases uq
 ·refine Eq.trans (step1 _ _ _ (by exact rfl)) ?_
  cases up
  ·refine Eq.trans (step1 _ _ _ (by exact rfl)) ?_
   dsimp only
   generalize yA un=b3
   generalize ef art=b4
   generalize ef unit=b5
   generalize CG to=b6
   generalize (art==[])=c1
   generalize (q1==0)=c2
   generalize (q2==0)=c3
   generalize (unit==[])=c4
   generalize (p1==0)=c5
   generalize (p2==0)=c6
   generalize (un != 0)=c7
   generalize (to != 0)=c8
   cases uu
   ·cases ua
    ·cases ut
     ·cases c1<;>first | rfl | (cases c4<;>first | rfl | (cases c7<;>first | rfl | (cases c8<;>first | rfl | (cases c2<;>first | rfl | (cases c3<;>first | rfl | (cases c5<;>first | rfl | (cases c6<;>rfl)))))))
     ·cases b6
      ·rfl
      ·cases c1<;>first | rfl | (cases c4<;>first | rfl | (cases c7<;>first | rfl | (cases c8<;>first | rfl | (cases c2<;>first | rfl | (cases c3<;>first | rfl | (cases c5<;>first | rfl | (cases c6<;>rfl)))))))
    ·cases b4
     ·rfl
     ·cases b5
      ·rfl
      ·cases ut
       ·cases c1<;>first | rfl | (cases c4<;>first | rfl | (cases c7<;>first | rfl | (cases c8<;>first | rfl | (cases c2<;>first | rfl | (cases c3<;>first | rfl | (cases c5<;>first | rfl | (cases c6<;>rfl)))))))
       ·cases b6
        ·rfl
        ·cases c1<;>first | rfl | (cases c4<;>first | rfl | (cases c7<;>first | rfl | (cases c8<;>first | rfl | (cases c2<;>first | rfl | (cases c3<;>first | rfl | (cases c5<;>first | rfl | (cases c6<;>rfl)))))))
   ·cases b3
    ·rfl
    ·cases ua
     ·cases ut
      ·cases c1<;>first | rfl | (cases c4<;>first | rfl | (cases c7<;>first | rfl | (cases c8<;>first | rfl | (cases c2<;>first | rfl | (cases c3<;>first | rfl | (cases c5<;>first | rfl | (cases c6<;>rfl)))))))
      ·cases b6
       ·rfl
       ·cases c1<;>first | rfl | (cases c4<;>first | rfl | (cases c7<;>first | rfl | (cases c8<;>first | rfl | (cases c2<;>first | rfl | (cases c3<;>first | rfl | (cases c5<;>first | rfl | (cases c6<;>rfl)))))))
     ·cases b4
      ·rfl
      ·cases b5
       ·rfl
       ·cases ut
        ·cases c1<;>first | rfl | (cases c4<;>first | rfl | (cases c7<;>first | rfl | (cases c8<;>first | rfl | (cases c2<;>first | rfl | (cases c3<;>first | rfl | (cases c5<;>first | rfl | (cases c6<;>rfl)))))))
        ·cases b6
         ·rfl
         ·cases c1<;>first | rfl | (cases c4<;>first | rfl | (cases c7<;>first | rfl | (cases c8<;>first | rfl | (cases c2<;>first | rfl | (cases c3<;>first | rfl | (cases c5<;>first | rfl | (cases c6<;>rfl)))))))
  ·dsimp only
   generalize inR (p1,p2) 0 1000000000 4=b2
   cases b2
   ·rfl
   ·refine Eq.trans (step1 _ _ _ (by exact rfl)) ?_
    dsimp only
    generalize yA un=b3
    generalize ef art=b4
    generalize ef unit=b5
    generalize CG to=b6
    generalize (art==[])=c1
    generalize (q1==0)=c2
    generalize (q2==0)=c3
    generalize (unit==[])=c4
    generalize (p1==0)=c5
    generalize (p2==0)=c6
    generalize (un != 0)=c7
    generalize (to != 0)=c8
    cases uu
    ·cases ua
     ·cases ut
      ·cases c1<;>first | rfl | (cases c4<;>first | rfl | (cases c7<;>first | rfl | (cases c8<;>first | rfl | (cases c2<;>first | rfl | (cases c3<;>first | rfl | (cases c5<;>first | rfl | (cases c6<;>rfl)))))))
      ·cases b6
       ·rfl
       ·cases c1<;>first | rfl | (cases c4<;>first | rfl | (cases c7<;>first | rfl | (cases c8<;>first | rfl | (cases c2<;>first | rfl | (cases c3<;>first | rfl | (cases c5<;>first | rfl | (cases c6<;>rfl)))))))
     ·cases b4
      ·rfl
      ·cases b5
       ·rfl
       ·cases ut
        ·cases c1<;>first | rfl | (cases c4<;>first | rfl | (cases c7<;>first | rfl | (cases c8<;>first | rfl | (cases c2<;>first | rfl | (cases c3<;>first | rfl | (cases c5<;>first | rfl | (cases c6<;>rfl)))))))
        ·cases b6
         ·rfl
         ·cases c1<;>first | rfl | (cases c4<;>first | rfl | (cases c7<;>first | rfl | (cases c8<;>first | rfl | (cases c2<;>first | rfl | (cases c3<;>first | rfl | (cases c5<;>first | rfl | (cases c6<;>rfl)))))))
    ·cases b3
     ·rfl
     ·cases ua
      ·cases ut
       ·cases c1<;>first | rfl | (cases c4<;>first | rfl | (cases c7<;>first | rfl | (cases c8<;>first | rfl | (cases c2<;>first | rfl | (cases c3<;>first | rfl | (cases c5<;>first | rfl | (cases c6<;>rfl)))))))
       ·cases b6
        ·rfl
        ·cases c1<;>first | rfl | (cases c4<;>first | rfl | (cases c7<;>first | rfl | (cases c8<;>first | rfl | (cases c2<;>first | rfl | (cases c3<;>first | rfl | (cases c5<;>first | rfl | (cases c6<;>rfl)))))))
      ·cases b4
       ·rfl
       ·cases b5
        ·rfl
        ·cases ut
         ·cases c1<;>first | rfl | (cases c4<;>first | rfl | (cases c7<;>first | rfl | (cases c8<;>first | rfl | (cases c2<;>first | rfl | (cases c3<;>first | rfl | (cases c5<;>first | rfl | (cases c6<;>rfl)))))))
         ·cases b6
          ·rfl
          ·cases c1<;>first | rfl | (cases c4<;>first | rfl | (cases c7<;>first | rfl | (cases c8<;>first | rfl | (cases c2<;>first | rfl | (cases c3<;>first | rfl | (cases c5<;>first | rfl | (cases c6<;>rfl)))))))
 ·cases b1
  ·rfl
  ·refine Eq.trans (step1 _ _ _ (by exact rfl)) ?_
   cases up
   ·refine Eq.trans (step1 _ _ _ (by exact rfl)) ?_
    dsimp only
    generalize yA un=b3
    generalize ef art=b4
    generalize ef unit=b5
    generalize CG to=b6
    generalize (art==[])=c1
    generalize (q1==0)=c2
    generalize (q2==0)=c3
    generalize (unit==[])=c4
    generalize (p1==0)=c5
    generalize (p2==0)=c6
    generalize (un != 0)=c7
    generalize (to != 0)=c8
    cases uu
    ·cases ua
     ·cases ut
      ·cases c1<;>first | rfl | (cases c4<;>first | rfl | (cases c7<;>first | rfl | (cases c8<;>first | rfl | (cases c2<;>first | rfl | (cases c3<;>first | rfl | (cases c5<;>first | rfl | (cases c6<;>rfl)))))))
      ·cases b6
       ·rfl
       ·cases c1<;>first | rfl | (cases c4<;>first | rfl | (cases c7<;>first | rfl | (cases c8<;>first | rfl | (cases c2<;>first | rfl | (cases c3<;>first | rfl | (cases c5<;>first | rfl | (cases c6<;>rfl)))))))
     ·cases b4
      ·rfl
      ·cases b5
       ·rfl
       ·cases ut
        ·cases c1<;>first | rfl | (cases c4<;>first | rfl | (cases c7<;>first | rfl | (cases c8<;>first | rfl | (cases c2<;>first | rfl | (cases c3<;>first | rfl | (cases c5<;>first | rfl | (cases c6<;>rfl)))))))
        ·cases b6
         ·rfl
         ·cases c1<;>first | rfl | (cases c4<;>first | rfl | (cases c7<;>first | rfl | (cases c8<;>first | rfl | (cases c2<;>first | rfl | (cases c3<;>first | rfl | (cases c5<;>first | rfl | (cases c6<;>rfl)))))))
    ·cases b3
     ·rfl
     ·cases ua
      ·cases ut
       ·cases c1<;>first | rfl | (cases c4<;>first | rfl | (cases c7<;>first | rfl | (cases c8<;>first | rfl | (cases c2<;>first | rfl | (cases c3<;>first | rfl | (cases c5<;>first | rfl | (cases c6<;>rfl)))))))
       ·cases b6
        ·rfl
        ·cases c1<;>first | rfl | (cases c4<;>first | rfl | (cases c7<;>first | rfl | (cases c8<;>first | rfl | (cases c2<;>first | rfl | (cases c3<;>first | rfl | (cases c5<;>first | rfl | (cases c6<;>rfl)))))))
      ·cases b4
       ·rfl
       ·cases b5
        ·rfl
        ·cases ut
         ·cases c1<;>first | rfl | (cases c4<;>first | rfl | (cases c7<;>first | rfl | (cases c8<;>first | rfl | (cases c2<;>first | rfl | (cases c3<;>first | rfl | (cases c5<;>first | rfl | (cases c6<;>rfl)))))))
         ·cases b6
          ·rfl
          ·cases c1<;>first | rfl | (cases c4<;>first | rfl | (cases c7<;>first | rfl | (cases c8<;>first | rfl | (cases c2<;>first | rfl | (cases c3<;>first | rfl | (cases c5<;>first | rfl | (cases c6<;>rfl)))))))
   ·dsimp only
    generalize inR (p1,p2) 0 1000000000 4=b2
    cases b2
    ·rfl
    ·refine Eq.trans (step1 _ _ _ (by exact rfl)) ?_
     dsimp only
     generalize yA un=b3
     generalize ef art=b4
     generalize ef unit=b5
     generalize CG to=b6
     generalize (art==[])=c1
     generalize (q1==0)=c2
     generalize (q2==0)=c3
     generalize (unit==[])=c4
     generalize (p1==0)=c5
     generalize (p2==0)=c6
     generalize (un != 0)=c7
     generalize (to != 0)=c8
     cases uu
     ·cases ua
      ·cases ut
       ·cases c1<;>first | rfl | (cases c4<;>first | rfl | (cases c7<;>first | rfl | (cases c8<;>first | rfl | (cases c2<;>first | rfl | (cases c3<;>first | rfl | (cases c5<;>first | rfl | (cases c6<;>rfl)))))))
       ·cases b6
        ·rfl
        ·cases c1<;>first | rfl | (cases c4<;>first | rfl | (cases c7<;>first | rfl | (cases c8<;>first | rfl | (cases c2<;>first | rfl | (cases c3<;>first | rfl | (cases c5<;>first | rfl | (cases c6<;>rfl)))))))
      ·cases b4
       ·rfl
       ·cases b5
        ·rfl
        ·cases ut
         ·cases c1<;>first | rfl | (cases c4<;>first | rfl | (cases c7<;>first | rfl | (cases c8<;>first | rfl | (cases c2<;>first | rfl | (cases c3<;>first | rfl | (cases c5<;>first | rfl | (cases c6<;>rfl)))))))
         ·cases b6
          ·rfl
          ·cases c1<;>first | rfl | (cases c4<;>first | rfl | (cases c7<;>first | rfl | (cases c8<;>first | rfl | (cases c2<;>first | rfl | (cases c3<;>first | rfl | (cases c5<;>first | rfl | (cases c6<;>rfl)))))))
     ·cases b3
      ·rfl
      ·cases ua
       ·cases ut
        ·cases c1<;>first | rfl | (cases c4<;>first | rfl | (cases c7<;>first | rfl | (cases c8<;>first | rfl | (cases c2<;>first | rfl | (cases c3<;>first | rfl | (cases c5<;>first | rfl | (cases c6<;>rfl)))))))
        ·cases b6
         ·rfl
         ·cases c1<;>first | rfl | (cases c4<;>first | rfl | (cases c7<;>first | rfl | (cases c8<;>first | rfl | (cases c2<;>first | rfl | (cases c3<;>first | rfl | (cases c5<;>first | rfl | (cases c6<;>rfl)))))))
       ·cases b4
        ·rfl
        ·cases b5
         ·rfl
         ·cases ut
          ·cases c1<;>first | rfl | (cases c4<;>first | rfl | (cases c7<;>first | rfl | (cases c8<;>first | rfl | (cases c2<;>first | rfl | (cases c3<;>first | rfl | (cases c5<;>first | rfl | (cases c6<;>rfl)))))))
          ·cases b6
           ·rfl
           ·cases c1<;>first | rfl | (cases c4<;>first | rfl | (cases c7<;>first | rfl | (cases c8<;>first | rfl | (cases c2<;>first | rfl | (cases c3<;>first | rfl | (cases c5<;>first | rfl | (cases c6<;>rfl)))))))
def bX (d:aa):Int:=
 if ¬(1≤d.1∧d.1≤3652059) then 1
 else if ¬(1≤d.2.1∧d.2.1≤2) then 4
 else if ¬(1≤d.2.2.1∧d.2.2.1≤2000) then 1
 else if ¬(1≤d.2.2.2.1∧d.2.2.2.1≤11) then 4
 else if ¬((d.2.2.2.1=5∨d.2.2.2.1=6∨d.2.2.2.1=7∨d.2.2.2.1=9)↔d.2.1=2) then 4
 else if ¬(1≤d.2.2.2.2.1∧d.2.2.2.2.1≤99999) then 1
 else Cm d
theorem LX (n a b:Int):decide (n<a∨b<n)= !decide (a≤n∧n≤b):=by
 by_cases h1:a≤n<;>by_cases h2:n≤b<;>simp[h1,h2]<;>omega
theorem Ht (d:aa):sd d=some (bX d,()):=by
 unfold sd bX
 simp only[sY,jW,LX,gF,Hv,Yo]
 by_cases h1:1≤d.1∧d.1≤3652059
 ·by_cases h2:1≤d.2.1∧d.2.1≤2
  ·by_cases h3:1≤d.2.2.1∧d.2.2.1≤2000
   ·by_cases h4:1≤d.2.2.2.1∧d.2.2.2.1≤11
    ·by_cases h5:(d.2.2.2.1=5∨d.2.2.2.1=6∨d.2.2.2.1=7∨d.2.2.2.1=9)↔d.2.1=2
     ·have e5:(decide (d.2.2.2.1=5∨d.2.2.2.1=6∨d.2.2.2.1=7∨d.2.2.2.1=9)==(d.2.1==2))=true:=by
       by_cases h6:d.2.1=2
       ·simp[h6,h5.2 h6]
       ·have:¬(d.2.2.2.1=5∨d.2.2.2.1=6∨d.2.2.2.1=7∨d.2.2.2.1=9):=fun h=>h6 (h5.1 h)
        simp[h6,this]
      by_cases h6:1≤d.2.2.2.2.1∧d.2.2.2.2.1≤99999
      ·rw[e5]
       simp only[h1,h2,h3,h4,h5,h6,iff_self,YE,Wh,Yy,not_true,YH,Yv]
      ·rw[e5]
       simp only[h1,h2,h3,h4,h5,h6,iff_self,YE,YD,Wh,Wg,Yy,Yz,not_true,YN,YH,YK,Yv]
     ·have e5:(decide (d.2.2.2.1=5∨d.2.2.2.1=6∨d.2.2.2.1=7∨d.2.2.2.1=9)==(d.2.1==2))=false:=by
       by_cases h6:d.2.1=2
       ·have:¬(d.2.2.2.1=5∨d.2.2.2.1=6∨d.2.2.2.1=7∨d.2.2.2.1=9):=fun h=>h5 ⟨fun _=>h6,fun _=>h⟩
        simp[h6,this]
       ·have:(d.2.2.2.1=5∨d.2.2.2.1=6∨d.2.2.2.1=7∨d.2.2.2.1=9):=Classical.byContradiction fun h=>h5 ⟨fun h'=>absurd h' h,fun h'=>absurd h' h6⟩
        simp[h6,this]
      rw[e5]
      simp only[h1,h2,h3,h4,h5,YE,Wh,Wg,Yy,Yz,not_true,YN,YH,YK,Yv]
    ·simp only[h1,h2,h3,h4,YE,YD,Wh,Wg,Yy,Yz,not_true,YN,YH,YK,Yv]
   ·simp only[h1,h2,h3,YE,YD,Wh,Wg,Yy,Yz,not_true,YN,YH,YK,Yv]
  ·simp only[h1,h2,YE,YD,Wh,Wg,Yy,Yz,not_true,YN,YH,YK,Yv]
 ·simp only[h1,YD,Wg,Yz,YN,YK]
theorem bY {d:aa} (h:bX d=0):(1≤d.1∧d.1≤3652059)∧(1≤d.2.1∧d.2.1≤2)∧(1≤d.2.2.1∧d.2.2.1≤2000)∧(1≤d.2.2.2.1∧d.2.2.2.1≤11)∧
 ((d.2.2.2.1=5∨d.2.2.2.1=6∨d.2.2.2.1=7∨d.2.2.2.1=9)↔d.2.1=2)∧(1≤d.2.2.2.2.1∧d.2.2.2.2.1≤99999)∧Cm d=0:=by
 unfold bX at h
 split at h
 ·cases h
 ·rename_i h1
  split at h
  ·cases h
  ·rename_i h2
   split at h
   ·cases h
   ·rename_i h3
    split at h
    ·cases h
    ·rename_i h4
     split at h
     ·cases h
     ·rename_i h5
      split at h
      ·cases h
      ·rename_i h6
       exact⟨Wk.1 h1,Wk.1 h2,Wk.1 h3,Wk.1 h4,Wk.1 h5,Wk.1 h6,h⟩
end Go.Md
namespace Go.Md
open Go.Dn
def dCw (a b:aa):Int:=if w64 (a.1 - b.1)≠0 then w64 (a.1 - b.1) else if w64 (a.2.1 - b.2.1)≠0 then w64 (a.2.1 - b.2.1) else w64 (a.2.2.1 - b.2.2.1)
theorem EO (a b:aa):kR a b=some (dCw a b,()):=by
 unfold kR dCw
 generalize w64 (a.1 - b.1)=x
 generalize w64 (a.2.1 - b.2.1)=y
 generalize w64 (a.2.2.1 - b.2.2.1)=z
 simp only[Xe,Xg]
 have key:iter (X:=lI) (β:=lH) 8 (3,0,[x,y,z],()) pP=(bif x != 0 then some (Sum.inl (x,())) else bif y != 0 then some (Sum.inl (y,())) else bif z != 0 then some (Sum.inl (z,())) else some (Sum.inr ())):=by kernel_rfl
 show aL (β:=(Int×Unit)) (γ:=Unit) (iter 8 (3,0,[x,y,z],()) pP) _=_
 rw[key]
 by_cases hx:x=0
 ·subst hx
  by_cases hy:y=0
  ·subst hy
   by_cases hz:z=0
   ·subst hz;rfl
   ·have:(z != 0)=true:=by simp[hz]
    rw[this];simp[aL]
  ·have:(y != 0)=true:=by simp[hy]
   rw[this];simp[aL,hy]
 ·have:(x != 0)=true:=by simp[hx]
  rw[this];simp[aL,hx]
def cu:List aa→Option aa→Int→Int→Int
 | [],_,_,_=>0
 | d::r,p,nb,ns=>
  if bX d≠0 then bX d
  else if (p.any fun q=>decide (0≤dCw q d))=true then 8
  else if d.2.1=1 then (if d.2.2.1≠w64 (nb+1) then 9 else cu r (some d) d.2.2.1 ns)
  else (if d.2.2.1≠w64 (ns+1) then 9 else cu r (some d) nb d.2.2.1)
def fL (l:List aa):Int:=if 2000<l.length then 2 else cu l none 0 0
def cM {α:Type} (l:List α):Nat→Option α
 | 0=>none
 | i+1=>l[i]?
def dG (a0:List aa) (s:Int×Int×Int) (i:Nat) (y:aa) (k:(Int×Int×Int)→Option gZ):Option gZ:=
 if bX y≠0 then some (Sum.inl (bX y,()))
 else if ((cM a0 i).any fun q=>decide (0≤dCw q y))=true then some (Sum.inl (8,()))
 else if y.2.1=1 then (if y.2.2.1≠w64 (s.2.1+1) then some (Sum.inl (9,())) else k (s.1,y.2.2.1,s.2.2))
 else (if y.2.2.1≠w64 (s.2.2+1) then some (Sum.inl (9,())) else k (s.1,s.2.1,y.2.2.1))
theorem iS {a b:Int} (h:a≠b):(a != b)=true:=by simp[h]
theorem jE {a b:Int} (h:a≠b):(a==b)=false:=by simp[h]
theorem eS {α:Type} {l:List α} {i:Nat} {y:α} (h:l[i]? =some y):idx l (i:Int)=some y:=by
 unfold idx
 rw[YJ (Wp i)]
 exact h
theorem JW (a0:List aa) (hl:a0.length≤2000) (s:Int×Int×Int) (i:Nat) (y:aa) (again:jQ→Option gZ) (hy:a0[i]? =some y):
 jP (a0,a0,(a0.length:Int),(i:Int),s.1,s.2.1,s.2.2,()) again=dG a0 s i y fun s'=>again (a0,a0,(a0.length:Int),((i+1:Nat):Int),s'.1,s'.2.1,s'.2.2,()):=by
 have hi:i<a0.length:=(WX.1 hy).1
 unfold jP dG
 dsimp only
 rw[YB (show (i:Int)<(a0.length:Int) by omega),Yz,eS hy,Yo,Ht,Yo]
 dsimp only
 have hw:w64 ((i:Int)+1)=((i+1:Nat):Int):=by rw[aC (by omega) (by omega)];omega
 rw[hw]
 by_cases hf:bX y=0
 ·rw[hf,zne,Yy,YI (by simp)]
  obtain⟨_,hby,_⟩:=bY hf
  have hprev':(bif decide ((i:Int)>0) then Option.bind (idx a0 (w64 ((i:Int) - 1))) fun y4=>Option.bind (kR y4 y) fun r5=>some (decide (r5.1≥0),()) else some (false,()))=some ((cM a0 i).any fun q=>decide (0≤dCw q y),()):=by
   cases i with
   | zero=>rfl
   | succ j=>
    have hj:j<a0.length:=by omega
    have hq:a0[j]? =some a0[j]:=WV hj
    have e:w64 (((j+1:Nat):Int) - 1)=(j:Int):=by rw[aC (by omega) (by omega)];omega
    rw[YB (by omega),Yz,e,eS hq,Yo,EO,Yo]
    simp only[cM,hq,Option.any_some]
  rw[hprev',Yo]
  dsimp only
  cases ((cM a0 i).any fun q=>decide (0≤dCw q y)) with
  | true=>rfl
  | false=>
   rw[Yy,YI (by simp)]
   by_cases h1:y.2.1=1
   ·rw[jE (show y.2.1≠0 by omega),Yy,show (y.2.1==1)=true by simp[h1],Yz,YJ h1]
    by_cases hn:y.2.2.1=w64 (s.2.1+1)
    ·rw[show (y.2.2.1 != w64 (s.2.1+1))=false by simp[hn],Yy,YI (by simp[hn])]
     rfl
    ·rw[iS hn,Yz,YJ hn]
   ·have h2:y.2.1=2:=by omega
    rw[jE (show y.2.1≠0 by omega),Yy,jE h1,Yy,show (y.2.1==2)=true by simp[h2],Yz,YI h1]
    by_cases hn:y.2.2.1=w64 (s.2.2+1)
    ·rw[show (y.2.2.1 != w64 (s.2.2+1))=false by simp[hn],Yy,YI (by simp[hn])]
     rfl
    ·rw[iS hn,Yz,YJ hn]
 ·rw[iS hf,Yz,YJ hf]
def Jl (f:Int):Option ((Int×Unit) ⊕ Unit):=if f=0 then some (Sum.inr ()) else some (Sum.inl (f,()))
theorem Ms {f:Int} (h:f=0):Jl f=some (Sum.inr ()):=YJ h
theorem HZ {f:Int} (h:f≠0):Jl f=some (Sum.inl (f,())):=YI h
theorem Gz (a0:List aa):∀ (r:List aa) (i:Nat) (s:Int×Int×Int),a0.drop i=r→
 Cy (dG a0) (fun _=>some (Sum.inr ())) r i s=Jl (cu r (cM a0 i) s.2.1 s.2.2)
 | [],_,_,_=>by simp[Cy,cu,Jl]
 | y::r,i,s,hd=>by
  have hy:a0[i]? =some y:=by
   have:=congrArg (·[0]?) hd
   simpa [WU] using this
  have hr:a0.drop (i+1)=r:=by
   have:=congrArg List.tail hd
   simpa [XK] using this
  have hp:cM a0 (i+1)=some y:=hy
  show dG a0 s i y (fun s'=>Cy (dG a0) (fun _=>some (Sum.inr ())) r (i+1) s')=_
  rw[show (fun s'=>Cy (dG a0) (fun _=>some (Sum.inr ())) r (i+1) s')=fun s'=>Jl (cu r (cM a0 (i+1)) s'.2.1 s'.2.2) from funext fun s'=>Gz a0 r (i+1) s' hr,hp]
  unfold dG
  by_cases hf:bX y=0
  ·have e0:¬bX y≠0:=fun h=>h hf
   rw[YI e0]
   by_cases ha:((cM a0 i).any fun q=>decide (0≤dCw q y))=true
   ·rw[YJ ha,show cu (y::r) (cM a0 i) s.2.1 s.2.2=8 by simp only[cu];rw[YI e0,YJ ha]]
    rfl
   ·rw[YI ha]
    by_cases h1:y.2.1=1
    ·rw[YJ h1]
     by_cases hn:y.2.2.1≠w64 (s.2.1+1)
     ·rw[YJ hn,show cu (y::r) (cM a0 i) s.2.1 s.2.2=9 by simp only[cu];rw[YI e0,YI ha,YJ h1,YJ hn]]
      rfl
     ·rw[YI hn,show cu (y::r) (cM a0 i) s.2.1 s.2.2=cu r (some y) y.2.2.1 s.2.2 by rw[cu,YI e0,YI ha,YJ h1,YI hn]]
    ·rw[YI h1]
     by_cases hn:y.2.2.1≠w64 (s.2.2+1)
     ·rw[YJ hn,show cu (y::r) (cM a0 i) s.2.1 s.2.2=9 by simp only[cu];rw[YI e0,YI ha,YI h1,YJ hn]]
      rfl
     ·rw[YI hn,show cu (y::r) (cM a0 i) s.2.1 s.2.2=cu r (some y) s.2.1 y.2.2.1 by rw[cu,YI e0,YI ha,YI h1,YI hn]]
  ·rw[YJ hf,show cu (y::r) (cM a0 i) s.2.1 s.2.2=bX y by rw[cu,YJ hf],HZ hf]
theorem xR (l:List aa):jY l=some (fL l,()):=by
 unfold jY fL
 by_cases hl:2000<l.length
 ·rw[YB (show (l.length:Int)>2000 by omega),Yz,YJ hl]
 ·rw[YA (show ¬ (l.length:Int)>2000 by omega),Yy,YI hl]
  have:=Jr (f:=jP) (fun (s:Int×Int×Int) (i:Nat)=>((l,l,(l.length:Int),(i:Int),s.1,s.2.1,s.2.2,()):jQ)) l (dG l) (fun _=>some (Sum.inr ()))
   (fun s i y again hy=>JW l (by omega) s i y again hy) (fun s again=>by
     unfold jP
     dsimp only
     rw[YA (by omega)];rfl) (0,0,0)
  refine (congrArg (fun z=>aL (β:=(Int×Unit)) (γ:=Unit) z fun _=>some (0,())) (this _ (by omega))).trans ?_
  rw[Gz l l 0 (0,0,0) rfl]
  simp only[cM]
  by_cases h:cu l none 0 0=0
  ·rw[Ms h,h];rfl
  ·rw[HZ h];rfl
theorem AK:∀ {l:List aa} {p:Option aa} {nb ns:Int},cu l p nb ns=0→∀ d,d∈l→bX d=0
 | [],_,_,_,_,_,h=>by cases h
 | y::r,p,nb,ns,h,d,hd=>by
  simp only[cu] at h
  by_cases hf:bX y=0
  ·rw[YI (by simp[hf])] at h
   rcases Xp.1 hd with rfl | hd
   ·exact hf
   ·split at h
    ·cases h
    ·split at h
     ·split at h
      ·cases h
      ·exact AK h d hd
     ·split at h
      ·cases h
      ·exact AK h d hd
  ·rw[YJ hf] at h
   exact absurd h hf
theorem mM {l:List aa} (h:fL l=0):l.length≤2000∧∀ d,d∈l→bX d=0:=by
 unfold fL at h
 split at h
 ·cases h
 ·rename_i hl
  exact⟨by omega,AK h⟩
abbrev Ju (o:aj):=o.1
abbrev Hg (o:aj):=o.2.1
abbrev Jv (o:aj):=o.2.2.1
abbrev fQ (o:aj):=o.2.2.2.1
abbrev dJ (o:aj):=o.2.2.2.2.1
abbrev qA (o:aj):=o.2.2.2.2.2
def gC (day:Int) (p:Option aO) (x:aO):Int:=
 if ¬(1≤x.1∧x.1≤99999) then 1
 else if (p.any fun q=>decide (x.1≤q.1))=true then 8
 else if ef x.2.1=false then 5
 else if qOk x.2.2.1 false=false then 1
 else if ef x.2.2.2.1=false then 5
 else if inR x.2.2.2.2.1 0 1000000000 4=false then 1
 else if ¬(day≤x.2.2.2.2.2∧x.2.2.2.2.2≤3652059) then 1
 else 0
def jX (day:Int):List aO→Option aO→Int
 | [],_=>0
 | x::r,p=>if gC day p x≠0 then gC day p x else jX day r (some x)
def mB (o:aj):Int:=
 if ef (Ju o)=false∨ef (Hg o)=false∨ef (Jv o)=false then 5
 else if Hg o=Jv o then 12
 else if ¬(1≤fQ o∧fQ o≤3652059) then 1
 else if ¬(0≤dJ o∧dJ o≤1000) then 1
 else if qA o=[] then 9
 else if 500<(qA o).length then 2
 else jX (fQ o) (qA o) none
theorem VA (b:Bool):((if b=true then (0:Int) else 1) != 0)= !b:=by cases b<;>rfl
theorem Hu (o:aj) (i:Nat) (x:aO) (hi:(qA o)[i]? =some x) (hl:(qA o).length≤500):se o (i:Int)=some (gC (fQ o) (cM (qA o) i) x,()):=by
 have hlt:i<(qA o).length:=(WX.1 hi).1
 unfold se
 rw[eS hi,Yo]
 simp only[jW,LX,qX,oN,xS,Yo,VA]
 have tail:∀ (p:Option aO) (hp:(p.any fun q=>decide (x.1≤q.1))=false) (h1:1≤x.1∧x.1≤99999),
  (bif !ef x.2.1 then some (5,()) else bif !qOk x.2.2.1 false then some ((if qOk x.2.2.1 false=true then 0 else 1),()) else bif !ef x.2.2.2.1 then some (5,()) else
    bif !inR x.2.2.2.2.1 0 1000000000 4 then some ((if inR x.2.2.2.2.1 0 1000000000 4=true then 0 else 1),()) else bif !decide (fQ o≤x.2.2.2.2.2∧x.2.2.2.2.2≤3652059) then some (1,()) else some (0,()))=some (gC (fQ o) p x,()):=fun p hp h1=>by
  unfold gC
  rw[YI (show ¬¬(1≤x.1∧x.1≤99999) from fun h=>h h1),YI (show ¬(p.any fun q=>decide (x.1≤q.1))=true by rw[hp];exact Wa)]
  cases ef x.2.1
  ·rfl
  ·cases qOk x.2.2.1 false
   ·rfl
   ·cases ef x.2.2.2.1
    ·rfl
    ·cases inR x.2.2.2.2.1 0 1000000000 4
     ·rfl
     ·by_cases hd:fQ o≤x.2.2.2.2.2∧x.2.2.2.2.2≤3652059
      ·simp[hd]
      ·simp[hd]
 by_cases h1:1≤x.1∧x.1≤99999
 ·rw[YB h1,Wh,Yy]
  cases i with
  | zero=>
   rw[YA (show ¬((0:Nat):Int)>0 by omega),Yy]
   exact tail none rfl h1
  | succ j=>
   have hq:(qA o)[j]? =some (qA o)[j]:=WV (by omega)
   have e:w64 (((j+1:Nat):Int) - 1)=(j:Int):=by rw[aC (by omega) (by omega)];omega
   rw[YB (show ((j+1:Nat):Int)>0 by omega),Yz,e,eS hq,Yo]
   simp only[cM,hq]
   by_cases h2:x.1≤(qA o)[j].1
   ·rw[YB h2,Yo]
    have:gC (fQ o) (some (qA o)[j]) x=8:=by
     unfold gC
     rw[YI (show ¬¬(1≤x.1∧x.1≤99999) from fun h=>h h1),YJ (show (Option.any (fun q=>decide (x.1≤q.1)) (some (qA o)[j]))=true from YB h2)]
    rw[this]
    rfl
   ·rw[YA h2,Yo]
    exact tail (some (qA o)[j]) (by simp[h2]) h1
 ·rw[YA h1,Wg,Yz]
  unfold gC
  rw[YJ h1]
theorem FH (a0:List aO) (day:Int):∀ (r:List aO) (i:Nat) (s:Unit),a0.drop i=r→
 Cy (fun (_:Unit) i y k=>if gC day (cM a0 i) y≠0 then some (Sum.inl (gC day (cM a0 i) y,())) else k ()) (fun _=>(some (Sum.inr ()):Option mD)) r i s=Jl (jX day r (cM a0 i))
 | [],_,_,_=>by simp[Cy,jX,Jl]
 | y::r,i,s,hd=>by
  have hy:a0[i]? =some y:=by
   have:=congrArg (·[0]?) hd
   simpa [WU] using this
  have hr:a0.drop (i+1)=r:=by
   have:=congrArg List.tail hd
   simpa [XK] using this
  have hp:cM a0 (i+1)=some y:=hy
  have ih:=FH a0 day r (i+1) () hr
  rw[hp] at ih
  by_cases hf:gC day (cM a0 i) y=0
  ·have e0:¬gC day (cM a0 i) y≠0:=fun h=>h hf
   rw[show jX day (y::r) (cM a0 i)=jX day r (some y) by rw[jX,YI e0], ← ih]
   show (if gC day (cM a0 i) y≠0 then _ else _)=_
   rw[YI e0]
  ·rw[show jX day (y::r) (cM a0 i)=gC day (cM a0 i) y by rw[jX,YJ hf],HZ hf]
   show (if gC day (cM a0 i) y≠0 then _ else _)=_
   rw[YJ hf]
theorem Ga (o:aj):qC o=some (mB o,()):=by
 unfold qC mB
 simp only[qX,sY,jW,LX,Yo]
 cases h1:ef o.1
 ·simp[Ju,h1]
 cases h2:ef o.2.1
 ·simp[Ju,Hg,h1,h2]
 cases h3:ef o.2.2.1
 ·simp[Ju,Hg,Jv,h1,h2,h3]
 rw[YI (by simp[Ju,Hg,Jv,h1,h2,h3])]
 simp only[Wh,Yy]
 by_cases h4:o.2.1=o.2.2.1
 ·rw[YJ h4,show (o.2.1==o.2.2.1)=true by simp[h4],Yz]
 rw[YI h4,show (o.2.1==o.2.2.1)=false by simp[h4],Yy]
 by_cases h5:1≤o.2.2.2.1∧o.2.2.2.1≤3652059
 ·rw[YI (by simp[fQ,h5]),YB h5,Wh,Yy]
  by_cases h6:0≤o.2.2.2.2.1∧o.2.2.2.2.1≤1000
  ·rw[YI (by simp[dJ,h6]),YB h6,Wh,Yy]
   by_cases h7:o.2.2.2.2.2=[]
   ·rw[YJ h7,h7];rfl
   ·have h7':o.2.2.2.2.2.length≠0:=fun e=>h7 (WJ e)
    rw[YI h7,jE (show (o.2.2.2.2.2.length:Int)≠0 by omega),Yy]
    by_cases h8:500<o.2.2.2.2.2.length
    ·rw[YJ h8,YB (by omega),Yz]
    ·rw[YI h8,YA (by omega),Yy]
     have:=Jr (f:=mC) (fun (_:Unit) (i:Nat)=>(((o.2.2.2.2.2.length:Int),(i:Int),o.1,o.2.1,o.2.2.1,o.2.2.2.1,o.2.2.2.2.1,o.2.2.2.2.2,()):mE)) o.2.2.2.2.2
      (fun (_:Unit) i y k=>if gC (fQ o) (cM o.2.2.2.2.2 i) y≠0 then some (Sum.inl (gC (fQ o) (cM o.2.2.2.2.2 i) y,())) else k ()) (fun _=>some (Sum.inr ()))
      (fun s i y again hy=>by
        have hlt:i<o.2.2.2.2.2.length:=(WX.1 hy).1
        unfold mC
        dsimp only
        rw[YB (by omega),Yz]
        have:=Hu o i y hy (by show o.2.2.2.2.2.length≤500;omega)
        rw[show ((o.1,o.2.1,o.2.2.1,o.2.2.2.1,o.2.2.2.2.1,o.2.2.2.2.2):aj)=o from rfl,this,Yo]
        dsimp only
        by_cases hf:gC (fQ o) (cM o.2.2.2.2.2 i) y=0
        ·rw[YI (by simp[hf]),show (gC (fQ o) (cM (qA o) i) y != 0)=false by simp[hf],Yy,aC (by omega) (by omega)]
         rfl
        ·rw[YJ hf,show (gC (fQ o) (cM (qA o) i) y != 0)=true by simp[hf],Yz]) (fun s again=>by
        unfold mC
        dsimp only
        rw[YA (show ¬((o.2.2.2.2.2.length:Int)<(o.2.2.2.2.2.length:Int)) by omega)];rfl) ()
     refine (congrArg (fun z=>aL (β:=(Int×Unit)) (γ:=Unit) z fun _=>some (0,())) (this _ (by omega))).trans ?_
     rw[FH o.2.2.2.2.2 (fQ o) o.2.2.2.2.2 0 () rfl]
     simp only[cM]
     by_cases h:jX (fQ o) o.2.2.2.2.2 none=0
     ·rw[Ms h,h];rfl
     ·rw[HZ h];rfl
  ·rw[YJ h6,YA h6];rfl
 ·rw[YJ h5,YA h5];rfl
theorem vO (o:aj) (l:List aa):nS o l=some (if mB o≠0 then mB o else fL l,()):=by
 unfold nS
 rw[Ga,Yo,xR]
 dsimp only
 by_cases h:mB o=0
 ·rw[h];rfl
 ·rw[iS h,Yz,YJ h]
end Go.Md
namespace Go.Md
open Go.Dn
def aU (d:ah):Int:=d.1*10 ^ (3 - d.2).toNat
theorem MP {d:ah} {z:Bool} (h:qOk d z=true):(0≤d.2∧d.2≤3)∧0≤d.1∧d.1≤1000000000*10 ^ d.2.toNat∧(z=false→d.1≠0):=by
 unfold qOk inR at h
 simp only[V6,YC,Wj,We,Yw] at h
 obtain⟨⟨h1,h2,h3,h4⟩,h5⟩:=h
 exact⟨⟨h1.2.1,h2⟩,by omega,h4,fun hz=>by rcases h5 with h5 | h5;exact h5;rw[hz] at h5;cases h5⟩
theorem qp {d:ah} {z:Bool} (h:qOk d z=true):0≤aU d∧aU d≤1000000000000∧(z=false→0<aU d):=by
 obtain⟨⟨h1,h2⟩,h3,h4,h5⟩:=MP h
 unfold aU
 obtain⟨k,hk⟩:∃ k:Nat,d.2=k:=⟨d.2.toNat,by omega⟩
 rw[hk] at h1 h2 h4 ⊢
 have:k=0∨k=1∨k=2∨k=3:=by omega
 rcases this with rfl | rfl | rfl | rfl<;>simp at h4 ⊢ <;>refine⟨by omega,by omega,fun hz=> ?_⟩<;>have:=h5 hz<;>omega
theorem jZ {d:ah} {z:Bool} (h:qOk d z=true):gM d=some (aU d,()):=by
 obtain⟨⟨h1,h2⟩,h3,h4,_⟩:=MP h
 obtain⟨u1,u2,_⟩:=qp h
 unfold gM
 rw[aC (n:=3 - d.2) (by omega) (by omega),yd (3 - d.2) (by omega) (by omega),Yo]
 show some (w64 (aU d),())=_
 rw[aC (by omega) (by omega)]
structure ai where
 no:Int
 art:Bys
 unit:Bys
 ord:Int
 shp:Int
 rcv:Int
 ret:Int
 price:ah
 due:Int
 wish:Int
 ono:Int
 oq:Int
 ount:Int
abbrev ai.tup (x:ai):ak:=(x.no,x.art,x.unit,x.ord,x.shp,x.rcv,x.ret,x.price,x.due,x.wish,x.ono,x.oq,x.ount)
def ai.opn (x:ai):Int:=if x.ord - x.shp+x.ret>0 then x.ord - x.shp+x.ret else 0
structure LOk (x:ai):Prop where
 ret0:0≤x.ret
 retr:x.ret≤x.rcv
 rcvs:x.rcv≤x.shp
 shp1:x.shp≤1000000000000000
 vN:0≤x.ord
 ord1:x.ord≤1000000000000
 off:x.ono≠0→0<x.oq∧x.oq+x.shp - x.ret≤x.ord
def qz (i:Nat):List ai→List (Int×Option Nat)
 | []=>[]
 | x::r=>(x.no,some i)::qz (i+1) r
abbrev mapOf (A:List ai):List (Int×Option Nat):=qz 0 A
def bN (n:Int) (i:Nat):List ai→Option Nat
 | []=>none
 | x::r=>if n=x.no then some i else bN n (i+1) r
abbrev gq (n:Int) (A:List ai):Option Nat:=bN n 0 A
theorem RZ (n:Int):AY n n=true:=by simp[AY]
theorem PW {n a:Int} (h:n≠a):AY n a=false:=by simp[AY,h]
theorem iN (n:Int):∀ (A:List ai) (i:Nat),Option.getD (α:=Option Nat) (bA (k:=tI) (v:= .hnd) (qz i A) n) none=bN n i A
 | [],i=>rfl
 | x::r,i=>by
  have e:= @MF tI .hnd (x.no,some i) (qz (i+1) r) n
  refine (congrArg (fun z:Option (Option Nat)=>Option.getD z none) e).trans ?_
  have ih:=iN n r (i+1)
  by_cases h:n=x.no
  ·subst h
   show Option.getD (α:=Option Nat) (bif AY x.no x.no then some (some i) else _) none=_
   rw[RZ]
   simp only[bN,YJ]
   rfl
  ·show Option.getD (α:=Option Nat) (bif AY n x.no then some (some i) else _) none=_
   rw[PW h]
   simp only[bN,YI h]
   exact ih
theorem Jt (n:Int) (y:ai) (hy:y.no=n):∀ (A:List ai) (i:Nat),bN n i A=none→jH (k:=tI) (v:= .hnd) (qz i A) n (some (i+A.length))=qz i (A++[y])
 | [],i,_=>by subst hy;rfl
 | x::r,i,h=>by
  simp only[bN] at h
  by_cases hx:n=x.no
  ·rw[YJ hx] at h;cases h
  ·rw[YI hx] at h
   have ih:=Jt n y hy r (i+1) h
   have e:i+(x::r).length=i+1+r.length:=by simp only[Xe];omega
   rw[e]
   show (bif AY n x.no then _ else (x.no,some i)::jH (k:=tI) (v:= .hnd) (qz (i+1) r) n (some (i+1+r.length)))=_
   rw[PW hx]
   exact congrArg (fun z=>(x.no,some i)::z) ih
theorem ze:∀ (A:List ai) (i:Nat),(qz i A).length=A.length
 | [],_=>rfl
 | x::r,i=>by simp[qz,ze r]
theorem Sl {k:Nat} {y:ai}:∀ (A:List ai) (i:Nat),(∀ x,A[k]? =some x→y.no=x.no)→qz i (A.set k y)=qz i A:=by
 intro A
 induction A generalizing k with
 | nil=>intro i _;rfl
 | cons x r ih=>
  intro i h
  cases k with
  | zero=>simp only[List.set_cons_zero,qz];rw[h x rfl]
  | succ k=>simp only[XH,qz];rw[ih (i+1) (fun z hz=>h z (by simpa using hz))]
theorem IK {n:Int}:∀ {A:List ai} {i k:Nat},bN n i A=some k→i≤k∧∃ x,A[k - i]? =some x∧x.no=n
 | [],_,_,h=>by cases h
 | x::r,i,k,h=>by
  simp only[bN] at h
  by_cases hx:n=x.no
  ·rw[YJ hx] at h;cases h;exact⟨XZ _,x,by simp,hx.symm⟩
  ·rw[YI hx] at h
   obtain⟨h1,y,h2,h3⟩:=IK h
   refine⟨by omega,y, ?_,h3⟩
   rw[show k - i=k - (i+1)+1 by omega,WS];exact h2
theorem tV {n:Int} {A:List ai} {k:Nat} (h:gq n A=some k):∃ x,A[k]? =some x∧x.no=n:=(IK h).2
theorem Km {n:Int} {k:Nat} {y:ai}:∀ (A:List ai) (i:Nat),(∀ x,A[k]? =some x→y.no=x.no)→bN n i (A.set k y)=bN n i A:=by
 intro A
 induction A generalizing k with
 | nil=>intro i _;rfl
 | cons x r ih=>
  intro i h
  cases k with
  | zero=>simp only[List.set_cons_zero,bN];rw[h x rfl]
  | succ k=>simp only[XH,bN];rw[ih (i+1) (fun z hz=>h z (by simpa using hz))]
theorem Eu {n:Int} {y:ai}:∀ (A:List ai) (i:Nat),bN n i (A++[y])=(bN n i A).or (if n=y.no then some (i+A.length) else none)
 | [],i=>by simp[bN]
 | x::r,i=>by
  simp only[WA,bN,Xe]
  by_cases h:n=x.no
  ·simp[h]
  ·rw[YI h,YI h,Eu r (i+1),show i+(r.length+1)=i+1+r.length by omega]
theorem gh {A:List ai} {k:Nat} {x:ai} (h:A[k]? =some x):(A.map ai.tup)[k]? =some x.tup:=by rw[WY,h];rfl
theorem Qs (A:List ai) (k:Nat) (y:ai):(A.map ai.tup).set k y.tup=(A.set k y).map ai.tup:=by rw[List.map_set]
theorem H7 {A:List ai} {k:Nat} {x:ai} (h:A[k]? =some x) (y:ai):(A.set k y)[k]? =some y:=by
 have:=(WX.1 h).1
 simp[W6,this]
theorem kS {A:List ai} {k:Nat} {x:ai} (h:A[k]? =some x) (hx:LOk x):gw (some k) (A.map ai.tup)=some (x.opn,()):=by
 unfold gw
 have ht:=gh h
 simp only[Yo,ht]
 have:=hx.ret0;have:=hx.retr;have:=hx.rcvs;have:=hx.shp1;have:=hx.vN;have:=hx.ord1
 rw[aC (n:=x.ord - x.shp) (by omega) (by omega),aC (n:=x.ord - x.shp+x.ret) (by omega) (by omega)]
 rfl
end Go.Md
namespace Go.Md
open Go.Dn
abbrev dNo (d:aa):=d.2.2.1
abbrev aV (d:aa):=d.2.2.2.1
abbrev lF (d:aa):=d.2.2.2.2.1
abbrev dQ (d:aa):=d.2.2.2.2.2.2.1
abbrev JZ (d:aa):=d.2.2.2.2.2.2.2.2.1
abbrev jO (d:aa):=d.2.2.2.2.2.2.2.2.2.1
abbrev dTo (d:aa):=d.2.2.2.2.2.2.2.2.2.2
theorem fE {d:aa} (h:Cm d=0):(usQ (aV d)=true→qOk (dQ d) (aV d==2)=true)∧(usP (aV d)=true→inR (JZ d) 0 1000000000 4=true)∧(usU (aV d)=true→yA (jO d)=true)∧(usA (aV d)=true→ef d.2.2.2.2.2.1=true∧ef d.2.2.2.2.2.2.2.1=true)∧(usT (aV d)=true→CG (dTo d)=true):=by
 unfold Cm HK at h
 show (usQ d.2.2.2.1=true→qOk d.2.2.2.2.2.2.1 (d.2.2.2.1==2)=true)∧(usP d.2.2.2.1=true→inR d.2.2.2.2.2.2.2.2.1 0 1000000000 4=true)∧(usU d.2.2.2.1=true→yA d.2.2.2.2.2.2.2.2.2.1=true)∧(usA d.2.2.2.1=true→ef d.2.2.2.2.2.1=true∧ef d.2.2.2.2.2.2.2.1=true)∧(usT d.2.2.2.1=true→CG d.2.2.2.2.2.2.2.2.2.2=true)
 generalize usA d.2.2.2.1=ua at*
 generalize usQ d.2.2.2.1=uq at*
 generalize usP d.2.2.2.1=up at*
 generalize usU d.2.2.2.1=uu at*
 generalize usT d.2.2.2.1=ut at*
 generalize qOk d.2.2.2.2.2.2.1 (d.2.2.2.1==2)=b1 at*
 generalize inR d.2.2.2.2.2.2.2.2.1 0 1000000000 4=b2 at*
 generalize yA d.2.2.2.2.2.2.2.2.2.1=b3 at*
 generalize ef d.2.2.2.2.2.1=b4 at*
 generalize ef d.2.2.2.2.2.2.2.1=b5 at*
 generalize CG d.2.2.2.2.2.2.2.2.2.2=b6 at*
 cases hq:(uq&& !b1)
 ·rw[hq,Yy] at h
  cases hp:(up&& !b2)
  ·rw[hp,Yy] at h
   cases hu:(uu&& !b3)
   ·rw[hu,Yy] at h
    cases ha:(ua&&(!b4|| !b5))
    ·rw[ha,Yy] at h
     cases ht:(ut&& !b6)
     ·refine⟨?_, ?_, ?_, ?_, ?_⟩
      ·revert hq;cases uq<;>cases b1<;>simp
      ·revert hp;cases up<;>cases b2<;>simp
      ·revert hu;cases uu<;>cases b3<;>simp
      ·revert ha;cases ua<;>cases b4<;>cases b5<;>simp
      ·revert ht;cases ut<;>cases b6<;>simp
     ·rw[ht,Yz] at h;cases h
    ·rw[ha,Yz] at h;cases h
   ·rw[hu,Yz] at h;cases h
  ·rw[hp,Yz] at h;cases h
 ·rw[hq,Yz] at h;cases h
def Fk (day:Int) (i:Int) (d:aa) (x:ai):Int×ai:=
 if aV d=3∧jO d<day then (1,x) else if 0≤x.wish then (11,x) else (0,{ x with wish:=i })
def fT (l:List aa) (x:ai):aa:=l.getD x.wish.toNat (0,0,0,0,0,[],(0,0),[],(0,0),0,0)
def bT (l:List aa) (d:aa) (x:ai):Int×ai:=
 if x.wish<0 then (5,x)
 else if dNo (fT l x)≠dTo d then (5,x)
 else if aV d=5 then
  (if aV (fT l x)=2 then (if aU (dQ (fT l x))<x.shp - x.ret then (12,x) else (0,{ x with ord:=aU (dQ (fT l x)),wish:= -1 }))
  else if aV (fT l x)=1 then (0,{ x with ord:=aU (dQ (fT l x)),wish:= -1 })
  else if aV (fT l x)=3 then (0,{ x with due:=jO (fT l x),wish:= -1 })
  else (0,{ x with price:=JZ (fT l x),wish:= -1 }))
 else (0,{ x with wish:= -1 })
def nc (day:Int) (d:aa) (x:ai):Int:=
 if jO d<day then 1 else if 0≤x.wish∨x.opn=0 then 11 else if x.opn<aU (dQ d) then 12 else 0
def Fb (d:aa) (x:ai):Int×ai:=
 if 0≤x.wish then (11,x) else if x.ono=0∨x.ono≠dTo d then (5,x) else (0,{ x with ord:=x.shp - x.ret+x.oq,due:=x.ount,ono:=0,oq:=0,ount:=0 })
def cC (ext:Int) (d:aa) (x:ai):Int×ai:=
 if aV d=9 then
  (if x.ord+x.ord*ext / 1000<x.shp - x.ret+aU (dQ d) then (12,x)
  else if 1000000000000000<x.shp+aU (dQ d) then (16,x)
  else (0,{ x with shp:=x.shp+aU (dQ d) }))
 else if aV d=10 then (if x.shp<x.rcv+aU (dQ d) then (12,x) else (0,{ x with rcv:=x.rcv+aU (dQ d) }))
 else (if x.rcv<x.ret+aU (dQ d) then (12,x) else (0,{ x with ret:=x.ret+aU (dQ d) }))
theorem jt {A:List ai} {k:Nat} {x:ai} (h:A[k]? =some x):A.set k x=A:=by
 obtain⟨h1,h2⟩:=WX.1 h
 rw[← h2];exact List.set_getElem_self h1
theorem nx {A:List ai} {k:Nat} (y:ai) (T:ak) (hT:T=y.tup):List.set (A.map ai.tup) k T=(A.set k y).map ai.tup:=by rw[hT,Qs]
theorem AQ {A:List ai} {k:Nat} {x:ai} (h:A[k]? =some x) (T:ak):(List.set (A.map ai.tup) k T)[k]? =some T:=by
 have:=(WX.1 h).1
 rw[W8 (by simpa using this)]
variable {o:aj} {l:List aa} {m:List (Int×Option Nat)} {ref:List ah} {pts:List au} {wt:Int} {A:List ai} {k:Nat} {x:ai}
theorem oP (h:A[k]? =some x) {i:Nat} {d:aa} (hd:l[i]? =some d):
 nH (o,l,m,ref,pts,wt,()) (some k) (i:Int) (A.map ai.tup)=some ((Fk (fQ o) i d x).1,(o,l,m,ref,pts,wt,()),(A.set k (Fk (fQ o) i d x).2).map ai.tup,()):=by
 unfold nH Fk
 dsimp only
 rw[eS hd,Yo]
 have hv:(bif d.2.2.2.1==3 then some (decide (d.2.2.2.2.2.2.2.2.2.1<o.2.2.2.1),()) else some (false,()))=some (decide (aV d=3∧jO d<fQ o),()):=by
  by_cases h3:d.2.2.2.1=3
  ·rw[show (d.2.2.2.1==3)=true by simp[h3],Yz]
   simp[aV,h3]
  ·rw[show (d.2.2.2.1==3)=false by simp[h3],Yy]
   simp[aV,h3]
 rw[hv,Yo]
 dsimp only
 by_cases h1:aV d=3∧jO d<fQ o
 ·rw[YB h1,Yz,YJ h1,jt h]
 ·rw[YA h1,Yy,YI h1]
  simp only[Yo,gh h]
  by_cases h2:0≤x.wish
  ·rw[YJ h2,YB (show x.wish≥0 from h2),Yz,jt h]
  ·rw[YI h2,YA (show ¬x.wish≥0 from h2),Yy,nx { x with wish:=(i:Int) } _ rfl]
structure WOk (l:List aa) (x:ai):Prop where
 low: -1≤x.wish
 kind:0≤x.wish→∃ d,l[x.wish.toNat]? =some d∧aV d≤4
theorem mP {d:aa} (hw:l[x.wish.toNat]? =some d):fT l x=d:=by
 unfold fT
 rw[WN,hw];rfl
theorem Ti {d:aa} (h0:0≤x.wish) (hw:l[x.wish.toNat]? =some d):idx l x.wish=some d:=by
 unfold idx;rw[YJ h0];exact hw
theorem s9 (h:A[k]? =some x) (hx:LOk x) (hw:WOk l x) (hl:∀ d,d∈l→bX d=0) (d:aa):
 lJ (o,l,m,ref,pts,wt,()) (some k) d (A.map ai.tup)=some ((bT l d x).1,(o,l,m,ref,pts,wt,()),(A.set k (bT l d x).2).map ai.tup,()):=by
 unfold lJ bT
 simp only[Yo,gh h]
 by_cases h1:x.wish<0
 ·rw[YJ h1,YB h1,Yz,jt h]
 ·rw[YI h1,YA h1,Yy]
  obtain⟨w,hw1,hw2⟩:=hw.kind (by omega)
  rw[Ti (by omega) hw1,mP hw1]
  simp only[Yo]
  have hwf:=hl w (Xw hw1)
  obtain⟨_,_,_,hk,_,_,hu⟩:=bY hwf
  obtain⟨uq,_⟩:=fE hu
  have b0:=hx.ret0;have b1:=hx.retr;have b2:=hx.rcvs;have b3:=hx.shp1
  by_cases h2:dNo w=dTo d
  ·rw[YI (fun e=>e h2),show (w.2.2.1 != d.2.2.2.2.2.2.2.2.2.2)=false by simpa using h2,Yy]
   by_cases h3:aV d=5
   ·rw[YJ h3,show (d.2.2.2.1==5)=true by simpa using h3,Yz]
    by_cases k2:aV w=2
    ·have hq:=uq (by rw[k2];rfl)
     rw[YJ k2,show (w.2.2.2.1==2)=true by simpa using k2,Yz]
     simp only[jZ hq,Yo,AQ h,XI]
     rw[aC (n:=x.shp - x.ret) (by omega) (by omega)]
     by_cases h4:aU (dQ w)<x.shp - x.ret
     ·rw[YJ h4,YB h4,Yz,jt h]
     ·rw[YI h4,YA h4,Yy,nx { x with ord:=aU (dQ w),wish:= -1 } _ rfl]
    ·rw[YI k2,show (w.2.2.2.1==2)=false by simpa using k2,Yy]
     by_cases k1:aV w=1
     ·have hq:=uq (by rw[k1];rfl)
      rw[YJ k1,show (w.2.2.2.1==1)=true by simpa using k1,Yz]
      simp only[jZ hq,Yo,AQ h,XI]
      rw[nx { x with ord:=aU (dQ w),wish:= -1 } _ rfl]
     ·rw[YI k1,show (w.2.2.2.1==1)=false by simpa using k1,Yy]
      by_cases k3:aV w=3
      ·rw[YJ k3,show (w.2.2.2.1==3)=true by simpa using k3,Yz]
       simp only[Yo,AQ h,XI]
       rw[nx { x with due:=jO w,wish:= -1 } _ rfl]
      ·rw[YI k3,show (w.2.2.2.1==3)=false by simpa using k3,Yy]
       simp only[Yo,AQ h,XI]
       rw[nx { x with price:=JZ w,wish:= -1 } _ rfl]
   ·rw[YI h3,show (d.2.2.2.1==5)=false by simpa using h3,Yy,nx { x with wish:= -1 } _ rfl]
  ·rw[YJ h2,show (w.2.2.1 != d.2.2.2.2.2.2.2.2.2.2)=true by simpa using h2,Yz,jt h]
theorem Ac (h:A[k]? =some x) (hx:LOk x) {d:aa} {z:Bool} (hq:qOk (dQ d) z=true):
 kI (o,l,m,ref,pts,wt,()) (some k) d (A.map ai.tup)=some (nc (fQ o) d x,(o,l,m,ref,pts,wt,()),A.map ai.tup,()):=by
 unfold kI nc
 simp only[Yo,gh h,kS h hx,jZ hq]
 by_cases h1:jO d<fQ o
 ·rw[YJ h1,YB h1,Yz]
 ·rw[YI h1,YA h1,Yy]
  by_cases h2:0≤x.wish
  ·rw[YJ (.inl h2),YB (show x.wish≥0 from h2),Yz]
  ·rw[YA (show ¬x.wish≥0 from h2),Yy]
   by_cases h3:x.opn=0
   ·rw[YJ (.inr h3),show (x.opn==0)=true by simp[h3],Yz]
   ·rw[YI (fun e=>e.elim h2 h3),show (x.opn==0)=false by simp[h3],Yy]
    by_cases h4:x.opn<aU (dQ d)
    ·rw[YJ h4,YB (show aU (dQ d)>x.opn from h4),Yz]
    ·rw[YI h4,YA (show ¬aU (dQ d)>x.opn from h4),Yy]
theorem CT (h:A[k]? =some x) (hx:LOk x) (d:aa):
 nG (o,l,m,ref,pts,wt,()) (some k) d (A.map ai.tup)=some ((Fb d x).1,(o,l,m,ref,pts,wt,()),(A.set k (Fb d x).2).map ai.tup,()):=by
 unfold nG Fb
 simp only[Yo,gh h,AQ h,XI]
 have b0:=hx.ret0;have b1:=hx.retr;have b2:=hx.rcvs;have b3:=hx.shp1;have b4:=hx.vN;have b5:=hx.ord1
 by_cases h1:0≤x.wish
 ·rw[YJ h1,YB (show x.wish≥0 from h1),Yz,jt h]
 ·rw[YI h1,YA (show ¬x.wish≥0 from h1),Yy]
  by_cases h2:x.ono=0
  ·rw[YJ (.inl h2),show (x.ono==0)=true by simp[h2],Yz,jt h]
  ·rw[show (x.ono==0)=false by simp[h2],Yy]
   by_cases h3:x.ono=dTo d
   ·obtain⟨c1,c2⟩:=hx.off h2
    rw[YI (fun e=>e.elim h2 (fun e=>e h3)),show (x.ono != d.2.2.2.2.2.2.2.2.2.2)=false by simpa using h3,Yy,
     aC (n:=x.shp - x.ret) (by omega) (by omega),aC (n:=x.shp - x.ret+x.oq) (by omega) (by omega),
     nx { x with ord:=x.shp - x.ret+x.oq,due:=x.ount,ono:=0,oq:=0,ount:=0 } _ rfl]
   ·rw[YJ (.inr h3),show (x.ono != d.2.2.2.2.2.2.2.2.2.2)=true by simpa using h3,Yz,jt h]
theorem oO (h:A[k]? =some x) (hx:LOk x) (he0:0≤dJ o) (he1:dJ o≤1000) {d:aa} {z:Bool} (hq:qOk (dQ d) z=true):
 nF (o,l,m,ref,pts,wt,()) (some k) d (A.map ai.tup)=some ((cC (dJ o) d x).1,(o,l,m,ref,pts,wt,()),(A.set k (cC (dJ o) d x).2).map ai.tup,()):=by
 unfold nF cC
 simp only[Yo,gh h,AQ h,jZ hq]
 have b0:=hx.ret0;have b1:=hx.retr;have b2:=hx.rcvs;have b3:=hx.shp1;have b4:=hx.vN;have b5:=hx.ord1
 obtain⟨q0,q1,_⟩:=qp hq
 by_cases k9:aV d=9
 ·rw[YJ k9,show (d.2.2.2.1==9)=true by simpa using k9,Yz]
  have m0:0≤x.ord*dJ o:=Int.mul_nonneg b4 he0
  have m1:x.ord*dJ o≤x.ord*1000:=Wo he1 b4
  have e1:w64 (x.ord*dJ o)=x.ord*dJ o:=aC (by omega) (by omega)
  have e2:Int.tdiv (x.ord*dJ o) 1000=x.ord*dJ o / 1000:=Wr m0
  have d0:0≤x.ord*dJ o / 1000:=Int.ediv_nonneg m0 (by omega)
  have d1:x.ord*dJ o / 1000≤x.ord:=by omega
  rw[show w64 (x.ord*o.2.2.2.2.1)=x.ord*dJ o from e1,e2,aC (n:=x.ord*dJ o / 1000) (by omega) (by omega),aC (n:=x.ord+x.ord*dJ o / 1000) (by omega) (by omega),
   aC (n:=x.shp - x.ret) (by omega) (by omega),aC (n:=x.shp - x.ret+aU (dQ d)) (by omega) (by omega),aC (n:=x.shp+aU (dQ d)) (by omega) (by omega)]
  by_cases c1:x.ord+x.ord*dJ o / 1000<x.shp - x.ret+aU (dQ d)
  ·rw[YJ c1,YB (show x.shp - x.ret+aU (dQ d)>x.ord+x.ord*dJ o / 1000 from c1),Yz,jt h]
  ·rw[YI c1,YA (show ¬x.shp - x.ret+aU (dQ d)>x.ord+x.ord*dJ o / 1000 from c1),Yy]
   by_cases c2:1000000000000000<x.shp+aU (dQ d)
   ·rw[YJ c2,YB (show x.shp+aU (dQ d)>1000000000000000 from c2),Yz,jt h]
   ·rw[YI c2,YA (show ¬x.shp+aU (dQ d)>1000000000000000 from c2),Yy,nx { x with shp:=x.shp+aU (dQ d) } _ rfl]
 ·rw[YI k9,show (d.2.2.2.1==9)=false by simpa using k9,Yy]
  by_cases k10:aV d=10
  ·rw[YJ k10,show (d.2.2.2.1==10)=true by simpa using k10,Yz,aC (n:=x.rcv+aU (dQ d)) (by omega) (by omega)]
   by_cases c1:x.shp<x.rcv+aU (dQ d)
   ·rw[YJ c1,YB (show x.rcv+aU (dQ d)>x.shp from c1),Yz,jt h]
   ·rw[YI c1,YA (show ¬x.rcv+aU (dQ d)>x.shp from c1),Yy,nx { x with rcv:=x.rcv+aU (dQ d) } _ rfl]
  ·rw[YI k10,show (d.2.2.2.1==10)=false by simpa using k10,Yy,aC (n:=x.ret+aU (dQ d)) (by omega) (by omega)]
   by_cases c1:x.rcv<x.ret+aU (dQ d)
   ·rw[YJ c1,YB (show x.ret+aU (dQ d)>x.rcv from c1),Yz,jt h]
   ·rw[YI c1,YA (show ¬x.ret+aU (dQ d)>x.rcv from c1),Yy,nx { x with ret:=x.ret+aU (dQ d) } _ rfl]
end Go.Md
namespace Go.Md
open Go.Dn
def ai.clr (x:ai):ai:={ x with ono:=0,oq:=0,ount:=0 }
def dw (o:aj) (l:List aa) (i:Nat) (d:aa) (x:ai):Int×ai:=
 if aV d≤4 then Fk (fQ o) i d x
 else if aV d≤6 then (if (bT l d x).1=0 then (0,(bT l d x).2.clr) else bT l d x)
 else if aV d=7 then (if nc (fQ o) d x=0 then (0,{ x with ono:=dNo d,oq:=aU (dQ d),ount:=jO d }) else (nc (fQ o) d x,x))
 else if aV d=8 then Fb d x
 else if aV d=9 then (if (cC (dJ o) d x).1=0 then (0,(cC (dJ o) d x).2.clr) else cC (dJ o) d x)
 else cC (dJ o) d x
def wD (i:Nat) (d:aa):ai:=⟨lF d,d.2.2.2.2.2.1,d.2.2.2.2.2.2.2.1,0,0,0,0,JZ d,jO d,i,0,0,0⟩
def bF (o:aj) (l:List aa) (i:Nat) (d:aa) (A:List ai):Int×List ai:=
 if aV d=1 then
  (match gq (lF d) A with
  | some _=>(7,A)
  | none=>if 500≤A.length then (16,A) else if jO d<fQ o then (1,A) else (0,A++[wD i d]))
 else match gq (lF d) A with
  | none=>(9,A)
  | some k=>match A[k]? with
   | some x=>((dw o l i d x).1,A.set k (dw o l i d x).2)
   | none=>(9,A)
structure Sound (l:List aa) (A:List ai):Prop where
 line:∀ x,x∈A→LOk x∧WOk l x
theorem UY {x:ai} (h:LOk x):LOk x.clr:=⟨h.ret0,h.retr,h.rcvs,h.shp1,h.vN,h.ord1,fun e=>absurd rfl e⟩
theorem QA {l:List aa} {d:aa} {x:ai} (hx:LOk x) (hw:WOk l x) (hl:∀ d,d∈l→bX d=0):((bT l d x).1=0→LOk (bT l d x).2.clr)∧((bT l d x).1≠0→(bT l d x).2=x)∧((bT l d x).2=x∨(bT l d x).2.wish= -1)∧(bT l d x).2.no=x.no:=by
 have hk:LOk x.clr:=UY hx
 unfold bT
 by_cases h1:x.wish<0
 ·rw[YJ h1];exact⟨nofun,fun _=>rfl,.inl rfl,rfl⟩
 rw[YI h1]
 obtain⟨w,hw1,hw2⟩:=hw.kind (by omega)
 rw[mP hw1]
 obtain⟨_,_,_,_,_,_,hu⟩:=bY (hl w (Xw hw1))
 obtain⟨uq,_⟩:=fE hu
 by_cases h2:dNo w≠dTo d
 ·rw[YJ h2];exact⟨nofun,fun _=>rfl,.inl rfl,rfl⟩
 rw[YI h2]
 by_cases h3:aV d=5
 ·rw[YJ h3]
  by_cases k2:aV w=2
  ·rw[YJ k2]
   obtain⟨q0,q1,_⟩:=qp (uq (by rw[k2];rfl))
   by_cases h4:aU (dQ w)<x.shp - x.ret
   ·rw[YJ h4];exact⟨nofun,fun _=>rfl,.inl rfl,rfl⟩
   ·rw[YI h4];exact⟨fun _=>⟨hx.ret0,hx.retr,hx.rcvs,hx.shp1,q0,q1,fun e=>absurd rfl e⟩,fun e=>absurd rfl e,.inr rfl,rfl⟩
  ·rw[YI k2]
   by_cases k1:aV w=1
   ·rw[YJ k1]
    obtain⟨q0,q1,_⟩:=qp (uq (by rw[k1];rfl))
    exact⟨fun _=>⟨hx.ret0,hx.retr,hx.rcvs,hx.shp1,q0,q1,fun e=>absurd rfl e⟩,fun e=>absurd rfl e,.inr rfl,rfl⟩
   ·rw[YI k1]
    by_cases k3:aV w=3
    ·rw[YJ k3];exact⟨fun _=>⟨hx.ret0,hx.retr,hx.rcvs,hx.shp1,hx.vN,hx.ord1,fun e=>absurd rfl e⟩,fun e=>absurd rfl e,.inr rfl,rfl⟩
    ·rw[YI k3];exact⟨fun _=>⟨hx.ret0,hx.retr,hx.rcvs,hx.shp1,hx.vN,hx.ord1,fun e=>absurd rfl e⟩,fun e=>absurd rfl e,.inr rfl,rfl⟩
 ·rw[YI h3];exact⟨fun _=>⟨hx.ret0,hx.retr,hx.rcvs,hx.shp1,hx.vN,hx.ord1,fun e=>absurd rfl e⟩,fun e=>absurd rfl e,.inr rfl,rfl⟩
theorem Tt {ext:Int} {d:aa} {x:ai} {z:Bool} (hx:LOk x) (hq:qOk (dQ d) z=true):((cC ext d x).1=0→LOk (if aV d=9 then (cC ext d x).2.clr else (cC ext d x).2))∧((cC ext d x).1≠0→(cC ext d x).2=x)∧(cC ext d x).2.wish=x.wish∧(cC ext d x).2.no=x.no:=by
 obtain⟨q0,q1,_⟩:=qp hq
 have b0:=hx.ret0;have b1:=hx.retr;have b2:=hx.rcvs;have b3:=hx.shp1
 unfold cC
 by_cases k9:aV d=9
 ·rw[YJ k9,YJ k9]
  split
  ·exact⟨nofun,fun _=>rfl,rfl,rfl⟩
  ·split
   ·exact⟨nofun,fun _=>rfl,rfl,rfl⟩
   ·rename_i h1 h2
    exact⟨fun _=>⟨b0,b1,by show x.rcv≤x.shp+aU (dQ d);omega,by show x.shp+aU (dQ d)≤_;omega,hx.vN,hx.ord1,fun e=>absurd rfl e⟩,fun e=>absurd rfl e,rfl,rfl⟩
 ·rw[YI k9,YI k9]
  by_cases k10:aV d=10
  ·rw[YJ k10]
   split
   ·exact⟨nofun,fun _=>rfl,rfl,rfl⟩
   ·rename_i h1
    exact⟨fun _=>⟨b0,by show x.ret≤x.rcv+aU (dQ d);omega,by show x.rcv+aU (dQ d)≤x.shp;omega,b3,hx.vN,hx.ord1,hx.off⟩,fun e=>absurd rfl e,rfl,rfl⟩
  ·rw[YI k10]
   split
   ·exact⟨nofun,fun _=>rfl,rfl,rfl⟩
   ·rename_i h1
    exact⟨fun _=>⟨by show 0≤x.ret+aU (dQ d);omega,by show x.ret+aU (dQ d)≤x.rcv;omega,b2,b3,hx.vN,hx.ord1,fun e=>by
     obtain⟨c1,c2⟩:=hx.off e
     exact⟨c1,by show x.oq+x.shp - (x.ret+aU (dQ d))≤x.ord;omega⟩⟩,fun e=>absurd rfl e,rfl,rfl⟩
theorem CZ {o:aj} {l:List aa} {i:Nat} {d:aa} {x:ai} (hx:LOk x) (hw:WOk l x) (hl:∀ d,d∈l→bX d=0) (hd:l[i]? =some d):
 LOk (dw o l i d x).2∧WOk l (dw o l i d x).2∧(dw o l i d x).2.no=x.no∧((dw o l i d x).1≠0→(dw o l i d x).2=x):=by
 obtain⟨_,_,_,hk,_,_,hu⟩:=bY (hl d (Xw hd))
 obtain⟨uq,_⟩:=fE hu
 unfold dw
 by_cases k4:aV d≤4
 ·rw[YJ k4]
  unfold Fk
  split
  ·exact⟨hx,hw,rfl,fun _=>rfl⟩
  ·split
   ·exact⟨hx,hw,rfl,fun _=>rfl⟩
   ·refine⟨⟨hx.ret0,hx.retr,hx.rcvs,hx.shp1,hx.vN,hx.ord1,hx.off⟩,⟨by show (-1:Int)≤(i:Int);omega,fun _=>⟨d,by show l[((i:Int)).toNat]? =some d;simpa using hd,k4⟩⟩,rfl,fun e=>absurd rfl e⟩
 ·rw[YI k4]
  by_cases k6:aV d≤6
  ·rw[YJ k6]
   obtain⟨a1,a2,a3,a4⟩:=QA (d:=d) hx hw hl
   split
   ·rename_i e
    refine⟨a1 e, ?_,a4,fun e=>absurd rfl e⟩
    rcases a3 with a3 | a3
    ·rw[a3];exact⟨hw.low,hw.kind⟩
    ·exact⟨by show -1≤(bT l d x).2.wish;omega,fun h=>by have:0≤(bT l d x).2.wish:=h;omega⟩
   ·rename_i e
    rw[a2 e];exact⟨hx,hw,rfl,fun _=>rfl⟩
  ·rw[YI k6]
   by_cases k7:aV d=7
   ·rw[YJ k7]
    have hq:=uq (by rw[k7];rfl)
    rw[show (aV d==2)=false by rw[k7];rfl] at hq
    obtain⟨q0,q1,q2⟩:=qp hq
    split
    ·rename_i e
     refine⟨⟨hx.ret0,hx.retr,hx.rcvs,hx.shp1,hx.vN,hx.ord1,fun _=>⟨q2 rfl, ?_⟩⟩,⟨hw.low,hw.kind⟩,rfl,fun e=>absurd rfl e⟩
     show aU (dQ d)+x.shp - x.ret≤x.ord
     unfold nc at e
     split at e
     ·cases e
     ·split at e
      ·cases e
      ·split at e
       ·cases e
       ·rename_i h1 h2 h3
        have:=q2 rfl
        unfold ai.opn at h3
        split at h3<;>omega
    ·exact⟨hx,hw,rfl,fun _=>rfl⟩
   ·rw[YI k7]
    by_cases k8:aV d=8
    ·rw[YJ k8]
     unfold Fb
     split
     ·exact⟨hx,hw,rfl,fun _=>rfl⟩
     ·split
      ·exact⟨hx,hw,rfl,fun _=>rfl⟩
      ·rename_i h1 h2
       obtain⟨c1,c2⟩:=hx.off (fun e=>h2 (.inl e))
       have:=hx.ret0;have:=hx.retr;have:=hx.rcvs;have:=hx.ord1
       refine⟨⟨hx.ret0,hx.retr,hx.rcvs,hx.shp1, ?_, ?_,fun e=>absurd rfl e⟩,⟨hw.low,hw.kind⟩,rfl,fun e=>absurd rfl e⟩
       ·show 0≤x.shp - x.ret+x.oq;omega
       ·show x.shp - x.ret+x.oq≤1000000000000;omega
    ·rw[YI k8]
     have hq:=uq (by
      unfold usQ
      refine YB ⟨by omega,by omega,by omega,by omega,by omega⟩)
     obtain⟨a1,a2,a3,a4⟩:=Tt (ext:=dJ o) hx hq
     by_cases k9:aV d=9
     ·rw[YJ k9]
      split
      ·rename_i e
       have:=a1 e
       rw[YJ k9] at this
       exact⟨this,⟨by show -1≤(cC (dJ o) d x).2.wish;rw[a3];exact hw.low,fun h=>by
        have h':0≤(cC (dJ o) d x).2.wish:=h
        rw[a3] at h'
        show ∃ d',l[(cC (dJ o) d x).2.wish.toNat]? =some d'∧_
        rw[a3];exact hw.kind h'⟩,a4,fun e=>absurd rfl e⟩
      ·rename_i e
       rw[a2 e];exact⟨hx,hw,rfl,fun _=>rfl⟩
     ·rw[YI k9]
      by_cases e:(cC (dJ o) d x).1=0
      ·have:=a1 e
       rw[YI k9] at this
       exact⟨this,⟨by rw[a3];exact hw.low,fun h=>by rw[a3] at h ⊢;exact hw.kind h⟩,a4,fun h=>absurd e h⟩
      ·rw[a2 e];exact⟨hx,hw,rfl,fun _=>rfl⟩
theorem SR {l:List aa} {A:List ai} (h:Sound l A) {k:Nat} {y:ai} (h1:LOk y) (h2:WOk l y):Sound l (A.set k y):=⟨fun x hx=>by
 rcases Xx hx with hx | hx
 ·exact h.line x hx
 ·subst hx;exact⟨h1,h2⟩⟩
theorem NY {o:aj} {l:List aa} {i:Nat} {d:aa} {A:List ai} (hA:Sound l A) (hl:∀ d,d∈l→bX d=0) (hd:l[i]? =some d):
 Sound l (bF o l i d A).2∧((bF o l i d A).1≠0→(bF o l i d A).2=A):=by
 unfold bF
 by_cases k1:aV d=1
 ·rw[YJ k1]
  split
  ·exact⟨hA,fun _=>rfl⟩
  ·split
   ·exact⟨hA,fun _=>rfl⟩
   ·split
    ·exact⟨hA,fun _=>rfl⟩
    ·refine⟨⟨fun x hx=> ?_⟩,fun e=>absurd rfl e⟩
     rcases Xo.1 hx with hx | hx
     ·exact hA.line x hx
     ·simp only[Xz] at hx
      subst hx
      exact⟨⟨by show (0:Int)≤0;omega,by show (0:Int)≤0;omega,by show (0:Int)≤0;omega,by show (0:Int)≤_;omega,by show (0:Int)≤0;omega,by show (0:Int)≤_;omega,fun e=>absurd rfl e⟩,
       ⟨by show (-1:Int)≤(i:Int);omega,fun _=>⟨d,by show l[((i:Int)).toNat]? =some d;simpa using hd,by omega⟩⟩⟩
 ·rw[YI k1]
  split
  ·exact⟨hA,fun _=>rfl⟩
  ·rename_i k hk
   split
   ·rename_i x hx
    obtain⟨h1,h2⟩:=hA.line x (Xw hx)
    obtain⟨a1,a2,a3,a4⟩:=CZ (o:=o) h1 h2 hl hd
    exact⟨SR hA a1 a2,fun e=>by rw[a4 e];exact jt hx⟩
   ·exact⟨hA,fun _=>rfl⟩
variable {o:aj} {l:List aa} {ref:List ah} {pts:List au} {wt:Int} {A:List ai}
theorem DQ {i:Nat} {d:aa} (hd:l[i]? =some d) (k1:aV d=1):
 ox (o,l,mapOf A,ref,pts,wt,()) (i:Int) (A.map ai.tup)=some ((bF o l i d A).1,(o,l,mapOf (bF o l i d A).2,ref,pts,wt,()),(bF o l i d A).2.map ai.tup,()):=by
 unfold ox bF
 dsimp only
 rw[eS hd,Yo,iN,YJ k1]
 cases hf:gq (lF d) A with
 | some k=>rw[show bN d.2.2.2.2.1 0 A=some k from hf];rfl
 | none=>
  rw[show bN d.2.2.2.2.1 0 A=none from hf]
  dsimp only
  rw[show (!Option.isNone (none:Option Nat))=false from rfl,Yy]
  by_cases h1:500≤A.length
  ·rw[YJ h1,YB (show ((mapOf A).length:Int)≥500 by rw[ze];omega),Yz]
  ·rw[YI h1,YA (show ¬((mapOf A).length:Int)≥500 by rw[ze];omega),Yy]
   by_cases h2:jO d<fQ o
   ·rw[YJ h2,YB h2,Yz]
   ·rw[YI h2,YA h2,Yy]
    have hs:=Jt (lF d) (wD i d) rfl A 0 hf
    rw[Yl] at hs
    rw[Xf]
    refine congrArg some ?_
    refine Prod.ext rfl (Prod.ext ?_ (Prod.ext ?_ rfl))
    ·exact Prod.ext rfl (Prod.ext rfl (Prod.ext hs rfl))
    ·show List.map ai.tup A++[_]=List.map ai.tup (A++[wD i d])
     rw[Xk]
     rfl
end Go.Md
namespace Go.Md
open Go.Dn
theorem QF {o:aj} {l:List aa} {i:Nat} {d:aa} {A:List ai} (k1:aV d≠1) (hf:gq (lF d) A=none):bF o l i d A=(9,A):=by
 unfold bF;rw[YI k1,hf]
theorem Mo {o:aj} {l:List aa} {i:Nat} {d:aa} {A:List ai} {k:Nat} {x:ai} (k1:aV d≠1) (hf:gq (lF d) A=some k) (hx:A[k]? =some x):bF o l i d A=((dw o l i d x).1,A.set k (dw o l i d x).2):=by
 unfold bF;rw[YI k1,hf];dsimp only;rw[hx]
variable {o:aj} {l:List aa} {ref:List ah} {pts:List au} {wt:Int} {A:List ai}
theorem Ma {k:Nat} (x:ai) (y:ai) (T:ak) (hT:T=y.tup):List.set ((A.set k x).map ai.tup) k T=(A.set k y).map ai.tup:=by
 rw[hT,Qs,XI]
theorem Ug {onum obuy osel:Bys} {oday oext:Int} {olns:List aO} {day byy no line:Int} {art:Bys} {q:ah} {unit:Bys} {p:ah} {un to:Int} {i:Nat} (he0:0≤oext) (he1:oext≤1000) (hl:∀ d,d∈l→bX d=0)
 (hd:l[i]? =some (day,byy,no,2,line,art,q,unit,p,un,to)) {k:Nat} {x:ai} (hf:bN line 0 A=some k) (hx:A[k]? =some x) (hs:LOk x) (hw:WOk l x):
 aK ((onum,obuy,osel,oday,oext,olns),l,mapOf A,ref,pts,wt,()) (i:Int) (A.map ai.tup)=some ((dw (onum,obuy,osel,oday,oext,olns) l i (day,byy,no,2,line,art,q,unit,p,un,to) x).1,((onum,obuy,osel,oday,oext,olns),l,mapOf A,ref,pts,wt,()),(A.set k (dw (onum,obuy,osel,oday,oext,olns) l i (day,byy,no,2,line,art,q,unit,p,un,to) x).2).map ai.tup,()):=by
 have hdf:=hl _ (Xw hd)
 obtain⟨_,_,_,_,_,_,hu⟩:=bY hdf
 obtain⟨uq,_⟩:=fE hu
 have h21:((2:Int)==1)=false:=rfl
 have h22:((2:Int)==2)=true:=rfl
 have h23:((2:Int)==3)=false:=rfl
 have h24:((2:Int)==4)=false:=rfl
 have h25:((2:Int)==5)=false:=rfl
 have h26:((2:Int)==6)=false:=rfl
 have h27:((2:Int)==7)=false:=rfl
 have h28:((2:Int)==8)=false:=rfl
 have h29:((2:Int)==9)=false:=rfl
 unfold aK
 dsimp only
 rw[eS hd,Yo]
 dsimp only
 rw[iN,hf]
 simp only[h21,h22,h23,h24,h25,h26,h27,h28,h29,Yz,Yy,aL,Yr,Yo,oP hx hd]
 rfl
theorem Uh {onum obuy osel:Bys} {oday oext:Int} {olns:List aO} {day byy no line:Int} {art:Bys} {q:ah} {unit:Bys} {p:ah} {un to:Int} {i:Nat} (he0:0≤oext) (he1:oext≤1000) (hl:∀ d,d∈l→bX d=0)
 (hd:l[i]? =some (day,byy,no,3,line,art,q,unit,p,un,to)) {k:Nat} {x:ai} (hf:bN line 0 A=some k) (hx:A[k]? =some x) (hs:LOk x) (hw:WOk l x):
 aK ((onum,obuy,osel,oday,oext,olns),l,mapOf A,ref,pts,wt,()) (i:Int) (A.map ai.tup)=some ((dw (onum,obuy,osel,oday,oext,olns) l i (day,byy,no,3,line,art,q,unit,p,un,to) x).1,((onum,obuy,osel,oday,oext,olns),l,mapOf A,ref,pts,wt,()),(A.set k (dw (onum,obuy,osel,oday,oext,olns) l i (day,byy,no,3,line,art,q,unit,p,un,to) x).2).map ai.tup,()):=by
 have hdf:=hl _ (Xw hd)
 obtain⟨_,_,_,_,_,_,hu⟩:=bY hdf
 obtain⟨uq,_⟩:=fE hu
 have h31:((3:Int)==1)=false:=rfl
 have h32:((3:Int)==2)=false:=rfl
 have h33:((3:Int)==3)=true:=rfl
 have h34:((3:Int)==4)=false:=rfl
 have h35:((3:Int)==5)=false:=rfl
 have h36:((3:Int)==6)=false:=rfl
 have h37:((3:Int)==7)=false:=rfl
 have h38:((3:Int)==8)=false:=rfl
 have h39:((3:Int)==9)=false:=rfl
 unfold aK
 dsimp only
 rw[eS hd,Yo]
 dsimp only
 rw[iN,hf]
 simp only[h31,h32,h33,h34,h35,h36,h37,h38,h39,Yz,Yy,aL,Yr,Yo,oP hx hd]
 rfl
theorem Ui {onum obuy osel:Bys} {oday oext:Int} {olns:List aO} {day byy no line:Int} {art:Bys} {q:ah} {unit:Bys} {p:ah} {un to:Int} {i:Nat} (he0:0≤oext) (he1:oext≤1000) (hl:∀ d,d∈l→bX d=0)
 (hd:l[i]? =some (day,byy,no,4,line,art,q,unit,p,un,to)) {k:Nat} {x:ai} (hf:bN line 0 A=some k) (hx:A[k]? =some x) (hs:LOk x) (hw:WOk l x):
 aK ((onum,obuy,osel,oday,oext,olns),l,mapOf A,ref,pts,wt,()) (i:Int) (A.map ai.tup)=some ((dw (onum,obuy,osel,oday,oext,olns) l i (day,byy,no,4,line,art,q,unit,p,un,to) x).1,((onum,obuy,osel,oday,oext,olns),l,mapOf A,ref,pts,wt,()),(A.set k (dw (onum,obuy,osel,oday,oext,olns) l i (day,byy,no,4,line,art,q,unit,p,un,to) x).2).map ai.tup,()):=by
 have hdf:=hl _ (Xw hd)
 obtain⟨_,_,_,_,_,_,hu⟩:=bY hdf
 obtain⟨uq,_⟩:=fE hu
 have h41:((4:Int)==1)=false:=rfl
 have h42:((4:Int)==2)=false:=rfl
 have h43:((4:Int)==3)=false:=rfl
 have h44:((4:Int)==4)=true:=rfl
 have h45:((4:Int)==5)=false:=rfl
 have h46:((4:Int)==6)=false:=rfl
 have h47:((4:Int)==7)=false:=rfl
 have h48:((4:Int)==8)=false:=rfl
 have h49:((4:Int)==9)=false:=rfl
 unfold aK
 dsimp only
 rw[eS hd,Yo]
 dsimp only
 rw[iN,hf]
 simp only[h41,h42,h43,h44,h45,h46,h47,h48,h49,Yz,Yy,aL,Yr,Yo,oP hx hd]
 rfl
theorem Uj {onum obuy osel:Bys} {oday oext:Int} {olns:List aO} {day byy no line:Int} {art:Bys} {q:ah} {unit:Bys} {p:ah} {un to:Int} {i:Nat} (he0:0≤oext) (he1:oext≤1000) (hl:∀ d,d∈l→bX d=0)
 (hd:l[i]? =some (day,byy,no,5,line,art,q,unit,p,un,to)) {k:Nat} {x:ai} (hf:bN line 0 A=some k) (hx:A[k]? =some x) (hs:LOk x) (hw:WOk l x):
 aK ((onum,obuy,osel,oday,oext,olns),l,mapOf A,ref,pts,wt,()) (i:Int) (A.map ai.tup)=some ((dw (onum,obuy,osel,oday,oext,olns) l i (day,byy,no,5,line,art,q,unit,p,un,to) x).1,((onum,obuy,osel,oday,oext,olns),l,mapOf A,ref,pts,wt,()),(A.set k (dw (onum,obuy,osel,oday,oext,olns) l i (day,byy,no,5,line,art,q,unit,p,un,to) x).2).map ai.tup,()):=by
 have hdf:=hl _ (Xw hd)
 obtain⟨_,_,_,_,_,_,hu⟩:=bY hdf
 obtain⟨uq,_⟩:=fE hu
 have h51:((5:Int)==1)=false:=rfl
 have h52:((5:Int)==2)=false:=rfl
 have h53:((5:Int)==3)=false:=rfl
 have h54:((5:Int)==4)=false:=rfl
 have h55:((5:Int)==5)=true:=rfl
 have h56:((5:Int)==6)=false:=rfl
 have h57:((5:Int)==7)=false:=rfl
 have h58:((5:Int)==8)=false:=rfl
 have h59:((5:Int)==9)=false:=rfl
 unfold aK
 dsimp only
 rw[eS hd,Yo]
 dsimp only
 rw[iN,hf]
 simp only[h51,h52,h53,h54,h55,h56,h57,h58,h59,Yz,Yy,aL,Yr,Yo,s9 hx hs hw hl,gF]
 have ha:dw (onum,obuy,osel,oday,oext,olns) l i (day,byy,no,5,line,art,q,unit,p,un,to) x=(if (bT l (day,byy,no,5,line,art,q,unit,p,un,to) x).1=0 then (0,(bT l (day,byy,no,5,line,art,q,unit,p,un,to) x).2.clr) else bT l (day,byy,no,5,line,art,q,unit,p,un,to) x):=rfl
 rw[ha]
 by_cases e:(bT l (day,byy,no,5,line,art,q,unit,p,un,to) x).1=0
 ·rw[YJ e,e]
  simp only[show ((0:Int)==0)=true from rfl,Yz,Yo,gh (H7 hx _)]
  simp only[true_or,or_true,YE,Yz]
  refine congrArg some (Prod.ext rfl (Prod.ext rfl (Prod.ext ?_ rfl)))
  exact Ma (bT l (day,byy,no,5,line,art,q,unit,p,un,to) x).2 ((bT l (day,byy,no,5,line,art,q,unit,p,un,to) x).2.clr) _ rfl
 ·rw[YI e,jE e,Yy]
  rfl
theorem Uk {onum obuy osel:Bys} {oday oext:Int} {olns:List aO} {day byy no line:Int} {art:Bys} {q:ah} {unit:Bys} {p:ah} {un to:Int} {i:Nat} (he0:0≤oext) (he1:oext≤1000) (hl:∀ d,d∈l→bX d=0)
 (hd:l[i]? =some (day,byy,no,6,line,art,q,unit,p,un,to)) {k:Nat} {x:ai} (hf:bN line 0 A=some k) (hx:A[k]? =some x) (hs:LOk x) (hw:WOk l x):
 aK ((onum,obuy,osel,oday,oext,olns),l,mapOf A,ref,pts,wt,()) (i:Int) (A.map ai.tup)=some ((dw (onum,obuy,osel,oday,oext,olns) l i (day,byy,no,6,line,art,q,unit,p,un,to) x).1,((onum,obuy,osel,oday,oext,olns),l,mapOf A,ref,pts,wt,()),(A.set k (dw (onum,obuy,osel,oday,oext,olns) l i (day,byy,no,6,line,art,q,unit,p,un,to) x).2).map ai.tup,()):=by
 have hdf:=hl _ (Xw hd)
 obtain⟨_,_,_,_,_,_,hu⟩:=bY hdf
 obtain⟨uq,_⟩:=fE hu
 have h61:((6:Int)==1)=false:=rfl
 have h62:((6:Int)==2)=false:=rfl
 have h63:((6:Int)==3)=false:=rfl
 have h64:((6:Int)==4)=false:=rfl
 have h65:((6:Int)==5)=false:=rfl
 have h66:((6:Int)==6)=true:=rfl
 have h67:((6:Int)==7)=false:=rfl
 have h68:((6:Int)==8)=false:=rfl
 have h69:((6:Int)==9)=false:=rfl
 unfold aK
 dsimp only
 rw[eS hd,Yo]
 dsimp only
 rw[iN,hf]
 simp only[h61,h62,h63,h64,h65,h66,h67,h68,h69,Yz,Yy,aL,Yr,Yo,s9 hx hs hw hl,gF]
 have ha:dw (onum,obuy,osel,oday,oext,olns) l i (day,byy,no,6,line,art,q,unit,p,un,to) x=(if (bT l (day,byy,no,6,line,art,q,unit,p,un,to) x).1=0 then (0,(bT l (day,byy,no,6,line,art,q,unit,p,un,to) x).2.clr) else bT l (day,byy,no,6,line,art,q,unit,p,un,to) x):=rfl
 rw[ha]
 by_cases e:(bT l (day,byy,no,6,line,art,q,unit,p,un,to) x).1=0
 ·rw[YJ e,e]
  simp only[show ((0:Int)==0)=true from rfl,Yz,Yo,gh (H7 hx _)]
  simp only[true_or,or_true,YE,Yz]
  refine congrArg some (Prod.ext rfl (Prod.ext rfl (Prod.ext ?_ rfl)))
  exact Ma (bT l (day,byy,no,6,line,art,q,unit,p,un,to) x).2 ((bT l (day,byy,no,6,line,art,q,unit,p,un,to) x).2.clr) _ rfl
 ·rw[YI e,jE e,Yy]
  rfl
theorem Ul {onum obuy osel:Bys} {oday oext:Int} {olns:List aO} {day byy no line:Int} {art:Bys} {q:ah} {unit:Bys} {p:ah} {un to:Int} {i:Nat} (he0:0≤oext) (he1:oext≤1000) (hl:∀ d,d∈l→bX d=0)
 (hd:l[i]? =some (day,byy,no,7,line,art,q,unit,p,un,to)) {k:Nat} {x:ai} (hf:bN line 0 A=some k) (hx:A[k]? =some x) (hs:LOk x) (hw:WOk l x):
 aK ((onum,obuy,osel,oday,oext,olns),l,mapOf A,ref,pts,wt,()) (i:Int) (A.map ai.tup)=some ((dw (onum,obuy,osel,oday,oext,olns) l i (day,byy,no,7,line,art,q,unit,p,un,to) x).1,((onum,obuy,osel,oday,oext,olns),l,mapOf A,ref,pts,wt,()),(A.set k (dw (onum,obuy,osel,oday,oext,olns) l i (day,byy,no,7,line,art,q,unit,p,un,to) x).2).map ai.tup,()):=by
 have hdf:=hl _ (Xw hd)
 obtain⟨_,_,_,_,_,_,hu⟩:=bY hdf
 obtain⟨uq,_⟩:=fE hu
 have h71:((7:Int)==1)=false:=rfl
 have h72:((7:Int)==2)=false:=rfl
 have h73:((7:Int)==3)=false:=rfl
 have h74:((7:Int)==4)=false:=rfl
 have h75:((7:Int)==5)=false:=rfl
 have h76:((7:Int)==6)=false:=rfl
 have h77:((7:Int)==7)=true:=rfl
 have h78:((7:Int)==8)=false:=rfl
 have h79:((7:Int)==9)=false:=rfl
 unfold aK
 dsimp only
 rw[eS hd,Yo]
 dsimp only
 rw[iN,hf]
 have hq:qOk q false=true:=uq rfl
 simp only[h71,h72,h73,h74,h75,h76,h77,h78,h79,Yz,Yy,aL,Yr,Yo,Ac hx hs (d:=(day,byy,no,7,line,art,q,unit,p,un,to)) hq,gF]
 have ha:dw (onum,obuy,osel,oday,oext,olns) l i (day,byy,no,7,line,art,q,unit,p,un,to) x=(if nc oday (day,byy,no,7,line,art,q,unit,p,un,to) x=0 then (0,{ x with ono:=no,oq:=aU q,ount:=un }) else (nc oday (day,byy,no,7,line,art,q,unit,p,un,to) x,x)):=rfl
 rw[ha]
 by_cases e:nc oday (day,byy,no,7,line,art,q,unit,p,un,to) x=0
 ·rw[YJ e,show nc (fQ (onum,obuy,osel,oday,oext,olns)) (day,byy,no,7,line,art,q,unit,p,un,to) x=0 from e]
  simp only[show ((0:Int)==0)=true from rfl,Yz,Yo,gh hx]
  simp only[true_or,or_true,YE,Yz]
  rw[show gM (q.1,q.2)=some (aU q,()) from jZ hq,Yo]
  simp only[AQ hx,Yo,XI]
  rw[nx { x with ono:=no,oq:=aU q,ount:=un } _ rfl]
 ·rw[YI e,show (nc (fQ (onum,obuy,osel,oday,oext,olns)) (day,byy,no,7,line,art,q,unit,p,un,to) x==0)=false from jE e,Yy,jt hx]
  rfl
theorem Um {onum obuy osel:Bys} {oday oext:Int} {olns:List aO} {day byy no line:Int} {art:Bys} {q:ah} {unit:Bys} {p:ah} {un to:Int} {i:Nat} (he0:0≤oext) (he1:oext≤1000) (hl:∀ d,d∈l→bX d=0)
 (hd:l[i]? =some (day,byy,no,8,line,art,q,unit,p,un,to)) {k:Nat} {x:ai} (hf:bN line 0 A=some k) (hx:A[k]? =some x) (hs:LOk x) (hw:WOk l x):
 aK ((onum,obuy,osel,oday,oext,olns),l,mapOf A,ref,pts,wt,()) (i:Int) (A.map ai.tup)=some ((dw (onum,obuy,osel,oday,oext,olns) l i (day,byy,no,8,line,art,q,unit,p,un,to) x).1,((onum,obuy,osel,oday,oext,olns),l,mapOf A,ref,pts,wt,()),(A.set k (dw (onum,obuy,osel,oday,oext,olns) l i (day,byy,no,8,line,art,q,unit,p,un,to) x).2).map ai.tup,()):=by
 have hdf:=hl _ (Xw hd)
 obtain⟨_,_,_,_,_,_,hu⟩:=bY hdf
 obtain⟨uq,_⟩:=fE hu
 have h81:((8:Int)==1)=false:=rfl
 have h82:((8:Int)==2)=false:=rfl
 have h83:((8:Int)==3)=false:=rfl
 have h84:((8:Int)==4)=false:=rfl
 have h85:((8:Int)==5)=false:=rfl
 have h86:((8:Int)==6)=false:=rfl
 have h87:((8:Int)==7)=false:=rfl
 have h88:((8:Int)==8)=true:=rfl
 have h89:((8:Int)==9)=false:=rfl
 unfold aK
 dsimp only
 rw[eS hd,Yo]
 dsimp only
 rw[iN,hf]
 simp only[h81,h82,h83,h84,h85,h86,h87,h88,h89,Yz,Yy,aL,Yr,Yo,CT hx hs]
 rfl
theorem Un {onum obuy osel:Bys} {oday oext:Int} {olns:List aO} {day byy no line:Int} {art:Bys} {q:ah} {unit:Bys} {p:ah} {un to:Int} {i:Nat} (he0:0≤oext) (he1:oext≤1000) (hl:∀ d,d∈l→bX d=0)
 (hd:l[i]? =some (day,byy,no,9,line,art,q,unit,p,un,to)) {k:Nat} {x:ai} (hf:bN line 0 A=some k) (hx:A[k]? =some x) (hs:LOk x) (hw:WOk l x):
 aK ((onum,obuy,osel,oday,oext,olns),l,mapOf A,ref,pts,wt,()) (i:Int) (A.map ai.tup)=some ((dw (onum,obuy,osel,oday,oext,olns) l i (day,byy,no,9,line,art,q,unit,p,un,to) x).1,((onum,obuy,osel,oday,oext,olns),l,mapOf A,ref,pts,wt,()),(A.set k (dw (onum,obuy,osel,oday,oext,olns) l i (day,byy,no,9,line,art,q,unit,p,un,to) x).2).map ai.tup,()):=by
 have hdf:=hl _ (Xw hd)
 obtain⟨_,_,_,_,_,_,hu⟩:=bY hdf
 obtain⟨uq,_⟩:=fE hu
 have h91:((9:Int)==1)=false:=rfl
 have h92:((9:Int)==2)=false:=rfl
 have h93:((9:Int)==3)=false:=rfl
 have h94:((9:Int)==4)=false:=rfl
 have h95:((9:Int)==5)=false:=rfl
 have h96:((9:Int)==6)=false:=rfl
 have h97:((9:Int)==7)=false:=rfl
 have h98:((9:Int)==8)=false:=rfl
 have h99:((9:Int)==9)=true:=rfl
 unfold aK
 dsimp only
 rw[eS hd,Yo]
 dsimp only
 rw[iN,hf]
 have hq:qOk q false=true:=uq rfl
 simp only[h91,h92,h93,h94,h95,h96,h97,h98,h99,Yz,Yy,aL,Yr,Yo,oO hx hs (o:=(onum,obuy,osel,oday,oext,olns)) he0 he1 (d:=(day,byy,no,9,line,art,q,unit,p,un,to)) hq,gF]
 have ha:dw (onum,obuy,osel,oday,oext,olns) l i (day,byy,no,9,line,art,q,unit,p,un,to) x=(if (cC oext (day,byy,no,9,line,art,q,unit,p,un,to) x).1=0 then (0,(cC oext (day,byy,no,9,line,art,q,unit,p,un,to) x).2.clr) else cC oext (day,byy,no,9,line,art,q,unit,p,un,to) x):=rfl
 rw[ha]
 by_cases e:(cC oext (day,byy,no,9,line,art,q,unit,p,un,to) x).1=0
 ·rw[YJ e,show (cC (dJ (onum,obuy,osel,oday,oext,olns)) (day,byy,no,9,line,art,q,unit,p,un,to) x).1=0 from e]
  simp only[show ((0:Int)==0)=true from rfl,Yz,Yo,gh (H7 hx _)]
  simp only[true_or,or_true,YE,Yz]
  refine congrArg some (Prod.ext rfl (Prod.ext rfl (Prod.ext ?_ rfl)))
  exact Ma (cC oext (day,byy,no,9,line,art,q,unit,p,un,to) x).2 ((cC oext (day,byy,no,9,line,art,q,unit,p,un,to) x).2.clr) _ rfl
 ·rw[YI e,show ((cC (dJ (onum,obuy,osel,oday,oext,olns)) (day,byy,no,9,line,art,q,unit,p,un,to) x).1==0)=false from jE e,Yy]
  rfl
theorem Tb {onum obuy osel:Bys} {oday oext:Int} {olns:List aO} {day byy no line:Int} {art:Bys} {q:ah} {unit:Bys} {p:ah} {un to:Int} {i:Nat} (he0:0≤oext) (he1:oext≤1000) (hl:∀ d,d∈l→bX d=0)
 (hd:l[i]? =some (day,byy,no,10,line,art,q,unit,p,un,to)) {k:Nat} {x:ai} (hf:bN line 0 A=some k) (hx:A[k]? =some x) (hs:LOk x) (hw:WOk l x):
 aK ((onum,obuy,osel,oday,oext,olns),l,mapOf A,ref,pts,wt,()) (i:Int) (A.map ai.tup)=some ((dw (onum,obuy,osel,oday,oext,olns) l i (day,byy,no,10,line,art,q,unit,p,un,to) x).1,((onum,obuy,osel,oday,oext,olns),l,mapOf A,ref,pts,wt,()),(A.set k (dw (onum,obuy,osel,oday,oext,olns) l i (day,byy,no,10,line,art,q,unit,p,un,to) x).2).map ai.tup,()):=by
 have hdf:=hl _ (Xw hd)
 obtain⟨_,_,_,_,_,_,hu⟩:=bY hdf
 obtain⟨uq,_⟩:=fE hu
 have h101:((10:Int)==1)=false:=rfl
 have h102:((10:Int)==2)=false:=rfl
 have h103:((10:Int)==3)=false:=rfl
 have h104:((10:Int)==4)=false:=rfl
 have h105:((10:Int)==5)=false:=rfl
 have h106:((10:Int)==6)=false:=rfl
 have h107:((10:Int)==7)=false:=rfl
 have h108:((10:Int)==8)=false:=rfl
 have h109:((10:Int)==9)=false:=rfl
 unfold aK
 dsimp only
 rw[eS hd,Yo]
 dsimp only
 rw[iN,hf]
 have hq:qOk q false=true:=uq rfl
 simp only[h101,h102,h103,h104,h105,h106,h107,h108,h109,Yz,Yy,aL,Yr,Yo,oO hx hs (o:=(onum,obuy,osel,oday,oext,olns)) he0 he1 (d:=(day,byy,no,10,line,art,q,unit,p,un,to)) hq,gF]
 have ha:dw (onum,obuy,osel,oday,oext,olns) l i (day,byy,no,10,line,art,q,unit,p,un,to) x=cC oext (day,byy,no,10,line,art,q,unit,p,un,to) x:=rfl
 rw[ha]
 by_cases e:(cC oext (day,byy,no,10,line,art,q,unit,p,un,to) x).1=0
 ·rw[show ((cC (dJ (onum,obuy,osel,oday,oext,olns)) (day,byy,no,10,line,art,q,unit,p,un,to) x).1==0)=true by show ((cC oext (day,byy,no,10,line,art,q,unit,p,un,to) x).1==0)=true;rw[e];rfl]
  rfl
 ·rw[show ((cC (dJ (onum,obuy,osel,oday,oext,olns)) (day,byy,no,10,line,art,q,unit,p,un,to) x).1==0)=false from jE e]
  rfl
theorem Tc {onum obuy osel:Bys} {oday oext:Int} {olns:List aO} {day byy no line:Int} {art:Bys} {q:ah} {unit:Bys} {p:ah} {un to:Int} {i:Nat} (he0:0≤oext) (he1:oext≤1000) (hl:∀ d,d∈l→bX d=0)
 (hd:l[i]? =some (day,byy,no,11,line,art,q,unit,p,un,to)) {k:Nat} {x:ai} (hf:bN line 0 A=some k) (hx:A[k]? =some x) (hs:LOk x) (hw:WOk l x):
 aK ((onum,obuy,osel,oday,oext,olns),l,mapOf A,ref,pts,wt,()) (i:Int) (A.map ai.tup)=some ((dw (onum,obuy,osel,oday,oext,olns) l i (day,byy,no,11,line,art,q,unit,p,un,to) x).1,((onum,obuy,osel,oday,oext,olns),l,mapOf A,ref,pts,wt,()),(A.set k (dw (onum,obuy,osel,oday,oext,olns) l i (day,byy,no,11,line,art,q,unit,p,un,to) x).2).map ai.tup,()):=by
 have hdf:=hl _ (Xw hd)
 obtain⟨_,_,_,_,_,_,hu⟩:=bY hdf
 obtain⟨uq,_⟩:=fE hu
 have h111:((11:Int)==1)=false:=rfl
 have h112:((11:Int)==2)=false:=rfl
 have h113:((11:Int)==3)=false:=rfl
 have h114:((11:Int)==4)=false:=rfl
 have h115:((11:Int)==5)=false:=rfl
 have h116:((11:Int)==6)=false:=rfl
 have h117:((11:Int)==7)=false:=rfl
 have h118:((11:Int)==8)=false:=rfl
 have h119:((11:Int)==9)=false:=rfl
 unfold aK
 dsimp only
 rw[eS hd,Yo]
 dsimp only
 rw[iN,hf]
 have hq:qOk q false=true:=uq rfl
 simp only[h111,h112,h113,h114,h115,h116,h117,h118,h119,Yz,Yy,aL,Yr,Yo,oO hx hs (o:=(onum,obuy,osel,oday,oext,olns)) he0 he1 (d:=(day,byy,no,11,line,art,q,unit,p,un,to)) hq,gF]
 have ha:dw (onum,obuy,osel,oday,oext,olns) l i (day,byy,no,11,line,art,q,unit,p,un,to) x=cC oext (day,byy,no,11,line,art,q,unit,p,un,to) x:=rfl
 rw[ha]
 by_cases e:(cC oext (day,byy,no,11,line,art,q,unit,p,un,to) x).1=0
 ·rw[show ((cC (dJ (onum,obuy,osel,oday,oext,olns)) (day,byy,no,11,line,art,q,unit,p,un,to) x).1==0)=true by show ((cC oext (day,byy,no,11,line,art,q,unit,p,un,to) x).1==0)=true;rw[e];rfl]
  rfl
 ·rw[show ((cC (dJ (onum,obuy,osel,oday,oext,olns)) (day,byy,no,11,line,art,q,unit,p,un,to) x).1==0)=false from jE e]
  rfl
theorem CS {i:Nat} {d:aa} (hA:Sound l A) (hl:∀ d,d∈l→bX d=0) (hd:l[i]? =some d) (he0:0≤dJ o) (he1:dJ o≤1000):
 aK (o,l,mapOf A,ref,pts,wt,()) (i:Int) (A.map ai.tup)=some ((bF o l i d A).1,(o,l,mapOf (bF o l i d A).2,ref,pts,wt,()),(bF o l i d A).2.map ai.tup,()):=by
 obtain⟨_,_,_,hk,_,_,_⟩:=bY (hl d (Xw hd))
 by_cases k1:aV d=1
 ·unfold aK
  dsimp only
  rw[eS hd,Yo,show (d.2.2.2.1==1)=true by simpa using k1,Yz]
  rw[DQ hd k1,Yo]
 ·cases hf:gq (lF d) A with
  | none=>
   rw[QF k1 hf]
   unfold aK
   dsimp only
   rw[eS hd,Yo,show (d.2.2.2.1==1)=false by simpa using k1,Yy]
   rw[iN,show bN d.2.2.2.2.1 0 A=none from hf]
   rfl
  | some k=>
   obtain⟨x,hx,hxn⟩:=tV hf
   rw[Mo k1 hf hx]
   obtain⟨hs,hw⟩:=hA.line x (Xw hx)
   have hm:mapOf (A.set k (dw o l i d x).2)=mapOf A:=Sl A 0 (fun z hz=>by
    rw[hx] at hz;cases hz
    exact (CZ (o:=o) hs hw hl hd).2.2.1)
   rw[hm]
   obtain⟨onum,obuy,osel,oday,oext,olns⟩:=o
   obtain⟨day,byy,no,kk,line,art,q,unit,p,un,to⟩:=d
   have hk':kk=2∨kk=3∨kk=4∨kk=5∨kk=6∨kk=7∨kk=8∨kk=9∨kk=10∨kk=11:=by
    have h1:1≤kk∧kk≤11:=hk
    have h2:kk≠1:=k1
    omega
   rcases hk' with rfl | rfl | rfl | rfl | rfl | rfl | rfl | rfl | rfl | rfl
   ·exact Ug he0 he1 hl hd hf hx hs hw
   ·exact Uh he0 he1 hl hd hf hx hs hw
   ·exact Ui he0 he1 hl hd hf hx hs hw
   ·exact Uj he0 he1 hl hd hf hx hs hw
   ·exact Uk he0 he1 hl hd hf hx hs hw
   ·exact Ul he0 he1 hl hd hf hx hs hw
   ·exact Um he0 he1 hl hd hf hx hs hw
   ·exact Un he0 he1 hl hd hf hx hs hw
   ·exact Tb he0 he1 hl hd hf hx hs hw
   ·exact Tc he0 he1 hl hd hf hx hs hw
end Go.Md
