/-
  Plain facts: deeds and orders checked; what a deed does with a line. No condition.
-/
import Derived.Test.YtcpmaicaibdafaaGreatDoorZo
import Derived.Test.YtcpmaicaibdafaaGreatDoorZr
set_option linter.all false
namespace Go.Md
open Go.Dn
theorem jG (k:Int):sQ k=some (decide (k=5∨k=6∨k=7∨k=9),()):=by
 unfold sQ
 by_cases h5:k=5
 ·subst h5;rfl
 by_cases h6:k=6
 ·subst h6;rfl
 by_cases h7:k=7
 ·subst h7;rfl
 by_cases h9:k=9
 ·subst h9;rfl
 have e5:(k==5)=false:=by simp[h5]
 have e6:(k==6)=false:=by simp[h6]
 have e7:(k==7)=false:=by simp[h7]
 have e9:(k==9)=false:=by simp[h9]
 simp only[e5,e6,e7,e9,ajn]
 simp[h5,h6,h7,h9]
def usA (k:Int):Bool:=decide (k=1)
def usQ (k:Int):Bool:=decide (k≠3∧k≠4∧k≠5∧k≠6∧k≠8)
def usP (k:Int):Bool:=decide (k=1∨k=4)
def usU (k:Int):Bool:=decide (k=1∨k=3∨k=7)
def usT (k:Int):Bool:=decide (k=5∨k=6∨k=8)
theorem Ti (k:Int):C3 k=some ((usA k,usQ k,usA k,usP k,usU k,usT k),()):=by
 unfold C3
 by_cases h1:k=1
 ·subst h1;rfl
 by_cases h3:k=3
 ·subst h3;rfl
 by_cases h4:k=4
 ·subst h4;rfl
 by_cases h5:k=5
 ·subst h5;rfl
 by_cases h6:k=6
 ·subst h6;rfl
 by_cases h7:k=7
 ·subst h7;rfl
 by_cases h8:k=8
 ·subst h8;rfl
 have e1:(k==1)=false:=by simp[h1]
 have e3:(k==3)=false:=by simp[h3]
 have e4:(k==4)=false:=by simp[h4]
 have e5:(k==5)=false:=by simp[h5]
 have e6:(k==6)=false:=by simp[h6]
 have e8:(k==8)=false:=by simp[h8]
 have e7:(k==7)=false:=by simp[h7]
 simp only[e1,e3,e4,e5,e6,e7,e8,ajn]
 simp[h1,h3,h4,h5,h6,h7,h8,usA,usQ,usP,usU,usT]
def FV (n:Int):Bool:=decide (1≤n∧n≤3652059)
def Jg (n:Int):Bool:=decide (1≤n∧n≤2000)
def YH (ua uq up uu ut k2:Bool) (art:Bys) (q:ai) (unit:Bys) (p:ai) (un to:Int):Int:=
 bif uq&& !qOk q k2 then 1
 else bif up&& !inR p 0 1000000000 4 then 1
 else bif uu&& !FV un then 1
 else bif ua&&(!cM art|| !cM unit) then 5
 else bif ut&& !Jg to then 1
 else bif (!ua&& !(art==[]))||((!uq&& !(q.1==0&&q.2==0))||((!ua&& !(unit==[]))||((!up&& !(p.1==0&&p.2==0))||((!uu&&un != 0)||(!ut&&to != 0))))) then 3
 else 0
def Pf (d:aj):Int:=
 YH (usA d.2.2.2.1) (usQ d.2.2.2.1) (usP d.2.2.2.1) (usU d.2.2.2.1) (usT d.2.2.2.1) (d.2.2.2.1==2) d.2.2.2.2.2.1 d.2.2.2.2.2.2.1 d.2.2.2.2.2.2.2.1 d.2.2.2.2.2.2.2.2.1 d.2.2.2.2.2.2.2.2.2.1 d.2.2.2.2.2.2.2.2.2.2
theorem Wp (n:Int):mV n=some (FV n,()):=qH n
theorem adW (n:Int):b8 n 1 2000=some (!Jg n,()):=by
 rw[eD]
 congr 2
 unfold Jg
 by_cases h1:1≤n<;>by_cases h2:n≤2000<;>simp[h1,h2]<;>omega
theorem Ow (d:aj):xX d=some (Pf d,()):=by
 obtain⟨day,byy,no,k,line,art,⟨q1,q2⟩,unit,⟨p1,p2⟩,un,to⟩:=d
 unfold xX Pf
 dsimp only
 rw[Ti,ajb]
 dsimp only
 rw[AN]
 simp only[xE,Wp,mW,adW,ajb]
 generalize usA k=ua
 generalize usQ k=uq
 generalize usP k=up
 generalize usU k=uu
 generalize usT k=ut
 generalize (k==2)=k2
 unfold YH
 generalize qOk (q1,q2) k2=b1
 have step1:∀ (A:Option ((Int×Unit) ⊕ (Int×Int×Int×Int×Int×Bys×Int×Int×Bys×Int×Int×Int×Int×Bool×Bool×Bool×Bool×Bool×Bool×Unit))) (v:Int×Int×Int×Int×Int×Bys×Int×Int×Bys×Int×Int×Int×Int×Bool×Bool×Bool×Bool×Bool×Bool×Unit) (K:(Int×Int×Int×Int×Int×Bys×Int×Int×Bys×Int×Int×Int×Int×Bool×Bool×Bool×Bool×Bool×Bool×Unit)→Option (Int×Unit)),
  A=some (.inr v)→aT A K=K v:=fun A v K h=>by rw[h];rfl
 cases uq
 ·refine Eq.trans (step1 _ _ _ (by exact rfl)) ?_
  cases up
  ·refine Eq.trans (step1 _ _ _ (by exact rfl)) ?_
   dsimp only
   generalize FV un=b3
   generalize cM art=b4
   generalize cM unit=b5
   generalize Jg to=b6
   generalize (art==[])=c1
   generalize (q1==0)=c2
   generalize (q2==0)=c3
   generalize (unit==[])=c4
   generalize (p1==0)=c5
   generalize (p2==0)=c6
   generalize (un != 0)=c7
   generalize (to != 0)=c8
   cases uu
   ·cases ua
    ·cases ut
     ·cases c1<;>first | rfl | (cases c4<;>first | rfl | (cases c7<;>first | rfl | (cases c8<;>first | rfl | (cases c2<;>first | rfl | (cases c3<;>first | rfl | (cases c5<;>first | rfl | (cases c6<;>rfl)))))))
     ·cases b6
      ·rfl
      ·cases c1<;>first | rfl | (cases c4<;>first | rfl | (cases c7<;>first | rfl | (cases c8<;>first | rfl | (cases c2<;>first | rfl | (cases c3<;>first | rfl | (cases c5<;>first | rfl | (cases c6<;>rfl)))))))
    ·cases b4
     ·rfl
     ·cases b5
      ·rfl
      ·cases ut
       ·cases c1<;>first | rfl | (cases c4<;>first | rfl | (cases c7<;>first | rfl | (cases c8<;>first | rfl | (cases c2<;>first | rfl | (cases c3<;>first | rfl | (cases c5<;>first | rfl | (cases c6<;>rfl)))))))
       ·cases b6
        ·rfl
        ·cases c1<;>first | rfl | (cases c4<;>first | rfl | (cases c7<;>first | rfl | (cases c8<;>first | rfl | (cases c2<;>first | rfl | (cases c3<;>first | rfl | (cases c5<;>first | rfl | (cases c6<;>rfl)))))))
   ·cases b3
    ·rfl
    ·cases ua
     ·cases ut
      ·cases c1<;>first | rfl | (cases c4<;>first | rfl | (cases c7<;>first | rfl | (cases c8<;>first | rfl | (cases c2<;>first | rfl | (cases c3<;>first | rfl | (cases c5<;>first | rfl | (cases c6<;>rfl)))))))
      ·cases b6
       ·rfl
       ·cases c1<;>first | rfl | (cases c4<;>first | rfl | (cases c7<;>first | rfl | (cases c8<;>first | rfl | (cases c2<;>first | rfl | (cases c3<;>first | rfl | (cases c5<;>first | rfl | (cases c6<;>rfl)))))))
     ·cases b4
      ·rfl
      ·cases b5
       ·rfl
       ·cases ut
        ·cases c1<;>first | rfl | (cases c4<;>first | rfl | (cases c7<;>first | rfl | (cases c8<;>first | rfl | (cases c2<;>first | rfl | (cases c3<;>first | rfl | (cases c5<;>first | rfl | (cases c6<;>rfl)))))))
        ·cases b6
         ·rfl
         ·cases c1<;>first | rfl | (cases c4<;>first | rfl | (cases c7<;>first | rfl | (cases c8<;>first | rfl | (cases c2<;>first | rfl | (cases c3<;>first | rfl | (cases c5<;>first | rfl | (cases c6<;>rfl)))))))
  ·dsimp only
   generalize inR (p1,p2) 0 1000000000 4=b2
   cases b2
   ·rfl
   ·refine Eq.trans (step1 _ _ _ (by exact rfl)) ?_
    dsimp only
    generalize FV un=b3
    generalize cM art=b4
    generalize cM unit=b5
    generalize Jg to=b6
    generalize (art==[])=c1
    generalize (q1==0)=c2
    generalize (q2==0)=c3
    generalize (unit==[])=c4
    generalize (p1==0)=c5
    generalize (p2==0)=c6
    generalize (un != 0)=c7
    generalize (to != 0)=c8
    cases uu
    ·cases ua
     ·cases ut
      ·cases c1<;>first | rfl | (cases c4<;>first | rfl | (cases c7<;>first | rfl | (cases c8<;>first | rfl | (cases c2<;>first | rfl | (cases c3<;>first | rfl | (cases c5<;>first | rfl | (cases c6<;>rfl)))))))
      ·cases b6
       ·rfl
       ·cases c1<;>first | rfl | (cases c4<;>first | rfl | (cases c7<;>first | rfl | (cases c8<;>first | rfl | (cases c2<;>first | rfl | (cases c3<;>first | rfl | (cases c5<;>first | rfl | (cases c6<;>rfl)))))))
     ·cases b4
      ·rfl
      ·cases b5
       ·rfl
       ·cases ut
        ·cases c1<;>first | rfl | (cases c4<;>first | rfl | (cases c7<;>first | rfl | (cases c8<;>first | rfl | (cases c2<;>first | rfl | (cases c3<;>first | rfl | (cases c5<;>first | rfl | (cases c6<;>rfl)))))))
        ·cases b6
         ·rfl
         ·cases c1<;>first | rfl | (cases c4<;>first | rfl | (cases c7<;>first | rfl | (cases c8<;>first | rfl | (cases c2<;>first | rfl | (cases c3<;>first | rfl | (cases c5<;>first | rfl | (cases c6<;>rfl)))))))
    ·cases b3
     ·rfl
     ·cases ua
      ·cases ut
       ·cases c1<;>first | rfl | (cases c4<;>first | rfl | (cases c7<;>first | rfl | (cases c8<;>first | rfl | (cases c2<;>first | rfl | (cases c3<;>first | rfl | (cases c5<;>first | rfl | (cases c6<;>rfl)))))))
       ·cases b6
        ·rfl
        ·cases c1<;>first | rfl | (cases c4<;>first | rfl | (cases c7<;>first | rfl | (cases c8<;>first | rfl | (cases c2<;>first | rfl | (cases c3<;>first | rfl | (cases c5<;>first | rfl | (cases c6<;>rfl)))))))
      ·cases b4
       ·rfl
       ·cases b5
        ·rfl
        ·cases ut
         ·cases c1<;>first | rfl | (cases c4<;>first | rfl | (cases c7<;>first | rfl | (cases c8<;>first | rfl | (cases c2<;>first | rfl | (cases c3<;>first | rfl | (cases c5<;>first | rfl | (cases c6<;>rfl)))))))
         ·cases b6
          ·rfl
          ·cases c1<;>first | rfl | (cases c4<;>first | rfl | (cases c7<;>first | rfl | (cases c8<;>first | rfl | (cases c2<;>first | rfl | (cases c3<;>first | rfl | (cases c5<;>first | rfl | (cases c6<;>rfl)))))))
 ·cases b1
  ·rfl
  ·refine Eq.trans (step1 _ _ _ (by exact rfl)) ?_
   cases up
   ·refine Eq.trans (step1 _ _ _ (by exact rfl)) ?_
    dsimp only
    generalize FV un=b3
    generalize cM art=b4
    generalize cM unit=b5
    generalize Jg to=b6
    generalize (art==[])=c1
    generalize (q1==0)=c2
    generalize (q2==0)=c3
    generalize (unit==[])=c4
    generalize (p1==0)=c5
    generalize (p2==0)=c6
    generalize (un != 0)=c7
    generalize (to != 0)=c8
    cases uu
    ·cases ua
     ·cases ut
      ·cases c1<;>first | rfl | (cases c4<;>first | rfl | (cases c7<;>first | rfl | (cases c8<;>first | rfl | (cases c2<;>first | rfl | (cases c3<;>first | rfl | (cases c5<;>first | rfl | (cases c6<;>rfl)))))))
      ·cases b6
       ·rfl
       ·cases c1<;>first | rfl | (cases c4<;>first | rfl | (cases c7<;>first | rfl | (cases c8<;>first | rfl | (cases c2<;>first | rfl | (cases c3<;>first | rfl | (cases c5<;>first | rfl | (cases c6<;>rfl)))))))
     ·cases b4
      ·rfl
      ·cases b5
       ·rfl
       ·cases ut
        ·cases c1<;>first | rfl | (cases c4<;>first | rfl | (cases c7<;>first | rfl | (cases c8<;>first | rfl | (cases c2<;>first | rfl | (cases c3<;>first | rfl | (cases c5<;>first | rfl | (cases c6<;>rfl)))))))
        ·cases b6
         ·rfl
         ·cases c1<;>first | rfl | (cases c4<;>first | rfl | (cases c7<;>first | rfl | (cases c8<;>first | rfl | (cases c2<;>first | rfl | (cases c3<;>first | rfl | (cases c5<;>first | rfl | (cases c6<;>rfl)))))))
    ·cases b3
     ·rfl
     ·cases ua
      ·cases ut
       ·cases c1<;>first | rfl | (cases c4<;>first | rfl | (cases c7<;>first | rfl | (cases c8<;>first | rfl | (cases c2<;>first | rfl | (cases c3<;>first | rfl | (cases c5<;>first | rfl | (cases c6<;>rfl)))))))
       ·cases b6
        ·rfl
        ·cases c1<;>first | rfl | (cases c4<;>first | rfl | (cases c7<;>first | rfl | (cases c8<;>first | rfl | (cases c2<;>first | rfl | (cases c3<;>first | rfl | (cases c5<;>first | rfl | (cases c6<;>rfl)))))))
      ·cases b4
       ·rfl
       ·cases b5
        ·rfl
        ·cases ut
         ·cases c1<;>first | rfl | (cases c4<;>first | rfl | (cases c7<;>first | rfl | (cases c8<;>first | rfl | (cases c2<;>first | rfl | (cases c3<;>first | rfl | (cases c5<;>first | rfl | (cases c6<;>rfl)))))))
         ·cases b6
          ·rfl
          ·cases c1<;>first | rfl | (cases c4<;>first | rfl | (cases c7<;>first | rfl | (cases c8<;>first | rfl | (cases c2<;>first | rfl | (cases c3<;>first | rfl | (cases c5<;>first | rfl | (cases c6<;>rfl)))))))
   ·dsimp only
    generalize inR (p1,p2) 0 1000000000 4=b2
    cases b2
    ·rfl
    ·refine Eq.trans (step1 _ _ _ (by exact rfl)) ?_
     dsimp only
     generalize FV un=b3
     generalize cM art=b4
     generalize cM unit=b5
     generalize Jg to=b6
     generalize (art==[])=c1
     generalize (q1==0)=c2
     generalize (q2==0)=c3
     generalize (unit==[])=c4
     generalize (p1==0)=c5
     generalize (p2==0)=c6
     generalize (un != 0)=c7
     generalize (to != 0)=c8
     cases uu
     ·cases ua
      ·cases ut
       ·cases c1<;>first | rfl | (cases c4<;>first | rfl | (cases c7<;>first | rfl | (cases c8<;>first | rfl | (cases c2<;>first | rfl | (cases c3<;>first | rfl | (cases c5<;>first | rfl | (cases c6<;>rfl)))))))
       ·cases b6
        ·rfl
        ·cases c1<;>first | rfl | (cases c4<;>first | rfl | (cases c7<;>first | rfl | (cases c8<;>first | rfl | (cases c2<;>first | rfl | (cases c3<;>first | rfl | (cases c5<;>first | rfl | (cases c6<;>rfl)))))))
      ·cases b4
       ·rfl
       ·cases b5
        ·rfl
        ·cases ut
         ·cases c1<;>first | rfl | (cases c4<;>first | rfl | (cases c7<;>first | rfl | (cases c8<;>first | rfl | (cases c2<;>first | rfl | (cases c3<;>first | rfl | (cases c5<;>first | rfl | (cases c6<;>rfl)))))))
         ·cases b6
          ·rfl
          ·cases c1<;>first | rfl | (cases c4<;>first | rfl | (cases c7<;>first | rfl | (cases c8<;>first | rfl | (cases c2<;>first | rfl | (cases c3<;>first | rfl | (cases c5<;>first | rfl | (cases c6<;>rfl)))))))
     ·cases b3
      ·rfl
      ·cases ua
       ·cases ut
        ·cases c1<;>first | rfl | (cases c4<;>first | rfl | (cases c7<;>first | rfl | (cases c8<;>first | rfl | (cases c2<;>first | rfl | (cases c3<;>first | rfl | (cases c5<;>first | rfl | (cases c6<;>rfl)))))))
        ·cases b6
         ·rfl
         ·cases c1<;>first | rfl | (cases c4<;>first | rfl | (cases c7<;>first | rfl | (cases c8<;>first | rfl | (cases c2<;>first | rfl | (cases c3<;>first | rfl | (cases c5<;>first | rfl | (cases c6<;>rfl)))))))
       ·cases b4
        ·rfl
        ·cases b5
         ·rfl
         ·cases ut
          ·cases c1<;>first | rfl | (cases c4<;>first | rfl | (cases c7<;>first | rfl | (cases c8<;>first | rfl | (cases c2<;>first | rfl | (cases c3<;>first | rfl | (cases c5<;>first | rfl | (cases c6<;>rfl)))))))
          ·cases b6
           ·rfl
           ·cases c1<;>first | rfl | (cases c4<;>first | rfl | (cases c7<;>first | rfl | (cases c8<;>first | rfl | (cases c2<;>first | rfl | (cases c3<;>first | rfl | (cases c5<;>first | rfl | (cases c6<;>rfl)))))))
def fk (d:aj):Int:=
 if ¬(1≤d.1∧d.1≤3652059) then 1
 else if ¬(1≤d.2.1∧d.2.1≤2) then 4
 else if ¬(1≤d.2.2.1∧d.2.2.1≤2000) then 1
 else if ¬(1≤d.2.2.2.1∧d.2.2.2.1≤11) then 4
 else if ¬((d.2.2.2.1=5∨d.2.2.2.1=6∨d.2.2.2.1=7∨d.2.2.2.1=9)↔d.2.1=2) then 4
 else if ¬(1≤d.2.2.2.2.1∧d.2.2.2.2.1≤99999) then 1
 else Pf d
theorem UG (n a b:Int):decide (n<a∨b<n)= !decide (a≤n∧n≤b):=by
 by_cases h1:a≤n<;>by_cases h2:n≤b<;>simp[h1,h2]<;>omega
theorem Ou (d:aj):xV d=some (fk d,()):=by
 unfold xV fk
 simp only[qH,eD,UG,jG,Ow,ajb]
 by_cases h1:1≤d.1∧d.1≤3652059
 ·by_cases h2:1≤d.2.1∧d.2.1≤2
  ·by_cases h3:1≤d.2.2.1∧d.2.2.1≤2000
   ·by_cases h4:1≤d.2.2.2.1∧d.2.2.2.1≤11
    ·by_cases h5:(d.2.2.2.1=5∨d.2.2.2.1=6∨d.2.2.2.1=7∨d.2.2.2.1=9)↔d.2.1=2
     ·have e5:(decide (d.2.2.2.1=5∨d.2.2.2.1=6∨d.2.2.2.1=7∨d.2.2.2.1=9)==(d.2.1==2))=true:=by
       by_cases h6:d.2.1=2
       ·simp[h6,h5.2 h6]
       ·have:¬(d.2.2.2.1=5∨d.2.2.2.1=6∨d.2.2.2.1=7∨d.2.2.2.1=9):=fun h=>h6 (h5.1 h)
        simp[h6,this]
      by_cases h6:1≤d.2.2.2.2.1∧d.2.2.2.2.1≤99999
      ·rw[e5]
       simp only[h1,h2,h3,h4,h5,h6,iff_self,aju,agN,ajn,not_true,ajx,ajk]
      ·rw[e5]
       simp only[h1,h2,h3,h4,h5,h6,iff_self,aju,ajt,agN,agM,ajn,ajo,not_true,ajD,ajx,ajA,ajk]
     ·have e5:(decide (d.2.2.2.1=5∨d.2.2.2.1=6∨d.2.2.2.1=7∨d.2.2.2.1=9)==(d.2.1==2))=false:=by
       by_cases h6:d.2.1=2
       ·have:¬(d.2.2.2.1=5∨d.2.2.2.1=6∨d.2.2.2.1=7∨d.2.2.2.1=9):=fun h=>h5 ⟨fun _=>h6,fun _=>h⟩
        simp[h6,this]
       ·have:(d.2.2.2.1=5∨d.2.2.2.1=6∨d.2.2.2.1=7∨d.2.2.2.1=9):=Classical.byContradiction fun h=>h5 ⟨fun h'=>absurd h' h,fun h'=>absurd h' h6⟩
        simp[h6,this]
      rw[e5]
      simp only[h1,h2,h3,h4,h5,aju,agN,agM,ajn,ajo,not_true,ajD,ajx,ajA,ajk]
    ·simp only[h1,h2,h3,h4,aju,ajt,agN,agM,ajn,ajo,not_true,ajD,ajx,ajA,ajk]
   ·simp only[h1,h2,h3,aju,ajt,agN,agM,ajn,ajo,not_true,ajD,ajx,ajA,ajk]
  ·simp only[h1,h2,aju,ajt,agN,agM,ajn,ajo,not_true,ajD,ajx,ajA,ajk]
 ·simp only[h1,ajt,agM,ajo,ajD,ajA]
theorem eP {d:aj} (h:fk d=0):(1≤d.1∧d.1≤3652059)∧(1≤d.2.1∧d.2.1≤2)∧(1≤d.2.2.1∧d.2.2.1≤2000)∧(1≤d.2.2.2.1∧d.2.2.2.1≤11)∧
 ((d.2.2.2.1=5∨d.2.2.2.1=6∨d.2.2.2.1=7∨d.2.2.2.1=9)↔d.2.1=2)∧(1≤d.2.2.2.2.1∧d.2.2.2.2.1≤99999)∧Pf d=0:=by
 unfold fk at h
 split at h
 ·cases h
 ·rename_i h1
  split at h
  ·cases h
  ·rename_i h2
   split at h
   ·cases h
   ·rename_i h3
    split at h
    ·cases h
    ·rename_i h4
     split at h
     ·cases h
     ·rename_i h5
      split at h
      ·cases h
      ·rename_i h6
       exact⟨agS.1 h1,agS.1 h2,agS.1 h3,agS.1 h4,agS.1 h5,agS.1 h6,h⟩
end Go.Md
namespace Go.Md
open Go.Dn
def dCw (a b:aj):Int:=if w64 (a.1 - b.1)≠0 then w64 (a.1 - b.1) else if w64 (a.2.1 - b.2.1)≠0 then w64 (a.2.1 - b.2.1) else w64 (a.2.2.1 - b.2.2.1)
theorem LD (a b:aj):oF a b=some (dCw a b,()):=by
 unfold oF dCw
 generalize w64 (a.1 - b.1)=x
 generalize w64 (a.2.1 - b.2.1)=y
 generalize w64 (a.2.2.1 - b.2.2.1)=z
 simp only[ahT,ahV]
 have key:iter (X:=oV) (β:=oU) 8 (3,0,[x,y,z],()) uS=(bif x != 0 then some (Sum.inl (x,())) else bif y != 0 then some (Sum.inl (y,())) else bif z != 0 then some (Sum.inl (z,())) else some (Sum.inr ())):=by kernel_rfl
 show aT (β:=(Int×Unit)) (γ:=Unit) (iter 8 (3,0,[x,y,z],()) uS) _=_
 rw[key]
 by_cases hx:x=0
 ·subst hx
  by_cases hy:y=0
  ·subst hy
   by_cases hz:z=0
   ·subst hz;rfl
   ·have:(z != 0)=true:=by simp[hz]
    rw[this];simp[aT]
  ·have:(y != 0)=true:=by simp[hy]
   rw[this];simp[aT,hy]
 ·have:(x != 0)=true:=by simp[hx]
  rw[this];simp[aT,hx]
def eX:List aj→Option aj→Int→Int→Int
 | [],_,_,_=>0
 | d::r,p,nb,ns=>
  if fk d≠0 then fk d
  else if (p.any fun q=>decide (0≤dCw q d))=true then 8
  else if d.2.1=1 then (if d.2.2.1≠w64 (nb+1) then 9 else eX r (some d) d.2.2.1 ns)
  else (if d.2.2.1≠w64 (ns+1) then 9 else eX r (some d) nb d.2.2.1)
def wF (l:List aj):Int:=if 2000<l.length then 2 else eX l none 0 0
def de {α:Type} (l:List α):Nat→Option α
 | 0=>none
 | i+1=>l[i]?
def dG (a0:List aj) (s:Int×Int×Int) (i:Nat) (y:aj) (k:(Int×Int×Int)→Option kL):Option kL:=
 if fk y≠0 then some (Sum.inl (fk y,()))
 else if ((de a0 i).any fun q=>decide (0≤dCw q y))=true then some (Sum.inl (8,()))
 else if y.2.1=1 then (if y.2.2.1≠w64 (s.2.1+1) then some (Sum.inl (9,())) else k (s.1,y.2.2.1,s.2.2))
 else (if y.2.2.1≠w64 (s.2.2+1) then some (Sum.inl (9,())) else k (s.1,s.2.1,y.2.2.1))
theorem dM {a b:Int} (h:a≠b):(a != b)=true:=by simp[h]
theorem oA {a b:Int} (h:a≠b):(a==b)=false:=by simp[h]
theorem gX {α:Type} {l:List α} {i:Nat} {y:α} (h:l[i]? =some y):idx l (i:Int)=some y:=by
 unfold idx
 rw[ajz (ag5 i)]
 exact h
theorem R3 (a0:List aj) (hl:a0.length≤2000) (s:Int×Int×Int) (i:Nat) (y:aj) (again:nC→Option kL) (hy:a0[i]? =some y):
 nB (a0,a0,(a0.length:Int),(i:Int),s.1,s.2.1,s.2.2,()) again=dG a0 s i y fun s'=>again (a0,a0,(a0.length:Int),((i+1:Nat):Int),s'.1,s'.2.1,s'.2.2,()):=by
 have hi:i<a0.length:=(ahH.1 hy).1
 unfold nB dG
 dsimp only
 rw[ajr (show (i:Int)<(a0.length:Int) by omega),ajo,gX hy,ajb,Ou,ajb]
 dsimp only
 have hw:w64 ((i:Int)+1)=((i+1:Nat):Int):=by rw[aC (by omega) (by omega)];omega
 rw[hw]
 by_cases hf:fk y=0
 ·rw[hf,zne,ajn,ajy (by simp)]
  obtain⟨_,hby,_⟩:=eP hf
  have hprev':(bif decide ((i:Int)>0) then Option.bind (idx a0 (w64 ((i:Int) - 1))) fun y4=>Option.bind (oF y4 y) fun r5=>some (decide (r5.1≥0),()) else some (false,()))=some ((de a0 i).any fun q=>decide (0≤dCw q y),()):=by
   cases i with
   | zero=>rfl
   | succ j=>
    have hj:j<a0.length:=by omega
    have hq:a0[j]? =some a0[j]:=ahF hj
    have e:w64 (((j+1:Nat):Int) - 1)=(j:Int):=by rw[aC (by omega) (by omega)];omega
    rw[ajr (by omega),ajo,e,gX hq,ajb,LD,ajb]
    simp only[de,hq,Option.any_some]
  rw[hprev',ajb]
  dsimp only
  cases ((de a0 i).any fun q=>decide (0≤dCw q y)) with
  | true=>rfl
  | false=>
   rw[ajn,ajy (by simp)]
   by_cases h1:y.2.1=1
   ·rw[oA (show y.2.1≠0 by omega),ajn,show (y.2.1==1)=true by simp[h1],ajo,ajz h1]
    by_cases hn:y.2.2.1=w64 (s.2.1+1)
    ·rw[show (y.2.2.1 != w64 (s.2.1+1))=false by simp[hn],ajn,ajy (by simp[hn])]
     rfl
    ·rw[dM hn,ajo,ajz hn]
   ·have h2:y.2.1=2:=by omega
    rw[oA (show y.2.1≠0 by omega),ajn,oA h1,ajn,show (y.2.1==2)=true by simp[h2],ajo,ajy h1]
    by_cases hn:y.2.2.1=w64 (s.2.2+1)
    ·rw[show (y.2.2.1 != w64 (s.2.2+1))=false by simp[hn],ajn,ajy (by simp[hn])]
     rfl
    ·rw[dM hn,ajo,ajz hn]
 ·rw[dM hf,ajo,ajz hf]
def Q7 (f:Int):Option ((Int×Unit) ⊕ Unit):=if f=0 then some (Sum.inr ()) else some (Sum.inl (f,()))
theorem Vf {f:Int} (h:f=0):Q7 f=some (Sum.inr ()):=ajz h
theorem OX {f:Int} (h:f≠0):Q7 f=some (Sum.inl (f,())):=ajy h
theorem Nx (a0:List aj):∀ (r:List aj) (i:Nat) (s:Int×Int×Int),a0.drop i=r→
 I7 (dG a0) (fun _=>some (Sum.inr ())) r i s=Q7 (eX r (de a0 i) s.2.1 s.2.2)
 | [],_,_,_=>by simp[I7,eX,Q7]
 | y::r,i,s,hd=>by
  have hy:a0[i]? =some y:=by
   have:=congrArg (·[0]?) hd
   simpa [ahE] using this
  have hr:a0.drop (i+1)=r:=by
   have:=congrArg List.tail hd
   simpa [aix] using this
  have hp:de a0 (i+1)=some y:=hy
  show dG a0 s i y (fun s'=>I7 (dG a0) (fun _=>some (Sum.inr ())) r (i+1) s')=_
  rw[show (fun s'=>I7 (dG a0) (fun _=>some (Sum.inr ())) r (i+1) s')=fun s'=>Q7 (eX r (de a0 (i+1)) s'.2.1 s'.2.2) from funext fun s'=>Nx a0 r (i+1) s' hr,hp]
  unfold dG
  by_cases hf:fk y=0
  ·have e0:¬fk y≠0:=fun h=>h hf
   rw[ajy e0]
   by_cases ha:((de a0 i).any fun q=>decide (0≤dCw q y))=true
   ·rw[ajz ha,show eX (y::r) (de a0 i) s.2.1 s.2.2=8 by simp only[eX];rw[ajy e0,ajz ha]]
    rfl
   ·rw[ajy ha]
    by_cases h1:y.2.1=1
    ·rw[ajz h1]
     by_cases hn:y.2.2.1≠w64 (s.2.1+1)
     ·rw[ajz hn,show eX (y::r) (de a0 i) s.2.1 s.2.2=9 by simp only[eX];rw[ajy e0,ajy ha,ajz h1,ajz hn]]
      rfl
     ·rw[ajy hn,show eX (y::r) (de a0 i) s.2.1 s.2.2=eX r (some y) y.2.2.1 s.2.2 by rw[eX,ajy e0,ajy ha,ajz h1,ajy hn]]
    ·rw[ajy h1]
     by_cases hn:y.2.2.1≠w64 (s.2.2+1)
     ·rw[ajz hn,show eX (y::r) (de a0 i) s.2.1 s.2.2=9 by simp only[eX];rw[ajy e0,ajy ha,ajy h1,ajz hn]]
      rfl
     ·rw[ajy hn,show eX (y::r) (de a0 i) s.2.1 s.2.2=eX r (some y) s.2.1 y.2.2.1 by rw[eX,ajy e0,ajy ha,ajy h1,ajy hn]]
  ·rw[ajz hf,show eX (y::r) (de a0 i) s.2.1 s.2.2=fk y by rw[eX,ajz hf],OX hf]
theorem xD (l:List aj):nO l=some (wF l,()):=by
 unfold nO wF
 by_cases hl:2000<l.length
 ·rw[ajr (show (l.length:Int)>2000 by omega),ajo,ajz hl]
 ·rw[ajq (show ¬ (l.length:Int)>2000 by omega),ajn,ajy hl]
  have:=Ri (f:=nB) (fun (s:Int×Int×Int) (i:Nat)=>((l,l,(l.length:Int),(i:Int),s.1,s.2.1,s.2.2,()):nC)) l (dG l) (fun _=>some (Sum.inr ()))
   (fun s i y again hy=>R3 l (by omega) s i y again hy) (fun s again=>by
     unfold nB
     dsimp only
     rw[ajq (by omega)];rfl) (0,0,0)
  refine (congrArg (fun z=>aT (β:=(Int×Unit)) (γ:=Unit) z fun _=>some (0,())) (this _ (by omega))).trans ?_
  rw[Nx l l 0 (0,0,0) rfl]
  simp only[de]
  by_cases h:eX l none 0 0=0
  ·rw[Vf h,h];rfl
  ·rw[OX h];rfl
theorem GI:∀ {l:List aj} {p:Option aj} {nb ns:Int},eX l p nb ns=0→∀ d,d∈l→fk d=0
 | [],_,_,_,_,_,h=>by cases h
 | y::r,p,nb,ns,h,d,hd=>by
  simp only[eX] at h
  by_cases hf:fk y=0
  ·rw[ajy (by simp[hf])] at h
   rcases ah7.1 hd with rfl | hd
   ·exact hf
   ·split at h
    ·cases h
    ·split at h
     ·split at h
      ·cases h
      ·exact GI h d hd
     ·split at h
      ·cases h
      ·exact GI h d hd
  ·rw[ajz hf] at h
   exact absurd h hf
theorem En {l:List aj} (h:wF l=0):l.length≤2000∧∀ d,d∈l→fk d=0:=by
 unfold wF at h
 split at h
 ·cases h
 ·rename_i hl
  exact⟨by omega,GI h⟩
abbrev Rn (o:av):=o.1
abbrev Oh (o:av):=o.2.1
abbrev Ro (o:av):=o.2.2.1
abbrev jC (o:av):=o.2.2.2.1
abbrev gU (o:av):=o.2.2.2.2.1
abbrev vP (o:av):=o.2.2.2.2.2
def jE (day:Int) (p:Option bC) (x:bC):Int:=
 if ¬(1≤x.1∧x.1≤99999) then 1
 else if (p.any fun q=>decide (x.1≤q.1))=true then 8
 else if cM x.2.1=false then 5
 else if qOk x.2.2.1 false=false then 1
 else if cM x.2.2.2.1=false then 5
 else if inR x.2.2.2.2.1 0 1000000000 4=false then 1
 else if ¬(day≤x.2.2.2.2.2∧x.2.2.2.2.2≤3652059) then 1
 else 0
def nN (day:Int):List bC→Option bC→Int
 | [],_=>0
 | x::r,p=>if jE day p x≠0 then jE day p x else nN day r (some x)
def qO (o:av):Int:=
 if cM (Rn o)=false∨cM (Oh o)=false∨cM (Ro o)=false then 5
 else if Oh o=Ro o then 12
 else if ¬(1≤jC o∧jC o≤3652059) then 1
 else if ¬(0≤gU o∧gU o≤1000) then 1
 else if vP o=[] then 9
 else if 500<(vP o).length then 2
 else nN (jC o) (vP o) none
theorem af5 (b:Bool):((if b=true then (0:Int) else 1) != 0)= !b:=by cases b<;>rfl
theorem Ov (o:av) (i:Nat) (x:bC) (hi:(vP o)[i]? =some x) (hl:(vP o).length≤500):xW o (i:Int)=some (jE (jC o) (de (vP o) i) x,()):=by
 have hlt:i<(vP o).length:=(ahH.1 hi).1
 unfold xW
 rw[gX hi,ajb]
 simp only[eD,UG,mW,AN,xE,ajb,af5]
 have tail:∀ (p:Option bC) (hp:(p.any fun q=>decide (x.1≤q.1))=false) (h1:1≤x.1∧x.1≤99999),
  (bif !cM x.2.1 then some (5,()) else bif !qOk x.2.2.1 false then some ((if qOk x.2.2.1 false=true then 0 else 1),()) else bif !cM x.2.2.2.1 then some (5,()) else
    bif !inR x.2.2.2.2.1 0 1000000000 4 then some ((if inR x.2.2.2.2.1 0 1000000000 4=true then 0 else 1),()) else bif !decide (jC o≤x.2.2.2.2.2∧x.2.2.2.2.2≤3652059) then some (1,()) else some (0,()))=some (jE (jC o) p x,()):=fun p hp h1=>by
  unfold jE
  rw[ajy (show ¬¬(1≤x.1∧x.1≤99999) from fun h=>h h1),ajy (show ¬(p.any fun q=>decide (x.1≤q.1))=true by rw[hp];exact agH)]
  cases cM x.2.1
  ·rfl
  ·cases qOk x.2.2.1 false
   ·rfl
   ·cases cM x.2.2.2.1
    ·rfl
    ·cases inR x.2.2.2.2.1 0 1000000000 4
     ·rfl
     ·by_cases hd:jC o≤x.2.2.2.2.2∧x.2.2.2.2.2≤3652059
      ·simp[hd]
      ·simp[hd]
 by_cases h1:1≤x.1∧x.1≤99999
 ·rw[ajr h1,agN,ajn]
  cases i with
  | zero=>
   rw[ajq (show ¬((0:Nat):Int)>0 by omega),ajn]
   exact tail none rfl h1
  | succ j=>
   have hq:(vP o)[j]? =some (vP o)[j]:=ahF (by omega)
   have e:w64 (((j+1:Nat):Int) - 1)=(j:Int):=by rw[aC (by omega) (by omega)];omega
   rw[ajr (show ((j+1:Nat):Int)>0 by omega),ajo,e,gX hq,ajb]
   simp only[de,hq]
   by_cases h2:x.1≤(vP o)[j].1
   ·rw[ajr h2,ajb]
    have:jE (jC o) (some (vP o)[j]) x=8:=by
     unfold jE
     rw[ajy (show ¬¬(1≤x.1∧x.1≤99999) from fun h=>h h1),ajz (show (Option.any (fun q=>decide (x.1≤q.1)) (some (vP o)[j]))=true from ajr h2)]
    rw[this]
    rfl
   ·rw[ajq h2,ajb]
    exact tail (some (vP o)[j]) (by simp[h2]) h1
 ·rw[ajq h1,agM,ajo]
  unfold jE
  rw[ajz h1]
theorem Mh (a0:List bC) (day:Int):∀ (r:List bC) (i:Nat) (s:Unit),a0.drop i=r→
 I7 (fun (_:Unit) i y k=>if jE day (de a0 i) y≠0 then some (Sum.inl (jE day (de a0 i) y,())) else k ()) (fun _=>(some (Sum.inr ()):Option qg)) r i s=Q7 (nN day r (de a0 i))
 | [],_,_,_=>by simp[I7,nN,Q7]
 | y::r,i,s,hd=>by
  have hy:a0[i]? =some y:=by
   have:=congrArg (·[0]?) hd
   simpa [ahE] using this
  have hr:a0.drop (i+1)=r:=by
   have:=congrArg List.tail hd
   simpa [aix] using this
  have hp:de a0 (i+1)=some y:=hy
  have ih:=Mh a0 day r (i+1) () hr
  rw[hp] at ih
  by_cases hf:jE day (de a0 i) y=0
  ·have e0:¬jE day (de a0 i) y≠0:=fun h=>h hf
   rw[show nN day (y::r) (de a0 i)=nN day r (some y) by rw[nN,ajy e0], ← ih]
   show (if jE day (de a0 i) y≠0 then _ else _)=_
   rw[ajy e0]
  ·rw[show nN day (y::r) (de a0 i)=jE day (de a0 i) y by rw[nN,ajz hf],OX hf]
   show (if jE day (de a0 i) y≠0 then _ else _)=_
   rw[ajz hf]
theorem rH (o:av):lC o=some (qO o,()):=by
 unfold lC qO
 simp only[mW,qH,eD,UG,ajb]
 cases h1:cM o.1
 ·simp[Rn,h1]
 cases h2:cM o.2.1
 ·simp[Rn,Oh,h1,h2]
 cases h3:cM o.2.2.1
 ·simp[Rn,Oh,Ro,h1,h2,h3]
 rw[ajy (by simp[Rn,Oh,Ro,h1,h2,h3])]
 simp only[agN,ajn]
 by_cases h4:o.2.1=o.2.2.1
 ·rw[ajz h4,show (o.2.1==o.2.2.1)=true by simp[h4],ajo]
 rw[ajy h4,show (o.2.1==o.2.2.1)=false by simp[h4],ajn]
 by_cases h5:1≤o.2.2.2.1∧o.2.2.2.1≤3652059
 ·rw[ajy (by simp[jC,h5]),ajr h5,agN,ajn]
  by_cases h6:0≤o.2.2.2.2.1∧o.2.2.2.2.1≤1000
  ·rw[ajy (by simp[gU,h6]),ajr h6,agN,ajn]
   by_cases h7:o.2.2.2.2.2=[]
   ·rw[ajz h7,h7];rfl
   ·have h7':o.2.2.2.2.2.length≠0:=fun e=>h7 (ahs e)
    rw[ajy h7,oA (show (o.2.2.2.2.2.length:Int)≠0 by omega),ajn]
    by_cases h8:500<o.2.2.2.2.2.length
    ·rw[ajz h8,ajr (by omega),ajo]
    ·rw[ajy h8,ajq (by omega),ajn]
     have:=Ri (f:=qd) (fun (_:Unit) (i:Nat)=>(((o.2.2.2.2.2.length:Int),(i:Int),o.1,o.2.1,o.2.2.1,o.2.2.2.1,o.2.2.2.2.1,o.2.2.2.2.2,()):qh)) o.2.2.2.2.2
      (fun (_:Unit) i y k=>if jE (jC o) (de o.2.2.2.2.2 i) y≠0 then some (Sum.inl (jE (jC o) (de o.2.2.2.2.2 i) y,())) else k ()) (fun _=>some (Sum.inr ()))
      (fun s i y again hy=>by
        have hlt:i<o.2.2.2.2.2.length:=(ahH.1 hy).1
        unfold qd
        dsimp only
        rw[ajr (by omega),ajo]
        have:=Ov o i y hy (by show o.2.2.2.2.2.length≤500;omega)
        rw[show ((o.1,o.2.1,o.2.2.1,o.2.2.2.1,o.2.2.2.2.1,o.2.2.2.2.2):av)=o from rfl,this,ajb]
        dsimp only
        by_cases hf:jE (jC o) (de o.2.2.2.2.2 i) y=0
        ·rw[ajy (by simp[hf]),show (jE (jC o) (de (vP o) i) y != 0)=false by simp[hf],ajn,aC (by omega) (by omega)]
         rfl
        ·rw[ajz hf,show (jE (jC o) (de (vP o) i) y != 0)=true by simp[hf],ajo]) (fun s again=>by
        unfold qd
        dsimp only
        rw[ajq (show ¬((o.2.2.2.2.2.length:Int)<(o.2.2.2.2.2.length:Int)) by omega)];rfl) ()
     refine (congrArg (fun z=>aT (β:=(Int×Unit)) (γ:=Unit) z fun _=>some (0,())) (this _ (by omega))).trans ?_
     rw[Mh o.2.2.2.2.2 (jC o) o.2.2.2.2.2 0 () rfl]
     simp only[de]
     by_cases h:nN (jC o) o.2.2.2.2.2 none=0
     ·rw[Vf h,h];rfl
     ·rw[OX h];rfl
  ·rw[ajz h6,ajq h6];rfl
 ·rw[ajz h5,ajq h5];rfl
theorem Hp (o:av) (l:List aj):wO o l=some (if qO o≠0 then qO o else wF l,()):=by
 unfold wO
 rw[rH,ajb,xD]
 dsimp only
 by_cases h:qO o=0
 ·rw[h];rfl
 ·rw[dM h,ajo,ajz h]
end Go.Md
namespace Go.Md
open Go.Dn
def bV (d:ai):Int:=d.1*10 ^ (3 - d.2).toNat
theorem VH {d:ai} {z:Bool} (h:qOk d z=true):(0≤d.2∧d.2≤3)∧0≤d.1∧d.1≤1000000000*10 ^ d.2.toNat∧(z=false→d.1≠0):=by
 unfold qOk inR at h
 simp only[agC,ajs,agP,agL,ajl] at h
 obtain⟨⟨h1,h2,h3,h4⟩,h5⟩:=h
 exact⟨⟨h1.2.1,h2⟩,by omega,h4,fun hz=>by rcases h5 with h5 | h5;exact h5;rw[hz] at h5;cases h5⟩
theorem zg {d:ai} {z:Bool} (h:qOk d z=true):0≤bV d∧bV d≤1000000000000∧(z=false→0<bV d):=by
 obtain⟨⟨h1,h2⟩,h3,h4,h5⟩:=VH h
 unfold bV
 obtain⟨k,hk⟩:∃ k:Nat,d.2=k:=⟨d.2.toNat,by omega⟩
 rw[hk] at h1 h2 h4 ⊢
 have:k=0∨k=1∨k=2∨k=3:=by omega
 rcases this with rfl | rfl | rfl | rfl<;>simp at h4 ⊢ <;>refine⟨by omega,by omega,fun hz=> ?_⟩<;>have:=h5 hz<;>omega
theorem qA {d:ai} {z:Bool} (h:qOk d z=true):kU d=some (bV d,()):=by
 obtain⟨⟨h1,h2⟩,h3,h4,_⟩:=VH h
 obtain⟨u1,u2,_⟩:=zg h
 unfold kU
 rw[aC (n:=3 - d.2) (by omega) (by omega),DT (3 - d.2) (by omega) (by omega),ajb]
 show some (w64 (bV d),())=_
 rw[aC (by omega) (by omega)]
structure az where
 no:Int
 art:Bys
 unit:Bys
 ord:Int
 shp:Int
 rcv:Int
 ret:Int
 price:ai
 due:Int
 wish:Int
 ono:Int
 oq:Int
 ount:Int
abbrev az.tup (x:az):bA:=(x.no,x.art,x.unit,x.ord,x.shp,x.rcv,x.ret,x.price,x.due,x.wish,x.ono,x.oq,x.ount)
def az.opn (x:az):Int:=if x.ord - x.shp+x.ret>0 then x.ord - x.shp+x.ret else 0
structure LOk (x:az):Prop where
 ret0:0≤x.ret
 retr:x.ret≤x.rcv
 rcvs:x.rcv≤x.shp
 shp1:x.shp≤1000000000000000
 C2:0≤x.ord
 ord1:x.ord≤1000000000000
 off:x.ono≠0→0<x.oq∧x.oq+x.shp - x.ret≤x.ord
def vN (i:Nat):List az→List (Int×Option Nat)
 | []=>[]
 | x::r=>(x.no,some i)::vN (i+1) r
abbrev mapOf (A:List az):List (Int×Option Nat):=vN 0 A
def cG (n:Int) (i:Nat):List az→Option Nat
 | []=>none
 | x::r=>if n=x.no then some i else cG n (i+1) r
abbrev qa (n:Int) (A:List az):Option Nat:=cG n 0 A
theorem ack (n:Int):G5 n n=true:=by simp[G5]
theorem ZP {n a:Int} (h:n≠a):G5 n a=false:=by simp[G5,h]
theorem lB (n:Int):∀ (A:List az) (i:Nat),Option.getD (α:=Option Nat) (cz (k:=tI) (v:= .hnd) (vN i A) n) none=cG n i A
 | [],i=>rfl
 | x::r,i=>by
  have e:= @Cc tI .hnd (x.no,some i) (vN (i+1) r) n
  refine (congrArg (fun z:Option (Option Nat)=>Option.getD z none) e).trans ?_
  have ih:=lB n r (i+1)
  by_cases h:n=x.no
  ·subst h
   show Option.getD (α:=Option Nat) (bif G5 x.no x.no then some (some i) else _) none=_
   rw[ack]
   simp only[cG,ajz]
   rfl
  ·show Option.getD (α:=Option Nat) (bif G5 n x.no then some (some i) else _) none=_
   rw[ZP h]
   simp only[cG,ajy h]
   exact ih
theorem Rk (n:Int) (y:az) (hy:y.no=n):∀ (A:List az) (i:Nat),cG n i A=none→nM (k:=tI) (v:= .hnd) (vN i A) n (some (i+A.length))=vN i (A++[y])
 | [],i,_=>by subst hy;rfl
 | x::r,i,h=>by
  simp only[cG] at h
  by_cases hx:n=x.no
  ·rw[ajz hx] at h;cases h
  ·rw[ajy hx] at h
   have ih:=Rk n y hy r (i+1) h
   have e:i+(x::r).length=i+1+r.length:=by simp only[ahT];omega
   rw[e]
   show (bif G5 n x.no then _ else (x.no,some i)::nM (k:=tI) (v:= .hnd) (vN (i+1) r) n (some (i+1+r.length)))=_
   rw[ZP hx]
   exact congrArg (fun z=>(x.no,some i)::z) ih
theorem EL:∀ (A:List az) (i:Nat),(vN i A).length=A.length
 | [],_=>rfl
 | x::r,i=>by simp[vN,EL r]
theorem acC {k:Nat} {y:az}:∀ (A:List az) (i:Nat),(∀ x,A[k]? =some x→y.no=x.no)→vN i (A.set k y)=vN i A:=by
 intro A
 induction A generalizing k with
 | nil=>intro i _;rfl
 | cons x r ih=>
  intro i h
  cases k with
  | zero=>simp only[List.set_cons_zero,vN];rw[h x rfl]
  | succ k=>simp only[ais,vN];rw[ih (i+1) (fun z hz=>h z (by simpa using hz))]
theorem Qd {n:Int}:∀ {A:List az} {i k:Nat},cG n i A=some k→i≤k∧∃ x,A[k - i]? =some x∧x.no=n
 | [],_,_,h=>by cases h
 | x::r,i,k,h=>by
  simp only[cG] at h
  by_cases hx:n=x.no
  ·rw[ajz hx] at h;cases h;exact⟨aiN _,x,by simp,hx.symm⟩
  ·rw[ajy hx] at h
   obtain⟨h1,y,h2,h3⟩:=Qd h
   refine⟨by omega,y, ?_,h3⟩
   rw[show k - i=k - (i+1)+1 by omega,ahC];exact h2
theorem SG {n:Int} {A:List az} {k:Nat} (h:qa n A=some k):∃ x,A[k]? =some x∧x.no=n:=(Qd h).2
theorem aaO {n:Int} {k:Nat} {y:az}:∀ (A:List az) (i:Nat),(∀ x,A[k]? =some x→y.no=x.no)→cG n i (A.set k y)=cG n i A:=by
 intro A
 induction A generalizing k with
 | nil=>intro i _;rfl
 | cons x r ih=>
  intro i h
  cases k with
  | zero=>simp only[List.set_cons_zero,cG];rw[h x rfl]
  | succ k=>simp only[ais,cG];rw[ih (i+1) (fun z hz=>h z (by simpa using hz))]
theorem SE {n:Int} {y:az}:∀ (A:List az) (i:Nat),cG n i (A++[y])=(cG n i A).or (if n=y.no then some (i+A.length) else none)
 | [],i=>by simp[cG]
 | x::r,i=>by
  simp only[ahk,cG,ahT]
  by_cases h:n=x.no
  ·simp[h]
  ·rw[ajy h,ajy h,SE r (i+1),show i+(r.length+1)=i+1+r.length by omega]
theorem vg {A:List az} {k:Nat} {x:az} (h:A[k]? =some x):(A.map az.tup)[k]? =some x.tup:=by rw[ahI,h];rfl
theorem aar (A:List az) (k:Nat) (y:az):(A.map az.tup).set k y.tup=(A.set k y).map az.tup:=by rw[ah5]
theorem OZ {A:List az} {k:Nat} {x:az} (h:A[k]? =some x) (y:az):(A.set k y)[k]? =some y:=by
 have:=(ahH.1 h).1
 simp[ahL,this]
theorem ES {A:List az} {k:Nat} {x:az} (h:A[k]? =some x) (hx:LOk x):pe (some k) (A.map az.tup)=some (x.opn,()):=by
 unfold pe
 have ht:=vg h
 simp only[ajb,ht]
 have:=hx.ret0;have:=hx.retr;have:=hx.rcvs;have:=hx.shp1;have:=hx.C2;have:=hx.ord1
 rw[aC (n:=x.ord - x.shp) (by omega) (by omega),aC (n:=x.ord - x.shp+x.ret) (by omega) (by omega)]
 rfl
end Go.Md
namespace Go.Md
open Go.Dn
abbrev dNo (d:aj):=d.2.2.1
abbrev ck (d:aj):=d.2.2.2.1
abbrev sG (d:aj):=d.2.2.2.2.1
abbrev dQ (d:aj):=d.2.2.2.2.2.2.1
abbrev Sj (d:aj):=d.2.2.2.2.2.2.2.2.1
abbrev sH (d:aj):=d.2.2.2.2.2.2.2.2.2.1
abbrev dTo (d:aj):=d.2.2.2.2.2.2.2.2.2.2
theorem jQ {d:aj} (h:Pf d=0):(usQ (ck d)=true→qOk (dQ d) (ck d==2)=true)∧(usP (ck d)=true→inR (Sj d) 0 1000000000 4=true)∧(usU (ck d)=true→FV (sH d)=true)∧(usA (ck d)=true→cM d.2.2.2.2.2.1=true∧cM d.2.2.2.2.2.2.2.1=true)∧(usT (ck d)=true→Jg (dTo d)=true):=by
 unfold Pf YH at h
 show (usQ d.2.2.2.1=true→qOk d.2.2.2.2.2.2.1 (d.2.2.2.1==2)=true)∧(usP d.2.2.2.1=true→inR d.2.2.2.2.2.2.2.2.1 0 1000000000 4=true)∧(usU d.2.2.2.1=true→FV d.2.2.2.2.2.2.2.2.2.1=true)∧(usA d.2.2.2.1=true→cM d.2.2.2.2.2.1=true∧cM d.2.2.2.2.2.2.2.1=true)∧(usT d.2.2.2.1=true→Jg d.2.2.2.2.2.2.2.2.2.2=true)
 generalize usA d.2.2.2.1=ua at*
 generalize usQ d.2.2.2.1=uq at*
 generalize usP d.2.2.2.1=up at*
 generalize usU d.2.2.2.1=uu at*
 generalize usT d.2.2.2.1=ut at*
 generalize qOk d.2.2.2.2.2.2.1 (d.2.2.2.1==2)=b1 at*
 generalize inR d.2.2.2.2.2.2.2.2.1 0 1000000000 4=b2 at*
 generalize FV d.2.2.2.2.2.2.2.2.2.1=b3 at*
 generalize cM d.2.2.2.2.2.1=b4 at*
 generalize cM d.2.2.2.2.2.2.2.1=b5 at*
 generalize Jg d.2.2.2.2.2.2.2.2.2.2=b6 at*
 cases hq:(uq&& !b1)
 ·rw[hq,ajn] at h
  cases hp:(up&& !b2)
  ·rw[hp,ajn] at h
   cases hu:(uu&& !b3)
   ·rw[hu,ajn] at h
    cases ha:(ua&&(!b4|| !b5))
    ·rw[ha,ajn] at h
     cases ht:(ut&& !b6)
     ·refine⟨?_, ?_, ?_, ?_, ?_⟩
      ·revert hq;cases uq<;>cases b1<;>simp
      ·revert hp;cases up<;>cases b2<;>simp
      ·revert hu;cases uu<;>cases b3<;>simp
      ·revert ha;cases ua<;>cases b4<;>cases b5<;>simp
      ·revert ht;cases ut<;>cases b6<;>simp
     ·rw[ht,ajo] at h;cases h
    ·rw[ha,ajo] at h;cases h
   ·rw[hu,ajo] at h;cases h
  ·rw[hp,ajo] at h;cases h
 ·rw[hq,ajo] at h;cases h
def Ph (day:Int) (i:Int) (d:aj) (x:az):Int×az:=
 if ck d=3∧sH d<day then (1,x) else if 0≤x.wish then (11,x) else (0,{ x with wish:=i })
def nZ (l:List aj) (x:az):aj:=l.getD x.wish.toNat (0,0,0,0,0,[],(0,0),[],(0,0),0,0)
def dX (l:List aj) (d:aj) (x:az):Int×az:=
 if x.wish<0 then (5,x)
 else if dNo (nZ l x)≠dTo d then (5,x)
 else if ck d=5 then
  (if ck (nZ l x)=2 then (if bV (dQ (nZ l x))<x.shp - x.ret then (12,x) else (0,{ x with ord:=bV (dQ (nZ l x)),wish:= -1 }))
  else if ck (nZ l x)=1 then (0,{ x with ord:=bV (dQ (nZ l x)),wish:= -1 })
  else if ck (nZ l x)=3 then (0,{ x with due:=sH (nZ l x),wish:= -1 })
  else (0,{ x with price:=Sj (nZ l x),wish:= -1 }))
 else (0,{ x with wish:= -1 })
def tG (day:Int) (d:aj) (x:az):Int:=
 if sH d<day then 1 else if 0≤x.wish∨x.opn=0 then 11 else if x.opn<bV (dQ d) then 12 else 0
def Pe (d:aj) (x:az):Int×az:=
 if 0≤x.wish then (11,x) else if x.ono=0∨x.ono≠dTo d then (5,x) else (0,{ x with ord:=x.shp - x.ret+x.oq,due:=x.ount,ono:=0,oq:=0,ount:=0 })
def eU (ext:Int) (d:aj) (x:az):Int×az:=
 if ck d=9 then
  (if x.ord+x.ord*ext / 1000<x.shp - x.ret+bV (dQ d) then (12,x)
  else if 1000000000000000<x.shp+bV (dQ d) then (16,x)
  else (0,{ x with shp:=x.shp+bV (dQ d) }))
 else if ck d=10 then (if x.shp<x.rcv+bV (dQ d) then (12,x) else (0,{ x with rcv:=x.rcv+bV (dQ d) }))
 else (if x.rcv<x.ret+bV (dQ d) then (12,x) else (0,{ x with ret:=x.ret+bV (dQ d) }))
theorem mB {A:List az} {k:Nat} {x:az} (h:A[k]? =some x):A.set k x=A:=by
 obtain⟨h1,h2⟩:=ahH.1 h
 rw[← h2];exact ait h1
theorem rj {A:List az} {k:Nat} (y:az) (T:bA) (hT:T=y.tup):List.set (A.map az.tup) k T=(A.set k y).map az.tup:=by rw[hT,aar]
theorem GN {A:List az} {k:Nat} {x:az} (h:A[k]? =some x) (T:bA):(List.set (A.map az.tup) k T)[k]? =some T:=by
 have:=(ahH.1 h).1
 rw[ahN (by simpa using this)]
variable {o:av} {l:List aj} {m:List (Int×Option Nat)} {ref:List ai} {pts:List aX} {wt:Int} {A:List az} {k:Nat} {x:az}
theorem tJ (h:A[k]? =some x) {i:Nat} {d:aj} (hd:l[i]? =some d):
 rK (o,l,m,ref,pts,wt,()) (some k) (i:Int) (A.map az.tup)=some ((Ph (jC o) i d x).1,(o,l,m,ref,pts,wt,()),(A.set k (Ph (jC o) i d x).2).map az.tup,()):=by
 unfold rK Ph
 dsimp only
 rw[gX hd,ajb]
 have hv:(bif d.2.2.2.1==3 then some (decide (d.2.2.2.2.2.2.2.2.2.1<o.2.2.2.1),()) else some (false,()))=some (decide (ck d=3∧sH d<jC o),()):=by
  by_cases h3:d.2.2.2.1=3
  ·rw[show (d.2.2.2.1==3)=true by simp[h3],ajo]
   simp[ck,h3]
  ·rw[show (d.2.2.2.1==3)=false by simp[h3],ajn]
   simp[ck,h3]
 rw[hv,ajb]
 dsimp only
 by_cases h1:ck d=3∧sH d<jC o
 ·rw[ajr h1,ajo,ajz h1,mB h]
 ·rw[ajq h1,ajn,ajy h1]
  simp only[ajb,vg h]
  by_cases h2:0≤x.wish
  ·rw[ajz h2,ajr (show x.wish≥0 from h2),ajo,mB h]
  ·rw[ajy h2,ajq (show ¬x.wish≥0 from h2),ajn,rj { x with wish:=(i:Int) } _ rfl]
structure WOk (l:List aj) (x:az):Prop where
 low: -1≤x.wish
 kind:0≤x.wish→∃ d,l[x.wish.toNat]? =some d∧ck d≤4
theorem JH {d:aj} (hw:l[x.wish.toNat]? =some d):nZ l x=d:=by
 unfold nZ
 rw[ahy,hw];rfl
theorem adE {d:aj} (h0:0≤x.wish) (hw:l[x.wish.toNat]? =some d):idx l x.wish=some d:=by
 unfold idx;rw[ajz h0];exact hw
theorem yG (h:A[k]? =some x) (hx:LOk x) (hw:WOk l x) (hl:∀ d,d∈l→fk d=0) (d:aj):
 oW (o,l,m,ref,pts,wt,()) (some k) d (A.map az.tup)=some ((dX l d x).1,(o,l,m,ref,pts,wt,()),(A.set k (dX l d x).2).map az.tup,()):=by
 unfold oW dX
 simp only[ajb,vg h]
 by_cases h1:x.wish<0
 ·rw[ajz h1,ajr h1,ajo,mB h]
 ·rw[ajy h1,ajq h1,ajn]
  obtain⟨w,hw1,hw2⟩:=hw.kind (by omega)
  rw[adE (by omega) hw1,JH hw1]
  simp only[ajb]
  have hwf:=hl w (aie hw1)
  obtain⟨_,_,_,hk,_,_,hu⟩:=eP hwf
  obtain⟨uq,_⟩:=jQ hu
  have b0:=hx.ret0;have b1:=hx.retr;have b2:=hx.rcvs;have b3:=hx.shp1
  by_cases h2:dNo w=dTo d
  ·rw[ajy (fun e=>e h2),show (w.2.2.1 != d.2.2.2.2.2.2.2.2.2.2)=false by simpa using h2,ajn]
   by_cases h3:ck d=5
   ·rw[ajz h3,show (d.2.2.2.1==5)=true by simpa using h3,ajo]
    by_cases k2:ck w=2
    ·have hq:=uq (by rw[k2];rfl)
     rw[ajz k2,show (w.2.2.2.1==2)=true by simpa using k2,ajo]
     simp only[qA hq,ajb,GN h,aiu]
     rw[aC (n:=x.shp - x.ret) (by omega) (by omega)]
     by_cases h4:bV (dQ w)<x.shp - x.ret
     ·rw[ajz h4,ajr h4,ajo,mB h]
     ·rw[ajy h4,ajq h4,ajn,rj { x with ord:=bV (dQ w),wish:= -1 } _ rfl]
    ·rw[ajy k2,show (w.2.2.2.1==2)=false by simpa using k2,ajn]
     by_cases k1:ck w=1
     ·have hq:=uq (by rw[k1];rfl)
      rw[ajz k1,show (w.2.2.2.1==1)=true by simpa using k1,ajo]
      simp only[qA hq,ajb,GN h,aiu]
      rw[rj { x with ord:=bV (dQ w),wish:= -1 } _ rfl]
     ·rw[ajy k1,show (w.2.2.2.1==1)=false by simpa using k1,ajn]
      by_cases k3:ck w=3
      ·rw[ajz k3,show (w.2.2.2.1==3)=true by simpa using k3,ajo]
       simp only[ajb,GN h,aiu]
       rw[rj { x with due:=sH w,wish:= -1 } _ rfl]
      ·rw[ajy k3,show (w.2.2.2.1==3)=false by simpa using k3,ajn]
       simp only[ajb,GN h,aiu]
       rw[rj { x with price:=Sj w,wish:= -1 } _ rfl]
   ·rw[ajy h3,show (d.2.2.2.1==5)=false by simpa using h3,ajn,rj { x with wish:= -1 } _ rfl]
  ·rw[ajz h2,show (w.2.2.1 != d.2.2.2.2.2.2.2.2.2.2)=true by simpa using h2,ajo,mB h]
theorem F4 (h:A[k]? =some x) (hx:LOk x) {d:aj} {z:Bool} (hq:qOk (dQ d) z=true):
 ou (o,l,m,ref,pts,wt,()) (some k) d (A.map az.tup)=some (tG (jC o) d x,(o,l,m,ref,pts,wt,()),A.map az.tup,()):=by
 unfold ou tG
 simp only[ajb,vg h,ES h hx,qA hq]
 by_cases h1:sH d<jC o
 ·rw[ajz h1,ajr h1,ajo]
 ·rw[ajy h1,ajq h1,ajn]
  by_cases h2:0≤x.wish
  ·rw[ajz (.inl h2),ajr (show x.wish≥0 from h2),ajo]
  ·rw[ajq (show ¬x.wish≥0 from h2),ajn]
   by_cases h3:x.opn=0
   ·rw[ajz (.inr h3),show (x.opn==0)=true by simp[h3],ajo]
   ·rw[ajy (fun e=>e.elim h2 h3),show (x.opn==0)=false by simp[h3],ajn]
    by_cases h4:x.opn<bV (dQ d)
    ·rw[ajz h4,ajr (show bV (dQ d)>x.opn from h4),ajo]
    ·rw[ajy h4,ajq (show ¬bV (dQ d)>x.opn from h4),ajn]
theorem Js (h:A[k]? =some x) (hx:LOk x) (d:aj):
 rJ (o,l,m,ref,pts,wt,()) (some k) d (A.map az.tup)=some ((Pe d x).1,(o,l,m,ref,pts,wt,()),(A.set k (Pe d x).2).map az.tup,()):=by
 unfold rJ Pe
 simp only[ajb,vg h,GN h,aiu]
 have b0:=hx.ret0;have b1:=hx.retr;have b2:=hx.rcvs;have b3:=hx.shp1;have b4:=hx.C2;have b5:=hx.ord1
 by_cases h1:0≤x.wish
 ·rw[ajz h1,ajr (show x.wish≥0 from h1),ajo,mB h]
 ·rw[ajy h1,ajq (show ¬x.wish≥0 from h1),ajn]
  by_cases h2:x.ono=0
  ·rw[ajz (.inl h2),show (x.ono==0)=true by simp[h2],ajo,mB h]
  ·rw[show (x.ono==0)=false by simp[h2],ajn]
   by_cases h3:x.ono=dTo d
   ·obtain⟨c1,c2⟩:=hx.off h2
    rw[ajy (fun e=>e.elim h2 (fun e=>e h3)),show (x.ono != d.2.2.2.2.2.2.2.2.2.2)=false by simpa using h3,ajn,
     aC (n:=x.shp - x.ret) (by omega) (by omega),aC (n:=x.shp - x.ret+x.oq) (by omega) (by omega),
     rj { x with ord:=x.shp - x.ret+x.oq,due:=x.ount,ono:=0,oq:=0,ount:=0 } _ rfl]
   ·rw[ajz (.inr h3),show (x.ono != d.2.2.2.2.2.2.2.2.2.2)=true by simpa using h3,ajo,mB h]
theorem tH (h:A[k]? =some x) (hx:LOk x) (he0:0≤gU o) (he1:gU o≤1000) {d:aj} {z:Bool} (hq:qOk (dQ d) z=true):
 rI (o,l,m,ref,pts,wt,()) (some k) d (A.map az.tup)=some ((eU (gU o) d x).1,(o,l,m,ref,pts,wt,()),(A.set k (eU (gU o) d x).2).map az.tup,()):=by
 unfold rI eU
 simp only[ajb,vg h,GN h,qA hq]
 have b0:=hx.ret0;have b1:=hx.retr;have b2:=hx.rcvs;have b3:=hx.shp1;have b4:=hx.C2;have b5:=hx.ord1
 obtain⟨q0,q1,_⟩:=zg hq
 by_cases k9:ck d=9
 ·rw[ajz k9,show (d.2.2.2.1==9)=true by simpa using k9,ajo]
  have m0:0≤x.ord*gU o:=agZ b4 he0
  have m1:x.ord*gU o≤x.ord*1000:=agY he1 b4
  have e1:w64 (x.ord*gU o)=x.ord*gU o:=aC (by omega) (by omega)
  have e2:Int.tdiv (x.ord*gU o) 1000=x.ord*gU o / 1000:=ahb m0
  have d0:0≤x.ord*gU o / 1000:=Int.ediv_nonneg m0 (by omega)
  have d1:x.ord*gU o / 1000≤x.ord:=by omega
  rw[show w64 (x.ord*o.2.2.2.2.1)=x.ord*gU o from e1,e2,aC (n:=x.ord*gU o / 1000) (by omega) (by omega),aC (n:=x.ord+x.ord*gU o / 1000) (by omega) (by omega),
   aC (n:=x.shp - x.ret) (by omega) (by omega),aC (n:=x.shp - x.ret+bV (dQ d)) (by omega) (by omega),aC (n:=x.shp+bV (dQ d)) (by omega) (by omega)]
  by_cases c1:x.ord+x.ord*gU o / 1000<x.shp - x.ret+bV (dQ d)
  ·rw[ajz c1,ajr (show x.shp - x.ret+bV (dQ d)>x.ord+x.ord*gU o / 1000 from c1),ajo,mB h]
  ·rw[ajy c1,ajq (show ¬x.shp - x.ret+bV (dQ d)>x.ord+x.ord*gU o / 1000 from c1),ajn]
   by_cases c2:1000000000000000<x.shp+bV (dQ d)
   ·rw[ajz c2,ajr (show x.shp+bV (dQ d)>1000000000000000 from c2),ajo,mB h]
   ·rw[ajy c2,ajq (show ¬x.shp+bV (dQ d)>1000000000000000 from c2),ajn,rj { x with shp:=x.shp+bV (dQ d) } _ rfl]
 ·rw[ajy k9,show (d.2.2.2.1==9)=false by simpa using k9,ajn]
  by_cases k10:ck d=10
  ·rw[ajz k10,show (d.2.2.2.1==10)=true by simpa using k10,ajo,aC (n:=x.rcv+bV (dQ d)) (by omega) (by omega)]
   by_cases c1:x.shp<x.rcv+bV (dQ d)
   ·rw[ajz c1,ajr (show x.rcv+bV (dQ d)>x.shp from c1),ajo,mB h]
   ·rw[ajy c1,ajq (show ¬x.rcv+bV (dQ d)>x.shp from c1),ajn,rj { x with rcv:=x.rcv+bV (dQ d) } _ rfl]
  ·rw[ajy k10,show (d.2.2.2.1==10)=false by simpa using k10,ajn,aC (n:=x.ret+bV (dQ d)) (by omega) (by omega)]
   by_cases c1:x.rcv<x.ret+bV (dQ d)
   ·rw[ajz c1,ajr (show x.ret+bV (dQ d)>x.rcv from c1),ajo,mB h]
   ·rw[ajy c1,ajq (show ¬x.ret+bV (dQ d)>x.rcv from c1),ajn,rj { x with ret:=x.ret+bV (dQ d) } _ rfl]
end Go.Md
namespace Go.Md
open Go.Dn
def az.clr (x:az):az:={ x with ono:=0,oq:=0,ount:=0 }
def iN (o:av) (l:List aj) (i:Nat) (d:aj) (x:az):Int×az:=
 if ck d≤4 then Ph (jC o) i d x
 else if ck d≤6 then (if (dX l d x).1=0 then (0,(dX l d x).2.clr) else dX l d x)
 else if ck d=7 then (if tG (jC o) d x=0 then (0,{ x with ono:=dNo d,oq:=bV (dQ d),ount:=sH d }) else (tG (jC o) d x,x))
 else if ck d=8 then Pe d x
 else if ck d=9 then (if (eU (gU o) d x).1=0 then (0,(eU (gU o) d x).2.clr) else eU (gU o) d x)
 else eU (gU o) d x
def Gg (i:Nat) (d:aj):az:=⟨sG d,d.2.2.2.2.2.1,d.2.2.2.2.2.2.2.1,0,0,0,0,Sj d,sH d,i,0,0,0⟩
def iD (o:av) (l:List aj) (i:Nat) (d:aj) (A:List az):Int×List az:=
 if ck d=1 then
  (match qa (sG d) A with
  | some _=>(7,A)
  | none=>if 500≤A.length then (16,A) else if sH d<jC o then (1,A) else (0,A++[Gg i d]))
 else match qa (sG d) A with
  | none=>(9,A)
  | some k=>match A[k]? with
   | some x=>((iN o l i d x).1,A.set k (iN o l i d x).2)
   | none=>(9,A)
structure Sound (l:List aj) (A:List az):Prop where
 line:∀ x,x∈A→LOk x∧WOk l x
theorem afu {x:az} (h:LOk x):LOk x.clr:=⟨h.ret0,h.retr,h.rcvs,h.shp1,h.C2,h.ord1,fun e=>absurd rfl e⟩
theorem aax {l:List aj} {d:aj} {x:az} (hx:LOk x) (hw:WOk l x) (hl:∀ d,d∈l→fk d=0):((dX l d x).1=0→LOk (dX l d x).2.clr)∧((dX l d x).1≠0→(dX l d x).2=x)∧((dX l d x).2=x∨(dX l d x).2.wish= -1)∧(dX l d x).2.no=x.no:=by
 have hk:LOk x.clr:=afu hx
 unfold dX
 by_cases h1:x.wish<0
 ·rw[ajz h1];exact⟨nofun,fun _=>rfl,.inl rfl,rfl⟩
 rw[ajy h1]
 obtain⟨w,hw1,hw2⟩:=hw.kind (by omega)
 rw[JH hw1]
 obtain⟨_,_,_,_,_,_,hu⟩:=eP (hl w (aie hw1))
 obtain⟨uq,_⟩:=jQ hu
 by_cases h2:dNo w≠dTo d
 ·rw[ajz h2];exact⟨nofun,fun _=>rfl,.inl rfl,rfl⟩
 rw[ajy h2]
 by_cases h3:ck d=5
 ·rw[ajz h3]
  by_cases k2:ck w=2
  ·rw[ajz k2]
   obtain⟨q0,q1,_⟩:=zg (uq (by rw[k2];rfl))
   by_cases h4:bV (dQ w)<x.shp - x.ret
   ·rw[ajz h4];exact⟨nofun,fun _=>rfl,.inl rfl,rfl⟩
   ·rw[ajy h4];exact⟨fun _=>⟨hx.ret0,hx.retr,hx.rcvs,hx.shp1,q0,q1,fun e=>absurd rfl e⟩,fun e=>absurd rfl e,.inr rfl,rfl⟩
  ·rw[ajy k2]
   by_cases k1:ck w=1
   ·rw[ajz k1]
    obtain⟨q0,q1,_⟩:=zg (uq (by rw[k1];rfl))
    exact⟨fun _=>⟨hx.ret0,hx.retr,hx.rcvs,hx.shp1,q0,q1,fun e=>absurd rfl e⟩,fun e=>absurd rfl e,.inr rfl,rfl⟩
   ·rw[ajy k1]
    by_cases k3:ck w=3
    ·rw[ajz k3];exact⟨fun _=>⟨hx.ret0,hx.retr,hx.rcvs,hx.shp1,hx.C2,hx.ord1,fun e=>absurd rfl e⟩,fun e=>absurd rfl e,.inr rfl,rfl⟩
    ·rw[ajy k3];exact⟨fun _=>⟨hx.ret0,hx.retr,hx.rcvs,hx.shp1,hx.C2,hx.ord1,fun e=>absurd rfl e⟩,fun e=>absurd rfl e,.inr rfl,rfl⟩
 ·rw[ajy h3];exact⟨fun _=>⟨hx.ret0,hx.retr,hx.rcvs,hx.shp1,hx.C2,hx.ord1,fun e=>absurd rfl e⟩,fun e=>absurd rfl e,.inr rfl,rfl⟩
theorem adQ {ext:Int} {d:aj} {x:az} {z:Bool} (hx:LOk x) (hq:qOk (dQ d) z=true):((eU ext d x).1=0→LOk (if ck d=9 then (eU ext d x).2.clr else (eU ext d x).2))∧((eU ext d x).1≠0→(eU ext d x).2=x)∧(eU ext d x).2.wish=x.wish∧(eU ext d x).2.no=x.no:=by
 obtain⟨q0,q1,_⟩:=zg hq
 have b0:=hx.ret0;have b1:=hx.retr;have b2:=hx.rcvs;have b3:=hx.shp1
 unfold eU
 by_cases k9:ck d=9
 ·rw[ajz k9,ajz k9]
  split
  ·exact⟨nofun,fun _=>rfl,rfl,rfl⟩
  ·split
   ·exact⟨nofun,fun _=>rfl,rfl,rfl⟩
   ·rename_i h1 h2
    exact⟨fun _=>⟨b0,b1,by show x.rcv≤x.shp+bV (dQ d);omega,by show x.shp+bV (dQ d)≤_;omega,hx.C2,hx.ord1,fun e=>absurd rfl e⟩,fun e=>absurd rfl e,rfl,rfl⟩
 ·rw[ajy k9,ajy k9]
  by_cases k10:ck d=10
  ·rw[ajz k10]
   split
   ·exact⟨nofun,fun _=>rfl,rfl,rfl⟩
   ·rename_i h1
    exact⟨fun _=>⟨b0,by show x.ret≤x.rcv+bV (dQ d);omega,by show x.rcv+bV (dQ d)≤x.shp;omega,b3,hx.C2,hx.ord1,hx.off⟩,fun e=>absurd rfl e,rfl,rfl⟩
  ·rw[ajy k10]
   split
   ·exact⟨nofun,fun _=>rfl,rfl,rfl⟩
   ·rename_i h1
    exact⟨fun _=>⟨by show 0≤x.ret+bV (dQ d);omega,by show x.ret+bV (dQ d)≤x.rcv;omega,b2,b3,hx.C2,hx.ord1,fun e=>by
     obtain⟨c1,c2⟩:=hx.off e
     exact⟨c1,by show x.oq+x.shp - (x.ret+bV (dQ d))≤x.ord;omega⟩⟩,fun e=>absurd rfl e,rfl,rfl⟩
theorem OO {o:av} {l:List aj} {i:Nat} {d:aj} {x:az} (hx:LOk x) (hw:WOk l x) (hl:∀ d,d∈l→fk d=0) (hd:l[i]? =some d):
 LOk (iN o l i d x).2∧WOk l (iN o l i d x).2∧(iN o l i d x).2.no=x.no∧((iN o l i d x).1≠0→(iN o l i d x).2=x):=by
 obtain⟨_,_,_,hk,_,_,hu⟩:=eP (hl d (aie hd))
 obtain⟨uq,_⟩:=jQ hu
 unfold iN
 by_cases k4:ck d≤4
 ·rw[ajz k4]
  unfold Ph
  split
  ·exact⟨hx,hw,rfl,fun _=>rfl⟩
  ·split
   ·exact⟨hx,hw,rfl,fun _=>rfl⟩
   ·refine⟨⟨hx.ret0,hx.retr,hx.rcvs,hx.shp1,hx.C2,hx.ord1,hx.off⟩,⟨by show (-1:Int)≤(i:Int);omega,fun _=>⟨d,by show l[((i:Int)).toNat]? =some d;simpa using hd,k4⟩⟩,rfl,fun e=>absurd rfl e⟩
 ·rw[ajy k4]
  by_cases k6:ck d≤6
  ·rw[ajz k6]
   obtain⟨a1,a2,a3,a4⟩:=aax (d:=d) hx hw hl
   split
   ·rename_i e
    refine⟨a1 e, ?_,a4,fun e=>absurd rfl e⟩
    rcases a3 with a3 | a3
    ·rw[a3];exact⟨hw.low,hw.kind⟩
    ·exact⟨by show -1≤(dX l d x).2.wish;omega,fun h=>by have:0≤(dX l d x).2.wish:=h;omega⟩
   ·rename_i e
    rw[a2 e];exact⟨hx,hw,rfl,fun _=>rfl⟩
  ·rw[ajy k6]
   by_cases k7:ck d=7
   ·rw[ajz k7]
    have hq:=uq (by rw[k7];rfl)
    rw[show (ck d==2)=false by rw[k7];rfl] at hq
    obtain⟨q0,q1,q2⟩:=zg hq
    split
    ·rename_i e
     refine⟨⟨hx.ret0,hx.retr,hx.rcvs,hx.shp1,hx.C2,hx.ord1,fun _=>⟨q2 rfl, ?_⟩⟩,⟨hw.low,hw.kind⟩,rfl,fun e=>absurd rfl e⟩
     show bV (dQ d)+x.shp - x.ret≤x.ord
     unfold tG at e
     split at e
     ·cases e
     ·split at e
      ·cases e
      ·split at e
       ·cases e
       ·rename_i h1 h2 h3
        have:=q2 rfl
        unfold az.opn at h3
        split at h3<;>omega
    ·exact⟨hx,hw,rfl,fun _=>rfl⟩
   ·rw[ajy k7]
    by_cases k8:ck d=8
    ·rw[ajz k8]
     unfold Pe
     split
     ·exact⟨hx,hw,rfl,fun _=>rfl⟩
     ·split
      ·exact⟨hx,hw,rfl,fun _=>rfl⟩
      ·rename_i h1 h2
       obtain⟨c1,c2⟩:=hx.off (fun e=>h2 (.inl e))
       have:=hx.ret0;have:=hx.retr;have:=hx.rcvs;have:=hx.ord1
       refine⟨⟨hx.ret0,hx.retr,hx.rcvs,hx.shp1, ?_, ?_,fun e=>absurd rfl e⟩,⟨hw.low,hw.kind⟩,rfl,fun e=>absurd rfl e⟩
       ·show 0≤x.shp - x.ret+x.oq;omega
       ·show x.shp - x.ret+x.oq≤1000000000000;omega
    ·rw[ajy k8]
     have hq:=uq (by
      unfold usQ
      refine ajr ⟨by omega,by omega,by omega,by omega,by omega⟩)
     obtain⟨a1,a2,a3,a4⟩:=adQ (ext:=gU o) hx hq
     by_cases k9:ck d=9
     ·rw[ajz k9]
      split
      ·rename_i e
       have:=a1 e
       rw[ajz k9] at this
       exact⟨this,⟨by show -1≤(eU (gU o) d x).2.wish;rw[a3];exact hw.low,fun h=>by
        have h':0≤(eU (gU o) d x).2.wish:=h
        rw[a3] at h'
        show ∃ d',l[(eU (gU o) d x).2.wish.toNat]? =some d'∧_
        rw[a3];exact hw.kind h'⟩,a4,fun e=>absurd rfl e⟩
      ·rename_i e
       rw[a2 e];exact⟨hx,hw,rfl,fun _=>rfl⟩
     ·rw[ajy k9]
      by_cases e:(eU (gU o) d x).1=0
      ·have:=a1 e
       rw[ajy k9] at this
       exact⟨this,⟨by rw[a3];exact hw.low,fun h=>by rw[a3] at h ⊢;exact hw.kind h⟩,a4,fun h=>absurd e h⟩
      ·rw[a2 e];exact⟨hx,hw,rfl,fun _=>rfl⟩
theorem ac8 {l:List aj} {A:List az} (h:Sound l A) {k:Nat} {y:az} (h1:LOk y) (h2:WOk l y):Sound l (A.set k y):=⟨fun x hx=>by
 rcases aih hx with hx | hx
 ·exact h.line x hx
 ·subst hx;exact⟨h1,h2⟩⟩
theorem adt {o:av} {l:List aj} {i:Nat} {d:aj} {A:List az} (hA:Sound l A) (hl:∀ d,d∈l→fk d=0) (hd:l[i]? =some d):
 Sound l (iD o l i d A).2∧((iD o l i d A).1≠0→(iD o l i d A).2=A):=by
 unfold iD
 by_cases k1:ck d=1
 ·rw[ajz k1]
  split
  ·exact⟨hA,fun _=>rfl⟩
  ·split
   ·exact⟨hA,fun _=>rfl⟩
   ·split
    ·exact⟨hA,fun _=>rfl⟩
    ·refine⟨⟨fun x hx=> ?_⟩,fun e=>absurd rfl e⟩
     rcases ah6.1 hx with hx | hx
     ·exact hA.line x hx
     ·simp only[aij] at hx
      subst hx
      exact⟨⟨by show (0:Int)≤0;omega,by show (0:Int)≤0;omega,by show (0:Int)≤0;omega,by show (0:Int)≤_;omega,by show (0:Int)≤0;omega,by show (0:Int)≤_;omega,fun e=>absurd rfl e⟩,
       ⟨by show (-1:Int)≤(i:Int);omega,fun _=>⟨d,by show l[((i:Int)).toNat]? =some d;simpa using hd,by omega⟩⟩⟩
 ·rw[ajy k1]
  split
  ·exact⟨hA,fun _=>rfl⟩
  ·rename_i k hk
   split
   ·rename_i x hx
    obtain⟨h1,h2⟩:=hA.line x (aie hx)
    obtain⟨a1,a2,a3,a4⟩:=OO (o:=o) h1 h2 hl hd
    exact⟨ac8 hA a1 a2,fun e=>by rw[a4 e];exact mB hx⟩
   ·exact⟨hA,fun _=>rfl⟩
variable {o:av} {l:List aj} {ref:List ai} {pts:List aX} {wt:Int} {A:List az}
theorem Kr {i:Nat} {d:aj} (hd:l[i]? =some d) (k1:ck d=1):
 sP (o,l,mapOf A,ref,pts,wt,()) (i:Int) (A.map az.tup)=some ((iD o l i d A).1,(o,l,mapOf (iD o l i d A).2,ref,pts,wt,()),(iD o l i d A).2.map az.tup,()):=by
 unfold sP iD
 dsimp only
 rw[gX hd,ajb,lB,ajz k1]
 cases hf:qa (sG d) A with
 | some k=>rw[show cG d.2.2.2.2.1 0 A=some k from hf];rfl
 | none=>
  rw[show cG d.2.2.2.2.1 0 A=none from hf]
  dsimp only
  rw[show (!Option.isNone (none:Option Nat))=false from rfl,ajn]
  by_cases h1:500≤A.length
  ·rw[ajz h1,ajr (show ((mapOf A).length:Int)≥500 by rw[EL];omega),ajo]
  ·rw[ajy h1,ajq (show ¬((mapOf A).length:Int)≥500 by rw[EL];omega),ajn]
   by_cases h2:sH d<jC o
   ·rw[ajz h2,ajr h2,ajo]
   ·rw[ajy h2,ajq h2,ajn]
    have hs:=Rk (sG d) (Gg i d) rfl A 0 hf
    rw[ai7] at hs
    rw[ahU]
    refine congrArg some ?_
    refine Prod.ext rfl (Prod.ext ?_ (Prod.ext ?_ rfl))
    ·exact Prod.ext rfl (Prod.ext rfl (Prod.ext hs rfl))
    ·show List.map az.tup A++[_]=List.map az.tup (A++[Gg i d])
     rw[ah0]
     rfl
end Go.Md
namespace Go.Md
open Go.Dn
theorem aaJ {o:av} {l:List aj} {i:Nat} {d:aj} {A:List az} (k1:ck d≠1) (hf:qa (sG d) A=none):iD o l i d A=(9,A):=by
 unfold iD;rw[ajy k1,hf]
theorem ab0 {o:av} {l:List aj} {i:Nat} {d:aj} {A:List az} {k:Nat} {x:az} (k1:ck d≠1) (hf:qa (sG d) A=some k) (hx:A[k]? =some x):iD o l i d A=((iN o l i d x).1,A.set k (iN o l i d x).2):=by
 unfold iD;rw[ajy k1,hf];dsimp only;rw[hx]
variable {o:av} {l:List aj} {ref:List ai} {pts:List aX} {wt:Int} {A:List az}
theorem UQ {k:Nat} (x:az) (y:az) (T:bA) (hT:T=y.tup):List.set ((A.set k x).map az.tup) k T=(A.set k y).map az.tup:=by
 rw[hT,aar,aiu]
theorem aeA {onum obuy osel:Bys} {oday oext:Int} {olns:List bC} {day byy no line:Int} {art:Bys} {q:ai} {unit:Bys} {p:ai} {un to:Int} {i:Nat} (he0:0≤oext) (he1:oext≤1000) (hl:∀ d,d∈l→fk d=0)
 (hd:l[i]? =some (day,byy,no,2,line,art,q,unit,p,un,to)) {k:Nat} {x:az} (hf:cG line 0 A=some k) (hx:A[k]? =some x) (hs:LOk x) (hw:WOk l x):
 bz ((onum,obuy,osel,oday,oext,olns),l,mapOf A,ref,pts,wt,()) (i:Int) (A.map az.tup)=some ((iN (onum,obuy,osel,oday,oext,olns) l i (day,byy,no,2,line,art,q,unit,p,un,to) x).1,((onum,obuy,osel,oday,oext,olns),l,mapOf A,ref,pts,wt,()),(A.set k (iN (onum,obuy,osel,oday,oext,olns) l i (day,byy,no,2,line,art,q,unit,p,un,to) x).2).map az.tup,()):=by
 have hdf:=hl _ (aie hd)
 obtain⟨_,_,_,_,_,_,hu⟩:=eP hdf
 obtain⟨uq,_⟩:=jQ hu
 have h21:((2:Int)==1)=false:=rfl
 have h22:((2:Int)==2)=true:=rfl
 have h23:((2:Int)==3)=false:=rfl
 have h24:((2:Int)==4)=false:=rfl
 have h25:((2:Int)==5)=false:=rfl
 have h26:((2:Int)==6)=false:=rfl
 have h27:((2:Int)==7)=false:=rfl
 have h28:((2:Int)==8)=false:=rfl
 have h29:((2:Int)==9)=false:=rfl
 unfold bz
 dsimp only
 rw[gX hd,ajb]
 dsimp only
 rw[lB,hf]
 simp only[h21,h22,h23,h24,h25,h26,h27,h28,h29,ajo,ajn,aT,aje,ajb,tJ hx hd]
 rfl
theorem aeB {onum obuy osel:Bys} {oday oext:Int} {olns:List bC} {day byy no line:Int} {art:Bys} {q:ai} {unit:Bys} {p:ai} {un to:Int} {i:Nat} (he0:0≤oext) (he1:oext≤1000) (hl:∀ d,d∈l→fk d=0)
 (hd:l[i]? =some (day,byy,no,3,line,art,q,unit,p,un,to)) {k:Nat} {x:az} (hf:cG line 0 A=some k) (hx:A[k]? =some x) (hs:LOk x) (hw:WOk l x):
 bz ((onum,obuy,osel,oday,oext,olns),l,mapOf A,ref,pts,wt,()) (i:Int) (A.map az.tup)=some ((iN (onum,obuy,osel,oday,oext,olns) l i (day,byy,no,3,line,art,q,unit,p,un,to) x).1,((onum,obuy,osel,oday,oext,olns),l,mapOf A,ref,pts,wt,()),(A.set k (iN (onum,obuy,osel,oday,oext,olns) l i (day,byy,no,3,line,art,q,unit,p,un,to) x).2).map az.tup,()):=by
 have hdf:=hl _ (aie hd)
 obtain⟨_,_,_,_,_,_,hu⟩:=eP hdf
 obtain⟨uq,_⟩:=jQ hu
 have h31:((3:Int)==1)=false:=rfl
 have h32:((3:Int)==2)=false:=rfl
 have h33:((3:Int)==3)=true:=rfl
 have h34:((3:Int)==4)=false:=rfl
 have h35:((3:Int)==5)=false:=rfl
 have h36:((3:Int)==6)=false:=rfl
 have h37:((3:Int)==7)=false:=rfl
 have h38:((3:Int)==8)=false:=rfl
 have h39:((3:Int)==9)=false:=rfl
 unfold bz
 dsimp only
 rw[gX hd,ajb]
 dsimp only
 rw[lB,hf]
 simp only[h31,h32,h33,h34,h35,h36,h37,h38,h39,ajo,ajn,aT,aje,ajb,tJ hx hd]
 rfl
theorem aeC {onum obuy osel:Bys} {oday oext:Int} {olns:List bC} {day byy no line:Int} {art:Bys} {q:ai} {unit:Bys} {p:ai} {un to:Int} {i:Nat} (he0:0≤oext) (he1:oext≤1000) (hl:∀ d,d∈l→fk d=0)
 (hd:l[i]? =some (day,byy,no,4,line,art,q,unit,p,un,to)) {k:Nat} {x:az} (hf:cG line 0 A=some k) (hx:A[k]? =some x) (hs:LOk x) (hw:WOk l x):
 bz ((onum,obuy,osel,oday,oext,olns),l,mapOf A,ref,pts,wt,()) (i:Int) (A.map az.tup)=some ((iN (onum,obuy,osel,oday,oext,olns) l i (day,byy,no,4,line,art,q,unit,p,un,to) x).1,((onum,obuy,osel,oday,oext,olns),l,mapOf A,ref,pts,wt,()),(A.set k (iN (onum,obuy,osel,oday,oext,olns) l i (day,byy,no,4,line,art,q,unit,p,un,to) x).2).map az.tup,()):=by
 have hdf:=hl _ (aie hd)
 obtain⟨_,_,_,_,_,_,hu⟩:=eP hdf
 obtain⟨uq,_⟩:=jQ hu
 have h41:((4:Int)==1)=false:=rfl
 have h42:((4:Int)==2)=false:=rfl
 have h43:((4:Int)==3)=false:=rfl
 have h44:((4:Int)==4)=true:=rfl
 have h45:((4:Int)==5)=false:=rfl
 have h46:((4:Int)==6)=false:=rfl
 have h47:((4:Int)==7)=false:=rfl
 have h48:((4:Int)==8)=false:=rfl
 have h49:((4:Int)==9)=false:=rfl
 unfold bz
 dsimp only
 rw[gX hd,ajb]
 dsimp only
 rw[lB,hf]
 simp only[h41,h42,h43,h44,h45,h46,h47,h48,h49,ajo,ajn,aT,aje,ajb,tJ hx hd]
 rfl
theorem aeD {onum obuy osel:Bys} {oday oext:Int} {olns:List bC} {day byy no line:Int} {art:Bys} {q:ai} {unit:Bys} {p:ai} {un to:Int} {i:Nat} (he0:0≤oext) (he1:oext≤1000) (hl:∀ d,d∈l→fk d=0)
 (hd:l[i]? =some (day,byy,no,5,line,art,q,unit,p,un,to)) {k:Nat} {x:az} (hf:cG line 0 A=some k) (hx:A[k]? =some x) (hs:LOk x) (hw:WOk l x):
 bz ((onum,obuy,osel,oday,oext,olns),l,mapOf A,ref,pts,wt,()) (i:Int) (A.map az.tup)=some ((iN (onum,obuy,osel,oday,oext,olns) l i (day,byy,no,5,line,art,q,unit,p,un,to) x).1,((onum,obuy,osel,oday,oext,olns),l,mapOf A,ref,pts,wt,()),(A.set k (iN (onum,obuy,osel,oday,oext,olns) l i (day,byy,no,5,line,art,q,unit,p,un,to) x).2).map az.tup,()):=by
 have hdf:=hl _ (aie hd)
 obtain⟨_,_,_,_,_,_,hu⟩:=eP hdf
 obtain⟨uq,_⟩:=jQ hu
 have h51:((5:Int)==1)=false:=rfl
 have h52:((5:Int)==2)=false:=rfl
 have h53:((5:Int)==3)=false:=rfl
 have h54:((5:Int)==4)=false:=rfl
 have h55:((5:Int)==5)=true:=rfl
 have h56:((5:Int)==6)=false:=rfl
 have h57:((5:Int)==7)=false:=rfl
 have h58:((5:Int)==8)=false:=rfl
 have h59:((5:Int)==9)=false:=rfl
 unfold bz
 dsimp only
 rw[gX hd,ajb]
 dsimp only
 rw[lB,hf]
 simp only[h51,h52,h53,h54,h55,h56,h57,h58,h59,ajo,ajn,aT,aje,ajb,yG hx hs hw hl,jG]
 have ha:iN (onum,obuy,osel,oday,oext,olns) l i (day,byy,no,5,line,art,q,unit,p,un,to) x=(if (dX l (day,byy,no,5,line,art,q,unit,p,un,to) x).1=0 then (0,(dX l (day,byy,no,5,line,art,q,unit,p,un,to) x).2.clr) else dX l (day,byy,no,5,line,art,q,unit,p,un,to) x):=rfl
 rw[ha]
 by_cases e:(dX l (day,byy,no,5,line,art,q,unit,p,un,to) x).1=0
 ·rw[ajz e,e]
  simp only[show ((0:Int)==0)=true from rfl,ajo,ajb,vg (OZ hx _)]
  simp only[true_or,or_true,aju,ajo]
  refine congrArg some (Prod.ext rfl (Prod.ext rfl (Prod.ext ?_ rfl)))
  exact UQ (dX l (day,byy,no,5,line,art,q,unit,p,un,to) x).2 ((dX l (day,byy,no,5,line,art,q,unit,p,un,to) x).2.clr) _ rfl
 ·rw[ajy e,oA e,ajn]
  rfl
theorem aeE {onum obuy osel:Bys} {oday oext:Int} {olns:List bC} {day byy no line:Int} {art:Bys} {q:ai} {unit:Bys} {p:ai} {un to:Int} {i:Nat} (he0:0≤oext) (he1:oext≤1000) (hl:∀ d,d∈l→fk d=0)
 (hd:l[i]? =some (day,byy,no,6,line,art,q,unit,p,un,to)) {k:Nat} {x:az} (hf:cG line 0 A=some k) (hx:A[k]? =some x) (hs:LOk x) (hw:WOk l x):
 bz ((onum,obuy,osel,oday,oext,olns),l,mapOf A,ref,pts,wt,()) (i:Int) (A.map az.tup)=some ((iN (onum,obuy,osel,oday,oext,olns) l i (day,byy,no,6,line,art,q,unit,p,un,to) x).1,((onum,obuy,osel,oday,oext,olns),l,mapOf A,ref,pts,wt,()),(A.set k (iN (onum,obuy,osel,oday,oext,olns) l i (day,byy,no,6,line,art,q,unit,p,un,to) x).2).map az.tup,()):=by
 have hdf:=hl _ (aie hd)
 obtain⟨_,_,_,_,_,_,hu⟩:=eP hdf
 obtain⟨uq,_⟩:=jQ hu
 have h61:((6:Int)==1)=false:=rfl
 have h62:((6:Int)==2)=false:=rfl
 have h63:((6:Int)==3)=false:=rfl
 have h64:((6:Int)==4)=false:=rfl
 have h65:((6:Int)==5)=false:=rfl
 have h66:((6:Int)==6)=true:=rfl
 have h67:((6:Int)==7)=false:=rfl
 have h68:((6:Int)==8)=false:=rfl
 have h69:((6:Int)==9)=false:=rfl
 unfold bz
 dsimp only
 rw[gX hd,ajb]
 dsimp only
 rw[lB,hf]
 simp only[h61,h62,h63,h64,h65,h66,h67,h68,h69,ajo,ajn,aT,aje,ajb,yG hx hs hw hl,jG]
 have ha:iN (onum,obuy,osel,oday,oext,olns) l i (day,byy,no,6,line,art,q,unit,p,un,to) x=(if (dX l (day,byy,no,6,line,art,q,unit,p,un,to) x).1=0 then (0,(dX l (day,byy,no,6,line,art,q,unit,p,un,to) x).2.clr) else dX l (day,byy,no,6,line,art,q,unit,p,un,to) x):=rfl
 rw[ha]
 by_cases e:(dX l (day,byy,no,6,line,art,q,unit,p,un,to) x).1=0
 ·rw[ajz e,e]
  simp only[show ((0:Int)==0)=true from rfl,ajo,ajb,vg (OZ hx _)]
  simp only[true_or,or_true,aju,ajo]
  refine congrArg some (Prod.ext rfl (Prod.ext rfl (Prod.ext ?_ rfl)))
  exact UQ (dX l (day,byy,no,6,line,art,q,unit,p,un,to) x).2 ((dX l (day,byy,no,6,line,art,q,unit,p,un,to) x).2.clr) _ rfl
 ·rw[ajy e,oA e,ajn]
  rfl
theorem aeF {onum obuy osel:Bys} {oday oext:Int} {olns:List bC} {day byy no line:Int} {art:Bys} {q:ai} {unit:Bys} {p:ai} {un to:Int} {i:Nat} (he0:0≤oext) (he1:oext≤1000) (hl:∀ d,d∈l→fk d=0)
 (hd:l[i]? =some (day,byy,no,7,line,art,q,unit,p,un,to)) {k:Nat} {x:az} (hf:cG line 0 A=some k) (hx:A[k]? =some x) (hs:LOk x) (hw:WOk l x):
 bz ((onum,obuy,osel,oday,oext,olns),l,mapOf A,ref,pts,wt,()) (i:Int) (A.map az.tup)=some ((iN (onum,obuy,osel,oday,oext,olns) l i (day,byy,no,7,line,art,q,unit,p,un,to) x).1,((onum,obuy,osel,oday,oext,olns),l,mapOf A,ref,pts,wt,()),(A.set k (iN (onum,obuy,osel,oday,oext,olns) l i (day,byy,no,7,line,art,q,unit,p,un,to) x).2).map az.tup,()):=by
 have hdf:=hl _ (aie hd)
 obtain⟨_,_,_,_,_,_,hu⟩:=eP hdf
 obtain⟨uq,_⟩:=jQ hu
 have h71:((7:Int)==1)=false:=rfl
 have h72:((7:Int)==2)=false:=rfl
 have h73:((7:Int)==3)=false:=rfl
 have h74:((7:Int)==4)=false:=rfl
 have h75:((7:Int)==5)=false:=rfl
 have h76:((7:Int)==6)=false:=rfl
 have h77:((7:Int)==7)=true:=rfl
 have h78:((7:Int)==8)=false:=rfl
 have h79:((7:Int)==9)=false:=rfl
 unfold bz
 dsimp only
 rw[gX hd,ajb]
 dsimp only
 rw[lB,hf]
 have hq:qOk q false=true:=uq rfl
 simp only[h71,h72,h73,h74,h75,h76,h77,h78,h79,ajo,ajn,aT,aje,ajb,F4 hx hs (d:=(day,byy,no,7,line,art,q,unit,p,un,to)) hq,jG]
 have ha:iN (onum,obuy,osel,oday,oext,olns) l i (day,byy,no,7,line,art,q,unit,p,un,to) x=(if tG oday (day,byy,no,7,line,art,q,unit,p,un,to) x=0 then (0,{ x with ono:=no,oq:=bV q,ount:=un }) else (tG oday (day,byy,no,7,line,art,q,unit,p,un,to) x,x)):=rfl
 rw[ha]
 by_cases e:tG oday (day,byy,no,7,line,art,q,unit,p,un,to) x=0
 ·rw[ajz e,show tG (jC (onum,obuy,osel,oday,oext,olns)) (day,byy,no,7,line,art,q,unit,p,un,to) x=0 from e]
  simp only[show ((0:Int)==0)=true from rfl,ajo,ajb,vg hx]
  simp only[true_or,or_true,aju,ajo]
  rw[show kU (q.1,q.2)=some (bV q,()) from qA hq,ajb]
  simp only[GN hx,ajb,aiu]
  rw[rj { x with ono:=no,oq:=bV q,ount:=un } _ rfl]
 ·rw[ajy e,show (tG (jC (onum,obuy,osel,oday,oext,olns)) (day,byy,no,7,line,art,q,unit,p,un,to) x==0)=false from oA e,ajn,mB hx]
  rfl
theorem aeG {onum obuy osel:Bys} {oday oext:Int} {olns:List bC} {day byy no line:Int} {art:Bys} {q:ai} {unit:Bys} {p:ai} {un to:Int} {i:Nat} (he0:0≤oext) (he1:oext≤1000) (hl:∀ d,d∈l→fk d=0)
 (hd:l[i]? =some (day,byy,no,8,line,art,q,unit,p,un,to)) {k:Nat} {x:az} (hf:cG line 0 A=some k) (hx:A[k]? =some x) (hs:LOk x) (hw:WOk l x):
 bz ((onum,obuy,osel,oday,oext,olns),l,mapOf A,ref,pts,wt,()) (i:Int) (A.map az.tup)=some ((iN (onum,obuy,osel,oday,oext,olns) l i (day,byy,no,8,line,art,q,unit,p,un,to) x).1,((onum,obuy,osel,oday,oext,olns),l,mapOf A,ref,pts,wt,()),(A.set k (iN (onum,obuy,osel,oday,oext,olns) l i (day,byy,no,8,line,art,q,unit,p,un,to) x).2).map az.tup,()):=by
 have hdf:=hl _ (aie hd)
 obtain⟨_,_,_,_,_,_,hu⟩:=eP hdf
 obtain⟨uq,_⟩:=jQ hu
 have h81:((8:Int)==1)=false:=rfl
 have h82:((8:Int)==2)=false:=rfl
 have h83:((8:Int)==3)=false:=rfl
 have h84:((8:Int)==4)=false:=rfl
 have h85:((8:Int)==5)=false:=rfl
 have h86:((8:Int)==6)=false:=rfl
 have h87:((8:Int)==7)=false:=rfl
 have h88:((8:Int)==8)=true:=rfl
 have h89:((8:Int)==9)=false:=rfl
 unfold bz
 dsimp only
 rw[gX hd,ajb]
 dsimp only
 rw[lB,hf]
 simp only[h81,h82,h83,h84,h85,h86,h87,h88,h89,ajo,ajn,aT,aje,ajb,Js hx hs]
 rfl
theorem aeH {onum obuy osel:Bys} {oday oext:Int} {olns:List bC} {day byy no line:Int} {art:Bys} {q:ai} {unit:Bys} {p:ai} {un to:Int} {i:Nat} (he0:0≤oext) (he1:oext≤1000) (hl:∀ d,d∈l→fk d=0)
 (hd:l[i]? =some (day,byy,no,9,line,art,q,unit,p,un,to)) {k:Nat} {x:az} (hf:cG line 0 A=some k) (hx:A[k]? =some x) (hs:LOk x) (hw:WOk l x):
 bz ((onum,obuy,osel,oday,oext,olns),l,mapOf A,ref,pts,wt,()) (i:Int) (A.map az.tup)=some ((iN (onum,obuy,osel,oday,oext,olns) l i (day,byy,no,9,line,art,q,unit,p,un,to) x).1,((onum,obuy,osel,oday,oext,olns),l,mapOf A,ref,pts,wt,()),(A.set k (iN (onum,obuy,osel,oday,oext,olns) l i (day,byy,no,9,line,art,q,unit,p,un,to) x).2).map az.tup,()):=by
 have hdf:=hl _ (aie hd)
 obtain⟨_,_,_,_,_,_,hu⟩:=eP hdf
 obtain⟨uq,_⟩:=jQ hu
 have h91:((9:Int)==1)=false:=rfl
 have h92:((9:Int)==2)=false:=rfl
 have h93:((9:Int)==3)=false:=rfl
 have h94:((9:Int)==4)=false:=rfl
 have h95:((9:Int)==5)=false:=rfl
 have h96:((9:Int)==6)=false:=rfl
 have h97:((9:Int)==7)=false:=rfl
 have h98:((9:Int)==8)=false:=rfl
 have h99:((9:Int)==9)=true:=rfl
 unfold bz
 dsimp only
 rw[gX hd,ajb]
 dsimp only
 rw[lB,hf]
 have hq:qOk q false=true:=uq rfl
 simp only[h91,h92,h93,h94,h95,h96,h97,h98,h99,ajo,ajn,aT,aje,ajb,tH hx hs (o:=(onum,obuy,osel,oday,oext,olns)) he0 he1 (d:=(day,byy,no,9,line,art,q,unit,p,un,to)) hq,jG]
 have ha:iN (onum,obuy,osel,oday,oext,olns) l i (day,byy,no,9,line,art,q,unit,p,un,to) x=(if (eU oext (day,byy,no,9,line,art,q,unit,p,un,to) x).1=0 then (0,(eU oext (day,byy,no,9,line,art,q,unit,p,un,to) x).2.clr) else eU oext (day,byy,no,9,line,art,q,unit,p,un,to) x):=rfl
 rw[ha]
 by_cases e:(eU oext (day,byy,no,9,line,art,q,unit,p,un,to) x).1=0
 ·rw[ajz e,show (eU (gU (onum,obuy,osel,oday,oext,olns)) (day,byy,no,9,line,art,q,unit,p,un,to) x).1=0 from e]
  simp only[show ((0:Int)==0)=true from rfl,ajo,ajb,vg (OZ hx _)]
  simp only[true_or,or_true,aju,ajo]
  refine congrArg some (Prod.ext rfl (Prod.ext rfl (Prod.ext ?_ rfl)))
  exact UQ (eU oext (day,byy,no,9,line,art,q,unit,p,un,to) x).2 ((eU oext (day,byy,no,9,line,art,q,unit,p,un,to) x).2.clr) _ rfl
 ·rw[ajy e,show ((eU (gU (onum,obuy,osel,oday,oext,olns)) (day,byy,no,9,line,art,q,unit,p,un,to) x).1==0)=false from oA e,ajn]
  rfl
theorem adu {onum obuy osel:Bys} {oday oext:Int} {olns:List bC} {day byy no line:Int} {art:Bys} {q:ai} {unit:Bys} {p:ai} {un to:Int} {i:Nat} (he0:0≤oext) (he1:oext≤1000) (hl:∀ d,d∈l→fk d=0)
 (hd:l[i]? =some (day,byy,no,10,line,art,q,unit,p,un,to)) {k:Nat} {x:az} (hf:cG line 0 A=some k) (hx:A[k]? =some x) (hs:LOk x) (hw:WOk l x):
 bz ((onum,obuy,osel,oday,oext,olns),l,mapOf A,ref,pts,wt,()) (i:Int) (A.map az.tup)=some ((iN (onum,obuy,osel,oday,oext,olns) l i (day,byy,no,10,line,art,q,unit,p,un,to) x).1,((onum,obuy,osel,oday,oext,olns),l,mapOf A,ref,pts,wt,()),(A.set k (iN (onum,obuy,osel,oday,oext,olns) l i (day,byy,no,10,line,art,q,unit,p,un,to) x).2).map az.tup,()):=by
 have hdf:=hl _ (aie hd)
 obtain⟨_,_,_,_,_,_,hu⟩:=eP hdf
 obtain⟨uq,_⟩:=jQ hu
 have h101:((10:Int)==1)=false:=rfl
 have h102:((10:Int)==2)=false:=rfl
 have h103:((10:Int)==3)=false:=rfl
 have h104:((10:Int)==4)=false:=rfl
 have h105:((10:Int)==5)=false:=rfl
 have h106:((10:Int)==6)=false:=rfl
 have h107:((10:Int)==7)=false:=rfl
 have h108:((10:Int)==8)=false:=rfl
 have h109:((10:Int)==9)=false:=rfl
 unfold bz
 dsimp only
 rw[gX hd,ajb]
 dsimp only
 rw[lB,hf]
 have hq:qOk q false=true:=uq rfl
 simp only[h101,h102,h103,h104,h105,h106,h107,h108,h109,ajo,ajn,aT,aje,ajb,tH hx hs (o:=(onum,obuy,osel,oday,oext,olns)) he0 he1 (d:=(day,byy,no,10,line,art,q,unit,p,un,to)) hq,jG]
 have ha:iN (onum,obuy,osel,oday,oext,olns) l i (day,byy,no,10,line,art,q,unit,p,un,to) x=eU oext (day,byy,no,10,line,art,q,unit,p,un,to) x:=rfl
 rw[ha]
 by_cases e:(eU oext (day,byy,no,10,line,art,q,unit,p,un,to) x).1=0
 ·rw[show ((eU (gU (onum,obuy,osel,oday,oext,olns)) (day,byy,no,10,line,art,q,unit,p,un,to) x).1==0)=true by show ((eU oext (day,byy,no,10,line,art,q,unit,p,un,to) x).1==0)=true;rw[e];rfl]
  rfl
 ·rw[show ((eU (gU (onum,obuy,osel,oday,oext,olns)) (day,byy,no,10,line,art,q,unit,p,un,to) x).1==0)=false from oA e]
  rfl
theorem adv {onum obuy osel:Bys} {oday oext:Int} {olns:List bC} {day byy no line:Int} {art:Bys} {q:ai} {unit:Bys} {p:ai} {un to:Int} {i:Nat} (he0:0≤oext) (he1:oext≤1000) (hl:∀ d,d∈l→fk d=0)
 (hd:l[i]? =some (day,byy,no,11,line,art,q,unit,p,un,to)) {k:Nat} {x:az} (hf:cG line 0 A=some k) (hx:A[k]? =some x) (hs:LOk x) (hw:WOk l x):
 bz ((onum,obuy,osel,oday,oext,olns),l,mapOf A,ref,pts,wt,()) (i:Int) (A.map az.tup)=some ((iN (onum,obuy,osel,oday,oext,olns) l i (day,byy,no,11,line,art,q,unit,p,un,to) x).1,((onum,obuy,osel,oday,oext,olns),l,mapOf A,ref,pts,wt,()),(A.set k (iN (onum,obuy,osel,oday,oext,olns) l i (day,byy,no,11,line,art,q,unit,p,un,to) x).2).map az.tup,()):=by
 have hdf:=hl _ (aie hd)
 obtain⟨_,_,_,_,_,_,hu⟩:=eP hdf
 obtain⟨uq,_⟩:=jQ hu
 have h111:((11:Int)==1)=false:=rfl
 have h112:((11:Int)==2)=false:=rfl
 have h113:((11:Int)==3)=false:=rfl
 have h114:((11:Int)==4)=false:=rfl
 have h115:((11:Int)==5)=false:=rfl
 have h116:((11:Int)==6)=false:=rfl
 have h117:((11:Int)==7)=false:=rfl
 have h118:((11:Int)==8)=false:=rfl
 have h119:((11:Int)==9)=false:=rfl
 unfold bz
 dsimp only
 rw[gX hd,ajb]
 dsimp only
 rw[lB,hf]
 have hq:qOk q false=true:=uq rfl
 simp only[h111,h112,h113,h114,h115,h116,h117,h118,h119,ajo,ajn,aT,aje,ajb,tH hx hs (o:=(onum,obuy,osel,oday,oext,olns)) he0 he1 (d:=(day,byy,no,11,line,art,q,unit,p,un,to)) hq,jG]
 have ha:iN (onum,obuy,osel,oday,oext,olns) l i (day,byy,no,11,line,art,q,unit,p,un,to) x=eU oext (day,byy,no,11,line,art,q,unit,p,un,to) x:=rfl
 rw[ha]
 by_cases e:(eU oext (day,byy,no,11,line,art,q,unit,p,un,to) x).1=0
 ·rw[show ((eU (gU (onum,obuy,osel,oday,oext,olns)) (day,byy,no,11,line,art,q,unit,p,un,to) x).1==0)=true by show ((eU oext (day,byy,no,11,line,art,q,unit,p,un,to) x).1==0)=true;rw[e];rfl]
  rfl
 ·rw[show ((eU (gU (onum,obuy,osel,oday,oext,olns)) (day,byy,no,11,line,art,q,unit,p,un,to) x).1==0)=false from oA e]
  rfl
theorem Jr {i:Nat} {d:aj} (hA:Sound l A) (hl:∀ d,d∈l→fk d=0) (hd:l[i]? =some d) (he0:0≤gU o) (he1:gU o≤1000):
 bz (o,l,mapOf A,ref,pts,wt,()) (i:Int) (A.map az.tup)=some ((iD o l i d A).1,(o,l,mapOf (iD o l i d A).2,ref,pts,wt,()),(iD o l i d A).2.map az.tup,()):=by
 obtain⟨_,_,_,hk,_,_,_⟩:=eP (hl d (aie hd))
 by_cases k1:ck d=1
 ·unfold bz
  dsimp only
  rw[gX hd,ajb,show (d.2.2.2.1==1)=true by simpa using k1,ajo]
  rw[Kr hd k1,ajb]
 ·cases hf:qa (sG d) A with
  | none=>
   rw[aaJ k1 hf]
   unfold bz
   dsimp only
   rw[gX hd,ajb,show (d.2.2.2.1==1)=false by simpa using k1,ajn]
   rw[lB,show cG d.2.2.2.2.1 0 A=none from hf]
   rfl
  | some k=>
   obtain⟨x,hx,hxn⟩:=SG hf
   rw[ab0 k1 hf hx]
   obtain⟨hs,hw⟩:=hA.line x (aie hx)
   have hm:mapOf (A.set k (iN o l i d x).2)=mapOf A:=acC A 0 (fun z hz=>by
    rw[hx] at hz;cases hz
    exact (OO (o:=o) hs hw hl hd).2.2.1)
   rw[hm]
   obtain⟨onum,obuy,osel,oday,oext,olns⟩:=o
   obtain⟨day,byy,no,kk,line,art,q,unit,p,un,to⟩:=d
   have hk':kk=2∨kk=3∨kk=4∨kk=5∨kk=6∨kk=7∨kk=8∨kk=9∨kk=10∨kk=11:=by
    have h1:1≤kk∧kk≤11:=hk
    have h2:kk≠1:=k1
    omega
   rcases hk' with rfl | rfl | rfl | rfl | rfl | rfl | rfl | rfl | rfl | rfl
   ·exact aeA he0 he1 hl hd hf hx hs hw
   ·exact aeB he0 he1 hl hd hf hx hs hw
   ·exact aeC he0 he1 hl hd hf hx hs hw
   ·exact aeD he0 he1 hl hd hf hx hs hw
   ·exact aeE he0 he1 hl hd hf hx hs hw
   ·exact aeF he0 he1 hl hd hf hx hs hw
   ·exact aeG he0 he1 hl hd hf hx hs hw
   ·exact aeH he0 he1 hl hd hf hx hs hw
   ·exact adu he0 he1 hl hd hf hx hs hw
   ·exact adv he0 he1 hl hd hf hx hs hw
end Go.Md
