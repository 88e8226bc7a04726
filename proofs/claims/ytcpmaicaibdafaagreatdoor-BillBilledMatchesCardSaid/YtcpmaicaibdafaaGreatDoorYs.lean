/-
  Plain facts: deeds and orders checked; what a deed does with a line. No condition.
-/
import Derived.Test.YtcpmaicaibdafaaGreatDoorYo
import Derived.Test.YtcpmaicaibdafaaGreatDoorYr
set_option linter.all false
namespace Go.Md
open Go.Dn
theorem gp (k:Int):oA k=some (decide (k=5∨k=6∨k=7∨k=9),()):=by
 unfold oA
 by_cases h5:k=5
 ·subst h5;rfl
 by_cases h6:k=6
 ·subst h6;rfl
 by_cases h7:k=7
 ·subst h7;rfl
 by_cases h9:k=9
 ·subst h9;rfl
 have e5:(k==5)=false:=by simp[h5]
 have e6:(k==6)=false:=by simp[h6]
 have e7:(k==7)=false:=by simp[h7]
 have e9:(k==9)=false:=by simp[h9]
 simp only[e5,e6,e7,e9,aab]
 simp[h5,h6,h7,h9]
def usA (k:Int):Bool:=decide (k=1)
def usQ (k:Int):Bool:=decide (k≠3∧k≠4∧k≠5∧k≠6∧k≠8)
def usP (k:Int):Bool:=decide (k=1∨k=4)
def usU (k:Int):Bool:=decide (k=1∨k=3∨k=7)
def usT (k:Int):Bool:=decide (k=5∨k=6∨k=8)
theorem MS (k:Int):yh k=some ((usA k,usQ k,usA k,usP k,usU k,usT k),()):=by
 unfold yh
 by_cases h1:k=1
 ·subst h1;rfl
 by_cases h3:k=3
 ·subst h3;rfl
 by_cases h4:k=4
 ·subst h4;rfl
 by_cases h5:k=5
 ·subst h5;rfl
 by_cases h6:k=6
 ·subst h6;rfl
 by_cases h7:k=7
 ·subst h7;rfl
 by_cases h8:k=8
 ·subst h8;rfl
 have e1:(k==1)=false:=by simp[h1]
 have e3:(k==3)=false:=by simp[h3]
 have e4:(k==4)=false:=by simp[h4]
 have e5:(k==5)=false:=by simp[h5]
 have e6:(k==6)=false:=by simp[h6]
 have e8:(k==8)=false:=by simp[h8]
 have e7:(k==7)=false:=by simp[h7]
 simp only[e1,e3,e4,e5,e6,e7,e8,aab]
 simp[h1,h3,h4,h5,h6,h7,h8,usA,usQ,usP,usU,usT]
def Bc (n:Int):Bool:=decide (1≤n∧n≤3652059)
def DK (n:Int):Bool:=decide (1≤n∧n≤2000)
def Rm (ua uq up uu ut k2:Bool) (art:Bys) (q:ah) (unit:Bys) (p:ah) (un to:Int):Int:=
 bif uq&& !qOk q k2 then 1
 else bif up&& !inR p 0 1000000000 4 then 1
 else bif uu&& !Bc un then 1
 else bif ua&&(!bT art|| !bT unit) then 5
 else bif ut&& !DK to then 1
 else bif (!ua&& !(art==[]))||((!uq&& !(q.1==0&&q.2==0))||((!ua&& !(unit==[]))||((!up&& !(p.1==0&&p.2==0))||((!uu&&un != 0)||(!ut&&to != 0))))) then 3
 else 0
def Ju (d:aa):Int:=
 Rm (usA d.2.2.2.1) (usQ d.2.2.2.1) (usP d.2.2.2.1) (usU d.2.2.2.1) (usT d.2.2.2.1) (d.2.2.2.1==2) d.2.2.2.2.2.1 d.2.2.2.2.2.2.1 d.2.2.2.2.2.2.2.1 d.2.2.2.2.2.2.2.2.1 d.2.2.2.2.2.2.2.2.2.1 d.2.2.2.2.2.2.2.2.2.2
theorem PE (n:Int):gZ n=some (Bc n,()):=mU n
theorem Vo (n:Int):bD n 1 2000=some (!DK n,()):=by
 rw[dP]
 congr 2
 unfold DK
 by_cases h1:1≤n<;>by_cases h2:n≤2000<;>simp[h1,h2]<;>omega
theorem IM (d:aa):s5 d=some (Ju d,()):=by
 obtain⟨day,byy,no,k,line,art,⟨q1,q2⟩,unit,⟨p1,p2⟩,un,to⟩:=d
 unfold s5 Ju
 dsimp only
 rw[MS,ZZ]
 dsimp only
 rw[wk]
 simp only[sK,PE,lT,Vo,ZZ]
 generalize usA k=ua
 generalize usQ k=uq
 generalize usP k=up
 generalize usU k=uu
 generalize usT k=ut
 generalize (k==2)=k2
 unfold Rm
 generalize qOk (q1,q2) k2=b1
 have step1:∀ (A:Option ((Int×Unit) ⊕ (Int×Int×Int×Int×Int×Bys×Int×Int×Bys×Int×Int×Int×Int×Bool×Bool×Bool×Bool×Bool×Bool×Unit))) (v:Int×Int×Int×Int×Int×Bys×Int×Int×Bys×Int×Int×Int×Int×Bool×Bool×Bool×Bool×Bool×Bool×Unit) (K:(Int×Int×Int×Int×Int×Bys×Int×Int×Bys×Int×Int×Int×Int×Bool×Bool×Bool×Bool×Bool×Bool×Unit)→Option (Int×Unit)),
  A=some (.inr v)→aK A K=K v:=fun A v K h=>by rw[h];rfl
 cases uq
 ·refine Eq.trans (step1 _ _ _ (by exact rfl)) ?_
  cases up
  ·refine Eq.trans (step1 _ _ _ (by exact rfl)) ?_
   dsimp only
   generalize Bc un=b3
   generalize bT art=b4
   generalize bT unit=b5
   generalize DK to=b6
   generalize (art==[])=c1
   generalize (q1==0)=c2
   generalize (q2==0)=c3
   generalize (unit==[])=c4
   generalize (p1==0)=c5
   generalize (p2==0)=c6
   generalize (un != 0)=c7
   generalize (to != 0)=c8
   cases uu
   ·cases ua
    ·cases ut
     ·cases c1<;>first | rfl | (cases c4<;>first | rfl | (cases c7<;>first | rfl | (cases c8<;>first | rfl | (cases c2<;>first | rfl | (cases c3<;>first | rfl | (cases c5<;>first | rfl | (cases c6<;>rfl)))))))
     ·cases b6
      ·rfl
      ·cases c1<;>first | rfl | (cases c4<;>first | rfl | (cases c7<;>first | rfl | (cases c8<;>first | rfl | (cases c2<;>first | rfl | (cases c3<;>first | rfl | (cases c5<;>first | rfl | (cases c6<;>rfl)))))))
    ·cases b4
     ·rfl
     ·cases b5
      ·rfl
      ·cases ut
       ·cases c1<;>first | rfl | (cases c4<;>first | rfl | (cases c7<;>first | rfl | (cases c8<;>first | rfl | (cases c2<;>first | rfl | (cases c3<;>first | rfl | (cases c5<;>first | rfl | (cases c6<;>rfl)))))))
       ·cases b6
        ·rfl
        ·cases c1<;>first | rfl | (cases c4<;>first | rfl | (cases c7<;>first | rfl | (cases c8<;>first | rfl | (cases c2<;>first | rfl | (cases c3<;>first | rfl | (cases c5<;>first | rfl | (cases c6<;>rfl)))))))
   ·cases b3
    ·rfl
    ·cases ua
     ·cases ut
      ·cases c1<;>first | rfl | (cases c4<;>first | rfl | (cases c7<;>first | rfl | (cases c8<;>first | rfl | (cases c2<;>first | rfl | (cases c3<;>first | rfl | (cases c5<;>first | rfl | (cases c6<;>rfl)))))))
      ·cases b6
       ·rfl
       ·cases c1<;>first | rfl | (cases c4<;>first | rfl | (cases c7<;>first | rfl | (cases c8<;>first | rfl | (cases c2<;>first | rfl | (cases c3<;>first | rfl | (cases c5<;>first | rfl | (cases c6<;>rfl)))))))
     ·cases b4
      ·rfl
      ·cases b5
       ·rfl
       ·cases ut
        ·cases c1<;>first | rfl | (cases c4<;>first | rfl | (cases c7<;>first | rfl | (cases c8<;>first | rfl | (cases c2<;>first | rfl | (cases c3<;>first | rfl | (cases c5<;>first | rfl | (cases c6<;>rfl)))))))
        ·cases b6
         ·rfl
         ·cases c1<;>first | rfl | (cases c4<;>first | rfl | (cases c7<;>first | rfl | (cases c8<;>first | rfl | (cases c2<;>first | rfl | (cases c3<;>first | rfl | (cases c5<;>first | rfl | (cases c6<;>rfl)))))))
  ·dsimp only
   generalize inR (p1,p2) 0 1000000000 4=b2
   cases b2
   ·rfl
   ·refine Eq.trans (step1 _ _ _ (by exact rfl)) ?_
    dsimp only
    generalize Bc un=b3
    generalize bT art=b4
    generalize bT unit=b5
    generalize DK to=b6
    generalize (art==[])=c1
    generalize (q1==0)=c2
    generalize (q2==0)=c3
    generalize (unit==[])=c4
    generalize (p1==0)=c5
    generalize (p2==0)=c6
    generalize (un != 0)=c7
    generalize (to != 0)=c8
    cases uu
    ·cases ua
     ·cases ut
      ·cases c1<;>first | rfl | (cases c4<;>first | rfl | (cases c7<;>first | rfl | (cases c8<;>first | rfl | (cases c2<;>first | rfl | (cases c3<;>first | rfl | (cases c5<;>first | rfl | (cases c6<;>rfl)))))))
      ·cases b6
       ·rfl
       ·cases c1<;>first | rfl | (cases c4<;>first | rfl | (cases c7<;>first | rfl | (cases c8<;>first | rfl | (cases c2<;>first | rfl | (cases c3<;>first | rfl | (cases c5<;>first | rfl | (cases c6<;>rfl)))))))
     ·cases b4
      ·rfl
      ·cases b5
       ·rfl
       ·cases ut
        ·cases c1<;>first | rfl | (cases c4<;>first | rfl | (cases c7<;>first | rfl | (cases c8<;>first | rfl | (cases c2<;>first | rfl | (cases c3<;>first | rfl | (cases c5<;>first | rfl | (cases c6<;>rfl)))))))
        ·cases b6
         ·rfl
         ·cases c1<;>first | rfl | (cases c4<;>first | rfl | (cases c7<;>first | rfl | (cases c8<;>first | rfl | (cases c2<;>first | rfl | (cases c3<;>first | rfl | (cases c5<;>first | rfl | (cases c6<;>rfl)))))))
    ·cases b3
     ·rfl
     ·cases ua
      ·cases ut
       ·cases c1<;>first | rfl | (cases c4<;>first | rfl | (cases c7<;>first | rfl | (cases c8<;>first | rfl | (cases c2<;>first | rfl | (cases c3<;>first | rfl | (cases c5<;>first | rfl | (cases c6<;>rfl)))))))
       ·cases b6
        ·rfl
        ·cases c1<;>first | rfl | (cases c4<;>first | rfl | (cases c7<;>first | rfl | (cases c8<;>first | rfl | (cases c2<;>first | rfl | (cases c3<;>first | rfl | (cases c5<;>first | rfl | (cases c6<;>rfl)))))))
      ·cases b4
       ·rfl
       ·cases b5
        ·rfl
        ·cases ut
         ·cases c1<;>first | rfl | (cases c4<;>first | rfl | (cases c7<;>first | rfl | (cases c8<;>first | rfl | (cases c2<;>first | rfl | (cases c3<;>first | rfl | (cases c5<;>first | rfl | (cases c6<;>rfl)))))))
         ·cases b6
          ·rfl
          ·cases c1<;>first | rfl | (cases c4<;>first | rfl | (cases c7<;>first | rfl | (cases c8<;>first | rfl | (cases c2<;>first | rfl | (cases c3<;>first | rfl | (cases c5<;>first | rfl | (cases c6<;>rfl)))))))
 ·cases b1
  ·rfl
  ·refine Eq.trans (step1 _ _ _ (by exact rfl)) ?_
   cases up
   ·refine Eq.trans (step1 _ _ _ (by exact rfl)) ?_
    dsimp only
    generalize Bc un=b3
    generalize bT art=b4
    generalize bT unit=b5
    generalize DK to=b6
    generalize (art==[])=c1
    generalize (q1==0)=c2
    generalize (q2==0)=c3
    generalize (unit==[])=c4
    generalize (p1==0)=c5
    generalize (p2==0)=c6
    generalize (un != 0)=c7
    generalize (to != 0)=c8
    cases uu
    ·cases ua
     ·cases ut
      ·cases c1<;>first | rfl | (cases c4<;>first | rfl | (cases c7<;>first | rfl | (cases c8<;>first | rfl | (cases c2<;>first | rfl | (cases c3<;>first | rfl | (cases c5<;>first | rfl | (cases c6<;>rfl)))))))
      ·cases b6
       ·rfl
       ·cases c1<;>first | rfl | (cases c4<;>first | rfl | (cases c7<;>first | rfl | (cases c8<;>first | rfl | (cases c2<;>first | rfl | (cases c3<;>first | rfl | (cases c5<;>first | rfl | (cases c6<;>rfl)))))))
     ·cases b4
      ·rfl
      ·cases b5
       ·rfl
       ·cases ut
        ·cases c1<;>first | rfl | (cases c4<;>first | rfl | (cases c7<;>first | rfl | (cases c8<;>first | rfl | (cases c2<;>first | rfl | (cases c3<;>first | rfl | (cases c5<;>first | rfl | (cases c6<;>rfl)))))))
        ·cases b6
         ·rfl
         ·cases c1<;>first | rfl | (cases c4<;>first | rfl | (cases c7<;>first | rfl | (cases c8<;>first | rfl | (cases c2<;>first | rfl | (cases c3<;>first | rfl | (cases c5<;>first | rfl | (cases c6<;>rfl)))))))
    ·cases b3
     ·rfl
     ·cases ua
      ·cases ut
       ·cases c1<;>first | rfl | (cases c4<;>first | rfl | (cases c7<;>first | rfl | (cases c8<;>first | rfl | (cases c2<;>first | rfl | (cases c3<;>first | rfl | (cases c5<;>first | rfl | (cases c6<;>rfl)))))))
       ·cases b6
        ·rfl
        ·cases c1<;>first | rfl | (cases c4<;>first | rfl | (cases c7<;>first | rfl | (cases c8<;>first | rfl | (cases c2<;>first | rfl | (cases c3<;>first | rfl | (cases c5<;>first | rfl | (cases c6<;>rfl)))))))
      ·cases b4
       ·rfl
       ·cases b5
        ·rfl
        ·cases ut
         ·cases c1<;>first | rfl | (cases c4<;>first | rfl | (cases c7<;>first | rfl | (cases c8<;>first | rfl | (cases c2<;>first | rfl | (cases c3<;>first | rfl | (cases c5<;>first | rfl | (cases c6<;>rfl)))))))
         ·cases b6
          ·rfl
          ·cases c1<;>first | rfl | (cases c4<;>first | rfl | (cases c7<;>first | rfl | (cases c8<;>first | rfl | (cases c2<;>first | rfl | (cases c3<;>first | rfl | (cases c5<;>first | rfl | (cases c6<;>rfl)))))))
   ·dsimp only
    generalize inR (p1,p2) 0 1000000000 4=b2
    cases b2
    ·rfl
    ·refine Eq.trans (step1 _ _ _ (by exact rfl)) ?_
     dsimp only
     generalize Bc un=b3
     generalize bT art=b4
     generalize bT unit=b5
     generalize DK to=b6
     generalize (art==[])=c1
     generalize (q1==0)=c2
     generalize (q2==0)=c3
     generalize (unit==[])=c4
     generalize (p1==0)=c5
     generalize (p2==0)=c6
     generalize (un != 0)=c7
     generalize (to != 0)=c8
     cases uu
     ·cases ua
      ·cases ut
       ·cases c1<;>first | rfl | (cases c4<;>first | rfl | (cases c7<;>first | rfl | (cases c8<;>first | rfl | (cases c2<;>first | rfl | (cases c3<;>first | rfl | (cases c5<;>first | rfl | (cases c6<;>rfl)))))))
       ·cases b6
        ·rfl
        ·cases c1<;>first | rfl | (cases c4<;>first | rfl | (cases c7<;>first | rfl | (cases c8<;>first | rfl | (cases c2<;>first | rfl | (cases c3<;>first | rfl | (cases c5<;>first | rfl | (cases c6<;>rfl)))))))
      ·cases b4
       ·rfl
       ·cases b5
        ·rfl
        ·cases ut
         ·cases c1<;>first | rfl | (cases c4<;>first | rfl | (cases c7<;>first | rfl | (cases c8<;>first | rfl | (cases c2<;>first | rfl | (cases c3<;>first | rfl | (cases c5<;>first | rfl | (cases c6<;>rfl)))))))
         ·cases b6
          ·rfl
          ·cases c1<;>first | rfl | (cases c4<;>first | rfl | (cases c7<;>first | rfl | (cases c8<;>first | rfl | (cases c2<;>first | rfl | (cases c3<;>first | rfl | (cases c5<;>first | rfl | (cases c6<;>rfl)))))))
     ·cases b3
      ·rfl
      ·cases ua
       ·cases ut
        ·cases c1<;>first | rfl | (cases c4<;>first | rfl | (cases c7<;>first | rfl | (cases c8<;>first | rfl | (cases c2<;>first | rfl | (cases c3<;>first | rfl | (cases c5<;>first | rfl | (cases c6<;>rfl)))))))
        ·cases b6
         ·rfl
         ·cases c1<;>first | rfl | (cases c4<;>first | rfl | (cases c7<;>first | rfl | (cases c8<;>first | rfl | (cases c2<;>first | rfl | (cases c3<;>first | rfl | (cases c5<;>first | rfl | (cases c6<;>rfl)))))))
       ·cases b4
        ·rfl
        ·cases b5
         ·rfl
         ·cases ut
          ·cases c1<;>first | rfl | (cases c4<;>first | rfl | (cases c7<;>first | rfl | (cases c8<;>first | rfl | (cases c2<;>first | rfl | (cases c3<;>first | rfl | (cases c5<;>first | rfl | (cases c6<;>rfl)))))))
          ·cases b6
           ·rfl
           ·cases c1<;>first | rfl | (cases c4<;>first | rfl | (cases c7<;>first | rfl | (cases c8<;>first | rfl | (cases c2<;>first | rfl | (cases c3<;>first | rfl | (cases c5<;>first | rfl | (cases c6<;>rfl)))))))
def dw (d:aa):Int:=
 if ¬(1≤d.1∧d.1≤3652059) then 1
 else if ¬(1≤d.2.1∧d.2.1≤2) then 4
 else if ¬(1≤d.2.2.1∧d.2.2.1≤2000) then 1
 else if ¬(1≤d.2.2.2.1∧d.2.2.2.1≤11) then 4
 else if ¬((d.2.2.2.1=5∨d.2.2.2.1=6∨d.2.2.2.1=7∨d.2.2.2.1=9)↔d.2.1=2) then 4
 else if ¬(1≤d.2.2.2.2.1∧d.2.2.2.2.1≤99999) then 1
 else Ju d
theorem Oe (n a b:Int):decide (n<a∨b<n)= !decide (a≤n∧n≤b):=by
 by_cases h1:a≤n<;>by_cases h2:n≤b<;>simp[h1,h2]<;>omega
theorem IK (d:aa):sY d=some (dw d,()):=by
 unfold sY dw
 simp only[mU,dP,Oe,gp,IM,ZZ]
 by_cases h1:1≤d.1∧d.1≤3652059
 ·by_cases h2:1≤d.2.1∧d.2.1≤2
  ·by_cases h3:1≤d.2.2.1∧d.2.2.1≤2000
   ·by_cases h4:1≤d.2.2.2.1∧d.2.2.2.1≤11
    ·by_cases h5:(d.2.2.2.1=5∨d.2.2.2.1=6∨d.2.2.2.1=7∨d.2.2.2.1=9)↔d.2.1=2
     ·have e5:(decide (d.2.2.2.1=5∨d.2.2.2.1=6∨d.2.2.2.1=7∨d.2.2.2.1=9)==(d.2.1==2))=true:=by
       by_cases h6:d.2.1=2
       ·simp[h6,h5.2 h6]
       ·have:¬(d.2.2.2.1=5∨d.2.2.2.1=6∨d.2.2.2.1=7∨d.2.2.2.1=9):=fun h=>h6 (h5.1 h)
        simp[h6,this]
      by_cases h6:1≤d.2.2.2.2.1∧d.2.2.2.2.1≤99999
      ·rw[e5]
       simp only[h1,h2,h3,h4,h5,h6,iff_self,aai,XY,aab,not_true,aal,Z8]
      ·rw[e5]
       simp only[h1,h2,h3,h4,h5,h6,iff_self,aai,aah,XY,XX,aab,aac,not_true,aar,aal,aao,Z8]
     ·have e5:(decide (d.2.2.2.1=5∨d.2.2.2.1=6∨d.2.2.2.1=7∨d.2.2.2.1=9)==(d.2.1==2))=false:=by
       by_cases h6:d.2.1=2
       ·have:¬(d.2.2.2.1=5∨d.2.2.2.1=6∨d.2.2.2.1=7∨d.2.2.2.1=9):=fun h=>h5 ⟨fun _=>h6,fun _=>h⟩
        simp[h6,this]
       ·have:(d.2.2.2.1=5∨d.2.2.2.1=6∨d.2.2.2.1=7∨d.2.2.2.1=9):=Classical.byContradiction fun h=>h5 ⟨fun h'=>absurd h' h,fun h'=>absurd h' h6⟩
        simp[h6,this]
      rw[e5]
      simp only[h1,h2,h3,h4,h5,aai,XY,XX,aab,aac,not_true,aar,aal,aao,Z8]
    ·simp only[h1,h2,h3,h4,aai,aah,XY,XX,aab,aac,not_true,aar,aal,aao,Z8]
   ·simp only[h1,h2,h3,aai,aah,XY,XX,aab,aac,not_true,aar,aal,aao,Z8]
  ·simp only[h1,h2,aai,aah,XY,XX,aab,aac,not_true,aar,aal,aao,Z8]
 ·simp only[h1,aah,XX,aac,aar,aao]
theorem cW {d:aa} (h:dw d=0):(1≤d.1∧d.1≤3652059)∧(1≤d.2.1∧d.2.1≤2)∧(1≤d.2.2.1∧d.2.2.1≤2000)∧(1≤d.2.2.2.1∧d.2.2.2.1≤11)∧
 ((d.2.2.2.1=5∨d.2.2.2.1=6∨d.2.2.2.1=7∨d.2.2.2.1=9)↔d.2.1=2)∧(1≤d.2.2.2.2.1∧d.2.2.2.2.1≤99999)∧Ju d=0:=by
 unfold dw at h
 split at h
 ·cases h
 ·rename_i h1
  split at h
  ·cases h
  ·rename_i h2
   split at h
   ·cases h
   ·rename_i h3
    split at h
    ·cases h
    ·rename_i h4
     split at h
     ·cases h
     ·rename_i h5
      split at h
      ·cases h
      ·rename_i h6
       exact⟨X4.1 h1,X4.1 h2,X4.1 h3,X4.1 h4,X4.1 h5,X4.1 h6,h⟩
end Go.Md
namespace Go.Md
open Go.Dn
def dCw (a b:aa):Int:=if w64 (a.1 - b.1)≠0 then w64 (a.1 - b.1) else if w64 (a.2.1 - b.2.1)≠0 then w64 (a.2.1 - b.2.1) else w64 (a.2.2.1 - b.2.2.1)
theorem FU (a b:aa):kX a b=some (dCw a b,()):=by
 unfold kX dCw
 generalize w64 (a.1 - b.1)=x
 generalize w64 (a.2.1 - b.2.1)=y
 generalize w64 (a.2.2.1 - b.2.2.1)=z
 simp only[YW,YY]
 have key:iter (X:=lF) (β:=lE) 8 (3,0,[x,y,z],()) qq=(bif x != 0 then some (Sum.inl (x,())) else bif y != 0 then some (Sum.inl (y,())) else bif z != 0 then some (Sum.inl (z,())) else some (Sum.inr ())):=by kernel_rfl
 show aK (β:=(Int×Unit)) (γ:=Unit) (iter 8 (3,0,[x,y,z],()) qq) _=_
 rw[key]
 by_cases hx:x=0
 ·subst hx
  by_cases hy:y=0
  ·subst hy
   by_cases hz:z=0
   ·subst hz;rfl
   ·have:(z != 0)=true:=by simp[hz]
    rw[this];simp[aK]
  ·have:(y != 0)=true:=by simp[hy]
   rw[this];simp[aK,hy]
 ·have:(x != 0)=true:=by simp[hx]
  rw[this];simp[aK,hx]
def dh:List aa→Option aa→Int→Int→Int
 | [],_,_,_=>0
 | d::r,p,nb,ns=>
  if dw d≠0 then dw d
  else if (p.any fun q=>decide (0≤dCw q d))=true then 8
  else if d.2.1=1 then (if d.2.2.1≠w64 (nb+1) then 9 else dh r (some d) d.2.2.1 ns)
  else (if d.2.2.1≠w64 (ns+1) then 9 else dh r (some d) nb d.2.2.1)
def rO (l:List aa):Int:=if 2000<l.length then 2 else dh l none 0 0
def cq {α:Type} (l:List α):Nat→Option α
 | 0=>none
 | i+1=>l[i]?
def dG (a0:List aa) (s:Int×Int×Int) (i:Nat) (y:aa) (k:(Int×Int×Int)→Option ic):Option ic:=
 if dw y≠0 then some (Sum.inl (dw y,()))
 else if ((cq a0 i).any fun q=>decide (0≤dCw q y))=true then some (Sum.inl (8,()))
 else if y.2.1=1 then (if y.2.2.1≠w64 (s.2.1+1) then some (Sum.inl (9,())) else k (s.1,y.2.2.1,s.2.2))
 else (if y.2.2.1≠w64 (s.2.2+1) then some (Sum.inl (9,())) else k (s.1,s.2.1,y.2.2.1))
theorem eD {a b:Int} (h:a≠b):(a != b)=true:=by simp[h]
theorem mJ {a b:Int} (h:a≠b):(a==b)=false:=by simp[h]
theorem fW {α:Type} {l:List α} {i:Nat} {y:α} (h:l[i]? =some y):idx l (i:Int)=some y:=by
 unfold idx
 rw[aan (Yd i)]
 exact h
theorem LQ (a0:List aa) (hl:a0.length≤2000) (s:Int×Int×Int) (i:Nat) (y:aa) (again:jR→Option ic) (hy:a0[i]? =some y):
 jQ (a0,a0,(a0.length:Int),(i:Int),s.1,s.2.1,s.2.2,()) again=dG a0 s i y fun s'=>again (a0,a0,(a0.length:Int),((i+1:Nat):Int),s'.1,s'.2.1,s'.2.2,()):=by
 have hi:i<a0.length:=(YL.1 hy).1
 unfold jQ dG
 dsimp only
 rw[aaf (show (i:Int)<(a0.length:Int) by omega),aac,fW hy,ZZ,IK,ZZ]
 dsimp only
 have hw:w64 ((i:Int)+1)=((i+1:Nat):Int):=by rw[aV (by omega) (by omega)];omega
 rw[hw]
 by_cases hf:dw y=0
 ·rw[hf,zne,aab,aam (by simp)]
  obtain⟨_,hby,_⟩:=cW hf
  have hprev':(bif decide ((i:Int)>0) then Option.bind (idx a0 (w64 ((i:Int) - 1))) fun y4=>Option.bind (kX y4 y) fun r5=>some (decide (r5.1≥0),()) else some (false,()))=some ((cq a0 i).any fun q=>decide (0≤dCw q y),()):=by
   cases i with
   | zero=>rfl
   | succ j=>
    have hj:j<a0.length:=by omega
    have hq:a0[j]? =some a0[j]:=YJ hj
    have e:w64 (((j+1:Nat):Int) - 1)=(j:Int):=by rw[aV (by omega) (by omega)];omega
    rw[aaf (by omega),aac,e,fW hq,ZZ,FU,ZZ]
    simp only[cq,hq,Option.any_some]
  rw[hprev',ZZ]
  dsimp only
  cases ((cq a0 i).any fun q=>decide (0≤dCw q y)) with
  | true=>rfl
  | false=>
   rw[aab,aam (by simp)]
   by_cases h1:y.2.1=1
   ·rw[mJ (show y.2.1≠0 by omega),aab,show (y.2.1==1)=true by simp[h1],aac,aan h1]
    by_cases hn:y.2.2.1=w64 (s.2.1+1)
    ·rw[show (y.2.2.1 != w64 (s.2.1+1))=false by simp[hn],aab,aam (by simp[hn])]
     rfl
    ·rw[eD hn,aac,aan hn]
   ·have h2:y.2.1=2:=by omega
    rw[mJ (show y.2.1≠0 by omega),aab,mJ h1,aab,show (y.2.1==2)=true by simp[h2],aac,aam h1]
    by_cases hn:y.2.2.1=w64 (s.2.2+1)
    ·rw[show (y.2.2.1 != w64 (s.2.2+1))=false by simp[hn],aab,aam (by simp[hn])]
     rfl
    ·rw[eD hn,aac,aan hn]
 ·rw[eD hf,aac,aan hf]
def K3 (f:Int):Option ((Int×Unit) ⊕ Unit):=if f=0 then some (Sum.inr ()) else some (Sum.inl (f,()))
theorem OI {f:Int} (h:f=0):K3 f=some (Sum.inr ()):=aan h
theorem Je {f:Int} (h:f≠0):K3 f=some (Sum.inl (f,())):=aam h
theorem HK (a0:List aa):∀ (r:List aa) (i:Nat) (s:Int×Int×Int),a0.drop i=r→
 DC (dG a0) (fun _=>some (Sum.inr ())) r i s=K3 (dh r (cq a0 i) s.2.1 s.2.2)
 | [],_,_,_=>by simp[DC,dh,K3]
 | y::r,i,s,hd=>by
  have hy:a0[i]? =some y:=by
   have:=congrArg (·[0]?) hd
   simpa [YI] using this
  have hr:a0.drop (i+1)=r:=by
   have:=congrArg List.tail hd
   simpa [Zp] using this
  have hp:cq a0 (i+1)=some y:=hy
  show dG a0 s i y (fun s'=>DC (dG a0) (fun _=>some (Sum.inr ())) r (i+1) s')=_
  rw[show (fun s'=>DC (dG a0) (fun _=>some (Sum.inr ())) r (i+1) s')=fun s'=>K3 (dh r (cq a0 (i+1)) s'.2.1 s'.2.2) from funext fun s'=>HK a0 r (i+1) s' hr,hp]
  unfold dG
  by_cases hf:dw y=0
  ·have e0:¬dw y≠0:=fun h=>h hf
   rw[aam e0]
   by_cases ha:((cq a0 i).any fun q=>decide (0≤dCw q y))=true
   ·rw[aan ha,show dh (y::r) (cq a0 i) s.2.1 s.2.2=8 by simp only[dh];rw[aam e0,aan ha]]
    rfl
   ·rw[aam ha]
    by_cases h1:y.2.1=1
    ·rw[aan h1]
     by_cases hn:y.2.2.1≠w64 (s.2.1+1)
     ·rw[aan hn,show dh (y::r) (cq a0 i) s.2.1 s.2.2=9 by simp only[dh];rw[aam e0,aam ha,aan h1,aan hn]]
      rfl
     ·rw[aam hn,show dh (y::r) (cq a0 i) s.2.1 s.2.2=dh r (some y) y.2.2.1 s.2.2 by rw[dh,aam e0,aam ha,aan h1,aam hn]]
    ·rw[aam h1]
     by_cases hn:y.2.2.1≠w64 (s.2.2+1)
     ·rw[aan hn,show dh (y::r) (cq a0 i) s.2.1 s.2.2=9 by simp only[dh];rw[aam e0,aam ha,aam h1,aan hn]]
      rfl
     ·rw[aam hn,show dh (y::r) (cq a0 i) s.2.1 s.2.2=dh r (some y) s.2.1 y.2.2.1 by rw[dh,aam e0,aam ha,aam h1,aam hn]]
  ·rw[aan hf,show dh (y::r) (cq a0 i) s.2.1 s.2.2=dw y by rw[dh,aan hf],Je hf]
theorem sJ (l:List aa):kg l=some (rO l,()):=by
 unfold kg rO
 by_cases hl:2000<l.length
 ·rw[aaf (show (l.length:Int)>2000 by omega),aac,aan hl]
 ·rw[aae (show ¬ (l.length:Int)>2000 by omega),aab,aam hl]
  have:=Lb (f:=jQ) (fun (s:Int×Int×Int) (i:Nat)=>((l,l,(l.length:Int),(i:Int),s.1,s.2.1,s.2.2,()):jR)) l (dG l) (fun _=>some (Sum.inr ()))
   (fun s i y again hy=>LQ l (by omega) s i y again hy) (fun s again=>by
     unfold jQ
     dsimp only
     rw[aae (by omega)];rfl) (0,0,0)
  refine (congrArg (fun z=>aK (β:=(Int×Unit)) (γ:=Unit) z fun _=>some (0,())) (this _ (by omega))).trans ?_
  rw[HK l l 0 (0,0,0) rfl]
  simp only[cq]
  by_cases h:dh l none 0 0=0
  ·rw[OI h,h];rfl
  ·rw[Je h];rfl
theorem BP:∀ {l:List aa} {p:Option aa} {nb ns:Int},dh l p nb ns=0→∀ d,d∈l→dw d=0
 | [],_,_,_,_,_,h=>by cases h
 | y::r,p,nb,ns,h,d,hd=>by
  simp only[dh] at h
  by_cases hf:dw y=0
  ·rw[aam (by simp[hf])] at h
   rcases Y7.1 hd with rfl | hd
   ·exact hf
   ·split at h
    ·cases h
    ·split at h
     ·split at h
      ·cases h
      ·exact BP h d hd
     ·split at h
      ·cases h
      ·exact BP h d hd
  ·rw[aan hf] at h
   exact absurd h hf
theorem zI {l:List aa} (h:rO l=0):l.length≤2000∧∀ d,d∈l→dw d=0:=by
 unfold rO at h
 split at h
 ·cases h
 ·rename_i hl
  exact⟨by omega,BP h⟩
abbrev Lg (o:ai):=o.1
abbrev Iy (o:ai):=o.2.1
abbrev Lh (o:ai):=o.2.2.1
abbrev gj (o:ai):=o.2.2.2.1
abbrev er (o:ai):=o.2.2.2.2.1
abbrev q7 (o:ai):=o.2.2.2.2.2
def gl (day:Int) (p:Option aQ) (x:aQ):Int:=
 if ¬(1≤x.1∧x.1≤99999) then 1
 else if (p.any fun q=>decide (x.1≤q.1))=true then 8
 else if bT x.2.1=false then 5
 else if qOk x.2.2.1 false=false then 1
 else if bT x.2.2.2.1=false then 5
 else if inR x.2.2.2.2.1 0 1000000000 4=false then 1
 else if ¬(day≤x.2.2.2.2.2∧x.2.2.2.2.2≤3652059) then 1
 else 0
def jZ (day:Int):List aQ→Option aQ→Int
 | [],_=>0
 | x::r,p=>if gl day p x≠0 then gl day p x else jZ day r (some x)
def mY (o:ai):Int:=
 if bT (Lg o)=false∨bT (Iy o)=false∨bT (Lh o)=false then 5
 else if Iy o=Lh o then 12
 else if ¬(1≤gj o∧gj o≤3652059) then 1
 else if ¬(0≤er o∧er o≤1000) then 1
 else if q7 o=[] then 9
 else if 500<(q7 o).length then 2
 else jZ (gj o) (q7 o) none
theorem Xk (b:Bool):((if b=true then (0:Int) else 1) != 0)= !b:=by cases b<;>rfl
theorem IL (o:ai) (i:Nat) (x:aQ) (hi:(q7 o)[i]? =some x) (hl:(q7 o).length≤500):sZ o (i:Int)=some (gl (gj o) (cq (q7 o) i) x,()):=by
 have hlt:i<(q7 o).length:=(YL.1 hi).1
 unfold sZ
 rw[fW hi,ZZ]
 simp only[dP,Oe,lT,wk,sK,ZZ,Xk]
 have tail:∀ (p:Option aQ) (hp:(p.any fun q=>decide (x.1≤q.1))=false) (h1:1≤x.1∧x.1≤99999),
  (bif !bT x.2.1 then some (5,()) else bif !qOk x.2.2.1 false then some ((if qOk x.2.2.1 false=true then 0 else 1),()) else bif !bT x.2.2.2.1 then some (5,()) else
    bif !inR x.2.2.2.2.1 0 1000000000 4 then some ((if inR x.2.2.2.2.1 0 1000000000 4=true then 0 else 1),()) else bif !decide (gj o≤x.2.2.2.2.2∧x.2.2.2.2.2≤3652059) then some (1,()) else some (0,()))=some (gl (gj o) p x,()):=fun p hp h1=>by
  unfold gl
  rw[aam (show ¬¬(1≤x.1∧x.1≤99999) from fun h=>h h1),aam (show ¬(p.any fun q=>decide (x.1≤q.1))=true by rw[hp];exact XS)]
  cases bT x.2.1
  ·rfl
  ·cases qOk x.2.2.1 false
   ·rfl
   ·cases bT x.2.2.2.1
    ·rfl
    ·cases inR x.2.2.2.2.1 0 1000000000 4
     ·rfl
     ·by_cases hd:gj o≤x.2.2.2.2.2∧x.2.2.2.2.2≤3652059
      ·simp[hd]
      ·simp[hd]
 by_cases h1:1≤x.1∧x.1≤99999
 ·rw[aaf h1,XY,aab]
  cases i with
  | zero=>
   rw[aae (show ¬((0:Nat):Int)>0 by omega),aab]
   exact tail none rfl h1
  | succ j=>
   have hq:(q7 o)[j]? =some (q7 o)[j]:=YJ (by omega)
   have e:w64 (((j+1:Nat):Int) - 1)=(j:Int):=by rw[aV (by omega) (by omega)];omega
   rw[aaf (show ((j+1:Nat):Int)>0 by omega),aac,e,fW hq,ZZ]
   simp only[cq,hq]
   by_cases h2:x.1≤(q7 o)[j].1
   ·rw[aaf h2,ZZ]
    have:gl (gj o) (some (q7 o)[j]) x=8:=by
     unfold gl
     rw[aam (show ¬¬(1≤x.1∧x.1≤99999) from fun h=>h h1),aan (show (Option.any (fun q=>decide (x.1≤q.1)) (some (q7 o)[j]))=true from aaf h2)]
    rw[this]
    rfl
   ·rw[aae h2,ZZ]
    exact tail (some (q7 o)[j]) (by simp[h2]) h1
 ·rw[aae h1,XX,aac]
  unfold gl
  rw[aan h1]
theorem Gu (a0:List aQ) (day:Int):∀ (r:List aQ) (i:Nat) (s:Unit),a0.drop i=r→
 DC (fun (_:Unit) i y k=>if gl day (cq a0 i) y≠0 then some (Sum.inl (gl day (cq a0 i) y,())) else k ()) (fun _=>(some (Sum.inr ()):Option mA)) r i s=K3 (jZ day r (cq a0 i))
 | [],_,_,_=>by simp[DC,jZ,K3]
 | y::r,i,s,hd=>by
  have hy:a0[i]? =some y:=by
   have:=congrArg (·[0]?) hd
   simpa [YI] using this
  have hr:a0.drop (i+1)=r:=by
   have:=congrArg List.tail hd
   simpa [Zp] using this
  have hp:cq a0 (i+1)=some y:=hy
  have ih:=Gu a0 day r (i+1) () hr
  rw[hp] at ih
  by_cases hf:gl day (cq a0 i) y=0
  ·have e0:¬gl day (cq a0 i) y≠0:=fun h=>h hf
   rw[show jZ day (y::r) (cq a0 i)=jZ day r (some y) by rw[jZ,aam e0], ← ih]
   show (if gl day (cq a0 i) y≠0 then _ else _)=_
   rw[aam e0]
  ·rw[show jZ day (y::r) (cq a0 i)=gl day (cq a0 i) y by rw[jZ,aan hf],Je hf]
   show (if gl day (cq a0 i) y≠0 then _ else _)=_
   rw[aan hf]
theorem nE (o:ai):iL o=some (mY o,()):=by
 unfold iL mY
 simp only[lT,mU,dP,Oe,ZZ]
 cases h1:bT o.1
 ·simp[Lg,h1]
 cases h2:bT o.2.1
 ·simp[Lg,Iy,h1,h2]
 cases h3:bT o.2.2.1
 ·simp[Lg,Iy,Lh,h1,h2,h3]
 rw[aam (by simp[Lg,Iy,Lh,h1,h2,h3])]
 simp only[XY,aab]
 by_cases h4:o.2.1=o.2.2.1
 ·rw[aan h4,show (o.2.1==o.2.2.1)=true by simp[h4],aac]
 rw[aam h4,show (o.2.1==o.2.2.1)=false by simp[h4],aab]
 by_cases h5:1≤o.2.2.2.1∧o.2.2.2.1≤3652059
 ·rw[aam (by simp[gj,h5]),aaf h5,XY,aab]
  by_cases h6:0≤o.2.2.2.2.1∧o.2.2.2.2.1≤1000
  ·rw[aam (by simp[er,h6]),aaf h6,XY,aab]
   by_cases h7:o.2.2.2.2.2=[]
   ·rw[aan h7,h7];rfl
   ·have h7':o.2.2.2.2.2.length≠0:=fun e=>h7 (Yx e)
    rw[aam h7,mJ (show (o.2.2.2.2.2.length:Int)≠0 by omega),aab]
    by_cases h8:500<o.2.2.2.2.2.length
    ·rw[aan h8,aaf (by omega),aac]
    ·rw[aam h8,aae (by omega),aab]
     have:=Lb (f:=mz) (fun (_:Unit) (i:Nat)=>(((o.2.2.2.2.2.length:Int),(i:Int),o.1,o.2.1,o.2.2.1,o.2.2.2.1,o.2.2.2.2.1,o.2.2.2.2.2,()):mB)) o.2.2.2.2.2
      (fun (_:Unit) i y k=>if gl (gj o) (cq o.2.2.2.2.2 i) y≠0 then some (Sum.inl (gl (gj o) (cq o.2.2.2.2.2 i) y,())) else k ()) (fun _=>some (Sum.inr ()))
      (fun s i y again hy=>by
        have hlt:i<o.2.2.2.2.2.length:=(YL.1 hy).1
        unfold mz
        dsimp only
        rw[aaf (by omega),aac]
        have:=IL o i y hy (by show o.2.2.2.2.2.length≤500;omega)
        rw[show ((o.1,o.2.1,o.2.2.1,o.2.2.2.1,o.2.2.2.2.1,o.2.2.2.2.2):ai)=o from rfl,this,ZZ]
        dsimp only
        by_cases hf:gl (gj o) (cq o.2.2.2.2.2 i) y=0
        ·rw[aam (by simp[hf]),show (gl (gj o) (cq (q7 o) i) y != 0)=false by simp[hf],aab,aV (by omega) (by omega)]
         rfl
        ·rw[aan hf,show (gl (gj o) (cq (q7 o) i) y != 0)=true by simp[hf],aac]) (fun s again=>by
        unfold mz
        dsimp only
        rw[aae (show ¬((o.2.2.2.2.2.length:Int)<(o.2.2.2.2.2.length:Int)) by omega)];rfl) ()
     refine (congrArg (fun z=>aK (β:=(Int×Unit)) (γ:=Unit) z fun _=>some (0,())) (this _ (by omega))).trans ?_
     rw[Gu o.2.2.2.2.2 (gj o) o.2.2.2.2.2 0 () rfl]
     simp only[cq]
     by_cases h:jZ (gj o) o.2.2.2.2.2 none=0
     ·rw[OI h,h];rfl
     ·rw[Je h];rfl
  ·rw[aan h6,aae h6];rfl
 ·rw[aan h5,aae h5];rfl
theorem Ck (o:ai) (l:List aa):rV o l=some (if mY o≠0 then mY o else rO l,()):=by
 unfold rV
 rw[nE,ZZ,sJ]
 dsimp only
 by_cases h:mY o=0
 ·rw[h];rfl
 ·rw[eD h,aac,aan h]
end Go.Md
namespace Go.Md
open Go.Dn
def bE (d:ah):Int:=d.1*10 ^ (3 - d.2).toNat
theorem O6 {d:ah} {z:Bool} (h:qOk d z=true):(0≤d.2∧d.2≤3)∧0≤d.1∧d.1≤1000000000*10 ^ d.2.toNat∧(z=false→d.1≠0):=by
 unfold qOk inR at h
 simp only[XN,aag,X2,XW,Z9] at h
 obtain⟨⟨h1,h2,h3,h4⟩,h5⟩:=h
 exact⟨⟨h1.2.1,h2⟩,by omega,h4,fun hz=>by rcases h5 with h5 | h5;exact h5;rw[hz] at h5;cases h5⟩
theorem uE {d:ah} {z:Bool} (h:qOk d z=true):0≤bE d∧bE d≤1000000000000∧(z=false→0<bE d):=by
 obtain⟨⟨h1,h2⟩,h3,h4,h5⟩:=O6 h
 unfold bE
 obtain⟨k,hk⟩:∃ k:Nat,d.2=k:=⟨d.2.toNat,by omega⟩
 rw[hk] at h1 h2 h4 ⊢
 have:k=0∨k=1∨k=2∨k=3:=by omega
 rcases this with rfl | rfl | rfl | rfl<;>simp at h4 ⊢ <;>refine⟨by omega,by omega,fun hz=> ?_⟩<;>have:=h5 hz<;>omega
theorem mO {d:ah} {z:Bool} (h:qOk d z=true):iw d=some (bE d,()):=by
 obtain⟨⟨h1,h2⟩,h3,h4,_⟩:=O6 h
 obtain⟨u1,u2,_⟩:=uE h
 unfold iw
 rw[aV (n:=3 - d.2) (by omega) (by omega),yZ (3 - d.2) (by omega) (by omega),ZZ]
 show some (w64 (bE d),())=_
 rw[aV (by omega) (by omega)]
structure ak where
 no:Int
 art:Bys
 unit:Bys
 ord:Int
 shp:Int
 rcv:Int
 ret:Int
 price:ah
 due:Int
 wish:Int
 ono:Int
 oq:Int
 ount:Int
abbrev ak.tup (x:ak):aW:=(x.no,x.art,x.unit,x.ord,x.shp,x.rcv,x.ret,x.price,x.due,x.wish,x.ono,x.oq,x.ount)
def ak.opn (x:ak):Int:=if x.ord - x.shp+x.ret>0 then x.ord - x.shp+x.ret else 0
structure LOk (x:ak):Prop where
 ret0:0≤x.ret
 retr:x.ret≤x.rcv
 rcvs:x.rcv≤x.shp
 shp1:x.shp≤1000000000000000
 yg:0≤x.ord
 ord1:x.ord≤1000000000000
 off:x.ono≠0→0<x.oq∧x.oq+x.shp - x.ret≤x.ord
def qZ (i:Nat):List ak→List (Int×Option Nat)
 | []=>[]
 | x::r=>(x.no,some i)::qZ (i+1) r
abbrev mapOf (A:List ak):List (Int×Option Nat):=qZ 0 A
def bV (n:Int) (i:Nat):List ak→Option Nat
 | []=>none
 | x::r=>if n=x.no then some i else bV n (i+1) r
abbrev mq (n:Int) (A:List ak):Option Nat:=bV n 0 A
theorem Uh (n:Int):B5 n n=true:=by simp[B5]
theorem R8 {n a:Int} (h:n≠a):B5 n a=false:=by simp[B5,h]
theorem iK (n:Int):∀ (A:List ak) (i:Nat),Option.getD (α:=Option Nat) (bM (k:=tI) (v:= .hnd) (qZ i A) n) none=bV n i A
 | [],i=>rfl
 | x::r,i=>by
  have e:= @xH tI .hnd (x.no,some i) (qZ (i+1) r) n
  refine (congrArg (fun z:Option (Option Nat)=>Option.getD z none) e).trans ?_
  have ih:=iK n r (i+1)
  by_cases h:n=x.no
  ·subst h
   show Option.getD (α:=Option Nat) (bif B5 x.no x.no then some (some i) else _) none=_
   rw[Uh]
   simp only[bV,aan]
   rfl
  ·show Option.getD (α:=Option Nat) (bif B5 n x.no then some (some i) else _) none=_
   rw[R8 h]
   simp only[bV,aam h]
   exact ih
theorem Ld (n:Int) (y:ak) (hy:y.no=n):∀ (A:List ak) (i:Nat),bV n i A=none→jY (k:=tI) (v:= .hnd) (qZ i A) n (some (i+A.length))=qZ i (A++[y])
 | [],i,_=>by subst hy;rfl
 | x::r,i,h=>by
  simp only[bV] at h
  by_cases hx:n=x.no
  ·rw[aan hx] at h;cases h
  ·rw[aam hx] at h
   have ih:=Ld n y hy r (i+1) h
   have e:i+(x::r).length=i+1+r.length:=by simp only[YW];omega
   rw[e]
   show (bif B5 n x.no then _ else (x.no,some i)::jY (k:=tI) (v:= .hnd) (qZ (i+1) r) n (some (i+1+r.length)))=_
   rw[R8 hx]
   exact congrArg (fun z=>(x.no,some i)::z) ih
theorem Ac:∀ (A:List ak) (i:Nat),(qZ i A).length=A.length
 | [],_=>rfl
 | x::r,i=>by simp[qZ,Ac r]
theorem Uu {k:Nat} {y:ak}:∀ (A:List ak) (i:Nat),(∀ x,A[k]? =some x→y.no=x.no)→qZ i (A.set k y)=qZ i A:=by
 intro A
 induction A generalizing k with
 | nil=>intro i _;rfl
 | cons x r ih=>
  intro i h
  cases k with
  | zero=>simp only[List.set_cons_zero,qZ];rw[h x rfl]
  | succ k=>simp only[List.set_cons_succ,qZ];rw[ih (i+1) (fun z hz=>h z (by simpa using hz))]
theorem Kk {n:Int}:∀ {A:List ak} {i k:Nat},bV n i A=some k→i≤k∧∃ x,A[k - i]? =some x∧x.no=n
 | [],_,_,h=>by cases h
 | x::r,i,k,h=>by
  simp only[bV] at h
  by_cases hx:n=x.no
  ·rw[aan hx] at h;cases h;exact⟨ZE _,x,by simp,hx.symm⟩
  ·rw[aam hx] at h
   obtain⟨h1,y,h2,h3⟩:=Kk h
   refine⟨by omega,y, ?_,h3⟩
   rw[show k - i=k - (i+1)+1 by omega,YG];exact h2
theorem Mp {n:Int} {A:List ak} {k:Nat} (h:mq n A=some k):∃ x,A[k]? =some x∧x.no=n:=(Kk h).2
theorem S5 {n:Int} {k:Nat} {y:ak}:∀ (A:List ak) (i:Nat),(∀ x,A[k]? =some x→y.no=x.no)→bV n i (A.set k y)=bV n i A:=by
 intro A
 induction A generalizing k with
 | nil=>intro i _;rfl
 | cons x r ih=>
  intro i h
  cases k with
  | zero=>simp only[List.set_cons_zero,bV];rw[h x rfl]
  | succ k=>simp only[List.set_cons_succ,bV];rw[ih (i+1) (fun z hz=>h z (by simpa using hz))]
theorem Mn {n:Int} {y:ak}:∀ (A:List ak) (i:Nat),bV n i (A++[y])=(bV n i A).or (if n=y.no then some (i+A.length) else none)
 | [],i=>by simp[bV]
 | x::r,i=>by
  simp only[Yp,bV,YW]
  by_cases h:n=x.no
  ·simp[h]
  ·rw[aam h,aam h,Mn r (i+1),show i+(r.length+1)=i+1+r.length by omega]
theorem qD {A:List ak} {k:Nat} {x:ak} (h:A[k]? =some x):(A.map ak.tup)[k]? =some x.tup:=by rw[YM,h];rfl
theorem SH (A:List ak) (k:Nat) (y:ak):(A.map ak.tup).set k y.tup=(A.set k y).map ak.tup:=by rw[List.map_set]
theorem Jf {A:List ak} {k:Nat} {x:ak} (h:A[k]? =some x) (y:ak):(A.set k y)[k]? =some y:=by
 have:=(YL.1 h).1
 simp[YP,this]
theorem Aj {A:List ak} {k:Nat} {x:ak} (h:A[k]? =some x) (hx:LOk x):lK (some k) (A.map ak.tup)=some (x.opn,()):=by
 unfold lK
 have ht:=qD h
 simp only[ZZ,ht]
 have:=hx.ret0;have:=hx.retr;have:=hx.rcvs;have:=hx.shp1;have:=hx.yg;have:=hx.ord1
 rw[aV (n:=x.ord - x.shp) (by omega) (by omega),aV (n:=x.ord - x.shp+x.ret) (by omega) (by omega)]
 rfl
end Go.Md
namespace Go.Md
open Go.Dn
abbrev dNo (d:aa):=d.2.2.1
abbrev bJ (d:aa):=d.2.2.2.1
abbrev oo (d:aa):=d.2.2.2.2.1
abbrev dQ (d:aa):=d.2.2.2.2.2.2.1
abbrev L7 (d:aa):=d.2.2.2.2.2.2.2.2.1
abbrev ot (d:aa):=d.2.2.2.2.2.2.2.2.2.1
abbrev dTo (d:aa):=d.2.2.2.2.2.2.2.2.2.2
theorem gz {d:aa} (h:Ju d=0):(usQ (bJ d)=true→qOk (dQ d) (bJ d==2)=true)∧(usP (bJ d)=true→inR (L7 d) 0 1000000000 4=true)∧(usU (bJ d)=true→Bc (ot d)=true)∧(usA (bJ d)=true→bT d.2.2.2.2.2.1=true∧bT d.2.2.2.2.2.2.2.1=true)∧(usT (bJ d)=true→DK (dTo d)=true):=by
 unfold Ju Rm at h
 show (usQ d.2.2.2.1=true→qOk d.2.2.2.2.2.2.1 (d.2.2.2.1==2)=true)∧(usP d.2.2.2.1=true→inR d.2.2.2.2.2.2.2.2.1 0 1000000000 4=true)∧(usU d.2.2.2.1=true→Bc d.2.2.2.2.2.2.2.2.2.1=true)∧(usA d.2.2.2.1=true→bT d.2.2.2.2.2.1=true∧bT d.2.2.2.2.2.2.2.1=true)∧(usT d.2.2.2.1=true→DK d.2.2.2.2.2.2.2.2.2.2=true)
 generalize usA d.2.2.2.1=ua at*
 generalize usQ d.2.2.2.1=uq at*
 generalize usP d.2.2.2.1=up at*
 generalize usU d.2.2.2.1=uu at*
 generalize usT d.2.2.2.1=ut at*
 generalize qOk d.2.2.2.2.2.2.1 (d.2.2.2.1==2)=b1 at*
 generalize inR d.2.2.2.2.2.2.2.2.1 0 1000000000 4=b2 at*
 generalize Bc d.2.2.2.2.2.2.2.2.2.1=b3 at*
 generalize bT d.2.2.2.2.2.1=b4 at*
 generalize bT d.2.2.2.2.2.2.2.1=b5 at*
 generalize DK d.2.2.2.2.2.2.2.2.2.2=b6 at*
 cases hq:(uq&& !b1)
 ·rw[hq,aab] at h
  cases hp:(up&& !b2)
  ·rw[hp,aab] at h
   cases hu:(uu&& !b3)
   ·rw[hu,aab] at h
    cases ha:(ua&&(!b4|| !b5))
    ·rw[ha,aab] at h
     cases ht:(ut&& !b6)
     ·refine⟨?_, ?_, ?_, ?_, ?_⟩
      ·revert hq;cases uq<;>cases b1<;>simp
      ·revert hp;cases up<;>cases b2<;>simp
      ·revert hu;cases uu<;>cases b3<;>simp
      ·revert ha;cases ua<;>cases b4<;>cases b5<;>simp
      ·revert ht;cases ut<;>cases b6<;>simp
     ·rw[ht,aac] at h;cases h
    ·rw[ha,aac] at h;cases h
   ·rw[hu,aac] at h;cases h
  ·rw[hp,aac] at h;cases h
 ·rw[hq,aac] at h;cases h
def Jw (day:Int) (i:Int) (d:aa) (x:ak):Int×ak:=
 if bJ d=3∧ot d<day then (1,x) else if 0≤x.wish then (11,x) else (0,{ x with wish:=i })
def kF (l:List aa) (x:ak):aa:=l.getD x.wish.toNat (0,0,0,0,0,[],(0,0),[],(0,0),0,0)
def cH (l:List aa) (d:aa) (x:ak):Int×ak:=
 if x.wish<0 then (5,x)
 else if dNo (kF l x)≠dTo d then (5,x)
 else if bJ d=5 then
  (if bJ (kF l x)=2 then (if bE (dQ (kF l x))<x.shp - x.ret then (12,x) else (0,{ x with ord:=bE (dQ (kF l x)),wish:= -1 }))
  else if bJ (kF l x)=1 then (0,{ x with ord:=bE (dQ (kF l x)),wish:= -1 })
  else if bJ (kF l x)=3 then (0,{ x with due:=ot (kF l x),wish:= -1 })
  else (0,{ x with price:=L7 (kF l x),wish:= -1 }))
 else (0,{ x with wish:= -1 })
def oZ (day:Int) (d:aa) (x:ak):Int:=
 if ot d<day then 1 else if 0≤x.wish∨x.opn=0 then 11 else if x.opn<bE (dQ d) then 12 else 0
def Jt (d:aa) (x:ak):Int×ak:=
 if 0≤x.wish then (11,x) else if x.ono=0∨x.ono≠dTo d then (5,x) else (0,{ x with ord:=x.shp - x.ret+x.oq,due:=x.ount,ono:=0,oq:=0,ount:=0 })
def c9 (ext:Int) (d:aa) (x:ak):Int×ak:=
 if bJ d=9 then
  (if x.ord+x.ord*ext / 1000<x.shp - x.ret+bE (dQ d) then (12,x)
  else if 1000000000000000<x.shp+bE (dQ d) then (16,x)
  else (0,{ x with shp:=x.shp+bE (dQ d) }))
 else if bJ d=10 then (if x.shp<x.rcv+bE (dQ d) then (12,x) else (0,{ x with rcv:=x.rcv+bE (dQ d) }))
 else (if x.rcv<x.ret+bE (dQ d) then (12,x) else (0,{ x with ret:=x.ret+bE (dQ d) }))
theorem jq {A:List ak} {k:Nat} {x:ak} (h:A[k]? =some x):A.set k x=A:=by
 obtain⟨h1,h2⟩:=YL.1 h
 rw[← h2];exact List.set_getElem_self h1
theorem nu {A:List ak} {k:Nat} (y:ak) (T:aW) (hT:T=y.tup):List.set (A.map ak.tup) k T=(A.set k y).map ak.tup:=by rw[hT,SH]
theorem BT {A:List ak} {k:Nat} {x:ak} (h:A[k]? =some x) (T:aW):(List.set (A.map ak.tup) k T)[k]? =some T:=by
 have:=(YL.1 h).1
 rw[YR (by simpa using this)]
variable {o:ai} {l:List aa} {m:List (Int×Option Nat)} {ref:List ah} {pts:List aH} {wt:Int} {A:List ak} {k:Nat} {x:ak}
theorem pe (h:A[k]? =some x) {i:Nat} {d:aa} (hd:l[i]? =some d):
 nH (o,l,m,ref,pts,wt,()) (some k) (i:Int) (A.map ak.tup)=some ((Jw (gj o) i d x).1,(o,l,m,ref,pts,wt,()),(A.set k (Jw (gj o) i d x).2).map ak.tup,()):=by
 unfold nH Jw
 dsimp only
 rw[fW hd,ZZ]
 have hv:(bif d.2.2.2.1==3 then some (decide (d.2.2.2.2.2.2.2.2.2.1<o.2.2.2.1),()) else some (false,()))=some (decide (bJ d=3∧ot d<gj o),()):=by
  by_cases h3:d.2.2.2.1=3
  ·rw[show (d.2.2.2.1==3)=true by simp[h3],aac]
   simp[bJ,h3]
  ·rw[show (d.2.2.2.1==3)=false by simp[h3],aab]
   simp[bJ,h3]
 rw[hv,ZZ]
 dsimp only
 by_cases h1:bJ d=3∧ot d<gj o
 ·rw[aaf h1,aac,aan h1,jq h]
 ·rw[aae h1,aab,aam h1]
  simp only[ZZ,qD h]
  by_cases h2:0≤x.wish
  ·rw[aan h2,aaf (show x.wish≥0 from h2),aac,jq h]
  ·rw[aam h2,aae (show ¬x.wish≥0 from h2),aab,nu { x with wish:=(i:Int) } _ rfl]
structure WOk (l:List aa) (x:ak):Prop where
 low: -1≤x.wish
 kind:0≤x.wish→∃ d,l[x.wish.toNat]? =some d∧bJ d≤4
theorem D7 {d:aa} (hw:l[x.wish.toNat]? =some d):kF l x=d:=by
 unfold kF
 rw[YC,hw];rfl
theorem Ve {d:aa} (h0:0≤x.wish) (hw:l[x.wish.toNat]? =some d):idx l x.wish=some d:=by
 unfold idx;rw[aan h0];exact hw
theorem tU (h:A[k]? =some x) (hx:LOk x) (hw:WOk l x) (hl:∀ d,d∈l→dw d=0) (d:aa):
 lG (o,l,m,ref,pts,wt,()) (some k) d (A.map ak.tup)=some ((cH l d x).1,(o,l,m,ref,pts,wt,()),(A.set k (cH l d x).2).map ak.tup,()):=by
 unfold lG cH
 simp only[ZZ,qD h]
 by_cases h1:x.wish<0
 ·rw[aan h1,aaf h1,aac,jq h]
 ·rw[aam h1,aae h1,aab]
  obtain⟨w,hw1,hw2⟩:=hw.kind (by omega)
  rw[Ve (by omega) hw1,D7 hw1]
  simp only[ZZ]
  have hwf:=hl w (Zd hw1)
  obtain⟨_,_,_,hk,_,_,hu⟩:=cW hwf
  obtain⟨uq,_⟩:=gz hu
  have b0:=hx.ret0;have b1:=hx.retr;have b2:=hx.rcvs;have b3:=hx.shp1
  by_cases h2:dNo w=dTo d
  ·rw[aam (fun e=>e h2),show (w.2.2.1 != d.2.2.2.2.2.2.2.2.2.2)=false by simpa using h2,aab]
   by_cases h3:bJ d=5
   ·rw[aan h3,show (d.2.2.2.1==5)=true by simpa using h3,aac]
    by_cases k2:bJ w=2
    ·have hq:=uq (by rw[k2];rfl)
     rw[aan k2,show (w.2.2.2.1==2)=true by simpa using k2,aac]
     simp only[mO hq,ZZ,BT h,Zo]
     rw[aV (n:=x.shp - x.ret) (by omega) (by omega)]
     by_cases h4:bE (dQ w)<x.shp - x.ret
     ·rw[aan h4,aaf h4,aac,jq h]
     ·rw[aam h4,aae h4,aab,nu { x with ord:=bE (dQ w),wish:= -1 } _ rfl]
    ·rw[aam k2,show (w.2.2.2.1==2)=false by simpa using k2,aab]
     by_cases k1:bJ w=1
     ·have hq:=uq (by rw[k1];rfl)
      rw[aan k1,show (w.2.2.2.1==1)=true by simpa using k1,aac]
      simp only[mO hq,ZZ,BT h,Zo]
      rw[nu { x with ord:=bE (dQ w),wish:= -1 } _ rfl]
     ·rw[aam k1,show (w.2.2.2.1==1)=false by simpa using k1,aab]
      by_cases k3:bJ w=3
      ·rw[aan k3,show (w.2.2.2.1==3)=true by simpa using k3,aac]
       simp only[ZZ,BT h,Zo]
       rw[nu { x with due:=ot w,wish:= -1 } _ rfl]
      ·rw[aam k3,show (w.2.2.2.1==3)=false by simpa using k3,aab]
       simp only[ZZ,BT h,Zo]
       rw[nu { x with price:=L7 w,wish:= -1 } _ rfl]
   ·rw[aam h3,show (d.2.2.2.1==5)=false by simpa using h3,aab,nu { x with wish:= -1 } _ rfl]
  ·rw[aan h2,show (w.2.2.1 != d.2.2.2.2.2.2.2.2.2.2)=true by simpa using h2,aac,jq h]
theorem Bi (h:A[k]? =some x) (hx:LOk x) {d:aa} {z:Bool} (hq:qOk (dQ d) z=true):
 kN (o,l,m,ref,pts,wt,()) (some k) d (A.map ak.tup)=some (oZ (gj o) d x,(o,l,m,ref,pts,wt,()),A.map ak.tup,()):=by
 unfold kN oZ
 simp only[ZZ,qD h,Aj h hx,mO hq]
 by_cases h1:ot d<gj o
 ·rw[aan h1,aaf h1,aac]
 ·rw[aam h1,aae h1,aab]
  by_cases h2:0≤x.wish
  ·rw[aan (.inl h2),aaf (show x.wish≥0 from h2),aac]
  ·rw[aae (show ¬x.wish≥0 from h2),aab]
   by_cases h3:x.opn=0
   ·rw[aan (.inr h3),show (x.opn==0)=true by simp[h3],aac]
   ·rw[aam (fun e=>e.elim h2 h3),show (x.opn==0)=false by simp[h3],aab]
    by_cases h4:x.opn<bE (dQ d)
    ·rw[aan h4,aaf (show bE (dQ d)>x.opn from h4),aac]
    ·rw[aam h4,aae (show ¬bE (dQ d)>x.opn from h4),aab]
theorem DX (h:A[k]? =some x) (hx:LOk x) (d:aa):
 nG (o,l,m,ref,pts,wt,()) (some k) d (A.map ak.tup)=some ((Jt d x).1,(o,l,m,ref,pts,wt,()),(A.set k (Jt d x).2).map ak.tup,()):=by
 unfold nG Jt
 simp only[ZZ,qD h,BT h,Zo]
 have b0:=hx.ret0;have b1:=hx.retr;have b2:=hx.rcvs;have b3:=hx.shp1;have b4:=hx.yg;have b5:=hx.ord1
 by_cases h1:0≤x.wish
 ·rw[aan h1,aaf (show x.wish≥0 from h1),aac,jq h]
 ·rw[aam h1,aae (show ¬x.wish≥0 from h1),aab]
  by_cases h2:x.ono=0
  ·rw[aan (.inl h2),show (x.ono==0)=true by simp[h2],aac,jq h]
  ·rw[show (x.ono==0)=false by simp[h2],aab]
   by_cases h3:x.ono=dTo d
   ·obtain⟨c1,c2⟩:=hx.off h2
    rw[aam (fun e=>e.elim h2 (fun e=>e h3)),show (x.ono != d.2.2.2.2.2.2.2.2.2.2)=false by simpa using h3,aab,
     aV (n:=x.shp - x.ret) (by omega) (by omega),aV (n:=x.shp - x.ret+x.oq) (by omega) (by omega),
     nu { x with ord:=x.shp - x.ret+x.oq,due:=x.ount,ono:=0,oq:=0,ount:=0 } _ rfl]
   ·rw[aan (.inr h3),show (x.ono != d.2.2.2.2.2.2.2.2.2.2)=true by simpa using h3,aac,jq h]
theorem o9 (h:A[k]? =some x) (hx:LOk x) (he0:0≤er o) (he1:er o≤1000) {d:aa} {z:Bool} (hq:qOk (dQ d) z=true):
 nF (o,l,m,ref,pts,wt,()) (some k) d (A.map ak.tup)=some ((c9 (er o) d x).1,(o,l,m,ref,pts,wt,()),(A.set k (c9 (er o) d x).2).map ak.tup,()):=by
 unfold nF c9
 simp only[ZZ,qD h,BT h,mO hq]
 have b0:=hx.ret0;have b1:=hx.retr;have b2:=hx.rcvs;have b3:=hx.shp1;have b4:=hx.yg;have b5:=hx.ord1
 obtain⟨q0,q1,_⟩:=uE hq
 by_cases k9:bJ d=9
 ·rw[aan k9,show (d.2.2.2.1==9)=true by simpa using k9,aac]
  have m0:0≤x.ord*er o:=Ya b4 he0
  have m1:x.ord*er o≤x.ord*1000:=X9 he1 b4
  have e1:w64 (x.ord*er o)=x.ord*er o:=aV (by omega) (by omega)
  have e2:Int.tdiv (x.ord*er o) 1000=x.ord*er o / 1000:=Yh m0
  have d0:0≤x.ord*er o / 1000:=Int.ediv_nonneg m0 (by omega)
  have d1:x.ord*er o / 1000≤x.ord:=by omega
  rw[show w64 (x.ord*o.2.2.2.2.1)=x.ord*er o from e1,e2,aV (n:=x.ord*er o / 1000) (by omega) (by omega),aV (n:=x.ord+x.ord*er o / 1000) (by omega) (by omega),
   aV (n:=x.shp - x.ret) (by omega) (by omega),aV (n:=x.shp - x.ret+bE (dQ d)) (by omega) (by omega),aV (n:=x.shp+bE (dQ d)) (by omega) (by omega)]
  by_cases c1:x.ord+x.ord*er o / 1000<x.shp - x.ret+bE (dQ d)
  ·rw[aan c1,aaf (show x.shp - x.ret+bE (dQ d)>x.ord+x.ord*er o / 1000 from c1),aac,jq h]
  ·rw[aam c1,aae (show ¬x.shp - x.ret+bE (dQ d)>x.ord+x.ord*er o / 1000 from c1),aab]
   by_cases c2:1000000000000000<x.shp+bE (dQ d)
   ·rw[aan c2,aaf (show x.shp+bE (dQ d)>1000000000000000 from c2),aac,jq h]
   ·rw[aam c2,aae (show ¬x.shp+bE (dQ d)>1000000000000000 from c2),aab,nu { x with shp:=x.shp+bE (dQ d) } _ rfl]
 ·rw[aam k9,show (d.2.2.2.1==9)=false by simpa using k9,aab]
  by_cases k10:bJ d=10
  ·rw[aan k10,show (d.2.2.2.1==10)=true by simpa using k10,aac,aV (n:=x.rcv+bE (dQ d)) (by omega) (by omega)]
   by_cases c1:x.shp<x.rcv+bE (dQ d)
   ·rw[aan c1,aaf (show x.rcv+bE (dQ d)>x.shp from c1),aac,jq h]
   ·rw[aam c1,aae (show ¬x.rcv+bE (dQ d)>x.shp from c1),aab,nu { x with rcv:=x.rcv+bE (dQ d) } _ rfl]
  ·rw[aam k10,show (d.2.2.2.1==10)=false by simpa using k10,aab,aV (n:=x.ret+bE (dQ d)) (by omega) (by omega)]
   by_cases c1:x.rcv<x.ret+bE (dQ d)
   ·rw[aan c1,aaf (show x.ret+bE (dQ d)>x.rcv from c1),aac,jq h]
   ·rw[aam c1,aae (show ¬x.ret+bE (dQ d)>x.rcv from c1),aab,nu { x with ret:=x.ret+bE (dQ d) } _ rfl]
end Go.Md
namespace Go.Md
open Go.Dn
def ak.clr (x:ak):ak:={ x with ono:=0,oq:=0,ount:=0 }
def fe (o:ai) (l:List aa) (i:Nat) (d:aa) (x:ak):Int×ak:=
 if bJ d≤4 then Jw (gj o) i d x
 else if bJ d≤6 then (if (cH l d x).1=0 then (0,(cH l d x).2.clr) else cH l d x)
 else if bJ d=7 then (if oZ (gj o) d x=0 then (0,{ x with ono:=dNo d,oq:=bE (dQ d),ount:=ot d }) else (oZ (gj o) d x,x))
 else if bJ d=8 then Jt d x
 else if bJ d=9 then (if (c9 (er o) d x).1=0 then (0,(c9 (er o) d x).2.clr) else c9 (er o) d x)
 else c9 (er o) d x
def Bp (i:Nat) (d:aa):ak:=⟨oo d,d.2.2.2.2.2.1,d.2.2.2.2.2.2.2.1,0,0,0,0,L7 d,ot d,i,0,0,0⟩
def eN (o:ai) (l:List aa) (i:Nat) (d:aa) (A:List ak):Int×List ak:=
 if bJ d=1 then
  (match mq (oo d) A with
  | some _=>(7,A)
  | none=>if 500≤A.length then (16,A) else if ot d<gj o then (1,A) else (0,A++[Bp i d]))
 else match mq (oo d) A with
  | none=>(9,A)
  | some k=>match A[k]? with
   | some x=>((fe o l i d x).1,A.set k (fe o l i d x).2)
   | none=>(9,A)
structure Sound (l:List aa) (A:List ak):Prop where
 line:∀ x,x∈A→LOk x∧WOk l x
theorem WG {x:ak} (h:LOk x):LOk x.clr:=⟨h.ret0,h.retr,h.rcvs,h.shp1,h.yg,h.ord1,fun e=>absurd rfl e⟩
theorem SO {l:List aa} {d:aa} {x:ak} (hx:LOk x) (hw:WOk l x) (hl:∀ d,d∈l→dw d=0):((cH l d x).1=0→LOk (cH l d x).2.clr)∧((cH l d x).1≠0→(cH l d x).2=x)∧((cH l d x).2=x∨(cH l d x).2.wish= -1)∧(cH l d x).2.no=x.no:=by
 have hk:LOk x.clr:=WG hx
 unfold cH
 by_cases h1:x.wish<0
 ·rw[aan h1];exact⟨nofun,fun _=>rfl,.inl rfl,rfl⟩
 rw[aam h1]
 obtain⟨w,hw1,hw2⟩:=hw.kind (by omega)
 rw[D7 hw1]
 obtain⟨_,_,_,_,_,_,hu⟩:=cW (hl w (Zd hw1))
 obtain⟨uq,_⟩:=gz hu
 by_cases h2:dNo w≠dTo d
 ·rw[aan h2];exact⟨nofun,fun _=>rfl,.inl rfl,rfl⟩
 rw[aam h2]
 by_cases h3:bJ d=5
 ·rw[aan h3]
  by_cases k2:bJ w=2
  ·rw[aan k2]
   obtain⟨q0,q1,_⟩:=uE (uq (by rw[k2];rfl))
   by_cases h4:bE (dQ w)<x.shp - x.ret
   ·rw[aan h4];exact⟨nofun,fun _=>rfl,.inl rfl,rfl⟩
   ·rw[aam h4];exact⟨fun _=>⟨hx.ret0,hx.retr,hx.rcvs,hx.shp1,q0,q1,fun e=>absurd rfl e⟩,fun e=>absurd rfl e,.inr rfl,rfl⟩
  ·rw[aam k2]
   by_cases k1:bJ w=1
   ·rw[aan k1]
    obtain⟨q0,q1,_⟩:=uE (uq (by rw[k1];rfl))
    exact⟨fun _=>⟨hx.ret0,hx.retr,hx.rcvs,hx.shp1,q0,q1,fun e=>absurd rfl e⟩,fun e=>absurd rfl e,.inr rfl,rfl⟩
   ·rw[aam k1]
    by_cases k3:bJ w=3
    ·rw[aan k3];exact⟨fun _=>⟨hx.ret0,hx.retr,hx.rcvs,hx.shp1,hx.yg,hx.ord1,fun e=>absurd rfl e⟩,fun e=>absurd rfl e,.inr rfl,rfl⟩
    ·rw[aam k3];exact⟨fun _=>⟨hx.ret0,hx.retr,hx.rcvs,hx.shp1,hx.yg,hx.ord1,fun e=>absurd rfl e⟩,fun e=>absurd rfl e,.inr rfl,rfl⟩
 ·rw[aam h3];exact⟨fun _=>⟨hx.ret0,hx.retr,hx.rcvs,hx.shp1,hx.yg,hx.ord1,fun e=>absurd rfl e⟩,fun e=>absurd rfl e,.inr rfl,rfl⟩
theorem Vk {ext:Int} {d:aa} {x:ak} {z:Bool} (hx:LOk x) (hq:qOk (dQ d) z=true):((c9 ext d x).1=0→LOk (if bJ d=9 then (c9 ext d x).2.clr else (c9 ext d x).2))∧((c9 ext d x).1≠0→(c9 ext d x).2=x)∧(c9 ext d x).2.wish=x.wish∧(c9 ext d x).2.no=x.no:=by
 obtain⟨q0,q1,_⟩:=uE hq
 have b0:=hx.ret0;have b1:=hx.retr;have b2:=hx.rcvs;have b3:=hx.shp1
 unfold c9
 by_cases k9:bJ d=9
 ·rw[aan k9,aan k9]
  split
  ·exact⟨nofun,fun _=>rfl,rfl,rfl⟩
  ·split
   ·exact⟨nofun,fun _=>rfl,rfl,rfl⟩
   ·rename_i h1 h2
    exact⟨fun _=>⟨b0,b1,by show x.rcv≤x.shp+bE (dQ d);omega,by show x.shp+bE (dQ d)≤_;omega,hx.yg,hx.ord1,fun e=>absurd rfl e⟩,fun e=>absurd rfl e,rfl,rfl⟩
 ·rw[aam k9,aam k9]
  by_cases k10:bJ d=10
  ·rw[aan k10]
   split
   ·exact⟨nofun,fun _=>rfl,rfl,rfl⟩
   ·rename_i h1
    exact⟨fun _=>⟨b0,by show x.ret≤x.rcv+bE (dQ d);omega,by show x.rcv+bE (dQ d)≤x.shp;omega,b3,hx.yg,hx.ord1,hx.off⟩,fun e=>absurd rfl e,rfl,rfl⟩
  ·rw[aam k10]
   split
   ·exact⟨nofun,fun _=>rfl,rfl,rfl⟩
   ·rename_i h1
    exact⟨fun _=>⟨by show 0≤x.ret+bE (dQ d);omega,by show x.ret+bE (dQ d)≤x.rcv;omega,b2,b3,hx.yg,hx.ord1,fun e=>by
     obtain⟨c1,c2⟩:=hx.off e
     exact⟨c1,by show x.oq+x.shp - (x.ret+bE (dQ d))≤x.ord;omega⟩⟩,fun e=>absurd rfl e,rfl,rfl⟩
theorem I7 {o:ai} {l:List aa} {i:Nat} {d:aa} {x:ak} (hx:LOk x) (hw:WOk l x) (hl:∀ d,d∈l→dw d=0) (hd:l[i]? =some d):
 LOk (fe o l i d x).2∧WOk l (fe o l i d x).2∧(fe o l i d x).2.no=x.no∧((fe o l i d x).1≠0→(fe o l i d x).2=x):=by
 obtain⟨_,_,_,hk,_,_,hu⟩:=cW (hl d (Zd hd))
 obtain⟨uq,_⟩:=gz hu
 unfold fe
 by_cases k4:bJ d≤4
 ·rw[aan k4]
  unfold Jw
  split
  ·exact⟨hx,hw,rfl,fun _=>rfl⟩
  ·split
   ·exact⟨hx,hw,rfl,fun _=>rfl⟩
   ·refine⟨⟨hx.ret0,hx.retr,hx.rcvs,hx.shp1,hx.yg,hx.ord1,hx.off⟩,⟨by show (-1:Int)≤(i:Int);omega,fun _=>⟨d,by show l[((i:Int)).toNat]? =some d;simpa using hd,k4⟩⟩,rfl,fun e=>absurd rfl e⟩
 ·rw[aam k4]
  by_cases k6:bJ d≤6
  ·rw[aan k6]
   obtain⟨a1,a2,a3,a4⟩:=SO (d:=d) hx hw hl
   split
   ·rename_i e
    refine⟨a1 e, ?_,a4,fun e=>absurd rfl e⟩
    rcases a3 with a3 | a3
    ·rw[a3];exact⟨hw.low,hw.kind⟩
    ·exact⟨by show -1≤(cH l d x).2.wish;omega,fun h=>by have:0≤(cH l d x).2.wish:=h;omega⟩
   ·rename_i e
    rw[a2 e];exact⟨hx,hw,rfl,fun _=>rfl⟩
  ·rw[aam k6]
   by_cases k7:bJ d=7
   ·rw[aan k7]
    have hq:=uq (by rw[k7];rfl)
    rw[show (bJ d==2)=false by rw[k7];rfl] at hq
    obtain⟨q0,q1,q2⟩:=uE hq
    split
    ·rename_i e
     refine⟨⟨hx.ret0,hx.retr,hx.rcvs,hx.shp1,hx.yg,hx.ord1,fun _=>⟨q2 rfl, ?_⟩⟩,⟨hw.low,hw.kind⟩,rfl,fun e=>absurd rfl e⟩
     show bE (dQ d)+x.shp - x.ret≤x.ord
     unfold oZ at e
     split at e
     ·cases e
     ·split at e
      ·cases e
      ·split at e
       ·cases e
       ·rename_i h1 h2 h3
        have:=q2 rfl
        unfold ak.opn at h3
        split at h3<;>omega
    ·exact⟨hx,hw,rfl,fun _=>rfl⟩
   ·rw[aam k7]
    by_cases k8:bJ d=8
    ·rw[aan k8]
     unfold Jt
     split
     ·exact⟨hx,hw,rfl,fun _=>rfl⟩
     ·split
      ·exact⟨hx,hw,rfl,fun _=>rfl⟩
      ·rename_i h1 h2
       obtain⟨c1,c2⟩:=hx.off (fun e=>h2 (.inl e))
       have:=hx.ret0;have:=hx.retr;have:=hx.rcvs;have:=hx.ord1
       refine⟨⟨hx.ret0,hx.retr,hx.rcvs,hx.shp1, ?_, ?_,fun e=>absurd rfl e⟩,⟨hw.low,hw.kind⟩,rfl,fun e=>absurd rfl e⟩
       ·show 0≤x.shp - x.ret+x.oq;omega
       ·show x.shp - x.ret+x.oq≤1000000000000;omega
    ·rw[aam k8]
     have hq:=uq (by
      unfold usQ
      refine aaf ⟨by omega,by omega,by omega,by omega,by omega⟩)
     obtain⟨a1,a2,a3,a4⟩:=Vk (ext:=er o) hx hq
     by_cases k9:bJ d=9
     ·rw[aan k9]
      split
      ·rename_i e
       have:=a1 e
       rw[aan k9] at this
       exact⟨this,⟨by show -1≤(c9 (er o) d x).2.wish;rw[a3];exact hw.low,fun h=>by
        have h':0≤(c9 (er o) d x).2.wish:=h
        rw[a3] at h'
        show ∃ d',l[(c9 (er o) d x).2.wish.toNat]? =some d'∧_
        rw[a3];exact hw.kind h'⟩,a4,fun e=>absurd rfl e⟩
      ·rename_i e
       rw[a2 e];exact⟨hx,hw,rfl,fun _=>rfl⟩
     ·rw[aam k9]
      by_cases e:(c9 (er o) d x).1=0
      ·have:=a1 e
       rw[aam k9] at this
       exact⟨this,⟨by rw[a3];exact hw.low,fun h=>by rw[a3] at h ⊢;exact hw.kind h⟩,a4,fun h=>absurd e h⟩
      ·rw[a2 e];exact⟨hx,hw,rfl,fun _=>rfl⟩
theorem US {l:List aa} {A:List ak} (h:Sound l A) {k:Nat} {y:ak} (h1:LOk y) (h2:WOk l y):Sound l (A.set k y):=⟨fun x hx=>by
 rcases Ze hx with hx | hx
 ·exact h.line x hx
 ·subst hx;exact⟨h1,h2⟩⟩
theorem U6 {o:ai} {l:List aa} {i:Nat} {d:aa} {A:List ak} (hA:Sound l A) (hl:∀ d,d∈l→dw d=0) (hd:l[i]? =some d):
 Sound l (eN o l i d A).2∧((eN o l i d A).1≠0→(eN o l i d A).2=A):=by
 unfold eN
 by_cases k1:bJ d=1
 ·rw[aan k1]
  split
  ·exact⟨hA,fun _=>rfl⟩
  ·split
   ·exact⟨hA,fun _=>rfl⟩
   ·split
    ·exact⟨hA,fun _=>rfl⟩
    ·refine⟨⟨fun x hx=> ?_⟩,fun e=>absurd rfl e⟩
     rcases Y6.1 hx with hx | hx
     ·exact hA.line x hx
     ·simp only[Zg] at hx
      subst hx
      exact⟨⟨by show (0:Int)≤0;omega,by show (0:Int)≤0;omega,by show (0:Int)≤0;omega,by show (0:Int)≤_;omega,by show (0:Int)≤0;omega,by show (0:Int)≤_;omega,fun e=>absurd rfl e⟩,
       ⟨by show (-1:Int)≤(i:Int);omega,fun _=>⟨d,by show l[((i:Int)).toNat]? =some d;simpa using hd,by omega⟩⟩⟩
 ·rw[aam k1]
  split
  ·exact⟨hA,fun _=>rfl⟩
  ·rename_i k hk
   split
   ·rename_i x hx
    obtain⟨h1,h2⟩:=hA.line x (Zd hx)
    obtain⟨a1,a2,a3,a4⟩:=I7 (o:=o) h1 h2 hl hd
    exact⟨US hA a1 a2,fun e=>by rw[a4 e];exact jq hx⟩
   ·exact⟨hA,fun _=>rfl⟩
variable {o:ai} {l:List aa} {ref:List ah} {pts:List aH} {wt:Int} {A:List ak}
theorem ER {i:Nat} {d:aa} (hd:l[i]? =some d) (k1:bJ d=1):
 oz (o,l,mapOf A,ref,pts,wt,()) (i:Int) (A.map ak.tup)=some ((eN o l i d A).1,(o,l,mapOf (eN o l i d A).2,ref,pts,wt,()),(eN o l i d A).2.map ak.tup,()):=by
 unfold oz eN
 dsimp only
 rw[fW hd,ZZ,iK,aan k1]
 cases hf:mq (oo d) A with
 | some k=>rw[show bV d.2.2.2.2.1 0 A=some k from hf];rfl
 | none=>
  rw[show bV d.2.2.2.2.1 0 A=none from hf]
  dsimp only
  rw[show (!Option.isNone (none:Option Nat))=false from rfl,aab]
  by_cases h1:500≤A.length
  ·rw[aan h1,aaf (show ((mapOf A).length:Int)≥500 by rw[Ac];omega),aac]
  ·rw[aam h1,aae (show ¬((mapOf A).length:Int)≥500 by rw[Ac];omega),aab]
   by_cases h2:ot d<gj o
   ·rw[aan h2,aaf h2,aac]
   ·rw[aam h2,aae h2,aab]
    have hs:=Ld (oo d) (Bp i d) rfl A 0 hf
    rw[ZW] at hs
    rw[YX]
    refine congrArg some ?_
    refine Prod.ext rfl (Prod.ext ?_ (Prod.ext ?_ rfl))
    ·exact Prod.ext rfl (Prod.ext rfl (Prod.ext hs rfl))
    ·show List.map ak.tup A++[_]=List.map ak.tup (A++[Bp i d])
     rw[Y2]
     rfl
end Go.Md
namespace Go.Md
open Go.Dn
theorem SX {o:ai} {l:List aa} {i:Nat} {d:aa} {A:List ak} (k1:bJ d≠1) (hf:mq (oo d) A=none):eN o l i d A=(9,A):=by
 unfold eN;rw[aam k1,hf]
theorem T3 {o:ai} {l:List aa} {i:Nat} {d:aa} {A:List ak} {k:Nat} {x:ak} (k1:bJ d≠1) (hf:mq (oo d) A=some k) (hx:A[k]? =some x):eN o l i d A=((fe o l i d x).1,A.set k (fe o l i d x).2):=by
 unfold eN;rw[aam k1,hf];dsimp only;rw[hx]
variable {o:ai} {l:List aa} {ref:List ah} {pts:List aH} {wt:Int} {A:List ak}
theorem On {k:Nat} (x:ak) (y:ak) (T:aW) (hT:T=y.tup):List.set ((A.set k x).map ak.tup) k T=(A.set k y).map ak.tup:=by
 rw[hT,SH,Zo]
theorem VR {onum obuy osel:Bys} {oday oext:Int} {olns:List aQ} {day byy no line:Int} {art:Bys} {q:ah} {unit:Bys} {p:ah} {un to:Int} {i:Nat} (he0:0≤oext) (he1:oext≤1000) (hl:∀ d,d∈l→dw d=0)
 (hd:l[i]? =some (day,byy,no,2,line,art,q,unit,p,un,to)) {k:Nat} {x:ak} (hf:bV line 0 A=some k) (hx:A[k]? =some x) (hs:LOk x) (hw:WOk l x):
 aT ((onum,obuy,osel,oday,oext,olns),l,mapOf A,ref,pts,wt,()) (i:Int) (A.map ak.tup)=some ((fe (onum,obuy,osel,oday,oext,olns) l i (day,byy,no,2,line,art,q,unit,p,un,to) x).1,((onum,obuy,osel,oday,oext,olns),l,mapOf A,ref,pts,wt,()),(A.set k (fe (onum,obuy,osel,oday,oext,olns) l i (day,byy,no,2,line,art,q,unit,p,un,to) x).2).map ak.tup,()):=by
 have hdf:=hl _ (Zd hd)
 obtain⟨_,_,_,_,_,_,hu⟩:=cW hdf
 obtain⟨uq,_⟩:=gz hu
 have h21:((2:Int)==1)=false:=rfl
 have h22:((2:Int)==2)=true:=rfl
 have h23:((2:Int)==3)=false:=rfl
 have h24:((2:Int)==4)=false:=rfl
 have h25:((2:Int)==5)=false:=rfl
 have h26:((2:Int)==6)=false:=rfl
 have h27:((2:Int)==7)=false:=rfl
 have h28:((2:Int)==8)=false:=rfl
 have h29:((2:Int)==9)=false:=rfl
 unfold aT
 dsimp only
 rw[fW hd,ZZ]
 dsimp only
 rw[iK,hf]
 simp only[h21,h22,h23,h24,h25,h26,h27,h28,h29,aac,aab,aK,Z3,ZZ,pe hx hd]
 rfl
theorem VS {onum obuy osel:Bys} {oday oext:Int} {olns:List aQ} {day byy no line:Int} {art:Bys} {q:ah} {unit:Bys} {p:ah} {un to:Int} {i:Nat} (he0:0≤oext) (he1:oext≤1000) (hl:∀ d,d∈l→dw d=0)
 (hd:l[i]? =some (day,byy,no,3,line,art,q,unit,p,un,to)) {k:Nat} {x:ak} (hf:bV line 0 A=some k) (hx:A[k]? =some x) (hs:LOk x) (hw:WOk l x):
 aT ((onum,obuy,osel,oday,oext,olns),l,mapOf A,ref,pts,wt,()) (i:Int) (A.map ak.tup)=some ((fe (onum,obuy,osel,oday,oext,olns) l i (day,byy,no,3,line,art,q,unit,p,un,to) x).1,((onum,obuy,osel,oday,oext,olns),l,mapOf A,ref,pts,wt,()),(A.set k (fe (onum,obuy,osel,oday,oext,olns) l i (day,byy,no,3,line,art,q,unit,p,un,to) x).2).map ak.tup,()):=by
 have hdf:=hl _ (Zd hd)
 obtain⟨_,_,_,_,_,_,hu⟩:=cW hdf
 obtain⟨uq,_⟩:=gz hu
 have h31:((3:Int)==1)=false:=rfl
 have h32:((3:Int)==2)=false:=rfl
 have h33:((3:Int)==3)=true:=rfl
 have h34:((3:Int)==4)=false:=rfl
 have h35:((3:Int)==5)=false:=rfl
 have h36:((3:Int)==6)=false:=rfl
 have h37:((3:Int)==7)=false:=rfl
 have h38:((3:Int)==8)=false:=rfl
 have h39:((3:Int)==9)=false:=rfl
 unfold aT
 dsimp only
 rw[fW hd,ZZ]
 dsimp only
 rw[iK,hf]
 simp only[h31,h32,h33,h34,h35,h36,h37,h38,h39,aac,aab,aK,Z3,ZZ,pe hx hd]
 rfl
theorem VT {onum obuy osel:Bys} {oday oext:Int} {olns:List aQ} {day byy no line:Int} {art:Bys} {q:ah} {unit:Bys} {p:ah} {un to:Int} {i:Nat} (he0:0≤oext) (he1:oext≤1000) (hl:∀ d,d∈l→dw d=0)
 (hd:l[i]? =some (day,byy,no,4,line,art,q,unit,p,un,to)) {k:Nat} {x:ak} (hf:bV line 0 A=some k) (hx:A[k]? =some x) (hs:LOk x) (hw:WOk l x):
 aT ((onum,obuy,osel,oday,oext,olns),l,mapOf A,ref,pts,wt,()) (i:Int) (A.map ak.tup)=some ((fe (onum,obuy,osel,oday,oext,olns) l i (day,byy,no,4,line,art,q,unit,p,un,to) x).1,((onum,obuy,osel,oday,oext,olns),l,mapOf A,ref,pts,wt,()),(A.set k (fe (onum,obuy,osel,oday,oext,olns) l i (day,byy,no,4,line,art,q,unit,p,un,to) x).2).map ak.tup,()):=by
 have hdf:=hl _ (Zd hd)
 obtain⟨_,_,_,_,_,_,hu⟩:=cW hdf
 obtain⟨uq,_⟩:=gz hu
 have h41:((4:Int)==1)=false:=rfl
 have h42:((4:Int)==2)=false:=rfl
 have h43:((4:Int)==3)=false:=rfl
 have h44:((4:Int)==4)=true:=rfl
 have h45:((4:Int)==5)=false:=rfl
 have h46:((4:Int)==6)=false:=rfl
 have h47:((4:Int)==7)=false:=rfl
 have h48:((4:Int)==8)=false:=rfl
 have h49:((4:Int)==9)=false:=rfl
 unfold aT
 dsimp only
 rw[fW hd,ZZ]
 dsimp only
 rw[iK,hf]
 simp only[h41,h42,h43,h44,h45,h46,h47,h48,h49,aac,aab,aK,Z3,ZZ,pe hx hd]
 rfl
theorem VU {onum obuy osel:Bys} {oday oext:Int} {olns:List aQ} {day byy no line:Int} {art:Bys} {q:ah} {unit:Bys} {p:ah} {un to:Int} {i:Nat} (he0:0≤oext) (he1:oext≤1000) (hl:∀ d,d∈l→dw d=0)
 (hd:l[i]? =some (day,byy,no,5,line,art,q,unit,p,un,to)) {k:Nat} {x:ak} (hf:bV line 0 A=some k) (hx:A[k]? =some x) (hs:LOk x) (hw:WOk l x):
 aT ((onum,obuy,osel,oday,oext,olns),l,mapOf A,ref,pts,wt,()) (i:Int) (A.map ak.tup)=some ((fe (onum,obuy,osel,oday,oext,olns) l i (day,byy,no,5,line,art,q,unit,p,un,to) x).1,((onum,obuy,osel,oday,oext,olns),l,mapOf A,ref,pts,wt,()),(A.set k (fe (onum,obuy,osel,oday,oext,olns) l i (day,byy,no,5,line,art,q,unit,p,un,to) x).2).map ak.tup,()):=by
 have hdf:=hl _ (Zd hd)
 obtain⟨_,_,_,_,_,_,hu⟩:=cW hdf
 obtain⟨uq,_⟩:=gz hu
 have h51:((5:Int)==1)=false:=rfl
 have h52:((5:Int)==2)=false:=rfl
 have h53:((5:Int)==3)=false:=rfl
 have h54:((5:Int)==4)=false:=rfl
 have h55:((5:Int)==5)=true:=rfl
 have h56:((5:Int)==6)=false:=rfl
 have h57:((5:Int)==7)=false:=rfl
 have h58:((5:Int)==8)=false:=rfl
 have h59:((5:Int)==9)=false:=rfl
 unfold aT
 dsimp only
 rw[fW hd,ZZ]
 dsimp only
 rw[iK,hf]
 simp only[h51,h52,h53,h54,h55,h56,h57,h58,h59,aac,aab,aK,Z3,ZZ,tU hx hs hw hl,gp]
 have ha:fe (onum,obuy,osel,oday,oext,olns) l i (day,byy,no,5,line,art,q,unit,p,un,to) x=(if (cH l (day,byy,no,5,line,art,q,unit,p,un,to) x).1=0 then (0,(cH l (day,byy,no,5,line,art,q,unit,p,un,to) x).2.clr) else cH l (day,byy,no,5,line,art,q,unit,p,un,to) x):=rfl
 rw[ha]
 by_cases e:(cH l (day,byy,no,5,line,art,q,unit,p,un,to) x).1=0
 ·rw[aan e,e]
  simp only[show ((0:Int)==0)=true from rfl,aac,ZZ,qD (Jf hx _)]
  simp only[true_or,or_true,aai,aac]
  refine congrArg some (Prod.ext rfl (Prod.ext rfl (Prod.ext ?_ rfl)))
  exact On (cH l (day,byy,no,5,line,art,q,unit,p,un,to) x).2 ((cH l (day,byy,no,5,line,art,q,unit,p,un,to) x).2.clr) _ rfl
 ·rw[aam e,mJ e,aab]
  rfl
theorem VV {onum obuy osel:Bys} {oday oext:Int} {olns:List aQ} {day byy no line:Int} {art:Bys} {q:ah} {unit:Bys} {p:ah} {un to:Int} {i:Nat} (he0:0≤oext) (he1:oext≤1000) (hl:∀ d,d∈l→dw d=0)
 (hd:l[i]? =some (day,byy,no,6,line,art,q,unit,p,un,to)) {k:Nat} {x:ak} (hf:bV line 0 A=some k) (hx:A[k]? =some x) (hs:LOk x) (hw:WOk l x):
 aT ((onum,obuy,osel,oday,oext,olns),l,mapOf A,ref,pts,wt,()) (i:Int) (A.map ak.tup)=some ((fe (onum,obuy,osel,oday,oext,olns) l i (day,byy,no,6,line,art,q,unit,p,un,to) x).1,((onum,obuy,osel,oday,oext,olns),l,mapOf A,ref,pts,wt,()),(A.set k (fe (onum,obuy,osel,oday,oext,olns) l i (day,byy,no,6,line,art,q,unit,p,un,to) x).2).map ak.tup,()):=by
 have hdf:=hl _ (Zd hd)
 obtain⟨_,_,_,_,_,_,hu⟩:=cW hdf
 obtain⟨uq,_⟩:=gz hu
 have h61:((6:Int)==1)=false:=rfl
 have h62:((6:Int)==2)=false:=rfl
 have h63:((6:Int)==3)=false:=rfl
 have h64:((6:Int)==4)=false:=rfl
 have h65:((6:Int)==5)=false:=rfl
 have h66:((6:Int)==6)=true:=rfl
 have h67:((6:Int)==7)=false:=rfl
 have h68:((6:Int)==8)=false:=rfl
 have h69:((6:Int)==9)=false:=rfl
 unfold aT
 dsimp only
 rw[fW hd,ZZ]
 dsimp only
 rw[iK,hf]
 simp only[h61,h62,h63,h64,h65,h66,h67,h68,h69,aac,aab,aK,Z3,ZZ,tU hx hs hw hl,gp]
 have ha:fe (onum,obuy,osel,oday,oext,olns) l i (day,byy,no,6,line,art,q,unit,p,un,to) x=(if (cH l (day,byy,no,6,line,art,q,unit,p,un,to) x).1=0 then (0,(cH l (day,byy,no,6,line,art,q,unit,p,un,to) x).2.clr) else cH l (day,byy,no,6,line,art,q,unit,p,un,to) x):=rfl
 rw[ha]
 by_cases e:(cH l (day,byy,no,6,line,art,q,unit,p,un,to) x).1=0
 ·rw[aan e,e]
  simp only[show ((0:Int)==0)=true from rfl,aac,ZZ,qD (Jf hx _)]
  simp only[true_or,or_true,aai,aac]
  refine congrArg some (Prod.ext rfl (Prod.ext rfl (Prod.ext ?_ rfl)))
  exact On (cH l (day,byy,no,6,line,art,q,unit,p,un,to) x).2 ((cH l (day,byy,no,6,line,art,q,unit,p,un,to) x).2.clr) _ rfl
 ·rw[aam e,mJ e,aab]
  rfl
theorem VW {onum obuy osel:Bys} {oday oext:Int} {olns:List aQ} {day byy no line:Int} {art:Bys} {q:ah} {unit:Bys} {p:ah} {un to:Int} {i:Nat} (he0:0≤oext) (he1:oext≤1000) (hl:∀ d,d∈l→dw d=0)
 (hd:l[i]? =some (day,byy,no,7,line,art,q,unit,p,un,to)) {k:Nat} {x:ak} (hf:bV line 0 A=some k) (hx:A[k]? =some x) (hs:LOk x) (hw:WOk l x):
 aT ((onum,obuy,osel,oday,oext,olns),l,mapOf A,ref,pts,wt,()) (i:Int) (A.map ak.tup)=some ((fe (onum,obuy,osel,oday,oext,olns) l i (day,byy,no,7,line,art,q,unit,p,un,to) x).1,((onum,obuy,osel,oday,oext,olns),l,mapOf A,ref,pts,wt,()),(A.set k (fe (onum,obuy,osel,oday,oext,olns) l i (day,byy,no,7,line,art,q,unit,p,un,to) x).2).map ak.tup,()):=by
 have hdf:=hl _ (Zd hd)
 obtain⟨_,_,_,_,_,_,hu⟩:=cW hdf
 obtain⟨uq,_⟩:=gz hu
 have h71:((7:Int)==1)=false:=rfl
 have h72:((7:Int)==2)=false:=rfl
 have h73:((7:Int)==3)=false:=rfl
 have h74:((7:Int)==4)=false:=rfl
 have h75:((7:Int)==5)=false:=rfl
 have h76:((7:Int)==6)=false:=rfl
 have h77:((7:Int)==7)=true:=rfl
 have h78:((7:Int)==8)=false:=rfl
 have h79:((7:Int)==9)=false:=rfl
 unfold aT
 dsimp only
 rw[fW hd,ZZ]
 dsimp only
 rw[iK,hf]
 have hq:qOk q false=true:=uq rfl
 simp only[h71,h72,h73,h74,h75,h76,h77,h78,h79,aac,aab,aK,Z3,ZZ,Bi hx hs (d:=(day,byy,no,7,line,art,q,unit,p,un,to)) hq,gp]
 have ha:fe (onum,obuy,osel,oday,oext,olns) l i (day,byy,no,7,line,art,q,unit,p,un,to) x=(if oZ oday (day,byy,no,7,line,art,q,unit,p,un,to) x=0 then (0,{ x with ono:=no,oq:=bE q,ount:=un }) else (oZ oday (day,byy,no,7,line,art,q,unit,p,un,to) x,x)):=rfl
 rw[ha]
 by_cases e:oZ oday (day,byy,no,7,line,art,q,unit,p,un,to) x=0
 ·rw[aan e,show oZ (gj (onum,obuy,osel,oday,oext,olns)) (day,byy,no,7,line,art,q,unit,p,un,to) x=0 from e]
  simp only[show ((0:Int)==0)=true from rfl,aac,ZZ,qD hx]
  simp only[true_or,or_true,aai,aac]
  rw[show iw (q.1,q.2)=some (bE q,()) from mO hq,ZZ]
  simp only[BT hx,ZZ,Zo]
  rw[nu { x with ono:=no,oq:=bE q,ount:=un } _ rfl]
 ·rw[aam e,show (oZ (gj (onum,obuy,osel,oday,oext,olns)) (day,byy,no,7,line,art,q,unit,p,un,to) x==0)=false from mJ e,aab,jq hx]
  rfl
theorem VX {onum obuy osel:Bys} {oday oext:Int} {olns:List aQ} {day byy no line:Int} {art:Bys} {q:ah} {unit:Bys} {p:ah} {un to:Int} {i:Nat} (he0:0≤oext) (he1:oext≤1000) (hl:∀ d,d∈l→dw d=0)
 (hd:l[i]? =some (day,byy,no,8,line,art,q,unit,p,un,to)) {k:Nat} {x:ak} (hf:bV line 0 A=some k) (hx:A[k]? =some x) (hs:LOk x) (hw:WOk l x):
 aT ((onum,obuy,osel,oday,oext,olns),l,mapOf A,ref,pts,wt,()) (i:Int) (A.map ak.tup)=some ((fe (onum,obuy,osel,oday,oext,olns) l i (day,byy,no,8,line,art,q,unit,p,un,to) x).1,((onum,obuy,osel,oday,oext,olns),l,mapOf A,ref,pts,wt,()),(A.set k (fe (onum,obuy,osel,oday,oext,olns) l i (day,byy,no,8,line,art,q,unit,p,un,to) x).2).map ak.tup,()):=by
 have hdf:=hl _ (Zd hd)
 obtain⟨_,_,_,_,_,_,hu⟩:=cW hdf
 obtain⟨uq,_⟩:=gz hu
 have h81:((8:Int)==1)=false:=rfl
 have h82:((8:Int)==2)=false:=rfl
 have h83:((8:Int)==3)=false:=rfl
 have h84:((8:Int)==4)=false:=rfl
 have h85:((8:Int)==5)=false:=rfl
 have h86:((8:Int)==6)=false:=rfl
 have h87:((8:Int)==7)=false:=rfl
 have h88:((8:Int)==8)=true:=rfl
 have h89:((8:Int)==9)=false:=rfl
 unfold aT
 dsimp only
 rw[fW hd,ZZ]
 dsimp only
 rw[iK,hf]
 simp only[h81,h82,h83,h84,h85,h86,h87,h88,h89,aac,aab,aK,Z3,ZZ,DX hx hs]
 rfl
theorem VY {onum obuy osel:Bys} {oday oext:Int} {olns:List aQ} {day byy no line:Int} {art:Bys} {q:ah} {unit:Bys} {p:ah} {un to:Int} {i:Nat} (he0:0≤oext) (he1:oext≤1000) (hl:∀ d,d∈l→dw d=0)
 (hd:l[i]? =some (day,byy,no,9,line,art,q,unit,p,un,to)) {k:Nat} {x:ak} (hf:bV line 0 A=some k) (hx:A[k]? =some x) (hs:LOk x) (hw:WOk l x):
 aT ((onum,obuy,osel,oday,oext,olns),l,mapOf A,ref,pts,wt,()) (i:Int) (A.map ak.tup)=some ((fe (onum,obuy,osel,oday,oext,olns) l i (day,byy,no,9,line,art,q,unit,p,un,to) x).1,((onum,obuy,osel,oday,oext,olns),l,mapOf A,ref,pts,wt,()),(A.set k (fe (onum,obuy,osel,oday,oext,olns) l i (day,byy,no,9,line,art,q,unit,p,un,to) x).2).map ak.tup,()):=by
 have hdf:=hl _ (Zd hd)
 obtain⟨_,_,_,_,_,_,hu⟩:=cW hdf
 obtain⟨uq,_⟩:=gz hu
 have h91:((9:Int)==1)=false:=rfl
 have h92:((9:Int)==2)=false:=rfl
 have h93:((9:Int)==3)=false:=rfl
 have h94:((9:Int)==4)=false:=rfl
 have h95:((9:Int)==5)=false:=rfl
 have h96:((9:Int)==6)=false:=rfl
 have h97:((9:Int)==7)=false:=rfl
 have h98:((9:Int)==8)=false:=rfl
 have h99:((9:Int)==9)=true:=rfl
 unfold aT
 dsimp only
 rw[fW hd,ZZ]
 dsimp only
 rw[iK,hf]
 have hq:qOk q false=true:=uq rfl
 simp only[h91,h92,h93,h94,h95,h96,h97,h98,h99,aac,aab,aK,Z3,ZZ,o9 hx hs (o:=(onum,obuy,osel,oday,oext,olns)) he0 he1 (d:=(day,byy,no,9,line,art,q,unit,p,un,to)) hq,gp]
 have ha:fe (onum,obuy,osel,oday,oext,olns) l i (day,byy,no,9,line,art,q,unit,p,un,to) x=(if (c9 oext (day,byy,no,9,line,art,q,unit,p,un,to) x).1=0 then (0,(c9 oext (day,byy,no,9,line,art,q,unit,p,un,to) x).2.clr) else c9 oext (day,byy,no,9,line,art,q,unit,p,un,to) x):=rfl
 rw[ha]
 by_cases e:(c9 oext (day,byy,no,9,line,art,q,unit,p,un,to) x).1=0
 ·rw[aan e,show (c9 (er (onum,obuy,osel,oday,oext,olns)) (day,byy,no,9,line,art,q,unit,p,un,to) x).1=0 from e]
  simp only[show ((0:Int)==0)=true from rfl,aac,ZZ,qD (Jf hx _)]
  simp only[true_or,or_true,aai,aac]
  refine congrArg some (Prod.ext rfl (Prod.ext rfl (Prod.ext ?_ rfl)))
  exact On (c9 oext (day,byy,no,9,line,art,q,unit,p,un,to) x).2 ((c9 oext (day,byy,no,9,line,art,q,unit,p,un,to) x).2.clr) _ rfl
 ·rw[aam e,show ((c9 (er (onum,obuy,osel,oday,oext,olns)) (day,byy,no,9,line,art,q,unit,p,un,to) x).1==0)=false from mJ e,aab]
  rfl
theorem U7 {onum obuy osel:Bys} {oday oext:Int} {olns:List aQ} {day byy no line:Int} {art:Bys} {q:ah} {unit:Bys} {p:ah} {un to:Int} {i:Nat} (he0:0≤oext) (he1:oext≤1000) (hl:∀ d,d∈l→dw d=0)
 (hd:l[i]? =some (day,byy,no,10,line,art,q,unit,p,un,to)) {k:Nat} {x:ak} (hf:bV line 0 A=some k) (hx:A[k]? =some x) (hs:LOk x) (hw:WOk l x):
 aT ((onum,obuy,osel,oday,oext,olns),l,mapOf A,ref,pts,wt,()) (i:Int) (A.map ak.tup)=some ((fe (onum,obuy,osel,oday,oext,olns) l i (day,byy,no,10,line,art,q,unit,p,un,to) x).1,((onum,obuy,osel,oday,oext,olns),l,mapOf A,ref,pts,wt,()),(A.set k (fe (onum,obuy,osel,oday,oext,olns) l i (day,byy,no,10,line,art,q,unit,p,un,to) x).2).map ak.tup,()):=by
 have hdf:=hl _ (Zd hd)
 obtain⟨_,_,_,_,_,_,hu⟩:=cW hdf
 obtain⟨uq,_⟩:=gz hu
 have h101:((10:Int)==1)=false:=rfl
 have h102:((10:Int)==2)=false:=rfl
 have h103:((10:Int)==3)=false:=rfl
 have h104:((10:Int)==4)=false:=rfl
 have h105:((10:Int)==5)=false:=rfl
 have h106:((10:Int)==6)=false:=rfl
 have h107:((10:Int)==7)=false:=rfl
 have h108:((10:Int)==8)=false:=rfl
 have h109:((10:Int)==9)=false:=rfl
 unfold aT
 dsimp only
 rw[fW hd,ZZ]
 dsimp only
 rw[iK,hf]
 have hq:qOk q false=true:=uq rfl
 simp only[h101,h102,h103,h104,h105,h106,h107,h108,h109,aac,aab,aK,Z3,ZZ,o9 hx hs (o:=(onum,obuy,osel,oday,oext,olns)) he0 he1 (d:=(day,byy,no,10,line,art,q,unit,p,un,to)) hq,gp]
 have ha:fe (onum,obuy,osel,oday,oext,olns) l i (day,byy,no,10,line,art,q,unit,p,un,to) x=c9 oext (day,byy,no,10,line,art,q,unit,p,un,to) x:=rfl
 rw[ha]
 by_cases e:(c9 oext (day,byy,no,10,line,art,q,unit,p,un,to) x).1=0
 ·rw[show ((c9 (er (onum,obuy,osel,oday,oext,olns)) (day,byy,no,10,line,art,q,unit,p,un,to) x).1==0)=true by show ((c9 oext (day,byy,no,10,line,art,q,unit,p,un,to) x).1==0)=true;rw[e];rfl]
  rfl
 ·rw[show ((c9 (er (onum,obuy,osel,oday,oext,olns)) (day,byy,no,10,line,art,q,unit,p,un,to) x).1==0)=false from mJ e]
  rfl
theorem U8 {onum obuy osel:Bys} {oday oext:Int} {olns:List aQ} {day byy no line:Int} {art:Bys} {q:ah} {unit:Bys} {p:ah} {un to:Int} {i:Nat} (he0:0≤oext) (he1:oext≤1000) (hl:∀ d,d∈l→dw d=0)
 (hd:l[i]? =some (day,byy,no,11,line,art,q,unit,p,un,to)) {k:Nat} {x:ak} (hf:bV line 0 A=some k) (hx:A[k]? =some x) (hs:LOk x) (hw:WOk l x):
 aT ((onum,obuy,osel,oday,oext,olns),l,mapOf A,ref,pts,wt,()) (i:Int) (A.map ak.tup)=some ((fe (onum,obuy,osel,oday,oext,olns) l i (day,byy,no,11,line,art,q,unit,p,un,to) x).1,((onum,obuy,osel,oday,oext,olns),l,mapOf A,ref,pts,wt,()),(A.set k (fe (onum,obuy,osel,oday,oext,olns) l i (day,byy,no,11,line,art,q,unit,p,un,to) x).2).map ak.tup,()):=by
 have hdf:=hl _ (Zd hd)
 obtain⟨_,_,_,_,_,_,hu⟩:=cW hdf
 obtain⟨uq,_⟩:=gz hu
 have h111:((11:Int)==1)=false:=rfl
 have h112:((11:Int)==2)=false:=rfl
 have h113:((11:Int)==3)=false:=rfl
 have h114:((11:Int)==4)=false:=rfl
 have h115:((11:Int)==5)=false:=rfl
 have h116:((11:Int)==6)=false:=rfl
 have h117:((11:Int)==7)=false:=rfl
 have h118:((11:Int)==8)=false:=rfl
 have h119:((11:Int)==9)=false:=rfl
 unfold aT
 dsimp only
 rw[fW hd,ZZ]
 dsimp only
 rw[iK,hf]
 have hq:qOk q false=true:=uq rfl
 simp only[h111,h112,h113,h114,h115,h116,h117,h118,h119,aac,aab,aK,Z3,ZZ,o9 hx hs (o:=(onum,obuy,osel,oday,oext,olns)) he0 he1 (d:=(day,byy,no,11,line,art,q,unit,p,un,to)) hq,gp]
 have ha:fe (onum,obuy,osel,oday,oext,olns) l i (day,byy,no,11,line,art,q,unit,p,un,to) x=c9 oext (day,byy,no,11,line,art,q,unit,p,un,to) x:=rfl
 rw[ha]
 by_cases e:(c9 oext (day,byy,no,11,line,art,q,unit,p,un,to) x).1=0
 ·rw[show ((c9 (er (onum,obuy,osel,oday,oext,olns)) (day,byy,no,11,line,art,q,unit,p,un,to) x).1==0)=true by show ((c9 oext (day,byy,no,11,line,art,q,unit,p,un,to) x).1==0)=true;rw[e];rfl]
  rfl
 ·rw[show ((c9 (er (onum,obuy,osel,oday,oext,olns)) (day,byy,no,11,line,art,q,unit,p,un,to) x).1==0)=false from mJ e]
  rfl
theorem DW {i:Nat} {d:aa} (hA:Sound l A) (hl:∀ d,d∈l→dw d=0) (hd:l[i]? =some d) (he0:0≤er o) (he1:er o≤1000):
 aT (o,l,mapOf A,ref,pts,wt,()) (i:Int) (A.map ak.tup)=some ((eN o l i d A).1,(o,l,mapOf (eN o l i d A).2,ref,pts,wt,()),(eN o l i d A).2.map ak.tup,()):=by
 obtain⟨_,_,_,hk,_,_,_⟩:=cW (hl d (Zd hd))
 by_cases k1:bJ d=1
 ·unfold aT
  dsimp only
  rw[fW hd,ZZ,show (d.2.2.2.1==1)=true by simpa using k1,aac]
  rw[ER hd k1,ZZ]
 ·cases hf:mq (oo d) A with
  | none=>
   rw[SX k1 hf]
   unfold aT
   dsimp only
   rw[fW hd,ZZ,show (d.2.2.2.1==1)=false by simpa using k1,aab]
   rw[iK,show bV d.2.2.2.2.1 0 A=none from hf]
   rfl
  | some k=>
   obtain⟨x,hx,hxn⟩:=Mp hf
   rw[T3 k1 hf hx]
   obtain⟨hs,hw⟩:=hA.line x (Zd hx)
   have hm:mapOf (A.set k (fe o l i d x).2)=mapOf A:=Uu A 0 (fun z hz=>by
    rw[hx] at hz;cases hz
    exact (I7 (o:=o) hs hw hl hd).2.2.1)
   rw[hm]
   obtain⟨onum,obuy,osel,oday,oext,olns⟩:=o
   obtain⟨day,byy,no,kk,line,art,q,unit,p,un,to⟩:=d
   have hk':kk=2∨kk=3∨kk=4∨kk=5∨kk=6∨kk=7∨kk=8∨kk=9∨kk=10∨kk=11:=by
    have h1:1≤kk∧kk≤11:=hk
    have h2:kk≠1:=k1
    omega
   rcases hk' with rfl | rfl | rfl | rfl | rfl | rfl | rfl | rfl | rfl | rfl
   ·exact VR he0 he1 hl hd hf hx hs hw
   ·exact VS he0 he1 hl hd hf hx hs hw
   ·exact VT he0 he1 hl hd hf hx hs hw
   ·exact VU he0 he1 hl hd hf hx hs hw
   ·exact VV he0 he1 hl hd hf hx hs hw
   ·exact VW he0 he1 hl hd hf hx hs hw
   ·exact VX he0 he1 hl hd hf hx hs hw
   ·exact VY he0 he1 hl hd hf hx hs hw
   ·exact U7 he0 he1 hl hd hf hx hs hw
   ·exact U8 he0 he1 hl hd hf hx hs hw
end Go.Md
