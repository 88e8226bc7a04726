/-
  Plain facts: deeds and orders checked; what a deed does with a line. No condition.
-/
import Derived.Test.YtcndcnfjdanbeaaGreatDoorXo
import Derived.Test.YtcndcnfjdanbeaaGreatDoorXr
set_option linter.all false
namespace Go.Md
open Go.Dn
theorem gS (k:Int):qg k=some (decide (k=5∨k=6∨k=7∨k=9),()):=by
 unfold qg
 by_cases h5:k=5
 ·subst h5;rfl
 by_cases h6:k=6
 ·subst h6;rfl
 by_cases h7:k=7
 ·subst h7;rfl
 by_cases h9:k=9
 ·subst h9;rfl
 have e5:(k==5)=false:=by simp[h5]
 have e6:(k==6)=false:=by simp[h6]
 have e7:(k==7)=false:=by simp[h7]
 have e9:(k==9)=false:=by simp[h9]
 simp only[e5,e6,e7,e9,ajB]
 simp[h5,h6,h7,h9]
def usA (k:Int):Bool:=decide (k=1)
def usQ (k:Int):Bool:=decide (k≠3∧k≠4∧k≠5∧k≠6∧k≠8)
def usP (k:Int):Bool:=decide (k=1∨k=4)
def usU (k:Int):Bool:=decide (k=1∨k=3∨k=7)
def usT (k:Int):Bool:=decide (k=5∨k=6∨k=8)
theorem It (k:Int):rK k=some ((usA k,usQ k,usA k,usP k,usU k,usT k),()):=by
 unfold rK
 by_cases h1:k=1
 ·subst h1;rfl
 by_cases h3:k=3
 ·subst h3;rfl
 by_cases h4:k=4
 ·subst h4;rfl
 by_cases h5:k=5
 ·subst h5;rfl
 by_cases h6:k=6
 ·subst h6;rfl
 by_cases h7:k=7
 ·subst h7;rfl
 by_cases h8:k=8
 ·subst h8;rfl
 have e1:(k==1)=false:=by simp[h1]
 have e3:(k==3)=false:=by simp[h3]
 have e4:(k==4)=false:=by simp[h4]
 have e5:(k==5)=false:=by simp[h5]
 have e6:(k==6)=false:=by simp[h6]
 have e8:(k==8)=false:=by simp[h8]
 have e7:(k==7)=false:=by simp[h7]
 simp only[e1,e3,e4,e5,e6,e7,e8,ajB]
 simp[h1,h3,h4,h5,h6,h7,h8,usA,usQ,usP,usU,usT]
def yI (n:Int):Bool:=decide (1≤n∧n≤3652059)
def Cb (n:Int):Bool:=decide (1≤n∧n≤2000)
def PD (ua uq up uu ut k2:Bool) (art:Bys) (q:ah) (unit:Bys) (p:ah) (un to:Int):Int:=
 bif uq&& !qOk q k2 then 1
 else bif up&& !inR p 0 1000000000 4 then 1
 else bif uu&& !yI un then 1
 else bif ua&&(!c9 art|| !c9 unit) then 5
 else bif ut&& !Cb to then 1
 else bif (!ua&& !(art==[]))||((!uq&& !(q.1==0&&q.2==0))||((!ua&& !(unit==[]))||((!up&& !(p.1==0&&p.2==0))||((!uu&&un != 0)||(!ut&&to != 0))))) then 3
 else 0
def C7 (d:aa):Int:=
 PD (usA d.2.2.2.1) (usQ d.2.2.2.1) (usP d.2.2.2.1) (usU d.2.2.2.1) (usT d.2.2.2.1) (d.2.2.2.1==2) d.2.2.2.2.2.1 d.2.2.2.2.2.2.1 d.2.2.2.2.2.2.2.1 d.2.2.2.2.2.2.2.2.1 d.2.2.2.2.2.2.2.2.2.1 d.2.2.2.2.2.2.2.2.2.2
theorem Xl (n:Int):nG n=some (yI n,()):=rz n
theorem aeB (n:Int):fo n 1 2000=some (!Cb n,()):=by
 rw[kQ]
 congr 2
 unfold Cb
 by_cases h1:1≤n<;>by_cases h2:n≤2000<;>simp[h1,h2]<;>omega
theorem Pk (d:aa):uT d=some (C7 d,()):=by
 obtain⟨day,byy,no,k,line,art,⟨q1,q2⟩,unit,⟨p1,p2⟩,un,to⟩:=d
 unfold uT C7
 dsimp only
 rw[It,ajq]
 dsimp only
 rw[yd]
 simp only[BM,Xl,Eo,aeB,ajq]
 generalize usA k=ua
 generalize usQ k=uq
 generalize usP k=up
 generalize usU k=uu
 generalize usT k=ut
 generalize (k==2)=k2
 unfold PD
 generalize qOk (q1,q2) k2=b1
 have step1:∀ (A:Option ((Int×Unit) ⊕ (Int×Int×Int×Int×Int×Bys×Int×Int×Bys×Int×Int×Int×Int×Bool×Bool×Bool×Bool×Bool×Bool×Unit))) (v:Int×Int×Int×Int×Int×Bys×Int×Int×Bys×Int×Int×Int×Int×Bool×Bool×Bool×Bool×Bool×Bool×Unit) (K:(Int×Int×Int×Int×Int×Bys×Int×Int×Bys×Int×Int×Int×Int×Bool×Bool×Bool×Bool×Bool×Bool×Unit)→Option (Int×Unit)),
  A=some (.inr v)→aI A K=K v:=fun A v K h=>by rw[h];rfl
 cases uq
 ·refine Eq.trans (step1 _ _ _ (by exact rfl)) ?_
  cases up
  ·refine Eq.trans (step1 _ _ _ (by exact rfl)) ?_
   dsimp only
   generalize yI un=b3
   generalize c9 art=b4
   generalize c9 unit=b5
   generalize Cb to=b6
   generalize (art==[])=c1
   generalize (q1==0)=c2
   generalize (q2==0)=c3
   generalize (unit==[])=c4
   generalize (p1==0)=c5
   generalize (p2==0)=c6
   generalize (un != 0)=c7
   generalize (to != 0)=c8
   cases uu
   ·cases ua
    ·cases ut
     ·cases c1<;>first | rfl | (cases c4<;>first | rfl | (cases c7<;>first | rfl | (cases c8<;>first | rfl | (cases c2<;>first | rfl | (cases c3<;>first | rfl | (cases c5<;>first | rfl | (cases c6<;>rfl)))))))
     ·cases b6
      ·rfl
      ·cases c1<;>first | rfl | (cases c4<;>first | rfl | (cases c7<;>first | rfl | (cases c8<;>first | rfl | (cases c2<;>first | rfl | (cases c3<;>first | rfl | (cases c5<;>first | rfl | (cases c6<;>rfl)))))))
    ·cases b4
     ·rfl
     ·cases b5
      ·rfl
      ·cases ut
       ·cases c1<;>first | rfl | (cases c4<;>first | rfl | (cases c7<;>first | rfl | (cases c8<;>first | rfl | (cases c2<;>first | rfl | (cases c3<;>first | rfl | (cases c5<;>first | rfl | (cases c6<;>rfl)))))))
       ·cases b6
        ·rfl
        ·cases c1<;>first | rfl | (cases c4<;>first | rfl | (cases c7<;>first | rfl | (cases c8<;>first | rfl | (cases c2<;>first | rfl | (cases c3<;>first | rfl | (cases c5<;>first | rfl | (cases c6<;>rfl)))))))
   ·cases b3
    ·rfl
    ·cases ua
     ·cases ut
      ·cases c1<;>first | rfl | (cases c4<;>first | rfl | (cases c7<;>first | rfl | (cases c8<;>first | rfl | (cases c2<;>first | rfl | (cases c3<;>first | rfl | (cases c5<;>first | rfl | (cases c6<;>rfl)))))))
      ·cases b6
       ·rfl
       ·cases c1<;>first | rfl | (cases c4<;>first | rfl | (cases c7<;>first | rfl | (cases c8<;>first | rfl | (cases c2<;>first | rfl | (cases c3<;>first | rfl | (cases c5<;>first | rfl | (cases c6<;>rfl)))))))
     ·cases b4
      ·rfl
      ·cases b5
       ·rfl
       ·cases ut
        ·cases c1<;>first | rfl | (cases c4<;>first | rfl | (cases c7<;>first | rfl | (cases c8<;>first | rfl | (cases c2<;>first | rfl | (cases c3<;>first | rfl | (cases c5<;>first | rfl | (cases c6<;>rfl)))))))
        ·cases b6
         ·rfl
         ·cases c1<;>first | rfl | (cases c4<;>first | rfl | (cases c7<;>first | rfl | (cases c8<;>first | rfl | (cases c2<;>first | rfl | (cases c3<;>first | rfl | (cases c5<;>first | rfl | (cases c6<;>rfl)))))))
  ·dsimp only
   generalize inR (p1,p2) 0 1000000000 4=b2
   cases b2
   ·rfl
   ·refine Eq.trans (step1 _ _ _ (by exact rfl)) ?_
    dsimp only
    generalize yI un=b3
    generalize c9 art=b4
    generalize c9 unit=b5
    generalize Cb to=b6
    generalize (art==[])=c1
    generalize (q1==0)=c2
    generalize (q2==0)=c3
    generalize (unit==[])=c4
    generalize (p1==0)=c5
    generalize (p2==0)=c6
    generalize (un != 0)=c7
    generalize (to != 0)=c8
    cases uu
    ·cases ua
     ·cases ut
      ·cases c1<;>first | rfl | (cases c4<;>first | rfl | (cases c7<;>first | rfl | (cases c8<;>first | rfl | (cases c2<;>first | rfl | (cases c3<;>first | rfl | (cases c5<;>first | rfl | (cases c6<;>rfl)))))))
      ·cases b6
       ·rfl
       ·cases c1<;>first | rfl | (cases c4<;>first | rfl | (cases c7<;>first | rfl | (cases c8<;>first | rfl | (cases c2<;>first | rfl | (cases c3<;>first | rfl | (cases c5<;>first | rfl | (cases c6<;>rfl)))))))
     ·cases b4
      ·rfl
      ·cases b5
       ·rfl
       ·cases ut
        ·cases c1<;>first | rfl | (cases c4<;>first | rfl | (cases c7<;>first | rfl | (cases c8<;>first | rfl | (cases c2<;>first | rfl | (cases c3<;>first | rfl | (cases c5<;>first | rfl | (cases c6<;>rfl)))))))
        ·cases b6
         ·rfl
         ·cases c1<;>first | rfl | (cases c4<;>first | rfl | (cases c7<;>first | rfl | (cases c8<;>first | rfl | (cases c2<;>first | rfl | (cases c3<;>first | rfl | (cases c5<;>first | rfl | (cases c6<;>rfl)))))))
    ·cases b3
     ·rfl
     ·cases ua
      ·cases ut
       ·cases c1<;>first | rfl | (cases c4<;>first | rfl | (cases c7<;>first | rfl | (cases c8<;>first | rfl | (cases c2<;>first | rfl | (cases c3<;>first | rfl | (cases c5<;>first | rfl | (cases c6<;>rfl)))))))
       ·cases b6
        ·rfl
        ·cases c1<;>first | rfl | (cases c4<;>first | rfl | (cases c7<;>first | rfl | (cases c8<;>first | rfl | (cases c2<;>first | rfl | (cases c3<;>first | rfl | (cases c5<;>first | rfl | (cases c6<;>rfl)))))))
      ·cases b4
       ·rfl
       ·cases b5
        ·rfl
        ·cases ut
         ·cases c1<;>first | rfl | (cases c4<;>first | rfl | (cases c7<;>first | rfl | (cases c8<;>first | rfl | (cases c2<;>first | rfl | (cases c3<;>first | rfl | (cases c5<;>first | rfl | (cases c6<;>rfl)))))))
         ·cases b6
          ·rfl
          ·cases c1<;>first | rfl | (cases c4<;>first | rfl | (cases c7<;>first | rfl | (cases c8<;>first | rfl | (cases c2<;>first | rfl | (cases c3<;>first | rfl | (cases c5<;>first | rfl | (cases c6<;>rfl)))))))
 ·cases b1
  ·rfl
  ·refine Eq.trans (step1 _ _ _ (by exact rfl)) ?_
   cases up
   ·refine Eq.trans (step1 _ _ _ (by exact rfl)) ?_
    dsimp only
    generalize yI un=b3
    generalize c9 art=b4
    generalize c9 unit=b5
    generalize Cb to=b6
    generalize (art==[])=c1
    generalize (q1==0)=c2
    generalize (q2==0)=c3
    generalize (unit==[])=c4
    generalize (p1==0)=c5
    generalize (p2==0)=c6
    generalize (un != 0)=c7
    generalize (to != 0)=c8
    cases uu
    ·cases ua
     ·cases ut
      ·cases c1<;>first | rfl | (cases c4<;>first | rfl | (cases c7<;>first | rfl | (cases c8<;>first | rfl | (cases c2<;>first | rfl | (cases c3<;>first | rfl | (cases c5<;>first | rfl | (cases c6<;>rfl)))))))
      ·cases b6
       ·rfl
       ·cases c1<;>first | rfl | (cases c4<;>first | rfl | (cases c7<;>first | rfl | (cases c8<;>first | rfl | (cases c2<;>first | rfl | (cases c3<;>first | rfl | (cases c5<;>first | rfl | (cases c6<;>rfl)))))))
     ·cases b4
      ·rfl
      ·cases b5
       ·rfl
       ·cases ut
        ·cases c1<;>first | rfl | (cases c4<;>first | rfl | (cases c7<;>first | rfl | (cases c8<;>first | rfl | (cases c2<;>first | rfl | (cases c3<;>first | rfl | (cases c5<;>first | rfl | (cases c6<;>rfl)))))))
        ·cases b6
         ·rfl
         ·cases c1<;>first | rfl | (cases c4<;>first | rfl | (cases c7<;>first | rfl | (cases c8<;>first | rfl | (cases c2<;>first | rfl | (cases c3<;>first | rfl | (cases c5<;>first | rfl | (cases c6<;>rfl)))))))
    ·cases b3
     ·rfl
     ·cases ua
      ·cases ut
       ·cases c1<;>first | rfl | (cases c4<;>first | rfl | (cases c7<;>first | rfl | (cases c8<;>first | rfl | (cases c2<;>first | rfl | (cases c3<;>first | rfl | (cases c5<;>first | rfl | (cases c6<;>rfl)))))))
       ·cases b6
        ·rfl
        ·cases c1<;>first | rfl | (cases c4<;>first | rfl | (cases c7<;>first | rfl | (cases c8<;>first | rfl | (cases c2<;>first | rfl | (cases c3<;>first | rfl | (cases c5<;>first | rfl | (cases c6<;>rfl)))))))
      ·cases b4
       ·rfl
       ·cases b5
        ·rfl
        ·cases ut
         ·cases c1<;>first | rfl | (cases c4<;>first | rfl | (cases c7<;>first | rfl | (cases c8<;>first | rfl | (cases c2<;>first | rfl | (cases c3<;>first | rfl | (cases c5<;>first | rfl | (cases c6<;>rfl)))))))
         ·cases b6
          ·rfl
          ·cases c1<;>first | rfl | (cases c4<;>first | rfl | (cases c7<;>first | rfl | (cases c8<;>first | rfl | (cases c2<;>first | rfl | (cases c3<;>first | rfl | (cases c5<;>first | rfl | (cases c6<;>rfl)))))))
   ·dsimp only
    generalize inR (p1,p2) 0 1000000000 4=b2
    cases b2
    ·rfl
    ·refine Eq.trans (step1 _ _ _ (by exact rfl)) ?_
     dsimp only
     generalize yI un=b3
     generalize c9 art=b4
     generalize c9 unit=b5
     generalize Cb to=b6
     generalize (art==[])=c1
     generalize (q1==0)=c2
     generalize (q2==0)=c3
     generalize (unit==[])=c4
     generalize (p1==0)=c5
     generalize (p2==0)=c6
     generalize (un != 0)=c7
     generalize (to != 0)=c8
     cases uu
     ·cases ua
      ·cases ut
       ·cases c1<;>first | rfl | (cases c4<;>first | rfl | (cases c7<;>first | rfl | (cases c8<;>first | rfl | (cases c2<;>first | rfl | (cases c3<;>first | rfl | (cases c5<;>first | rfl | (cases c6<;>rfl)))))))
       ·cases b6
        ·rfl
        ·cases c1<;>first | rfl | (cases c4<;>first | rfl | (cases c7<;>first | rfl | (cases c8<;>first | rfl | (cases c2<;>first | rfl | (cases c3<;>first | rfl | (cases c5<;>first | rfl | (cases c6<;>rfl)))))))
      ·cases b4
       ·rfl
       ·cases b5
        ·rfl
        ·cases ut
         ·cases c1<;>first | rfl | (cases c4<;>first | rfl | (cases c7<;>first | rfl | (cases c8<;>first | rfl | (cases c2<;>first | rfl | (cases c3<;>first | rfl | (cases c5<;>first | rfl | (cases c6<;>rfl)))))))
         ·cases b6
          ·rfl
          ·cases c1<;>first | rfl | (cases c4<;>first | rfl | (cases c7<;>first | rfl | (cases c8<;>first | rfl | (cases c2<;>first | rfl | (cases c3<;>first | rfl | (cases c5<;>first | rfl | (cases c6<;>rfl)))))))
     ·cases b3
      ·rfl
      ·cases ua
       ·cases ut
        ·cases c1<;>first | rfl | (cases c4<;>first | rfl | (cases c7<;>first | rfl | (cases c8<;>first | rfl | (cases c2<;>first | rfl | (cases c3<;>first | rfl | (cases c5<;>first | rfl | (cases c6<;>rfl)))))))
        ·cases b6
         ·rfl
         ·cases c1<;>first | rfl | (cases c4<;>first | rfl | (cases c7<;>first | rfl | (cases c8<;>first | rfl | (cases c2<;>first | rfl | (cases c3<;>first | rfl | (cases c5<;>first | rfl | (cases c6<;>rfl)))))))
       ·cases b4
        ·rfl
        ·cases b5
         ·rfl
         ·cases ut
          ·cases c1<;>first | rfl | (cases c4<;>first | rfl | (cases c7<;>first | rfl | (cases c8<;>first | rfl | (cases c2<;>first | rfl | (cases c3<;>first | rfl | (cases c5<;>first | rfl | (cases c6<;>rfl)))))))
          ·cases b6
           ·rfl
           ·cases c1<;>first | rfl | (cases c4<;>first | rfl | (cases c7<;>first | rfl | (cases c8<;>first | rfl | (cases c2<;>first | rfl | (cases c3<;>first | rfl | (cases c5<;>first | rfl | (cases c6<;>rfl)))))))
def bf (d:aa):Int:=
 if ¬(1≤d.1∧d.1≤3652059) then 1
 else if ¬(1≤d.2.1∧d.2.1≤2) then 4
 else if ¬(1≤d.2.2.1∧d.2.2.1≤2000) then 1
 else if ¬(1≤d.2.2.2.1∧d.2.2.2.1≤11) then 4
 else if ¬((d.2.2.2.1=5∨d.2.2.2.1=6∨d.2.2.2.1=7∨d.2.2.2.1=9)↔d.2.1=2) then 4
 else if ¬(1≤d.2.2.2.2.1∧d.2.2.2.2.1≤99999) then 1
 else C7 d
theorem VE (n a b:Int):decide (n<a∨b<n)= !decide (a≤n∧n≤b):=by
 by_cases h1:a≤n<;>by_cases h2:n≤b<;>simp[h1,h2]<;>omega
theorem Pg (d:aa):uP d=some (bf d,()):=by
 unfold uP bf
 simp only[rz,kQ,VE,gS,Pk,ajq]
 by_cases h1:1≤d.1∧d.1≤3652059
 ·by_cases h2:1≤d.2.1∧d.2.1≤2
  ·by_cases h3:1≤d.2.2.1∧d.2.2.1≤2000
   ·by_cases h4:1≤d.2.2.2.1∧d.2.2.2.1≤11
    ·by_cases h5:(d.2.2.2.1=5∨d.2.2.2.1=6∨d.2.2.2.1=7∨d.2.2.2.1=9)↔d.2.1=2
     ·have e5:(decide (d.2.2.2.1=5∨d.2.2.2.1=6∨d.2.2.2.1=7∨d.2.2.2.1=9)==(d.2.1==2))=true:=by
       by_cases h6:d.2.1=2
       ·simp[h6,h5.2 h6]
       ·have:¬(d.2.2.2.1=5∨d.2.2.2.1=6∨d.2.2.2.1=7∨d.2.2.2.1=9):=fun h=>h6 (h5.1 h)
        simp[h6,this]
      by_cases h6:1≤d.2.2.2.2.1∧d.2.2.2.2.1≤99999
      ·rw[e5]
       simp only[h1,h2,h3,h4,h5,h6,iff_self,ajJ,ag7,ajB,not_true,ajM,ajx]
      ·rw[e5]
       simp only[h1,h2,h3,h4,h5,h6,iff_self,ajJ,ajI,ag7,ag6,ajB,ajC,not_true,ajS,ajM,ajP,ajx]
     ·have e5:(decide (d.2.2.2.1=5∨d.2.2.2.1=6∨d.2.2.2.1=7∨d.2.2.2.1=9)==(d.2.1==2))=false:=by
       by_cases h6:d.2.1=2
       ·have:¬(d.2.2.2.1=5∨d.2.2.2.1=6∨d.2.2.2.1=7∨d.2.2.2.1=9):=fun h=>h5 ⟨fun _=>h6,fun _=>h⟩
        simp[h6,this]
       ·have:(d.2.2.2.1=5∨d.2.2.2.1=6∨d.2.2.2.1=7∨d.2.2.2.1=9):=Classical.byContradiction fun h=>h5 ⟨fun h'=>absurd h' h,fun h'=>absurd h' h6⟩
        simp[h6,this]
      rw[e5]
      simp only[h1,h2,h3,h4,h5,ajJ,ag7,ag6,ajB,ajC,not_true,ajS,ajM,ajP,ajx]
    ·simp only[h1,h2,h3,h4,ajJ,ajI,ag7,ag6,ajB,ajC,not_true,ajS,ajM,ajP,ajx]
   ·simp only[h1,h2,h3,ajJ,ajI,ag7,ag6,ajB,ajC,not_true,ajS,ajM,ajP,ajx]
  ·simp only[h1,h2,ajJ,ajI,ag7,ag6,ajB,ajC,not_true,ajS,ajM,ajP,ajx]
 ·simp only[h1,ajI,ag6,ajC,ajS,ajP]
theorem bz {d:aa} (h:bf d=0):(1≤d.1∧d.1≤3652059)∧(1≤d.2.1∧d.2.1≤2)∧(1≤d.2.2.1∧d.2.2.1≤2000)∧(1≤d.2.2.2.1∧d.2.2.2.1≤11)∧
 ((d.2.2.2.1=5∨d.2.2.2.1=6∨d.2.2.2.1=7∨d.2.2.2.1=9)↔d.2.1=2)∧(1≤d.2.2.2.2.1∧d.2.2.2.2.1≤99999)∧C7 d=0:=by
 unfold bf at h
 split at h
 ·cases h
 ·rename_i h1
  split at h
  ·cases h
  ·rename_i h2
   split at h
   ·cases h
   ·rename_i h3
    split at h
    ·cases h
    ·rename_i h4
     split at h
     ·cases h
     ·rename_i h5
      split at h
      ·cases h
      ·rename_i h6
       exact⟨ahb.1 h1,ahb.1 h2,ahb.1 h3,ahb.1 h4,ahb.1 h5,ahb.1 h6,h⟩
end Go.Md
namespace Go.Md
open Go.Dn
def dCw (a b:aa):Int:=if w64 (a.1 - b.1)≠0 then w64 (a.1 - b.1) else if w64 (a.2.1 - b.2.1)≠0 then w64 (a.2.1 - b.2.1) else w64 (a.2.2.1 - b.2.2.1)
theorem LZ (a b:aa):lM a b=some (dCw a b,()):=by
 unfold lM dCw
 generalize w64 (a.1 - b.1)=x
 generalize w64 (a.2.1 - b.2.1)=y
 generalize w64 (a.2.2.1 - b.2.2.1)=z
 simp only[aia,aie]
 have key:iter (X:=mq) (β:=mo) 8 (3,0,[x,y,z],()) rJ=(bif x != 0 then some (Sum.inl (x,())) else bif y != 0 then some (Sum.inl (y,())) else bif z != 0 then some (Sum.inl (z,())) else some (Sum.inr ())):=by kernel_rfl
 show aI (β:=(Int×Unit)) (γ:=Unit) (iter 8 (3,0,[x,y,z],()) rJ) _=_
 rw[key]
 by_cases hx:x=0
 ·subst hx
  by_cases hy:y=0
  ·subst hy
   by_cases hz:z=0
   ·subst hz;rfl
   ·have:(z != 0)=true:=by simp[hz]
    rw[this];simp[aI]
  ·have:(y != 0)=true:=by simp[hy]
   rw[this];simp[aI,hy]
 ·have:(x != 0)=true:=by simp[hx]
  rw[this];simp[aI,hx]
def cu:List aa→Option aa→Int→Int→Int
 | [],_,_,_=>0
 | d::r,p,nb,ns=>
  if bf d≠0 then bf d
  else if (p.any fun q=>decide (0≤dCw q d))=true then 8
  else if d.2.1=1 then (if d.2.2.1≠w64 (nb+1) then 9 else cu r (some d) d.2.2.1 ns)
  else (if d.2.2.1≠w64 (ns+1) then 9 else cu r (some d) nb d.2.2.1)
def gM (l:List aa):Int:=if 2000<l.length then 2 else cu l none 0 0
def bQ {α:Type} (l:List α):Nat→Option α
 | 0=>none
 | i+1=>l[i]?
def dG (a0:List aa) (s:Int×Int×Int) (i:Nat) (y:aa) (k:(Int×Int×Int)→Option iE):Option iE:=
 if bf y≠0 then some (Sum.inl (bf y,()))
 else if ((bQ a0 i).any fun q=>decide (0≤dCw q y))=true then some (Sum.inl (8,()))
 else if y.2.1=1 then (if y.2.2.1≠w64 (s.2.1+1) then some (Sum.inl (9,())) else k (s.1,y.2.2.1,s.2.2))
 else (if y.2.2.1≠w64 (s.2.2+1) then some (Sum.inl (9,())) else k (s.1,s.2.1,y.2.2.1))
theorem cI {a b:Int} (h:a≠b):(a != b)=true:=by simp[h]
theorem cr {a b:Int} (h:a≠b):(a==b)=false:=by simp[h]
theorem bR {α:Type} {l:List α} {i:Nat} {y:α} (h:l[i]? =some y):idx l (i:Int)=some y:=by
 unfold idx
 rw[ajO (ahm i)]
 exact h
theorem SY (a0:List aa) (hl:a0.length≤2000) (s:Int×Int×Int) (i:Nat) (y:aa) (again:kJ→Option iE) (hy:a0[i]? =some y):
 kI (a0,a0,(a0.length:Int),(i:Int),s.1,s.2.1,s.2.2,()) again=dG a0 s i y fun s'=>again (a0,a0,(a0.length:Int),((i+1:Nat):Int),s'.1,s'.2.1,s'.2.2,()):=by
 have hi:i<a0.length:=(ahZ.1 hy).1
 unfold kI dG
 dsimp only
 rw[ajG (show (i:Int)<(a0.length:Int) by omega),ajC,bR hy,ajq,Pg,ajq]
 dsimp only
 have hw:w64 ((i:Int)+1)=((i+1:Nat):Int):=by rw[av (by omega) (by omega)];omega
 rw[hw]
 by_cases hf:bf y=0
 ·rw[hf,zne,ajB,ajN (by simp)]
  obtain⟨_,hby,_⟩:=bz hf
  have hprev':(bif decide ((i:Int)>0) then Option.bind (idx a0 (w64 ((i:Int) - 1))) fun y4=>Option.bind (lM y4 y) fun r5=>some (decide (r5.1≥0),()) else some (false,()))=some ((bQ a0 i).any fun q=>decide (0≤dCw q y),()):=by
   cases i with
   | zero=>rfl
   | succ j=>
    have hj:j<a0.length:=by omega
    have hq:a0[j]? =some a0[j]:=ahX hj
    have e:w64 (((j+1:Nat):Int) - 1)=(j:Int):=by rw[av (by omega) (by omega)];omega
    rw[ajG (by omega),ajC,e,bR hq,ajq,LZ,ajq]
    simp only[bQ,hq,Option.any_some]
  rw[hprev',ajq]
  dsimp only
  cases ((bQ a0 i).any fun q=>decide (0≤dCw q y)) with
  | true=>rfl
  | false=>
   rw[ajB,ajN (by simp)]
   by_cases h1:y.2.1=1
   ·rw[cr (show y.2.1≠0 by omega),ajB,show (y.2.1==1)=true by simp[h1],ajC,ajO h1]
    by_cases hn:y.2.2.1=w64 (s.2.1+1)
    ·rw[show (y.2.2.1 != w64 (s.2.1+1))=false by simp[hn],ajB,ajN (by simp[hn])]
     rfl
    ·rw[cI hn,ajC,ajO hn]
   ·have h2:y.2.1=2:=by omega
    rw[cr (show y.2.1≠0 by omega),ajB,cr h1,ajB,show (y.2.1==2)=true by simp[h2],ajC,ajN h1]
    by_cases hn:y.2.2.1=w64 (s.2.2+1)
    ·rw[show (y.2.2.1 != w64 (s.2.2+1))=false by simp[hn],ajB,ajN (by simp[hn])]
     rfl
    ·rw[cI hn,ajC,ajO hn]
 ·rw[cI hf,ajC,ajO hf]
def R9 (f:Int):Option ((Int×Unit) ⊕ Unit):=if f=0 then some (Sum.inr ()) else some (Sum.inl (f,()))
theorem Om {f:Int} (h:f=0):R9 f=some (Sum.inr ()):=ajO h
theorem Ku {f:Int} (h:f≠0):R9 f=some (Sum.inl (f,())):=ajN h
theorem N8 (a0:List aa):∀ (r:List aa) (i:Nat) (s:Int×Int×Int),a0.drop i=r→
 Gq (dG a0) (fun _=>some (Sum.inr ())) r i s=R9 (cu r (bQ a0 i) s.2.1 s.2.2)
 | [],_,_,_=>by simp[Gq,cu,R9]
 | y::r,i,s,hd=>by
  have hy:a0[i]? =some y:=by
   have:=congrArg (·[0]?) hd
   simpa [ahW] using this
  have hr:a0.drop (i+1)=r:=by
   have:=congrArg List.tail hd
   simpa [aiN] using this
  have hp:bQ a0 (i+1)=some y:=hy
  show dG a0 s i y (fun s'=>Gq (dG a0) (fun _=>some (Sum.inr ())) r (i+1) s')=_
  rw[show (fun s'=>Gq (dG a0) (fun _=>some (Sum.inr ())) r (i+1) s')=fun s'=>R9 (cu r (bQ a0 (i+1)) s'.2.1 s'.2.2) from funext fun s'=>N8 a0 r (i+1) s' hr,hp]
  unfold dG
  by_cases hf:bf y=0
  ·have e0:¬bf y≠0:=fun h=>h hf
   rw[ajN e0]
   by_cases ha:((bQ a0 i).any fun q=>decide (0≤dCw q y))=true
   ·rw[ajO ha,show cu (y::r) (bQ a0 i) s.2.1 s.2.2=8 by simp only[cu];rw[ajN e0,ajO ha]]
    rfl
   ·rw[ajN ha]
    by_cases h1:y.2.1=1
    ·rw[ajO h1]
     by_cases hn:y.2.2.1≠w64 (s.2.1+1)
     ·rw[ajO hn,show cu (y::r) (bQ a0 i) s.2.1 s.2.2=9 by simp only[cu];rw[ajN e0,ajN ha,ajO h1,ajO hn]]
      rfl
     ·rw[ajN hn,show cu (y::r) (bQ a0 i) s.2.1 s.2.2=cu r (some y) y.2.2.1 s.2.2 by rw[cu,ajN e0,ajN ha,ajO h1,ajN hn]]
    ·rw[ajN h1]
     by_cases hn:y.2.2.1≠w64 (s.2.2+1)
     ·rw[ajO hn,show cu (y::r) (bQ a0 i) s.2.1 s.2.2=9 by simp only[cu];rw[ajN e0,ajN ha,ajN h1,ajO hn]]
      rfl
     ·rw[ajN hn,show cu (y::r) (bQ a0 i) s.2.1 s.2.2=cu r (some y) s.2.1 y.2.2.1 by rw[cu,ajN e0,ajN ha,ajN h1,ajN hn]]
  ·rw[ajO hf,show cu (y::r) (bQ a0 i) s.2.1 s.2.2=bf y by rw[cu,ajO hf],Ku hf]
theorem Nt (l:List aa):nX l=some (gM l,()):=by
 unfold nX gM
 by_cases hl:2000<l.length
 ·rw[ajG (show (l.length:Int)>2000 by omega),ajC,ajO hl]
 ·rw[ajE (show ¬ (l.length:Int)>2000 by omega),ajB,ajN hl]
  have:=LJ (f:=kI) (fun (s:Int×Int×Int) (i:Nat)=>((l,l,(l.length:Int),(i:Int),s.1,s.2.1,s.2.2,()):kJ)) l (dG l) (fun _=>some (Sum.inr ()))
   (fun s i y again hy=>SY l (by omega) s i y again hy) (fun s again=>by
     unfold kI
     dsimp only
     rw[ajE (by omega)];rfl) (0,0,0)
  refine (congrArg (fun z=>aI (β:=(Int×Unit)) (γ:=Unit) z fun _=>some (0,())) (this _ (by omega))).trans ?_
  rw[N8 l l 0 (0,0,0) rfl]
  simp only[bQ]
  by_cases h:cu l none 0 0=0
  ·rw[Om h,h];rfl
  ·rw[Ku h];rfl
theorem Gi:∀ {l:List aa} {p:Option aa} {nb ns:Int},cu l p nb ns=0→∀ d,d∈l→bf d=0
 | [],_,_,_,_,_,h=>by cases h
 | y::r,p,nb,ns,h,d,hd=>by
  simp only[cu] at h
  by_cases hf:bf y=0
  ·rw[ajN (by simp[hf])] at h
   rcases ais.1 hd with rfl | hd
   ·exact hf
   ·split at h
    ·cases h
    ·split at h
     ·split at h
      ·cases h
      ·exact Gi h d hd
     ·split at h
      ·cases h
      ·exact Gi h d hd
  ·rw[ajO hf] at h
   exact absurd h hf
theorem iM {l:List aa} (h:gM l=0):l.length≤2000∧∀ d,d∈l→bf d=0:=by
 unfold gM at h
 split at h
 ·cases h
 ·rename_i hl
  exact⟨by omega,Gi h⟩
abbrev GK (o:aj):=o.1
abbrev GJ (o:aj):=o.2.1
abbrev LR (o:aj):=o.2.2.1
abbrev cG (o:aj):=o.2.2.2.1
abbrev bX (o:aj):=o.2.2.2.2.1
abbrev je (o:aj):=o.2.2.2.2.2
def di (day:Int) (p:Option aL) (x:aL):Int:=
 if ¬(1≤x.1∧x.1≤99999) then 1
 else if (p.any fun q=>decide (x.1≤q.1))=true then 8
 else if c9 x.2.1=false then 5
 else if qOk x.2.2.1 false=false then 1
 else if c9 x.2.2.2.1=false then 5
 else if inR x.2.2.2.2.1 0 1000000000 4=false then 1
 else if ¬(day≤x.2.2.2.2.2∧x.2.2.2.2.2≤3652059) then 1
 else 0
def jS (day:Int):List aL→Option aL→Int
 | [],_=>0
 | x::r,p=>if di day p x≠0 then di day p x else jS day r (some x)
def jI (o:aj):Int:=
 if c9 (GK o)=false∨c9 (GJ o)=false∨c9 (LR o)=false then 5
 else if GJ o=LR o then 12
 else if ¬(1≤cG o∧cG o≤3652059) then 1
 else if ¬(0≤bX o∧bX o≤1000) then 1
 else if je o=[] then 9
 else if 500<(je o).length then 2
 else jS (cG o) (je o) none
theorem agx (b:Bool):((if b=true then (0:Int) else 1) != 0)= !b:=by cases b<;>rfl
theorem Ph (o:aj) (i:Nat) (x:aL) (hi:(je o)[i]? =some x) (hl:(je o).length≤500):uQ o (i:Int)=some (di (cG o) (bQ (je o) i) x,()):=by
 have hlt:i<(je o).length:=(ahZ.1 hi).1
 unfold uQ
 rw[bR hi,ajq]
 simp only[kQ,VE,Eo,yd,BM,ajq,agx]
 have tail:∀ (p:Option aL) (hp:(p.any fun q=>decide (x.1≤q.1))=false) (h1:1≤x.1∧x.1≤99999),
  (bif !c9 x.2.1 then some (5,()) else bif !qOk x.2.2.1 false then some ((if qOk x.2.2.1 false=true then 0 else 1),()) else bif !c9 x.2.2.2.1 then some (5,()) else
    bif !inR x.2.2.2.2.1 0 1000000000 4 then some ((if inR x.2.2.2.2.1 0 1000000000 4=true then 0 else 1),()) else bif !decide (cG o≤x.2.2.2.2.2∧x.2.2.2.2.2≤3652059) then some (1,()) else some (0,()))=some (di (cG o) p x,()):=fun p hp h1=>by
  unfold di
  rw[ajN (show ¬¬(1≤x.1∧x.1≤99999) from fun h=>h h1),ajN (show ¬(p.any fun q=>decide (x.1≤q.1))=true by rw[hp];exact ag1)]
  cases c9 x.2.1
  ·rfl
  ·cases qOk x.2.2.1 false
   ·rfl
   ·cases c9 x.2.2.2.1
    ·rfl
    ·cases inR x.2.2.2.2.1 0 1000000000 4
     ·rfl
     ·by_cases hd:cG o≤x.2.2.2.2.2∧x.2.2.2.2.2≤3652059
      ·simp[hd]
      ·simp[hd]
 by_cases h1:1≤x.1∧x.1≤99999
 ·rw[ajG h1,ag7,ajB]
  cases i with
  | zero=>
   rw[ajE (show ¬((0:Nat):Int)>0 by omega),ajB]
   exact tail none rfl h1
  | succ j=>
   have hq:(je o)[j]? =some (je o)[j]:=ahX (by omega)
   have e:w64 (((j+1:Nat):Int) - 1)=(j:Int):=by rw[av (by omega) (by omega)];omega
   rw[ajG (show ((j+1:Nat):Int)>0 by omega),ajC,e,bR hq,ajq]
   simp only[bQ,hq]
   by_cases h2:x.1≤(je o)[j].1
   ·rw[ajG h2,ajq]
    have:di (cG o) (some (je o)[j]) x=8:=by
     unfold di
     rw[ajN (show ¬¬(1≤x.1∧x.1≤99999) from fun h=>h h1),ajO (show (Option.any (fun q=>decide (x.1≤q.1)) (some (je o)[j]))=true from ajG h2)]
    rw[this]
    rfl
   ·rw[ajE h2,ajq]
    exact tail (some (je o)[j]) (by simp[h2]) h1
 ·rw[ajE h1,ag6,ajC]
  unfold di
  rw[ajO h1]
theorem Et (a0:List aL) (day:Int):∀ (r:List aL) (i:Nat) (s:Unit),a0.drop i=r→
 Gq (fun (_:Unit) i y k=>if di day (bQ a0 i) y≠0 then some (Sum.inl (di day (bQ a0 i) y,())) else k ()) (fun _=>(some (Sum.inr ()):Option nu)) r i s=R9 (jS day r (bQ a0 i))
 | [],_,_,_=>by simp[Gq,jS,R9]
 | y::r,i,s,hd=>by
  have hy:a0[i]? =some y:=by
   have:=congrArg (·[0]?) hd
   simpa [ahW] using this
  have hr:a0.drop (i+1)=r:=by
   have:=congrArg List.tail hd
   simpa [aiN] using this
  have hp:bQ a0 (i+1)=some y:=hy
  have ih:=Et a0 day r (i+1) () hr
  rw[hp] at ih
  by_cases hf:di day (bQ a0 i) y=0
  ·have e0:¬di day (bQ a0 i) y≠0:=fun h=>h hf
   rw[show jS day (y::r) (bQ a0 i)=jS day r (some y) by rw[jS,ajN e0], ← ih]
   show (if di day (bQ a0 i) y≠0 then _ else _)=_
   rw[ajN e0]
  ·rw[show jS day (y::r) (bQ a0 i)=di day (bQ a0 i) y by rw[jS,ajO hf],Ku hf]
   show (if di day (bQ a0 i) y≠0 then _ else _)=_
   rw[ajO hf]
theorem Nu (o:aj):sY o=some (jI o,()):=by
 unfold sY jI
 simp only[Eo,rz,kQ,VE,ajq]
 cases h1:c9 o.1
 ·simp[GK,h1]
 cases h2:c9 o.2.1
 ·simp[GK,GJ,h1,h2]
 cases h3:c9 o.2.2.1
 ·simp[GK,GJ,LR,h1,h2,h3]
 rw[ajN (by simp[GK,GJ,LR,h1,h2,h3])]
 simp only[ag7,ajB]
 by_cases h4:o.2.1=o.2.2.1
 ·rw[ajO h4,show (o.2.1==o.2.2.1)=true by simp[h4],ajC]
 rw[ajN h4,show (o.2.1==o.2.2.1)=false by simp[h4],ajB]
 by_cases h5:1≤o.2.2.2.1∧o.2.2.2.1≤3652059
 ·rw[ajN (by simp[cG,h5]),ajG h5,ag7,ajB]
  by_cases h6:0≤o.2.2.2.2.1∧o.2.2.2.2.1≤1000
  ·rw[ajN (by simp[bX,h6]),ajG h6,ag7,ajB]
   by_cases h7:o.2.2.2.2.2=[]
   ·rw[ajO h7,h7];rfl
   ·have h7':o.2.2.2.2.2.length≠0:=fun e=>h7 (ahI e)
    rw[ajN h7,cr (show (o.2.2.2.2.2.length:Int)≠0 by omega),ajB]
    by_cases h8:500<o.2.2.2.2.2.length
    ·rw[ajO h8,ajG (by omega),ajC]
    ·rw[ajN h8,ajE (by omega),ajB]
     have:=LJ (f:=nt) (fun (_:Unit) (i:Nat)=>(((o.2.2.2.2.2.length:Int),(i:Int),o.1,o.2.1,o.2.2.1,o.2.2.2.1,o.2.2.2.2.1,o.2.2.2.2.2,()):nv)) o.2.2.2.2.2
      (fun (_:Unit) i y k=>if di (cG o) (bQ o.2.2.2.2.2 i) y≠0 then some (Sum.inl (di (cG o) (bQ o.2.2.2.2.2 i) y,())) else k ()) (fun _=>some (Sum.inr ()))
      (fun s i y again hy=>by
        have hlt:i<o.2.2.2.2.2.length:=(ahZ.1 hy).1
        unfold nt
        dsimp only
        rw[ajG (by omega),ajC]
        have:=Ph o i y hy (by show o.2.2.2.2.2.length≤500;omega)
        rw[show ((o.1,o.2.1,o.2.2.1,o.2.2.2.1,o.2.2.2.2.1,o.2.2.2.2.2):aj)=o from rfl,this,ajq]
        dsimp only
        by_cases hf:di (cG o) (bQ o.2.2.2.2.2 i) y=0
        ·rw[ajN (by simp[hf]),show (di (cG o) (bQ (je o) i) y != 0)=false by simp[hf],ajB,av (by omega) (by omega)]
         rfl
        ·rw[ajO hf,show (di (cG o) (bQ (je o) i) y != 0)=true by simp[hf],ajC]) (fun s again=>by
        unfold nt
        dsimp only
        rw[ajE (show ¬((o.2.2.2.2.2.length:Int)<(o.2.2.2.2.2.length:Int)) by omega)];rfl) ()
     refine (congrArg (fun z=>aI (β:=(Int×Unit)) (γ:=Unit) z fun _=>some (0,())) (this _ (by omega))).trans ?_
     rw[Et o.2.2.2.2.2 (cG o) o.2.2.2.2.2 0 () rfl]
     simp only[bQ]
     by_cases h:jS (cG o) o.2.2.2.2.2 none=0
     ·rw[Om h,h];rfl
     ·rw[Ku h];rfl
  ·rw[ajO h6,ajE h6];rfl
 ·rw[ajO h5,ajE h5];rfl
theorem zh (o:aj) (l:List aa):pq o l=some (if jI o≠0 then jI o else gM l,()):=by
 unfold pq
 rw[Nu,ajq,Nt]
 dsimp only
 by_cases h:jI o=0
 ·rw[h];rfl
 ·rw[cI h,ajC,ajO h]
end Go.Md
namespace Go.Md
open Go.Dn
def aR (d:ah):Int:=d.1*10 ^ (3 - d.2).toNat
theorem DW {d:ah} {z:Bool} (h:qOk d z=true):(0≤d.2∧d.2≤3)∧0≤d.1∧d.1≤1000000000*10 ^ d.2.toNat∧(z=false→d.1≠0):=by
 unfold qOk inR at h
 simp only[agW,ajH,ag9,ag5,ajy] at h
 obtain⟨⟨h1,h2,h3,h4⟩,h5⟩:=h
 exact⟨⟨h1.2.1,h2⟩,by omega,h4,fun hz=>by rcases h5 with h5 | h5;exact h5;rw[hz] at h5;cases h5⟩
theorem l6 {d:ah} {z:Bool} (h:qOk d z=true):0≤aR d∧aR d≤1000000000000∧(z=false→0<aR d):=by
 obtain⟨⟨h1,h2⟩,h3,h4,h5⟩:=DW h
 unfold aR
 obtain⟨k,hk⟩:∃ k:Nat,d.2=k:=⟨d.2.toNat,by omega⟩
 rw[hk] at h1 h2 h4 ⊢
 have:k=0∨k=1∨k=2∨k=3:=by omega
 rcases this with rfl | rfl | rfl | rfl<;>simp at h4 ⊢ <;>refine⟨by omega,by omega,fun hz=> ?_⟩<;>have:=h5 hz<;>omega
theorem nM {d:ah} {z:Bool} (h:qOk d z=true):iO d=some (aR d,()):=by
 obtain⟨⟨h1,h2⟩,h3,h4,_⟩:=DW h
 obtain⟨u1,u2,_⟩:=l6 h
 unfold iO
 rw[av (n:=3 - d.2) (by omega) (by omega),Ck (3 - d.2) (by omega) (by omega),ajq]
 show some (w64 (aR d),())=_
 rw[av (by omega) (by omega)]
structure ai where
 no:Int
 art:Bys
 unit:Bys
 ord:Int
 shp:Int
 rcv:Int
 ret:Int
 price:ah
 due:Int
 wish:Int
 ono:Int
 oq:Int
 ount:Int
abbrev ai.tup (x:ai):aq:=(x.no,x.art,x.unit,x.ord,x.shp,x.rcv,x.ret,x.price,x.due,x.wish,x.ono,x.oq,x.ount)
def ai.opn (x:ai):Int:=if x.ord - x.shp+x.ret>0 then x.ord - x.shp+x.ret else 0
structure LOk (x:ai):Prop where
 ret0:0≤x.ret
 retr:x.ret≤x.rcv
 rcvs:x.rcv≤x.shp
 shp1:x.shp≤1000000000000000
 uA:0≤x.ord
 ord1:x.ord≤1000000000000
 off:x.ono≠0→0<x.oq∧x.oq+x.shp - x.ret≤x.ord
def sW (i:Nat):List ai→List (Int×Option Nat)
 | []=>[]
 | x::r=>(x.no,some i)::sW (i+1) r
abbrev mapOf (A:List ai):List (Int×Option Nat):=sW 0 A
def bU (n:Int) (i:Nat):List ai→Option Nat
 | []=>none
 | x::r=>if n=x.no then some i else bU n (i+1) r
abbrev dH (n:Int) (A:List ai):Option Nat:=bU n 0 A
theorem ac4 (n:Int):GB n n=true:=by simp[GB]
theorem aaF {n a:Int} (h:n≠a):GB n a=false:=by simp[GB,h]
theorem gv (n:Int):∀ (A:List ai) (i:Nat),Option.getD (α:=Option Nat) (nr (k:=tI) (v:= .hnd) (sW i A) n) none=bU n i A
 | [],i=>rfl
 | x::r,i=>by
  have e:= @adp tI .hnd (x.no,some i) (sW (i+1) r) n
  refine (congrArg (fun z:Option (Option Nat)=>Option.getD z none) e).trans ?_
  have ih:=gv n r (i+1)
  by_cases h:n=x.no
  ·subst h
   show Option.getD (α:=Option Nat) (bif GB x.no x.no then some (some i) else _) none=_
   rw[ac4]
   simp only[bU,ajO]
   rfl
  ·show Option.getD (α:=Option Nat) (bif GB n x.no then some (some i) else _) none=_
   rw[aaF h]
   simp only[bU,ajN h]
   exact ih
theorem Sl (n:Int) (y:ai) (hy:y.no=n):∀ (A:List ai) (i:Nat),bU n i A=none→Cg (k:=tI) (v:= .hnd) (sW i A) n (some (i+A.length))=sW i (A++[y])
 | [],i,_=>by subst hy;rfl
 | x::r,i,h=>by
  simp only[bU] at h
  by_cases hx:n=x.no
  ·rw[ajO hx] at h;cases h
  ·rw[ajN hx] at h
   have ih:=Sl n y hy r (i+1) h
   have e:i+(x::r).length=i+1+r.length:=by simp only[aia];omega
   rw[e]
   show (bif GB n x.no then _ else (x.no,some i)::Cg (k:=tI) (v:= .hnd) (sW (i+1) r) n (some (i+1+r.length)))=_
   rw[aaF hx]
   exact congrArg (fun z=>(x.no,some i)::z) ih
theorem DI:∀ (A:List ai) (i:Nat),(sW i A).length=A.length
 | [],_=>rfl
 | x::r,i=>by simp[sW,DI r]
theorem adm {k:Nat} {y:ai}:∀ (A:List ai) (i:Nat),(∀ x,A[k]? =some x→y.no=x.no)→sW i (A.set k y)=sW i A:=by
 intro A
 induction A generalizing k with
 | nil=>intro i _;rfl
 | cons x r ih=>
  intro i h
  cases k with
  | zero=>simp only[List.set_cons_zero,sW];rw[h x rfl]
  | succ k=>simp only[aiK,sW];rw[ih (i+1) (fun z hz=>h z (by simpa using hz))]
theorem Ro {n:Int}:∀ {A:List ai} {i k:Nat},bU n i A=some k→i≤k∧∃ x,A[k - i]? =some x∧x.no=n
 | [],_,_,h=>by cases h
 | x::r,i,k,h=>by
  simp only[bU] at h
  by_cases hx:n=x.no
  ·rw[ajO hx] at h;cases h;exact⟨ai5 _,x,by simp,hx.symm⟩
  ·rw[ajN hx] at h
   obtain⟨h1,y,h2,h3⟩:=Ro h
   refine⟨by omega,y, ?_,h3⟩
   rw[show k - i=k - (i+1)+1 by omega,ahU];exact h2
theorem pU {n:Int} {A:List ai} {k:Nat} (h:dH n A=some k):∃ x,A[k]? =some x∧x.no=n:=(Ro h).2
theorem Lu {n:Int} {k:Nat} {y:ai}:∀ (A:List ai) (i:Nat),(∀ x,A[k]? =some x→y.no=x.no)→bU n i (A.set k y)=bU n i A:=by
 intro A
 induction A generalizing k with
 | nil=>intro i _;rfl
 | cons x r ih=>
  intro i h
  cases k with
  | zero=>simp only[List.set_cons_zero,bU];rw[h x rfl]
  | succ k=>simp only[aiK,bU];rw[ih (i+1) (fun z hz=>h z (by simpa using hz))]
theorem Fh {n:Int} {y:ai}:∀ (A:List ai) (i:Nat),bU n i (A++[y])=(bU n i A).or (if n=y.no then some (i+A.length) else none)
 | [],i=>by simp[bU]
 | x::r,i=>by
  simp only[ahz,bU,aia]
  by_cases h:n=x.no
  ·simp[h]
  ·rw[ajN h,ajN h,Fh r (i+1),show i+(r.length+1)=i+1+r.length by omega]
theorem fV {A:List ai} {k:Nat} {x:ai} (h:A[k]? =some x):(A.map ai.tup)[k]? =some x.tup:=by rw[ah0,h];rfl
theorem aba (A:List ai) (k:Nat) (y:ai):(A.map ai.tup).set k y.tup=(A.set k y).map ai.tup:=by rw[List.map_set]
theorem PZ {A:List ai} {k:Nat} {x:ai} (h:A[k]? =some x) (y:ai):(A.set k y)[k]? =some y:=by
 have:=(ahZ.1 h).1
 simp[ah2,this]
theorem lN {A:List ai} {k:Nat} {x:ai} (h:A[k]? =some x) (hx:LOk x):gB (some k) (A.map ai.tup)=some (x.opn,()):=by
 unfold gB
 have ht:=fV h
 simp only[ajq,ht]
 have:=hx.ret0;have:=hx.retr;have:=hx.rcvs;have:=hx.shp1;have:=hx.uA;have:=hx.ord1
 rw[av (n:=x.ord - x.shp) (by omega) (by omega),av (n:=x.ord - x.shp+x.ret) (by omega) (by omega)]
 rfl
end Go.Md
namespace Go.Md
open Go.Dn
abbrev dNo (d:aa):=d.2.2.1
abbrev aF (d:aa):=d.2.2.2.1
abbrev bA (d:aa):=d.2.2.2.2.1
abbrev dQ (d:aa):=d.2.2.2.2.2.2.1
abbrev Km (d:aa):=d.2.2.2.2.2.2.2.2.1
abbrev cZ (d:aa):=d.2.2.2.2.2.2.2.2.2.1
abbrev dTo (d:aa):=d.2.2.2.2.2.2.2.2.2.2
theorem cR {d:aa} (h:C7 d=0):(usQ (aF d)=true→qOk (dQ d) (aF d==2)=true)∧(usP (aF d)=true→inR (Km d) 0 1000000000 4=true)∧(usU (aF d)=true→yI (cZ d)=true)∧(usA (aF d)=true→c9 d.2.2.2.2.2.1=true∧c9 d.2.2.2.2.2.2.2.1=true)∧(usT (aF d)=true→Cb (dTo d)=true):=by
 unfold C7 PD at h
 show (usQ d.2.2.2.1=true→qOk d.2.2.2.2.2.2.1 (d.2.2.2.1==2)=true)∧(usP d.2.2.2.1=true→inR d.2.2.2.2.2.2.2.2.1 0 1000000000 4=true)∧(usU d.2.2.2.1=true→yI d.2.2.2.2.2.2.2.2.2.1=true)∧(usA d.2.2.2.1=true→c9 d.2.2.2.2.2.1=true∧c9 d.2.2.2.2.2.2.2.1=true)∧(usT d.2.2.2.1=true→Cb d.2.2.2.2.2.2.2.2.2.2=true)
 generalize usA d.2.2.2.1=ua at*
 generalize usQ d.2.2.2.1=uq at*
 generalize usP d.2.2.2.1=up at*
 generalize usU d.2.2.2.1=uu at*
 generalize usT d.2.2.2.1=ut at*
 generalize qOk d.2.2.2.2.2.2.1 (d.2.2.2.1==2)=b1 at*
 generalize inR d.2.2.2.2.2.2.2.2.1 0 1000000000 4=b2 at*
 generalize yI d.2.2.2.2.2.2.2.2.2.1=b3 at*
 generalize c9 d.2.2.2.2.2.1=b4 at*
 generalize c9 d.2.2.2.2.2.2.2.1=b5 at*
 generalize Cb d.2.2.2.2.2.2.2.2.2.2=b6 at*
 cases hq:(uq&& !b1)
 ·rw[hq,ajB] at h
  cases hp:(up&& !b2)
  ·rw[hp,ajB] at h
   cases hu:(uu&& !b3)
   ·rw[hu,ajB] at h
    cases ha:(ua&&(!b4|| !b5))
    ·rw[ha,ajB] at h
     cases ht:(ut&& !b6)
     ·refine⟨?_, ?_, ?_, ?_, ?_⟩
      ·revert hq;cases uq<;>cases b1<;>simp
      ·revert hp;cases up<;>cases b2<;>simp
      ·revert hu;cases uu<;>cases b3<;>simp
      ·revert ha;cases ua<;>cases b4<;>cases b5<;>simp
      ·revert ht;cases ut<;>cases b6<;>simp
     ·rw[ht,ajC] at h;cases h
    ·rw[ha,ajC] at h;cases h
   ·rw[hu,ajC] at h;cases h
  ·rw[hp,ajC] at h;cases h
 ·rw[hq,ajC] at h;cases h
def oV (day:Int) (i:Int) (d:aa) (x:ai):Int×ai:=
 if aF d=3∧cZ d<day then (1,x) else if 0≤x.wish then (11,x) else (0,{ x with wish:=i })
def gd (l:List aa) (x:ai):aa:=l.getD x.wish.toNat (0,0,0,0,0,[],(0,0),[],(0,0),0,0)
def br (l:List aa) (d:aa) (x:ai):Int×ai:=
 if x.wish<0 then (5,x)
 else if dNo (gd l x)≠dTo d then (5,x)
 else if aF d=5 then
  (if aF (gd l x)=2 then (if aR (dQ (gd l x))<x.shp - x.ret then (12,x) else (0,{ x with ord:=aR (dQ (gd l x)),wish:= -1 }))
  else if aF (gd l x)=1 then (0,{ x with ord:=aR (dQ (gd l x)),wish:= -1 })
  else if aF (gd l x)=3 then (0,{ x with due:=cZ (gd l x),wish:= -1 })
  else (0,{ x with price:=Km (gd l x),wish:= -1 }))
 else (0,{ x with wish:= -1 })
def kR (day:Int) (d:aa) (x:ai):Int:=
 if cZ d<day then 1 else if 0≤x.wish∨x.opn=0 then 11 else if x.opn<aR (dQ d) then 12 else 0
def Bi (d:aa) (x:ai):Int×ai:=
 if 0≤x.wish then (11,x) else if x.ono=0∨x.ono≠dTo d then (5,x) else (0,{ x with ord:=x.shp - x.ret+x.oq,due:=x.ount,ono:=0,oq:=0,ount:=0 })
def cm (ext:Int) (d:aa) (x:ai):Int×ai:=
 if aF d=9 then
  (if x.ord+x.ord*ext / 1000<x.shp - x.ret+aR (dQ d) then (12,x)
  else if 1000000000000000<x.shp+aR (dQ d) then (16,x)
  else (0,{ x with shp:=x.shp+aR (dQ d) }))
 else if aF d=10 then (if x.shp<x.rcv+aR (dQ d) then (12,x) else (0,{ x with rcv:=x.rcv+aR (dQ d) }))
 else (if x.rcv<x.ret+aR (dQ d) then (12,x) else (0,{ x with ret:=x.ret+aR (dQ d) }))
theorem jV {A:List ai} {k:Nat} {x:ai} (h:A[k]? =some x):A.set k x=A:=by
 obtain⟨h1,h2⟩:=ahZ.1 h
 rw[← h2];exact List.set_getElem_self h1
theorem oF {A:List ai} {k:Nat} (y:ai) (T:aq) (hT:T=y.tup):List.set (A.map ai.tup) k T=(A.set k y).map ai.tup:=by rw[hT,aba]
theorem Gr {A:List ai} {k:Nat} {x:ai} (h:A[k]? =some x) (T:aq):(List.set (A.map ai.tup) k T)[k]? =some T:=by
 have:=(ahZ.1 h).1
 rw[ah4 (by simpa using this)]
variable {o:aj} {l:List aa} {m:List (Int×Option Nat)} {ref:List ah} {pts:List aC} {wt:Int} {A:List ai} {k:Nat} {x:ai}
theorem qD (h:A[k]? =some x) {i:Nat} {d:aa} (hd:l[i]? =some d):
 oP (o,l,m,ref,pts,wt,()) (some k) (i:Int) (A.map ai.tup)=some ((oV (cG o) i d x).1,(o,l,m,ref,pts,wt,()),(A.set k (oV (cG o) i d x).2).map ai.tup,()):=by
 unfold oP oV
 dsimp only
 rw[bR hd,ajq]
 have hv:(bif d.2.2.2.1==3 then some (decide (d.2.2.2.2.2.2.2.2.2.1<o.2.2.2.1),()) else some (false,()))=some (decide (aF d=3∧cZ d<cG o),()):=by
  by_cases h3:d.2.2.2.1=3
  ·rw[show (d.2.2.2.1==3)=true by simp[h3],ajC]
   simp[aF,h3]
  ·rw[show (d.2.2.2.1==3)=false by simp[h3],ajB]
   simp[aF,h3]
 rw[hv,ajq]
 dsimp only
 by_cases h1:aF d=3∧cZ d<cG o
 ·rw[ajG h1,ajC,ajO h1,jV h]
 ·rw[ajE h1,ajB,ajN h1]
  simp only[ajq,fV h]
  by_cases h2:0≤x.wish
  ·rw[ajO h2,ajG (show x.wish≥0 from h2),ajC,jV h]
  ·rw[ajN h2,ajE (show ¬x.wish≥0 from h2),ajB,oF { x with wish:=(i:Int) } _ rfl]
structure WOk (l:List aa) (x:ai):Prop where
 low: -1≤x.wish
 kind:0≤x.wish→∃ d,l[x.wish.toNat]? =some d∧aF d≤4
theorem iZ {d:aa} (hw:l[x.wish.toNat]? =some d):gd l x=d:=by
 unfold gd
 rw[ahR,hw];rfl
theorem GD {d:aa} (h0:0≤x.wish) (hw:l[x.wish.toNat]? =some d):idx l x.wish=some d:=by
 unfold idx;rw[ajO h0];exact hw
theorem nZ (h:A[k]? =some x) (hx:LOk x) (hw:WOk l x) (hl:∀ d,d∈l→bf d=0) (d:aa):
 jr (o,l,m,ref,pts,wt,()) (some k) d (A.map ai.tup)=some ((br l d x).1,(o,l,m,ref,pts,wt,()),(A.set k (br l d x).2).map ai.tup,()):=by
 unfold jr br
 simp only[ajq,fV h]
 by_cases h1:x.wish<0
 ·rw[ajO h1,ajG h1,ajC,jV h]
 ·rw[ajN h1,ajE h1,ajB]
  obtain⟨w,hw1,hw2⟩:=hw.kind (by omega)
  rw[GD (by omega) hw1,iZ hw1]
  simp only[ajq]
  have hwf:=hl w (aiz hw1)
  obtain⟨_,_,_,hk,_,_,hu⟩:=bz hwf
  obtain⟨uq,_⟩:=cR hu
  have b0:=hx.ret0;have b1:=hx.retr;have b2:=hx.rcvs;have b3:=hx.shp1
  by_cases h2:dNo w=dTo d
  ·rw[ajN (fun e=>e h2),show (w.2.2.1 != d.2.2.2.2.2.2.2.2.2.2)=false by simpa using h2,ajB]
   by_cases h3:aF d=5
   ·rw[ajO h3,show (d.2.2.2.1==5)=true by simpa using h3,ajC]
    by_cases k2:aF w=2
    ·have hq:=uq (by rw[k2];rfl)
     rw[ajO k2,show (w.2.2.2.1==2)=true by simpa using k2,ajC]
     simp only[nM hq,ajq,Gr h,aiL]
     rw[av (n:=x.shp - x.ret) (by omega) (by omega)]
     by_cases h4:aR (dQ w)<x.shp - x.ret
     ·rw[ajO h4,ajG h4,ajC,jV h]
     ·rw[ajN h4,ajE h4,ajB,oF { x with ord:=aR (dQ w),wish:= -1 } _ rfl]
    ·rw[ajN k2,show (w.2.2.2.1==2)=false by simpa using k2,ajB]
     by_cases k1:aF w=1
     ·have hq:=uq (by rw[k1];rfl)
      rw[ajO k1,show (w.2.2.2.1==1)=true by simpa using k1,ajC]
      simp only[nM hq,ajq,Gr h,aiL]
      rw[oF { x with ord:=aR (dQ w),wish:= -1 } _ rfl]
     ·rw[ajN k1,show (w.2.2.2.1==1)=false by simpa using k1,ajB]
      by_cases k3:aF w=3
      ·rw[ajO k3,show (w.2.2.2.1==3)=true by simpa using k3,ajC]
       simp only[ajq,Gr h,aiL]
       rw[oF { x with due:=cZ w,wish:= -1 } _ rfl]
      ·rw[ajN k3,show (w.2.2.2.1==3)=false by simpa using k3,ajB]
       simp only[ajq,Gr h,aiL]
       rw[oF { x with price:=Km w,wish:= -1 } _ rfl]
   ·rw[ajN h3,show (d.2.2.2.1==5)=false by simpa using h3,ajB,oF { x with wish:= -1 } _ rfl]
  ·rw[ajO h2,show (w.2.2.1 != d.2.2.2.2.2.2.2.2.2.2)=true by simpa using h2,ajC,jV h]
theorem Fu (h:A[k]? =some x) (hx:LOk x) {d:aa} {z:Bool} (hq:qOk (dQ d) z=true):
 lC (o,l,m,ref,pts,wt,()) (some k) d (A.map ai.tup)=some (kR (cG o) d x,(o,l,m,ref,pts,wt,()),A.map ai.tup,()):=by
 unfold lC kR
 simp only[ajq,fV h,lN h hx,nM hq]
 by_cases h1:cZ d<cG o
 ·rw[ajO h1,ajG h1,ajC]
 ·rw[ajN h1,ajE h1,ajB]
  by_cases h2:0≤x.wish
  ·rw[ajO (.inl h2),ajG (show x.wish≥0 from h2),ajC]
  ·rw[ajE (show ¬x.wish≥0 from h2),ajB]
   by_cases h3:x.opn=0
   ·rw[ajO (.inr h3),show (x.opn==0)=true by simp[h3],ajC]
   ·rw[ajN (fun e=>e.elim h2 h3),show (x.opn==0)=false by simp[h3],ajB]
    by_cases h4:x.opn<aR (dQ d)
    ·rw[ajO h4,ajG (show aR (dQ d)>x.opn from h4),ajC]
    ·rw[ajN h4,ajE (show ¬aR (dQ d)>x.opn from h4),ajB]
theorem Ju (h:A[k]? =some x) (hx:LOk x) (d:aa):
 oO (o,l,m,ref,pts,wt,()) (some k) d (A.map ai.tup)=some ((Bi d x).1,(o,l,m,ref,pts,wt,()),(A.set k (Bi d x).2).map ai.tup,()):=by
 unfold oO Bi
 simp only[ajq,fV h,Gr h,aiL]
 have b0:=hx.ret0;have b1:=hx.retr;have b2:=hx.rcvs;have b3:=hx.shp1;have b4:=hx.uA;have b5:=hx.ord1
 by_cases h1:0≤x.wish
 ·rw[ajO h1,ajG (show x.wish≥0 from h1),ajC,jV h]
 ·rw[ajN h1,ajE (show ¬x.wish≥0 from h1),ajB]
  by_cases h2:x.ono=0
  ·rw[ajO (.inl h2),show (x.ono==0)=true by simp[h2],ajC,jV h]
  ·rw[show (x.ono==0)=false by simp[h2],ajB]
   by_cases h3:x.ono=dTo d
   ·obtain⟨c1,c2⟩:=hx.off h2
    rw[ajN (fun e=>e.elim h2 (fun e=>e h3)),show (x.ono != d.2.2.2.2.2.2.2.2.2.2)=false by simpa using h3,ajB,
     av (n:=x.shp - x.ret) (by omega) (by omega),av (n:=x.shp - x.ret+x.oq) (by omega) (by omega),
     oF { x with ord:=x.shp - x.ret+x.oq,due:=x.ount,ono:=0,oq:=0,ount:=0 } _ rfl]
   ·rw[ajO (.inr h3),show (x.ono != d.2.2.2.2.2.2.2.2.2.2)=true by simpa using h3,ajC,jV h]
theorem qC (h:A[k]? =some x) (hx:LOk x) (he0:0≤bX o) (he1:bX o≤1000) {d:aa} {z:Bool} (hq:qOk (dQ d) z=true):
 oN (o,l,m,ref,pts,wt,()) (some k) d (A.map ai.tup)=some ((cm (bX o) d x).1,(o,l,m,ref,pts,wt,()),(A.set k (cm (bX o) d x).2).map ai.tup,()):=by
 unfold oN cm
 simp only[ajq,fV h,Gr h,nM hq]
 have b0:=hx.ret0;have b1:=hx.retr;have b2:=hx.rcvs;have b3:=hx.shp1;have b4:=hx.uA;have b5:=hx.ord1
 obtain⟨q0,q1,_⟩:=l6 hq
 by_cases k9:aF d=9
 ·rw[ajO k9,show (d.2.2.2.1==9)=true by simpa using k9,ajC]
  have m0:0≤x.ord*bX o:=ahh b4 he0
  have m1:x.ord*bX o≤x.ord*1000:=ahg he1 b4
  have e1:w64 (x.ord*bX o)=x.ord*bX o:=av (by omega) (by omega)
  have e2:Int.tdiv (x.ord*bX o) 1000=x.ord*bX o / 1000:=ahq m0
  have d0:0≤x.ord*bX o / 1000:=Int.ediv_nonneg m0 (by omega)
  have d1:x.ord*bX o / 1000≤x.ord:=by omega
  rw[show w64 (x.ord*o.2.2.2.2.1)=x.ord*bX o from e1,e2,av (n:=x.ord*bX o / 1000) (by omega) (by omega),av (n:=x.ord+x.ord*bX o / 1000) (by omega) (by omega),
   av (n:=x.shp - x.ret) (by omega) (by omega),av (n:=x.shp - x.ret+aR (dQ d)) (by omega) (by omega),av (n:=x.shp+aR (dQ d)) (by omega) (by omega)]
  by_cases c1:x.ord+x.ord*bX o / 1000<x.shp - x.ret+aR (dQ d)
  ·rw[ajO c1,ajG (show x.shp - x.ret+aR (dQ d)>x.ord+x.ord*bX o / 1000 from c1),ajC,jV h]
  ·rw[ajN c1,ajE (show ¬x.shp - x.ret+aR (dQ d)>x.ord+x.ord*bX o / 1000 from c1),ajB]
   by_cases c2:1000000000000000<x.shp+aR (dQ d)
   ·rw[ajO c2,ajG (show x.shp+aR (dQ d)>1000000000000000 from c2),ajC,jV h]
   ·rw[ajN c2,ajE (show ¬x.shp+aR (dQ d)>1000000000000000 from c2),ajB,oF { x with shp:=x.shp+aR (dQ d) } _ rfl]
 ·rw[ajN k9,show (d.2.2.2.1==9)=false by simpa using k9,ajB]
  by_cases k10:aF d=10
  ·rw[ajO k10,show (d.2.2.2.1==10)=true by simpa using k10,ajC,av (n:=x.rcv+aR (dQ d)) (by omega) (by omega)]
   by_cases c1:x.shp<x.rcv+aR (dQ d)
   ·rw[ajO c1,ajG (show x.rcv+aR (dQ d)>x.shp from c1),ajC,jV h]
   ·rw[ajN c1,ajE (show ¬x.rcv+aR (dQ d)>x.shp from c1),ajB,oF { x with rcv:=x.rcv+aR (dQ d) } _ rfl]
  ·rw[ajN k10,show (d.2.2.2.1==10)=false by simpa using k10,ajB,av (n:=x.ret+aR (dQ d)) (by omega) (by omega)]
   by_cases c1:x.rcv<x.ret+aR (dQ d)
   ·rw[ajO c1,ajG (show x.ret+aR (dQ d)>x.rcv from c1),ajC,jV h]
   ·rw[ajN c1,ajE (show ¬x.ret+aR (dQ d)>x.rcv from c1),ajB,oF { x with ret:=x.ret+aR (dQ d) } _ rfl]
end Go.Md
namespace Go.Md
open Go.Dn
def ai.clr (x:ai):ai:={ x with ono:=0,oq:=0,ount:=0 }
def aV (o:aj) (l:List aa) (i:Nat) (d:aa) (x:ai):Int×ai:=
 if aF d≤4 then oV (cG o) i d x
 else if aF d≤6 then (if (br l d x).1=0 then (0,(br l d x).2.clr) else br l d x)
 else if aF d=7 then (if kR (cG o) d x=0 then (0,{ x with ono:=dNo d,oq:=aR (dQ d),ount:=cZ d }) else (kR (cG o) d x,x))
 else if aF d=8 then Bi d x
 else if aF d=9 then (if (cm (bX o) d x).1=0 then (0,(cm (bX o) d x).2.clr) else cm (bX o) d x)
 else cm (bX o) d x
def fY (i:Nat) (d:aa):ai:=⟨bA d,d.2.2.2.2.2.1,d.2.2.2.2.2.2.2.1,0,0,0,0,Km d,cZ d,i,0,0,0⟩
def bN (o:aj) (l:List aa) (i:Nat) (d:aa) (A:List ai):Int×List ai:=
 if aF d=1 then
  (match dH (bA d) A with
  | some _=>(7,A)
  | none=>if 500≤A.length then (16,A) else if cZ d<cG o then (1,A) else (0,A++[fY i d]))
 else match dH (bA d) A with
  | none=>(9,A)
  | some k=>match A[k]? with
   | some x=>((aV o l i d x).1,A.set k (aV o l i d x).2)
   | none=>(9,A)
structure Sound (l:List aa) (A:List ai):Prop where
 line:∀ x,x∈A→LOk x∧WOk l x
theorem afX {x:ai} (h:LOk x):LOk x.clr:=⟨h.ret0,h.retr,h.rcvs,h.shp1,h.uA,h.ord1,fun e=>absurd rfl e⟩
theorem quick (day:Int) (i:Int) (d:aa) (x:ai):(oV day i d x).2=x∨(oV day i d x).2={ x with wish:=i }:=by
 unfold oV
 split
 ·exact .inl rfl
 ·split
  ·exact .inl rfl
  ·exact .inr rfl
theorem SS {l:List aa} {d:aa} {x:ai} (hx:LOk x) (hw:WOk l x) (hl:∀ d,d∈l→bf d=0):((br l d x).1=0→LOk (br l d x).2.clr)∧((br l d x).1≠0→(br l d x).2=x)∧((br l d x).2=x∨(br l d x).2.wish= -1)∧(br l d x).2.no=x.no:=by
 have hk:LOk x.clr:=afX hx
 unfold br
 by_cases h1:x.wish<0
 ·rw[ajO h1];exact⟨nofun,fun _=>rfl,.inl rfl,rfl⟩
 rw[ajN h1]
 obtain⟨w,hw1,hw2⟩:=hw.kind (by omega)
 rw[iZ hw1]
 obtain⟨_,_,_,_,_,_,hu⟩:=bz (hl w (aiz hw1))
 obtain⟨uq,_⟩:=cR hu
 by_cases h2:dNo w≠dTo d
 ·rw[ajO h2];exact⟨nofun,fun _=>rfl,.inl rfl,rfl⟩
 rw[ajN h2]
 by_cases h3:aF d=5
 ·rw[ajO h3]
  by_cases k2:aF w=2
  ·rw[ajO k2]
   obtain⟨q0,q1,_⟩:=l6 (uq (by rw[k2];rfl))
   by_cases h4:aR (dQ w)<x.shp - x.ret
   ·rw[ajO h4];exact⟨nofun,fun _=>rfl,.inl rfl,rfl⟩
   ·rw[ajN h4];exact⟨fun _=>⟨hx.ret0,hx.retr,hx.rcvs,hx.shp1,q0,q1,fun e=>absurd rfl e⟩,fun e=>absurd rfl e,.inr rfl,rfl⟩
  ·rw[ajN k2]
   by_cases k1:aF w=1
   ·rw[ajO k1]
    obtain⟨q0,q1,_⟩:=l6 (uq (by rw[k1];rfl))
    exact⟨fun _=>⟨hx.ret0,hx.retr,hx.rcvs,hx.shp1,q0,q1,fun e=>absurd rfl e⟩,fun e=>absurd rfl e,.inr rfl,rfl⟩
   ·rw[ajN k1]
    by_cases k3:aF w=3
    ·rw[ajO k3];exact⟨fun _=>⟨hx.ret0,hx.retr,hx.rcvs,hx.shp1,hx.uA,hx.ord1,fun e=>absurd rfl e⟩,fun e=>absurd rfl e,.inr rfl,rfl⟩
    ·rw[ajN k3];exact⟨fun _=>⟨hx.ret0,hx.retr,hx.rcvs,hx.shp1,hx.uA,hx.ord1,fun e=>absurd rfl e⟩,fun e=>absurd rfl e,.inr rfl,rfl⟩
 ·rw[ajN h3];exact⟨fun _=>⟨hx.ret0,hx.retr,hx.rcvs,hx.shp1,hx.uA,hx.ord1,fun e=>absurd rfl e⟩,fun e=>absurd rfl e,.inr rfl,rfl⟩
theorem aer {ext:Int} {d:aa} {x:ai} {z:Bool} (hx:LOk x) (hq:qOk (dQ d) z=true):((cm ext d x).1=0→LOk (if aF d=9 then (cm ext d x).2.clr else (cm ext d x).2))∧((cm ext d x).1≠0→(cm ext d x).2=x)∧(cm ext d x).2.wish=x.wish∧(cm ext d x).2.no=x.no:=by
 obtain⟨q0,q1,_⟩:=l6 hq
 have b0:=hx.ret0;have b1:=hx.retr;have b2:=hx.rcvs;have b3:=hx.shp1
 unfold cm
 by_cases k9:aF d=9
 ·rw[ajO k9,ajO k9]
  split
  ·exact⟨nofun,fun _=>rfl,rfl,rfl⟩
  ·split
   ·exact⟨nofun,fun _=>rfl,rfl,rfl⟩
   ·rename_i h1 h2
    exact⟨fun _=>⟨b0,b1,by show x.rcv≤x.shp+aR (dQ d);omega,by show x.shp+aR (dQ d)≤_;omega,hx.uA,hx.ord1,fun e=>absurd rfl e⟩,fun e=>absurd rfl e,rfl,rfl⟩
 ·rw[ajN k9,ajN k9]
  by_cases k10:aF d=10
  ·rw[ajO k10]
   split
   ·exact⟨nofun,fun _=>rfl,rfl,rfl⟩
   ·rename_i h1
    exact⟨fun _=>⟨b0,by show x.ret≤x.rcv+aR (dQ d);omega,by show x.rcv+aR (dQ d)≤x.shp;omega,b3,hx.uA,hx.ord1,hx.off⟩,fun e=>absurd rfl e,rfl,rfl⟩
  ·rw[ajN k10]
   split
   ·exact⟨nofun,fun _=>rfl,rfl,rfl⟩
   ·rename_i h1
    exact⟨fun _=>⟨by show 0≤x.ret+aR (dQ d);omega,by show x.ret+aR (dQ d)≤x.rcv;omega,b2,b3,hx.uA,hx.ord1,fun e=>by
     obtain⟨c1,c2⟩:=hx.off e
     exact⟨c1,by show x.oq+x.shp - (x.ret+aR (dQ d))≤x.ord;omega⟩⟩,fun e=>absurd rfl e,rfl,rfl⟩
theorem BS {o:aj} {l:List aa} {i:Nat} {d:aa} {x:ai} (hx:LOk x) (hw:WOk l x) (hl:∀ d,d∈l→bf d=0) (hd:l[i]? =some d):
 LOk (aV o l i d x).2∧WOk l (aV o l i d x).2∧(aV o l i d x).2.no=x.no∧((aV o l i d x).1≠0→(aV o l i d x).2=x):=by
 obtain⟨_,_,_,hk,_,_,hu⟩:=bz (hl d (aiz hd))
 obtain⟨uq,_⟩:=cR hu
 unfold aV
 by_cases k4:aF d≤4
 ·rw[ajO k4]
  unfold oV
  split
  ·exact⟨hx,hw,rfl,fun _=>rfl⟩
  ·split
   ·exact⟨hx,hw,rfl,fun _=>rfl⟩
   ·refine⟨⟨hx.ret0,hx.retr,hx.rcvs,hx.shp1,hx.uA,hx.ord1,hx.off⟩,⟨by show (-1:Int)≤(i:Int);omega,fun _=>⟨d,by show l[((i:Int)).toNat]? =some d;simpa using hd,k4⟩⟩,rfl,fun e=>absurd rfl e⟩
 ·rw[ajN k4]
  by_cases k6:aF d≤6
  ·rw[ajO k6]
   obtain⟨a1,a2,a3,a4⟩:=SS (d:=d) hx hw hl
   split
   ·rename_i e
    refine⟨a1 e, ?_,a4,fun e=>absurd rfl e⟩
    rcases a3 with a3 | a3
    ·rw[a3];exact⟨hw.low,hw.kind⟩
    ·exact⟨by show -1≤(br l d x).2.wish;omega,fun h=>by have:0≤(br l d x).2.wish:=h;omega⟩
   ·rename_i e
    rw[a2 e];exact⟨hx,hw,rfl,fun _=>rfl⟩
  ·rw[ajN k6]
   by_cases k7:aF d=7
   ·rw[ajO k7]
    have hq:=uq (by rw[k7];rfl)
    rw[show (aF d==2)=false by rw[k7];rfl] at hq
    obtain⟨q0,q1,q2⟩:=l6 hq
    split
    ·rename_i e
     refine⟨⟨hx.ret0,hx.retr,hx.rcvs,hx.shp1,hx.uA,hx.ord1,fun _=>⟨q2 rfl, ?_⟩⟩,⟨hw.low,hw.kind⟩,rfl,fun e=>absurd rfl e⟩
     show aR (dQ d)+x.shp - x.ret≤x.ord
     unfold kR at e
     split at e
     ·cases e
     ·split at e
      ·cases e
      ·split at e
       ·cases e
       ·rename_i h1 h2 h3
        have:=q2 rfl
        unfold ai.opn at h3
        split at h3<;>omega
    ·exact⟨hx,hw,rfl,fun _=>rfl⟩
   ·rw[ajN k7]
    by_cases k8:aF d=8
    ·rw[ajO k8]
     unfold Bi
     split
     ·exact⟨hx,hw,rfl,fun _=>rfl⟩
     ·split
      ·exact⟨hx,hw,rfl,fun _=>rfl⟩
      ·rename_i h1 h2
       obtain⟨c1,c2⟩:=hx.off (fun e=>h2 (.inl e))
       have:=hx.ret0;have:=hx.retr;have:=hx.rcvs;have:=hx.ord1
       refine⟨⟨hx.ret0,hx.retr,hx.rcvs,hx.shp1, ?_, ?_,fun e=>absurd rfl e⟩,⟨hw.low,hw.kind⟩,rfl,fun e=>absurd rfl e⟩
       ·show 0≤x.shp - x.ret+x.oq;omega
       ·show x.shp - x.ret+x.oq≤1000000000000;omega
    ·rw[ajN k8]
     have hq:=uq (by
      unfold usQ
      refine ajG ⟨by omega,by omega,by omega,by omega,by omega⟩)
     obtain⟨a1,a2,a3,a4⟩:=aer (ext:=bX o) hx hq
     by_cases k9:aF d=9
     ·rw[ajO k9]
      split
      ·rename_i e
       have:=a1 e
       rw[ajO k9] at this
       exact⟨this,⟨by show -1≤(cm (bX o) d x).2.wish;rw[a3];exact hw.low,fun h=>by
        have h':0≤(cm (bX o) d x).2.wish:=h
        rw[a3] at h'
        show ∃ d',l[(cm (bX o) d x).2.wish.toNat]? =some d'∧_
        rw[a3];exact hw.kind h'⟩,a4,fun e=>absurd rfl e⟩
      ·rename_i e
       rw[a2 e];exact⟨hx,hw,rfl,fun _=>rfl⟩
     ·rw[ajN k9]
      by_cases e:(cm (bX o) d x).1=0
      ·have:=a1 e
       rw[ajN k9] at this
       exact⟨this,⟨by rw[a3];exact hw.low,fun h=>by rw[a3] at h ⊢;exact hw.kind h⟩,a4,fun h=>absurd e h⟩
      ·rw[a2 e];exact⟨hx,hw,rfl,fun _=>rfl⟩
theorem adR {l:List aa} {A:List ai} (h:Sound l A) {k:Nat} {y:ai} (h1:LOk y) (h2:WOk l y):Sound l (A.set k y):=⟨fun x hx=>by
 rcases aiB hx with hx | hx
 ·exact h.line x hx
 ·subst hx;exact⟨h1,h2⟩⟩
theorem X8 {o:aj} {l:List aa} {i:Nat} {d:aa} {A:List ai} (hA:Sound l A) (hl:∀ d,d∈l→bf d=0) (hd:l[i]? =some d):
 Sound l (bN o l i d A).2∧((bN o l i d A).1≠0→(bN o l i d A).2=A):=by
 unfold bN
 by_cases k1:aF d=1
 ·rw[ajO k1]
  split
  ·exact⟨hA,fun _=>rfl⟩
  ·split
   ·exact⟨hA,fun _=>rfl⟩
   ·split
    ·exact⟨hA,fun _=>rfl⟩
    ·refine⟨⟨fun x hx=> ?_⟩,fun e=>absurd rfl e⟩
     rcases aip.1 hx with hx | hx
     ·exact hA.line x hx
     ·simp only[aiD] at hx
      subst hx
      exact⟨⟨by show (0:Int)≤0;omega,by show (0:Int)≤0;omega,by show (0:Int)≤0;omega,by show (0:Int)≤_;omega,by show (0:Int)≤0;omega,by show (0:Int)≤_;omega,fun e=>absurd rfl e⟩,
       ⟨by show (-1:Int)≤(i:Int);omega,fun _=>⟨d,by show l[((i:Int)).toNat]? =some d;simpa using hd,by omega⟩⟩⟩
 ·rw[ajN k1]
  split
  ·exact⟨hA,fun _=>rfl⟩
  ·rename_i k hk
   split
   ·rename_i x hx
    obtain⟨h1,h2⟩:=hA.line x (aiz hx)
    obtain⟨a1,a2,a3,a4⟩:=BS (o:=o) h1 h2 hl hd
    exact⟨adR hA a1 a2,fun e=>by rw[a4 e];exact jV hx⟩
   ·exact⟨hA,fun _=>rfl⟩
variable {o:aj} {l:List aa} {ref:List ah} {pts:List aC} {wt:Int} {A:List ai}
theorem KK {i:Nat} {d:aa} (hd:l[i]? =some d) (k1:aF d=1):
 qd (o,l,mapOf A,ref,pts,wt,()) (i:Int) (A.map ai.tup)=some ((bN o l i d A).1,(o,l,mapOf (bN o l i d A).2,ref,pts,wt,()),(bN o l i d A).2.map ai.tup,()):=by
 unfold qd bN
 dsimp only
 rw[bR hd,ajq,gv,ajO k1]
 cases hf:dH (bA d) A with
 | some k=>rw[show bU d.2.2.2.2.1 0 A=some k from hf];rfl
 | none=>
  rw[show bU d.2.2.2.2.1 0 A=none from hf]
  dsimp only
  rw[show (!Option.isNone (none:Option Nat))=false from rfl,ajB]
  by_cases h1:500≤A.length
  ·rw[ajO h1,ajG (show ((mapOf A).length:Int)≥500 by rw[DI];omega),ajC]
  ·rw[ajN h1,ajE (show ¬((mapOf A).length:Int)≥500 by rw[DI];omega),ajB]
   by_cases h2:cZ d<cG o
   ·rw[ajO h2,ajG h2,ajC]
   ·rw[ajN h2,ajE h2,ajB]
    have hs:=Sl (bA d) (fY i d) rfl A 0 hf
    rw[ajn] at hs
    rw[aid]
    refine congrArg some ?_
    refine Prod.ext rfl (Prod.ext ?_ (Prod.ext ?_ rfl))
    ·exact Prod.ext rfl (Prod.ext rfl (Prod.ext hs rfl))
    ·show List.map ai.tup A++[_]=List.map ai.tup (A++[fY i d])
     rw[ail]
     rfl
end Go.Md
namespace Go.Md
open Go.Dn
theorem Lb {o:aj} {l:List aa} {i:Nat} {d:aa} {A:List ai} (k1:aF d≠1) (hf:dH (bA d) A=none):bN o l i d A=(9,A):=by
 unfold bN;rw[ajN k1,hf]
theorem Ia {o:aj} {l:List aa} {i:Nat} {d:aa} {A:List ai} {k:Nat} {x:ai} (k1:aF d≠1) (hf:dH (bA d) A=some k) (hx:A[k]? =some x):bN o l i d A=((aV o l i d x).1,A.set k (aV o l i d x).2):=by
 unfold bN;rw[ajN k1,hf];dsimp only;rw[hx]
variable {o:aj} {l:List aa} {ref:List ah} {pts:List aC} {wt:Int} {A:List ai}
theorem VQ {k:Nat} (x:ai) (y:ai) (T:aq) (hT:T=y.tup):List.set ((A.set k x).map ai.tup) k T=(A.set k y).map ai.tup:=by
 rw[hT,aba,aiL]
theorem ae9 {onum obuy osel:Bys} {oday oext:Int} {olns:List aL} {day byy no line:Int} {art:Bys} {q:ah} {unit:Bys} {p:ah} {un to:Int} {i:Nat} (he0:0≤oext) (he1:oext≤1000) (hl:∀ d,d∈l→bf d=0)
 (hd:l[i]? =some (day,byy,no,2,line,art,q,unit,p,un,to)) {k:Nat} {x:ai} (hf:bU line 0 A=some k) (hx:A[k]? =some x) (hs:LOk x) (hw:WOk l x):
 aT ((onum,obuy,osel,oday,oext,olns),l,mapOf A,ref,pts,wt,()) (i:Int) (A.map ai.tup)=some ((aV (onum,obuy,osel,oday,oext,olns) l i (day,byy,no,2,line,art,q,unit,p,un,to) x).1,((onum,obuy,osel,oday,oext,olns),l,mapOf A,ref,pts,wt,()),(A.set k (aV (onum,obuy,osel,oday,oext,olns) l i (day,byy,no,2,line,art,q,unit,p,un,to) x).2).map ai.tup,()):=by
 have hdf:=hl _ (aiz hd)
 obtain⟨_,_,_,_,_,_,hu⟩:=bz hdf
 obtain⟨uq,_⟩:=cR hu
 have h21:((2:Int)==1)=false:=rfl
 have h22:((2:Int)==2)=true:=rfl
 have h23:((2:Int)==3)=false:=rfl
 have h24:((2:Int)==4)=false:=rfl
 have h25:((2:Int)==5)=false:=rfl
 have h26:((2:Int)==6)=false:=rfl
 have h27:((2:Int)==7)=false:=rfl
 have h28:((2:Int)==8)=false:=rfl
 have h29:((2:Int)==9)=false:=rfl
 unfold aT
 dsimp only
 rw[bR hd,ajq]
 dsimp only
 rw[gv,hf]
 simp only[h21,h22,h23,h24,h25,h26,h27,h28,h29,ajC,ajB,aI,ajt,ajq,qD hx hd]
 rfl
theorem afa {onum obuy osel:Bys} {oday oext:Int} {olns:List aL} {day byy no line:Int} {art:Bys} {q:ah} {unit:Bys} {p:ah} {un to:Int} {i:Nat} (he0:0≤oext) (he1:oext≤1000) (hl:∀ d,d∈l→bf d=0)
 (hd:l[i]? =some (day,byy,no,3,line,art,q,unit,p,un,to)) {k:Nat} {x:ai} (hf:bU line 0 A=some k) (hx:A[k]? =some x) (hs:LOk x) (hw:WOk l x):
 aT ((onum,obuy,osel,oday,oext,olns),l,mapOf A,ref,pts,wt,()) (i:Int) (A.map ai.tup)=some ((aV (onum,obuy,osel,oday,oext,olns) l i (day,byy,no,3,line,art,q,unit,p,un,to) x).1,((onum,obuy,osel,oday,oext,olns),l,mapOf A,ref,pts,wt,()),(A.set k (aV (onum,obuy,osel,oday,oext,olns) l i (day,byy,no,3,line,art,q,unit,p,un,to) x).2).map ai.tup,()):=by
 have hdf:=hl _ (aiz hd)
 obtain⟨_,_,_,_,_,_,hu⟩:=bz hdf
 obtain⟨uq,_⟩:=cR hu
 have h31:((3:Int)==1)=false:=rfl
 have h32:((3:Int)==2)=false:=rfl
 have h33:((3:Int)==3)=true:=rfl
 have h34:((3:Int)==4)=false:=rfl
 have h35:((3:Int)==5)=false:=rfl
 have h36:((3:Int)==6)=false:=rfl
 have h37:((3:Int)==7)=false:=rfl
 have h38:((3:Int)==8)=false:=rfl
 have h39:((3:Int)==9)=false:=rfl
 unfold aT
 dsimp only
 rw[bR hd,ajq]
 dsimp only
 rw[gv,hf]
 simp only[h31,h32,h33,h34,h35,h36,h37,h38,h39,ajC,ajB,aI,ajt,ajq,qD hx hd]
 rfl
theorem afb {onum obuy osel:Bys} {oday oext:Int} {olns:List aL} {day byy no line:Int} {art:Bys} {q:ah} {unit:Bys} {p:ah} {un to:Int} {i:Nat} (he0:0≤oext) (he1:oext≤1000) (hl:∀ d,d∈l→bf d=0)
 (hd:l[i]? =some (day,byy,no,4,line,art,q,unit,p,un,to)) {k:Nat} {x:ai} (hf:bU line 0 A=some k) (hx:A[k]? =some x) (hs:LOk x) (hw:WOk l x):
 aT ((onum,obuy,osel,oday,oext,olns),l,mapOf A,ref,pts,wt,()) (i:Int) (A.map ai.tup)=some ((aV (onum,obuy,osel,oday,oext,olns) l i (day,byy,no,4,line,art,q,unit,p,un,to) x).1,((onum,obuy,osel,oday,oext,olns),l,mapOf A,ref,pts,wt,()),(A.set k (aV (onum,obuy,osel,oday,oext,olns) l i (day,byy,no,4,line,art,q,unit,p,un,to) x).2).map ai.tup,()):=by
 have hdf:=hl _ (aiz hd)
 obtain⟨_,_,_,_,_,_,hu⟩:=bz hdf
 obtain⟨uq,_⟩:=cR hu
 have h41:((4:Int)==1)=false:=rfl
 have h42:((4:Int)==2)=false:=rfl
 have h43:((4:Int)==3)=false:=rfl
 have h44:((4:Int)==4)=true:=rfl
 have h45:((4:Int)==5)=false:=rfl
 have h46:((4:Int)==6)=false:=rfl
 have h47:((4:Int)==7)=false:=rfl
 have h48:((4:Int)==8)=false:=rfl
 have h49:((4:Int)==9)=false:=rfl
 unfold aT
 dsimp only
 rw[bR hd,ajq]
 dsimp only
 rw[gv,hf]
 simp only[h41,h42,h43,h44,h45,h46,h47,h48,h49,ajC,ajB,aI,ajt,ajq,qD hx hd]
 rfl
theorem afc {onum obuy osel:Bys} {oday oext:Int} {olns:List aL} {day byy no line:Int} {art:Bys} {q:ah} {unit:Bys} {p:ah} {un to:Int} {i:Nat} (he0:0≤oext) (he1:oext≤1000) (hl:∀ d,d∈l→bf d=0)
 (hd:l[i]? =some (day,byy,no,5,line,art,q,unit,p,un,to)) {k:Nat} {x:ai} (hf:bU line 0 A=some k) (hx:A[k]? =some x) (hs:LOk x) (hw:WOk l x):
 aT ((onum,obuy,osel,oday,oext,olns),l,mapOf A,ref,pts,wt,()) (i:Int) (A.map ai.tup)=some ((aV (onum,obuy,osel,oday,oext,olns) l i (day,byy,no,5,line,art,q,unit,p,un,to) x).1,((onum,obuy,osel,oday,oext,olns),l,mapOf A,ref,pts,wt,()),(A.set k (aV (onum,obuy,osel,oday,oext,olns) l i (day,byy,no,5,line,art,q,unit,p,un,to) x).2).map ai.tup,()):=by
 have hdf:=hl _ (aiz hd)
 obtain⟨_,_,_,_,_,_,hu⟩:=bz hdf
 obtain⟨uq,_⟩:=cR hu
 have h51:((5:Int)==1)=false:=rfl
 have h52:((5:Int)==2)=false:=rfl
 have h53:((5:Int)==3)=false:=rfl
 have h54:((5:Int)==4)=false:=rfl
 have h55:((5:Int)==5)=true:=rfl
 have h56:((5:Int)==6)=false:=rfl
 have h57:((5:Int)==7)=false:=rfl
 have h58:((5:Int)==8)=false:=rfl
 have h59:((5:Int)==9)=false:=rfl
 unfold aT
 dsimp only
 rw[bR hd,ajq]
 dsimp only
 rw[gv,hf]
 simp only[h51,h52,h53,h54,h55,h56,h57,h58,h59,ajC,ajB,aI,ajt,ajq,nZ hx hs hw hl,gS]
 have ha:aV (onum,obuy,osel,oday,oext,olns) l i (day,byy,no,5,line,art,q,unit,p,un,to) x=(if (br l (day,byy,no,5,line,art,q,unit,p,un,to) x).1=0 then (0,(br l (day,byy,no,5,line,art,q,unit,p,un,to) x).2.clr) else br l (day,byy,no,5,line,art,q,unit,p,un,to) x):=rfl
 rw[ha]
 by_cases e:(br l (day,byy,no,5,line,art,q,unit,p,un,to) x).1=0
 ·rw[ajO e,e]
  simp only[show ((0:Int)==0)=true from rfl,ajC,ajq,fV (PZ hx _)]
  simp only[true_or,or_true,ajJ,ajC]
  refine congrArg some (Prod.ext rfl (Prod.ext rfl (Prod.ext ?_ rfl)))
  exact VQ (br l (day,byy,no,5,line,art,q,unit,p,un,to) x).2 ((br l (day,byy,no,5,line,art,q,unit,p,un,to) x).2.clr) _ rfl
 ·rw[ajN e,cr e,ajB]
  rfl
theorem afd {onum obuy osel:Bys} {oday oext:Int} {olns:List aL} {day byy no line:Int} {art:Bys} {q:ah} {unit:Bys} {p:ah} {un to:Int} {i:Nat} (he0:0≤oext) (he1:oext≤1000) (hl:∀ d,d∈l→bf d=0)
 (hd:l[i]? =some (day,byy,no,6,line,art,q,unit,p,un,to)) {k:Nat} {x:ai} (hf:bU line 0 A=some k) (hx:A[k]? =some x) (hs:LOk x) (hw:WOk l x):
 aT ((onum,obuy,osel,oday,oext,olns),l,mapOf A,ref,pts,wt,()) (i:Int) (A.map ai.tup)=some ((aV (onum,obuy,osel,oday,oext,olns) l i (day,byy,no,6,line,art,q,unit,p,un,to) x).1,((onum,obuy,osel,oday,oext,olns),l,mapOf A,ref,pts,wt,()),(A.set k (aV (onum,obuy,osel,oday,oext,olns) l i (day,byy,no,6,line,art,q,unit,p,un,to) x).2).map ai.tup,()):=by
 have hdf:=hl _ (aiz hd)
 obtain⟨_,_,_,_,_,_,hu⟩:=bz hdf
 obtain⟨uq,_⟩:=cR hu
 have h61:((6:Int)==1)=false:=rfl
 have h62:((6:Int)==2)=false:=rfl
 have h63:((6:Int)==3)=false:=rfl
 have h64:((6:Int)==4)=false:=rfl
 have h65:((6:Int)==5)=false:=rfl
 have h66:((6:Int)==6)=true:=rfl
 have h67:((6:Int)==7)=false:=rfl
 have h68:((6:Int)==8)=false:=rfl
 have h69:((6:Int)==9)=false:=rfl
 unfold aT
 dsimp only
 rw[bR hd,ajq]
 dsimp only
 rw[gv,hf]
 simp only[h61,h62,h63,h64,h65,h66,h67,h68,h69,ajC,ajB,aI,ajt,ajq,nZ hx hs hw hl,gS]
 have ha:aV (onum,obuy,osel,oday,oext,olns) l i (day,byy,no,6,line,art,q,unit,p,un,to) x=(if (br l (day,byy,no,6,line,art,q,unit,p,un,to) x).1=0 then (0,(br l (day,byy,no,6,line,art,q,unit,p,un,to) x).2.clr) else br l (day,byy,no,6,line,art,q,unit,p,un,to) x):=rfl
 rw[ha]
 by_cases e:(br l (day,byy,no,6,line,art,q,unit,p,un,to) x).1=0
 ·rw[ajO e,e]
  simp only[show ((0:Int)==0)=true from rfl,ajC,ajq,fV (PZ hx _)]
  simp only[true_or,or_true,ajJ,ajC]
  refine congrArg some (Prod.ext rfl (Prod.ext rfl (Prod.ext ?_ rfl)))
  exact VQ (br l (day,byy,no,6,line,art,q,unit,p,un,to) x).2 ((br l (day,byy,no,6,line,art,q,unit,p,un,to) x).2.clr) _ rfl
 ·rw[ajN e,cr e,ajB]
  rfl
theorem afe {onum obuy osel:Bys} {oday oext:Int} {olns:List aL} {day byy no line:Int} {art:Bys} {q:ah} {unit:Bys} {p:ah} {un to:Int} {i:Nat} (he0:0≤oext) (he1:oext≤1000) (hl:∀ d,d∈l→bf d=0)
 (hd:l[i]? =some (day,byy,no,7,line,art,q,unit,p,un,to)) {k:Nat} {x:ai} (hf:bU line 0 A=some k) (hx:A[k]? =some x) (hs:LOk x) (hw:WOk l x):
 aT ((onum,obuy,osel,oday,oext,olns),l,mapOf A,ref,pts,wt,()) (i:Int) (A.map ai.tup)=some ((aV (onum,obuy,osel,oday,oext,olns) l i (day,byy,no,7,line,art,q,unit,p,un,to) x).1,((onum,obuy,osel,oday,oext,olns),l,mapOf A,ref,pts,wt,()),(A.set k (aV (onum,obuy,osel,oday,oext,olns) l i (day,byy,no,7,line,art,q,unit,p,un,to) x).2).map ai.tup,()):=by
 have hdf:=hl _ (aiz hd)
 obtain⟨_,_,_,_,_,_,hu⟩:=bz hdf
 obtain⟨uq,_⟩:=cR hu
 have h71:((7:Int)==1)=false:=rfl
 have h72:((7:Int)==2)=false:=rfl
 have h73:((7:Int)==3)=false:=rfl
 have h74:((7:Int)==4)=false:=rfl
 have h75:((7:Int)==5)=false:=rfl
 have h76:((7:Int)==6)=false:=rfl
 have h77:((7:Int)==7)=true:=rfl
 have h78:((7:Int)==8)=false:=rfl
 have h79:((7:Int)==9)=false:=rfl
 unfold aT
 dsimp only
 rw[bR hd,ajq]
 dsimp only
 rw[gv,hf]
 have hq:qOk q false=true:=uq rfl
 simp only[h71,h72,h73,h74,h75,h76,h77,h78,h79,ajC,ajB,aI,ajt,ajq,Fu hx hs (d:=(day,byy,no,7,line,art,q,unit,p,un,to)) hq,gS]
 have ha:aV (onum,obuy,osel,oday,oext,olns) l i (day,byy,no,7,line,art,q,unit,p,un,to) x=(if kR oday (day,byy,no,7,line,art,q,unit,p,un,to) x=0 then (0,{ x with ono:=no,oq:=aR q,ount:=un }) else (kR oday (day,byy,no,7,line,art,q,unit,p,un,to) x,x)):=rfl
 rw[ha]
 by_cases e:kR oday (day,byy,no,7,line,art,q,unit,p,un,to) x=0
 ·rw[ajO e,show kR (cG (onum,obuy,osel,oday,oext,olns)) (day,byy,no,7,line,art,q,unit,p,un,to) x=0 from e]
  simp only[show ((0:Int)==0)=true from rfl,ajC,ajq,fV hx]
  simp only[true_or,or_true,ajJ,ajC]
  rw[show iO (q.1,q.2)=some (aR q,()) from nM hq,ajq]
  simp only[Gr hx,ajq,aiL]
  rw[oF { x with ono:=no,oq:=aR q,ount:=un } _ rfl]
 ·rw[ajN e,show (kR (cG (onum,obuy,osel,oday,oext,olns)) (day,byy,no,7,line,art,q,unit,p,un,to) x==0)=false from cr e,ajB,jV hx]
  rfl
theorem aff {onum obuy osel:Bys} {oday oext:Int} {olns:List aL} {day byy no line:Int} {art:Bys} {q:ah} {unit:Bys} {p:ah} {un to:Int} {i:Nat} (he0:0≤oext) (he1:oext≤1000) (hl:∀ d,d∈l→bf d=0)
 (hd:l[i]? =some (day,byy,no,8,line,art,q,unit,p,un,to)) {k:Nat} {x:ai} (hf:bU line 0 A=some k) (hx:A[k]? =some x) (hs:LOk x) (hw:WOk l x):
 aT ((onum,obuy,osel,oday,oext,olns),l,mapOf A,ref,pts,wt,()) (i:Int) (A.map ai.tup)=some ((aV (onum,obuy,osel,oday,oext,olns) l i (day,byy,no,8,line,art,q,unit,p,un,to) x).1,((onum,obuy,osel,oday,oext,olns),l,mapOf A,ref,pts,wt,()),(A.set k (aV (onum,obuy,osel,oday,oext,olns) l i (day,byy,no,8,line,art,q,unit,p,un,to) x).2).map ai.tup,()):=by
 have hdf:=hl _ (aiz hd)
 obtain⟨_,_,_,_,_,_,hu⟩:=bz hdf
 obtain⟨uq,_⟩:=cR hu
 have h81:((8:Int)==1)=false:=rfl
 have h82:((8:Int)==2)=false:=rfl
 have h83:((8:Int)==3)=false:=rfl
 have h84:((8:Int)==4)=false:=rfl
 have h85:((8:Int)==5)=false:=rfl
 have h86:((8:Int)==6)=false:=rfl
 have h87:((8:Int)==7)=false:=rfl
 have h88:((8:Int)==8)=true:=rfl
 have h89:((8:Int)==9)=false:=rfl
 unfold aT
 dsimp only
 rw[bR hd,ajq]
 dsimp only
 rw[gv,hf]
 simp only[h81,h82,h83,h84,h85,h86,h87,h88,h89,ajC,ajB,aI,ajt,ajq,Ju hx hs]
 rfl
theorem afg {onum obuy osel:Bys} {oday oext:Int} {olns:List aL} {day byy no line:Int} {art:Bys} {q:ah} {unit:Bys} {p:ah} {un to:Int} {i:Nat} (he0:0≤oext) (he1:oext≤1000) (hl:∀ d,d∈l→bf d=0)
 (hd:l[i]? =some (day,byy,no,9,line,art,q,unit,p,un,to)) {k:Nat} {x:ai} (hf:bU line 0 A=some k) (hx:A[k]? =some x) (hs:LOk x) (hw:WOk l x):
 aT ((onum,obuy,osel,oday,oext,olns),l,mapOf A,ref,pts,wt,()) (i:Int) (A.map ai.tup)=some ((aV (onum,obuy,osel,oday,oext,olns) l i (day,byy,no,9,line,art,q,unit,p,un,to) x).1,((onum,obuy,osel,oday,oext,olns),l,mapOf A,ref,pts,wt,()),(A.set k (aV (onum,obuy,osel,oday,oext,olns) l i (day,byy,no,9,line,art,q,unit,p,un,to) x).2).map ai.tup,()):=by
 have hdf:=hl _ (aiz hd)
 obtain⟨_,_,_,_,_,_,hu⟩:=bz hdf
 obtain⟨uq,_⟩:=cR hu
 have h91:((9:Int)==1)=false:=rfl
 have h92:((9:Int)==2)=false:=rfl
 have h93:((9:Int)==3)=false:=rfl
 have h94:((9:Int)==4)=false:=rfl
 have h95:((9:Int)==5)=false:=rfl
 have h96:((9:Int)==6)=false:=rfl
 have h97:((9:Int)==7)=false:=rfl
 have h98:((9:Int)==8)=false:=rfl
 have h99:((9:Int)==9)=true:=rfl
 unfold aT
 dsimp only
 rw[bR hd,ajq]
 dsimp only
 rw[gv,hf]
 have hq:qOk q false=true:=uq rfl
 simp only[h91,h92,h93,h94,h95,h96,h97,h98,h99,ajC,ajB,aI,ajt,ajq,qC hx hs (o:=(onum,obuy,osel,oday,oext,olns)) he0 he1 (d:=(day,byy,no,9,line,art,q,unit,p,un,to)) hq,gS]
 have ha:aV (onum,obuy,osel,oday,oext,olns) l i (day,byy,no,9,line,art,q,unit,p,un,to) x=(if (cm oext (day,byy,no,9,line,art,q,unit,p,un,to) x).1=0 then (0,(cm oext (day,byy,no,9,line,art,q,unit,p,un,to) x).2.clr) else cm oext (day,byy,no,9,line,art,q,unit,p,un,to) x):=rfl
 rw[ha]
 by_cases e:(cm oext (day,byy,no,9,line,art,q,unit,p,un,to) x).1=0
 ·rw[ajO e,show (cm (bX (onum,obuy,osel,oday,oext,olns)) (day,byy,no,9,line,art,q,unit,p,un,to) x).1=0 from e]
  simp only[show ((0:Int)==0)=true from rfl,ajC,ajq,fV (PZ hx _)]
  simp only[true_or,or_true,ajJ,ajC]
  refine congrArg some (Prod.ext rfl (Prod.ext rfl (Prod.ext ?_ rfl)))
  exact VQ (cm oext (day,byy,no,9,line,art,q,unit,p,un,to) x).2 ((cm oext (day,byy,no,9,line,art,q,unit,p,un,to) x).2.clr) _ rfl
 ·rw[ajN e,show ((cm (bX (onum,obuy,osel,oday,oext,olns)) (day,byy,no,9,line,art,q,unit,p,un,to) x).1==0)=false from cr e,ajB]
  rfl
theorem aea {onum obuy osel:Bys} {oday oext:Int} {olns:List aL} {day byy no line:Int} {art:Bys} {q:ah} {unit:Bys} {p:ah} {un to:Int} {i:Nat} (he0:0≤oext) (he1:oext≤1000) (hl:∀ d,d∈l→bf d=0)
 (hd:l[i]? =some (day,byy,no,10,line,art,q,unit,p,un,to)) {k:Nat} {x:ai} (hf:bU line 0 A=some k) (hx:A[k]? =some x) (hs:LOk x) (hw:WOk l x):
 aT ((onum,obuy,osel,oday,oext,olns),l,mapOf A,ref,pts,wt,()) (i:Int) (A.map ai.tup)=some ((aV (onum,obuy,osel,oday,oext,olns) l i (day,byy,no,10,line,art,q,unit,p,un,to) x).1,((onum,obuy,osel,oday,oext,olns),l,mapOf A,ref,pts,wt,()),(A.set k (aV (onum,obuy,osel,oday,oext,olns) l i (day,byy,no,10,line,art,q,unit,p,un,to) x).2).map ai.tup,()):=by
 have hdf:=hl _ (aiz hd)
 obtain⟨_,_,_,_,_,_,hu⟩:=bz hdf
 obtain⟨uq,_⟩:=cR hu
 have h101:((10:Int)==1)=false:=rfl
 have h102:((10:Int)==2)=false:=rfl
 have h103:((10:Int)==3)=false:=rfl
 have h104:((10:Int)==4)=false:=rfl
 have h105:((10:Int)==5)=false:=rfl
 have h106:((10:Int)==6)=false:=rfl
 have h107:((10:Int)==7)=false:=rfl
 have h108:((10:Int)==8)=false:=rfl
 have h109:((10:Int)==9)=false:=rfl
 unfold aT
 dsimp only
 rw[bR hd,ajq]
 dsimp only
 rw[gv,hf]
 have hq:qOk q false=true:=uq rfl
 simp only[h101,h102,h103,h104,h105,h106,h107,h108,h109,ajC,ajB,aI,ajt,ajq,qC hx hs (o:=(onum,obuy,osel,oday,oext,olns)) he0 he1 (d:=(day,byy,no,10,line,art,q,unit,p,un,to)) hq,gS]
 have ha:aV (onum,obuy,osel,oday,oext,olns) l i (day,byy,no,10,line,art,q,unit,p,un,to) x=cm oext (day,byy,no,10,line,art,q,unit,p,un,to) x:=rfl
 rw[ha]
 by_cases e:(cm oext (day,byy,no,10,line,art,q,unit,p,un,to) x).1=0
 ·rw[show ((cm (bX (onum,obuy,osel,oday,oext,olns)) (day,byy,no,10,line,art,q,unit,p,un,to) x).1==0)=true by show ((cm oext (day,byy,no,10,line,art,q,unit,p,un,to) x).1==0)=true;rw[e];rfl]
  rfl
 ·rw[show ((cm (bX (onum,obuy,osel,oday,oext,olns)) (day,byy,no,10,line,art,q,unit,p,un,to) x).1==0)=false from cr e]
  rfl
theorem aeb {onum obuy osel:Bys} {oday oext:Int} {olns:List aL} {day byy no line:Int} {art:Bys} {q:ah} {unit:Bys} {p:ah} {un to:Int} {i:Nat} (he0:0≤oext) (he1:oext≤1000) (hl:∀ d,d∈l→bf d=0)
 (hd:l[i]? =some (day,byy,no,11,line,art,q,unit,p,un,to)) {k:Nat} {x:ai} (hf:bU line 0 A=some k) (hx:A[k]? =some x) (hs:LOk x) (hw:WOk l x):
 aT ((onum,obuy,osel,oday,oext,olns),l,mapOf A,ref,pts,wt,()) (i:Int) (A.map ai.tup)=some ((aV (onum,obuy,osel,oday,oext,olns) l i (day,byy,no,11,line,art,q,unit,p,un,to) x).1,((onum,obuy,osel,oday,oext,olns),l,mapOf A,ref,pts,wt,()),(A.set k (aV (onum,obuy,osel,oday,oext,olns) l i (day,byy,no,11,line,art,q,unit,p,un,to) x).2).map ai.tup,()):=by
 have hdf:=hl _ (aiz hd)
 obtain⟨_,_,_,_,_,_,hu⟩:=bz hdf
 obtain⟨uq,_⟩:=cR hu
 have h111:((11:Int)==1)=false:=rfl
 have h112:((11:Int)==2)=false:=rfl
 have h113:((11:Int)==3)=false:=rfl
 have h114:((11:Int)==4)=false:=rfl
 have h115:((11:Int)==5)=false:=rfl
 have h116:((11:Int)==6)=false:=rfl
 have h117:((11:Int)==7)=false:=rfl
 have h118:((11:Int)==8)=false:=rfl
 have h119:((11:Int)==9)=false:=rfl
 unfold aT
 dsimp only
 rw[bR hd,ajq]
 dsimp only
 rw[gv,hf]
 have hq:qOk q false=true:=uq rfl
 simp only[h111,h112,h113,h114,h115,h116,h117,h118,h119,ajC,ajB,aI,ajt,ajq,qC hx hs (o:=(onum,obuy,osel,oday,oext,olns)) he0 he1 (d:=(day,byy,no,11,line,art,q,unit,p,un,to)) hq,gS]
 have ha:aV (onum,obuy,osel,oday,oext,olns) l i (day,byy,no,11,line,art,q,unit,p,un,to) x=cm oext (day,byy,no,11,line,art,q,unit,p,un,to) x:=rfl
 rw[ha]
 by_cases e:(cm oext (day,byy,no,11,line,art,q,unit,p,un,to) x).1=0
 ·rw[show ((cm (bX (onum,obuy,osel,oday,oext,olns)) (day,byy,no,11,line,art,q,unit,p,un,to) x).1==0)=true by show ((cm oext (day,byy,no,11,line,art,q,unit,p,un,to) x).1==0)=true;rw[e];rfl]
  rfl
 ·rw[show ((cm (bX (onum,obuy,osel,oday,oext,olns)) (day,byy,no,11,line,art,q,unit,p,un,to) x).1==0)=false from cr e]
  rfl
theorem Jt {i:Nat} {d:aa} (hA:Sound l A) (hl:∀ d,d∈l→bf d=0) (hd:l[i]? =some d) (he0:0≤bX o) (he1:bX o≤1000):
 aT (o,l,mapOf A,ref,pts,wt,()) (i:Int) (A.map ai.tup)=some ((bN o l i d A).1,(o,l,mapOf (bN o l i d A).2,ref,pts,wt,()),(bN o l i d A).2.map ai.tup,()):=by
 obtain⟨_,_,_,hk,_,_,_⟩:=bz (hl d (aiz hd))
 by_cases k1:aF d=1
 ·unfold aT
  dsimp only
  rw[bR hd,ajq,show (d.2.2.2.1==1)=true by simpa using k1,ajC]
  rw[KK hd k1,ajq]
 ·cases hf:dH (bA d) A with
  | none=>
   rw[Lb k1 hf]
   unfold aT
   dsimp only
   rw[bR hd,ajq,show (d.2.2.2.1==1)=false by simpa using k1,ajB]
   rw[gv,show bU d.2.2.2.2.1 0 A=none from hf]
   rfl
  | some k=>
   obtain⟨x,hx,hxn⟩:=pU hf
   rw[Ia k1 hf hx]
   obtain⟨hs,hw⟩:=hA.line x (aiz hx)
   have hm:mapOf (A.set k (aV o l i d x).2)=mapOf A:=adm A 0 (fun z hz=>by
    rw[hx] at hz;cases hz
    exact (BS (o:=o) hs hw hl hd).2.2.1)
   rw[hm]
   obtain⟨onum,obuy,osel,oday,oext,olns⟩:=o
   obtain⟨day,byy,no,kk,line,art,q,unit,p,un,to⟩:=d
   have hk':kk=2∨kk=3∨kk=4∨kk=5∨kk=6∨kk=7∨kk=8∨kk=9∨kk=10∨kk=11:=by
    have h1:1≤kk∧kk≤11:=hk
    have h2:kk≠1:=k1
    omega
   rcases hk' with rfl | rfl | rfl | rfl | rfl | rfl | rfl | rfl | rfl | rfl
   ·exact ae9 he0 he1 hl hd hf hx hs hw
   ·exact afa he0 he1 hl hd hf hx hs hw
   ·exact afb he0 he1 hl hd hf hx hs hw
   ·exact afc he0 he1 hl hd hf hx hs hw
   ·exact afd he0 he1 hl hd hf hx hs hw
   ·exact afe he0 he1 hl hd hf hx hs hw
   ·exact aff he0 he1 hl hd hf hx hs hw
   ·exact afg he0 he1 hl hd hf hx hs hw
   ·exact aea he0 he1 hl hd hf hx hs hw
   ·exact aeb he0 he1 hl hd hf hx hs hw
end Go.Md
