/-
  Plain facts: deeds and orders checked; what a deed does with a line. No condition.
-/
import Derived.Test.YtcpmaicaibdafaaGreatDoorXo
import Derived.Test.YtcpmaicaibdafaaGreatDoorXr
set_option linter.all false
namespace Go.Md
open Go.Dn
theorem iU (k:Int):ri k=some (decide (k=5∨k=6∨k=7∨k=9),()):=by
 unfold ri
 by_cases h5:k=5
 ·subst h5;rfl
 by_cases h6:k=6
 ·subst h6;rfl
 by_cases h7:k=7
 ·subst h7;rfl
 by_cases h9:k=9
 ·subst h9;rfl
 have e5:(k==5)=false:=by simp[h5]
 have e6:(k==6)=false:=by simp[h6]
 have e7:(k==7)=false:=by simp[h7]
 have e9:(k==9)=false:=by simp[h9]
 simp only[e5,e6,e7,e9,acB]
 simp[h5,h6,h7,h9]
def usA (k:Int):Bool:=decide (k=1)
def usQ (k:Int):Bool:=decide (k≠3∧k≠4∧k≠5∧k≠6∧k≠8)
def usP (k:Int):Bool:=decide (k=1∨k=4)
def usU (k:Int):Bool:=decide (k=1∨k=3∨k=7)
def usT (k:Int):Bool:=decide (k=5∨k=6∨k=8)
theorem O2 (k:Int):A2 k=some ((usA k,usQ k,usA k,usP k,usU k,usT k),()):=by
 unfold A2
 by_cases h1:k=1
 ·subst h1;rfl
 by_cases h3:k=3
 ·subst h3;rfl
 by_cases h4:k=4
 ·subst h4;rfl
 by_cases h5:k=5
 ·subst h5;rfl
 by_cases h6:k=6
 ·subst h6;rfl
 by_cases h7:k=7
 ·subst h7;rfl
 by_cases h8:k=8
 ·subst h8;rfl
 have e1:(k==1)=false:=by simp[h1]
 have e3:(k==3)=false:=by simp[h3]
 have e4:(k==4)=false:=by simp[h4]
 have e5:(k==5)=false:=by simp[h5]
 have e6:(k==6)=false:=by simp[h6]
 have e8:(k==8)=false:=by simp[h8]
 have e7:(k==7)=false:=by simp[h7]
 simp only[e1,e3,e4,e5,e6,e7,e8,acB]
 simp[h1,h3,h4,h5,h6,h7,h8,usA,usQ,usP,usU,usT]
def D7 (n:Int):Bool:=decide (1≤n∧n≤3652059)
def GN (n:Int):Bool:=decide (1≤n∧n≤2000)
def Tl (ua uq up uu ut k2:Bool) (art:Bys) (q:ah) (unit:Bys) (p:ah) (un to:Int):Int:=
 bif uq&& !qOk q k2 then 1
 else bif up&& !inR p 0 1000000000 4 then 1
 else bif uu&& !D7 un then 1
 else bif ua&&(!cz art|| !cz unit) then 5
 else bif ut&& !GN to then 1
 else bif (!ua&& !(art==[]))||((!uq&& !(q.1==0&&q.2==0))||((!ua&& !(unit==[]))||((!up&& !(p.1==0&&p.2==0))||((!uu&&un != 0)||(!ut&&to != 0))))) then 3
 else 0
def Mb (d:aa):Int:=
 Tl (usA d.2.2.2.1) (usQ d.2.2.2.1) (usP d.2.2.2.1) (usU d.2.2.2.1) (usT d.2.2.2.1) (d.2.2.2.1==2) d.2.2.2.2.2.1 d.2.2.2.2.2.2.1 d.2.2.2.2.2.2.2.1 d.2.2.2.2.2.2.2.2.1 d.2.2.2.2.2.2.2.2.2.1 d.2.2.2.2.2.2.2.2.2.2
theorem Ru (n:Int):mg n=some (D7 n,()):=nC n
theorem XD (n:Int):bB n 1 2000=some (!GN n,()):=by
 rw[cT]
 congr 2
 unfold GN
 by_cases h1:1≤n<;>by_cases h2:n≤2000<;>simp[h1,h2]<;>omega
theorem Lr (d:aa):vL d=some (Mb d,()):=by
 obtain⟨day,byy,no,k,line,art,⟨q1,q2⟩,unit,⟨p1,p2⟩,un,to⟩:=d
 unfold vL Mb
 dsimp only
 rw[O2,acn]
 dsimp only
 rw[yC]
 simp only[vo,Ru,mh,XD,acn]
 generalize usA k=ua
 generalize usQ k=uq
 generalize usP k=up
 generalize usU k=uu
 generalize usT k=ut
 generalize (k==2)=k2
 unfold Tl
 generalize qOk (q1,q2) k2=b1
 have step1:∀ (A:Option ((Int×Unit) ⊕ (Int×Int×Int×Int×Int×Bys×Int×Int×Bys×Int×Int×Int×Int×Bool×Bool×Bool×Bool×Bool×Bool×Unit))) (v:Int×Int×Int×Int×Int×Bys×Int×Int×Bys×Int×Int×Int×Int×Bool×Bool×Bool×Bool×Bool×Bool×Unit) (K:(Int×Int×Int×Int×Int×Bys×Int×Int×Bys×Int×Int×Int×Int×Bool×Bool×Bool×Bool×Bool×Bool×Unit)→Option (Int×Unit)),
  A=some (.inr v)→aM A K=K v:=fun A v K h=>by rw[h];rfl
 cases uq
 ·refine Eq.trans (step1 _ _ _ (by exact rfl)) ?_
  cases up
  ·refine Eq.trans (step1 _ _ _ (by exact rfl)) ?_
   dsimp only
   generalize D7 un=b3
   generalize cz art=b4
   generalize cz unit=b5
   generalize GN to=b6
   generalize (art==[])=c1
   generalize (q1==0)=c2
   generalize (q2==0)=c3
   generalize (unit==[])=c4
   generalize (p1==0)=c5
   generalize (p2==0)=c6
   generalize (un != 0)=c7
   generalize (to != 0)=c8
   cases uu
   ·cases ua
    ·cases ut
     ·cases c1<;>first | rfl | (cases c4<;>first | rfl | (cases c7<;>first | rfl | (cases c8<;>first | rfl | (cases c2<;>first | rfl | (cases c3<;>first | rfl | (cases c5<;>first | rfl | (cases c6<;>rfl)))))))
     ·cases b6
      ·rfl
      ·cases c1<;>first | rfl | (cases c4<;>first | rfl | (cases c7<;>first | rfl | (cases c8<;>first | rfl | (cases c2<;>first | rfl | (cases c3<;>first | rfl | (cases c5<;>first | rfl | (cases c6<;>rfl)))))))
    ·cases b4
     ·rfl
     ·cases b5
      ·rfl
      ·cases ut
       ·cases c1<;>first | rfl | (cases c4<;>first | rfl | (cases c7<;>first | rfl | (cases c8<;>first | rfl | (cases c2<;>first | rfl | (cases c3<;>first | rfl | (cases c5<;>first | rfl | (cases c6<;>rfl)))))))
       ·cases b6
        ·rfl
        ·cases c1<;>first | rfl | (cases c4<;>first | rfl | (cases c7<;>first | rfl | (cases c8<;>first | rfl | (cases c2<;>first | rfl | (cases c3<;>first | rfl | (cases c5<;>first | rfl | (cases c6<;>rfl)))))))
   ·cases b3
    ·rfl
    ·cases ua
     ·cases ut
      ·cases c1<;>first | rfl | (cases c4<;>first | rfl | (cases c7<;>first | rfl | (cases c8<;>first | rfl | (cases c2<;>first | rfl | (cases c3<;>first | rfl | (cases c5<;>first | rfl | (cases c6<;>rfl)))))))
      ·cases b6
       ·rfl
       ·cases c1<;>first | rfl | (cases c4<;>first | rfl | (cases c7<;>first | rfl | (cases c8<;>first | rfl | (cases c2<;>first | rfl | (cases c3<;>first | rfl | (cases c5<;>first | rfl | (cases c6<;>rfl)))))))
     ·cases b4
      ·rfl
      ·cases b5
       ·rfl
       ·cases ut
        ·cases c1<;>first | rfl | (cases c4<;>first | rfl | (cases c7<;>first | rfl | (cases c8<;>first | rfl | (cases c2<;>first | rfl | (cases c3<;>first | rfl | (cases c5<;>first | rfl | (cases c6<;>rfl)))))))
        ·cases b6
         ·rfl
         ·cases c1<;>first | rfl | (cases c4<;>first | rfl | (cases c7<;>first | rfl | (cases c8<;>first | rfl | (cases c2<;>first | rfl | (cases c3<;>first | rfl | (cases c5<;>first | rfl | (cases c6<;>rfl)))))))
  ·dsimp only
   generalize inR (p1,p2) 0 1000000000 4=b2
   cases b2
   ·rfl
   ·refine Eq.trans (step1 _ _ _ (by exact rfl)) ?_
    dsimp only
    generalize D7 un=b3
    generalize cz art=b4
    generalize cz unit=b5
    generalize GN to=b6
    generalize (art==[])=c1
    generalize (q1==0)=c2
    generalize (q2==0)=c3
    generalize (unit==[])=c4
    generalize (p1==0)=c5
    generalize (p2==0)=c6
    generalize (un != 0)=c7
    generalize (to != 0)=c8
    cases uu
    ·cases ua
     ·cases ut
      ·cases c1<;>first | rfl | (cases c4<;>first | rfl | (cases c7<;>first | rfl | (cases c8<;>first | rfl | (cases c2<;>first | rfl | (cases c3<;>first | rfl | (cases c5<;>first | rfl | (cases c6<;>rfl)))))))
      ·cases b6
       ·rfl
       ·cases c1<;>first | rfl | (cases c4<;>first | rfl | (cases c7<;>first | rfl | (cases c8<;>first | rfl | (cases c2<;>first | rfl | (cases c3<;>first | rfl | (cases c5<;>first | rfl | (cases c6<;>rfl)))))))
     ·cases b4
      ·rfl
      ·cases b5
       ·rfl
       ·cases ut
        ·cases c1<;>first | rfl | (cases c4<;>first | rfl | (cases c7<;>first | rfl | (cases c8<;>first | rfl | (cases c2<;>first | rfl | (cases c3<;>first | rfl | (cases c5<;>first | rfl | (cases c6<;>rfl)))))))
        ·cases b6
         ·rfl
         ·cases c1<;>first | rfl | (cases c4<;>first | rfl | (cases c7<;>first | rfl | (cases c8<;>first | rfl | (cases c2<;>first | rfl | (cases c3<;>first | rfl | (cases c5<;>first | rfl | (cases c6<;>rfl)))))))
    ·cases b3
     ·rfl
     ·cases ua
      ·cases ut
       ·cases c1<;>first | rfl | (cases c4<;>first | rfl | (cases c7<;>first | rfl | (cases c8<;>first | rfl | (cases c2<;>first | rfl | (cases c3<;>first | rfl | (cases c5<;>first | rfl | (cases c6<;>rfl)))))))
       ·cases b6
        ·rfl
        ·cases c1<;>first | rfl | (cases c4<;>first | rfl | (cases c7<;>first | rfl | (cases c8<;>first | rfl | (cases c2<;>first | rfl | (cases c3<;>first | rfl | (cases c5<;>first | rfl | (cases c6<;>rfl)))))))
      ·cases b4
       ·rfl
       ·cases b5
        ·rfl
        ·cases ut
         ·cases c1<;>first | rfl | (cases c4<;>first | rfl | (cases c7<;>first | rfl | (cases c8<;>first | rfl | (cases c2<;>first | rfl | (cases c3<;>first | rfl | (cases c5<;>first | rfl | (cases c6<;>rfl)))))))
         ·cases b6
          ·rfl
          ·cases c1<;>first | rfl | (cases c4<;>first | rfl | (cases c7<;>first | rfl | (cases c8<;>first | rfl | (cases c2<;>first | rfl | (cases c3<;>first | rfl | (cases c5<;>first | rfl | (cases c6<;>rfl)))))))
 ·cases b1
  ·rfl
  ·refine Eq.trans (step1 _ _ _ (by exact rfl)) ?_
   cases up
   ·refine Eq.trans (step1 _ _ _ (by exact rfl)) ?_
    dsimp only
    generalize D7 un=b3
    generalize cz art=b4
    generalize cz unit=b5
    generalize GN to=b6
    generalize (art==[])=c1
    generalize (q1==0)=c2
    generalize (q2==0)=c3
    generalize (unit==[])=c4
    generalize (p1==0)=c5
    generalize (p2==0)=c6
    generalize (un != 0)=c7
    generalize (to != 0)=c8
    cases uu
    ·cases ua
     ·cases ut
      ·cases c1<;>first | rfl | (cases c4<;>first | rfl | (cases c7<;>first | rfl | (cases c8<;>first | rfl | (cases c2<;>first | rfl | (cases c3<;>first | rfl | (cases c5<;>first | rfl | (cases c6<;>rfl)))))))
      ·cases b6
       ·rfl
       ·cases c1<;>first | rfl | (cases c4<;>first | rfl | (cases c7<;>first | rfl | (cases c8<;>first | rfl | (cases c2<;>first | rfl | (cases c3<;>first | rfl | (cases c5<;>first | rfl | (cases c6<;>rfl)))))))
     ·cases b4
      ·rfl
      ·cases b5
       ·rfl
       ·cases ut
        ·cases c1<;>first | rfl | (cases c4<;>first | rfl | (cases c7<;>first | rfl | (cases c8<;>first | rfl | (cases c2<;>first | rfl | (cases c3<;>first | rfl | (cases c5<;>first | rfl | (cases c6<;>rfl)))))))
        ·cases b6
         ·rfl
         ·cases c1<;>first | rfl | (cases c4<;>first | rfl | (cases c7<;>first | rfl | (cases c8<;>first | rfl | (cases c2<;>first | rfl | (cases c3<;>first | rfl | (cases c5<;>first | rfl | (cases c6<;>rfl)))))))
    ·cases b3
     ·rfl
     ·cases ua
      ·cases ut
       ·cases c1<;>first | rfl | (cases c4<;>first | rfl | (cases c7<;>first | rfl | (cases c8<;>first | rfl | (cases c2<;>first | rfl | (cases c3<;>first | rfl | (cases c5<;>first | rfl | (cases c6<;>rfl)))))))
       ·cases b6
        ·rfl
        ·cases c1<;>first | rfl | (cases c4<;>first | rfl | (cases c7<;>first | rfl | (cases c8<;>first | rfl | (cases c2<;>first | rfl | (cases c3<;>first | rfl | (cases c5<;>first | rfl | (cases c6<;>rfl)))))))
      ·cases b4
       ·rfl
       ·cases b5
        ·rfl
        ·cases ut
         ·cases c1<;>first | rfl | (cases c4<;>first | rfl | (cases c7<;>first | rfl | (cases c8<;>first | rfl | (cases c2<;>first | rfl | (cases c3<;>first | rfl | (cases c5<;>first | rfl | (cases c6<;>rfl)))))))
         ·cases b6
          ·rfl
          ·cases c1<;>first | rfl | (cases c4<;>first | rfl | (cases c7<;>first | rfl | (cases c8<;>first | rfl | (cases c2<;>first | rfl | (cases c3<;>first | rfl | (cases c5<;>first | rfl | (cases c6<;>rfl)))))))
   ·dsimp only
    generalize inR (p1,p2) 0 1000000000 4=b2
    cases b2
    ·rfl
    ·refine Eq.trans (step1 _ _ _ (by exact rfl)) ?_
     dsimp only
     generalize D7 un=b3
     generalize cz art=b4
     generalize cz unit=b5
     generalize GN to=b6
     generalize (art==[])=c1
     generalize (q1==0)=c2
     generalize (q2==0)=c3
     generalize (unit==[])=c4
     generalize (p1==0)=c5
     generalize (p2==0)=c6
     generalize (un != 0)=c7
     generalize (to != 0)=c8
     cases uu
     ·cases ua
      ·cases ut
       ·cases c1<;>first | rfl | (cases c4<;>first | rfl | (cases c7<;>first | rfl | (cases c8<;>first | rfl | (cases c2<;>first | rfl | (cases c3<;>first | rfl | (cases c5<;>first | rfl | (cases c6<;>rfl)))))))
       ·cases b6
        ·rfl
        ·cases c1<;>first | rfl | (cases c4<;>first | rfl | (cases c7<;>first | rfl | (cases c8<;>first | rfl | (cases c2<;>first | rfl | (cases c3<;>first | rfl | (cases c5<;>first | rfl | (cases c6<;>rfl)))))))
      ·cases b4
       ·rfl
       ·cases b5
        ·rfl
        ·cases ut
         ·cases c1<;>first | rfl | (cases c4<;>first | rfl | (cases c7<;>first | rfl | (cases c8<;>first | rfl | (cases c2<;>first | rfl | (cases c3<;>first | rfl | (cases c5<;>first | rfl | (cases c6<;>rfl)))))))
         ·cases b6
          ·rfl
          ·cases c1<;>first | rfl | (cases c4<;>first | rfl | (cases c7<;>first | rfl | (cases c8<;>first | rfl | (cases c2<;>first | rfl | (cases c3<;>first | rfl | (cases c5<;>first | rfl | (cases c6<;>rfl)))))))
     ·cases b3
      ·rfl
      ·cases ua
       ·cases ut
        ·cases c1<;>first | rfl | (cases c4<;>first | rfl | (cases c7<;>first | rfl | (cases c8<;>first | rfl | (cases c2<;>first | rfl | (cases c3<;>first | rfl | (cases c5<;>first | rfl | (cases c6<;>rfl)))))))
        ·cases b6
         ·rfl
         ·cases c1<;>first | rfl | (cases c4<;>first | rfl | (cases c7<;>first | rfl | (cases c8<;>first | rfl | (cases c2<;>first | rfl | (cases c3<;>first | rfl | (cases c5<;>first | rfl | (cases c6<;>rfl)))))))
       ·cases b4
        ·rfl
        ·cases b5
         ·rfl
         ·cases ut
          ·cases c1<;>first | rfl | (cases c4<;>first | rfl | (cases c7<;>first | rfl | (cases c8<;>first | rfl | (cases c2<;>first | rfl | (cases c3<;>first | rfl | (cases c5<;>first | rfl | (cases c6<;>rfl)))))))
          ·cases b6
           ·rfl
           ·cases c1<;>first | rfl | (cases c4<;>first | rfl | (cases c7<;>first | rfl | (cases c8<;>first | rfl | (cases c2<;>first | rfl | (cases c3<;>first | rfl | (cases c5<;>first | rfl | (cases c6<;>rfl)))))))
def dX (d:aa):Int:=
 if ¬(1≤d.1∧d.1≤3652059) then 1
 else if ¬(1≤d.2.1∧d.2.1≤2) then 4
 else if ¬(1≤d.2.2.1∧d.2.2.1≤2000) then 1
 else if ¬(1≤d.2.2.2.1∧d.2.2.2.1≤11) then 4
 else if ¬((d.2.2.2.1=5∨d.2.2.2.1=6∨d.2.2.2.1=7∨d.2.2.2.1=9)↔d.2.1=2) then 4
 else if ¬(1≤d.2.2.2.2.1∧d.2.2.2.2.1≤99999) then 1
 else Mb d
theorem Qi (n a b:Int):decide (n<a∨b<n)= !decide (a≤n∧n≤b):=by
 by_cases h1:a≤n<;>by_cases h2:n≤b<;>simp[h1,h2]<;>omega
theorem Lo (d:aa):vJ d=some (dX d,()):=by
 unfold vJ dX
 simp only[nC,cT,Qi,iU,Lr,acn]
 by_cases h1:1≤d.1∧d.1≤3652059
 ·by_cases h2:1≤d.2.1∧d.2.1≤2
  ·by_cases h3:1≤d.2.2.1∧d.2.2.1≤2000
   ·by_cases h4:1≤d.2.2.2.1∧d.2.2.2.1≤11
    ·by_cases h5:(d.2.2.2.1=5∨d.2.2.2.1=6∨d.2.2.2.1=7∨d.2.2.2.1=9)↔d.2.1=2
     ·have e5:(decide (d.2.2.2.1=5∨d.2.2.2.1=6∨d.2.2.2.1=7∨d.2.2.2.1=9)==(d.2.1==2))=true:=by
       by_cases h6:d.2.1=2
       ·simp[h6,h5.2 h6]
       ·have:¬(d.2.2.2.1=5∨d.2.2.2.1=6∨d.2.2.2.1=7∨d.2.2.2.1=9):=fun h=>h6 (h5.1 h)
        simp[h6,this]
      by_cases h6:1≤d.2.2.2.2.1∧d.2.2.2.2.1≤99999
      ·rw[e5]
       simp only[h1,h2,h3,h4,h5,h6,iff_self,acI,aad,acB,not_true,acL,acw]
      ·rw[e5]
       simp only[h1,h2,h3,h4,h5,h6,iff_self,acI,acH,aad,aac,acB,acC,not_true,acR,acL,acO,acw]
     ·have e5:(decide (d.2.2.2.1=5∨d.2.2.2.1=6∨d.2.2.2.1=7∨d.2.2.2.1=9)==(d.2.1==2))=false:=by
       by_cases h6:d.2.1=2
       ·have:¬(d.2.2.2.1=5∨d.2.2.2.1=6∨d.2.2.2.1=7∨d.2.2.2.1=9):=fun h=>h5 ⟨fun _=>h6,fun _=>h⟩
        simp[h6,this]
       ·have:(d.2.2.2.1=5∨d.2.2.2.1=6∨d.2.2.2.1=7∨d.2.2.2.1=9):=Classical.byContradiction fun h=>h5 ⟨fun h'=>absurd h' h,fun h'=>absurd h' h6⟩
        simp[h6,this]
      rw[e5]
      simp only[h1,h2,h3,h4,h5,acI,aad,aac,acB,acC,not_true,acR,acL,acO,acw]
    ·simp only[h1,h2,h3,h4,acI,acH,aad,aac,acB,acC,not_true,acR,acL,acO,acw]
   ·simp only[h1,h2,h3,acI,acH,aad,aac,acB,acC,not_true,acR,acL,acO,acw]
  ·simp only[h1,h2,acI,acH,aad,aac,acB,acC,not_true,acR,acL,acO,acw]
 ·simp only[h1,acH,aac,acC,acR,acO]
theorem ef {d:aa} (h:dX d=0):(1≤d.1∧d.1≤3652059)∧(1≤d.2.1∧d.2.1≤2)∧(1≤d.2.2.1∧d.2.2.1≤2000)∧(1≤d.2.2.2.1∧d.2.2.2.1≤11)∧
 ((d.2.2.2.1=5∨d.2.2.2.1=6∨d.2.2.2.1=7∨d.2.2.2.1=9)↔d.2.1=2)∧(1≤d.2.2.2.2.1∧d.2.2.2.2.1≤99999)∧Mb d=0:=by
 unfold dX at h
 split at h
 ·cases h
 ·rename_i h1
  split at h
  ·cases h
  ·rename_i h2
   split at h
   ·cases h
   ·rename_i h3
    split at h
    ·cases h
    ·rename_i h4
     split at h
     ·cases h
     ·rename_i h5
      split at h
      ·cases h
      ·rename_i h6
       exact⟨aah.1 h1,aah.1 h2,aah.1 h3,aah.1 h4,aah.1 h5,aah.1 h6,h⟩
end Go.Md
namespace Go.Md
open Go.Dn
def dCw (a b:aa):Int:=if w64 (a.1 - b.1)≠0 then w64 (a.1 - b.1) else if w64 (a.2.1 - b.2.1)≠0 then w64 (a.2.1 - b.2.1) else w64 (a.2.2.1 - b.2.2.1)
theorem I2 (a b:aa):nF a b=some (dCw a b,()):=by
 unfold nF dCw
 generalize w64 (a.1 - b.1)=x
 generalize w64 (a.2.1 - b.2.1)=y
 generalize w64 (a.2.2.1 - b.2.2.1)=z
 simp only[abe,abg]
 have key:iter (X:=oe) (β:=oc) 8 (3,0,[x,y,z],()) s8=(bif x != 0 then some (Sum.inl (x,())) else bif y != 0 then some (Sum.inl (y,())) else bif z != 0 then some (Sum.inl (z,())) else some (Sum.inr ())):=by kernel_rfl
 show aM (β:=(Int×Unit)) (γ:=Unit) (iter 8 (3,0,[x,y,z],()) s8) _=_
 rw[key]
 by_cases hx:x=0
 ·subst hx
  by_cases hy:y=0
  ·subst hy
   by_cases hz:z=0
   ·subst hz;rfl
   ·have:(z != 0)=true:=by simp[hz]
    rw[this];simp[aM]
  ·have:(y != 0)=true:=by simp[hy]
   rw[this];simp[aM,hy]
 ·have:(x != 0)=true:=by simp[hx]
  rw[this];simp[aM,hx]
def gv:List aa→Option aa→Int→Int→Int
 | [],_,_,_=>0
 | d::r,p,nb,ns=>
  if dX d≠0 then dX d
  else if (p.any fun q=>decide (0≤dCw q d))=true then 8
  else if d.2.1=1 then (if d.2.2.1≠w64 (nb+1) then 9 else gv r (some d) d.2.2.1 ns)
  else (if d.2.2.1≠w64 (ns+1) then 9 else gv r (some d) nb d.2.2.1)
def wz (l:List aa):Int:=if 2000<l.length then 2 else gv l none 0 0
def cB {α:Type} (l:List α):Nat→Option α
 | 0=>none
 | i+1=>l[i]?
def dG (a0:List aa) (s:Int×Int×Int) (i:Nat) (y:aa) (k:(Int×Int×Int)→Option jD):Option jD:=
 if dX y≠0 then some (Sum.inl (dX y,()))
 else if ((cB a0 i).any fun q=>decide (0≤dCw q y))=true then some (Sum.inl (8,()))
 else if y.2.1=1 then (if y.2.2.1≠w64 (s.2.1+1) then some (Sum.inl (9,())) else k (s.1,y.2.2.1,s.2.2))
 else (if y.2.2.1≠w64 (s.2.2+1) then some (Sum.inl (9,())) else k (s.1,s.2.1,y.2.2.1))
theorem jy {a b:Int} (h:a≠b):(a != b)=true:=by simp[h]
theorem pG {a b:Int} (h:a≠b):(a==b)=false:=by simp[h]
theorem iK {α:Type} {l:List α} {i:Nat} {y:α} (h:l[i]? =some y):idx l (i:Int)=some y:=by
 unfold idx
 rw[acN (aas i)]
 exact h
theorem N6 (a0:List aa) (hl:a0.length≤2000) (s:Int×Int×Int) (i:Nat) (y:aa) (again:mG→Option jD) (hy:a0[i]? =some y):
 mE (a0,a0,(a0.length:Int),(i:Int),s.1,s.2.1,s.2.2,()) again=dG a0 s i y fun s'=>again (a0,a0,(a0.length:Int),((i+1:Nat):Int),s'.1,s'.2.1,s'.2.2,()):=by
 have hi:i<a0.length:=(aa2.1 hy).1
 unfold mE dG
 dsimp only
 rw[acF (show (i:Int)<(a0.length:Int) by omega),acC,iK hy,acn,Lo,acn]
 dsimp only
 have hw:w64 ((i:Int)+1)=((i+1:Nat):Int):=by rw[au (by omega) (by omega)];omega
 rw[hw]
 by_cases hf:dX y=0
 ·rw[hf,zne,acB,acM (by simp)]
  obtain⟨_,hby,_⟩:=ef hf
  have hprev':(bif decide ((i:Int)>0) then Option.bind (idx a0 (w64 ((i:Int) - 1))) fun y4=>Option.bind (nF y4 y) fun r5=>some (decide (r5.1≥0),()) else some (false,()))=some ((cB a0 i).any fun q=>decide (0≤dCw q y),()):=by
   cases i with
   | zero=>rfl
   | succ j=>
    have hj:j<a0.length:=by omega
    have hq:a0[j]? =some a0[j]:=aa0 hj
    have e:w64 (((j+1:Nat):Int) - 1)=(j:Int):=by rw[au (by omega) (by omega)];omega
    rw[acF (by omega),acC,e,iK hq,acn,I2,acn]
    simp only[cB,hq,Option.any_some]
  rw[hprev',acn]
  dsimp only
  cases ((cB a0 i).any fun q=>decide (0≤dCw q y)) with
  | true=>rfl
  | false=>
   rw[acB,acM (by simp)]
   by_cases h1:y.2.1=1
   ·rw[pG (show y.2.1≠0 by omega),acB,show (y.2.1==1)=true by simp[h1],acC,acN h1]
    by_cases hn:y.2.2.1=w64 (s.2.1+1)
    ·rw[show (y.2.2.1 != w64 (s.2.1+1))=false by simp[hn],acB,acM (by simp[hn])]
     rfl
    ·rw[jy hn,acC,acN hn]
   ·have h2:y.2.1=2:=by omega
    rw[pG (show y.2.1≠0 by omega),acB,pG h1,acB,show (y.2.1==2)=true by simp[h2],acC,acM h1]
    by_cases hn:y.2.2.1=w64 (s.2.2+1)
    ·rw[show (y.2.2.1 != w64 (s.2.2+1))=false by simp[hn],acB,acM (by simp[hn])]
     rfl
    ·rw[jy hn,acC,acN hn]
 ·rw[jy hf,acC,acN hf]
def Nq (f:Int):Option ((Int×Unit) ⊕ Unit):=if f=0 then some (Sum.inr ()) else some (Sum.inl (f,()))
theorem QF {f:Int} (h:f=0):Nq f=some (Sum.inr ()):=acN h
theorem LR {f:Int} (h:f≠0):Nq f=some (Sum.inl (f,())):=acM h
theorem Kt (a0:List aa):∀ (r:List aa) (i:Nat) (s:Int×Int×Int),a0.drop i=r→
 GG (dG a0) (fun _=>some (Sum.inr ())) r i s=Nq (gv r (cB a0 i) s.2.1 s.2.2)
 | [],_,_,_=>by simp[GG,gv,Nq]
 | y::r,i,s,hd=>by
  have hy:a0[i]? =some y:=by
   have:=congrArg (·[0]?) hd
   simpa [aaZ] using this
  have hr:a0.drop (i+1)=r:=by
   have:=congrArg List.tail hd
   simpa [abI] using this
  have hp:cB a0 (i+1)=some y:=hy
  show dG a0 s i y (fun s'=>GG (dG a0) (fun _=>some (Sum.inr ())) r (i+1) s')=_
  rw[show (fun s'=>GG (dG a0) (fun _=>some (Sum.inr ())) r (i+1) s')=fun s'=>Nq (gv r (cB a0 (i+1)) s'.2.1 s'.2.2) from funext fun s'=>Kt a0 r (i+1) s' hr,hp]
  unfold dG
  by_cases hf:dX y=0
  ·have e0:¬dX y≠0:=fun h=>h hf
   rw[acM e0]
   by_cases ha:((cB a0 i).any fun q=>decide (0≤dCw q y))=true
   ·rw[acN ha,show gv (y::r) (cB a0 i) s.2.1 s.2.2=8 by simp only[gv];rw[acM e0,acN ha]]
    rfl
   ·rw[acM ha]
    by_cases h1:y.2.1=1
    ·rw[acN h1]
     by_cases hn:y.2.2.1≠w64 (s.2.1+1)
     ·rw[acN hn,show gv (y::r) (cB a0 i) s.2.1 s.2.2=9 by simp only[gv];rw[acM e0,acM ha,acN h1,acN hn]]
      rfl
     ·rw[acM hn,show gv (y::r) (cB a0 i) s.2.1 s.2.2=gv r (some y) y.2.2.1 s.2.2 by rw[gv,acM e0,acM ha,acN h1,acM hn]]
    ·rw[acM h1]
     by_cases hn:y.2.2.1≠w64 (s.2.2+1)
     ·rw[acN hn,show gv (y::r) (cB a0 i) s.2.1 s.2.2=9 by simp only[gv];rw[acM e0,acM ha,acM h1,acN hn]]
      rfl
     ·rw[acM hn,show gv (y::r) (cB a0 i) s.2.1 s.2.2=gv r (some y) s.2.1 y.2.2.1 by rw[gv,acM e0,acM ha,acM h1,acM hn]]
  ·rw[acN hf,show gv (y::r) (cB a0 i) s.2.1 s.2.2=dX y by rw[gv,acN hf],LR hf]
theorem vm (l:List aa):mM l=some (wz l,()):=by
 unfold mM wz
 by_cases hl:2000<l.length
 ·rw[acF (show (l.length:Int)>2000 by omega),acC,acN hl]
 ·rw[acE (show ¬ (l.length:Int)>2000 by omega),acB,acM hl]
  have:=Nz (f:=mE) (fun (s:Int×Int×Int) (i:Nat)=>((l,l,(l.length:Int),(i:Int),s.1,s.2.1,s.2.2,()):mG)) l (dG l) (fun _=>some (Sum.inr ()))
   (fun s i y again hy=>N6 l (by omega) s i y again hy) (fun s again=>by
     unfold mE
     dsimp only
     rw[acE (by omega)];rfl) (0,0,0)
  refine (congrArg (fun z=>aM (β:=(Int×Unit)) (γ:=Unit) z fun _=>some (0,())) (this _ (by omega))).trans ?_
  rw[Kt l l 0 (0,0,0) rfl]
  simp only[cB]
  by_cases h:gv l none 0 0=0
  ·rw[QF h,h];rfl
  ·rw[LR h];rfl
theorem ES:∀ {l:List aa} {p:Option aa} {nb ns:Int},gv l p nb ns=0→∀ d,d∈l→dX d=0
 | [],_,_,_,_,_,h=>by cases h
 | y::r,p,nb,ns,h,d,hd=>by
  simp only[gv] at h
  by_cases hf:dX y=0
  ·rw[acM (by simp[hf])] at h
   rcases abp.1 hd with rfl | hd
   ·exact hf
   ·split at h
    ·cases h
    ·split at h
     ·split at h
      ·cases h
      ·exact ES h d hd
     ·split at h
      ·cases h
      ·exact ES h d hd
  ·rw[acN hf] at h
   exact absurd h hf
theorem MM {l:List aa} (h:wz l=0):l.length≤2000∧∀ d,d∈l→dX d=0:=by
 unfold wz at h
 split at h
 ·cases h
 ·rename_i hl
  exact⟨by omega,ES h⟩
abbrev ND (o:ai):=o.1
abbrev La (o:ai):=o.2.1
abbrev NF (o:ai):=o.2.2.1
abbrev iR (o:ai):=o.2.2.2.1
abbrev fM (o:ai):=o.2.2.2.2.1
abbrev uf (o:ai):=o.2.2.2.2.2
def iS (day:Int) (p:Option aY) (x:aY):Int:=
 if ¬(1≤x.1∧x.1≤99999) then 1
 else if (p.any fun q=>decide (x.1≤q.1))=true then 8
 else if cz x.2.1=false then 5
 else if qOk x.2.2.1 false=false then 1
 else if cz x.2.2.2.1=false then 5
 else if inR x.2.2.2.2.1 0 1000000000 4=false then 1
 else if ¬(day≤x.2.2.2.2.2∧x.2.2.2.2.2≤3652059) then 1
 else 0
def mL (day:Int):List aY→Option aY→Int
 | [],_=>0
 | x::r,p=>if iS day p x≠0 then iS day p x else mL day r (some x)
def s7 (o:ai):Int:=
 if cz (ND o)=false∨cz (La o)=false∨cz (NF o)=false then 5
 else if La o=NF o then 12
 else if ¬(1≤iR o∧iR o≤3652059) then 1
 else if ¬(0≤fM o∧fM o≤1000) then 1
 else if uf o=[] then 9
 else if 500<(uf o).length then 2
 else mL (iR o) (uf o) none
theorem Zy (b:Bool):((if b=true then (0:Int) else 1) != 0)= !b:=by cases b<;>rfl
theorem Lp (o:ai) (i:Nat) (x:aY) (hi:(uf o)[i]? =some x) (hl:(uf o).length≤500):vK o (i:Int)=some (iS (iR o) (cB (uf o) i) x,()):=by
 have hlt:i<(uf o).length:=(aa2.1 hi).1
 unfold vK
 rw[iK hi,acn]
 simp only[cT,Qi,mh,yC,vo,acn,Zy]
 have tail:∀ (p:Option aY) (hp:(p.any fun q=>decide (x.1≤q.1))=false) (h1:1≤x.1∧x.1≤99999),
  (bif !cz x.2.1 then some (5,()) else bif !qOk x.2.2.1 false then some ((if qOk x.2.2.1 false=true then 0 else 1),()) else bif !cz x.2.2.2.1 then some (5,()) else
    bif !inR x.2.2.2.2.1 0 1000000000 4 then some ((if inR x.2.2.2.2.1 0 1000000000 4=true then 0 else 1),()) else bif !decide (iR o≤x.2.2.2.2.2∧x.2.2.2.2.2≤3652059) then some (1,()) else some (0,()))=some (iS (iR o) p x,()):=fun p hp h1=>by
  unfold iS
  rw[acM (show ¬¬(1≤x.1∧x.1≤99999) from fun h=>h h1),acM (show ¬(p.any fun q=>decide (x.1≤q.1))=true by rw[hp];exact Z7)]
  cases cz x.2.1
  ·rfl
  ·cases qOk x.2.2.1 false
   ·rfl
   ·cases cz x.2.2.2.1
    ·rfl
    ·cases inR x.2.2.2.2.1 0 1000000000 4
     ·rfl
     ·by_cases hd:iR o≤x.2.2.2.2.2∧x.2.2.2.2.2≤3652059
      ·simp[hd]
      ·simp[hd]
 by_cases h1:1≤x.1∧x.1≤99999
 ·rw[acF h1,aad,acB]
  cases i with
  | zero=>
   rw[acE (show ¬((0:Nat):Int)>0 by omega),acB]
   exact tail none rfl h1
  | succ j=>
   have hq:(uf o)[j]? =some (uf o)[j]:=aa0 (by omega)
   have e:w64 (((j+1:Nat):Int) - 1)=(j:Int):=by rw[au (by omega) (by omega)];omega
   rw[acF (show ((j+1:Nat):Int)>0 by omega),acC,e,iK hq,acn]
   simp only[cB,hq]
   by_cases h2:x.1≤(uf o)[j].1
   ·rw[acF h2,acn]
    have:iS (iR o) (some (uf o)[j]) x=8:=by
     unfold iS
     rw[acM (show ¬¬(1≤x.1∧x.1≤99999) from fun h=>h h1),acN (show (Option.any (fun q=>decide (x.1≤q.1)) (some (uf o)[j]))=true from acF h2)]
    rw[this]
    rfl
   ·rw[acE h2,acn]
    exact tail (some (uf o)[j]) (by simp[h2]) h1
 ·rw[acE h1,aac,acC]
  unfold iS
  rw[acN h1]
theorem JI (a0:List aY) (day:Int):∀ (r:List aY) (i:Nat) (s:Unit),a0.drop i=r→
 GG (fun (_:Unit) i y k=>if iS day (cB a0 i) y≠0 then some (Sum.inl (iS day (cB a0 i) y,())) else k ()) (fun _=>(some (Sum.inr ()):Option o8)) r i s=Nq (mL day r (cB a0 i))
 | [],_,_,_=>by simp[GG,mL,Nq]
 | y::r,i,s,hd=>by
  have hy:a0[i]? =some y:=by
   have:=congrArg (·[0]?) hd
   simpa [aaZ] using this
  have hr:a0.drop (i+1)=r:=by
   have:=congrArg List.tail hd
   simpa [abI] using this
  have hp:cB a0 (i+1)=some y:=hy
  have ih:=JI a0 day r (i+1) () hr
  rw[hp] at ih
  by_cases hf:iS day (cB a0 i) y=0
  ·have e0:¬iS day (cB a0 i) y≠0:=fun h=>h hf
   rw[show mL day (y::r) (cB a0 i)=mL day r (some y) by rw[mL,acM e0], ← ih]
   show (if iS day (cB a0 i) y≠0 then _ else _)=_
   rw[acM e0]
  ·rw[show mL day (y::r) (cB a0 i)=iS day (cB a0 i) y by rw[mL,acN hf],LR hf]
   show (if iS day (cB a0 i) y≠0 then _ else _)=_
   rw[acN hf]
theorem vn (o:ai):mN o=some (s7 o,()):=by
 unfold mN s7
 simp only[mh,nC,cT,Qi,acn]
 cases h1:cz o.1
 ·simp[ND,h1]
 cases h2:cz o.2.1
 ·simp[ND,La,h1,h2]
 cases h3:cz o.2.2.1
 ·simp[ND,La,NF,h1,h2,h3]
 rw[acM (by simp[ND,La,NF,h1,h2,h3])]
 simp only[aad,acB]
 by_cases h4:o.2.1=o.2.2.1
 ·rw[acN h4,show (o.2.1==o.2.2.1)=true by simp[h4],acC]
 rw[acM h4,show (o.2.1==o.2.2.1)=false by simp[h4],acB]
 by_cases h5:1≤o.2.2.2.1∧o.2.2.2.1≤3652059
 ·rw[acM (by simp[iR,h5]),acF h5,aad,acB]
  by_cases h6:0≤o.2.2.2.2.1∧o.2.2.2.2.1≤1000
  ·rw[acM (by simp[fM,h6]),acF h6,aad,acB]
   by_cases h7:o.2.2.2.2.2=[]
   ·rw[acN h7,h7];rfl
   ·have h7':o.2.2.2.2.2.length≠0:=fun e=>h7 (aaO e)
    rw[acM h7,pG (show (o.2.2.2.2.2.length:Int)≠0 by omega),acB]
    by_cases h8:500<o.2.2.2.2.2.length
    ·rw[acN h8,acF (by omega),acC]
    ·rw[acM h8,acE (by omega),acB]
     have:=Nz (f:=oZ) (fun (_:Unit) (i:Nat)=>(((o.2.2.2.2.2.length:Int),(i:Int),o.1,o.2.1,o.2.2.1,o.2.2.2.1,o.2.2.2.2.1,o.2.2.2.2.2,()):o9)) o.2.2.2.2.2
      (fun (_:Unit) i y k=>if iS (iR o) (cB o.2.2.2.2.2 i) y≠0 then some (Sum.inl (iS (iR o) (cB o.2.2.2.2.2 i) y,())) else k ()) (fun _=>some (Sum.inr ()))
      (fun s i y again hy=>by
        have hlt:i<o.2.2.2.2.2.length:=(aa2.1 hy).1
        unfold oZ
        dsimp only
        rw[acF (by omega),acC]
        have:=Lp o i y hy (by show o.2.2.2.2.2.length≤500;omega)
        rw[show ((o.1,o.2.1,o.2.2.1,o.2.2.2.1,o.2.2.2.2.1,o.2.2.2.2.2):ai)=o from rfl,this,acn]
        dsimp only
        by_cases hf:iS (iR o) (cB o.2.2.2.2.2 i) y=0
        ·rw[acM (by simp[hf]),show (iS (iR o) (cB (uf o) i) y != 0)=false by simp[hf],acB,au (by omega) (by omega)]
         rfl
        ·rw[acN hf,show (iS (iR o) (cB (uf o) i) y != 0)=true by simp[hf],acC]) (fun s again=>by
        unfold oZ
        dsimp only
        rw[acE (show ¬((o.2.2.2.2.2.length:Int)<(o.2.2.2.2.2.length:Int)) by omega)];rfl) ()
     refine (congrArg (fun z=>aM (β:=(Int×Unit)) (γ:=Unit) z fun _=>some (0,())) (this _ (by omega))).trans ?_
     rw[JI o.2.2.2.2.2 (iR o) o.2.2.2.2.2 0 () rfl]
     simp only[cB]
     by_cases h:mL (iR o) o.2.2.2.2.2 none=0
     ·rw[QF h,h];rfl
     ·rw[LR h];rfl
  ·rw[acN h6,acE h6];rfl
 ·rw[acN h5,acE h5];rfl
theorem Fk (o:ai) (l:List aa):uJ o l=some (if s7 o≠0 then s7 o else wz l,()):=by
 unfold uJ
 rw[vn,acn,vm]
 dsimp only
 by_cases h:s7 o=0
 ·rw[h];rfl
 ·rw[jy h,acC,acN h]
end Go.Md
namespace Go.Md
open Go.Dn
def bH (d:ah):Int:=d.1*10 ^ (3 - d.2).toNat
theorem Q7 {d:ah} {z:Bool} (h:qOk d z=true):(0≤d.2∧d.2≤3)∧0≤d.1∧d.1≤1000000000*10 ^ d.2.toNat∧(z=false→d.1≠0):=by
 unfold qOk inR at h
 simp only[Z2,acG,aaf,aab,acy] at h
 obtain⟨⟨h1,h2,h3,h4⟩,h5⟩:=h
 exact⟨⟨h1.2.1,h2⟩,by omega,h4,fun hz=>by rcases h5 with h5 | h5;exact h5;rw[hz] at h5;cases h5⟩
theorem wX {d:ah} {z:Bool} (h:qOk d z=true):0≤bH d∧bH d≤1000000000000∧(z=false→0<bH d):=by
 obtain⟨⟨h1,h2⟩,h3,h4,h5⟩:=Q7 h
 unfold bH
 obtain⟨k,hk⟩:∃ k:Nat,d.2=k:=⟨d.2.toNat,by omega⟩
 rw[hk] at h1 h2 h4 ⊢
 have:k=0∨k=1∨k=2∨k=3:=by omega
 rcases this with rfl | rfl | rfl | rfl<;>simp at h4 ⊢ <;>refine⟨by omega,by omega,fun hz=> ?_⟩<;>have:=h5 hz<;>omega
theorem pL {d:ah} {z:Bool} (h:qOk d z=true):jO d=some (bH d,()):=by
 obtain⟨⟨h1,h2⟩,h3,h4,_⟩:=Q7 h
 obtain⟨u1,u2,_⟩:=wX h
 unfold jO
 rw[au (n:=3 - d.2) (by omega) (by omega),BR (3 - d.2) (by omega) (by omega),acn]
 show some (w64 (bH d),())=_
 rw[au (by omega) (by omega)]
structure ak where
 no:Int
 art:Bys
 unit:Bys
 ord:Int
 shp:Int
 rcv:Int
 ret:Int
 price:ah
 due:Int
 wish:Int
 ono:Int
 oq:Int
 ount:Int
abbrev ak.tup (x:ak):aU:=(x.no,x.art,x.unit,x.ord,x.shp,x.rcv,x.ret,x.price,x.due,x.wish,x.ono,x.oq,x.ount)
def ak.opn (x:ak):Int:=if x.ord - x.shp+x.ret>0 then x.ord - x.shp+x.ret else 0
structure LOk (x:ak):Prop where
 ret0:0≤x.ret
 retr:x.ret≤x.rcv
 rcvs:x.rcv≤x.shp
 shp1:x.shp≤1000000000000000
 AZ:0≤x.ord
 ord1:x.ord≤1000000000000
 off:x.ono≠0→0<x.oq∧x.oq+x.shp - x.ret≤x.ord
def ud (i:Nat):List ak→List (Int×Option Nat)
 | []=>[]
 | x::r=>(x.no,some i)::ud (i+1) r
abbrev mapOf (A:List ak):List (Int×Option Nat):=ud 0 A
def bZ (n:Int) (i:Nat):List ak→Option Nat
 | []=>none
 | x::r=>if n=x.no then some i else bZ n (i+1) r
abbrev oU (n:Int) (A:List ak):Option Nat:=bZ n 0 A
theorem Wg (n:Int):E7 n n=true:=by simp[E7]
theorem Ua {n a:Int} (h:n≠a):E7 n a=false:=by simp[E7,h]
theorem kD (n:Int):∀ (A:List ak) (i:Nat),Option.getD (α:=Option Nat) (bR (k:=tI) (v:= .hnd) (ud i A) n) none=bZ n i A
 | [],i=>rfl
 | x::r,i=>by
  have e:= @zY tI .hnd (x.no,some i) (ud (i+1) r) n
  refine (congrArg (fun z:Option (Option Nat)=>Option.getD z none) e).trans ?_
  have ih:=kD n r (i+1)
  by_cases h:n=x.no
  ·subst h
   show Option.getD (α:=Option Nat) (bif E7 x.no x.no then some (some i) else _) none=_
   rw[Wg]
   simp only[bZ,acN]
   rfl
  ·show Option.getD (α:=Option Nat) (bif E7 n x.no then some (some i) else _) none=_
   rw[Ua h]
   simp only[bZ,acM h]
   exact ih
theorem NB (n:Int) (y:ak) (hy:y.no=n):∀ (A:List ak) (i:Nat),bZ n i A=none→lP (k:=tI) (v:= .hnd) (ud i A) n (some (i+A.length))=ud i (A++[y])
 | [],i,_=>by subst hy;rfl
 | x::r,i,h=>by
  simp only[bZ] at h
  by_cases hx:n=x.no
  ·rw[acN hx] at h;cases h
  ·rw[acM hx] at h
   have ih:=NB n y hy r (i+1) h
   have e:i+(x::r).length=i+1+r.length:=by simp only[abe];omega
   rw[e]
   show (bif E7 n x.no then _ else (x.no,some i)::lP (k:=tI) (v:= .hnd) (ud (i+1) r) n (some (i+1+r.length)))=_
   rw[Ua hx]
   exact congrArg (fun z=>(x.no,some i)::z) ih
theorem CY:∀ (A:List ak) (i:Nat),(ud i A).length=A.length
 | [],_=>rfl
 | x::r,i=>by simp[ud,CY r]
theorem Wu {k:Nat} {y:ak}:∀ (A:List ak) (i:Nat),(∀ x,A[k]? =some x→y.no=x.no)→ud i (A.set k y)=ud i A:=by
 intro A
 induction A generalizing k with
 | nil=>intro i _;rfl
 | cons x r ih=>
  intro i h
  cases k with
  | zero=>simp only[List.set_cons_zero,ud];rw[h x rfl]
  | succ k=>simp only[abG,ud];rw[ih (i+1) (fun z hz=>h z (by simpa using hz))]
theorem MS {n:Int}:∀ {A:List ak} {i k:Nat},bZ n i A=some k→i≤k∧∃ x,A[k - i]? =some x∧x.no=n
 | [],_,_,h=>by cases h
 | x::r,i,k,h=>by
  simp only[bZ] at h
  by_cases hx:n=x.no
  ·rw[acN hx] at h;cases h;exact⟨abX _,x,by simp,hx.symm⟩
  ·rw[acM hx] at h
   obtain⟨h1,y,h2,h3⟩:=MS h
   refine⟨by omega,y, ?_,h3⟩
   rw[show k - i=k - (i+1)+1 by omega,aaX];exact h2
theorem Ov {n:Int} {A:List ak} {k:Nat} (h:oU n A=some k):∃ x,A[k]? =some x∧x.no=n:=(MS h).2
theorem UZ {n:Int} {k:Nat} {y:ak}:∀ (A:List ak) (i:Nat),(∀ x,A[k]? =some x→y.no=x.no)→bZ n i (A.set k y)=bZ n i A:=by
 intro A
 induction A generalizing k with
 | nil=>intro i _;rfl
 | cons x r ih=>
  intro i h
  cases k with
  | zero=>simp only[List.set_cons_zero,bZ];rw[h x rfl]
  | succ k=>simp only[abG,bZ];rw[ih (i+1) (fun z hz=>h z (by simpa using hz))]
theorem Ot {n:Int} {y:ak}:∀ (A:List ak) (i:Nat),bZ n i (A++[y])=(bZ n i A).or (if n=y.no then some (i+A.length) else none)
 | [],i=>by simp[bZ]
 | x::r,i=>by
  simp only[aaF,bZ,abe]
  by_cases h:n=x.no
  ·simp[h]
  ·rw[acM h,acM h,Ot r (i+1),show i+(r.length+1)=i+1+r.length by omega]
theorem tv {A:List ak} {k:Nat} {x:ak} (h:A[k]? =some x):(A.map ak.tup)[k]? =some x.tup:=by rw[aa3,h];rfl
theorem UG (A:List ak) (k:Nat) (y:ak):(A.map ak.tup).set k y.tup=(A.set k y).map ak.tup:=by rw[List.map_set]
theorem LU {A:List ak} {k:Nat} {x:ak} (h:A[k]? =some x) (y:ak):(A.set k y)[k]? =some y:=by
 have:=(aa2.1 h).1
 simp[aa6,this]
theorem C7 {A:List ak} {k:Nat} {x:ak} (h:A[k]? =some x) (hx:LOk x):ou (some k) (A.map ak.tup)=some (x.opn,()):=by
 unfold ou
 have ht:=tv h
 simp only[acn,ht]
 have:=hx.ret0;have:=hx.retr;have:=hx.rcvs;have:=hx.shp1;have:=hx.AZ;have:=hx.ord1
 rw[au (n:=x.ord - x.shp) (by omega) (by omega),au (n:=x.ord - x.shp+x.ret) (by omega) (by omega)]
 rfl
end Go.Md
namespace Go.Md
open Go.Dn
abbrev dNo (d:aa):=d.2.2.1
abbrev bN (d:aa):=d.2.2.2.1
abbrev qW (d:aa):=d.2.2.2.2.1
abbrev dQ (d:aa):=d.2.2.2.2.2.2.1
abbrev Oc (d:aa):=d.2.2.2.2.2.2.2.2.1
abbrev qX (d:aa):=d.2.2.2.2.2.2.2.2.2.1
abbrev dTo (d:aa):=d.2.2.2.2.2.2.2.2.2.2
theorem ja {d:aa} (h:Mb d=0):(usQ (bN d)=true→qOk (dQ d) (bN d==2)=true)∧(usP (bN d)=true→inR (Oc d) 0 1000000000 4=true)∧(usU (bN d)=true→D7 (qX d)=true)∧(usA (bN d)=true→cz d.2.2.2.2.2.1=true∧cz d.2.2.2.2.2.2.2.1=true)∧(usT (bN d)=true→GN (dTo d)=true):=by
 unfold Mb Tl at h
 show (usQ d.2.2.2.1=true→qOk d.2.2.2.2.2.2.1 (d.2.2.2.1==2)=true)∧(usP d.2.2.2.1=true→inR d.2.2.2.2.2.2.2.2.1 0 1000000000 4=true)∧(usU d.2.2.2.1=true→D7 d.2.2.2.2.2.2.2.2.2.1=true)∧(usA d.2.2.2.1=true→cz d.2.2.2.2.2.1=true∧cz d.2.2.2.2.2.2.2.1=true)∧(usT d.2.2.2.1=true→GN d.2.2.2.2.2.2.2.2.2.2=true)
 generalize usA d.2.2.2.1=ua at*
 generalize usQ d.2.2.2.1=uq at*
 generalize usP d.2.2.2.1=up at*
 generalize usU d.2.2.2.1=uu at*
 generalize usT d.2.2.2.1=ut at*
 generalize qOk d.2.2.2.2.2.2.1 (d.2.2.2.1==2)=b1 at*
 generalize inR d.2.2.2.2.2.2.2.2.1 0 1000000000 4=b2 at*
 generalize D7 d.2.2.2.2.2.2.2.2.2.1=b3 at*
 generalize cz d.2.2.2.2.2.1=b4 at*
 generalize cz d.2.2.2.2.2.2.2.1=b5 at*
 generalize GN d.2.2.2.2.2.2.2.2.2.2=b6 at*
 cases hq:(uq&& !b1)
 ·rw[hq,acB] at h
  cases hp:(up&& !b2)
  ·rw[hp,acB] at h
   cases hu:(uu&& !b3)
   ·rw[hu,acB] at h
    cases ha:(ua&&(!b4|| !b5))
    ·rw[ha,acB] at h
     cases ht:(ut&& !b6)
     ·refine⟨?_, ?_, ?_, ?_, ?_⟩
      ·revert hq;cases uq<;>cases b1<;>simp
      ·revert hp;cases up<;>cases b2<;>simp
      ·revert hu;cases uu<;>cases b3<;>simp
      ·revert ha;cases ua<;>cases b4<;>cases b5<;>simp
      ·revert ht;cases ut<;>cases b6<;>simp
     ·rw[ht,acC] at h;cases h
    ·rw[ha,acC] at h;cases h
   ·rw[hu,acC] at h;cases h
  ·rw[hp,acC] at h;cases h
 ·rw[hq,acC] at h;cases h
def Me (day:Int) (i:Int) (d:aa) (x:ak):Int×ak:=
 if bN d=3∧qX d<day then (1,x) else if 0≤x.wish then (11,x) else (0,{ x with wish:=i })
def mW (l:List aa) (x:ak):aa:=l.getD x.wish.toNat (0,0,0,0,0,[],(0,0),[],(0,0),0,0)
def dh (l:List aa) (d:aa) (x:ak):Int×ak:=
 if x.wish<0 then (5,x)
 else if dNo (mW l x)≠dTo d then (5,x)
 else if bN d=5 then
  (if bN (mW l x)=2 then (if bH (dQ (mW l x))<x.shp - x.ret then (12,x) else (0,{ x with ord:=bH (dQ (mW l x)),wish:= -1 }))
  else if bN (mW l x)=1 then (0,{ x with ord:=bH (dQ (mW l x)),wish:= -1 })
  else if bN (mW l x)=3 then (0,{ x with due:=qX (mW l x),wish:= -1 })
  else (0,{ x with price:=Oc (mW l x),wish:= -1 }))
 else (0,{ x with wish:= -1 })
def rO (day:Int) (d:aa) (x:ak):Int:=
 if qX d<day then 1 else if 0≤x.wish∨x.opn=0 then 11 else if x.opn<bH (dQ d) then 12 else 0
def Ma (d:aa) (x:ak):Int×ak:=
 if 0≤x.wish then (11,x) else if x.ono=0∨x.ono≠dTo d then (5,x) else (0,{ x with ord:=x.shp - x.ret+x.oq,due:=x.ount,ono:=0,oq:=0,ount:=0 })
def dN (ext:Int) (d:aa) (x:ak):Int×ak:=
 if bN d=9 then
  (if x.ord+x.ord*ext / 1000<x.shp - x.ret+bH (dQ d) then (12,x)
  else if 1000000000000000<x.shp+bH (dQ d) then (16,x)
  else (0,{ x with shp:=x.shp+bH (dQ d) }))
 else if bN d=10 then (if x.shp<x.rcv+bH (dQ d) then (12,x) else (0,{ x with rcv:=x.rcv+bH (dQ d) }))
 else (if x.rcv<x.ret+bH (dQ d) then (12,x) else (0,{ x with ret:=x.ret+bH (dQ d) }))
theorem lT {A:List ak} {k:Nat} {x:ak} (h:A[k]? =some x):A.set k x=A:=by
 obtain⟨h1,h2⟩:=aa2.1 h
 rw[← h2];exact List.set_getElem_self h1
theorem qg {A:List ak} {k:Nat} (y:ak) (T:aU) (hT:T=y.tup):List.set (A.map ak.tup) k T=(A.set k y).map ak.tup:=by rw[hT,UG]
theorem EW {A:List ak} {k:Nat} {x:ak} (h:A[k]? =some x) (T:aU):(List.set (A.map ak.tup) k T)[k]? =some T:=by
 have:=(aa2.1 h).1
 rw[aa8 (by simpa using this)]
variable {o:ai} {l:List aa} {m:List (Int×Option Nat)} {ref:List ah} {pts:List aJ} {wt:Int} {A:List ak} {k:Nat} {x:ak}
theorem rR (h:A[k]? =some x) {i:Nat} {d:aa} (hd:l[i]? =some d):
 qv (o,l,m,ref,pts,wt,()) (some k) (i:Int) (A.map ak.tup)=some ((Me (iR o) i d x).1,(o,l,m,ref,pts,wt,()),(A.set k (Me (iR o) i d x).2).map ak.tup,()):=by
 unfold qv Me
 dsimp only
 rw[iK hd,acn]
 have hv:(bif d.2.2.2.1==3 then some (decide (d.2.2.2.2.2.2.2.2.2.1<o.2.2.2.1),()) else some (false,()))=some (decide (bN d=3∧qX d<iR o),()):=by
  by_cases h3:d.2.2.2.1=3
  ·rw[show (d.2.2.2.1==3)=true by simp[h3],acC]
   simp[bN,h3]
  ·rw[show (d.2.2.2.1==3)=false by simp[h3],acB]
   simp[bN,h3]
 rw[hv,acn]
 dsimp only
 by_cases h1:bN d=3∧qX d<iR o
 ·rw[acF h1,acC,acN h1,lT h]
 ·rw[acE h1,acB,acM h1]
  simp only[acn,tv h]
  by_cases h2:0≤x.wish
  ·rw[acN h2,acF (show x.wish≥0 from h2),acC,lT h]
  ·rw[acM h2,acE (show ¬x.wish≥0 from h2),acB,qg { x with wish:=(i:Int) } _ rfl]
structure WOk (l:List aa) (x:ak):Prop where
 low: -1≤x.wish
 kind:0≤x.wish→∃ d,l[x.wish.toNat]? =some d∧bN d≤4
theorem G8 {d:aa} (hw:l[x.wish.toNat]? =some d):mW l x=d:=by
 unfold mW
 rw[aaT,hw];rfl
theorem Xq {d:aa} (h0:0≤x.wish) (hw:l[x.wish.toNat]? =some d):idx l x.wish=some d:=by
 unfold idx;rw[acN h0];exact hw
theorem wE (h:A[k]? =some x) (hx:LOk x) (hw:WOk l x) (hl:∀ d,d∈l→dX d=0) (d:aa):
 og (o,l,m,ref,pts,wt,()) (some k) d (A.map ak.tup)=some ((dh l d x).1,(o,l,m,ref,pts,wt,()),(A.set k (dh l d x).2).map ak.tup,()):=by
 unfold og dh
 simp only[acn,tv h]
 by_cases h1:x.wish<0
 ·rw[acN h1,acF h1,acC,lT h]
 ·rw[acM h1,acE h1,acB]
  obtain⟨w,hw1,hw2⟩:=hw.kind (by omega)
  rw[Xq (by omega) hw1,G8 hw1]
  simp only[acn]
  have hwf:=hl w (abw hw1)
  obtain⟨_,_,_,hk,_,_,hu⟩:=ef hwf
  obtain⟨uq,_⟩:=ja hu
  have b0:=hx.ret0;have b1:=hx.retr;have b2:=hx.rcvs;have b3:=hx.shp1
  by_cases h2:dNo w=dTo d
  ·rw[acM (fun e=>e h2),show (w.2.2.1 != d.2.2.2.2.2.2.2.2.2.2)=false by simpa using h2,acB]
   by_cases h3:bN d=5
   ·rw[acN h3,show (d.2.2.2.1==5)=true by simpa using h3,acC]
    by_cases k2:bN w=2
    ·have hq:=uq (by rw[k2];rfl)
     rw[acN k2,show (w.2.2.2.1==2)=true by simpa using k2,acC]
     simp only[pL hq,acn,EW h,abH]
     rw[au (n:=x.shp - x.ret) (by omega) (by omega)]
     by_cases h4:bH (dQ w)<x.shp - x.ret
     ·rw[acN h4,acF h4,acC,lT h]
     ·rw[acM h4,acE h4,acB,qg { x with ord:=bH (dQ w),wish:= -1 } _ rfl]
    ·rw[acM k2,show (w.2.2.2.1==2)=false by simpa using k2,acB]
     by_cases k1:bN w=1
     ·have hq:=uq (by rw[k1];rfl)
      rw[acN k1,show (w.2.2.2.1==1)=true by simpa using k1,acC]
      simp only[pL hq,acn,EW h,abH]
      rw[qg { x with ord:=bH (dQ w),wish:= -1 } _ rfl]
     ·rw[acM k1,show (w.2.2.2.1==1)=false by simpa using k1,acB]
      by_cases k3:bN w=3
      ·rw[acN k3,show (w.2.2.2.1==3)=true by simpa using k3,acC]
       simp only[acn,EW h,abH]
       rw[qg { x with due:=qX w,wish:= -1 } _ rfl]
      ·rw[acM k3,show (w.2.2.2.1==3)=false by simpa using k3,acB]
       simp only[acn,EW h,abH]
       rw[qg { x with price:=Oc w,wish:= -1 } _ rfl]
   ·rw[acM h3,show (d.2.2.2.1==5)=false by simpa using h3,acB,qg { x with wish:= -1 } _ rfl]
  ·rw[acN h2,show (w.2.2.1 != d.2.2.2.2.2.2.2.2.2.2)=true by simpa using h2,acC,lT h]
theorem Ee (h:A[k]? =some x) (hx:LOk x) {d:aa} {z:Bool} (hq:qOk (dQ d) z=true):
 nk (o,l,m,ref,pts,wt,()) (some k) d (A.map ak.tup)=some (rO (iR o) d x,(o,l,m,ref,pts,wt,()),A.map ak.tup,()):=by
 unfold nk rO
 simp only[acn,tv h,C7 h hx,pL hq]
 by_cases h1:qX d<iR o
 ·rw[acN h1,acF h1,acC]
 ·rw[acM h1,acE h1,acB]
  by_cases h2:0≤x.wish
  ·rw[acN (.inl h2),acF (show x.wish≥0 from h2),acC]
  ·rw[acE (show ¬x.wish≥0 from h2),acB]
   by_cases h3:x.opn=0
   ·rw[acN (.inr h3),show (x.opn==0)=true by simp[h3],acC]
   ·rw[acM (fun e=>e.elim h2 h3),show (x.opn==0)=false by simp[h3],acB]
    by_cases h4:x.opn<bH (dQ d)
    ·rw[acN h4,acF (show bH (dQ d)>x.opn from h4),acC]
    ·rw[acM h4,acE (show ¬bH (dQ d)>x.opn from h4),acB]
theorem GY (h:A[k]? =some x) (hx:LOk x) (d:aa):
 qu (o,l,m,ref,pts,wt,()) (some k) d (A.map ak.tup)=some ((Ma d x).1,(o,l,m,ref,pts,wt,()),(A.set k (Ma d x).2).map ak.tup,()):=by
 unfold qu Ma
 simp only[acn,tv h,EW h,abH]
 have b0:=hx.ret0;have b1:=hx.retr;have b2:=hx.rcvs;have b3:=hx.shp1;have b4:=hx.AZ;have b5:=hx.ord1
 by_cases h1:0≤x.wish
 ·rw[acN h1,acF (show x.wish≥0 from h1),acC,lT h]
 ·rw[acM h1,acE (show ¬x.wish≥0 from h1),acB]
  by_cases h2:x.ono=0
  ·rw[acN (.inl h2),show (x.ono==0)=true by simp[h2],acC,lT h]
  ·rw[show (x.ono==0)=false by simp[h2],acB]
   by_cases h3:x.ono=dTo d
   ·obtain⟨c1,c2⟩:=hx.off h2
    rw[acM (fun e=>e.elim h2 (fun e=>e h3)),show (x.ono != d.2.2.2.2.2.2.2.2.2.2)=false by simpa using h3,acB,
     au (n:=x.shp - x.ret) (by omega) (by omega),au (n:=x.shp - x.ret+x.oq) (by omega) (by omega),
     qg { x with ord:=x.shp - x.ret+x.oq,due:=x.ount,ono:=0,oq:=0,ount:=0 } _ rfl]
   ·rw[acN (.inr h3),show (x.ono != d.2.2.2.2.2.2.2.2.2.2)=true by simpa using h3,acC,lT h]
theorem rQ (h:A[k]? =some x) (hx:LOk x) (he0:0≤fM o) (he1:fM o≤1000) {d:aa} {z:Bool} (hq:qOk (dQ d) z=true):
 qs (o,l,m,ref,pts,wt,()) (some k) d (A.map ak.tup)=some ((dN (fM o) d x).1,(o,l,m,ref,pts,wt,()),(A.set k (dN (fM o) d x).2).map ak.tup,()):=by
 unfold qs dN
 simp only[acn,tv h,EW h,pL hq]
 have b0:=hx.ret0;have b1:=hx.retr;have b2:=hx.rcvs;have b3:=hx.shp1;have b4:=hx.AZ;have b5:=hx.ord1
 obtain⟨q0,q1,_⟩:=wX hq
 by_cases k9:bN d=9
 ·rw[acN k9,show (d.2.2.2.1==9)=true by simpa using k9,acC]
  have m0:0≤x.ord*fM o:=aap b4 he0
  have m1:x.ord*fM o≤x.ord*1000:=aan he1 b4
  have e1:w64 (x.ord*fM o)=x.ord*fM o:=au (by omega) (by omega)
  have e2:Int.tdiv (x.ord*fM o) 1000=x.ord*fM o / 1000:=aax m0
  have d0:0≤x.ord*fM o / 1000:=Int.ediv_nonneg m0 (by omega)
  have d1:x.ord*fM o / 1000≤x.ord:=by omega
  rw[show w64 (x.ord*o.2.2.2.2.1)=x.ord*fM o from e1,e2,au (n:=x.ord*fM o / 1000) (by omega) (by omega),au (n:=x.ord+x.ord*fM o / 1000) (by omega) (by omega),
   au (n:=x.shp - x.ret) (by omega) (by omega),au (n:=x.shp - x.ret+bH (dQ d)) (by omega) (by omega),au (n:=x.shp+bH (dQ d)) (by omega) (by omega)]
  by_cases c1:x.ord+x.ord*fM o / 1000<x.shp - x.ret+bH (dQ d)
  ·rw[acN c1,acF (show x.shp - x.ret+bH (dQ d)>x.ord+x.ord*fM o / 1000 from c1),acC,lT h]
  ·rw[acM c1,acE (show ¬x.shp - x.ret+bH (dQ d)>x.ord+x.ord*fM o / 1000 from c1),acB]
   by_cases c2:1000000000000000<x.shp+bH (dQ d)
   ·rw[acN c2,acF (show x.shp+bH (dQ d)>1000000000000000 from c2),acC,lT h]
   ·rw[acM c2,acE (show ¬x.shp+bH (dQ d)>1000000000000000 from c2),acB,qg { x with shp:=x.shp+bH (dQ d) } _ rfl]
 ·rw[acM k9,show (d.2.2.2.1==9)=false by simpa using k9,acB]
  by_cases k10:bN d=10
  ·rw[acN k10,show (d.2.2.2.1==10)=true by simpa using k10,acC,au (n:=x.rcv+bH (dQ d)) (by omega) (by omega)]
   by_cases c1:x.shp<x.rcv+bH (dQ d)
   ·rw[acN c1,acF (show x.rcv+bH (dQ d)>x.shp from c1),acC,lT h]
   ·rw[acM c1,acE (show ¬x.rcv+bH (dQ d)>x.shp from c1),acB,qg { x with rcv:=x.rcv+bH (dQ d) } _ rfl]
  ·rw[acM k10,show (d.2.2.2.1==10)=false by simpa using k10,acB,au (n:=x.ret+bH (dQ d)) (by omega) (by omega)]
   by_cases c1:x.rcv<x.ret+bH (dQ d)
   ·rw[acN c1,acF (show x.ret+bH (dQ d)>x.rcv from c1),acC,lT h]
   ·rw[acM c1,acE (show ¬x.ret+bH (dQ d)>x.rcv from c1),acB,qg { x with ret:=x.ret+bH (dQ d) } _ rfl]
end Go.Md
namespace Go.Md
open Go.Dn
def ak.clr (x:ak):ak:={ x with ono:=0,oq:=0,ount:=0 }
def gI (o:ai) (l:List aa) (i:Nat) (d:aa) (x:ak):Int×ak:=
 if bN d≤4 then Me (iR o) i d x
 else if bN d≤6 then (if (dh l d x).1=0 then (0,(dh l d x).2.clr) else dh l d x)
 else if bN d=7 then (if rO (iR o) d x=0 then (0,{ x with ono:=dNo d,oq:=bH (dQ d),ount:=qX d }) else (rO (iR o) d x,x))
 else if bN d=8 then Ma d x
 else if bN d=9 then (if (dN (fM o) d x).1=0 then (0,(dN (fM o) d x).2.clr) else dN (fM o) d x)
 else dN (fM o) d x
def Em (i:Nat) (d:aa):ak:=⟨qW d,d.2.2.2.2.2.1,d.2.2.2.2.2.2.2.1,0,0,0,0,Oc d,qX d,i,0,0,0⟩
def gJ (o:ai) (l:List aa) (i:Nat) (d:aa) (A:List ak):Int×List ak:=
 if bN d=1 then
  (match oU (qW d) A with
  | some _=>(7,A)
  | none=>if 500≤A.length then (16,A) else if qX d<iR o then (1,A) else (0,A++[Em i d]))
 else match oU (qW d) A with
  | none=>(9,A)
  | some k=>match A[k]? with
   | some x=>((gI o l i d x).1,A.set k (gI o l i d x).2)
   | none=>(9,A)
structure Sound (l:List aa) (A:List ak):Prop where
 line:∀ x,x∈A→LOk x∧WOk l x
theorem YW {x:ak} (h:LOk x):LOk x.clr:=⟨h.ret0,h.retr,h.rcvs,h.shp1,h.AZ,h.ord1,fun e=>absurd rfl e⟩
theorem UO {l:List aa} {d:aa} {x:ak} (hx:LOk x) (hw:WOk l x) (hl:∀ d,d∈l→dX d=0):((dh l d x).1=0→LOk (dh l d x).2.clr)∧((dh l d x).1≠0→(dh l d x).2=x)∧((dh l d x).2=x∨(dh l d x).2.wish= -1)∧(dh l d x).2.no=x.no:=by
 have hk:LOk x.clr:=YW hx
 unfold dh
 by_cases h1:x.wish<0
 ·rw[acN h1];exact⟨nofun,fun _=>rfl,.inl rfl,rfl⟩
 rw[acM h1]
 obtain⟨w,hw1,hw2⟩:=hw.kind (by omega)
 rw[G8 hw1]
 obtain⟨_,_,_,_,_,_,hu⟩:=ef (hl w (abw hw1))
 obtain⟨uq,_⟩:=ja hu
 by_cases h2:dNo w≠dTo d
 ·rw[acN h2];exact⟨nofun,fun _=>rfl,.inl rfl,rfl⟩
 rw[acM h2]
 by_cases h3:bN d=5
 ·rw[acN h3]
  by_cases k2:bN w=2
  ·rw[acN k2]
   obtain⟨q0,q1,_⟩:=wX (uq (by rw[k2];rfl))
   by_cases h4:bH (dQ w)<x.shp - x.ret
   ·rw[acN h4];exact⟨nofun,fun _=>rfl,.inl rfl,rfl⟩
   ·rw[acM h4];exact⟨fun _=>⟨hx.ret0,hx.retr,hx.rcvs,hx.shp1,q0,q1,fun e=>absurd rfl e⟩,fun e=>absurd rfl e,.inr rfl,rfl⟩
  ·rw[acM k2]
   by_cases k1:bN w=1
   ·rw[acN k1]
    obtain⟨q0,q1,_⟩:=wX (uq (by rw[k1];rfl))
    exact⟨fun _=>⟨hx.ret0,hx.retr,hx.rcvs,hx.shp1,q0,q1,fun e=>absurd rfl e⟩,fun e=>absurd rfl e,.inr rfl,rfl⟩
   ·rw[acM k1]
    by_cases k3:bN w=3
    ·rw[acN k3];exact⟨fun _=>⟨hx.ret0,hx.retr,hx.rcvs,hx.shp1,hx.AZ,hx.ord1,fun e=>absurd rfl e⟩,fun e=>absurd rfl e,.inr rfl,rfl⟩
    ·rw[acM k3];exact⟨fun _=>⟨hx.ret0,hx.retr,hx.rcvs,hx.shp1,hx.AZ,hx.ord1,fun e=>absurd rfl e⟩,fun e=>absurd rfl e,.inr rfl,rfl⟩
 ·rw[acM h3];exact⟨fun _=>⟨hx.ret0,hx.retr,hx.rcvs,hx.shp1,hx.AZ,hx.ord1,fun e=>absurd rfl e⟩,fun e=>absurd rfl e,.inr rfl,rfl⟩
theorem Xz {ext:Int} {d:aa} {x:ak} {z:Bool} (hx:LOk x) (hq:qOk (dQ d) z=true):((dN ext d x).1=0→LOk (if bN d=9 then (dN ext d x).2.clr else (dN ext d x).2))∧((dN ext d x).1≠0→(dN ext d x).2=x)∧(dN ext d x).2.wish=x.wish∧(dN ext d x).2.no=x.no:=by
 obtain⟨q0,q1,_⟩:=wX hq
 have b0:=hx.ret0;have b1:=hx.retr;have b2:=hx.rcvs;have b3:=hx.shp1
 unfold dN
 by_cases k9:bN d=9
 ·rw[acN k9,acN k9]
  split
  ·exact⟨nofun,fun _=>rfl,rfl,rfl⟩
  ·split
   ·exact⟨nofun,fun _=>rfl,rfl,rfl⟩
   ·rename_i h1 h2
    exact⟨fun _=>⟨b0,b1,by show x.rcv≤x.shp+bH (dQ d);omega,by show x.shp+bH (dQ d)≤_;omega,hx.AZ,hx.ord1,fun e=>absurd rfl e⟩,fun e=>absurd rfl e,rfl,rfl⟩
 ·rw[acM k9,acM k9]
  by_cases k10:bN d=10
  ·rw[acN k10]
   split
   ·exact⟨nofun,fun _=>rfl,rfl,rfl⟩
   ·rename_i h1
    exact⟨fun _=>⟨b0,by show x.ret≤x.rcv+bH (dQ d);omega,by show x.rcv+bH (dQ d)≤x.shp;omega,b3,hx.AZ,hx.ord1,hx.off⟩,fun e=>absurd rfl e,rfl,rfl⟩
  ·rw[acM k10]
   split
   ·exact⟨nofun,fun _=>rfl,rfl,rfl⟩
   ·rename_i h1
    exact⟨fun _=>⟨by show 0≤x.ret+bH (dQ d);omega,by show x.ret+bH (dQ d)≤x.rcv;omega,b2,b3,hx.AZ,hx.ord1,fun e=>by
     obtain⟨c1,c2⟩:=hx.off e
     exact⟨c1,by show x.oq+x.shp - (x.ret+bH (dQ d))≤x.ord;omega⟩⟩,fun e=>absurd rfl e,rfl,rfl⟩
theorem LK {o:ai} {l:List aa} {i:Nat} {d:aa} {x:ak} (hx:LOk x) (hw:WOk l x) (hl:∀ d,d∈l→dX d=0) (hd:l[i]? =some d):
 LOk (gI o l i d x).2∧WOk l (gI o l i d x).2∧(gI o l i d x).2.no=x.no∧((gI o l i d x).1≠0→(gI o l i d x).2=x):=by
 obtain⟨_,_,_,hk,_,_,hu⟩:=ef (hl d (abw hd))
 obtain⟨uq,_⟩:=ja hu
 unfold gI
 by_cases k4:bN d≤4
 ·rw[acN k4]
  unfold Me
  split
  ·exact⟨hx,hw,rfl,fun _=>rfl⟩
  ·split
   ·exact⟨hx,hw,rfl,fun _=>rfl⟩
   ·refine⟨⟨hx.ret0,hx.retr,hx.rcvs,hx.shp1,hx.AZ,hx.ord1,hx.off⟩,⟨by show (-1:Int)≤(i:Int);omega,fun _=>⟨d,by show l[((i:Int)).toNat]? =some d;simpa using hd,k4⟩⟩,rfl,fun e=>absurd rfl e⟩
 ·rw[acM k4]
  by_cases k6:bN d≤6
  ·rw[acN k6]
   obtain⟨a1,a2,a3,a4⟩:=UO (d:=d) hx hw hl
   split
   ·rename_i e
    refine⟨a1 e, ?_,a4,fun e=>absurd rfl e⟩
    rcases a3 with a3 | a3
    ·rw[a3];exact⟨hw.low,hw.kind⟩
    ·exact⟨by show -1≤(dh l d x).2.wish;omega,fun h=>by have:0≤(dh l d x).2.wish:=h;omega⟩
   ·rename_i e
    rw[a2 e];exact⟨hx,hw,rfl,fun _=>rfl⟩
  ·rw[acM k6]
   by_cases k7:bN d=7
   ·rw[acN k7]
    have hq:=uq (by rw[k7];rfl)
    rw[show (bN d==2)=false by rw[k7];rfl] at hq
    obtain⟨q0,q1,q2⟩:=wX hq
    split
    ·rename_i e
     refine⟨⟨hx.ret0,hx.retr,hx.rcvs,hx.shp1,hx.AZ,hx.ord1,fun _=>⟨q2 rfl, ?_⟩⟩,⟨hw.low,hw.kind⟩,rfl,fun e=>absurd rfl e⟩
     show bH (dQ d)+x.shp - x.ret≤x.ord
     unfold rO at e
     split at e
     ·cases e
     ·split at e
      ·cases e
      ·split at e
       ·cases e
       ·rename_i h1 h2 h3
        have:=q2 rfl
        unfold ak.opn at h3
        split at h3<;>omega
    ·exact⟨hx,hw,rfl,fun _=>rfl⟩
   ·rw[acM k7]
    by_cases k8:bN d=8
    ·rw[acN k8]
     unfold Ma
     split
     ·exact⟨hx,hw,rfl,fun _=>rfl⟩
     ·split
      ·exact⟨hx,hw,rfl,fun _=>rfl⟩
      ·rename_i h1 h2
       obtain⟨c1,c2⟩:=hx.off (fun e=>h2 (.inl e))
       have:=hx.ret0;have:=hx.retr;have:=hx.rcvs;have:=hx.ord1
       refine⟨⟨hx.ret0,hx.retr,hx.rcvs,hx.shp1, ?_, ?_,fun e=>absurd rfl e⟩,⟨hw.low,hw.kind⟩,rfl,fun e=>absurd rfl e⟩
       ·show 0≤x.shp - x.ret+x.oq;omega
       ·show x.shp - x.ret+x.oq≤1000000000000;omega
    ·rw[acM k8]
     have hq:=uq (by
      unfold usQ
      refine acF ⟨by omega,by omega,by omega,by omega,by omega⟩)
     obtain⟨a1,a2,a3,a4⟩:=Xz (ext:=fM o) hx hq
     by_cases k9:bN d=9
     ·rw[acN k9]
      split
      ·rename_i e
       have:=a1 e
       rw[acN k9] at this
       exact⟨this,⟨by show -1≤(dN (fM o) d x).2.wish;rw[a3];exact hw.low,fun h=>by
        have h':0≤(dN (fM o) d x).2.wish:=h
        rw[a3] at h'
        show ∃ d',l[(dN (fM o) d x).2.wish.toNat]? =some d'∧_
        rw[a3];exact hw.kind h'⟩,a4,fun e=>absurd rfl e⟩
      ·rename_i e
       rw[a2 e];exact⟨hx,hw,rfl,fun _=>rfl⟩
     ·rw[acM k9]
      by_cases e:(dN (fM o) d x).1=0
      ·have:=a1 e
       rw[acM k9] at this
       exact⟨this,⟨by rw[a3];exact hw.low,fun h=>by rw[a3] at h ⊢;exact hw.kind h⟩,a4,fun h=>absurd e h⟩
      ·rw[a2 e];exact⟨hx,hw,rfl,fun _=>rfl⟩
theorem W6 {l:List aa} {A:List ak} (h:Sound l A) {k:Nat} {y:ak} (h1:LOk y) (h2:WOk l y):Sound l (A.set k y):=⟨fun x hx=>by
 rcases abx hx with hx | hx
 ·exact h.line x hx
 ·subst hx;exact⟨h1,h2⟩⟩
theorem Xi {o:ai} {l:List aa} {i:Nat} {d:aa} {A:List ak} (hA:Sound l A) (hl:∀ d,d∈l→dX d=0) (hd:l[i]? =some d):
 Sound l (gJ o l i d A).2∧((gJ o l i d A).1≠0→(gJ o l i d A).2=A):=by
 unfold gJ
 by_cases k1:bN d=1
 ·rw[acN k1]
  split
  ·exact⟨hA,fun _=>rfl⟩
  ·split
   ·exact⟨hA,fun _=>rfl⟩
   ·split
    ·exact⟨hA,fun _=>rfl⟩
    ·refine⟨⟨fun x hx=> ?_⟩,fun e=>absurd rfl e⟩
     rcases abo.1 hx with hx | hx
     ·exact hA.line x hx
     ·simp only[abz] at hx
      subst hx
      exact⟨⟨by show (0:Int)≤0;omega,by show (0:Int)≤0;omega,by show (0:Int)≤0;omega,by show (0:Int)≤_;omega,by show (0:Int)≤0;omega,by show (0:Int)≤_;omega,fun e=>absurd rfl e⟩,
       ⟨by show (-1:Int)≤(i:Int);omega,fun _=>⟨d,by show l[((i:Int)).toNat]? =some d;simpa using hd,by omega⟩⟩⟩
 ·rw[acM k1]
  split
  ·exact⟨hA,fun _=>rfl⟩
  ·rename_i k hk
   split
   ·rename_i x hx
    obtain⟨h1,h2⟩:=hA.line x (abw hx)
    obtain⟨a1,a2,a3,a4⟩:=LK (o:=o) h1 h2 hl hd
    exact⟨W6 hA a1 a2,fun e=>by rw[a4 e];exact lT hx⟩
   ·exact⟨hA,fun _=>rfl⟩
variable {o:ai} {l:List aa} {ref:List ah} {pts:List aJ} {wt:Int} {A:List ak}
theorem HZ {i:Nat} {d:aa} (hd:l[i]? =some d) (k1:bN d=1):
 rf (o,l,mapOf A,ref,pts,wt,()) (i:Int) (A.map ak.tup)=some ((gJ o l i d A).1,(o,l,mapOf (gJ o l i d A).2,ref,pts,wt,()),(gJ o l i d A).2.map ak.tup,()):=by
 unfold rf gJ
 dsimp only
 rw[iK hd,acn,kD,acN k1]
 cases hf:oU (qW d) A with
 | some k=>rw[show bZ d.2.2.2.2.1 0 A=some k from hf];rfl
 | none=>
  rw[show bZ d.2.2.2.2.1 0 A=none from hf]
  dsimp only
  rw[show (!Option.isNone (none:Option Nat))=false from rfl,acB]
  by_cases h1:500≤A.length
  ·rw[acN h1,acF (show ((mapOf A).length:Int)≥500 by rw[CY];omega),acC]
  ·rw[acM h1,acE (show ¬((mapOf A).length:Int)≥500 by rw[CY];omega),acB]
   by_cases h2:qX d<iR o
   ·rw[acN h2,acF h2,acC]
   ·rw[acM h2,acE h2,acB]
    have hs:=NB (qW d) (Em i d) rfl A 0 hf
    rw[aci] at hs
    rw[abf]
    refine congrArg some ?_
    refine Prod.ext rfl (Prod.ext ?_ (Prod.ext ?_ rfl))
    ·exact Prod.ext rfl (Prod.ext rfl (Prod.ext hs rfl))
    ·show List.map ak.tup A++[_]=List.map ak.tup (A++[Em i d])
     rw[abk]
     rfl
end Go.Md
namespace Go.Md
open Go.Dn
theorem UW {o:ai} {l:List aa} {i:Nat} {d:aa} {A:List ak} (k1:bN d≠1) (hf:oU (qW d) A=none):gJ o l i d A=(9,A):=by
 unfold gJ;rw[acM k1,hf]
theorem VZ {o:ai} {l:List aa} {i:Nat} {d:aa} {A:List ak} {k:Nat} {x:ak} (k1:bN d≠1) (hf:oU (qW d) A=some k) (hx:A[k]? =some x):gJ o l i d A=((gI o l i d x).1,A.set k (gI o l i d x).2):=by
 unfold gJ;rw[acM k1,hf];dsimp only;rw[hx]
variable {o:ai} {l:List aa} {ref:List ah} {pts:List aJ} {wt:Int} {A:List ak}
theorem Qp {k:Nat} (x:ak) (y:ak) (T:aU) (hT:T=y.tup):List.set ((A.set k x).map ak.tup) k T=(A.set k y).map ak.tup:=by
 rw[hT,UG,abH]
theorem Yc {onum obuy osel:Bys} {oday oext:Int} {olns:List aY} {day byy no line:Int} {art:Bys} {q:ah} {unit:Bys} {p:ah} {un to:Int} {i:Nat} (he0:0≤oext) (he1:oext≤1000) (hl:∀ d,d∈l→dX d=0)
 (hd:l[i]? =some (day,byy,no,2,line,art,q,unit,p,un,to)) {k:Nat} {x:ak} (hf:bZ line 0 A=some k) (hx:A[k]? =some x) (hs:LOk x) (hw:WOk l x):
 aS ((onum,obuy,osel,oday,oext,olns),l,mapOf A,ref,pts,wt,()) (i:Int) (A.map ak.tup)=some ((gI (onum,obuy,osel,oday,oext,olns) l i (day,byy,no,2,line,art,q,unit,p,un,to) x).1,((onum,obuy,osel,oday,oext,olns),l,mapOf A,ref,pts,wt,()),(A.set k (gI (onum,obuy,osel,oday,oext,olns) l i (day,byy,no,2,line,art,q,unit,p,un,to) x).2).map ak.tup,()):=by
 have hdf:=hl _ (abw hd)
 obtain⟨_,_,_,_,_,_,hu⟩:=ef hdf
 obtain⟨uq,_⟩:=ja hu
 have h21:((2:Int)==1)=false:=rfl
 have h22:((2:Int)==2)=true:=rfl
 have h23:((2:Int)==3)=false:=rfl
 have h24:((2:Int)==4)=false:=rfl
 have h25:((2:Int)==5)=false:=rfl
 have h26:((2:Int)==6)=false:=rfl
 have h27:((2:Int)==7)=false:=rfl
 have h28:((2:Int)==8)=false:=rfl
 have h29:((2:Int)==9)=false:=rfl
 unfold aS
 dsimp only
 rw[iK hd,acn]
 dsimp only
 rw[kD,hf]
 simp only[h21,h22,h23,h24,h25,h26,h27,h28,h29,acC,acB,aM,acq,acn,rR hx hd]
 rfl
theorem Yd {onum obuy osel:Bys} {oday oext:Int} {olns:List aY} {day byy no line:Int} {art:Bys} {q:ah} {unit:Bys} {p:ah} {un to:Int} {i:Nat} (he0:0≤oext) (he1:oext≤1000) (hl:∀ d,d∈l→dX d=0)
 (hd:l[i]? =some (day,byy,no,3,line,art,q,unit,p,un,to)) {k:Nat} {x:ak} (hf:bZ line 0 A=some k) (hx:A[k]? =some x) (hs:LOk x) (hw:WOk l x):
 aS ((onum,obuy,osel,oday,oext,olns),l,mapOf A,ref,pts,wt,()) (i:Int) (A.map ak.tup)=some ((gI (onum,obuy,osel,oday,oext,olns) l i (day,byy,no,3,line,art,q,unit,p,un,to) x).1,((onum,obuy,osel,oday,oext,olns),l,mapOf A,ref,pts,wt,()),(A.set k (gI (onum,obuy,osel,oday,oext,olns) l i (day,byy,no,3,line,art,q,unit,p,un,to) x).2).map ak.tup,()):=by
 have hdf:=hl _ (abw hd)
 obtain⟨_,_,_,_,_,_,hu⟩:=ef hdf
 obtain⟨uq,_⟩:=ja hu
 have h31:((3:Int)==1)=false:=rfl
 have h32:((3:Int)==2)=false:=rfl
 have h33:((3:Int)==3)=true:=rfl
 have h34:((3:Int)==4)=false:=rfl
 have h35:((3:Int)==5)=false:=rfl
 have h36:((3:Int)==6)=false:=rfl
 have h37:((3:Int)==7)=false:=rfl
 have h38:((3:Int)==8)=false:=rfl
 have h39:((3:Int)==9)=false:=rfl
 unfold aS
 dsimp only
 rw[iK hd,acn]
 dsimp only
 rw[kD,hf]
 simp only[h31,h32,h33,h34,h35,h36,h37,h38,h39,acC,acB,aM,acq,acn,rR hx hd]
 rfl
theorem Ye {onum obuy osel:Bys} {oday oext:Int} {olns:List aY} {day byy no line:Int} {art:Bys} {q:ah} {unit:Bys} {p:ah} {un to:Int} {i:Nat} (he0:0≤oext) (he1:oext≤1000) (hl:∀ d,d∈l→dX d=0)
 (hd:l[i]? =some (day,byy,no,4,line,art,q,unit,p,un,to)) {k:Nat} {x:ak} (hf:bZ line 0 A=some k) (hx:A[k]? =some x) (hs:LOk x) (hw:WOk l x):
 aS ((onum,obuy,osel,oday,oext,olns),l,mapOf A,ref,pts,wt,()) (i:Int) (A.map ak.tup)=some ((gI (onum,obuy,osel,oday,oext,olns) l i (day,byy,no,4,line,art,q,unit,p,un,to) x).1,((onum,obuy,osel,oday,oext,olns),l,mapOf A,ref,pts,wt,()),(A.set k (gI (onum,obuy,osel,oday,oext,olns) l i (day,byy,no,4,line,art,q,unit,p,un,to) x).2).map ak.tup,()):=by
 have hdf:=hl _ (abw hd)
 obtain⟨_,_,_,_,_,_,hu⟩:=ef hdf
 obtain⟨uq,_⟩:=ja hu
 have h41:((4:Int)==1)=false:=rfl
 have h42:((4:Int)==2)=false:=rfl
 have h43:((4:Int)==3)=false:=rfl
 have h44:((4:Int)==4)=true:=rfl
 have h45:((4:Int)==5)=false:=rfl
 have h46:((4:Int)==6)=false:=rfl
 have h47:((4:Int)==7)=false:=rfl
 have h48:((4:Int)==8)=false:=rfl
 have h49:((4:Int)==9)=false:=rfl
 unfold aS
 dsimp only
 rw[iK hd,acn]
 dsimp only
 rw[kD,hf]
 simp only[h41,h42,h43,h44,h45,h46,h47,h48,h49,acC,acB,aM,acq,acn,rR hx hd]
 rfl
theorem Yf {onum obuy osel:Bys} {oday oext:Int} {olns:List aY} {day byy no line:Int} {art:Bys} {q:ah} {unit:Bys} {p:ah} {un to:Int} {i:Nat} (he0:0≤oext) (he1:oext≤1000) (hl:∀ d,d∈l→dX d=0)
 (hd:l[i]? =some (day,byy,no,5,line,art,q,unit,p,un,to)) {k:Nat} {x:ak} (hf:bZ line 0 A=some k) (hx:A[k]? =some x) (hs:LOk x) (hw:WOk l x):
 aS ((onum,obuy,osel,oday,oext,olns),l,mapOf A,ref,pts,wt,()) (i:Int) (A.map ak.tup)=some ((gI (onum,obuy,osel,oday,oext,olns) l i (day,byy,no,5,line,art,q,unit,p,un,to) x).1,((onum,obuy,osel,oday,oext,olns),l,mapOf A,ref,pts,wt,()),(A.set k (gI (onum,obuy,osel,oday,oext,olns) l i (day,byy,no,5,line,art,q,unit,p,un,to) x).2).map ak.tup,()):=by
 have hdf:=hl _ (abw hd)
 obtain⟨_,_,_,_,_,_,hu⟩:=ef hdf
 obtain⟨uq,_⟩:=ja hu
 have h51:((5:Int)==1)=false:=rfl
 have h52:((5:Int)==2)=false:=rfl
 have h53:((5:Int)==3)=false:=rfl
 have h54:((5:Int)==4)=false:=rfl
 have h55:((5:Int)==5)=true:=rfl
 have h56:((5:Int)==6)=false:=rfl
 have h57:((5:Int)==7)=false:=rfl
 have h58:((5:Int)==8)=false:=rfl
 have h59:((5:Int)==9)=false:=rfl
 unfold aS
 dsimp only
 rw[iK hd,acn]
 dsimp only
 rw[kD,hf]
 simp only[h51,h52,h53,h54,h55,h56,h57,h58,h59,acC,acB,aM,acq,acn,wE hx hs hw hl,iU]
 have ha:gI (onum,obuy,osel,oday,oext,olns) l i (day,byy,no,5,line,art,q,unit,p,un,to) x=(if (dh l (day,byy,no,5,line,art,q,unit,p,un,to) x).1=0 then (0,(dh l (day,byy,no,5,line,art,q,unit,p,un,to) x).2.clr) else dh l (day,byy,no,5,line,art,q,unit,p,un,to) x):=rfl
 rw[ha]
 by_cases e:(dh l (day,byy,no,5,line,art,q,unit,p,un,to) x).1=0
 ·rw[acN e,e]
  simp only[show ((0:Int)==0)=true from rfl,acC,acn,tv (LU hx _)]
  simp only[true_or,or_true,acI,acC]
  refine congrArg some (Prod.ext rfl (Prod.ext rfl (Prod.ext ?_ rfl)))
  exact Qp (dh l (day,byy,no,5,line,art,q,unit,p,un,to) x).2 ((dh l (day,byy,no,5,line,art,q,unit,p,un,to) x).2.clr) _ rfl
 ·rw[acM e,pG e,acB]
  rfl
theorem Yg {onum obuy osel:Bys} {oday oext:Int} {olns:List aY} {day byy no line:Int} {art:Bys} {q:ah} {unit:Bys} {p:ah} {un to:Int} {i:Nat} (he0:0≤oext) (he1:oext≤1000) (hl:∀ d,d∈l→dX d=0)
 (hd:l[i]? =some (day,byy,no,6,line,art,q,unit,p,un,to)) {k:Nat} {x:ak} (hf:bZ line 0 A=some k) (hx:A[k]? =some x) (hs:LOk x) (hw:WOk l x):
 aS ((onum,obuy,osel,oday,oext,olns),l,mapOf A,ref,pts,wt,()) (i:Int) (A.map ak.tup)=some ((gI (onum,obuy,osel,oday,oext,olns) l i (day,byy,no,6,line,art,q,unit,p,un,to) x).1,((onum,obuy,osel,oday,oext,olns),l,mapOf A,ref,pts,wt,()),(A.set k (gI (onum,obuy,osel,oday,oext,olns) l i (day,byy,no,6,line,art,q,unit,p,un,to) x).2).map ak.tup,()):=by
 have hdf:=hl _ (abw hd)
 obtain⟨_,_,_,_,_,_,hu⟩:=ef hdf
 obtain⟨uq,_⟩:=ja hu
 have h61:((6:Int)==1)=false:=rfl
 have h62:((6:Int)==2)=false:=rfl
 have h63:((6:Int)==3)=false:=rfl
 have h64:((6:Int)==4)=false:=rfl
 have h65:((6:Int)==5)=false:=rfl
 have h66:((6:Int)==6)=true:=rfl
 have h67:((6:Int)==7)=false:=rfl
 have h68:((6:Int)==8)=false:=rfl
 have h69:((6:Int)==9)=false:=rfl
 unfold aS
 dsimp only
 rw[iK hd,acn]
 dsimp only
 rw[kD,hf]
 simp only[h61,h62,h63,h64,h65,h66,h67,h68,h69,acC,acB,aM,acq,acn,wE hx hs hw hl,iU]
 have ha:gI (onum,obuy,osel,oday,oext,olns) l i (day,byy,no,6,line,art,q,unit,p,un,to) x=(if (dh l (day,byy,no,6,line,art,q,unit,p,un,to) x).1=0 then (0,(dh l (day,byy,no,6,line,art,q,unit,p,un,to) x).2.clr) else dh l (day,byy,no,6,line,art,q,unit,p,un,to) x):=rfl
 rw[ha]
 by_cases e:(dh l (day,byy,no,6,line,art,q,unit,p,un,to) x).1=0
 ·rw[acN e,e]
  simp only[show ((0:Int)==0)=true from rfl,acC,acn,tv (LU hx _)]
  simp only[true_or,or_true,acI,acC]
  refine congrArg some (Prod.ext rfl (Prod.ext rfl (Prod.ext ?_ rfl)))
  exact Qp (dh l (day,byy,no,6,line,art,q,unit,p,un,to) x).2 ((dh l (day,byy,no,6,line,art,q,unit,p,un,to) x).2.clr) _ rfl
 ·rw[acM e,pG e,acB]
  rfl
theorem Yh {onum obuy osel:Bys} {oday oext:Int} {olns:List aY} {day byy no line:Int} {art:Bys} {q:ah} {unit:Bys} {p:ah} {un to:Int} {i:Nat} (he0:0≤oext) (he1:oext≤1000) (hl:∀ d,d∈l→dX d=0)
 (hd:l[i]? =some (day,byy,no,7,line,art,q,unit,p,un,to)) {k:Nat} {x:ak} (hf:bZ line 0 A=some k) (hx:A[k]? =some x) (hs:LOk x) (hw:WOk l x):
 aS ((onum,obuy,osel,oday,oext,olns),l,mapOf A,ref,pts,wt,()) (i:Int) (A.map ak.tup)=some ((gI (onum,obuy,osel,oday,oext,olns) l i (day,byy,no,7,line,art,q,unit,p,un,to) x).1,((onum,obuy,osel,oday,oext,olns),l,mapOf A,ref,pts,wt,()),(A.set k (gI (onum,obuy,osel,oday,oext,olns) l i (day,byy,no,7,line,art,q,unit,p,un,to) x).2).map ak.tup,()):=by
 have hdf:=hl _ (abw hd)
 obtain⟨_,_,_,_,_,_,hu⟩:=ef hdf
 obtain⟨uq,_⟩:=ja hu
 have h71:((7:Int)==1)=false:=rfl
 have h72:((7:Int)==2)=false:=rfl
 have h73:((7:Int)==3)=false:=rfl
 have h74:((7:Int)==4)=false:=rfl
 have h75:((7:Int)==5)=false:=rfl
 have h76:((7:Int)==6)=false:=rfl
 have h77:((7:Int)==7)=true:=rfl
 have h78:((7:Int)==8)=false:=rfl
 have h79:((7:Int)==9)=false:=rfl
 unfold aS
 dsimp only
 rw[iK hd,acn]
 dsimp only
 rw[kD,hf]
 have hq:qOk q false=true:=uq rfl
 simp only[h71,h72,h73,h74,h75,h76,h77,h78,h79,acC,acB,aM,acq,acn,Ee hx hs (d:=(day,byy,no,7,line,art,q,unit,p,un,to)) hq,iU]
 have ha:gI (onum,obuy,osel,oday,oext,olns) l i (day,byy,no,7,line,art,q,unit,p,un,to) x=(if rO oday (day,byy,no,7,line,art,q,unit,p,un,to) x=0 then (0,{ x with ono:=no,oq:=bH q,ount:=un }) else (rO oday (day,byy,no,7,line,art,q,unit,p,un,to) x,x)):=rfl
 rw[ha]
 by_cases e:rO oday (day,byy,no,7,line,art,q,unit,p,un,to) x=0
 ·rw[acN e,show rO (iR (onum,obuy,osel,oday,oext,olns)) (day,byy,no,7,line,art,q,unit,p,un,to) x=0 from e]
  simp only[show ((0:Int)==0)=true from rfl,acC,acn,tv hx]
  simp only[true_or,or_true,acI,acC]
  rw[show jO (q.1,q.2)=some (bH q,()) from pL hq,acn]
  simp only[EW hx,acn,abH]
  rw[qg { x with ono:=no,oq:=bH q,ount:=un } _ rfl]
 ·rw[acM e,show (rO (iR (onum,obuy,osel,oday,oext,olns)) (day,byy,no,7,line,art,q,unit,p,un,to) x==0)=false from pG e,acB,lT hx]
  rfl
theorem Yi {onum obuy osel:Bys} {oday oext:Int} {olns:List aY} {day byy no line:Int} {art:Bys} {q:ah} {unit:Bys} {p:ah} {un to:Int} {i:Nat} (he0:0≤oext) (he1:oext≤1000) (hl:∀ d,d∈l→dX d=0)
 (hd:l[i]? =some (day,byy,no,8,line,art,q,unit,p,un,to)) {k:Nat} {x:ak} (hf:bZ line 0 A=some k) (hx:A[k]? =some x) (hs:LOk x) (hw:WOk l x):
 aS ((onum,obuy,osel,oday,oext,olns),l,mapOf A,ref,pts,wt,()) (i:Int) (A.map ak.tup)=some ((gI (onum,obuy,osel,oday,oext,olns) l i (day,byy,no,8,line,art,q,unit,p,un,to) x).1,((onum,obuy,osel,oday,oext,olns),l,mapOf A,ref,pts,wt,()),(A.set k (gI (onum,obuy,osel,oday,oext,olns) l i (day,byy,no,8,line,art,q,unit,p,un,to) x).2).map ak.tup,()):=by
 have hdf:=hl _ (abw hd)
 obtain⟨_,_,_,_,_,_,hu⟩:=ef hdf
 obtain⟨uq,_⟩:=ja hu
 have h81:((8:Int)==1)=false:=rfl
 have h82:((8:Int)==2)=false:=rfl
 have h83:((8:Int)==3)=false:=rfl
 have h84:((8:Int)==4)=false:=rfl
 have h85:((8:Int)==5)=false:=rfl
 have h86:((8:Int)==6)=false:=rfl
 have h87:((8:Int)==7)=false:=rfl
 have h88:((8:Int)==8)=true:=rfl
 have h89:((8:Int)==9)=false:=rfl
 unfold aS
 dsimp only
 rw[iK hd,acn]
 dsimp only
 rw[kD,hf]
 simp only[h81,h82,h83,h84,h85,h86,h87,h88,h89,acC,acB,aM,acq,acn,GY hx hs]
 rfl
theorem Yj {onum obuy osel:Bys} {oday oext:Int} {olns:List aY} {day byy no line:Int} {art:Bys} {q:ah} {unit:Bys} {p:ah} {un to:Int} {i:Nat} (he0:0≤oext) (he1:oext≤1000) (hl:∀ d,d∈l→dX d=0)
 (hd:l[i]? =some (day,byy,no,9,line,art,q,unit,p,un,to)) {k:Nat} {x:ak} (hf:bZ line 0 A=some k) (hx:A[k]? =some x) (hs:LOk x) (hw:WOk l x):
 aS ((onum,obuy,osel,oday,oext,olns),l,mapOf A,ref,pts,wt,()) (i:Int) (A.map ak.tup)=some ((gI (onum,obuy,osel,oday,oext,olns) l i (day,byy,no,9,line,art,q,unit,p,un,to) x).1,((onum,obuy,osel,oday,oext,olns),l,mapOf A,ref,pts,wt,()),(A.set k (gI (onum,obuy,osel,oday,oext,olns) l i (day,byy,no,9,line,art,q,unit,p,un,to) x).2).map ak.tup,()):=by
 have hdf:=hl _ (abw hd)
 obtain⟨_,_,_,_,_,_,hu⟩:=ef hdf
 obtain⟨uq,_⟩:=ja hu
 have h91:((9:Int)==1)=false:=rfl
 have h92:((9:Int)==2)=false:=rfl
 have h93:((9:Int)==3)=false:=rfl
 have h94:((9:Int)==4)=false:=rfl
 have h95:((9:Int)==5)=false:=rfl
 have h96:((9:Int)==6)=false:=rfl
 have h97:((9:Int)==7)=false:=rfl
 have h98:((9:Int)==8)=false:=rfl
 have h99:((9:Int)==9)=true:=rfl
 unfold aS
 dsimp only
 rw[iK hd,acn]
 dsimp only
 rw[kD,hf]
 have hq:qOk q false=true:=uq rfl
 simp only[h91,h92,h93,h94,h95,h96,h97,h98,h99,acC,acB,aM,acq,acn,rQ hx hs (o:=(onum,obuy,osel,oday,oext,olns)) he0 he1 (d:=(day,byy,no,9,line,art,q,unit,p,un,to)) hq,iU]
 have ha:gI (onum,obuy,osel,oday,oext,olns) l i (day,byy,no,9,line,art,q,unit,p,un,to) x=(if (dN oext (day,byy,no,9,line,art,q,unit,p,un,to) x).1=0 then (0,(dN oext (day,byy,no,9,line,art,q,unit,p,un,to) x).2.clr) else dN oext (day,byy,no,9,line,art,q,unit,p,un,to) x):=rfl
 rw[ha]
 by_cases e:(dN oext (day,byy,no,9,line,art,q,unit,p,un,to) x).1=0
 ·rw[acN e,show (dN (fM (onum,obuy,osel,oday,oext,olns)) (day,byy,no,9,line,art,q,unit,p,un,to) x).1=0 from e]
  simp only[show ((0:Int)==0)=true from rfl,acC,acn,tv (LU hx _)]
  simp only[true_or,or_true,acI,acC]
  refine congrArg some (Prod.ext rfl (Prod.ext rfl (Prod.ext ?_ rfl)))
  exact Qp (dN oext (day,byy,no,9,line,art,q,unit,p,un,to) x).2 ((dN oext (day,byy,no,9,line,art,q,unit,p,un,to) x).2.clr) _ rfl
 ·rw[acM e,show ((dN (fM (onum,obuy,osel,oday,oext,olns)) (day,byy,no,9,line,art,q,unit,p,un,to) x).1==0)=false from pG e,acB]
  rfl
theorem Xj {onum obuy osel:Bys} {oday oext:Int} {olns:List aY} {day byy no line:Int} {art:Bys} {q:ah} {unit:Bys} {p:ah} {un to:Int} {i:Nat} (he0:0≤oext) (he1:oext≤1000) (hl:∀ d,d∈l→dX d=0)
 (hd:l[i]? =some (day,byy,no,10,line,art,q,unit,p,un,to)) {k:Nat} {x:ak} (hf:bZ line 0 A=some k) (hx:A[k]? =some x) (hs:LOk x) (hw:WOk l x):
 aS ((onum,obuy,osel,oday,oext,olns),l,mapOf A,ref,pts,wt,()) (i:Int) (A.map ak.tup)=some ((gI (onum,obuy,osel,oday,oext,olns) l i (day,byy,no,10,line,art,q,unit,p,un,to) x).1,((onum,obuy,osel,oday,oext,olns),l,mapOf A,ref,pts,wt,()),(A.set k (gI (onum,obuy,osel,oday,oext,olns) l i (day,byy,no,10,line,art,q,unit,p,un,to) x).2).map ak.tup,()):=by
 have hdf:=hl _ (abw hd)
 obtain⟨_,_,_,_,_,_,hu⟩:=ef hdf
 obtain⟨uq,_⟩:=ja hu
 have h101:((10:Int)==1)=false:=rfl
 have h102:((10:Int)==2)=false:=rfl
 have h103:((10:Int)==3)=false:=rfl
 have h104:((10:Int)==4)=false:=rfl
 have h105:((10:Int)==5)=false:=rfl
 have h106:((10:Int)==6)=false:=rfl
 have h107:((10:Int)==7)=false:=rfl
 have h108:((10:Int)==8)=false:=rfl
 have h109:((10:Int)==9)=false:=rfl
 unfold aS
 dsimp only
 rw[iK hd,acn]
 dsimp only
 rw[kD,hf]
 have hq:qOk q false=true:=uq rfl
 simp only[h101,h102,h103,h104,h105,h106,h107,h108,h109,acC,acB,aM,acq,acn,rQ hx hs (o:=(onum,obuy,osel,oday,oext,olns)) he0 he1 (d:=(day,byy,no,10,line,art,q,unit,p,un,to)) hq,iU]
 have ha:gI (onum,obuy,osel,oday,oext,olns) l i (day,byy,no,10,line,art,q,unit,p,un,to) x=dN oext (day,byy,no,10,line,art,q,unit,p,un,to) x:=rfl
 rw[ha]
 by_cases e:(dN oext (day,byy,no,10,line,art,q,unit,p,un,to) x).1=0
 ·rw[show ((dN (fM (onum,obuy,osel,oday,oext,olns)) (day,byy,no,10,line,art,q,unit,p,un,to) x).1==0)=true by show ((dN oext (day,byy,no,10,line,art,q,unit,p,un,to) x).1==0)=true;rw[e];rfl]
  rfl
 ·rw[show ((dN (fM (onum,obuy,osel,oday,oext,olns)) (day,byy,no,10,line,art,q,unit,p,un,to) x).1==0)=false from pG e]
  rfl
theorem Xk {onum obuy osel:Bys} {oday oext:Int} {olns:List aY} {day byy no line:Int} {art:Bys} {q:ah} {unit:Bys} {p:ah} {un to:Int} {i:Nat} (he0:0≤oext) (he1:oext≤1000) (hl:∀ d,d∈l→dX d=0)
 (hd:l[i]? =some (day,byy,no,11,line,art,q,unit,p,un,to)) {k:Nat} {x:ak} (hf:bZ line 0 A=some k) (hx:A[k]? =some x) (hs:LOk x) (hw:WOk l x):
 aS ((onum,obuy,osel,oday,oext,olns),l,mapOf A,ref,pts,wt,()) (i:Int) (A.map ak.tup)=some ((gI (onum,obuy,osel,oday,oext,olns) l i (day,byy,no,11,line,art,q,unit,p,un,to) x).1,((onum,obuy,osel,oday,oext,olns),l,mapOf A,ref,pts,wt,()),(A.set k (gI (onum,obuy,osel,oday,oext,olns) l i (day,byy,no,11,line,art,q,unit,p,un,to) x).2).map ak.tup,()):=by
 have hdf:=hl _ (abw hd)
 obtain⟨_,_,_,_,_,_,hu⟩:=ef hdf
 obtain⟨uq,_⟩:=ja hu
 have h111:((11:Int)==1)=false:=rfl
 have h112:((11:Int)==2)=false:=rfl
 have h113:((11:Int)==3)=false:=rfl
 have h114:((11:Int)==4)=false:=rfl
 have h115:((11:Int)==5)=false:=rfl
 have h116:((11:Int)==6)=false:=rfl
 have h117:((11:Int)==7)=false:=rfl
 have h118:((11:Int)==8)=false:=rfl
 have h119:((11:Int)==9)=false:=rfl
 unfold aS
 dsimp only
 rw[iK hd,acn]
 dsimp only
 rw[kD,hf]
 have hq:qOk q false=true:=uq rfl
 simp only[h111,h112,h113,h114,h115,h116,h117,h118,h119,acC,acB,aM,acq,acn,rQ hx hs (o:=(onum,obuy,osel,oday,oext,olns)) he0 he1 (d:=(day,byy,no,11,line,art,q,unit,p,un,to)) hq,iU]
 have ha:gI (onum,obuy,osel,oday,oext,olns) l i (day,byy,no,11,line,art,q,unit,p,un,to) x=dN oext (day,byy,no,11,line,art,q,unit,p,un,to) x:=rfl
 rw[ha]
 by_cases e:(dN oext (day,byy,no,11,line,art,q,unit,p,un,to) x).1=0
 ·rw[show ((dN (fM (onum,obuy,osel,oday,oext,olns)) (day,byy,no,11,line,art,q,unit,p,un,to) x).1==0)=true by show ((dN oext (day,byy,no,11,line,art,q,unit,p,un,to) x).1==0)=true;rw[e];rfl]
  rfl
 ·rw[show ((dN (fM (onum,obuy,osel,oday,oext,olns)) (day,byy,no,11,line,art,q,unit,p,un,to) x).1==0)=false from pG e]
  rfl
theorem GX {i:Nat} {d:aa} (hA:Sound l A) (hl:∀ d,d∈l→dX d=0) (hd:l[i]? =some d) (he0:0≤fM o) (he1:fM o≤1000):
 aS (o,l,mapOf A,ref,pts,wt,()) (i:Int) (A.map ak.tup)=some ((gJ o l i d A).1,(o,l,mapOf (gJ o l i d A).2,ref,pts,wt,()),(gJ o l i d A).2.map ak.tup,()):=by
 obtain⟨_,_,_,hk,_,_,_⟩:=ef (hl d (abw hd))
 by_cases k1:bN d=1
 ·unfold aS
  dsimp only
  rw[iK hd,acn,show (d.2.2.2.1==1)=true by simpa using k1,acC]
  rw[HZ hd k1,acn]
 ·cases hf:oU (qW d) A with
  | none=>
   rw[UW k1 hf]
   unfold aS
   dsimp only
   rw[iK hd,acn,show (d.2.2.2.1==1)=false by simpa using k1,acB]
   rw[kD,show bZ d.2.2.2.2.1 0 A=none from hf]
   rfl
  | some k=>
   obtain⟨x,hx,hxn⟩:=Ov hf
   rw[VZ k1 hf hx]
   obtain⟨hs,hw⟩:=hA.line x (abw hx)
   have hm:mapOf (A.set k (gI o l i d x).2)=mapOf A:=Wu A 0 (fun z hz=>by
    rw[hx] at hz;cases hz
    exact (LK (o:=o) hs hw hl hd).2.2.1)
   rw[hm]
   obtain⟨onum,obuy,osel,oday,oext,olns⟩:=o
   obtain⟨day,byy,no,kk,line,art,q,unit,p,un,to⟩:=d
   have hk':kk=2∨kk=3∨kk=4∨kk=5∨kk=6∨kk=7∨kk=8∨kk=9∨kk=10∨kk=11:=by
    have h1:1≤kk∧kk≤11:=hk
    have h2:kk≠1:=k1
    omega
   rcases hk' with rfl | rfl | rfl | rfl | rfl | rfl | rfl | rfl | rfl | rfl
   ·exact Yc he0 he1 hl hd hf hx hs hw
   ·exact Yd he0 he1 hl hd hf hx hs hw
   ·exact Ye he0 he1 hl hd hf hx hs hw
   ·exact Yf he0 he1 hl hd hf hx hs hw
   ·exact Yg he0 he1 hl hd hf hx hs hw
   ·exact Yh he0 he1 hl hd hf hx hs hw
   ·exact Yi he0 he1 hl hd hf hx hs hw
   ·exact Yj he0 he1 hl hd hf hx hs hw
   ·exact Xj he0 he1 hl hd hf hx hs hw
   ·exact Xk he0 he1 hl hd hf hx hs hw
end Go.Md
