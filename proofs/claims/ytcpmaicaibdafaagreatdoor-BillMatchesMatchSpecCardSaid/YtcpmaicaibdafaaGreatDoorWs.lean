/-
  Plain facts: deeds and orders checked; what a deed does with a line. No condition.
-/
import Derived.Test.YtcpmaicaibdafaaGreatDoorWo
import Derived.Test.YtcpmaicaibdafaaGreatDoorWr
set_option linter.all false
namespace Go.Md
open Go.Dn
theorem gK (k:Int):pO k=some (decide (k=5∨k=6∨k=7∨k=9),()):=by
 unfold pO
 by_cases h5:k=5
 ·subst h5;rfl
 by_cases h6:k=6
 ·subst h6;rfl
 by_cases h7:k=7
 ·subst h7;rfl
 by_cases h9:k=9
 ·subst h9;rfl
 have e5:(k==5)=false:=by simp[h5]
 have e6:(k==6)=false:=by simp[h6]
 have e7:(k==7)=false:=by simp[h7]
 have e9:(k==9)=false:=by simp[h9]
 simp only[e5,e6,e7,e9,aih]
 simp[h5,h6,h7,h9]
def usA (k:Int):Bool:=decide (k=1)
def usQ (k:Int):Bool:=decide (k≠3∧k≠4∧k≠5∧k≠6∧k≠8)
def usP (k:Int):Bool:=decide (k=1∨k=4)
def usU (k:Int):Bool:=decide (k=1∨k=3∨k=7)
def usT (k:Int):Bool:=decide (k=5∨k=6∨k=8)
theorem R4 (k:Int):AY k=some ((usA k,usQ k,usA k,usP k,usU k,usT k),()):=by
 unfold AY
 by_cases h1:k=1
 ·subst h1;rfl
 by_cases h3:k=3
 ·subst h3;rfl
 by_cases h4:k=4
 ·subst h4;rfl
 by_cases h5:k=5
 ·subst h5;rfl
 by_cases h6:k=6
 ·subst h6;rfl
 by_cases h7:k=7
 ·subst h7;rfl
 by_cases h8:k=8
 ·subst h8;rfl
 have e1:(k==1)=false:=by simp[h1]
 have e3:(k==3)=false:=by simp[h3]
 have e4:(k==4)=false:=by simp[h4]
 have e5:(k==5)=false:=by simp[h5]
 have e6:(k==6)=false:=by simp[h6]
 have e8:(k==8)=false:=by simp[h8]
 have e7:(k==7)=false:=by simp[h7]
 simp only[e1,e3,e4,e5,e6,e7,e8,aih]
 simp[h1,h3,h4,h5,h6,h7,h8,usA,usQ,usP,usU,usT]
def AX (n:Int):Bool:=decide (1≤n∧n≤3652059)
def DW (n:Int):Bool:=decide (1≤n∧n≤2000)
def SE (ua uq up uu ut k2:Bool) (art:Bys) (q:ah) (unit:Bys) (p:ah) (un to:Int):Int:=
 bif uq&& !qOk q k2 then 1
 else bif up&& !inR p 0 1000000000 4 then 1
 else bif uu&& !AX un then 1
 else bif ua&&(!bV art|| !bV unit) then 5
 else bif ut&& !DW to then 1
 else bif (!ua&& !(art==[]))||((!uq&& !(q.1==0&&q.2==0))||((!ua&& !(unit==[]))||((!up&& !(p.1==0&&p.2==0))||((!uu&&un != 0)||(!ut&&to != 0))))) then 3
 else 0
def ES (d:aa):Int:=
 SE (usA d.2.2.2.1) (usQ d.2.2.2.1) (usP d.2.2.2.1) (usU d.2.2.2.1) (usT d.2.2.2.1) (d.2.2.2.1==2) d.2.2.2.2.2.1 d.2.2.2.2.2.2.1 d.2.2.2.2.2.2.2.1 d.2.2.2.2.2.2.2.2.1 d.2.2.2.2.2.2.2.2.2.1 d.2.2.2.2.2.2.2.2.2.2
theorem Vv (n:Int):jZ n=some (AX n,()):=rq n
theorem acN (n:Int):bO n 1 2000=some (!DW n,()):=by
 rw[eE]
 congr 2
 unfold DW
 by_cases h1:1≤n<;>by_cases h2:n≤2000<;>simp[h1,h2]<;>omega
theorem Np (d:aa):uW d=some (ES d,()):=by
 obtain⟨day,byy,no,k,line,art,⟨q1,q2⟩,unit,⟨p1,p2⟩,un,to⟩:=d
 unfold uW ES
 dsimp only
 rw[R4,ah4]
 dsimp only
 rw[yB]
 simp only[uF,Vv,oM,acN,ah4]
 generalize usA k=ua
 generalize usQ k=uq
 generalize usP k=up
 generalize usU k=uu
 generalize usT k=ut
 generalize (k==2)=k2
 unfold SE
 generalize qOk (q1,q2) k2=b1
 have step1:∀ (A:Option ((Int×Unit) ⊕ (Int×Int×Int×Int×Int×Bys×Int×Int×Bys×Int×Int×Int×Int×Bool×Bool×Bool×Bool×Bool×Bool×Unit))) (v:Int×Int×Int×Int×Int×Bys×Int×Int×Bys×Int×Int×Int×Int×Bool×Bool×Bool×Bool×Bool×Bool×Unit) (K:(Int×Int×Int×Int×Int×Bys×Int×Int×Bys×Int×Int×Int×Int×Bool×Bool×Bool×Bool×Bool×Bool×Unit)→Option (Int×Unit)),
  A=some (.inr v)→az A K=K v:=fun A v K h=>by rw[h];rfl
 cases uq
 ·refine Eq.trans (step1 _ _ _ (by exact rfl)) ?_
  cases up
  ·refine Eq.trans (step1 _ _ _ (by exact rfl)) ?_
   dsimp only
   generalize AX un=b3
   generalize bV art=b4
   generalize bV unit=b5
   generalize DW to=b6
   generalize (art==[])=c1
   generalize (q1==0)=c2
   generalize (q2==0)=c3
   generalize (unit==[])=c4
   generalize (p1==0)=c5
   generalize (p2==0)=c6
   generalize (un != 0)=c7
   generalize (to != 0)=c8
   cases uu
   ·cases ua
    ·cases ut
     ·cases c1<;>first | rfl | (cases c4<;>first | rfl | (cases c7<;>first | rfl | (cases c8<;>first | rfl | (cases c2<;>first | rfl | (cases c3<;>first | rfl | (cases c5<;>first | rfl | (cases c6<;>rfl)))))))
     ·cases b6
      ·rfl
      ·cases c1<;>first | rfl | (cases c4<;>first | rfl | (cases c7<;>first | rfl | (cases c8<;>first | rfl | (cases c2<;>first | rfl | (cases c3<;>first | rfl | (cases c5<;>first | rfl | (cases c6<;>rfl)))))))
    ·cases b4
     ·rfl
     ·cases b5
      ·rfl
      ·cases ut
       ·cases c1<;>first | rfl | (cases c4<;>first | rfl | (cases c7<;>first | rfl | (cases c8<;>first | rfl | (cases c2<;>first | rfl | (cases c3<;>first | rfl | (cases c5<;>first | rfl | (cases c6<;>rfl)))))))
       ·cases b6
        ·rfl
        ·cases c1<;>first | rfl | (cases c4<;>first | rfl | (cases c7<;>first | rfl | (cases c8<;>first | rfl | (cases c2<;>first | rfl | (cases c3<;>first | rfl | (cases c5<;>first | rfl | (cases c6<;>rfl)))))))
   ·cases b3
    ·rfl
    ·cases ua
     ·cases ut
      ·cases c1<;>first | rfl | (cases c4<;>first | rfl | (cases c7<;>first | rfl | (cases c8<;>first | rfl | (cases c2<;>first | rfl | (cases c3<;>first | rfl | (cases c5<;>first | rfl | (cases c6<;>rfl)))))))
      ·cases b6
       ·rfl
       ·cases c1<;>first | rfl | (cases c4<;>first | rfl | (cases c7<;>first | rfl | (cases c8<;>first | rfl | (cases c2<;>first | rfl | (cases c3<;>first | rfl | (cases c5<;>first | rfl | (cases c6<;>rfl)))))))
     ·cases b4
      ·rfl
      ·cases b5
       ·rfl
       ·cases ut
        ·cases c1<;>first | rfl | (cases c4<;>first | rfl | (cases c7<;>first | rfl | (cases c8<;>first | rfl | (cases c2<;>first | rfl | (cases c3<;>first | rfl | (cases c5<;>first | rfl | (cases c6<;>rfl)))))))
        ·cases b6
         ·rfl
         ·cases c1<;>first | rfl | (cases c4<;>first | rfl | (cases c7<;>first | rfl | (cases c8<;>first | rfl | (cases c2<;>first | rfl | (cases c3<;>first | rfl | (cases c5<;>first | rfl | (cases c6<;>rfl)))))))
  ·dsimp only
   generalize inR (p1,p2) 0 1000000000 4=b2
   cases b2
   ·rfl
   ·refine Eq.trans (step1 _ _ _ (by exact rfl)) ?_
    dsimp only
    generalize AX un=b3
    generalize bV art=b4
    generalize bV unit=b5
    generalize DW to=b6
    generalize (art==[])=c1
    generalize (q1==0)=c2
    generalize (q2==0)=c3
    generalize (unit==[])=c4
    generalize (p1==0)=c5
    generalize (p2==0)=c6
    generalize (un != 0)=c7
    generalize (to != 0)=c8
    cases uu
    ·cases ua
     ·cases ut
      ·cases c1<;>first | rfl | (cases c4<;>first | rfl | (cases c7<;>first | rfl | (cases c8<;>first | rfl | (cases c2<;>first | rfl | (cases c3<;>first | rfl | (cases c5<;>first | rfl | (cases c6<;>rfl)))))))
      ·cases b6
       ·rfl
       ·cases c1<;>first | rfl | (cases c4<;>first | rfl | (cases c7<;>first | rfl | (cases c8<;>first | rfl | (cases c2<;>first | rfl | (cases c3<;>first | rfl | (cases c5<;>first | rfl | (cases c6<;>rfl)))))))
     ·cases b4
      ·rfl
      ·cases b5
       ·rfl
       ·cases ut
        ·cases c1<;>first | rfl | (cases c4<;>first | rfl | (cases c7<;>first | rfl | (cases c8<;>first | rfl | (cases c2<;>first | rfl | (cases c3<;>first | rfl | (cases c5<;>first | rfl | (cases c6<;>rfl)))))))
        ·cases b6
         ·rfl
         ·cases c1<;>first | rfl | (cases c4<;>first | rfl | (cases c7<;>first | rfl | (cases c8<;>first | rfl | (cases c2<;>first | rfl | (cases c3<;>first | rfl | (cases c5<;>first | rfl | (cases c6<;>rfl)))))))
    ·cases b3
     ·rfl
     ·cases ua
      ·cases ut
       ·cases c1<;>first | rfl | (cases c4<;>first | rfl | (cases c7<;>first | rfl | (cases c8<;>first | rfl | (cases c2<;>first | rfl | (cases c3<;>first | rfl | (cases c5<;>first | rfl | (cases c6<;>rfl)))))))
       ·cases b6
        ·rfl
        ·cases c1<;>first | rfl | (cases c4<;>first | rfl | (cases c7<;>first | rfl | (cases c8<;>first | rfl | (cases c2<;>first | rfl | (cases c3<;>first | rfl | (cases c5<;>first | rfl | (cases c6<;>rfl)))))))
      ·cases b4
       ·rfl
       ·cases b5
        ·rfl
        ·cases ut
         ·cases c1<;>first | rfl | (cases c4<;>first | rfl | (cases c7<;>first | rfl | (cases c8<;>first | rfl | (cases c2<;>first | rfl | (cases c3<;>first | rfl | (cases c5<;>first | rfl | (cases c6<;>rfl)))))))
         ·cases b6
          ·rfl
          ·cases c1<;>first | rfl | (cases c4<;>first | rfl | (cases c7<;>first | rfl | (cases c8<;>first | rfl | (cases c2<;>first | rfl | (cases c3<;>first | rfl | (cases c5<;>first | rfl | (cases c6<;>rfl)))))))
 ·cases b1
  ·rfl
  ·refine Eq.trans (step1 _ _ _ (by exact rfl)) ?_
   cases up
   ·refine Eq.trans (step1 _ _ _ (by exact rfl)) ?_
    dsimp only
    generalize AX un=b3
    generalize bV art=b4
    generalize bV unit=b5
    generalize DW to=b6
    generalize (art==[])=c1
    generalize (q1==0)=c2
    generalize (q2==0)=c3
    generalize (unit==[])=c4
    generalize (p1==0)=c5
    generalize (p2==0)=c6
    generalize (un != 0)=c7
    generalize (to != 0)=c8
    cases uu
    ·cases ua
     ·cases ut
      ·cases c1<;>first | rfl | (cases c4<;>first | rfl | (cases c7<;>first | rfl | (cases c8<;>first | rfl | (cases c2<;>first | rfl | (cases c3<;>first | rfl | (cases c5<;>first | rfl | (cases c6<;>rfl)))))))
      ·cases b6
       ·rfl
       ·cases c1<;>first | rfl | (cases c4<;>first | rfl | (cases c7<;>first | rfl | (cases c8<;>first | rfl | (cases c2<;>first | rfl | (cases c3<;>first | rfl | (cases c5<;>first | rfl | (cases c6<;>rfl)))))))
     ·cases b4
      ·rfl
      ·cases b5
       ·rfl
       ·cases ut
        ·cases c1<;>first | rfl | (cases c4<;>first | rfl | (cases c7<;>first | rfl | (cases c8<;>first | rfl | (cases c2<;>first | rfl | (cases c3<;>first | rfl | (cases c5<;>first | rfl | (cases c6<;>rfl)))))))
        ·cases b6
         ·rfl
         ·cases c1<;>first | rfl | (cases c4<;>first | rfl | (cases c7<;>first | rfl | (cases c8<;>first | rfl | (cases c2<;>first | rfl | (cases c3<;>first | rfl | (cases c5<;>first | rfl | (cases c6<;>rfl)))))))
    ·cases b3
     ·rfl
     ·cases ua
      ·cases ut
       ·cases c1<;>first | rfl | (cases c4<;>first | rfl | (cases c7<;>first | rfl | (cases c8<;>first | rfl | (cases c2<;>first | rfl | (cases c3<;>first | rfl | (cases c5<;>first | rfl | (cases c6<;>rfl)))))))
       ·cases b6
        ·rfl
        ·cases c1<;>first | rfl | (cases c4<;>first | rfl | (cases c7<;>first | rfl | (cases c8<;>first | rfl | (cases c2<;>first | rfl | (cases c3<;>first | rfl | (cases c5<;>first | rfl | (cases c6<;>rfl)))))))
      ·cases b4
       ·rfl
       ·cases b5
        ·rfl
        ·cases ut
         ·cases c1<;>first | rfl | (cases c4<;>first | rfl | (cases c7<;>first | rfl | (cases c8<;>first | rfl | (cases c2<;>first | rfl | (cases c3<;>first | rfl | (cases c5<;>first | rfl | (cases c6<;>rfl)))))))
         ·cases b6
          ·rfl
          ·cases c1<;>first | rfl | (cases c4<;>first | rfl | (cases c7<;>first | rfl | (cases c8<;>first | rfl | (cases c2<;>first | rfl | (cases c3<;>first | rfl | (cases c5<;>first | rfl | (cases c6<;>rfl)))))))
   ·dsimp only
    generalize inR (p1,p2) 0 1000000000 4=b2
    cases b2
    ·rfl
    ·refine Eq.trans (step1 _ _ _ (by exact rfl)) ?_
     dsimp only
     generalize AX un=b3
     generalize bV art=b4
     generalize bV unit=b5
     generalize DW to=b6
     generalize (art==[])=c1
     generalize (q1==0)=c2
     generalize (q2==0)=c3
     generalize (unit==[])=c4
     generalize (p1==0)=c5
     generalize (p2==0)=c6
     generalize (un != 0)=c7
     generalize (to != 0)=c8
     cases uu
     ·cases ua
      ·cases ut
       ·cases c1<;>first | rfl | (cases c4<;>first | rfl | (cases c7<;>first | rfl | (cases c8<;>first | rfl | (cases c2<;>first | rfl | (cases c3<;>first | rfl | (cases c5<;>first | rfl | (cases c6<;>rfl)))))))
       ·cases b6
        ·rfl
        ·cases c1<;>first | rfl | (cases c4<;>first | rfl | (cases c7<;>first | rfl | (cases c8<;>first | rfl | (cases c2<;>first | rfl | (cases c3<;>first | rfl | (cases c5<;>first | rfl | (cases c6<;>rfl)))))))
      ·cases b4
       ·rfl
       ·cases b5
        ·rfl
        ·cases ut
         ·cases c1<;>first | rfl | (cases c4<;>first | rfl | (cases c7<;>first | rfl | (cases c8<;>first | rfl | (cases c2<;>first | rfl | (cases c3<;>first | rfl | (cases c5<;>first | rfl | (cases c6<;>rfl)))))))
         ·cases b6
          ·rfl
          ·cases c1<;>first | rfl | (cases c4<;>first | rfl | (cases c7<;>first | rfl | (cases c8<;>first | rfl | (cases c2<;>first | rfl | (cases c3<;>first | rfl | (cases c5<;>first | rfl | (cases c6<;>rfl)))))))
     ·cases b3
      ·rfl
      ·cases ua
       ·cases ut
        ·cases c1<;>first | rfl | (cases c4<;>first | rfl | (cases c7<;>first | rfl | (cases c8<;>first | rfl | (cases c2<;>first | rfl | (cases c3<;>first | rfl | (cases c5<;>first | rfl | (cases c6<;>rfl)))))))
        ·cases b6
         ·rfl
         ·cases c1<;>first | rfl | (cases c4<;>first | rfl | (cases c7<;>first | rfl | (cases c8<;>first | rfl | (cases c2<;>first | rfl | (cases c3<;>first | rfl | (cases c5<;>first | rfl | (cases c6<;>rfl)))))))
       ·cases b4
        ·rfl
        ·cases b5
         ·rfl
         ·cases ut
          ·cases c1<;>first | rfl | (cases c4<;>first | rfl | (cases c7<;>first | rfl | (cases c8<;>first | rfl | (cases c2<;>first | rfl | (cases c3<;>first | rfl | (cases c5<;>first | rfl | (cases c6<;>rfl)))))))
          ·cases b6
           ·rfl
           ·cases c1<;>first | rfl | (cases c4<;>first | rfl | (cases c7<;>first | rfl | (cases c8<;>first | rfl | (cases c2<;>first | rfl | (cases c3<;>first | rfl | (cases c5<;>first | rfl | (cases c6<;>rfl)))))))
def bF (d:aa):Int:=
 if ¬(1≤d.1∧d.1≤3652059) then 1
 else if ¬(1≤d.2.1∧d.2.1≤2) then 4
 else if ¬(1≤d.2.2.1∧d.2.2.1≤2000) then 1
 else if ¬(1≤d.2.2.2.1∧d.2.2.2.1≤11) then 4
 else if ¬((d.2.2.2.1=5∨d.2.2.2.1=6∨d.2.2.2.1=7∨d.2.2.2.1=9)↔d.2.1=2) then 4
 else if ¬(1≤d.2.2.2.2.1∧d.2.2.2.2.1≤99999) then 1
 else ES d
theorem TH (n a b:Int):decide (n<a∨b<n)= !decide (a≤n∧n≤b):=by
 by_cases h1:a≤n<;>by_cases h2:n≤b<;>simp[h1,h2]<;>omega
theorem Nn (d:aa):uU d=some (bF d,()):=by
 unfold uU bF
 simp only[rq,eE,TH,gK,Np,ah4]
 by_cases h1:1≤d.1∧d.1≤3652059
 ·by_cases h2:1≤d.2.1∧d.2.1≤2
  ·by_cases h3:1≤d.2.2.1∧d.2.2.1≤2000
   ·by_cases h4:1≤d.2.2.2.1∧d.2.2.2.1≤11
    ·by_cases h5:(d.2.2.2.1=5∨d.2.2.2.1=6∨d.2.2.2.1=7∨d.2.2.2.1=9)↔d.2.1=2
     ·have e5:(decide (d.2.2.2.1=5∨d.2.2.2.1=6∨d.2.2.2.1=7∨d.2.2.2.1=9)==(d.2.1==2))=true:=by
       by_cases h6:d.2.1=2
       ·simp[h6,h5.2 h6]
       ·have:¬(d.2.2.2.1=5∨d.2.2.2.1=6∨d.2.2.2.1=7∨d.2.2.2.1=9):=fun h=>h6 (h5.1 h)
        simp[h6,this]
      by_cases h6:1≤d.2.2.2.2.1∧d.2.2.2.2.1≤99999
      ·rw[e5]
       simp only[h1,h2,h3,h4,h5,h6,iff_self,aip,afE,aih,not_true,ait,aic]
      ·rw[e5]
       simp only[h1,h2,h3,h4,h5,h6,iff_self,aip,aio,afE,afD,aih,aii,not_true,aiz,ait,aiw,aic]
     ·have e5:(decide (d.2.2.2.1=5∨d.2.2.2.1=6∨d.2.2.2.1=7∨d.2.2.2.1=9)==(d.2.1==2))=false:=by
       by_cases h6:d.2.1=2
       ·have:¬(d.2.2.2.1=5∨d.2.2.2.1=6∨d.2.2.2.1=7∨d.2.2.2.1=9):=fun h=>h5 ⟨fun _=>h6,fun _=>h⟩
        simp[h6,this]
       ·have:(d.2.2.2.1=5∨d.2.2.2.1=6∨d.2.2.2.1=7∨d.2.2.2.1=9):=Classical.byContradiction fun h=>h5 ⟨fun h'=>absurd h' h,fun h'=>absurd h' h6⟩
        simp[h6,this]
      rw[e5]
      simp only[h1,h2,h3,h4,h5,aip,afE,afD,aih,aii,not_true,aiz,ait,aiw,aic]
    ·simp only[h1,h2,h3,h4,aip,aio,afE,afD,aih,aii,not_true,aiz,ait,aiw,aic]
   ·simp only[h1,h2,h3,aip,aio,afE,afD,aih,aii,not_true,aiz,ait,aiw,aic]
  ·simp only[h1,h2,aip,aio,afE,afD,aih,aii,not_true,aiz,ait,aiw,aic]
 ·simp only[h1,aio,afD,aii,aiz,aiw]
theorem bU {d:aa} (h:bF d=0):(1≤d.1∧d.1≤3652059)∧(1≤d.2.1∧d.2.1≤2)∧(1≤d.2.2.1∧d.2.2.1≤2000)∧(1≤d.2.2.2.1∧d.2.2.2.1≤11)∧
 ((d.2.2.2.1=5∨d.2.2.2.1=6∨d.2.2.2.1=7∨d.2.2.2.1=9)↔d.2.1=2)∧(1≤d.2.2.2.2.1∧d.2.2.2.2.1≤99999)∧ES d=0:=by
 unfold bF at h
 split at h
 ·cases h
 ·rename_i h1
  split at h
  ·cases h
  ·rename_i h2
   split at h
   ·cases h
   ·rename_i h3
    split at h
    ·cases h
    ·rename_i h4
     split at h
     ·cases h
     ·rename_i h5
      split at h
      ·cases h
      ·rename_i h6
       exact⟨afJ.1 h1,afJ.1 h2,afJ.1 h3,afJ.1 h4,afJ.1 h5,afJ.1 h6,h⟩
end Go.Md
namespace Go.Md
open Go.Dn
def dCw (a b:aa):Int:=if w64 (a.1 - b.1)≠0 then w64 (a.1 - b.1) else if w64 (a.2.1 - b.2.1)≠0 then w64 (a.2.1 - b.2.1) else w64 (a.2.2.1 - b.2.2.1)
theorem KE (a b:aa):lP a b=some (dCw a b,()):=by
 unfold lP dCw
 generalize w64 (a.1 - b.1)=x
 generalize w64 (a.2.1 - b.2.1)=y
 generalize w64 (a.2.2.1 - b.2.2.1)=z
 simp only[agO,agR]
 have key:iter (X:=mm) (β:=mj) 8 (3,0,[x,y,z],()) rA=(bif x != 0 then some (Sum.inl (x,())) else bif y != 0 then some (Sum.inl (y,())) else bif z != 0 then some (Sum.inl (z,())) else some (Sum.inr ())):=by kernel_rfl
 show az (β:=(Int×Unit)) (γ:=Unit) (iter 8 (3,0,[x,y,z],()) rA) _=_
 rw[key]
 by_cases hx:x=0
 ·subst hx
  by_cases hy:y=0
  ·subst hy
   by_cases hz:z=0
   ·subst hz;rfl
   ·have:(z != 0)=true:=by simp[hz]
    rw[this];simp[az]
  ·have:(y != 0)=true:=by simp[hy]
   rw[this];simp[az,hy]
 ·have:(x != 0)=true:=by simp[hx]
  rw[this];simp[az,hx]
def dN:List aa→Option aa→Int→Int→Int
 | [],_,_,_=>0
 | d::r,p,nb,ns=>
  if bF d≠0 then bF d
  else if (p.any fun q=>decide (0≤dCw q d))=true then 8
  else if d.2.1=1 then (if d.2.2.1≠w64 (nb+1) then 9 else dN r (some d) d.2.2.1 ns)
  else (if d.2.2.1≠w64 (ns+1) then 9 else dN r (some d) nb d.2.2.1)
def lH (l:List aa):Int:=if 2000<l.length then 2 else dN l none 0 0
def bK {α:Type} (l:List α):Nat→Option α
 | 0=>none
 | i+1=>l[i]?
def dG (a0:List aa) (s:Int×Int×Int) (i:Nat) (y:aa) (k:(Int×Int×Int)→Option iJ):Option iJ:=
 if bF y≠0 then some (Sum.inl (bF y,()))
 else if ((bK a0 i).any fun q=>decide (0≤dCw q y))=true then some (Sum.inl (8,()))
 else if y.2.1=1 then (if y.2.2.1≠w64 (s.2.1+1) then some (Sum.inl (9,())) else k (s.1,y.2.2.1,s.2.2))
 else (if y.2.2.1≠w64 (s.2.2+1) then some (Sum.inl (9,())) else k (s.1,s.2.1,y.2.2.1))
theorem cq {a b:Int} (h:a≠b):(a != b)=true:=by simp[h]
theorem dx {a b:Int} (h:a≠b):(a==b)=false:=by simp[h]
theorem cM {α:Type} {l:List α} {i:Nat} {y:α} (h:l[i]? =some y):idx l (i:Int)=some y:=by
 unfold idx
 rw[aiv (afW i)]
 exact h
theorem QZ (a0:List aa) (hl:a0.length≤2000) (s:Int×Int×Int) (i:Nat) (y:aa) (again:kE→Option iJ) (hy:a0[i]? =some y):
 kD (a0,a0,(a0.length:Int),(i:Int),s.1,s.2.1,s.2.2,()) again=dG a0 s i y fun s'=>again (a0,a0,(a0.length:Int),((i+1:Nat):Int),s'.1,s'.2.1,s'.2.2,()):=by
 have hi:i<a0.length:=(agD.1 hy).1
 unfold kD dG
 dsimp only
 rw[aim (show (i:Int)<(a0.length:Int) by omega),aii,cM hy,ah4,Nn,ah4]
 dsimp only
 have hw:w64 ((i:Int)+1)=((i+1:Nat):Int):=by rw[av (by omega) (by omega)];omega
 rw[hw]
 by_cases hf:bF y=0
 ·rw[hf,zne,aih,aiu (by simp)]
  obtain⟨_,hby,_⟩:=bU hf
  have hprev':(bif decide ((i:Int)>0) then Option.bind (idx a0 (w64 ((i:Int) - 1))) fun y4=>Option.bind (lP y4 y) fun r5=>some (decide (r5.1≥0),()) else some (false,()))=some ((bK a0 i).any fun q=>decide (0≤dCw q y),()):=by
   cases i with
   | zero=>rfl
   | succ j=>
    have hj:j<a0.length:=by omega
    have hq:a0[j]? =some a0[j]:=agB hj
    have e:w64 (((j+1:Nat):Int) - 1)=(j:Int):=by rw[av (by omega) (by omega)];omega
    rw[aim (by omega),aii,e,cM hq,ah4,KE,ah4]
    simp only[bK,hq,Option.any_some]
  rw[hprev',ah4]
  dsimp only
  cases ((bK a0 i).any fun q=>decide (0≤dCw q y)) with
  | true=>rfl
  | false=>
   rw[aih,aiu (by simp)]
   by_cases h1:y.2.1=1
   ·rw[dx (show y.2.1≠0 by omega),aih,show (y.2.1==1)=true by simp[h1],aii,aiv h1]
    by_cases hn:y.2.2.1=w64 (s.2.1+1)
    ·rw[show (y.2.2.1 != w64 (s.2.1+1))=false by simp[hn],aih,aiu (by simp[hn])]
     rfl
    ·rw[cq hn,aii,aiv hn]
   ·have h2:y.2.1=2:=by omega
    rw[dx (show y.2.1≠0 by omega),aih,dx h1,aih,show (y.2.1==2)=true by simp[h2],aii,aiu h1]
    by_cases hn:y.2.2.1=w64 (s.2.2+1)
    ·rw[show (y.2.2.1 != w64 (s.2.2+1))=false by simp[hn],aih,aiu (by simp[hn])]
     rfl
    ·rw[cq hn,aii,aiv hn]
 ·rw[cq hf,aii,aiv hf]
def Qj (f:Int):Option ((Int×Unit) ⊕ Unit):=if f=0 then some (Sum.inr ()) else some (Sum.inl (f,()))
theorem MS {f:Int} (h:f=0):Qj f=some (Sum.inr ()):=aiv h
theorem Jg {f:Int} (h:f≠0):Qj f=some (Sum.inl (f,())):=aiu h
theorem Mz (a0:List aa):∀ (r:List aa) (i:Nat) (s:Int×Int×Int),a0.drop i=r→
 FJ (dG a0) (fun _=>some (Sum.inr ())) r i s=Qj (dN r (bK a0 i) s.2.1 s.2.2)
 | [],_,_,_=>by simp[FJ,dN,Qj]
 | y::r,i,s,hd=>by
  have hy:a0[i]? =some y:=by
   have:=congrArg (·[0]?) hd
   simpa [agA] using this
  have hr:a0.drop (i+1)=r:=by
   have:=congrArg List.tail hd
   simpa [aho] using this
  have hp:bK a0 (i+1)=some y:=hy
  show dG a0 s i y (fun s'=>FJ (dG a0) (fun _=>some (Sum.inr ())) r (i+1) s')=_
  rw[show (fun s'=>FJ (dG a0) (fun _=>some (Sum.inr ())) r (i+1) s')=fun s'=>Qj (dN r (bK a0 (i+1)) s'.2.1 s'.2.2) from funext fun s'=>Mz a0 r (i+1) s' hr,hp]
  unfold dG
  by_cases hf:bF y=0
  ·have e0:¬bF y≠0:=fun h=>h hf
   rw[aiu e0]
   by_cases ha:((bK a0 i).any fun q=>decide (0≤dCw q y))=true
   ·rw[aiv ha,show dN (y::r) (bK a0 i) s.2.1 s.2.2=8 by simp only[dN];rw[aiu e0,aiv ha]]
    rfl
   ·rw[aiu ha]
    by_cases h1:y.2.1=1
    ·rw[aiv h1]
     by_cases hn:y.2.2.1≠w64 (s.2.1+1)
     ·rw[aiv hn,show dN (y::r) (bK a0 i) s.2.1 s.2.2=9 by simp only[dN];rw[aiu e0,aiu ha,aiv h1,aiv hn]]
      rfl
     ·rw[aiu hn,show dN (y::r) (bK a0 i) s.2.1 s.2.2=dN r (some y) y.2.2.1 s.2.2 by rw[dN,aiu e0,aiu ha,aiv h1,aiu hn]]
    ·rw[aiu h1]
     by_cases hn:y.2.2.1≠w64 (s.2.2+1)
     ·rw[aiv hn,show dN (y::r) (bK a0 i) s.2.1 s.2.2=9 by simp only[dN];rw[aiu e0,aiu ha,aiu h1,aiv hn]]
      rfl
     ·rw[aiu hn,show dN (y::r) (bK a0 i) s.2.1 s.2.2=dN r (some y) s.2.1 y.2.2.1 by rw[dN,aiu e0,aiu ha,aiu h1,aiu hn]]
  ·rw[aiv hf,show dN (y::r) (bK a0 i) s.2.1 s.2.2=bF y by rw[dN,aiv hf],Jg hf]
theorem uD (l:List aa):kL l=some (lH l,()):=by
 unfold kL lH
 by_cases hl:2000<l.length
 ·rw[aim (show (l.length:Int)>2000 by omega),aii,aiv hl]
 ·rw[aik (show ¬ (l.length:Int)>2000 by omega),aih,aiu hl]
  have:=Kr (f:=kD) (fun (s:Int×Int×Int) (i:Nat)=>((l,l,(l.length:Int),(i:Int),s.1,s.2.1,s.2.2,()):kE)) l (dG l) (fun _=>some (Sum.inr ()))
   (fun s i y again hy=>QZ l (by omega) s i y again hy) (fun s again=>by
     unfold kD
     dsimp only
     rw[aik (by omega)];rfl) (0,0,0)
  refine (congrArg (fun z=>az (β:=(Int×Unit)) (γ:=Unit) z fun _=>some (0,())) (this _ (by omega))).trans ?_
  rw[Mz l l 0 (0,0,0) rfl]
  simp only[bK]
  by_cases h:dN l none 0 0=0
  ·rw[MS h,h];rfl
  ·rw[Jg h];rfl
theorem Ft:∀ {l:List aa} {p:Option aa} {nb ns:Int},dN l p nb ns=0→∀ d,d∈l→bF d=0
 | [],_,_,_,_,_,h=>by cases h
 | y::r,p,nb,ns,h,d,hd=>by
  simp only[dN] at h
  by_cases hf:bF y=0
  ·rw[aiu (by simp[hf])] at h
   rcases ag4.1 hd with rfl | hd
   ·exact hf
   ·split at h
    ·cases h
    ·split at h
     ·split at h
      ·cases h
      ·exact Ft h d hd
     ·split at h
      ·cases h
      ·exact Ft h d hd
  ·rw[aiv hf] at h
   exact absurd h hf
theorem Cz {l:List aa} (h:lH l=0):l.length≤2000∧∀ d,d∈l→bF d=0:=by
 unfold lH at h
 split at h
 ·cases h
 ·rename_i hl
  exact⟨by omega,Ft h⟩
abbrev FU (o:aj):=o.1
abbrev FT (o:aj):=o.2.1
abbrev KA (o:aj):=o.2.2.1
abbrev dA (o:aj):=o.2.2.2.1
abbrev cm (o:aj):=o.2.2.2.2.1
abbrev jc (o:aj):=o.2.2.2.2.2
def dI (day:Int) (p:Option aH) (x:aH):Int:=
 if ¬(1≤x.1∧x.1≤99999) then 1
 else if (p.any fun q=>decide (x.1≤q.1))=true then 8
 else if bV x.2.1=false then 5
 else if qOk x.2.2.1 false=false then 1
 else if bV x.2.2.2.1=false then 5
 else if inR x.2.2.2.2.1 0 1000000000 4=false then 1
 else if ¬(day≤x.2.2.2.2.2∧x.2.2.2.2.2≤3652059) then 1
 else 0
def jM (day:Int):List aH→Option aH→Int
 | [],_=>0
 | x::r,p=>if dI day p x≠0 then dI day p x else jM day r (some x)
def kK (o:aj):Int:=
 if bV (FU o)=false∨bV (FT o)=false∨bV (KA o)=false then 5
 else if FT o=KA o then 12
 else if ¬(1≤dA o∧dA o≤3652059) then 1
 else if ¬(0≤cm o∧cm o≤1000) then 1
 else if jc o=[] then 9
 else if 500<(jc o).length then 2
 else jM (dA o) (jc o) none
theorem aeV (b:Bool):((if b=true then (0:Int) else 1) != 0)= !b:=by cases b<;>rfl
theorem No (o:aj) (i:Nat) (x:aH) (hi:(jc o)[i]? =some x) (hl:(jc o).length≤500):uV o (i:Int)=some (dI (dA o) (bK (jc o) i) x,()):=by
 have hlt:i<(jc o).length:=(agD.1 hi).1
 unfold uV
 rw[cM hi,ah4]
 simp only[eE,TH,oM,yB,uF,ah4,aeV]
 have tail:∀ (p:Option aH) (hp:(p.any fun q=>decide (x.1≤q.1))=false) (h1:1≤x.1∧x.1≤99999),
  (bif !bV x.2.1 then some (5,()) else bif !qOk x.2.2.1 false then some ((if qOk x.2.2.1 false=true then 0 else 1),()) else bif !bV x.2.2.2.1 then some (5,()) else
    bif !inR x.2.2.2.2.1 0 1000000000 4 then some ((if inR x.2.2.2.2.1 0 1000000000 4=true then 0 else 1),()) else bif !decide (dA o≤x.2.2.2.2.2∧x.2.2.2.2.2≤3652059) then some (1,()) else some (0,()))=some (dI (dA o) p x,()):=fun p hp h1=>by
  unfold dI
  rw[aiu (show ¬¬(1≤x.1∧x.1≤99999) from fun h=>h h1),aiu (show ¬(p.any fun q=>decide (x.1≤q.1))=true by rw[hp];exact afy)]
  cases bV x.2.1
  ·rfl
  ·cases qOk x.2.2.1 false
   ·rfl
   ·cases bV x.2.2.2.1
    ·rfl
    ·cases inR x.2.2.2.2.1 0 1000000000 4
     ·rfl
     ·by_cases hd:dA o≤x.2.2.2.2.2∧x.2.2.2.2.2≤3652059
      ·simp[hd]
      ·simp[hd]
 by_cases h1:1≤x.1∧x.1≤99999
 ·rw[aim h1,afE,aih]
  cases i with
  | zero=>
   rw[aik (show ¬((0:Nat):Int)>0 by omega),aih]
   exact tail none rfl h1
  | succ j=>
   have hq:(jc o)[j]? =some (jc o)[j]:=agB (by omega)
   have e:w64 (((j+1:Nat):Int) - 1)=(j:Int):=by rw[av (by omega) (by omega)];omega
   rw[aim (show ((j+1:Nat):Int)>0 by omega),aii,e,cM hq,ah4]
   simp only[bK,hq]
   by_cases h2:x.1≤(jc o)[j].1
   ·rw[aim h2,ah4]
    have:dI (dA o) (some (jc o)[j]) x=8:=by
     unfold dI
     rw[aiu (show ¬¬(1≤x.1∧x.1≤99999) from fun h=>h h1),aiv (show (Option.any (fun q=>decide (x.1≤q.1)) (some (jc o)[j]))=true from aim h2)]
    rw[this]
    rfl
   ·rw[aik h2,ah4]
    exact tail (some (jc o)[j]) (by simp[h2]) h1
 ·rw[aik h1,afD,aii]
  unfold dI
  rw[aiv h1]
theorem DY (a0:List aH) (day:Int):∀ (r:List aH) (i:Nat) (s:Unit),a0.drop i=r→
 FJ (fun (_:Unit) i y k=>if dI day (bK a0 i) y≠0 then some (Sum.inl (dI day (bK a0 i) y,())) else k ()) (fun _=>(some (Sum.inr ()):Option nk)) r i s=Qj (jM day r (bK a0 i))
 | [],_,_,_=>by simp[FJ,jM,Qj]
 | y::r,i,s,hd=>by
  have hy:a0[i]? =some y:=by
   have:=congrArg (·[0]?) hd
   simpa [agA] using this
  have hr:a0.drop (i+1)=r:=by
   have:=congrArg List.tail hd
   simpa [aho] using this
  have hp:bK a0 (i+1)=some y:=hy
  have ih:=DY a0 day r (i+1) () hr
  rw[hp] at ih
  by_cases hf:dI day (bK a0 i) y=0
  ·have e0:¬dI day (bK a0 i) y≠0:=fun h=>h hf
   rw[show jM day (y::r) (bK a0 i)=jM day r (some y) by rw[jM,aiu e0], ← ih]
   show (if dI day (bK a0 i) y≠0 then _ else _)=_
   rw[aiu e0]
  ·rw[show jM day (y::r) (bK a0 i)=dI day (bK a0 i) y by rw[jM,aiv hf],Jg hf]
   show (if dI day (bK a0 i) y≠0 then _ else _)=_
   rw[aiv hf]
theorem uE (o:aj):kM o=some (kK o,()):=by
 unfold kM kK
 simp only[oM,rq,eE,TH,ah4]
 cases h1:bV o.1
 ·simp[FU,h1]
 cases h2:bV o.2.1
 ·simp[FU,FT,h1,h2]
 cases h3:bV o.2.2.1
 ·simp[FU,FT,KA,h1,h2,h3]
 rw[aiu (by simp[FU,FT,KA,h1,h2,h3])]
 simp only[afE,aih]
 by_cases h4:o.2.1=o.2.2.1
 ·rw[aiv h4,show (o.2.1==o.2.2.1)=true by simp[h4],aii]
 rw[aiu h4,show (o.2.1==o.2.2.1)=false by simp[h4],aih]
 by_cases h5:1≤o.2.2.2.1∧o.2.2.2.1≤3652059
 ·rw[aiu (by simp[dA,h5]),aim h5,afE,aih]
  by_cases h6:0≤o.2.2.2.2.1∧o.2.2.2.2.1≤1000
  ·rw[aiu (by simp[cm,h6]),aim h6,afE,aih]
   by_cases h7:o.2.2.2.2.2=[]
   ·rw[aiv h7,h7];rfl
   ·have h7':o.2.2.2.2.2.length≠0:=fun e=>h7 (agn e)
    rw[aiu h7,dx (show (o.2.2.2.2.2.length:Int)≠0 by omega),aih]
    by_cases h8:500<o.2.2.2.2.2.length
    ·rw[aiv h8,aim (by omega),aii]
    ·rw[aiu h8,aik (by omega),aih]
     have:=Kr (f:=nj) (fun (_:Unit) (i:Nat)=>(((o.2.2.2.2.2.length:Int),(i:Int),o.1,o.2.1,o.2.2.1,o.2.2.2.1,o.2.2.2.2.1,o.2.2.2.2.2,()):nq)) o.2.2.2.2.2
      (fun (_:Unit) i y k=>if dI (dA o) (bK o.2.2.2.2.2 i) y≠0 then some (Sum.inl (dI (dA o) (bK o.2.2.2.2.2 i) y,())) else k ()) (fun _=>some (Sum.inr ()))
      (fun s i y again hy=>by
        have hlt:i<o.2.2.2.2.2.length:=(agD.1 hy).1
        unfold nj
        dsimp only
        rw[aim (by omega),aii]
        have:=No o i y hy (by show o.2.2.2.2.2.length≤500;omega)
        rw[show ((o.1,o.2.1,o.2.2.1,o.2.2.2.1,o.2.2.2.2.1,o.2.2.2.2.2):aj)=o from rfl,this,ah4]
        dsimp only
        by_cases hf:dI (dA o) (bK o.2.2.2.2.2 i) y=0
        ·rw[aiu (by simp[hf]),show (dI (dA o) (bK (jc o) i) y != 0)=false by simp[hf],aih,av (by omega) (by omega)]
         rfl
        ·rw[aiv hf,show (dI (dA o) (bK (jc o) i) y != 0)=true by simp[hf],aii]) (fun s again=>by
        unfold nj
        dsimp only
        rw[aik (show ¬((o.2.2.2.2.2.length:Int)<(o.2.2.2.2.2.length:Int)) by omega)];rfl) ()
     refine (congrArg (fun z=>az (β:=(Int×Unit)) (γ:=Unit) z fun _=>some (0,())) (this _ (by omega))).trans ?_
     rw[DY o.2.2.2.2.2 (dA o) o.2.2.2.2.2 0 () rfl]
     simp only[bK]
     by_cases h:jM (dA o) o.2.2.2.2.2 none=0
     ·rw[MS h,h];rfl
     ·rw[Jg h];rfl
  ·rw[aiv h6,aik h6];rfl
 ·rw[aiv h5,aik h5];rfl
theorem FV (o:aj) (l:List aa):tE o l=some (if kK o≠0 then kK o else lH l,()):=by
 unfold tE
 rw[uE,ah4,uD]
 dsimp only
 by_cases h:kK o=0
 ·rw[h];rfl
 ·rw[cq h,aii,aiv h]
end Go.Md
namespace Go.Md
open Go.Dn
def aW (d:ah):Int:=d.1*10 ^ (3 - d.2).toNat
theorem Dt {d:ah} {z:Bool} (h:qOk d z=true):(0≤d.2∧d.2≤3)∧0≤d.1∧d.1≤1000000000*10 ^ d.2.toNat∧(z=false→d.1≠0):=by
 unfold qOk inR at h
 simp only[afr,ain,afG,afC,aid] at h
 obtain⟨⟨h1,h2,h3,h4⟩,h5⟩:=h
 exact⟨⟨h1.2.1,h2⟩,by omega,h4,fun hz=>by rcases h5 with h5 | h5;exact h5;rw[hz] at h5;cases h5⟩
theorem lY {d:ah} {z:Bool} (h:qOk d z=true):0≤aW d∧aW d≤1000000000000∧(z=false→0<aW d):=by
 obtain⟨⟨h1,h2⟩,h3,h4,h5⟩:=Dt h
 unfold aW
 obtain⟨k,hk⟩:∃ k:Nat,d.2=k:=⟨d.2.toNat,by omega⟩
 rw[hk] at h1 h2 h4 ⊢
 have:k=0∨k=1∨k=2∨k=3:=by omega
 rcases this with rfl | rfl | rfl | rfl<;>simp at h4 ⊢ <;>refine⟨by omega,by omega,fun hz=> ?_⟩<;>have:=h5 hz<;>omega
theorem nC {d:ah} {z:Bool} (h:qOk d z=true):iP d=some (aW d,()):=by
 obtain⟨⟨h1,h2⟩,h3,h4,_⟩:=Dt h
 obtain⟨u1,u2,_⟩:=lY h
 unfold iP
 rw[av (n:=3 - d.2) (by omega) (by omega),B9 (3 - d.2) (by omega) (by omega),ah4]
 show some (w64 (aW d),())=_
 rw[av (by omega) (by omega)]
structure ak where
 no:Int
 art:Bys
 unit:Bys
 ord:Int
 shp:Int
 rcv:Int
 ret:Int
 price:ah
 due:Int
 wish:Int
 ono:Int
 oq:Int
 ount:Int
abbrev ak.tup (x:ak):bg:=(x.no,x.art,x.unit,x.ord,x.shp,x.rcv,x.ret,x.price,x.due,x.wish,x.ono,x.oq,x.ount)
def ak.opn (x:ak):Int:=if x.ord - x.shp+x.ret>0 then x.ord - x.shp+x.ret else 0
structure LOk (x:ak):Prop where
 ret0:0≤x.ret
 retr:x.ret≤x.rcv
 rcvs:x.rcv≤x.shp
 shp1:x.shp≤1000000000000000
 uC:0≤x.ord
 ord1:x.ord≤1000000000000
 off:x.ono≠0→0<x.oq∧x.oq+x.shp - x.ret≤x.ord
def sL (i:Nat):List ak→List (Int×Option Nat)
 | []=>[]
 | x::r=>(x.no,some i)::sL (i+1) r
abbrev mapOf (A:List ak):List (Int×Option Nat):=sL 0 A
def cB (n:Int) (i:Nat):List ak→Option Nat
 | []=>none
 | x::r=>if n=x.no then some i else cB n (i+1) r
abbrev eL (n:Int) (A:List ak):Option Nat:=cB n 0 A
theorem abj (n:Int):FM n n=true:=by simp[FM]
theorem YO {n a:Int} (h:n≠a):FM n a=false:=by simp[FM,h]
theorem jb (n:Int):∀ (A:List ak) (i:Nat),Option.getD (α:=Option Nat) (b9 (k:=tI) (v:= .hnd) (sL i A) n) none=cB n i A
 | [],i=>rfl
 | x::r,i=>by
  have e:= @Ah tI .hnd (x.no,some i) (sL (i+1) r) n
  refine (congrArg (fun z:Option (Option Nat)=>Option.getD z none) e).trans ?_
  have ih:=jb n r (i+1)
  by_cases h:n=x.no
  ·subst h
   show Option.getD (α:=Option Nat) (bif FM x.no x.no then some (some i) else _) none=_
   rw[abj]
   simp only[cB,aiv]
   rfl
  ·show Option.getD (α:=Option Nat) (bif FM n x.no then some (some i) else _) none=_
   rw[YO h]
   simp only[cB,aiu h]
   exact ih
theorem Qp (n:Int) (y:ak) (hy:y.no=n):∀ (A:List ak) (i:Nat),cB n i A=none→jJ (k:=tI) (v:= .hnd) (sL i A) n (some (i+A.length))=sL i (A++[y])
 | [],i,_=>by subst hy;rfl
 | x::r,i,h=>by
  simp only[cB] at h
  by_cases hx:n=x.no
  ·rw[aiv hx] at h;cases h
  ·rw[aiu hx] at h
   have ih:=Qp n y hy r (i+1) h
   have e:i+(x::r).length=i+1+r.length:=by simp only[agO];omega
   rw[e]
   show (bif FM n x.no then _ else (x.no,some i)::jJ (k:=tI) (v:= .hnd) (sL (i+1) r) n (some (i+1+r.length)))=_
   rw[YO hx]
   exact congrArg (fun z=>(x.no,some i)::z) ih
theorem Dh:∀ (A:List ak) (i:Nat),(sL i A).length=A.length
 | [],_=>rfl
 | x::r,i=>by simp[sL,Dh r]
theorem abA {k:Nat} {y:ak}:∀ (A:List ak) (i:Nat),(∀ x,A[k]? =some x→y.no=x.no)→sL i (A.set k y)=sL i A:=by
 intro A
 induction A generalizing k with
 | nil=>intro i _;rfl
 | cons x r ih=>
  intro i h
  cases k with
  | zero=>simp only[List.set_cons_zero,sL];rw[h x rfl]
  | succ k=>simp only[List.set_cons_succ,sL];rw[ih (i+1) (fun z hz=>h z (by simpa using hz))]
theorem Pb {n:Int}:∀ {A:List ak} {i k:Nat},cB n i A=some k→i≤k∧∃ x,A[k - i]? =some x∧x.no=n
 | [],_,_,h=>by cases h
 | x::r,i,k,h=>by
  simp only[cB] at h
  by_cases hx:n=x.no
  ·rw[aiv hx] at h;cases h;exact⟨ahF _,x,by simp,hx.symm⟩
  ·rw[aiu hx] at h
   obtain⟨h1,y,h2,h3⟩:=Pb h
   refine⟨by omega,y, ?_,h3⟩
   rw[show k - i=k - (i+1)+1 by omega,agy];exact h2
theorem wZ {n:Int} {A:List ak} {k:Nat} (h:eL n A=some k):∃ x,A[k]? =some x∧x.no=n:=(Pb h).2
theorem Kj {n:Int} {k:Nat} {y:ak}:∀ (A:List ak) (i:Nat),(∀ x,A[k]? =some x→y.no=x.no)→cB n i (A.set k y)=cB n i A:=by
 intro A
 induction A generalizing k with
 | nil=>intro i _;rfl
 | cons x r ih=>
  intro i h
  cases k with
  | zero=>simp only[List.set_cons_zero,cB];rw[h x rfl]
  | succ k=>simp only[List.set_cons_succ,cB];rw[ih (i+1) (fun z hz=>h z (by simpa using hz))]
theorem EC {n:Int} {y:ak}:∀ (A:List ak) (i:Nat),cB n i (A++[y])=(cB n i A).or (if n=y.no then some (i+A.length) else none)
 | [],i=>by simp[cB]
 | x::r,i=>by
  simp only[agd,cB,agO]
  by_cases h:n=x.no
  ·simp[h]
  ·rw[aiu h,aiu h,EC r (i+1),show i+(r.length+1)=i+1+r.length by omega]
theorem rU {A:List ak} {k:Nat} {x:ak} (h:A[k]? =some x):(A.map ak.tup)[k]? =some x.tup:=by rw[agE,h];rfl
theorem Zq (A:List ak) (k:Nat) (y:ak):(A.map ak.tup).set k y.tup=(A.set k y).map ak.tup:=by rw[List.map_set]
theorem NZ {A:List ak} {k:Nat} {x:ak} (h:A[k]? =some x) (y:ak):(A.set k y)[k]? =some y:=by
 have:=(agD.1 h).1
 simp[agH,this]
theorem Dl {A:List ak} {k:Nat} {x:ak} (h:A[k]? =some x) (hx:LOk x):mz (some k) (A.map ak.tup)=some (x.opn,()):=by
 unfold mz
 have ht:=rU h
 simp only[ah4,ht]
 have:=hx.ret0;have:=hx.retr;have:=hx.rcvs;have:=hx.shp1;have:=hx.uC;have:=hx.ord1
 rw[av (n:=x.ord - x.shp) (by omega) (by omega),av (n:=x.ord - x.shp+x.ret) (by omega) (by omega)]
 rfl
end Go.Md
namespace Go.Md
open Go.Dn
abbrev dNo (d:aa):=d.2.2.1
abbrev aL (d:aa):=d.2.2.2.1
abbrev dH (d:aa):=d.2.2.2.2.1
abbrev dQ (d:aa):=d.2.2.2.2.2.2.1
abbrev I5 (d:aa):=d.2.2.2.2.2.2.2.2.1
abbrev gG (d:aa):=d.2.2.2.2.2.2.2.2.2.1
abbrev dTo (d:aa):=d.2.2.2.2.2.2.2.2.2.2
theorem dR {d:aa} (h:ES d=0):(usQ (aL d)=true→qOk (dQ d) (aL d==2)=true)∧(usP (aL d)=true→inR (I5 d) 0 1000000000 4=true)∧(usU (aL d)=true→AX (gG d)=true)∧(usA (aL d)=true→bV d.2.2.2.2.2.1=true∧bV d.2.2.2.2.2.2.2.1=true)∧(usT (aL d)=true→DW (dTo d)=true):=by
 unfold ES SE at h
 show (usQ d.2.2.2.1=true→qOk d.2.2.2.2.2.2.1 (d.2.2.2.1==2)=true)∧(usP d.2.2.2.1=true→inR d.2.2.2.2.2.2.2.2.1 0 1000000000 4=true)∧(usU d.2.2.2.1=true→AX d.2.2.2.2.2.2.2.2.2.1=true)∧(usA d.2.2.2.1=true→bV d.2.2.2.2.2.1=true∧bV d.2.2.2.2.2.2.2.1=true)∧(usT d.2.2.2.1=true→DW d.2.2.2.2.2.2.2.2.2.2=true)
 generalize usA d.2.2.2.1=ua at*
 generalize usQ d.2.2.2.1=uq at*
 generalize usP d.2.2.2.1=up at*
 generalize usU d.2.2.2.1=uu at*
 generalize usT d.2.2.2.1=ut at*
 generalize qOk d.2.2.2.2.2.2.1 (d.2.2.2.1==2)=b1 at*
 generalize inR d.2.2.2.2.2.2.2.2.1 0 1000000000 4=b2 at*
 generalize AX d.2.2.2.2.2.2.2.2.2.1=b3 at*
 generalize bV d.2.2.2.2.2.1=b4 at*
 generalize bV d.2.2.2.2.2.2.2.1=b5 at*
 generalize DW d.2.2.2.2.2.2.2.2.2.2=b6 at*
 cases hq:(uq&& !b1)
 ·rw[hq,aih] at h
  cases hp:(up&& !b2)
  ·rw[hp,aih] at h
   cases hu:(uu&& !b3)
   ·rw[hu,aih] at h
    cases ha:(ua&&(!b4|| !b5))
    ·rw[ha,aih] at h
     cases ht:(ut&& !b6)
     ·refine⟨?_, ?_, ?_, ?_, ?_⟩
      ·revert hq;cases uq<;>cases b1<;>simp
      ·revert hp;cases up<;>cases b2<;>simp
      ·revert hu;cases uu<;>cases b3<;>simp
      ·revert ha;cases ua<;>cases b4<;>cases b5<;>simp
      ·revert ht;cases ut<;>cases b6<;>simp
     ·rw[ht,aii] at h;cases h
    ·rw[ha,aii] at h;cases h
   ·rw[hu,aii] at h;cases h
  ·rw[hp,aii] at h;cases h
 ·rw[hq,aii] at h;cases h
def vk (day:Int) (i:Int) (d:aa) (x:ak):Int×ak:=
 if aL d=3∧gG d<day then (1,x) else if 0≤x.wish then (11,x) else (0,{ x with wish:=i })
def kV (l:List aa) (x:ak):aa:=l.getD x.wish.toNat (0,0,0,0,0,[],(0,0),[],(0,0),0,0)
def bZ (l:List aa) (d:aa) (x:ak):Int×ak:=
 if x.wish<0 then (5,x)
 else if dNo (kV l x)≠dTo d then (5,x)
 else if aL d=5 then
  (if aL (kV l x)=2 then (if aW (dQ (kV l x))<x.shp - x.ret then (12,x) else (0,{ x with ord:=aW (dQ (kV l x)),wish:= -1 }))
  else if aL (kV l x)=1 then (0,{ x with ord:=aW (dQ (kV l x)),wish:= -1 })
  else if aL (kV l x)=3 then (0,{ x with due:=gG (kV l x),wish:= -1 })
  else (0,{ x with price:=I5 (kV l x),wish:= -1 }))
 else (0,{ x with wish:= -1 })
def mK (day:Int) (d:aa) (x:ak):Int:=
 if gG d<day then 1 else if 0≤x.wish∨x.opn=0 then 11 else if x.opn<aW (dQ d) then 12 else 0
def EP (d:aa) (x:ak):Int×ak:=
 if 0≤x.wish then (11,x) else if x.ono=0∨x.ono≠dTo d then (5,x) else (0,{ x with ord:=x.shp - x.ret+x.oq,due:=x.ount,ono:=0,oq:=0,ount:=0 })
def cR (ext:Int) (d:aa) (x:ak):Int×ak:=
 if aL d=9 then
  (if x.ord+x.ord*ext / 1000<x.shp - x.ret+aW (dQ d) then (12,x)
  else if 1000000000000000<x.shp+aW (dQ d) then (16,x)
  else (0,{ x with shp:=x.shp+aW (dQ d) }))
 else if aL d=10 then (if x.shp<x.rcv+aW (dQ d) then (12,x) else (0,{ x with rcv:=x.rcv+aW (dQ d) }))
 else (if x.rcv<x.ret+aW (dQ d) then (12,x) else (0,{ x with ret:=x.ret+aW (dQ d) }))
theorem jR {A:List ak} {k:Nat} {x:ak} (h:A[k]? =some x):A.set k x=A:=by
 obtain⟨h1,h2⟩:=agD.1 h
 rw[← h2];exact List.set_getElem_self h1
theorem nX {A:List ak} {k:Nat} (y:ak) (T:bg) (hT:T=y.tup):List.set (A.map ak.tup) k T=(A.set k y).map ak.tup:=by rw[hT,Zq]
theorem FK {A:List ak} {k:Nat} {x:ak} (h:A[k]? =some x) (T:bg):(List.set (A.map ak.tup) k T)[k]? =some T:=by
 have:=(agD.1 h).1
 rw[agJ (by simpa using this)]
variable {o:aj} {l:List aa} {m:List (Int×Option Nat)} {ref:List ah} {pts:List aI} {wt:Int} {A:List ak} {k:Nat} {x:ak}
theorem qq (h:A[k]? =some x) {i:Nat} {d:aa} (hd:l[i]? =some d):
 ox (o,l,m,ref,pts,wt,()) (some k) (i:Int) (A.map ak.tup)=some ((vk (dA o) i d x).1,(o,l,m,ref,pts,wt,()),(A.set k (vk (dA o) i d x).2).map ak.tup,()):=by
 unfold ox vk
 dsimp only
 rw[cM hd,ah4]
 have hv:(bif d.2.2.2.1==3 then some (decide (d.2.2.2.2.2.2.2.2.2.1<o.2.2.2.1),()) else some (false,()))=some (decide (aL d=3∧gG d<dA o),()):=by
  by_cases h3:d.2.2.2.1=3
  ·rw[show (d.2.2.2.1==3)=true by simp[h3],aii]
   simp[aL,h3]
  ·rw[show (d.2.2.2.1==3)=false by simp[h3],aih]
   simp[aL,h3]
 rw[hv,ah4]
 dsimp only
 by_cases h1:aL d=3∧gG d<dA o
 ·rw[aim h1,aii,aiv h1,jR h]
 ·rw[aik h1,aih,aiu h1]
  simp only[ah4,rU h]
  by_cases h2:0≤x.wish
  ·rw[aiv h2,aim (show x.wish≥0 from h2),aii,jR h]
  ·rw[aiu h2,aik (show ¬x.wish≥0 from h2),aih,nX { x with wish:=(i:Int) } _ rfl]
structure WOk (l:List aa) (x:ak):Prop where
 low: -1≤x.wish
 kind:0≤x.wish→∃ d,l[x.wish.toNat]? =some d∧aL d≤4
theorem uw {d:aa} (hw:l[x.wish.toNat]? =some d):kV l x=d:=by
 unfold kV
 rw[agu,hw];rfl
theorem Ko {d:aa} (h0:0≤x.wish) (hw:l[x.wish.toNat]? =some d):idx l x.wish=some d:=by
 unfold idx;rw[aiv h0];exact hw
theorem vO (h:A[k]? =some x) (hx:LOk x) (hw:WOk l x) (hl:∀ d,d∈l→bF d=0) (d:aa):
 mo (o,l,m,ref,pts,wt,()) (some k) d (A.map ak.tup)=some ((bZ l d x).1,(o,l,m,ref,pts,wt,()),(A.set k (bZ l d x).2).map ak.tup,()):=by
 unfold mo bZ
 simp only[ah4,rU h]
 by_cases h1:x.wish<0
 ·rw[aiv h1,aim h1,aii,jR h]
 ·rw[aiu h1,aik h1,aih]
  obtain⟨w,hw1,hw2⟩:=hw.kind (by omega)
  rw[Ko (by omega) hw1,uw hw1]
  simp only[ah4]
  have hwf:=hl w (ahb hw1)
  obtain⟨_,_,_,hk,_,_,hu⟩:=bU hwf
  obtain⟨uq,_⟩:=dR hu
  have b0:=hx.ret0;have b1:=hx.retr;have b2:=hx.rcvs;have b3:=hx.shp1
  by_cases h2:dNo w=dTo d
  ·rw[aiu (fun e=>e h2),show (w.2.2.1 != d.2.2.2.2.2.2.2.2.2.2)=false by simpa using h2,aih]
   by_cases h3:aL d=5
   ·rw[aiv h3,show (d.2.2.2.1==5)=true by simpa using h3,aii]
    by_cases k2:aL w=2
    ·have hq:=uq (by rw[k2];rfl)
     rw[aiv k2,show (w.2.2.2.1==2)=true by simpa using k2,aii]
     simp only[nC hq,ah4,FK h,ahm]
     rw[av (n:=x.shp - x.ret) (by omega) (by omega)]
     by_cases h4:aW (dQ w)<x.shp - x.ret
     ·rw[aiv h4,aim h4,aii,jR h]
     ·rw[aiu h4,aik h4,aih,nX { x with ord:=aW (dQ w),wish:= -1 } _ rfl]
    ·rw[aiu k2,show (w.2.2.2.1==2)=false by simpa using k2,aih]
     by_cases k1:aL w=1
     ·have hq:=uq (by rw[k1];rfl)
      rw[aiv k1,show (w.2.2.2.1==1)=true by simpa using k1,aii]
      simp only[nC hq,ah4,FK h,ahm]
      rw[nX { x with ord:=aW (dQ w),wish:= -1 } _ rfl]
     ·rw[aiu k1,show (w.2.2.2.1==1)=false by simpa using k1,aih]
      by_cases k3:aL w=3
      ·rw[aiv k3,show (w.2.2.2.1==3)=true by simpa using k3,aii]
       simp only[ah4,FK h,ahm]
       rw[nX { x with due:=gG w,wish:= -1 } _ rfl]
      ·rw[aiu k3,show (w.2.2.2.1==3)=false by simpa using k3,aih]
       simp only[ah4,FK h,ahm]
       rw[nX { x with price:=I5 w,wish:= -1 } _ rfl]
   ·rw[aiu h3,show (d.2.2.2.1==5)=false by simpa using h3,aih,nX { x with wish:= -1 } _ rfl]
  ·rw[aiv h2,show (w.2.2.1 != d.2.2.2.2.2.2.2.2.2.2)=true by simpa using h2,aii,jR h]
theorem EK (h:A[k]? =some x) (hx:LOk x) {d:aa} {z:Bool} (hq:qOk (dQ d) z=true):
 lB (o,l,m,ref,pts,wt,()) (some k) d (A.map ak.tup)=some (mK (dA o) d x,(o,l,m,ref,pts,wt,()),A.map ak.tup,()):=by
 unfold lB mK
 simp only[ah4,rU h,Dl h hx,nC hq]
 by_cases h1:gG d<dA o
 ·rw[aiv h1,aim h1,aii]
 ·rw[aiu h1,aik h1,aih]
  by_cases h2:0≤x.wish
  ·rw[aiv (.inl h2),aim (show x.wish≥0 from h2),aii]
  ·rw[aik (show ¬x.wish≥0 from h2),aih]
   by_cases h3:x.opn=0
   ·rw[aiv (.inr h3),show (x.opn==0)=true by simp[h3],aii]
   ·rw[aiu (fun e=>e.elim h2 h3),show (x.opn==0)=false by simp[h3],aih]
    by_cases h4:x.opn<aW (dQ d)
    ·rw[aiv h4,aim (show aW (dQ d)>x.opn from h4),aii]
    ·rw[aiu h4,aik (show ¬aW (dQ d)>x.opn from h4),aih]
theorem Ip (h:A[k]? =some x) (hx:LOk x) (d:aa):
 ov (o,l,m,ref,pts,wt,()) (some k) d (A.map ak.tup)=some ((EP d x).1,(o,l,m,ref,pts,wt,()),(A.set k (EP d x).2).map ak.tup,()):=by
 unfold ov EP
 simp only[ah4,rU h,FK h,ahm]
 have b0:=hx.ret0;have b1:=hx.retr;have b2:=hx.rcvs;have b3:=hx.shp1;have b4:=hx.uC;have b5:=hx.ord1
 by_cases h1:0≤x.wish
 ·rw[aiv h1,aim (show x.wish≥0 from h1),aii,jR h]
 ·rw[aiu h1,aik (show ¬x.wish≥0 from h1),aih]
  by_cases h2:x.ono=0
  ·rw[aiv (.inl h2),show (x.ono==0)=true by simp[h2],aii,jR h]
  ·rw[show (x.ono==0)=false by simp[h2],aih]
   by_cases h3:x.ono=dTo d
   ·obtain⟨c1,c2⟩:=hx.off h2
    rw[aiu (fun e=>e.elim h2 (fun e=>e h3)),show (x.ono != d.2.2.2.2.2.2.2.2.2.2)=false by simpa using h3,aih,
     av (n:=x.shp - x.ret) (by omega) (by omega),av (n:=x.shp - x.ret+x.oq) (by omega) (by omega),
     nX { x with ord:=x.shp - x.ret+x.oq,due:=x.ount,ono:=0,oq:=0,ount:=0 } _ rfl]
   ·rw[aiv (.inr h3),show (x.ono != d.2.2.2.2.2.2.2.2.2.2)=true by simpa using h3,aii,jR h]
theorem qo (h:A[k]? =some x) (hx:LOk x) (he0:0≤cm o) (he1:cm o≤1000) {d:aa} {z:Bool} (hq:qOk (dQ d) z=true):
 ou (o,l,m,ref,pts,wt,()) (some k) d (A.map ak.tup)=some ((cR (cm o) d x).1,(o,l,m,ref,pts,wt,()),(A.set k (cR (cm o) d x).2).map ak.tup,()):=by
 unfold ou cR
 simp only[ah4,rU h,FK h,nC hq]
 have b0:=hx.ret0;have b1:=hx.retr;have b2:=hx.rcvs;have b3:=hx.shp1;have b4:=hx.uC;have b5:=hx.ord1
 obtain⟨q0,q1,_⟩:=lY hq
 by_cases k9:aL d=9
 ·rw[aiv k9,show (d.2.2.2.1==9)=true by simpa using k9,aii]
  have m0:0≤x.ord*cm o:=afR b4 he0
  have m1:x.ord*cm o≤x.ord*1000:=afP he1 b4
  have e1:w64 (x.ord*cm o)=x.ord*cm o:=av (by omega) (by omega)
  have e2:Int.tdiv (x.ord*cm o) 1000=x.ord*cm o / 1000:=af2 m0
  have d0:0≤x.ord*cm o / 1000:=Int.ediv_nonneg m0 (by omega)
  have d1:x.ord*cm o / 1000≤x.ord:=by omega
  rw[show w64 (x.ord*o.2.2.2.2.1)=x.ord*cm o from e1,e2,av (n:=x.ord*cm o / 1000) (by omega) (by omega),av (n:=x.ord+x.ord*cm o / 1000) (by omega) (by omega),
   av (n:=x.shp - x.ret) (by omega) (by omega),av (n:=x.shp - x.ret+aW (dQ d)) (by omega) (by omega),av (n:=x.shp+aW (dQ d)) (by omega) (by omega)]
  by_cases c1:x.ord+x.ord*cm o / 1000<x.shp - x.ret+aW (dQ d)
  ·rw[aiv c1,aim (show x.shp - x.ret+aW (dQ d)>x.ord+x.ord*cm o / 1000 from c1),aii,jR h]
  ·rw[aiu c1,aik (show ¬x.shp - x.ret+aW (dQ d)>x.ord+x.ord*cm o / 1000 from c1),aih]
   by_cases c2:1000000000000000<x.shp+aW (dQ d)
   ·rw[aiv c2,aim (show x.shp+aW (dQ d)>1000000000000000 from c2),aii,jR h]
   ·rw[aiu c2,aik (show ¬x.shp+aW (dQ d)>1000000000000000 from c2),aih,nX { x with shp:=x.shp+aW (dQ d) } _ rfl]
 ·rw[aiu k9,show (d.2.2.2.1==9)=false by simpa using k9,aih]
  by_cases k10:aL d=10
  ·rw[aiv k10,show (d.2.2.2.1==10)=true by simpa using k10,aii,av (n:=x.rcv+aW (dQ d)) (by omega) (by omega)]
   by_cases c1:x.shp<x.rcv+aW (dQ d)
   ·rw[aiv c1,aim (show x.rcv+aW (dQ d)>x.shp from c1),aii,jR h]
   ·rw[aiu c1,aik (show ¬x.rcv+aW (dQ d)>x.shp from c1),aih,nX { x with rcv:=x.rcv+aW (dQ d) } _ rfl]
  ·rw[aiu k10,show (d.2.2.2.1==10)=false by simpa using k10,aih,av (n:=x.ret+aW (dQ d)) (by omega) (by omega)]
   by_cases c1:x.rcv<x.ret+aW (dQ d)
   ·rw[aiv c1,aim (show x.ret+aW (dQ d)>x.rcv from c1),aii,jR h]
   ·rw[aiu c1,aik (show ¬x.ret+aW (dQ d)>x.rcv from c1),aih,nX { x with ret:=x.ret+aW (dQ d) } _ rfl]
end Go.Md
namespace Go.Md
open Go.Dn
def ak.clr (x:ak):ak:={ x with ono:=0,oq:=0,ount:=0 }
def bA (o:aj) (l:List aa) (i:Nat) (d:aa) (x:ak):Int×ak:=
 if aL d≤4 then vk (dA o) i d x
 else if aL d≤6 then (if (bZ l d x).1=0 then (0,(bZ l d x).2.clr) else bZ l d x)
 else if aL d=7 then (if mK (dA o) d x=0 then (0,{ x with ono:=dNo d,oq:=aW (dQ d),ount:=gG d }) else (mK (dA o) d x,x))
 else if aL d=8 then EP d x
 else if aL d=9 then (if (cR (cm o) d x).1=0 then (0,(cR (cm o) d x).2.clr) else cR (cm o) d x)
 else cR (cm o) d x
def gC (i:Nat) (d:aa):ak:=⟨dH d,d.2.2.2.2.2.1,d.2.2.2.2.2.2.2.1,0,0,0,0,I5 d,gG d,i,0,0,0⟩
def cE (o:aj) (l:List aa) (i:Nat) (d:aa) (A:List ak):Int×List ak:=
 if aL d=1 then
  (match eL (dH d) A with
  | some _=>(7,A)
  | none=>if 500≤A.length then (16,A) else if gG d<dA o then (1,A) else (0,A++[gC i d]))
 else match eL (dH d) A with
  | none=>(9,A)
  | some k=>match A[k]? with
   | some x=>((bA o l i d x).1,A.set k (bA o l i d x).2)
   | none=>(9,A)
structure Sound (l:List aa) (A:List ak):Prop where
 line:∀ x,x∈A→LOk x∧WOk l x
theorem aee {x:ak} (h:LOk x):LOk x.clr:=⟨h.ret0,h.retr,h.rcvs,h.shp1,h.uC,h.ord1,fun e=>absurd rfl e⟩
theorem Zx {l:List aa} {d:aa} {x:ak} (hx:LOk x) (hw:WOk l x) (hl:∀ d,d∈l→bF d=0):((bZ l d x).1=0→LOk (bZ l d x).2.clr)∧((bZ l d x).1≠0→(bZ l d x).2=x)∧((bZ l d x).2=x∨(bZ l d x).2.wish= -1)∧(bZ l d x).2.no=x.no:=by
 have hk:LOk x.clr:=aee hx
 unfold bZ
 by_cases h1:x.wish<0
 ·rw[aiv h1];exact⟨nofun,fun _=>rfl,.inl rfl,rfl⟩
 rw[aiu h1]
 obtain⟨w,hw1,hw2⟩:=hw.kind (by omega)
 rw[uw hw1]
 obtain⟨_,_,_,_,_,_,hu⟩:=bU (hl w (ahb hw1))
 obtain⟨uq,_⟩:=dR hu
 by_cases h2:dNo w≠dTo d
 ·rw[aiv h2];exact⟨nofun,fun _=>rfl,.inl rfl,rfl⟩
 rw[aiu h2]
 by_cases h3:aL d=5
 ·rw[aiv h3]
  by_cases k2:aL w=2
  ·rw[aiv k2]
   obtain⟨q0,q1,_⟩:=lY (uq (by rw[k2];rfl))
   by_cases h4:aW (dQ w)<x.shp - x.ret
   ·rw[aiv h4];exact⟨nofun,fun _=>rfl,.inl rfl,rfl⟩
   ·rw[aiu h4];exact⟨fun _=>⟨hx.ret0,hx.retr,hx.rcvs,hx.shp1,q0,q1,fun e=>absurd rfl e⟩,fun e=>absurd rfl e,.inr rfl,rfl⟩
  ·rw[aiu k2]
   by_cases k1:aL w=1
   ·rw[aiv k1]
    obtain⟨q0,q1,_⟩:=lY (uq (by rw[k1];rfl))
    exact⟨fun _=>⟨hx.ret0,hx.retr,hx.rcvs,hx.shp1,q0,q1,fun e=>absurd rfl e⟩,fun e=>absurd rfl e,.inr rfl,rfl⟩
   ·rw[aiu k1]
    by_cases k3:aL w=3
    ·rw[aiv k3];exact⟨fun _=>⟨hx.ret0,hx.retr,hx.rcvs,hx.shp1,hx.uC,hx.ord1,fun e=>absurd rfl e⟩,fun e=>absurd rfl e,.inr rfl,rfl⟩
    ·rw[aiu k3];exact⟨fun _=>⟨hx.ret0,hx.retr,hx.rcvs,hx.shp1,hx.uC,hx.ord1,fun e=>absurd rfl e⟩,fun e=>absurd rfl e,.inr rfl,rfl⟩
 ·rw[aiu h3];exact⟨fun _=>⟨hx.ret0,hx.retr,hx.rcvs,hx.shp1,hx.uC,hx.ord1,fun e=>absurd rfl e⟩,fun e=>absurd rfl e,.inr rfl,rfl⟩
theorem acK {ext:Int} {d:aa} {x:ak} {z:Bool} (hx:LOk x) (hq:qOk (dQ d) z=true):((cR ext d x).1=0→LOk (if aL d=9 then (cR ext d x).2.clr else (cR ext d x).2))∧((cR ext d x).1≠0→(cR ext d x).2=x)∧(cR ext d x).2.wish=x.wish∧(cR ext d x).2.no=x.no:=by
 obtain⟨q0,q1,_⟩:=lY hq
 have b0:=hx.ret0;have b1:=hx.retr;have b2:=hx.rcvs;have b3:=hx.shp1
 unfold cR
 by_cases k9:aL d=9
 ·rw[aiv k9,aiv k9]
  split
  ·exact⟨nofun,fun _=>rfl,rfl,rfl⟩
  ·split
   ·exact⟨nofun,fun _=>rfl,rfl,rfl⟩
   ·rename_i h1 h2
    exact⟨fun _=>⟨b0,b1,by show x.rcv≤x.shp+aW (dQ d);omega,by show x.shp+aW (dQ d)≤_;omega,hx.uC,hx.ord1,fun e=>absurd rfl e⟩,fun e=>absurd rfl e,rfl,rfl⟩
 ·rw[aiu k9,aiu k9]
  by_cases k10:aL d=10
  ·rw[aiv k10]
   split
   ·exact⟨nofun,fun _=>rfl,rfl,rfl⟩
   ·rename_i h1
    exact⟨fun _=>⟨b0,by show x.ret≤x.rcv+aW (dQ d);omega,by show x.rcv+aW (dQ d)≤x.shp;omega,b3,hx.uC,hx.ord1,hx.off⟩,fun e=>absurd rfl e,rfl,rfl⟩
  ·rw[aiu k10]
   split
   ·exact⟨nofun,fun _=>rfl,rfl,rfl⟩
   ·rename_i h1
    exact⟨fun _=>⟨by show 0≤x.ret+aW (dQ d);omega,by show x.ret+aW (dQ d)≤x.rcv;omega,b2,b3,hx.uC,hx.ord1,fun e=>by
     obtain⟨c1,c2⟩:=hx.off e
     exact⟨c1,by show x.oq+x.shp - (x.ret+aW (dQ d))≤x.ord;omega⟩⟩,fun e=>absurd rfl e,rfl,rfl⟩
theorem EW {o:aj} {l:List aa} {i:Nat} {d:aa} {x:ak} (hx:LOk x) (hw:WOk l x) (hl:∀ d,d∈l→bF d=0) (hd:l[i]? =some d):
 LOk (bA o l i d x).2∧WOk l (bA o l i d x).2∧(bA o l i d x).2.no=x.no∧((bA o l i d x).1≠0→(bA o l i d x).2=x):=by
 obtain⟨_,_,_,hk,_,_,hu⟩:=bU (hl d (ahb hd))
 obtain⟨uq,_⟩:=dR hu
 unfold bA
 by_cases k4:aL d≤4
 ·rw[aiv k4]
  unfold vk
  split
  ·exact⟨hx,hw,rfl,fun _=>rfl⟩
  ·split
   ·exact⟨hx,hw,rfl,fun _=>rfl⟩
   ·refine⟨⟨hx.ret0,hx.retr,hx.rcvs,hx.shp1,hx.uC,hx.ord1,hx.off⟩,⟨by show (-1:Int)≤(i:Int);omega,fun _=>⟨d,by show l[((i:Int)).toNat]? =some d;simpa using hd,k4⟩⟩,rfl,fun e=>absurd rfl e⟩
 ·rw[aiu k4]
  by_cases k6:aL d≤6
  ·rw[aiv k6]
   obtain⟨a1,a2,a3,a4⟩:=Zx (d:=d) hx hw hl
   split
   ·rename_i e
    refine⟨a1 e, ?_,a4,fun e=>absurd rfl e⟩
    rcases a3 with a3 | a3
    ·rw[a3];exact⟨hw.low,hw.kind⟩
    ·exact⟨by show -1≤(bZ l d x).2.wish;omega,fun h=>by have:0≤(bZ l d x).2.wish:=h;omega⟩
   ·rename_i e
    rw[a2 e];exact⟨hx,hw,rfl,fun _=>rfl⟩
  ·rw[aiu k6]
   by_cases k7:aL d=7
   ·rw[aiv k7]
    have hq:=uq (by rw[k7];rfl)
    rw[show (aL d==2)=false by rw[k7];rfl] at hq
    obtain⟨q0,q1,q2⟩:=lY hq
    split
    ·rename_i e
     refine⟨⟨hx.ret0,hx.retr,hx.rcvs,hx.shp1,hx.uC,hx.ord1,fun _=>⟨q2 rfl, ?_⟩⟩,⟨hw.low,hw.kind⟩,rfl,fun e=>absurd rfl e⟩
     show aW (dQ d)+x.shp - x.ret≤x.ord
     unfold mK at e
     split at e
     ·cases e
     ·split at e
      ·cases e
      ·split at e
       ·cases e
       ·rename_i h1 h2 h3
        have:=q2 rfl
        unfold ak.opn at h3
        split at h3<;>omega
    ·exact⟨hx,hw,rfl,fun _=>rfl⟩
   ·rw[aiu k7]
    by_cases k8:aL d=8
    ·rw[aiv k8]
     unfold EP
     split
     ·exact⟨hx,hw,rfl,fun _=>rfl⟩
     ·split
      ·exact⟨hx,hw,rfl,fun _=>rfl⟩
      ·rename_i h1 h2
       obtain⟨c1,c2⟩:=hx.off (fun e=>h2 (.inl e))
       have:=hx.ret0;have:=hx.retr;have:=hx.rcvs;have:=hx.ord1
       refine⟨⟨hx.ret0,hx.retr,hx.rcvs,hx.shp1, ?_, ?_,fun e=>absurd rfl e⟩,⟨hw.low,hw.kind⟩,rfl,fun e=>absurd rfl e⟩
       ·show 0≤x.shp - x.ret+x.oq;omega
       ·show x.shp - x.ret+x.oq≤1000000000000;omega
    ·rw[aiu k8]
     have hq:=uq (by
      unfold usQ
      refine aim ⟨by omega,by omega,by omega,by omega,by omega⟩)
     obtain⟨a1,a2,a3,a4⟩:=acK (ext:=cm o) hx hq
     by_cases k9:aL d=9
     ·rw[aiv k9]
      split
      ·rename_i e
       have:=a1 e
       rw[aiv k9] at this
       exact⟨this,⟨by show -1≤(cR (cm o) d x).2.wish;rw[a3];exact hw.low,fun h=>by
        have h':0≤(cR (cm o) d x).2.wish:=h
        rw[a3] at h'
        show ∃ d',l[(cR (cm o) d x).2.wish.toNat]? =some d'∧_
        rw[a3];exact hw.kind h'⟩,a4,fun e=>absurd rfl e⟩
      ·rename_i e
       rw[a2 e];exact⟨hx,hw,rfl,fun _=>rfl⟩
     ·rw[aiu k9]
      by_cases e:(cR (cm o) d x).1=0
      ·have:=a1 e
       rw[aiu k9] at this
       exact⟨this,⟨by rw[a3];exact hw.low,fun h=>by rw[a3] at h ⊢;exact hw.kind h⟩,a4,fun h=>absurd e h⟩
      ·rw[a2 e];exact⟨hx,hw,rfl,fun _=>rfl⟩
theorem ab3 {l:List aa} {A:List ak} (h:Sound l A) {k:Nat} {y:ak} (h1:LOk y) (h2:WOk l y):Sound l (A.set k y):=⟨fun x hx=>by
 rcases ahd hx with hx | hx
 ·exact h.line x hx
 ·subst hx;exact⟨h1,h2⟩⟩
theorem Wy {o:aj} {l:List aa} {i:Nat} {d:aa} {A:List ak} (hA:Sound l A) (hl:∀ d,d∈l→bF d=0) (hd:l[i]? =some d):
 Sound l (cE o l i d A).2∧((cE o l i d A).1≠0→(cE o l i d A).2=A):=by
 unfold cE
 by_cases k1:aL d=1
 ·rw[aiv k1]
  split
  ·exact⟨hA,fun _=>rfl⟩
  ·split
   ·exact⟨hA,fun _=>rfl⟩
   ·split
    ·exact⟨hA,fun _=>rfl⟩
    ·refine⟨⟨fun x hx=> ?_⟩,fun e=>absurd rfl e⟩
     rcases ag1.1 hx with hx | hx
     ·exact hA.line x hx
     ·simp only[ahf] at hx
      subst hx
      exact⟨⟨by show (0:Int)≤0;omega,by show (0:Int)≤0;omega,by show (0:Int)≤0;omega,by show (0:Int)≤_;omega,by show (0:Int)≤0;omega,by show (0:Int)≤_;omega,fun e=>absurd rfl e⟩,
       ⟨by show (-1:Int)≤(i:Int);omega,fun _=>⟨d,by show l[((i:Int)).toNat]? =some d;simpa using hd,by omega⟩⟩⟩
 ·rw[aiu k1]
  split
  ·exact⟨hA,fun _=>rfl⟩
  ·rename_i k hk
   split
   ·rename_i x hx
    obtain⟨h1,h2⟩:=hA.line x (ahb hx)
    obtain⟨a1,a2,a3,a4⟩:=EW (o:=o) h1 h2 hl hd
    exact⟨ab3 hA a1 a2,fun e=>by rw[a4 e];exact jR hx⟩
   ·exact⟨hA,fun _=>rfl⟩
variable {o:aj} {l:List aa} {ref:List ah} {pts:List aI} {wt:Int} {A:List ak}
theorem Jm {i:Nat} {d:aa} (hd:l[i]? =some d) (k1:aL d=1):
 pN (o,l,mapOf A,ref,pts,wt,()) (i:Int) (A.map ak.tup)=some ((cE o l i d A).1,(o,l,mapOf (cE o l i d A).2,ref,pts,wt,()),(cE o l i d A).2.map ak.tup,()):=by
 unfold pN cE
 dsimp only
 rw[cM hd,ah4,jb,aiv k1]
 cases hf:eL (dH d) A with
 | some k=>rw[show cB d.2.2.2.2.1 0 A=some k from hf];rfl
 | none=>
  rw[show cB d.2.2.2.2.1 0 A=none from hf]
  dsimp only
  rw[show (!Option.isNone (none:Option Nat))=false from rfl,aih]
  by_cases h1:500≤A.length
  ·rw[aiv h1,aim (show ((mapOf A).length:Int)≥500 by rw[Dh];omega),aii]
  ·rw[aiu h1,aik (show ¬((mapOf A).length:Int)≥500 by rw[Dh];omega),aih]
   by_cases h2:gG d<dA o
   ·rw[aiv h2,aim h2,aii]
   ·rw[aiu h2,aik h2,aih]
    have hs:=Qp (dH d) (gC i d) rfl A 0 hf
    rw[ah1] at hs
    rw[agQ]
    refine congrArg some ?_
    refine Prod.ext rfl (Prod.ext ?_ (Prod.ext ?_ rfl))
    ·exact Prod.ext rfl (Prod.ext rfl (Prod.ext hs rfl))
    ·show List.map ak.tup A++[_]=List.map ak.tup (A++[gC i d])
     rw[agW]
     rfl
end Go.Md
namespace Go.Md
open Go.Dn
theorem J4 {o:aj} {l:List aa} {i:Nat} {d:aa} {A:List ak} (k1:aL d≠1) (hf:eL (dH d) A=none):cE o l i d A=(9,A):=by
 unfold cE;rw[aiu k1,hf]
theorem My {o:aj} {l:List aa} {i:Nat} {d:aa} {A:List ak} {k:Nat} {x:ak} (k1:aL d≠1) (hf:eL (dH d) A=some k) (hx:A[k]? =some x):cE o l i d A=((bA o l i d x).1,A.set k (bA o l i d x).2):=by
 unfold cE;rw[aiu k1,hf];dsimp only;rw[hx]
variable {o:aj} {l:List aa} {ref:List ah} {pts:List aI} {wt:Int} {A:List ak}
theorem TX {k:Nat} (x:ak) (y:ak) (T:bg) (hT:T=y.tup):List.set ((A.set k x).map ak.tup) k T=(A.set k y).map ak.tup:=by
 rw[hT,Zq,ahm]
theorem adm {onum obuy osel:Bys} {oday oext:Int} {olns:List aH} {day byy no line:Int} {art:Bys} {q:ah} {unit:Bys} {p:ah} {un to:Int} {i:Nat} (he0:0≤oext) (he1:oext≤1000) (hl:∀ d,d∈l→bF d=0)
 (hd:l[i]? =some (day,byy,no,2,line,art,q,unit,p,un,to)) {k:Nat} {x:ak} (hf:cB line 0 A=some k) (hx:A[k]? =some x) (hs:LOk x) (hw:WOk l x):
 aZ ((onum,obuy,osel,oday,oext,olns),l,mapOf A,ref,pts,wt,()) (i:Int) (A.map ak.tup)=some ((bA (onum,obuy,osel,oday,oext,olns) l i (day,byy,no,2,line,art,q,unit,p,un,to) x).1,((onum,obuy,osel,oday,oext,olns),l,mapOf A,ref,pts,wt,()),(A.set k (bA (onum,obuy,osel,oday,oext,olns) l i (day,byy,no,2,line,art,q,unit,p,un,to) x).2).map ak.tup,()):=by
 have hdf:=hl _ (ahb hd)
 obtain⟨_,_,_,_,_,_,hu⟩:=bU hdf
 obtain⟨uq,_⟩:=dR hu
 have h21:((2:Int)==1)=false:=rfl
 have h22:((2:Int)==2)=true:=rfl
 have h23:((2:Int)==3)=false:=rfl
 have h24:((2:Int)==4)=false:=rfl
 have h25:((2:Int)==5)=false:=rfl
 have h26:((2:Int)==6)=false:=rfl
 have h27:((2:Int)==7)=false:=rfl
 have h28:((2:Int)==8)=false:=rfl
 have h29:((2:Int)==9)=false:=rfl
 unfold aZ
 dsimp only
 rw[cM hd,ah4]
 dsimp only
 rw[jb,hf]
 simp only[h21,h22,h23,h24,h25,h26,h27,h28,h29,aii,aih,az,ah7,ah4,qq hx hd]
 rfl
theorem adn {onum obuy osel:Bys} {oday oext:Int} {olns:List aH} {day byy no line:Int} {art:Bys} {q:ah} {unit:Bys} {p:ah} {un to:Int} {i:Nat} (he0:0≤oext) (he1:oext≤1000) (hl:∀ d,d∈l→bF d=0)
 (hd:l[i]? =some (day,byy,no,3,line,art,q,unit,p,un,to)) {k:Nat} {x:ak} (hf:cB line 0 A=some k) (hx:A[k]? =some x) (hs:LOk x) (hw:WOk l x):
 aZ ((onum,obuy,osel,oday,oext,olns),l,mapOf A,ref,pts,wt,()) (i:Int) (A.map ak.tup)=some ((bA (onum,obuy,osel,oday,oext,olns) l i (day,byy,no,3,line,art,q,unit,p,un,to) x).1,((onum,obuy,osel,oday,oext,olns),l,mapOf A,ref,pts,wt,()),(A.set k (bA (onum,obuy,osel,oday,oext,olns) l i (day,byy,no,3,line,art,q,unit,p,un,to) x).2).map ak.tup,()):=by
 have hdf:=hl _ (ahb hd)
 obtain⟨_,_,_,_,_,_,hu⟩:=bU hdf
 obtain⟨uq,_⟩:=dR hu
 have h31:((3:Int)==1)=false:=rfl
 have h32:((3:Int)==2)=false:=rfl
 have h33:((3:Int)==3)=true:=rfl
 have h34:((3:Int)==4)=false:=rfl
 have h35:((3:Int)==5)=false:=rfl
 have h36:((3:Int)==6)=false:=rfl
 have h37:((3:Int)==7)=false:=rfl
 have h38:((3:Int)==8)=false:=rfl
 have h39:((3:Int)==9)=false:=rfl
 unfold aZ
 dsimp only
 rw[cM hd,ah4]
 dsimp only
 rw[jb,hf]
 simp only[h31,h32,h33,h34,h35,h36,h37,h38,h39,aii,aih,az,ah7,ah4,qq hx hd]
 rfl
theorem ado {onum obuy osel:Bys} {oday oext:Int} {olns:List aH} {day byy no line:Int} {art:Bys} {q:ah} {unit:Bys} {p:ah} {un to:Int} {i:Nat} (he0:0≤oext) (he1:oext≤1000) (hl:∀ d,d∈l→bF d=0)
 (hd:l[i]? =some (day,byy,no,4,line,art,q,unit,p,un,to)) {k:Nat} {x:ak} (hf:cB line 0 A=some k) (hx:A[k]? =some x) (hs:LOk x) (hw:WOk l x):
 aZ ((onum,obuy,osel,oday,oext,olns),l,mapOf A,ref,pts,wt,()) (i:Int) (A.map ak.tup)=some ((bA (onum,obuy,osel,oday,oext,olns) l i (day,byy,no,4,line,art,q,unit,p,un,to) x).1,((onum,obuy,osel,oday,oext,olns),l,mapOf A,ref,pts,wt,()),(A.set k (bA (onum,obuy,osel,oday,oext,olns) l i (day,byy,no,4,line,art,q,unit,p,un,to) x).2).map ak.tup,()):=by
 have hdf:=hl _ (ahb hd)
 obtain⟨_,_,_,_,_,_,hu⟩:=bU hdf
 obtain⟨uq,_⟩:=dR hu
 have h41:((4:Int)==1)=false:=rfl
 have h42:((4:Int)==2)=false:=rfl
 have h43:((4:Int)==3)=false:=rfl
 have h44:((4:Int)==4)=true:=rfl
 have h45:((4:Int)==5)=false:=rfl
 have h46:((4:Int)==6)=false:=rfl
 have h47:((4:Int)==7)=false:=rfl
 have h48:((4:Int)==8)=false:=rfl
 have h49:((4:Int)==9)=false:=rfl
 unfold aZ
 dsimp only
 rw[cM hd,ah4]
 dsimp only
 rw[jb,hf]
 simp only[h41,h42,h43,h44,h45,h46,h47,h48,h49,aii,aih,az,ah7,ah4,qq hx hd]
 rfl
theorem adp {onum obuy osel:Bys} {oday oext:Int} {olns:List aH} {day byy no line:Int} {art:Bys} {q:ah} {unit:Bys} {p:ah} {un to:Int} {i:Nat} (he0:0≤oext) (he1:oext≤1000) (hl:∀ d,d∈l→bF d=0)
 (hd:l[i]? =some (day,byy,no,5,line,art,q,unit,p,un,to)) {k:Nat} {x:ak} (hf:cB line 0 A=some k) (hx:A[k]? =some x) (hs:LOk x) (hw:WOk l x):
 aZ ((onum,obuy,osel,oday,oext,olns),l,mapOf A,ref,pts,wt,()) (i:Int) (A.map ak.tup)=some ((bA (onum,obuy,osel,oday,oext,olns) l i (day,byy,no,5,line,art,q,unit,p,un,to) x).1,((onum,obuy,osel,oday,oext,olns),l,mapOf A,ref,pts,wt,()),(A.set k (bA (onum,obuy,osel,oday,oext,olns) l i (day,byy,no,5,line,art,q,unit,p,un,to) x).2).map ak.tup,()):=by
 have hdf:=hl _ (ahb hd)
 obtain⟨_,_,_,_,_,_,hu⟩:=bU hdf
 obtain⟨uq,_⟩:=dR hu
 have h51:((5:Int)==1)=false:=rfl
 have h52:((5:Int)==2)=false:=rfl
 have h53:((5:Int)==3)=false:=rfl
 have h54:((5:Int)==4)=false:=rfl
 have h55:((5:Int)==5)=true:=rfl
 have h56:((5:Int)==6)=false:=rfl
 have h57:((5:Int)==7)=false:=rfl
 have h58:((5:Int)==8)=false:=rfl
 have h59:((5:Int)==9)=false:=rfl
 unfold aZ
 dsimp only
 rw[cM hd,ah4]
 dsimp only
 rw[jb,hf]
 simp only[h51,h52,h53,h54,h55,h56,h57,h58,h59,aii,aih,az,ah7,ah4,vO hx hs hw hl,gK]
 have ha:bA (onum,obuy,osel,oday,oext,olns) l i (day,byy,no,5,line,art,q,unit,p,un,to) x=(if (bZ l (day,byy,no,5,line,art,q,unit,p,un,to) x).1=0 then (0,(bZ l (day,byy,no,5,line,art,q,unit,p,un,to) x).2.clr) else bZ l (day,byy,no,5,line,art,q,unit,p,un,to) x):=rfl
 rw[ha]
 by_cases e:(bZ l (day,byy,no,5,line,art,q,unit,p,un,to) x).1=0
 ·rw[aiv e,e]
  simp only[show ((0:Int)==0)=true from rfl,aii,ah4,rU (NZ hx _)]
  simp only[true_or,or_true,aip,aii]
  refine congrArg some (Prod.ext rfl (Prod.ext rfl (Prod.ext ?_ rfl)))
  exact TX (bZ l (day,byy,no,5,line,art,q,unit,p,un,to) x).2 ((bZ l (day,byy,no,5,line,art,q,unit,p,un,to) x).2.clr) _ rfl
 ·rw[aiu e,dx e,aih]
  rfl
theorem adq {onum obuy osel:Bys} {oday oext:Int} {olns:List aH} {day byy no line:Int} {art:Bys} {q:ah} {unit:Bys} {p:ah} {un to:Int} {i:Nat} (he0:0≤oext) (he1:oext≤1000) (hl:∀ d,d∈l→bF d=0)
 (hd:l[i]? =some (day,byy,no,6,line,art,q,unit,p,un,to)) {k:Nat} {x:ak} (hf:cB line 0 A=some k) (hx:A[k]? =some x) (hs:LOk x) (hw:WOk l x):
 aZ ((onum,obuy,osel,oday,oext,olns),l,mapOf A,ref,pts,wt,()) (i:Int) (A.map ak.tup)=some ((bA (onum,obuy,osel,oday,oext,olns) l i (day,byy,no,6,line,art,q,unit,p,un,to) x).1,((onum,obuy,osel,oday,oext,olns),l,mapOf A,ref,pts,wt,()),(A.set k (bA (onum,obuy,osel,oday,oext,olns) l i (day,byy,no,6,line,art,q,unit,p,un,to) x).2).map ak.tup,()):=by
 have hdf:=hl _ (ahb hd)
 obtain⟨_,_,_,_,_,_,hu⟩:=bU hdf
 obtain⟨uq,_⟩:=dR hu
 have h61:((6:Int)==1)=false:=rfl
 have h62:((6:Int)==2)=false:=rfl
 have h63:((6:Int)==3)=false:=rfl
 have h64:((6:Int)==4)=false:=rfl
 have h65:((6:Int)==5)=false:=rfl
 have h66:((6:Int)==6)=true:=rfl
 have h67:((6:Int)==7)=false:=rfl
 have h68:((6:Int)==8)=false:=rfl
 have h69:((6:Int)==9)=false:=rfl
 unfold aZ
 dsimp only
 rw[cM hd,ah4]
 dsimp only
 rw[jb,hf]
 simp only[h61,h62,h63,h64,h65,h66,h67,h68,h69,aii,aih,az,ah7,ah4,vO hx hs hw hl,gK]
 have ha:bA (onum,obuy,osel,oday,oext,olns) l i (day,byy,no,6,line,art,q,unit,p,un,to) x=(if (bZ l (day,byy,no,6,line,art,q,unit,p,un,to) x).1=0 then (0,(bZ l (day,byy,no,6,line,art,q,unit,p,un,to) x).2.clr) else bZ l (day,byy,no,6,line,art,q,unit,p,un,to) x):=rfl
 rw[ha]
 by_cases e:(bZ l (day,byy,no,6,line,art,q,unit,p,un,to) x).1=0
 ·rw[aiv e,e]
  simp only[show ((0:Int)==0)=true from rfl,aii,ah4,rU (NZ hx _)]
  simp only[true_or,or_true,aip,aii]
  refine congrArg some (Prod.ext rfl (Prod.ext rfl (Prod.ext ?_ rfl)))
  exact TX (bZ l (day,byy,no,6,line,art,q,unit,p,un,to) x).2 ((bZ l (day,byy,no,6,line,art,q,unit,p,un,to) x).2.clr) _ rfl
 ·rw[aiu e,dx e,aih]
  rfl
theorem adr {onum obuy osel:Bys} {oday oext:Int} {olns:List aH} {day byy no line:Int} {art:Bys} {q:ah} {unit:Bys} {p:ah} {un to:Int} {i:Nat} (he0:0≤oext) (he1:oext≤1000) (hl:∀ d,d∈l→bF d=0)
 (hd:l[i]? =some (day,byy,no,7,line,art,q,unit,p,un,to)) {k:Nat} {x:ak} (hf:cB line 0 A=some k) (hx:A[k]? =some x) (hs:LOk x) (hw:WOk l x):
 aZ ((onum,obuy,osel,oday,oext,olns),l,mapOf A,ref,pts,wt,()) (i:Int) (A.map ak.tup)=some ((bA (onum,obuy,osel,oday,oext,olns) l i (day,byy,no,7,line,art,q,unit,p,un,to) x).1,((onum,obuy,osel,oday,oext,olns),l,mapOf A,ref,pts,wt,()),(A.set k (bA (onum,obuy,osel,oday,oext,olns) l i (day,byy,no,7,line,art,q,unit,p,un,to) x).2).map ak.tup,()):=by
 have hdf:=hl _ (ahb hd)
 obtain⟨_,_,_,_,_,_,hu⟩:=bU hdf
 obtain⟨uq,_⟩:=dR hu
 have h71:((7:Int)==1)=false:=rfl
 have h72:((7:Int)==2)=false:=rfl
 have h73:((7:Int)==3)=false:=rfl
 have h74:((7:Int)==4)=false:=rfl
 have h75:((7:Int)==5)=false:=rfl
 have h76:((7:Int)==6)=false:=rfl
 have h77:((7:Int)==7)=true:=rfl
 have h78:((7:Int)==8)=false:=rfl
 have h79:((7:Int)==9)=false:=rfl
 unfold aZ
 dsimp only
 rw[cM hd,ah4]
 dsimp only
 rw[jb,hf]
 have hq:qOk q false=true:=uq rfl
 simp only[h71,h72,h73,h74,h75,h76,h77,h78,h79,aii,aih,az,ah7,ah4,EK hx hs (d:=(day,byy,no,7,line,art,q,unit,p,un,to)) hq,gK]
 have ha:bA (onum,obuy,osel,oday,oext,olns) l i (day,byy,no,7,line,art,q,unit,p,un,to) x=(if mK oday (day,byy,no,7,line,art,q,unit,p,un,to) x=0 then (0,{ x with ono:=no,oq:=aW q,ount:=un }) else (mK oday (day,byy,no,7,line,art,q,unit,p,un,to) x,x)):=rfl
 rw[ha]
 by_cases e:mK oday (day,byy,no,7,line,art,q,unit,p,un,to) x=0
 ·rw[aiv e,show mK (dA (onum,obuy,osel,oday,oext,olns)) (day,byy,no,7,line,art,q,unit,p,un,to) x=0 from e]
  simp only[show ((0:Int)==0)=true from rfl,aii,ah4,rU hx]
  simp only[true_or,or_true,aip,aii]
  rw[show iP (q.1,q.2)=some (aW q,()) from nC hq,ah4]
  simp only[FK hx,ah4,ahm]
  rw[nX { x with ono:=no,oq:=aW q,ount:=un } _ rfl]
 ·rw[aiu e,show (mK (dA (onum,obuy,osel,oday,oext,olns)) (day,byy,no,7,line,art,q,unit,p,un,to) x==0)=false from dx e,aih,jR hx]
  rfl
theorem ads {onum obuy osel:Bys} {oday oext:Int} {olns:List aH} {day byy no line:Int} {art:Bys} {q:ah} {unit:Bys} {p:ah} {un to:Int} {i:Nat} (he0:0≤oext) (he1:oext≤1000) (hl:∀ d,d∈l→bF d=0)
 (hd:l[i]? =some (day,byy,no,8,line,art,q,unit,p,un,to)) {k:Nat} {x:ak} (hf:cB line 0 A=some k) (hx:A[k]? =some x) (hs:LOk x) (hw:WOk l x):
 aZ ((onum,obuy,osel,oday,oext,olns),l,mapOf A,ref,pts,wt,()) (i:Int) (A.map ak.tup)=some ((bA (onum,obuy,osel,oday,oext,olns) l i (day,byy,no,8,line,art,q,unit,p,un,to) x).1,((onum,obuy,osel,oday,oext,olns),l,mapOf A,ref,pts,wt,()),(A.set k (bA (onum,obuy,osel,oday,oext,olns) l i (day,byy,no,8,line,art,q,unit,p,un,to) x).2).map ak.tup,()):=by
 have hdf:=hl _ (ahb hd)
 obtain⟨_,_,_,_,_,_,hu⟩:=bU hdf
 obtain⟨uq,_⟩:=dR hu
 have h81:((8:Int)==1)=false:=rfl
 have h82:((8:Int)==2)=false:=rfl
 have h83:((8:Int)==3)=false:=rfl
 have h84:((8:Int)==4)=false:=rfl
 have h85:((8:Int)==5)=false:=rfl
 have h86:((8:Int)==6)=false:=rfl
 have h87:((8:Int)==7)=false:=rfl
 have h88:((8:Int)==8)=true:=rfl
 have h89:((8:Int)==9)=false:=rfl
 unfold aZ
 dsimp only
 rw[cM hd,ah4]
 dsimp only
 rw[jb,hf]
 simp only[h81,h82,h83,h84,h85,h86,h87,h88,h89,aii,aih,az,ah7,ah4,Ip hx hs]
 rfl
theorem adt {onum obuy osel:Bys} {oday oext:Int} {olns:List aH} {day byy no line:Int} {art:Bys} {q:ah} {unit:Bys} {p:ah} {un to:Int} {i:Nat} (he0:0≤oext) (he1:oext≤1000) (hl:∀ d,d∈l→bF d=0)
 (hd:l[i]? =some (day,byy,no,9,line,art,q,unit,p,un,to)) {k:Nat} {x:ak} (hf:cB line 0 A=some k) (hx:A[k]? =some x) (hs:LOk x) (hw:WOk l x):
 aZ ((onum,obuy,osel,oday,oext,olns),l,mapOf A,ref,pts,wt,()) (i:Int) (A.map ak.tup)=some ((bA (onum,obuy,osel,oday,oext,olns) l i (day,byy,no,9,line,art,q,unit,p,un,to) x).1,((onum,obuy,osel,oday,oext,olns),l,mapOf A,ref,pts,wt,()),(A.set k (bA (onum,obuy,osel,oday,oext,olns) l i (day,byy,no,9,line,art,q,unit,p,un,to) x).2).map ak.tup,()):=by
 have hdf:=hl _ (ahb hd)
 obtain⟨_,_,_,_,_,_,hu⟩:=bU hdf
 obtain⟨uq,_⟩:=dR hu
 have h91:((9:Int)==1)=false:=rfl
 have h92:((9:Int)==2)=false:=rfl
 have h93:((9:Int)==3)=false:=rfl
 have h94:((9:Int)==4)=false:=rfl
 have h95:((9:Int)==5)=false:=rfl
 have h96:((9:Int)==6)=false:=rfl
 have h97:((9:Int)==7)=false:=rfl
 have h98:((9:Int)==8)=false:=rfl
 have h99:((9:Int)==9)=true:=rfl
 unfold aZ
 dsimp only
 rw[cM hd,ah4]
 dsimp only
 rw[jb,hf]
 have hq:qOk q false=true:=uq rfl
 simp only[h91,h92,h93,h94,h95,h96,h97,h98,h99,aii,aih,az,ah7,ah4,qo hx hs (o:=(onum,obuy,osel,oday,oext,olns)) he0 he1 (d:=(day,byy,no,9,line,art,q,unit,p,un,to)) hq,gK]
 have ha:bA (onum,obuy,osel,oday,oext,olns) l i (day,byy,no,9,line,art,q,unit,p,un,to) x=(if (cR oext (day,byy,no,9,line,art,q,unit,p,un,to) x).1=0 then (0,(cR oext (day,byy,no,9,line,art,q,unit,p,un,to) x).2.clr) else cR oext (day,byy,no,9,line,art,q,unit,p,un,to) x):=rfl
 rw[ha]
 by_cases e:(cR oext (day,byy,no,9,line,art,q,unit,p,un,to) x).1=0
 ·rw[aiv e,show (cR (cm (onum,obuy,osel,oday,oext,olns)) (day,byy,no,9,line,art,q,unit,p,un,to) x).1=0 from e]
  simp only[show ((0:Int)==0)=true from rfl,aii,ah4,rU (NZ hx _)]
  simp only[true_or,or_true,aip,aii]
  refine congrArg some (Prod.ext rfl (Prod.ext rfl (Prod.ext ?_ rfl)))
  exact TX (cR oext (day,byy,no,9,line,art,q,unit,p,un,to) x).2 ((cR oext (day,byy,no,9,line,art,q,unit,p,un,to) x).2.clr) _ rfl
 ·rw[aiu e,show ((cR (cm (onum,obuy,osel,oday,oext,olns)) (day,byy,no,9,line,art,q,unit,p,un,to) x).1==0)=false from dx e,aih]
  rfl
theorem acp {onum obuy osel:Bys} {oday oext:Int} {olns:List aH} {day byy no line:Int} {art:Bys} {q:ah} {unit:Bys} {p:ah} {un to:Int} {i:Nat} (he0:0≤oext) (he1:oext≤1000) (hl:∀ d,d∈l→bF d=0)
 (hd:l[i]? =some (day,byy,no,10,line,art,q,unit,p,un,to)) {k:Nat} {x:ak} (hf:cB line 0 A=some k) (hx:A[k]? =some x) (hs:LOk x) (hw:WOk l x):
 aZ ((onum,obuy,osel,oday,oext,olns),l,mapOf A,ref,pts,wt,()) (i:Int) (A.map ak.tup)=some ((bA (onum,obuy,osel,oday,oext,olns) l i (day,byy,no,10,line,art,q,unit,p,un,to) x).1,((onum,obuy,osel,oday,oext,olns),l,mapOf A,ref,pts,wt,()),(A.set k (bA (onum,obuy,osel,oday,oext,olns) l i (day,byy,no,10,line,art,q,unit,p,un,to) x).2).map ak.tup,()):=by
 have hdf:=hl _ (ahb hd)
 obtain⟨_,_,_,_,_,_,hu⟩:=bU hdf
 obtain⟨uq,_⟩:=dR hu
 have h101:((10:Int)==1)=false:=rfl
 have h102:((10:Int)==2)=false:=rfl
 have h103:((10:Int)==3)=false:=rfl
 have h104:((10:Int)==4)=false:=rfl
 have h105:((10:Int)==5)=false:=rfl
 have h106:((10:Int)==6)=false:=rfl
 have h107:((10:Int)==7)=false:=rfl
 have h108:((10:Int)==8)=false:=rfl
 have h109:((10:Int)==9)=false:=rfl
 unfold aZ
 dsimp only
 rw[cM hd,ah4]
 dsimp only
 rw[jb,hf]
 have hq:qOk q false=true:=uq rfl
 simp only[h101,h102,h103,h104,h105,h106,h107,h108,h109,aii,aih,az,ah7,ah4,qo hx hs (o:=(onum,obuy,osel,oday,oext,olns)) he0 he1 (d:=(day,byy,no,10,line,art,q,unit,p,un,to)) hq,gK]
 have ha:bA (onum,obuy,osel,oday,oext,olns) l i (day,byy,no,10,line,art,q,unit,p,un,to) x=cR oext (day,byy,no,10,line,art,q,unit,p,un,to) x:=rfl
 rw[ha]
 by_cases e:(cR oext (day,byy,no,10,line,art,q,unit,p,un,to) x).1=0
 ·rw[show ((cR (cm (onum,obuy,osel,oday,oext,olns)) (day,byy,no,10,line,art,q,unit,p,un,to) x).1==0)=true by show ((cR oext (day,byy,no,10,line,art,q,unit,p,un,to) x).1==0)=true;rw[e];rfl]
  rfl
 ·rw[show ((cR (cm (onum,obuy,osel,oday,oext,olns)) (day,byy,no,10,line,art,q,unit,p,un,to) x).1==0)=false from dx e]
  rfl
theorem acq {onum obuy osel:Bys} {oday oext:Int} {olns:List aH} {day byy no line:Int} {art:Bys} {q:ah} {unit:Bys} {p:ah} {un to:Int} {i:Nat} (he0:0≤oext) (he1:oext≤1000) (hl:∀ d,d∈l→bF d=0)
 (hd:l[i]? =some (day,byy,no,11,line,art,q,unit,p,un,to)) {k:Nat} {x:ak} (hf:cB line 0 A=some k) (hx:A[k]? =some x) (hs:LOk x) (hw:WOk l x):
 aZ ((onum,obuy,osel,oday,oext,olns),l,mapOf A,ref,pts,wt,()) (i:Int) (A.map ak.tup)=some ((bA (onum,obuy,osel,oday,oext,olns) l i (day,byy,no,11,line,art,q,unit,p,un,to) x).1,((onum,obuy,osel,oday,oext,olns),l,mapOf A,ref,pts,wt,()),(A.set k (bA (onum,obuy,osel,oday,oext,olns) l i (day,byy,no,11,line,art,q,unit,p,un,to) x).2).map ak.tup,()):=by
 have hdf:=hl _ (ahb hd)
 obtain⟨_,_,_,_,_,_,hu⟩:=bU hdf
 obtain⟨uq,_⟩:=dR hu
 have h111:((11:Int)==1)=false:=rfl
 have h112:((11:Int)==2)=false:=rfl
 have h113:((11:Int)==3)=false:=rfl
 have h114:((11:Int)==4)=false:=rfl
 have h115:((11:Int)==5)=false:=rfl
 have h116:((11:Int)==6)=false:=rfl
 have h117:((11:Int)==7)=false:=rfl
 have h118:((11:Int)==8)=false:=rfl
 have h119:((11:Int)==9)=false:=rfl
 unfold aZ
 dsimp only
 rw[cM hd,ah4]
 dsimp only
 rw[jb,hf]
 have hq:qOk q false=true:=uq rfl
 simp only[h111,h112,h113,h114,h115,h116,h117,h118,h119,aii,aih,az,ah7,ah4,qo hx hs (o:=(onum,obuy,osel,oday,oext,olns)) he0 he1 (d:=(day,byy,no,11,line,art,q,unit,p,un,to)) hq,gK]
 have ha:bA (onum,obuy,osel,oday,oext,olns) l i (day,byy,no,11,line,art,q,unit,p,un,to) x=cR oext (day,byy,no,11,line,art,q,unit,p,un,to) x:=rfl
 rw[ha]
 by_cases e:(cR oext (day,byy,no,11,line,art,q,unit,p,un,to) x).1=0
 ·rw[show ((cR (cm (onum,obuy,osel,oday,oext,olns)) (day,byy,no,11,line,art,q,unit,p,un,to) x).1==0)=true by show ((cR oext (day,byy,no,11,line,art,q,unit,p,un,to) x).1==0)=true;rw[e];rfl]
  rfl
 ·rw[show ((cR (cm (onum,obuy,osel,oday,oext,olns)) (day,byy,no,11,line,art,q,unit,p,un,to) x).1==0)=false from dx e]
  rfl
theorem Io {i:Nat} {d:aa} (hA:Sound l A) (hl:∀ d,d∈l→bF d=0) (hd:l[i]? =some d) (he0:0≤cm o) (he1:cm o≤1000):
 aZ (o,l,mapOf A,ref,pts,wt,()) (i:Int) (A.map ak.tup)=some ((cE o l i d A).1,(o,l,mapOf (cE o l i d A).2,ref,pts,wt,()),(cE o l i d A).2.map ak.tup,()):=by
 obtain⟨_,_,_,hk,_,_,_⟩:=bU (hl d (ahb hd))
 by_cases k1:aL d=1
 ·unfold aZ
  dsimp only
  rw[cM hd,ah4,show (d.2.2.2.1==1)=true by simpa using k1,aii]
  rw[Jm hd k1,ah4]
 ·cases hf:eL (dH d) A with
  | none=>
   rw[J4 k1 hf]
   unfold aZ
   dsimp only
   rw[cM hd,ah4,show (d.2.2.2.1==1)=false by simpa using k1,aih]
   rw[jb,show cB d.2.2.2.2.1 0 A=none from hf]
   rfl
  | some k=>
   obtain⟨x,hx,hxn⟩:=wZ hf
   rw[My k1 hf hx]
   obtain⟨hs,hw⟩:=hA.line x (ahb hx)
   have hm:mapOf (A.set k (bA o l i d x).2)=mapOf A:=abA A 0 (fun z hz=>by
    rw[hx] at hz;cases hz
    exact (EW (o:=o) hs hw hl hd).2.2.1)
   rw[hm]
   obtain⟨onum,obuy,osel,oday,oext,olns⟩:=o
   obtain⟨day,byy,no,kk,line,art,q,unit,p,un,to⟩:=d
   have hk':kk=2∨kk=3∨kk=4∨kk=5∨kk=6∨kk=7∨kk=8∨kk=9∨kk=10∨kk=11:=by
    have h1:1≤kk∧kk≤11:=hk
    have h2:kk≠1:=k1
    omega
   rcases hk' with rfl | rfl | rfl | rfl | rfl | rfl | rfl | rfl | rfl | rfl
   ·exact adm he0 he1 hl hd hf hx hs hw
   ·exact adn he0 he1 hl hd hf hx hs hw
   ·exact ado he0 he1 hl hd hf hx hs hw
   ·exact adp he0 he1 hl hd hf hx hs hw
   ·exact adq he0 he1 hl hd hf hx hs hw
   ·exact adr he0 he1 hl hd hf hx hs hw
   ·exact ads he0 he1 hl hd hf hx hs hw
   ·exact adt he0 he1 hl hd hf hx hs hw
   ·exact acp he0 he1 hl hd hf hx hs hw
   ·exact acq he0 he1 hl hd hf hx hs hw
end Go.Md
