/-
  Plain facts: deeds checked. No condition.
-/
import Derived.Test.YtokceoajcccdiaaGreatDoorYo
import Derived.Test.YtokceoajcccdiaaGreatDoorYr
import Derived.Test.YtokceoajcccdiaaGreatDoorYq
set_option linter.all false
namespace Go.Md
open Go.Dn
theorem Cq (k:Int):mQ k=some (decide (k=5\/k=6\/k=7\/k=9),()):=by
 unfold mQ
 by_cases h5:k=5
 ·subst h5;rfl
 by_cases h6:k=6
 ·subst h6;rfl
 by_cases h7:k=7
 ·subst h7;rfl
 by_cases h9:k=9
 ·subst h9;rfl
 have e5:(k==5)=false:=by simp[h5]
 have e6:(k==6)=false:=by simp[h6]
 have e7:(k==7)=false:=by simp[h7]
 have e9:(k==9)=false:=by simp[h9]
 simp only[e5,e6,e7,e9,VV]
 simp[h5,h6,h7,h9]
def usA (k:Int):Bool:=decide (k=1)
def usQ (k:Int):Bool:=decide (k≠3/\k≠4/\k≠5/\k≠6/\k≠8)
def usP (k:Int):Bool:=decide (k=1\/k=4)
def usU (k:Int):Bool:=decide (k=1\/k=3\/k=7)
def usT (k:Int):Bool:=decide (k=5\/k=6\/k=8)
theorem qZ (k:Int):bp k=some ((usA k,usQ k,usA k,usP k,usU k,usT k),()):=by
 unfold bp
 by_cases h1:k=1
 ·subst h1;rfl
 by_cases h3:k=3
 ·subst h3;rfl
 by_cases h4:k=4
 ·subst h4;rfl
 by_cases h5:k=5
 ·subst h5;rfl
 by_cases h6:k=6
 ·subst h6;rfl
 by_cases h7:k=7
 ·subst h7;rfl
 by_cases h8:k=8
 ·subst h8;rfl
 have e1:(k==1)=false:=by simp[h1]
 have e3:(k==3)=false:=by simp[h3]
 have e4:(k==4)=false:=by simp[h4]
 have e5:(k==5)=false:=by simp[h5]
 have e6:(k==6)=false:=by simp[h6]
 have e8:(k==8)=false:=by simp[h8]
 have e7:(k==7)=false:=by simp[h7]
 simp only[e1,e3,e4,e5,e6,e7,e8,VV]
 simp[h1,h3,h4,h5,h6,h7,h8,usA,usQ,usP,usU,usT]
def mM (n:Int):Bool:=decide (1<=n/\n<=3652059)
def pV (n:Int):Bool:=decide (1<=n/\n<=2000)
def CU (ua uq up uu ut k2:Bool) (art:List UInt8) (q:ah) (unit:List UInt8) (p:ah) (un to:Int):Int:=
 bif uq&& !qOk q k2 then 1
 else bif up&& !inR p 0 1000000000 4 then 1
 else bif uu&& !mM un then 1
 else bif ua&&(!gy art|| !gy unit) then 5
 else bif ut&& !pV to then 1
 else bif (!ua&& !(art==[]))||((!uq&& !(q.1==0&&q.2==0))||((!ua&& !(unit==[]))||((!up&& !(p.1==0&&p.2==0))||((!uu&&un != 0)||(!ut&&to != 0))))) then 3
 else 0
def rL (d:aa):Int:=
 CU (usA d.2.2.2.1) (usQ d.2.2.2.1) (usP d.2.2.2.1) (usU d.2.2.2.1) (usT d.2.2.2.1) (d.2.2.2.1==2) d.2.2.2.2.2.1 d.2.2.2.2.2.2.1 d.2.2.2.2.2.2.2.1 d.2.2.2.2.2.2.2.2.1 d.2.2.2.2.2.2.2.2.2.1 d.2.2.2.2.2.2.2.2.2.2
theorem JG (n:Int):qu n=some (mM n,()):=Cb n
theorem QX (n:Int):eN n 1 2000=some (!pV n,()):=by
 rw[kH]
 congr 2
 unfold pV
 by_cases h1:1<=n<;>by_cases h2:n<=2000<;>simp[h1,h2]<;>omega
theorem Cr (d:aa):mR d=some (rL d,()):=by
 obtain⟨day,byy,no,k,line,art,⟨q1,q2⟩,unit,⟨p1,p2⟩,un,to⟩:=d
 unfold mR rL
 dsimp only
 rw[qZ,VJ]
 dsimp only
 rw[xJ]
 simp only[Ba,JG,JH,QX,VJ]
 generalize usA k=ua
 generalize usQ k=uq
 generalize usP k=up
 generalize usU k=uu
 generalize usT k=ut
 generalize (k==2)=k2
 unfold CU
 generalize qOk (q1,q2) k2=b1
 have step1:∀ (A:Option ((Int×Unit) ⊕ (Int×Int×Int×Int×Int×(List UInt8)×Int×Int×(List UInt8)×Int×Int×Int×Int×Bool×Bool×Bool×Bool×Bool×Bool×Unit))) (v:Int×Int×Int×Int×Int×(List UInt8)×Int×Int×(List UInt8)×Int×Int×Int×Int×Bool×Bool×Bool×Bool×Bool×Bool×Unit) (K:(Int×Int×Int×Int×Int×(List UInt8)×Int×Int×(List UInt8)×Int×Int×Int×Int×Bool×Bool×Bool×Bool×Bool×Bool×Unit)->Option (Int×Unit)),
  A=some (.inr v)->aF A K=K v:=fun A v K h=>by rw[h];rfl
 cases uq
 ·refine Eq.trans (step1 _ _ _ (by exact rfl)) ?_
  cases up
  ·refine Eq.trans (step1 _ _ _ (by exact rfl)) ?_
   dsimp only
   generalize mM un=b3
   generalize gy art=b4
   generalize gy unit=b5
   generalize pV to=b6
   generalize (art==[])=c1
   generalize (q1==0)=c2
   generalize (q2==0)=c3
   generalize (unit==[])=c4
   generalize (p1==0)=c5
   generalize (p2==0)=c6
   generalize (un != 0)=c7
   generalize (to != 0)=c8
   cases uu
   ·cases ua
    ·cases ut
     ·cases c1<;>first | rfl | (cases c4<;>first | rfl | (cases c7<;>first | rfl | (cases c8<;>first | rfl | (cases c2<;>first | rfl | (cases c3<;>first | rfl | (cases c5<;>first | rfl | (cases c6<;>rfl)))))))
     ·cases b6
      ·rfl
      ·cases c1<;>first | rfl | (cases c4<;>first | rfl | (cases c7<;>first | rfl | (cases c8<;>first | rfl | (cases c2<;>first | rfl | (cases c3<;>first | rfl | (cases c5<;>first | rfl | (cases c6<;>rfl)))))))
    ·cases b4
     ·rfl
     ·cases b5
      ·rfl
      ·cases ut
       ·cases c1<;>first | rfl | (cases c4<;>first | rfl | (cases c7<;>first | rfl | (cases c8<;>first | rfl | (cases c2<;>first | rfl | (cases c3<;>first | rfl | (cases c5<;>first | rfl | (cases c6<;>rfl)))))))
       ·cases b6
        ·rfl
        ·cases c1<;>first | rfl | (cases c4<;>first | rfl | (cases c7<;>first | rfl | (cases c8<;>first | rfl | (cases c2<;>first | rfl | (cases c3<;>first | rfl | (cases c5<;>first | rfl | (cases c6<;>rfl)))))))
   ·cases b3
    ·rfl
    ·cases ua
     ·cases ut
      ·cases c1<;>first | rfl | (cases c4<;>first | rfl | (cases c7<;>first | rfl | (cases c8<;>first | rfl | (cases c2<;>first | rfl | (cases c3<;>first | rfl | (cases c5<;>first | rfl | (cases c6<;>rfl)))))))
      ·cases b6
       ·rfl
       ·cases c1<;>first | rfl | (cases c4<;>first | rfl | (cases c7<;>first | rfl | (cases c8<;>first | rfl | (cases c2<;>first | rfl | (cases c3<;>first | rfl | (cases c5<;>first | rfl | (cases c6<;>rfl)))))))
     ·cases b4
      ·rfl
      ·cases b5
       ·rfl
       ·cases ut
        ·cases c1<;>first | rfl | (cases c4<;>first | rfl | (cases c7<;>first | rfl | (cases c8<;>first | rfl | (cases c2<;>first | rfl | (cases c3<;>first | rfl | (cases c5<;>first | rfl | (cases c6<;>rfl)))))))
        ·cases b6
         ·rfl
         ·cases c1<;>first | rfl | (cases c4<;>first | rfl | (cases c7<;>first | rfl | (cases c8<;>first | rfl | (cases c2<;>first | rfl | (cases c3<;>first | rfl | (cases c5<;>first | rfl | (cases c6<;>rfl)))))))
  ·dsimp only
   generalize inR (p1,p2) 0 1000000000 4=b2
   cases b2
   ·rfl
   ·refine Eq.trans (step1 _ _ _ (by exact rfl)) ?_
    dsimp only
    generalize mM un=b3
    generalize gy art=b4
    generalize gy unit=b5
    generalize pV to=b6
    generalize (art==[])=c1
    generalize (q1==0)=c2
    generalize (q2==0)=c3
    generalize (unit==[])=c4
    generalize (p1==0)=c5
    generalize (p2==0)=c6
    generalize (un != 0)=c7
    generalize (to != 0)=c8
    cases uu
    ·cases ua
     ·cases ut
      ·cases c1<;>first | rfl | (cases c4<;>first | rfl | (cases c7<;>first | rfl | (cases c8<;>first | rfl | (cases c2<;>first | rfl | (cases c3<;>first | rfl | (cases c5<;>first | rfl | (cases c6<;>rfl)))))))
      ·cases b6
       ·rfl
       ·cases c1<;>first | rfl | (cases c4<;>first | rfl | (cases c7<;>first | rfl | (cases c8<;>first | rfl | (cases c2<;>first | rfl | (cases c3<;>first | rfl | (cases c5<;>first | rfl | (cases c6<;>rfl)))))))
     ·cases b4
      ·rfl
      ·cases b5
       ·rfl
       ·cases ut
        ·cases c1<;>first | rfl | (cases c4<;>first | rfl | (cases c7<;>first | rfl | (cases c8<;>first | rfl | (cases c2<;>first | rfl | (cases c3<;>first | rfl | (cases c5<;>first | rfl | (cases c6<;>rfl)))))))
        ·cases b6
         ·rfl
         ·cases c1<;>first | rfl | (cases c4<;>first | rfl | (cases c7<;>first | rfl | (cases c8<;>first | rfl | (cases c2<;>first | rfl | (cases c3<;>first | rfl | (cases c5<;>first | rfl | (cases c6<;>rfl)))))))
    ·cases b3
     ·rfl
     ·cases ua
      ·cases ut
       ·cases c1<;>first | rfl | (cases c4<;>first | rfl | (cases c7<;>first | rfl | (cases c8<;>first | rfl | (cases c2<;>first | rfl | (cases c3<;>first | rfl | (cases c5<;>first | rfl | (cases c6<;>rfl)))))))
       ·cases b6
        ·rfl
        ·cases c1<;>first | rfl | (cases c4<;>first | rfl | (cases c7<;>first | rfl | (cases c8<;>first | rfl | (cases c2<;>first | rfl | (cases c3<;>first | rfl | (cases c5<;>first | rfl | (cases c6<;>rfl)))))))
      ·cases b4
       ·rfl
       ·cases b5
        ·rfl
        ·cases ut
         ·cases c1<;>first | rfl | (cases c4<;>first | rfl | (cases c7<;>first | rfl | (cases c8<;>first | rfl | (cases c2<;>first | rfl | (cases c3<;>first | rfl | (cases c5<;>first | rfl | (cases c6<;>rfl)))))))
         ·cases b6
          ·rfl
          ·cases c1<;>first | rfl | (cases c4<;>first | rfl | (cases c7<;>first | rfl | (cases c8<;>first | rfl | (cases c2<;>first | rfl | (cases c3<;>first | rfl | (cases c5<;>first | rfl | (cases c6<;>rfl)))))))
 ·cases b1
  ·rfl
  ·refine Eq.trans (step1 _ _ _ (by exact rfl)) ?_
   cases up
   ·refine Eq.trans (step1 _ _ _ (by exact rfl)) ?_
    dsimp only
    generalize mM un=b3
    generalize gy art=b4
    generalize gy unit=b5
    generalize pV to=b6
    generalize (art==[])=c1
    generalize (q1==0)=c2
    generalize (q2==0)=c3
    generalize (unit==[])=c4
    generalize (p1==0)=c5
    generalize (p2==0)=c6
    generalize (un != 0)=c7
    generalize (to != 0)=c8
    cases uu
    ·cases ua
     ·cases ut
      ·cases c1<;>first | rfl | (cases c4<;>first | rfl | (cases c7<;>first | rfl | (cases c8<;>first | rfl | (cases c2<;>first | rfl | (cases c3<;>first | rfl | (cases c5<;>first | rfl | (cases c6<;>rfl)))))))
      ·cases b6
       ·rfl
       ·cases c1<;>first | rfl | (cases c4<;>first | rfl | (cases c7<;>first | rfl | (cases c8<;>first | rfl | (cases c2<;>first | rfl | (cases c3<;>first | rfl | (cases c5<;>first | rfl | (cases c6<;>rfl)))))))
     ·cases b4
      ·rfl
      ·cases b5
       ·rfl
       ·cases ut
        ·cases c1<;>first | rfl | (cases c4<;>first | rfl | (cases c7<;>first | rfl | (cases c8<;>first | rfl | (cases c2<;>first | rfl | (cases c3<;>first | rfl | (cases c5<;>first | rfl | (cases c6<;>rfl)))))))
        ·cases b6
         ·rfl
         ·cases c1<;>first | rfl | (cases c4<;>first | rfl | (cases c7<;>first | rfl | (cases c8<;>first | rfl | (cases c2<;>first | rfl | (cases c3<;>first | rfl | (cases c5<;>first | rfl | (cases c6<;>rfl)))))))
    ·cases b3
     ·rfl
     ·cases ua
      ·cases ut
       ·cases c1<;>first | rfl | (cases c4<;>first | rfl | (cases c7<;>first | rfl | (cases c8<;>first | rfl | (cases c2<;>first | rfl | (cases c3<;>first | rfl | (cases c5<;>first | rfl | (cases c6<;>rfl)))))))
       ·cases b6
        ·rfl
        ·cases c1<;>first | rfl | (cases c4<;>first | rfl | (cases c7<;>first | rfl | (cases c8<;>first | rfl | (cases c2<;>first | rfl | (cases c3<;>first | rfl | (cases c5<;>first | rfl | (cases c6<;>rfl)))))))
      ·cases b4
       ·rfl
       ·cases b5
        ·rfl
        ·cases ut
         ·cases c1<;>first | rfl | (cases c4<;>first | rfl | (cases c7<;>first | rfl | (cases c8<;>first | rfl | (cases c2<;>first | rfl | (cases c3<;>first | rfl | (cases c5<;>first | rfl | (cases c6<;>rfl)))))))
         ·cases b6
          ·rfl
          ·cases c1<;>first | rfl | (cases c4<;>first | rfl | (cases c7<;>first | rfl | (cases c8<;>first | rfl | (cases c2<;>first | rfl | (cases c3<;>first | rfl | (cases c5<;>first | rfl | (cases c6<;>rfl)))))))
   ·dsimp only
    generalize inR (p1,p2) 0 1000000000 4=b2
    cases b2
    ·rfl
    ·refine Eq.trans (step1 _ _ _ (by exact rfl)) ?_
     dsimp only
     generalize mM un=b3
     generalize gy art=b4
     generalize gy unit=b5
     generalize pV to=b6
     generalize (art==[])=c1
     generalize (q1==0)=c2
     generalize (q2==0)=c3
     generalize (unit==[])=c4
     generalize (p1==0)=c5
     generalize (p2==0)=c6
     generalize (un != 0)=c7
     generalize (to != 0)=c8
     cases uu
     ·cases ua
      ·cases ut
       ·cases c1<;>first | rfl | (cases c4<;>first | rfl | (cases c7<;>first | rfl | (cases c8<;>first | rfl | (cases c2<;>first | rfl | (cases c3<;>first | rfl | (cases c5<;>first | rfl | (cases c6<;>rfl)))))))
       ·cases b6
        ·rfl
        ·cases c1<;>first | rfl | (cases c4<;>first | rfl | (cases c7<;>first | rfl | (cases c8<;>first | rfl | (cases c2<;>first | rfl | (cases c3<;>first | rfl | (cases c5<;>first | rfl | (cases c6<;>rfl)))))))
      ·cases b4
       ·rfl
       ·cases b5
        ·rfl
        ·cases ut
         ·cases c1<;>first | rfl | (cases c4<;>first | rfl | (cases c7<;>first | rfl | (cases c8<;>first | rfl | (cases c2<;>first | rfl | (cases c3<;>first | rfl | (cases c5<;>first | rfl | (cases c6<;>rfl)))))))
         ·cases b6
          ·rfl
          ·cases c1<;>first | rfl | (cases c4<;>first | rfl | (cases c7<;>first | rfl | (cases c8<;>first | rfl | (cases c2<;>first | rfl | (cases c3<;>first | rfl | (cases c5<;>first | rfl | (cases c6<;>rfl)))))))
     ·cases b3
      ·rfl
      ·cases ua
       ·cases ut
        ·cases c1<;>first | rfl | (cases c4<;>first | rfl | (cases c7<;>first | rfl | (cases c8<;>first | rfl | (cases c2<;>first | rfl | (cases c3<;>first | rfl | (cases c5<;>first | rfl | (cases c6<;>rfl)))))))
        ·cases b6
         ·rfl
         ·cases c1<;>first | rfl | (cases c4<;>first | rfl | (cases c7<;>first | rfl | (cases c8<;>first | rfl | (cases c2<;>first | rfl | (cases c3<;>first | rfl | (cases c5<;>first | rfl | (cases c6<;>rfl)))))))
       ·cases b4
        ·rfl
        ·cases b5
         ·rfl
         ·cases ut
          ·cases c1<;>first | rfl | (cases c4<;>first | rfl | (cases c7<;>first | rfl | (cases c8<;>first | rfl | (cases c2<;>first | rfl | (cases c3<;>first | rfl | (cases c5<;>first | rfl | (cases c6<;>rfl)))))))
          ·cases b6
           ·rfl
           ·cases c1<;>first | rfl | (cases c4<;>first | rfl | (cases c7<;>first | rfl | (cases c8<;>first | rfl | (cases c2<;>first | rfl | (cases c3<;>first | rfl | (cases c5<;>first | rfl | (cases c6<;>rfl)))))))
def bP (d:aa):Int:=
 if ¬(1<=d.1/\d.1<=3652059) then 1
 else if ¬(1<=d.2.1/\d.2.1<=2) then 4
 else if ¬(1<=d.2.2.1/\d.2.2.1<=2000) then 1
 else if ¬(1<=d.2.2.2.1/\d.2.2.2.1<=11) then 4
 else if ¬((d.2.2.2.1=5\/d.2.2.2.1=6\/d.2.2.2.1=7\/d.2.2.2.1=9)↔d.2.1=2) then 4
 else if ¬(1<=d.2.2.2.2.1/\d.2.2.2.2.1<=99999) then 1
 else rL d
theorem RJ (n a b:Int):decide (n<a\/b<n)= !decide (a<=n/\n<=b):=by
 by_cases h1:a<=n<;>by_cases h2:n<=b<;>simp[h1,h2]<;>omega
theorem Cp (d:aa):mP d=some (bP d,()):=by
 unfold mP bP
 simp only[Cb,kH,RJ,Cq,Cr,VJ]
 by_cases h1:1<=d.1/\d.1<=3652059
 ·by_cases h2:1<=d.2.1/\d.2.1<=2
  ·by_cases h3:1<=d.2.2.1/\d.2.2.1<=2000
   ·by_cases h4:1<=d.2.2.2.1/\d.2.2.2.1<=11
    ·by_cases h5:(d.2.2.2.1=5\/d.2.2.2.1=6\/d.2.2.2.1=7\/d.2.2.2.1=9)↔d.2.1=2
     ·have e5:(decide (d.2.2.2.1=5\/d.2.2.2.1=6\/d.2.2.2.1=7\/d.2.2.2.1=9)==(d.2.1==2))=true:=by
       by_cases h6:d.2.1=2
       ·simp[h6,h5.2 h6]
       ·have:¬(d.2.2.2.1=5\/d.2.2.2.1=6\/d.2.2.2.1=7\/d.2.2.2.1=9):=fun h=>h6 (h5.1 h)
        simp[h6,this]
      by_cases h6:1<=d.2.2.2.2.1/\d.2.2.2.2.1<=99999
      ·rw[e5]
       simp only[h1,h2,h3,h4,h5,h6,iff_self,V2,TG,VV,not_true,V5,VQ]
      ·rw[e5]
       simp only[h1,h2,h3,h4,h5,h6,iff_self,V2,V1,TG,TF,VV,VW,not_true,Wb,V5,V8,VQ]
     ·have e5:(decide (d.2.2.2.1=5\/d.2.2.2.1=6\/d.2.2.2.1=7\/d.2.2.2.1=9)==(d.2.1==2))=false:=by
       by_cases h6:d.2.1=2
       ·have:¬(d.2.2.2.1=5\/d.2.2.2.1=6\/d.2.2.2.1=7\/d.2.2.2.1=9):=fun h=>h5 ⟨fun _=>h6,fun _=>h⟩
        simp[h6,this]
       ·have:(d.2.2.2.1=5\/d.2.2.2.1=6\/d.2.2.2.1=7\/d.2.2.2.1=9):=Classical.byContradiction fun h=>h5 ⟨fun h'=>absurd h' h,fun h'=>absurd h' h6⟩
        simp[h6,this]
      rw[e5]
      simp only[h1,h2,h3,h4,h5,V2,TG,TF,VV,VW,not_true,Wb,V5,V8,VQ]
    ·simp only[h1,h2,h3,h4,V2,V1,TG,TF,VV,VW,not_true,Wb,V5,V8,VQ]
   ·simp only[h1,h2,h3,V2,V1,TG,TF,VV,VW,not_true,Wb,V5,V8,VQ]
  ·simp only[h1,h2,V2,V1,TG,TF,VV,VW,not_true,Wb,V5,V8,VQ]
 ·simp only[h1,V1,TF,VW,Wb,V8]
theorem lB {d:aa} (h:bP d=0):(1<=d.1/\d.1<=3652059)/\(1<=d.2.1/\d.2.1<=2)/\(1<=d.2.2.1/\d.2.2.1<=2000)/\(1<=d.2.2.2.1/\d.2.2.2.1<=11)/\ ((d.2.2.2.1=5\/d.2.2.2.1=6\/d.2.2.2.1=7\/d.2.2.2.1=9)↔d.2.1=2)/\(1<=d.2.2.2.2.1/\d.2.2.2.2.1<=99999)/\rL d=0:=by
 unfold bP at h
 split at h
 ·cases h
 ·rename_i h1
  split at h
  ·cases h
  ·rename_i h2
   split at h
   ·cases h
   ·rename_i h3
    split at h
    ·cases h
    ·rename_i h4
     split at h
     ·cases h
     ·rename_i h5
      split at h
      ·cases h
      ·rename_i h6
       exact⟨TK.1 h1,TK.1 h2,TK.1 h3,TK.1 h4,TK.1 h5,TK.1 h6,h⟩
end Go.Md
namespace Go.Md
open Go.Dn
def dCw (a b:aa):Int:=if w64 (a.1 - b.1)≠0 then w64 (a.1 - b.1) else if w64 (a.2.1 - b.2.1)≠0 then w64 (a.2.1 - b.2.1) else w64 (a.2.2.1 - b.2.2.1)
theorem z7 (a b:aa):gV a b=some (dCw a b,()):=by
 unfold gV dCw
 generalize w64 (a.1 - b.1)=x
 generalize w64 (a.2.1 - b.2.1)=y
 generalize w64 (a.2.2.1 - b.2.2.1)=z
 simp only[UH,UL]
 have key:iter (X:=ig) (β:=ic) 8 (3,0,[x,y,z],()) kK=(bif x != 0 then some (Sum.inl (x,())) else bif y != 0 then some (Sum.inl (y,())) else bif z != 0 then some (Sum.inl (z,())) else some (Sum.inr ())):=by kernel_rfl
 show aF (β:=(Int×Unit)) (γ:=Unit) (iter 8 (3,0,[x,y,z],()) kK) _=_
 rw[key]
 by_cases hx:x=0
 ·subst hx
  by_cases hy:y=0
  ·subst hy
   by_cases hz:z=0
   ·subst hz;rfl
   ·have:(z != 0)=true:=by simp[hz]
    rw[this];simp[aF]
  ·have:(y != 0)=true:=by simp[hy]
   rw[this];simp[aF,hy]
 ·have:(x != 0)=true:=by simp[hx]
  rw[this];simp[aF,hx]
def cZ:List aa->Option aa->Int->Int->Int
 | [],_,_,_=>0
 | d::r,p,nb,ns=>
  if bP d≠0 then bP d
  else if (p.any fun q=>decide (0<=dCw q d))=true then 8
  else if d.2.1=1 then (if d.2.2.1≠w64 (nb+1) then 9 else cZ r (some d) d.2.2.1 ns)
  else (if d.2.2.1≠w64 (ns+1) then 9 else cZ r (some d) nb d.2.2.1)
def fS (l:List aa):Int:=if 2000<l.length then 2 else cZ l none 0 0
def eJ {α:Type} (l:List α):Nat->Option α
 | 0=>none
 | i+1=>l[i]?
def dG (a0:List aa) (s:Int×Int×Int) (i:Nat) (y:aa) (k:(Int×Int×Int)->Option ff):Option ff:=
 if bP y≠0 then some (Sum.inl (bP y,()))
 else if ((eJ a0 i).any fun q=>decide (0<=dCw q y))=true then some (Sum.inl (8,()))
 else if y.2.1=1 then (if y.2.2.1≠w64 (s.2.1+1) then some (Sum.inl (9,())) else k (s.1,y.2.2.1,s.2.2))
 else (if y.2.2.1≠w64 (s.2.2+1) then some (Sum.inl (9,())) else k (s.1,s.2.1,y.2.2.1))
theorem kY {a b:Int} (h:a≠b):(a != b)=true:=by simp[h]
theorem jA {a b:Int} (h:a≠b):(a==b)=false:=by simp[h]
theorem vi {α:Type} {l:List α} {i:Nat} {y:α} (h:l[i]? =some y):idx l (i:Int)=some y:=by
 unfold idx
 rw[V7 (Int.natCast_nonneg i)]
 exact h
theorem Fq (a0:List aa) (hl:a0.length<=2000) (s:Int×Int×Int) (i:Nat) (y:aa) (again:gD->Option ff) (hy:a0[i]? =some y): gC (a0,a0,(a0.length:Int),(i:Int),s.1,s.2.1,s.2.2,()) again=dG a0 s i y fun s'=>again (a0,a0,(a0.length:Int),((i+1:Nat):Int),s'.1,s'.2.1,s'.2.2,()):=by
 have hi:i<a0.length:=(Ut.1 hy).1
 unfold gC dG
 dsimp only
 rw[VZ (show (i:Int)<(a0.length:Int) by omega),VW,vi hy,VJ,Cp,VJ]
 dsimp only
 have hw:w64 ((i:Int)+1)=((i+1:Nat):Int):=by rw[az (by omega) (by omega)];omega
 rw[hw]
 by_cases hf:bP y=0
 ·rw[hf,show ((0:Int) != 0)=false from rfl,VV,V6 (by simp)]
  obtain⟨_,hby,_⟩:=lB hf
  have hprev':(bif decide ((i:Int)>0) then Option.bind (idx a0 (w64 ((i:Int) - 1))) fun y4=>Option.bind (gV y4 y) fun r5=>some (decide (r5.1>=0),()) else some (false,()))=some ((eJ a0 i).any fun q=>decide (0<=dCw q y),()):=by
   cases i with
   | zero=>rfl
   | succ j=>
    have hj:j<a0.length:=by omega
    have hq:a0[j]? =some a0[j]:=Ur hj
    have e:w64 (((j+1:Nat):Int) - 1)=(j:Int):=by rw[az (by omega) (by omega)];omega
    rw[VZ (by omega),VW,e,vi hq,VJ,z7,VJ]
    simp only[eJ,hq,Option.any_some]
  rw[hprev',VJ]
  dsimp only
  cases ((eJ a0 i).any fun q=>decide (0<=dCw q y)) with
  | true=>rfl
  | false=>
   rw[VV,V6 (by simp)]
   by_cases h1:y.2.1=1
   ·rw[jA (show y.2.1≠0 by omega),VV,show (y.2.1==1)=true by simp[h1],VW,V7 h1]
    by_cases hn:y.2.2.1=w64 (s.2.1+1)
    ·rw[show (y.2.2.1 != w64 (s.2.1+1))=false by simp[hn],VV,V6 (by simp[hn])]
     rfl
    ·rw[kY hn,VW,V7 hn]
   ·have h2:y.2.1=2:=by omega
    rw[jA (show y.2.1≠0 by omega),VV,jA h1,VV,show (y.2.1==2)=true by simp[h2],VW,V6 h1]
    by_cases hn:y.2.2.1=w64 (s.2.2+1)
    ·rw[show (y.2.2.1 != w64 (s.2.2+1))=false by simp[hn],VV,V6 (by simp[hn])]
     rfl
    ·rw[kY hn,VW,V7 hn]
 ·rw[kY hf,VW,V7 hf]
def KV (f:Int):Option ((Int×Unit) ⊕ Unit):=if f=0 then some (Sum.inr ()) else some (Sum.inl (f,()))
theorem O7 {f:Int} (h:f=0):KV f=some (Sum.inr ()):=V7 h
theorem MV {f:Int} (h:f≠0):KV f=some (Sum.inl (f,())):=V6 h
theorem BM (a0:List aa):∀ (r:List aa) (i:Nat) (s:Int×Int×Int),a0.drop i=r-> ER (dG a0) (fun _=>some (Sum.inr ())) r i s=KV (cZ r (eJ a0 i) s.2.1 s.2.2)
 | [],_,_,_=>by simp[ER,cZ,KV]
 | y::r,i,s,hd=>by
  have hy:a0[i]? =some y:=by
   have:=congrArg (·[0]?) hd
   simpa [Uq] using this
  have hr:a0.drop (i+1)=r:=by
   have:=congrArg List.tail hd
   simpa [Ve] using this
  have hp:eJ a0 (i+1)=some y:=hy
  show dG a0 s i y (fun s'=>ER (dG a0) (fun _=>some (Sum.inr ())) r (i+1) s')=_
  rw[show (fun s'=>ER (dG a0) (fun _=>some (Sum.inr ())) r (i+1) s')=fun s'=>KV (cZ r (eJ a0 (i+1)) s'.2.1 s'.2.2) from funext fun s'=>BM a0 r (i+1) s' hr,hp]
  unfold dG
  by_cases hf:bP y=0
  ·have e0:¬bP y≠0:=fun h=>h hf
   rw[V6 e0]
   by_cases ha:((eJ a0 i).any fun q=>decide (0<=dCw q y))=true
   ·rw[V7 ha,show cZ (y::r) (eJ a0 i) s.2.1 s.2.2=8 by simp only[cZ];rw[V6 e0,V7 ha]]
    rfl
   ·rw[V6 ha]
    by_cases h1:y.2.1=1
    ·rw[V7 h1]
     by_cases hn:y.2.2.1≠w64 (s.2.1+1)
     ·rw[V7 hn,show cZ (y::r) (eJ a0 i) s.2.1 s.2.2=9 by simp only[cZ];rw[V6 e0,V6 ha,V7 h1,V7 hn]]
      rfl
     ·rw[V6 hn,show cZ (y::r) (eJ a0 i) s.2.1 s.2.2=cZ r (some y) y.2.2.1 s.2.2 by rw[cZ,V6 e0,V6 ha,V7 h1,V6 hn]]
    ·rw[V6 h1]
     by_cases hn:y.2.2.1≠w64 (s.2.2+1)
     ·rw[V7 hn,show cZ (y::r) (eJ a0 i) s.2.1 s.2.2=9 by simp only[cZ];rw[V6 e0,V6 ha,V6 h1,V7 hn]]
      rfl
     ·rw[V6 hn,show cZ (y::r) (eJ a0 i) s.2.1 s.2.2=cZ r (some y) s.2.1 y.2.2.1 by rw[cZ,V6 e0,V6 ha,V6 h1,V6 hn]]
  ·rw[V7 hf,show cZ (y::r) (eJ a0 i) s.2.1 s.2.2=bP y by rw[cZ,V7 hf],MV hf]
theorem fe (l:List aa):eH l=some (fS l,()):=by
 unfold eH fS
 by_cases hl:2000<l.length
 ·rw[VZ (show (l.length:Int)>2000 by omega),VW,V7 hl]
 ·rw[VY (show ¬ (l.length:Int)>2000 by omega),VV,V6 hl]
  have:=QE (f:=gC) (fun (s:Int×Int×Int) (i:Nat)=>((l,l,(l.length:Int),(i:Int),s.1,s.2.1,s.2.2,()):gD)) l (dG l) (fun _=>some (Sum.inr ()))
   (fun s i y again hy=>Fq l (by omega) s i y again hy) (fun s again=>by
     unfold gC
     dsimp only
     rw[VY (by omega)];rfl) (0,0,0)
  refine (congrArg (fun z=>aF (β:=(Int×Unit)) (γ:=Unit) z fun _=>some (0,())) (this _ (by omega))).trans ?_
  rw[BM l l 0 (0,0,0) rfl]
  simp only[eJ]
  by_cases h:cZ l none 0 0=0
  ·rw[O7 h,h];rfl
  ·rw[MV h];rfl
theorem vF:∀ {l:List aa} {p:Option aa} {nb ns:Int},cZ l p nb ns=0->∀ d,d∈l->bP d=0
 | [],_,_,_,_,_,h=>by cases h
 | y::r,p,nb,ns,h,d,hd=>by
  simp only[cZ] at h
  by_cases hf:bP y=0
  ·rw[V6 (by simp[hf])] at h
   rcases UX.1 hd with rfl | hd
   ·exact hf
   ·split at h
    ·cases h
    ·split at h
     ·split at h
      ·cases h
      ·exact vF h d hd
     ·split at h
      ·cases h
      ·exact vF h d hd
  ·rw[V7 hf] at h
   exact absurd h hf
theorem sX {l:List aa} (h:fS l=0):l.length<=2000/\∀ d,d∈l->bP d=0:=by
 unfold fS at h
 split at h
 ·cases h
 ·rename_i hl
  exact⟨by omega,vF h⟩
end Go.Md
namespace Go.Md
open Go.Dn
structure iE where
 no:Int
 art:List UInt8
 unit:List UInt8
 ord:Int
 shp:Int
 rcv:Int
 ret:Int
 price:ah
 due:Int
 wish:Int
 ono:Int
 oq:Int
 ount:Int
abbrev iE.tup (x:iE):Kb:=(x.no,x.art,x.unit,x.ord,x.shp,x.rcv,x.ret,x.price,x.due,x.wish,x.ono,x.oq,x.ount)
def iE.opn (x:iE):Int:=if x.ord - x.shp+x.ret>0 then x.ord - x.shp+x.ret else 0
structure LOk (x:iE):Prop where
 ret0:0<=x.ret
 retr:x.ret<=x.rcv
 rcvs:x.rcv<=x.shp
 shp1:x.shp<=1000000000000000
 ord0:0<=x.ord
 ord1:x.ord<=1000000000000
 off:x.ono≠0->0<x.oq/\x.oq+x.shp - x.ret<=x.ord
def O6 (n:Int) (i:Nat):List iE->Option Nat
 | []=>none
 | x::r=>if n=x.no then some i else O6 n (i+1) r
abbrev SN (n:Int) (A:List iE):Option Nat:=O6 n 0 A
end Go.Md
namespace Go.Md
open Go.Dn
abbrev sV (d:aa):=d.2.2.2.1
abbrev SM (d:aa):=d.2.2.2.2.1
abbrev dQ (d:aa):=d.2.2.2.2.2.2.1
abbrev FE (d:aa):=d.2.2.2.2.2.2.2.2.1
abbrev FF (d:aa):=d.2.2.2.2.2.2.2.2.2.1
abbrev dTo (d:aa):=d.2.2.2.2.2.2.2.2.2.2
theorem xd {d:aa} (h:rL d=0):(usQ (sV d)=true->qOk (dQ d) (sV d==2)=true)/\(usP (sV d)=true->inR (FE d) 0 1000000000 4=true)/\(usU (sV d)=true->mM (FF d)=true)/\(usA (sV d)=true->gy d.2.2.2.2.2.1=true/\gy d.2.2.2.2.2.2.2.1=true)/\(usT (sV d)=true->pV (dTo d)=true):=by
 unfold rL CU at h
 show (usQ d.2.2.2.1=true->qOk d.2.2.2.2.2.2.1 (d.2.2.2.1==2)=true)/\(usP d.2.2.2.1=true->inR d.2.2.2.2.2.2.2.2.1 0 1000000000 4=true)/\(usU d.2.2.2.1=true->mM d.2.2.2.2.2.2.2.2.2.1=true)/\(usA d.2.2.2.1=true->gy d.2.2.2.2.2.1=true/\gy d.2.2.2.2.2.2.2.1=true)/\(usT d.2.2.2.1=true->pV d.2.2.2.2.2.2.2.2.2.2=true)
 generalize usA d.2.2.2.1=ua at*
 generalize usQ d.2.2.2.1=uq at*
 generalize usP d.2.2.2.1=up at*
 generalize usU d.2.2.2.1=uu at*
 generalize usT d.2.2.2.1=ut at*
 generalize qOk d.2.2.2.2.2.2.1 (d.2.2.2.1==2)=b1 at*
 generalize inR d.2.2.2.2.2.2.2.2.1 0 1000000000 4=b2 at*
 generalize mM d.2.2.2.2.2.2.2.2.2.1=b3 at*
 generalize gy d.2.2.2.2.2.1=b4 at*
 generalize gy d.2.2.2.2.2.2.2.1=b5 at*
 generalize pV d.2.2.2.2.2.2.2.2.2.2=b6 at*
 cases hq:(uq&& !b1)
 ·rw[hq,VV] at h
  cases hp:(up&& !b2)
  ·rw[hp,VV] at h
   cases hu:(uu&& !b3)
   ·rw[hu,VV] at h
    cases ha:(ua&&(!b4|| !b5))
    ·rw[ha,VV] at h
     cases ht:(ut&& !b6)
     ·refine⟨?_, ?_, ?_, ?_, ?_⟩
      ·revert hq;cases uq<;>cases b1<;>simp
      ·revert hp;cases up<;>cases b2<;>simp
      ·revert hu;cases uu<;>cases b3<;>simp
      ·revert ha;cases ua<;>cases b4<;>cases b5<;>simp
      ·revert ht;cases ut<;>cases b6<;>simp
     ·rw[ht,VW] at h;cases h
    ·rw[ha,VW] at h;cases h
   ·rw[hu,VW] at h;cases h
  ·rw[hp,VW] at h;cases h
 ·rw[hq,VW] at h;cases h
variable {o:xh} {l:List aa} {m:List (Int×Option Nat)} {ref:List ah} {pts:List oy} {wt:Int} {A:List iE} {k:Nat} {x:iE}
structure WOk (l:List aa) (x:iE):Prop where
 low: -1<=x.wish
 kind:0<=x.wish->∃ d,l[x.wish.toNat]? =some d/\sV d<=4
end Go.Md
namespace Go.Md
open Go.Dn
structure Sound (l:List aa) (A:List iE):Prop where
 line:∀ x,x∈A->LOk x/\WOk l x
variable {o:xh} {l:List aa} {ref:List ah} {pts:List oy} {wt:Int} {A:List iE}
end Go.Md
namespace Go.Md
open Go.Dn
variable {o:xh} {l:List aa} {ref:List ah} {pts:List oy} {wt:Int} {A:List iE}
end Go.Md
namespace Go.Md
open Go.Dn
theorem GQ {α:Type} {l:List α} {i:Nat} {y:α} (h:l[i]? =some y):l.take (i+1)=l.take i++[y]:=by
 rw[Vf,h];rfl
def GU (n:Int):ah:=((few 3 n).1,((few 3 n).2:Int))
def Sj (d:ah):ah:=((few d.2.toNat d.1).1,((few d.2.toNat d.1).2:Int))
def SD (x:iE):DT:=(x.no,x.art,x.unit,GU x.ord,Sj x.price,x.due,GU x.shp,GU x.rcv,GU x.ret,GU x.opn)
def S7 (x:iE):Prop:=0<=x.price.1/\x.price.1<=1000000000000000/\0<=x.price.2/\x.price.2<=9
end Go.Md
namespace Go.Md
open Go.Dn
structure Good (l:List aa) (A:List iE):Prop where
 sound:Sound l A
 pr:∀ x,x∈A->S7 x
def SU (n:Int) (A:List iE):Option iE:=(SN n A).bind fun k=>A[k]?
theorem OS {β:Type} {b:Bool} (h:b=true) (x:Option β):chk b x=x:=by rw[h];rfl
end Go.Md
namespace Go.Md
open Go.Dn
theorem Kl:EX=some (true,()):=by kernel_rfl
end Go.Md
namespace Go.Md
open Go.Dn
structure Pts (l:List aa) (wt:Int) (n:Nat) (A:List iE) (pts:List oy):Prop where
 pt:∀ (j:Nat) (p:oy),pts[j]? =some p->0<=p.1/\p.1<n/\(∃ d,idx l p.1=some d/\SM d=wt)/\∀ q,0<j->pts[j - 1]? =some q->q.1<p.1
 last:∀ p,pts.getLast? =some p->∃ x,SU wt A=some x/\p.2=SD x
end Go.Md
namespace Go.Md
open Go.Dn
theorem xV (l:List aa) (hl:l.length<=2000):ij l l=some (true,()):=by
 unfold ij
 rw[show ((l.length:Int) != (l.length:Int))=false by simp,VV]
 have:∀ n,l.length<n->iter (X:=eK) (β:=gm) n (l,l,(l.length:Int),0,()) gk=some (Sum.inr ()):=by
  intro n hn
  refine b9 (Inv:=fun i X=>X=((l,l,(l.length:Int),(i:Int),()):eK)) l.length (fun z=>z=some (Sum.inr ())) ?_ ?_ n 0 _ rfl (VI _) (by omega)
  ·rintro i X again hi rfl hag
   unfold gk
   dsimp only
   obtain⟨y,hy⟩:∃ y,l[i]? =some y:=⟨l[i],Ur hi⟩
   rw[VZ (show (i:Int)<(l.length:Int) by omega),VW,vi hy,VJ,VJ,az (n:=(i:Int)+1) (by omega) (by omega)]
   simp only[VT,Tu,TG,VV]
   exact hag _ rfl
  ·rintro X again rfl
   unfold gk
   dsimp only
   rw[VY (show ¬(l.length:Int)<(l.length:Int) by omega),VV]
 rw[this _ (by omega)]
 rfl
end Go.Md
namespace Go.Md
open Go.Dn
theorem nx (a b c:Int):ld a b c=some (decide (b<=a/\a<=c),()):=by
 unfold ld
 by_cases h:b<=a
 ·rw[aE h];simp[h]
 ·rw[aK h];simp[h]
theorem I6 {a b:ah} (ha:cV a) (hb:cV b):Cz a b=some ((mE a - mE b).sign,()):=Of ha hb
theorem C3:cV ((1000000000,0):ah)/\mE ((1000000000,0):ah)=1000000000*10 ^ 9:=⟨⟨by decide,by decide,by decide⟩,by simp[mE]⟩
theorem MY {d:ah} (hd:cV d) (pl:Int):inR d 0 1000000000 pl=(!decide (d.1<0)&&(!decide ((mE d - 1000000000*10 ^ 9).sign>0)&& !decide (d.2>pl))):=by
 have h1:(mE d - 1000000000*10 ^ 9).sign>0↔¬d.1<=1000000000*10 ^ d.2.toNat:=by
  rw[<- Rr hd.2.1 hd.2.2,gt_iff_lt,Int.sign_pos_iff]
  omega
 unfold inR
 rw[Tw]
 simp only[V0,Tr,TE,decide_eq_false_iff_not]
 rw[h1]
 constructor
 ·rintro⟨_,h2,h3,h4⟩;exact⟨by omega,fun h=>h h4,by omega⟩
 ·rintro⟨h2,h3,h4⟩;exact⟨hd,by omega,by omega,TK.1 h3⟩
theorem MZ {d:ah} (hd:¬cV d) (a b pl:Int):inR d a b pl=false:=VY (fun h=>hd h.1)
theorem Bb (d:ah) (z:Bool):lN d z=some (if qOk d z=true then 0 else 1,()):=by
 unfold lN qOk sI
 simp only[VJ]
 rw[mG,VJ]
 by_cases hd:cV d
 ·rw[V7 hd,MY hd 3,I6 hd C3.1,C3.2]
  generalize decide (d.1<0)=b1
  generalize (mE d - 1000000000*10 ^ 9).sign=sg
  generalize decide (d.2>3)=b3
  generalize (d.1==0)=b4
  simp only[VJ]
  generalize decide (sg>0)=b2
  cases b1<;>cases b4<;>cases z<;>cases b2<;>cases b3<;>rfl
 ·rw[V6 hd,MZ hd]
  rfl
theorem E5 (d:ah):pJ d=some (if inR d 0 1000000000 4=true then 0 else 1,()):=by
 unfold pJ sI
 simp only[VJ]
 rw[mG,VJ]
 by_cases hd:cV d
 ·rw[V7 hd,MY hd 4,I6 hd C3.1,C3.2]
  generalize decide (d.1<0)=b1
  generalize (mE d - 1000000000*10 ^ 9).sign=sg
  generalize decide (d.2>4)=b3
  simp only[VJ]
  generalize decide (sg>0)=b2
  cases b1<;>cases b2<;>cases b3<;>rfl
 ·rw[V6 hd,MZ hd]
  rfl
theorem CB {k:Int} (hk:1<=k/\k<=11):cA k=some ((usQ k,usP k,usU k,usA k,usT k),()):=by
 have:k=1\/k=2\/k=3\/k=4\/k=5\/k=6\/k=7\/k=8\/k=9\/k=10\/k=11:=by omega
 rcases this with rfl | rfl | rfl | rfl | rfl | rfl | rfl | rfl | rfl | rfl | rfl<;>rfl
theorem R9 (a b:Bool):(bif a then some (b,()) else some (false,()))=some (a&&b,()):=by cases a<;>rfl
theorem bOr (a b:Bool):(bif a then some (true,()) else some (b,()))=some (a||b,()):=by cases a<;>rfl
theorem bAO (a b x:Bool):(bif a then some (b||x,()) else some (x,()))=some (a&&b||x,()):=by cases a<;>rfl
theorem S9 (b:Bool):((if b=true then (0:Int) else 1) != 0)= !b:=by cases b<;>rfl
theorem SL {β:Type} (x:Option β):chk true x=x:=rfl
theorem Rn (a b:List UInt8):((a++b)==[])=((a==[])&&(b==[])):=by cases a<;>cases b<;>rfl
theorem DO {d:aa} (hk:1<=d.2.2.2.1/\d.2.2.2.1<=11) (hs:d.2.2.2.2.2.1.length+d.2.2.2.2.2.2.2.1.length<=maxLen):oe d=some (rL d,()):=by
 unfold oe rL CU
 rw[CB hk,VJ]
 simp only[Bb,E5,Ed,Ls,nx,VJ,VZ hs,SL,S9,Rn]
 rw[show decide (1<=d.2.2.2.2.2.2.2.2.2.1/\d.2.2.2.2.2.2.2.2.2.1<=3652059)=mM d.2.2.2.2.2.2.2.2.2.1 from rfl,show decide (1<=d.2.2.2.2.2.2.2.2.2.2/\d.2.2.2.2.2.2.2.2.2.2<=2000)=pV d.2.2.2.2.2.2.2.2.2.2 from rfl]
 generalize usQ d.2.2.2.1=uq
 generalize usP d.2.2.2.1=up
 generalize usU d.2.2.2.1=uu
 generalize usA d.2.2.2.1=ua
 generalize usT d.2.2.2.1=ut
 generalize (d.2.2.2.1==2)=k2
 generalize qOk d.2.2.2.2.2.2.1 k2=q
 generalize inR d.2.2.2.2.2.2.2.2.1 0 1000000000 4=p
 generalize mM d.2.2.2.2.2.2.2.2.2.1=dy
 generalize pV d.2.2.2.2.2.2.2.2.2.2=tt
 generalize gy d.2.2.2.2.2.1=n1
 generalize gy d.2.2.2.2.2.2.2.1=n2
 generalize (d.2.2.2.2.2.1==[])=e1
 generalize (d.2.2.2.2.2.2.2.1==[])=e2
 generalize (d.2.2.2.2.2.2.2.2.2.1 != 0)=un
 generalize (d.2.2.2.2.2.2.2.2.2.2 != 0)=to
 simp only[Tv]
 generalize (d.2.2.2.2.2.2.1.1==0&&d.2.2.2.2.2.2.1.2==0)=q0
 generalize (d.2.2.2.2.2.2.2.2.1.1==0&&d.2.2.2.2.2.2.2.2.1.2==0)=p0
 simp only[R9,bOr,bAO,VJ]
 generalize h1:(uq&& !q)=c1
 cases c1
 ·simp only[VV]
  generalize h2:(up&& !p)=c2
  cases c2
  ·simp only[VV]
   generalize h3:(uu&& !dy)=c3
   cases c3
   ·simp only[VV]
    generalize h4:(ua&&(!n1|| !n2))=c4
    cases c4
    ·simp only[VV]
     generalize h5:(ut&& !tt)=c5
     cases c5
     ·simp only[VV]
      have e:((!uq&& !q0)||((!up&& !p0)||((!uu&&un)||((!ua&& !(e1&&e2))||(!ut&&to)))))=((!ua&& !e1)||((!uq&& !q0)||((!ua&& !e2)||((!up&& !p0)||((!uu&&un)||(!ut&&to)))))):=by
       generalize (!uq&& !q0)=x1
       generalize (!up&& !p0)=x2
       generalize (!uu&&un)=x3
       generalize (!ut&&to)=x4
       cases ua<;>cases e1<;>cases e2<;>cases x1<;>cases x2<;>cases x3<;>cases x4<;>rfl
      rw[e]
      generalize ((!ua&& !e1)||((!uq&& !q0)||((!ua&& !e2)||((!up&& !p0)||((!uu&&un)||(!ut&&to))))))=c6
      cases c6<;>rfl
     ·rfl
    ·rfl
   ·rfl
  ·rfl
 ·rfl
theorem Io (k:Int):tw k=some (decide ((1<=k/\k<=4)\/k=8\/k=10\/k=11),()):=by
 unfold tw
 rw[nx,VJ]
 dsimp only
 by_cases h1:1<=k/\k<=4
 ·rw[VZ h1,VW,VZ (.inl h1)]
 ·rw[VY h1,VV]
  by_cases h2:k=8
  ·subst h2;rfl
  ·rw[jA h2,VV]
   by_cases h3:k=10
   ·subst h3;rfl
   ·rw[jA h3,VV]
    by_cases h4:k=11
    ·subst h4;rfl
    ·rw[jA h4,VY (fun h=>by omega)]
theorem Gp (a b:aa):nu a b=some (dCw a b,()):=by
 unfold nu dCw
 generalize w64 (a.1 - b.1)=x
 generalize w64 (a.2.1 - b.2.1)=y
 generalize w64 (a.2.2.1 - b.2.2.1)=z
 simp only[UH,UL]
 have key:iter (X:=mT) (β:=mS) 8 (3,0,[x,y,z],()) ru=(bif x != 0 then some (Sum.inl (x,())) else bif y != 0 then some (Sum.inl (y,())) else bif z != 0 then some (Sum.inl (z,())) else some (Sum.inr ())):=by kernel_rfl
 show aF (β:=(Int×Unit)) (γ:=Unit) (iter 8 (3,0,[x,y,z],()) ru) _=_
 rw[key]
 by_cases hx:x=0
 ·subst hx
  by_cases hy:y=0
  ·subst hy
   by_cases hz:z=0
   ·subst hz;rfl
   ·have:(z != 0)=true:=by simp[hz]
    rw[this];simp[aF]
  ·have:(y != 0)=true:=by simp[hy]
   rw[this];simp[aF,hy]
 ·have:(x != 0)=true:=by simp[hx]
  rw[this];simp[aF,hx]
def kj (b:Int) (l:List aa):Int:=l.foldl (fun m d=>if d.2.1=b then d.2.2.1 else m) 0
theorem Lv (b:Int) (l:List aa) (hl:l.length<=2000):w5 l b=some (kj b l,()):=by
 unfold w5
 have:∀ n,l.length<n->iter (X:=nv) (β:=rz) n (b,0,l,(l.length:Int),0,()) ry=some (Sum.inr (kj b l,())):=by
  intro n hn
  refine b9 (Inv:=fun i X=>X=((b,kj b (l.take i),l,(l.length:Int),(i:Int),()):nv)) l.length (fun z=>z=some (Sum.inr (kj b l,()))) ?_ ?_ n 0 _ rfl (VI _) (by omega)
  ·rintro i X again hi rfl hag
   unfold ry
   dsimp only
   obtain⟨y,hy⟩:∃ y,l[i]? =some y:=⟨l[i],Ur hi⟩
   rw[VZ (show (i:Int)<(l.length:Int) by omega),VW,vi hy,VJ,az (n:=(i:Int)+1) (by omega) (by omega)]
   have e:kj b (l.take (i+1))=if y.2.1=b then y.2.2.1 else kj b (l.take i):=by
    unfold kj
    rw[GQ hy,Uj];rfl
   by_cases hb:y.2.1=b
   ·rw[show (y.2.1==b)=true by simpa using hb,VW]
    rw[V7 hb] at e
    exact hag _ (by rw[e];rfl)
   ·rw[jA hb,VV]
    rw[V6 hb] at e
    exact hag _ (by rw[e];rfl)
  ·rintro X again rfl
   unfold ry
   dsimp only
   rw[VY (show ¬(l.length:Int)<(l.length:Int) by omega),VV,Vi]
 rw[this _ (by omega)]
 rfl
theorem Qt {a b:aa} (ha:bP a=0) (hb:bP b=0):decide (dCw b a<=0)=decide (0<=dCw a b):=by
 obtain⟨a1,a2,a3,_⟩:=lB ha
 obtain⟨b1,b2,b3,_⟩:=lB hb
 unfold dCw
 rw[az (n:=b.1 - a.1) (by omega) (by omega),az (n:=a.1 - b.1) (by omega) (by omega),az (n:=b.2.1 - a.2.1) (by omega) (by omega),az (n:=a.2.1 - b.2.1) (by omega) (by omega),
  az (n:=b.2.2.1 - a.2.2.1) (by omega) (by omega),az (n:=a.2.2.1 - b.2.2.1) (by omega) (by omega),VX]
 by_cases h1:a.1 - b.1=0
 ·rw[V6 (show ¬(b.1 - a.1≠0) by omega),V6 (show ¬(a.1 - b.1≠0) by omega)]
  by_cases h2:a.2.1 - b.2.1=0
  ·rw[V6 (show ¬(b.2.1 - a.2.1≠0) by omega),V6 (show ¬(a.2.1 - b.2.1≠0) by omega)];omega
  ·rw[V7 (show (b.2.1 - a.2.1≠0) by omega),V7 (show (a.2.1 - b.2.1≠0) by omega)];omega
 ·rw[V7 (show (b.1 - a.1≠0) by omega),V7 (show (a.1 - b.1≠0) by omega)];omega
def Txt (d:aa):Prop:=d.2.2.2.2.2.1.length+d.2.2.2.2.2.2.2.1.length<=maxLen
theorem vX (l:List aa) (hs:∀ d,d∈l->Txt d):pI l=some (fS l,()):=by
 unfold pI fS
 by_cases hlen:2000<l.length
 ·rw[V7 hlen,VZ (show (l.length:Int)>2000 by omega),VW]
 rw[V6 hlen,VY (show ¬(l.length:Int)>2000 by omega),VV]
 have loop:∀ (r:List aa) (i n:Nat),l.drop i=r->i<=l.length->(∀ q,eJ l i=some q->bP q=0)->r.length<n->
  aF (β:=(Int×Unit)) (γ:=Unit) (iter (X:=lM) (β:=lK) n (l,l,(l.length:Int),(i:Int),()) iZ) (fun _=>some (0,()))=some (cZ r (eJ l i) (kj 1 (l.take i)) (kj 2 (l.take i)),()):=by
  intro r
  induction r with
  | nil=>
   intro i n hd hi _ hn
   have:i=l.length:=by
    have:=congrArg List.length hd
    simp at this;omega
   subst this
   obtain⟨n,rfl⟩:∃ m,n=m+1:=⟨n - 1,by omega⟩
   rw[kZ]
   unfold iZ
   dsimp only
   rw[VY (show ¬((l.length:Int)<(l.length:Int)) by omega),VV]
   rfl
  | cons d r ih=>
   intro i n hdr hi hq hn
   have hd:l[i]? =some d:=by
    have:=congrArg (·[0]?) hdr
    simpa [Uq] using this
   have hr':l.drop (i+1)=r:=by
    have:=congrArg List.tail hdr
    simpa [Ve] using this
   have hlt:i<l.length:=(Ut.1 hd).1
   obtain⟨n,rfl⟩:∃ m,n=m+1:=⟨n - 1,by simp at hn;omega⟩
   rw[kZ]
   generalize hag:(fun y=>iter n y iZ)=again
   unfold iZ
   dsimp only
   rw[VZ (show (i:Int)<(l.length:Int) by omega),VW,vi hd,VJ,Ed,VJ]
   simp only[cZ]
   by_cases h1:1<=d.1/\d.1<=3652059
   rotate_left
   ·have e:bP d=1:=by unfold bP;rw[V7 h1]
    rw[VY h1,V7 (show bP d≠0 by omega),e];rfl
   rw[VZ h1,TG,VV]
   have eby:(bif d.2.1 != 1 then some (d.2.1 != 2,()) else some (false,()))=some (!decide (1<=d.2.1/\d.2.1<=2),()):=by
    rw[R9]
    congr 2
    by_cases k1:d.2.1=1
    ·simp[k1]
    ·by_cases k2:d.2.1=2
     ·simp[k2]
     ·rw[kY k1,kY k2,VY (by omega)];rfl
   rw[eby,VJ]
   dsimp only
   by_cases h2:1<=d.2.1/\d.2.1<=2
   rotate_left
   ·have e:bP d=4:=by unfold bP;rw[V6 (show ¬¬_ from fun e=>e h1),V7 h2]
    rw[VY h2,V7 (show bP d≠0 by omega),e];rfl
   rw[VZ h2,TG,VV,nx,VJ]
   dsimp only
   by_cases h3:1<=d.2.2.1/\d.2.2.1<=2000
   rotate_left
   ·have e:bP d=1:=by unfold bP;rw[V6 (show ¬¬_ from fun e=>e h1),V6 (show ¬¬_ from fun e=>e h2),V7 h3]
    rw[VY h3,V7 (show bP d≠0 by omega),e];rfl
   rw[VZ h3,TG,VV,nx,VJ]
   dsimp only
   by_cases h4:1<=d.2.2.2.1/\d.2.2.2.1<=11
   rotate_left
   ·have e:bP d=4:=by unfold bP;rw[V6 (show ¬¬_ from fun e=>e h1),V6 (show ¬¬_ from fun e=>e h2),V6 (show ¬¬_ from fun e=>e h3),V7 h4]
    rw[VY h4,V7 (show bP d≠0 by omega),e];rfl
   rw[VZ h4,TG,VV,Io,VJ]
   dsimp only
   by_cases h5:(d.2.2.2.1=5\/d.2.2.2.1=6\/d.2.2.2.1=7\/d.2.2.2.1=9)↔d.2.1=2
   rotate_left
   ·have e:bP d=4:=by unfold bP;rw[V6 (show ¬¬_ from fun e=>e h1),V6 (show ¬¬_ from fun e=>e h2),V6 (show ¬¬_ from fun e=>e h3),V6 (show ¬¬_ from fun e=>e h4),V7 h5]
    have e2:(decide ((1<=d.2.2.2.1/\d.2.2.2.1<=4)\/d.2.2.2.1=8\/d.2.2.2.1=10\/d.2.2.2.1=11)==(d.2.1==1))=false:=by
     by_cases k:d.2.1=1
     ·rw[k,show ((1:Int)==1)=true from rfl,VY (fun h=>h5 (by omega))];rfl
     ·rw[jA k,VZ (Classical.byContradiction fun h=>h5 (by omega))];rfl
    rw[e2,V7 (show bP d≠0 by omega),e];rfl
   have e5:(decide ((1<=d.2.2.2.1/\d.2.2.2.1<=4)\/d.2.2.2.1=8\/d.2.2.2.1=10\/d.2.2.2.1=11)==(d.2.1==1))=true:=by
    by_cases k:d.2.1=1
    ·rw[k,show ((1:Int)==1)=true from rfl,VZ (by omega)];rfl
    ·rw[jA k,VY (by omega)];rfl
   rw[e5,TG,VV,nx,VJ]
   dsimp only
   by_cases h6:1<=d.2.2.2.2.1/\d.2.2.2.2.1<=99999
   rotate_left
   ·have e:bP d=1:=by unfold bP;rw[V6 (show ¬¬_ from fun e=>e h1),V6 (show ¬¬_ from fun e=>e h2),V6 (show ¬¬_ from fun e=>e h3),V6 (show ¬¬_ from fun e=>e h4),V6 (show ¬¬_ from fun e=>e h5),V7 h6]
    rw[VY h6,V7 (show bP d≠0 by omega),e];rfl
   have ed:bP d=rL d:=by unfold bP;rw[V6 (show ¬¬_ from fun e=>e h1),V6 (show ¬¬_ from fun e=>e h2),V6 (show ¬¬_ from fun e=>e h3),V6 (show ¬¬_ from fun e=>e h4),V6 (show ¬¬_ from fun e=>e h5),V6 (show ¬¬_ from fun e=>e h6)]
   rw[VZ h6,TG,VV,DO h4 (hs d (U3 hd)),VJ, <- ed]
   dsimp only
   by_cases h7:bP d=0
   rotate_left
   ·rw[kY h7,V7 h7];rfl
   rw[h7,show ((0:Int) != 0)=false from rfl,VV,V6 (show ¬(0:Int)≠0 from fun e=>e rfl)]
   have epr:(bif decide ((i:Int)>0) then Option.bind (idx l (w64 ((i:Int) - 1))) fun y10=>Option.bind (nu d y10) fun r11=>some (decide (r11.1<=0),()) else some (false,()))=some ((eJ l i).any fun q=>decide (0<=dCw q d),()):=by
    cases i with
    | zero=>rfl
    | succ i=>
     obtain⟨q,hqq⟩:∃ q,l[i]? =some q:=⟨l[i],Ur (by omega)⟩
     rw[VZ (show ((i+1:Nat):Int)>0 by omega),VW,az (n:=((i+1:Nat):Int) - 1) (by omega) (by omega),show ((i+1:Nat):Int) - 1=(i:Int) by omega,vi hqq,VJ,Gp,VJ]
     show some (decide (dCw d q<=0),())=some ((eJ l (i+1)).any _,())
     rw[show eJ l (i+1)=some q from hqq,Qt (hq q hqq) h7]
     rfl
   rw[epr,VJ]
   dsimp only
   cases h8:((eJ l i).any fun q=>decide (0<=dCw q d))
   rotate_left
   ·rfl
   rw[VV,V6 (show ¬false=true from TA)]
   rw[OS (by simp only[Tr,V0];omega),TV,Uf,Lv _ _ (by simp;omega),VJ]
   dsimp only
   have htk:∀ b,kj b (l.take (i+1))=if d.2.1=b then d.2.2.1 else kj b (l.take i):=by
    intro b
    unfold kj
    rw[GQ hd,Uj];rfl
   have hnext:∀ q,eJ l (i+1)=some q->bP q=0:=by
    intro q hqq
    have:l[i]? =some q:=hqq
    rw[hd] at this;cases this;exact h7
   have ih':=ih (i+1) n hr' (by omega) hnext (by simp at hn;omega)
   rw[show eJ l (i+1)=some d from hd,htk 1,htk 2] at ih'
   rw[az (n:=(i:Int)+1) (by omega) (by omega)]
   have hi1:(i:Int)+1=((i+1:Nat):Int):=by omega
   by_cases k1:d.2.1=1
   ·rw[V7 k1]
    rw[V7 k1,V6 (show ¬d.2.1=2 by omega)] at ih'
    rw[k1]
    by_cases h9:d.2.2.1=w64 (kj 1 (l.take i)+1)
    ·rw[show (d.2.2.1 != w64 (kj 1 (l.take i)+1))=false by simpa using h9,VV,V6 (fun e=>e h9),hi1, <- hag]
     exact ih'
    ·rw[kY h9,V7 h9];rfl
   ·have k2:d.2.1=2:=by omega
    rw[V6 k1]
    rw[V6 k1,V7 k2] at ih'
    rw[k2]
    by_cases h9:d.2.2.1=w64 (kj 2 (l.take i)+1)
    ·rw[show (d.2.2.1 != w64 (kj 2 (l.take i)+1))=false by simpa using h9,VV,V6 (fun e=>e h9),hi1, <- hag]
     exact ih'
    ·rw[kY h9,V7 h9];rfl
 exact loop l 0 _ rfl (VI _) (fun q hq=>by cases hq) (by omega)
end Go.Md
