/-
  Plain facts: deeds and orders checked; what a deed does with a line. No condition.
-/
import Derived.Test.YtilaijcbckgmmabGreatDoorYo
import Derived.Test.YtilaijcbckgmmabGreatDoorYr
set_option linter.all false
namespace Go.Md
open Go.Dn
theorem gE (k:Int):p9 k=some (decide (k=5\/k=6\/k=7\/k=9),()):=by
 unfold p9
 by_cases h5:k=5
 ·subst h5;rfl
 by_cases h6:k=6
 ·subst h6;rfl
 by_cases h7:k=7
 ·subst h7;rfl
 by_cases h9:k=9
 ·subst h9;rfl
 have e5:(k==5)=false:=by simp[h5]
 have e6:(k==6)=false:=by simp[h6]
 have e7:(k==7)=false:=by simp[h7]
 have e9:(k==9)=false:=by simp[h9]
 simp only[e5,e6,e7,e9,aiy]
 simp[h5,h6,h7,h9]
def usA (k:Int):Bool:=decide (k=1)
def usQ (k:Int):Bool:=decide (k≠3/\k≠4/\k≠5/\k≠6/\k≠8)
def usP (k:Int):Bool:=decide (k=1\/k=4)
def usU (k:Int):Bool:=decide (k=1\/k=3\/k=7)
def usT (k:Int):Bool:=decide (k=5\/k=6\/k=8)
theorem Ss (k:Int):Bg k=some ((usA k,usQ k,usA k,usP k,usU k,usT k),()):=by
 unfold Bg
 by_cases h1:k=1
 ·subst h1;rfl
 by_cases h3:k=3
 ·subst h3;rfl
 by_cases h4:k=4
 ·subst h4;rfl
 by_cases h5:k=5
 ·subst h5;rfl
 by_cases h6:k=6
 ·subst h6;rfl
 by_cases h7:k=7
 ·subst h7;rfl
 by_cases h8:k=8
 ·subst h8;rfl
 have e1:(k==1)=false:=by simp[h1]
 have e3:(k==3)=false:=by simp[h3]
 have e4:(k==4)=false:=by simp[h4]
 have e5:(k==5)=false:=by simp[h5]
 have e6:(k==6)=false:=by simp[h6]
 have e8:(k==8)=false:=by simp[h8]
 have e7:(k==7)=false:=by simp[h7]
 simp only[e1,e3,e4,e5,e6,e7,e8,aiy]
 simp[h1,h3,h4,h5,h6,h7,h8,usA,usQ,usP,usU,usT]
def Be (n:Int):Bool:=decide (1<=n/\n<=3652059)
def Ef (n:Int):Bool:=decide (1<=n/\n<=2000)
def S8 (ua uq up uu ut k2:Bool) (art:Bys) (q:ah) (unit:Bys) (p:ah) (un to:Int):Int:=
 bif uq&& !qOk q k2 then 1
 else bif up&& !inR p 0 1000000000 4 then 1
 else bif uu&& !Be un then 1
 else bif ua&&(!bU art|| !bU unit) then 5
 else bif ut&& !Ef to then 1
 else bif (!ua&& !(art==[]))||((!uq&& !(q.1==0&&q.2==0))||((!ua&& !(unit==[]))||((!up&& !(p.1==0&&p.2==0))||((!uu&&un != 0)||(!ut&&to != 0))))) then 3
 else 0
def Fe (d:aa):Int:=
 S8 (usA d.2.2.2.1) (usQ d.2.2.2.1) (usP d.2.2.2.1) (usU d.2.2.2.1) (usT d.2.2.2.1) (d.2.2.2.1==2) d.2.2.2.2.2.1 d.2.2.2.2.2.2.1 d.2.2.2.2.2.2.2.1 d.2.2.2.2.2.2.2.2.1 d.2.2.2.2.2.2.2.2.2.1 d.2.2.2.2.2.2.2.2.2.2
theorem VU (n:Int):iw n=some (Be n,()):=nM n
theorem adg (n:Int):bP n 1 2000=some (!Ef n,()):=by
 rw[eA]
 congr 2
 unfold Ef
 by_cases h1:1<=n<;>by_cases h2:n<=2000<;>simp[h1,h2]<;>omega
theorem NL (d:aa):vj d=some (Fe d,()):=by
 obtain⟨day,byy,no,k,line,art,⟨q1,q2⟩,unit,⟨p1,p2⟩,un,to⟩:=d
 unfold vj Fe
 dsimp only
 rw[Ss,aim]
 dsimp only
 rw[yQ]
 simp only[uQ,VU,mH,adg,aim]
 generalize usA k=ua
 generalize usQ k=uq
 generalize usP k=up
 generalize usU k=uu
 generalize usT k=ut
 generalize (k==2)=k2
 unfold S8
 generalize qOk (q1,q2) k2=b1
 have step1:∀ (A:Option ((Int×Unit) ⊕ (Int×Int×Int×Int×Int×Bys×Int×Int×Bys×Int×Int×Int×Int×Bool×Bool×Bool×Bool×Bool×Bool×Unit))) (v:Int×Int×Int×Int×Int×Bys×Int×Int×Bys×Int×Int×Int×Int×Bool×Bool×Bool×Bool×Bool×Bool×Unit) (K:(Int×Int×Int×Int×Int×Bys×Int×Int×Bys×Int×Int×Int×Int×Bool×Bool×Bool×Bool×Bool×Bool×Unit)->Option (Int×Unit)),
  A=some (.inr v)->aB A K=K v:=fun A v K h=>by rw[h];rfl
 cases uq
 ·refine Eq.trans (step1 _ _ _ (by exact rfl)) ?_
  cases up
  ·refine Eq.trans (step1 _ _ _ (by exact rfl)) ?_
   dsimp only
   generalize Be un=b3
   generalize bU art=b4
   generalize bU unit=b5
   generalize Ef to=b6
   generalize (art==[])=c1
   generalize (q1==0)=c2
   generalize (q2==0)=c3
   generalize (unit==[])=c4
   generalize (p1==0)=c5
   generalize (p2==0)=c6
   generalize (un != 0)=c7
   generalize (to != 0)=c8
   cases uu
   ·cases ua
    ·cases ut
     ·cases c1<;>first | rfl | (cases c4<;>first | rfl | (cases c7<;>first | rfl | (cases c8<;>first | rfl | (cases c2<;>first | rfl | (cases c3<;>first | rfl | (cases c5<;>first | rfl | (cases c6<;>rfl)))))))
     ·cases b6
      ·rfl
      ·cases c1<;>first | rfl | (cases c4<;>first | rfl | (cases c7<;>first | rfl | (cases c8<;>first | rfl | (cases c2<;>first | rfl | (cases c3<;>first | rfl | (cases c5<;>first | rfl | (cases c6<;>rfl)))))))
    ·cases b4
     ·rfl
     ·cases b5
      ·rfl
      ·cases ut
       ·cases c1<;>first | rfl | (cases c4<;>first | rfl | (cases c7<;>first | rfl | (cases c8<;>first | rfl | (cases c2<;>first | rfl | (cases c3<;>first | rfl | (cases c5<;>first | rfl | (cases c6<;>rfl)))))))
       ·cases b6
        ·rfl
        ·cases c1<;>first | rfl | (cases c4<;>first | rfl | (cases c7<;>first | rfl | (cases c8<;>first | rfl | (cases c2<;>first | rfl | (cases c3<;>first | rfl | (cases c5<;>first | rfl | (cases c6<;>rfl)))))))
   ·cases b3
    ·rfl
    ·cases ua
     ·cases ut
      ·cases c1<;>first | rfl | (cases c4<;>first | rfl | (cases c7<;>first | rfl | (cases c8<;>first | rfl | (cases c2<;>first | rfl | (cases c3<;>first | rfl | (cases c5<;>first | rfl | (cases c6<;>rfl)))))))
      ·cases b6
       ·rfl
       ·cases c1<;>first | rfl | (cases c4<;>first | rfl | (cases c7<;>first | rfl | (cases c8<;>first | rfl | (cases c2<;>first | rfl | (cases c3<;>first | rfl | (cases c5<;>first | rfl | (cases c6<;>rfl)))))))
     ·cases b4
      ·rfl
      ·cases b5
       ·rfl
       ·cases ut
        ·cases c1<;>first | rfl | (cases c4<;>first | rfl | (cases c7<;>first | rfl | (cases c8<;>first | rfl | (cases c2<;>first | rfl | (cases c3<;>first | rfl | (cases c5<;>first | rfl | (cases c6<;>rfl)))))))
        ·cases b6
         ·rfl
         ·cases c1<;>first | rfl | (cases c4<;>first | rfl | (cases c7<;>first | rfl | (cases c8<;>first | rfl | (cases c2<;>first | rfl | (cases c3<;>first | rfl | (cases c5<;>first | rfl | (cases c6<;>rfl)))))))
  ·dsimp only
   generalize inR (p1,p2) 0 1000000000 4=b2
   cases b2
   ·rfl
   ·refine Eq.trans (step1 _ _ _ (by exact rfl)) ?_
    dsimp only
    generalize Be un=b3
    generalize bU art=b4
    generalize bU unit=b5
    generalize Ef to=b6
    generalize (art==[])=c1
    generalize (q1==0)=c2
    generalize (q2==0)=c3
    generalize (unit==[])=c4
    generalize (p1==0)=c5
    generalize (p2==0)=c6
    generalize (un != 0)=c7
    generalize (to != 0)=c8
    cases uu
    ·cases ua
     ·cases ut
      ·cases c1<;>first | rfl | (cases c4<;>first | rfl | (cases c7<;>first | rfl | (cases c8<;>first | rfl | (cases c2<;>first | rfl | (cases c3<;>first | rfl | (cases c5<;>first | rfl | (cases c6<;>rfl)))))))
      ·cases b6
       ·rfl
       ·cases c1<;>first | rfl | (cases c4<;>first | rfl | (cases c7<;>first | rfl | (cases c8<;>first | rfl | (cases c2<;>first | rfl | (cases c3<;>first | rfl | (cases c5<;>first | rfl | (cases c6<;>rfl)))))))
     ·cases b4
      ·rfl
      ·cases b5
       ·rfl
       ·cases ut
        ·cases c1<;>first | rfl | (cases c4<;>first | rfl | (cases c7<;>first | rfl | (cases c8<;>first | rfl | (cases c2<;>first | rfl | (cases c3<;>first | rfl | (cases c5<;>first | rfl | (cases c6<;>rfl)))))))
        ·cases b6
         ·rfl
         ·cases c1<;>first | rfl | (cases c4<;>first | rfl | (cases c7<;>first | rfl | (cases c8<;>first | rfl | (cases c2<;>first | rfl | (cases c3<;>first | rfl | (cases c5<;>first | rfl | (cases c6<;>rfl)))))))
    ·cases b3
     ·rfl
     ·cases ua
      ·cases ut
       ·cases c1<;>first | rfl | (cases c4<;>first | rfl | (cases c7<;>first | rfl | (cases c8<;>first | rfl | (cases c2<;>first | rfl | (cases c3<;>first | rfl | (cases c5<;>first | rfl | (cases c6<;>rfl)))))))
       ·cases b6
        ·rfl
        ·cases c1<;>first | rfl | (cases c4<;>first | rfl | (cases c7<;>first | rfl | (cases c8<;>first | rfl | (cases c2<;>first | rfl | (cases c3<;>first | rfl | (cases c5<;>first | rfl | (cases c6<;>rfl)))))))
      ·cases b4
       ·rfl
       ·cases b5
        ·rfl
        ·cases ut
         ·cases c1<;>first | rfl | (cases c4<;>first | rfl | (cases c7<;>first | rfl | (cases c8<;>first | rfl | (cases c2<;>first | rfl | (cases c3<;>first | rfl | (cases c5<;>first | rfl | (cases c6<;>rfl)))))))
         ·cases b6
          ·rfl
          ·cases c1<;>first | rfl | (cases c4<;>first | rfl | (cases c7<;>first | rfl | (cases c8<;>first | rfl | (cases c2<;>first | rfl | (cases c3<;>first | rfl | (cases c5<;>first | rfl | (cases c6<;>rfl)))))))
 ·cases b1
  ·rfl
  ·refine Eq.trans (step1 _ _ _ (by exact rfl)) ?_
   cases up
   ·refine Eq.trans (step1 _ _ _ (by exact rfl)) ?_
    dsimp only
    generalize Be un=b3
    generalize bU art=b4
    generalize bU unit=b5
    generalize Ef to=b6
    generalize (art==[])=c1
    generalize (q1==0)=c2
    generalize (q2==0)=c3
    generalize (unit==[])=c4
    generalize (p1==0)=c5
    generalize (p2==0)=c6
    generalize (un != 0)=c7
    generalize (to != 0)=c8
    cases uu
    ·cases ua
     ·cases ut
      ·cases c1<;>first | rfl | (cases c4<;>first | rfl | (cases c7<;>first | rfl | (cases c8<;>first | rfl | (cases c2<;>first | rfl | (cases c3<;>first | rfl | (cases c5<;>first | rfl | (cases c6<;>rfl)))))))
      ·cases b6
       ·rfl
       ·cases c1<;>first | rfl | (cases c4<;>first | rfl | (cases c7<;>first | rfl | (cases c8<;>first | rfl | (cases c2<;>first | rfl | (cases c3<;>first | rfl | (cases c5<;>first | rfl | (cases c6<;>rfl)))))))
     ·cases b4
      ·rfl
      ·cases b5
       ·rfl
       ·cases ut
        ·cases c1<;>first | rfl | (cases c4<;>first | rfl | (cases c7<;>first | rfl | (cases c8<;>first | rfl | (cases c2<;>first | rfl | (cases c3<;>first | rfl | (cases c5<;>first | rfl | (cases c6<;>rfl)))))))
        ·cases b6
         ·rfl
         ·cases c1<;>first | rfl | (cases c4<;>first | rfl | (cases c7<;>first | rfl | (cases c8<;>first | rfl | (cases c2<;>first | rfl | (cases c3<;>first | rfl | (cases c5<;>first | rfl | (cases c6<;>rfl)))))))
    ·cases b3
     ·rfl
     ·cases ua
      ·cases ut
       ·cases c1<;>first | rfl | (cases c4<;>first | rfl | (cases c7<;>first | rfl | (cases c8<;>first | rfl | (cases c2<;>first | rfl | (cases c3<;>first | rfl | (cases c5<;>first | rfl | (cases c6<;>rfl)))))))
       ·cases b6
        ·rfl
        ·cases c1<;>first | rfl | (cases c4<;>first | rfl | (cases c7<;>first | rfl | (cases c8<;>first | rfl | (cases c2<;>first | rfl | (cases c3<;>first | rfl | (cases c5<;>first | rfl | (cases c6<;>rfl)))))))
      ·cases b4
       ·rfl
       ·cases b5
        ·rfl
        ·cases ut
         ·cases c1<;>first | rfl | (cases c4<;>first | rfl | (cases c7<;>first | rfl | (cases c8<;>first | rfl | (cases c2<;>first | rfl | (cases c3<;>first | rfl | (cases c5<;>first | rfl | (cases c6<;>rfl)))))))
         ·cases b6
          ·rfl
          ·cases c1<;>first | rfl | (cases c4<;>first | rfl | (cases c7<;>first | rfl | (cases c8<;>first | rfl | (cases c2<;>first | rfl | (cases c3<;>first | rfl | (cases c5<;>first | rfl | (cases c6<;>rfl)))))))
   ·dsimp only
    generalize inR (p1,p2) 0 1000000000 4=b2
    cases b2
    ·rfl
    ·refine Eq.trans (step1 _ _ _ (by exact rfl)) ?_
     dsimp only
     generalize Be un=b3
     generalize bU art=b4
     generalize bU unit=b5
     generalize Ef to=b6
     generalize (art==[])=c1
     generalize (q1==0)=c2
     generalize (q2==0)=c3
     generalize (unit==[])=c4
     generalize (p1==0)=c5
     generalize (p2==0)=c6
     generalize (un != 0)=c7
     generalize (to != 0)=c8
     cases uu
     ·cases ua
      ·cases ut
       ·cases c1<;>first | rfl | (cases c4<;>first | rfl | (cases c7<;>first | rfl | (cases c8<;>first | rfl | (cases c2<;>first | rfl | (cases c3<;>first | rfl | (cases c5<;>first | rfl | (cases c6<;>rfl)))))))
       ·cases b6
        ·rfl
        ·cases c1<;>first | rfl | (cases c4<;>first | rfl | (cases c7<;>first | rfl | (cases c8<;>first | rfl | (cases c2<;>first | rfl | (cases c3<;>first | rfl | (cases c5<;>first | rfl | (cases c6<;>rfl)))))))
      ·cases b4
       ·rfl
       ·cases b5
        ·rfl
        ·cases ut
         ·cases c1<;>first | rfl | (cases c4<;>first | rfl | (cases c7<;>first | rfl | (cases c8<;>first | rfl | (cases c2<;>first | rfl | (cases c3<;>first | rfl | (cases c5<;>first | rfl | (cases c6<;>rfl)))))))
         ·cases b6
          ·rfl
          ·cases c1<;>first | rfl | (cases c4<;>first | rfl | (cases c7<;>first | rfl | (cases c8<;>first | rfl | (cases c2<;>first | rfl | (cases c3<;>first | rfl | (cases c5<;>first | rfl | (cases c6<;>rfl)))))))
     ·cases b3
      ·rfl
      ·cases ua
       ·cases ut
        ·cases c1<;>first | rfl | (cases c4<;>first | rfl | (cases c7<;>first | rfl | (cases c8<;>first | rfl | (cases c2<;>first | rfl | (cases c3<;>first | rfl | (cases c5<;>first | rfl | (cases c6<;>rfl)))))))
        ·cases b6
         ·rfl
         ·cases c1<;>first | rfl | (cases c4<;>first | rfl | (cases c7<;>first | rfl | (cases c8<;>first | rfl | (cases c2<;>first | rfl | (cases c3<;>first | rfl | (cases c5<;>first | rfl | (cases c6<;>rfl)))))))
       ·cases b4
        ·rfl
        ·cases b5
         ·rfl
         ·cases ut
          ·cases c1<;>first | rfl | (cases c4<;>first | rfl | (cases c7<;>first | rfl | (cases c8<;>first | rfl | (cases c2<;>first | rfl | (cases c3<;>first | rfl | (cases c5<;>first | rfl | (cases c6<;>rfl)))))))
          ·cases b6
           ·rfl
           ·cases c1<;>first | rfl | (cases c4<;>first | rfl | (cases c7<;>first | rfl | (cases c8<;>first | rfl | (cases c2<;>first | rfl | (cases c3<;>first | rfl | (cases c5<;>first | rfl | (cases c6<;>rfl)))))))
def bH (d:aa):Int:=
 if ¬(1<=d.1/\d.1<=3652059) then 1
 else if ¬(1<=d.2.1/\d.2.1<=2) then 4
 else if ¬(1<=d.2.2.1/\d.2.2.1<=2000) then 1
 else if ¬(1<=d.2.2.2.1/\d.2.2.2.1<=11) then 4
 else if ¬((d.2.2.2.1=5\/d.2.2.2.1=6\/d.2.2.2.1=7\/d.2.2.2.1=9)↔d.2.1=2) then 4
 else if ¬(1<=d.2.2.2.2.1/\d.2.2.2.2.1<=99999) then 1
 else Fe d
theorem Ub (n a b:Int):decide (n<a\/b<n)= !decide (a<=n/\n<=b):=by
 by_cases h1:a<=n<;>by_cases h2:n<=b<;>simp[h1,h2]<;>omega
theorem NJ (d:aa):vh d=some (bH d,()):=by
 unfold vh bH
 simp only[nM,eA,Ub,gE,NL,aim]
 by_cases h1:1<=d.1/\d.1<=3652059
 ·by_cases h2:1<=d.2.1/\d.2.1<=2
  ·by_cases h3:1<=d.2.2.1/\d.2.2.1<=2000
   ·by_cases h4:1<=d.2.2.2.1/\d.2.2.2.1<=11
    ·by_cases h5:(d.2.2.2.1=5\/d.2.2.2.1=6\/d.2.2.2.1=7\/d.2.2.2.1=9)↔d.2.1=2
     ·have e5:(decide (d.2.2.2.1=5\/d.2.2.2.1=6\/d.2.2.2.1=7\/d.2.2.2.1=9)==(d.2.1==2))=true:=by
       by_cases h6:d.2.1=2
       ·simp[h6,h5.2 h6]
       ·have:¬(d.2.2.2.1=5\/d.2.2.2.1=6\/d.2.2.2.1=7\/d.2.2.2.1=9):=fun h=>h6 (h5.1 h)
        simp[h6,this]
      by_cases h6:1<=d.2.2.2.2.1/\d.2.2.2.2.1<=99999
      ·rw[e5]
       simp only[h1,h2,h3,h4,h5,h6,iff_self,aiG,af2,aiy,not_true,aiK,aiu]
      ·rw[e5]
       simp only[h1,h2,h3,h4,h5,h6,iff_self,aiG,aiF,af2,af1,aiy,aiz,not_true,aiQ,aiK,aiN,aiu]
     ·have e5:(decide (d.2.2.2.1=5\/d.2.2.2.1=6\/d.2.2.2.1=7\/d.2.2.2.1=9)==(d.2.1==2))=false:=by
       by_cases h6:d.2.1=2
       ·have:¬(d.2.2.2.1=5\/d.2.2.2.1=6\/d.2.2.2.1=7\/d.2.2.2.1=9):=fun h=>h5 ⟨fun _=>h6,fun _=>h⟩
        simp[h6,this]
       ·have:(d.2.2.2.1=5\/d.2.2.2.1=6\/d.2.2.2.1=7\/d.2.2.2.1=9):=Classical.byContradiction fun h=>h5 ⟨fun h'=>absurd h' h,fun h'=>absurd h' h6⟩
        simp[h6,this]
      rw[e5]
      simp only[h1,h2,h3,h4,h5,aiG,af2,af1,aiy,aiz,not_true,aiQ,aiK,aiN,aiu]
    ·simp only[h1,h2,h3,h4,aiG,aiF,af2,af1,aiy,aiz,not_true,aiQ,aiK,aiN,aiu]
   ·simp only[h1,h2,h3,aiG,aiF,af2,af1,aiy,aiz,not_true,aiQ,aiK,aiN,aiu]
  ·simp only[h1,h2,aiG,aiF,af2,af1,aiy,aiz,not_true,aiQ,aiK,aiN,aiu]
 ·simp only[h1,aiF,af1,aiz,aiQ,aiN]
theorem bW {d:aa} (h:bH d=0):(1<=d.1/\d.1<=3652059)/\(1<=d.2.1/\d.2.1<=2)/\(1<=d.2.2.1/\d.2.2.1<=2000)/\(1<=d.2.2.2.1/\d.2.2.2.1<=11)/\ ((d.2.2.2.1=5\/d.2.2.2.1=6\/d.2.2.2.1=7\/d.2.2.2.1=9)↔d.2.1=2)/\(1<=d.2.2.2.2.1/\d.2.2.2.2.1<=99999)/\Fe d=0:=by
 unfold bH at h
 split at h
 ·cases h
 ·rename_i h1
  split at h
  ·cases h
  ·rename_i h2
   split at h
   ·cases h
   ·rename_i h3
    split at h
    ·cases h
    ·rename_i h4
     split at h
     ·cases h
     ·rename_i h5
      split at h
      ·cases h
      ·rename_i h6
       exact⟨af7.1 h1,af7.1 h2,af7.1 h3,af7.1 h4,af7.1 h5,af7.1 h6,h⟩
end Go.Md
namespace Go.Md
open Go.Dn
def dCw (a b:aa):Int:=if w64 (a.1 - b.1)≠0 then w64 (a.1 - b.1) else if w64 (a.2.1 - b.2.1)≠0 then w64 (a.2.1 - b.2.1) else w64 (a.2.2.1 - b.2.2.1)
theorem KX (a b:aa):lM a b=some (dCw a b,()):=by
 unfold lM dCw
 generalize w64 (a.1 - b.1)=x
 generalize w64 (a.2.1 - b.2.1)=y
 generalize w64 (a.2.2.1 - b.2.2.1)=z
 simp only[ag8,ahb]
 have key:iter (X:=mg) (β:=me) 8 (3,0,[x,y,z],()) rP=(bif x != 0 then some (Sum.inl (x,())) else bif y != 0 then some (Sum.inl (y,())) else bif z != 0 then some (Sum.inl (z,())) else some (Sum.inr ())):=by kernel_rfl
 show aB (β:=(Int×Unit)) (γ:=Unit) (iter 8 (3,0,[x,y,z],()) rP) _=_
 rw[key]
 by_cases hx:x=0
 ·subst hx
  by_cases hy:y=0
  ·subst hy
   by_cases hz:z=0
   ·subst hz;rfl
   ·have:(z != 0)=true:=by simp[hz]
    rw[this];simp[aB]
  ·have:(y != 0)=true:=by simp[hy]
   rw[this];simp[aB,hy]
 ·have:(x != 0)=true:=by simp[hx]
  rw[this];simp[aB,hx]
def dI:List aa->Option aa->Int->Int->Int
 | [],_,_,_=>0
 | d::r,p,nb,ns=>
  if bH d≠0 then bH d
  else if (p.any fun q=>decide (0<=dCw q d))=true then 8
  else if d.2.1=1 then (if d.2.2.1≠w64 (nb+1) then 9 else dI r (some d) d.2.2.1 ns)
  else (if d.2.2.1≠w64 (ns+1) then 9 else dI r (some d) nb d.2.2.1)
def lG (l:List aa):Int:=if 2000<l.length then 2 else dI l none 0 0
def bL {α:Type} (l:List α):Nat->Option α
 | 0=>none
 | i+1=>l[i]?
def dG (a0:List aa) (s:Int×Int×Int) (i:Nat) (y:aa) (k:(Int×Int×Int)->Option iD):Option iD:=
 if bH y≠0 then some (Sum.inl (bH y,()))
 else if ((bL a0 i).any fun q=>decide (0<=dCw q y))=true then some (Sum.inl (8,()))
 else if y.2.1=1 then (if y.2.2.1≠w64 (s.2.1+1) then some (Sum.inl (9,())) else k (s.1,y.2.2.1,s.2.2))
 else (if y.2.2.1≠w64 (s.2.2+1) then some (Sum.inl (9,())) else k (s.1,s.2.1,y.2.2.1))
theorem bR {a b:Int} (h:a≠b):(a != b)=true:=by simp[h]
theorem cY {a b:Int} (h:a≠b):(a==b)=false:=by simp[h]
theorem cF {α:Type} {l:List α} {i:Nat} {y:α} (h:l[i]? =some y):idx l (i:Int)=some y:=by
 unfold idx
 rw[aiM (agj i)]
 exact h
theorem Rm (a0:List aa) (hl:a0.length<=2000) (s:Int×Int×Int) (i:Nat) (y:aa) (again:kI->Option iD) (hy:a0[i]? =some y): kH (a0,a0,(a0.length:Int),(i:Int),s.1,s.2.1,s.2.2,()) again=dG a0 s i y fun s'=>again (a0,a0,(a0.length:Int),((i+1:Nat):Int),s'.1,s'.2.1,s'.2.2,()):=by
 have hi:i<a0.length:=(agW.1 hy).1
 unfold kH dG
 dsimp only
 rw[aiD (show (i:Int)<(a0.length:Int) by omega),aiz,cF hy,aim,NJ,aim]
 dsimp only
 have hw:w64 ((i:Int)+1)=((i+1:Nat):Int):=by rw[ax (by omega) (by omega)];omega
 rw[hw]
 by_cases hf:bH y=0
 ·rw[hf,zne,aiy,aiL (by simp)]
  obtain⟨_,hby,_⟩:=bW hf
  have hprev':(bif decide ((i:Int)>0) then Option.bind (idx a0 (w64 ((i:Int) - 1))) fun y4=>Option.bind (lM y4 y) fun r5=>some (decide (r5.1>=0),()) else some (false,()))=some ((bL a0 i).any fun q=>decide (0<=dCw q y),()):=by
   cases i with
   | zero=>rfl
   | succ j=>
    have hj:j<a0.length:=by omega
    have hq:a0[j]? =some a0[j]:=agU hj
    have e:w64 (((j+1:Nat):Int) - 1)=(j:Int):=by rw[ax (by omega) (by omega)];omega
    rw[aiD (by omega),aiz,e,cF hq,aim,KX,aim]
    simp only[bL,hq,Option.any_some]
  rw[hprev',aim]
  dsimp only
  cases ((bL a0 i).any fun q=>decide (0<=dCw q y)) with
  | true=>rfl
  | false=>
   rw[aiy,aiL (by simp)]
   by_cases h1:y.2.1=1
   ·rw[cY (show y.2.1≠0 by omega),aiy,show (y.2.1==1)=true by simp[h1],aiz,aiM h1]
    by_cases hn:y.2.2.1=w64 (s.2.1+1)
    ·rw[show (y.2.2.1 != w64 (s.2.1+1))=false by simp[hn],aiy,aiL (by simp[hn])]
     rfl
    ·rw[bR hn,aiz,aiM hn]
   ·have h2:y.2.1=2:=by omega
    rw[cY (show y.2.1≠0 by omega),aiy,cY h1,aiy,show (y.2.1==2)=true by simp[h2],aiz,aiL h1]
    by_cases hn:y.2.2.1=w64 (s.2.2+1)
    ·rw[show (y.2.2.1 != w64 (s.2.2+1))=false by simp[hn],aiy,aiL (by simp[hn])]
     rfl
    ·rw[bR hn,aiz,aiM hn]
 ·rw[bR hf,aiz,aiM hf]
def QD (f:Int):Option ((Int×Unit) ⊕ Unit):=if f=0 then some (Sum.inr ()) else some (Sum.inl (f,()))
theorem Ni {f:Int} (h:f=0):QD f=some (Sum.inr ()):=aiM h
theorem Jz {f:Int} (h:f≠0):QD f=some (Sum.inl (f,())):=aiL h
theorem MU (a0:List aa):∀ (r:List aa) (i:Nat) (s:Int×Int×Int),a0.drop i=r-> Gd (dG a0) (fun _=>some (Sum.inr ())) r i s=QD (dI r (bL a0 i) s.2.1 s.2.2)
 | [],_,_,_=>by simp[Gd,dI,QD]
 | y::r,i,s,hd=>by
  have hy:a0[i]? =some y:=by
   have:=congrArg (·[0]?) hd
   simpa [agT] using this
  have hr:a0.drop (i+1)=r:=by
   have:=congrArg List.tail hd
   simpa [ahG] using this
  have hp:bL a0 (i+1)=some y:=hy
  show dG a0 s i y (fun s'=>Gd (dG a0) (fun _=>some (Sum.inr ())) r (i+1) s')=_
  rw[show (fun s'=>Gd (dG a0) (fun _=>some (Sum.inr ())) r (i+1) s')=fun s'=>QD (dI r (bL a0 (i+1)) s'.2.1 s'.2.2) from funext fun s'=>MU a0 r (i+1) s' hr,hp]
  unfold dG
  by_cases hf:bH y=0
  ·have e0:¬bH y≠0:=fun h=>h hf
   rw[aiL e0]
   by_cases ha:((bL a0 i).any fun q=>decide (0<=dCw q y))=true
   ·rw[aiM ha,show dI (y::r) (bL a0 i) s.2.1 s.2.2=8 by simp only[dI];rw[aiL e0,aiM ha]]
    rfl
   ·rw[aiL ha]
    by_cases h1:y.2.1=1
    ·rw[aiM h1]
     by_cases hn:y.2.2.1≠w64 (s.2.1+1)
     ·rw[aiM hn,show dI (y::r) (bL a0 i) s.2.1 s.2.2=9 by simp only[dI];rw[aiL e0,aiL ha,aiM h1,aiM hn]]
      rfl
     ·rw[aiL hn,show dI (y::r) (bL a0 i) s.2.1 s.2.2=dI r (some y) y.2.2.1 s.2.2 by rw[dI,aiL e0,aiL ha,aiM h1,aiL hn]]
    ·rw[aiL h1]
     by_cases hn:y.2.2.1≠w64 (s.2.2+1)
     ·rw[aiM hn,show dI (y::r) (bL a0 i) s.2.1 s.2.2=9 by simp only[dI];rw[aiL e0,aiL ha,aiL h1,aiM hn]]
      rfl
     ·rw[aiL hn,show dI (y::r) (bL a0 i) s.2.1 s.2.2=dI r (some y) s.2.1 y.2.2.1 by rw[dI,aiL e0,aiL ha,aiL h1,aiL hn]]
  ·rw[aiM hf,show dI (y::r) (bL a0 i) s.2.1 s.2.2=bH y by rw[dI,aiM hf],Jz hf]
theorem uP (l:List aa):kQ l=some (lG l,()):=by
 unfold kQ lG
 by_cases hl:2000<l.length
 ·rw[aiD (show (l.length:Int)>2000 by omega),aiz,aiM hl]
 ·rw[aiB (show ¬ (l.length:Int)>2000 by omega),aiy,aiL hl]
  have:=KM (f:=kH) (fun (s:Int×Int×Int) (i:Nat)=>((l,l,(l.length:Int),(i:Int),s.1,s.2.1,s.2.2,()):kI)) l (dG l) (fun _=>some (Sum.inr ()))
   (fun s i y again hy=>Rm l (by omega) s i y again hy) (fun s again=>by
     unfold kH
     dsimp only
     rw[aiB (by omega)];rfl) (0,0,0)
  refine (congrArg (fun z=>aB (β:=(Int×Unit)) (γ:=Unit) z fun _=>some (0,())) (this _ (by omega))).trans ?_
  rw[MU l l 0 (0,0,0) rfl]
  simp only[bL]
  by_cases h:dI l none 0 0=0
  ·rw[Ni h,h];rfl
  ·rw[Jz h];rfl
theorem FQ:∀ {l:List aa} {p:Option aa} {nb ns:Int},dI l p nb ns=0->∀ d,d∈l->bH d=0
 | [],_,_,_,_,_,h=>by cases h
 | y::r,p,nb,ns,h,d,hd=>by
  simp only[dI] at h
  by_cases hf:bH y=0
  ·rw[aiL (by simp[hf])] at h
   rcases ahn.1 hd with rfl | hd
   ·exact hf
   ·split at h
    ·cases h
    ·split at h
     ·split at h
      ·cases h
      ·exact FQ h d hd
     ·split at h
      ·cases h
      ·exact FQ h d hd
  ·rw[aiM hf] at h
   exact absurd h hf
theorem CN {l:List aa} (h:lG l=0):l.length<=2000/\∀ d,d∈l->bH d=0:=by
 unfold lG at h
 split at h
 ·cases h
 ·rename_i hl
  exact⟨by omega,FQ h⟩
abbrev Gp (o:aj):=o.1
abbrev Gn (o:aj):=o.2.1
abbrev KV (o:aj):=o.2.2.1
abbrev dw (o:aj):=o.2.2.2.1
abbrev cm (o:aj):=o.2.2.2.2.1
abbrev iW (o:aj):=o.2.2.2.2.2
def dz (day:Int) (p:Option aF) (x:aF):Int:=
 if ¬(1<=x.1/\x.1<=99999) then 1
 else if (p.any fun q=>decide (x.1<=q.1))=true then 8
 else if bU x.2.1=false then 5
 else if qOk x.2.2.1 false=false then 1
 else if bU x.2.2.2.1=false then 5
 else if inR x.2.2.2.2.1 0 1000000000 4=false then 1
 else if ¬(day<=x.2.2.2.2.2/\x.2.2.2.2.2<=3652059) then 1
 else 0
def jI (day:Int):List aF->Option aF->Int
 | [],_=>0
 | x::r,p=>if dz day p x≠0 then dz day p x else jI day r (some x)
def jt (o:aj):Int:=
 if bU (Gp o)=false\/bU (Gn o)=false\/bU (KV o)=false then 5
 else if Gn o=KV o then 12
 else if ¬(1<=dw o/\dw o<=3652059) then 1
 else if ¬(0<=cm o/\cm o<=1000) then 1
 else if iW o=[] then 9
 else if 500<(iW o).length then 2
 else jI (dw o) (iW o) none
theorem afk (b:Bool):((if b=true then (0:Int) else 1) != 0)= !b:=by cases b<;>rfl
theorem NK (o:aj) (i:Nat) (x:aF) (hi:(iW o)[i]? =some x) (hl:(iW o).length<=500):vi o (i:Int)=some (dz (dw o) (bL (iW o) i) x,()):=by
 have hlt:i<(iW o).length:=(agW.1 hi).1
 unfold vi
 rw[cF hi,aim]
 simp only[eA,Ub,mH,yQ,uQ,aim,afk]
 have tail:∀ (p:Option aF) (hp:(p.any fun q=>decide (x.1<=q.1))=false) (h1:1<=x.1/\x.1<=99999),
  (bif !bU x.2.1 then some (5,()) else bif !qOk x.2.2.1 false then some ((if qOk x.2.2.1 false=true then 0 else 1),()) else bif !bU x.2.2.2.1 then some (5,()) else
    bif !inR x.2.2.2.2.1 0 1000000000 4 then some ((if inR x.2.2.2.2.1 0 1000000000 4=true then 0 else 1),()) else bif !decide (dw o<=x.2.2.2.2.2/\x.2.2.2.2.2<=3652059) then some (1,()) else some (0,()))=some (dz (dw o) p x,()):=fun p hp h1=>by
  unfold dz
  rw[aiL (show ¬¬(1<=x.1/\x.1<=99999) from fun h=>h h1),aiL (show ¬(p.any fun q=>decide (x.1<=q.1))=true by rw[hp];exact afW)]
  cases bU x.2.1
  ·rfl
  ·cases qOk x.2.2.1 false
   ·rfl
   ·cases bU x.2.2.2.1
    ·rfl
    ·cases inR x.2.2.2.2.1 0 1000000000 4
     ·rfl
     ·by_cases hd:dw o<=x.2.2.2.2.2/\x.2.2.2.2.2<=3652059
      ·simp[hd]
      ·simp[hd]
 by_cases h1:1<=x.1/\x.1<=99999
 ·rw[aiD h1,af2,aiy]
  cases i with
  | zero=>
   rw[aiB (show ¬((0:Nat):Int)>0 by omega),aiy]
   exact tail none rfl h1
  | succ j=>
   have hq:(iW o)[j]? =some (iW o)[j]:=agU (by omega)
   have e:w64 (((j+1:Nat):Int) - 1)=(j:Int):=by rw[ax (by omega) (by omega)];omega
   rw[aiD (show ((j+1:Nat):Int)>0 by omega),aiz,e,cF hq,aim]
   simp only[bL,hq]
   by_cases h2:x.1<=(iW o)[j].1
   ·rw[aiD h2,aim]
    have:dz (dw o) (some (iW o)[j]) x=8:=by
     unfold dz
     rw[aiL (show ¬¬(1<=x.1/\x.1<=99999) from fun h=>h h1),aiM (show (Option.any (fun q=>decide (x.1<=q.1)) (some (iW o)[j]))=true from aiD h2)]
    rw[this]
    rfl
   ·rw[aiB h2,aim]
    exact tail (some (iW o)[j]) (by simp[h2]) h1
 ·rw[aiB h1,af1,aiz]
  unfold dz
  rw[aiM h1]
theorem Eh (a0:List aF) (day:Int):∀ (r:List aF) (i:Nat) (s:Unit),a0.drop i=r-> Gd (fun (_:Unit) i y k=>if dz day (bL a0 i) y≠0 then some (Sum.inl (dz day (bL a0 i) y,())) else k ()) (fun _=>(some (Sum.inr ()):Option nq)) r i s=QD (jI day r (bL a0 i))
 | [],_,_,_=>by simp[Gd,jI,QD]
 | y::r,i,s,hd=>by
  have hy:a0[i]? =some y:=by
   have:=congrArg (·[0]?) hd
   simpa [agT] using this
  have hr:a0.drop (i+1)=r:=by
   have:=congrArg List.tail hd
   simpa [ahG] using this
  have hp:bL a0 (i+1)=some y:=hy
  have ih:=Eh a0 day r (i+1) () hr
  rw[hp] at ih
  by_cases hf:dz day (bL a0 i) y=0
  ·have e0:¬dz day (bL a0 i) y≠0:=fun h=>h hf
   rw[show jI day (y::r) (bL a0 i)=jI day r (some y) by rw[jI,aiL e0], <- ih]
   show (if dz day (bL a0 i) y≠0 then _ else _)=_
   rw[aiL e0]
  ·rw[show jI day (y::r) (bL a0 i)=dz day (bL a0 i) y by rw[jI,aiM hf],Jz hf]
   show (if dz day (bL a0 i) y≠0 then _ else _)=_
   rw[aiM hf]
theorem oJ (o:aj):iX o=some (jt o,()):=by
 unfold iX jt
 simp only[mH,nM,eA,Ub,aim]
 cases h1:bU o.1
 ·simp[Gp,h1]
 cases h2:bU o.2.1
 ·simp[Gp,Gn,h1,h2]
 cases h3:bU o.2.2.1
 ·simp[Gp,Gn,KV,h1,h2,h3]
 rw[aiL (by simp[Gp,Gn,KV,h1,h2,h3])]
 simp only[af2,aiy]
 by_cases h4:o.2.1=o.2.2.1
 ·rw[aiM h4,show (o.2.1==o.2.2.1)=true by simp[h4],aiz]
 rw[aiL h4,show (o.2.1==o.2.2.1)=false by simp[h4],aiy]
 by_cases h5:1<=o.2.2.2.1/\o.2.2.2.1<=3652059
 ·rw[aiL (by simp[dw,h5]),aiD h5,af2,aiy]
  by_cases h6:0<=o.2.2.2.2.1/\o.2.2.2.2.1<=1000
  ·rw[aiL (by simp[cm,h6]),aiD h6,af2,aiy]
   by_cases h7:o.2.2.2.2.2=[]
   ·rw[aiM h7,h7];rfl
   ·have h7':o.2.2.2.2.2.length≠0:=fun e=>h7 (agI e)
    rw[aiL h7,cY (show (o.2.2.2.2.2.length:Int)≠0 by omega),aiy]
    by_cases h8:500<o.2.2.2.2.2.length
    ·rw[aiM h8,aiD (by omega),aiz]
    ·rw[aiL h8,aiB (by omega),aiy]
     have:=KM (f:=nk) (fun (_:Unit) (i:Nat)=>(((o.2.2.2.2.2.length:Int),(i:Int),o.1,o.2.1,o.2.2.1,o.2.2.2.1,o.2.2.2.2.1,o.2.2.2.2.2,()):nr)) o.2.2.2.2.2
      (fun (_:Unit) i y k=>if dz (dw o) (bL o.2.2.2.2.2 i) y≠0 then some (Sum.inl (dz (dw o) (bL o.2.2.2.2.2 i) y,())) else k ()) (fun _=>some (Sum.inr ()))
      (fun s i y again hy=>by
        have hlt:i<o.2.2.2.2.2.length:=(agW.1 hy).1
        unfold nk
        dsimp only
        rw[aiD (by omega),aiz]
        have:=NK o i y hy (by show o.2.2.2.2.2.length<=500;omega)
        rw[show ((o.1,o.2.1,o.2.2.1,o.2.2.2.1,o.2.2.2.2.1,o.2.2.2.2.2):aj)=o from rfl,this,aim]
        dsimp only
        by_cases hf:dz (dw o) (bL o.2.2.2.2.2 i) y=0
        ·rw[aiL (by simp[hf]),show (dz (dw o) (bL (iW o) i) y != 0)=false by simp[hf],aiy,ax (by omega) (by omega)]
         rfl
        ·rw[aiM hf,show (dz (dw o) (bL (iW o) i) y != 0)=true by simp[hf],aiz]) (fun s again=>by
        unfold nk
        dsimp only
        rw[aiB (show ¬((o.2.2.2.2.2.length:Int)<(o.2.2.2.2.2.length:Int)) by omega)];rfl) ()
     refine (congrArg (fun z=>aB (β:=(Int×Unit)) (γ:=Unit) z fun _=>some (0,())) (this _ (by omega))).trans ?_
     rw[Eh o.2.2.2.2.2 (dw o) o.2.2.2.2.2 0 () rfl]
     simp only[bL]
     by_cases h:jI (dw o) o.2.2.2.2.2 none=0
     ·rw[Ni h,h];rfl
     ·rw[Jz h];rfl
  ·rw[aiM h6,aiB h6];rfl
 ·rw[aiM h5,aiB h5];rfl
theorem Gr (o:aj) (l:List aa):tQ o l=some (if jt o≠0 then jt o else lG l,()):=by
 unfold tQ
 rw[oJ,aim,uP]
 dsimp only
 by_cases h:jt o=0
 ·rw[h];rfl
 ·rw[bR h,aiz,aiM h]
end Go.Md
namespace Go.Md
open Go.Dn
def aW (d:ah):Int:=d.1*10 ^ (3 - d.2).toNat
theorem DG {d:ah} {z:Bool} (h:qOk d z=true):(0<=d.2/\d.2<=3)/\0<=d.1/\d.1<=1000000000*10 ^ d.2.toNat/\(z=false->d.1≠0):=by
 unfold qOk inR at h
 simp only[afP,aiE,af4,af0,aiv] at h
 obtain⟨⟨h1,h2,h3,h4⟩,h5⟩:=h
 exact⟨⟨h1.2.1,h2⟩,by omega,h4,fun hz=>by rcases h5 with h5 | h5;exact h5;rw[hz] at h5;cases h5⟩
theorem lV {d:ah} {z:Bool} (h:qOk d z=true):0<=aW d/\aW d<=1000000000000/\(z=false->0<aW d):=by
 obtain⟨⟨h1,h2⟩,h3,h4,h5⟩:=DG h
 unfold aW
 obtain⟨k,hk⟩:∃ k:Nat,d.2=k:=⟨d.2.toNat,by omega⟩
 rw[hk] at h1 h2 h4 ⊢
 have:k=0\/k=1\/k=2\/k=3:=by omega
 rcases this with rfl | rfl | rfl | rfl<;>simp at h4 ⊢ <;>refine⟨by omega,by omega,fun hz=> ?_⟩<;>have:=h5 hz<;>omega
theorem nF {d:ah} {z:Bool} (h:qOk d z=true):iI d=some (aW d,()):=by
 obtain⟨⟨h1,h2⟩,h3,h4,_⟩:=DG h
 obtain⟨u1,u2,_⟩:=lV h
 unfold iI
 rw[ax (n:=3 - d.2) (by omega) (by omega),Cl (3 - d.2) (by omega) (by omega),aim]
 show some (w64 (aW d),())=_
 rw[ax (by omega) (by omega)]
structure ak where
 no:Int
 art:Bys
 unit:Bys
 ord:Int
 shp:Int
 rcv:Int
 ret:Int
 price:ah
 due:Int
 wish:Int
 ono:Int
 oq:Int
 ount:Int
abbrev ak.tup (x:ak):bf:=(x.no,x.art,x.unit,x.ord,x.shp,x.rcv,x.ret,x.price,x.due,x.wish,x.ono,x.oq,x.ount)
def ak.opn (x:ak):Int:=if x.ord - x.shp+x.ret>0 then x.ord - x.shp+x.ret else 0
structure LOk (x:ak):Prop where
 ret0:0<=x.ret
 retr:x.ret<=x.rcv
 rcvs:x.rcv<=x.shp
 shp1:x.shp<=1000000000000000
 uO:0<=x.ord
 ord1:x.ord<=1000000000000
 off:x.ono≠0->0<x.oq/\x.oq+x.shp - x.ret<=x.ord
def sW (i:Nat):List ak->List (Int×Option Nat)
 | []=>[]
 | x::r=>(x.no,some i)::sW (i+1) r
abbrev mapOf (A:List ak):List (Int×Option Nat):=sW 0 A
def cw (n:Int) (i:Nat):List ak->Option Nat
 | []=>none
 | x::r=>if n=x.no then some i else cw n (i+1) r
abbrev eF (n:Int) (A:List ak):Option Nat:=cw n 0 A
theorem abI (n:Int):Gg n n=true:=by simp[Gg]
theorem Zf {n a:Int} (h:n≠a):Gg n a=false:=by simp[Gg,h]
theorem iV (n:Int):∀ (A:List ak) (i:Nat),Option.getD (α:=Option Nat) (bV (k:=tI) (v:= .hnd) (sW i A) n) none=cw n i A
 | [],i=>rfl
 | x::r,i=>by
  have e:= @Aw tI .hnd (x.no,some i) (sW (i+1) r) n
  refine (congrArg (fun z:Option (Option Nat)=>Option.getD z none) e).trans ?_
  have ih:=iV n r (i+1)
  by_cases h:n=x.no
  ·subst h
   show Option.getD (α:=Option Nat) (bif Gg x.no x.no then some (some i) else _) none=_
   rw[abI]
   simp only[cw,aiM]
   rfl
  ·show Option.getD (α:=Option Nat) (bif Gg n x.no then some (some i) else _) none=_
   rw[Zf h]
   simp only[cw,aiL h]
   exact ih
theorem QJ (n:Int) (y:ak) (hy:y.no=n):∀ (A:List ak) (i:Nat),cw n i A=none->jG (k:=tI) (v:= .hnd) (sW i A) n (some (i+A.length))=sW i (A++[y])
 | [],i,_=>by subst hy;rfl
 | x::r,i,h=>by
  simp only[cw] at h
  by_cases hx:n=x.no
  ·rw[aiM hx] at h;cases h
  ·rw[aiL hx] at h
   have ih:=QJ n y hy r (i+1) h
   have e:i+(x::r).length=i+1+r.length:=by simp only[ag8];omega
   rw[e]
   show (bif Gg n x.no then _ else (x.no,some i)::jG (k:=tI) (v:= .hnd) (sW (i+1) r) n (some (i+1+r.length)))=_
   rw[Zf hx]
   exact congrArg (fun z=>(x.no,some i)::z) ih
theorem Dx:∀ (A:List ak) (i:Nat),(sW i A).length=A.length
 | [],_=>rfl
 | x::r,i=>by simp[sW,Dx r]
theorem abY {k:Nat} {y:ak}:∀ (A:List ak) (i:Nat),(∀ x,A[k]? =some x->y.no=x.no)->sW i (A.set k y)=sW i A:=by
 intro A
 induction A generalizing k with
 | nil=>intro i _;rfl
 | cons x r ih=>
  intro i h
  cases k with
  | zero=>simp only[List.set_cons_zero,sW];rw[h x rfl]
  | succ k=>simp only[List.set_cons_succ,sW];rw[ih (i+1) (fun z hz=>h z (by simpa using hz))]
theorem Pw {n:Int}:∀ {A:List ak} {i k:Nat},cw n i A=some k->i<=k/\∃ x,A[k - i]? =some x/\x.no=n
 | [],_,_,h=>by cases h
 | x::r,i,k,h=>by
  simp only[cw] at h
  by_cases hx:n=x.no
  ·rw[aiM hx] at h;cases h;exact⟨ahY _,x,by simp,hx.symm⟩
  ·rw[aiL hx] at h
   obtain⟨h1,y,h2,h3⟩:=Pw h
   refine⟨by omega,y, ?_,h3⟩
   rw[show k - i=k - (i+1)+1 by omega,agR];exact h2
theorem xw {n:Int} {A:List ak} {k:Nat} (h:eF n A=some k):∃ x,A[k]? =some x/\x.no=n:=(Pw h).2
theorem KE {n:Int} {k:Nat} {y:ak}:∀ (A:List ak) (i:Nat),(∀ x,A[k]? =some x->y.no=x.no)->cw n i (A.set k y)=cw n i A:=by
 intro A
 induction A generalizing k with
 | nil=>intro i _;rfl
 | cons x r ih=>
  intro i h
  cases k with
  | zero=>simp only[List.set_cons_zero,cw];rw[h x rfl]
  | succ k=>simp only[List.set_cons_succ,cw];rw[ih (i+1) (fun z hz=>h z (by simpa using hz))]
theorem EU {n:Int} {y:ak}:∀ (A:List ak) (i:Nat),cw n i (A++[y])=(cw n i A).or (if n=y.no then some (i+A.length) else none)
 | [],i=>by simp[cw]
 | x::r,i=>by
  simp only[agA,cw,ag8]
  by_cases h:n=x.no
  ·simp[h]
  ·rw[aiL h,aiL h,EU r (i+1),show i+(r.length+1)=i+1+r.length by omega]
theorem sk {A:List ak} {k:Nat} {x:ak} (h:A[k]? =some x):(A.map ak.tup)[k]? =some x.tup:=by rw[agX,h];rfl
theorem ZQ (A:List ak) (k:Nat) (y:ak):(A.map ak.tup).set k y.tup=(A.set k y).map ak.tup:=by rw[List.map_set]
theorem Om {A:List ak} {k:Nat} {x:ak} (h:A[k]? =some x) (y:ak):(A.set k y)[k]? =some y:=by
 have:=(agW.1 h).1
 simp[ag0,this]
theorem DA {A:List ak} {k:Nat} {x:ak} (h:A[k]? =some x) (hx:LOk x):mq (some k) (A.map ak.tup)=some (x.opn,()):=by
 unfold mq
 have ht:=sk h
 simp only[aim,ht]
 have:=hx.ret0;have:=hx.retr;have:=hx.rcvs;have:=hx.shp1;have:=hx.uO;have:=hx.ord1
 rw[ax (n:=x.ord - x.shp) (by omega) (by omega),ax (n:=x.ord - x.shp+x.ret) (by omega) (by omega)]
 rfl
end Go.Md
namespace Go.Md
open Go.Dn
abbrev dNo (d:aa):=d.2.2.1
abbrev aM (d:aa):=d.2.2.2.1
abbrev dx (d:aa):=d.2.2.2.2.1
abbrev dQ (d:aa):=d.2.2.2.2.2.2.1
abbrev Jn (d:aa):=d.2.2.2.2.2.2.2.2.1
abbrev gU (d:aa):=d.2.2.2.2.2.2.2.2.2.1
abbrev dTo (d:aa):=d.2.2.2.2.2.2.2.2.2.2
theorem dM {d:aa} (h:Fe d=0):(usQ (aM d)=true->qOk (dQ d) (aM d==2)=true)/\(usP (aM d)=true->inR (Jn d) 0 1000000000 4=true)/\(usU (aM d)=true->Be (gU d)=true)/\(usA (aM d)=true->bU d.2.2.2.2.2.1=true/\bU d.2.2.2.2.2.2.2.1=true)/\(usT (aM d)=true->Ef (dTo d)=true):=by
 unfold Fe S8 at h
 show (usQ d.2.2.2.1=true->qOk d.2.2.2.2.2.2.1 (d.2.2.2.1==2)=true)/\(usP d.2.2.2.1=true->inR d.2.2.2.2.2.2.2.2.1 0 1000000000 4=true)/\(usU d.2.2.2.1=true->Be d.2.2.2.2.2.2.2.2.2.1=true)/\(usA d.2.2.2.1=true->bU d.2.2.2.2.2.1=true/\bU d.2.2.2.2.2.2.2.1=true)/\(usT d.2.2.2.1=true->Ef d.2.2.2.2.2.2.2.2.2.2=true)
 generalize usA d.2.2.2.1=ua at*
 generalize usQ d.2.2.2.1=uq at*
 generalize usP d.2.2.2.1=up at*
 generalize usU d.2.2.2.1=uu at*
 generalize usT d.2.2.2.1=ut at*
 generalize qOk d.2.2.2.2.2.2.1 (d.2.2.2.1==2)=b1 at*
 generalize inR d.2.2.2.2.2.2.2.2.1 0 1000000000 4=b2 at*
 generalize Be d.2.2.2.2.2.2.2.2.2.1=b3 at*
 generalize bU d.2.2.2.2.2.1=b4 at*
 generalize bU d.2.2.2.2.2.2.2.1=b5 at*
 generalize Ef d.2.2.2.2.2.2.2.2.2.2=b6 at*
 cases hq:(uq&& !b1)
 ·rw[hq,aiy] at h
  cases hp:(up&& !b2)
  ·rw[hp,aiy] at h
   cases hu:(uu&& !b3)
   ·rw[hu,aiy] at h
    cases ha:(ua&&(!b4|| !b5))
    ·rw[ha,aiy] at h
     cases ht:(ut&& !b6)
     ·refine⟨?_, ?_, ?_, ?_, ?_⟩
      ·revert hq;cases uq<;>cases b1<;>simp
      ·revert hp;cases up<;>cases b2<;>simp
      ·revert hu;cases uu<;>cases b3<;>simp
      ·revert ha;cases ua<;>cases b4<;>cases b5<;>simp
      ·revert ht;cases ut<;>cases b6<;>simp
     ·rw[ht,aiz] at h;cases h
    ·rw[ha,aiz] at h;cases h
   ·rw[hu,aiz] at h;cases h
  ·rw[hp,aiz] at h;cases h
 ·rw[hq,aiz] at h;cases h
def vC (day:Int) (i:Int) (d:aa) (x:ak):Int×ak:=
 if aM d=3/\gU d<day then (1,x) else if 0<=x.wish then (11,x) else (0,{ x with wish:=i })
def oC (l:List aa) (x:ak):aa:=l.getD x.wish.toNat (0,0,0,0,0,[],(0,0),[],(0,0),0,0)
def b8 (l:List aa) (d:aa) (x:ak):Int×ak:=
 if x.wish<0 then (5,x)
 else if dNo (oC l x)≠dTo d then (5,x)
 else if aM d=5 then
  (if aM (oC l x)=2 then (if aW (dQ (oC l x))<x.shp - x.ret then (12,x) else (0,{ x with ord:=aW (dQ (oC l x)),wish:= -1 }))
  else if aM (oC l x)=1 then (0,{ x with ord:=aW (dQ (oC l x)),wish:= -1 })
  else if aM (oC l x)=3 then (0,{ x with due:=gU (oC l x),wish:= -1 })
  else (0,{ x with price:=Jn (oC l x),wish:= -1 }))
 else (0,{ x with wish:= -1 })
def mI (day:Int) (d:aa) (x:ak):Int:=
 if gU d<day then 1 else if 0<=x.wish\/x.opn=0 then 11 else if x.opn<aW (dQ d) then 12 else 0
def Fb (d:aa) (x:ak):Int×ak:=
 if 0<=x.wish then (11,x) else if x.ono=0\/x.ono≠dTo d then (5,x) else (0,{ x with ord:=x.shp - x.ret+x.oq,due:=x.ount,ono:=0,oq:=0,ount:=0 })
def cL (ext:Int) (d:aa) (x:ak):Int×ak:=
 if aM d=9 then
  (if x.ord+x.ord*ext / 1000<x.shp - x.ret+aW (dQ d) then (12,x)
  else if 1000000000000000<x.shp+aW (dQ d) then (16,x)
  else (0,{ x with shp:=x.shp+aW (dQ d) }))
 else if aM d=10 then (if x.shp<x.rcv+aW (dQ d) then (12,x) else (0,{ x with rcv:=x.rcv+aW (dQ d) }))
 else (if x.rcv<x.ret+aW (dQ d) then (12,x) else (0,{ x with ret:=x.ret+aW (dQ d) }))
theorem jO {A:List ak} {k:Nat} {x:ak} (h:A[k]? =some x):A.set k x=A:=by
 obtain⟨h1,h2⟩:=agW.1 h
 rw[<- h2];exact List.set_getElem_self h1
theorem oy {A:List ak} {k:Nat} (y:ak) (T:bf) (hT:T=y.tup):List.set (A.map ak.tup) k T=(A.set k y).map ak.tup:=by rw[hT,ZQ]
theorem Ge {A:List ak} {k:Nat} {x:ak} (h:A[k]? =some x) (T:bf):(List.set (A.map ak.tup) k T)[k]? =some T:=by
 have:=(agW.1 h).1
 rw[ag2 (by simpa using this)]
variable {o:aj} {l:List aa} {m:List (Int×Option Nat)} {ref:List ah} {pts:List aL} {wt:Int} {A:List ak} {k:Nat} {x:ak}
theorem qH (h:A[k]? =some x) {i:Nat} {d:aa} (hd:l[i]? =some d): oM (o,l,m,ref,pts,wt,()) (some k) (i:Int) (A.map ak.tup)=some ((vC (dw o) i d x).1,(o,l,m,ref,pts,wt,()),(A.set k (vC (dw o) i d x).2).map ak.tup,()):=by
 unfold oM vC
 dsimp only
 rw[cF hd,aim]
 have hv:(bif d.2.2.2.1==3 then some (decide (d.2.2.2.2.2.2.2.2.2.1<o.2.2.2.1),()) else some (false,()))=some (decide (aM d=3/\gU d<dw o),()):=by
  by_cases h3:d.2.2.2.1=3
  ·rw[show (d.2.2.2.1==3)=true by simp[h3],aiz]
   simp[aM,h3]
  ·rw[show (d.2.2.2.1==3)=false by simp[h3],aiy]
   simp[aM,h3]
 rw[hv,aim]
 dsimp only
 by_cases h1:aM d=3/\gU d<dw o
 ·rw[aiD h1,aiz,aiM h1,jO h]
 ·rw[aiB h1,aiy,aiL h1]
  simp only[aim,sk h]
  by_cases h2:0<=x.wish
  ·rw[aiM h2,aiD (show x.wish>=0 from h2),aiz,jO h]
  ·rw[aiL h2,aiB (show ¬x.wish>=0 from h2),aiy,oy { x with wish:=(i:Int) } _ rfl]
structure WOk (l:List aa) (x:ak):Prop where
 low: -1<=x.wish
 kind:0<=x.wish->∃ d,l[x.wish.toNat]? =some d/\aM d<=4
theorem uI {d:aa} (hw:l[x.wish.toNat]? =some d):oC l x=d:=by
 unfold oC
 rw[agN,hw];rfl
theorem KJ {d:aa} (h0:0<=x.wish) (hw:l[x.wish.toNat]? =some d):idx l x.wish=some d:=by
 unfold idx;rw[aiM h0];exact hw
theorem wh (h:A[k]? =some x) (hx:LOk x) (hw:WOk l x) (hl:∀ d,d∈l->bH d=0) (d:aa): mh (o,l,m,ref,pts,wt,()) (some k) d (A.map ak.tup)=some ((b8 l d x).1,(o,l,m,ref,pts,wt,()),(A.set k (b8 l d x).2).map ak.tup,()):=by
 unfold mh b8
 simp only[aim,sk h]
 by_cases h1:x.wish<0
 ·rw[aiM h1,aiD h1,aiz,jO h]
 ·rw[aiL h1,aiB h1,aiy]
  obtain⟨w,hw1,hw2⟩:=hw.kind (by omega)
  rw[KJ (by omega) hw1,uI hw1]
  simp only[aim]
  have hwf:=hl w (ahu hw1)
  obtain⟨_,_,_,hk,_,_,hu⟩:=bW hwf
  obtain⟨uq,_⟩:=dM hu
  have b0:=hx.ret0;have b1:=hx.retr;have b2:=hx.rcvs;have b3:=hx.shp1
  by_cases h2:dNo w=dTo d
  ·rw[aiL (fun e=>e h2),show (w.2.2.1 != d.2.2.2.2.2.2.2.2.2.2)=false by simpa using h2,aiy]
   by_cases h3:aM d=5
   ·rw[aiM h3,show (d.2.2.2.1==5)=true by simpa using h3,aiz]
    by_cases k2:aM w=2
    ·have hq:=uq (by rw[k2];rfl)
     rw[aiM k2,show (w.2.2.2.1==2)=true by simpa using k2,aiz]
     simp only[nF hq,aim,Ge h,ahE]
     rw[ax (n:=x.shp - x.ret) (by omega) (by omega)]
     by_cases h4:aW (dQ w)<x.shp - x.ret
     ·rw[aiM h4,aiD h4,aiz,jO h]
     ·rw[aiL h4,aiB h4,aiy,oy { x with ord:=aW (dQ w),wish:= -1 } _ rfl]
    ·rw[aiL k2,show (w.2.2.2.1==2)=false by simpa using k2,aiy]
     by_cases k1:aM w=1
     ·have hq:=uq (by rw[k1];rfl)
      rw[aiM k1,show (w.2.2.2.1==1)=true by simpa using k1,aiz]
      simp only[nF hq,aim,Ge h,ahE]
      rw[oy { x with ord:=aW (dQ w),wish:= -1 } _ rfl]
     ·rw[aiL k1,show (w.2.2.2.1==1)=false by simpa using k1,aiy]
      by_cases k3:aM w=3
      ·rw[aiM k3,show (w.2.2.2.1==3)=true by simpa using k3,aiz]
       simp only[aim,Ge h,ahE]
       rw[oy { x with due:=gU w,wish:= -1 } _ rfl]
      ·rw[aiL k3,show (w.2.2.2.1==3)=false by simpa using k3,aiy]
       simp only[aim,Ge h,ahE]
       rw[oy { x with price:=Jn w,wish:= -1 } _ rfl]
   ·rw[aiL h3,show (d.2.2.2.1==5)=false by simpa using h3,aiy,oy { x with wish:= -1 } _ rfl]
  ·rw[aiM h2,show (w.2.2.1 != d.2.2.2.2.2.2.2.2.2.2)=true by simpa using h2,aiz,jO h]
theorem E3 (h:A[k]? =some x) (hx:LOk x) {d:aa} {z:Bool} (hq:qOk (dQ d) z=true): lC (o,l,m,ref,pts,wt,()) (some k) d (A.map ak.tup)=some (mI (dw o) d x,(o,l,m,ref,pts,wt,()),A.map ak.tup,()):=by
 unfold lC mI
 simp only[aim,sk h,DA h hx,nF hq]
 by_cases h1:gU d<dw o
 ·rw[aiM h1,aiD h1,aiz]
 ·rw[aiL h1,aiB h1,aiy]
  by_cases h2:0<=x.wish
  ·rw[aiM (.inl h2),aiD (show x.wish>=0 from h2),aiz]
  ·rw[aiB (show ¬x.wish>=0 from h2),aiy]
   by_cases h3:x.opn=0
   ·rw[aiM (.inr h3),show (x.opn==0)=true by simp[h3],aiz]
   ·rw[aiL (fun e=>e.elim h2 h3),show (x.opn==0)=false by simp[h3],aiy]
    by_cases h4:x.opn<aW (dQ d)
    ·rw[aiM h4,aiD (show aW (dQ d)>x.opn from h4),aiz]
    ·rw[aiL h4,aiB (show ¬aW (dQ d)>x.opn from h4),aiy]
theorem II (h:A[k]? =some x) (hx:LOk x) (d:aa): oL (o,l,m,ref,pts,wt,()) (some k) d (A.map ak.tup)=some ((Fb d x).1,(o,l,m,ref,pts,wt,()),(A.set k (Fb d x).2).map ak.tup,()):=by
 unfold oL Fb
 simp only[aim,sk h,Ge h,ahE]
 have b0:=hx.ret0;have b1:=hx.retr;have b2:=hx.rcvs;have b3:=hx.shp1;have b4:=hx.uO;have b5:=hx.ord1
 by_cases h1:0<=x.wish
 ·rw[aiM h1,aiD (show x.wish>=0 from h1),aiz,jO h]
 ·rw[aiL h1,aiB (show ¬x.wish>=0 from h1),aiy]
  by_cases h2:x.ono=0
  ·rw[aiM (.inl h2),show (x.ono==0)=true by simp[h2],aiz,jO h]
  ·rw[show (x.ono==0)=false by simp[h2],aiy]
   by_cases h3:x.ono=dTo d
   ·obtain⟨c1,c2⟩:=hx.off h2
    rw[aiL (fun e=>e.elim h2 (fun e=>e h3)),show (x.ono != d.2.2.2.2.2.2.2.2.2.2)=false by simpa using h3,aiy,
     ax (n:=x.shp - x.ret) (by omega) (by omega),ax (n:=x.shp - x.ret+x.oq) (by omega) (by omega),
     oy { x with ord:=x.shp - x.ret+x.oq,due:=x.ount,ono:=0,oq:=0,ount:=0 } _ rfl]
   ·rw[aiM (.inr h3),show (x.ono != d.2.2.2.2.2.2.2.2.2.2)=true by simpa using h3,aiz,jO h]
theorem qG (h:A[k]? =some x) (hx:LOk x) (he0:0<=cm o) (he1:cm o<=1000) {d:aa} {z:Bool} (hq:qOk (dQ d) z=true): oK (o,l,m,ref,pts,wt,()) (some k) d (A.map ak.tup)=some ((cL (cm o) d x).1,(o,l,m,ref,pts,wt,()),(A.set k (cL (cm o) d x).2).map ak.tup,()):=by
 unfold oK cL
 simp only[aim,sk h,Ge h,nF hq]
 have b0:=hx.ret0;have b1:=hx.retr;have b2:=hx.rcvs;have b3:=hx.shp1;have b4:=hx.uO;have b5:=hx.ord1
 obtain⟨q0,q1,_⟩:=lV hq
 by_cases k9:aM d=9
 ·rw[aiM k9,show (d.2.2.2.1==9)=true by simpa using k9,aiz]
  have m0:0<=x.ord*cm o:=agd b4 he0
  have m1:x.ord*cm o<=x.ord*1000:=agc he1 b4
  have e1:w64 (x.ord*cm o)=x.ord*cm o:=ax (by omega) (by omega)
  have e2:Int.tdiv (x.ord*cm o) 1000=x.ord*cm o / 1000:=ago m0
  have d0:0<=x.ord*cm o / 1000:=Int.ediv_nonneg m0 (by omega)
  have d1:x.ord*cm o / 1000<=x.ord:=by omega
  rw[show w64 (x.ord*o.2.2.2.2.1)=x.ord*cm o from e1,e2,ax (n:=x.ord*cm o / 1000) (by omega) (by omega),ax (n:=x.ord+x.ord*cm o / 1000) (by omega) (by omega),
   ax (n:=x.shp - x.ret) (by omega) (by omega),ax (n:=x.shp - x.ret+aW (dQ d)) (by omega) (by omega),ax (n:=x.shp+aW (dQ d)) (by omega) (by omega)]
  by_cases c1:x.ord+x.ord*cm o / 1000<x.shp - x.ret+aW (dQ d)
  ·rw[aiM c1,aiD (show x.shp - x.ret+aW (dQ d)>x.ord+x.ord*cm o / 1000 from c1),aiz,jO h]
  ·rw[aiL c1,aiB (show ¬x.shp - x.ret+aW (dQ d)>x.ord+x.ord*cm o / 1000 from c1),aiy]
   by_cases c2:1000000000000000<x.shp+aW (dQ d)
   ·rw[aiM c2,aiD (show x.shp+aW (dQ d)>1000000000000000 from c2),aiz,jO h]
   ·rw[aiL c2,aiB (show ¬x.shp+aW (dQ d)>1000000000000000 from c2),aiy,oy { x with shp:=x.shp+aW (dQ d) } _ rfl]
 ·rw[aiL k9,show (d.2.2.2.1==9)=false by simpa using k9,aiy]
  by_cases k10:aM d=10
  ·rw[aiM k10,show (d.2.2.2.1==10)=true by simpa using k10,aiz,ax (n:=x.rcv+aW (dQ d)) (by omega) (by omega)]
   by_cases c1:x.shp<x.rcv+aW (dQ d)
   ·rw[aiM c1,aiD (show x.rcv+aW (dQ d)>x.shp from c1),aiz,jO h]
   ·rw[aiL c1,aiB (show ¬x.rcv+aW (dQ d)>x.shp from c1),aiy,oy { x with rcv:=x.rcv+aW (dQ d) } _ rfl]
  ·rw[aiL k10,show (d.2.2.2.1==10)=false by simpa using k10,aiy,ax (n:=x.ret+aW (dQ d)) (by omega) (by omega)]
   by_cases c1:x.rcv<x.ret+aW (dQ d)
   ·rw[aiM c1,aiD (show x.ret+aW (dQ d)>x.rcv from c1),aiz,jO h]
   ·rw[aiL c1,aiB (show ¬x.ret+aW (dQ d)>x.rcv from c1),aiy,oy { x with ret:=x.ret+aW (dQ d) } _ rfl]
end Go.Md
namespace Go.Md
open Go.Dn
def ak.clr (x:ak):ak:={ x with ono:=0,oq:=0,ount:=0 }
def bA (o:aj) (l:List aa) (i:Nat) (d:aa) (x:ak):Int×ak:=
 if aM d<=4 then vC (dw o) i d x
 else if aM d<=6 then (if (b8 l d x).1=0 then (0,(b8 l d x).2.clr) else b8 l d x)
 else if aM d=7 then (if mI (dw o) d x=0 then (0,{ x with ono:=dNo d,oq:=aW (dQ d),ount:=gU d }) else (mI (dw o) d x,x))
 else if aM d=8 then Fb d x
 else if aM d=9 then (if (cL (cm o) d x).1=0 then (0,(cL (cm o) d x).2.clr) else cL (cm o) d x)
 else cL (cm o) d x
def gx (i:Nat) (d:aa):ak:=⟨dx d,d.2.2.2.2.2.1,d.2.2.2.2.2.2.2.1,0,0,0,0,Jn d,gU d,i,0,0,0⟩
def cB (o:aj) (l:List aa) (i:Nat) (d:aa) (A:List ak):Int×List ak:=
 if aM d=1 then
  (match eF (dx d) A with
  | some _=>(7,A)
  | none=>if 500<=A.length then (16,A) else if gU d<dw o then (1,A) else (0,A++[gx i d]))
 else match eF (dx d) A with
  | none=>(9,A)
  | some k=>match A[k]? with
   | some x=>((bA o l i d x).1,A.set k (bA o l i d x).2)
   | none=>(9,A)
structure Sound (l:List aa) (A:List ak):Prop where
 line:∀ x,x∈A->LOk x/\WOk l x
theorem aeE {x:ak} (h:LOk x):LOk x.clr:=⟨h.ret0,h.retr,h.rcvs,h.shp1,h.uO,h.ord1,fun e=>absurd rfl e⟩
theorem ZX {l:List aa} {d:aa} {x:ak} (hx:LOk x) (hw:WOk l x) (hl:∀ d,d∈l->bH d=0):((b8 l d x).1=0->LOk (b8 l d x).2.clr)/\((b8 l d x).1≠0->(b8 l d x).2=x)/\((b8 l d x).2=x\/(b8 l d x).2.wish= -1)/\(b8 l d x).2.no=x.no:=by
 have hk:LOk x.clr:=aeE hx
 unfold b8
 by_cases h1:x.wish<0
 ·rw[aiM h1];exact⟨nofun,fun _=>rfl,.inl rfl,rfl⟩
 rw[aiL h1]
 obtain⟨w,hw1,hw2⟩:=hw.kind (by omega)
 rw[uI hw1]
 obtain⟨_,_,_,_,_,_,hu⟩:=bW (hl w (ahu hw1))
 obtain⟨uq,_⟩:=dM hu
 by_cases h2:dNo w≠dTo d
 ·rw[aiM h2];exact⟨nofun,fun _=>rfl,.inl rfl,rfl⟩
 rw[aiL h2]
 by_cases h3:aM d=5
 ·rw[aiM h3]
  by_cases k2:aM w=2
  ·rw[aiM k2]
   obtain⟨q0,q1,_⟩:=lV (uq (by rw[k2];rfl))
   by_cases h4:aW (dQ w)<x.shp - x.ret
   ·rw[aiM h4];exact⟨nofun,fun _=>rfl,.inl rfl,rfl⟩
   ·rw[aiL h4];exact⟨fun _=>⟨hx.ret0,hx.retr,hx.rcvs,hx.shp1,q0,q1,fun e=>absurd rfl e⟩,fun e=>absurd rfl e,.inr rfl,rfl⟩
  ·rw[aiL k2]
   by_cases k1:aM w=1
   ·rw[aiM k1]
    obtain⟨q0,q1,_⟩:=lV (uq (by rw[k1];rfl))
    exact⟨fun _=>⟨hx.ret0,hx.retr,hx.rcvs,hx.shp1,q0,q1,fun e=>absurd rfl e⟩,fun e=>absurd rfl e,.inr rfl,rfl⟩
   ·rw[aiL k1]
    by_cases k3:aM w=3
    ·rw[aiM k3];exact⟨fun _=>⟨hx.ret0,hx.retr,hx.rcvs,hx.shp1,hx.uO,hx.ord1,fun e=>absurd rfl e⟩,fun e=>absurd rfl e,.inr rfl,rfl⟩
    ·rw[aiL k3];exact⟨fun _=>⟨hx.ret0,hx.retr,hx.rcvs,hx.shp1,hx.uO,hx.ord1,fun e=>absurd rfl e⟩,fun e=>absurd rfl e,.inr rfl,rfl⟩
 ·rw[aiL h3];exact⟨fun _=>⟨hx.ret0,hx.retr,hx.rcvs,hx.shp1,hx.uO,hx.ord1,fun e=>absurd rfl e⟩,fun e=>absurd rfl e,.inr rfl,rfl⟩
theorem ada {ext:Int} {d:aa} {x:ak} {z:Bool} (hx:LOk x) (hq:qOk (dQ d) z=true):((cL ext d x).1=0->LOk (if aM d=9 then (cL ext d x).2.clr else (cL ext d x).2))/\((cL ext d x).1≠0->(cL ext d x).2=x)/\(cL ext d x).2.wish=x.wish/\(cL ext d x).2.no=x.no:=by
 obtain⟨q0,q1,_⟩:=lV hq
 have b0:=hx.ret0;have b1:=hx.retr;have b2:=hx.rcvs;have b3:=hx.shp1
 unfold cL
 by_cases k9:aM d=9
 ·rw[aiM k9,aiM k9]
  split
  ·exact⟨nofun,fun _=>rfl,rfl,rfl⟩
  ·split
   ·exact⟨nofun,fun _=>rfl,rfl,rfl⟩
   ·rename_i h1 h2
    exact⟨fun _=>⟨b0,b1,by show x.rcv<=x.shp+aW (dQ d);omega,by show x.shp+aW (dQ d)<=_;omega,hx.uO,hx.ord1,fun e=>absurd rfl e⟩,fun e=>absurd rfl e,rfl,rfl⟩
 ·rw[aiL k9,aiL k9]
  by_cases k10:aM d=10
  ·rw[aiM k10]
   split
   ·exact⟨nofun,fun _=>rfl,rfl,rfl⟩
   ·rename_i h1
    exact⟨fun _=>⟨b0,by show x.ret<=x.rcv+aW (dQ d);omega,by show x.rcv+aW (dQ d)<=x.shp;omega,b3,hx.uO,hx.ord1,hx.off⟩,fun e=>absurd rfl e,rfl,rfl⟩
  ·rw[aiL k10]
   split
   ·exact⟨nofun,fun _=>rfl,rfl,rfl⟩
   ·rename_i h1
    exact⟨fun _=>⟨by show 0<=x.ret+aW (dQ d);omega,by show x.ret+aW (dQ d)<=x.rcv;omega,b2,b3,hx.uO,hx.ord1,fun e=>by
     obtain⟨c1,c2⟩:=hx.off e
     exact⟨c1,by show x.oq+x.shp - (x.ret+aW (dQ d))<=x.ord;omega⟩⟩,fun e=>absurd rfl e,rfl,rfl⟩
theorem Fi {o:aj} {l:List aa} {i:Nat} {d:aa} {x:ak} (hx:LOk x) (hw:WOk l x) (hl:∀ d,d∈l->bH d=0) (hd:l[i]? =some d): LOk (bA o l i d x).2/\WOk l (bA o l i d x).2/\(bA o l i d x).2.no=x.no/\((bA o l i d x).1≠0->(bA o l i d x).2=x):=by
 obtain⟨_,_,_,hk,_,_,hu⟩:=bW (hl d (ahu hd))
 obtain⟨uq,_⟩:=dM hu
 unfold bA
 by_cases k4:aM d<=4
 ·rw[aiM k4]
  unfold vC
  split
  ·exact⟨hx,hw,rfl,fun _=>rfl⟩
  ·split
   ·exact⟨hx,hw,rfl,fun _=>rfl⟩
   ·refine⟨⟨hx.ret0,hx.retr,hx.rcvs,hx.shp1,hx.uO,hx.ord1,hx.off⟩,⟨by show (-1:Int)<=(i:Int);omega,fun _=>⟨d,by show l[((i:Int)).toNat]? =some d;simpa using hd,k4⟩⟩,rfl,fun e=>absurd rfl e⟩
 ·rw[aiL k4]
  by_cases k6:aM d<=6
  ·rw[aiM k6]
   obtain⟨a1,a2,a3,a4⟩:=ZX (d:=d) hx hw hl
   split
   ·rename_i e
    refine⟨a1 e, ?_,a4,fun e=>absurd rfl e⟩
    rcases a3 with a3 | a3
    ·rw[a3];exact⟨hw.low,hw.kind⟩
    ·exact⟨by show -1<=(b8 l d x).2.wish;omega,fun h=>by have:0<=(b8 l d x).2.wish:=h;omega⟩
   ·rename_i e
    rw[a2 e];exact⟨hx,hw,rfl,fun _=>rfl⟩
  ·rw[aiL k6]
   by_cases k7:aM d=7
   ·rw[aiM k7]
    have hq:=uq (by rw[k7];rfl)
    rw[show (aM d==2)=false by rw[k7];rfl] at hq
    obtain⟨q0,q1,q2⟩:=lV hq
    split
    ·rename_i e
     refine⟨⟨hx.ret0,hx.retr,hx.rcvs,hx.shp1,hx.uO,hx.ord1,fun _=>⟨q2 rfl, ?_⟩⟩,⟨hw.low,hw.kind⟩,rfl,fun e=>absurd rfl e⟩
     show aW (dQ d)+x.shp - x.ret<=x.ord
     unfold mI at e
     split at e
     ·cases e
     ·split at e
      ·cases e
      ·split at e
       ·cases e
       ·rename_i h1 h2 h3
        have:=q2 rfl
        unfold ak.opn at h3
        split at h3<;>omega
    ·exact⟨hx,hw,rfl,fun _=>rfl⟩
   ·rw[aiL k7]
    by_cases k8:aM d=8
    ·rw[aiM k8]
     unfold Fb
     split
     ·exact⟨hx,hw,rfl,fun _=>rfl⟩
     ·split
      ·exact⟨hx,hw,rfl,fun _=>rfl⟩
      ·rename_i h1 h2
       obtain⟨c1,c2⟩:=hx.off (fun e=>h2 (.inl e))
       have:=hx.ret0;have:=hx.retr;have:=hx.rcvs;have:=hx.ord1
       refine⟨⟨hx.ret0,hx.retr,hx.rcvs,hx.shp1, ?_, ?_,fun e=>absurd rfl e⟩,⟨hw.low,hw.kind⟩,rfl,fun e=>absurd rfl e⟩
       ·show 0<=x.shp - x.ret+x.oq;omega
       ·show x.shp - x.ret+x.oq<=1000000000000;omega
    ·rw[aiL k8]
     have hq:=uq (by
      unfold usQ
      refine aiD ⟨by omega,by omega,by omega,by omega,by omega⟩)
     obtain⟨a1,a2,a3,a4⟩:=ada (ext:=cm o) hx hq
     by_cases k9:aM d=9
     ·rw[aiM k9]
      split
      ·rename_i e
       have:=a1 e
       rw[aiM k9] at this
       exact⟨this,⟨by show -1<=(cL (cm o) d x).2.wish;rw[a3];exact hw.low,fun h=>by
        have h':0<=(cL (cm o) d x).2.wish:=h
        rw[a3] at h'
        show ∃ d',l[(cL (cm o) d x).2.wish.toNat]? =some d'/\_
        rw[a3];exact hw.kind h'⟩,a4,fun e=>absurd rfl e⟩
      ·rename_i e
       rw[a2 e];exact⟨hx,hw,rfl,fun _=>rfl⟩
     ·rw[aiL k9]
      by_cases e:(cL (cm o) d x).1=0
      ·have:=a1 e
       rw[aiL k9] at this
       exact⟨this,⟨by rw[a3];exact hw.low,fun h=>by rw[a3] at h ⊢;exact hw.kind h⟩,a4,fun h=>absurd e h⟩
      ·rw[a2 e];exact⟨hx,hw,rfl,fun _=>rfl⟩
theorem acz {l:List aa} {A:List ak} (h:Sound l A) {k:Nat} {y:ak} (h1:LOk y) (h2:WOk l y):Sound l (A.set k y):=⟨fun x hx=>by
 rcases ahv hx with hx | hx
 ·exact h.line x hx
 ·subst hx;exact⟨h1,h2⟩⟩
theorem WV {o:aj} {l:List aa} {i:Nat} {d:aa} {A:List ak} (hA:Sound l A) (hl:∀ d,d∈l->bH d=0) (hd:l[i]? =some d): Sound l (cB o l i d A).2/\((cB o l i d A).1≠0->(cB o l i d A).2=A):=by
 unfold cB
 by_cases k1:aM d=1
 ·rw[aiM k1]
  split
  ·exact⟨hA,fun _=>rfl⟩
  ·split
   ·exact⟨hA,fun _=>rfl⟩
   ·split
    ·exact⟨hA,fun _=>rfl⟩
    ·refine⟨⟨fun x hx=> ?_⟩,fun e=>absurd rfl e⟩
     rcases ahk.1 hx with hx | hx
     ·exact hA.line x hx
     ·simp only[ahx] at hx
      subst hx
      exact⟨⟨by show (0:Int)<=0;omega,by show (0:Int)<=0;omega,by show (0:Int)<=0;omega,by show (0:Int)<=_;omega,by show (0:Int)<=0;omega,by show (0:Int)<=_;omega,fun e=>absurd rfl e⟩,
       ⟨by show (-1:Int)<=(i:Int);omega,fun _=>⟨d,by show l[((i:Int)).toNat]? =some d;simpa using hd,by omega⟩⟩⟩
 ·rw[aiL k1]
  split
  ·exact⟨hA,fun _=>rfl⟩
  ·rename_i k hk
   split
   ·rename_i x hx
    obtain⟨h1,h2⟩:=hA.line x (ahu hx)
    obtain⟨a1,a2,a3,a4⟩:=Fi (o:=o) h1 h2 hl hd
    exact⟨acz hA a1 a2,fun e=>by rw[a4 e];exact jO hx⟩
   ·exact⟨hA,fun _=>rfl⟩
variable {o:aj} {l:List aa} {ref:List ah} {pts:List aL} {wt:Int} {A:List ak}
theorem JF {i:Nat} {d:aa} (hd:l[i]? =some d) (k1:aM d=1): p8 (o,l,mapOf A,ref,pts,wt,()) (i:Int) (A.map ak.tup)=some ((cB o l i d A).1,(o,l,mapOf (cB o l i d A).2,ref,pts,wt,()),(cB o l i d A).2.map ak.tup,()):=by
 unfold p8 cB
 dsimp only
 rw[cF hd,aim,iV,aiM k1]
 cases hf:eF (dx d) A with
 | some k=>rw[show cw d.2.2.2.2.1 0 A=some k from hf];rfl
 | none=>
  rw[show cw d.2.2.2.2.1 0 A=none from hf]
  dsimp only
  rw[show (!Option.isNone (none:Option Nat))=false from rfl,aiy]
  by_cases h1:500<=A.length
  ·rw[aiM h1,aiD (show ((mapOf A).length:Int)>=500 by rw[Dx];omega),aiz]
  ·rw[aiL h1,aiB (show ¬((mapOf A).length:Int)>=500 by rw[Dx];omega),aiy]
   by_cases h2:gU d<dw o
   ·rw[aiM h2,aiD h2,aiz]
   ·rw[aiL h2,aiB h2,aiy]
    have hs:=QJ (dx d) (gx i d) rfl A 0 hf
    rw[aij] at hs
    rw[aha]
    refine congrArg some ?_
    refine Prod.ext rfl (Prod.ext ?_ (Prod.ext ?_ rfl))
    ·exact Prod.ext rfl (Prod.ext rfl (Prod.ext hs rfl))
    ·show List.map ak.tup A++[_]=List.map ak.tup (A++[gx i d])
     rw[ahf]
     rfl
end Go.Md
namespace Go.Md
open Go.Dn
theorem Kp {o:aj} {l:List aa} {i:Nat} {d:aa} {A:List ak} (k1:aM d≠1) (hf:eF (dx d) A=none):cB o l i d A=(9,A):=by
 unfold cB;rw[aiL k1,hf]
theorem MT {o:aj} {l:List aa} {i:Nat} {d:aa} {A:List ak} {k:Nat} {x:ak} (k1:aM d≠1) (hf:eF (dx d) A=some k) (hx:A[k]? =some x):cB o l i d A=((bA o l i d x).1,A.set k (bA o l i d x).2):=by
 unfold cB;rw[aiL k1,hf];dsimp only;rw[hx]
variable {o:aj} {l:List aa} {ref:List ah} {pts:List aL} {wt:Int} {A:List ak}
theorem Ur {k:Nat} (x:ak) (y:ak) (T:bf) (hT:T=y.tup):List.set ((A.set k x).map ak.tup) k T=(A.set k y).map ak.tup:=by
 rw[hT,ZQ,ahE]
theorem adQ {onum obuy osel:Bys} {oday oext:Int} {olns:List aF} {day byy no line:Int} {art:Bys} {q:ah} {unit:Bys} {p:ah} {un to:Int} {i:Nat} (he0:0<=oext) (he1:oext<=1000) (hl:∀ d,d∈l->bH d=0) (hd:l[i]? =some (day,byy,no,2,line,art,q,unit,p,un,to)) {k:Nat} {x:ak} (hf:cw line 0 A=some k) (hx:A[k]? =some x) (hs:LOk x) (hw:WOk l x): aZ ((onum,obuy,osel,oday,oext,olns),l,mapOf A,ref,pts,wt,()) (i:Int) (A.map ak.tup)=some ((bA (onum,obuy,osel,oday,oext,olns) l i (day,byy,no,2,line,art,q,unit,p,un,to) x).1,((onum,obuy,osel,oday,oext,olns),l,mapOf A,ref,pts,wt,()),(A.set k (bA (onum,obuy,osel,oday,oext,olns) l i (day,byy,no,2,line,art,q,unit,p,un,to) x).2).map ak.tup,()):=by
 have hdf:=hl _ (ahu hd)
 obtain⟨_,_,_,_,_,_,hu⟩:=bW hdf
 obtain⟨uq,_⟩:=dM hu
 have h21:((2:Int)==1)=false:=rfl
 have h22:((2:Int)==2)=true:=rfl
 have h23:((2:Int)==3)=false:=rfl
 have h24:((2:Int)==4)=false:=rfl
 have h25:((2:Int)==5)=false:=rfl
 have h26:((2:Int)==6)=false:=rfl
 have h27:((2:Int)==7)=false:=rfl
 have h28:((2:Int)==8)=false:=rfl
 have h29:((2:Int)==9)=false:=rfl
 unfold aZ
 dsimp only
 rw[cF hd,aim]
 dsimp only
 rw[iV,hf]
 simp only[h21,h22,h23,h24,h25,h26,h27,h28,h29,aiz,aiy,aB,aip,aim,qH hx hd]
 rfl
theorem adR {onum obuy osel:Bys} {oday oext:Int} {olns:List aF} {day byy no line:Int} {art:Bys} {q:ah} {unit:Bys} {p:ah} {un to:Int} {i:Nat} (he0:0<=oext) (he1:oext<=1000) (hl:∀ d,d∈l->bH d=0) (hd:l[i]? =some (day,byy,no,3,line,art,q,unit,p,un,to)) {k:Nat} {x:ak} (hf:cw line 0 A=some k) (hx:A[k]? =some x) (hs:LOk x) (hw:WOk l x): aZ ((onum,obuy,osel,oday,oext,olns),l,mapOf A,ref,pts,wt,()) (i:Int) (A.map ak.tup)=some ((bA (onum,obuy,osel,oday,oext,olns) l i (day,byy,no,3,line,art,q,unit,p,un,to) x).1,((onum,obuy,osel,oday,oext,olns),l,mapOf A,ref,pts,wt,()),(A.set k (bA (onum,obuy,osel,oday,oext,olns) l i (day,byy,no,3,line,art,q,unit,p,un,to) x).2).map ak.tup,()):=by
 have hdf:=hl _ (ahu hd)
 obtain⟨_,_,_,_,_,_,hu⟩:=bW hdf
 obtain⟨uq,_⟩:=dM hu
 have h31:((3:Int)==1)=false:=rfl
 have h32:((3:Int)==2)=false:=rfl
 have h33:((3:Int)==3)=true:=rfl
 have h34:((3:Int)==4)=false:=rfl
 have h35:((3:Int)==5)=false:=rfl
 have h36:((3:Int)==6)=false:=rfl
 have h37:((3:Int)==7)=false:=rfl
 have h38:((3:Int)==8)=false:=rfl
 have h39:((3:Int)==9)=false:=rfl
 unfold aZ
 dsimp only
 rw[cF hd,aim]
 dsimp only
 rw[iV,hf]
 simp only[h31,h32,h33,h34,h35,h36,h37,h38,h39,aiz,aiy,aB,aip,aim,qH hx hd]
 rfl
theorem adS {onum obuy osel:Bys} {oday oext:Int} {olns:List aF} {day byy no line:Int} {art:Bys} {q:ah} {unit:Bys} {p:ah} {un to:Int} {i:Nat} (he0:0<=oext) (he1:oext<=1000) (hl:∀ d,d∈l->bH d=0) (hd:l[i]? =some (day,byy,no,4,line,art,q,unit,p,un,to)) {k:Nat} {x:ak} (hf:cw line 0 A=some k) (hx:A[k]? =some x) (hs:LOk x) (hw:WOk l x): aZ ((onum,obuy,osel,oday,oext,olns),l,mapOf A,ref,pts,wt,()) (i:Int) (A.map ak.tup)=some ((bA (onum,obuy,osel,oday,oext,olns) l i (day,byy,no,4,line,art,q,unit,p,un,to) x).1,((onum,obuy,osel,oday,oext,olns),l,mapOf A,ref,pts,wt,()),(A.set k (bA (onum,obuy,osel,oday,oext,olns) l i (day,byy,no,4,line,art,q,unit,p,un,to) x).2).map ak.tup,()):=by
 have hdf:=hl _ (ahu hd)
 obtain⟨_,_,_,_,_,_,hu⟩:=bW hdf
 obtain⟨uq,_⟩:=dM hu
 have h41:((4:Int)==1)=false:=rfl
 have h42:((4:Int)==2)=false:=rfl
 have h43:((4:Int)==3)=false:=rfl
 have h44:((4:Int)==4)=true:=rfl
 have h45:((4:Int)==5)=false:=rfl
 have h46:((4:Int)==6)=false:=rfl
 have h47:((4:Int)==7)=false:=rfl
 have h48:((4:Int)==8)=false:=rfl
 have h49:((4:Int)==9)=false:=rfl
 unfold aZ
 dsimp only
 rw[cF hd,aim]
 dsimp only
 rw[iV,hf]
 simp only[h41,h42,h43,h44,h45,h46,h47,h48,h49,aiz,aiy,aB,aip,aim,qH hx hd]
 rfl
theorem adT {onum obuy osel:Bys} {oday oext:Int} {olns:List aF} {day byy no line:Int} {art:Bys} {q:ah} {unit:Bys} {p:ah} {un to:Int} {i:Nat} (he0:0<=oext) (he1:oext<=1000) (hl:∀ d,d∈l->bH d=0) (hd:l[i]? =some (day,byy,no,5,line,art,q,unit,p,un,to)) {k:Nat} {x:ak} (hf:cw line 0 A=some k) (hx:A[k]? =some x) (hs:LOk x) (hw:WOk l x): aZ ((onum,obuy,osel,oday,oext,olns),l,mapOf A,ref,pts,wt,()) (i:Int) (A.map ak.tup)=some ((bA (onum,obuy,osel,oday,oext,olns) l i (day,byy,no,5,line,art,q,unit,p,un,to) x).1,((onum,obuy,osel,oday,oext,olns),l,mapOf A,ref,pts,wt,()),(A.set k (bA (onum,obuy,osel,oday,oext,olns) l i (day,byy,no,5,line,art,q,unit,p,un,to) x).2).map ak.tup,()):=by
 have hdf:=hl _ (ahu hd)
 obtain⟨_,_,_,_,_,_,hu⟩:=bW hdf
 obtain⟨uq,_⟩:=dM hu
 have h51:((5:Int)==1)=false:=rfl
 have h52:((5:Int)==2)=false:=rfl
 have h53:((5:Int)==3)=false:=rfl
 have h54:((5:Int)==4)=false:=rfl
 have h55:((5:Int)==5)=true:=rfl
 have h56:((5:Int)==6)=false:=rfl
 have h57:((5:Int)==7)=false:=rfl
 have h58:((5:Int)==8)=false:=rfl
 have h59:((5:Int)==9)=false:=rfl
 unfold aZ
 dsimp only
 rw[cF hd,aim]
 dsimp only
 rw[iV,hf]
 simp only[h51,h52,h53,h54,h55,h56,h57,h58,h59,aiz,aiy,aB,aip,aim,wh hx hs hw hl,gE]
 have ha:bA (onum,obuy,osel,oday,oext,olns) l i (day,byy,no,5,line,art,q,unit,p,un,to) x=(if (b8 l (day,byy,no,5,line,art,q,unit,p,un,to) x).1=0 then (0,(b8 l (day,byy,no,5,line,art,q,unit,p,un,to) x).2.clr) else b8 l (day,byy,no,5,line,art,q,unit,p,un,to) x):=rfl
 rw[ha]
 by_cases e:(b8 l (day,byy,no,5,line,art,q,unit,p,un,to) x).1=0
 ·rw[aiM e,e]
  simp only[show ((0:Int)==0)=true from rfl,aiz,aim,sk (Om hx _)]
  simp only[true_or,or_true,aiG,aiz]
  refine congrArg some (Prod.ext rfl (Prod.ext rfl (Prod.ext ?_ rfl)))
  exact Ur (b8 l (day,byy,no,5,line,art,q,unit,p,un,to) x).2 ((b8 l (day,byy,no,5,line,art,q,unit,p,un,to) x).2.clr) _ rfl
 ·rw[aiL e,cY e,aiy]
  rfl
theorem adU {onum obuy osel:Bys} {oday oext:Int} {olns:List aF} {day byy no line:Int} {art:Bys} {q:ah} {unit:Bys} {p:ah} {un to:Int} {i:Nat} (he0:0<=oext) (he1:oext<=1000) (hl:∀ d,d∈l->bH d=0) (hd:l[i]? =some (day,byy,no,6,line,art,q,unit,p,un,to)) {k:Nat} {x:ak} (hf:cw line 0 A=some k) (hx:A[k]? =some x) (hs:LOk x) (hw:WOk l x): aZ ((onum,obuy,osel,oday,oext,olns),l,mapOf A,ref,pts,wt,()) (i:Int) (A.map ak.tup)=some ((bA (onum,obuy,osel,oday,oext,olns) l i (day,byy,no,6,line,art,q,unit,p,un,to) x).1,((onum,obuy,osel,oday,oext,olns),l,mapOf A,ref,pts,wt,()),(A.set k (bA (onum,obuy,osel,oday,oext,olns) l i (day,byy,no,6,line,art,q,unit,p,un,to) x).2).map ak.tup,()):=by
 have hdf:=hl _ (ahu hd)
 obtain⟨_,_,_,_,_,_,hu⟩:=bW hdf
 obtain⟨uq,_⟩:=dM hu
 have h61:((6:Int)==1)=false:=rfl
 have h62:((6:Int)==2)=false:=rfl
 have h63:((6:Int)==3)=false:=rfl
 have h64:((6:Int)==4)=false:=rfl
 have h65:((6:Int)==5)=false:=rfl
 have h66:((6:Int)==6)=true:=rfl
 have h67:((6:Int)==7)=false:=rfl
 have h68:((6:Int)==8)=false:=rfl
 have h69:((6:Int)==9)=false:=rfl
 unfold aZ
 dsimp only
 rw[cF hd,aim]
 dsimp only
 rw[iV,hf]
 simp only[h61,h62,h63,h64,h65,h66,h67,h68,h69,aiz,aiy,aB,aip,aim,wh hx hs hw hl,gE]
 have ha:bA (onum,obuy,osel,oday,oext,olns) l i (day,byy,no,6,line,art,q,unit,p,un,to) x=(if (b8 l (day,byy,no,6,line,art,q,unit,p,un,to) x).1=0 then (0,(b8 l (day,byy,no,6,line,art,q,unit,p,un,to) x).2.clr) else b8 l (day,byy,no,6,line,art,q,unit,p,un,to) x):=rfl
 rw[ha]
 by_cases e:(b8 l (day,byy,no,6,line,art,q,unit,p,un,to) x).1=0
 ·rw[aiM e,e]
  simp only[show ((0:Int)==0)=true from rfl,aiz,aim,sk (Om hx _)]
  simp only[true_or,or_true,aiG,aiz]
  refine congrArg some (Prod.ext rfl (Prod.ext rfl (Prod.ext ?_ rfl)))
  exact Ur (b8 l (day,byy,no,6,line,art,q,unit,p,un,to) x).2 ((b8 l (day,byy,no,6,line,art,q,unit,p,un,to) x).2.clr) _ rfl
 ·rw[aiL e,cY e,aiy]
  rfl
theorem adV {onum obuy osel:Bys} {oday oext:Int} {olns:List aF} {day byy no line:Int} {art:Bys} {q:ah} {unit:Bys} {p:ah} {un to:Int} {i:Nat} (he0:0<=oext) (he1:oext<=1000) (hl:∀ d,d∈l->bH d=0) (hd:l[i]? =some (day,byy,no,7,line,art,q,unit,p,un,to)) {k:Nat} {x:ak} (hf:cw line 0 A=some k) (hx:A[k]? =some x) (hs:LOk x) (hw:WOk l x): aZ ((onum,obuy,osel,oday,oext,olns),l,mapOf A,ref,pts,wt,()) (i:Int) (A.map ak.tup)=some ((bA (onum,obuy,osel,oday,oext,olns) l i (day,byy,no,7,line,art,q,unit,p,un,to) x).1,((onum,obuy,osel,oday,oext,olns),l,mapOf A,ref,pts,wt,()),(A.set k (bA (onum,obuy,osel,oday,oext,olns) l i (day,byy,no,7,line,art,q,unit,p,un,to) x).2).map ak.tup,()):=by
 have hdf:=hl _ (ahu hd)
 obtain⟨_,_,_,_,_,_,hu⟩:=bW hdf
 obtain⟨uq,_⟩:=dM hu
 have h71:((7:Int)==1)=false:=rfl
 have h72:((7:Int)==2)=false:=rfl
 have h73:((7:Int)==3)=false:=rfl
 have h74:((7:Int)==4)=false:=rfl
 have h75:((7:Int)==5)=false:=rfl
 have h76:((7:Int)==6)=false:=rfl
 have h77:((7:Int)==7)=true:=rfl
 have h78:((7:Int)==8)=false:=rfl
 have h79:((7:Int)==9)=false:=rfl
 unfold aZ
 dsimp only
 rw[cF hd,aim]
 dsimp only
 rw[iV,hf]
 have hq:qOk q false=true:=uq rfl
 simp only[h71,h72,h73,h74,h75,h76,h77,h78,h79,aiz,aiy,aB,aip,aim,E3 hx hs (d:=(day,byy,no,7,line,art,q,unit,p,un,to)) hq,gE]
 have ha:bA (onum,obuy,osel,oday,oext,olns) l i (day,byy,no,7,line,art,q,unit,p,un,to) x=(if mI oday (day,byy,no,7,line,art,q,unit,p,un,to) x=0 then (0,{ x with ono:=no,oq:=aW q,ount:=un }) else (mI oday (day,byy,no,7,line,art,q,unit,p,un,to) x,x)):=rfl
 rw[ha]
 by_cases e:mI oday (day,byy,no,7,line,art,q,unit,p,un,to) x=0
 ·rw[aiM e,show mI (dw (onum,obuy,osel,oday,oext,olns)) (day,byy,no,7,line,art,q,unit,p,un,to) x=0 from e]
  simp only[show ((0:Int)==0)=true from rfl,aiz,aim,sk hx]
  simp only[true_or,or_true,aiG,aiz]
  rw[show iI (q.1,q.2)=some (aW q,()) from nF hq,aim]
  simp only[Ge hx,aim,ahE]
  rw[oy { x with ono:=no,oq:=aW q,ount:=un } _ rfl]
 ·rw[aiL e,show (mI (dw (onum,obuy,osel,oday,oext,olns)) (day,byy,no,7,line,art,q,unit,p,un,to) x==0)=false from cY e,aiy,jO hx]
  rfl
theorem adW {onum obuy osel:Bys} {oday oext:Int} {olns:List aF} {day byy no line:Int} {art:Bys} {q:ah} {unit:Bys} {p:ah} {un to:Int} {i:Nat} (he0:0<=oext) (he1:oext<=1000) (hl:∀ d,d∈l->bH d=0) (hd:l[i]? =some (day,byy,no,8,line,art,q,unit,p,un,to)) {k:Nat} {x:ak} (hf:cw line 0 A=some k) (hx:A[k]? =some x) (hs:LOk x) (hw:WOk l x): aZ ((onum,obuy,osel,oday,oext,olns),l,mapOf A,ref,pts,wt,()) (i:Int) (A.map ak.tup)=some ((bA (onum,obuy,osel,oday,oext,olns) l i (day,byy,no,8,line,art,q,unit,p,un,to) x).1,((onum,obuy,osel,oday,oext,olns),l,mapOf A,ref,pts,wt,()),(A.set k (bA (onum,obuy,osel,oday,oext,olns) l i (day,byy,no,8,line,art,q,unit,p,un,to) x).2).map ak.tup,()):=by
 have hdf:=hl _ (ahu hd)
 obtain⟨_,_,_,_,_,_,hu⟩:=bW hdf
 obtain⟨uq,_⟩:=dM hu
 have h81:((8:Int)==1)=false:=rfl
 have h82:((8:Int)==2)=false:=rfl
 have h83:((8:Int)==3)=false:=rfl
 have h84:((8:Int)==4)=false:=rfl
 have h85:((8:Int)==5)=false:=rfl
 have h86:((8:Int)==6)=false:=rfl
 have h87:((8:Int)==7)=false:=rfl
 have h88:((8:Int)==8)=true:=rfl
 have h89:((8:Int)==9)=false:=rfl
 unfold aZ
 dsimp only
 rw[cF hd,aim]
 dsimp only
 rw[iV,hf]
 simp only[h81,h82,h83,h84,h85,h86,h87,h88,h89,aiz,aiy,aB,aip,aim,II hx hs]
 rfl
theorem adX {onum obuy osel:Bys} {oday oext:Int} {olns:List aF} {day byy no line:Int} {art:Bys} {q:ah} {unit:Bys} {p:ah} {un to:Int} {i:Nat} (he0:0<=oext) (he1:oext<=1000) (hl:∀ d,d∈l->bH d=0) (hd:l[i]? =some (day,byy,no,9,line,art,q,unit,p,un,to)) {k:Nat} {x:ak} (hf:cw line 0 A=some k) (hx:A[k]? =some x) (hs:LOk x) (hw:WOk l x): aZ ((onum,obuy,osel,oday,oext,olns),l,mapOf A,ref,pts,wt,()) (i:Int) (A.map ak.tup)=some ((bA (onum,obuy,osel,oday,oext,olns) l i (day,byy,no,9,line,art,q,unit,p,un,to) x).1,((onum,obuy,osel,oday,oext,olns),l,mapOf A,ref,pts,wt,()),(A.set k (bA (onum,obuy,osel,oday,oext,olns) l i (day,byy,no,9,line,art,q,unit,p,un,to) x).2).map ak.tup,()):=by
 have hdf:=hl _ (ahu hd)
 obtain⟨_,_,_,_,_,_,hu⟩:=bW hdf
 obtain⟨uq,_⟩:=dM hu
 have h91:((9:Int)==1)=false:=rfl
 have h92:((9:Int)==2)=false:=rfl
 have h93:((9:Int)==3)=false:=rfl
 have h94:((9:Int)==4)=false:=rfl
 have h95:((9:Int)==5)=false:=rfl
 have h96:((9:Int)==6)=false:=rfl
 have h97:((9:Int)==7)=false:=rfl
 have h98:((9:Int)==8)=false:=rfl
 have h99:((9:Int)==9)=true:=rfl
 unfold aZ
 dsimp only
 rw[cF hd,aim]
 dsimp only
 rw[iV,hf]
 have hq:qOk q false=true:=uq rfl
 simp only[h91,h92,h93,h94,h95,h96,h97,h98,h99,aiz,aiy,aB,aip,aim,qG hx hs (o:=(onum,obuy,osel,oday,oext,olns)) he0 he1 (d:=(day,byy,no,9,line,art,q,unit,p,un,to)) hq,gE]
 have ha:bA (onum,obuy,osel,oday,oext,olns) l i (day,byy,no,9,line,art,q,unit,p,un,to) x=(if (cL oext (day,byy,no,9,line,art,q,unit,p,un,to) x).1=0 then (0,(cL oext (day,byy,no,9,line,art,q,unit,p,un,to) x).2.clr) else cL oext (day,byy,no,9,line,art,q,unit,p,un,to) x):=rfl
 rw[ha]
 by_cases e:(cL oext (day,byy,no,9,line,art,q,unit,p,un,to) x).1=0
 ·rw[aiM e,show (cL (cm (onum,obuy,osel,oday,oext,olns)) (day,byy,no,9,line,art,q,unit,p,un,to) x).1=0 from e]
  simp only[show ((0:Int)==0)=true from rfl,aiz,aim,sk (Om hx _)]
  simp only[true_or,or_true,aiG,aiz]
  refine congrArg some (Prod.ext rfl (Prod.ext rfl (Prod.ext ?_ rfl)))
  exact Ur (cL oext (day,byy,no,9,line,art,q,unit,p,un,to) x).2 ((cL oext (day,byy,no,9,line,art,q,unit,p,un,to) x).2.clr) _ rfl
 ·rw[aiL e,show ((cL (cm (onum,obuy,osel,oday,oext,olns)) (day,byy,no,9,line,art,q,unit,p,un,to) x).1==0)=false from cY e,aiy]
  rfl
theorem acT {onum obuy osel:Bys} {oday oext:Int} {olns:List aF} {day byy no line:Int} {art:Bys} {q:ah} {unit:Bys} {p:ah} {un to:Int} {i:Nat} (he0:0<=oext) (he1:oext<=1000) (hl:∀ d,d∈l->bH d=0) (hd:l[i]? =some (day,byy,no,10,line,art,q,unit,p,un,to)) {k:Nat} {x:ak} (hf:cw line 0 A=some k) (hx:A[k]? =some x) (hs:LOk x) (hw:WOk l x): aZ ((onum,obuy,osel,oday,oext,olns),l,mapOf A,ref,pts,wt,()) (i:Int) (A.map ak.tup)=some ((bA (onum,obuy,osel,oday,oext,olns) l i (day,byy,no,10,line,art,q,unit,p,un,to) x).1,((onum,obuy,osel,oday,oext,olns),l,mapOf A,ref,pts,wt,()),(A.set k (bA (onum,obuy,osel,oday,oext,olns) l i (day,byy,no,10,line,art,q,unit,p,un,to) x).2).map ak.tup,()):=by
 have hdf:=hl _ (ahu hd)
 obtain⟨_,_,_,_,_,_,hu⟩:=bW hdf
 obtain⟨uq,_⟩:=dM hu
 have h101:((10:Int)==1)=false:=rfl
 have h102:((10:Int)==2)=false:=rfl
 have h103:((10:Int)==3)=false:=rfl
 have h104:((10:Int)==4)=false:=rfl
 have h105:((10:Int)==5)=false:=rfl
 have h106:((10:Int)==6)=false:=rfl
 have h107:((10:Int)==7)=false:=rfl
 have h108:((10:Int)==8)=false:=rfl
 have h109:((10:Int)==9)=false:=rfl
 unfold aZ
 dsimp only
 rw[cF hd,aim]
 dsimp only
 rw[iV,hf]
 have hq:qOk q false=true:=uq rfl
 simp only[h101,h102,h103,h104,h105,h106,h107,h108,h109,aiz,aiy,aB,aip,aim,qG hx hs (o:=(onum,obuy,osel,oday,oext,olns)) he0 he1 (d:=(day,byy,no,10,line,art,q,unit,p,un,to)) hq,gE]
 have ha:bA (onum,obuy,osel,oday,oext,olns) l i (day,byy,no,10,line,art,q,unit,p,un,to) x=cL oext (day,byy,no,10,line,art,q,unit,p,un,to) x:=rfl
 rw[ha]
 by_cases e:(cL oext (day,byy,no,10,line,art,q,unit,p,un,to) x).1=0
 ·rw[show ((cL (cm (onum,obuy,osel,oday,oext,olns)) (day,byy,no,10,line,art,q,unit,p,un,to) x).1==0)=true by show ((cL oext (day,byy,no,10,line,art,q,unit,p,un,to) x).1==0)=true;rw[e];rfl]
  rfl
 ·rw[show ((cL (cm (onum,obuy,osel,oday,oext,olns)) (day,byy,no,10,line,art,q,unit,p,un,to) x).1==0)=false from cY e]
  rfl
theorem acU {onum obuy osel:Bys} {oday oext:Int} {olns:List aF} {day byy no line:Int} {art:Bys} {q:ah} {unit:Bys} {p:ah} {un to:Int} {i:Nat} (he0:0<=oext) (he1:oext<=1000) (hl:∀ d,d∈l->bH d=0) (hd:l[i]? =some (day,byy,no,11,line,art,q,unit,p,un,to)) {k:Nat} {x:ak} (hf:cw line 0 A=some k) (hx:A[k]? =some x) (hs:LOk x) (hw:WOk l x): aZ ((onum,obuy,osel,oday,oext,olns),l,mapOf A,ref,pts,wt,()) (i:Int) (A.map ak.tup)=some ((bA (onum,obuy,osel,oday,oext,olns) l i (day,byy,no,11,line,art,q,unit,p,un,to) x).1,((onum,obuy,osel,oday,oext,olns),l,mapOf A,ref,pts,wt,()),(A.set k (bA (onum,obuy,osel,oday,oext,olns) l i (day,byy,no,11,line,art,q,unit,p,un,to) x).2).map ak.tup,()):=by
 have hdf:=hl _ (ahu hd)
 obtain⟨_,_,_,_,_,_,hu⟩:=bW hdf
 obtain⟨uq,_⟩:=dM hu
 have h111:((11:Int)==1)=false:=rfl
 have h112:((11:Int)==2)=false:=rfl
 have h113:((11:Int)==3)=false:=rfl
 have h114:((11:Int)==4)=false:=rfl
 have h115:((11:Int)==5)=false:=rfl
 have h116:((11:Int)==6)=false:=rfl
 have h117:((11:Int)==7)=false:=rfl
 have h118:((11:Int)==8)=false:=rfl
 have h119:((11:Int)==9)=false:=rfl
 unfold aZ
 dsimp only
 rw[cF hd,aim]
 dsimp only
 rw[iV,hf]
 have hq:qOk q false=true:=uq rfl
 simp only[h111,h112,h113,h114,h115,h116,h117,h118,h119,aiz,aiy,aB,aip,aim,qG hx hs (o:=(onum,obuy,osel,oday,oext,olns)) he0 he1 (d:=(day,byy,no,11,line,art,q,unit,p,un,to)) hq,gE]
 have ha:bA (onum,obuy,osel,oday,oext,olns) l i (day,byy,no,11,line,art,q,unit,p,un,to) x=cL oext (day,byy,no,11,line,art,q,unit,p,un,to) x:=rfl
 rw[ha]
 by_cases e:(cL oext (day,byy,no,11,line,art,q,unit,p,un,to) x).1=0
 ·rw[show ((cL (cm (onum,obuy,osel,oday,oext,olns)) (day,byy,no,11,line,art,q,unit,p,un,to) x).1==0)=true by show ((cL oext (day,byy,no,11,line,art,q,unit,p,un,to) x).1==0)=true;rw[e];rfl]
  rfl
 ·rw[show ((cL (cm (onum,obuy,osel,oday,oext,olns)) (day,byy,no,11,line,art,q,unit,p,un,to) x).1==0)=false from cY e]
  rfl
theorem IG {i:Nat} {d:aa} (hA:Sound l A) (hl:∀ d,d∈l->bH d=0) (hd:l[i]? =some d) (he0:0<=cm o) (he1:cm o<=1000): aZ (o,l,mapOf A,ref,pts,wt,()) (i:Int) (A.map ak.tup)=some ((cB o l i d A).1,(o,l,mapOf (cB o l i d A).2,ref,pts,wt,()),(cB o l i d A).2.map ak.tup,()):=by
 obtain⟨_,_,_,hk,_,_,_⟩:=bW (hl d (ahu hd))
 by_cases k1:aM d=1
 ·unfold aZ
  dsimp only
  rw[cF hd,aim,show (d.2.2.2.1==1)=true by simpa using k1,aiz]
  rw[JF hd k1,aim]
 ·cases hf:eF (dx d) A with
  | none=>
   rw[Kp k1 hf]
   unfold aZ
   dsimp only
   rw[cF hd,aim,show (d.2.2.2.1==1)=false by simpa using k1,aiy]
   rw[iV,show cw d.2.2.2.2.1 0 A=none from hf]
   rfl
  | some k=>
   obtain⟨x,hx,hxn⟩:=xw hf
   rw[MT k1 hf hx]
   obtain⟨hs,hw⟩:=hA.line x (ahu hx)
   have hm:mapOf (A.set k (bA o l i d x).2)=mapOf A:=abY A 0 (fun z hz=>by
    rw[hx] at hz;cases hz
    exact (Fi (o:=o) hs hw hl hd).2.2.1)
   rw[hm]
   obtain⟨onum,obuy,osel,oday,oext,olns⟩:=o
   obtain⟨day,byy,no,kk,line,art,q,unit,p,un,to⟩:=d
   have hk':kk=2\/kk=3\/kk=4\/kk=5\/kk=6\/kk=7\/kk=8\/kk=9\/kk=10\/kk=11:=by
    have h1:1<=kk/\kk<=11:=hk
    have h2:kk≠1:=k1
    omega
   rcases hk' with rfl | rfl | rfl | rfl | rfl | rfl | rfl | rfl | rfl | rfl
   ·exact adQ he0 he1 hl hd hf hx hs hw
   ·exact adR he0 he1 hl hd hf hx hs hw
   ·exact adS he0 he1 hl hd hf hx hs hw
   ·exact adT he0 he1 hl hd hf hx hs hw
   ·exact adU he0 he1 hl hd hf hx hs hw
   ·exact adV he0 he1 hl hd hf hx hs hw
   ·exact adW he0 he1 hl hd hf hx hs hw
   ·exact adX he0 he1 hl hd hf hx hs hw
   ·exact acT he0 he1 hl hd hf hx hs hw
   ·exact acU he0 he1 hl hd hf hx hs hw
end Go.Md
