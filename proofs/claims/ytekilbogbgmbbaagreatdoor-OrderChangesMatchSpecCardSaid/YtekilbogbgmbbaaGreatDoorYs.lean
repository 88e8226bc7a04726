/-
  Plain facts: deeds and orders checked; what a deed does with a line. No condition.
-/
import Derived.Test.YtekilbogbgmbbaaGreatDoorYo
import Derived.Test.YtekilbogbgmbbaaGreatDoorYr
set_option linter.all false
namespace Go.Md
open Go.Dn
theorem fK (k:Int):mN k=some (decide (k=5\/k=6\/k=7\/k=9),()):=by
 unfold mN
 by_cases h5:k=5
 ·subst h5;rfl
 by_cases h6:k=6
 ·subst h6;rfl
 by_cases h7:k=7
 ·subst h7;rfl
 by_cases h9:k=9
 ·subst h9;rfl
 have e5:(k==5)=false:=by simp[h5]
 have e6:(k==6)=false:=by simp[h6]
 have e7:(k==7)=false:=by simp[h7]
 have e9:(k==9)=false:=by simp[h9]
 simp only[e5,e6,e7,e9,af1]
 simp[h5,h6,h7,h9]
def usA (k:Int):Bool:=decide (k=1)
def usQ (k:Int):Bool:=decide (k≠3/\k≠4/\k≠5/\k≠6/\k≠8)
def usP (k:Int):Bool:=decide (k=1\/k=4)
def usU (k:Int):Bool:=decide (k=1\/k=3\/k=7)
def usT (k:Int):Bool:=decide (k=5\/k=6\/k=8)
theorem N9 (k:Int):rG k=some ((usA k,usQ k,usA k,usP k,usU k,usT k),()):=by
 unfold rG
 by_cases h1:k=1
 ·subst h1;rfl
 by_cases h3:k=3
 ·subst h3;rfl
 by_cases h4:k=4
 ·subst h4;rfl
 by_cases h5:k=5
 ·subst h5;rfl
 by_cases h6:k=6
 ·subst h6;rfl
 by_cases h7:k=7
 ·subst h7;rfl
 by_cases h8:k=8
 ·subst h8;rfl
 have e1:(k==1)=false:=by simp[h1]
 have e3:(k==3)=false:=by simp[h3]
 have e4:(k==4)=false:=by simp[h4]
 have e5:(k==5)=false:=by simp[h5]
 have e6:(k==6)=false:=by simp[h6]
 have e8:(k==8)=false:=by simp[h8]
 have e7:(k==7)=false:=by simp[h7]
 simp only[e1,e3,e4,e5,e6,e7,e8,af1]
 simp[h1,h3,h4,h5,h6,h7,h8,usA,usQ,usP,usU,usT]
def wg (n:Int):Bool:=decide (1<=n/\n<=3652059)
def zT (n:Int):Bool:=decide (1<=n/\n<=2000)
def OE (ua uq up uu ut k2:Bool) (art:Bys) (q:ah) (unit:Bys) (p:ah) (un to:Int):Int:=
 bif uq&& !qOk q k2 then 1
 else bif up&& !inR p 0 1000000000 4 then 1
 else bif uu&& !wg un then 1
 else bif ua&&(!cK art|| !cK unit) then 5
 else bif ut&& !zT to then 1
 else bif (!ua&& !(art==[]))||((!uq&& !(q.1==0&&q.2==0))||((!ua&& !(unit==[]))||((!up&& !(p.1==0&&p.2==0))||((!uu&&un != 0)||(!ut&&to != 0))))) then 3
 else 0
def AO (d:aa):Int:=
 OE (usA d.2.2.2.1) (usQ d.2.2.2.1) (usP d.2.2.2.1) (usU d.2.2.2.1) (usT d.2.2.2.1) (d.2.2.2.1==2) d.2.2.2.2.2.1 d.2.2.2.2.2.2.1 d.2.2.2.2.2.2.2.1 d.2.2.2.2.2.2.2.2.1 d.2.2.2.2.2.2.2.2.2.1 d.2.2.2.2.2.2.2.2.2.2
theorem RP (n:Int):mL n=some (wg n,()):=ry n
theorem aax (n:Int):dR n 1 2000=some (!zT n,()):=by
 rw[gQ]
 congr 2
 unfold zT
 by_cases h1:1<=n<;>by_cases h2:n<=2000<;>simp[h1,h2]<;>omega
theorem IW (d:aa):qK d=some (AO d,()):=by
 obtain⟨day,byy,no,k,line,art,⟨q1,q2⟩,unit,⟨p1,p2⟩,un,to⟩:=d
 unfold qK AO
 dsimp only
 rw[N9,afO]
 dsimp only
 rw[tQ]
 simp only[xE,RP,zU,aax,afO]
 generalize usA k=ua
 generalize usQ k=uq
 generalize usP k=up
 generalize usU k=uu
 generalize usT k=ut
 generalize (k==2)=k2
 unfold OE
 generalize qOk (q1,q2) k2=b1
 have step1:∀ (A:Option ((Int×Unit) ⊕ (Int×Int×Int×Int×Int×Bys×Int×Int×Bys×Int×Int×Int×Int×Bool×Bool×Bool×Bool×Bool×Bool×Unit))) (v:Int×Int×Int×Int×Int×Bys×Int×Int×Bys×Int×Int×Int×Int×Bool×Bool×Bool×Bool×Bool×Bool×Unit) (K:(Int×Int×Int×Int×Int×Bys×Int×Int×Bys×Int×Int×Int×Int×Bool×Bool×Bool×Bool×Bool×Bool×Unit)->Option (Int×Unit)),
  A=some (.inr v)->aC A K=K v:=fun A v K h=>by rw[h];rfl
 cases uq
 ·refine Eq.trans (step1 _ _ _ (by exact rfl)) ?_
  cases up
  ·refine Eq.trans (step1 _ _ _ (by exact rfl)) ?_
   dsimp only
   generalize wg un=b3
   generalize cK art=b4
   generalize cK unit=b5
   generalize zT to=b6
   generalize (art==[])=c1
   generalize (q1==0)=c2
   generalize (q2==0)=c3
   generalize (unit==[])=c4
   generalize (p1==0)=c5
   generalize (p2==0)=c6
   generalize (un != 0)=c7
   generalize (to != 0)=c8
   cases uu
   ·cases ua
    ·cases ut
     ·cases c1<;>first | rfl | (cases c4<;>first | rfl | (cases c7<;>first | rfl | (cases c8<;>first | rfl | (cases c2<;>first | rfl | (cases c3<;>first | rfl | (cases c5<;>first | rfl | (cases c6<;>rfl)))))))
     ·cases b6
      ·rfl
      ·cases c1<;>first | rfl | (cases c4<;>first | rfl | (cases c7<;>first | rfl | (cases c8<;>first | rfl | (cases c2<;>first | rfl | (cases c3<;>first | rfl | (cases c5<;>first | rfl | (cases c6<;>rfl)))))))
    ·cases b4
     ·rfl
     ·cases b5
      ·rfl
      ·cases ut
       ·cases c1<;>first | rfl | (cases c4<;>first | rfl | (cases c7<;>first | rfl | (cases c8<;>first | rfl | (cases c2<;>first | rfl | (cases c3<;>first | rfl | (cases c5<;>first | rfl | (cases c6<;>rfl)))))))
       ·cases b6
        ·rfl
        ·cases c1<;>first | rfl | (cases c4<;>first | rfl | (cases c7<;>first | rfl | (cases c8<;>first | rfl | (cases c2<;>first | rfl | (cases c3<;>first | rfl | (cases c5<;>first | rfl | (cases c6<;>rfl)))))))
   ·cases b3
    ·rfl
    ·cases ua
     ·cases ut
      ·cases c1<;>first | rfl | (cases c4<;>first | rfl | (cases c7<;>first | rfl | (cases c8<;>first | rfl | (cases c2<;>first | rfl | (cases c3<;>first | rfl | (cases c5<;>first | rfl | (cases c6<;>rfl)))))))
      ·cases b6
       ·rfl
       ·cases c1<;>first | rfl | (cases c4<;>first | rfl | (cases c7<;>first | rfl | (cases c8<;>first | rfl | (cases c2<;>first | rfl | (cases c3<;>first | rfl | (cases c5<;>first | rfl | (cases c6<;>rfl)))))))
     ·cases b4
      ·rfl
      ·cases b5
       ·rfl
       ·cases ut
        ·cases c1<;>first | rfl | (cases c4<;>first | rfl | (cases c7<;>first | rfl | (cases c8<;>first | rfl | (cases c2<;>first | rfl | (cases c3<;>first | rfl | (cases c5<;>first | rfl | (cases c6<;>rfl)))))))
        ·cases b6
         ·rfl
         ·cases c1<;>first | rfl | (cases c4<;>first | rfl | (cases c7<;>first | rfl | (cases c8<;>first | rfl | (cases c2<;>first | rfl | (cases c3<;>first | rfl | (cases c5<;>first | rfl | (cases c6<;>rfl)))))))
  ·dsimp only
   generalize inR (p1,p2) 0 1000000000 4=b2
   cases b2
   ·rfl
   ·refine Eq.trans (step1 _ _ _ (by exact rfl)) ?_
    dsimp only
    generalize wg un=b3
    generalize cK art=b4
    generalize cK unit=b5
    generalize zT to=b6
    generalize (art==[])=c1
    generalize (q1==0)=c2
    generalize (q2==0)=c3
    generalize (unit==[])=c4
    generalize (p1==0)=c5
    generalize (p2==0)=c6
    generalize (un != 0)=c7
    generalize (to != 0)=c8
    cases uu
    ·cases ua
     ·cases ut
      ·cases c1<;>first | rfl | (cases c4<;>first | rfl | (cases c7<;>first | rfl | (cases c8<;>first | rfl | (cases c2<;>first | rfl | (cases c3<;>first | rfl | (cases c5<;>first | rfl | (cases c6<;>rfl)))))))
      ·cases b6
       ·rfl
       ·cases c1<;>first | rfl | (cases c4<;>first | rfl | (cases c7<;>first | rfl | (cases c8<;>first | rfl | (cases c2<;>first | rfl | (cases c3<;>first | rfl | (cases c5<;>first | rfl | (cases c6<;>rfl)))))))
     ·cases b4
      ·rfl
      ·cases b5
       ·rfl
       ·cases ut
        ·cases c1<;>first | rfl | (cases c4<;>first | rfl | (cases c7<;>first | rfl | (cases c8<;>first | rfl | (cases c2<;>first | rfl | (cases c3<;>first | rfl | (cases c5<;>first | rfl | (cases c6<;>rfl)))))))
        ·cases b6
         ·rfl
         ·cases c1<;>first | rfl | (cases c4<;>first | rfl | (cases c7<;>first | rfl | (cases c8<;>first | rfl | (cases c2<;>first | rfl | (cases c3<;>first | rfl | (cases c5<;>first | rfl | (cases c6<;>rfl)))))))
    ·cases b3
     ·rfl
     ·cases ua
      ·cases ut
       ·cases c1<;>first | rfl | (cases c4<;>first | rfl | (cases c7<;>first | rfl | (cases c8<;>first | rfl | (cases c2<;>first | rfl | (cases c3<;>first | rfl | (cases c5<;>first | rfl | (cases c6<;>rfl)))))))
       ·cases b6
        ·rfl
        ·cases c1<;>first | rfl | (cases c4<;>first | rfl | (cases c7<;>first | rfl | (cases c8<;>first | rfl | (cases c2<;>first | rfl | (cases c3<;>first | rfl | (cases c5<;>first | rfl | (cases c6<;>rfl)))))))
      ·cases b4
       ·rfl
       ·cases b5
        ·rfl
        ·cases ut
         ·cases c1<;>first | rfl | (cases c4<;>first | rfl | (cases c7<;>first | rfl | (cases c8<;>first | rfl | (cases c2<;>first | rfl | (cases c3<;>first | rfl | (cases c5<;>first | rfl | (cases c6<;>rfl)))))))
         ·cases b6
          ·rfl
          ·cases c1<;>first | rfl | (cases c4<;>first | rfl | (cases c7<;>first | rfl | (cases c8<;>first | rfl | (cases c2<;>first | rfl | (cases c3<;>first | rfl | (cases c5<;>first | rfl | (cases c6<;>rfl)))))))
 ·cases b1
  ·rfl
  ·refine Eq.trans (step1 _ _ _ (by exact rfl)) ?_
   cases up
   ·refine Eq.trans (step1 _ _ _ (by exact rfl)) ?_
    dsimp only
    generalize wg un=b3
    generalize cK art=b4
    generalize cK unit=b5
    generalize zT to=b6
    generalize (art==[])=c1
    generalize (q1==0)=c2
    generalize (q2==0)=c3
    generalize (unit==[])=c4
    generalize (p1==0)=c5
    generalize (p2==0)=c6
    generalize (un != 0)=c7
    generalize (to != 0)=c8
    cases uu
    ·cases ua
     ·cases ut
      ·cases c1<;>first | rfl | (cases c4<;>first | rfl | (cases c7<;>first | rfl | (cases c8<;>first | rfl | (cases c2<;>first | rfl | (cases c3<;>first | rfl | (cases c5<;>first | rfl | (cases c6<;>rfl)))))))
      ·cases b6
       ·rfl
       ·cases c1<;>first | rfl | (cases c4<;>first | rfl | (cases c7<;>first | rfl | (cases c8<;>first | rfl | (cases c2<;>first | rfl | (cases c3<;>first | rfl | (cases c5<;>first | rfl | (cases c6<;>rfl)))))))
     ·cases b4
      ·rfl
      ·cases b5
       ·rfl
       ·cases ut
        ·cases c1<;>first | rfl | (cases c4<;>first | rfl | (cases c7<;>first | rfl | (cases c8<;>first | rfl | (cases c2<;>first | rfl | (cases c3<;>first | rfl | (cases c5<;>first | rfl | (cases c6<;>rfl)))))))
        ·cases b6
         ·rfl
         ·cases c1<;>first | rfl | (cases c4<;>first | rfl | (cases c7<;>first | rfl | (cases c8<;>first | rfl | (cases c2<;>first | rfl | (cases c3<;>first | rfl | (cases c5<;>first | rfl | (cases c6<;>rfl)))))))
    ·cases b3
     ·rfl
     ·cases ua
      ·cases ut
       ·cases c1<;>first | rfl | (cases c4<;>first | rfl | (cases c7<;>first | rfl | (cases c8<;>first | rfl | (cases c2<;>first | rfl | (cases c3<;>first | rfl | (cases c5<;>first | rfl | (cases c6<;>rfl)))))))
       ·cases b6
        ·rfl
        ·cases c1<;>first | rfl | (cases c4<;>first | rfl | (cases c7<;>first | rfl | (cases c8<;>first | rfl | (cases c2<;>first | rfl | (cases c3<;>first | rfl | (cases c5<;>first | rfl | (cases c6<;>rfl)))))))
      ·cases b4
       ·rfl
       ·cases b5
        ·rfl
        ·cases ut
         ·cases c1<;>first | rfl | (cases c4<;>first | rfl | (cases c7<;>first | rfl | (cases c8<;>first | rfl | (cases c2<;>first | rfl | (cases c3<;>first | rfl | (cases c5<;>first | rfl | (cases c6<;>rfl)))))))
         ·cases b6
          ·rfl
          ·cases c1<;>first | rfl | (cases c4<;>first | rfl | (cases c7<;>first | rfl | (cases c8<;>first | rfl | (cases c2<;>first | rfl | (cases c3<;>first | rfl | (cases c5<;>first | rfl | (cases c6<;>rfl)))))))
   ·dsimp only
    generalize inR (p1,p2) 0 1000000000 4=b2
    cases b2
    ·rfl
    ·refine Eq.trans (step1 _ _ _ (by exact rfl)) ?_
     dsimp only
     generalize wg un=b3
     generalize cK art=b4
     generalize cK unit=b5
     generalize zT to=b6
     generalize (art==[])=c1
     generalize (q1==0)=c2
     generalize (q2==0)=c3
     generalize (unit==[])=c4
     generalize (p1==0)=c5
     generalize (p2==0)=c6
     generalize (un != 0)=c7
     generalize (to != 0)=c8
     cases uu
     ·cases ua
      ·cases ut
       ·cases c1<;>first | rfl | (cases c4<;>first | rfl | (cases c7<;>first | rfl | (cases c8<;>first | rfl | (cases c2<;>first | rfl | (cases c3<;>first | rfl | (cases c5<;>first | rfl | (cases c6<;>rfl)))))))
       ·cases b6
        ·rfl
        ·cases c1<;>first | rfl | (cases c4<;>first | rfl | (cases c7<;>first | rfl | (cases c8<;>first | rfl | (cases c2<;>first | rfl | (cases c3<;>first | rfl | (cases c5<;>first | rfl | (cases c6<;>rfl)))))))
      ·cases b4
       ·rfl
       ·cases b5
        ·rfl
        ·cases ut
         ·cases c1<;>first | rfl | (cases c4<;>first | rfl | (cases c7<;>first | rfl | (cases c8<;>first | rfl | (cases c2<;>first | rfl | (cases c3<;>first | rfl | (cases c5<;>first | rfl | (cases c6<;>rfl)))))))
         ·cases b6
          ·rfl
          ·cases c1<;>first | rfl | (cases c4<;>first | rfl | (cases c7<;>first | rfl | (cases c8<;>first | rfl | (cases c2<;>first | rfl | (cases c3<;>first | rfl | (cases c5<;>first | rfl | (cases c6<;>rfl)))))))
     ·cases b3
      ·rfl
      ·cases ua
       ·cases ut
        ·cases c1<;>first | rfl | (cases c4<;>first | rfl | (cases c7<;>first | rfl | (cases c8<;>first | rfl | (cases c2<;>first | rfl | (cases c3<;>first | rfl | (cases c5<;>first | rfl | (cases c6<;>rfl)))))))
        ·cases b6
         ·rfl
         ·cases c1<;>first | rfl | (cases c4<;>first | rfl | (cases c7<;>first | rfl | (cases c8<;>first | rfl | (cases c2<;>first | rfl | (cases c3<;>first | rfl | (cases c5<;>first | rfl | (cases c6<;>rfl)))))))
       ·cases b4
        ·rfl
        ·cases b5
         ·rfl
         ·cases ut
          ·cases c1<;>first | rfl | (cases c4<;>first | rfl | (cases c7<;>first | rfl | (cases c8<;>first | rfl | (cases c2<;>first | rfl | (cases c3<;>first | rfl | (cases c5<;>first | rfl | (cases c6<;>rfl)))))))
          ·cases b6
           ·rfl
           ·cases c1<;>first | rfl | (cases c4<;>first | rfl | (cases c7<;>first | rfl | (cases c8<;>first | rfl | (cases c2<;>first | rfl | (cases c3<;>first | rfl | (cases c5<;>first | rfl | (cases c6<;>rfl)))))))
def bp (d:aa):Int:=
 if ¬(1<=d.1/\d.1<=3652059) then 1
 else if ¬(1<=d.2.1/\d.2.1<=2) then 4
 else if ¬(1<=d.2.2.1/\d.2.2.1<=2000) then 1
 else if ¬(1<=d.2.2.2.1/\d.2.2.2.1<=11) then 4
 else if ¬((d.2.2.2.1=5\/d.2.2.2.1=6\/d.2.2.2.1=7\/d.2.2.2.1=9)↔d.2.1=2) then 4
 else if ¬(1<=d.2.2.2.2.1/\d.2.2.2.2.1<=99999) then 1
 else AO d
theorem Pz (n a b:Int):decide (n<a\/b<n)= !decide (a<=n/\n<=b):=by
 by_cases h1:a<=n<;>by_cases h2:n<=b<;>simp[h1,h2]<;>omega
theorem IU (d:aa):qI d=some (bp d,()):=by
 unfold qI bp
 simp only[ry,gQ,Pz,fK,IW,afO]
 by_cases h1:1<=d.1/\d.1<=3652059
 ·by_cases h2:1<=d.2.1/\d.2.1<=2
  ·by_cases h3:1<=d.2.2.1/\d.2.2.1<=2000
   ·by_cases h4:1<=d.2.2.2.1/\d.2.2.2.1<=11
    ·by_cases h5:(d.2.2.2.1=5\/d.2.2.2.1=6\/d.2.2.2.1=7\/d.2.2.2.1=9)↔d.2.1=2
     ·have e5:(decide (d.2.2.2.1=5\/d.2.2.2.1=6\/d.2.2.2.1=7\/d.2.2.2.1=9)==(d.2.1==2))=true:=by
       by_cases h6:d.2.1=2
       ·simp[h6,h5.2 h6]
       ·have:¬(d.2.2.2.1=5\/d.2.2.2.1=6\/d.2.2.2.1=7\/d.2.2.2.1=9):=fun h=>h6 (h5.1 h)
        simp[h6,this]
      by_cases h6:1<=d.2.2.2.2.1/\d.2.2.2.2.1<=99999
      ·rw[e5]
       simp only[h1,h2,h3,h4,h5,h6,iff_self,af9,ads,af1,not_true,agc,afV]
      ·rw[e5]
       simp only[h1,h2,h3,h4,h5,h6,iff_self,af9,af8,ads,adr,af1,af2,not_true,agj,agc,agf,afV]
     ·have e5:(decide (d.2.2.2.1=5\/d.2.2.2.1=6\/d.2.2.2.1=7\/d.2.2.2.1=9)==(d.2.1==2))=false:=by
       by_cases h6:d.2.1=2
       ·have:¬(d.2.2.2.1=5\/d.2.2.2.1=6\/d.2.2.2.1=7\/d.2.2.2.1=9):=fun h=>h5 ⟨fun _=>h6,fun _=>h⟩
        simp[h6,this]
       ·have:(d.2.2.2.1=5\/d.2.2.2.1=6\/d.2.2.2.1=7\/d.2.2.2.1=9):=Classical.byContradiction fun h=>h5 ⟨fun h'=>absurd h' h,fun h'=>absurd h' h6⟩
        simp[h6,this]
      rw[e5]
      simp only[h1,h2,h3,h4,h5,af9,ads,adr,af1,af2,not_true,agj,agc,agf,afV]
    ·simp only[h1,h2,h3,h4,af9,af8,ads,adr,af1,af2,not_true,agj,agc,agf,afV]
   ·simp only[h1,h2,h3,af9,af8,ads,adr,af1,af2,not_true,agj,agc,agf,afV]
  ·simp only[h1,h2,af9,af8,ads,adr,af1,af2,not_true,agj,agc,agf,afV]
 ·simp only[h1,af8,adr,af2,agj,agf]
theorem bH {d:aa} (h:bp d=0):(1<=d.1/\d.1<=3652059)/\(1<=d.2.1/\d.2.1<=2)/\(1<=d.2.2.1/\d.2.2.1<=2000)/\(1<=d.2.2.2.1/\d.2.2.2.1<=11)/\ ((d.2.2.2.1=5\/d.2.2.2.1=6\/d.2.2.2.1=7\/d.2.2.2.1=9)↔d.2.1=2)/\(1<=d.2.2.2.2.1/\d.2.2.2.2.1<=99999)/\AO d=0:=by
 unfold bp at h
 split at h
 ·cases h
 ·rename_i h1
  split at h
  ·cases h
  ·rename_i h2
   split at h
   ·cases h
   ·rename_i h3
    split at h
    ·cases h
    ·rename_i h4
     split at h
     ·cases h
     ·rename_i h5
      split at h
      ·cases h
      ·rename_i h6
       exact⟨adw.1 h1,adw.1 h2,adw.1 h3,adw.1 h4,adw.1 h5,adw.1 h6,h⟩
end Go.Md
namespace Go.Md
open Go.Dn
def dCw (a b:aa):Int:=if w64 (a.1 - b.1)≠0 then w64 (a.1 - b.1) else if w64 (a.2.1 - b.2.1)≠0 then w64 (a.2.1 - b.2.1) else w64 (a.2.2.1 - b.2.2.1)
theorem Gd (a b:aa):ju a b=some (dCw a b,()):=by
 unfold ju dCw
 generalize w64 (a.1 - b.1)=x
 generalize w64 (a.2.1 - b.2.1)=y
 generalize w64 (a.2.2.1 - b.2.2.1)=z
 simp only[aew,aeC]
 have key:iter (X:=jF) (β:=jE) 8 (3,0,[x,y,z],()) og=(bif x != 0 then some (Sum.inl (x,())) else bif y != 0 then some (Sum.inl (y,())) else bif z != 0 then some (Sum.inl (z,())) else some (Sum.inr ())):=by kernel_rfl
 show aC (β:=(Int×Unit)) (γ:=Unit) (iter 8 (3,0,[x,y,z],()) og) _=_
 rw[key]
 by_cases hx:x=0
 ·subst hx
  by_cases hy:y=0
  ·subst hy
   by_cases hz:z=0
   ·subst hz;rfl
   ·have:(z != 0)=true:=by simp[hz]
    rw[this];simp[aC]
  ·have:(y != 0)=true:=by simp[hy]
   rw[this];simp[aC,hy]
 ·have:(x != 0)=true:=by simp[hx]
  rw[this];simp[aC,hx]
def dA:List aa->Option aa->Int->Int->Int
 | [],_,_,_=>0
 | d::r,p,nb,ns=>
  if bp d≠0 then bp d
  else if (p.any fun q=>decide (0<=dCw q d))=true then 8
  else if d.2.1=1 then (if d.2.2.1≠w64 (nb+1) then 9 else dA r (some d) d.2.2.1 ns)
  else (if d.2.2.1≠w64 (ns+1) then 9 else dA r (some d) nb d.2.2.1)
def eY (l:List aa):Int:=if 2000<l.length then 2 else dA l none 0 0
def bM {α:Type} (l:List α):Nat->Option α
 | 0=>none
 | i+1=>l[i]?
def dG (a0:List aa) (s:Int×Int×Int) (i:Nat) (y:aa) (k:(Int×Int×Int)->Option gp):Option gp:=
 if bp y≠0 then some (Sum.inl (bp y,()))
 else if ((bM a0 i).any fun q=>decide (0<=dCw q y))=true then some (Sum.inl (8,()))
 else if y.2.1=1 then (if y.2.2.1≠w64 (s.2.1+1) then some (Sum.inl (9,())) else k (s.1,y.2.2.1,s.2.2))
 else (if y.2.2.1≠w64 (s.2.2+1) then some (Sum.inl (9,())) else k (s.1,s.2.1,y.2.2.1))
theorem cr {a b:Int} (h:a≠b):(a != b)=true:=by simp[h]
theorem cL {a b:Int} (h:a≠b):(a==b)=false:=by simp[h]
theorem bG {α:Type} {l:List α} {i:Nat} {y:α} (h:l[i]? =some y):idx l (i:Int)=some y:=by
 unfold idx
 rw[age (adG i)]
 exact h
theorem MU (a0:List aa) (hl:a0.length<=2000) (s:Int×Int×Int) (i:Nat) (y:aa) (again:iT->Option gp) (hy:a0[i]? =some y): iS (a0,a0,(a0.length:Int),(i:Int),s.1,s.2.1,s.2.2,()) again=dG a0 s i y fun s'=>again (a0,a0,(a0.length:Int),((i+1:Nat):Int),s'.1,s'.2.1,s'.2.2,()):=by
 have hi:i<a0.length:=(aej.1 hy).1
 unfold iS dG
 dsimp only
 rw[af6 (show (i:Int)<(a0.length:Int) by omega),af2,bG hy,afO,IU,afO]
 dsimp only
 have hw:w64 ((i:Int)+1)=((i+1:Nat):Int):=by rw[aA (by omega) (by omega)];omega
 rw[hw]
 by_cases hf:bp y=0
 ·rw[hf,zne,af1,agd (by simp)]
  obtain⟨_,hby,_⟩:=bH hf
  have hprev':(bif decide ((i:Int)>0) then Option.bind (idx a0 (w64 ((i:Int) - 1))) fun y4=>Option.bind (ju y4 y) fun r5=>some (decide (r5.1>=0),()) else some (false,()))=some ((bM a0 i).any fun q=>decide (0<=dCw q y),()):=by
   cases i with
   | zero=>rfl
   | succ j=>
    have hj:j<a0.length:=by omega
    have hq:a0[j]? =some a0[j]:=aeh hj
    have e:w64 (((j+1:Nat):Int) - 1)=(j:Int):=by rw[aA (by omega) (by omega)];omega
    rw[af6 (by omega),af2,e,bG hq,afO,Gd,afO]
    simp only[bM,hq,Option.any_some]
  rw[hprev',afO]
  dsimp only
  cases ((bM a0 i).any fun q=>decide (0<=dCw q y)) with
  | true=>rfl
  | false=>
   rw[af1,agd (by simp)]
   by_cases h1:y.2.1=1
   ·rw[cL (show y.2.1≠0 by omega),af1,show (y.2.1==1)=true by simp[h1],af2,age h1]
    by_cases hn:y.2.2.1=w64 (s.2.1+1)
    ·rw[show (y.2.2.1 != w64 (s.2.1+1))=false by simp[hn],af1,agd (by simp[hn])]
     rfl
    ·rw[cr hn,af2,age hn]
   ·have h2:y.2.1=2:=by omega
    rw[cL (show y.2.1≠0 by omega),af1,cL h1,af1,show (y.2.1==2)=true by simp[h2],af2,agd h1]
    by_cases hn:y.2.2.1=w64 (s.2.2+1)
    ·rw[show (y.2.2.1 != w64 (s.2.2+1))=false by simp[hn],af1,agd (by simp[hn])]
     rfl
    ·rw[cr hn,af2,age hn]
 ·rw[cr hf,af2,age hf]
def L7 (f:Int):Option ((Int×Unit) ⊕ Unit):=if f=0 then some (Sum.inr ()) else some (Sum.inl (f,()))
theorem Iw {f:Int} (h:f=0):L7 f=some (Sum.inr ()):=age h
theorem EF {f:Int} (h:f≠0):L7 f=some (Sum.inl (f,())):=agd h
theorem Ih (a0:List aa):∀ (r:List aa) (i:Nat) (s:Int×Int×Int),a0.drop i=r-> tr (dG a0) (fun _=>some (Sum.inr ())) r i s=L7 (dA r (bM a0 i) s.2.1 s.2.2)
 | [],_,_,_=>by simp[tr,dA,L7]
 | y::r,i,s,hd=>by
  have hy:a0[i]? =some y:=by
   have:=congrArg (·[0]?) hd
   simpa [aeg] using this
  have hr:a0.drop (i+1)=r:=by
   have:=congrArg List.tail hd
   simpa [afb] using this
  have hp:bM a0 (i+1)=some y:=hy
  show dG a0 s i y (fun s'=>tr (dG a0) (fun _=>some (Sum.inr ())) r (i+1) s')=_
  rw[show (fun s'=>tr (dG a0) (fun _=>some (Sum.inr ())) r (i+1) s')=fun s'=>L7 (dA r (bM a0 (i+1)) s'.2.1 s'.2.2) from funext fun s'=>Ih a0 r (i+1) s' hr,hp]
  unfold dG
  by_cases hf:bp y=0
  ·have e0:¬bp y≠0:=fun h=>h hf
   rw[agd e0]
   by_cases ha:((bM a0 i).any fun q=>decide (0<=dCw q y))=true
   ·rw[age ha,show dA (y::r) (bM a0 i) s.2.1 s.2.2=8 by simp only[dA];rw[agd e0,age ha]]
    rfl
   ·rw[agd ha]
    by_cases h1:y.2.1=1
    ·rw[age h1]
     by_cases hn:y.2.2.1≠w64 (s.2.1+1)
     ·rw[age hn,show dA (y::r) (bM a0 i) s.2.1 s.2.2=9 by simp only[dA];rw[agd e0,agd ha,age h1,age hn]]
      rfl
     ·rw[agd hn,show dA (y::r) (bM a0 i) s.2.1 s.2.2=dA r (some y) y.2.2.1 s.2.2 by rw[dA,agd e0,agd ha,age h1,agd hn]]
    ·rw[agd h1]
     by_cases hn:y.2.2.1≠w64 (s.2.2+1)
     ·rw[age hn,show dA (y::r) (bM a0 i) s.2.1 s.2.2=9 by simp only[dA];rw[agd e0,agd ha,agd h1,age hn]]
      rfl
     ·rw[agd hn,show dA (y::r) (bM a0 i) s.2.1 s.2.2=dA r (some y) s.2.1 y.2.2.1 by rw[dA,agd e0,agd ha,agd h1,agd hn]]
  ·rw[age hf,show dA (y::r) (bM a0 i) s.2.1 s.2.2=bp y by rw[dA,age hf],EF hf]
theorem xD (l:List aa):dL l=some (eY l,()):=by
 unfold dL eY
 by_cases hl:2000<l.length
 ·rw[af6 (show (l.length:Int)>2000 by omega),af2,age hl]
 ·rw[af4 (show ¬ (l.length:Int)>2000 by omega),af1,agd hl]
  have:=ru (f:=iS) (fun (s:Int×Int×Int) (i:Nat)=>((l,l,(l.length:Int),(i:Int),s.1,s.2.1,s.2.2,()):iT)) l (dG l) (fun _=>some (Sum.inr ()))
   (fun s i y again hy=>MU l (by omega) s i y again hy) (fun s again=>by
     unfold iS
     dsimp only
     rw[af4 (by omega)];rfl) (0,0,0)
  refine (congrArg (fun z=>aC (β:=(Int×Unit)) (γ:=Unit) z fun _=>some (0,())) (this _ (by omega))).trans ?_
  rw[Ih l l 0 (0,0,0) rfl]
  simp only[bM]
  by_cases h:dA l none 0 0=0
  ·rw[Iw h,h];rfl
  ·rw[EF h];rfl
theorem Bl:∀ {l:List aa} {p:Option aa} {nb ns:Int},dA l p nb ns=0->∀ d,d∈l->bp d=0
 | [],_,_,_,_,_,h=>by cases h
 | y::r,p,nb,ns,h,d,hd=>by
  simp only[dA] at h
  by_cases hf:bp y=0
  ·rw[agd (by simp[hf])] at h
   rcases aeP.1 hd with rfl | hd
   ·exact hf
   ·split at h
    ·cases h
    ·split at h
     ·split at h
      ·cases h
      ·exact Bl h d hd
     ·split at h
      ·cases h
      ·exact Bl h d hd
  ·rw[age hf] at h
   exact absurd h hf
theorem nh {l:List aa} (h:eY l=0):l.length<=2000/\∀ d,d∈l->bp d=0:=by
 unfold eY at h
 split at h
 ·cases h
 ·rename_i hl
  exact⟨by omega,Bl h⟩
abbrev BM (o:aj):=o.1
abbrev BL (o:aj):=o.2.1
abbrev F9 (o:aj):=o.2.2.1
abbrev bZ (o:aj):=o.2.2.2.1
abbrev b8 (o:aj):=o.2.2.2.2.1
abbrev aS (o:aj):=o.2.2.2.2.2
def di (day:Int) (p:Option ai) (x:ai):Int:=
 if ¬(1<=x.1/\x.1<=99999) then 1
 else if (p.any fun q=>decide (x.1<=q.1))=true then 8
 else if cK x.2.1=false then 5
 else if qOk x.2.2.1 false=false then 1
 else if cK x.2.2.2.1=false then 5
 else if inR x.2.2.2.2.1 0 1000000000 4=false then 1
 else if ¬(day<=x.2.2.2.2.2/\x.2.2.2.2.2<=3652059) then 1
 else 0
def iy (day:Int):List ai->Option ai->Int
 | [],_=>0
 | x::r,p=>if di day p x≠0 then di day p x else iy day r (some x)
def dP (o:aj):Int:=
 if cK (BM o)=false\/cK (BL o)=false\/cK (F9 o)=false then 5
 else if BL o=F9 o then 12
 else if ¬(1<=bZ o/\bZ o<=3652059) then 1
 else if ¬(0<=b8 o/\b8 o<=1000) then 1
 else if aS o=[] then 9
 else if 500<(aS o).length then 2
 else iy (bZ o) (aS o) none
theorem acF (b:Bool):((if b=true then (0:Int) else 1) != 0)= !b:=by cases b<;>rfl
theorem IV (o:aj) (i:Nat) (x:ai) (hi:(aS o)[i]? =some x) (hl:(aS o).length<=500):qJ o (i:Int)=some (di (bZ o) (bM (aS o) i) x,()):=by
 have hlt:i<(aS o).length:=(aej.1 hi).1
 unfold qJ
 rw[bG hi,afO]
 simp only[gQ,Pz,zU,tQ,xE,afO,acF]
 have tail:∀ (p:Option ai) (hp:(p.any fun q=>decide (x.1<=q.1))=false) (h1:1<=x.1/\x.1<=99999),
  (bif !cK x.2.1 then some (5,()) else bif !qOk x.2.2.1 false then some ((if qOk x.2.2.1 false=true then 0 else 1),()) else bif !cK x.2.2.2.1 then some (5,()) else
    bif !inR x.2.2.2.2.1 0 1000000000 4 then some ((if inR x.2.2.2.2.1 0 1000000000 4=true then 0 else 1),()) else bif !decide (bZ o<=x.2.2.2.2.2/\x.2.2.2.2.2<=3652059) then some (1,()) else some (0,()))=some (di (bZ o) p x,()):=fun p hp h1=>by
  unfold di
  rw[agd (show ¬¬(1<=x.1/\x.1<=99999) from fun h=>h h1),agd (show ¬(p.any fun q=>decide (x.1<=q.1))=true by rw[hp];exact adm)]
  cases cK x.2.1
  ·rfl
  ·cases qOk x.2.2.1 false
   ·rfl
   ·cases cK x.2.2.2.1
    ·rfl
    ·cases inR x.2.2.2.2.1 0 1000000000 4
     ·rfl
     ·by_cases hd:bZ o<=x.2.2.2.2.2/\x.2.2.2.2.2<=3652059
      ·simp[hd]
      ·simp[hd]
 by_cases h1:1<=x.1/\x.1<=99999
 ·rw[af6 h1,ads,af1]
  cases i with
  | zero=>
   rw[af4 (show ¬((0:Nat):Int)>0 by omega),af1]
   exact tail none rfl h1
  | succ j=>
   have hq:(aS o)[j]? =some (aS o)[j]:=aeh (by omega)
   have e:w64 (((j+1:Nat):Int) - 1)=(j:Int):=by rw[aA (by omega) (by omega)];omega
   rw[af6 (show ((j+1:Nat):Int)>0 by omega),af2,e,bG hq,afO]
   simp only[bM,hq]
   by_cases h2:x.1<=(aS o)[j].1
   ·rw[af6 h2,afO]
    have:di (bZ o) (some (aS o)[j]) x=8:=by
     unfold di
     rw[agd (show ¬¬(1<=x.1/\x.1<=99999) from fun h=>h h1),age (show (Option.any (fun q=>decide (x.1<=q.1)) (some (aS o)[j]))=true from af6 h2)]
    rw[this]
    rfl
   ·rw[af4 h2,afO]
    exact tail (some (aS o)[j]) (by simp[h2]) h1
 ·rw[af4 h1,adr,af2]
  unfold di
  rw[age h1]
theorem zV (a0:List ai) (day:Int):∀ (r:List ai) (i:Nat) (s:Unit),a0.drop i=r-> tr (fun (_:Unit) i y k=>if di day (bM a0 i) y≠0 then some (Sum.inl (di day (bM a0 i) y,())) else k ()) (fun _=>(some (Sum.inr ()):Option kL)) r i s=L7 (iy day r (bM a0 i))
 | [],_,_,_=>by simp[tr,iy,L7]
 | y::r,i,s,hd=>by
  have hy:a0[i]? =some y:=by
   have:=congrArg (·[0]?) hd
   simpa [aeg] using this
  have hr:a0.drop (i+1)=r:=by
   have:=congrArg List.tail hd
   simpa [afb] using this
  have hp:bM a0 (i+1)=some y:=hy
  have ih:=zV a0 day r (i+1) () hr
  rw[hp] at ih
  by_cases hf:di day (bM a0 i) y=0
  ·have e0:¬di day (bM a0 i) y≠0:=fun h=>h hf
   rw[show iy day (y::r) (bM a0 i)=iy day r (some y) by rw[iy,agd e0], <- ih]
   show (if di day (bM a0 i) y≠0 then _ else _)=_
   rw[agd e0]
  ·rw[show iy day (y::r) (bM a0 i)=di day (bM a0 i) y by rw[iy,age hf],EF hf]
   show (if di day (bM a0 i) y≠0 then _ else _)=_
   rw[age hf]
theorem iU (o:aj):dM o=some (dP o,()):=by
 unfold dM dP
 simp only[zU,ry,gQ,Pz,afO]
 cases h1:cK o.1
 ·simp[BM,h1]
 cases h2:cK o.2.1
 ·simp[BM,BL,h1,h2]
 cases h3:cK o.2.2.1
 ·simp[BM,BL,F9,h1,h2,h3]
 rw[agd (by simp[BM,BL,F9,h1,h2,h3])]
 simp only[ads,af1]
 by_cases h4:o.2.1=o.2.2.1
 ·rw[age h4,show (o.2.1==o.2.2.1)=true by simp[h4],af2]
 rw[agd h4,show (o.2.1==o.2.2.1)=false by simp[h4],af1]
 by_cases h5:1<=o.2.2.2.1/\o.2.2.2.1<=3652059
 ·rw[agd (by simp[bZ,h5]),af6 h5,ads,af1]
  by_cases h6:0<=o.2.2.2.2.1/\o.2.2.2.2.1<=1000
  ·rw[agd (by simp[b8,h6]),af6 h6,ads,af1]
   by_cases h7:o.2.2.2.2.2=[]
   ·rw[age h7,h7];rfl
   ·have h7':o.2.2.2.2.2.length≠0:=fun e=>h7 (ad5 e)
    rw[agd h7,cL (show (o.2.2.2.2.2.length:Int)≠0 by omega),af1]
    by_cases h8:500<o.2.2.2.2.2.length
    ·rw[age h8,af6 (by omega),af2]
    ·rw[agd h8,af4 (by omega),af1]
     have:=ru (f:=kK) (fun (_:Unit) (i:Nat)=>(((o.2.2.2.2.2.length:Int),(i:Int),o.1,o.2.1,o.2.2.1,o.2.2.2.1,o.2.2.2.2.1,o.2.2.2.2.2,()):kM)) o.2.2.2.2.2
      (fun (_:Unit) i y k=>if di (bZ o) (bM o.2.2.2.2.2 i) y≠0 then some (Sum.inl (di (bZ o) (bM o.2.2.2.2.2 i) y,())) else k ()) (fun _=>some (Sum.inr ()))
      (fun s i y again hy=>by
        have hlt:i<o.2.2.2.2.2.length:=(aej.1 hy).1
        unfold kK
        dsimp only
        rw[af6 (by omega),af2]
        have:=IV o i y hy (by show o.2.2.2.2.2.length<=500;omega)
        rw[show ((o.1,o.2.1,o.2.2.1,o.2.2.2.1,o.2.2.2.2.1,o.2.2.2.2.2):aj)=o from rfl,this,afO]
        dsimp only
        by_cases hf:di (bZ o) (bM o.2.2.2.2.2 i) y=0
        ·rw[agd (by simp[hf]),show (di (bZ o) (bM (aS o) i) y != 0)=false by simp[hf],af1,aA (by omega) (by omega)]
         rfl
        ·rw[age hf,show (di (bZ o) (bM (aS o) i) y != 0)=true by simp[hf],af2]) (fun s again=>by
        unfold kK
        dsimp only
        rw[af4 (show ¬((o.2.2.2.2.2.length:Int)<(o.2.2.2.2.2.length:Int)) by omega)];rfl) ()
     refine (congrArg (fun z=>aC (β:=(Int×Unit)) (γ:=Unit) z fun _=>some (0,())) (this _ (by omega))).trans ?_
     rw[zV o.2.2.2.2.2 (bZ o) o.2.2.2.2.2 0 () rfl]
     simp only[bM]
     by_cases h:iy (bZ o) o.2.2.2.2.2 none=0
     ·rw[Iw h,h];rfl
     ·rw[EF h];rfl
  ·rw[age h6,af4 h6];rfl
 ·rw[age h5,af4 h5];rfl
theorem uV (o:aj) (l:List aa):me o l=some (if dP o≠0 then dP o else eY l,()):=by
 unfold me
 rw[iU,afO,xD]
 dsimp only
 by_cases h:dP o=0
 ·rw[h];rfl
 ·rw[cr h,af2,age h]
end Go.Md
namespace Go.Md
open Go.Dn
def aL (d:ah):Int:=d.1*10 ^ (3 - d.2).toNat
theorem zy {d:ah} {z:Bool} (h:qOk d z=true):(0<=d.2/\d.2<=3)/\0<=d.1/\d.1<=1000000000*10 ^ d.2.toNat/\(z=false->d.1≠0):=by
 unfold qOk inR at h
 simp only[adf,af7,adu,adq,afX] at h
 obtain⟨⟨h1,h2,h3,h4⟩,h5⟩:=h
 exact⟨⟨h1.2.1,h2⟩,by omega,h4,fun hz=>by rcases h5 with h5 | h5;exact h5;rw[hz] at h5;cases h5⟩
theorem jz {d:ah} {z:Bool} (h:qOk d z=true):0<=aL d/\aL d<=1000000000000/\(z=false->0<aL d):=by
 obtain⟨⟨h1,h2⟩,h3,h4,h5⟩:=zy h
 unfold aL
 obtain⟨k,hk⟩:∃ k:Nat,d.2=k:=⟨d.2.toNat,by omega⟩
 rw[hk] at h1 h2 h4 ⊢
 have:k=0\/k=1\/k=2\/k=3:=by omega
 rcases this with rfl | rfl | rfl | rfl<;>simp at h4 ⊢ <;>refine⟨by omega,by omega,fun hz=> ?_⟩<;>have:=h5 hz<;>omega
theorem kY {d:ah} {z:Bool} (h:qOk d z=true):gx d=some (aL d,()):=by
 obtain⟨⟨h1,h2⟩,h3,h4,_⟩:=zy h
 obtain⟨u1,u2,_⟩:=jz h
 unfold gx
 rw[aA (n:=3 - d.2) (by omega) (by omega),xV (3 - d.2) (by omega) (by omega),afO]
 show some (w64 (aL d),())=_
 rw[aA (by omega) (by omega)]
structure ak where
 no:Int
 art:Bys
 unit:Bys
 ord:Int
 shp:Int
 rcv:Int
 ret:Int
 price:ah
 due:Int
 wish:Int
 ono:Int
 oq:Int
 ount:Int
abbrev ak.tup (x:ak):aP:=(x.no,x.art,x.unit,x.ord,x.shp,x.rcv,x.ret,x.price,x.due,x.wish,x.ono,x.oq,x.ount)
def ak.opn (x:ak):Int:=if x.ord - x.shp+x.ret>0 then x.ord - x.shp+x.ret else 0
structure LOk (x:ak):Prop where
 ret0:0<=x.ret
 retr:x.ret<=x.rcv
 rcvs:x.rcv<=x.shp
 shp1:x.shp<=1000000000000000
 jt:0<=x.ord
 ord1:x.ord<=1000000000000
 off:x.ono≠0->0<x.oq/\x.oq+x.shp - x.ret<=x.ord
def o9 (i:Nat):List ak->List (Int×Option Nat)
 | []=>[]
 | x::r=>(x.no,some i)::o9 (i+1) r
abbrev mapOf (A:List ak):List (Int×Option Nat):=o9 0 A
def cc (n:Int) (i:Nat):List ak->Option Nat
 | []=>none
 | x::r=>if n=x.no then some i else cc n (i+1) r
abbrev ef (n:Int) (A:List ak):Option Nat:=cc n 0 A
theorem YE (n:Int):BF n n=true:=by simp[BF]
theorem VE {n a:Int} (h:n≠a):BF n a=false:=by simp[BF,h]
theorem gJ (n:Int):∀ (A:List ak) (i:Nat),Option.getD (α:=Option Nat) (eH (k:=tI) (v:= .hnd) (o9 i A) n) none=cc n i A
 | [],i=>rfl
 | x::r,i=>by
  have e:= @QB tI .hnd (x.no,some i) (o9 (i+1) r) n
  refine (congrArg (fun z:Option (Option Nat)=>Option.getD z none) e).trans ?_
  have ih:=gJ n r (i+1)
  by_cases h:n=x.no
  ·subst h
   show Option.getD (α:=Option Nat) (bif BF x.no x.no then some (some i) else _) none=_
   rw[YE]
   simp only[cc,age]
   rfl
  ·show Option.getD (α:=Option Nat) (bif BF n x.no then some (some i) else _) none=_
   rw[VE h]
   simp only[cc,agd h]
   exact ih
theorem Mg (n:Int) (y:ak) (hy:y.no=n):∀ (A:List ak) (i:Nat),cc n i A=none->lq (k:=tI) (v:= .hnd) (o9 i A) n (some (i+A.length))=o9 i (A++[y])
 | [],i,_=>by subst hy;rfl
 | x::r,i,h=>by
  simp only[cc] at h
  by_cases hx:n=x.no
  ·rw[age hx] at h;cases h
  ·rw[agd hx] at h
   have ih:=Mg n y hy r (i+1) h
   have e:i+(x::r).length=i+1+r.length:=by simp only[aew];omega
   rw[e]
   show (bif BF n x.no then _ else (x.no,some i)::lq (k:=tI) (v:= .hnd) (o9 (i+1) r) n (some (i+1+r.length)))=_
   rw[VE hx]
   exact congrArg (fun z=>(x.no,some i)::z) ih
theorem zk:∀ (A:List ak) (i:Nat),(o9 i A).length=A.length
 | [],_=>rfl
 | x::r,i=>by simp[o9,zk r]
theorem YY {k:Nat} {y:ak}:∀ (A:List ak) (i:Nat),(∀ x,A[k]? =some x->y.no=x.no)->o9 i (A.set k y)=o9 i A:=by
 intro A
 induction A generalizing k with
 | nil=>intro i _;rfl
 | cons x r ih=>
  intro i h
  cases k with
  | zero=>simp only[List.set_cons_zero,o9];rw[h x rfl]
  | succ k=>simp only[List.set_cons_succ,o9];rw[ih (i+1) (fun z hz=>h z (by simpa using hz))]
theorem KN {n:Int}:∀ {A:List ak} {i k:Nat},cc n i A=some k->i<=k/\∃ x,A[k - i]? =some x/\x.no=n
 | [],_,_,h=>by cases h
 | x::r,i,k,h=>by
  simp only[cc] at h
  by_cases hx:n=x.no
  ·rw[age hx] at h;cases h;exact⟨aft _,x,by simp,hx.symm⟩
  ·rw[agd hx] at h
   obtain⟨h1,y,h2,h3⟩:=KN h
   refine⟨by omega,y, ?_,h3⟩
   rw[show k - i=k - (i+1)+1 by omega,aee];exact h2
theorem sJ {n:Int} {A:List ak} {k:Nat} (h:ef n A=some k):∃ x,A[k]? =some x/\x.no=n:=(KN h).2
theorem FJ {n:Int} {k:Nat} {y:ak}:∀ (A:List ak) (i:Nat),(∀ x,A[k]? =some x->y.no=x.no)->cc n i (A.set k y)=cc n i A:=by
 intro A
 induction A generalizing k with
 | nil=>intro i _;rfl
 | cons x r ih=>
  intro i h
  cases k with
  | zero=>simp only[List.set_cons_zero,cc];rw[h x rfl]
  | succ k=>simp only[List.set_cons_succ,cc];rw[ih (i+1) (fun z hz=>h z (by simpa using hz))]
theorem Ax {n:Int} {y:ak}:∀ (A:List ak) (i:Nat),cc n i (A++[y])=(cc n i A).or (if n=y.no then some (i+A.length) else none)
 | [],i=>by simp[cc]
 | x::r,i=>by
  simp only[adV,cc,aew]
  by_cases h:n=x.no
  ·simp[h]
  ·rw[agd h,agd h,Ax r (i+1),show i+(r.length+1)=i+1+r.length by omega]
theorem mq {A:List ak} {k:Nat} {x:ak} (h:A[k]? =some x):(A.map ak.tup)[k]? =some x.tup:=by rw[aek,h];rfl
theorem Wj (A:List ak) (k:Nat) (y:ak):(A.map ak.tup).set k y.tup=(A.set k y).map ak.tup:=by rw[List.map_set]
theorem JM {A:List ak} {k:Nat} {x:ak} (h:A[k]? =some x) (y:ak):(A.set k y)[k]? =some y:=by
 have:=(aej.1 h).1
 simp[aen,this]
theorem zn {A:List ak} {k:Nat} {x:ak} (h:A[k]? =some x) (hx:LOk x):jK (some k) (A.map ak.tup)=some (x.opn,()):=by
 unfold jK
 have ht:=mq h
 simp only[afO,ht]
 have:=hx.ret0;have:=hx.retr;have:=hx.rcvs;have:=hx.shp1;have:=hx.jt;have:=hx.ord1
 rw[aA (n:=x.ord - x.shp) (by omega) (by omega),aA (n:=x.ord - x.shp+x.ret) (by omega) (by omega)]
 rfl
end Go.Md
namespace Go.Md
open Go.Dn
abbrev dNo (d:aa):=d.2.2.1
abbrev aD (d:aa):=d.2.2.2.1
abbrev cO (d:aa):=d.2.2.2.2.1
abbrev dQ (d:aa):=d.2.2.2.2.2.2.1
abbrev Et (d:aa):=d.2.2.2.2.2.2.2.2.1
abbrev fW (d:aa):=d.2.2.2.2.2.2.2.2.2.1
abbrev dTo (d:aa):=d.2.2.2.2.2.2.2.2.2.2
theorem dH {d:aa} (h:AO d=0):(usQ (aD d)=true->qOk (dQ d) (aD d==2)=true)/\(usP (aD d)=true->inR (Et d) 0 1000000000 4=true)/\(usU (aD d)=true->wg (fW d)=true)/\(usA (aD d)=true->cK d.2.2.2.2.2.1=true/\cK d.2.2.2.2.2.2.2.1=true)/\(usT (aD d)=true->zT (dTo d)=true):=by
 unfold AO OE at h
 show (usQ d.2.2.2.1=true->qOk d.2.2.2.2.2.2.1 (d.2.2.2.1==2)=true)/\(usP d.2.2.2.1=true->inR d.2.2.2.2.2.2.2.2.1 0 1000000000 4=true)/\(usU d.2.2.2.1=true->wg d.2.2.2.2.2.2.2.2.2.1=true)/\(usA d.2.2.2.1=true->cK d.2.2.2.2.2.1=true/\cK d.2.2.2.2.2.2.2.1=true)/\(usT d.2.2.2.1=true->zT d.2.2.2.2.2.2.2.2.2.2=true)
 generalize usA d.2.2.2.1=ua at*
 generalize usQ d.2.2.2.1=uq at*
 generalize usP d.2.2.2.1=up at*
 generalize usU d.2.2.2.1=uu at*
 generalize usT d.2.2.2.1=ut at*
 generalize qOk d.2.2.2.2.2.2.1 (d.2.2.2.1==2)=b1 at*
 generalize inR d.2.2.2.2.2.2.2.2.1 0 1000000000 4=b2 at*
 generalize wg d.2.2.2.2.2.2.2.2.2.1=b3 at*
 generalize cK d.2.2.2.2.2.1=b4 at*
 generalize cK d.2.2.2.2.2.2.2.1=b5 at*
 generalize zT d.2.2.2.2.2.2.2.2.2.2=b6 at*
 cases hq:(uq&& !b1)
 ·rw[hq,af1] at h
  cases hp:(up&& !b2)
  ·rw[hp,af1] at h
   cases hu:(uu&& !b3)
   ·rw[hu,af1] at h
    cases ha:(ua&&(!b4|| !b5))
    ·rw[ha,af1] at h
     cases ht:(ut&& !b6)
     ·refine⟨?_, ?_, ?_, ?_, ?_⟩
      ·revert hq;cases uq<;>cases b1<;>simp
      ·revert hp;cases up<;>cases b2<;>simp
      ·revert hu;cases uu<;>cases b3<;>simp
      ·revert ha;cases ua<;>cases b4<;>cases b5<;>simp
      ·revert ht;cases ut<;>cases b6<;>simp
     ·rw[ht,af2] at h;cases h
    ·rw[ha,af2] at h;cases h
   ·rw[hu,af2] at h;cases h
  ·rw[hp,af2] at h;cases h
 ·rw[hq,af2] at h;cases h
def qV (day:Int) (i:Int) (d:aa) (x:ak):Int×ak:=
 if aD d=3/\fW d<day then (1,x) else if 0<=x.wish then (11,x) else (0,{ x with wish:=i })
def lM (l:List aa) (x:ak):aa:=l.getD x.wish.toNat (0,0,0,0,0,[],(0,0),[],(0,0),0,0)
def bO (l:List aa) (d:aa) (x:ak):Int×ak:=
 if x.wish<0 then (5,x)
 else if dNo (lM l x)≠dTo d then (5,x)
 else if aD d=5 then
  (if aD (lM l x)=2 then (if aL (dQ (lM l x))<x.shp - x.ret then (12,x) else (0,{ x with ord:=aL (dQ (lM l x)),wish:= -1 }))
  else if aD (lM l x)=1 then (0,{ x with ord:=aL (dQ (lM l x)),wish:= -1 })
  else if aD (lM l x)=3 then (0,{ x with due:=fW (lM l x),wish:= -1 })
  else (0,{ x with price:=Et (lM l x),wish:= -1 }))
 else (0,{ x with wish:= -1 })
def jX (day:Int) (d:aa) (x:ak):Int:=
 if fW d<day then 1 else if 0<=x.wish\/x.opn=0 then 11 else if x.opn<aL (dQ d) then 12 else 0
def AN (d:aa) (x:ak):Int×ak:=
 if 0<=x.wish then (11,x) else if x.ono=0\/x.ono≠dTo d then (5,x) else (0,{ x with ord:=x.shp - x.ret+x.oq,due:=x.ount,ono:=0,oq:=0,ount:=0 })
def cC (ext:Int) (d:aa) (x:ak):Int×ak:=
 if aD d=9 then
  (if x.ord+x.ord*ext / 1000<x.shp - x.ret+aL (dQ d) then (12,x)
  else if 1000000000000000<x.shp+aL (dQ d) then (16,x)
  else (0,{ x with shp:=x.shp+aL (dQ d) }))
 else if aD d=10 then (if x.shp<x.rcv+aL (dQ d) then (12,x) else (0,{ x with rcv:=x.rcv+aL (dQ d) }))
 else (if x.rcv<x.ret+aL (dQ d) then (12,x) else (0,{ x with ret:=x.ret+aL (dQ d) }))
theorem iE {A:List ak} {k:Nat} {x:ak} (h:A[k]? =some x):A.set k x=A:=by
 obtain⟨h1,h2⟩:=aej.1 h
 rw[<- h2];exact List.set_getElem_self h1
theorem lH {A:List ak} {k:Nat} (y:ak) (T:aP) (hT:T=y.tup):List.set (A.map ak.tup) k T=(A.set k y).map ak.tup:=by rw[hT,Wj]
theorem BD {A:List ak} {k:Nat} {x:ak} (h:A[k]? =some x) (T:aP):(List.set (A.map ak.tup) k T)[k]? =some T:=by
 have:=(aej.1 h).1
 rw[aep (by simpa using this)]
variable {o:aj} {l:List aa} {m:List (Int×Option Nat)} {ref:List ah} {pts:List ay} {wt:Int} {A:List ak} {k:Nat} {x:ak}
theorem nq (h:A[k]? =some x) {i:Nat} {d:aa} (hd:l[i]? =some d): lV (o,l,m,ref,pts,wt,()) (some k) (i:Int) (A.map ak.tup)=some ((qV (bZ o) i d x).1,(o,l,m,ref,pts,wt,()),(A.set k (qV (bZ o) i d x).2).map ak.tup,()):=by
 unfold lV qV
 dsimp only
 rw[bG hd,afO]
 have hv:(bif d.2.2.2.1==3 then some (decide (d.2.2.2.2.2.2.2.2.2.1<o.2.2.2.1),()) else some (false,()))=some (decide (aD d=3/\fW d<bZ o),()):=by
  by_cases h3:d.2.2.2.1=3
  ·rw[show (d.2.2.2.1==3)=true by simp[h3],af2]
   simp[aD,h3]
  ·rw[show (d.2.2.2.1==3)=false by simp[h3],af1]
   simp[aD,h3]
 rw[hv,afO]
 dsimp only
 by_cases h1:aD d=3/\fW d<bZ o
 ·rw[af6 h1,af2,age h1,iE h]
 ·rw[af4 h1,af1,agd h1]
  simp only[afO,mq h]
  by_cases h2:0<=x.wish
  ·rw[age h2,af6 (show x.wish>=0 from h2),af2,iE h]
  ·rw[agd h2,af4 (show ¬x.wish>=0 from h2),af1,lH { x with wish:=(i:Int) } _ rfl]
structure WOk (l:List aa) (x:ak):Prop where
 low: -1<=x.wish
 kind:0<=x.wish->∃ d,l[x.wish.toNat]? =some d/\aD d<=4
theorem qo {d:aa} (hw:l[x.wish.toNat]? =some d):lM l x=d:=by
 unfold lM
 rw[aea,hw];rfl
theorem FM {d:aa} (h0:0<=x.wish) (hw:l[x.wish.toNat]? =some d):idx l x.wish=some d:=by
 unfold idx;rw[age h0];exact hw
theorem rF (h:A[k]? =some x) (hx:LOk x) (hw:WOk l x) (hl:∀ d,d∈l->bp d=0) (d:aa): jG (o,l,m,ref,pts,wt,()) (some k) d (A.map ak.tup)=some ((bO l d x).1,(o,l,m,ref,pts,wt,()),(A.set k (bO l d x).2).map ak.tup,()):=by
 unfold jG bO
 simp only[afO,mq h]
 by_cases h1:x.wish<0
 ·rw[age h1,af6 h1,af2,iE h]
 ·rw[agd h1,af4 h1,af1]
  obtain⟨w,hw1,hw2⟩:=hw.kind (by omega)
  rw[FM (by omega) hw1,qo hw1]
  simp only[afO]
  have hwf:=hl w (aeW hw1)
  obtain⟨_,_,_,hk,_,_,hu⟩:=bH hwf
  obtain⟨uq,_⟩:=dH hu
  have b0:=hx.ret0;have b1:=hx.retr;have b2:=hx.rcvs;have b3:=hx.shp1
  by_cases h2:dNo w=dTo d
  ·rw[agd (fun e=>e h2),show (w.2.2.1 != d.2.2.2.2.2.2.2.2.2.2)=false by simpa using h2,af1]
   by_cases h3:aD d=5
   ·rw[age h3,show (d.2.2.2.1==5)=true by simpa using h3,af2]
    by_cases k2:aD w=2
    ·have hq:=uq (by rw[k2];rfl)
     rw[age k2,show (w.2.2.2.1==2)=true by simpa using k2,af2]
     simp only[kY hq,afO,BD h,ae9]
     rw[aA (n:=x.shp - x.ret) (by omega) (by omega)]
     by_cases h4:aL (dQ w)<x.shp - x.ret
     ·rw[age h4,af6 h4,af2,iE h]
     ·rw[agd h4,af4 h4,af1,lH { x with ord:=aL (dQ w),wish:= -1 } _ rfl]
    ·rw[agd k2,show (w.2.2.2.1==2)=false by simpa using k2,af1]
     by_cases k1:aD w=1
     ·have hq:=uq (by rw[k1];rfl)
      rw[age k1,show (w.2.2.2.1==1)=true by simpa using k1,af2]
      simp only[kY hq,afO,BD h,ae9]
      rw[lH { x with ord:=aL (dQ w),wish:= -1 } _ rfl]
     ·rw[agd k1,show (w.2.2.2.1==1)=false by simpa using k1,af1]
      by_cases k3:aD w=3
      ·rw[age k3,show (w.2.2.2.1==3)=true by simpa using k3,af2]
       simp only[afO,BD h,ae9]
       rw[lH { x with due:=fW w,wish:= -1 } _ rfl]
      ·rw[agd k3,show (w.2.2.2.1==3)=false by simpa using k3,af1]
       simp only[afO,BD h,ae9]
       rw[lH { x with price:=Et w,wish:= -1 } _ rfl]
   ·rw[agd h3,show (d.2.2.2.1==5)=false by simpa using h3,af1,lH { x with wish:= -1 } _ rfl]
  ·rw[age h2,show (w.2.2.1 != d.2.2.2.2.2.2.2.2.2.2)=true by simpa using h2,af2,iE h]
theorem AE (h:A[k]? =some x) (hx:LOk x) {d:aa} {z:Bool} (hq:qOk (dQ d) z=true): ji (o,l,m,ref,pts,wt,()) (some k) d (A.map ak.tup)=some (jX (bZ o) d x,(o,l,m,ref,pts,wt,()),A.map ak.tup,()):=by
 unfold ji jX
 simp only[afO,mq h,zn h hx,kY hq]
 by_cases h1:fW d<bZ o
 ·rw[age h1,af6 h1,af2]
 ·rw[agd h1,af4 h1,af1]
  by_cases h2:0<=x.wish
  ·rw[age (.inl h2),af6 (show x.wish>=0 from h2),af2]
  ·rw[af4 (show ¬x.wish>=0 from h2),af1]
   by_cases h3:x.opn=0
   ·rw[age (.inr h3),show (x.opn==0)=true by simp[h3],af2]
   ·rw[agd (fun e=>e.elim h2 h3),show (x.opn==0)=false by simp[h3],af1]
    by_cases h4:x.opn<aL (dQ d)
    ·rw[age h4,af6 (show aL (dQ d)>x.opn from h4),af2]
    ·rw[agd h4,af4 (show ¬aL (dQ d)>x.opn from h4),af1]
theorem DP (h:A[k]? =some x) (hx:LOk x) (d:aa): lU (o,l,m,ref,pts,wt,()) (some k) d (A.map ak.tup)=some ((AN d x).1,(o,l,m,ref,pts,wt,()),(A.set k (AN d x).2).map ak.tup,()):=by
 unfold lU AN
 simp only[afO,mq h,BD h,ae9]
 have b0:=hx.ret0;have b1:=hx.retr;have b2:=hx.rcvs;have b3:=hx.shp1;have b4:=hx.jt;have b5:=hx.ord1
 by_cases h1:0<=x.wish
 ·rw[age h1,af6 (show x.wish>=0 from h1),af2,iE h]
 ·rw[agd h1,af4 (show ¬x.wish>=0 from h1),af1]
  by_cases h2:x.ono=0
  ·rw[age (.inl h2),show (x.ono==0)=true by simp[h2],af2,iE h]
  ·rw[show (x.ono==0)=false by simp[h2],af1]
   by_cases h3:x.ono=dTo d
   ·obtain⟨c1,c2⟩:=hx.off h2
    rw[agd (fun e=>e.elim h2 (fun e=>e h3)),show (x.ono != d.2.2.2.2.2.2.2.2.2.2)=false by simpa using h3,af1,
     aA (n:=x.shp - x.ret) (by omega) (by omega),aA (n:=x.shp - x.ret+x.oq) (by omega) (by omega),
     lH { x with ord:=x.shp - x.ret+x.oq,due:=x.ount,ono:=0,oq:=0,ount:=0 } _ rfl]
   ·rw[age (.inr h3),show (x.ono != d.2.2.2.2.2.2.2.2.2.2)=true by simpa using h3,af2,iE h]
theorem nk (h:A[k]? =some x) (hx:LOk x) (he0:0<=b8 o) (he1:b8 o<=1000) {d:aa} {z:Bool} (hq:qOk (dQ d) z=true): lT (o,l,m,ref,pts,wt,()) (some k) d (A.map ak.tup)=some ((cC (b8 o) d x).1,(o,l,m,ref,pts,wt,()),(A.set k (cC (b8 o) d x).2).map ak.tup,()):=by
 unfold lT cC
 simp only[afO,mq h,BD h,kY hq]
 have b0:=hx.ret0;have b1:=hx.retr;have b2:=hx.rcvs;have b3:=hx.shp1;have b4:=hx.jt;have b5:=hx.ord1
 obtain⟨q0,q1,_⟩:=jz hq
 by_cases k9:aD d=9
 ·rw[age k9,show (d.2.2.2.1==9)=true by simpa using k9,af2]
  have m0:0<=x.ord*b8 o:=adB b4 he0
  have m1:x.ord*b8 o<=x.ord*1000:=adA he1 b4
  have e1:w64 (x.ord*b8 o)=x.ord*b8 o:=aA (by omega) (by omega)
  have e2:Int.tdiv (x.ord*b8 o) 1000=x.ord*b8 o / 1000:=adL m0
  have d0:0<=x.ord*b8 o / 1000:=Int.ediv_nonneg m0 (by omega)
  have d1:x.ord*b8 o / 1000<=x.ord:=by omega
  rw[show w64 (x.ord*o.2.2.2.2.1)=x.ord*b8 o from e1,e2,aA (n:=x.ord*b8 o / 1000) (by omega) (by omega),aA (n:=x.ord+x.ord*b8 o / 1000) (by omega) (by omega),
   aA (n:=x.shp - x.ret) (by omega) (by omega),aA (n:=x.shp - x.ret+aL (dQ d)) (by omega) (by omega),aA (n:=x.shp+aL (dQ d)) (by omega) (by omega)]
  by_cases c1:x.ord+x.ord*b8 o / 1000<x.shp - x.ret+aL (dQ d)
  ·rw[age c1,af6 (show x.shp - x.ret+aL (dQ d)>x.ord+x.ord*b8 o / 1000 from c1),af2,iE h]
  ·rw[agd c1,af4 (show ¬x.shp - x.ret+aL (dQ d)>x.ord+x.ord*b8 o / 1000 from c1),af1]
   by_cases c2:1000000000000000<x.shp+aL (dQ d)
   ·rw[age c2,af6 (show x.shp+aL (dQ d)>1000000000000000 from c2),af2,iE h]
   ·rw[agd c2,af4 (show ¬x.shp+aL (dQ d)>1000000000000000 from c2),af1,lH { x with shp:=x.shp+aL (dQ d) } _ rfl]
 ·rw[agd k9,show (d.2.2.2.1==9)=false by simpa using k9,af1]
  by_cases k10:aD d=10
  ·rw[age k10,show (d.2.2.2.1==10)=true by simpa using k10,af2,aA (n:=x.rcv+aL (dQ d)) (by omega) (by omega)]
   by_cases c1:x.shp<x.rcv+aL (dQ d)
   ·rw[age c1,af6 (show x.rcv+aL (dQ d)>x.shp from c1),af2,iE h]
   ·rw[agd c1,af4 (show ¬x.rcv+aL (dQ d)>x.shp from c1),af1,lH { x with rcv:=x.rcv+aL (dQ d) } _ rfl]
  ·rw[agd k10,show (d.2.2.2.1==10)=false by simpa using k10,af1,aA (n:=x.ret+aL (dQ d)) (by omega) (by omega)]
   by_cases c1:x.rcv<x.ret+aL (dQ d)
   ·rw[age c1,af6 (show x.ret+aL (dQ d)>x.rcv from c1),af2,iE h]
   ·rw[agd c1,af4 (show ¬x.ret+aL (dQ d)>x.rcv from c1),af1,lH { x with ret:=x.ret+aL (dQ d) } _ rfl]
end Go.Md
namespace Go.Md
open Go.Dn
def ak.clr (x:ak):ak:={ x with ono:=0,oq:=0,ount:=0 }
def aY (o:aj) (l:List aa) (i:Nat) (d:aa) (x:ak):Int×ak:=
 if aD d<=4 then qV (bZ o) i d x
 else if aD d<=6 then (if (bO l d x).1=0 then (0,(bO l d x).2.clr) else bO l d x)
 else if aD d=7 then (if jX (bZ o) d x=0 then (0,{ x with ono:=dNo d,oq:=aL (dQ d),ount:=fW d }) else (jX (bZ o) d x,x))
 else if aD d=8 then AN d x
 else if aD d=9 then (if (cC (b8 o) d x).1=0 then (0,(cC (b8 o) d x).2.clr) else cC (b8 o) d x)
 else cC (b8 o) d x
def fD (i:Nat) (d:aa):ak:=⟨cO d,d.2.2.2.2.2.1,d.2.2.2.2.2.2.2.1,0,0,0,0,Et d,fW d,i,0,0,0⟩
def bS (o:aj) (l:List aa) (i:Nat) (d:aa) (A:List ak):Int×List ak:=
 if aD d=1 then
  (match ef (cO d) A with
  | some _=>(7,A)
  | none=>if 500<=A.length then (16,A) else if fW d<bZ o then (1,A) else (0,A++[fD i d]))
 else match ef (cO d) A with
  | none=>(9,A)
  | some k=>match A[k]? with
   | some x=>((aY o l i d x).1,A.set k (aY o l i d x).2)
   | none=>(9,A)
structure Sound (l:List aa) (A:List ak):Prop where
 line:∀ x,x∈A->LOk x/\WOk l x
theorem abU {x:ak} (h:LOk x):LOk x.clr:=⟨h.ret0,h.retr,h.rcvs,h.shp1,h.jt,h.ord1,fun e=>absurd rfl e⟩
theorem Wr {l:List aa} {d:aa} {x:ak} (hx:LOk x) (hw:WOk l x) (hl:∀ d,d∈l->bp d=0):((bO l d x).1=0->LOk (bO l d x).2.clr)/\((bO l d x).1≠0->(bO l d x).2=x)/\((bO l d x).2=x\/(bO l d x).2.wish= -1)/\(bO l d x).2.no=x.no:=by
 have hk:LOk x.clr:=abU hx
 unfold bO
 by_cases h1:x.wish<0
 ·rw[age h1];exact⟨nofun,fun _=>rfl,.inl rfl,rfl⟩
 rw[agd h1]
 obtain⟨w,hw1,hw2⟩:=hw.kind (by omega)
 rw[qo hw1]
 obtain⟨_,_,_,_,_,_,hu⟩:=bH (hl w (aeW hw1))
 obtain⟨uq,_⟩:=dH hu
 by_cases h2:dNo w≠dTo d
 ·rw[age h2];exact⟨nofun,fun _=>rfl,.inl rfl,rfl⟩
 rw[agd h2]
 by_cases h3:aD d=5
 ·rw[age h3]
  by_cases k2:aD w=2
  ·rw[age k2]
   obtain⟨q0,q1,_⟩:=jz (uq (by rw[k2];rfl))
   by_cases h4:aL (dQ w)<x.shp - x.ret
   ·rw[age h4];exact⟨nofun,fun _=>rfl,.inl rfl,rfl⟩
   ·rw[agd h4];exact⟨fun _=>⟨hx.ret0,hx.retr,hx.rcvs,hx.shp1,q0,q1,fun e=>absurd rfl e⟩,fun e=>absurd rfl e,.inr rfl,rfl⟩
  ·rw[agd k2]
   by_cases k1:aD w=1
   ·rw[age k1]
    obtain⟨q0,q1,_⟩:=jz (uq (by rw[k1];rfl))
    exact⟨fun _=>⟨hx.ret0,hx.retr,hx.rcvs,hx.shp1,q0,q1,fun e=>absurd rfl e⟩,fun e=>absurd rfl e,.inr rfl,rfl⟩
   ·rw[agd k1]
    by_cases k3:aD w=3
    ·rw[age k3];exact⟨fun _=>⟨hx.ret0,hx.retr,hx.rcvs,hx.shp1,hx.jt,hx.ord1,fun e=>absurd rfl e⟩,fun e=>absurd rfl e,.inr rfl,rfl⟩
    ·rw[agd k3];exact⟨fun _=>⟨hx.ret0,hx.retr,hx.rcvs,hx.shp1,hx.jt,hx.ord1,fun e=>absurd rfl e⟩,fun e=>absurd rfl e,.inr rfl,rfl⟩
 ·rw[agd h3];exact⟨fun _=>⟨hx.ret0,hx.retr,hx.rcvs,hx.shp1,hx.jt,hx.ord1,fun e=>absurd rfl e⟩,fun e=>absurd rfl e,.inr rfl,rfl⟩
theorem aan {ext:Int} {d:aa} {x:ak} {z:Bool} (hx:LOk x) (hq:qOk (dQ d) z=true):((cC ext d x).1=0->LOk (if aD d=9 then (cC ext d x).2.clr else (cC ext d x).2))/\((cC ext d x).1≠0->(cC ext d x).2=x)/\(cC ext d x).2.wish=x.wish/\(cC ext d x).2.no=x.no:=by
 obtain⟨q0,q1,_⟩:=jz hq
 have b0:=hx.ret0;have b1:=hx.retr;have b2:=hx.rcvs;have b3:=hx.shp1
 unfold cC
 by_cases k9:aD d=9
 ·rw[age k9,age k9]
  split
  ·exact⟨nofun,fun _=>rfl,rfl,rfl⟩
  ·split
   ·exact⟨nofun,fun _=>rfl,rfl,rfl⟩
   ·rename_i h1 h2
    exact⟨fun _=>⟨b0,b1,by show x.rcv<=x.shp+aL (dQ d);omega,by show x.shp+aL (dQ d)<=_;omega,hx.jt,hx.ord1,fun e=>absurd rfl e⟩,fun e=>absurd rfl e,rfl,rfl⟩
 ·rw[agd k9,agd k9]
  by_cases k10:aD d=10
  ·rw[age k10]
   split
   ·exact⟨nofun,fun _=>rfl,rfl,rfl⟩
   ·rename_i h1
    exact⟨fun _=>⟨b0,by show x.ret<=x.rcv+aL (dQ d);omega,by show x.rcv+aL (dQ d)<=x.shp;omega,b3,hx.jt,hx.ord1,hx.off⟩,fun e=>absurd rfl e,rfl,rfl⟩
  ·rw[agd k10]
   split
   ·exact⟨nofun,fun _=>rfl,rfl,rfl⟩
   ·rename_i h1
    exact⟨fun _=>⟨by show 0<=x.ret+aL (dQ d);omega,by show x.ret+aL (dQ d)<=x.rcv;omega,b2,b3,hx.jt,hx.ord1,fun e=>by
     obtain⟨c1,c2⟩:=hx.off e
     exact⟨c1,by show x.oq+x.shp - (x.ret+aL (dQ d))<=x.ord;omega⟩⟩,fun e=>absurd rfl e,rfl,rfl⟩
theorem AS {o:aj} {l:List aa} {i:Nat} {d:aa} {x:ak} (hx:LOk x) (hw:WOk l x) (hl:∀ d,d∈l->bp d=0) (hd:l[i]? =some d): LOk (aY o l i d x).2/\WOk l (aY o l i d x).2/\(aY o l i d x).2.no=x.no/\((aY o l i d x).1≠0->(aY o l i d x).2=x):=by
 obtain⟨_,_,_,hk,_,_,hu⟩:=bH (hl d (aeW hd))
 obtain⟨uq,_⟩:=dH hu
 unfold aY
 by_cases k4:aD d<=4
 ·rw[age k4]
  unfold qV
  split
  ·exact⟨hx,hw,rfl,fun _=>rfl⟩
  ·split
   ·exact⟨hx,hw,rfl,fun _=>rfl⟩
   ·refine⟨⟨hx.ret0,hx.retr,hx.rcvs,hx.shp1,hx.jt,hx.ord1,hx.off⟩,⟨by show (-1:Int)<=(i:Int);omega,fun _=>⟨d,by show l[((i:Int)).toNat]? =some d;simpa using hd,k4⟩⟩,rfl,fun e=>absurd rfl e⟩
 ·rw[agd k4]
  by_cases k6:aD d<=6
  ·rw[age k6]
   obtain⟨a1,a2,a3,a4⟩:=Wr (d:=d) hx hw hl
   split
   ·rename_i e
    refine⟨a1 e, ?_,a4,fun e=>absurd rfl e⟩
    rcases a3 with a3 | a3
    ·rw[a3];exact⟨hw.low,hw.kind⟩
    ·exact⟨by show -1<=(bO l d x).2.wish;omega,fun h=>by have:0<=(bO l d x).2.wish:=h;omega⟩
   ·rename_i e
    rw[a2 e];exact⟨hx,hw,rfl,fun _=>rfl⟩
  ·rw[agd k6]
   by_cases k7:aD d=7
   ·rw[age k7]
    have hq:=uq (by rw[k7];rfl)
    rw[show (aD d==2)=false by rw[k7];rfl] at hq
    obtain⟨q0,q1,q2⟩:=jz hq
    split
    ·rename_i e
     refine⟨⟨hx.ret0,hx.retr,hx.rcvs,hx.shp1,hx.jt,hx.ord1,fun _=>⟨q2 rfl, ?_⟩⟩,⟨hw.low,hw.kind⟩,rfl,fun e=>absurd rfl e⟩
     show aL (dQ d)+x.shp - x.ret<=x.ord
     unfold jX at e
     split at e
     ·cases e
     ·split at e
      ·cases e
      ·split at e
       ·cases e
       ·rename_i h1 h2 h3
        have:=q2 rfl
        unfold ak.opn at h3
        split at h3<;>omega
    ·exact⟨hx,hw,rfl,fun _=>rfl⟩
   ·rw[agd k7]
    by_cases k8:aD d=8
    ·rw[age k8]
     unfold AN
     split
     ·exact⟨hx,hw,rfl,fun _=>rfl⟩
     ·split
      ·exact⟨hx,hw,rfl,fun _=>rfl⟩
      ·rename_i h1 h2
       obtain⟨c1,c2⟩:=hx.off (fun e=>h2 (.inl e))
       have:=hx.ret0;have:=hx.retr;have:=hx.rcvs;have:=hx.ord1
       refine⟨⟨hx.ret0,hx.retr,hx.rcvs,hx.shp1, ?_, ?_,fun e=>absurd rfl e⟩,⟨hw.low,hw.kind⟩,rfl,fun e=>absurd rfl e⟩
       ·show 0<=x.shp - x.ret+x.oq;omega
       ·show x.shp - x.ret+x.oq<=1000000000000;omega
    ·rw[agd k8]
     have hq:=uq (by
      unfold usQ
      refine af6 ⟨by omega,by omega,by omega,by omega,by omega⟩)
     obtain⟨a1,a2,a3,a4⟩:=aan (ext:=b8 o) hx hq
     by_cases k9:aD d=9
     ·rw[age k9]
      split
      ·rename_i e
       have:=a1 e
       rw[age k9] at this
       exact⟨this,⟨by show -1<=(cC (b8 o) d x).2.wish;rw[a3];exact hw.low,fun h=>by
        have h':0<=(cC (b8 o) d x).2.wish:=h
        rw[a3] at h'
        show ∃ d',l[(cC (b8 o) d x).2.wish.toNat]? =some d'/\_
        rw[a3];exact hw.kind h'⟩,a4,fun e=>absurd rfl e⟩
      ·rename_i e
       rw[a2 e];exact⟨hx,hw,rfl,fun _=>rfl⟩
     ·rw[agd k9]
      by_cases e:(cC (b8 o) d x).1=0
      ·have:=a1 e
       rw[agd k9] at this
       exact⟨this,⟨by rw[a3];exact hw.low,fun h=>by rw[a3] at h ⊢;exact hw.kind h⟩,a4,fun h=>absurd e h⟩
      ·rw[a2 e];exact⟨hx,hw,rfl,fun _=>rfl⟩
theorem Zy {l:List aa} {A:List ak} (h:Sound l A) {k:Nat} {y:ak} (h1:LOk y) (h2:WOk l y):Sound l (A.set k y):=⟨fun x hx=>by
 rcases aeY hx with hx | hx
 ·exact h.line x hx
 ·subst hx;exact⟨h1,h2⟩⟩
theorem LO {o:aj} {l:List aa} {i:Nat} {d:aa} {A:List ak} (hA:Sound l A) (hl:∀ d,d∈l->bp d=0) (hd:l[i]? =some d): Sound l (bS o l i d A).2/\((bS o l i d A).1≠0->(bS o l i d A).2=A):=by
 unfold bS
 by_cases k1:aD d=1
 ·rw[age k1]
  split
  ·exact⟨hA,fun _=>rfl⟩
  ·split
   ·exact⟨hA,fun _=>rfl⟩
   ·split
    ·exact⟨hA,fun _=>rfl⟩
    ·refine⟨⟨fun x hx=> ?_⟩,fun e=>absurd rfl e⟩
     rcases aeM.1 hx with hx | hx
     ·exact hA.line x hx
     ·simp only[ae0] at hx
      subst hx
      exact⟨⟨by show (0:Int)<=0;omega,by show (0:Int)<=0;omega,by show (0:Int)<=0;omega,by show (0:Int)<=_;omega,by show (0:Int)<=0;omega,by show (0:Int)<=_;omega,fun e=>absurd rfl e⟩,
       ⟨by show (-1:Int)<=(i:Int);omega,fun _=>⟨d,by show l[((i:Int)).toNat]? =some d;simpa using hd,by omega⟩⟩⟩
 ·rw[agd k1]
  split
  ·exact⟨hA,fun _=>rfl⟩
  ·rename_i k hk
   split
   ·rename_i x hx
    obtain⟨h1,h2⟩:=hA.line x (aeW hx)
    obtain⟨a1,a2,a3,a4⟩:=AS (o:=o) h1 h2 hl hd
    exact⟨Zy hA a1 a2,fun e=>by rw[a4 e];exact iE hx⟩
   ·exact⟨hA,fun _=>rfl⟩
variable {o:aj} {l:List aa} {ref:List ah} {pts:List ay} {wt:Int} {A:List ak}
theorem EL {i:Nat} {d:aa} (hd:l[i]? =some d) (k1:aD d=1): mM (o,l,mapOf A,ref,pts,wt,()) (i:Int) (A.map ak.tup)=some ((bS o l i d A).1,(o,l,mapOf (bS o l i d A).2,ref,pts,wt,()),(bS o l i d A).2.map ak.tup,()):=by
 unfold mM bS
 dsimp only
 rw[bG hd,afO,gJ,age k1]
 cases hf:ef (cO d) A with
 | some k=>rw[show cc d.2.2.2.2.1 0 A=some k from hf];rfl
 | none=>
  rw[show cc d.2.2.2.2.1 0 A=none from hf]
  dsimp only
  rw[show (!Option.isNone (none:Option Nat))=false from rfl,af1]
  by_cases h1:500<=A.length
  ·rw[age h1,af6 (show ((mapOf A).length:Int)>=500 by rw[zk];omega),af2]
  ·rw[agd h1,af4 (show ¬((mapOf A).length:Int)>=500 by rw[zk];omega),af1]
   by_cases h2:fW d<bZ o
   ·rw[age h2,af6 h2,af2]
   ·rw[agd h2,af4 h2,af1]
    have hs:=Mg (cO d) (fD i d) rfl A 0 hf
    rw[afM] at hs
    rw[aeA]
    refine congrArg some ?_
    refine Prod.ext rfl (Prod.ext ?_ (Prod.ext ?_ rfl))
    ·exact Prod.ext rfl (Prod.ext rfl (Prod.ext hs rfl))
    ·show List.map ak.tup A++[_]=List.map ak.tup (A++[fD i d])
     rw[aeI]
     rfl
end Go.Md
namespace Go.Md
open Go.Dn
theorem Ft {o:aj} {l:List aa} {i:Nat} {d:aa} {A:List ak} (k1:aD d≠1) (hf:ef (cO d) A=none):bS o l i d A=(9,A):=by
 unfold bS;rw[agd k1,hf]
theorem Ig {o:aj} {l:List aa} {i:Nat} {d:aa} {A:List ak} {k:Nat} {x:ak} (k1:aD d≠1) (hf:ef (cO d) A=some k) (hx:A[k]? =some x):bS o l i d A=((aY o l i d x).1,A.set k (aY o l i d x).2):=by
 unfold bS;rw[agd k1,hf];dsimp only;rw[hx]
variable {o:aj} {l:List aa} {ref:List ah} {pts:List ay} {wt:Int} {A:List ak}
theorem PL {k:Nat} (x:ak) (y:ak) (T:aP) (hT:T=y.tup):List.set ((A.set k x).map ak.tup) k T=(A.set k y).map ak.tup:=by
 rw[hT,Wj,ae9]
theorem aa7 {onum obuy osel:Bys} {oday oext:Int} {olns:List ai} {day byy no line:Int} {art:Bys} {q:ah} {unit:Bys} {p:ah} {un to:Int} {i:Nat} (he0:0<=oext) (he1:oext<=1000) (hl:∀ d,d∈l->bp d=0) (hd:l[i]? =some (day,byy,no,2,line,art,q,unit,p,un,to)) {k:Nat} {x:ak} (hf:cc line 0 A=some k) (hx:A[k]? =some x) (hs:LOk x) (hw:WOk l x): aN ((onum,obuy,osel,oday,oext,olns),l,mapOf A,ref,pts,wt,()) (i:Int) (A.map ak.tup)=some ((aY (onum,obuy,osel,oday,oext,olns) l i (day,byy,no,2,line,art,q,unit,p,un,to) x).1,((onum,obuy,osel,oday,oext,olns),l,mapOf A,ref,pts,wt,()),(A.set k (aY (onum,obuy,osel,oday,oext,olns) l i (day,byy,no,2,line,art,q,unit,p,un,to) x).2).map ak.tup,()):=by
 have hdf:=hl _ (aeW hd)
 obtain⟨_,_,_,_,_,_,hu⟩:=bH hdf
 obtain⟨uq,_⟩:=dH hu
 have h21:((2:Int)==1)=false:=rfl
 have h22:((2:Int)==2)=true:=rfl
 have h23:((2:Int)==3)=false:=rfl
 have h24:((2:Int)==4)=false:=rfl
 have h25:((2:Int)==5)=false:=rfl
 have h26:((2:Int)==6)=false:=rfl
 have h27:((2:Int)==7)=false:=rfl
 have h28:((2:Int)==8)=false:=rfl
 have h29:((2:Int)==9)=false:=rfl
 unfold aN
 dsimp only
 rw[bG hd,afO]
 dsimp only
 rw[gJ,hf]
 simp only[h21,h22,h23,h24,h25,h26,h27,h28,h29,af2,af1,aC,afR,afO,nq hx hd]
 rfl
theorem aa8 {onum obuy osel:Bys} {oday oext:Int} {olns:List ai} {day byy no line:Int} {art:Bys} {q:ah} {unit:Bys} {p:ah} {un to:Int} {i:Nat} (he0:0<=oext) (he1:oext<=1000) (hl:∀ d,d∈l->bp d=0) (hd:l[i]? =some (day,byy,no,3,line,art,q,unit,p,un,to)) {k:Nat} {x:ak} (hf:cc line 0 A=some k) (hx:A[k]? =some x) (hs:LOk x) (hw:WOk l x): aN ((onum,obuy,osel,oday,oext,olns),l,mapOf A,ref,pts,wt,()) (i:Int) (A.map ak.tup)=some ((aY (onum,obuy,osel,oday,oext,olns) l i (day,byy,no,3,line,art,q,unit,p,un,to) x).1,((onum,obuy,osel,oday,oext,olns),l,mapOf A,ref,pts,wt,()),(A.set k (aY (onum,obuy,osel,oday,oext,olns) l i (day,byy,no,3,line,art,q,unit,p,un,to) x).2).map ak.tup,()):=by
 have hdf:=hl _ (aeW hd)
 obtain⟨_,_,_,_,_,_,hu⟩:=bH hdf
 obtain⟨uq,_⟩:=dH hu
 have h31:((3:Int)==1)=false:=rfl
 have h32:((3:Int)==2)=false:=rfl
 have h33:((3:Int)==3)=true:=rfl
 have h34:((3:Int)==4)=false:=rfl
 have h35:((3:Int)==5)=false:=rfl
 have h36:((3:Int)==6)=false:=rfl
 have h37:((3:Int)==7)=false:=rfl
 have h38:((3:Int)==8)=false:=rfl
 have h39:((3:Int)==9)=false:=rfl
 unfold aN
 dsimp only
 rw[bG hd,afO]
 dsimp only
 rw[gJ,hf]
 simp only[h31,h32,h33,h34,h35,h36,h37,h38,h39,af2,af1,aC,afR,afO,nq hx hd]
 rfl
theorem aa9 {onum obuy osel:Bys} {oday oext:Int} {olns:List ai} {day byy no line:Int} {art:Bys} {q:ah} {unit:Bys} {p:ah} {un to:Int} {i:Nat} (he0:0<=oext) (he1:oext<=1000) (hl:∀ d,d∈l->bp d=0) (hd:l[i]? =some (day,byy,no,4,line,art,q,unit,p,un,to)) {k:Nat} {x:ak} (hf:cc line 0 A=some k) (hx:A[k]? =some x) (hs:LOk x) (hw:WOk l x): aN ((onum,obuy,osel,oday,oext,olns),l,mapOf A,ref,pts,wt,()) (i:Int) (A.map ak.tup)=some ((aY (onum,obuy,osel,oday,oext,olns) l i (day,byy,no,4,line,art,q,unit,p,un,to) x).1,((onum,obuy,osel,oday,oext,olns),l,mapOf A,ref,pts,wt,()),(A.set k (aY (onum,obuy,osel,oday,oext,olns) l i (day,byy,no,4,line,art,q,unit,p,un,to) x).2).map ak.tup,()):=by
 have hdf:=hl _ (aeW hd)
 obtain⟨_,_,_,_,_,_,hu⟩:=bH hdf
 obtain⟨uq,_⟩:=dH hu
 have h41:((4:Int)==1)=false:=rfl
 have h42:((4:Int)==2)=false:=rfl
 have h43:((4:Int)==3)=false:=rfl
 have h44:((4:Int)==4)=true:=rfl
 have h45:((4:Int)==5)=false:=rfl
 have h46:((4:Int)==6)=false:=rfl
 have h47:((4:Int)==7)=false:=rfl
 have h48:((4:Int)==8)=false:=rfl
 have h49:((4:Int)==9)=false:=rfl
 unfold aN
 dsimp only
 rw[bG hd,afO]
 dsimp only
 rw[gJ,hf]
 simp only[h41,h42,h43,h44,h45,h46,h47,h48,h49,af2,af1,aC,afR,afO,nq hx hd]
 rfl
theorem aba {onum obuy osel:Bys} {oday oext:Int} {olns:List ai} {day byy no line:Int} {art:Bys} {q:ah} {unit:Bys} {p:ah} {un to:Int} {i:Nat} (he0:0<=oext) (he1:oext<=1000) (hl:∀ d,d∈l->bp d=0) (hd:l[i]? =some (day,byy,no,5,line,art,q,unit,p,un,to)) {k:Nat} {x:ak} (hf:cc line 0 A=some k) (hx:A[k]? =some x) (hs:LOk x) (hw:WOk l x): aN ((onum,obuy,osel,oday,oext,olns),l,mapOf A,ref,pts,wt,()) (i:Int) (A.map ak.tup)=some ((aY (onum,obuy,osel,oday,oext,olns) l i (day,byy,no,5,line,art,q,unit,p,un,to) x).1,((onum,obuy,osel,oday,oext,olns),l,mapOf A,ref,pts,wt,()),(A.set k (aY (onum,obuy,osel,oday,oext,olns) l i (day,byy,no,5,line,art,q,unit,p,un,to) x).2).map ak.tup,()):=by
 have hdf:=hl _ (aeW hd)
 obtain⟨_,_,_,_,_,_,hu⟩:=bH hdf
 obtain⟨uq,_⟩:=dH hu
 have h51:((5:Int)==1)=false:=rfl
 have h52:((5:Int)==2)=false:=rfl
 have h53:((5:Int)==3)=false:=rfl
 have h54:((5:Int)==4)=false:=rfl
 have h55:((5:Int)==5)=true:=rfl
 have h56:((5:Int)==6)=false:=rfl
 have h57:((5:Int)==7)=false:=rfl
 have h58:((5:Int)==8)=false:=rfl
 have h59:((5:Int)==9)=false:=rfl
 unfold aN
 dsimp only
 rw[bG hd,afO]
 dsimp only
 rw[gJ,hf]
 simp only[h51,h52,h53,h54,h55,h56,h57,h58,h59,af2,af1,aC,afR,afO,rF hx hs hw hl,fK]
 have ha:aY (onum,obuy,osel,oday,oext,olns) l i (day,byy,no,5,line,art,q,unit,p,un,to) x=(if (bO l (day,byy,no,5,line,art,q,unit,p,un,to) x).1=0 then (0,(bO l (day,byy,no,5,line,art,q,unit,p,un,to) x).2.clr) else bO l (day,byy,no,5,line,art,q,unit,p,un,to) x):=rfl
 rw[ha]
 by_cases e:(bO l (day,byy,no,5,line,art,q,unit,p,un,to) x).1=0
 ·rw[age e,e]
  simp only[show ((0:Int)==0)=true from rfl,af2,afO,mq (JM hx _)]
  simp only[true_or,or_true,af9,af2]
  refine congrArg some (Prod.ext rfl (Prod.ext rfl (Prod.ext ?_ rfl)))
  exact PL (bO l (day,byy,no,5,line,art,q,unit,p,un,to) x).2 ((bO l (day,byy,no,5,line,art,q,unit,p,un,to) x).2.clr) _ rfl
 ·rw[agd e,cL e,af1]
  rfl
theorem abb {onum obuy osel:Bys} {oday oext:Int} {olns:List ai} {day byy no line:Int} {art:Bys} {q:ah} {unit:Bys} {p:ah} {un to:Int} {i:Nat} (he0:0<=oext) (he1:oext<=1000) (hl:∀ d,d∈l->bp d=0) (hd:l[i]? =some (day,byy,no,6,line,art,q,unit,p,un,to)) {k:Nat} {x:ak} (hf:cc line 0 A=some k) (hx:A[k]? =some x) (hs:LOk x) (hw:WOk l x): aN ((onum,obuy,osel,oday,oext,olns),l,mapOf A,ref,pts,wt,()) (i:Int) (A.map ak.tup)=some ((aY (onum,obuy,osel,oday,oext,olns) l i (day,byy,no,6,line,art,q,unit,p,un,to) x).1,((onum,obuy,osel,oday,oext,olns),l,mapOf A,ref,pts,wt,()),(A.set k (aY (onum,obuy,osel,oday,oext,olns) l i (day,byy,no,6,line,art,q,unit,p,un,to) x).2).map ak.tup,()):=by
 have hdf:=hl _ (aeW hd)
 obtain⟨_,_,_,_,_,_,hu⟩:=bH hdf
 obtain⟨uq,_⟩:=dH hu
 have h61:((6:Int)==1)=false:=rfl
 have h62:((6:Int)==2)=false:=rfl
 have h63:((6:Int)==3)=false:=rfl
 have h64:((6:Int)==4)=false:=rfl
 have h65:((6:Int)==5)=false:=rfl
 have h66:((6:Int)==6)=true:=rfl
 have h67:((6:Int)==7)=false:=rfl
 have h68:((6:Int)==8)=false:=rfl
 have h69:((6:Int)==9)=false:=rfl
 unfold aN
 dsimp only
 rw[bG hd,afO]
 dsimp only
 rw[gJ,hf]
 simp only[h61,h62,h63,h64,h65,h66,h67,h68,h69,af2,af1,aC,afR,afO,rF hx hs hw hl,fK]
 have ha:aY (onum,obuy,osel,oday,oext,olns) l i (day,byy,no,6,line,art,q,unit,p,un,to) x=(if (bO l (day,byy,no,6,line,art,q,unit,p,un,to) x).1=0 then (0,(bO l (day,byy,no,6,line,art,q,unit,p,un,to) x).2.clr) else bO l (day,byy,no,6,line,art,q,unit,p,un,to) x):=rfl
 rw[ha]
 by_cases e:(bO l (day,byy,no,6,line,art,q,unit,p,un,to) x).1=0
 ·rw[age e,e]
  simp only[show ((0:Int)==0)=true from rfl,af2,afO,mq (JM hx _)]
  simp only[true_or,or_true,af9,af2]
  refine congrArg some (Prod.ext rfl (Prod.ext rfl (Prod.ext ?_ rfl)))
  exact PL (bO l (day,byy,no,6,line,art,q,unit,p,un,to) x).2 ((bO l (day,byy,no,6,line,art,q,unit,p,un,to) x).2.clr) _ rfl
 ·rw[agd e,cL e,af1]
  rfl
theorem abc {onum obuy osel:Bys} {oday oext:Int} {olns:List ai} {day byy no line:Int} {art:Bys} {q:ah} {unit:Bys} {p:ah} {un to:Int} {i:Nat} (he0:0<=oext) (he1:oext<=1000) (hl:∀ d,d∈l->bp d=0) (hd:l[i]? =some (day,byy,no,7,line,art,q,unit,p,un,to)) {k:Nat} {x:ak} (hf:cc line 0 A=some k) (hx:A[k]? =some x) (hs:LOk x) (hw:WOk l x): aN ((onum,obuy,osel,oday,oext,olns),l,mapOf A,ref,pts,wt,()) (i:Int) (A.map ak.tup)=some ((aY (onum,obuy,osel,oday,oext,olns) l i (day,byy,no,7,line,art,q,unit,p,un,to) x).1,((onum,obuy,osel,oday,oext,olns),l,mapOf A,ref,pts,wt,()),(A.set k (aY (onum,obuy,osel,oday,oext,olns) l i (day,byy,no,7,line,art,q,unit,p,un,to) x).2).map ak.tup,()):=by
 have hdf:=hl _ (aeW hd)
 obtain⟨_,_,_,_,_,_,hu⟩:=bH hdf
 obtain⟨uq,_⟩:=dH hu
 have h71:((7:Int)==1)=false:=rfl
 have h72:((7:Int)==2)=false:=rfl
 have h73:((7:Int)==3)=false:=rfl
 have h74:((7:Int)==4)=false:=rfl
 have h75:((7:Int)==5)=false:=rfl
 have h76:((7:Int)==6)=false:=rfl
 have h77:((7:Int)==7)=true:=rfl
 have h78:((7:Int)==8)=false:=rfl
 have h79:((7:Int)==9)=false:=rfl
 unfold aN
 dsimp only
 rw[bG hd,afO]
 dsimp only
 rw[gJ,hf]
 have hq:qOk q false=true:=uq rfl
 simp only[h71,h72,h73,h74,h75,h76,h77,h78,h79,af2,af1,aC,afR,afO,AE hx hs (d:=(day,byy,no,7,line,art,q,unit,p,un,to)) hq,fK]
 have ha:aY (onum,obuy,osel,oday,oext,olns) l i (day,byy,no,7,line,art,q,unit,p,un,to) x=(if jX oday (day,byy,no,7,line,art,q,unit,p,un,to) x=0 then (0,{ x with ono:=no,oq:=aL q,ount:=un }) else (jX oday (day,byy,no,7,line,art,q,unit,p,un,to) x,x)):=rfl
 rw[ha]
 by_cases e:jX oday (day,byy,no,7,line,art,q,unit,p,un,to) x=0
 ·rw[age e,show jX (bZ (onum,obuy,osel,oday,oext,olns)) (day,byy,no,7,line,art,q,unit,p,un,to) x=0 from e]
  simp only[show ((0:Int)==0)=true from rfl,af2,afO,mq hx]
  simp only[true_or,or_true,af9,af2]
  rw[show gx (q.1,q.2)=some (aL q,()) from kY hq,afO]
  simp only[BD hx,afO,ae9]
  rw[lH { x with ono:=no,oq:=aL q,ount:=un } _ rfl]
 ·rw[agd e,show (jX (bZ (onum,obuy,osel,oday,oext,olns)) (day,byy,no,7,line,art,q,unit,p,un,to) x==0)=false from cL e,af1,iE hx]
  rfl
theorem abd {onum obuy osel:Bys} {oday oext:Int} {olns:List ai} {day byy no line:Int} {art:Bys} {q:ah} {unit:Bys} {p:ah} {un to:Int} {i:Nat} (he0:0<=oext) (he1:oext<=1000) (hl:∀ d,d∈l->bp d=0) (hd:l[i]? =some (day,byy,no,8,line,art,q,unit,p,un,to)) {k:Nat} {x:ak} (hf:cc line 0 A=some k) (hx:A[k]? =some x) (hs:LOk x) (hw:WOk l x): aN ((onum,obuy,osel,oday,oext,olns),l,mapOf A,ref,pts,wt,()) (i:Int) (A.map ak.tup)=some ((aY (onum,obuy,osel,oday,oext,olns) l i (day,byy,no,8,line,art,q,unit,p,un,to) x).1,((onum,obuy,osel,oday,oext,olns),l,mapOf A,ref,pts,wt,()),(A.set k (aY (onum,obuy,osel,oday,oext,olns) l i (day,byy,no,8,line,art,q,unit,p,un,to) x).2).map ak.tup,()):=by
 have hdf:=hl _ (aeW hd)
 obtain⟨_,_,_,_,_,_,hu⟩:=bH hdf
 obtain⟨uq,_⟩:=dH hu
 have h81:((8:Int)==1)=false:=rfl
 have h82:((8:Int)==2)=false:=rfl
 have h83:((8:Int)==3)=false:=rfl
 have h84:((8:Int)==4)=false:=rfl
 have h85:((8:Int)==5)=false:=rfl
 have h86:((8:Int)==6)=false:=rfl
 have h87:((8:Int)==7)=false:=rfl
 have h88:((8:Int)==8)=true:=rfl
 have h89:((8:Int)==9)=false:=rfl
 unfold aN
 dsimp only
 rw[bG hd,afO]
 dsimp only
 rw[gJ,hf]
 simp only[h81,h82,h83,h84,h85,h86,h87,h88,h89,af2,af1,aC,afR,afO,DP hx hs]
 rfl
theorem abe {onum obuy osel:Bys} {oday oext:Int} {olns:List ai} {day byy no line:Int} {art:Bys} {q:ah} {unit:Bys} {p:ah} {un to:Int} {i:Nat} (he0:0<=oext) (he1:oext<=1000) (hl:∀ d,d∈l->bp d=0) (hd:l[i]? =some (day,byy,no,9,line,art,q,unit,p,un,to)) {k:Nat} {x:ak} (hf:cc line 0 A=some k) (hx:A[k]? =some x) (hs:LOk x) (hw:WOk l x): aN ((onum,obuy,osel,oday,oext,olns),l,mapOf A,ref,pts,wt,()) (i:Int) (A.map ak.tup)=some ((aY (onum,obuy,osel,oday,oext,olns) l i (day,byy,no,9,line,art,q,unit,p,un,to) x).1,((onum,obuy,osel,oday,oext,olns),l,mapOf A,ref,pts,wt,()),(A.set k (aY (onum,obuy,osel,oday,oext,olns) l i (day,byy,no,9,line,art,q,unit,p,un,to) x).2).map ak.tup,()):=by
 have hdf:=hl _ (aeW hd)
 obtain⟨_,_,_,_,_,_,hu⟩:=bH hdf
 obtain⟨uq,_⟩:=dH hu
 have h91:((9:Int)==1)=false:=rfl
 have h92:((9:Int)==2)=false:=rfl
 have h93:((9:Int)==3)=false:=rfl
 have h94:((9:Int)==4)=false:=rfl
 have h95:((9:Int)==5)=false:=rfl
 have h96:((9:Int)==6)=false:=rfl
 have h97:((9:Int)==7)=false:=rfl
 have h98:((9:Int)==8)=false:=rfl
 have h99:((9:Int)==9)=true:=rfl
 unfold aN
 dsimp only
 rw[bG hd,afO]
 dsimp only
 rw[gJ,hf]
 have hq:qOk q false=true:=uq rfl
 simp only[h91,h92,h93,h94,h95,h96,h97,h98,h99,af2,af1,aC,afR,afO,nk hx hs (o:=(onum,obuy,osel,oday,oext,olns)) he0 he1 (d:=(day,byy,no,9,line,art,q,unit,p,un,to)) hq,fK]
 have ha:aY (onum,obuy,osel,oday,oext,olns) l i (day,byy,no,9,line,art,q,unit,p,un,to) x=(if (cC oext (day,byy,no,9,line,art,q,unit,p,un,to) x).1=0 then (0,(cC oext (day,byy,no,9,line,art,q,unit,p,un,to) x).2.clr) else cC oext (day,byy,no,9,line,art,q,unit,p,un,to) x):=rfl
 rw[ha]
 by_cases e:(cC oext (day,byy,no,9,line,art,q,unit,p,un,to) x).1=0
 ·rw[age e,show (cC (b8 (onum,obuy,osel,oday,oext,olns)) (day,byy,no,9,line,art,q,unit,p,un,to) x).1=0 from e]
  simp only[show ((0:Int)==0)=true from rfl,af2,afO,mq (JM hx _)]
  simp only[true_or,or_true,af9,af2]
  refine congrArg some (Prod.ext rfl (Prod.ext rfl (Prod.ext ?_ rfl)))
  exact PL (cC oext (day,byy,no,9,line,art,q,unit,p,un,to) x).2 ((cC oext (day,byy,no,9,line,art,q,unit,p,un,to) x).2.clr) _ rfl
 ·rw[agd e,show ((cC (b8 (onum,obuy,osel,oday,oext,olns)) (day,byy,no,9,line,art,q,unit,p,un,to) x).1==0)=false from cL e,af1]
  rfl
theorem ZY {onum obuy osel:Bys} {oday oext:Int} {olns:List ai} {day byy no line:Int} {art:Bys} {q:ah} {unit:Bys} {p:ah} {un to:Int} {i:Nat} (he0:0<=oext) (he1:oext<=1000) (hl:∀ d,d∈l->bp d=0) (hd:l[i]? =some (day,byy,no,10,line,art,q,unit,p,un,to)) {k:Nat} {x:ak} (hf:cc line 0 A=some k) (hx:A[k]? =some x) (hs:LOk x) (hw:WOk l x): aN ((onum,obuy,osel,oday,oext,olns),l,mapOf A,ref,pts,wt,()) (i:Int) (A.map ak.tup)=some ((aY (onum,obuy,osel,oday,oext,olns) l i (day,byy,no,10,line,art,q,unit,p,un,to) x).1,((onum,obuy,osel,oday,oext,olns),l,mapOf A,ref,pts,wt,()),(A.set k (aY (onum,obuy,osel,oday,oext,olns) l i (day,byy,no,10,line,art,q,unit,p,un,to) x).2).map ak.tup,()):=by
 have hdf:=hl _ (aeW hd)
 obtain⟨_,_,_,_,_,_,hu⟩:=bH hdf
 obtain⟨uq,_⟩:=dH hu
 have h101:((10:Int)==1)=false:=rfl
 have h102:((10:Int)==2)=false:=rfl
 have h103:((10:Int)==3)=false:=rfl
 have h104:((10:Int)==4)=false:=rfl
 have h105:((10:Int)==5)=false:=rfl
 have h106:((10:Int)==6)=false:=rfl
 have h107:((10:Int)==7)=false:=rfl
 have h108:((10:Int)==8)=false:=rfl
 have h109:((10:Int)==9)=false:=rfl
 unfold aN
 dsimp only
 rw[bG hd,afO]
 dsimp only
 rw[gJ,hf]
 have hq:qOk q false=true:=uq rfl
 simp only[h101,h102,h103,h104,h105,h106,h107,h108,h109,af2,af1,aC,afR,afO,nk hx hs (o:=(onum,obuy,osel,oday,oext,olns)) he0 he1 (d:=(day,byy,no,10,line,art,q,unit,p,un,to)) hq,fK]
 have ha:aY (onum,obuy,osel,oday,oext,olns) l i (day,byy,no,10,line,art,q,unit,p,un,to) x=cC oext (day,byy,no,10,line,art,q,unit,p,un,to) x:=rfl
 rw[ha]
 by_cases e:(cC oext (day,byy,no,10,line,art,q,unit,p,un,to) x).1=0
 ·rw[show ((cC (b8 (onum,obuy,osel,oday,oext,olns)) (day,byy,no,10,line,art,q,unit,p,un,to) x).1==0)=true by show ((cC oext (day,byy,no,10,line,art,q,unit,p,un,to) x).1==0)=true;rw[e];rfl]
  rfl
 ·rw[show ((cC (b8 (onum,obuy,osel,oday,oext,olns)) (day,byy,no,10,line,art,q,unit,p,un,to) x).1==0)=false from cL e]
  rfl
theorem ZZ {onum obuy osel:Bys} {oday oext:Int} {olns:List ai} {day byy no line:Int} {art:Bys} {q:ah} {unit:Bys} {p:ah} {un to:Int} {i:Nat} (he0:0<=oext) (he1:oext<=1000) (hl:∀ d,d∈l->bp d=0) (hd:l[i]? =some (day,byy,no,11,line,art,q,unit,p,un,to)) {k:Nat} {x:ak} (hf:cc line 0 A=some k) (hx:A[k]? =some x) (hs:LOk x) (hw:WOk l x): aN ((onum,obuy,osel,oday,oext,olns),l,mapOf A,ref,pts,wt,()) (i:Int) (A.map ak.tup)=some ((aY (onum,obuy,osel,oday,oext,olns) l i (day,byy,no,11,line,art,q,unit,p,un,to) x).1,((onum,obuy,osel,oday,oext,olns),l,mapOf A,ref,pts,wt,()),(A.set k (aY (onum,obuy,osel,oday,oext,olns) l i (day,byy,no,11,line,art,q,unit,p,un,to) x).2).map ak.tup,()):=by
 have hdf:=hl _ (aeW hd)
 obtain⟨_,_,_,_,_,_,hu⟩:=bH hdf
 obtain⟨uq,_⟩:=dH hu
 have h111:((11:Int)==1)=false:=rfl
 have h112:((11:Int)==2)=false:=rfl
 have h113:((11:Int)==3)=false:=rfl
 have h114:((11:Int)==4)=false:=rfl
 have h115:((11:Int)==5)=false:=rfl
 have h116:((11:Int)==6)=false:=rfl
 have h117:((11:Int)==7)=false:=rfl
 have h118:((11:Int)==8)=false:=rfl
 have h119:((11:Int)==9)=false:=rfl
 unfold aN
 dsimp only
 rw[bG hd,afO]
 dsimp only
 rw[gJ,hf]
 have hq:qOk q false=true:=uq rfl
 simp only[h111,h112,h113,h114,h115,h116,h117,h118,h119,af2,af1,aC,afR,afO,nk hx hs (o:=(onum,obuy,osel,oday,oext,olns)) he0 he1 (d:=(day,byy,no,11,line,art,q,unit,p,un,to)) hq,fK]
 have ha:aY (onum,obuy,osel,oday,oext,olns) l i (day,byy,no,11,line,art,q,unit,p,un,to) x=cC oext (day,byy,no,11,line,art,q,unit,p,un,to) x:=rfl
 rw[ha]
 by_cases e:(cC oext (day,byy,no,11,line,art,q,unit,p,un,to) x).1=0
 ·rw[show ((cC (b8 (onum,obuy,osel,oday,oext,olns)) (day,byy,no,11,line,art,q,unit,p,un,to) x).1==0)=true by show ((cC oext (day,byy,no,11,line,art,q,unit,p,un,to) x).1==0)=true;rw[e];rfl]
  rfl
 ·rw[show ((cC (b8 (onum,obuy,osel,oday,oext,olns)) (day,byy,no,11,line,art,q,unit,p,un,to) x).1==0)=false from cL e]
  rfl
theorem DO {i:Nat} {d:aa} (hA:Sound l A) (hl:∀ d,d∈l->bp d=0) (hd:l[i]? =some d) (he0:0<=b8 o) (he1:b8 o<=1000): aN (o,l,mapOf A,ref,pts,wt,()) (i:Int) (A.map ak.tup)=some ((bS o l i d A).1,(o,l,mapOf (bS o l i d A).2,ref,pts,wt,()),(bS o l i d A).2.map ak.tup,()):=by
 obtain⟨_,_,_,hk,_,_,_⟩:=bH (hl d (aeW hd))
 by_cases k1:aD d=1
 ·unfold aN
  dsimp only
  rw[bG hd,afO,show (d.2.2.2.1==1)=true by simpa using k1,af2]
  rw[EL hd k1,afO]
 ·cases hf:ef (cO d) A with
  | none=>
   rw[Ft k1 hf]
   unfold aN
   dsimp only
   rw[bG hd,afO,show (d.2.2.2.1==1)=false by simpa using k1,af1]
   rw[gJ,show cc d.2.2.2.2.1 0 A=none from hf]
   rfl
  | some k=>
   obtain⟨x,hx,hxn⟩:=sJ hf
   rw[Ig k1 hf hx]
   obtain⟨hs,hw⟩:=hA.line x (aeW hx)
   have hm:mapOf (A.set k (aY o l i d x).2)=mapOf A:=YY A 0 (fun z hz=>by
    rw[hx] at hz;cases hz
    exact (AS (o:=o) hs hw hl hd).2.2.1)
   rw[hm]
   obtain⟨onum,obuy,osel,oday,oext,olns⟩:=o
   obtain⟨day,byy,no,kk,line,art,q,unit,p,un,to⟩:=d
   have hk':kk=2\/kk=3\/kk=4\/kk=5\/kk=6\/kk=7\/kk=8\/kk=9\/kk=10\/kk=11:=by
    have h1:1<=kk/\kk<=11:=hk
    have h2:kk≠1:=k1
    omega
   rcases hk' with rfl | rfl | rfl | rfl | rfl | rfl | rfl | rfl | rfl | rfl
   ·exact aa7 he0 he1 hl hd hf hx hs hw
   ·exact aa8 he0 he1 hl hd hf hx hs hw
   ·exact aa9 he0 he1 hl hd hf hx hs hw
   ·exact aba he0 he1 hl hd hf hx hs hw
   ·exact abb he0 he1 hl hd hf hx hs hw
   ·exact abc he0 he1 hl hd hf hx hs hw
   ·exact abd he0 he1 hl hd hf hx hs hw
   ·exact abe he0 he1 hl hd hf hx hs hw
   ·exact ZY he0 he1 hl hd hf hx hs hw
   ·exact ZZ he0 he1 hl hd hf hx hs hw
end Go.Md
