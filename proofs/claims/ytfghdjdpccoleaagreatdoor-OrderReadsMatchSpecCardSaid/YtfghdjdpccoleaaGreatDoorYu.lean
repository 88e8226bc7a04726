/-
  Plain facts: a line, as both sides read it; the plain law is true of all data. No condition.
-/
import Derived.Test.YtfghdjdpccoleaaGreatDoorYt
import Derived.Test.YtfghdjdpccoleaaGreatDoorYs
set_option linter.all false
namespace Go.Md
open Go.Dn
def byW:List (List UInt8):=[[],[98,117,121,101,114],[115,101,108,108,101,114]]
def bC:List (List UInt8):=[[97,100,100],[113,117,97,110,116,105,116,121],[100,117,101],[112,114,105,99,101],[121,101,115],[110,111],[111,102,102,101,114],[116,97,107,101],[115,104,105,112],[114,101,99,101,105,118,101],[114,101,116,117,114,110]]
theorem bh (w:List (List UInt8)) (b:Bool) (hw:(w.headD []).length<=1000000):fV (w,b,())=some ((bH (w.headD [])).1,(w.tail,b||(bH (w.headD [])).2 != 0,()),()):=by
 unfold fV
 dsimp only
 rw[mQ,Qy]
 dsimp only
 rw[yJ _ hw,Qy]
 cases w with
 | nil=>cases b<;>rfl
 | cons a r=>cases b<;>rfl
def jB (W:List (List UInt8)):Bool:=
 ((((false|| !ax (W.headD []))||(W.tail.isEmpty||decide (aZ (W.tail.headD []) byW 0<1)))|| !ax (W.tail.tail.headD []))||(W.tail.tail.tail.isEmpty||decide (aZ (W.tail.tail.tail.headD []) ([]::bC) 0<1)))|| !ax (W.tail.tail.tail.tail.headD [])
def eE (W:List (List UInt8)):Int:=aZ (W.tail.tail.tail.headD []) ([]::bC) 0
def aG (W:List (List UInt8)):List (List UInt8):=W.tail.tail.tail.tail.tail
def SmW (W:List (List UInt8)):Prop:=∀ w,w∈W->w.length<=1000000
theorem SmW.tail {W:List (List UInt8)} (h:SmW W):SmW W.tail:=fun w hw=>h w (List.mem_of_mem_tail hw)
theorem SmW.head {W:List (List UInt8)} (h:SmW W):(W.headD []).length<=1000000:=by
 cases W with
 | nil=>simp
 | cons a r=>exact h a (by simp)
theorem Dx {s:List UInt8} (hs:s.length<=1000000) {W:List (List UInt8)} (hW:aD 32 s=W) (hf:cK W=true) (hm:SmW W) (hu:bq (eE W)=some ((false,true,false,false,false,false),())):
 bg s=some ((cC (W.headD []),aZ (W.tail.headD []) byW 0,cC (W.tail.tail.headD []),eE W,cC (W.tail.tail.tail.tail.headD []),[],(bH ((aG W).headD [])).1,[],(0,0),0,0),
  !(jB W||(bH ((aG W).headD [])).2 != 0)&&((((aG W).tail.length:Nat):Int)==0),()):=by
 unfold bg
 rw[ig s hs,hW,hf]
 have hr:=hm.tail.tail.tail.tail.tail
 change SmW (aG W) at hr
 have hi1:=fun b=>fP W.tail b byW (by decide)
 have hi2:=fun b=>fP W.tail.tail.tail b ([]::bC) (by decide)
 have hd0:=fun b=>bh ((aG W)) b (hr).head
 have hd1:=fun b=>bh ((aG W).tail) b (hr.tail).head
 have hd2:=fun b=>bh ((aG W).tail.tail) b (hr.tail.tail).head
 have hd3:=fun b=>bh ((aG W).tail.tail.tail) b (hr.tail.tail.tail).head
 have hd4:=fun b=>bh ((aG W).tail.tail.tail.tail) b (hr.tail.tail.tail.tail).head
 unfold eE at hu ⊢
 unfold jB
 unfold aG at hd0 hd1 hd2 hd3 hd4 ⊢
 simp only[Qy,QJ,OD,QI,bU,fO,eF]
 rw[show ([[],[98,117,121,101,114],[115,101,108,108,101,114]]:List (List UInt8))=byW from rfl,hi1,Qy]
 simp only[bU,Qy]
 rw[show ([[],[97,100,100],[113,117,97,110,116,105,116,121],[100,117,101],[112,114,105,99,101],[121,101,115],[110,111],[111,102,102,101,114],[116,97,107,101],[115,104,105,112],[114,101,99,101,105,118,101],[114,101,116,117,114,110]]:List (List UInt8))=[]::bC from rfl,hi2,Qy]
 simp only[bU,Qy]
 rw[hu,Qy]
 simp only[QJ,QI,az,hd0,hd1,hd2,hd3,hd4,mQ,bU,Qy]
 cases hb:((((((false|| !ax (W.headD []))||(W.tail.isEmpty||decide (aZ (W.tail.headD []) byW 0<1)))|| !ax (W.tail.tail.headD []))||(W.tail.tail.tail.isEmpty||decide (aZ (W.tail.tail.tail.headD []) ([]::bC) 0<1)))|| !ax (W.tail.tail.tail.tail.headD []))||(bH (W.tail.tail.tail.tail.tail.headD [])).2 != 0) with
 | true=>rfl
 | false=>rfl
theorem Dv {s:List UInt8} (hs:s.length<=1000000) {W:List (List UInt8)} (hW:aD 32 s=W) (hf:cK W=true) (hm:SmW W) (hu:bq (eE W)=some ((false,true,false,false,true,false),())):
 bg s=some ((cC (W.headD []),aZ (W.tail.headD []) byW 0,cC (W.tail.tail.headD []),eE W,cC (W.tail.tail.tail.tail.headD []),[],(bH ((aG W).headD [])).1,[],(0,0),cC ((aG W).tail.headD []),0),
  !((jB W||(bH ((aG W).headD [])).2 != 0)|| !ax ((aG W).tail.headD []))&&((((aG W).tail.tail.length:Nat):Int)==0),()):=by
 unfold bg
 rw[ig s hs,hW,hf]
 have hr:=hm.tail.tail.tail.tail.tail
 change SmW (aG W) at hr
 have hi1:=fun b=>fP W.tail b byW (by decide)
 have hi2:=fun b=>fP W.tail.tail.tail b ([]::bC) (by decide)
 have hd0:=fun b=>bh ((aG W)) b (hr).head
 have hd1:=fun b=>bh ((aG W).tail) b (hr.tail).head
 have hd2:=fun b=>bh ((aG W).tail.tail) b (hr.tail.tail).head
 have hd3:=fun b=>bh ((aG W).tail.tail.tail) b (hr.tail.tail.tail).head
 have hd4:=fun b=>bh ((aG W).tail.tail.tail.tail) b (hr.tail.tail.tail.tail).head
 unfold eE at hu ⊢
 unfold jB
 unfold aG at hd0 hd1 hd2 hd3 hd4 ⊢
 simp only[Qy,QJ,OD,QI,bU,fO,eF]
 rw[show ([[],[98,117,121,101,114],[115,101,108,108,101,114]]:List (List UInt8))=byW from rfl,hi1,Qy]
 simp only[bU,Qy]
 rw[show ([[],[97,100,100],[113,117,97,110,116,105,116,121],[100,117,101],[112,114,105,99,101],[121,101,115],[110,111],[111,102,102,101,114],[116,97,107,101],[115,104,105,112],[114,101,99,101,105,118,101],[114,101,116,117,114,110]]:List (List UInt8))=[]::bC from rfl,hi2,Qy]
 simp only[bU,Qy]
 rw[hu,Qy]
 simp only[QJ,QI,az,hd0,hd1,hd2,hd3,hd4,mQ,bU,Qy]
 cases hb:(((((((false|| !ax (W.headD []))||(W.tail.isEmpty||decide (aZ (W.tail.headD []) byW 0<1)))|| !ax (W.tail.tail.headD []))||(W.tail.tail.tail.isEmpty||decide (aZ (W.tail.tail.tail.headD []) ([]::bC) 0<1)))|| !ax (W.tail.tail.tail.tail.headD []))||(bH (W.tail.tail.tail.tail.tail.headD [])).2 != 0)|| !ax (W.tail.tail.tail.tail.tail.tail.headD [])) with
 | true=>rfl
 | false=>rfl
theorem Du {s:List UInt8} (hs:s.length<=1000000) {W:List (List UInt8)} (hW:aD 32 s=W) (hf:cK W=true) (hm:SmW W) (hu:bq (eE W)=some ((true,true,true,true,true,false),())):
 bg s=some ((cC (W.headD []),aZ (W.tail.headD []) byW 0,cC (W.tail.tail.headD []),eE W,cC (W.tail.tail.tail.tail.headD []),((aG W).headD []),(bH ((aG W).tail.headD [])).1,((aG W).tail.tail.headD []),(bH ((aG W).tail.tail.tail.headD [])).1,cC ((aG W).tail.tail.tail.tail.headD []),0),
  !(((((jB W||(aG W).isEmpty)||(bH ((aG W).tail.headD [])).2 != 0)||(aG W).tail.tail.isEmpty)||(bH ((aG W).tail.tail.tail.headD [])).2 != 0)|| !ax ((aG W).tail.tail.tail.tail.headD []))&&((((aG W).tail.tail.tail.tail.tail.length:Nat):Int)==0),()):=by
 unfold bg
 rw[ig s hs,hW,hf]
 have hr:=hm.tail.tail.tail.tail.tail
 change SmW (aG W) at hr
 have hi1:=fun b=>fP W.tail b byW (by decide)
 have hi2:=fun b=>fP W.tail.tail.tail b ([]::bC) (by decide)
 have hd0:=fun b=>bh ((aG W)) b (hr).head
 have hd1:=fun b=>bh ((aG W).tail) b (hr.tail).head
 have hd2:=fun b=>bh ((aG W).tail.tail) b (hr.tail.tail).head
 have hd3:=fun b=>bh ((aG W).tail.tail.tail) b (hr.tail.tail.tail).head
 have hd4:=fun b=>bh ((aG W).tail.tail.tail.tail) b (hr.tail.tail.tail.tail).head
 unfold eE at hu ⊢
 unfold jB
 unfold aG at hd0 hd1 hd2 hd3 hd4 ⊢
 simp only[Qy,QJ,OD,QI,bU,fO,eF]
 rw[show ([[],[98,117,121,101,114],[115,101,108,108,101,114]]:List (List UInt8))=byW from rfl,hi1,Qy]
 simp only[bU,Qy]
 rw[show ([[],[97,100,100],[113,117,97,110,116,105,116,121],[100,117,101],[112,114,105,99,101],[121,101,115],[110,111],[111,102,102,101,114],[116,97,107,101],[115,104,105,112],[114,101,99,101,105,118,101],[114,101,116,117,114,110]]:List (List UInt8))=[]::bC from rfl,hi2,Qy]
 simp only[bU,Qy]
 rw[hu,Qy]
 simp only[QJ,QI,az,hd0,hd1,hd2,hd3,hd4,mQ,bU,Qy]
 cases hb:((((((((((false|| !ax (W.headD []))||(W.tail.isEmpty||decide (aZ (W.tail.headD []) byW 0<1)))|| !ax (W.tail.tail.headD []))||(W.tail.tail.tail.isEmpty||decide (aZ (W.tail.tail.tail.headD []) ([]::bC) 0<1)))|| !ax (W.tail.tail.tail.tail.headD []))||W.tail.tail.tail.tail.tail.isEmpty)||(bH (W.tail.tail.tail.tail.tail.tail.headD [])).2 != 0)||W.tail.tail.tail.tail.tail.tail.tail.isEmpty)||(bH (W.tail.tail.tail.tail.tail.tail.tail.tail.headD [])).2 != 0)|| !ax (W.tail.tail.tail.tail.tail.tail.tail.tail.tail.headD [])) with
 | true=>rfl
 | false=>rfl
theorem Dw {s:List UInt8} (hs:s.length<=1000000) {W:List (List UInt8)} (hW:aD 32 s=W) (hf:cK W=true) (hm:SmW W) (hu:bq (eE W)=some ((false,false,false,true,false,false),())):
 bg s=some ((cC (W.headD []),aZ (W.tail.headD []) byW 0,cC (W.tail.tail.headD []),eE W,cC (W.tail.tail.tail.tail.headD []),[],(0,0),[],(bH ((aG W).headD [])).1,0,0),
  !(jB W||(bH ((aG W).headD [])).2 != 0)&&((((aG W).tail.length:Nat):Int)==0),()):=by
 unfold bg
 rw[ig s hs,hW,hf]
 have hr:=hm.tail.tail.tail.tail.tail
 change SmW (aG W) at hr
 have hi1:=fun b=>fP W.tail b byW (by decide)
 have hi2:=fun b=>fP W.tail.tail.tail b ([]::bC) (by decide)
 have hd0:=fun b=>bh ((aG W)) b (hr).head
 have hd1:=fun b=>bh ((aG W).tail) b (hr.tail).head
 have hd2:=fun b=>bh ((aG W).tail.tail) b (hr.tail.tail).head
 have hd3:=fun b=>bh ((aG W).tail.tail.tail) b (hr.tail.tail.tail).head
 have hd4:=fun b=>bh ((aG W).tail.tail.tail.tail) b (hr.tail.tail.tail.tail).head
 unfold eE at hu ⊢
 unfold jB
 unfold aG at hd0 hd1 hd2 hd3 hd4 ⊢
 simp only[Qy,QJ,OD,QI,bU,fO,eF]
 rw[show ([[],[98,117,121,101,114],[115,101,108,108,101,114]]:List (List UInt8))=byW from rfl,hi1,Qy]
 simp only[bU,Qy]
 rw[show ([[],[97,100,100],[113,117,97,110,116,105,116,121],[100,117,101],[112,114,105,99,101],[121,101,115],[110,111],[111,102,102,101,114],[116,97,107,101],[115,104,105,112],[114,101,99,101,105,118,101],[114,101,116,117,114,110]]:List (List UInt8))=[]::bC from rfl,hi2,Qy]
 simp only[bU,Qy]
 rw[hu,Qy]
 simp only[QJ,QI,az,hd0,hd1,hd2,hd3,hd4,mQ,bU,Qy]
 cases hb:((((((false|| !ax (W.headD []))||(W.tail.isEmpty||decide (aZ (W.tail.headD []) byW 0<1)))|| !ax (W.tail.tail.headD []))||(W.tail.tail.tail.isEmpty||decide (aZ (W.tail.tail.tail.headD []) ([]::bC) 0<1)))|| !ax (W.tail.tail.tail.tail.headD []))||(bH (W.tail.tail.tail.tail.tail.headD [])).2 != 0) with
 | true=>rfl
 | false=>rfl
theorem Dz {s:List UInt8} (hs:s.length<=1000000) {W:List (List UInt8)} (hW:aD 32 s=W) (hf:cK W=true) (hm:SmW W) (hu:bq (eE W)=some ((false,false,false,false,true,false),())):
 bg s=some ((cC (W.headD []),aZ (W.tail.headD []) byW 0,cC (W.tail.tail.headD []),eE W,cC (W.tail.tail.tail.tail.headD []),[],(0,0),[],(0,0),cC ((aG W).headD []),0),
  !(jB W|| !ax ((aG W).headD []))&&((((aG W).tail.length:Nat):Int)==0),()):=by
 unfold bg
 rw[ig s hs,hW,hf]
 have hr:=hm.tail.tail.tail.tail.tail
 change SmW (aG W) at hr
 have hi1:=fun b=>fP W.tail b byW (by decide)
 have hi2:=fun b=>fP W.tail.tail.tail b ([]::bC) (by decide)
 have hd0:=fun b=>bh ((aG W)) b (hr).head
 have hd1:=fun b=>bh ((aG W).tail) b (hr.tail).head
 have hd2:=fun b=>bh ((aG W).tail.tail) b (hr.tail.tail).head
 have hd3:=fun b=>bh ((aG W).tail.tail.tail) b (hr.tail.tail.tail).head
 have hd4:=fun b=>bh ((aG W).tail.tail.tail.tail) b (hr.tail.tail.tail.tail).head
 unfold eE at hu ⊢
 unfold jB
 unfold aG at hd0 hd1 hd2 hd3 hd4 ⊢
 simp only[Qy,QJ,OD,QI,bU,fO,eF]
 rw[show ([[],[98,117,121,101,114],[115,101,108,108,101,114]]:List (List UInt8))=byW from rfl,hi1,Qy]
 simp only[bU,Qy]
 rw[show ([[],[97,100,100],[113,117,97,110,116,105,116,121],[100,117,101],[112,114,105,99,101],[121,101,115],[110,111],[111,102,102,101,114],[116,97,107,101],[115,104,105,112],[114,101,99,101,105,118,101],[114,101,116,117,114,110]]:List (List UInt8))=[]::bC from rfl,hi2,Qy]
 simp only[bU,Qy]
 rw[hu,Qy]
 simp only[QJ,QI,az,hd0,hd1,hd2,hd3,hd4,mQ,bU,Qy]
 cases hb:((((((false|| !ax (W.headD []))||(W.tail.isEmpty||decide (aZ (W.tail.headD []) byW 0<1)))|| !ax (W.tail.tail.headD []))||(W.tail.tail.tail.isEmpty||decide (aZ (W.tail.tail.tail.headD []) ([]::bC) 0<1)))|| !ax (W.tail.tail.tail.tail.headD []))|| !ax (W.tail.tail.tail.tail.tail.headD [])) with
 | true=>rfl
 | false=>rfl
theorem Dy {s:List UInt8} (hs:s.length<=1000000) {W:List (List UInt8)} (hW:aD 32 s=W) (hf:cK W=true) (hm:SmW W) (hu:bq (eE W)=some ((false,false,false,false,false,true),())):
 bg s=some ((cC (W.headD []),aZ (W.tail.headD []) byW 0,cC (W.tail.tail.headD []),eE W,cC (W.tail.tail.tail.tail.headD []),[],(0,0),[],(0,0),0,cC ((aG W).headD [])),
  !(jB W|| !ax ((aG W).headD []))&&((((aG W).tail.length:Nat):Int)==0),()):=by
 unfold bg
 rw[ig s hs,hW,hf]
 have hr:=hm.tail.tail.tail.tail.tail
 change SmW (aG W) at hr
 have hi1:=fun b=>fP W.tail b byW (by decide)
 have hi2:=fun b=>fP W.tail.tail.tail b ([]::bC) (by decide)
 have hd0:=fun b=>bh ((aG W)) b (hr).head
 have hd1:=fun b=>bh ((aG W).tail) b (hr.tail).head
 have hd2:=fun b=>bh ((aG W).tail.tail) b (hr.tail.tail).head
 have hd3:=fun b=>bh ((aG W).tail.tail.tail) b (hr.tail.tail.tail).head
 have hd4:=fun b=>bh ((aG W).tail.tail.tail.tail) b (hr.tail.tail.tail.tail).head
 unfold eE at hu ⊢
 unfold jB
 unfold aG at hd0 hd1 hd2 hd3 hd4 ⊢
 simp only[Qy,QJ,OD,QI,bU,fO,eF]
 rw[show ([[],[98,117,121,101,114],[115,101,108,108,101,114]]:List (List UInt8))=byW from rfl,hi1,Qy]
 simp only[bU,Qy]
 rw[show ([[],[97,100,100],[113,117,97,110,116,105,116,121],[100,117,101],[112,114,105,99,101],[121,101,115],[110,111],[111,102,102,101,114],[116,97,107,101],[115,104,105,112],[114,101,99,101,105,118,101],[114,101,116,117,114,110]]:List (List UInt8))=[]::bC from rfl,hi2,Qy]
 simp only[bU,Qy]
 rw[hu,Qy]
 simp only[QJ,QI,az,hd0,hd1,hd2,hd3,hd4,mQ,bU,Qy]
 cases hb:((((((false|| !ax (W.headD []))||(W.tail.isEmpty||decide (aZ (W.tail.headD []) byW 0<1)))|| !ax (W.tail.tail.headD []))||(W.tail.tail.tail.isEmpty||decide (aZ (W.tail.tail.tail.headD []) ([]::bC) 0<1)))|| !ax (W.tail.tail.tail.tail.headD []))|| !ax (W.tail.tail.tail.tail.tail.headD [])) with
 | true=>rfl
 | false=>rfl
end Go.Md
namespace Go.Md
open Go.Dn
theorem cT (b:Bool) (s:List UInt8) (hs:s.length<=1000000):eG (b,()) s=some ((bH s).1,(b&&((bH s).2==0),()),()):=by
 unfold eG
 rw[EK s hs,Qy]
 cases b<;>rfl
theorem cr {W:List (List UInt8)} (hl:W.length<1000000000):dJ W []=some (!cK W,()):=by
 rw[tg W [] hl]
 congr 2
 unfold cK
 induction W with
 | nil=>rfl
 | cons a r ih=>
  simp only[List.any_cons,OU]
  rw[ih (by simp at hl ⊢;omega)]
  cases (a==[])<;>simp
theorem HM {s:List UInt8} (hs:s.length<=1000000) {W:List (List UInt8)} (hW:aD 32 s=W) (hb:W.length<6\/cK W=false\/(W[1]? ≠some [98,117,121,101,114]/\W[1]? ≠some [115,101,108,108,101,114])): aS s=some ((0,0,0,0,0,[],(0,0),[],(0,0),0,0),false,()):=by
 have hlen:=(bN 32 s).1
 unfold aS
 rw[bp s 32 hs,hW,Qy]
 rw[hW] at hlen
 dsimp only
 by_cases h6:W.length<6
 ·rw[aJ (by omega)];rfl
 ·rw[aN (by omega)]
  have hb:=hb.resolve_left h6
  match W,h6,hlen,hb with
  | [],h6,_,_=>exact absurd (by simp) h6
  | [_],h6,_,_=>exact absurd (by simp) h6
  | a::b::r,h6,hlen,hb=>
   rw[aY (by simp;omega),show (a::b::r)[1]? =some b from rfl,Qy,aY (by simp;omega),cr (by simp at hlen ⊢;omega),Qy]
   simp only[Qy]
   cases h1:(b==[98,117,121,101,114]) with
   | true=>
    rcases hb with hb | hb
    ·rw[hb];rfl
    ·exact absurd (by rw[eq_of_beq h1];rfl) hb.1
   | false=>
    cases h2:(b==[115,101,108,108,101,114]) with
    | true=>
     rcases hb with hb | hb
     ·rw[hb];rfl
     ·exact absurd (by rw[eq_of_beq h2];rfl) hb.2
    | false=>rfl
def byF (b:List UInt8):Int:=bif b==[115,101,108,108,101,114] then 2 else 1
theorem dF:strings_Split [97,100,100,32,113,117,97,110,116,105,116,121,32,100,117,101,32,112,114,105,99,101,32,121,101,115,32,110,111,32,111,102,102,101,114,32,116,97,107,101,32,115,104,105,112,32,114,101,99,101,105,118,101,32,114,101,116,117,114,110] [32]=some (bC,()):=by
 rw[bp _ 32 (by decide)]
 rfl
theorem bS {β:Type} (x:Option β):chk true x=x:=rfl
theorem aO {k n:Int} (h0:0<=k) (h1:k<n):(decide (0<=k)&&decide (k<n))=true:=by
 rw[QM h0,QM h1];rfl
theorem mL {b:List UInt8} (hb:b=[98,117,121,101,114]\/b=[115,101,108,108,101,114]) (x:Bool×Unit):(bif !(b==[98,117,121,101,114]) then (bif !(b==[115,101,108,108,101,114]) then some (true,()) else some x) else some x)=some x:=by
 rcases hb with rfl | rfl<;>rfl
theorem M4 {s:List UInt8} (hs:s.length<=1000000) {a:List UInt8} {b:List UInt8} {c:List UInt8} {d:List UInt8} {e:List UInt8} {f:List UInt8} (hW:aD 32 s=a::b::c::d::e::f::[]) (hf:cK (a::b::c::d::e::f::[])=true) (hm:SmW (a::b::c::d::e::f::[])) (hb:b=[98,117,121,101,114]\/b=[115,101,108,108,101,114]) {k:Int} (hk:w64 (aZ d bC 0+1)=k) (hk0:(k==0)=false) (hu:cy k=some ((true,false,false,false,false),())): aS s=some ((cC a,byF b,cC c,k,cC e,[],(bH f).1,[],(0,0),0,0),((((true&&ax a)&&ax c)&&ax e)&&((bH f).2==0)),()):=by
 have hlen:=(bN 32 s).1
 rw[hW] at hlen
 have hL:∃ n:Nat,(((a::b::c::d::e::f::[]:List (List UInt8)).length:Nat):Int)=(n:Int)+6/\n=0:=⟨_,by simp<;>omega,rfl⟩
 obtain⟨n,hn,hnr⟩:=hL
 have hdrop:List.drop 5 (List.take (Int.toNat (((a::b::c::d::e::f::[]:List (List UInt8)).length:Nat):Int)) (a::b::c::d::e::f::[]:List (List UInt8)))=f::[]:=by rw[OS,Qa (Qm _)];rfl
 have hc5:(decide (0<=(5:Int))&&decide ((5:Int)<=(((a::b::c::d::e::f::[]:List (List UInt8)).length:Nat):Int))&&decide ((((a::b::c::d::e::f::[]:List (List UInt8)).length:Nat):Int)<=(((a::b::c::d::e::f::[]:List (List UInt8)).length:Nat):Int)))=true:=by
  rw[QM (by omega),QM (by omega),QM (by omega)];rfl
 have hc0:(decide (0<=(0:Int))&&decide ((0:Int)<(((a::b::c::d::e::f::[]:List (List UInt8)).length:Nat):Int)))=true:=aO (by omega) (by omega)
 have hc1:(decide (0<=(1:Int))&&decide ((1:Int)<(((a::b::c::d::e::f::[]:List (List UInt8)).length:Nat):Int)))=true:=aO (by omega) (by omega)
 have hc2:(decide (0<=(2:Int))&&decide ((2:Int)<(((a::b::c::d::e::f::[]:List (List UInt8)).length:Nat):Int)))=true:=aO (by omega) (by omega)
 have hc3:(decide (0<=(3:Int))&&decide ((3:Int)<(((a::b::c::d::e::f::[]:List (List UInt8)).length:Nat):Int)))=true:=aO (by omega) (by omega)
 have hc4:(decide (0<=(4:Int))&&decide ((4:Int)<(((a::b::c::d::e::f::[]:List (List UInt8)).length:Nat):Int)))=true:=aO (by omega) (by omega)
 have h6:decide ((((a::b::c::d::e::f::[]:List (List UInt8)).length:Nat):Int)<6)=false:=QL (by omega)
 have hct:=cr (W:=(a::b::c::d::e::f::[]:List (List UInt8))) (by omega)
 rw[hf] at hct
 have hix:=bf bC d (by decide)
 have ht_f:f.length<=1000000:=hm _ (by simp)
 have hd_f:=fun b=>cT b f ht_f
 unfold aS
 rw[bp s 32 hs,hW,Qy]
 simp only[hdrop,hc5,hc0,hc1,hc2,hc3,hc4,h6,bS,QI,Pk,Pj,Qy,hct,OD,mL hb,aI,dF,hix,hk]
 have hi:∀ (q:Nat) (w:List UInt8),(f::[])[q]? =some w->idx (f::[]) (q:Int)=some w:=fun q w h=>by rw[cM];exact h
 have hi0:idx (f::[]) 0=some f:=hi 0 _ rfl
 have l5:((((f::[]:List (List UInt8)).length:Nat):Int)==5)=false:=rfl
 have l2:((((f::[]:List (List UInt8)).length:Nat):Int)==2)=false:=rfl
 have l1:((((f::[]:List (List UInt8)).length:Nat):Int) != 1)=false:=rfl
 unfold byF
 cases hby:(b==[115,101,108,108,101,114]) with
 | true=>
  simp only[QJ,QI,az,hk0,hu,Qy,hdrop,hc5,bS,hi0,hd_f,l5,l2,l1,aI]
 | false=>
  simp only[QJ,QI,az,hk0,hu,Qy,hdrop,hc5,bS,hi0,hd_f,l5,l2,l1,aI]
theorem Mm {s:List UInt8} (hs:s.length<=1000000) {a b c d e f:List UInt8} {r:List (List UInt8)} (hr:r.length≠0) (hW:aD 32 s=a::b::c::d::e::f::r) (hf:cK (a::b::c::d::e::f::r)=true) (hm:SmW (a::b::c::d::e::f::r)) (hb:b=[98,117,121,101,114]\/b=[115,101,108,108,101,114]) {k:Int} (hk:w64 (aZ d bC 0+1)=k) (hk0:(k==0)=false) (hu:cy k=some ((true,false,false,false,false),())): ∃ dd,aS s=some (dd,false,()):=by
 have hlen:=(bN 32 s).1
 rw[hW] at hlen
 have hL:∃ n:Nat,(((a::b::c::d::e::f::r:List (List UInt8)).length:Nat):Int)=(n:Int)+6/\n=r.length:=⟨_,by simp<;>omega,rfl⟩
 obtain⟨n,hn,hnr⟩:=hL
 have hdrop:List.drop 5 (List.take (Int.toNat (((a::b::c::d::e::f::r:List (List UInt8)).length:Nat):Int)) (a::b::c::d::e::f::r:List (List UInt8)))=f::r:=by rw[OS,Qa (Qm _)];rfl
 have hc5:(decide (0<=(5:Int))&&decide ((5:Int)<=(((a::b::c::d::e::f::r:List (List UInt8)).length:Nat):Int))&&decide ((((a::b::c::d::e::f::r:List (List UInt8)).length:Nat):Int)<=(((a::b::c::d::e::f::r:List (List UInt8)).length:Nat):Int)))=true:=by
  rw[QM (by omega),QM (by omega),QM (by omega)];rfl
 have hc0:(decide (0<=(0:Int))&&decide ((0:Int)<(((a::b::c::d::e::f::r:List (List UInt8)).length:Nat):Int)))=true:=aO (by omega) (by omega)
 have hc1:(decide (0<=(1:Int))&&decide ((1:Int)<(((a::b::c::d::e::f::r:List (List UInt8)).length:Nat):Int)))=true:=aO (by omega) (by omega)
 have hc2:(decide (0<=(2:Int))&&decide ((2:Int)<(((a::b::c::d::e::f::r:List (List UInt8)).length:Nat):Int)))=true:=aO (by omega) (by omega)
 have hc3:(decide (0<=(3:Int))&&decide ((3:Int)<(((a::b::c::d::e::f::r:List (List UInt8)).length:Nat):Int)))=true:=aO (by omega) (by omega)
 have hc4:(decide (0<=(4:Int))&&decide ((4:Int)<(((a::b::c::d::e::f::r:List (List UInt8)).length:Nat):Int)))=true:=aO (by omega) (by omega)
 have h6:decide ((((a::b::c::d::e::f::r:List (List UInt8)).length:Nat):Int)<6)=false:=QL (by omega)
 have hct:=cr (W:=(a::b::c::d::e::f::r:List (List UInt8))) (by omega)
 rw[hf] at hct
 have hix:=bf bC d (by decide)
 unfold aS
 rw[bp s 32 hs,hW,Qy]
 simp only[hdrop,hc5,hc0,hc1,hc2,hc3,hc4,h6,bS,QI,Pk,Pj,Qy,hct,OD,mL hb,aI,dF,hix,hk]
 have l1:((((f::r:List (List UInt8)).length:Nat):Int) != 1)=true:=by
  cases h:((((f::r:List (List UInt8)).length:Nat):Int) != 1) with
  | true=>rfl
  | false=>
   have h2:((((f::r:List (List UInt8)).length:Nat):Int)==1)=true:=by simpa [bne] using h
   have:=eq_of_beq h2;simp at this;omega
 cases hby:(b==[115,101,108,108,101,114]) with
 | true=>
  simp only[QJ,QI,az,hk0,hu,Qy,hdrop,hc5,bS,l1]
  first | exact⟨_,rfl⟩ | (split<;>exact⟨_,rfl⟩) | (cases ((((f::r:List (List UInt8)).length:Nat):Int) != 1)<;>exact⟨_,rfl⟩)
 | false=>
  simp only[QJ,QI,az,hk0,hu,Qy,hdrop,hc5,bS,l1]
  first | exact⟨_,rfl⟩ | (split<;>exact⟨_,rfl⟩) | (cases ((((f::r:List (List UInt8)).length:Nat):Int) != 1)<;>exact⟨_,rfl⟩)
theorem M1 {s:List UInt8} (hs:s.length<=1000000) {a:List UInt8} {b:List UInt8} {c:List UInt8} {d:List UInt8} {e:List UInt8} {f:List UInt8} {f1:List UInt8} (hW:aD 32 s=a::b::c::d::e::f::f1::[]) (hf:cK (a::b::c::d::e::f::f1::[])=true) (hm:SmW (a::b::c::d::e::f::f1::[])) (hb:b=[98,117,121,101,114]\/b=[115,101,108,108,101,114]) {k:Int} (hk:w64 (aZ d bC 0+1)=k) (hk0:(k==0)=false) (hu:cy k=some ((true,false,true,false,false),())): aS s=some ((cC a,byF b,cC c,k,cC e,[],(bH f).1,[],(0,0),cC f1,0),(((((true&&ax a)&&ax c)&&ax e)&&((bH f).2==0))&&ax f1),()):=by
 have hlen:=(bN 32 s).1
 rw[hW] at hlen
 have hL:∃ n:Nat,(((a::b::c::d::e::f::f1::[]:List (List UInt8)).length:Nat):Int)=(n:Int)+6/\n=1:=⟨_,by simp<;>omega,rfl⟩
 obtain⟨n,hn,hnr⟩:=hL
 have hdrop:List.drop 5 (List.take (Int.toNat (((a::b::c::d::e::f::f1::[]:List (List UInt8)).length:Nat):Int)) (a::b::c::d::e::f::f1::[]:List (List UInt8)))=f::f1::[]:=by rw[OS,Qa (Qm _)];rfl
 have hc5:(decide (0<=(5:Int))&&decide ((5:Int)<=(((a::b::c::d::e::f::f1::[]:List (List UInt8)).length:Nat):Int))&&decide ((((a::b::c::d::e::f::f1::[]:List (List UInt8)).length:Nat):Int)<=(((a::b::c::d::e::f::f1::[]:List (List UInt8)).length:Nat):Int)))=true:=by
  rw[QM (by omega),QM (by omega),QM (by omega)];rfl
 have hc0:(decide (0<=(0:Int))&&decide ((0:Int)<(((a::b::c::d::e::f::f1::[]:List (List UInt8)).length:Nat):Int)))=true:=aO (by omega) (by omega)
 have hc1:(decide (0<=(1:Int))&&decide ((1:Int)<(((a::b::c::d::e::f::f1::[]:List (List UInt8)).length:Nat):Int)))=true:=aO (by omega) (by omega)
 have hc2:(decide (0<=(2:Int))&&decide ((2:Int)<(((a::b::c::d::e::f::f1::[]:List (List UInt8)).length:Nat):Int)))=true:=aO (by omega) (by omega)
 have hc3:(decide (0<=(3:Int))&&decide ((3:Int)<(((a::b::c::d::e::f::f1::[]:List (List UInt8)).length:Nat):Int)))=true:=aO (by omega) (by omega)
 have hc4:(decide (0<=(4:Int))&&decide ((4:Int)<(((a::b::c::d::e::f::f1::[]:List (List UInt8)).length:Nat):Int)))=true:=aO (by omega) (by omega)
 have h6:decide ((((a::b::c::d::e::f::f1::[]:List (List UInt8)).length:Nat):Int)<6)=false:=QL (by omega)
 have hct:=cr (W:=(a::b::c::d::e::f::f1::[]:List (List UInt8))) (by omega)
 rw[hf] at hct
 have hix:=bf bC d (by decide)
 have ht_f:f.length<=1000000:=hm _ (by simp)
 have ht_f1:f1.length<=1000000:=hm _ (by simp)
 have hd_f:=fun b=>cT b f ht_f
 have hd_f1:=fun b=>cT b f1 ht_f1
 unfold aS
 rw[bp s 32 hs,hW,Qy]
 simp only[hdrop,hc5,hc0,hc1,hc2,hc3,hc4,h6,bS,QI,Pk,Pj,Qy,hct,OD,mL hb,aI,dF,hix,hk]
 have hi:∀ (q:Nat) (w:List UInt8),(f::f1::[])[q]? =some w->idx (f::f1::[]) (q:Int)=some w:=fun q w h=>by rw[cM];exact h
 have hi0:idx (f::f1::[]) 0=some f:=hi 0 _ rfl
 have hi1:idx (f::f1::[]) 1=some f1:=hi 1 _ rfl
 have l5:((((f::f1::[]:List (List UInt8)).length:Nat):Int)==5)=false:=rfl
 have l2:((((f::f1::[]:List (List UInt8)).length:Nat):Int)==2)=true:=rfl
 have l1:((((f::f1::[]:List (List UInt8)).length:Nat):Int) != 1)=true:=rfl
 unfold byF
 cases hby:(b==[115,101,108,108,101,114]) with
 | true=>
  simp only[QJ,QI,az,hk0,hu,Qy,hdrop,hc5,bS,hi0,hi1,hd_f,hd_f1,l5,l2,l1,aI]
 | false=>
  simp only[QJ,QI,az,hk0,hu,Qy,hdrop,hc5,bS,hi0,hi1,hd_f,hd_f1,l5,l2,l1,aI]
theorem Mk {s:List UInt8} (hs:s.length<=1000000) {a b c d e f:List UInt8} {r:List (List UInt8)} (hr:r.length≠1) (hW:aD 32 s=a::b::c::d::e::f::r) (hf:cK (a::b::c::d::e::f::r)=true) (hm:SmW (a::b::c::d::e::f::r)) (hb:b=[98,117,121,101,114]\/b=[115,101,108,108,101,114]) {k:Int} (hk:w64 (aZ d bC 0+1)=k) (hk0:(k==0)=false) (hu:cy k=some ((true,false,true,false,false),())): ∃ dd,aS s=some (dd,false,()):=by
 have hlen:=(bN 32 s).1
 rw[hW] at hlen
 have hL:∃ n:Nat,(((a::b::c::d::e::f::r:List (List UInt8)).length:Nat):Int)=(n:Int)+6/\n=r.length:=⟨_,by simp<;>omega,rfl⟩
 obtain⟨n,hn,hnr⟩:=hL
 have hdrop:List.drop 5 (List.take (Int.toNat (((a::b::c::d::e::f::r:List (List UInt8)).length:Nat):Int)) (a::b::c::d::e::f::r:List (List UInt8)))=f::r:=by rw[OS,Qa (Qm _)];rfl
 have hc5:(decide (0<=(5:Int))&&decide ((5:Int)<=(((a::b::c::d::e::f::r:List (List UInt8)).length:Nat):Int))&&decide ((((a::b::c::d::e::f::r:List (List UInt8)).length:Nat):Int)<=(((a::b::c::d::e::f::r:List (List UInt8)).length:Nat):Int)))=true:=by
  rw[QM (by omega),QM (by omega),QM (by omega)];rfl
 have hc0:(decide (0<=(0:Int))&&decide ((0:Int)<(((a::b::c::d::e::f::r:List (List UInt8)).length:Nat):Int)))=true:=aO (by omega) (by omega)
 have hc1:(decide (0<=(1:Int))&&decide ((1:Int)<(((a::b::c::d::e::f::r:List (List UInt8)).length:Nat):Int)))=true:=aO (by omega) (by omega)
 have hc2:(decide (0<=(2:Int))&&decide ((2:Int)<(((a::b::c::d::e::f::r:List (List UInt8)).length:Nat):Int)))=true:=aO (by omega) (by omega)
 have hc3:(decide (0<=(3:Int))&&decide ((3:Int)<(((a::b::c::d::e::f::r:List (List UInt8)).length:Nat):Int)))=true:=aO (by omega) (by omega)
 have hc4:(decide (0<=(4:Int))&&decide ((4:Int)<(((a::b::c::d::e::f::r:List (List UInt8)).length:Nat):Int)))=true:=aO (by omega) (by omega)
 have h6:decide ((((a::b::c::d::e::f::r:List (List UInt8)).length:Nat):Int)<6)=false:=QL (by omega)
 have hct:=cr (W:=(a::b::c::d::e::f::r:List (List UInt8))) (by omega)
 rw[hf] at hct
 have hix:=bf bC d (by decide)
 unfold aS
 rw[bp s 32 hs,hW,Qy]
 simp only[hdrop,hc5,hc0,hc1,hc2,hc3,hc4,h6,bS,QI,Pk,Pj,Qy,hct,OD,mL hb,aI,dF,hix,hk]
 have l2:((((f::r:List (List UInt8)).length:Nat):Int)==2)=false:=by
  cases h:((((f::r:List (List UInt8)).length:Nat):Int)==2) with
  | false=>rfl
  | true=>have:=eq_of_beq h;simp at this;omega
 cases hby:(b==[115,101,108,108,101,114]) with
 | true=>
  simp only[QJ,QI,az,hk0,hu,Qy,hdrop,hc5,bS,l2]
  first | exact⟨_,rfl⟩ | (split<;>exact⟨_,rfl⟩) | (cases ((((f::r:List (List UInt8)).length:Nat):Int) != 1)<;>exact⟨_,rfl⟩)
 | false=>
  simp only[QJ,QI,az,hk0,hu,Qy,hdrop,hc5,bS,l2]
  first | exact⟨_,rfl⟩ | (split<;>exact⟨_,rfl⟩) | (cases ((((f::r:List (List UInt8)).length:Nat):Int) != 1)<;>exact⟨_,rfl⟩)
theorem M0 {s:List UInt8} (hs:s.length<=1000000) {a:List UInt8} {b:List UInt8} {c:List UInt8} {d:List UInt8} {e:List UInt8} {f:List UInt8} {f1:List UInt8} {f2:List UInt8} {f3:List UInt8} {f4:List UInt8} (hW:aD 32 s=a::b::c::d::e::f::f1::f2::f3::f4::[]) (hf:cK (a::b::c::d::e::f::f1::f2::f3::f4::[])=true) (hm:SmW (a::b::c::d::e::f::f1::f2::f3::f4::[])) (hb:b=[98,117,121,101,114]\/b=[115,101,108,108,101,114]) {k:Int} (hk:w64 (aZ d bC 0+1)=k) (hk0:(k==0)=false) (hu:cy k=some ((true,true,true,true,false),())): aS s=some ((cC a,byF b,cC c,k,cC e,f,(bH f1).1,f2,(bH f3).1,cC f4,0),((((((true&&ax a)&&ax c)&&ax e)&&((bH f1).2==0))&&((bH f3).2==0))&&ax f4),()):=by
 have hlen:=(bN 32 s).1
 rw[hW] at hlen
 have hL:∃ n:Nat,(((a::b::c::d::e::f::f1::f2::f3::f4::[]:List (List UInt8)).length:Nat):Int)=(n:Int)+6/\n=4:=⟨_,by simp<;>omega,rfl⟩
 obtain⟨n,hn,hnr⟩:=hL
 have hdrop:List.drop 5 (List.take (Int.toNat (((a::b::c::d::e::f::f1::f2::f3::f4::[]:List (List UInt8)).length:Nat):Int)) (a::b::c::d::e::f::f1::f2::f3::f4::[]:List (List UInt8)))=f::f1::f2::f3::f4::[]:=by rw[OS,Qa (Qm _)];rfl
 have hc5:(decide (0<=(5:Int))&&decide ((5:Int)<=(((a::b::c::d::e::f::f1::f2::f3::f4::[]:List (List UInt8)).length:Nat):Int))&&decide ((((a::b::c::d::e::f::f1::f2::f3::f4::[]:List (List UInt8)).length:Nat):Int)<=(((a::b::c::d::e::f::f1::f2::f3::f4::[]:List (List UInt8)).length:Nat):Int)))=true:=by
  rw[QM (by omega),QM (by omega),QM (by omega)];rfl
 have hc0:(decide (0<=(0:Int))&&decide ((0:Int)<(((a::b::c::d::e::f::f1::f2::f3::f4::[]:List (List UInt8)).length:Nat):Int)))=true:=aO (by omega) (by omega)
 have hc1:(decide (0<=(1:Int))&&decide ((1:Int)<(((a::b::c::d::e::f::f1::f2::f3::f4::[]:List (List UInt8)).length:Nat):Int)))=true:=aO (by omega) (by omega)
 have hc2:(decide (0<=(2:Int))&&decide ((2:Int)<(((a::b::c::d::e::f::f1::f2::f3::f4::[]:List (List UInt8)).length:Nat):Int)))=true:=aO (by omega) (by omega)
 have hc3:(decide (0<=(3:Int))&&decide ((3:Int)<(((a::b::c::d::e::f::f1::f2::f3::f4::[]:List (List UInt8)).length:Nat):Int)))=true:=aO (by omega) (by omega)
 have hc4:(decide (0<=(4:Int))&&decide ((4:Int)<(((a::b::c::d::e::f::f1::f2::f3::f4::[]:List (List UInt8)).length:Nat):Int)))=true:=aO (by omega) (by omega)
 have h6:decide ((((a::b::c::d::e::f::f1::f2::f3::f4::[]:List (List UInt8)).length:Nat):Int)<6)=false:=QL (by omega)
 have hct:=cr (W:=(a::b::c::d::e::f::f1::f2::f3::f4::[]:List (List UInt8))) (by omega)
 rw[hf] at hct
 have hix:=bf bC d (by decide)
 have ht_f:f.length<=1000000:=hm _ (by simp)
 have ht_f1:f1.length<=1000000:=hm _ (by simp)
 have ht_f2:f2.length<=1000000:=hm _ (by simp)
 have ht_f3:f3.length<=1000000:=hm _ (by simp)
 have ht_f4:f4.length<=1000000:=hm _ (by simp)
 have hd_f:=fun b=>cT b f ht_f
 have hd_f1:=fun b=>cT b f1 ht_f1
 have hd_f2:=fun b=>cT b f2 ht_f2
 have hd_f3:=fun b=>cT b f3 ht_f3
 have hd_f4:=fun b=>cT b f4 ht_f4
 unfold aS
 rw[bp s 32 hs,hW,Qy]
 simp only[hdrop,hc5,hc0,hc1,hc2,hc3,hc4,h6,bS,QI,Pk,Pj,Qy,hct,OD,mL hb,aI,dF,hix,hk]
 have hi:∀ (q:Nat) (w:List UInt8),(f::f1::f2::f3::f4::[])[q]? =some w->idx (f::f1::f2::f3::f4::[]) (q:Int)=some w:=fun q w h=>by rw[cM];exact h
 have hi0:idx (f::f1::f2::f3::f4::[]) 0=some f:=hi 0 _ rfl
 have hi1:idx (f::f1::f2::f3::f4::[]) 1=some f1:=hi 1 _ rfl
 have hi2:idx (f::f1::f2::f3::f4::[]) 2=some f2:=hi 2 _ rfl
 have hi3:idx (f::f1::f2::f3::f4::[]) 3=some f3:=hi 3 _ rfl
 have hi4:idx (f::f1::f2::f3::f4::[]) 4=some f4:=hi 4 _ rfl
 have l5:((((f::f1::f2::f3::f4::[]:List (List UInt8)).length:Nat):Int)==5)=true:=rfl
 have l2:((((f::f1::f2::f3::f4::[]:List (List UInt8)).length:Nat):Int)==2)=false:=rfl
 have l1:((((f::f1::f2::f3::f4::[]:List (List UInt8)).length:Nat):Int) != 1)=true:=rfl
 unfold byF
 cases hby:(b==[115,101,108,108,101,114]) with
 | true=>
  simp only[QJ,QI,az,hk0,hu,Qy,hdrop,hc5,bS,hi0,hi1,hi2,hi3,hi4,hd_f,hd_f1,hd_f2,hd_f3,hd_f4,l5,l2,l1,aI]
 | false=>
  simp only[QJ,QI,az,hk0,hu,Qy,hdrop,hc5,bS,hi0,hi1,hi2,hi3,hi4,hd_f,hd_f1,hd_f2,hd_f3,hd_f4,l5,l2,l1,aI]
theorem Mj {s:List UInt8} (hs:s.length<=1000000) {a b c d e f:List UInt8} {r:List (List UInt8)} (hr:r.length≠4) (hW:aD 32 s=a::b::c::d::e::f::r) (hf:cK (a::b::c::d::e::f::r)=true) (hm:SmW (a::b::c::d::e::f::r)) (hb:b=[98,117,121,101,114]\/b=[115,101,108,108,101,114]) {k:Int} (hk:w64 (aZ d bC 0+1)=k) (hk0:(k==0)=false) (hu:cy k=some ((true,true,true,true,false),())): ∃ dd,aS s=some (dd,false,()):=by
 have hlen:=(bN 32 s).1
 rw[hW] at hlen
 have hL:∃ n:Nat,(((a::b::c::d::e::f::r:List (List UInt8)).length:Nat):Int)=(n:Int)+6/\n=r.length:=⟨_,by simp<;>omega,rfl⟩
 obtain⟨n,hn,hnr⟩:=hL
 have hdrop:List.drop 5 (List.take (Int.toNat (((a::b::c::d::e::f::r:List (List UInt8)).length:Nat):Int)) (a::b::c::d::e::f::r:List (List UInt8)))=f::r:=by rw[OS,Qa (Qm _)];rfl
 have hc5:(decide (0<=(5:Int))&&decide ((5:Int)<=(((a::b::c::d::e::f::r:List (List UInt8)).length:Nat):Int))&&decide ((((a::b::c::d::e::f::r:List (List UInt8)).length:Nat):Int)<=(((a::b::c::d::e::f::r:List (List UInt8)).length:Nat):Int)))=true:=by
  rw[QM (by omega),QM (by omega),QM (by omega)];rfl
 have hc0:(decide (0<=(0:Int))&&decide ((0:Int)<(((a::b::c::d::e::f::r:List (List UInt8)).length:Nat):Int)))=true:=aO (by omega) (by omega)
 have hc1:(decide (0<=(1:Int))&&decide ((1:Int)<(((a::b::c::d::e::f::r:List (List UInt8)).length:Nat):Int)))=true:=aO (by omega) (by omega)
 have hc2:(decide (0<=(2:Int))&&decide ((2:Int)<(((a::b::c::d::e::f::r:List (List UInt8)).length:Nat):Int)))=true:=aO (by omega) (by omega)
 have hc3:(decide (0<=(3:Int))&&decide ((3:Int)<(((a::b::c::d::e::f::r:List (List UInt8)).length:Nat):Int)))=true:=aO (by omega) (by omega)
 have hc4:(decide (0<=(4:Int))&&decide ((4:Int)<(((a::b::c::d::e::f::r:List (List UInt8)).length:Nat):Int)))=true:=aO (by omega) (by omega)
 have h6:decide ((((a::b::c::d::e::f::r:List (List UInt8)).length:Nat):Int)<6)=false:=QL (by omega)
 have hct:=cr (W:=(a::b::c::d::e::f::r:List (List UInt8))) (by omega)
 rw[hf] at hct
 have hix:=bf bC d (by decide)
 unfold aS
 rw[bp s 32 hs,hW,Qy]
 simp only[hdrop,hc5,hc0,hc1,hc2,hc3,hc4,h6,bS,QI,Pk,Pj,Qy,hct,OD,mL hb,aI,dF,hix,hk]
 have l5:((((f::r:List (List UInt8)).length:Nat):Int)==5)=false:=by
  cases h:((((f::r:List (List UInt8)).length:Nat):Int)==5) with
  | false=>rfl
  | true=>have:=eq_of_beq h;simp at this;omega
 cases hby:(b==[115,101,108,108,101,114]) with
 | true=>
  simp only[QJ,QI,az,hk0,hu,Qy,hdrop,hc5,bS,l5]
  first | exact⟨_,rfl⟩ | (split<;>exact⟨_,rfl⟩) | (cases ((((f::r:List (List UInt8)).length:Nat):Int) != 1)<;>exact⟨_,rfl⟩)
 | false=>
  simp only[QJ,QI,az,hk0,hu,Qy,hdrop,hc5,bS,l5]
  first | exact⟨_,rfl⟩ | (split<;>exact⟨_,rfl⟩) | (cases ((((f::r:List (List UInt8)).length:Nat):Int) != 1)<;>exact⟨_,rfl⟩)
theorem M3 {s:List UInt8} (hs:s.length<=1000000) {a:List UInt8} {b:List UInt8} {c:List UInt8} {d:List UInt8} {e:List UInt8} {f:List UInt8} (hW:aD 32 s=a::b::c::d::e::f::[]) (hf:cK (a::b::c::d::e::f::[])=true) (hm:SmW (a::b::c::d::e::f::[])) (hb:b=[98,117,121,101,114]\/b=[115,101,108,108,101,114]) {k:Int} (hk:w64 (aZ d bC 0+1)=k) (hk0:(k==0)=false) (hu:cy k=some ((false,true,false,false,false),())): aS s=some ((cC a,byF b,cC c,k,cC e,[],(0,0),[],(bH f).1,0,0),((((true&&ax a)&&ax c)&&ax e)&&((bH f).2==0)),()):=by
 have hlen:=(bN 32 s).1
 rw[hW] at hlen
 have hL:∃ n:Nat,(((a::b::c::d::e::f::[]:List (List UInt8)).length:Nat):Int)=(n:Int)+6/\n=0:=⟨_,by simp<;>omega,rfl⟩
 obtain⟨n,hn,hnr⟩:=hL
 have hdrop:List.drop 5 (List.take (Int.toNat (((a::b::c::d::e::f::[]:List (List UInt8)).length:Nat):Int)) (a::b::c::d::e::f::[]:List (List UInt8)))=f::[]:=by rw[OS,Qa (Qm _)];rfl
 have hc5:(decide (0<=(5:Int))&&decide ((5:Int)<=(((a::b::c::d::e::f::[]:List (List UInt8)).length:Nat):Int))&&decide ((((a::b::c::d::e::f::[]:List (List UInt8)).length:Nat):Int)<=(((a::b::c::d::e::f::[]:List (List UInt8)).length:Nat):Int)))=true:=by
  rw[QM (by omega),QM (by omega),QM (by omega)];rfl
 have hc0:(decide (0<=(0:Int))&&decide ((0:Int)<(((a::b::c::d::e::f::[]:List (List UInt8)).length:Nat):Int)))=true:=aO (by omega) (by omega)
 have hc1:(decide (0<=(1:Int))&&decide ((1:Int)<(((a::b::c::d::e::f::[]:List (List UInt8)).length:Nat):Int)))=true:=aO (by omega) (by omega)
 have hc2:(decide (0<=(2:Int))&&decide ((2:Int)<(((a::b::c::d::e::f::[]:List (List UInt8)).length:Nat):Int)))=true:=aO (by omega) (by omega)
 have hc3:(decide (0<=(3:Int))&&decide ((3:Int)<(((a::b::c::d::e::f::[]:List (List UInt8)).length:Nat):Int)))=true:=aO (by omega) (by omega)
 have hc4:(decide (0<=(4:Int))&&decide ((4:Int)<(((a::b::c::d::e::f::[]:List (List UInt8)).length:Nat):Int)))=true:=aO (by omega) (by omega)
 have h6:decide ((((a::b::c::d::e::f::[]:List (List UInt8)).length:Nat):Int)<6)=false:=QL (by omega)
 have hct:=cr (W:=(a::b::c::d::e::f::[]:List (List UInt8))) (by omega)
 rw[hf] at hct
 have hix:=bf bC d (by decide)
 have ht_f:f.length<=1000000:=hm _ (by simp)
 have hd_f:=fun b=>cT b f ht_f
 unfold aS
 rw[bp s 32 hs,hW,Qy]
 simp only[hdrop,hc5,hc0,hc1,hc2,hc3,hc4,h6,bS,QI,Pk,Pj,Qy,hct,OD,mL hb,aI,dF,hix,hk]
 have hi:∀ (q:Nat) (w:List UInt8),(f::[])[q]? =some w->idx (f::[]) (q:Int)=some w:=fun q w h=>by rw[cM];exact h
 have hi0:idx (f::[]) 0=some f:=hi 0 _ rfl
 have l5:((((f::[]:List (List UInt8)).length:Nat):Int)==5)=false:=rfl
 have l2:((((f::[]:List (List UInt8)).length:Nat):Int)==2)=false:=rfl
 have l1:((((f::[]:List (List UInt8)).length:Nat):Int) != 1)=false:=rfl
 unfold byF
 cases hby:(b==[115,101,108,108,101,114]) with
 | true=>
  simp only[QJ,QI,az,hk0,hu,Qy,hdrop,hc5,bS,hi0,hd_f,l5,l2,l1,aI]
 | false=>
  simp only[QJ,QI,az,hk0,hu,Qy,hdrop,hc5,bS,hi0,hd_f,l5,l2,l1,aI]
theorem Ml {s:List UInt8} (hs:s.length<=1000000) {a b c d e f:List UInt8} {r:List (List UInt8)} (hr:r.length≠0) (hW:aD 32 s=a::b::c::d::e::f::r) (hf:cK (a::b::c::d::e::f::r)=true) (hm:SmW (a::b::c::d::e::f::r)) (hb:b=[98,117,121,101,114]\/b=[115,101,108,108,101,114]) {k:Int} (hk:w64 (aZ d bC 0+1)=k) (hk0:(k==0)=false) (hu:cy k=some ((false,true,false,false,false),())): ∃ dd,aS s=some (dd,false,()):=by
 have hlen:=(bN 32 s).1
 rw[hW] at hlen
 have hL:∃ n:Nat,(((a::b::c::d::e::f::r:List (List UInt8)).length:Nat):Int)=(n:Int)+6/\n=r.length:=⟨_,by simp<;>omega,rfl⟩
 obtain⟨n,hn,hnr⟩:=hL
 have hdrop:List.drop 5 (List.take (Int.toNat (((a::b::c::d::e::f::r:List (List UInt8)).length:Nat):Int)) (a::b::c::d::e::f::r:List (List UInt8)))=f::r:=by rw[OS,Qa (Qm _)];rfl
 have hc5:(decide (0<=(5:Int))&&decide ((5:Int)<=(((a::b::c::d::e::f::r:List (List UInt8)).length:Nat):Int))&&decide ((((a::b::c::d::e::f::r:List (List UInt8)).length:Nat):Int)<=(((a::b::c::d::e::f::r:List (List UInt8)).length:Nat):Int)))=true:=by
  rw[QM (by omega),QM (by omega),QM (by omega)];rfl
 have hc0:(decide (0<=(0:Int))&&decide ((0:Int)<(((a::b::c::d::e::f::r:List (List UInt8)).length:Nat):Int)))=true:=aO (by omega) (by omega)
 have hc1:(decide (0<=(1:Int))&&decide ((1:Int)<(((a::b::c::d::e::f::r:List (List UInt8)).length:Nat):Int)))=true:=aO (by omega) (by omega)
 have hc2:(decide (0<=(2:Int))&&decide ((2:Int)<(((a::b::c::d::e::f::r:List (List UInt8)).length:Nat):Int)))=true:=aO (by omega) (by omega)
 have hc3:(decide (0<=(3:Int))&&decide ((3:Int)<(((a::b::c::d::e::f::r:List (List UInt8)).length:Nat):Int)))=true:=aO (by omega) (by omega)
 have hc4:(decide (0<=(4:Int))&&decide ((4:Int)<(((a::b::c::d::e::f::r:List (List UInt8)).length:Nat):Int)))=true:=aO (by omega) (by omega)
 have h6:decide ((((a::b::c::d::e::f::r:List (List UInt8)).length:Nat):Int)<6)=false:=QL (by omega)
 have hct:=cr (W:=(a::b::c::d::e::f::r:List (List UInt8))) (by omega)
 rw[hf] at hct
 have hix:=bf bC d (by decide)
 unfold aS
 rw[bp s 32 hs,hW,Qy]
 simp only[hdrop,hc5,hc0,hc1,hc2,hc3,hc4,h6,bS,QI,Pk,Pj,Qy,hct,OD,mL hb,aI,dF,hix,hk]
 have l1:((((f::r:List (List UInt8)).length:Nat):Int) != 1)=true:=by
  cases h:((((f::r:List (List UInt8)).length:Nat):Int) != 1) with
  | true=>rfl
  | false=>
   have h2:((((f::r:List (List UInt8)).length:Nat):Int)==1)=true:=by simpa [bne] using h
   have:=eq_of_beq h2;simp at this;omega
 cases hby:(b==[115,101,108,108,101,114]) with
 | true=>
  simp only[QJ,QI,az,hk0,hu,Qy,hdrop,hc5,bS,l1]
  first | exact⟨_,rfl⟩ | (split<;>exact⟨_,rfl⟩) | (cases ((((f::r:List (List UInt8)).length:Nat):Int) != 1)<;>exact⟨_,rfl⟩)
 | false=>
  simp only[QJ,QI,az,hk0,hu,Qy,hdrop,hc5,bS,l1]
  first | exact⟨_,rfl⟩ | (split<;>exact⟨_,rfl⟩) | (cases ((((f::r:List (List UInt8)).length:Nat):Int) != 1)<;>exact⟨_,rfl⟩)
theorem M6 {s:List UInt8} (hs:s.length<=1000000) {a:List UInt8} {b:List UInt8} {c:List UInt8} {d:List UInt8} {e:List UInt8} {f:List UInt8} (hW:aD 32 s=a::b::c::d::e::f::[]) (hf:cK (a::b::c::d::e::f::[])=true) (hm:SmW (a::b::c::d::e::f::[])) (hb:b=[98,117,121,101,114]\/b=[115,101,108,108,101,114]) {k:Int} (hk:w64 (aZ d bC 0+1)=k) (hk0:(k==0)=false) (hu:cy k=some ((false,false,true,false,false),())): aS s=some ((cC a,byF b,cC c,k,cC e,[],(0,0),[],(0,0),cC f,0),((((true&&ax a)&&ax c)&&ax e)&&ax f),()):=by
 have hlen:=(bN 32 s).1
 rw[hW] at hlen
 have hL:∃ n:Nat,(((a::b::c::d::e::f::[]:List (List UInt8)).length:Nat):Int)=(n:Int)+6/\n=0:=⟨_,by simp<;>omega,rfl⟩
 obtain⟨n,hn,hnr⟩:=hL
 have hdrop:List.drop 5 (List.take (Int.toNat (((a::b::c::d::e::f::[]:List (List UInt8)).length:Nat):Int)) (a::b::c::d::e::f::[]:List (List UInt8)))=f::[]:=by rw[OS,Qa (Qm _)];rfl
 have hc5:(decide (0<=(5:Int))&&decide ((5:Int)<=(((a::b::c::d::e::f::[]:List (List UInt8)).length:Nat):Int))&&decide ((((a::b::c::d::e::f::[]:List (List UInt8)).length:Nat):Int)<=(((a::b::c::d::e::f::[]:List (List UInt8)).length:Nat):Int)))=true:=by
  rw[QM (by omega),QM (by omega),QM (by omega)];rfl
 have hc0:(decide (0<=(0:Int))&&decide ((0:Int)<(((a::b::c::d::e::f::[]:List (List UInt8)).length:Nat):Int)))=true:=aO (by omega) (by omega)
 have hc1:(decide (0<=(1:Int))&&decide ((1:Int)<(((a::b::c::d::e::f::[]:List (List UInt8)).length:Nat):Int)))=true:=aO (by omega) (by omega)
 have hc2:(decide (0<=(2:Int))&&decide ((2:Int)<(((a::b::c::d::e::f::[]:List (List UInt8)).length:Nat):Int)))=true:=aO (by omega) (by omega)
 have hc3:(decide (0<=(3:Int))&&decide ((3:Int)<(((a::b::c::d::e::f::[]:List (List UInt8)).length:Nat):Int)))=true:=aO (by omega) (by omega)
 have hc4:(decide (0<=(4:Int))&&decide ((4:Int)<(((a::b::c::d::e::f::[]:List (List UInt8)).length:Nat):Int)))=true:=aO (by omega) (by omega)
 have h6:decide ((((a::b::c::d::e::f::[]:List (List UInt8)).length:Nat):Int)<6)=false:=QL (by omega)
 have hct:=cr (W:=(a::b::c::d::e::f::[]:List (List UInt8))) (by omega)
 rw[hf] at hct
 have hix:=bf bC d (by decide)
 have ht_f:f.length<=1000000:=hm _ (by simp)
 have hd_f:=fun b=>cT b f ht_f
 unfold aS
 rw[bp s 32 hs,hW,Qy]
 simp only[hdrop,hc5,hc0,hc1,hc2,hc3,hc4,h6,bS,QI,Pk,Pj,Qy,hct,OD,mL hb,aI,dF,hix,hk]
 have hi:∀ (q:Nat) (w:List UInt8),(f::[])[q]? =some w->idx (f::[]) (q:Int)=some w:=fun q w h=>by rw[cM];exact h
 have hi0:idx (f::[]) 0=some f:=hi 0 _ rfl
 have l5:((((f::[]:List (List UInt8)).length:Nat):Int)==5)=false:=rfl
 have l2:((((f::[]:List (List UInt8)).length:Nat):Int)==2)=false:=rfl
 have l1:((((f::[]:List (List UInt8)).length:Nat):Int) != 1)=false:=rfl
 unfold byF
 cases hby:(b==[115,101,108,108,101,114]) with
 | true=>
  simp only[QJ,QI,az,hk0,hu,Qy,hdrop,hc5,bS,hi0,hd_f,l5,l2,l1,aI]
 | false=>
  simp only[QJ,QI,az,hk0,hu,Qy,hdrop,hc5,bS,hi0,hd_f,l5,l2,l1,aI]
theorem Mo {s:List UInt8} (hs:s.length<=1000000) {a b c d e f:List UInt8} {r:List (List UInt8)} (hr:r.length≠0) (hW:aD 32 s=a::b::c::d::e::f::r) (hf:cK (a::b::c::d::e::f::r)=true) (hm:SmW (a::b::c::d::e::f::r)) (hb:b=[98,117,121,101,114]\/b=[115,101,108,108,101,114]) {k:Int} (hk:w64 (aZ d bC 0+1)=k) (hk0:(k==0)=false) (hu:cy k=some ((false,false,true,false,false),())): ∃ dd,aS s=some (dd,false,()):=by
 have hlen:=(bN 32 s).1
 rw[hW] at hlen
 have hL:∃ n:Nat,(((a::b::c::d::e::f::r:List (List UInt8)).length:Nat):Int)=(n:Int)+6/\n=r.length:=⟨_,by simp<;>omega,rfl⟩
 obtain⟨n,hn,hnr⟩:=hL
 have hdrop:List.drop 5 (List.take (Int.toNat (((a::b::c::d::e::f::r:List (List UInt8)).length:Nat):Int)) (a::b::c::d::e::f::r:List (List UInt8)))=f::r:=by rw[OS,Qa (Qm _)];rfl
 have hc5:(decide (0<=(5:Int))&&decide ((5:Int)<=(((a::b::c::d::e::f::r:List (List UInt8)).length:Nat):Int))&&decide ((((a::b::c::d::e::f::r:List (List UInt8)).length:Nat):Int)<=(((a::b::c::d::e::f::r:List (List UInt8)).length:Nat):Int)))=true:=by
  rw[QM (by omega),QM (by omega),QM (by omega)];rfl
 have hc0:(decide (0<=(0:Int))&&decide ((0:Int)<(((a::b::c::d::e::f::r:List (List UInt8)).length:Nat):Int)))=true:=aO (by omega) (by omega)
 have hc1:(decide (0<=(1:Int))&&decide ((1:Int)<(((a::b::c::d::e::f::r:List (List UInt8)).length:Nat):Int)))=true:=aO (by omega) (by omega)
 have hc2:(decide (0<=(2:Int))&&decide ((2:Int)<(((a::b::c::d::e::f::r:List (List UInt8)).length:Nat):Int)))=true:=aO (by omega) (by omega)
 have hc3:(decide (0<=(3:Int))&&decide ((3:Int)<(((a::b::c::d::e::f::r:List (List UInt8)).length:Nat):Int)))=true:=aO (by omega) (by omega)
 have hc4:(decide (0<=(4:Int))&&decide ((4:Int)<(((a::b::c::d::e::f::r:List (List UInt8)).length:Nat):Int)))=true:=aO (by omega) (by omega)
 have h6:decide ((((a::b::c::d::e::f::r:List (List UInt8)).length:Nat):Int)<6)=false:=QL (by omega)
 have hct:=cr (W:=(a::b::c::d::e::f::r:List (List UInt8))) (by omega)
 rw[hf] at hct
 have hix:=bf bC d (by decide)
 unfold aS
 rw[bp s 32 hs,hW,Qy]
 simp only[hdrop,hc5,hc0,hc1,hc2,hc3,hc4,h6,bS,QI,Pk,Pj,Qy,hct,OD,mL hb,aI,dF,hix,hk]
 have l1:((((f::r:List (List UInt8)).length:Nat):Int) != 1)=true:=by
  cases h:((((f::r:List (List UInt8)).length:Nat):Int) != 1) with
  | true=>rfl
  | false=>
   have h2:((((f::r:List (List UInt8)).length:Nat):Int)==1)=true:=by simpa [bne] using h
   have:=eq_of_beq h2;simp at this;omega
 cases hby:(b==[115,101,108,108,101,114]) with
 | true=>
  simp only[QJ,QI,az,hk0,hu,Qy,hdrop,hc5,bS,l1]
  first | exact⟨_,rfl⟩ | (split<;>exact⟨_,rfl⟩) | (cases ((((f::r:List (List UInt8)).length:Nat):Int) != 1)<;>exact⟨_,rfl⟩)
 | false=>
  simp only[QJ,QI,az,hk0,hu,Qy,hdrop,hc5,bS,l1]
  first | exact⟨_,rfl⟩ | (split<;>exact⟨_,rfl⟩) | (cases ((((f::r:List (List UInt8)).length:Nat):Int) != 1)<;>exact⟨_,rfl⟩)
theorem M5 {s:List UInt8} (hs:s.length<=1000000) {a:List UInt8} {b:List UInt8} {c:List UInt8} {d:List UInt8} {e:List UInt8} {f:List UInt8} (hW:aD 32 s=a::b::c::d::e::f::[]) (hf:cK (a::b::c::d::e::f::[])=true) (hm:SmW (a::b::c::d::e::f::[])) (hb:b=[98,117,121,101,114]\/b=[115,101,108,108,101,114]) {k:Int} (hk:w64 (aZ d bC 0+1)=k) (hk0:(k==0)=false) (hu:cy k=some ((false,false,false,false,true),())): aS s=some ((cC a,byF b,cC c,k,cC e,[],(0,0),[],(0,0),0,cC f),((((true&&ax a)&&ax c)&&ax e)&&ax f),()):=by
 have hlen:=(bN 32 s).1
 rw[hW] at hlen
 have hL:∃ n:Nat,(((a::b::c::d::e::f::[]:List (List UInt8)).length:Nat):Int)=(n:Int)+6/\n=0:=⟨_,by simp<;>omega,rfl⟩
 obtain⟨n,hn,hnr⟩:=hL
 have hdrop:List.drop 5 (List.take (Int.toNat (((a::b::c::d::e::f::[]:List (List UInt8)).length:Nat):Int)) (a::b::c::d::e::f::[]:List (List UInt8)))=f::[]:=by rw[OS,Qa (Qm _)];rfl
 have hc5:(decide (0<=(5:Int))&&decide ((5:Int)<=(((a::b::c::d::e::f::[]:List (List UInt8)).length:Nat):Int))&&decide ((((a::b::c::d::e::f::[]:List (List UInt8)).length:Nat):Int)<=(((a::b::c::d::e::f::[]:List (List UInt8)).length:Nat):Int)))=true:=by
  rw[QM (by omega),QM (by omega),QM (by omega)];rfl
 have hc0:(decide (0<=(0:Int))&&decide ((0:Int)<(((a::b::c::d::e::f::[]:List (List UInt8)).length:Nat):Int)))=true:=aO (by omega) (by omega)
 have hc1:(decide (0<=(1:Int))&&decide ((1:Int)<(((a::b::c::d::e::f::[]:List (List UInt8)).length:Nat):Int)))=true:=aO (by omega) (by omega)
 have hc2:(decide (0<=(2:Int))&&decide ((2:Int)<(((a::b::c::d::e::f::[]:List (List UInt8)).length:Nat):Int)))=true:=aO (by omega) (by omega)
 have hc3:(decide (0<=(3:Int))&&decide ((3:Int)<(((a::b::c::d::e::f::[]:List (List UInt8)).length:Nat):Int)))=true:=aO (by omega) (by omega)
 have hc4:(decide (0<=(4:Int))&&decide ((4:Int)<(((a::b::c::d::e::f::[]:List (List UInt8)).length:Nat):Int)))=true:=aO (by omega) (by omega)
 have h6:decide ((((a::b::c::d::e::f::[]:List (List UInt8)).length:Nat):Int)<6)=false:=QL (by omega)
 have hct:=cr (W:=(a::b::c::d::e::f::[]:List (List UInt8))) (by omega)
 rw[hf] at hct
 have hix:=bf bC d (by decide)
 have ht_f:f.length<=1000000:=hm _ (by simp)
 have hd_f:=fun b=>cT b f ht_f
 unfold aS
 rw[bp s 32 hs,hW,Qy]
 simp only[hdrop,hc5,hc0,hc1,hc2,hc3,hc4,h6,bS,QI,Pk,Pj,Qy,hct,OD,mL hb,aI,dF,hix,hk]
 have hi:∀ (q:Nat) (w:List UInt8),(f::[])[q]? =some w->idx (f::[]) (q:Int)=some w:=fun q w h=>by rw[cM];exact h
 have hi0:idx (f::[]) 0=some f:=hi 0 _ rfl
 have l5:((((f::[]:List (List UInt8)).length:Nat):Int)==5)=false:=rfl
 have l2:((((f::[]:List (List UInt8)).length:Nat):Int)==2)=false:=rfl
 have l1:((((f::[]:List (List UInt8)).length:Nat):Int) != 1)=false:=rfl
 unfold byF
 cases hby:(b==[115,101,108,108,101,114]) with
 | true=>
  simp only[QJ,QI,az,hk0,hu,Qy,hdrop,hc5,bS,hi0,hd_f,l5,l2,l1,aI]
 | false=>
  simp only[QJ,QI,az,hk0,hu,Qy,hdrop,hc5,bS,hi0,hd_f,l5,l2,l1,aI]
theorem Mn {s:List UInt8} (hs:s.length<=1000000) {a b c d e f:List UInt8} {r:List (List UInt8)} (hr:r.length≠0) (hW:aD 32 s=a::b::c::d::e::f::r) (hf:cK (a::b::c::d::e::f::r)=true) (hm:SmW (a::b::c::d::e::f::r)) (hb:b=[98,117,121,101,114]\/b=[115,101,108,108,101,114]) {k:Int} (hk:w64 (aZ d bC 0+1)=k) (hk0:(k==0)=false) (hu:cy k=some ((false,false,false,false,true),())): ∃ dd,aS s=some (dd,false,()):=by
 have hlen:=(bN 32 s).1
 rw[hW] at hlen
 have hL:∃ n:Nat,(((a::b::c::d::e::f::r:List (List UInt8)).length:Nat):Int)=(n:Int)+6/\n=r.length:=⟨_,by simp<;>omega,rfl⟩
 obtain⟨n,hn,hnr⟩:=hL
 have hdrop:List.drop 5 (List.take (Int.toNat (((a::b::c::d::e::f::r:List (List UInt8)).length:Nat):Int)) (a::b::c::d::e::f::r:List (List UInt8)))=f::r:=by rw[OS,Qa (Qm _)];rfl
 have hc5:(decide (0<=(5:Int))&&decide ((5:Int)<=(((a::b::c::d::e::f::r:List (List UInt8)).length:Nat):Int))&&decide ((((a::b::c::d::e::f::r:List (List UInt8)).length:Nat):Int)<=(((a::b::c::d::e::f::r:List (List UInt8)).length:Nat):Int)))=true:=by
  rw[QM (by omega),QM (by omega),QM (by omega)];rfl
 have hc0:(decide (0<=(0:Int))&&decide ((0:Int)<(((a::b::c::d::e::f::r:List (List UInt8)).length:Nat):Int)))=true:=aO (by omega) (by omega)
 have hc1:(decide (0<=(1:Int))&&decide ((1:Int)<(((a::b::c::d::e::f::r:List (List UInt8)).length:Nat):Int)))=true:=aO (by omega) (by omega)
 have hc2:(decide (0<=(2:Int))&&decide ((2:Int)<(((a::b::c::d::e::f::r:List (List UInt8)).length:Nat):Int)))=true:=aO (by omega) (by omega)
 have hc3:(decide (0<=(3:Int))&&decide ((3:Int)<(((a::b::c::d::e::f::r:List (List UInt8)).length:Nat):Int)))=true:=aO (by omega) (by omega)
 have hc4:(decide (0<=(4:Int))&&decide ((4:Int)<(((a::b::c::d::e::f::r:List (List UInt8)).length:Nat):Int)))=true:=aO (by omega) (by omega)
 have h6:decide ((((a::b::c::d::e::f::r:List (List UInt8)).length:Nat):Int)<6)=false:=QL (by omega)
 have hct:=cr (W:=(a::b::c::d::e::f::r:List (List UInt8))) (by omega)
 rw[hf] at hct
 have hix:=bf bC d (by decide)
 unfold aS
 rw[bp s 32 hs,hW,Qy]
 simp only[hdrop,hc5,hc0,hc1,hc2,hc3,hc4,h6,bS,QI,Pk,Pj,Qy,hct,OD,mL hb,aI,dF,hix,hk]
 have l1:((((f::r:List (List UInt8)).length:Nat):Int) != 1)=true:=by
  cases h:((((f::r:List (List UInt8)).length:Nat):Int) != 1) with
  | true=>rfl
  | false=>
   have h2:((((f::r:List (List UInt8)).length:Nat):Int)==1)=true:=by simpa [bne] using h
   have:=eq_of_beq h2;simp at this;omega
 cases hby:(b==[115,101,108,108,101,114]) with
 | true=>
  simp only[QJ,QI,az,hk0,hu,Qy,hdrop,hc5,bS,l1]
  first | exact⟨_,rfl⟩ | (split<;>exact⟨_,rfl⟩) | (cases ((((f::r:List (List UInt8)).length:Nat):Int) != 1)<;>exact⟨_,rfl⟩)
 | false=>
  simp only[QJ,QI,az,hk0,hu,Qy,hdrop,hc5,bS,l1]
  first | exact⟨_,rfl⟩ | (split<;>exact⟨_,rfl⟩) | (cases ((((f::r:List (List UInt8)).length:Nat):Int) != 1)<;>exact⟨_,rfl⟩)
end Go.Md
namespace Go.Md
open Go.Dn
theorem M7 {s:List UInt8} (hs:s.length<=1000000) {a b c d e f:List UInt8} {r:List (List UInt8)} (hW:aD 32 s=a::b::c::d::e::f::r) (hf:cK (a::b::c::d::e::f::r)=true) (hb:b=[98,117,121,101,114]\/b=[115,101,108,108,101,114]) {k:Int} (hk:w64 (aZ d bC 0+1)=k) (hk0:(k==0)=true): ∃ dd,aS s=some (dd,false,()):=by
 have hlen:=(bN 32 s).1
 rw[hW] at hlen
 have hL:∃ n:Nat,((((a::b::c::d::e::f::r:List (List UInt8))).length:Nat):Int)=(n:Int)+6/\n=r.length:=⟨_,by simp<;>omega,rfl⟩
 obtain⟨n,hn,hnr⟩:=hL
 have hc0:(decide (0<=(0:Int))&&decide ((0:Int)<(((a::b::c::d::e::f::r:List (List UInt8)).length:Nat):Int)))=true:=aO (by omega) (by omega)
 have hc1:(decide (0<=(1:Int))&&decide ((1:Int)<(((a::b::c::d::e::f::r:List (List UInt8)).length:Nat):Int)))=true:=aO (by omega) (by omega)
 have hc2:(decide (0<=(2:Int))&&decide ((2:Int)<(((a::b::c::d::e::f::r:List (List UInt8)).length:Nat):Int)))=true:=aO (by omega) (by omega)
 have hc3:(decide (0<=(3:Int))&&decide ((3:Int)<(((a::b::c::d::e::f::r:List (List UInt8)).length:Nat):Int)))=true:=aO (by omega) (by omega)
 have hc4:(decide (0<=(4:Int))&&decide ((4:Int)<(((a::b::c::d::e::f::r:List (List UInt8)).length:Nat):Int)))=true:=aO (by omega) (by omega)
 have h6:decide ((((a::b::c::d::e::f::r:List (List UInt8)).length:Nat):Int)<6)=false:=QL (by omega)
 have hct:=cr (W:=(a::b::c::d::e::f::r:List (List UInt8))) (by omega)
 rw[hf] at hct
 have hix:=bf bC d (by decide)
 unfold aS
 rw[bp s 32 hs,hW,Qy]
 simp only[hc0,hc1,hc2,hc3,hc4,h6,bS,QI,Pk,Pj,Qy,hct,OD,mL hb,aI,dF,hix,hk]
 cases hby:(b==[115,101,108,108,101,114]) with
 | true=>
  simp only[QJ,az,hk0]
  exact⟨_,rfl⟩
 | false=>
  simp only[QJ,QI,az,hk0]
  exact⟨_,rfl⟩
theorem I2 (k:Int):bq k=some ((false,true,false,false,false,false),())\/bq k=some ((false,true,false,false,true,false),())\/bq k=some ((true,true,true,true,true,false),())\/ bq k=some ((false,false,false,true,false,false),())\/bq k=some ((false,false,false,false,true,false),())\/bq k=some ((false,false,false,false,false,true),()):=by
 unfold bq
 cases (k==1)<;>cases (k==3)<;>cases (k==4)<;>cases (k==5)<;>cases (k==6)<;>cases (k==7)<;>cases (k==8)<;>simp
theorem sB:(bH []).2=10:=rfl
theorem rT:ax []=false:=rfl
theorem vD {s:List UInt8} (hs:s.length<=1000000) {W:List (List UInt8)} (hW:aD 32 s=W) (hf:cK W=true) (hm:SmW W) (h:jB W=true\/aG W=[]):∃ dd,bg s=some (dd,false,()):=by
 rcases I2 (eE W) with hu | hu | hu | hu | hu | hu
 ·rw[Dx hs hW hf hm hu]
  rcases h with h | h
  ·rw[h];exact⟨_,rfl⟩
  ·rw[h]
   cases jB W<;>exact⟨_,rfl⟩
 ·rw[Dv hs hW hf hm hu]
  rcases h with h | h
  ·rw[h];exact⟨_,rfl⟩
  ·rw[h]
   cases jB W<;>exact⟨_,rfl⟩
 ·rw[Du hs hW hf hm hu]
  rcases h with h | h
  ·rw[h];exact⟨_,rfl⟩
  ·rw[h]
   cases jB W<;>exact⟨_,rfl⟩
 ·rw[Dw hs hW hf hm hu]
  rcases h with h | h
  ·rw[h];exact⟨_,rfl⟩
  ·rw[h]
   cases jB W<;>exact⟨_,rfl⟩
 ·rw[Dz hs hW hf hm hu]
  rcases h with h | h
  ·rw[h];exact⟨_,rfl⟩
  ·rw[h]
   cases jB W<;>exact⟨_,rfl⟩
 ·rw[Dy hs hW hf hm hu]
  rcases h with h | h
  ·rw[h];exact⟨_,rfl⟩
  ·rw[h]
   cases jB W<;>exact⟨_,rfl⟩
theorem Bw (y:List UInt8):∀ l:List (List UInt8),(∀ i,aZ y l i= -1)\/∃ j:Nat,j<l.length/\∀ i,aZ y l i=i+j
 | []=> .inl fun _=>rfl
 | o::r=>by
  cases h:(y==o) with
  | true=>exact .inr ⟨0,by simp,fun i=>by simp[aZ,h]⟩
  | false=>
   rcases Bw y r with h1 | ⟨j,h1,h2⟩
   ·exact .inl fun i=>by simp[aZ,h,h1]
   ·exact .inr ⟨j+1,by simp;omega,fun i=>by simp only[aZ,h,QI,h2];omega⟩
theorem L1 {a b c d e f:List UInt8} {r:List (List UInt8)} (hf:cK (a::b::c::d::e::f::r)=true):eE (a::b::c::d::e::f::r)=aZ d bC 1:=by
 have hd:(d==[])=false:=by
  simp only[cK,OU,Oo,OB] at hf
  exact hf.2.2.2.1
 show (bif d==[] then 0 else aZ d bC (0+1))=_
 rw[hd];rfl
theorem tr {a b c d e f:List UInt8} {r:List (List UInt8)} (hb:b=[98,117,121,101,114]\/b=[115,101,108,108,101,114]) (hk:¬ eE (a::b::c::d::e::f::r)<1):jB (a::b::c::d::e::f::r)= !(((true&&ax a)&&ax c)&&ax e):=by
 have h1:decide (aZ b byW 0<1)=false:=by rcases hb with rfl | rfl<;>rfl
 have h2:decide (eE (a::b::c::d::e::f::r)<1)=false:=QL hk
 show (((((false|| !ax a)||(false||decide (aZ b byW 0<1)))|| !ax c)||(false||decide (eE (a::b::c::d::e::f::r)<1)))|| !ax e)=_
 rw[h1,h2]
 cases ax a<;>cases ax c<;>cases ax e<;>rfl
theorem we {b:List UInt8} (hb:b=[98,117,121,101,114]\/b=[115,101,108,108,101,114]):aZ b byW 0=byF b:=by
 rcases hb with rfl | rfl<;>rfl
def bP (s:List UInt8):Prop:=∃ d1 d2 ok,bg s=some (d1,ok,())/\aS s=some (d2,ok,())/\(ok=true->d1=d2/\Txt d1)
theorem AQ {s:List UInt8} {d:ah} {b:Bool} (h:bg s=some (d,b,())) (hb:b=false):∃ dd,bg s=some (dd,false,()):=⟨d,by rw[h,hb]⟩
theorem bP.no {s:List UInt8} (h1:∃ dd,bg s=some (dd,false,())) (h2:∃ dd,aS s=some (dd,false,())):bP s:=by
 obtain⟨d1,h1⟩:=h1
 obtain⟨d2,h2⟩:=h2
 exact⟨d1,d2,false,h1,h2,fun h=>by cases h⟩
section
variable {s:List UInt8} (hs:s.length<=1000000) {a b c d e f:List UInt8} {r:List (List UInt8)} (hW:aD 32 s=a::b::c::d::e::f::r) (hf:cK (a::b::c::d::e::f::r)=true) (hm:SmW (a::b::c::d::e::f::r))
 (hb:b=[98,117,121,101,114]\/b=[115,101,108,108,101,114]) {k:Int} (hk:w64 (aZ d bC 0+1)=k) (hkf:eE (a::b::c::d::e::f::r)=k) (hk1:1<=k)
include hs hW hf hm hb hk hkf hk1
theorem DG (hu:bq k=some ((false,true,false,false,false,false),())) (hu2:cy k=some ((true,false,false,false,false),())):bP s:=by
 have hk0:(k==0)=false:=by
  cases h:(k==0) with
  | false=>rfl
  | true=>have:=eq_of_beq h;omega
 have hO:=Dx hs hW hf hm (by rw[hkf];exact hu)
 rw[tr hb (by rw[hkf];omega),hkf] at hO
 by_cases hr:r.length=0
 ·have hr0:r=[]:=PF.1 hr
  subst hr0
  have hR:=M4 hs hW hf hm hb hk hk0 hu2
  refine⟨_,_,_,hO, ?_,fun _=>⟨rfl, ?_⟩⟩
  ·rw[hR]
   have e1:aZ ((a::b::c::d::e::f::[]).tail.headD []) byW 0=byF b:=we hb
   rw[e1]
   simp only[aG,P6,PB,PC]
   congr 2
   congr 1
   rw[show ((bH f).2 != 0)= !((bH f).2==0) from rfl]
   generalize ((bH f).2==0)=x_f
   generalize (((true&&ax a)&&ax c)&&ax e)=x_0
   cases x_0<;>cases x_f<;>rfl
  ·show List.length _+List.length _<=maxLen
   rw[gS]
   have h1:=hm f (by simp)
   skip
   simp only[aG,P6,PB,PI]
   omega
 ·refine bP.no ?_ (Mm hs hr hW hf hm hb hk hk0 hu2)
  refine AQ hO ?_
  simp only[aG,P6,PB]
  generalize (((true&&ax a)&&ax c)&&ax e)=x_0
  cases r with
  | nil=>exact absurd rfl hr
  | cons g r=>
   have:((((g::r:List (List UInt8)).length:Nat):Int)==0)=false:=by
    cases h:((((g::r:List (List UInt8)).length:Nat):Int)==0) with
    | false=>rfl
    | true=>have:=eq_of_beq h;simp at this;omega
   rw[this,Oq]
theorem NH (hu:bq k=some ((false,true,false,false,true,false),())) (hu2:cy k=some ((true,false,true,false,false),())):bP s:=by
 have hk0:(k==0)=false:=by
  cases h:(k==0) with
  | false=>rfl
  | true=>have:=eq_of_beq h;omega
 have hO:=Dv hs hW hf hm (by rw[hkf];exact hu)
 rw[tr hb (by rw[hkf];omega),hkf] at hO
 by_cases hr:r.length=1
 ·obtain⟨f1,rfl⟩:∃ f1,r=f1::[]:=by
   match r,hr with
   | [f1],_=>exact⟨f1,rfl⟩
  have hR:=M1 hs hW hf hm hb hk hk0 hu2
  refine⟨_,_,_,hO, ?_,fun _=>⟨rfl, ?_⟩⟩
  ·rw[hR]
   have e1:aZ ((a::b::c::d::e::f::f1::[]).tail.headD []) byW 0=byF b:=we hb
   rw[e1]
   simp only[aG,P6,PB,PC]
   congr 2
   congr 1
   rw[show ((bH f).2 != 0)= !((bH f).2==0) from rfl]
   generalize ((bH f).2==0)=x_f
   generalize ax f1=x_f1
   generalize (((true&&ax a)&&ax c)&&ax e)=x_0
   cases x_0<;>cases x_f<;>cases x_f1<;>rfl
  ·show List.length _+List.length _<=maxLen
   rw[gS]
   have h1:=hm f (by simp)
   skip
   simp only[aG,P6,PB,PI]
   omega
 ·refine bP.no ?_ (Mk hs hr hW hf hm hb hk hk0 hu2)
  refine AQ hO ?_
  simp only[aG,P6,PB]
  generalize (((true&&ax a)&&ax c)&&ax e)=x_0
  match r,hr with
  | [],_=>simp[sB,rT]
  | [g0],hr=>exact absurd rfl hr
  | g0::g1::r,_=>
   have:((((g1::r:List (List UInt8)).length:Nat):Int)==0)=false:=by
    cases h:((((g1::r:List (List UInt8)).length:Nat):Int)==0) with
    | false=>rfl
    | true=>have:=eq_of_beq h;simp at this;omega
   simp only[P6]
   rw[this,Oq]
theorem NG (hu:bq k=some ((true,true,true,true,true,false),())) (hu2:cy k=some ((true,true,true,true,false),())):bP s:=by
 have hk0:(k==0)=false:=by
  cases h:(k==0) with
  | false=>rfl
  | true=>have:=eq_of_beq h;omega
 have hO:=Du hs hW hf hm (by rw[hkf];exact hu)
 rw[tr hb (by rw[hkf];omega),hkf] at hO
 by_cases hr:r.length=4
 ·obtain⟨f1,f2,f3,f4,rfl⟩:∃ f1 f2 f3 f4,r=f1::f2::f3::f4::[]:=by
   match r,hr with
   | [f1,f2,f3,f4],_=>exact⟨f1,f2,f3,f4,rfl⟩
  have hR:=M0 hs hW hf hm hb hk hk0 hu2
  refine⟨_,_,_,hO, ?_,fun _=>⟨rfl, ?_⟩⟩
  ·rw[hR]
   have e1:aZ ((a::b::c::d::e::f::f1::f2::f3::f4::[]).tail.headD []) byW 0=byF b:=we hb
   rw[e1]
   simp only[aG,P6,PB,PC]
   congr 2
   congr 1
   rw[show ((bH f1).2 != 0)= !((bH f1).2==0) from rfl]
   generalize ((bH f1).2==0)=x_f1
   rw[show ((bH f3).2 != 0)= !((bH f3).2==0) from rfl]
   generalize ((bH f3).2==0)=x_f3
   generalize ax f4=x_f4
   generalize (((true&&ax a)&&ax c)&&ax e)=x_0
   cases x_0<;>cases x_f1<;>cases x_f3<;>cases x_f4<;>rfl
  ·show List.length _+List.length _<=maxLen
   rw[gS]
   have h1:=hm f (by simp)
   have h2:=hm f2 (by simp)
   simp only[aG,P6,PB,PI]
   omega
 ·refine bP.no ?_ (Mj hs hr hW hf hm hb hk hk0 hu2)
  refine AQ hO ?_
  simp only[aG,P6,PB]
  generalize (((true&&ax a)&&ax c)&&ax e)=x_0
  match r,hr with
  | [],_=>simp[sB,rT]
  | [g0],_=>simp[sB,rT]
  | [g0,g1],_=>simp[sB,rT]
  | [g0,g1,g2],_=>simp[sB,rT]
  | [g0,g1,g2,g3],hr=>exact absurd rfl hr
  | g0::g1::g2::g3::g4::r,_=>
   have:((((g4::r:List (List UInt8)).length:Nat):Int)==0)=false:=by
    cases h:((((g4::r:List (List UInt8)).length:Nat):Int)==0) with
    | false=>rfl
    | true=>have:=eq_of_beq h;simp at this;omega
   simp only[P6]
   rw[this,Oq]
theorem NI (hu:bq k=some ((false,false,false,true,false,false),())) (hu2:cy k=some ((false,true,false,false,false),())):bP s:=by
 have hk0:(k==0)=false:=by
  cases h:(k==0) with
  | false=>rfl
  | true=>have:=eq_of_beq h;omega
 have hO:=Dw hs hW hf hm (by rw[hkf];exact hu)
 rw[tr hb (by rw[hkf];omega),hkf] at hO
 by_cases hr:r.length=0
 ·have hr0:r=[]:=PF.1 hr
  subst hr0
  have hR:=M3 hs hW hf hm hb hk hk0 hu2
  refine⟨_,_,_,hO, ?_,fun _=>⟨rfl, ?_⟩⟩
  ·rw[hR]
   have e1:aZ ((a::b::c::d::e::f::[]).tail.headD []) byW 0=byF b:=we hb
   rw[e1]
   simp only[aG,P6,PB,PC]
   congr 2
   congr 1
   rw[show ((bH f).2 != 0)= !((bH f).2==0) from rfl]
   generalize ((bH f).2==0)=x_f
   generalize (((true&&ax a)&&ax c)&&ax e)=x_0
   cases x_0<;>cases x_f<;>rfl
  ·show List.length _+List.length _<=maxLen
   rw[gS]
   have h1:=hm f (by simp)
   skip
   simp only[aG,P6,PB,PI]
   omega
 ·refine bP.no ?_ (Ml hs hr hW hf hm hb hk hk0 hu2)
  refine AQ hO ?_
  simp only[aG,P6,PB]
  generalize (((true&&ax a)&&ax c)&&ax e)=x_0
  cases r with
  | nil=>exact absurd rfl hr
  | cons g r=>
   have:((((g::r:List (List UInt8)).length:Nat):Int)==0)=false:=by
    cases h:((((g::r:List (List UInt8)).length:Nat):Int)==0) with
    | false=>rfl
    | true=>have:=eq_of_beq h;simp at this;omega
   rw[this,Oq]
theorem NJ (hu:bq k=some ((false,false,false,false,true,false),())) (hu2:cy k=some ((false,false,true,false,false),())):bP s:=by
 have hk0:(k==0)=false:=by
  cases h:(k==0) with
  | false=>rfl
  | true=>have:=eq_of_beq h;omega
 have hO:=Dz hs hW hf hm (by rw[hkf];exact hu)
 rw[tr hb (by rw[hkf];omega),hkf] at hO
 by_cases hr:r.length=0
 ·have hr0:r=[]:=PF.1 hr
  subst hr0
  have hR:=M6 hs hW hf hm hb hk hk0 hu2
  refine⟨_,_,_,hO, ?_,fun _=>⟨rfl, ?_⟩⟩
  ·rw[hR]
   have e1:aZ ((a::b::c::d::e::f::[]).tail.headD []) byW 0=byF b:=we hb
   rw[e1]
   simp only[aG,P6,PB,PC]
   congr 2
   congr 1
   generalize ax f=x_f
   generalize (((true&&ax a)&&ax c)&&ax e)=x_0
   cases x_0<;>cases x_f<;>rfl
  ·show List.length _+List.length _<=maxLen
   rw[gS]
   have h1:=hm f (by simp)
   skip
   simp only[aG,P6,PB,PI]
   omega
 ·refine bP.no ?_ (Mo hs hr hW hf hm hb hk hk0 hu2)
  refine AQ hO ?_
  simp only[aG,P6,PB]
  generalize (((true&&ax a)&&ax c)&&ax e)=x_0
  cases r with
  | nil=>exact absurd rfl hr
  | cons g r=>
   have:((((g::r:List (List UInt8)).length:Nat):Int)==0)=false:=by
    cases h:((((g::r:List (List UInt8)).length:Nat):Int)==0) with
    | false=>rfl
    | true=>have:=eq_of_beq h;simp at this;omega
   rw[this,Oq]
theorem HU (hu:bq k=some ((false,false,false,false,false,true),())) (hu2:cy k=some ((false,false,false,false,true),())):bP s:=by
 have hk0:(k==0)=false:=by
  cases h:(k==0) with
  | false=>rfl
  | true=>have:=eq_of_beq h;omega
 have hO:=Dy hs hW hf hm (by rw[hkf];exact hu)
 rw[tr hb (by rw[hkf];omega),hkf] at hO
 by_cases hr:r.length=0
 ·have hr0:r=[]:=PF.1 hr
  subst hr0
  have hR:=M5 hs hW hf hm hb hk hk0 hu2
  refine⟨_,_,_,hO, ?_,fun _=>⟨rfl, ?_⟩⟩
  ·rw[hR]
   have e1:aZ ((a::b::c::d::e::f::[]).tail.headD []) byW 0=byF b:=we hb
   rw[e1]
   simp only[aG,P6,PB,PC]
   congr 2
   congr 1
   generalize ax f=x_f
   generalize (((true&&ax a)&&ax c)&&ax e)=x_0
   cases x_0<;>cases x_f<;>rfl
  ·show List.length _+List.length _<=maxLen
   rw[gS]
   have h1:=hm f (by simp)
   skip
   simp only[aG,P6,PB,PI]
   omega
 ·refine bP.no ?_ (Mn hs hr hW hf hm hb hk hk0 hu2)
  refine AQ hO ?_
  simp only[aG,P6,PB]
  generalize (((true&&ax a)&&ax c)&&ax e)=x_0
  cases r with
  | nil=>exact absurd rfl hr
  | cons g r=>
   have:((((g::r:List (List UInt8)).length:Nat):Int)==0)=false:=by
    cases h:((((g::r:List (List UInt8)).length:Nat):Int)==0) with
    | false=>rfl
    | true=>have:=eq_of_beq h;simp at this;omega
   rw[this,Oq]
end
theorem LA (s:List UInt8) (hs:s.length<=1000000):bP s:=by
 generalize hW:aD 32 s=W
 have hm:SmW W:=fun w hw=>by
  have:=(bN 32 s).2 w (by rw[hW];exact hw)
  omega
 cases hf:cK W with
 | false=>
  refine bP.no ?_ ⟨_,HM hs hW (.inr (.inl hf))⟩
  unfold bg
  rw[ig s hs,hW,hf]
  exact⟨_,rfl⟩
 | true=>
  by_cases hl:W.length<6
  ·refine bP.no (vD hs hW hf hm (.inr ?_)) ⟨_,HM hs hW (.inl hl)⟩
   match W,hl with
   | [],_=>rfl
   | [_],_=>rfl
   | [_,_],_=>rfl
   | [_,_,_],_=>rfl
   | [_,_,_,_],_=>rfl
   | [_,_,_,_,_],_=>rfl
   | _::_::_::_::_::_::_,hl=>exact absurd hl (by simp)
  ·match W,hW,hm,hf,hl with
   | [],_,_,_,hl=>exact absurd (by simp) hl
   | [_],_,_,_,hl=>exact absurd (by simp) hl
   | [_,_],_,_,_,hl=>exact absurd (by simp) hl
   | [_,_,_],_,_,_,hl=>exact absurd (by simp) hl
   | [_,_,_,_],_,_,_,hl=>exact absurd (by simp) hl
   | [_,_,_,_,_],_,_,_,hl=>exact absurd (by simp) hl
   | a::b::c::d::e::f::r,hW,hm,hf,_=>
    by_cases hb:b=[98,117,121,101,114]\/b=[115,101,108,108,101,114]
    ·have hkf:=L1 hf
     rcases Bw d bC with h | ⟨j,hj,h⟩
     ·have hk:w64 (aZ d bC 0+1)=0:=by rw[h];rfl
      refine bP.no (vD hs hW hf hm (.inl ?_)) (M7 hs hW hf hb hk rfl)
      show (((((false|| !ax a)||(false||decide (aZ b byW 0<1)))|| !ax c)||(false||decide (eE (a::b::c::d::e::f::r)<1)))|| !ax e)=true
      rw[hkf,h]
      simp
     ·rw[h] at hkf
      have hj:j<11:=hj
      have hk:w64 (aZ d bC 0+1)=1+(j:Int):=by rw[h,aA (by omega) (by omega)];omega
      have h1:(1:Int)<=1+(j:Int):=by omega
      have hj':j=0\/j=1\/j=2\/j=3\/j=4\/j=5\/j=6\/j=7\/j=8\/j=9\/j=10:=by omega
      rcases hj' with rfl | rfl | rfl | rfl | rfl | rfl | rfl | rfl | rfl | rfl | rfl
      ·exact NG hs hW hf hm hb hk hkf h1 rfl rfl
      ·exact DG hs hW hf hm hb hk hkf h1 rfl rfl
      ·exact NJ hs hW hf hm hb hk hkf h1 rfl rfl
      ·exact NI hs hW hf hm hb hk hkf h1 rfl rfl
      ·exact HU hs hW hf hm hb hk hkf h1 rfl rfl
      ·exact HU hs hW hf hm hb hk hkf h1 rfl rfl
      ·exact NH hs hW hf hm hb hk hkf h1 rfl rfl
      ·exact HU hs hW hf hm hb hk hkf h1 rfl rfl
      ·exact DG hs hW hf hm hb hk hkf h1 rfl rfl
      ·exact DG hs hW hf hm hb hk hkf h1 rfl rfl
      ·exact DG hs hW hf hm hb hk hkf h1 rfl rfl
    ·refine bP.no (vD hs hW hf hm (.inl ?_)) ⟨_,HM hs hW (.inr (.inr ⟨fun h=>hb (.inl (by simpa using h)),fun h=>hb (.inr (by simpa using h))⟩))⟩
     have hb0:(b==[])=false:=by
      simp only[cK,OU,Oo,OB] at hf
      exact hf.2.1
     have hb1:(b==[98,117,121,101,114])=false:=by
      cases h:(b==[98,117,121,101,114]) with
      | false=>rfl
      | true=>exact absurd (.inl (eq_of_beq h)) hb
     have hb2:(b==[115,101,108,108,101,114])=false:=by
      cases h:(b==[115,101,108,108,101,114]) with
      | false=>rfl
      | true=>exact absurd (.inr (eq_of_beq h)) hb
     have hg:aZ b byW 0= -1:=by
      simp only[byW,aZ,hb0,hb1,hb2,QI]
     show (((((false|| !ax a)||(false||decide (aZ b byW 0<1)))|| !ax c)||(false||decide (eE (a::b::c::d::e::f::r)<1)))|| !ax e)=true
     rw[hg]
     simp
end Go.Md
namespace Go.Md
open Go.Dn
noncomputable def oR (s:List UInt8):ah×Bool×Unit:=(bg s).getD ((0,0,0,0,0,[],(0,0),[],(0,0),0,0),false,())
noncomputable def rR (s:List UInt8):ah×Bool×Unit:=(aS s).getD ((0,0,0,0,0,[],(0,0),[],(0,0),0,0),false,())
theorem yQ (s:List UInt8) (hs:s.length<=1000000):bg s=some ((oR s).1,(oR s).2.1,())/\aS s=some ((rR s).1,(oR s).2.1,())/\((oR s).2.1=true->(rR s).1=(oR s).1/\Txt (oR s).1):=by
 obtain⟨d1,d2,ok,h1,h2,h3⟩:=LA s hs
 unfold oR rR
 rw[h1,h2]
 exact⟨rfl,rfl,fun h=>⟨(h3 h).1.symm,(h3 h).2⟩⟩
noncomputable def p8 (e:Bool):List (List UInt8)->List ah->Int->((List ah)×Int×Int×Unit) ⊕ ((List ah)×Unit)
 | [],acc,_=> .inr (acc,())
 | l::M,acc,n=>bif !(oR l).2.1||(!e&&M.isEmpty) then .inl ([],n,10,()) else p8 e M (acc++[(oR l).1]) (n+1)
theorem Lt (e:Bool) (L:List (List UInt8)) (hL:L.length<=1000000) (hl:∀ l,l∈L->l.length<=1000000) (f:Nat) (hf:L.length<f): iter f ((L,e,[],L,(L.length:Int),(0:Int),()):kW) nV=some (p8 e L [] 1):=by
 refine bT (Inv:=fun i X=>∃ acc:List ah,X=((L,e,acc,L,(L.length:Int),(i:Int),()):kW)/\acc.length=i/\p8 e L [] 1=p8 e (L.drop i) acc ((i:Int)+1)) L.length
  (fun r=>r=some (p8 e L [] 1)) ?_ ?_ f 0 _ ⟨[],rfl,rfl,by simp⟩ (by omega) (by omega)
 ·rintro i _ again hi ⟨acc,rfl,hacc,hb⟩ ih
  unfold nV
  dsimp only
  have hy:L[i]? =some L[i]:=aP hi
  have hyl:=hl L[i] (Pz hi)
  rw[O5 hi] at hb
  generalize L[i]=y at hy hb hyl
  obtain⟨h1,_,_⟩:=yQ y hyl
  have hlast:((i:Int)==w64 ((L.length:Int) - 1))=(L.drop (i+1)).isEmpty:=by
   rw[aA (by omega) (by omega)]
   by_cases h:i+1=L.length
   ·rw[show (i:Int)=(L.length:Int) - 1 by omega,O7 (by omega)]
    simp
   ·have h2:(L.drop (i+1)).isEmpty=false:=by
     cases hd:L.drop (i+1) with
     | nil=>have:=congrArg List.length hd;simp at this;omega
     | cons _ _=>rfl
    rw[h2]
    cases hh:((i:Int)==(L.length:Int) - 1) with
    | false=>rfl
    | true=>have:=eq_of_beq hh;omega
  rw[aJ (by omega),cM,hy,Qy,h1,Qy]
  dsimp only
  rw[hlast]
  simp only[p8] at hb
  have hv:(bif !(oR y).2.1 then some (true,()) else bif !e then some ((L.drop (i+1)).isEmpty,()) else some (false,()))=some ((!(oR y).2.1||(!e&&(L.drop (i+1)).isEmpty)),()):=by
   cases (oR y).2.1<;>cases e<;>rfl
  rw[hv,Qy,aA (by omega) (by omega)]
  dsimp only
  cases hc:(!(oR y).2.1||(!e&&(L.drop (i+1)).isEmpty)) with
  | true=>
   rw[hc,QJ] at hb
   rw[QJ,hb]
  | false=>
   rw[hc,QI] at hb
   rw[QI,aY (jC (by omega) (by omega))]
   exact ih _ ⟨acc++[(oR y).1],rfl,by simp[hacc],by rw[hb];rfl⟩
 ·rintro _ again ⟨acc,rfl,hacc,hb⟩
  unfold nV
  dsimp only
  rw[aN (by omega),hb,List.drop_length]
  rfl
def er (e:Bool):List (List UInt8)->List UInt8
 | []=>[]
 | l::M=>l++(bif M.isEmpty then (bif e then [10] else []) else 10::er e M)
theorem vP (e:Bool):∀ s:List UInt8,er e (aD 10 s)=s++(bif e then [10] else [])
 | []=>rfl
 | b::r=>by
  have ih:=vP e r
  have hne:=I0 10 r
  simp only[aD]
  cases hb:(b==10) with
  | true=>
   rw[eq_of_beq hb,QJ]
   simp only[er]
   have:(aD 10 r).isEmpty=false:=by
    cases h:aD 10 r with
    | nil=>exact absurd h hne
    | cons _ _=>rfl
   rw[this,QI,ih]
   rfl
  | false=>
   rw[QI]
   cases h:aD 10 r with
   | nil=>exact absurd h hne
   | cons l t=>
    rw[h] at ih
    simp only[er] at ih ⊢
    rw[O1,ih]
    rfl
theorem vN (c:UInt8):∀ s:List UInt8,∀ l,l∈aD c s->c∉l
 | [],l,h=>by simp[aD] at h;simp[h]
 | b::r,l,h=>by
  have ih:=vN c r
  simp only[aD] at h
  cases hb:(b==c) with
  | true=>
   rw[hb,QJ] at h
   rcases PS.1 h with rfl | h
   ·simp
   ·exact ih l h
  | false=>
   rw[hb,QI] at h
   have hbc:c≠b:=fun e=>by rw[e] at hb;simp at hb
   split at h
   ·rename_i hd t he
    rw[he] at ih
    rcases PS.1 h with rfl | h
    ·simp[hbc,ih hd (by simp)]
    ·exact ih l (by simp[h])
   ·simp at h
    subst h
    simp[hbc]
theorem BW (c:UInt8):∀ (l t:List UInt8),c∉l->dB c (l++c::t)=(l,t,true)
 | [],t,_=>by simp[dB]
 | b::r,t,h=>by
  have hb:(b==c)=false:=by
   cases e:(b==c) with
   | false=>rfl
   | true=>exact absurd (by simp[eq_of_beq e]) h
  rw[O1]
  simp only[dB,hb,QI,BW c r t (fun hm=>h (by simp[hm]))]
theorem E8 (c:UInt8):∀ l:List UInt8,c∉l->dB c l=(l,[],false)
 | [],_=>rfl
 | b::r,h=>by
  have hb:(b==c)=false:=by
   cases e:(b==c) with
   | false=>rfl
   | true=>exact absurd (by simp[eq_of_beq e]) h
  simp only[dB,hb,QI,E8 c r (fun hm=>h (by simp[hm]))]
theorem Jv (e:Bool):∀ (M:List (List UInt8)) (acc:List ah) (n:Nat) (f:Nat),M.length<f->(∀ l,l∈M->(10:UInt8)∉l)->(er e M).length<=1000000->(e=false->M≠[]->er e M≠[]/\(er e M).getLast? ≠some 10)->acc.length+M.length<=1000001->n+M.length<=1000002-> iter f ((er e M,acc,(n:Int),()):tc) s9=some (p8 e M acc (n:Int))
 | _,_,_,0,hf,_,_,_,_,_=>absurd hf (Qu _)
 | [],acc,n,f+1,_,_,_,_,_,_=>rfl
 | l::M,acc,n,f+1,hf,hno,hlen,hlast,ha,hn=>by
  show s9 _ _=_
  unfold s9
  dsimp only
  have hl10:=hno l (by simp)
  simp only[PE] at hf ha hn
  have hll:l.length<=(er e (l::M)).length:=by simp[er]
  obtain⟨_,h2,h3⟩:=yQ l (by omega)
  have hne:er e (l::M)≠[]:=by
   cases he:e with
   | false=>exact he ▸ (hlast he (by simp)).1
   | true=>
    intro h
    have:=congrArg List.length h
    simp only[er,PD,PI,QJ] at this
    cases hM:M.isEmpty with
    | true=>rw[hM] at this;simp at this
    | false=>rw[hM] at this;simp at this
  have hne':(er e (l::M)==[])=false:=by
   cases h:er e (l::M) with
   | nil=>exact absurd h hne
   | cons _ _=>rfl
  rw[hne',OC,QJ,qR _ 10 hlen,Qy]
  dsimp only
  have hcut:dB 10 (er e (l::M))=(l,er e M, !(!e&&M.isEmpty)):=by
   simp only[er]
   cases M with
   | nil=>
    simp only[List.isEmpty_nil,QJ,Ou,Bool.not_not,er]
    cases e with
    | true=>exact BW 10 l [] hl10
    | false=>simp only[QI,O0];exact E8 10 l hl10
   | cons m M'=>
    simp only[PC,QI,Oq,OC]
    exact BW 10 l _ hl10
  rw[hcut]
  dsimp only
  rw[h2,Qy]
  dsimp only
  simp only[p8]
  cases hok:(oR l).2.1 with
  | false=>rfl
  | true=>
   rw[OD,QI,Bool.not_not,Oy]
   cases hE:(!e&&M.isEmpty) with
   | true=>rfl
   | false=>
    rw[QI,QI,aY (jC (by omega) (by omega)),aA (by omega) (by omega),(h3 hok).1]
    have hstep:=Jv e M (acc++[(oR l).1]) (n+1) f (by omega) (fun l hl=>hno l (by simp[hl])) (by
     have:(er e M).length<=(er e (l::M)).length:=by
      simp only[er]
      cases M with
      | nil=>simp[er]
      | cons m M'=>simp only[PC,QI,PD,PE];omega
     omega) (fun he hM=>by
     obtain⟨h4,h5⟩:=hlast he (by simp)
     cases M with
     | nil=>exact absurd rfl hM
     | cons m M'=>
      have et:er e (l::m::M')=l++10::er e (m::M'):=by simp[er]
      rw[et] at h5
      rw[List.getLast?_append] at h5
      cases ht:er e (m::M') with
      | nil=>rw[ht] at h5;exact absurd rfl h5
      | cons x t=>
       refine⟨by simp, ?_⟩
       rw[ht] at h5
       intro h6
       apply h5
       rw[List.getLast?_cons_cons,h6]
       rfl) (by simp;omega) (by omega)
    rw[show ((n:Int)+1)=((n+1:Nat):Int) by omega]
    exact hstep
theorem HT (e:Bool):∀ (M:List (List UInt8)) (acc:List ah) (n:Int) (l:List ah),(∀ w,w∈M->w.length<=1000000)->(∀ d,d∈acc->Txt d)->p8 e M acc n= .inr (l,())->∀ d,d∈l->Txt d
 | [],acc,n,l,_,ha,h,d,hd=>by
  simp only[p8,Sum.inr.injEq,Prod.mk.injEq,and_true] at h
  subst h;exact ha d hd
 | w::M,acc,n,l,hw,ha,h,d,hd=>by
  simp only[p8] at h
  cases hc:(!(oR w).2.1||(!e&&M.isEmpty)) with
  | true=>rw[hc] at h;cases h
  | false=>
   rw[hc,QI] at h
   have hok:(oR w).2.1=true:=by
    cases ho:(oR w).2.1 with
    | true=>rfl
    | false=>rw[ho] at hc;cases hc
   refine HT e M _ _ l (fun w hw'=>hw w (by simp[hw'])) (fun d hd=> ?_) h d hd
   rcases PR.1 hd with hd | hd
   ·exact ha d hd
   ·simp at hd;subst hd
    exact ((yQ w (hw w (by simp))).2.2 hok).2
theorem HS (e:Bool):∀ (M:List (List UInt8)) (acc:List ah) (n:Int) (x:(List ah)×Int×Int×Unit),p8 e M acc n= .inl x->x.1=[]
 | [],_,_,_,h=>by cases h
 | w::M,acc,n,x,h=>by
  simp only[p8] at h
  cases hc:(!(oR w).2.1||(!e&&M.isEmpty)) with
  | true=>rw[hc] at h;cases h;rfl
  | false=>rw[hc,QI] at h;exact HS e M _ _ x h
theorem Ht (s:List UInt8) (hs:s.length<=1000000):∃ (L:List (List UInt8)) (e:Bool),u0 s=some (L,e,())/\er e L=s/\(∀ l,l∈L->(10:UInt8)∉l)/\L.length<=s.length+1/\(∀ l,l∈L->l.length<=1000000)/\(e=false->L≠[]->s≠[]/\s.getLast? ≠some 10):=by
 unfold u0
 by_cases h0:s=[]
 ·subst h0
  refine⟨[],true,rfl,rfl, ?_,by simp, ?_, ?_⟩<;>simp
 ·have h0':(s==[])=false:=by
   cases s with
   | nil=>exact absurd rfl h0
   | cons _ _=>rfl
  obtain⟨i,x,rfl⟩:∃ i x,s=i++[x]:=⟨s.dropLast,s.getLast h0,(List.dropLast_concat_getLast h0).symm⟩
  have hl:(i++[x]).length=i.length+1:=by simp
  rw[h0',QI]
  have hsuf:jw (i++[x]) [10]=some ((bif x==10 then i else i++[x]),x==10,()):=by
   unfold jw fD fF
   have e1:w64 ((((i++[x]).length:Nat):Int) - ((([10]:List UInt8).length:Nat):Int))=(i.length:Int):=by
    rw[aA (by simp<;>omega) (by simp<;>omega)];simp<;>omega
   simp only[e1]
   rw[aJ (by simp<;>omega),aY (by simp<;>omega),Qy]
   dsimp only
   have e2:List.drop (Int.toNat (i.length:Int)) (List.take (Int.toNat (((i++[x]).length:Nat):Int)) (i++[x]))=[x]:=by
    rw[OS,OS,Qa (Qm _),O6]
   have e3:List.drop 0 (List.take (Int.toNat (i.length:Int)) (i++[x]))=i:=by
    rw[OS,P9];rfl
   rw[e2,show ([x]==[10])=(x==10) by simp]
   cases hx:(x==10) with
   | false=>rfl
   | true=>
    rw[OD,QI,aY (by simp<;>omega),e3]
    rfl
  rw[hsuf,Qy]
  dsimp only
  cases hx:(x==10) with
  | true=>
   rw[QJ,bp i 10 (by omega),Qy]
   obtain⟨g1,g2⟩:=bN 10 i
   refine⟨aD 10 i,true,rfl, ?_,vN 10 i,by omega,fun l hl=>by have:=g2 l hl;omega,fun h=>by cases h⟩
   rw[vP,eq_of_beq hx]
   rfl
  | false=>
   rw[QI,bp _ 10 hs,Qy]
   obtain⟨g1,g2⟩:=bN 10 (i++[x])
   refine⟨aD 10 (i++[x]),false,rfl, ?_,vN 10 _,g1,fun l hl=>by have:=g2 l hl;omega,fun _ _=>⟨h0, ?_⟩⟩
   ·rw[vP];simp
   ·rw[List.getLast?_append]
    simp only[List.getLast?_singleton,Option.some_or,ne_eq,Option.some.injEq]
    intro e
    rw[e] at hx;cases hx
theorem law_OrderReadsMatchSpec (s:List UInt8):fZ s=some (true,()):=by
 have key:∃ r:(List ah)×Int×Int×Unit,pO s=some r/\AW s=some r/\r.1.length<=2000:=by
  unfold pO AW
  by_cases hlen:s.length<=200000
  ·rw[aN (by omega),aN (by omega)]
   obtain⟨L,e,h1,h2,h3,h4,h5,h6⟩:=Ht s (by omega)
   rw[h1,Qy]
   dsimp only
   rw[Lt e L (by omega) h5 _ (by omega)]
   have hr:=Jv e L [] 1 (List.length s+(List.length ([]:List ah)+(Int.natAbs (1:Int)+2))) (by have:Int.natAbs (1:Int)=1:=rfl;omega) h3 (by rw[h2];omega) (fun he hL=>by rw[h2];exact h6 he hL) (by simp;omega) (by omega)
   rw[h2] at hr
   rw[show ((1:Nat):Int)=1 from rfl] at hr
   rw[hr]
   cases hg:p8 e L [] 1 with
   | inl x=>exact⟨x,rfl,rfl,by rw[HS e L [] 1 x hg];simp⟩
   | inr v=>
    obtain⟨l,u⟩:=v
    cases u
    have ht:=HT e L [] 1 l h5 (fun d hd=>by cases hd) hg
    rw[az,az,yD,Qy,Cq l ht,Qy]
    dsimp only
    cases hd:(wu l != 0) with
    | true=>exact⟨_,rfl,rfl,by simp⟩
    | false=>
     refine⟨_,rfl,rfl, ?_⟩
     by_cases h7:2000<l.length
     ·unfold wu at hd
      rw[QX h7] at hd
      cases hd
     ·exact Ql h7
  ·rw[aJ (by omega),aJ (by omega)]
   exact⟨_,rfl,rfl,by simp⟩
 obtain⟨r,h1,h2,h3⟩:=key
 unfold fZ
 rw[h1,Qy,h2,Qy]
 rw[vK r.1 h3,Nj]
 simp
end Go.Md
