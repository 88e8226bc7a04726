/-
  Plain facts: a line, as both sides read it. No condition.
-/
import Derived.Test.YtokceoajcccdiaaGreatDoorYt
import Derived.Test.YtokceoajcccdiaaGreatDoorYs
set_option linter.all false
namespace Go.Md
open Go.Dn
def byW:List (List UInt8):=[[],[98,117,121,101,114],[115,101,108,108,101,114]]
def bz:List (List UInt8):=[[97,100,100],[113,117,97,110,116,105,116,121],[100,117,101],[112,114,105,99,101],[121,101,115],[110,111],[111,102,102,101,114],[116,97,107,101],[115,104,105,112],[114,101,99,101,105,118,101],[114,101,116,117,114,110]]
theorem bq (w:List (List UInt8)) (b:Bool) (hw:(w.headD []).length<=1000000):gE (w,b,())=some ((bG (w.headD [])).1,(w.tail,b||(bG (w.headD [])).2 != 0,()),()):=by
 unfold gE
 dsimp only
 rw[nX,VJ]
 dsimp only
 rw[Bg _ hw,VJ]
 cases w with
 | nil=>cases b<;>rfl
 | cons a r=>cases b<;>rfl
def jV (W:List (List UInt8)):Bool:=
 ((((false|| !av (W.headD []))||(W.tail.isEmpty||decide (aY (W.tail.headD []) byW 0<1)))|| !av (W.tail.tail.headD []))||(W.tail.tail.tail.isEmpty||decide (aY (W.tail.tail.tail.headD []) ([]::bz) 0<1)))|| !av (W.tail.tail.tail.tail.headD [])
def eD (W:List (List UInt8)):Int:=aY (W.tail.tail.tail.headD []) ([]::bz) 0
def aG (W:List (List UInt8)):List (List UInt8):=W.tail.tail.tail.tail.tail
def SmW (W:List (List UInt8)):Prop:=∀ w,w∈W->w.length<=1000000
theorem SmW.tail {W:List (List UInt8)} (h:SmW W):SmW W.tail:=fun w hw=>h w (List.mem_of_mem_tail hw)
theorem SmW.head {W:List (List UInt8)} (h:SmW W):(W.headD []).length<=1000000:=by
 cases W with
 | nil=>simp
 | cons a r=>exact h a (by simp)
theorem Ap {s:List UInt8} (hs:s.length<=1000000) {W:List (List UInt8)} (hW:aA 32 s=W) (hf:cK W=true) (hm:SmW W) (hu:bp (eD W)=some ((false,true,false,false,false,false),())):
 aQ s=some ((bX (W.headD []),aY (W.tail.headD []) byW 0,bX (W.tail.tail.headD []),eD W,bX (W.tail.tail.tail.tail.headD []),[],(bG ((aG W).headD [])).1,[],(0,0),0,0),
  !(jV W||(bG ((aG W).headD [])).2 != 0)&&((((aG W).tail.length:Nat):Int)==0),()):=by
 unfold aQ
 rw[iV s hs,hW,hf]
 have hr:=hm.tail.tail.tail.tail.tail
 change SmW (aG W) at hr
 have hi1:=fun b=>gx W.tail b byW (by decide)
 have hi2:=fun b=>gx W.tail.tail.tail b ([]::bz) (by decide)
 have hd0:=fun b=>bq ((aG W)) b (hr).head
 have hd1:=fun b=>bq ((aG W).tail) b (hr.tail).head
 have hd2:=fun b=>bq ((aG W).tail.tail) b (hr.tail.tail).head
 have hd3:=fun b=>bq ((aG W).tail.tail.tail) b (hr.tail.tail.tail).head
 have hd4:=fun b=>bq ((aG W).tail.tail.tail.tail) b (hr.tail.tail.tail.tail).head
 unfold eD at hu ⊢
 unfold jV
 unfold aG at hd0 hd1 hd2 hd3 hd4 ⊢
 simp only[VJ,VW,TG,VV,cc,eP,dL]
 rw[show ([[],[98,117,121,101,114],[115,101,108,108,101,114]]:List (List UInt8))=byW from rfl,hi1,VJ]
 simp only[cc,VJ]
 rw[show ([[],[97,100,100],[113,117,97,110,116,105,116,121],[100,117,101],[112,114,105,99,101],[121,101,115],[110,111],[111,102,102,101,114],[116,97,107,101],[115,104,105,112],[114,101,99,101,105,118,101],[114,101,116,117,114,110]]:List (List UInt8))=[]::bz from rfl,hi2,VJ]
 simp only[cc,VJ]
 rw[hu,VJ]
 simp only[VW,VV,au,hd0,hd1,hd2,hd3,hd4,nX,cc,VJ]
 cases hb:((((((false|| !av (W.headD []))||(W.tail.isEmpty||decide (aY (W.tail.headD []) byW 0<1)))|| !av (W.tail.tail.headD []))||(W.tail.tail.tail.isEmpty||decide (aY (W.tail.tail.tail.headD []) ([]::bz) 0<1)))|| !av (W.tail.tail.tail.tail.headD []))||(bG (W.tail.tail.tail.tail.tail.headD [])).2 != 0) with
 | true=>rfl
 | false=>rfl
theorem An {s:List UInt8} (hs:s.length<=1000000) {W:List (List UInt8)} (hW:aA 32 s=W) (hf:cK W=true) (hm:SmW W) (hu:bp (eD W)=some ((false,true,false,false,true,false),())):
 aQ s=some ((bX (W.headD []),aY (W.tail.headD []) byW 0,bX (W.tail.tail.headD []),eD W,bX (W.tail.tail.tail.tail.headD []),[],(bG ((aG W).headD [])).1,[],(0,0),bX ((aG W).tail.headD []),0),
  !((jV W||(bG ((aG W).headD [])).2 != 0)|| !av ((aG W).tail.headD []))&&((((aG W).tail.tail.length:Nat):Int)==0),()):=by
 unfold aQ
 rw[iV s hs,hW,hf]
 have hr:=hm.tail.tail.tail.tail.tail
 change SmW (aG W) at hr
 have hi1:=fun b=>gx W.tail b byW (by decide)
 have hi2:=fun b=>gx W.tail.tail.tail b ([]::bz) (by decide)
 have hd0:=fun b=>bq ((aG W)) b (hr).head
 have hd1:=fun b=>bq ((aG W).tail) b (hr.tail).head
 have hd2:=fun b=>bq ((aG W).tail.tail) b (hr.tail.tail).head
 have hd3:=fun b=>bq ((aG W).tail.tail.tail) b (hr.tail.tail.tail).head
 have hd4:=fun b=>bq ((aG W).tail.tail.tail.tail) b (hr.tail.tail.tail.tail).head
 unfold eD at hu ⊢
 unfold jV
 unfold aG at hd0 hd1 hd2 hd3 hd4 ⊢
 simp only[VJ,VW,TG,VV,cc,eP,dL]
 rw[show ([[],[98,117,121,101,114],[115,101,108,108,101,114]]:List (List UInt8))=byW from rfl,hi1,VJ]
 simp only[cc,VJ]
 rw[show ([[],[97,100,100],[113,117,97,110,116,105,116,121],[100,117,101],[112,114,105,99,101],[121,101,115],[110,111],[111,102,102,101,114],[116,97,107,101],[115,104,105,112],[114,101,99,101,105,118,101],[114,101,116,117,114,110]]:List (List UInt8))=[]::bz from rfl,hi2,VJ]
 simp only[cc,VJ]
 rw[hu,VJ]
 simp only[VW,VV,au,hd0,hd1,hd2,hd3,hd4,nX,cc,VJ]
 cases hb:(((((((false|| !av (W.headD []))||(W.tail.isEmpty||decide (aY (W.tail.headD []) byW 0<1)))|| !av (W.tail.tail.headD []))||(W.tail.tail.tail.isEmpty||decide (aY (W.tail.tail.tail.headD []) ([]::bz) 0<1)))|| !av (W.tail.tail.tail.tail.headD []))||(bG (W.tail.tail.tail.tail.tail.headD [])).2 != 0)|| !av (W.tail.tail.tail.tail.tail.tail.headD [])) with
 | true=>rfl
 | false=>rfl
theorem Am {s:List UInt8} (hs:s.length<=1000000) {W:List (List UInt8)} (hW:aA 32 s=W) (hf:cK W=true) (hm:SmW W) (hu:bp (eD W)=some ((true,true,true,true,true,false),())):
 aQ s=some ((bX (W.headD []),aY (W.tail.headD []) byW 0,bX (W.tail.tail.headD []),eD W,bX (W.tail.tail.tail.tail.headD []),((aG W).headD []),(bG ((aG W).tail.headD [])).1,((aG W).tail.tail.headD []),(bG ((aG W).tail.tail.tail.headD [])).1,bX ((aG W).tail.tail.tail.tail.headD []),0),
  !(((((jV W||(aG W).isEmpty)||(bG ((aG W).tail.headD [])).2 != 0)||(aG W).tail.tail.isEmpty)||(bG ((aG W).tail.tail.tail.headD [])).2 != 0)|| !av ((aG W).tail.tail.tail.tail.headD []))&&((((aG W).tail.tail.tail.tail.tail.length:Nat):Int)==0),()):=by
 unfold aQ
 rw[iV s hs,hW,hf]
 have hr:=hm.tail.tail.tail.tail.tail
 change SmW (aG W) at hr
 have hi1:=fun b=>gx W.tail b byW (by decide)
 have hi2:=fun b=>gx W.tail.tail.tail b ([]::bz) (by decide)
 have hd0:=fun b=>bq ((aG W)) b (hr).head
 have hd1:=fun b=>bq ((aG W).tail) b (hr.tail).head
 have hd2:=fun b=>bq ((aG W).tail.tail) b (hr.tail.tail).head
 have hd3:=fun b=>bq ((aG W).tail.tail.tail) b (hr.tail.tail.tail).head
 have hd4:=fun b=>bq ((aG W).tail.tail.tail.tail) b (hr.tail.tail.tail.tail).head
 unfold eD at hu ⊢
 unfold jV
 unfold aG at hd0 hd1 hd2 hd3 hd4 ⊢
 simp only[VJ,VW,TG,VV,cc,eP,dL]
 rw[show ([[],[98,117,121,101,114],[115,101,108,108,101,114]]:List (List UInt8))=byW from rfl,hi1,VJ]
 simp only[cc,VJ]
 rw[show ([[],[97,100,100],[113,117,97,110,116,105,116,121],[100,117,101],[112,114,105,99,101],[121,101,115],[110,111],[111,102,102,101,114],[116,97,107,101],[115,104,105,112],[114,101,99,101,105,118,101],[114,101,116,117,114,110]]:List (List UInt8))=[]::bz from rfl,hi2,VJ]
 simp only[cc,VJ]
 rw[hu,VJ]
 simp only[VW,VV,au,hd0,hd1,hd2,hd3,hd4,nX,cc,VJ]
 cases hb:((((((((((false|| !av (W.headD []))||(W.tail.isEmpty||decide (aY (W.tail.headD []) byW 0<1)))|| !av (W.tail.tail.headD []))||(W.tail.tail.tail.isEmpty||decide (aY (W.tail.tail.tail.headD []) ([]::bz) 0<1)))|| !av (W.tail.tail.tail.tail.headD []))||W.tail.tail.tail.tail.tail.isEmpty)||(bG (W.tail.tail.tail.tail.tail.tail.headD [])).2 != 0)||W.tail.tail.tail.tail.tail.tail.tail.isEmpty)||(bG (W.tail.tail.tail.tail.tail.tail.tail.tail.headD [])).2 != 0)|| !av (W.tail.tail.tail.tail.tail.tail.tail.tail.tail.headD [])) with
 | true=>rfl
 | false=>rfl
theorem Ao {s:List UInt8} (hs:s.length<=1000000) {W:List (List UInt8)} (hW:aA 32 s=W) (hf:cK W=true) (hm:SmW W) (hu:bp (eD W)=some ((false,false,false,true,false,false),())):
 aQ s=some ((bX (W.headD []),aY (W.tail.headD []) byW 0,bX (W.tail.tail.headD []),eD W,bX (W.tail.tail.tail.tail.headD []),[],(0,0),[],(bG ((aG W).headD [])).1,0,0),
  !(jV W||(bG ((aG W).headD [])).2 != 0)&&((((aG W).tail.length:Nat):Int)==0),()):=by
 unfold aQ
 rw[iV s hs,hW,hf]
 have hr:=hm.tail.tail.tail.tail.tail
 change SmW (aG W) at hr
 have hi1:=fun b=>gx W.tail b byW (by decide)
 have hi2:=fun b=>gx W.tail.tail.tail b ([]::bz) (by decide)
 have hd0:=fun b=>bq ((aG W)) b (hr).head
 have hd1:=fun b=>bq ((aG W).tail) b (hr.tail).head
 have hd2:=fun b=>bq ((aG W).tail.tail) b (hr.tail.tail).head
 have hd3:=fun b=>bq ((aG W).tail.tail.tail) b (hr.tail.tail.tail).head
 have hd4:=fun b=>bq ((aG W).tail.tail.tail.tail) b (hr.tail.tail.tail.tail).head
 unfold eD at hu ⊢
 unfold jV
 unfold aG at hd0 hd1 hd2 hd3 hd4 ⊢
 simp only[VJ,VW,TG,VV,cc,eP,dL]
 rw[show ([[],[98,117,121,101,114],[115,101,108,108,101,114]]:List (List UInt8))=byW from rfl,hi1,VJ]
 simp only[cc,VJ]
 rw[show ([[],[97,100,100],[113,117,97,110,116,105,116,121],[100,117,101],[112,114,105,99,101],[121,101,115],[110,111],[111,102,102,101,114],[116,97,107,101],[115,104,105,112],[114,101,99,101,105,118,101],[114,101,116,117,114,110]]:List (List UInt8))=[]::bz from rfl,hi2,VJ]
 simp only[cc,VJ]
 rw[hu,VJ]
 simp only[VW,VV,au,hd0,hd1,hd2,hd3,hd4,nX,cc,VJ]
 cases hb:((((((false|| !av (W.headD []))||(W.tail.isEmpty||decide (aY (W.tail.headD []) byW 0<1)))|| !av (W.tail.tail.headD []))||(W.tail.tail.tail.isEmpty||decide (aY (W.tail.tail.tail.headD []) ([]::bz) 0<1)))|| !av (W.tail.tail.tail.tail.headD []))||(bG (W.tail.tail.tail.tail.tail.headD [])).2 != 0) with
 | true=>rfl
 | false=>rfl
theorem Ar {s:List UInt8} (hs:s.length<=1000000) {W:List (List UInt8)} (hW:aA 32 s=W) (hf:cK W=true) (hm:SmW W) (hu:bp (eD W)=some ((false,false,false,false,true,false),())):
 aQ s=some ((bX (W.headD []),aY (W.tail.headD []) byW 0,bX (W.tail.tail.headD []),eD W,bX (W.tail.tail.tail.tail.headD []),[],(0,0),[],(0,0),bX ((aG W).headD []),0),
  !(jV W|| !av ((aG W).headD []))&&((((aG W).tail.length:Nat):Int)==0),()):=by
 unfold aQ
 rw[iV s hs,hW,hf]
 have hr:=hm.tail.tail.tail.tail.tail
 change SmW (aG W) at hr
 have hi1:=fun b=>gx W.tail b byW (by decide)
 have hi2:=fun b=>gx W.tail.tail.tail b ([]::bz) (by decide)
 have hd0:=fun b=>bq ((aG W)) b (hr).head
 have hd1:=fun b=>bq ((aG W).tail) b (hr.tail).head
 have hd2:=fun b=>bq ((aG W).tail.tail) b (hr.tail.tail).head
 have hd3:=fun b=>bq ((aG W).tail.tail.tail) b (hr.tail.tail.tail).head
 have hd4:=fun b=>bq ((aG W).tail.tail.tail.tail) b (hr.tail.tail.tail.tail).head
 unfold eD at hu ⊢
 unfold jV
 unfold aG at hd0 hd1 hd2 hd3 hd4 ⊢
 simp only[VJ,VW,TG,VV,cc,eP,dL]
 rw[show ([[],[98,117,121,101,114],[115,101,108,108,101,114]]:List (List UInt8))=byW from rfl,hi1,VJ]
 simp only[cc,VJ]
 rw[show ([[],[97,100,100],[113,117,97,110,116,105,116,121],[100,117,101],[112,114,105,99,101],[121,101,115],[110,111],[111,102,102,101,114],[116,97,107,101],[115,104,105,112],[114,101,99,101,105,118,101],[114,101,116,117,114,110]]:List (List UInt8))=[]::bz from rfl,hi2,VJ]
 simp only[cc,VJ]
 rw[hu,VJ]
 simp only[VW,VV,au,hd0,hd1,hd2,hd3,hd4,nX,cc,VJ]
 cases hb:((((((false|| !av (W.headD []))||(W.tail.isEmpty||decide (aY (W.tail.headD []) byW 0<1)))|| !av (W.tail.tail.headD []))||(W.tail.tail.tail.isEmpty||decide (aY (W.tail.tail.tail.headD []) ([]::bz) 0<1)))|| !av (W.tail.tail.tail.tail.headD []))|| !av (W.tail.tail.tail.tail.tail.headD [])) with
 | true=>rfl
 | false=>rfl
theorem Aq {s:List UInt8} (hs:s.length<=1000000) {W:List (List UInt8)} (hW:aA 32 s=W) (hf:cK W=true) (hm:SmW W) (hu:bp (eD W)=some ((false,false,false,false,false,true),())):
 aQ s=some ((bX (W.headD []),aY (W.tail.headD []) byW 0,bX (W.tail.tail.headD []),eD W,bX (W.tail.tail.tail.tail.headD []),[],(0,0),[],(0,0),0,bX ((aG W).headD [])),
  !(jV W|| !av ((aG W).headD []))&&((((aG W).tail.length:Nat):Int)==0),()):=by
 unfold aQ
 rw[iV s hs,hW,hf]
 have hr:=hm.tail.tail.tail.tail.tail
 change SmW (aG W) at hr
 have hi1:=fun b=>gx W.tail b byW (by decide)
 have hi2:=fun b=>gx W.tail.tail.tail b ([]::bz) (by decide)
 have hd0:=fun b=>bq ((aG W)) b (hr).head
 have hd1:=fun b=>bq ((aG W).tail) b (hr.tail).head
 have hd2:=fun b=>bq ((aG W).tail.tail) b (hr.tail.tail).head
 have hd3:=fun b=>bq ((aG W).tail.tail.tail) b (hr.tail.tail.tail).head
 have hd4:=fun b=>bq ((aG W).tail.tail.tail.tail) b (hr.tail.tail.tail.tail).head
 unfold eD at hu ⊢
 unfold jV
 unfold aG at hd0 hd1 hd2 hd3 hd4 ⊢
 simp only[VJ,VW,TG,VV,cc,eP,dL]
 rw[show ([[],[98,117,121,101,114],[115,101,108,108,101,114]]:List (List UInt8))=byW from rfl,hi1,VJ]
 simp only[cc,VJ]
 rw[show ([[],[97,100,100],[113,117,97,110,116,105,116,121],[100,117,101],[112,114,105,99,101],[121,101,115],[110,111],[111,102,102,101,114],[116,97,107,101],[115,104,105,112],[114,101,99,101,105,118,101],[114,101,116,117,114,110]]:List (List UInt8))=[]::bz from rfl,hi2,VJ]
 simp only[cc,VJ]
 rw[hu,VJ]
 simp only[VW,VV,au,hd0,hd1,hd2,hd3,hd4,nX,cc,VJ]
 cases hb:((((((false|| !av (W.headD []))||(W.tail.isEmpty||decide (aY (W.tail.headD []) byW 0<1)))|| !av (W.tail.tail.headD []))||(W.tail.tail.tail.isEmpty||decide (aY (W.tail.tail.tail.headD []) ([]::bz) 0<1)))|| !av (W.tail.tail.tail.tail.headD []))|| !av (W.tail.tail.tail.tail.tail.headD [])) with
 | true=>rfl
 | false=>rfl
end Go.Md
namespace Go.Md
open Go.Dn
theorem dn (b:Bool) (s:List UInt8) (hs:s.length<=1000000):gj (b,()) s=some ((bG s).1,(b&&((bG s).2==0),()),()):=by
 unfold gj
 rw[Ij s hs,VJ]
 cases b<;>rfl
theorem cE {W:List (List UInt8)} (hl:W.length<1000000000):fq W []=some (!cK W,()):=by
 rw[u0 W [] hl]
 congr 2
 unfold cK
 induction W with
 | nil=>rfl
 | cons a r ih=>
  simp only[List.any_cons,TX]
  rw[ih (by simp at hl ⊢;omega)]
  cases (a==[])<;>simp
theorem Lu {s:List UInt8} (hs:s.length<=1000000) {W:List (List UInt8)} (hW:aA 32 s=W) (hb:W.length<6\/cK W=false\/(W[1]? ≠some [98,117,121,101,114]/\W[1]? ≠some [115,101,108,108,101,114])): aX s=some ((0,0,0,0,0,[],(0,0),[],(0,0),0,0),false,()):=by
 have hlen:=(bU 32 s).1
 unfold aX
 rw[bu s 32 hs,hW,VJ]
 rw[hW] at hlen
 dsimp only
 by_cases h6:W.length<6
 ·rw[aE (by omega)];rfl
 ·rw[aK (by omega)]
  have hb:=hb.resolve_left h6
  match W,h6,hlen,hb with
  | [],h6,_,_=>exact absurd (by simp) h6
  | [_],h6,_,_=>exact absurd (by simp) h6
  | a::b::r,h6,hlen,hb=>
   rw[aC (by simp;omega),show (a::b::r)[1]? =some b from rfl,VJ,aC (by simp;omega),cE (by simp at hlen ⊢;omega),VJ]
   simp only[VJ]
   cases h1:(b==[98,117,121,101,114]) with
   | true=>
    rcases hb with hb | hb
    ·rw[hb];rfl
    ·exact absurd (by rw[eq_of_beq h1];rfl) hb.1
   | false=>
    cases h2:(b==[115,101,108,108,101,114]) with
    | true=>
     rcases hb with hb | hb
     ·rw[hb];rfl
     ·exact absurd (by rw[eq_of_beq h2];rfl) hb.2
    | false=>rfl
def byF (b:List UInt8):Int:=bif b==[115,101,108,108,101,114] then 2 else 1
theorem dK:strings_Split [97,100,100,32,113,117,97,110,116,105,116,121,32,100,117,101,32,112,114,105,99,101,32,121,101,115,32,110,111,32,111,102,102,101,114,32,116,97,107,101,32,115,104,105,112,32,114,101,99,101,105,118,101,32,114,101,116,117,114,110] [32]=some (bz,()):=by
 rw[bu _ 32 (by decide)]
 rfl
theorem b7 {β:Type} (x:Option β):chk true x=x:=rfl
theorem aS {k n:Int} (h0:0<=k) (h1:k<n):(decide (0<=k)&&decide (k<n))=true:=by
 rw[VZ h0,VZ h1];rfl
theorem nS {b:List UInt8} (hb:b=[98,117,121,101,114]\/b=[115,101,108,108,101,114]) (x:Bool×Unit):(bif !(b==[98,117,121,101,114]) then (bif !(b==[115,101,108,108,101,114]) then some (true,()) else some x) else some x)=some x:=by
 rcases hb with rfl | rfl<;>rfl
theorem RU {s:List UInt8} (hs:s.length<=1000000) {a:List UInt8} {b:List UInt8} {c:List UInt8} {d:List UInt8} {e:List UInt8} {f:List UInt8} (hW:aA 32 s=a::b::c::d::e::f::[]) (hf:cK (a::b::c::d::e::f::[])=true) (hm:SmW (a::b::c::d::e::f::[])) (hb:b=[98,117,121,101,114]\/b=[115,101,108,108,101,114]) {k:Int} (hk:w64 (aY d bz 0+1)=k) (hk0:(k==0)=false) (hu:cA k=some ((true,false,false,false,false),())): aX s=some ((bX a,byF b,bX c,k,bX e,[],(bG f).1,[],(0,0),0,0),((((true&&av a)&&av c)&&av e)&&((bG f).2==0)),()):=by
 have hlen:=(bU 32 s).1
 rw[hW] at hlen
 have hL:∃ n:Nat,(((a::b::c::d::e::f::[]:List (List UInt8)).length:Nat):Int)=(n:Int)+6/\n=0:=⟨_,by simp<;>omega,rfl⟩
 obtain⟨n,hn,hnr⟩:=hL
 have hdrop:List.drop 5 (List.take (Int.toNat (((a::b::c::d::e::f::[]:List (List UInt8)).length:Nat):Int)) (a::b::c::d::e::f::[]:List (List UInt8)))=f::[]:=by rw[TV,Vj (Vu _)];rfl
 have hc5:(decide (0<=(5:Int))&&decide ((5:Int)<=(((a::b::c::d::e::f::[]:List (List UInt8)).length:Nat):Int))&&decide ((((a::b::c::d::e::f::[]:List (List UInt8)).length:Nat):Int)<=(((a::b::c::d::e::f::[]:List (List UInt8)).length:Nat):Int)))=true:=by
  rw[VZ (by omega),VZ (by omega),VZ (by omega)];rfl
 have hc0:(decide (0<=(0:Int))&&decide ((0:Int)<(((a::b::c::d::e::f::[]:List (List UInt8)).length:Nat):Int)))=true:=aS (by omega) (by omega)
 have hc1:(decide (0<=(1:Int))&&decide ((1:Int)<(((a::b::c::d::e::f::[]:List (List UInt8)).length:Nat):Int)))=true:=aS (by omega) (by omega)
 have hc2:(decide (0<=(2:Int))&&decide ((2:Int)<(((a::b::c::d::e::f::[]:List (List UInt8)).length:Nat):Int)))=true:=aS (by omega) (by omega)
 have hc3:(decide (0<=(3:Int))&&decide ((3:Int)<(((a::b::c::d::e::f::[]:List (List UInt8)).length:Nat):Int)))=true:=aS (by omega) (by omega)
 have hc4:(decide (0<=(4:Int))&&decide ((4:Int)<(((a::b::c::d::e::f::[]:List (List UInt8)).length:Nat):Int)))=true:=aS (by omega) (by omega)
 have h6:decide ((((a::b::c::d::e::f::[]:List (List UInt8)).length:Nat):Int)<6)=false:=VY (by omega)
 have hct:=cE (W:=(a::b::c::d::e::f::[]:List (List UInt8))) (by omega)
 rw[hf] at hct
 have hix:=bh bz d (by decide)
 have ht_f:f.length<=1000000:=hm _ (by simp)
 have hd_f:=fun b=>dn b f ht_f
 unfold aX
 rw[bu s 32 hs,hW,VJ]
 simp only[hdrop,hc5,hc0,hc1,hc2,hc3,hc4,h6,b7,VV,Up,Uo,VJ,hct,TG,nS hb,aN,dK,hix,hk]
 have hi:∀ (q:Nat) (w:List UInt8),(f::[])[q]? =some w->idx (f::[]) (q:Int)=some w:=fun q w h=>by rw[cN];exact h
 have hi0:idx (f::[]) 0=some f:=hi 0 _ rfl
 have l5:((((f::[]:List (List UInt8)).length:Nat):Int)==5)=false:=rfl
 have l2:((((f::[]:List (List UInt8)).length:Nat):Int)==2)=false:=rfl
 have l1:((((f::[]:List (List UInt8)).length:Nat):Int) != 1)=false:=rfl
 unfold byF
 cases hby:(b==[115,101,108,108,101,114]) with
 | true=>
  simp only[VW,VV,au,hk0,hu,VJ,hdrop,hc5,b7,hi0,hd_f,l5,l2,l1,aN]
 | false=>
  simp only[VW,VV,au,hk0,hu,VJ,hdrop,hc5,b7,hi0,hd_f,l5,l2,l1,aN]
theorem Q3 {s:List UInt8} (hs:s.length<=1000000) {a b c d e f:List UInt8} {r:List (List UInt8)} (hr:r.length≠0) (hW:aA 32 s=a::b::c::d::e::f::r) (hf:cK (a::b::c::d::e::f::r)=true) (hm:SmW (a::b::c::d::e::f::r)) (hb:b=[98,117,121,101,114]\/b=[115,101,108,108,101,114]) {k:Int} (hk:w64 (aY d bz 0+1)=k) (hk0:(k==0)=false) (hu:cA k=some ((true,false,false,false,false),())): ∃ dd,aX s=some (dd,false,()):=by
 have hlen:=(bU 32 s).1
 rw[hW] at hlen
 have hL:∃ n:Nat,(((a::b::c::d::e::f::r:List (List UInt8)).length:Nat):Int)=(n:Int)+6/\n=r.length:=⟨_,by simp<;>omega,rfl⟩
 obtain⟨n,hn,hnr⟩:=hL
 have hdrop:List.drop 5 (List.take (Int.toNat (((a::b::c::d::e::f::r:List (List UInt8)).length:Nat):Int)) (a::b::c::d::e::f::r:List (List UInt8)))=f::r:=by rw[TV,Vj (Vu _)];rfl
 have hc5:(decide (0<=(5:Int))&&decide ((5:Int)<=(((a::b::c::d::e::f::r:List (List UInt8)).length:Nat):Int))&&decide ((((a::b::c::d::e::f::r:List (List UInt8)).length:Nat):Int)<=(((a::b::c::d::e::f::r:List (List UInt8)).length:Nat):Int)))=true:=by
  rw[VZ (by omega),VZ (by omega),VZ (by omega)];rfl
 have hc0:(decide (0<=(0:Int))&&decide ((0:Int)<(((a::b::c::d::e::f::r:List (List UInt8)).length:Nat):Int)))=true:=aS (by omega) (by omega)
 have hc1:(decide (0<=(1:Int))&&decide ((1:Int)<(((a::b::c::d::e::f::r:List (List UInt8)).length:Nat):Int)))=true:=aS (by omega) (by omega)
 have hc2:(decide (0<=(2:Int))&&decide ((2:Int)<(((a::b::c::d::e::f::r:List (List UInt8)).length:Nat):Int)))=true:=aS (by omega) (by omega)
 have hc3:(decide (0<=(3:Int))&&decide ((3:Int)<(((a::b::c::d::e::f::r:List (List UInt8)).length:Nat):Int)))=true:=aS (by omega) (by omega)
 have hc4:(decide (0<=(4:Int))&&decide ((4:Int)<(((a::b::c::d::e::f::r:List (List UInt8)).length:Nat):Int)))=true:=aS (by omega) (by omega)
 have h6:decide ((((a::b::c::d::e::f::r:List (List UInt8)).length:Nat):Int)<6)=false:=VY (by omega)
 have hct:=cE (W:=(a::b::c::d::e::f::r:List (List UInt8))) (by omega)
 rw[hf] at hct
 have hix:=bh bz d (by decide)
 unfold aX
 rw[bu s 32 hs,hW,VJ]
 simp only[hdrop,hc5,hc0,hc1,hc2,hc3,hc4,h6,b7,VV,Up,Uo,VJ,hct,TG,nS hb,aN,dK,hix,hk]
 have l1:((((f::r:List (List UInt8)).length:Nat):Int) != 1)=true:=by
  cases h:((((f::r:List (List UInt8)).length:Nat):Int) != 1) with
  | true=>rfl
  | false=>
   have h2:((((f::r:List (List UInt8)).length:Nat):Int)==1)=true:=by simpa [bne] using h
   have:=eq_of_beq h2;simp at this;omega
 cases hby:(b==[115,101,108,108,101,114]) with
 | true=>
  simp only[VW,VV,au,hk0,hu,VJ,hdrop,hc5,b7,l1]
  first | exact⟨_,rfl⟩ | (split<;>exact⟨_,rfl⟩) | (cases ((((f::r:List (List UInt8)).length:Nat):Int) != 1)<;>exact⟨_,rfl⟩)
 | false=>
  simp only[VW,VV,au,hk0,hu,VJ,hdrop,hc5,b7,l1]
  first | exact⟨_,rfl⟩ | (split<;>exact⟨_,rfl⟩) | (cases ((((f::r:List (List UInt8)).length:Nat):Int) != 1)<;>exact⟨_,rfl⟩)
theorem RS {s:List UInt8} (hs:s.length<=1000000) {a:List UInt8} {b:List UInt8} {c:List UInt8} {d:List UInt8} {e:List UInt8} {f:List UInt8} {f1:List UInt8} (hW:aA 32 s=a::b::c::d::e::f::f1::[]) (hf:cK (a::b::c::d::e::f::f1::[])=true) (hm:SmW (a::b::c::d::e::f::f1::[])) (hb:b=[98,117,121,101,114]\/b=[115,101,108,108,101,114]) {k:Int} (hk:w64 (aY d bz 0+1)=k) (hk0:(k==0)=false) (hu:cA k=some ((true,false,true,false,false),())): aX s=some ((bX a,byF b,bX c,k,bX e,[],(bG f).1,[],(0,0),bX f1,0),(((((true&&av a)&&av c)&&av e)&&((bG f).2==0))&&av f1),()):=by
 have hlen:=(bU 32 s).1
 rw[hW] at hlen
 have hL:∃ n:Nat,(((a::b::c::d::e::f::f1::[]:List (List UInt8)).length:Nat):Int)=(n:Int)+6/\n=1:=⟨_,by simp<;>omega,rfl⟩
 obtain⟨n,hn,hnr⟩:=hL
 have hdrop:List.drop 5 (List.take (Int.toNat (((a::b::c::d::e::f::f1::[]:List (List UInt8)).length:Nat):Int)) (a::b::c::d::e::f::f1::[]:List (List UInt8)))=f::f1::[]:=by rw[TV,Vj (Vu _)];rfl
 have hc5:(decide (0<=(5:Int))&&decide ((5:Int)<=(((a::b::c::d::e::f::f1::[]:List (List UInt8)).length:Nat):Int))&&decide ((((a::b::c::d::e::f::f1::[]:List (List UInt8)).length:Nat):Int)<=(((a::b::c::d::e::f::f1::[]:List (List UInt8)).length:Nat):Int)))=true:=by
  rw[VZ (by omega),VZ (by omega),VZ (by omega)];rfl
 have hc0:(decide (0<=(0:Int))&&decide ((0:Int)<(((a::b::c::d::e::f::f1::[]:List (List UInt8)).length:Nat):Int)))=true:=aS (by omega) (by omega)
 have hc1:(decide (0<=(1:Int))&&decide ((1:Int)<(((a::b::c::d::e::f::f1::[]:List (List UInt8)).length:Nat):Int)))=true:=aS (by omega) (by omega)
 have hc2:(decide (0<=(2:Int))&&decide ((2:Int)<(((a::b::c::d::e::f::f1::[]:List (List UInt8)).length:Nat):Int)))=true:=aS (by omega) (by omega)
 have hc3:(decide (0<=(3:Int))&&decide ((3:Int)<(((a::b::c::d::e::f::f1::[]:List (List UInt8)).length:Nat):Int)))=true:=aS (by omega) (by omega)
 have hc4:(decide (0<=(4:Int))&&decide ((4:Int)<(((a::b::c::d::e::f::f1::[]:List (List UInt8)).length:Nat):Int)))=true:=aS (by omega) (by omega)
 have h6:decide ((((a::b::c::d::e::f::f1::[]:List (List UInt8)).length:Nat):Int)<6)=false:=VY (by omega)
 have hct:=cE (W:=(a::b::c::d::e::f::f1::[]:List (List UInt8))) (by omega)
 rw[hf] at hct
 have hix:=bh bz d (by decide)
 have ht_f:f.length<=1000000:=hm _ (by simp)
 have ht_f1:f1.length<=1000000:=hm _ (by simp)
 have hd_f:=fun b=>dn b f ht_f
 have hd_f1:=fun b=>dn b f1 ht_f1
 unfold aX
 rw[bu s 32 hs,hW,VJ]
 simp only[hdrop,hc5,hc0,hc1,hc2,hc3,hc4,h6,b7,VV,Up,Uo,VJ,hct,TG,nS hb,aN,dK,hix,hk]
 have hi:∀ (q:Nat) (w:List UInt8),(f::f1::[])[q]? =some w->idx (f::f1::[]) (q:Int)=some w:=fun q w h=>by rw[cN];exact h
 have hi0:idx (f::f1::[]) 0=some f:=hi 0 _ rfl
 have hi1:idx (f::f1::[]) 1=some f1:=hi 1 _ rfl
 have l5:((((f::f1::[]:List (List UInt8)).length:Nat):Int)==5)=false:=rfl
 have l2:((((f::f1::[]:List (List UInt8)).length:Nat):Int)==2)=true:=rfl
 have l1:((((f::f1::[]:List (List UInt8)).length:Nat):Int) != 1)=true:=rfl
 unfold byF
 cases hby:(b==[115,101,108,108,101,114]) with
 | true=>
  simp only[VW,VV,au,hk0,hu,VJ,hdrop,hc5,b7,hi0,hi1,hd_f,hd_f1,l5,l2,l1,aN]
 | false=>
  simp only[VW,VV,au,hk0,hu,VJ,hdrop,hc5,b7,hi0,hi1,hd_f,hd_f1,l5,l2,l1,aN]
theorem Q1 {s:List UInt8} (hs:s.length<=1000000) {a b c d e f:List UInt8} {r:List (List UInt8)} (hr:r.length≠1) (hW:aA 32 s=a::b::c::d::e::f::r) (hf:cK (a::b::c::d::e::f::r)=true) (hm:SmW (a::b::c::d::e::f::r)) (hb:b=[98,117,121,101,114]\/b=[115,101,108,108,101,114]) {k:Int} (hk:w64 (aY d bz 0+1)=k) (hk0:(k==0)=false) (hu:cA k=some ((true,false,true,false,false),())): ∃ dd,aX s=some (dd,false,()):=by
 have hlen:=(bU 32 s).1
 rw[hW] at hlen
 have hL:∃ n:Nat,(((a::b::c::d::e::f::r:List (List UInt8)).length:Nat):Int)=(n:Int)+6/\n=r.length:=⟨_,by simp<;>omega,rfl⟩
 obtain⟨n,hn,hnr⟩:=hL
 have hdrop:List.drop 5 (List.take (Int.toNat (((a::b::c::d::e::f::r:List (List UInt8)).length:Nat):Int)) (a::b::c::d::e::f::r:List (List UInt8)))=f::r:=by rw[TV,Vj (Vu _)];rfl
 have hc5:(decide (0<=(5:Int))&&decide ((5:Int)<=(((a::b::c::d::e::f::r:List (List UInt8)).length:Nat):Int))&&decide ((((a::b::c::d::e::f::r:List (List UInt8)).length:Nat):Int)<=(((a::b::c::d::e::f::r:List (List UInt8)).length:Nat):Int)))=true:=by
  rw[VZ (by omega),VZ (by omega),VZ (by omega)];rfl
 have hc0:(decide (0<=(0:Int))&&decide ((0:Int)<(((a::b::c::d::e::f::r:List (List UInt8)).length:Nat):Int)))=true:=aS (by omega) (by omega)
 have hc1:(decide (0<=(1:Int))&&decide ((1:Int)<(((a::b::c::d::e::f::r:List (List UInt8)).length:Nat):Int)))=true:=aS (by omega) (by omega)
 have hc2:(decide (0<=(2:Int))&&decide ((2:Int)<(((a::b::c::d::e::f::r:List (List UInt8)).length:Nat):Int)))=true:=aS (by omega) (by omega)
 have hc3:(decide (0<=(3:Int))&&decide ((3:Int)<(((a::b::c::d::e::f::r:List (List UInt8)).length:Nat):Int)))=true:=aS (by omega) (by omega)
 have hc4:(decide (0<=(4:Int))&&decide ((4:Int)<(((a::b::c::d::e::f::r:List (List UInt8)).length:Nat):Int)))=true:=aS (by omega) (by omega)
 have h6:decide ((((a::b::c::d::e::f::r:List (List UInt8)).length:Nat):Int)<6)=false:=VY (by omega)
 have hct:=cE (W:=(a::b::c::d::e::f::r:List (List UInt8))) (by omega)
 rw[hf] at hct
 have hix:=bh bz d (by decide)
 unfold aX
 rw[bu s 32 hs,hW,VJ]
 simp only[hdrop,hc5,hc0,hc1,hc2,hc3,hc4,h6,b7,VV,Up,Uo,VJ,hct,TG,nS hb,aN,dK,hix,hk]
 have l2:((((f::r:List (List UInt8)).length:Nat):Int)==2)=false:=by
  cases h:((((f::r:List (List UInt8)).length:Nat):Int)==2) with
  | false=>rfl
  | true=>have:=eq_of_beq h;simp at this;omega
 cases hby:(b==[115,101,108,108,101,114]) with
 | true=>
  simp only[VW,VV,au,hk0,hu,VJ,hdrop,hc5,b7,l2]
  first | exact⟨_,rfl⟩ | (split<;>exact⟨_,rfl⟩) | (cases ((((f::r:List (List UInt8)).length:Nat):Int) != 1)<;>exact⟨_,rfl⟩)
 | false=>
  simp only[VW,VV,au,hk0,hu,VJ,hdrop,hc5,b7,l2]
  first | exact⟨_,rfl⟩ | (split<;>exact⟨_,rfl⟩) | (cases ((((f::r:List (List UInt8)).length:Nat):Int) != 1)<;>exact⟨_,rfl⟩)
theorem RR {s:List UInt8} (hs:s.length<=1000000) {a:List UInt8} {b:List UInt8} {c:List UInt8} {d:List UInt8} {e:List UInt8} {f:List UInt8} {f1:List UInt8} {f2:List UInt8} {f3:List UInt8} {f4:List UInt8} (hW:aA 32 s=a::b::c::d::e::f::f1::f2::f3::f4::[]) (hf:cK (a::b::c::d::e::f::f1::f2::f3::f4::[])=true) (hm:SmW (a::b::c::d::e::f::f1::f2::f3::f4::[])) (hb:b=[98,117,121,101,114]\/b=[115,101,108,108,101,114]) {k:Int} (hk:w64 (aY d bz 0+1)=k) (hk0:(k==0)=false) (hu:cA k=some ((true,true,true,true,false),())): aX s=some ((bX a,byF b,bX c,k,bX e,f,(bG f1).1,f2,(bG f3).1,bX f4,0),((((((true&&av a)&&av c)&&av e)&&((bG f1).2==0))&&((bG f3).2==0))&&av f4),()):=by
 have hlen:=(bU 32 s).1
 rw[hW] at hlen
 have hL:∃ n:Nat,(((a::b::c::d::e::f::f1::f2::f3::f4::[]:List (List UInt8)).length:Nat):Int)=(n:Int)+6/\n=4:=⟨_,by simp<;>omega,rfl⟩
 obtain⟨n,hn,hnr⟩:=hL
 have hdrop:List.drop 5 (List.take (Int.toNat (((a::b::c::d::e::f::f1::f2::f3::f4::[]:List (List UInt8)).length:Nat):Int)) (a::b::c::d::e::f::f1::f2::f3::f4::[]:List (List UInt8)))=f::f1::f2::f3::f4::[]:=by rw[TV,Vj (Vu _)];rfl
 have hc5:(decide (0<=(5:Int))&&decide ((5:Int)<=(((a::b::c::d::e::f::f1::f2::f3::f4::[]:List (List UInt8)).length:Nat):Int))&&decide ((((a::b::c::d::e::f::f1::f2::f3::f4::[]:List (List UInt8)).length:Nat):Int)<=(((a::b::c::d::e::f::f1::f2::f3::f4::[]:List (List UInt8)).length:Nat):Int)))=true:=by
  rw[VZ (by omega),VZ (by omega),VZ (by omega)];rfl
 have hc0:(decide (0<=(0:Int))&&decide ((0:Int)<(((a::b::c::d::e::f::f1::f2::f3::f4::[]:List (List UInt8)).length:Nat):Int)))=true:=aS (by omega) (by omega)
 have hc1:(decide (0<=(1:Int))&&decide ((1:Int)<(((a::b::c::d::e::f::f1::f2::f3::f4::[]:List (List UInt8)).length:Nat):Int)))=true:=aS (by omega) (by omega)
 have hc2:(decide (0<=(2:Int))&&decide ((2:Int)<(((a::b::c::d::e::f::f1::f2::f3::f4::[]:List (List UInt8)).length:Nat):Int)))=true:=aS (by omega) (by omega)
 have hc3:(decide (0<=(3:Int))&&decide ((3:Int)<(((a::b::c::d::e::f::f1::f2::f3::f4::[]:List (List UInt8)).length:Nat):Int)))=true:=aS (by omega) (by omega)
 have hc4:(decide (0<=(4:Int))&&decide ((4:Int)<(((a::b::c::d::e::f::f1::f2::f3::f4::[]:List (List UInt8)).length:Nat):Int)))=true:=aS (by omega) (by omega)
 have h6:decide ((((a::b::c::d::e::f::f1::f2::f3::f4::[]:List (List UInt8)).length:Nat):Int)<6)=false:=VY (by omega)
 have hct:=cE (W:=(a::b::c::d::e::f::f1::f2::f3::f4::[]:List (List UInt8))) (by omega)
 rw[hf] at hct
 have hix:=bh bz d (by decide)
 have ht_f:f.length<=1000000:=hm _ (by simp)
 have ht_f1:f1.length<=1000000:=hm _ (by simp)
 have ht_f2:f2.length<=1000000:=hm _ (by simp)
 have ht_f3:f3.length<=1000000:=hm _ (by simp)
 have ht_f4:f4.length<=1000000:=hm _ (by simp)
 have hd_f:=fun b=>dn b f ht_f
 have hd_f1:=fun b=>dn b f1 ht_f1
 have hd_f2:=fun b=>dn b f2 ht_f2
 have hd_f3:=fun b=>dn b f3 ht_f3
 have hd_f4:=fun b=>dn b f4 ht_f4
 unfold aX
 rw[bu s 32 hs,hW,VJ]
 simp only[hdrop,hc5,hc0,hc1,hc2,hc3,hc4,h6,b7,VV,Up,Uo,VJ,hct,TG,nS hb,aN,dK,hix,hk]
 have hi:∀ (q:Nat) (w:List UInt8),(f::f1::f2::f3::f4::[])[q]? =some w->idx (f::f1::f2::f3::f4::[]) (q:Int)=some w:=fun q w h=>by rw[cN];exact h
 have hi0:idx (f::f1::f2::f3::f4::[]) 0=some f:=hi 0 _ rfl
 have hi1:idx (f::f1::f2::f3::f4::[]) 1=some f1:=hi 1 _ rfl
 have hi2:idx (f::f1::f2::f3::f4::[]) 2=some f2:=hi 2 _ rfl
 have hi3:idx (f::f1::f2::f3::f4::[]) 3=some f3:=hi 3 _ rfl
 have hi4:idx (f::f1::f2::f3::f4::[]) 4=some f4:=hi 4 _ rfl
 have l5:((((f::f1::f2::f3::f4::[]:List (List UInt8)).length:Nat):Int)==5)=true:=rfl
 have l2:((((f::f1::f2::f3::f4::[]:List (List UInt8)).length:Nat):Int)==2)=false:=rfl
 have l1:((((f::f1::f2::f3::f4::[]:List (List UInt8)).length:Nat):Int) != 1)=true:=rfl
 unfold byF
 cases hby:(b==[115,101,108,108,101,114]) with
 | true=>
  simp only[VW,VV,au,hk0,hu,VJ,hdrop,hc5,b7,hi0,hi1,hi2,hi3,hi4,hd_f,hd_f1,hd_f2,hd_f3,hd_f4,l5,l2,l1,aN]
 | false=>
  simp only[VW,VV,au,hk0,hu,VJ,hdrop,hc5,b7,hi0,hi1,hi2,hi3,hi4,hd_f,hd_f1,hd_f2,hd_f3,hd_f4,l5,l2,l1,aN]
theorem Q0 {s:List UInt8} (hs:s.length<=1000000) {a b c d e f:List UInt8} {r:List (List UInt8)} (hr:r.length≠4) (hW:aA 32 s=a::b::c::d::e::f::r) (hf:cK (a::b::c::d::e::f::r)=true) (hm:SmW (a::b::c::d::e::f::r)) (hb:b=[98,117,121,101,114]\/b=[115,101,108,108,101,114]) {k:Int} (hk:w64 (aY d bz 0+1)=k) (hk0:(k==0)=false) (hu:cA k=some ((true,true,true,true,false),())): ∃ dd,aX s=some (dd,false,()):=by
 have hlen:=(bU 32 s).1
 rw[hW] at hlen
 have hL:∃ n:Nat,(((a::b::c::d::e::f::r:List (List UInt8)).length:Nat):Int)=(n:Int)+6/\n=r.length:=⟨_,by simp<;>omega,rfl⟩
 obtain⟨n,hn,hnr⟩:=hL
 have hdrop:List.drop 5 (List.take (Int.toNat (((a::b::c::d::e::f::r:List (List UInt8)).length:Nat):Int)) (a::b::c::d::e::f::r:List (List UInt8)))=f::r:=by rw[TV,Vj (Vu _)];rfl
 have hc5:(decide (0<=(5:Int))&&decide ((5:Int)<=(((a::b::c::d::e::f::r:List (List UInt8)).length:Nat):Int))&&decide ((((a::b::c::d::e::f::r:List (List UInt8)).length:Nat):Int)<=(((a::b::c::d::e::f::r:List (List UInt8)).length:Nat):Int)))=true:=by
  rw[VZ (by omega),VZ (by omega),VZ (by omega)];rfl
 have hc0:(decide (0<=(0:Int))&&decide ((0:Int)<(((a::b::c::d::e::f::r:List (List UInt8)).length:Nat):Int)))=true:=aS (by omega) (by omega)
 have hc1:(decide (0<=(1:Int))&&decide ((1:Int)<(((a::b::c::d::e::f::r:List (List UInt8)).length:Nat):Int)))=true:=aS (by omega) (by omega)
 have hc2:(decide (0<=(2:Int))&&decide ((2:Int)<(((a::b::c::d::e::f::r:List (List UInt8)).length:Nat):Int)))=true:=aS (by omega) (by omega)
 have hc3:(decide (0<=(3:Int))&&decide ((3:Int)<(((a::b::c::d::e::f::r:List (List UInt8)).length:Nat):Int)))=true:=aS (by omega) (by omega)
 have hc4:(decide (0<=(4:Int))&&decide ((4:Int)<(((a::b::c::d::e::f::r:List (List UInt8)).length:Nat):Int)))=true:=aS (by omega) (by omega)
 have h6:decide ((((a::b::c::d::e::f::r:List (List UInt8)).length:Nat):Int)<6)=false:=VY (by omega)
 have hct:=cE (W:=(a::b::c::d::e::f::r:List (List UInt8))) (by omega)
 rw[hf] at hct
 have hix:=bh bz d (by decide)
 unfold aX
 rw[bu s 32 hs,hW,VJ]
 simp only[hdrop,hc5,hc0,hc1,hc2,hc3,hc4,h6,b7,VV,Up,Uo,VJ,hct,TG,nS hb,aN,dK,hix,hk]
 have l5:((((f::r:List (List UInt8)).length:Nat):Int)==5)=false:=by
  cases h:((((f::r:List (List UInt8)).length:Nat):Int)==5) with
  | false=>rfl
  | true=>have:=eq_of_beq h;simp at this;omega
 cases hby:(b==[115,101,108,108,101,114]) with
 | true=>
  simp only[VW,VV,au,hk0,hu,VJ,hdrop,hc5,b7,l5]
  first | exact⟨_,rfl⟩ | (split<;>exact⟨_,rfl⟩) | (cases ((((f::r:List (List UInt8)).length:Nat):Int) != 1)<;>exact⟨_,rfl⟩)
 | false=>
  simp only[VW,VV,au,hk0,hu,VJ,hdrop,hc5,b7,l5]
  first | exact⟨_,rfl⟩ | (split<;>exact⟨_,rfl⟩) | (cases ((((f::r:List (List UInt8)).length:Nat):Int) != 1)<;>exact⟨_,rfl⟩)
theorem RT {s:List UInt8} (hs:s.length<=1000000) {a:List UInt8} {b:List UInt8} {c:List UInt8} {d:List UInt8} {e:List UInt8} {f:List UInt8} (hW:aA 32 s=a::b::c::d::e::f::[]) (hf:cK (a::b::c::d::e::f::[])=true) (hm:SmW (a::b::c::d::e::f::[])) (hb:b=[98,117,121,101,114]\/b=[115,101,108,108,101,114]) {k:Int} (hk:w64 (aY d bz 0+1)=k) (hk0:(k==0)=false) (hu:cA k=some ((false,true,false,false,false),())): aX s=some ((bX a,byF b,bX c,k,bX e,[],(0,0),[],(bG f).1,0,0),((((true&&av a)&&av c)&&av e)&&((bG f).2==0)),()):=by
 have hlen:=(bU 32 s).1
 rw[hW] at hlen
 have hL:∃ n:Nat,(((a::b::c::d::e::f::[]:List (List UInt8)).length:Nat):Int)=(n:Int)+6/\n=0:=⟨_,by simp<;>omega,rfl⟩
 obtain⟨n,hn,hnr⟩:=hL
 have hdrop:List.drop 5 (List.take (Int.toNat (((a::b::c::d::e::f::[]:List (List UInt8)).length:Nat):Int)) (a::b::c::d::e::f::[]:List (List UInt8)))=f::[]:=by rw[TV,Vj (Vu _)];rfl
 have hc5:(decide (0<=(5:Int))&&decide ((5:Int)<=(((a::b::c::d::e::f::[]:List (List UInt8)).length:Nat):Int))&&decide ((((a::b::c::d::e::f::[]:List (List UInt8)).length:Nat):Int)<=(((a::b::c::d::e::f::[]:List (List UInt8)).length:Nat):Int)))=true:=by
  rw[VZ (by omega),VZ (by omega),VZ (by omega)];rfl
 have hc0:(decide (0<=(0:Int))&&decide ((0:Int)<(((a::b::c::d::e::f::[]:List (List UInt8)).length:Nat):Int)))=true:=aS (by omega) (by omega)
 have hc1:(decide (0<=(1:Int))&&decide ((1:Int)<(((a::b::c::d::e::f::[]:List (List UInt8)).length:Nat):Int)))=true:=aS (by omega) (by omega)
 have hc2:(decide (0<=(2:Int))&&decide ((2:Int)<(((a::b::c::d::e::f::[]:List (List UInt8)).length:Nat):Int)))=true:=aS (by omega) (by omega)
 have hc3:(decide (0<=(3:Int))&&decide ((3:Int)<(((a::b::c::d::e::f::[]:List (List UInt8)).length:Nat):Int)))=true:=aS (by omega) (by omega)
 have hc4:(decide (0<=(4:Int))&&decide ((4:Int)<(((a::b::c::d::e::f::[]:List (List UInt8)).length:Nat):Int)))=true:=aS (by omega) (by omega)
 have h6:decide ((((a::b::c::d::e::f::[]:List (List UInt8)).length:Nat):Int)<6)=false:=VY (by omega)
 have hct:=cE (W:=(a::b::c::d::e::f::[]:List (List UInt8))) (by omega)
 rw[hf] at hct
 have hix:=bh bz d (by decide)
 have ht_f:f.length<=1000000:=hm _ (by simp)
 have hd_f:=fun b=>dn b f ht_f
 unfold aX
 rw[bu s 32 hs,hW,VJ]
 simp only[hdrop,hc5,hc0,hc1,hc2,hc3,hc4,h6,b7,VV,Up,Uo,VJ,hct,TG,nS hb,aN,dK,hix,hk]
 have hi:∀ (q:Nat) (w:List UInt8),(f::[])[q]? =some w->idx (f::[]) (q:Int)=some w:=fun q w h=>by rw[cN];exact h
 have hi0:idx (f::[]) 0=some f:=hi 0 _ rfl
 have l5:((((f::[]:List (List UInt8)).length:Nat):Int)==5)=false:=rfl
 have l2:((((f::[]:List (List UInt8)).length:Nat):Int)==2)=false:=rfl
 have l1:((((f::[]:List (List UInt8)).length:Nat):Int) != 1)=false:=rfl
 unfold byF
 cases hby:(b==[115,101,108,108,101,114]) with
 | true=>
  simp only[VW,VV,au,hk0,hu,VJ,hdrop,hc5,b7,hi0,hd_f,l5,l2,l1,aN]
 | false=>
  simp only[VW,VV,au,hk0,hu,VJ,hdrop,hc5,b7,hi0,hd_f,l5,l2,l1,aN]
theorem Q2 {s:List UInt8} (hs:s.length<=1000000) {a b c d e f:List UInt8} {r:List (List UInt8)} (hr:r.length≠0) (hW:aA 32 s=a::b::c::d::e::f::r) (hf:cK (a::b::c::d::e::f::r)=true) (hm:SmW (a::b::c::d::e::f::r)) (hb:b=[98,117,121,101,114]\/b=[115,101,108,108,101,114]) {k:Int} (hk:w64 (aY d bz 0+1)=k) (hk0:(k==0)=false) (hu:cA k=some ((false,true,false,false,false),())): ∃ dd,aX s=some (dd,false,()):=by
 have hlen:=(bU 32 s).1
 rw[hW] at hlen
 have hL:∃ n:Nat,(((a::b::c::d::e::f::r:List (List UInt8)).length:Nat):Int)=(n:Int)+6/\n=r.length:=⟨_,by simp<;>omega,rfl⟩
 obtain⟨n,hn,hnr⟩:=hL
 have hdrop:List.drop 5 (List.take (Int.toNat (((a::b::c::d::e::f::r:List (List UInt8)).length:Nat):Int)) (a::b::c::d::e::f::r:List (List UInt8)))=f::r:=by rw[TV,Vj (Vu _)];rfl
 have hc5:(decide (0<=(5:Int))&&decide ((5:Int)<=(((a::b::c::d::e::f::r:List (List UInt8)).length:Nat):Int))&&decide ((((a::b::c::d::e::f::r:List (List UInt8)).length:Nat):Int)<=(((a::b::c::d::e::f::r:List (List UInt8)).length:Nat):Int)))=true:=by
  rw[VZ (by omega),VZ (by omega),VZ (by omega)];rfl
 have hc0:(decide (0<=(0:Int))&&decide ((0:Int)<(((a::b::c::d::e::f::r:List (List UInt8)).length:Nat):Int)))=true:=aS (by omega) (by omega)
 have hc1:(decide (0<=(1:Int))&&decide ((1:Int)<(((a::b::c::d::e::f::r:List (List UInt8)).length:Nat):Int)))=true:=aS (by omega) (by omega)
 have hc2:(decide (0<=(2:Int))&&decide ((2:Int)<(((a::b::c::d::e::f::r:List (List UInt8)).length:Nat):Int)))=true:=aS (by omega) (by omega)
 have hc3:(decide (0<=(3:Int))&&decide ((3:Int)<(((a::b::c::d::e::f::r:List (List UInt8)).length:Nat):Int)))=true:=aS (by omega) (by omega)
 have hc4:(decide (0<=(4:Int))&&decide ((4:Int)<(((a::b::c::d::e::f::r:List (List UInt8)).length:Nat):Int)))=true:=aS (by omega) (by omega)
 have h6:decide ((((a::b::c::d::e::f::r:List (List UInt8)).length:Nat):Int)<6)=false:=VY (by omega)
 have hct:=cE (W:=(a::b::c::d::e::f::r:List (List UInt8))) (by omega)
 rw[hf] at hct
 have hix:=bh bz d (by decide)
 unfold aX
 rw[bu s 32 hs,hW,VJ]
 simp only[hdrop,hc5,hc0,hc1,hc2,hc3,hc4,h6,b7,VV,Up,Uo,VJ,hct,TG,nS hb,aN,dK,hix,hk]
 have l1:((((f::r:List (List UInt8)).length:Nat):Int) != 1)=true:=by
  cases h:((((f::r:List (List UInt8)).length:Nat):Int) != 1) with
  | true=>rfl
  | false=>
   have h2:((((f::r:List (List UInt8)).length:Nat):Int)==1)=true:=by simpa [bne] using h
   have:=eq_of_beq h2;simp at this;omega
 cases hby:(b==[115,101,108,108,101,114]) with
 | true=>
  simp only[VW,VV,au,hk0,hu,VJ,hdrop,hc5,b7,l1]
  first | exact⟨_,rfl⟩ | (split<;>exact⟨_,rfl⟩) | (cases ((((f::r:List (List UInt8)).length:Nat):Int) != 1)<;>exact⟨_,rfl⟩)
 | false=>
  simp only[VW,VV,au,hk0,hu,VJ,hdrop,hc5,b7,l1]
  first | exact⟨_,rfl⟩ | (split<;>exact⟨_,rfl⟩) | (cases ((((f::r:List (List UInt8)).length:Nat):Int) != 1)<;>exact⟨_,rfl⟩)
theorem RW {s:List UInt8} (hs:s.length<=1000000) {a:List UInt8} {b:List UInt8} {c:List UInt8} {d:List UInt8} {e:List UInt8} {f:List UInt8} (hW:aA 32 s=a::b::c::d::e::f::[]) (hf:cK (a::b::c::d::e::f::[])=true) (hm:SmW (a::b::c::d::e::f::[])) (hb:b=[98,117,121,101,114]\/b=[115,101,108,108,101,114]) {k:Int} (hk:w64 (aY d bz 0+1)=k) (hk0:(k==0)=false) (hu:cA k=some ((false,false,true,false,false),())): aX s=some ((bX a,byF b,bX c,k,bX e,[],(0,0),[],(0,0),bX f,0),((((true&&av a)&&av c)&&av e)&&av f),()):=by
 have hlen:=(bU 32 s).1
 rw[hW] at hlen
 have hL:∃ n:Nat,(((a::b::c::d::e::f::[]:List (List UInt8)).length:Nat):Int)=(n:Int)+6/\n=0:=⟨_,by simp<;>omega,rfl⟩
 obtain⟨n,hn,hnr⟩:=hL
 have hdrop:List.drop 5 (List.take (Int.toNat (((a::b::c::d::e::f::[]:List (List UInt8)).length:Nat):Int)) (a::b::c::d::e::f::[]:List (List UInt8)))=f::[]:=by rw[TV,Vj (Vu _)];rfl
 have hc5:(decide (0<=(5:Int))&&decide ((5:Int)<=(((a::b::c::d::e::f::[]:List (List UInt8)).length:Nat):Int))&&decide ((((a::b::c::d::e::f::[]:List (List UInt8)).length:Nat):Int)<=(((a::b::c::d::e::f::[]:List (List UInt8)).length:Nat):Int)))=true:=by
  rw[VZ (by omega),VZ (by omega),VZ (by omega)];rfl
 have hc0:(decide (0<=(0:Int))&&decide ((0:Int)<(((a::b::c::d::e::f::[]:List (List UInt8)).length:Nat):Int)))=true:=aS (by omega) (by omega)
 have hc1:(decide (0<=(1:Int))&&decide ((1:Int)<(((a::b::c::d::e::f::[]:List (List UInt8)).length:Nat):Int)))=true:=aS (by omega) (by omega)
 have hc2:(decide (0<=(2:Int))&&decide ((2:Int)<(((a::b::c::d::e::f::[]:List (List UInt8)).length:Nat):Int)))=true:=aS (by omega) (by omega)
 have hc3:(decide (0<=(3:Int))&&decide ((3:Int)<(((a::b::c::d::e::f::[]:List (List UInt8)).length:Nat):Int)))=true:=aS (by omega) (by omega)
 have hc4:(decide (0<=(4:Int))&&decide ((4:Int)<(((a::b::c::d::e::f::[]:List (List UInt8)).length:Nat):Int)))=true:=aS (by omega) (by omega)
 have h6:decide ((((a::b::c::d::e::f::[]:List (List UInt8)).length:Nat):Int)<6)=false:=VY (by omega)
 have hct:=cE (W:=(a::b::c::d::e::f::[]:List (List UInt8))) (by omega)
 rw[hf] at hct
 have hix:=bh bz d (by decide)
 have ht_f:f.length<=1000000:=hm _ (by simp)
 have hd_f:=fun b=>dn b f ht_f
 unfold aX
 rw[bu s 32 hs,hW,VJ]
 simp only[hdrop,hc5,hc0,hc1,hc2,hc3,hc4,h6,b7,VV,Up,Uo,VJ,hct,TG,nS hb,aN,dK,hix,hk]
 have hi:∀ (q:Nat) (w:List UInt8),(f::[])[q]? =some w->idx (f::[]) (q:Int)=some w:=fun q w h=>by rw[cN];exact h
 have hi0:idx (f::[]) 0=some f:=hi 0 _ rfl
 have l5:((((f::[]:List (List UInt8)).length:Nat):Int)==5)=false:=rfl
 have l2:((((f::[]:List (List UInt8)).length:Nat):Int)==2)=false:=rfl
 have l1:((((f::[]:List (List UInt8)).length:Nat):Int) != 1)=false:=rfl
 unfold byF
 cases hby:(b==[115,101,108,108,101,114]) with
 | true=>
  simp only[VW,VV,au,hk0,hu,VJ,hdrop,hc5,b7,hi0,hd_f,l5,l2,l1,aN]
 | false=>
  simp only[VW,VV,au,hk0,hu,VJ,hdrop,hc5,b7,hi0,hd_f,l5,l2,l1,aN]
theorem Q5 {s:List UInt8} (hs:s.length<=1000000) {a b c d e f:List UInt8} {r:List (List UInt8)} (hr:r.length≠0) (hW:aA 32 s=a::b::c::d::e::f::r) (hf:cK (a::b::c::d::e::f::r)=true) (hm:SmW (a::b::c::d::e::f::r)) (hb:b=[98,117,121,101,114]\/b=[115,101,108,108,101,114]) {k:Int} (hk:w64 (aY d bz 0+1)=k) (hk0:(k==0)=false) (hu:cA k=some ((false,false,true,false,false),())): ∃ dd,aX s=some (dd,false,()):=by
 have hlen:=(bU 32 s).1
 rw[hW] at hlen
 have hL:∃ n:Nat,(((a::b::c::d::e::f::r:List (List UInt8)).length:Nat):Int)=(n:Int)+6/\n=r.length:=⟨_,by simp<;>omega,rfl⟩
 obtain⟨n,hn,hnr⟩:=hL
 have hdrop:List.drop 5 (List.take (Int.toNat (((a::b::c::d::e::f::r:List (List UInt8)).length:Nat):Int)) (a::b::c::d::e::f::r:List (List UInt8)))=f::r:=by rw[TV,Vj (Vu _)];rfl
 have hc5:(decide (0<=(5:Int))&&decide ((5:Int)<=(((a::b::c::d::e::f::r:List (List UInt8)).length:Nat):Int))&&decide ((((a::b::c::d::e::f::r:List (List UInt8)).length:Nat):Int)<=(((a::b::c::d::e::f::r:List (List UInt8)).length:Nat):Int)))=true:=by
  rw[VZ (by omega),VZ (by omega),VZ (by omega)];rfl
 have hc0:(decide (0<=(0:Int))&&decide ((0:Int)<(((a::b::c::d::e::f::r:List (List UInt8)).length:Nat):Int)))=true:=aS (by omega) (by omega)
 have hc1:(decide (0<=(1:Int))&&decide ((1:Int)<(((a::b::c::d::e::f::r:List (List UInt8)).length:Nat):Int)))=true:=aS (by omega) (by omega)
 have hc2:(decide (0<=(2:Int))&&decide ((2:Int)<(((a::b::c::d::e::f::r:List (List UInt8)).length:Nat):Int)))=true:=aS (by omega) (by omega)
 have hc3:(decide (0<=(3:Int))&&decide ((3:Int)<(((a::b::c::d::e::f::r:List (List UInt8)).length:Nat):Int)))=true:=aS (by omega) (by omega)
 have hc4:(decide (0<=(4:Int))&&decide ((4:Int)<(((a::b::c::d::e::f::r:List (List UInt8)).length:Nat):Int)))=true:=aS (by omega) (by omega)
 have h6:decide ((((a::b::c::d::e::f::r:List (List UInt8)).length:Nat):Int)<6)=false:=VY (by omega)
 have hct:=cE (W:=(a::b::c::d::e::f::r:List (List UInt8))) (by omega)
 rw[hf] at hct
 have hix:=bh bz d (by decide)
 unfold aX
 rw[bu s 32 hs,hW,VJ]
 simp only[hdrop,hc5,hc0,hc1,hc2,hc3,hc4,h6,b7,VV,Up,Uo,VJ,hct,TG,nS hb,aN,dK,hix,hk]
 have l1:((((f::r:List (List UInt8)).length:Nat):Int) != 1)=true:=by
  cases h:((((f::r:List (List UInt8)).length:Nat):Int) != 1) with
  | true=>rfl
  | false=>
   have h2:((((f::r:List (List UInt8)).length:Nat):Int)==1)=true:=by simpa [bne] using h
   have:=eq_of_beq h2;simp at this;omega
 cases hby:(b==[115,101,108,108,101,114]) with
 | true=>
  simp only[VW,VV,au,hk0,hu,VJ,hdrop,hc5,b7,l1]
  first | exact⟨_,rfl⟩ | (split<;>exact⟨_,rfl⟩) | (cases ((((f::r:List (List UInt8)).length:Nat):Int) != 1)<;>exact⟨_,rfl⟩)
 | false=>
  simp only[VW,VV,au,hk0,hu,VJ,hdrop,hc5,b7,l1]
  first | exact⟨_,rfl⟩ | (split<;>exact⟨_,rfl⟩) | (cases ((((f::r:List (List UInt8)).length:Nat):Int) != 1)<;>exact⟨_,rfl⟩)
theorem RV {s:List UInt8} (hs:s.length<=1000000) {a:List UInt8} {b:List UInt8} {c:List UInt8} {d:List UInt8} {e:List UInt8} {f:List UInt8} (hW:aA 32 s=a::b::c::d::e::f::[]) (hf:cK (a::b::c::d::e::f::[])=true) (hm:SmW (a::b::c::d::e::f::[])) (hb:b=[98,117,121,101,114]\/b=[115,101,108,108,101,114]) {k:Int} (hk:w64 (aY d bz 0+1)=k) (hk0:(k==0)=false) (hu:cA k=some ((false,false,false,false,true),())): aX s=some ((bX a,byF b,bX c,k,bX e,[],(0,0),[],(0,0),0,bX f),((((true&&av a)&&av c)&&av e)&&av f),()):=by
 have hlen:=(bU 32 s).1
 rw[hW] at hlen
 have hL:∃ n:Nat,(((a::b::c::d::e::f::[]:List (List UInt8)).length:Nat):Int)=(n:Int)+6/\n=0:=⟨_,by simp<;>omega,rfl⟩
 obtain⟨n,hn,hnr⟩:=hL
 have hdrop:List.drop 5 (List.take (Int.toNat (((a::b::c::d::e::f::[]:List (List UInt8)).length:Nat):Int)) (a::b::c::d::e::f::[]:List (List UInt8)))=f::[]:=by rw[TV,Vj (Vu _)];rfl
 have hc5:(decide (0<=(5:Int))&&decide ((5:Int)<=(((a::b::c::d::e::f::[]:List (List UInt8)).length:Nat):Int))&&decide ((((a::b::c::d::e::f::[]:List (List UInt8)).length:Nat):Int)<=(((a::b::c::d::e::f::[]:List (List UInt8)).length:Nat):Int)))=true:=by
  rw[VZ (by omega),VZ (by omega),VZ (by omega)];rfl
 have hc0:(decide (0<=(0:Int))&&decide ((0:Int)<(((a::b::c::d::e::f::[]:List (List UInt8)).length:Nat):Int)))=true:=aS (by omega) (by omega)
 have hc1:(decide (0<=(1:Int))&&decide ((1:Int)<(((a::b::c::d::e::f::[]:List (List UInt8)).length:Nat):Int)))=true:=aS (by omega) (by omega)
 have hc2:(decide (0<=(2:Int))&&decide ((2:Int)<(((a::b::c::d::e::f::[]:List (List UInt8)).length:Nat):Int)))=true:=aS (by omega) (by omega)
 have hc3:(decide (0<=(3:Int))&&decide ((3:Int)<(((a::b::c::d::e::f::[]:List (List UInt8)).length:Nat):Int)))=true:=aS (by omega) (by omega)
 have hc4:(decide (0<=(4:Int))&&decide ((4:Int)<(((a::b::c::d::e::f::[]:List (List UInt8)).length:Nat):Int)))=true:=aS (by omega) (by omega)
 have h6:decide ((((a::b::c::d::e::f::[]:List (List UInt8)).length:Nat):Int)<6)=false:=VY (by omega)
 have hct:=cE (W:=(a::b::c::d::e::f::[]:List (List UInt8))) (by omega)
 rw[hf] at hct
 have hix:=bh bz d (by decide)
 have ht_f:f.length<=1000000:=hm _ (by simp)
 have hd_f:=fun b=>dn b f ht_f
 unfold aX
 rw[bu s 32 hs,hW,VJ]
 simp only[hdrop,hc5,hc0,hc1,hc2,hc3,hc4,h6,b7,VV,Up,Uo,VJ,hct,TG,nS hb,aN,dK,hix,hk]
 have hi:∀ (q:Nat) (w:List UInt8),(f::[])[q]? =some w->idx (f::[]) (q:Int)=some w:=fun q w h=>by rw[cN];exact h
 have hi0:idx (f::[]) 0=some f:=hi 0 _ rfl
 have l5:((((f::[]:List (List UInt8)).length:Nat):Int)==5)=false:=rfl
 have l2:((((f::[]:List (List UInt8)).length:Nat):Int)==2)=false:=rfl
 have l1:((((f::[]:List (List UInt8)).length:Nat):Int) != 1)=false:=rfl
 unfold byF
 cases hby:(b==[115,101,108,108,101,114]) with
 | true=>
  simp only[VW,VV,au,hk0,hu,VJ,hdrop,hc5,b7,hi0,hd_f,l5,l2,l1,aN]
 | false=>
  simp only[VW,VV,au,hk0,hu,VJ,hdrop,hc5,b7,hi0,hd_f,l5,l2,l1,aN]
theorem Q4 {s:List UInt8} (hs:s.length<=1000000) {a b c d e f:List UInt8} {r:List (List UInt8)} (hr:r.length≠0) (hW:aA 32 s=a::b::c::d::e::f::r) (hf:cK (a::b::c::d::e::f::r)=true) (hm:SmW (a::b::c::d::e::f::r)) (hb:b=[98,117,121,101,114]\/b=[115,101,108,108,101,114]) {k:Int} (hk:w64 (aY d bz 0+1)=k) (hk0:(k==0)=false) (hu:cA k=some ((false,false,false,false,true),())): ∃ dd,aX s=some (dd,false,()):=by
 have hlen:=(bU 32 s).1
 rw[hW] at hlen
 have hL:∃ n:Nat,(((a::b::c::d::e::f::r:List (List UInt8)).length:Nat):Int)=(n:Int)+6/\n=r.length:=⟨_,by simp<;>omega,rfl⟩
 obtain⟨n,hn,hnr⟩:=hL
 have hdrop:List.drop 5 (List.take (Int.toNat (((a::b::c::d::e::f::r:List (List UInt8)).length:Nat):Int)) (a::b::c::d::e::f::r:List (List UInt8)))=f::r:=by rw[TV,Vj (Vu _)];rfl
 have hc5:(decide (0<=(5:Int))&&decide ((5:Int)<=(((a::b::c::d::e::f::r:List (List UInt8)).length:Nat):Int))&&decide ((((a::b::c::d::e::f::r:List (List UInt8)).length:Nat):Int)<=(((a::b::c::d::e::f::r:List (List UInt8)).length:Nat):Int)))=true:=by
  rw[VZ (by omega),VZ (by omega),VZ (by omega)];rfl
 have hc0:(decide (0<=(0:Int))&&decide ((0:Int)<(((a::b::c::d::e::f::r:List (List UInt8)).length:Nat):Int)))=true:=aS (by omega) (by omega)
 have hc1:(decide (0<=(1:Int))&&decide ((1:Int)<(((a::b::c::d::e::f::r:List (List UInt8)).length:Nat):Int)))=true:=aS (by omega) (by omega)
 have hc2:(decide (0<=(2:Int))&&decide ((2:Int)<(((a::b::c::d::e::f::r:List (List UInt8)).length:Nat):Int)))=true:=aS (by omega) (by omega)
 have hc3:(decide (0<=(3:Int))&&decide ((3:Int)<(((a::b::c::d::e::f::r:List (List UInt8)).length:Nat):Int)))=true:=aS (by omega) (by omega)
 have hc4:(decide (0<=(4:Int))&&decide ((4:Int)<(((a::b::c::d::e::f::r:List (List UInt8)).length:Nat):Int)))=true:=aS (by omega) (by omega)
 have h6:decide ((((a::b::c::d::e::f::r:List (List UInt8)).length:Nat):Int)<6)=false:=VY (by omega)
 have hct:=cE (W:=(a::b::c::d::e::f::r:List (List UInt8))) (by omega)
 rw[hf] at hct
 have hix:=bh bz d (by decide)
 unfold aX
 rw[bu s 32 hs,hW,VJ]
 simp only[hdrop,hc5,hc0,hc1,hc2,hc3,hc4,h6,b7,VV,Up,Uo,VJ,hct,TG,nS hb,aN,dK,hix,hk]
 have l1:((((f::r:List (List UInt8)).length:Nat):Int) != 1)=true:=by
  cases h:((((f::r:List (List UInt8)).length:Nat):Int) != 1) with
  | true=>rfl
  | false=>
   have h2:((((f::r:List (List UInt8)).length:Nat):Int)==1)=true:=by simpa [bne] using h
   have:=eq_of_beq h2;simp at this;omega
 cases hby:(b==[115,101,108,108,101,114]) with
 | true=>
  simp only[VW,VV,au,hk0,hu,VJ,hdrop,hc5,b7,l1]
  first | exact⟨_,rfl⟩ | (split<;>exact⟨_,rfl⟩) | (cases ((((f::r:List (List UInt8)).length:Nat):Int) != 1)<;>exact⟨_,rfl⟩)
 | false=>
  simp only[VW,VV,au,hk0,hu,VJ,hdrop,hc5,b7,l1]
  first | exact⟨_,rfl⟩ | (split<;>exact⟨_,rfl⟩) | (cases ((((f::r:List (List UInt8)).length:Nat):Int) != 1)<;>exact⟨_,rfl⟩)
end Go.Md
namespace Go.Md
open Go.Dn
theorem RX {s:List UInt8} (hs:s.length<=1000000) {a b c d e f:List UInt8} {r:List (List UInt8)} (hW:aA 32 s=a::b::c::d::e::f::r) (hf:cK (a::b::c::d::e::f::r)=true) (hb:b=[98,117,121,101,114]\/b=[115,101,108,108,101,114]) {k:Int} (hk:w64 (aY d bz 0+1)=k) (hk0:(k==0)=true): ∃ dd,aX s=some (dd,false,()):=by
 have hlen:=(bU 32 s).1
 rw[hW] at hlen
 have hL:∃ n:Nat,((((a::b::c::d::e::f::r:List (List UInt8))).length:Nat):Int)=(n:Int)+6/\n=r.length:=⟨_,by simp<;>omega,rfl⟩
 obtain⟨n,hn,hnr⟩:=hL
 have hc0:(decide (0<=(0:Int))&&decide ((0:Int)<(((a::b::c::d::e::f::r:List (List UInt8)).length:Nat):Int)))=true:=aS (by omega) (by omega)
 have hc1:(decide (0<=(1:Int))&&decide ((1:Int)<(((a::b::c::d::e::f::r:List (List UInt8)).length:Nat):Int)))=true:=aS (by omega) (by omega)
 have hc2:(decide (0<=(2:Int))&&decide ((2:Int)<(((a::b::c::d::e::f::r:List (List UInt8)).length:Nat):Int)))=true:=aS (by omega) (by omega)
 have hc3:(decide (0<=(3:Int))&&decide ((3:Int)<(((a::b::c::d::e::f::r:List (List UInt8)).length:Nat):Int)))=true:=aS (by omega) (by omega)
 have hc4:(decide (0<=(4:Int))&&decide ((4:Int)<(((a::b::c::d::e::f::r:List (List UInt8)).length:Nat):Int)))=true:=aS (by omega) (by omega)
 have h6:decide ((((a::b::c::d::e::f::r:List (List UInt8)).length:Nat):Int)<6)=false:=VY (by omega)
 have hct:=cE (W:=(a::b::c::d::e::f::r:List (List UInt8))) (by omega)
 rw[hf] at hct
 have hix:=bh bz d (by decide)
 unfold aX
 rw[bu s 32 hs,hW,VJ]
 simp only[hc0,hc1,hc2,hc3,hc4,h6,b7,VV,Up,Uo,VJ,hct,TG,nS hb,aN,dK,hix,hk]
 cases hby:(b==[115,101,108,108,101,114]) with
 | true=>
  simp only[VW,au,hk0]
  exact⟨_,rfl⟩
 | false=>
  simp only[VW,VV,au,hk0]
  exact⟨_,rfl⟩
theorem MO (k:Int):bp k=some ((false,true,false,false,false,false),())\/bp k=some ((false,true,false,false,true,false),())\/bp k=some ((true,true,true,true,true,false),())\/ bp k=some ((false,false,false,true,false,false),())\/bp k=some ((false,false,false,false,true,false),())\/bp k=some ((false,false,false,false,false,true),()):=by
 unfold bp
 cases (k==1)<;>cases (k==3)<;>cases (k==4)<;>cases (k==5)<;>cases (k==6)<;>cases (k==7)<;>cases (k==8)<;>simp
theorem ur:(bG []).2=10:=rfl
theorem tQ:av []=false:=rfl
theorem xK {s:List UInt8} (hs:s.length<=1000000) {W:List (List UInt8)} (hW:aA 32 s=W) (hf:cK W=true) (hm:SmW W) (h:jV W=true\/aG W=[]):∃ dd,aQ s=some (dd,false,()):=by
 rcases MO (eD W) with hu | hu | hu | hu | hu | hu
 ·rw[Ap hs hW hf hm hu]
  rcases h with h | h
  ·rw[h];exact⟨_,rfl⟩
  ·rw[h]
   cases jV W<;>exact⟨_,rfl⟩
 ·rw[An hs hW hf hm hu]
  rcases h with h | h
  ·rw[h];exact⟨_,rfl⟩
  ·rw[h]
   cases jV W<;>exact⟨_,rfl⟩
 ·rw[Am hs hW hf hm hu]
  rcases h with h | h
  ·rw[h];exact⟨_,rfl⟩
  ·rw[h]
   cases jV W<;>exact⟨_,rfl⟩
 ·rw[Ao hs hW hf hm hu]
  rcases h with h | h
  ·rw[h];exact⟨_,rfl⟩
  ·rw[h]
   cases jV W<;>exact⟨_,rfl⟩
 ·rw[Ar hs hW hf hm hu]
  rcases h with h | h
  ·rw[h];exact⟨_,rfl⟩
  ·rw[h]
   cases jV W<;>exact⟨_,rfl⟩
 ·rw[Aq hs hW hf hm hu]
  rcases h with h | h
  ·rw[h];exact⟨_,rfl⟩
  ·rw[h]
   cases jV W<;>exact⟨_,rfl⟩
theorem D7 (y:List UInt8):∀ l:List (List UInt8),(∀ i,aY y l i= -1)\/∃ j:Nat,j<l.length/\∀ i,aY y l i=i+j
 | []=> .inl fun _=>rfl
 | o::r=>by
  cases h:(y==o) with
  | true=>exact .inr ⟨0,by simp,fun i=>by simp[aY,h]⟩
  | false=>
   rcases D7 y r with h1 | ⟨j,h1,h2⟩
   ·exact .inl fun i=>by simp[aY,h,h1]
   ·exact .inr ⟨j+1,by simp;omega,fun i=>by simp only[aY,h,VV,h2];omega⟩
theorem QG {a b c d e f:List UInt8} {r:List (List UInt8)} (hf:cK (a::b::c::d::e::f::r)=true):eD (a::b::c::d::e::f::r)=aY d bz 1:=by
 have hd:(d==[])=false:=by
  simp only[cK,TX,Tr,TE] at hf
  exact hf.2.2.2.1
 show (bif d==[] then 0 else aY d bz (0+1))=_
 rw[hd];rfl
theorem ve {a b c d e f:List UInt8} {r:List (List UInt8)} (hb:b=[98,117,121,101,114]\/b=[115,101,108,108,101,114]) (hk:¬ eD (a::b::c::d::e::f::r)<1):jV (a::b::c::d::e::f::r)= !(((true&&av a)&&av c)&&av e):=by
 have h1:decide (aY b byW 0<1)=false:=by rcases hb with rfl | rfl<;>rfl
 have h2:decide (eD (a::b::c::d::e::f::r)<1)=false:=VY hk
 show (((((false|| !av a)||(false||decide (aY b byW 0<1)))|| !av c)||(false||decide (eD (a::b::c::d::e::f::r)<1)))|| !av e)=_
 rw[h1,h2]
 cases av a<;>cases av c<;>cases av e<;>rfl
theorem yj {b:List UInt8} (hb:b=[98,117,121,101,114]\/b=[115,101,108,108,101,114]):aY b byW 0=byF b:=by
 rcases hb with rfl | rfl<;>rfl
def bW (s:List UInt8):Prop:=∃ d1 d2 ok,aQ s=some (d1,ok,())/\aX s=some (d2,ok,())/\(ok=true->d1=d2/\Txt d1)
theorem Dj {s:List UInt8} {d:aa} {b:Bool} (h:aQ s=some (d,b,())) (hb:b=false):∃ dd,aQ s=some (dd,false,()):=⟨d,by rw[h,hb]⟩
theorem bW.no {s:List UInt8} (h1:∃ dd,aQ s=some (dd,false,())) (h2:∃ dd,aX s=some (dd,false,())):bW s:=by
 obtain⟨d1,h1⟩:=h1
 obtain⟨d2,h2⟩:=h2
 exact⟨d1,d2,false,h1,h2,fun h=>by cases h⟩
section
variable {s:List UInt8} (hs:s.length<=1000000) {a b c d e f:List UInt8} {r:List (List UInt8)} (hW:aA 32 s=a::b::c::d::e::f::r) (hf:cK (a::b::c::d::e::f::r)=true) (hm:SmW (a::b::c::d::e::f::r))
 (hb:b=[98,117,121,101,114]\/b=[115,101,108,108,101,114]) {k:Int} (hk:w64 (aY d bz 0+1)=k) (hkf:eD (a::b::c::d::e::f::r)=k) (hk1:1<=k)
include hs hW hf hm hb hk hkf hk1
theorem GB (hu:bp k=some ((false,true,false,false,false,false),())) (hu2:cA k=some ((true,false,false,false,false),())):bW s:=by
 have hk0:(k==0)=false:=by
  cases h:(k==0) with
  | false=>rfl
  | true=>have:=eq_of_beq h;omega
 have hO:=Ap hs hW hf hm (by rw[hkf];exact hu)
 rw[ve hb (by rw[hkf];omega),hkf] at hO
 by_cases hr:r.length=0
 ·have hr0:r=[]:=UJ.1 hr
  subst hr0
  have hR:=RU hs hW hf hm hb hk hk0 hu2
  refine⟨_,_,_,hO, ?_,fun _=>⟨rfl, ?_⟩⟩
  ·rw[hR]
   have e1:aY ((a::b::c::d::e::f::[]).tail.headD []) byW 0=byF b:=yj hb
   rw[e1]
   simp only[aG,Vd,UE,UF]
   congr 2
   congr 1
   rw[show ((bG f).2 != 0)= !((bG f).2==0) from rfl]
   generalize ((bG f).2==0)=x_f
   generalize (((true&&av a)&&av c)&&av e)=x_0
   cases x_0<;>cases x_f<;>rfl
  ·show List.length _+List.length _<=maxLen
   rw[bS]
   have h1:=hm f (by simp)
   skip
   simp only[aG,Vd,UE,UL]
   omega
 ·refine bW.no ?_ (Q3 hs hr hW hf hm hb hk hk0 hu2)
  refine Dj hO ?_
  simp only[aG,Vd,UE]
  generalize (((true&&av a)&&av c)&&av e)=x_0
  cases r with
  | nil=>exact absurd rfl hr
  | cons g r=>
   have:((((g::r:List (List UInt8)).length:Nat):Int)==0)=false:=by
    cases h:((((g::r:List (List UInt8)).length:Nat):Int)==0) with
    | false=>rfl
    | true=>have:=eq_of_beq h;simp at this;omega
   rw[this,Tt]
theorem Sy (hu:bp k=some ((false,true,false,false,true,false),())) (hu2:cA k=some ((true,false,true,false,false),())):bW s:=by
 have hk0:(k==0)=false:=by
  cases h:(k==0) with
  | false=>rfl
  | true=>have:=eq_of_beq h;omega
 have hO:=An hs hW hf hm (by rw[hkf];exact hu)
 rw[ve hb (by rw[hkf];omega),hkf] at hO
 by_cases hr:r.length=1
 ·obtain⟨f1,rfl⟩:∃ f1,r=f1::[]:=by
   match r,hr with
   | [f1],_=>exact⟨f1,rfl⟩
  have hR:=RS hs hW hf hm hb hk hk0 hu2
  refine⟨_,_,_,hO, ?_,fun _=>⟨rfl, ?_⟩⟩
  ·rw[hR]
   have e1:aY ((a::b::c::d::e::f::f1::[]).tail.headD []) byW 0=byF b:=yj hb
   rw[e1]
   simp only[aG,Vd,UE,UF]
   congr 2
   congr 1
   rw[show ((bG f).2 != 0)= !((bG f).2==0) from rfl]
   generalize ((bG f).2==0)=x_f
   generalize av f1=x_f1
   generalize (((true&&av a)&&av c)&&av e)=x_0
   cases x_0<;>cases x_f<;>cases x_f1<;>rfl
  ·show List.length _+List.length _<=maxLen
   rw[bS]
   have h1:=hm f (by simp)
   skip
   simp only[aG,Vd,UE,UL]
   omega
 ·refine bW.no ?_ (Q1 hs hr hW hf hm hb hk hk0 hu2)
  refine Dj hO ?_
  simp only[aG,Vd,UE]
  generalize (((true&&av a)&&av c)&&av e)=x_0
  match r,hr with
  | [],_=>simp[ur,tQ]
  | [g0],hr=>exact absurd rfl hr
  | g0::g1::r,_=>
   have:((((g1::r:List (List UInt8)).length:Nat):Int)==0)=false:=by
    cases h:((((g1::r:List (List UInt8)).length:Nat):Int)==0) with
    | false=>rfl
    | true=>have:=eq_of_beq h;simp at this;omega
   simp only[Vd]
   rw[this,Tt]
theorem Sx (hu:bp k=some ((true,true,true,true,true,false),())) (hu2:cA k=some ((true,true,true,true,false),())):bW s:=by
 have hk0:(k==0)=false:=by
  cases h:(k==0) with
  | false=>rfl
  | true=>have:=eq_of_beq h;omega
 have hO:=Am hs hW hf hm (by rw[hkf];exact hu)
 rw[ve hb (by rw[hkf];omega),hkf] at hO
 by_cases hr:r.length=4
 ·obtain⟨f1,f2,f3,f4,rfl⟩:∃ f1 f2 f3 f4,r=f1::f2::f3::f4::[]:=by
   match r,hr with
   | [f1,f2,f3,f4],_=>exact⟨f1,f2,f3,f4,rfl⟩
  have hR:=RR hs hW hf hm hb hk hk0 hu2
  refine⟨_,_,_,hO, ?_,fun _=>⟨rfl, ?_⟩⟩
  ·rw[hR]
   have e1:aY ((a::b::c::d::e::f::f1::f2::f3::f4::[]).tail.headD []) byW 0=byF b:=yj hb
   rw[e1]
   simp only[aG,Vd,UE,UF]
   congr 2
   congr 1
   rw[show ((bG f1).2 != 0)= !((bG f1).2==0) from rfl]
   generalize ((bG f1).2==0)=x_f1
   rw[show ((bG f3).2 != 0)= !((bG f3).2==0) from rfl]
   generalize ((bG f3).2==0)=x_f3
   generalize av f4=x_f4
   generalize (((true&&av a)&&av c)&&av e)=x_0
   cases x_0<;>cases x_f1<;>cases x_f3<;>cases x_f4<;>rfl
  ·show List.length _+List.length _<=maxLen
   rw[bS]
   have h1:=hm f (by simp)
   have h2:=hm f2 (by simp)
   simp only[aG,Vd,UE,UL]
   omega
 ·refine bW.no ?_ (Q0 hs hr hW hf hm hb hk hk0 hu2)
  refine Dj hO ?_
  simp only[aG,Vd,UE]
  generalize (((true&&av a)&&av c)&&av e)=x_0
  match r,hr with
  | [],_=>simp[ur,tQ]
  | [g0],_=>simp[ur,tQ]
  | [g0,g1],_=>simp[ur,tQ]
  | [g0,g1,g2],_=>simp[ur,tQ]
  | [g0,g1,g2,g3],hr=>exact absurd rfl hr
  | g0::g1::g2::g3::g4::r,_=>
   have:((((g4::r:List (List UInt8)).length:Nat):Int)==0)=false:=by
    cases h:((((g4::r:List (List UInt8)).length:Nat):Int)==0) with
    | false=>rfl
    | true=>have:=eq_of_beq h;simp at this;omega
   simp only[Vd]
   rw[this,Tt]
theorem Sz (hu:bp k=some ((false,false,false,true,false,false),())) (hu2:cA k=some ((false,true,false,false,false),())):bW s:=by
 have hk0:(k==0)=false:=by
  cases h:(k==0) with
  | false=>rfl
  | true=>have:=eq_of_beq h;omega
 have hO:=Ao hs hW hf hm (by rw[hkf];exact hu)
 rw[ve hb (by rw[hkf];omega),hkf] at hO
 by_cases hr:r.length=0
 ·have hr0:r=[]:=UJ.1 hr
  subst hr0
  have hR:=RT hs hW hf hm hb hk hk0 hu2
  refine⟨_,_,_,hO, ?_,fun _=>⟨rfl, ?_⟩⟩
  ·rw[hR]
   have e1:aY ((a::b::c::d::e::f::[]).tail.headD []) byW 0=byF b:=yj hb
   rw[e1]
   simp only[aG,Vd,UE,UF]
   congr 2
   congr 1
   rw[show ((bG f).2 != 0)= !((bG f).2==0) from rfl]
   generalize ((bG f).2==0)=x_f
   generalize (((true&&av a)&&av c)&&av e)=x_0
   cases x_0<;>cases x_f<;>rfl
  ·show List.length _+List.length _<=maxLen
   rw[bS]
   have h1:=hm f (by simp)
   skip
   simp only[aG,Vd,UE,UL]
   omega
 ·refine bW.no ?_ (Q2 hs hr hW hf hm hb hk hk0 hu2)
  refine Dj hO ?_
  simp only[aG,Vd,UE]
  generalize (((true&&av a)&&av c)&&av e)=x_0
  cases r with
  | nil=>exact absurd rfl hr
  | cons g r=>
   have:((((g::r:List (List UInt8)).length:Nat):Int)==0)=false:=by
    cases h:((((g::r:List (List UInt8)).length:Nat):Int)==0) with
    | false=>rfl
    | true=>have:=eq_of_beq h;simp at this;omega
   rw[this,Tt]
theorem SA (hu:bp k=some ((false,false,false,false,true,false),())) (hu2:cA k=some ((false,false,true,false,false),())):bW s:=by
 have hk0:(k==0)=false:=by
  cases h:(k==0) with
  | false=>rfl
  | true=>have:=eq_of_beq h;omega
 have hO:=Ar hs hW hf hm (by rw[hkf];exact hu)
 rw[ve hb (by rw[hkf];omega),hkf] at hO
 by_cases hr:r.length=0
 ·have hr0:r=[]:=UJ.1 hr
  subst hr0
  have hR:=RW hs hW hf hm hb hk hk0 hu2
  refine⟨_,_,_,hO, ?_,fun _=>⟨rfl, ?_⟩⟩
  ·rw[hR]
   have e1:aY ((a::b::c::d::e::f::[]).tail.headD []) byW 0=byF b:=yj hb
   rw[e1]
   simp only[aG,Vd,UE,UF]
   congr 2
   congr 1
   generalize av f=x_f
   generalize (((true&&av a)&&av c)&&av e)=x_0
   cases x_0<;>cases x_f<;>rfl
  ·show List.length _+List.length _<=maxLen
   rw[bS]
   have h1:=hm f (by simp)
   skip
   simp only[aG,Vd,UE,UL]
   omega
 ·refine bW.no ?_ (Q5 hs hr hW hf hm hb hk hk0 hu2)
  refine Dj hO ?_
  simp only[aG,Vd,UE]
  generalize (((true&&av a)&&av c)&&av e)=x_0
  cases r with
  | nil=>exact absurd rfl hr
  | cons g r=>
   have:((((g::r:List (List UInt8)).length:Nat):Int)==0)=false:=by
    cases h:((((g::r:List (List UInt8)).length:Nat):Int)==0) with
    | false=>rfl
    | true=>have:=eq_of_beq h;simp at this;omega
   rw[this,Tt]
theorem LA (hu:bp k=some ((false,false,false,false,false,true),())) (hu2:cA k=some ((false,false,false,false,true),())):bW s:=by
 have hk0:(k==0)=false:=by
  cases h:(k==0) with
  | false=>rfl
  | true=>have:=eq_of_beq h;omega
 have hO:=Aq hs hW hf hm (by rw[hkf];exact hu)
 rw[ve hb (by rw[hkf];omega),hkf] at hO
 by_cases hr:r.length=0
 ·have hr0:r=[]:=UJ.1 hr
  subst hr0
  have hR:=RV hs hW hf hm hb hk hk0 hu2
  refine⟨_,_,_,hO, ?_,fun _=>⟨rfl, ?_⟩⟩
  ·rw[hR]
   have e1:aY ((a::b::c::d::e::f::[]).tail.headD []) byW 0=byF b:=yj hb
   rw[e1]
   simp only[aG,Vd,UE,UF]
   congr 2
   congr 1
   generalize av f=x_f
   generalize (((true&&av a)&&av c)&&av e)=x_0
   cases x_0<;>cases x_f<;>rfl
  ·show List.length _+List.length _<=maxLen
   rw[bS]
   have h1:=hm f (by simp)
   skip
   simp only[aG,Vd,UE,UL]
   omega
 ·refine bW.no ?_ (Q4 hs hr hW hf hm hb hk hk0 hu2)
  refine Dj hO ?_
  simp only[aG,Vd,UE]
  generalize (((true&&av a)&&av c)&&av e)=x_0
  cases r with
  | nil=>exact absurd rfl hr
  | cons g r=>
   have:((((g::r:List (List UInt8)).length:Nat):Int)==0)=false:=by
    cases h:((((g::r:List (List UInt8)).length:Nat):Int)==0) with
    | false=>rfl
    | true=>have:=eq_of_beq h;simp at this;omega
   rw[this,Tt]
end
theorem P7 (s:List UInt8) (hs:s.length<=1000000):bW s:=by
 generalize hW:aA 32 s=W
 have hm:SmW W:=fun w hw=>by
  have:=(bU 32 s).2 w (by rw[hW];exact hw)
  omega
 cases hf:cK W with
 | false=>
  refine bW.no ?_ ⟨_,Lu hs hW (.inr (.inl hf))⟩
  unfold aQ
  rw[iV s hs,hW,hf]
  exact⟨_,rfl⟩
 | true=>
  by_cases hl:W.length<6
  ·refine bW.no (xK hs hW hf hm (.inr ?_)) ⟨_,Lu hs hW (.inl hl)⟩
   match W,hl with
   | [],_=>rfl
   | [_],_=>rfl
   | [_,_],_=>rfl
   | [_,_,_],_=>rfl
   | [_,_,_,_],_=>rfl
   | [_,_,_,_,_],_=>rfl
   | _::_::_::_::_::_::_,hl=>exact absurd hl (by simp)
  ·match W,hW,hm,hf,hl with
   | [],_,_,_,hl=>exact absurd (by simp) hl
   | [_],_,_,_,hl=>exact absurd (by simp) hl
   | [_,_],_,_,_,hl=>exact absurd (by simp) hl
   | [_,_,_],_,_,_,hl=>exact absurd (by simp) hl
   | [_,_,_,_],_,_,_,hl=>exact absurd (by simp) hl
   | [_,_,_,_,_],_,_,_,hl=>exact absurd (by simp) hl
   | a::b::c::d::e::f::r,hW,hm,hf,_=>
    by_cases hb:b=[98,117,121,101,114]\/b=[115,101,108,108,101,114]
    ·have hkf:=QG hf
     rcases D7 d bz with h | ⟨j,hj,h⟩
     ·have hk:w64 (aY d bz 0+1)=0:=by rw[h];rfl
      refine bW.no (xK hs hW hf hm (.inl ?_)) (RX hs hW hf hb hk rfl)
      show (((((false|| !av a)||(false||decide (aY b byW 0<1)))|| !av c)||(false||decide (eD (a::b::c::d::e::f::r)<1)))|| !av e)=true
      rw[hkf,h]
      simp
     ·rw[h] at hkf
      have hj:j<11:=hj
      have hk:w64 (aY d bz 0+1)=1+(j:Int):=by rw[h,az (by omega) (by omega)];omega
      have h1:(1:Int)<=1+(j:Int):=by omega
      have hj':j=0\/j=1\/j=2\/j=3\/j=4\/j=5\/j=6\/j=7\/j=8\/j=9\/j=10:=by omega
      rcases hj' with rfl | rfl | rfl | rfl | rfl | rfl | rfl | rfl | rfl | rfl | rfl
      ·exact Sx hs hW hf hm hb hk hkf h1 rfl rfl
      ·exact GB hs hW hf hm hb hk hkf h1 rfl rfl
      ·exact SA hs hW hf hm hb hk hkf h1 rfl rfl
      ·exact Sz hs hW hf hm hb hk hkf h1 rfl rfl
      ·exact LA hs hW hf hm hb hk hkf h1 rfl rfl
      ·exact LA hs hW hf hm hb hk hkf h1 rfl rfl
      ·exact Sy hs hW hf hm hb hk hkf h1 rfl rfl
      ·exact LA hs hW hf hm hb hk hkf h1 rfl rfl
      ·exact GB hs hW hf hm hb hk hkf h1 rfl rfl
      ·exact GB hs hW hf hm hb hk hkf h1 rfl rfl
      ·exact GB hs hW hf hm hb hk hkf h1 rfl rfl
    ·refine bW.no (xK hs hW hf hm (.inl ?_)) ⟨_,Lu hs hW (.inr (.inr ⟨fun h=>hb (.inl (by simpa using h)),fun h=>hb (.inr (by simpa using h))⟩))⟩
     have hb0:(b==[])=false:=by
      simp only[cK,TX,Tr,TE] at hf
      exact hf.2.1
     have hb1:(b==[98,117,121,101,114])=false:=by
      cases h:(b==[98,117,121,101,114]) with
      | false=>rfl
      | true=>exact absurd (.inl (eq_of_beq h)) hb
     have hb2:(b==[115,101,108,108,101,114])=false:=by
      cases h:(b==[115,101,108,108,101,114]) with
      | false=>rfl
      | true=>exact absurd (.inr (eq_of_beq h)) hb
     have hg:aY b byW 0= -1:=by
      simp only[byW,aY,hb0,hb1,hb2,VV]
     show (((((false|| !av a)||(false||decide (aY b byW 0<1)))|| !av c)||(false||decide (eD (a::b::c::d::e::f::r)<1)))|| !av e)=true
     rw[hg]
     simp
end Go.Md
namespace Go.Md
open Go.Dn
noncomputable def oR (s:List UInt8):aa×Bool×Unit:=(aQ s).getD ((0,0,0,0,0,[],(0,0),[],(0,0),0,0),false,())
noncomputable def rR (s:List UInt8):aa×Bool×Unit:=(aX s).getD ((0,0,0,0,0,[],(0,0),[],(0,0),0,0),false,())
theorem OK (s:List UInt8) (hs:s.length<=1000000):aQ s=some ((oR s).1,(oR s).2.1,())/\aX s=some ((rR s).1,(oR s).2.1,())/\((oR s).2.1=true->(rR s).1=(oR s).1/\Txt (oR s).1):=by
 obtain⟨d1,d2,ok,h1,h2,h3⟩:=P7 s hs
 unfold oR rR
 rw[h1,h2]
 exact⟨rfl,rfl,fun h=>⟨(h3 h).1.symm,(h3 h).2⟩⟩
noncomputable def xR (e:Bool):List (List UInt8)->List aa->Int->((List aa)×Int×Int×Unit) ⊕ ((List aa)×Unit)
 | [],acc,_=> .inr (acc,())
 | l::M,acc,n=>bif !(oR l).2.1||(!e&&M.isEmpty) then .inl ([],n,10,()) else xR e M (acc++[(oR l).1]) (n+1)
theorem PW (e:Bool) (L:List (List UInt8)) (hL:L.length<=1000000) (hl:∀ l,l∈L->l.length<=1000000) (f:Nat) (hf:L.length<f): iter f ((L,e,[],L,(L.length:Int),(0:Int),()):l8) pn=some (xR e L [] 1):=by
 refine b9 (Inv:=fun i X=>∃ acc:List aa,X=((L,e,acc,L,(L.length:Int),(i:Int),()):l8)/\acc.length=i/\xR e L [] 1=xR e (L.drop i) acc ((i:Int)+1)) L.length
  (fun r=>r=some (xR e L [] 1)) ?_ ?_ f 0 _ ⟨[],rfl,rfl,by simp⟩ (by omega) (by omega)
 ·rintro i _ again hi ⟨acc,rfl,hacc,hb⟩ ih
  unfold pn
  dsimp only
  have hy:L[i]? =some L[i]:=aT hi
  have hyl:=hl L[i] (UC hi)
  rw[Ub hi] at hb
  generalize L[i]=y at hy hb hyl
  obtain⟨h1,_,_⟩:=OK y hyl
  have hlast:((i:Int)==w64 ((L.length:Int) - 1))=(L.drop (i+1)).isEmpty:=by
   rw[az (by omega) (by omega)]
   by_cases h:i+1=L.length
   ·rw[show (i:Int)=(L.length:Int) - 1 by omega,Ue (by omega)]
    simp
   ·have h2:(L.drop (i+1)).isEmpty=false:=by
     cases hd:L.drop (i+1) with
     | nil=>have:=congrArg List.length hd;simp at this;omega
     | cons _ _=>rfl
    rw[h2]
    cases hh:((i:Int)==(L.length:Int) - 1) with
    | false=>rfl
    | true=>have:=eq_of_beq hh;omega
  rw[aE (by omega),cN,hy,VJ,h1,VJ]
  dsimp only
  rw[hlast]
  simp only[xR] at hb
  have hv:(bif !(oR y).2.1 then some (true,()) else bif !e then some ((L.drop (i+1)).isEmpty,()) else some (false,()))=some ((!(oR y).2.1||(!e&&(L.drop (i+1)).isEmpty)),()):=by
   cases (oR y).2.1<;>cases e<;>rfl
  rw[hv,VJ,az (by omega) (by omega)]
  dsimp only
  cases hc:(!(oR y).2.1||(!e&&(L.drop (i+1)).isEmpty)) with
  | true=>
   rw[hc,VW] at hb
   rw[VW,hb]
  | false=>
   rw[hc,VV] at hb
   rw[VV,aC (mo (by omega) (by omega))]
   exact ih _ ⟨acc++[(oR y).1],rfl,by simp[hacc],by rw[hb];rfl⟩
 ·rintro _ again ⟨acc,rfl,hacc,hb⟩
  unfold pn
  dsimp only
  rw[aK (by omega),hb,Ud]
  rfl
def Aw (e:Bool):List (List UInt8)->List UInt8
 | []=>[]
 | l::M=>l++(bif M.isEmpty then (bif e then [10] else []) else 10::Aw e M)
theorem x6 (e:Bool):∀ s:List UInt8,Aw e (aA 10 s)=s++(bif e then [10] else [])
 | []=>rfl
 | b::r=>by
  have ih:=x6 e r
  have hne:=MM 10 r
  simp only[aA]
  cases hb:(b==10) with
  | true=>
   rw[eq_of_beq hb,VW]
   simp only[Aw]
   have:(aA 10 r).isEmpty=false:=by
    cases h:aA 10 r with
    | nil=>exact absurd h hne
    | cons _ _=>rfl
   rw[this,VV,ih]
   rfl
  | false=>
   rw[VV]
   cases h:aA 10 r with
   | nil=>exact absurd h hne
   | cons l t=>
    rw[h] at ih
    simp only[Aw] at ih ⊢
    rw[T7,ih]
    rfl
theorem xZ (c:UInt8):∀ s:List UInt8,∀ l,l∈aA c s->c∉l
 | [],l,h=>by simp[aA] at h;simp[h]
 | b::r,l,h=>by
  have ih:=xZ c r
  simp only[aA] at h
  cases hb:(b==c) with
  | true=>
   rw[hb,VW] at h
   rcases UX.1 h with rfl | h
   ·simp
   ·exact ih l h
  | false=>
   rw[hb,VV] at h
   have hbc:c≠b:=fun e=>by rw[e] at hb;simp at hb
   split at h
   ·rename_i hd t he
    rw[he] at ih
    rcases UX.1 h with rfl | h
    ·simp[hbc,ih hd (by simp)]
    ·exact ih l (by simp[h])
   ·simp at h
    subst h
    simp[hbc]
theorem zy (c:UInt8):∀ (l t:List UInt8),c∉l->dM c (l++c::t)=(l,t,true)
 | [],t,_=>by simp[dM]
 | b::r,t,h=>by
  have hb:(b==c)=false:=by
   cases e:(b==c) with
   | false=>rfl
   | true=>exact absurd (by simp[eq_of_beq e]) h
  rw[T7]
  simp only[dM,hb,VV,zy c r t (fun hm=>h (by simp[hm]))]
theorem IJ (c:UInt8):∀ l:List UInt8,c∉l->dM c l=(l,[],false)
 | [],_=>rfl
 | b::r,h=>by
  have hb:(b==c)=false:=by
   cases e:(b==c) with
   | false=>rfl
   | true=>exact absurd (by simp[eq_of_beq e]) h
  simp only[dM,hb,VV,IJ c r (fun hm=>h (by simp[hm]))]
theorem K4 (s:List UInt8) (hs:s.length<=1000000):∃ (L:List (List UInt8)) (e:Bool),wW s=some (L,e,())/\Aw e L=s/\(∀ l,l∈L->(10:UInt8)∉l)/\L.length<=s.length+1/\(∀ l,l∈L->l.length<=1000000)/\(e=false->L≠[]->s≠[]/\s.getLast? ≠some 10):=by
 unfold wW
 by_cases h0:s=[]
 ·subst h0
  refine⟨[],true,rfl,rfl, ?_,by simp, ?_, ?_⟩<;>simp
 ·have h0':(s==[])=false:=by
   cases s with
   | nil=>exact absurd rfl h0
   | cons _ _=>rfl
  obtain⟨i,x,rfl⟩:∃ i x,s=i++[x]:=⟨s.dropLast,s.getLast h0,(List.dropLast_concat_getLast h0).symm⟩
  have hl:(i++[x]).length=i.length+1:=by simp
  rw[h0',VV]
  have hsuf:kr (i++[x]) [10]=some ((bif x==10 then i else i++[x]),x==10,()):=by
   unfold kr fV fX
   have e1:w64 ((((i++[x]).length:Nat):Int) - ((([10]:List UInt8).length:Nat):Int))=(i.length:Int):=by
    rw[az (by simp<;>omega) (by simp<;>omega)];simp<;>omega
   simp only[e1]
   rw[aE (by simp<;>omega),aC (by simp<;>omega),VJ]
   dsimp only
   have e2:List.drop (Int.toNat (i.length:Int)) (List.take (Int.toNat (((i++[x]).length:Nat):Int)) (i++[x]))=[x]:=by
    rw[TV,TV,Vj (Vu _),Uc]
   have e3:List.drop 0 (List.take (Int.toNat (i.length:Int)) (i++[x]))=i:=by
    rw[TV,Vh];rfl
   rw[e2,show ([x]==[10])=(x==10) by simp]
   cases hx:(x==10) with
   | false=>rfl
   | true=>
    rw[TG,VV,aC (by simp<;>omega),e3]
    rfl
  rw[hsuf,VJ]
  dsimp only
  cases hx:(x==10) with
  | true=>
   rw[VW,bu i 10 (by omega),VJ]
   obtain⟨g1,g2⟩:=bU 10 i
   refine⟨aA 10 i,true,rfl, ?_,xZ 10 i,by omega,fun l hl=>by have:=g2 l hl;omega,fun h=>by cases h⟩
   rw[x6,eq_of_beq hx]
   rfl
  | false=>
   rw[VV,bu _ 10 hs,VJ]
   obtain⟨g1,g2⟩:=bU 10 (i++[x])
   refine⟨aA 10 (i++[x]),false,rfl, ?_,xZ 10 _,g1,fun l hl=>by have:=g2 l hl;omega,fun _ _=>⟨h0, ?_⟩⟩
   ·rw[x6];simp
   ·rw[List.getLast?_append]
    simp only[List.getLast?_singleton,Option.some_or,ne_eq,Option.some.injEq]
    intro e
    rw[e] at hx;cases hx
end Go.Md
