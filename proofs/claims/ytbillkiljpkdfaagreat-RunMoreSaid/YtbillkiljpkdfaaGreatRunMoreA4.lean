/- Part of a proof about the given program: the abstract machine, the printed functions, the plain laws. -/
import Derived.Test.YtbillkiljpkdfaaGreatRunMoreA3
import Derived.ChangeSlices
import Derived.SizedLaws
import Derived.DataElems
import Derived.Laws.Entries
set_option linter.all false
set_option maxRecDepth 100000
set_option maxHeartbeats 4000000
namespace Go.AM.Seat
open Go Go.AM Go.Proofs
def lD (a:Arr×LI×Int×Int):Option (Int):=match a with
  |(a_,l,n,x)=>
   if (decide (x<(List.length l:Int))) then
    lget l x>>=λd=>
    lD (a_,l,(w64 (n*d)),(w64 (x+1)))
   else
    some n
 partial_fixpoint
def qB (a_:Arr):Option (Int):=
 lfrom a_.shape 1>>=λl=>
 (
  lD (a_,l,1,0)
 : Option (Int))>>=λn1=>
 some n1
def mF (a:LI×Bool×Int):Option (Except (Int×Int) (Bool)):=match a with
  |(shape,none_,x)=>
   if (decide (x<(List.length shape:Int))) then
    (
     lget shape x>>=λd=>
     if (decide (d<0)) then
      some (.error (0,1))
     else
      if none_ then
       some (.ok true)
      else
       some (.ok (d==0))
    : Option (Except (Int×Int) (Bool)))>>=λres=>match res with
    |.error r=>some (.error r)
    |.ok none_1=>
     mF (shape,none_1,(w64 (x+1)))
   else
    some (.ok none_)
 partial_fixpoint
def mG (a:LI×Int×Int):Option (Except (Int×Int) (Int)):=match a with
  |(shape,n,x1)=>
   if (decide (x1<(List.length shape:Int))) then
    lget shape x1>>=λd1=>
    idiv .i64 16384 n>>=λq=>
    if (decide (d1>q)) then
     some (.error (0,12))
    else
     mG (shape,(w64 (n*d1)),(w64 (x1+1)))
   else
    some (.ok n)
 partial_fixpoint
def jU (shape:LI):Option (Int×Int):=
 if (decide ((List.length shape:Int)>8)) then
  some (0,6)
 else
  (
   mF (shape,false,0)
  : Option (Except (Int×Int) (Bool)))>>=λres=>match res with
  |.error r=>some r
  |.ok none_2=>
   if none_2 then
    some (0,0)
   else
    (
     mG (shape,1,0)
    : Option (Except (Int×Int) (Int)))>>=λres=>match res with
    |.error r=>some r
    |.ok n1=>
     some (n1,0)
def nB (a:Arr×Arr×Int):Option (Except (Arr×Int) (Unit)):=match a with
  |(l,a_,x)=>
   if (decide (x<(List.length l.cells:Int))) then
    lget l.cells x>>=λy=>
    if (y.kind != 0) then
     some (.error ((Arr.mk [] []),5))
    else
     if (decide (y.n<0)) then
      some (.error ((Arr.mk [] []),8))
     else
      lget a_.shape 0>>=λy1=>
      if (decide (y.n>=y1)) then
       some (.error ((Arr.mk [] []),8))
      else
       nB (l,a_,(w64 (x+1)))
   else
    some (.ok ())
 partial_fixpoint
def kN (a:Arr×Arr×LI×Int×Int×(List aA)):Option (List aA):=match a with
  |(l,a_,l3,k,x2,out1)=>
   if (decide (x2<(List.length l.cells:Int))) then
    lget l.cells x2>>=λy2=>
    Af0 a_.cells (w64 (y2.n*k)) (w64 ((w64 (y2.n+1))*k))>>=λl4=>
    lapp out1 l4>>=λl5=>
    kN (l,a_,l3,k,(w64 (x2+1)),l5)
   else
    some out1
 partial_fixpoint
def vH (l:Arr) (a_:Arr):Option (Arr×Int):=
 if ((List.length a_.shape:Int)==0) then
  some ((Arr.mk [] []),6)
 else
  if (decide ((w64 ((w64 ((List.length l.shape:Int)+(List.length a_.shape:Int)))-1))>8)) then
   some ((Arr.mk [] []),6)
  else
   (
    nB (l,a_,0)
   : Option (Except (Arr×Int) (Unit)))>>=λres=>match res with
   |.error r=>some r
   |.ok _=>
    lapp ([]:LI) l.shape>>=λl1=>
    lfrom a_.shape 1>>=λl2=>
    lapp l1 l2>>=λl3=>
    jU l3>>=λ(x1,e)=>
    if (e != 0) then
     some ((Arr.mk [] []),e)
    else
     qB a_>>=λk=>
     (
      kN (l,a_,l3,k,0,[])
     : Option (List aA))>>=λout11=>
     some ((Arr.mk l3 out11),0)
def gU (a_:Arr):Option (Arr):=
 (
  if ((List.length a_.shape:Int)==0) then
   some [1]
  else
   some a_.shape
 : Option LI)>>=λx0=>
 some (Arr.mk x0 a_.cells)
def lE (a:Arr×Int×Int):Option (Except (LI×Int) (Unit)):=match a with
  |(m,n,x)=>
   if (decide (x<(List.length m.cells:Int))) then
    lget m.cells x>>=λy=>
    if (y.kind != 0) then
     some (.error ([],5))
    else
     if (decide (y.n<0)) then
      some (.error ([],5))
     else
      lE (m,n,(w64 (x+1)))
   else
    some (.ok ())
 partial_fixpoint
def lF (a:Arr×Int×Int×Int×LI):Option (Except (LI×Int) LI):=match a with
  |(m,n,all,x1,l1)=>
   if (decide (x1<((Int.toNat n):Int))) then
    lget m.cells 0>>=λy1=>
    (
     if ((List.length m.shape:Int)==1) then
      lget m.cells x1>>=λy2=>
      some (y2.kind,y2.n,y2.box)
     else
      some (y1.kind,y1.n,y1.box)
    : Option (Int×Int×(List Arr)))>>=λ(c0,c1,c2)=>
    if (decide (c1>(w64 (16384-all)))) then
     some (.error ([],12))
    else
     aidx x1 (Int.toNat n)>>=λj=>
     aset l1 j c1>>=λl2=>
     aidx x1 (Int.toNat n)>>=λj1=>
     pQ l2 j1>>=λy3=>
     lF (m,n,(w64 (all+y3)),(w64 (x1+1)),l2)
   else
    some (.ok l1)
 partial_fixpoint
def lG (a:Arr×Int×Int×Int×LI):Option (Except (LI×Int) LI):=match a with
  |(m,n,all1,x2,l6)=>
   if (decide (x2<((Int.toNat n):Int))) then
    lget m.cells 0>>=λy4=>
    (
     if ((List.length m.shape:Int)==1) then
      lget m.cells x2>>=λy5=>
      some (y5.kind,y5.n,y5.box)
     else
      some (y4.kind,y4.n,y4.box)
    : Option (Int×Int×(List Arr)))>>=λ(c01,c11,c21)=>
    if (decide (c11>(w64 (16384-all1)))) then
     some (.error ([],12))
    else
     aidx x2 (Int.toNat n)>>=λj2=>
     aset l6 j2 c11>>=λl7=>
     aidx x2 (Int.toNat n)>>=λj3=>
     pQ l7 j3>>=λy6=>
     lG (m,n,(w64 (all1+y6)),(w64 (x2+1)),l7)
   else
    some (.ok l6)
 partial_fixpoint
def wM (m:Arr) (n:Int):Option (LI×Int):=
 if (decide ((List.length m.shape:Int)>1)) then
  some ([],6)
 else
  (
   lE (m,n,0)
  : Option (Except (LI×Int) (Unit)))>>=λres=>match res with
  |.error r=>some r
  |.ok _=>
   if ((List.length m.shape:Int)==1) then
    if ((List.length m.cells:Int) != n) then
     some ([],7)
    else
     mkarr n 0>>=λl=>
     (
      lF (m,n,0,0,l)
     : Option (Except (LI×Int) LI))>>=λres=>match res with
     |.error r=>some r
     |.ok l3=>
      afrz (Int.toNat n) l3>>=λl4=>
      some (l4,0)
   else
    mkarr n 0>>=λl5=>
    (
     lG (m,n,0,0,l5)
    : Option (Except (LI×Int) LI))>>=λres=>match res with
    |.error r=>some r
    |.ok l8=>
     afrz (Int.toNat n) l8>>=λl9=>
     some (l9,0)
def hZ (a:Arr×Arr×Int×LI×LI×Int×LI):Option LI:=match a with
  |(m,x,axis,l,l1,x1,c0)=>
   if (decide (x1<(List.length l:Int))) then
    lget l x1>>=λk=>
    aidx axis (List.length l1)>>=λj1=>
    pQ c0 j1>>=λy1=>
    aidx axis (List.length l1)>>=λj2=>
    aset c0 j2 (w64 (y1+k))>>=λc=>
    hZ (m,x,axis,l,l1,(w64 (x1+1)),c)
   else
    some c0
 partial_fixpoint
def iA (a:Arr×Arr×LI×LI×LI×Int×Int):Option (Int):=match a with
  |(m,x,l,l3,l4,size,x3)=>
   if (decide (x3<(List.length l4:Int))) then
    lget l4 x3>>=λd=>
    iA (m,x,l,l3,l4,(w64 (size*d)),(w64 (x3+1)))
   else
    some size
 partial_fixpoint
def iC (a:Arr×Arr×LI×LI×Int×Int×Int×Int×Int×(List aA)):Option (List aA):=match a with
  |(m,x,l,l3,size1,at_,x4,k1,x5,out12)=>
   if (decide (x5<k1)) then
    Af0 x.cells (w64 (at_+(w64 (x4*size1)))) (w64 (at_+(w64 ((w64 (x4+1))*size1))))>>=λl5=>
    lapp out12 l5>>=λl6=>
    iC (m,x,l,l3,size1,at_,x4,k1,(w64 (x5+1)),l6)
   else
    some out12
 partial_fixpoint
def iB (a:Arr×Arr×LI×LI×Int×Int×Int×(List aA)):Option (List aA):=match a with
  |(m,x,l,l3,size1,at_,x4,out11)=>
   if (decide (x4<(List.length l:Int))) then
    lget l x4>>=λk1=>
    (
     iC (m,x,l,l3,size1,at_,x4,k1,0,out11)
    : Option (List aA))>>=λout13=>
    iB (m,x,l,l3,size1,at_,(w64 (x4+1)),out13)
   else
    some out11
 partial_fixpoint
def p_pick_repeated_l2 (a:Arr×Arr×LI×LI×Int×Int×(List aA)):Option (List aA):=match a with
  |(m,x,l,l3,size1,at_,out1)=>
   if (decide (at_<(List.length x.cells:Int))) then
    (
     iB (m,x,l,l3,size1,at_,0,out1)
    : Option (List aA))>>=λout14=>
    p_pick_repeated_l2 (m,x,l,l3,size1,(w64 (at_+(w64 ((List.length l:Int)*size1)))),out14)
   else
    some out1
 partial_fixpoint
def qR (m:Arr) (a_:Arr) (last:Bool):Option (Arr×Int):=
 gU a_>>=λx=>
 (
  if last then
   some (w64 ((List.length x.shape:Int)-1))
  else
   some 0
 : Option (Int))>>=λaxis=>
 lget x.shape axis>>=λy=>
 wM m y>>=λ(l,e)=>
 if (e != 0) then
  some ((Arr.mk [] []),e)
 else
  lapp ([]:LI) x.shape>>=λl1=>
  aidx axis (List.length l1)>>=λj=>
  aset l1 j 0>>=λl2=>
  (
   hZ (m,x,axis,l,l1,0,l2)
  : Option LI)>>=λc01=>
  afrz (List.length l1) c01>>=λl3=>
  jU l3>>=λ(x2,e1)=>
  if (e1 != 0) then
   some ((Arr.mk [] []),e1)
  else
   lfrom x.shape (w64 (axis+1))>>=λl4=>
   (
    iA (m,x,l,l3,l4,1,0)
   : Option (Int))>>=λsize1=>
   (
    p_pick_repeated_l2 (m,x,l,l3,size1,0,[])
   : Option (List aA))>>=λout15=>
   some ((Arr.mk l3 out15),0)
def tS (a_:Arr):Option (Int×Int):=
 if (decide ((List.length a_.shape:Int)>0)) then
  some (0,6)
 else
  lget a_.cells 0>>=λy=>
  if (y.kind != 0) then
   some (0,5)
  else
   lget a_.cells 0>>=λy1=>
   some (y1.n,0)
def kF (a_:Arr) (from_:Int) (n:Int):Option (Arr):=
 qB a_>>=λk=>
 lfrom a_.shape 1>>=λl=>
 lapp [n] l>>=λl1=>
 mkarr (w64 (n*k)) (aA.mk 0 0 [])>>=λl2=>
 Af0 a_.cells (w64 (from_*k)) (w64 ((w64 (from_+n))*k))>>=λl3=>
 Ba4 (Int.toNat (w64 (n*k))) l2 l3>>=λl4=>
 afrz (Int.toNat (w64 (n*k))) l4>>=λcells=>
 some (Arr.mk l1 cells)
def tQ (a_:Arr):Option (aA×Int):=
 if ((List.length a_.cells:Int)==0) then
  some ((aA.mk 0 0 []),0)
 else
  lget a_.cells 0>>=λy=>
  if (y.kind==0) then
   some ((aA.mk 0 0 []),0)
  else
   lget a_.cells 0>>=λy1=>
   if (y1.kind==1) then
    some ((aA.mk 1 32 []),0)
   else
    some ((aA.mk 0 0 []),5)
def nE (a:Int×Arr×Int×LI×aA×Int×Int×(List aA)):Option (List aA):=match a with
  |(n,x,have_,shape,x4,x5,x6,more1)=>
   if (decide (x6<((Int.toNat (w64 ((w64 ((if n<(w64 (0-n)) then (w64 (0-n)) else n)-have_))*x5))):Int))) then
    aidx x6 (Int.toNat (w64 ((w64 ((if n<(w64 (0-n)) then (w64 (0-n)) else n)-have_))*x5)))>>=λj=>
    aset more1 j x4>>=λmore2=>
    nE (n,x,have_,shape,x4,x5,(w64 (x6+1)),more2)
   else
    some more1
 partial_fixpoint
def yO (n:Int) (a_:Arr):Option (Arr×Int):=
 gU a_>>=λx=>
 if (decide (n>16384)) then
  some ((Arr.mk [] []),12)
 else
  if (decide (n<(-16384))) then
   some ((Arr.mk [] []),12)
  else
   lget x.shape 0>>=λhave_=>
   lfrom x.shape 1>>=λl=>
   lapp [(if n<(w64 (0-n)) then (w64 (0-n)) else n)] l>>=λshape=>
   jU shape>>=λ(x1,e)=>
   if (e != 0) then
    some ((Arr.mk [] []),e)
   else
    if (decide ((if n<(w64 (0-n)) then (w64 (0-n)) else n)<=have_)) then
     if (decide (n<0)) then
      kF x (w64 (have_-(if n<(w64 (0-n)) then (w64 (0-n)) else n))) (if n<(w64 (0-n)) then (w64 (0-n)) else n)>>=λx2=>
      some (x2,0)
     else
      kF x 0 (if n<(w64 (0-n)) then (w64 (0-n)) else n)>>=λx3=>
      some (x3,0)
    else
     tQ x>>=λ(x4,e1)=>
     if (e1 != 0) then
      some ((Arr.mk [] []),e1)
     else
      qB x>>=λx5=>
      mkarr (w64 ((w64 ((if n<(w64 (0-n)) then (w64 (0-n)) else n)-have_))*x5)) (aA.mk 0 0 [])>>=λmore=>
      (
       nE (n,x,have_,shape,x4,x5,0,more)
      : Option (List aA))>>=λmore3=>
      if (decide (n<0)) then
       afrz (Int.toNat (w64 ((w64 ((if n<(w64 (0-n)) then (w64 (0-n)) else n)-have_))*x5))) more3>>=λl1=>
       lapp l1 x.cells>>=λl2=>
       some ((Arr.mk shape l2),0)
      else
       afrz (Int.toNat (w64 ((w64 ((if n<(w64 (0-n)) then (w64 (0-n)) else n)-have_))*x5))) more3>>=λmore4=>
       lapp ([]:List aA) x.cells>>=λl3=>
       lapp l3 more4>>=λl4=>
       some ((Arr.mk shape l4),0)
def yM (n:Int) (a_:Arr):Option (Arr):=
 gU a_>>=λx=>
 lget x.shape 0>>=λhave_=>
 if (decide (n>=have_)) then
  kF x 0 0>>=λx1=>
  some x1
 else
  if (decide (n<=(w64 (0-have_)))) then
   kF x 0 0>>=λx2=>
   some x2
  else
   if (decide (n<0)) then
    kF x 0 (w64 (have_+n))>>=λx3=>
    some x3
   else
    kF x n (w64 (have_-n))>>=λx4=>
    some x4
def jE (a:Int×Arr×Int×LI×Int×Int):Option (Int):=match a with
  |(n,a_,axis,l,size,x)=>
   if (decide (x<(List.length l:Int))) then
    lget l x>>=λd=>
    jE (n,a_,axis,l,(w64 (size*d)),(w64 (x+1)))
   else
    some size
 partial_fixpoint
def jF (a:Arr×Int×Int×Int×Int×(List aA)):Option (List aA):=match a with
  |(a_,size1,d1,k1,at_,out1)=>
   if (decide (at_<(List.length a_.cells:Int))) then
    Af0 a_.cells at_ (w64 (at_+(w64 (d1*size1))))>>=λblock=>
    lfrom block (w64 (k1*size1))>>=λl1=>
    lapp out1 l1>>=λl2=>
    lto block (w64 (k1*size1))>>=λl3=>
    lapp l2 l3>>=λl4=>
    jF (a_,size1,d1,k1,(w64 (at_+(w64 (d1*size1)))),l4)
   else
    some out1
 partial_fixpoint
def p_pick_rotated (n:Int) (a_:Arr) (axis:Int):Option (Arr):=
 if ((List.length a_.cells:Int)==0) then
  some a_
 else
  if ((List.length a_.shape:Int)==0) then
   some a_
  else
   lfrom a_.shape (w64 (axis+1))>>=λl=>
   (
    jE (n,a_,axis,l,1,0)
   : Option (Int))>>=λsize1=>
   lget a_.shape axis>>=λd1=>
   irem n d1>>=λk=>
   (
    if (decide (k<0)) then
     some (w64 (k+d1))
    else
     some k
   : Option (Int))>>=λk1=>
   (
    jF (a_,size1,d1,k1,0,[])
   : Option (List aA))>>=λout11=>
   some (Arr.mk a_.shape out11)
def pO (op_:Int):Option (Bool):=
 if (decide (op_>=21)) then
  some (decide (op_<=32))
 else
  some false
def iX (a:LI×LI×Int):Option (Except (LI×Int) (Unit)):=match a with
  |(a_,b,x)=>
   if (decide (x<(List.length a_:Int))) then
    lget a_ x>>=λy=>
    lget b x>>=λy1=>
    if (y != y1) then
     some (.error ([],7))
    else
     iX (a_,b,(w64 (x+1)))
   else
    some (.ok ())
 partial_fixpoint
def rS (a_:LI) (b:LI):Option (LI×Int):=
 if ((List.length a_:Int)==0) then
  lapp [] b>>=λl=>
  some (l,0)
 else
  if ((List.length b:Int)==0) then
   lapp [] a_>>=λl1=>
   some (l1,0)
  else
   if ((List.length a_:Int) != (List.length b:Int)) then
    some ([],6)
   else
    (
     iX (a_,b,0)
    : Option (Except (LI×Int) (Unit)))>>=λres=>match res with
    |.error r=>some r
    |.ok _=>
     lapp [] a_>>=λl2=>
     some (l2,0)
def mV (b:Bool):Option (Int):=
 if b then
  some 1
 else
  some 0
def Aa1 (a_:Int) (b:Int):Option (Int×Int):=
 if (decide (b<0)) then
  if (decide (a_>(w64 (9223372036854775807+b)))) then
   some (0,9)
  else
   if (decide (b>0)) then
    if (decide (a_<(w64 ((-9223372036854775808)+b)))) then
     some (0,9)
    else
     some ((w64 (a_-b)),0)
   else
    some ((w64 (a_-b)),0)
 else
  if (decide (b>0)) then
   if (decide (a_<(w64 ((-9223372036854775808)+b)))) then
    some (0,9)
   else
    some ((w64 (a_-b)),0)
  else
   some ((w64 (a_-b)),0)
def Ad9 (a_:Int) (b:Int):Option (Int×Int):=
 if (decide (b>0)) then
  if (decide (a_>(w64 (9223372036854775807-b)))) then
   some (0,9)
  else
   if (decide (b<0)) then
    if (decide (a_<(w64 ((-9223372036854775808)-b)))) then
     some (0,9)
    else
     some ((w64 (a_+b)),0)
   else
    some ((w64 (a_+b)),0)
 else
  if (decide (b<0)) then
   if (decide (a_<(w64 ((-9223372036854775808)-b)))) then
    some (0,9)
   else
    some ((w64 (a_+b)),0)
  else
   some ((w64 (a_+b)),0)
def xQ (a_:Int):Option (Int×Bool):=
 if (decide (a_<0)) then
  some ((IntKind.u64.wrap (0-(IntKind.u64.wrap a_))),true)
 else
  some ((IntKind.u64.wrap a_),false)
def sR (n:Int) (below:Bool):Option (Int×Int):=
 (
  if below then
   if (decide (n<=9223372036854775808)) then
    some (.error ((w64 ((w64 (0-(w64 (IntKind.u64.wrap (n-1)))))-1)),0))
   else
    if (!below) then
     if (decide (n<=9223372036854775807)) then
      some (.error ((w64 n),0))
     else
      some (.ok ())
    else
     some (.ok ())
  else
   if (!below) then
    if (decide (n<=9223372036854775807)) then
     some (.error ((w64 n),0))
    else
     some (.ok ())
   else
    some (.ok ())
 : Option (Except (Int×Int) (Unit)))>>=λres=>match res with
 |.error r=>some r
 |.ok _=>
  some (0,9)
def oL (a:LI×Int×Bool×Bool×Int):Option (Except (Int×Int) (Int×Bool×Bool)):=match a with
  |(l,n,below,over,x)=>
   if (decide (x<(List.length l:Int))) then
    (
     lget l x>>=λy=>
     xQ y>>=λ(m,neg)=>
     if (m==0) then
      some (.error (0,0))
     else
      if over then
       some (.ok (n,(!(below==neg)),true))
      else
       idiv .u64 9223372036854775808 m>>=λq=>
       if (decide (n>q)) then
        some (.ok (n,(!(below==neg)),true))
       else
        some (.ok ((IntKind.u64.wrap (n*m)),(!(below==neg)),over))
    : Option (Except (Int×Int) (Int×Bool×Bool)))>>=λres=>match res with
    |.error r=>some (.error r)
    |.ok (n1,below1,over1)=>
     oL (l,n1,below1,over1,(w64 (x+1)))
   else
    some (.ok (n,below,over))
 partial_fixpoint
def sA (l:LI):Option (Int×Int):=
 (
  oL (l,1,false,false,0)
 : Option (Except (Int×Int) (Int×Bool×Bool)))>>=λres=>match res with
 |.error r=>some r
 |.ok (n2,below2,over2)=>
  if over2 then
   some (0,9)
  else
   sR n2 below2>>=λ(x1,x2)=>
   some (x1,x2)
def AdA (a_:Int) (b:Int):Option (Int×Int):=
 sA [a_,b]>>=λ(x,x1)=>
 some (x,x1)
def AdB (a_:Int) (b:Int):Option (Int):=
 if (a_==0) then
  some b
 else
  if (a_==(-1)) then
   some 0
  else
   irem b a_>>=λr_=>
   if (r_ != 0) then
    (
     if (!((decide (r_<0))==(decide (a_<0)))) then
      some (w64 (r_+a_))
     else
      some r_
    : Option (Int))>>=λr_1=>
    some r_1
   else
    some r_
def nW (op_:Int) (a_:Int) (b:Int):Option (Int×Int):=
 if (op_==21) then
  Ad9 a_ b>>=λ(x,x1)=>
  some (x,x1)
 else
  if (op_==22) then
   Aa1 a_ b>>=λ(x2,x3)=>
   some (x2,x3)
  else
   if (op_==23) then
    AdA a_ b>>=λ(x4,x5)=>
    some (x4,x5)
   else
    if (op_==24) then
     some ((if b<a_ then b else a_),0)
    else
     if (op_==25) then
      some ((if a_<b then b else a_),0)
     else
      AdB a_ b>>=λx6=>
      some (x6,0)
def oH (op_:Int) (a_:aA) (b:aA):Option (aA×Int):=
 if (op_==27) then
  pO op_>>=λx=>
  if (!x) then
   some ((aA.mk 0 0 []),1)
  else
   if (a_.kind==2) then
    some ((aA.mk 0 0 []),5)
   else
    if (b.kind==2) then
     some ((aA.mk 0 0 []),5)
    else
     if (a_.kind != b.kind) then
      mV (op_==28)>>=λx1=>
      some ((aA.mk 0 x1 []),0)
     else
      if (decide (op_>=27)) then
       rH op_ a_.n b.n>>=λx2=>
       some ((aA.mk 0 x2 []),0)
      else
       nW op_ a_.n b.n>>=λ(n,e)=>
       some ((aA.mk 0 n []),e)
 else
  (
   pO op_>>=λx3=>
   if (!x3) then
    some (.error ((aA.mk 0 0 []),1))
   else
    if (op_==28) then
     if (a_.kind==2) then
      some (.error ((aA.mk 0 0 []),5))
     else
      if (b.kind==2) then
       some (.error ((aA.mk 0 0 []),5))
      else
       if (op_==28) then
        if (a_.kind != b.kind) then
         mV (op_==28)>>=λx4=>
         some (.error ((aA.mk 0 x4 []),0))
        else
         if (!(op_==28)) then
          if (a_.kind != 0) then
           some (.error ((aA.mk 0 0 []),5))
          else
           if (b.kind != 0) then
            some (.error ((aA.mk 0 0 []),5))
           else
            if (decide (op_>=27)) then
             rH op_ a_.n b.n>>=λx5=>
             some (.error ((aA.mk 0 x5 []),0))
            else
             some (.ok ())
         else
          if (decide (op_>=27)) then
           rH op_ a_.n b.n>>=λx6=>
           some (.error ((aA.mk 0 x6 []),0))
          else
           some (.ok ())
       else
        if (!(op_==28)) then
         if (a_.kind != 0) then
          some (.error ((aA.mk 0 0 []),5))
         else
          if (b.kind != 0) then
           some (.error ((aA.mk 0 0 []),5))
          else
           if (decide (op_>=27)) then
            rH op_ a_.n b.n>>=λx7=>
            some (.error ((aA.mk 0 x7 []),0))
           else
            some (.ok ())
        else
         if (decide (op_>=27)) then
          rH op_ a_.n b.n>>=λx8=>
          some (.error ((aA.mk 0 x8 []),0))
         else
          some (.ok ())
    else
     if (op_==28) then
      if (a_.kind != b.kind) then
       mV (op_==28)>>=λx9=>
       some (.error ((aA.mk 0 x9 []),0))
      else
       if (!(op_==28)) then
        if (a_.kind != 0) then
         some (.error ((aA.mk 0 0 []),5))
        else
         if (b.kind != 0) then
          some (.error ((aA.mk 0 0 []),5))
         else
          if (decide (op_>=27)) then
           rH op_ a_.n b.n>>=λx10=>
           some (.error ((aA.mk 0 x10 []),0))
          else
           some (.ok ())
       else
        if (decide (op_>=27)) then
         rH op_ a_.n b.n>>=λx11=>
         some (.error ((aA.mk 0 x11 []),0))
        else
         some (.ok ())
     else
      if (!(op_==28)) then
       if (a_.kind != 0) then
        some (.error ((aA.mk 0 0 []),5))
       else
        if (b.kind != 0) then
         some (.error ((aA.mk 0 0 []),5))
        else
         if (decide (op_>=27)) then
          rH op_ a_.n b.n>>=λx12=>
          some (.error ((aA.mk 0 x12 []),0))
         else
          some (.ok ())
      else
       if (decide (op_>=27)) then
        rH op_ a_.n b.n>>=λx13=>
        some (.error ((aA.mk 0 x13 []),0))
       else
        some (.ok ())
  : Option (Except (aA×Int) (Unit)))>>=λres=>match res with
  |.error r=>some r
  |.ok _=>
   nW op_ a_.n b.n>>=λ(n1,e1)=>
   some ((aA.mk 0 n1 []),e1)
def vI (a:LI×Bool×Int):Option (Except (Int×Int) (Bool)):=match a with
  |(shape,none_,i)=>
   if (decide (i<(List.length shape:Int))) then
    (
     lget shape i>>=λy=>
     if (decide (y<0)) then
      some (.error (0,1))
     else
      lget shape i>>=λy1=>
      if (y1==0) then
       some (.ok true)
      else
       some (.ok none_)
    : Option (Except (Int×Int) (Bool)))>>=λres=>match res with
    |.error r=>some (.error r)
    |.ok none_1=>
     vI (shape,none_1,(w64 (i+1)))
   else
    some (.ok none_)
 partial_fixpoint
def vJ (a:LI×Int×Int):Option (Except (Int×Int) (Int)):=match a with
  |(shape,n,i1)=>
   if (decide (i1<(List.length shape:Int))) then
    lget shape i1>>=λy2=>
    if (decide (y2>16384)) then
     some (.error (0,12))
    else
     lget shape i1>>=λy3=>
     if (decide ((w64 (n*y3))>16384)) then
      some (.error (0,12))
     else
      vJ (shape,(w64 (n*y3)),(w64 (i1+1)))
   else
    some (.ok n)
 partial_fixpoint
def AgG (shape:LI):Option (Int×Int):=
 if (decide ((List.length shape:Int)>8)) then
  some (0,6)
 else
  (
   vI (shape,false,0)
  : Option (Except (Int×Int) (Bool)))>>=λres=>match res with
  |.error r=>some r
  |.ok none_2=>
   if none_2 then
    some (0,0)
   else
    (
     vJ (shape,1,0)
    : Option (Except (Int×Int) (Int)))>>=λres=>match res with
    |.error r=>some r
    |.ok n1=>
     some (n1,0)
def bU (deep:Int) (nodes:Int):Option (Bool×Int):=
 if (decide ((w64 (nodes+1))<=2048)) then
  some ((decide (deep<=24)),(w64 (nodes+1)))
 else
  some (false,(w64 (nodes+1)))
def bM (n:Node) (kids:Int) (op_:Bool) (name:Bool) (lit:Bool):Option (Bool):=
 if ((List.length n.kids:Int)==kids) then
  if op_ then
   if name then
    if lit then
     some true
    else
     if ((List.length n.lit.shape:Int)==0) then
      some ((List.length n.lit.cells:Int)==0)
     else
      some false
   else
    if (n.name==[]) then
     if lit then
      some true
     else
      if ((List.length n.lit.shape:Int)==0) then
       some ((List.length n.lit.cells:Int)==0)
      else
       some false
    else
     some false
  else
   if (n.op_==0) then
    if name then
     if lit then
      some true
     else
      if ((List.length n.lit.shape:Int)==0) then
       some ((List.length n.lit.cells:Int)==0)
      else
       some false
    else
     if (n.name==[]) then
      if lit then
       some true
      else
       if ((List.length n.lit.shape:Int)==0) then
        some ((List.length n.lit.cells:Int)==0)
       else
        some false
     else
      some false
   else
    some false
 else
  some false
def uQ (n:Int):Option (Bool):=
 if (decide (n>=0)) then
  if (decide (n<=1114111)) then
   if (decide (n<55296)) then
    some true
   else
    some (decide (n>57343))
  else
   some false
 else
  some false
def iW (a:Arr×Int×Int):Option (Except (Int) (Unit)):=match a with
  |(a_,deep,x)=>
   if (decide (x<(List.length a_.shape:Int))) then
    lget a_.shape x>>=λd=>
    if (decide (d>16384)) then
     some (.error 12)
    else
     iW (a_,deep,(w64 (x+1)))
   else
    some (.ok ())
 partial_fixpoint
mutual
def gR (a:Arr×Int×Int):Option (Except (Int) (Unit)):=match a with
  |(a_,deep,x1)=>
   if (decide (x1<(List.length a_.cells:Int))) then
    (
     lget a_.cells x1>>=λy=>
     if (y.kind==2) then
      if (y.n==0) then
       if ((List.length y.box:Int)==1) then
        if (decide (deep>=8)) then
         some (.error 15)
        else
         lget y.box 0>>=λy1=>
         pN (y1,(w64 (deep+1)))>>=λe1=>
         if (e1 != 0) then
          some (.error e1)
         else
          some (.ok ())
       else
        if (decide ((List.length y.box:Int)>0)) then
         some (.error 1)
        else
         if (y.kind != 0) then
          if (y.kind != 1) then
           some (.error 1)
          else
           uQ y.n>>=λx2=>
           if (!x2) then
            some (.error 1)
           else
            some (.ok ())
         else
          some (.ok ())
      else
       if (decide ((List.length y.box:Int)>0)) then
        some (.error 1)
       else
        if (y.kind != 0) then
         if (y.kind != 1) then
          some (.error 1)
         else
          uQ y.n>>=λx3=>
          if (!x3) then
           some (.error 1)
          else
           some (.ok ())
        else
         some (.ok ())
     else
      if (decide ((List.length y.box:Int)>0)) then
       some (.error 1)
      else
       if (y.kind != 0) then
        if (y.kind != 1) then
         some (.error 1)
        else
         uQ y.n>>=λx4=>
         if (!x4) then
          some (.error 1)
         else
          some (.ok ())
       else
        some (.ok ())
    : Option (Except (Int) (Unit)))>>=λres=>match res with
    |.error r=>some (.error r)
    |.ok _=>
     gR (a_,deep,(w64 (x1+1)))
   else
    some (.ok ())
 partial_fixpoint
def pN (a:Arr×Int):Option (Int):=match a with
  |(a_,deep)=>
   jU a_.shape>>=λ(n,e)=>
   if (e != 0) then
    some e
   else
    if (n != (List.length a_.cells:Int)) then
     some 1
    else
     (
      iW (a_,deep,0)
     : Option (Except (Int) (Unit)))>>=λres=>match res with
     |.error r=>some r
     |.ok _=>
      (
       gR (a_,deep,0)
      : Option (Except (Int) (Unit)))>>=λres=>match res with
      |.error r=>some r
      |.ok _=>
       some 0
 partial_fixpoint
end
def iK (a_:Arr):Option (Int):=
 pN (a_,0)>>=λx=>
 some x
def iY (a:Arr×Int):Option (Except (Bool) (Unit)):=match a with
  |(a_,x1)=>
   if (decide (x1<(List.length a_.cells:Int))) then
    (
     lget a_.cells x1>>=λy=>
     if (y.kind==2) then
      some (.error false)
     else
      lget a_.cells 0>>=λy1=>
      if (y.kind != y1.kind) then
       some (.error false)
      else
       if (y.kind==1) then
        if (decide (y.n<32)) then
         some (.error false)
        else
         if (y.n==127) then
          some (.error false)
         else
          some (.ok ())
       else
        some (.ok ())
    : Option (Except (Bool) (Unit)))>>=λres=>match res with
    |.error r=>some (.error r)
    |.ok _=>
     iY (a_,(w64 (x1+1)))
   else
    some (.ok ())
 partial_fixpoint
def jA (a:Arr×Int):Option (Except (Bool) (Unit)):=match a with
  |(a_,x2)=>
   if (decide (x2<(List.length a_.cells:Int))) then
    (
     lget a_.cells x2>>=λy2=>
     if (y2.kind==2) then
      some (.error false)
     else
      lget a_.cells 0>>=λy3=>
      if (y2.kind != y3.kind) then
       some (.error false)
      else
       if (y2.kind==1) then
        if (decide (y2.n<32)) then
         some (.error false)
        else
         if (y2.n==127) then
          some (.error false)
         else
          some (.ok ())
       else
        some (.ok ())
    : Option (Except (Bool) (Unit)))>>=λres=>match res with
    |.error r=>some (.error r)
    |.ok _=>
     jA (a_,(w64 (x2+1)))
   else
    some (.ok ())
 partial_fixpoint
def pB (a_:Arr):Option (Bool):=
 iK a_>>=λx=>
 if (x != 0) then
  some false
 else
  if (decide ((List.length a_.shape:Int)>1)) then
   some false
  else
   if ((List.length a_.shape:Int)==1) then
    if ((List.length a_.cells:Int)==1) then
     some false
    else
     (
      iY (a_,0)
     : Option (Except (Bool) (Unit)))>>=λres=>match res with
     |.error r=>some r
     |.ok _=>
      some true
   else
    (
     jA (a_,0)
    : Option (Except (Bool) (Unit)))>>=λres=>match res with
    |.error r=>some r
    |.ok _=>
     some true
def mW (a:Str×Int):Option (Except (Bool) (Unit)):=match a with
  |(s,x)=>
   if (decide (x<(List.length s:Int))) then
    (
     sget s x>>=λc=>
     if (decide (c>=97)) then
      sget s x>>=λc1=>
      if (!(decide (c1<=119))) then
       if (x==0) then
        some (.error false)
       else
        sget s x>>=λc2=>
        if (decide (c2<48)) then
         some (.error false)
        else
         sget s x>>=λc3=>
         if (decide (c3>57)) then
          some (.error false)
         else
          some (.ok ())
      else
       some (.ok ())
     else
      if (x==0) then
       some (.error false)
      else
       sget s x>>=λc4=>
       if (decide (c4<48)) then
        some (.error false)
       else
        sget s x>>=λc5=>
        if (decide (c5>57)) then
         some (.error false)
        else
         some (.ok ())
    : Option (Except (Bool) (Unit)))>>=λres=>match res with
    |.error r=>some (.error r)
    |.ok _=>
     mW (s,(w64 (x+1)))
   else
    some (.ok ())
 partial_fixpoint
def vD (s:Str):Option (Bool):=
 (
  mW (s,0)
 : Option (Except (Bool) (Unit)))>>=λres=>match res with
 |.error r=>some r
 |.ok _=>
  if (decide ((List.length s:Int)>0)) then
   some (decide ((List.length s:Int)<=8))
  else
   some false
def cP (deep:Int) (nodes:Int) (b:(List (Int×Bool))):Option (Bool×Int):=
 if (decide ((w64 (nodes+1))<=2048)) then
  some ((decide (deep<=24)),(w64 (nodes+1)))
 else
  some (false,(w64 (nodes+1)))
def mH (op_:Int):Option (Bool):=
 if (decide (op_>=21)) then
  some (decide (op_<=32))
 else
  some false
def fW (n:Node) (deep:Int) (nodes:Int) (b:(List (Int×Bool))):Option (Bool×Int):=
 (
  if (n.kind==35) then
   cP deep nodes b>>=λ(x,nodes1)=>
   if (!x) then
    some (.error (false,nodes1))
   else
    bM n 1 false false false>>=λx1=>
    if (!x1) then
     some (.error (false,nodes1))
    else
     lget n.kids 0>>=λy=>
     some (.ok ((w64 (deep+1)),y.kind,y.op_,y.name,y.lit.shape,y.lit.cells,y.kids,y.at_,nodes1))
  else
   some (.ok (deep,n.kind,n.op_,n.name,n.lit.shape,n.lit.cells,n.kids,n.at_,nodes))
 : Option (Except (Bool×Int) (Int×Int×Int×Str×LI×(List aA)×(List Node)×Int×Int)))>>=λres=>match res with
 |.error r=>some r
 |.ok (deep1,x0,x11,x2,x3,x4,x5,x6,c0)=>
  cP deep1 c0 b>>=λ(x7,nodes2)=>
  if x7 then
   if (x0==21) then
    bM (Node.mk x0 x11 x2 (Arr.mk x3 x4) x5 x6) 0 true false false>>=λx8=>
    if x8 then
     mH x11>>=λx9=>
     some (x9,nodes2)
    else
     some (false,nodes2)
   else
    some (false,nodes2)
  else
   some (false,nodes2)
mutual
def dI (a:Node×Int×Int×(List (Int×Bool))):Option (Bool×Int×(List (Int×Bool))):=match a with
  |(n,deep,nodes,b)=>
   cP deep nodes b>>=λ(x,nodes1)=>
   if (!x) then
    some (false,nodes1,b)
   else
    if (n.kind==1) then
     bM n 0 false false true>>=λx1=>
     if x1 then
      pB n.lit>>=λx2=>
      some (x2,nodes1,b)
     else
      some (false,nodes1,b)
    else
     if (n.kind==2) then
      bM n 0 false true false>>=λx3=>
      if x3 then
       vD n.name>>=λx4=>
       some (x4,nodes1,b)
      else
       some (false,nodes1,b)
     else
      (
       if (n.kind==3) then
        some (n.kind==3)
       else
        some (n.kind==4)
      : Option (Bool))>>=λx5=>
      if x5 then
       bM n 0 false false false>>=λx6=>
       if (!x6) then
        some (false,nodes1,b)
       else
        some (true,nodes1,(Au0 b n.kind true))
      else
       if (n.kind==5) then
        bM n 2 false false false>>=λx7=>
        if x7 then
         lget n.kids 0>>=λy=>
         kT (y,(w64 (deep+1)),nodes1,b)>>=λ(x8,nodes2)=>
         if x8 then
          lget n.kids 1>>=λy1=>
          dI (y1,(w64 (deep+1)),nodes2,b)>>=λ(x9,nodes3,x10)=>
          some (x9,nodes3,x10)
         else
          some (false,nodes2,b)
        else
         some (false,nodes1,b)
       else
        if (n.kind==6) then
         bM n 3 false false false>>=λx11=>
         if x11 then
          lget n.kids 0>>=λy2=>
          oE (y2,(w64 (deep+1)),nodes1,b)>>=λ(x12,nodes4)=>
          if x12 then
           lget n.kids 1>>=λy3=>
           dI (y3,(w64 (deep+1)),nodes4,b)>>=λ(x13,nodes5,x14)=>
           if x13 then
            lget n.kids 2>>=λy4=>
            dI (y4,(w64 (deep+1)),nodes5,x14)>>=λ(x15,nodes6,x16)=>
            some (x15,nodes6,x16)
           else
            some (false,nodes5,x14)
          else
           some (false,nodes4,b)
         else
          some (false,nodes1,b)
        else
         some (false,nodes1,b)
 partial_fixpoint
def kT (a:Node×Int×Int×(List (Int×Bool))):Option (Bool×Int):=match a with
  |(n,deep,nodes,b)=>
   cP deep nodes b>>=λ(x,nodes1)=>
   if (!x) then
    some (false,nodes1)
   else
    if (n.kind==21) then
     bM n 0 true false false>>=λx1=>
     if x1 then
      if (decide (n.op_>=1)) then
       some ((decide (n.op_<=19)),nodes1)
      else
       some (false,nodes1)
     else
      some (false,nodes1)
    else
     if (n.kind==22) then
      gI (n,deep,nodes1,b)>>=λ(x2,nodes2)=>
      some (x2,nodes2)
     else
      (
       if (n.kind==31) then
        some (n.kind==31)
       else
        if (n.kind==32) then
         some (n.kind==32)
        else
         if (n.kind==33) then
          some (n.kind==33)
         else
          some (n.kind==34)
      : Option (Bool))>>=λx3=>
      if x3 then
       bM n 1 false false false>>=λx4=>
       if x4 then
        lget n.kids 0>>=λy=>
        fW y (w64 (deep+1)) nodes1 b>>=λ(x5,nodes3)=>
        some (x5,nodes3)
       else
        some (false,nodes1)
      else
       if (n.kind==35) then
        gK (n,deep,nodes1,b)>>=λ(x6,nodes4)=>
        some (x6,nodes4)
       else
        if (n.kind==26) then
         bM n 1 true false false>>=λx7=>
         if x7 then
          if (decide (n.op_>=0)) then
           if (decide (n.op_<=4096)) then
            lget n.kids 0>>=λy1=>
            if (y1.kind==22) then
             lget n.kids 0>>=λy2=>
             kT (y2,(w64 (deep+1)),nodes1,b)>>=λ(x8,nodes5)=>
             some (x8,nodes5)
            else
             some (false,nodes1)
           else
            some (false,nodes1)
          else
           some (false,nodes1)
         else
          some (false,nodes1)
        else
         some (false,nodes1)
 partial_fixpoint
def oE (a:Node×Int×Int×(List (Int×Bool))):Option (Bool×Int):=match a with
  |(n,deep,nodes,b)=>
   if (n.kind==25) then
    cP deep nodes b>>=λ(x,nodes1)=>
    if x then
     bM n 1 false false false>>=λx1=>
     if x1 then
      lget n.kids 0>>=λy=>
      fW y (w64 (deep+1)) nodes1 b>>=λ(x2,nodes2)=>
      some (x2,nodes2)
     else
      some (false,nodes1)
    else
     some (false,nodes1)
   else
    if (n.kind==35) then
     cP deep nodes b>>=λ(x3,nodes3)=>
     if x3 then
      gK (n,deep,nodes3,b)>>=λ(x4,nodes4)=>
      some (x4,nodes4)
     else
      some (false,nodes3)
    else
     fO (n,deep,nodes,b)>>=λ(x5,nodes5)=>
     some (x5,nodes5)
 partial_fixpoint
def gI (a:Node×Int×Int×(List (Int×Bool))):Option (Bool×Int):=match a with
  |(n,deep,nodes,b)=>
   bM n 1 false false false>>=λx=>
   if (!x) then
    some (false,nodes)
   else
    lget n.kids 0>>=λy=>
    dI (y,(w64 (deep+1)),nodes,[])>>=λ(ok,nodes1,x1)=>
    if (n.kind==22) then
     if ok then
      some ((!(yI x1 3 false)),nodes1)
     else
      some (false,nodes1)
    else
     if ok then
      if (yI x1 3 false) then
       some ((yI x1 4 false),nodes1)
      else
       some (false,nodes1)
     else
      some (false,nodes1)
 partial_fixpoint
def gK (a:Node×Int×Int×(List (Int×Bool))):Option (Bool×Int):=match a with
  |(n,deep,nodes,b)=>
   bM n 1 false false false>>=λx=>
   if (!x) then
    some (false,nodes)
   else
    lget n.kids 0>>=λy=>
    if (y.kind != 21) then
     fO (y,(w64 (deep+1)),nodes,b)>>=λ(x1,nodes1)=>
     some (x1,nodes1)
    else
     if (y.op_ != 52) then
      if (y.op_ != 53) then
       fO (y,(w64 (deep+1)),nodes,b)>>=λ(x2,nodes2)=>
       some (x2,nodes2)
      else
       some (false,nodes)
     else
      some (false,nodes)
 partial_fixpoint
def fO (a:Node×Int×Int×(List (Int×Bool))):Option (Bool×Int):=match a with
  |(n,deep,nodes,b)=>
   cP deep nodes b>>=λ(x,nodes1)=>
   if (!x) then
    some (false,nodes1)
   else
    if (n.kind==21) then
     bM n 0 true false false>>=λx1=>
     if x1 then
      mH n.op_>>=λx2=>
      if x2 then
       some (true,nodes1)
      else
       if (decide (n.op_>=41)) then
        some ((decide (n.op_<=54)),nodes1)
       else
        some (false,nodes1)
     else
      some (false,nodes1)
    else
     if (n.kind==23) then
      gI (n,deep,nodes1,b)>>=λ(x3,nodes2)=>
      some (x3,nodes2)
     else
      some (false,nodes1)
 partial_fixpoint
end
def dP (n:Node) (deep:Int) (nodes:Int):Option (Bool×Int):=
 bM n 1 false false false>>=λx=>
 if (!x) then
  some (false,nodes)
 else
  lget n.kids 0>>=λy=>
  dI (y,(w64 (deep+1)),nodes,[])>>=λ(ok,nodes1,x1)=>
  if (n.kind==22) then
   if ok then
    some ((!(yI x1 3 false)),nodes1)
   else
    some (false,nodes1)
  else
   if ok then
    if (yI x1 3 false) then
     some ((yI x1 4 false),nodes1)
    else
     some (false,nodes1)
   else
    some (false,nodes1)
def dG (n:Node) (deep:Int) (nodes:Int):Option (Bool×Int):=
 (
  if (n.kind==35) then
   bU deep nodes>>=λ(x,nodes1)=>
   if (!x) then
    some (.error (false,nodes1))
   else
    bM n 1 false false false>>=λx1=>
    if (!x1) then
     some (.error (false,nodes1))
    else
     lget n.kids 0>>=λy=>
     some (.ok ((w64 (deep+1)),y.kind,y.op_,y.name,y.lit.shape,y.lit.cells,y.kids,y.at_,nodes1))
  else
   some (.ok (deep,n.kind,n.op_,n.name,n.lit.shape,n.lit.cells,n.kids,n.at_,nodes))
 : Option (Except (Bool×Int) (Int×Int×Int×Str×LI×(List aA)×(List Node)×Int×Int)))>>=λres=>match res with
 |.error r=>some r
 |.ok (deep1,x0,x11,x2,x3,x4,x5,x6,c0)=>
  bU deep1 c0>>=λ(x7,nodes2)=>
  if x7 then
   if (x0==21) then
    bM (Node.mk x0 x11 x2 (Arr.mk x3 x4) x5 x6) 0 true false false>>=λx8=>
    if x8 then
     mH x11>>=λx9=>
     some (x9,nodes2)
    else
     some (false,nodes2)
   else
    some (false,nodes2)
  else
   some (false,nodes2)
def cT (n:Node) (deep:Int) (nodes:Int):Option (Bool×Int):=
 bU deep nodes>>=λ(x,nodes1)=>
 if (!x) then
  some (false,nodes1)
 else
  if (n.kind==21) then
   bM n 0 true false false>>=λx1=>
   if x1 then
    mH n.op_>>=λx2=>
    if x2 then
     some (true,nodes1)
    else
     if (decide (n.op_>=41)) then
      some ((decide (n.op_<=54)),nodes1)
     else
      some (false,nodes1)
   else
    some (false,nodes1)
  else
   if (n.kind==23) then
    dP n deep nodes1>>=λ(x3,nodes2)=>
    some (x3,nodes2)
   else
    some (false,nodes1)
def dQ (n:Node) (deep:Int) (nodes:Int):Option (Bool×Int):=
 bM n 1 false false false>>=λx=>
 if (!x) then
  some (false,nodes)
 else
  lget n.kids 0>>=λy=>
  if (y.kind != 21) then
   cT y (w64 (deep+1)) nodes>>=λ(x1,nodes1)=>
   some (x1,nodes1)
  else
   if (y.op_ != 52) then
    if (y.op_ != 53) then
     cT y (w64 (deep+1)) nodes>>=λ(x2,nodes2)=>
     some (x2,nodes2)
    else
     some (false,nodes)
   else
    some (false,nodes)
def dW (a:Node×Int×Int):Option (Bool×Int):=match a with
  |(n,deep,nodes)=>
   bU deep nodes>>=λ(x,nodes1)=>
   if (!x) then
    some (false,nodes1)
   else
    if (n.kind==21) then
     bM n 0 true false false>>=λx1=>
     if x1 then
      if (decide (n.op_>=1)) then
       some ((decide (n.op_<=19)),nodes1)
      else
       some (false,nodes1)
     else
      some (false,nodes1)
    else
     if (n.kind==22) then
      dP n deep nodes1>>=λ(x2,nodes2)=>
      some (x2,nodes2)
     else
      (
       if (n.kind==31) then
        some (n.kind==31)
       else
        if (n.kind==32) then
         some (n.kind==32)
        else
         if (n.kind==33) then
          some (n.kind==33)
         else
          some (n.kind==34)
      : Option (Bool))>>=λx3=>
      if x3 then
       bM n 1 false false false>>=λx4=>
       if x4 then
        lget n.kids 0>>=λy=>
        dG y (w64 (deep+1)) nodes1>>=λ(x5,nodes3)=>
        some (x5,nodes3)
       else
        some (false,nodes1)
      else
       if (n.kind==35) then
        dQ n deep nodes1>>=λ(x6,nodes4)=>
        some (x6,nodes4)
       else
        if (n.kind==26) then
         bM n 1 true false false>>=λx7=>
         if x7 then
          if (decide (n.op_>=0)) then
           if (decide (n.op_<=4096)) then
            lget n.kids 0>>=λy1=>
            if (y1.kind==22) then
             lget n.kids 0>>=λy2=>
             dW (y2,(w64 (deep+1)),nodes1)>>=λ(x8,nodes5)=>
             some (x8,nodes5)
            else
             some (false,nodes1)
           else
            some (false,nodes1)
          else
           some (false,nodes1)
         else
          some (false,nodes1)
        else
         some (false,nodes1)
 partial_fixpoint
def gS (n:Node) (deep:Int) (nodes:Int):Option (Bool×Int):=
 if (n.kind==25) then
  bU deep nodes>>=λ(x,nodes1)=>
  if x then
   bM n 1 false false false>>=λx1=>
   if x1 then
    lget n.kids 0>>=λy=>
    dG y (w64 (deep+1)) nodes1>>=λ(x2,nodes2)=>
    some (x2,nodes2)
   else
    some (false,nodes1)
  else
   some (false,nodes1)
 else
  if (n.kind==35) then
   bU deep nodes>>=λ(x3,nodes3)=>
   if x3 then
    dQ n deep nodes3>>=λ(x4,nodes4)=>
    some (x4,nodes4)
   else
    some (false,nodes3)
  else
   cT n deep nodes>>=λ(x5,nodes5)=>
   some (x5,nodes5)
def cB (a:Node×Int×Int):Option (Bool×Int):=match a with
  |(n,deep,nodes)=>
   bU deep nodes>>=λ(x,nodes1)=>
   if (!x) then
    some (false,nodes1)
   else
    if (n.kind==1) then
     bM n 0 false false true>>=λx1=>
     if x1 then
      pB n.lit>>=λx2=>
      some (x2,nodes1)
     else
      some (false,nodes1)
    else
     if (n.kind==2) then
      bM n 0 false true false>>=λx3=>
      if x3 then
       vD n.name>>=λx4=>
       some (x4,nodes1)
      else
       some (false,nodes1)
     else
      (
       if (n.kind==3) then
        some (n.kind==3)
       else
        some (n.kind==4)
      : Option (Bool))>>=λx5=>
      if x5 then
       some (false,nodes1)
      else
       if (n.kind==5) then
        bM n 2 false false false>>=λx6=>
        if x6 then
         lget n.kids 0>>=λy=>
         dW (y,(w64 (deep+1)),nodes1)>>=λ(x7,nodes2)=>
         if x7 then
          lget n.kids 1>>=λy1=>
          cB (y1,(w64 (deep+1)),nodes2)>>=λ(x8,nodes3)=>
          some (x8,nodes3)
         else
          some (false,nodes2)
        else
         some (false,nodes1)
       else
        if (n.kind==6) then
         bM n 3 false false false>>=λx9=>
         if x9 then
          lget n.kids 0>>=λy2=>
          gS y2 (w64 (deep+1)) nodes1>>=λ(x10,nodes4)=>
          if x10 then
           lget n.kids 1>>=λy3=>
           cB (y3,(w64 (deep+1)),nodes4)>>=λ(x11,nodes5)=>
           if x11 then
            lget n.kids 2>>=λy4=>
            cB (y4,(w64 (deep+1)),nodes5)>>=λ(x12,nodes6)=>
            some (x12,nodes6)
           else
            some (false,nodes5)
          else
           some (false,nodes4)
         else
          some (false,nodes1)
        else
         some (false,nodes1)
 partial_fixpoint
def sN (n:Node):Option (Int):=
 cB (n,0,0)>>=λ(x,nodes)=>
 if (!x) then
  some 1
 else
  some 0
def AgF (fuel:Int) (cells:Int):Option (aG):=
 some (aG.mk (dD.mk (if fuel<0 then 0 else fuel) 0) (if cells<0 then 0 else cells))
mutual
def kB (a:Arr×LI×Int×(List aA)):Option (List aA):=match a with
  |(a_,l,x,out1)=>
   if (decide (x<(List.length a_.cells:Int))) then
    lget a_.cells x>>=λy=>
    kD y>>=λx1=>
    lapp out1 [x1]>>=λl1=>
    kB (a_,l,(w64 (x+1)),l1)
   else
    some out1
 partial_fixpoint
def fE (a:Arr):Option (Arr):=match a with
  |a_=>
   lapp [] a_.shape>>=λl=>
   (
    kB (a_,l,0,[])
   : Option (List aA))>>=λout11=>
   some (Arr.mk l out11)
 partial_fixpoint
def kD (a:aA):Option (aA):=match a with
  |c=>
   (
    if (decide ((List.length c.box:Int)>0)) then
     lget c.box 0>>=λy=>
     fE y>>=λx=>
     some [x]
    else
     some c.box
   : Option (List Arr))>>=λc2=>
   some (aA.mk c.kind c.n c2)
 partial_fixpoint
end
def lZ (n:Int) (c:aG):Option (Bool×Int×Int):=
 if (decide (n<0)) then
  some (false,c.fuel.left,c.fuel.used)
 else
  if (decide (n>c.fuel.left)) then
   some (false,c.fuel.left,c.fuel.used)
  else
   some (true,(w64 (c.fuel.left-n)),(w64 (c.fuel.used+n)))
def eT (m:aG):Option (Int×Int×Int):=
 lZ 1 m>>=λ(x,left,used)=>
 if (!x) then
  some (11,left,used)
 else
  some (0,left,used)
mutual
def iL (a:Arr×Int×aA×Int×Int):Option (Int):=match a with
  |(a_,x,y,n1,x1)=>
   if (decide (x1<(List.length y.box:Int))) then
    lget y.box x1>>=λy1=>
    kE y1>>=λx2=>
    iL (a_,x,y,(w64 (n1+x2)),(w64 (x1+1)))
   else
    some n1
 partial_fixpoint
def p_meter_Cells_l0 (a:Arr×Int×Int):Option (Int):=match a with
  |(a_,n,x)=>
   if (decide (x<(List.length a_.cells:Int))) then
    lget a_.cells x>>=λy=>
    (
     iL (a_,x,y,n,0)
    : Option (Int))>>=λn2=>
    p_meter_Cells_l0 (a_,n2,(w64 (x+1)))
   else
    some n
 partial_fixpoint
def kE (a:Arr):Option (Int):=match a with
  |a_=>
   (
    p_meter_Cells_l0 (a_,(List.length a_.cells:Int),0)
   : Option (Int))>>=λn3=>
   some n3
 partial_fixpoint
end
def pY (a_:Arr) (m:aG):Option (Int):=
 kE a_>>=λx=>
 if (decide (x>m.cells)) then
  some 12
 else
  some 0
def aU (a_:Arr) (e:Int) (names:(List Str)) (vals:(List Arr)) (b:aG):Option (Arr×Int):=
 (
  if (e==0) then
   pY a_ b>>=λe1=>
   some e1
  else
   some e
 : Option (Int))>>=λe2=>
 if (e2 != 0) then
  some ((Arr.mk [] []),e2)
 else
  some (a_,0)
def bS (a:Str×(List Str)×(List Arr)×aG×Int):Option (Except (Arr×Int) (Unit)):=match a with
  |(s,names,vals,b,x)=>
   if (decide (x<(List.length names:Int))) then
    (
     lget names x>>=λn=>
     if (n==s) then
      if (decide (x<(List.length vals:Int))) then
       lget vals x>>=λy=>
       iK y>>=λx1=>
       if (x1 != 0) then
        some (.error ((Arr.mk [] []),1))
       else
        lget vals x>>=λy1=>
        fE y1>>=λx2=>
        some (.error (x2,0))
      else
       some (.ok ())
     else
      some (.ok ())
    : Option (Except (Arr×Int) (Unit)))>>=λres=>match res with
    |.error r=>some (.error r)
    |.ok _=>
     bS (s,names,vals,b,(w64 (x+1)))
   else
    some (.ok ())
 partial_fixpoint
def cS (s:Str) (names:(List Str)) (vals:(List Arr)) (b:aG):Option (Arr×Int):=
 (
  bS (s,names,vals,b,0)
 : Option (Except (Arr×Int) (Unit)))>>=λres=>match res with
 |.error r=>some r
 |.ok _=>
  some ((Arr.mk [] []),4)
def gB (a:bY×(List Arr)×Int):Option (Except (Int) (Unit)):=match a with
  |(f,l,x)=>
   if (decide (x<(List.length l:Int))) then
    lget l x>>=λy=>
    iK y>>=λe=>
    if (e != 0) then
     some (.error e)
    else
     gB (f,l,(w64 (x+1)))
   else
    some (.ok ())
 partial_fixpoint
def jV (f:bY) (l:(List Arr)):Option (Int):=
 (
  gB (f,l,0)
 : Option (Except (Int) (Unit)))>>=λres=>match res with
 |.error r=>some r
 |.ok _=>
  pO f.op_>>=λx1=>
  if (!x1) then
   some 1
  else
   some 0
def vG (a_:Arr) (last:Bool):Option (Int):=
 if last then
  some (w64 ((List.length a_.shape:Int)-1))
 else
  some 0
def jM (a:LI×Int×LI×Int×Int):Option (Int):=match a with
  |(shape,axis,l,outer,x)=>
   if (decide (x<(List.length l:Int))) then
    lget l x>>=λd=>
    jM (shape,axis,l,(w64 (outer*d)),(w64 (x+1)))
   else
    some outer
 partial_fixpoint
def jN (a:LI×Int×Int×LI×Int×Int):Option (Int):=match a with
  |(shape,axis,outer1,l1,step,x1)=>
   if (decide (x1<(List.length l1:Int))) then
    lget l1 x1>>=λd1=>
    jN (shape,axis,outer1,l1,(w64 (step*d1)),(w64 (x1+1)))
   else
    some step
 partial_fixpoint
def sQ (shape:LI) (axis:Int):Option (Int×Int×Int):=
 lto shape axis>>=λl=>
 (
  jM (shape,axis,l,1,0)
 : Option (Int))>>=λouter1=>
 lfrom shape (w64 (axis+1))>>=λl1=>
 (
  jN (shape,axis,outer1,l1,1,0)
 : Option (Int))>>=λstep1=>
 lget shape axis>>=λlong=>
 some (outer1,step1,long)
def vE (f:bY) (a_:aA) (b:aA):Option (aA×Int):=
 (
  if f.turned then
   some (a_.kind,a_.n,a_.box,b.kind,b.n,b.box)
  else
   some (b.kind,b.n,b.box,a_.kind,a_.n,a_.box)
 : Option (Int×Int×(List Arr)×Int×Int×(List Arr)))>>=λ(b0,b1,b2,a0,a1,a2)=>
 oH f.op_ (aA.mk a0 a1 a2) (aA.mk b0 b1 b2)>>=λ(x,x1)=>
 some (x,x1)
def jB (a:(List aA)×Int×LI):Option (Except (LI×Int) LI):=match a with
  |(l,x,out1)=>
   if (decide (x<(List.length l:Int))) then
    lget l x>>=λy=>
    if (y.kind != 0) then
     some (.error ([],5))
    else
     aidx x (Int.toNat (List.length l:Int))>>=λj=>
     aset out1 j y.n>>=λout2=>
     jB (l,(w64 (x+1)),out2)
   else
    some (.ok out1)
 partial_fixpoint
def mZ (l:(List aA)):Option (LI×Int):=
 mkarr (List.length l:Int) 0>>=λout=>
 (
  jB (l,0,out)
 : Option (Except (LI×Int) LI))>>=λres=>match res with
 |.error r=>some r
 |.ok out3=>
  afrz (Int.toNat (List.length l:Int)) out3>>=λout4=>
  some (out4,0)
def pE (n:Int) (w:eK):Option (Int×Int):=
 if (decide ((IntKind.u64.wrap (w.lo+n))<n)) then
  some ((IntKind.u64.wrap (w.hi+1)),(IntKind.u64.wrap (w.lo+n)))
 else
  some (w.hi,(IntKind.u64.wrap (w.lo+n)))
def qQ (w:eK) (a_:eK):Option (Bool):=
 if (decide (w.hi<a_.hi)) then
  some true
 else
  if (w.hi==a_.hi) then
   some (decide (w.lo<a_.lo))
  else
   some false
def pF (a_:eK) (w:eK):Option (Int×Int):=
 (
  if (decide (w.lo<a_.lo)) then
   some (IntKind.u64.wrap (w.hi-1))
  else
   some w.hi
 : Option (Int))>>=λx0=>
 some ((IntKind.u64.wrap (x0-a_.hi)),(IntKind.u64.wrap (w.lo-a_.lo)))
def kU (w:eK) (below:Bool):Option (Int×Int):=
 if (decide (w.hi>0)) then
  if (decide (w.hi>0)) then
   some (0,9)
  else
   some (0,0)
 else
  if (w.lo==0) then
   if (decide (w.hi>0)) then
    some (0,9)
   else
    some (0,0)
  else
   sR w.lo below>>=λ(x,x1)=>
   some (x,x1)
def pZ (a:LI×Int×Int×Int×Int×Int):Option (Int×Int×Int×Int):=match a with
  |(l,x,below0,below1,above0,above1)=>
   if (decide (x<(List.length l:Int))) then
    (
     lget l x>>=λy=>
     xQ y>>=λ(n,neg)=>
     if neg then
      pE n (eK.mk below0 below1)>>=λ(hi,lo)=>
      some (hi,lo,above0,above1)
     else
      pE n (eK.mk above0 above1)>>=λ(hi1,lo1)=>
      some (below0,below1,hi1,lo1)
    : Option (Int×Int×Int×Int))>>=λ(below01,below11,above01,above11)=>
    pZ (l,(w64 (x+1)),below01,below11,above01,above11)
   else
    some (below0,below1,above0,above1)
 partial_fixpoint
def xP (l:LI):Option (Int×Int):=
 (
  pZ (l,0,0,0,0,0)
 : Option (Int×Int×Int×Int))>>=λ(below02,below12,above02,above12)=>
 qQ (eK.mk above02 above12) (eK.mk below02 below12)>>=λx1=>
 if x1 then
  pF (eK.mk above02 above12) (eK.mk below02 below12)>>=λ(hi2,lo2)=>
  kU (eK.mk hi2 lo2) true>>=λ(x2,x3)=>
  some (x2,x3)
 else
  pF (eK.mk below02 below12) (eK.mk above02 above12)>>=λ(hi3,lo3)=>
  kU (eK.mk hi3 lo3) false>>=λ(x4,x5)=>
  some (x4,x5)
def p_fold_F_row_l0 (a:bY×(List aA)×Int×Int×Int×(List Arr)):Option (Except (aA×Int) (Int×Int×(List Arr))):=match a with
  |(f,l,i,c0,c1,c2)=>
   if (decide (i>=0)) then
    lget l i>>=λy2=>
    vE f y2 (aA.mk c0 c1 c2)>>=λ(x,e6)=>
    if (e6 != 0) then
     some (.error ((aA.mk 0 0 []),e6))
    else
     p_fold_F_row_l0 (f,l,(w64 (i-1)),x.kind,x.n,x.box)
   else
    some (.ok (c0,c1,c2))
 partial_fixpoint
def sO (f:bY) (l:(List aA)):Option (aA×Int):=
 (
  if ((List.length l:Int)==1) then
   lget l 0>>=λy=>
   some (.error (y,0))
  else
   if ((List.length l:Int)==0) then
    if (f.op_==21) then
     some (.error ((aA.mk 0 0 []),0))
    else
     if (f.op_==22) then
      some (.error ((aA.mk 0 0 []),0))
     else
      if ((List.length l:Int)==0) then
       if (f.op_==23) then
        some (.error ((aA.mk 0 1 []),0))
       else
        if ((List.length l:Int)==0) then
         some (.error ((aA.mk 0 0 []),5))
        else
         some (.ok ())
      else
       if ((List.length l:Int)==0) then
        some (.error ((aA.mk 0 0 []),5))
       else
        some (.ok ())
   else
    if ((List.length l:Int)==0) then
     if (f.op_==23) then
      some (.error ((aA.mk 0 1 []),0))
     else
      if ((List.length l:Int)==0) then
       some (.error ((aA.mk 0 0 []),5))
      else
       some (.ok ())
    else
     if ((List.length l:Int)==0) then
      some (.error ((aA.mk 0 0 []),5))
     else
      some (.ok ())
 : Option (Except (aA×Int) (Unit)))>>=λres=>match res with
 |.error r=>some r
 |.ok _=>
  if (f.op_==21) then
   mZ l>>=λ(n,e)=>
   if (e != 0) then
    some ((aA.mk 0 0 []),e)
   else
    if (f.op_==23) then
     sA n>>=λ(k,e1)=>
     some ((aA.mk 0 k []),e1)
    else
     xP n>>=λ(k1,e2)=>
     some ((aA.mk 0 k1 []),e2)
  else
   if (f.op_==23) then
    mZ l>>=λ(n1,e3)=>
    if (e3 != 0) then
     some ((aA.mk 0 0 []),e3)
    else
     if (f.op_==23) then
      sA n1>>=λ(k2,e4)=>
      some ((aA.mk 0 k2 []),e4)
     else
      xP n1>>=λ(k3,e5)=>
      some ((aA.mk 0 k3 []),e5)
   else
    lget l (w64 ((List.length l:Int)-1))>>=λy1=>
    (
     p_fold_F_row_l0 (f,l,(w64 ((List.length l:Int)-2)),y1.kind,y1.n,y1.box)
    : Option (Except (aA×Int) (Int×Int×(List Arr))))>>=λres=>match res with
    |.error r=>some r
    |.ok (c01,c11,c21)=>
     some ((aA.mk c01 c11 c21),0)
def mY (a:(List aA)×Int×Int×Int×(List aA)×Int):Option (List aA):=match a with
  |(l,at_,step,long,out1,x)=>
   if (decide (x<long)) then
    lget l (w64 (at_+(w64 (x*step))))>>=λy=>
    lapp out1 [y]>>=λout2=>
    mY (l,at_,step,long,out2,(w64 (x+1)))
   else
    some out1
 partial_fixpoint
def rV (l:(List aA)) (at_:Int) (step:Int) (long:Int):Option (List aA):=
 mkcap long>>=λout=>
 (
  mY (l,at_,step,long,[],0)
 : Option (List aA))>>=λout3=>
 some out3
def oK (a:bY×Arr×LI×LI×Int×Int×Int×Int×Int×(List aA)):Option (Except (Arr×Int) (List aA)):=match a with
  |(f,a_,x2,x3,outer,step,long,x5,x6,out11)=>
   if (decide (x6<step)) then
    rV a_.cells (w64 ((w64 ((w64 (x5*step))*long))+x6)) step long>>=λx7=>
    sO f x7>>=λ(x8,e2)=>
    if (e2 != 0) then
     some (.error ((Arr.mk [] []),e2))
    else
     lapp out11 [x8]>>=λl=>
     oK (f,a_,x2,x3,outer,step,long,x5,(w64 (x6+1)),l)
   else
    some (.ok out11)
 partial_fixpoint
def mI (a:bY×Arr×LI×LI×Int×Int×Int×Int×(List aA)):Option (Except (Arr×Int) (List aA)):=match a with
  |(f,a_,x2,x3,outer,step,long,x5,out1)=>
   if (decide (x5<outer)) then
    (
     oK (f,a_,x2,x3,outer,step,long,x5,0,out1)
    : Option (Except (Arr×Int) (List aA)))>>=λres=>match res with
    |.error r=>some (.error r)
    |.ok out12=>
     mI (f,a_,x2,x3,outer,step,long,(w64 (x5+1)),out12)
   else
    some (.ok out1)
 partial_fixpoint
def xO (f:bY) (a_:Arr) (last:Bool):Option (Arr×Int):=
 jV f [a_]>>=λe=>
 if (e != 0) then
  some ((Arr.mk [] []),e)
 else
  if ((List.length a_.shape:Int)==0) then
   fE a_>>=λx=>
   some (x,0)
  else
   vG a_ last>>=λk=>
   rM a_.shape>>=λ(x1,b)=>
   AcX x1 k (w64 (k+1)) b>>=λ(x2,x3)=>
   jU x2>>=λ(x4,e1)=>
   if (e1 != 0) then
    some ((Arr.mk [] []),e1)
   else
    sQ a_.shape k>>=λ(outer,step,long)=>
    (
     mI (f,a_,x2,x3,outer,step,long,0,[])
    : Option (Except (Arr×Int) (List aA)))>>=λres=>match res with
    |.error r=>some r
    |.ok out13=>
     fE (Arr.mk x2 out13)>>=λx9=>
     some (x9,0)
def gV (n:Node):Option (bY):=
 if (n.kind==35) then
  lget n.kids 0>>=λy=>
  some (bY.mk y.op_ true)
 else
  some (bY.mk n.op_ false)
def p_arr_Copy_V_l0 (a:Arr×LI×Int×(List aA)):Option (List aA):=match a with
  |(a_,l,x,c0)=>
   if (decide (x<(List.length a_.cells:Int))) then
    lget a_.cells x>>=λy=>
    kD y>>=λx1=>
    lapp c0 [x1]>>=λl1=>
    p_arr_Copy_V_l0 (a_,l,(w64 (x+1)),l1)
   else
    some c0
 partial_fixpoint
def wJ (a_:Arr):Option (Nat×Nat×LI×(List aA)):=
 lapp ([]:LI) a_.shape>>=λl=>
 (
  p_arr_Copy_V_l0 (a_,l,0,([]:List aA))
 : Option (List aA))>>=λc01=>
 some ((List.length l),(List.length c01),l,c01)
def mX (a:bY×Arr×Nat×Nat×LI×Int×Int×Int×Int×Int×(List aA)×Int×(List aA)):Option (Except (Arr×Int) (List aA)):=match a with
  |(f,a_,n,n1,b,outer,step,long,x1,x2,l,n2,c02)=>
   if (decide (n2<(List.length l:Int))) then
    lto l (w64 (n2+1))>>=λl1=>
    sO f l1>>=λ(x3,e1)=>
    if (e1 != 0) then
     some (.error ((Arr.mk [] []),e1))
    else
     aidx (w64 ((w64 ((w64 ((w64 (x1*step))*long))+x2))+(w64 (n2*step)))) n1>>=λj=>
     aset c02 j x3>>=λc=>
     mX (f,a_,n,n1,b,outer,step,long,x1,x2,l,(w64 (n2+1)),c)
   else
    some (.ok c02)
 partial_fixpoint
def kM (a:bY×Arr×Nat×Nat×LI×Int×Int×Int×Int×Int×(List aA)):Option (Except (Arr×Int) (List aA)):=match a with
  |(f,a_,n,n1,b,outer,step,long,x1,x2,c01)=>
   if (decide (x2<step)) then
    rV a_.cells (w64 ((w64 ((w64 (x1*step))*long))+x2)) step long>>=λl=>
    (
     mX (f,a_,n,n1,b,outer,step,long,x1,x2,l,1,c01)
    : Option (Except (Arr×Int) (List aA)))>>=λres=>match res with
    |.error r=>some (.error r)
    |.ok c03=>
     kM (f,a_,n,n1,b,outer,step,long,x1,(w64 (x2+1)),c03)
   else
    some (.ok c01)
 partial_fixpoint
def kL (a:bY×Arr×Nat×Nat×LI×Int×Int×Int×Int×(List aA)):Option (Except (Arr×Int) (List aA)):=match a with
  |(f,a_,n,n1,b,outer,step,long,x1,c0)=>
   if (decide (x1<outer)) then
    (
     kM (f,a_,n,n1,b,outer,step,long,x1,0,c0)
    : Option (Except (Arr×Int) (List aA)))>>=λres=>match res with
    |.error r=>some (.error r)
    |.ok c04=>
     kL (f,a_,n,n1,b,outer,step,long,(w64 (x1+1)),c04)
   else
    some (.ok c0)
 partial_fixpoint
def vF (f:bY) (a_:Arr) (last:Bool):Option (Arr×Int):=
 jV f [a_]>>=λe=>
 if (e != 0) then
  some ((Arr.mk [] []),e)
 else
  wJ a_>>=λ(n,n1,b,b1)=>
  if ((List.length a_.shape:Int)==0) then
   afrz n1 b1>>=λcells=>
   afrz n b>>=λshape=>
   some ((Arr.mk shape cells),0)
  else
   vG a_ last>>=λx=>
   sQ a_.shape x>>=λ(outer,step,long)=>
   (
    kL (f,a_,n,n1,b,outer,step,long,0,b1)
   : Option (Except (Arr×Int) (List aA)))>>=λres=>match res with
   |.error r=>some r
   |.ok c05=>
    afrz n1 c05>>=λcells1=>
    afrz n b>>=λshape1=>
    some ((Arr.mk shape1 cells1),0)
def Aa0 (a_:Int):Option (Int×Int):=
 Aa1 0 a_>>=λ(x,x1)=>
 some (x,x1)
def AhB (a_:Int):Option (Int):=
 if (decide (a_<0)) then
  some (-1)
 else
  if (decide (a_>0)) then
   some 1
  else
   some 0
def AhA (a_:Int):Option (Int×Int):=
 if (decide (a_<0)) then
  Aa0 a_>>=λ(x,x1)=>
  some (x,x1)
 else
  some (a_,0)
def wL (op_:Int) (n:Int):Option (Int×Int):=
 if (op_==1) then
  Aa0 n>>=λ(x,x1)=>
  some (x,x1)
 else
  if (op_==2) then
   AhB n>>=λx2=>
   some (x2,0)
  else
   if (op_==3) then
    AhA n>>=λ(x3,x4)=>
    some (x3,x4)
   else
    if (n != 0) then
     if (n != 1) then
      some (0,5)
     else
      some ((w64 (1-n)),0)
    else
     some ((w64 (1-n)),0)
def mU (a:Int×Arr×LI×Int×(List aA)):Option (Except (Arr×Int) (List aA)):=match a with
  |(op_,a_,l,x1,out1)=>
   if (decide (x1<(List.length a_.cells:Int))) then
    lget a_.cells x1>>=λy=>
    if (y.kind != 0) then
     some (.error ((Arr.mk [] []),5))
    else
     wL op_ y.n>>=λ(n,e1)=>
     if (e1 != 0) then
      some (.error ((Arr.mk [] []),e1))
     else
      lapp out1 [(aA.mk 0 n [])]>>=λl1=>
      mU (op_,a_,l,(w64 (x1+1)),l1)
   else
    some (.ok out1)
 partial_fixpoint
def rU (op_:Int) (a_:Arr):Option (Arr×Int):=
 iK a_>>=λe=>
 if (e != 0) then
  some ((Arr.mk [] []),e)
 else
  (
   if (op_==1) then
    some (op_==1)
   else
    if (op_==2) then
     some (op_==2)
    else
     if (op_==3) then
      some (op_==3)
     else
      some (op_==4)
  : Option (Bool))>>=λx=>
  if x then
   lapp [] a_.shape>>=λl=>
   (
    mU (op_,a_,l,0,[])
   : Option (Except (Arr×Int) (List aA)))>>=λres=>match res with
   |.error r=>some r
   |.ok out11=>
    some ((Arr.mk l out11),0)
  else
   if (op_==19) then
    some ((Arr.mk [] []),10)
   else
    some ((Arr.mk [] []),1)
def jG (a:(List Arr)×Int):Option (Except (Int) (Unit)):=match a with
  |(l,x)=>
   if (decide (x<(List.length l:Int))) then
    lget l x>>=λy=>
    iK y>>=λe=>
    if (e != 0) then
     some (.error e)
    else
     jG (l,(w64 (x+1)))
   else
    some (.ok ())
 partial_fixpoint
def pG (l:(List Arr)):Option (Int):=
 (
  jG (l,0)
 : Option (Except (Int) (Unit)))>>=λres=>match res with
 |.error r=>some r
 |.ok _=>
  some 0
def lL (a:(List aA)×Int):Option (Except (Bool) (Unit)):=match a with
  |(l,x)=>
   if (decide (x<(List.length l:Int))) then
    lget l x>>=λy=>
    if (y.kind==2) then
     some (.error false)
    else
     lget l 0>>=λy1=>
     if (y.kind != y1.kind) then
      some (.error false)
     else
      lL (l,(w64 (x+1)))
   else
    some (.ok ())
 partial_fixpoint
def wP (l:(List aA)):Option (Bool):=
 (
  lL (l,0)
 : Option (Except (Bool) (Unit)))>>=λres=>match res with
 |.error r=>some r
 |.ok _=>
  some true
def lK (a:Arr×Int×Int×(List (List aA))×Int):Option ((List (List aA))):=match a with
  |(a_,k,y2,l,x)=>
   if (decide (x<y2)) then
    Af0 a_.cells (w64 (x*k)) (w64 ((w64 (x+1))*k))>>=λl1=>
    lapp l [l1]>>=λl2=>
    lK (a_,k,y2,l2,(w64 (x+1)))
   else
    some l
 partial_fixpoint
def sS (a_:Arr):Option ((List (List aA))):=
 lget a_.shape 0>>=λy=>
 if (y==0) then
  some []
 else
  lget a_.shape 0>>=λy1=>
  idiv .i64 (List.length a_.cells:Int) y1>>=λk=>
  lget a_.shape 0>>=λy2=>
  (
   lK (a_,k,y2,[],0)
  : Option ((List (List aA))))>>=λl3=>
  some l3
def p_arr_order_int (a_:Int) (b:Int):Option (Int):=
 if (decide (a_<b)) then
  some (-1)
 else
  if (decide (a_>b)) then
   some 1
  else
   some 0
def oD (a_:Int) (b:Int):Option (Int):=
 if (decide (a_<b)) then
  some (-1)
 else
  if (decide (a_>b)) then
   some 1
  else
   some 0
def Ac1 (i:Int) (a_:Arr) (a_1:Arr):Option (Int):=
 lget a_.shape i>>=λy=>
 lget a_1.shape i>>=λy1=>
 p_arr_order_int y y1>>=λx=>
 some x
def dK (a:Int×Arr×Arr×Int):Option (Except (Int) (Unit)):=match a with
  |(n,b,b1,x)=>
   if (decide (x<n)) then
    Ac1 x b b1>>=λo=>
    if (o != 0) then
     some (.error o)
    else
     dK (n,b,b1,(w64 (x+1)))
   else
    some (.ok ())
 partial_fixpoint
def p_arr_Cmp_1__arr_Cmp_2 (n:Int) (b:Arr) (b1:Arr):Option (Int):=
 (
  dK (n,b,b1,0)
 : Option (Except (Int) (Unit)))>>=λres=>match res with
 |.error r=>some r
 |.ok _=>
  some 0
mutual
def mS (a:aA×aA):Option (Int):=match a with
  |(a_,b)=>
   p_arr_order_int a_.kind b.kind>>=λo=>
   if (o != 0) then
    some o
   else
    oD a_.n b.n>>=λo1=>
    if (o1 != 0) then
     if (o1==0) then
      p_arr_order_int (List.length a_.box:Int) (List.length b.box:Int)>>=λx=>
      some x
     else
      some o1
    else
     if ((List.length a_.box:Int)==0) then
      if (o1==0) then
       p_arr_order_int (List.length a_.box:Int) (List.length b.box:Int)>>=λx1=>
       some x1
      else
       some o1
     else
      if ((List.length b.box:Int)==0) then
       if (o1==0) then
        p_arr_order_int (List.length a_.box:Int) (List.length b.box:Int)>>=λx2=>
        some x2
       else
        some o1
      else
       lget a_.box 0>>=λy=>
       lget b.box 0>>=λy1=>
       xM (y,y1)>>=λx3=>
       some x3
 partial_fixpoint
def xM (a:Arr×Arr):Option (Int):=match a with
  |(a_,b)=>
   p_arr_order_int (List.length a_.shape:Int) (List.length b.shape:Int)>>=λo=>
   if (o != 0) then
    some o
   else
    p_arr_Cmp_1__arr_Cmp_2 (List.length a_.shape:Int) a_ b>>=λo1=>
    if (o1 != 0) then
     some o1
    else
     p_arr_Cmp_1__arr_Cmp_3 ((if (List.length b.cells:Int)<(List.length a_.cells:Int) then (List.length b.cells:Int) else (List.length a_.cells:Int)),a_,b)>>=λo2=>
     if (o2 != 0) then
      some o2
     else
      p_arr_order_int (List.length a_.cells:Int) (List.length b.cells:Int)>>=λx=>
      some x
 partial_fixpoint
def dL (a:Int×Arr×Arr×Int):Option (Except (Int) (Unit)):=match a with
  |(n,b,b1,x)=>
   if (decide (x<n)) then
    Ac2 (x,b,b1)>>=λo=>
    if (o != 0) then
     some (.error o)
    else
     dL (n,b,b1,(w64 (x+1)))
   else
    some (.ok ())
 partial_fixpoint
def p_arr_Cmp_1__arr_Cmp_3 (a:Int×Arr×Arr):Option (Int):=match a with
  |(n,b,b1)=>
   (
    dL (n,b,b1,0)
   : Option (Except (Int) (Unit)))>>=λres=>match res with
   |.error r=>some r
   |.ok _=>
    some 0
 partial_fixpoint
def Ac2 (a:Int×Arr×Arr):Option (Int):=match a with
  |(i,a_,a_1)=>
   lget a_.cells i>>=λy=>
   lget a_1.cells i>>=λy1=>
   mS (y,y1)>>=λx=>
   some x
 partial_fixpoint
end
def bV (a:(List aA)×(List aA)×Int):Option (Except (Int) (Unit)):=match a with
  |(s1,s2,x)=>
   if (decide (x<(List.length s1:Int))) then
    lget s1 x>>=λy=>
    if (decide (x>=(List.length s2:Int))) then
     some (.error 1)
    else
     lget s2 x>>=λy1=>
     mS (y,y1)>>=λc=>
     if (c != 0) then
      some (.error c)
     else
      bV (s1,s2,(w64 (x+1)))
   else
    some (.ok ())
 partial_fixpoint
def cG (s1:(List aA)) (s2:(List aA)):Option (Int):=
 (
  bV (s1,s2,0)
 : Option (Except (Int) (Unit)))>>=λres=>match res with
 |.error r=>some r
 |.ok _=>
  if (decide ((List.length s1:Int)<(List.length s2:Int))) then
   some (-1)
  else
   some 0
def kO (i:Int) (k:Int) (a_:(List (List aA))) (a_1:Bool):Option (Int):=
 lget a_ i>>=λy=>
 lget a_ k>>=λy1=>
 cG y y1>>=λo=>
 if a_1 then
  some (w64 (0-o))
 else
  some o
def aW (a:Nat×Int×Int×((List (List aA)))×Bool×Int×Int×LI):Option LI:=match a with
  |(n,a_,b,b1,b2,i,j,data2)=>
   if (decide (j>a_)) then
    aidx j n>>=λj1=>
    pQ data2 j1>>=λy=>
    aidx (w64 (j-1)) n>>=λj2=>
    pQ data2 j2>>=λy1=>
    kO y y1 b1 b2>>=λx=>
    if (decide (x<0)) then
     aidx (w64 (j-1)) n>>=λj3=>
     pQ data2 j3>>=λy2=>
     aidx j n>>=λj4=>
     pQ data2 j4>>=λy3=>
     aidx j n>>=λj5=>
     aset data2 j5 y2>>=λdata3=>
     aidx (w64 (j-1)) n>>=λj6=>
     aset data3 j6 y3>>=λdata4=>
     aW (n,a_,b,b1,b2,i,(w64 (j-1)),data4)
    else
     some data2
   else
    some data2
 partial_fixpoint
def aV (a:Nat×Int×Int×((List (List aA)))×Bool×Int×LI):Option LI:=match a with
  |(n,a_,b,b1,b2,i,data1)=>
   if (decide (i<b)) then
    (
     aW (n,a_,b,b1,b2,i,i,data1)
    : Option LI)>>=λdata5=>
    aV (n,a_,b,b1,b2,(w64 (i+1)),data5)
   else
    some data1
 partial_fixpoint
def bO (n:Nat) (a_:Int) (b:Int) (data:LI) (b1:(List (List aA))) (b2:Bool):Option LI:=
 (
  aV (n,a_,b,b1,b2,(w64 (a_+1)),data)
 : Option LI)>>=λc0=>
 some c0
def bB (a:Nat×Int×Int×Int×((List (List aA)))×Bool×Int×LI):Option LI:=match a with
  |(n,a_,b,n1,b1,b2,i,data1)=>
   if (decide (i<n1)) then
    aidx (w64 (b+i)) n>>=λj=>
    pQ data1 j>>=λy=>
    aidx (w64 (a_+i)) n>>=λj1=>
    pQ data1 j1>>=λy1=>
    aidx (w64 (a_+i)) n>>=λj2=>
    aset data1 j2 y>>=λdata2=>
    aidx (w64 (b+i)) n>>=λj3=>
    aset data2 j3 y1>>=λdata3=>
    bB (n,a_,b,n1,b1,b2,(w64 (i+1)),data3)
   else
    some data1
 partial_fixpoint
def bK (n:Nat) (a_:Int) (b:Int) (n1:Int) (data:LI) (b1:(List (List aA))) (b2:Bool):Option LI:=
 (
  bB (n,a_,b,n1,b1,b2,0,data)
 : Option LI)>>=λc0=>
 some c0
def bF (a:Nat×Int×((List (List aA)))×Bool×Int×LI×Int):Option (Int×LI):=match a with
  |(n,m,b1,b2,i,data1,j)=>
   if (i != j) then
    if (decide (i>j)) then
     bK n (w64 (m-i)) m j data1 b1 b2>>=λx=>
     bF (n,m,b1,b2,(w64 (i-j)),x,j)
    else
     bK n (w64 (m-i)) (w64 ((w64 (m+j))-i)) i data1 b1 b2>>=λx1=>
     bF (n,m,b1,b2,i,x1,(w64 (j-i)))
   else
    some (i,data1)
 partial_fixpoint
def cK (n:Nat) (a_:Int) (m:Int) (b:Int) (data:LI) (b1:(List (List aA))) (b2:Bool):Option LI:=
 (
  bF (n,m,b1,b2,(w64 (m-a_)),data,(w64 (b-m)))
 : Option (Int×LI))>>=λ(i1,data2)=>
 bK n (w64 (m-i1)) m i1 data2 b1 b2>>=λx2=>
 some x2
def aL (a:Nat×Int×LI×((List (List aA)))×Bool×Int×Int):Option (Int):=match a with
  |(n,a_,data,b1,b2,i,j)=>
   if (decide (i<j)) then
    aidx (w64 (Int.fdiv (IntKind.u64.wrap (w64 (i+j))) (2 ^ 1))) n>>=λj1=>
    pQ data j1>>=λy=>
    aidx a_ n>>=λj2=>
    pQ data j2>>=λy1=>
    kO y y1 b1 b2>>=λx=>
    if (decide (x<0)) then
     aL (n,a_,data,b1,b2,(w64 ((w64 (Int.fdiv (IntKind.u64.wrap (w64 (i+j))) (2 ^ 1)))+1)),j)
    else
     aL (n,a_,data,b1,b2,i,(w64 (Int.fdiv (IntKind.u64.wrap (w64 (i+j))) (2 ^ 1))))
   else
    some i
 partial_fixpoint
def aS (a:Nat×((List (List aA)))×Bool×Int×Int×LI):Option LI:=match a with
  |(n,b1,b2,i1,k,data1)=>
   if (decide (k<(w64 (i1-1)))) then
    aidx (w64 (k+1)) n>>=λj3=>
    pQ data1 j3>>=λy2=>
    aidx k n>>=λj4=>
    pQ data1 j4>>=λy3=>
    aidx k n>>=λj5=>
    aset data1 j5 y2>>=λdata2=>
    aidx (w64 (k+1)) n>>=λj6=>
    aset data2 j6 y3>>=λdata3=>
    aS (n,b1,b2,i1,(w64 (k+1)),data3)
   else
    some data1
 partial_fixpoint
def aM (a:Nat×Int×LI×((List (List aA)))×Bool×Int×Int):Option (Int):=match a with
  |(n,m,data,b1,b2,i2,j7)=>
   if (decide (i2<j7)) then
    aidx m n>>=λj8=>
    pQ data j8>>=λy4=>
    aidx (w64 (Int.fdiv (IntKind.u64.wrap (w64 (i2+j7))) (2 ^ 1))) n>>=λj9=>
    pQ data j9>>=λy5=>
    kO y4 y5 b1 b2>>=λx1=>
    if (!(decide (x1<0))) then
     aM (n,m,data,b1,b2,(w64 ((w64 (Int.fdiv (IntKind.u64.wrap (w64 (i2+j7))) (2 ^ 1)))+1)),j7)
    else
     aM (n,m,data,b1,b2,i2,(w64 (Int.fdiv (IntKind.u64.wrap (w64 (i2+j7))) (2 ^ 1))))
   else
    some i2
 partial_fixpoint
def aT (a:Nat×((List (List aA)))×Bool×Int×Int×LI):Option LI:=match a with
  |(n,b1,b2,i3,k1,data4)=>
   if (decide (k1>i3)) then
    aidx (w64 (k1-1)) n>>=λj10=>
    pQ data4 j10>>=λy6=>
    aidx k1 n>>=λj11=>
    pQ data4 j11>>=λy7=>
    aidx k1 n>>=λj12=>
    aset data4 j12 y6>>=λdata5=>
    aidx (w64 (k1-1)) n>>=λj13=>
    aset data5 j13 y7>>=λdata6=>
    aT (n,b1,b2,i3,(w64 (k1-1)),data6)
   else
    some data4
 partial_fixpoint
def aN (a:Nat×Int×Int×Int×LI×((List (List aA)))×Bool×Int×Int):Option (Int):=match a with
  |(n,a_,m,b,data,b1,b2,start1,r_1)=>
   if (decide (start1<r_1)) then
    aidx (w64 ((w64 ((w64 ((w64 (Int.fdiv (IntKind.u64.wrap (w64 (a_+b))) (2 ^ 1)))+m))-1))-(w64 (Int.fdiv (IntKind.u64.wrap (w64 (start1+r_1))) (2 ^ 1))))) n>>=λj14=>
    pQ data j14>>=λy8=>
    aidx (w64 (Int.fdiv (IntKind.u64.wrap (w64 (start1+r_1))) (2 ^ 1))) n>>=λj15=>
    pQ data j15>>=λy9=>
    kO y8 y9 b1 b2>>=λx2=>
    if (!(decide (x2<0))) then
     aN (n,a_,m,b,data,b1,b2,(w64 ((w64 (Int.fdiv (IntKind.u64.wrap (w64 (start1+r_1))) (2 ^ 1)))+1)),r_1)
    else
     aN (n,a_,m,b,data,b1,b2,start1,(w64 (Int.fdiv (IntKind.u64.wrap (w64 (start1+r_1))) (2 ^ 1))))
   else
    some start1
 partial_fixpoint
def aC (a:Nat×Int×Int×Int×LI×(List (List aA))×Bool):Option LI:=match a with
  |(n,a_,m,b,data,b1,b2)=>
   if ((w64 (m-a_))==1) then
    (
     aL (n,a_,data,b1,b2,m,b)
    : Option (Int))>>=λi1=>
    (
     aS (n,b1,b2,i1,a_,data)
    : Option LI)>>=λc0=>
    some c0
   else
    if ((w64 (b-m))==1) then
     (
      aM (n,m,data,b1,b2,a_,m)
     : Option (Int))>>=λi3=>
     (
      aT (n,b1,b2,i3,m,data)
     : Option LI)>>=λc01=>
     some c01
    else
     (
      if (decide (m>(w64 (Int.fdiv (IntKind.u64.wrap (w64 (a_+b))) (2 ^ 1))))) then
       some ((w64 ((w64 ((w64 (Int.fdiv (IntKind.u64.wrap (w64 (a_+b))) (2 ^ 1)))+m))-b)),(w64 (Int.fdiv (IntKind.u64.wrap (w64 (a_+b))) (2 ^ 1))))
      else
       some (a_,m)
     : Option (Int×Int))>>=λ(start,r_)=>
     (
      aN (n,a_,m,b,data,b1,b2,start,r_)
     : Option (Int))>>=λstart2=>
     if (decide (start2<m)) then
      (
       if (decide (m<(w64 ((w64 ((w64 (Int.fdiv (IntKind.u64.wrap (w64 (a_+b))) (2 ^ 1)))+m))-start2)))) then
        cK n start2 m (w64 ((w64 ((w64 (Int.fdiv (IntKind.u64.wrap (w64 (a_+b))) (2 ^ 1)))+m))-start2)) data b1 b2>>=λx3=>
        some x3
       else
        some data
      : Option LI)>>=λdata7=>
      if (decide (a_<start2)) then
       (
        if (decide (start2<(w64 (Int.fdiv (IntKind.u64.wrap (w64 (a_+b))) (2 ^ 1))))) then
         aC (n,a_,start2,(w64 (Int.fdiv (IntKind.u64.wrap (w64 (a_+b))) (2 ^ 1))),data7,b1,b2)>>=λx4=>
         some x4
        else
         some data7
       : Option LI)>>=λdata8=>
       if (decide ((w64 (Int.fdiv (IntKind.u64.wrap (w64 (a_+b))) (2 ^ 1)))<(w64 ((w64 ((w64 (Int.fdiv (IntKind.u64.wrap (w64 (a_+b))) (2 ^ 1)))+m))-start2)))) then
        if (decide ((w64 ((w64 ((w64 (Int.fdiv (IntKind.u64.wrap (w64 (a_+b))) (2 ^ 1)))+m))-start2))<b)) then
         aC (n,(w64 (Int.fdiv (IntKind.u64.wrap (w64 (a_+b))) (2 ^ 1))),(w64 ((w64 ((w64 (Int.fdiv (IntKind.u64.wrap (w64 (a_+b))) (2 ^ 1)))+m))-start2)),b,data8,b1,b2)>>=λx5=>
         some x5
        else
         some data8
       else
        some data8
      else
       if (decide ((w64 (Int.fdiv (IntKind.u64.wrap (w64 (a_+b))) (2 ^ 1)))<(w64 ((w64 ((w64 (Int.fdiv (IntKind.u64.wrap (w64 (a_+b))) (2 ^ 1)))+m))-start2)))) then
        if (decide ((w64 ((w64 ((w64 (Int.fdiv (IntKind.u64.wrap (w64 (a_+b))) (2 ^ 1)))+m))-start2))<b)) then
         aC (n,(w64 (Int.fdiv (IntKind.u64.wrap (w64 (a_+b))) (2 ^ 1))),(w64 ((w64 ((w64 (Int.fdiv (IntKind.u64.wrap (w64 (a_+b))) (2 ^ 1)))+m))-start2)),b,data7,b1,b2)>>=λx6=>
         some x6
        else
         some data7
       else
        some data7
     else
      if (decide (a_<start2)) then
       (
        if (decide (start2<(w64 (Int.fdiv (IntKind.u64.wrap (w64 (a_+b))) (2 ^ 1))))) then
         aC (n,a_,start2,(w64 (Int.fdiv (IntKind.u64.wrap (w64 (a_+b))) (2 ^ 1))),data,b1,b2)>>=λx7=>
         some x7
        else
         some data
       : Option LI)>>=λdata9=>
       if (decide ((w64 (Int.fdiv (IntKind.u64.wrap (w64 (a_+b))) (2 ^ 1)))<(w64 ((w64 ((w64 (Int.fdiv (IntKind.u64.wrap (w64 (a_+b))) (2 ^ 1)))+m))-start2)))) then
        if (decide ((w64 ((w64 ((w64 (Int.fdiv (IntKind.u64.wrap (w64 (a_+b))) (2 ^ 1)))+m))-start2))<b)) then
         aC (n,(w64 (Int.fdiv (IntKind.u64.wrap (w64 (a_+b))) (2 ^ 1))),(w64 ((w64 ((w64 (Int.fdiv (IntKind.u64.wrap (w64 (a_+b))) (2 ^ 1)))+m))-start2)),b,data9,b1,b2)>>=λx8=>
         some x8
        else
         some data9
       else
        some data9
      else
       if (decide ((w64 (Int.fdiv (IntKind.u64.wrap (w64 (a_+b))) (2 ^ 1)))<(w64 ((w64 ((w64 (Int.fdiv (IntKind.u64.wrap (w64 (a_+b))) (2 ^ 1)))+m))-start2)))) then
        if (decide ((w64 ((w64 ((w64 (Int.fdiv (IntKind.u64.wrap (w64 (a_+b))) (2 ^ 1)))+m))-start2))<b)) then
         aC (n,(w64 (Int.fdiv (IntKind.u64.wrap (w64 (a_+b))) (2 ^ 1))),(w64 ((w64 ((w64 (Int.fdiv (IntKind.u64.wrap (w64 (a_+b))) (2 ^ 1)))+m))-start2)),b,data,b1,b2)>>=λx9=>
         some x9
        else
         some data
       else
        some data
 partial_fixpoint
def bG (a:Nat×Int×((List (List aA)))×Bool×Int×Int×LI):Option (Int×LI):=match a with
  |(n,n1,b,b1,a_,b2,data1)=>
   if (decide (b2<=n1)) then
    bO n a_ b2 data1 b b1>>=λx=>
    bG (n,n1,b,b1,b2,(w64 (b2+20)),x)
   else
    some (a_,data1)
 partial_fixpoint
def bI (a:Nat×Int×((List (List aA)))×Bool×Int×Int×Int×LI):Option (Int×LI):=match a with
  |(n,n1,b,b1,blockSize,a_2,b3,data4)=>
   if (decide (b3<=n1)) then
    aC (n,a_2,(w64 (a_2+blockSize)),b3,data4,b,b1)>>=λx2=>
    bI (n,n1,b,b1,blockSize,b3,(w64 (b3+(w64 (2*blockSize)))),x2)
   else
    some (a_2,data4)
 partial_fixpoint
def bH (a:Nat×Int×((List (List aA)))×Bool×Int×LI):Option LI:=match a with
  |(n,n1,b,b1,blockSize,data3)=>
   if (decide (blockSize<n1)) then
    (
     bI (n,n1,b,b1,blockSize,0,(w64 (2*blockSize)),data3)
    : Option (Int×LI))>>=λ(a_3,data5)=>
    (
     if (decide ((w64 (a_3+blockSize))<n1)) then
      aC (n,a_3,(w64 (a_3+blockSize)),n1,data5,b,b1)>>=λx3=>
      some x3
     else
      some data5
    : Option LI)>>=λdata6=>
    bH (n,n1,b,b1,(w64 (blockSize*2)),data6)
   else
    some data3
 partial_fixpoint
def p_slices_stableCmpFunc_int__seek_grade_1 (n:Nat) (n1:Int) (data:LI) (b:(List (List aA))) (b1:Bool):Option LI:=
 (
  bG (n,n1,b,b1,0,20,data)
 : Option (Int×LI))>>=λ(a_1,data2)=>
 bO n a_1 n1 data2 b b1>>=λx1=>
 (
  bH (n,n1,b,b1,20,x1)
 : Option LI)>>=λc0=>
 some c0
def p_slices_SortStableFunc_int__seek_grade_1 (n:Nat) (a_:LI) (b:(List (List aA))) (b1:Bool):Option LI:=
 p_slices_stableCmpFunc_int__seek_grade_1 n (n:Int) a_ b b1>>=λx=>
 some x
def lH (a:Arr×Bool×((List (List aA)))×Int×LI):Option LI:=match a with
  |(a_,down,x1,x2,by_1)=>
   if (decide (x2<((Int.toNat (List.length x1:Int)):Int))) then
    aidx x2 (Int.toNat (List.length x1:Int))>>=λj=>
    aset by_1 j x2>>=λby_2=>
    lH (a_,down,x1,(w64 (x2+1)),by_2)
   else
    some by_1
 partial_fixpoint
def lJ (a:Arr×Bool×((List (List aA)))×LI×Int×(List aA)):Option (List aA):=match a with
  |(a_,down,x1,x3,x4,out1)=>
   if (decide (x4<((Int.toNat (List.length x1:Int)):Int))) then
    aidx x4 (Int.toNat (List.length x1:Int))>>=λi=>
    pQ x3 i>>=λi1=>
    lapp out1 [(aA.mk 0 i1 [])]>>=λl=>
    lJ (a_,down,x1,x3,(w64 (x4+1)),l)
   else
    some out1
 partial_fixpoint
def wN (a_:Arr) (down:Bool):Option (Arr×Int):=
 if ((List.length a_.shape:Int)==0) then
  some ((Arr.mk [] []),6)
 else
  wP a_.cells>>=λx=>
  if (!x) then
   some ((Arr.mk [] []),5)
  else
   sS a_>>=λx1=>
   mkarr (List.length x1:Int) 0>>=λby_=>
   (
    lH (a_,down,x1,0,by_)
   : Option LI)>>=λby_3=>
   p_slices_SortStableFunc_int__seek_grade_1 (Int.toNat (List.length x1:Int)) by_3 x1 down>>=λx3=>
   (
    lJ (a_,down,x1,x3,0,[])
   : Option (List aA))>>=λout11=>
   some ((Arr.mk [((Int.toNat (List.length x1:Int)):Int)] out11),0)
def uG (y:(List aA)) (a_:(List aA)):Option (Bool):=
 cG a_ y>>=λx=>
 some (x==0)
def bP (a:((List (List aA)))×(List aA)×Int):Option (Except (Int) (Unit)):=match a with
  |(s,b,x)=>
   if (decide (x<(List.length s:Int))) then
    lget s x>>=λy=>
    uG y b>>=λx1=>
    if x1 then
     some (.error x)
    else
     bP (s,b,(w64 (x+1)))
   else
    some (.ok ())
 partial_fixpoint
def dU (s:(List (List aA))) (b:(List aA)):Option (Int):=
 (
  bP (s,b,0)
 : Option (Except (Int) (Unit)))>>=λres=>match res with
 |.error r=>some r
 |.ok _=>
  some (-1)
def cE (s:(List (List aA))) (b:(List aA)):Option (Bool):=
 dU s b>>=λx=>
 some (decide (x>=0))
def jZ (a:Arr×LI×Nat×LI×((List (List aA)))×(List (List aA))×Int×(List aA)):Option ((List (List aA))×(List aA)):=match a with
  |(x,x0,x1,b,x2,kept,x3,out1)=>
   if (decide (x3<(List.length x2:Int))) then
    (
     lget x2 x3>>=λy=>
     cE kept y>>=λx4=>
     if (!x4) then
      lapp kept [y]>>=λkept1=>
      lapp out1 y>>=λl=>
      some (kept1,l)
     else
      some (kept,out1)
    : Option ((List (List aA))×(List aA)))>>=λ(kept2,out11)=>
    jZ (x,x0,x1,b,x2,kept2,(w64 (x3+1)),out11)
   else
    some (kept,out1)
 partial_fixpoint
def tT (a_:Arr):Option (Arr):=
 fE a_>>=λx=>
 (
  if ((List.length x.shape:Int)==0) then
   some [1]
  else
   some x.shape
 : Option LI)>>=λx0=>
 rM x0>>=λ(x1,b)=>
 sS (Arr.mk x0 x.cells)>>=λx2=>
 (
  jZ (x,x0,x1,b,x2,[],0,[])
 : Option ((List (List aA))×(List aA)))>>=λ(kept3,out12)=>
 aidx 0 x1>>=λj=>
 aset b j (List.length kept3:Int)>>=λb1=>
 afrz x1 b1>>=λshape=>
 some (Arr.mk shape out12)
def qX (op_:Int) (a_:Arr):Option (Arr×Int):=
 pG [a_]>>=λe=>
 if (e != 0) then
  some ((Arr.mk [] []),e)
 else
  (
   if (op_==12) then
    some (op_==12)
   else
    some (op_==13)
  : Option (Bool))>>=λx=>
  if x then
   wN a_ (op_==13)>>=λ(x1,x2)=>
   some (x1,x2)
  else
   if (op_==14) then
    tT a_>>=λx3=>
    some (x3,0)
   else
    some ((Arr.mk [] []),1)
def jD (a:Arr×aA×Int×Int×(List aA)):Option (List aA):=match a with
  |(a_,y3,y4,x,out1)=>
   if (decide (x<y4)) then
    lapp out1 [(aA.mk 0 x [])]>>=λl=>
    jD (a_,y3,y4,(w64 (x+1)),l)
   else
    some out1
 partial_fixpoint
def rX (a_:Arr):Option (Arr×Int):=
 if (decide ((List.length a_.shape:Int)>0)) then
  some ((Arr.mk [] []),6)
 else
  lget a_.cells 0>>=λy=>
  if (y.kind != 0) then
   some ((Arr.mk [] []),5)
  else
   lget a_.cells 0>>=λy1=>
   if (decide (y1.n<0)) then
    some ((Arr.mk [] []),5)
   else
    lget a_.cells 0>>=λy2=>
    if (decide (y2.n>16384)) then
     some ((Arr.mk [] []),12)
    else
     lget a_.cells 0>>=λy3=>
     lget [y3.n] 0>>=λy4=>
     (
      jD (a_,y3,y4,0,[])
     : Option (List aA))>>=λout11=>
     some ((Arr.mk [y3.n] out11),0)
def Ae8 (n:Int):Option (Arr):=
 some (Arr.mk [] [(aA.mk 0 n [])])
def rY (a_:Arr):Option (Int):=
 if ((List.length a_.shape:Int)==0) then
  some 1
 else
  lget a_.shape 0>>=λy=>
  some y
def hJ (a:Arr×Int×LI×Int×Int):Option (Int):=match a with
  |(a_,axis,l,inner,x)=>
   if (decide (x<(List.length l:Int))) then
    lget l x>>=λd=>
    hJ (a_,axis,l,(w64 (inner*d)),(w64 (x+1)))
   else
    some inner
 partial_fixpoint
def hO (a:Arr×Int×Int×Int×(List aA)×Int):Option (List aA):=match a with
  |(a_,inner1,d1,at_,out1,i)=>
   if (decide (i>=0)) then
    Af0 a_.cells (w64 (at_+(w64 (i*inner1)))) (w64 (at_+(w64 ((w64 (i+1))*inner1))))>>=λl1=>
    lapp out1 l1>>=λout2=>
    hO (a_,inner1,d1,at_,out2,(w64 (i-1)))
   else
    some out1
 partial_fixpoint
def fP (a:Arr×Int×Int×(List aA)×Int):Option (List aA):=match a with
  |(a_,inner1,d1,out,at_)=>
   if (decide (at_<(List.length a_.cells:Int))) then
    (
     hO (a_,inner1,d1,at_,out,(w64 (d1-1)))
    : Option (List aA))>>=λout3=>
    fP (a_,inner1,d1,out3,(w64 (at_+(w64 (d1*inner1)))))
   else
    some out
 partial_fixpoint
def p_layout_turned (a_:Arr) (axis:Int):Option (Arr):=
 if ((List.length a_.shape:Int)==0) then
  some a_
 else
  lfrom a_.shape (w64 (axis+1))>>=λl=>
  (
   hJ (a_,axis,l,1,0)
  : Option (Int))>>=λinner1=>
  lget a_.shape axis>>=λd1=>
  (
   fP (a_,inner1,d1,[],0)
  : Option (List aA))>>=λout4=>
  some (Arr.mk a_.shape out4)
def gF (a:Arr×Nat×LI×Int×LI×(List aA)×Int×Int):Option (Int):=match a with
  |(a_,x,x1,x2,at_1,out1,n,x3)=>
   if (decide (x3<((Int.toNat (x:Int)):Int))) then
    lget a_.shape x3>>=λy=>
    aidx (w64 ((w64 (((Int.toNat (x:Int)):Int)-1))-x3)) (Int.toNat (x:Int))>>=λj=>
    pQ at_1 j>>=λy1=>
    gF (a_,x,x1,x2,at_1,out1,(w64 ((w64 (n*y))+y1)),(w64 (x3+1)))
   else
    some n
 partial_fixpoint
def p_layout_flipped_l2 (a:Arr×Nat×LI×Int×(List aA)×Int×LI):Option (Except LI LI):=match a with
  |(a_,x,x1,x2,l,i,at_2)=>
   if (decide (i>=0)) then
    aidx i (Int.toNat (x:Int))>>=λj1=>
    pQ at_2 j1>>=λy3=>
    aidx i (Int.toNat (x:Int))>>=λj2=>
    aset at_2 j2 (w64 (y3+1))>>=λat_3=>
    aidx i (Int.toNat (x:Int))>>=λj3=>
    pQ at_3 j3>>=λy4=>
    aidx i x>>=λj4=>
    pQ x1 j4>>=λy5=>
    if (decide (y4<y5)) then
     some (.error at_3)
    else
     aidx i (Int.toNat (x:Int))>>=λj5=>
     aset at_3 j5 0>>=λat_4=>
     p_layout_flipped_l2 (a_,x,x1,x2,l,(w64 (i-1)),at_4)
   else
    some (.ok at_2)
 partial_fixpoint
def fA (a:Arr×Nat×LI×Int×LI×(List aA)):Option (LI×(List aA)):=match a with
  |(a_,x,x1,x2,at_1,out1)=>
   if (decide (x2<(List.length a_.cells:Int))) then
    (
     (
      gF (a_,x,x1,x2,at_1,out1,0,0)
     : Option (Int))>>=λn1=>
     lget a_.cells n1>>=λy2=>
     lapp out1 [y2]>>=λl=>
     p_layout_flipped_l2 (a_,x,x1,x2,l,(w64 (((Int.toNat (x:Int)):Int)-1)),at_1)>>=λres=>match res with
     |.error at_6=>
      some (at_6,l)
     |.ok at_5=>
      some (at_5,l)
    : Option (LI×(List aA)))>>=λ(at_7,out11)=>
    fA (a_,x,x1,(w64 (x2+1)),at_7,out11)
   else
    some (at_1,out1)
 partial_fixpoint
def pD (a_:Arr):Option (Arr):=
 rM a_.shape>>=λ(x,b)=>
 AaP x b>>=λx1=>
 mkarr (x:Int) 0>>=λat_=>
 (
  fA (a_,x,x1,0,at_,[])
 : Option (LI×(List aA)))>>=λ(c0,out12)=>
 afrz x x1>>=λshape=>
 some (Arr.mk shape out12)
mutual
def kC (a:Arr×Int×Int):Option (Int):=match a with
  |(a_,n,x)=>
   if (decide (x<(List.length a_.cells:Int))) then
    (
     lget a_.cells x>>=λy=>
     if (decide ((List.length y.box:Int)>0)) then
      lget y.box 0>>=λy1=>
      uP y1>>=λx1=>
      some (if n<(w64 (1+x1)) then (w64 (1+x1)) else n)
     else
      some n
    : Option (Int))>>=λn1=>
    kC (a_,n1,(w64 (x+1)))
   else
    some n
 partial_fixpoint
def uP (a:Arr):Option (Int):=match a with
  |a_=>
   (
    kC (a_,0,0)
   : Option (Int))>>=λn2=>
   some n2
 partial_fixpoint
end
def tP (a_:Arr):Option (Arr×Int):=
 if (decide ((List.length a_.shape:Int)>0)) then
  some ((Arr.mk [] []),6)
 else
  lget a_.cells 0>>=λy=>
  if (y.kind==2) then
   lget a_.cells 0>>=λy1=>
   lget y1.box 0>>=λy2=>
   some (y2,0)
  else
   some (a_,0)
def rW (a_:Arr):Option (Arr×Int):=
 if ((List.length a_.shape:Int)==0) then
  some (a_,0)
 else
  lget a_.shape 0>>=λy=>
  if (y==0) then
   some ((Arr.mk [] []),8)
  else
   lfrom a_.shape 1>>=λl=>
   lget a_.shape 0>>=λy1=>
   idiv .i64 (List.length a_.cells:Int) y1>>=λq=>
   lto a_.cells q>>=λl1=>
   some ((Arr.mk l l1),0)
def nA (a:Arr×Int×(List aA)):Option (List aA):=match a with
  |(x,x3,out1)=>
   if (decide (x3<(List.length x.shape:Int))) then
    lget x.shape x3>>=λd=>
    lapp out1 [(aA.mk 0 d [])]>>=λl=>
    nA (x,(w64 (x3+1)),l)
   else
    some out1
 partial_fixpoint
def yL (op_:Int) (a_:Arr):Option (Arr×Int):=
 iK a_>>=λe=>
 if (e != 0) then
  some ((Arr.mk [] []),e)
 else
  fE a_>>=λx=>
  if (op_==5) then
   rX x>>=λ(x1,x2)=>
   some (x1,x2)
  else
   if (op_==6) then
    (
     nA (x,0,[])
    : Option (List aA))>>=λout11=>
    some ((Arr.mk [(List.length x.shape:Int)] out11),0)
   else
    if (op_==7) then
     rY x>>=λx4=>
     Ae8 x4>>=λx5=>
     some (x5,0)
    else
     if (op_==8) then
      some ((Arr.mk [(List.length x.cells:Int)] x.cells),0)
     else
      if (op_==9) then
       p_layout_turned x 0>>=λx6=>
       some (x6,0)
      else
       if (op_==10) then
        p_layout_turned x (w64 ((List.length x.shape:Int)-1))>>=λx7=>
        some (x7,0)
       else
        if (op_==11) then
         pD x>>=λx8=>
         some (x8,0)
        else
         if (op_==15) then
          uP x>>=λx9=>
          if (decide (x9>=8)) then
           some ((Arr.mk [] []),15)
          else
           some ((Arr.mk [] [(aA.mk 2 0 [x])]),0)
         else
          if (op_==16) then
           tP x>>=λ(x10,x11)=>
           some (x10,x11)
          else
           if (op_==17) then
            rW x>>=λ(x12,x13)=>
            some (x12,x13)
           else
            if (op_==18) then
             if (decide ((List.length x.shape:Int)>=8)) then
              some ((Arr.mk [] []),6)
             else
              lapp [1] x.shape>>=λl1=>
              some ((Arr.mk l1 x.cells),0)
            else
             some ((Arr.mk [] []),1)
def Aa2 (op_:Int) (a_:Arr):Option (Arr×Int):=
 (
  if (decide (op_>=1)) then
   if (decide (op_<=4)) then
    rU op_ a_>>=λ(x,x1)=>
    some (.error (x,x1))
   else
    if (op_==19) then
     rU op_ a_>>=λ(x2,x3)=>
     some (.error (x2,x3))
    else
     if (op_==12) then
      qX op_ a_>>=λ(x4,x5)=>
      some (.error (x4,x5))
     else
      if (op_==13) then
       qX op_ a_>>=λ(x6,x7)=>
       some (.error (x6,x7))
      else
       if (op_==14) then
        qX op_ a_>>=λ(x8,x9)=>
        some (.error (x8,x9))
       else
        some (.ok ())
  else
   if (op_==19) then
    rU op_ a_>>=λ(x10,x11)=>
    some (.error (x10,x11))
   else
    if (op_==12) then
     qX op_ a_>>=λ(x12,x13)=>
     some (.error (x12,x13))
    else
     if (op_==13) then
      qX op_ a_>>=λ(x14,x15)=>
      some (.error (x14,x15))
     else
      if (op_==14) then
       qX op_ a_>>=λ(x16,x17)=>
       some (.error (x16,x17))
      else
       some (.ok ())
 : Option (Except (Arr×Int) (Unit)))>>=λres=>match res with
 |.error r=>some r
 |.ok _=>
  yL op_ a_>>=λ(x18,x19)=>
  some (x18,x19)
def lA (a:bY×Arr×Arr×LI×Int×aA×Int×(List aA)):Option (Except (Arr×Int) (List aA)):=match a with
  |(f,a_,b,l,x2,y,x3,out11)=>
   if (decide (x3<(List.length b.cells:Int))) then
    lget b.cells x3>>=λy1=>
    vE f y y1>>=λ(x4,e2)=>
    if (e2 != 0) then
     some (.error ((Arr.mk [] []),e2))
    else
     lapp out11 [x4]>>=λl1=>
     lA (f,a_,b,l,x2,y,(w64 (x3+1)),l1)
   else
    some (.ok out11)
 partial_fixpoint
def kZ (a:bY×Arr×Arr×LI×Int×(List aA)):Option (Except (Arr×Int) (List aA)):=match a with
  |(f,a_,b,l,x2,out1)=>
   if (decide (x2<(List.length a_.cells:Int))) then
    lget a_.cells x2>>=λy=>
    (
     lA (f,a_,b,l,x2,y,0,out1)
    : Option (Except (Arr×Int) (List aA)))>>=λres=>match res with
    |.error r=>some (.error r)
    |.ok out12=>
     kZ (f,a_,b,l,(w64 (x2+1)),out12)
   else
    some (.ok out1)
 partial_fixpoint
def sP (f:bY) (a_:Arr) (b:Arr):Option (Arr×Int):=
 jV f [a_,b]>>=λe=>
 if (e != 0) then
  some ((Arr.mk [] []),e)
 else
  rM a_.shape>>=λ(x,b1)=>
  BfF x b1 b.shape>>=λl=>
  jU l>>=λ(x1,e1)=>
  if (e1 != 0) then
   some ((Arr.mk [] []),e1)
  else
   (
    kZ (f,a_,b,l,0,[])
   : Option (Except (Arr×Int) (List aA)))>>=λres=>match res with
   |.error r=>some r
   |.ok out13=>
    some ((Arr.mk l out13),0)
def gG (a:LI×Int×Int):Option (Int):=match a with
  |(a_,m1,i)=>
   if (decide (i<(List.length a_:Int))) then
    lget a_ i>>=λy=>
    gG (a_,(if m1<y then y else m1),(w64 (i+1)))
   else
    some m1
 partial_fixpoint
def pH (a_:LI):Option (Int):=
 if (decide ((List.length a_:Int)<1)) then
  none
 else
  lget a_ 0>>=λm=>
  (
   gG (a_,m,1)
  : Option (Int))>>=λm2=>
  some m2
def hU (a:Arr×LI×Int):Option (Except (LI×Int) LI):=match a with
  |(s,shape1,x)=>
   if (decide (x<(List.length s.cells:Int))) then
    lget s.cells x>>=λy=>
    if (y.kind != 0) then
     some (.error ([],5))
    else
     if (decide (y.n<0)) then
      some (.error ([],5))
     else
      lapp shape1 [(if 16385<y.n then 16385 else y.n)]>>=λshape2=>
      hU (s,shape2,(w64 (x+1)))
   else
    some (.ok shape1)
 partial_fixpoint
def qP (s:Arr):Option (LI×Int):=
 if (decide ((List.length s.shape:Int)>1)) then
  some ([],6)
 else
  mkcap (List.length s.cells:Int)>>=λshape=>
  (
   hU (s,[],0)
  : Option (Except (LI×Int) LI))>>=λres=>match res with
  |.error r=>some r
  |.ok shape3=>
   if (decide ((List.length shape3:Int)>8)) then
    some ([],6)
   else
    lapp shape3 [0]>>=λl=>
    pH l>>=λx1=>
    if (decide (x1>16384)) then
     some ([],12)
    else
     some (shape3,0)
def gD (a:Arr×Arr×Int):Option (Except (Arr×Int) (Unit)):=match a with
  |(s,a_,x)=>
   if (decide (x<(List.length [s,a_]:Int))) then
    lget [s,a_] x>>=λy=>
    iK y>>=λe=>
    if (e != 0) then
     some (.error ((Arr.mk [] []),e))
    else
     gD (s,a_,(w64 (x+1)))
   else
    some (.ok ())
 partial_fixpoint
def gE (a:Arr×Arr×LI×Int×Int×(List aA)):Option (List aA):=match a with
  |(s,a_,shape,n,x1,out1)=>
   if (decide (x1<n)) then
    irem x1 (List.length a_.cells:Int)>>=λq=>
    lget a_.cells q>>=λy1=>
    lapp out1 [y1]>>=λl=>
    gE (s,a_,shape,n,(w64 (x1+1)),l)
   else
    some out1
 partial_fixpoint
def lP (a:Arr×Arr×LI×Int×Int×(List aA)):Option (List aA):=match a with
  |(s,a_,shape,n,x3,out12)=>
   if (decide (x3<n)) then
    irem x3 (List.length a_.cells:Int)>>=λq1=>
    lget a_.cells q1>>=λy2=>
    lapp out12 [y2]>>=λl1=>
    lP (s,a_,shape,n,(w64 (x3+1)),l1)
   else
    some out12
 partial_fixpoint
def pC (s:Arr) (a_:Arr):Option (Arr×Int):=
 (
  gD (s,a_,0)
 : Option (Except (Arr×Int) (Unit)))>>=λres=>match res with
 |.error r=>some r
 |.ok _=>
  qP s>>=λ(shape,e1)=>
  if (e1 != 0) then
   some ((Arr.mk [] []),e1)
  else
   jU shape>>=λ(n,e2)=>
   if (e2 != 0) then
    some ((Arr.mk [] []),e2)
   else
    if (decide (n>0)) then
     if ((List.length a_.cells:Int)==0) then
      some ((Arr.mk [] []),7)
     else
      (
       gE (s,a_,shape,n,0,[])
      : Option (List aA))>>=λout11=>
      fE (Arr.mk shape out11)>>=λx2=>
      some (x2,0)
    else
     (
      lP (s,a_,shape,n,0,[])
     : Option (List aA))>>=λout13=>
     fE (Arr.mk shape out13)>>=λx4=>
     some (x4,0)
def wO (a_:aA) (a_1:aA):Option (Bool):=
 mS (a_,a_1)>>=λx=>
 some (x==0)
def bT (a:(List aA)×aA×Int):Option (Except (Int) (Unit)):=match a with
  |(s,b,x)=>
   if (decide (x<(List.length s:Int))) then
    lget s x>>=λy=>
    wO y b>>=λx1=>
    if x1 then
     some (.error x)
    else
     bT (s,b,(w64 (x+1)))
   else
    some (.ok ())
 partial_fixpoint
def eA (s:(List aA)) (b:aA):Option (Int):=
 (
  bT (s,b,0)
 : Option (Except (Int) (Unit)))>>=λres=>match res with
 |.error r=>some r
 |.ok _=>
  some (-1)
def sT (l:(List aA)) (c:aA):Option (Int):=
 eA l c>>=λk=>
 if (decide (k>=0)) then
  some k
 else
  some (List.length l:Int)
def qC (a:Arr×Arr×Nat×LI×Int×(List aA)):Option (List aA):=match a with
  |(a_,b,x,b1,x1,out1)=>
   if (decide (x1<(List.length b.cells:Int))) then
    lget b.cells x1>>=λy=>
    sT a_.cells y>>=λx2=>
    lapp out1 [(aA.mk 0 x2 [])]>>=λl=>
    qC (a_,b,x,b1,(w64 (x1+1)),l)
   else
    some out1
 partial_fixpoint
def qD (a:Arr×Arr×Nat×LI×Int×(List aA)):Option (List aA):=match a with
  |(a_,b,x3,b2,x4,out12)=>
   if (decide (x4<(List.length a_.cells:Int))) then
    lget a_.cells x4>>=λy1=>
    sT b.cells y1>>=λx5=>
    (
     if (decide (x5<(List.length b.cells:Int))) then
      some 1
     else
      some 0
    : Option (Int))>>=λn=>
    lapp out12 [(aA.mk 0 n [])]>>=λl1=>
    qD (a_,b,x3,b2,(w64 (x4+1)),l1)
   else
    some out12
 partial_fixpoint
def Aa4 (op_:Int) (a_:Arr) (b:Arr):Option (Arr×Int):=
 pG [a_,b]>>=λe=>
 if (e != 0) then
  some ((Arr.mk [] []),e)
 else
  if (op_==48) then
   if ((List.length a_.shape:Int) != 1) then
    some ((Arr.mk [] []),6)
   else
    rM b.shape>>=λ(x,b1)=>
    (
     qC (a_,b,x,b1,0,[])
    : Option (List aA))>>=λout11=>
    afrz x b1>>=λshape=>
    some ((Arr.mk shape out11),0)
  else
   if (op_==49) then
    rM a_.shape>>=λ(x3,b2)=>
    (
     qD (a_,b,x3,b2,0,[])
    : Option (List aA))>>=λout13=>
    afrz x3 b2>>=λshape1=>
    some ((Arr.mk shape1 out13),0)
   else
    some ((Arr.mk [] []),1)
def jY (a:Arr×LI×Int×Int×(List aA)):Option (List aA):=match a with
  |(a_,shape,n,x1,out1)=>
   if (decide (x1<n)) then
    lget a_.cells 0>>=λy=>
    lapp out1 [y]>>=λl=>
    jY (a_,shape,n,(w64 (x1+1)),l)
   else
    some out1
 partial_fixpoint
def iU (a_:Arr) (shape:LI):Option (Arr):=
 jU shape>>=λ(n,x)=>
 (
  jY (a_,shape,n,0,[])
 : Option (List aA))>>=λout11=>
 some (Arr.mk shape out11)
def p_pick_with (shape:LI) (axis:Int):Option LI:=
 lto shape axis>>=λl=>
 lapp ([]:LI) l>>=λl1=>
 lapp l1 [1]>>=λl2=>
 lfrom shape axis>>=λl3=>
 lapp l2 l3>>=λl4=>
 some l4
def p_pick_without (shape:LI) (axis:Int):Option LI:=
 lto shape axis>>=λl=>
 lapp ([]:LI) l>>=λl1=>
 lfrom shape (w64 (axis+1))>>=λl2=>
 lapp l1 l2>>=λl3=>
 some l3
def nC (a:Int×LI×(List aA)×LI×(List aA)×LI×LI×Int):Option (Except (Arr×Arr×Int×Int) (Unit)):=match a with
  |(axis,x0,x11,x01,x12,x10,y,x13)=>
   if (decide (x13<(List.length x10:Int))) then
    lget x10 x13>>=λy1=>
    lget y x13>>=λy2=>
    if (y1 != y2) then
     some (.error ((Arr.mk x01 x12),(Arr.mk x0 x11),0,7))
    else
     nC (axis,x0,x11,x01,x12,x10,y,(w64 (x13+1)))
   else
    some (.ok ())
 partial_fixpoint
def nD (a:Int×LI×(List aA)×LI×(List aA)×LI×LI×Int):Option (Except (Arr×Arr×Int×Int) (Unit)):=match a with
  |(axis1,x02,x110,x03,x111,x22,y3,x23)=>
   if (decide (x23<(List.length x22:Int))) then
    lget x22 x23>>=λy4=>
    lget y3 x23>>=λy5=>
    if (y4 != y5) then
     some (.error ((Arr.mk x03 x111),(Arr.mk x02 x110),0,7))
    else
     nD (axis1,x02,x110,x03,x111,x22,y3,(w64 (x23+1)))
   else
    some (.ok ())
 partial_fixpoint
def yN (a_:Arr) (b:Arr) (last:Bool):Option (Arr×Arr×Int×Int):=
 if ((List.length a_.shape:Int)==0) then
  if ((List.length b.shape:Int)==0) then
   gU a_>>=λx=>
   gU b>>=λx1=>
   some (x,x1,0,0)
  else
   (
    if last then
     some (w64 ((if (List.length a_.shape:Int)<(List.length b.shape:Int) then (List.length b.shape:Int) else (List.length a_.shape:Int))-1))
    else
     some 0
   : Option (Int))>>=λaxis=>
   (
    if ((List.length a_.shape:Int)==0) then
     p_pick_without b.shape axis>>=λx2=>
     p_pick_with x2 axis>>=λx3=>
     iU a_ x3>>=λx4=>
     some (.ok (b.shape,b.cells,x4.shape,x4.cells))
    else
     if ((List.length b.shape:Int)==0) then
      p_pick_without a_.shape axis>>=λx5=>
      p_pick_with x5 axis>>=λx6=>
      iU b x6>>=λx7=>
      some (.ok (x7.shape,x7.cells,a_.shape,a_.cells))
     else
      if ((w64 ((List.length a_.shape:Int)-(List.length b.shape:Int)))==1) then
       p_pick_with b.shape axis>>=λx8=>
       some (.ok (x8,b.cells,a_.shape,a_.cells))
      else
       if ((w64 ((List.length a_.shape:Int)-(List.length b.shape:Int)))==(-1)) then
        p_pick_with a_.shape axis>>=λx9=>
        some (.ok (b.shape,b.cells,x9,a_.cells))
       else
        if ((w64 ((List.length a_.shape:Int)-(List.length b.shape:Int))) != 0) then
         some (.error (a_,b,0,6))
        else
         some (.ok (b.shape,b.cells,a_.shape,a_.cells))
   : Option (Except (Arr×Arr×Int×Int) (LI×(List aA)×LI×(List aA))))>>=λres=>match res with
   |.error r=>some r
   |.ok (x0,x11,x01,x12)=>
    p_pick_without x01 axis>>=λx10=>
    p_pick_without x0 axis>>=λy=>
    (
     nC (axis,x0,x11,x01,x12,x10,y,0)
    : Option (Except (Arr×Arr×Int×Int) (Unit)))>>=λres=>match res with
    |.error r=>some r
    |.ok _=>
     some ((Arr.mk x01 x12),(Arr.mk x0 x11),axis,0)
 else
  (
   if last then
    some (w64 ((if (List.length a_.shape:Int)<(List.length b.shape:Int) then (List.length b.shape:Int) else (List.length a_.shape:Int))-1))
   else
    some 0
  : Option (Int))>>=λaxis1=>
  (
   if ((List.length a_.shape:Int)==0) then
    p_pick_without b.shape axis1>>=λx14=>
    p_pick_with x14 axis1>>=λx15=>
    iU a_ x15>>=λx16=>
    some (.ok (b.shape,b.cells,x16.shape,x16.cells))
   else
    if ((List.length b.shape:Int)==0) then
     p_pick_without a_.shape axis1>>=λx17=>
     p_pick_with x17 axis1>>=λx18=>
     iU b x18>>=λx19=>
     some (.ok (x19.shape,x19.cells,a_.shape,a_.cells))
    else
     if ((w64 ((List.length a_.shape:Int)-(List.length b.shape:Int)))==1) then
      p_pick_with b.shape axis1>>=λx20=>
      some (.ok (x20,b.cells,a_.shape,a_.cells))
     else
      if ((w64 ((List.length a_.shape:Int)-(List.length b.shape:Int)))==(-1)) then
       p_pick_with a_.shape axis1>>=λx21=>
       some (.ok (b.shape,b.cells,x21,a_.cells))
      else
       if ((w64 ((List.length a_.shape:Int)-(List.length b.shape:Int))) != 0) then
        some (.error (a_,b,0,6))
       else
        some (.ok (b.shape,b.cells,a_.shape,a_.cells))
  : Option (Except (Arr×Arr×Int×Int) (LI×(List aA)×LI×(List aA))))>>=λres=>match res with
  |.error r=>some r
  |.ok (x02,x110,x03,x111)=>
   p_pick_without x03 axis1>>=λx22=>
   p_pick_without x02 axis1>>=λy3=>
   (
    nD (axis1,x02,x110,x03,x111,x22,y3,0)
   : Option (Except (Arr×Arr×Int×Int) (Unit)))>>=λres=>match res with
   |.error r=>some r
   |.ok _=>
    some ((Arr.mk x03 x111),(Arr.mk x02 x110),axis1,0)
def jW (a:Arr×Arr×Int×LI×LI×Int×Int):Option (Int):=match a with
  |(x,x1,axis,l2,l3,size,x3)=>
   if (decide (x3<(List.length l3:Int))) then
    lget l3 x3>>=λd=>
    jW (x,x1,axis,l2,l3,(w64 (size*d)),(w64 (x3+1)))
   else
    some size
 partial_fixpoint
def jX (a:Arr×Arr×LI×Int×Int×Int×LI×Int×Int):Option (Int):=match a with
  |(x,x1,l2,size1,y3,y4,l4,outer,x4)=>
   if (decide (x4<(List.length l4:Int))) then
    lget l4 x4>>=λd1=>
    jX (x,x1,l2,size1,y3,y4,l4,(w64 (outer*d1)),(w64 (x4+1)))
   else
    some outer
 partial_fixpoint
def iM (a:Arr×Arr×LI×Int×Int×Int×Int×Int×(List aA)):Option (List aA):=match a with
  |(x,x1,l2,size1,y3,y4,outer1,x5,out1)=>
   if (decide (x5<outer1)) then
    Af0 x.cells (w64 (x5*(w64 (y3*size1)))) (w64 ((w64 (x5+1))*(w64 (y3*size1))))>>=λl5=>
    lapp out1 l5>>=λl6=>
    Af0 x1.cells (w64 (x5*(w64 (y4*size1)))) (w64 ((w64 (x5+1))*(w64 (y4*size1))))>>=λl7=>
    lapp l6 l7>>=λl8=>
    iM (x,x1,l2,size1,y3,y4,outer1,(w64 (x5+1)),l8)
   else
    some out1
 partial_fixpoint
def tR (a_:Arr) (b:Arr) (last:Bool):Option (Arr×Int):=
 yN a_ b last>>=λ(x,x1,axis,e)=>
 if (e != 0) then
  some ((Arr.mk [] []),e)
 else
  lapp ([]:LI) x.shape>>=λl=>
  aidx axis (List.length l)>>=λj=>
  pQ l j>>=λy=>
  lget x1.shape axis>>=λy1=>
  aidx axis (List.length l)>>=λj1=>
  aset l j1 (w64 (y+y1))>>=λl1=>
  afrz (List.length l) l1>>=λl2=>
  jU l2>>=λ(x2,e1)=>
  if (e1 != 0) then
   some ((Arr.mk [] []),12)
  else
   lget l2 axis>>=λy2=>
   if (decide (y2>16384)) then
    some ((Arr.mk [] []),12)
   else
    lfrom x.shape (w64 (axis+1))>>=λl3=>
    (
     jW (x,x1,axis,l2,l3,1,0)
    : Option (Int))>>=λsize1=>
    lget x.shape axis>>=λy3=>
    lget x1.shape axis>>=λy4=>
    lto x.shape axis>>=λl4=>
    (
     jX (x,x1,l2,size1,y3,y4,l4,1,0)
    : Option (Int))>>=λouter1=>
    (
     iM (x,x1,l2,size1,y3,y4,outer1,0,[])
    : Option (List aA))>>=λout11=>
    some ((Arr.mk l2 out11),0)
def qA (a:Int×Arr×Arr×Int):Option (Except (Arr×Int) (Unit)):=match a with
  |(op_,a_,b,x)=>
   if (decide (x<(List.length [a_,b]:Int))) then
    lget [a_,b] x>>=λy=>
    iK y>>=λe=>
    if (e != 0) then
     some (.error ((Arr.mk [] []),e))
    else
     qA (op_,a_,b,(w64 (x+1)))
   else
    some (.ok ())
 partial_fixpoint
def AdC (op_:Int) (a_:Arr) (b:Arr):Option (Arr×Int):=
 (
  qA (op_,a_,b,0)
 : Option (Except (Arr×Int) (Unit)))>>=λres=>match res with
 |.error r=>some r
 |.ok _=>
  fE a_>>=λx1=>
  fE b>>=λx2=>
  (
   if (op_==46) then
    some (op_==46)
   else
    some (op_==47)
  : Option (Bool))>>=λx3=>
  if x3 then
   tR x1 x2 (op_==47)>>=λ(x4,x5)=>
   some (x4,x5)
  else
   if (op_==52) then
    vH x1 x2>>=λ(x6,x7)=>
    some (x6,x7)
   else
    if (op_==53) then
     vH x2 x1>>=λ(x8,x9)=>
     some (x8,x9)
    else
     (
      if (op_==50) then
       some (op_==50)
      else
       some (op_==51)
     : Option (Bool))>>=λx10=>
     if x10 then
      qR x1 x2 (op_==51)>>=λ(x11,x12)=>
      some (x11,x12)
     else
      (
       if (op_==42) then
        some (op_==42)
       else
        if (op_==43) then
         some (op_==43)
        else
         if (op_==44) then
          some (op_==44)
         else
          some (op_==45)
      : Option (Bool))>>=λx13=>
      if x13 then
       tS x1>>=λ(n,e1)=>
       if (e1 != 0) then
        some ((Arr.mk [] []),e1)
       else
        if (op_==42) then
         yO n x2>>=λ(x14,x15)=>
         some (x14,x15)
        else
         if (op_==43) then
          yM n x2>>=λx16=>
          some (x16,0)
         else
          if (op_==44) then
           p_pick_rotated n x2 0>>=λx17=>
           some (x17,0)
          else
           p_pick_rotated n x2 (w64 ((List.length x2.shape:Int)-1))>>=λx18=>
           some (x18,0)
      else
       some ((Arr.mk [] []),1)
def kK (a:Int×Arr×Arr×Int):Option (Except (Arr×Int) (Unit)):=match a with
  |(op_,a_,b,x)=>
   if (decide (x<(List.length [a_,b]:Int))) then
    lget [a_,b] x>>=λy=>
    iK y>>=λe=>
    if (e != 0) then
     some (.error ((Arr.mk [] []),e))
    else
     kK (op_,a_,b,(w64 (x+1)))
   else
    some (.ok ())
 partial_fixpoint
def rT (a:Int×Arr×Arr×LI×Int×(List aA)):Option (Except (Arr×Int) (List aA)):=match a with
  |(op_,a_,b,shape,x2,out1)=>
   if (decide (x2<0)) then
    lget a_.cells 0>>=λy1=>
    lget b.cells 0>>=λy2=>
    (
     if (decide ((List.length a_.shape:Int)>0)) then
      lget a_.cells x2>>=λy3=>
      some (y3.kind,y3.n,y3.box)
     else
      some (y1.kind,y1.n,y1.box)
    : Option (Int×Int×(List Arr)))>>=λ(x0,x11,x21)=>
    (
     if (decide ((List.length b.shape:Int)>0)) then
      lget b.cells x2>>=λy4=>
      some (y4.kind,y4.n,y4.box)
     else
      some (y2.kind,y2.n,y2.box)
    : Option (Int×Int×(List Arr)))>>=λ(y0,y11,y21)=>
    oH op_ (aA.mk x0 x11 x21) (aA.mk y0 y11 y21)>>=λ(x3,e2)=>
    if (e2 != 0) then
     some (.error ((Arr.mk [] []),e2))
    else
     lapp out1 [x3]>>=λl=>
     rT (op_,a_,b,shape,(w64 (x2+1)),l)
   else
    some (.ok out1)
 partial_fixpoint
def mT (a:Int×Arr×Arr×LI×Int×Int×(List aA)):Option (Except (Arr×Int) (List aA)):=match a with
  |(op_,a_,b,shape,n,x4,out12)=>
   if (decide (x4<n)) then
    lget a_.cells 0>>=λy5=>
    lget b.cells 0>>=λy6=>
    (
     if (decide ((List.length a_.shape:Int)>0)) then
      lget a_.cells x4>>=λy7=>
      some (y7.kind,y7.n,y7.box)
     else
      some (y5.kind,y5.n,y5.box)
    : Option (Int×Int×(List Arr)))>>=λ(x01,x12,x22)=>
    (
     if (decide ((List.length b.shape:Int)>0)) then
      lget b.cells x4>>=λy8=>
      some (y8.kind,y8.n,y8.box)
     else
      some (y6.kind,y6.n,y6.box)
    : Option (Int×Int×(List Arr)))>>=λ(y01,y12,y22)=>
    oH op_ (aA.mk x01 x12 x22) (aA.mk y01 y12 y22)>>=λ(x5,e3)=>
    if (e3 != 0) then
     some (.error ((Arr.mk [] []),e3))
    else
     lapp out12 [x5]>>=λl1=>
     mT (op_,a_,b,shape,n,(w64 (x4+1)),l1)
   else
    some (.ok out12)
 partial_fixpoint
def yK (op_:Int) (a_:Arr) (b:Arr):Option (Arr×Int):=
 (
  kK (op_,a_,b,0)
 : Option (Except (Arr×Int) (Unit)))>>=λres=>match res with
 |.error r=>some r
 |.ok _=>
  if (op_==54) then
   some ((Arr.mk [] []),10)
  else
   pO op_>>=λx1=>
   if (!x1) then
    some ((Arr.mk [] []),1)
   else
    rS a_.shape b.shape>>=λ(shape,e1)=>
    if (e1 != 0) then
     some ((Arr.mk [] []),e1)
    else
     if ((List.length a_.cells:Int)==0) then
      (
       rT (op_,a_,b,shape,0,[])
      : Option (Except (Arr×Int) (List aA)))>>=λres=>match res with
      |.error r=>some r
      |.ok out11=>
       some ((Arr.mk shape out11),0)
     else
      (
       if ((List.length b.cells:Int)==0) then
        some 0
       else
        some (if (List.length a_.cells:Int)<(List.length b.cells:Int) then (List.length b.cells:Int) else (List.length a_.cells:Int))
      : Option (Int))>>=λn=>
      (
       mT (op_,a_,b,shape,n,0,[])
      : Option (Except (Arr×Int) (List aA)))>>=λres=>match res with
      |.error r=>some r
      |.ok out13=>
       some ((Arr.mk shape out13),0)
def Aa3 (op_:Int) (a_:Arr) (y:Arr):Option (Arr×Int):=
 (
  if (op_==41) then
   pC a_ y>>=λ(x,x1)=>
   some (.error (x,x1))
  else
   if (op_==48) then
    Aa4 op_ a_ y>>=λ(x2,x3)=>
    some (.error (x2,x3))
   else
    if (op_==49) then
     Aa4 op_ a_ y>>=λ(x4,x5)=>
     some (.error (x4,x5))
    else
     if (decide (op_>=42)) then
      if (decide (op_<=53)) then
       AdC op_ a_ y>>=λ(x6,x7)=>
       some (.error (x6,x7))
      else
       some (.ok ())
     else
      some (.ok ())
 : Option (Except (Arr×Int) (Unit)))>>=λres=>match res with
 |.error r=>some r
 |.ok _=>
  yK op_ a_ y>>=λ(x8,x9)=>
  some (x8,x9)
mutual
def aJ (a:Node×oV×(List Str)×(List Arr)×aG):Option (Arr×Int×Int×Int):=match a with
  |(n,a_,names,vals,b)=>
   eT b>>=λ(e,left,used)=>
   if (e != 0) then
    some ((Arr.mk [] []),e,left,used)
   else
    if (n.kind==1) then
     fE n.lit>>=λx=>
     aU x 0 names vals (aG.mk (dD.mk left used) b.cells)>>=λ(x1,x2)=>
     some (x1,x2,left,used)
    else
     if (n.kind==2) then
      cS n.name names vals (aG.mk (dD.mk left used) b.cells)>>=λ(x3,x4)=>
      aU x3 x4 names vals (aG.mk (dD.mk left used) b.cells)>>=λ(x5,x6)=>
      some (x5,x6,left,used)
     else
      if (n.kind==3) then
       some (a_.left,0,left,used)
      else
       if (n.kind==4) then
        some (a_.right,0,left,used)
       else
        lget n.kids (w64 ((List.length n.kids:Int)-1))>>=λy=>
        aJ (y,a_,names,vals,(aG.mk (dD.mk left used) b.cells))>>=λ(x7,e1,left1,used1)=>
        if (e1 != 0) then
         if (e1 != 0) then
          some ((Arr.mk [] []),e1,left1,used1)
         else
          lget n.kids 0>>=λy1=>
          aZ (y1,x7,names,vals,(aG.mk (dD.mk left1 used1) b.cells))>>=λ(x8,x9,left2,used2)=>
          some (x8,x9,left2,used2)
        else
         if (n.kind==5) then
          if (e1 != 0) then
           some ((Arr.mk [] []),e1,left1,used1)
          else
           lget n.kids 0>>=λy2=>
           aZ (y2,x7,names,vals,(aG.mk (dD.mk left1 used1) b.cells))>>=λ(x10,x11,left3,used3)=>
           some (x10,x11,left3,used3)
         else
          lget n.kids 1>>=λy3=>
          aJ (y3,a_,names,vals,(aG.mk (dD.mk left1 used1) b.cells))>>=λ(x12,e2,left4,used4)=>
          if (e2 != 0) then
           some ((Arr.mk [] []),e2,left4,used4)
          else
           lget n.kids 0>>=λy4=>
           bE (y4,x12,x7,names,vals,(aG.mk (dD.mk left4 used4) b.cells))>>=λ(x13,x14,left5,used5)=>
           some (x13,x14,left5,used5)
 partial_fixpoint
def bQ (a:Node×(List Str)×(List Arr)×aG×Int×LI×(List aA)×Int×Int):Option (Except (Arr×Int×Int×Int) (LI×(List aA)×Int×Int)):=match a with
  |(f,names,vals,b,x20,x0,x110,c0,c1)=>
   if (decide (x20<f.op_)) then
    lget f.kids 0>>=λy4=>
    aZ (y4,(Arr.mk x0 x110),names,vals,(aG.mk (dD.mk c0 c1) b.cells))>>=λ(x21,e1,left3,used3)=>
    if (e1 != 0) then
     some (.error ((Arr.mk [] []),e1,left3,used3))
    else
     bQ (f,names,vals,b,(w64 (x20+1)),x21.shape,x21.cells,left3,used3)
   else
    some (.ok (x0,x110,c0,c1))
 partial_fixpoint
def aZ (a:Node×Arr×(List Str)×(List Arr)×aG):Option (Arr×Int×Int×Int):=match a with
  |(f,a_,names,vals,b)=>
   eT b>>=λ(e,left,used)=>
   if (e != 0) then
    some ((Arr.mk [] []),e,left,used)
   else
    if (f.kind==21) then
     Aa2 f.op_ a_>>=λ(x,x1)=>
     aU x x1 names vals (aG.mk (dD.mk left used) b.cells)>>=λ(x2,x3)=>
     some (x2,x3,left,used)
    else
     if (f.kind==22) then
      lget f.kids 0>>=λy=>
      aJ (y,(oV.mk (Arr.mk [] []) a_),names,vals,(aG.mk (dD.mk left used) b.cells))>>=λ(x4,x5,left1,used1)=>
      some (x4,x5,left1,used1)
     else
      if (f.kind==35) then
       lget f.kids 0>>=λy1=>
       bE (y1,a_,a_,names,vals,(aG.mk (dD.mk left used) b.cells))>>=λ(x6,x7,left2,used2)=>
       some (x6,x7,left2,used2)
      else
       (
        if (f.kind==31) then
         some (f.kind==31)
        else
         some (f.kind==32)
       : Option (Bool))>>=λx8=>
       if x8 then
        lget f.kids 0>>=λy2=>
        gV y2>>=λx9=>
        xO x9 a_ (f.kind==32)>>=λ(x10,x11)=>
        aU x10 x11 names vals (aG.mk (dD.mk left used) b.cells)>>=λ(x12,x13)=>
        some (x12,x13,left,used)
       else
        (
         if (f.kind==33) then
          some (f.kind==33)
         else
          some (f.kind==34)
        : Option (Bool))>>=λx14=>
        if x14 then
         lget f.kids 0>>=λy3=>
         gV y3>>=λx15=>
         vF x15 a_ (f.kind==34)>>=λ(x16,x17)=>
         aU x16 x17 names vals (aG.mk (dD.mk left used) b.cells)>>=λ(x18,x19)=>
         some (x18,x19,left,used)
        else
         (
          bQ (f,names,vals,b,0,a_.shape,a_.cells,left,used)
         : Option (Except (Arr×Int×Int×Int) (LI×(List aA)×Int×Int)))>>=λres=>match res with
         |.error r=>some r
         |.ok (x01,x111,c01,c11)=>
          some ((Arr.mk x01 x111),0,c01,c11)
 partial_fixpoint
def bE (a:Node×Arr×Arr×(List Str)×(List Arr)×aG):Option (Arr×Int×Int×Int):=match a with
  |(f,a_,y,names,vals,b)=>
   eT b>>=λ(e,left,used)=>
   if (e != 0) then
    some ((Arr.mk [] []),e,left,used)
   else
    if (f.kind==21) then
     Aa3 f.op_ a_ y>>=λ(x,x1)=>
     aU x x1 names vals (aG.mk (dD.mk left used) b.cells)>>=λ(x2,x3)=>
     some (x2,x3,left,used)
    else
     if (f.kind==23) then
      lget f.kids 0>>=λy1=>
      aJ (y1,(oV.mk a_ y),names,vals,(aG.mk (dD.mk left used) b.cells))>>=λ(x4,x5,left1,used1)=>
      some (x4,x5,left1,used1)
     else
      if (f.kind==35) then
       lget f.kids 0>>=λy2=>
       bE (y2,y,a_,names,vals,(aG.mk (dD.mk left used) b.cells))>>=λ(x6,x7,left2,used2)=>
       some (x6,x7,left2,used2)
      else
       lget f.kids 0>>=λy3=>
       gV y3>>=λx8=>
       sP x8 a_ y>>=λ(x9,x10)=>
       aU x9 x10 names vals (aG.mk (dD.mk left used) b.cells)>>=λ(x11,x12)=>
       some (x11,x12,left,used)
 partial_fixpoint
end
def uR (m:aG):Option (Int×Int):=
 some (m.fuel.used,m.fuel.left)
def uS (env:Env) (n:Node) (fuel:Int) (cells:Int):Option (Arr×Int×Int):=
 sN n>>=λx=>
 if (x != 0) then
  some ((Arr.mk [] []),0,1)
 else
  AgF fuel cells>>=λb=>
  aJ (n,(oV.mk (Arr.mk [] []) (Arr.mk [] [])),env.names,env.vals,b)>>=λ(x1,e,left,used)=>
  uR (aG.mk (dD.mk left used) b.cells)>>=λ(used1,x2)=>
  if (e != 0) then
   some ((Arr.mk [] []),used1,e)
  else
   fE x1>>=λx3=>
   some (x3,used1,0)
def sB (n:Int):Option (Bool):=
 if (decide (n>=0)) then
  if (decide (n<55296)) then
   some true
  else
   if (decide (n>57343)) then
    some (decide (n<1114112))
   else
    some false
 else
  if (decide (n>57343)) then
   some (decide (n<1114112))
  else
   some false
def tW (a:Arr×Int×Int):Option (Except (Int) (Unit)):=match a with
  |(a_,deep,i)=>
   if (decide (i<(List.length a_.shape:Int))) then
    lget a_.shape i>>=λy=>
    if (decide (y>16384)) then
     some (.error 12)
    else
     tW (a_,deep,(w64 (i+1)))
   else
    some (.ok ())
 partial_fixpoint
mutual
def tX (a:Arr×Int×Int):Option (Except (Int) (Unit)):=match a with
  |(a_,deep,i1)=>
   if (decide (i1<(List.length a_.cells:Int))) then
    lget a_.cells i1>>=λy1=>
    AgH (y1,deep)>>=λf=>
    if (f != 0) then
     some (.error f)
    else
     tX (a_,deep,(w64 (i1+1)))
   else
    some (.ok ())
 partial_fixpoint
def Af1 (a:Arr×Int):Option (Int):=match a with
  |(a_,deep)=>
   AgG a_.shape>>=λ(n,e)=>
   if (e != 0) then
    some e
   else
    if (n != (List.length a_.cells:Int)) then
     some 1
    else
     (
      tW (a_,deep,0)
     : Option (Except (Int) (Unit)))>>=λres=>match res with
     |.error r=>some r
     |.ok _=>
      (
       tX (a_,deep,0)
      : Option (Except (Int) (Unit)))>>=λres=>match res with
      |.error r=>some r
      |.ok _=>
       some 0
 partial_fixpoint
def AgH (a:aA×Int):Option (Int):=match a with
  |(c,deep)=>
   if (c.kind==2) then
    if (c.n==0) then
     if ((List.length c.box:Int)==1) then
      if (deep==8) then
       some 15
      else
       lget c.box 0>>=λy=>
       Af1 (y,(w64 (deep+1)))>>=λx=>
       some x
     else
      if (decide ((List.length c.box:Int)>0)) then
       some 1
      else
       if (c.kind==0) then
        some 0
       else
        if (c.kind==1) then
         sB c.n>>=λx1=>
         if x1 then
          some 0
         else
          some 1
        else
         some 1
    else
     if (decide ((List.length c.box:Int)>0)) then
      some 1
     else
      if (c.kind==0) then
       some 0
      else
       if (c.kind==1) then
        sB c.n>>=λx2=>
        if x2 then
         some 0
        else
         some 1
       else
        some 1
   else
    if (decide ((List.length c.box:Int)>0)) then
     some 1
    else
     if (c.kind==0) then
      some 0
     else
      if (c.kind==1) then
       sB c.n>>=λx3=>
       if x3 then
        some 0
       else
        some 1
      else
       some 1
 partial_fixpoint
end
def p_triglyphref03_ints (a_:Int) (b:Int):Option (Int):=
 if (decide (a_<b)) then
  some (-1)
 else
  if (decide (a_>b)) then
   some 1
  else
   some 0
def cX (a:Arr×Arr×Int×Int):Option (Int):=match a with
  |(a_,b,o1,i)=>
   if (decide (i<(List.length a_.shape:Int))) then
    if (o1==0) then
     lget a_.shape i>>=λy=>
     lget b.shape i>>=λy1=>
     p_triglyphref03_ints y y1>>=λo2=>
     cX (a_,b,o2,(w64 (i+1)))
    else
     some o1
   else
    some o1
 partial_fixpoint
mutual
def cY (a:Arr×Arr×Int×Int):Option (Int):=match a with
  |(a_,b,o4,i1)=>
   if (decide (i1<(List.length a_.cells:Int))) then
    if (decide (i1<(List.length b.cells:Int))) then
     if (o4==0) then
      lget a_.cells i1>>=λy2=>
      lget b.cells i1>>=λy3=>
      iN (y2,y3)>>=λo5=>
      cY (a_,b,o5,(w64 (i1+1)))
     else
      some o4
    else
     some o4
   else
    some o4
 partial_fixpoint
def fB (a:Arr×Arr):Option (Int):=match a with
  |(a_,b)=>
   p_triglyphref03_ints (List.length a_.shape:Int) (List.length b.shape:Int)>>=λo=>
   (
    cX (a_,b,o,0)
   : Option (Int))>>=λo3=>
   (
    cY (a_,b,o3,0)
   : Option (Int))>>=λo6=>
   (
    if (o6==0) then
     p_triglyphref03_ints (List.length a_.cells:Int) (List.length b.cells:Int)>>=λo7=>
     some o7
    else
     some o6
   : Option (Int))>>=λo8=>
   some o8
 partial_fixpoint
def iN (a:aA×aA):Option (Int):=match a with
  |(a_,b)=>
   p_triglyphref03_ints a_.kind b.kind>>=λo=>
   (
    if (o==0) then
     p_triglyphref03_ints a_.n b.n>>=λo1=>
     some o1
    else
     some o
   : Option (Int))>>=λo2=>
   if (o2==0) then
    if (decide ((List.length a_.box:Int)>0)) then
     if (decide ((List.length b.box:Int)>0)) then
      lget a_.box 0>>=λy=>
      lget b.box 0>>=λy1=>
      fB (y,y1)>>=λx=>
      some x
     else
      (
       if (o2==0) then
        p_triglyphref03_ints (List.length a_.box:Int) (List.length b.box:Int)>>=λo3=>
        some o3
       else
        some o2
      : Option (Int))>>=λo4=>
      some o4
    else
     (
      if (o2==0) then
       p_triglyphref03_ints (List.length a_.box:Int) (List.length b.box:Int)>>=λo5=>
       some o5
      else
       some o2
     : Option (Int))>>=λo6=>
     some o6
   else
    (
     if (o2==0) then
      p_triglyphref03_ints (List.length a_.box:Int) (List.length b.box:Int)>>=λo7=>
      some o7
     else
      some o2
    : Option (Int))>>=λo8=>
    some o8
 partial_fixpoint
end
def eQ (a_:Arr) (b:Arr):Option (Bool):=
 fB (a_,b)>>=λx=>
 some (x==0)
mutual
def cU (a:Arr×Int×Int×Int×Int×Int):Option (Except (Int) (Int)):=match a with
  |(a_,most,deep,i,n1,k)=>
   lget a_.cells i>>=λy=>
   if (decide (k<(List.length y.box:Int))) then
    if (decide (n1<=most)) then
     if (deep==0) then
      some (.error (w64 (most+1)))
     else
      lget a_.cells i>>=λy1=>
      lget y1.box k>>=λy2=>
      cZ (y2,(w64 (most-n1)),(w64 (deep-1)))>>=λx=>
      cU (a_,most,deep,i,(w64 ((w64 (n1+1))+x)),(w64 (k+1)))
    else
     some (.ok n1)
   else
    some (.ok n1)
 partial_fixpoint
def p_triglyphref03_weight_l0 (a:Arr×Int×Int×Int×Int):Option (Except (Int) (Int)):=match a with
  |(a_,most,deep,n,i)=>
   if (decide (i<(List.length a_.cells:Int))) then
    if (decide (n<=most)) then
     (
      cU (a_,most,deep,i,n,0)
     : Option (Except (Int) (Int)))>>=λres=>match res with
     |.error r=>some (.error r)
     |.ok n2=>
      p_triglyphref03_weight_l0 (a_,most,deep,n2,(w64 (i+1)))
    else
     some (.ok n)
   else
    some (.ok n)
 partial_fixpoint
def cZ (a:Arr×Int×Int):Option (Int):=match a with
  |(a_,most,deep)=>
   (
    p_triglyphref03_weight_l0 (a_,most,deep,(w64 ((List.length a_.cells:Int)+(List.length a_.shape:Int))),0)
   : Option (Except (Int) (Int)))>>=λres=>match res with
   |.error r=>some r
   |.ok n3=>
    some n3
 partial_fixpoint
end
def fX (a_:Arr) (most:Int):Option (Int):=
 cZ (a_,most,16)>>=λx=>
 some x
mutual
def tU (a:Node×Str×Int):Option (Except (Bool) (Unit)):=match a with
  |(n,s,i)=>
   if (decide (i<(List.length n.kids:Int))) then
    lget n.kids i>>=λy=>
    xA (y,s)>>=λx=>
    if x then
     some (.error true)
    else
     tU (n,s,(w64 (i+1)))
   else
    some (.ok ())
 partial_fixpoint
def tV (a:Node×Str×Int):Option (Except (Bool) (Unit)):=match a with
  |(n,s,i1)=>
   if (decide (i1<(List.length n.kids:Int))) then
    lget n.kids i1>>=λy1=>
    xA (y1,s)>>=λx1=>
    if x1 then
     some (.error true)
    else
     tV (n,s,(w64 (i1+1)))
   else
    some (.ok ())
 partial_fixpoint
def xA (a:Node×Str):Option (Bool):=match a with
  |(n,s)=>
   if (n.kind==2) then
    if (n.name==s) then
     some true
    else
     (
      tU (n,s,0)
     : Option (Except (Bool) (Unit)))>>=λres=>match res with
     |.error r=>some r
     |.ok _=>
      some false
   else
    (
     tV (n,s,0)
    : Option (Except (Bool) (Unit)))>>=λres=>match res with
    |.error r=>some r
    |.ok _=>
     some false
 partial_fixpoint
end
mutual
def cV (a:Node×Int×Int×Int×Int):Option (Except (Int) (Int)):=match a with
  |(n,most,deep,k,i)=>
   if (decide (i<(List.length n.kids:Int))) then
    if (decide (k<=most)) then
     if (deep==0) then
      some (.error (w64 (most+1)))
     else
      lget n.kids i>>=λy=>
      dV (y,(w64 (most-k)),(w64 (deep-1)))>>=λx1=>
      cV (n,most,deep,(w64 (k+x1)),(w64 (i+1)))
    else
     some (.ok k)
   else
    some (.ok k)
 partial_fixpoint
def dV (a:Node×Int×Int):Option (Int):=match a with
  |(n,most,deep)=>
   fX n.lit most>>=λx=>
   (
    cV (n,most,deep,(w64 (1+x)),0)
   : Option (Except (Int) (Int)))>>=λres=>match res with
   |.error r=>some r
   |.ok k1=>
    some k1
 partial_fixpoint
end
def mB (n:Node) (most:Int):Option (Int):=
 dV (n,most,40)>>=λx=>
 some x
def dX (a:Env×Node×Int×Int):Option (Int):=match a with
  |(env,n,w,i)=>
   if (decide (i<(List.length env.vals:Int))) then
    if (decide (w<=3000)) then
     lget env.vals i>>=λy=>
     fX y 3000>>=λx1=>
     dX (env,n,(w64 (w+x1)),(w64 (i+1)))
    else
     some w
   else
    some w
 partial_fixpoint
def jR (env:Env) (n:Node) (fuel:Int) (cells:Int):Option (Int):=
 if (decide (fuel>2000)) then
  some 1
 else
  if (decide (cells>300)) then
   some 1
  else
   if (decide ((List.length env.names:Int)>40)) then
    some 1
   else
    if (decide ((List.length env.vals:Int)>40)) then
     some 1
    else
     mB n 3000>>=λx=>
     if (decide (x>3000)) then
      some 1
     else
      (
       dX (env,n,0,0)
      : Option (Int))>>=λw1=>
      if (decide (w1>3000)) then
       some 1
      else
       some 0
def p_triglyphlaw11_RunMore (env:Env) (n:Node) (fuel:Int) (cells:Int) (more:Int):Option (Bool):=
 jR env n fuel cells>>=λx=>
 if (decide (x>0)) then
  AaQ>>=λx1=>
  some x1
 else
  uS env n fuel cells>>=λ(x2,i,e)=>
  if (e==11) then
   AaQ>>=λx3=>
   some x3
  else
   if (e==12) then
    AaQ>>=λx4=>
    some x4
   else
    uS env n (w64 ((if fuel<0 then 0 else fuel)+(w64 more))) (w64 ((if cells<0 then 0 else cells)+(w64 more)))>>=λ(x5,k,f)=>
    if (e==f) then
     if (i==k) then
      eQ x2 x5>>=λx6=>
      if x6 then
       AaQ>>=λx7=>
       some x7
      else
       some false
     else
      some false
    else
     some false
end Go.AM.Seat
namespace Go.AM.Seat
open Go Go.AM
def T {α:Type} (x:Option α) (Q:α->Prop):Prop:=∃r,x=some r/\Q r
section
variable {α β:Type} {Q R:α->Prop} {S:β->Prop}
theorem T.ret {v:α} (h:Q v):T (some v) Q:=⟨v,rfl,h⟩
theorem T.bind {x:Option α} {f:α->Option β} (h:T x R) (k:∀v,R v->T (f v) S):T (x>>=f) S:=by
 obtain⟨v,rfl,hv⟩:=h; exact k v hv
theorem T.ite {c:Bool} {a b:Option α} (h:c=true->T a Q) (k:c=false->T b Q):T (if c=true then a else b) Q:=by
 cases c
 ·exact k rfl
 exact h rfl
theorem T.imp {x:Option α} (h:T x R) (k:∀v,R v->Q v):T x Q:=by
 obtain⟨v,e,hv⟩:=h; exact⟨v,e,k v hv⟩
theorem T.val {x:Option α} {v:α} (h:x=some v) (k:Q v):T x Q:=⟨v,h,k⟩
theorem T.lget {l:List α} {i:Int} (h0:0<=i) (h1:i<l.length) (k:∀v,l[i.toNat]?=some v->Q v):T (lget l i) Q:=by
 have hl:i.toNat<l.length:=by omega
 refine⟨l[i.toNat],?_,k _ (by simp[hl])⟩
 unfold AM.lget
 rw[if_pos h0]; simp[hl]
theorem T.lapp {l m:List α} {Q:List α->Prop} (h:l.length+m.length<=4294967296) (k:Q (l++m)):T (lapp l m) Q:=⟨_,by unfold AM.lapp; rw[if_pos h],k⟩
theorem T.lfrom {l:List α} {lo:Int} {Q:List α->Prop} (h0:0<=lo) (h1:lo<=l.length) (k:Q (l.drop lo.toNat)):T (lfrom l lo) Q:=
 ⟨_,by unfold AM.lfrom; rw[if_pos ⟨h0,by omega⟩],k⟩
end
theorem T.sget {s:Str} {i:Int} {Q:Int->Prop} (h0:0<=i) (h1:i<s.length) (k:∀b,s[i.toNat]?=some b->Q (b.toNat:Int)):T (sget s i) Q:=by
 have hl:i.toNat<s.length:=by omega
 refine⟨(s[i.toNat].toNat:Int),?_,k _ (by simp[hl])⟩
 unfold AM.sget
 rw[if_pos h0]; simp[hl]
theorem T.sfrom {s:Str} {lo:Int} {Q:Str->Prop} (h0:0<=lo) (h1:lo<=s.length) (k:Q (s.drop lo.toNat)):T (sfrom s lo) Q:=
 ⟨_,by unfold AM.sfrom; rw[if_pos ⟨h0,by omega⟩],k⟩
theorem T.smid {s:Str} {lo hi:Int} {Q:Str->Prop} (h0:0<=lo) (h1:lo<=hi) (h2:hi<=s.length) (k:Q ((s.take hi.toNat).drop lo.toNat)):T (smid s lo hi) Q:=
 ⟨_,by unfold AM.smid; rw[if_pos ⟨h0,h1,by omega⟩],k⟩
theorem T.scat {a b:Str} {Q:Str->Prop} (h:a.length+b.length<=1099511627776) (k:Q (a++b)):T (scat a b) Q:=⟨_,by unfold AM.scat; rw[if_pos h],k⟩
theorem T.sbytes {s:Str} {Q:List Int->Prop} (h:s.length<=1099511627776) (k:Q (s.map u8I)):T (sbytes s) Q:=⟨_,by unfold AM.sbytes; rw[if_pos h],k⟩
theorem aE {x:Int} (h1:-9223372036854775808<=x) (h2:x<9223372036854775808):w64 x=x:=by
 unfold w64; rw[IntKind.wrap_i64]; omega
theorem fS {α:Type} {l:List α} {i:Nat} (h:i<l.length):lget l (i:Int)=some l[i]:=by
 unfold AM.lget
 rw[if_pos (by omega)]; simp[h]
end Go.AM.Seat
namespace Go.AM.Seat
open Go Go.AM
theorem bN {α:Type} {l:List α} {k:Nat} {d:α} {r:List α} (h:l.drop k=d::r):lget l (k:Int)=some d:=by
 have hk:k<l.length:=by
  rcases Nat.lt_or_ge k l.length with h' | h'
  ·exact h'
  rw[List.drop_eq_nil_of_le h'] at h; simp at h
 unfold AM.lget
 rw[if_pos (by omega)]
 have:(l.drop k)[0]?=some d:=by rw[h]; rfl
 simpa using this
theorem cD {α:Type} {l:List α} {k:Nat} {d:α} {r:List α} (h:l.drop k=d::r):(k:Int)<(l.length:Int):=by
 rcases Nat.lt_or_ge k l.length with h' | h'
 ·omega
 rw[List.drop_eq_nil_of_le h'] at h; simp at h
theorem cC {α:Type} {l:List α} {k:Nat} (h:l.drop k=[]):¬(k:Int)<(l.length:Int):=by
 have:=List.drop_eq_nil_iff.1 h
 omega
theorem bC {α:Type} {l:List α} {k:Nat} {d:α} {r:List α} (h:l.drop k=d::r):l.drop (k+1)=r:=by
 rw[←List.drop_drop,h]; rfl
def Few {α:Type} (l:List α):Prop:=l.length<=140737488355328
theorem bW {α:Type} {l:List α} {k:Nat} {d:α} {r:List α} (h:l.drop k=d::r) (hl:Few l):w64 ((k:Int)+1)=((k+1:Nat):Int):=by
 have:=cD h
 unfold Few at hl
 rw[aE (by omega) (by omega)]; omega
theorem dH {a b:Int} (h:a<b):decide (a<b)=true:=decide_eq_true h
theorem bZ {a b:Int} (h:¬a<b):decide (a<b)=false:=decide_eq_false h
def aR:List Int->Int
 | []=>1
 |d::r=>d*aR r
def yV (b:Bool):List Int->Except (Int×Int) Bool
 | []=>.ok b
 |d::r=>if d<0 then .error (0,1) else yV (b||d==0) r
theorem AiF {s:List Int} (hs:Few s):∀(l:List Int) (k:Nat) (b:Bool),s.drop k=l->mF (s,b,(k:Int))=some (yV b l)
 | [],k,b,h=>by
  rw[mF]
  simp only[bZ (cC h),fJ,if_false,yV]
 |d::r,k,b,h=>by
  rw[mF]
  simp only[dH (cD h),if_true,bN h,oJ,bJ,bW h hs,yV]
  by_cases hd:d<0
  ·simp[hd]
  simp only[hd,decide_false,fJ,if_false]
  cases b
  ·exact AiF hs r (k+1) _ (bC h)
  exact AiF hs r (k+1) _ (bC h)
def vK (n:Int):List Int->Except (Int×Int) Int
 | []=>.ok n
 |d::r=>if d>16384 / n then .error (0,12) else vK (n*d) r
theorem Ap3 {a n:Int} (h:0<n) (ha:0<=a) (hb:a<9223372036854775808):idiv .i64 a n=some (a / n):=by
 unfold idiv
 rw[if_neg (by omega)]
 have h1:a.tdiv n=a / n:=Int.tdiv_eq_ediv_of_nonneg ha
 rw[h1]
 have h2:0<=a / n:=Int.ediv_nonneg ha (by omega)
 have h3:a / n<=a:=Int.ediv_le_self _ ha
 have:=aE (x:=a / n) (by omega) (by omega)
 unfold w64 at this
 rw[this]
theorem AnP {s:List Int} (hs:Few s):∀(l:List Int) (k:Nat) (n:Int),s.drop k=l->(∀d∈l,0<d)->0<n->n<=16384->mG (s,n,(k:Int))=some (vK n l)
 | [],k,n,h,hp,h0,h1=>by
  rw[mG]
  simp only[bZ (cC h),fJ,if_false,vK]
 |d::r,k,n,h,hp,h0,h1=>by
  rw[mG]
  have hd:=hp d (by simp)
  simp only[dH (cD h),if_true,bN h,oJ,bJ,bW h hs,vK,Ap3 h0 (by omega:(0:Int)<=16384) (by omega)]
  by_cases hq:d>16384 / n
  ·simp[hq]
  have hm:n*d<=16384:=by
   have h2:d<=16384 / n:=by omega
   have:=(Int.le_ediv_iff_mul_le h0).1 h2
   rw[Int.mul_comm]; exact this
  have hm0:0<n*d:=Int.mul_pos h0 hd
  simp only[hq,decide_false,fJ,if_false]
  rw[aE (by omega) (by omega)]
  exact AnP hs r (k+1) (n*d) (bC h) (λx hx=>hp x (by simp[hx])) hm0 hm
def kV (s:List Int):Int×Int:=
 if s.length>8 then (0,6) else match yV false s with
 |.error r=>r
 |.ok true=>(0,0)
 |.ok false=>match vK 1 s with
  |.error r=>r
  |.ok n=>(n,0)
theorem Au2 {b:Bool}:∀{l:List Int},yV b l=.ok false->b=false/\∀d∈l,0<d
 | [],h=>by simp only[yV,Except.ok.injEq] at h; exact⟨h,by simp⟩
 |d::r,h=>by
  simp only[yV] at h
  split at h
  ·cases h
  rename_i hd
  obtain⟨h1,h2⟩:=Au2 h
  simp only[Bool.or_eq_false_iff,beq_eq_false_iff_ne] at h1
  refine⟨h1.1,?_⟩
  intro x hx
  rcases List.mem_cons.1 hx with rfl|hx
  ·omega
  exact h2 x hx
theorem zJ (s:List Int):jU s=some (kV s):=by
 unfold jU kV
 by_cases h8:s.length>8
 ·rw[if_pos (by simp; omega),if_pos h8]
 rw[if_neg (by simp; omega),if_neg h8]
 have hs:Few s:=by unfold Few; omega
 have h0:=AiF hs s 0 false rfl
 rw[show mF (s,false,0)=some (yV false s) from h0]
 simp only[oJ,bJ]
 cases hn:yV false s with
 |error r=>rfl
 |ok b=>
  cases b with
  |true=>rfl
  |false=>
   obtain⟨_,hp⟩:=Au2 hn
   have h1:=AnP hs s 0 1 rfl hp (by omega) (by omega)
   simp only[fJ,if_false]
   rw[show mG (s,1,0)=some (vK 1 s) from h1]
   simp only[bJ]
   cases vK 1 s<;>rfl
theorem Arr.ind {P:Arr->Prop} (h:∀sh cs,(∀c∈cs,∀b∈aA.box c,P b)->P (.mk sh cs)) (a:Arr):P a:=by
 refine Arr.rec (motive_1:=P) (motive_2:=λc=>∀b∈aA.box c,P b) (motive_3:=λcs=>∀c∈cs,∀b∈aA.box c,P b) (motive_4:=λl=>∀b∈l,P b) ?_ ?_ ?_ ?_ ?_ ?_ a
 ·intro sh cs ih; exact h sh cs ih
 ·intro k n box ih; exact ih
 ·intro c hc; simp at hc
 ·intro c cs ihc ihs x hx
  rcases List.mem_cons.1 hx with rfl|hx
  ·exact ihc
  exact ihs x hx
 ·intro b hb; simp at hb
 intro b l ihb ihl x hx
 rcases List.mem_cons.1 hx with rfl|hx
 ·exact ihb
 exact ihl x hx
def AwA (n:Int):Bool:=decide (0<=n)&&decide (n<=1114111)&&(decide (n<55296)||decide (n>57343))
theorem BfX (n:Int):uQ n=some (AwA n):=by
 unfold uQ AwA
 by_cases h1:n>=0
 ·by_cases h2:n<=1114111
  ·by_cases h3:n<55296
   ·simp[h1,h2,h3]
   ·simp[h1,h2,h3]
  ·simp[h1,h2]
 simp[h1]
mutual
def AeZ:Arr->Int->Int
 |.mk sh cs,deep=>if (kV sh).2≠0 then (kV sh).2 else if (kV sh).1≠cs.length then 1 else if sh.any (λd=>decide (d>16384)) then 12 else AhM cs deep
def AhM:List aA->Int->Int
 | [],_=>0
 |c::r,deep=>if AcV c deep=0 then AhM r deep else AcV c deep
def AcV:aA->Int->Int
 |.mk k n b,deep=>if k=2/\n=0/\b.length=1 then (if deep>=8 then 15 else Bd5 b deep) else if b.length>0 then 1 else if k=0\/(k=1/\AwA n=true) then 0 else 1
def Bd5:List Arr->Int->Int
 | [],_=>0
 |a::_,deep=>AeZ a (deep+1)
end
theorem Am4 {a:Arr} {deep:Int} (hs:Few a.shape):∀(l:List Int) (k:Nat),a.shape.drop k=l->iW (a,deep,(k:Int))=some (if l.any (λd=>decide (d>16384)) then .error 12 else .ok ())
 | [],k,h=>by
  rw[iW]
  simp only[bZ (cC h),fJ,if_false,List.any_nil]
 |d::r,k,h=>by
  rw[iW]
  simp only[dH (cD h),if_true,bN h,oJ,bJ,bW h hs,List.any_cons]
  by_cases hd:d>16384
  ·simp[hd]
  simp only[hd,decide_false,fJ,if_false,Bool.false_or]
  exact Am4 hs r (k+1) (bC h)
theorem Am5 {a:Arr} {deep:Int} (hs:Few a.cells) (h0:0<=deep) (h8:deep<=8) (ih:∀c∈a.cells,∀b∈c.box,∀d,0<=d->d<=8->pN (b,d)=some (AeZ b d)) :
  ∀(l:List aA) (k:Nat),a.cells.drop k=l->gR (a,deep,(k:Int))=some (if AhM l deep=0 then .ok () else .error (AhM l deep))
 | [],k,h=>by
  rw[gR]
  simp only[bZ (cC h),fJ,if_false,AhM,if_true]
 |.mk kd n b::r,k,h=>by
  have hm:aA.mk kd n b∈a.cells:=List.mem_of_mem_drop (by rw[h]; simp)
  have ihc:=ih _ hm
  have rec_:gR (a,deep,(k:Int)+1)=_:=Am5 hs h0 h8 ih r (k+1) (bC h)
  rw[gR]
  simp only[dH (cD h),if_true,bN h,oJ,bJ,bW h hs,BfX]
  simp only[aA.kind,aA.n,aA.box,AhM,AcV] at ihc ⊢
  by_cases h2:kd=2
  ·by_cases hn:n=0
   ·by_cases hb:b.length=1
    ·obtain⟨x,rfl⟩:∃x,b=[x]:=List.length_eq_one_iff.1 hb
     by_cases h9:deep>=8
     ·simp[h2,hn,h9]
     have hx:=ihc x (by simp) (deep+1) (by omega) (by omega)
     have hw:w64 (deep+1)=deep+1:=aE (by omega) (by omega)
     have hl:lget [x] 0=some x:=rfl
     by_cases hz:AeZ x (deep+1)=0
     ·simp[h2,hn,h9,hw,hl,hx,Bd5,hz,rec_]
     simp[h2,hn,h9,hw,hl,hx,Bd5,hz]
    ·have hb':¬((b.length:Int)=1):=by omega
     by_cases hp:b.length>0
     ·have hp':(b.length:Int)>0:=by omega
      simp[h2,hn,hb,hb',hp,hp']
     have hp':¬(b.length:Int)>0:=by omega
     simp[h2,hn,hb,hb',hp,hp']
   ·by_cases hp:b.length>0
    ·have hp':(b.length:Int)>0:=by omega
     simp[h2,hn,hp,hp']
    ·have hp':¬(b.length:Int)>0:=by omega
     simp[h2,hn,hp,hp']
  by_cases hp:b.length>0
  ·have hp':(b.length:Int)>0:=by omega
   simp[h2,hp,hp']
  have hp':¬(b.length:Int)>0:=by omega
  by_cases h00:kd=0
  ·simp[h00,hp,hp',rec_]
  by_cases h1:kd=1
  ·by_cases hg:AwA n=true
   ·simp[h1,hp,hp',hg,rec_]
   ·simp[h1,hp,hp',hg]
  simp[h2,h1,h00,hp,hp']
theorem AxK:∀{l:List Int} {n m:Int},(∀d∈l,0<d)->0<n->n<=16384->vK n l=.ok m->m=n*aR l/\0<m/\m<=16384/\∀d∈l,d<=16384
 | [],n,m,_,h0,h1,h=>by simp only[vK,Except.ok.injEq] at h; subst h; simp[aR,h0,h1]
 |d::r,n,m,hp,h0,h1,h=>by
  simp only[vK] at h
  split at h
  ·cases h
  rename_i hq
  have hd:=hp d (by simp)
  have h2:d<=16384 / n:=by omega
  have hm:n*d<=16384:=by
   have:=(Int.le_ediv_iff_mul_le h0).1 h2
   rw[Int.mul_comm]; exact this
  have hm0:0<n*d:=Int.mul_pos h0 hd
  obtain⟨e,g1,g2,g3⟩:=AxK (λx hx=>hp x (by simp[hx])) hm0 hm h
  refine⟨by rw[e,aR]; exact Int.mul_assoc _ _ _,g1,g2,?_⟩
  intro x hx
  rcases List.mem_cons.1 hx with rfl|hx
  ·have:x<=n*x:=by
    have:=Int.mul_le_mul_of_nonneg_right (show (1:Int)<=n by omega) (Int.le_of_lt hd)
    rwa [Int.one_mul] at this
   omega
  exact g3 x hx
theorem As7:∀{l:List Int} {b:Bool},yV b l=.ok true->(∀d∈l,0<=d)/\(b=true\/0∈l)
 | [],b,h=>by simp only[yV,Except.ok.injEq] at h; simp[h]
 |d::r,b,h=>by
  simp only[yV] at h
  split at h
  ·cases h
  rename_i hd
  obtain⟨h1,h2⟩:=As7 h
  refine⟨?_,?_⟩
  ·intro x hx
   rcases List.mem_cons.1 hx with rfl|hx
   ·omega
   exact h1 x hx
  rcases h2 with h2|h2
  ·rw[Bool.or_eq_true,beq_iff_eq] at h2
   rcases h2 with h2|h2
   ·exact .inl h2
   exact .inr (by simp[h2])
  exact .inr (by simp[h2])
theorem Aj1:∀{l:List Int},0∈l->aR l=0
 |d::r,h=>by
  rcases List.mem_cons.1 h with rfl|h
  ·simp[aR]
  simp[aR,Aj1 h]
structure mD (s:List Int) (n:Int):Prop where
 rank:s.length<=8
 pos:∀d∈s,0<=d
 prod:aR s=n
 lo:0<=n
 hi:n<=16384
 dim:n≠0->∀d∈s,0<d/\d<=16384
theorem tZ {s:List Int} (h:(kV s).2=0):mD s (kV s).1:=by
 unfold kV at h ⊢
 split at h
 ·simp at h
 rename_i h8
 rw[if_neg h8]
 have e1:∀{b:Bool} {l:List Int} {r:Int×Int},yV b l=.error r->r.2≠0:=by
  intro b l
  induction l generalizing b with
  |nil=>intro r h; cases h
  |cons d l ih=>
   intro r h
   simp only[yV] at h
   split at h
   ·simp only[Except.error.injEq] at h; subst h; simp
   exact ih h
 have e2:∀{n:Int} {l:List Int} {r:Int×Int},vK n l=.error r->r.2≠0:=by
  intro n l
  induction l generalizing n with
  |nil=>intro r h; cases h
  |cons d l ih=>
   intro r h
   simp only[vK] at h
   split at h
   ·simp only[Except.error.injEq] at h; subst h; simp
   exact ih h
 cases hn:yV false s with
 |error r=>rw[hn] at h; exact absurd h (e1 hn)
 |ok b=>
  rw[hn] at h
  cases b with
  |true=>
   obtain⟨g1,g2⟩:=As7 hn
   have hz:0∈s:=by rcases g2 with g2|g2; exact absurd g2 (by simp); exact g2
   exact⟨by omega,g1,Aj1 hz,by simp,by simp,λh=>absurd rfl h⟩
  |false=>
   obtain⟨_,hp⟩:=Au2 hn
   simp only at h ⊢
   cases hl:vK 1 s with
   |error r=>rw[hl] at h; exact absurd h (e2 hl)
   |ok n=>
    obtain⟨g1,g2,g3,g4⟩:=AxK hp (by omega) (by omega) hl
    exact⟨by omega,λd hd=>Int.le_of_lt (hp d hd),by rw[g1,Int.one_mul],by simp only; omega,g3,λ_ d hd=>⟨hp d hd,g4 d hd⟩⟩
theorem Bd4 (a:Arr):∀d,0<=d->d<=8->pN (a,d)=some (AeZ a d):=by
 refine Arr.ind (P:=λa=>∀d,0<=d->d<=8->pN (a,d)=some (AeZ a d)) ?_ a
 intro sh cs ih d h0 h8
 rw[pN]
 simp only[show (Arr.mk sh cs).shape=sh from rfl,show (Arr.mk sh cs).cells=cs from rfl,zJ,oJ,bJ,AeZ]
 by_cases he:(kV sh).2=0
 ·by_cases hn:(kV sh).1=cs.length
  ·have hz:=tZ he
   have hfs:Few sh:=by have:=hz.rank; unfold Few; omega
   have hfc:Few cs:=by have:=hz.hi; unfold Few; omega
   have h1:=Am4 (a:=.mk sh cs) (deep:=d) hfs sh 0 rfl
   have h2:=Am5 (a:=.mk sh cs) (deep:=d) hfc h0 h8 ih cs 0 rfl
   rw[show iW (Arr.mk sh cs,d,0)=_ from h1,show gR (Arr.mk sh cs,d,0)=_ from h2]
   cases ha:sh.any (λd=>decide (d>16384)) with
   |true=>simp[he,hn]
   |false=>
    by_cases hc:AhM cs d=0
    ·simp[he,hn,hc]
    simp[he,hn,hc]
  ·have:((kV sh).1 != (cs.length:Int))=true:=by simpa using hn
   simp[he,hn]
 simp[he]
theorem qG (a:Arr):iK a=some (AeZ a 0):=by
 unfold iK
 rw[Bd4 a 0 (by omega) (by omega)]; rfl
end Go.AM.Seat
namespace Go.AM.Seat
open Go Go.AM
def Val (d:Int) (a:Arr):Prop:=AeZ a d=0
structure AxZ (d:Int) (a:Arr):Prop where
 sized:mD a.shape a.cells.length
 dims:∀x∈a.shape,x<=16384
 cells:∀c∈a.cells,AcV c d=0
theorem AiI {d:Int}:∀{l:List aA},AhM l d=0↔∀c∈l,AcV c d=0
 | []=>by simp[AhM]
 |c::r=>by
  simp only[AhM,List.mem_cons,forall_eq_or_imp]
  by_cases h:AcV c d=0
  ·simp[h,AiI (l:=r)]
  simp[h]
theorem AuH {d:Int} {a:Arr}:Val d a↔AxZ d a:=by
 obtain⟨sh,cs⟩:=a
 unfold Val
 simp only[AeZ]
 constructor
 ·intro h
  split at h
  ·rename_i he; exact absurd h he
  rename_i he
  split at h
  ·omega
  rename_i hn
  split at h
  ·omega
  rename_i ha
  have he':(kV sh).2=0:=by omega
  have hz:=tZ he'
  have hn':(kV sh).1=cs.length:=by omega
  rw[hn'] at hz
  refine⟨hz,?_,AiI.1 h⟩
  intro x hx
  simp only[Bool.not_eq_true,List.any_eq_false,decide_eq_true_eq] at ha
  have:=ha x hx
  omega
 rintro⟨h1,h2,h3⟩
 have he:kV sh=((cs.length:Int),0):=sizeS_of h1
 rw[he]
 simp only[ne_eq,not_true_eq_false,if_false]
 rw[if_neg]
 ·exact AiI.2 h3
 simp only[Bool.not_eq_true,List.any_eq_false,decide_eq_true_eq]
 intro x hx
 have:=h2 x hx
 simp only[Arr.shape] at *
 omega
 where
 sizeS_of {s:List Int} {n:Int} (h:mD s n):kV s=(n,0):=by
  unfold kV
  have h8:=h.rank
  rw[if_neg (by omega)]
  by_cases hz:n=0
  ·have hp:aR s=0:=by rw[h.prod,hz]
   have h0:0∈s:=prod_zero hp
   rw[neg_zero false h.pos (.inr h0)]
   subst hz; rfl
  have hd:=h.dim hz
  rw[neg_pos (λd hd'=>(hd d hd').1)]
  simp only
  rw[size_ok (n:=1) (λd hd'=>(hd d hd').1) (by omega) (by rw[Int.one_mul,h.prod]; exact h.hi)]
  simp only[Int.one_mul,h.prod]
 prod_zero:∀{l:List Int},aR l=0->0∈l
  | [],h=>by simp[aR] at h
  |d::r,h=>by
   simp only[aR] at h
   rcases Int.mul_eq_zero.1 h with h|h
   ·simp[h]
   simp[prod_zero h]
 neg_zero:∀{l:List Int} (b:Bool),(∀d∈l,0<=d)->(b=true\/0∈l)->yV b l=.ok true
  | [],b,_,h=>by
   rcases h with h|h
   ·simp[yV,h]
   simp at h
  |d::r,b,hp,h=>by
   have hd:=hp d (by simp)
   simp only[yV]
   rw[if_neg (by omega)]
   refine neg_zero _ (λx hx=>hp x (by simp[hx])) ?_
   rcases h with h|h
   ·left; simp[h]
   rcases List.mem_cons.1 h with h|h
   ·left; simp[←h]
   exact .inr h
 neg_pos:∀{l:List Int},(∀d∈l,0<d)->yV false l=.ok false
  | [],_=>rfl
  |d::r,hp=>by
   have hd:=hp d (by simp)
   simp only[yV]
   rw[if_neg (by omega)]
   have:(false||d==0)=false:=by simp; omega
   rw[this]
   exact neg_pos λx hx=>hp x (by simp[hx])
 prod_pos:∀{l:List Int},(∀d∈l,0<d)->0<aR l
  | [],_=>by simp[aR]
  |d::r,hp=>Int.mul_pos (hp d (by simp)) (prod_pos λx hx=>hp x (by simp[hx]))
 size_ok:∀{l:List Int} {n:Int},(∀d∈l,0<d)->0<n->n*aR l<=16384->vK n l=.ok (n*aR l)
  | [],n,_,_,_=>by simp[vK,aR]
  |d::r,n,hp,h0,h=>by
   have hd:=hp d (by simp)
   have hr:=prod_pos (l:=r) λx hx=>hp x (by simp[hx])
   simp only[aR,←Int.mul_assoc] at h ⊢
   have h1:n*d<=16384:=by
    have h2:n*d*1<=n*d*aR r:=Int.mul_le_mul_of_nonneg_left (by omega) (Int.le_of_lt (Int.mul_pos h0 hd))
    rw[Int.mul_one] at h2
    omega
   simp only[vK]
   rw[if_neg]
   ·exact size_ok (λx hx=>hp x (by simp[hx])) (Int.mul_pos h0 hd) h
   have:d<=16384 / n:=(Int.le_ediv_iff_mul_le h0).2 (by rw[Int.mul_comm]; exact h1)
   omega
theorem Val.i {d:Int} {a:Arr} (h:Val d a):AxZ d a:=AuH.1 h
theorem AxZ.v {d:Int} {a:Arr} (h:AxZ d a):Val d a:=AuH.2 h
theorem Val.fews {d:Int} {a:Arr} (h:Val d a):Few a.shape:=by have:=h.i.sized.rank; unfold Few; omega
theorem Val.fewc {d:Int} {a:Arr} (h:Val d a):Few a.cells:=by have:=h.i.sized.hi; unfold Few; omega
theorem rJ {d:Int} {c:aA} (h:AcV c d=0):(c.kind=2/\c.n=0/\d<8/\∃b,c.box=[b]/\Val (d+1) b)\/(c.box=[]/\(c.kind=0\/(c.kind=1/\AwA c.n=true))):=by
 obtain⟨k,n,b⟩:=c
 simp only[AcV] at h
 split at h
 ·rename_i hc
  split at h
  ·omega
  obtain⟨x,rfl⟩:=List.length_eq_one_iff.1 hc.2.2
  exact .inl ⟨hc.1,hc.2.1,by omega,x,rfl,h⟩
 split at h
 ·omega
 rename_i hb
 split at h
 ·rename_i hk
  refine .inr ⟨?_,hk⟩
  cases b with
  |nil=>rfl
  |cons _ _=>simp at hb
 omega
theorem AzO {a:Arr} {l:List Int} (hf:Few a.cells) (hl:a.cells.length<=16384) (hc:∀c∈a.cells,kD c=some c):∀(r:List aA) (k:Nat) (out:List aA),a.cells.drop k=r->out=a.cells.take k->kB (a,l,(k:Int),out)=some a.cells
 | [],k,out,h,ho=>by
  rw[kB]
  simp only[bZ (cC h),fJ,if_false]
  rw[ho,List.take_of_length_le (List.drop_eq_nil_iff.1 h)]
 |c::r,k,out,h,ho=>by
  have hk:=cD h
  have hm:c∈a.cells:=List.mem_of_mem_drop (by rw[h]; simp)
  rw[kB]
  have hlo:out.length<=16384:=by rw[ho,List.length_take]; omega
  have hap:lapp out [c]=some (out++[c]):=by unfold lapp; rw[if_pos (by simp; omega)]
  simp only[dH hk,if_true,bN h,oJ,bJ,bW h hf,hc c hm,hap]
  refine AzO hf hl hc r (k+1) _ (bC h) ?_
  rw[ho]
  have:a.cells[k]?=some c:=by
   have:(a.cells.drop k)[0]?=some c:=by rw[h]; rfl
   simpa using this
  rw[List.take_add_one,this]; rfl
theorem sE (a:Arr):∀d,Val d a->fE a=some a:=by
 refine Arr.ind (P:=λa=>∀d,Val d a->fE a=some a) ?_ a
 intro sh cs ih d hv
 have hi:=hv.i
 have hc:∀c∈cs,kD c=some c:=by
  intro c hm
  rw[kD]
  rcases rJ (hi.cells c hm) with ⟨_,_,_,b,hb,hvb⟩|⟨hb,_⟩
  ·have:=ih c hm b (by rw[hb]; simp) _ hvb
   obtain⟨k,n,bx⟩:=c
   simp only[aA.box] at hb
   subst hb
   have hl:lget [b] 0=some b:=rfl
   simp[aA.box,aA.kind,aA.n,hl,this]
  obtain⟨k,n,bx⟩:=c
  simp only[aA.box] at hb
  subst hb
  simp[aA.box,aA.kind,aA.n]
 rw[fE]
 have h1:lapp [] sh=some sh:=by unfold lapp; have:=hi.sized.rank; simp only[Arr.shape] at this; rw[if_pos (by simp; omega)]; simp
 have hlen:cs.length<=16384:=by have:=hi.sized.hi; simp only[Arr.cells] at this; omega
 have h2:=AzO (a:=.mk sh cs) (l:=sh) hv.fewc hlen hc cs 0 [] rfl rfl
 simp only[Arr.shape,h1,oJ,bJ]
 rw[show kB (Arr.mk sh cs,sh,0,[])=some cs from h2]; rfl
mutual
def wA:Arr->Nat
 |.mk _ cs=>wCs cs
def wCs:List aA->Nat
 | []=>0
 |c::r=>1+wC c+wCs r
def wC:aA->Nat
 |.mk _ _ b=>wB b
def wB:List Arr->Nat
 | []=>0
 |a::r=>wA a+wB r
end
theorem AxU (a:Arr):wA a=wCs a.cells:=by cases a; rfl
theorem AxV (c:aA):wC c=wB c.box:=by cases c; rfl
def bCs:List aA->Nat
 | []=>0
 |c::r=>wC c+bCs r
theorem An0:∀l:List aA,wCs l=l.length+bCs l
 | []=>rfl
 |c::r=>by simp only[wCs,bCs,List.length_cons,An0 r]; omega
theorem BcW {m:Nat}:∀{l:List aA},(∀c∈l,wC c<=m)->bCs l<=l.length*m
 | [],_=>by simp[bCs]
 |c::r,h=>by
  have h1:=h c (by simp)
  have h2:=BcW λx hx=>h x (List.mem_cons_of_mem _ hx)
  simp only[bCs,List.length_cons,Nat.add_mul,Nat.one_mul]
  omega
theorem AnC {c:aA}:∀{l:List aA},c∈l->wC c<=bCs l
 |x::r,h=>by
  simp only[bCs]
  rcases List.mem_cons.1 h with rfl|h
  ·omega
  have:=AnC h; omega
theorem Al0:∀(l:List aA) (k:Nat),bCs l=bCs (l.take k)+bCs (l.drop k)
 | [],k=>by simp[bCs]
 |c::r,0=>by simp[bCs]
 |c::r,k+1=>by simp only[List.take_succ_cons,List.drop_succ_cons,bCs,Al0 r k]; omega
def big:Nat:=4611686018427387904
theorem BfB (a:Arr):∀d,Val d a->T (kE a) (λn=>wA a<big->n=wA a):=by
 refine Arr.ind (P:=λa=>∀d,Val d a->T (kE a) (λn=>wA a<big->n=wA a)) ?_ a
 intro sh cs ih d hv
 have hi:=hv.i
 have hfc:Few cs:=hv.fewc
 have l1:∀(x:Int) (c:aA),c∈cs->∀n:Int,T (iL (.mk sh cs,x,c,n,0)) (λm=>wCs cs<big->0<=n->n+wC c<big->m=n+wC c):=by
  intro x c hm n
  have hc:=hi.cells c hm
  rw[iL]
  rcases rJ hc with ⟨_,_,_,b,hb,hvb⟩|⟨hb,_⟩
  ·have hwc:wC c=wA b:=by rw[AxV,hb]; simp[wB]
   simp only[hb]
   rw[show (decide ((0:Int)<(([b]:List Arr).length:Int)))=true from rfl,if_pos rfl,show lget [b] (0:Int)=some b from rfl]
   refine T.bind (T.val rfl (Q:=λv=>v=b) rfl) ?_
   intro v hv'; subst hv'
   refine T.bind (ih c hm v (by rw[hb]; simp) _ hvb) ?_
   intro w hw
   rw[iL]
   simp only[hb]
   rw[show (decide (w64 (0+1)<(([v]:List Arr).length:Int)))=false from rfl]
   refine T.ret ?_
   intro h1 h2 h3
   have hwm:=AnC hm
   have hwb:=An0 cs
   have:=hw (by omega)
   rw[this,hwc]
   rw[aE (by omega) (by unfold big at h3; omega)]
  have hwc:wC c=0:=by rw[AxV,hb]; simp[wB]
  simp only[hb]
  refine T.ret ?_
  intro h1 h2 h3; rw[hwc]; simp
 have l0:∀(r:List aA) (k:Nat) (n:Int),cs.drop k=r->T (p_meter_Cells_l0 (.mk sh cs,n,(k:Int))) (λm=>wCs cs<big->n=((cs.length+bCs (cs.take k):Nat):Int)->m=wCs cs):=by
  intro r
  induction r with
  |nil=>
   intro k n h
   rw[p_meter_Cells_l0]
   simp only[show (Arr.mk sh cs).cells=cs from rfl,bZ (cC h),fJ,if_false]
   refine T.ret ?_
   intro h1 h2
   rw[h2,An0,List.take_of_length_le (List.drop_eq_nil_iff.1 h)]
  |cons c r ihr=>
   intro k n h
   have hm:c∈cs:=List.mem_of_mem_drop (by rw[h]; simp)
   rw[p_meter_Cells_l0]
   simp only[show (Arr.mk sh cs).cells=cs from rfl,dH (cD h),if_true,bN h,oJ,bJ,bW h hfc]
   refine T.bind (l1 _ c hm n) ?_
   intro m hm2
   refine (ihr (k+1) m (bC h)).imp ?_
   intro v hv2 h1 h2
   refine hv2 h1 ?_
   have hs:=Al0 cs k
   have hs':=Al0 cs (k+1)
   rw[h] at hs
   rw[bC h] at hs'
   simp only[bCs] at hs
   have hwb:=An0 cs
   rw[hm2 h1 (by omega) (by omega)]
   omega
 rw[kE]
 refine T.bind (l0 cs 0 _ rfl) ?_
 intro v hv2
 refine T.ret ?_
 intro h1
 rw[AxU] at h1 ⊢
 refine hv2 h1 ?_
 simp[bCs,Arr.cells]
end Go.AM.Seat
namespace Go.AM.Seat
open Go Go.AM
theorem Node.ind {P:Node->Prop} (h:∀n,(∀k∈Node.kids n,P k)->P n) (n:Node):P n:=by
 refine Node.rec (motive_1:=P) (motive_2:=λl=>∀k∈l,P k) ?_ ?_ ?_ n
 ·intro kd op nm lit ks at_ ih; exact h _ ih
 ·intro k hk; simp at hk
 intro k l ihk ihl x hx
 rcases List.mem_cons.1 hx with rfl|hx
 ·exact ihk
 exact ihl x hx
mutual
def fitA:Arr->Prop
 |.mk sh cs=>Few sh/\Few cs/\Aw0 cs
def Aw0:List aA->Prop
 | []=>True
 |c::r=>AtL c/\Aw0 r
def AtL:aA->Prop
 |.mk _ _ b=>Few b/\BfV b
def BfV:List Arr->Prop
 | []=>True
 |a::r=>fitA a/\BfV r
end
mutual
def fitN:Node->Prop
 |.mk _ _ nm lit ks _=>Few nm/\fitA lit/\Few ks/\AzZ ks
def AzZ:List Node->Prop
 | []=>True
 |n::r=>fitN n/\AzZ r
end
theorem ArN:∀{l:List Node},AzZ l->∀k∈l,fitN k
 |n::r,h,k,hk=>by
  rcases List.mem_cons.1 hk with rfl|hk
  ·exact h.1
  exact ArN h.2 k hk
theorem fitN.name {n:Node} (h:fitN n):Few n.name:=by cases n; exact h.1
theorem fitN.kids {n:Node} (h:fitN n):∀k∈n.kids,fitN k:=by cases n; exact ArN h.2.2.2
theorem fitN.fewk {n:Node} (h:fitN n):Few n.kids:=by cases n; exact h.2.2.1
def WfB (n:Node):Prop:=(n.kind=21/\21<=n.op_/\n.op_<=32)\/(n.kind=35/\∃b,n.kids=[b]/\b.kind=21/\21<=b.op_/\b.op_<=32)
mutual
inductive WfE:Bool->Bool->Node->Prop
 |lit {n:Node} {lt rt:Bool}:n.kind=1->Val 0 n.lit->WfE lt rt n
 |var {n:Node} {lt rt:Bool}:n.kind=2->WfE lt rt n
 |left {n:Node} {lt rt:Bool}:n.kind=3->lt=true->WfE lt rt n
 |right {n:Node} {lt rt:Bool}:n.kind=4->rt=true->WfE lt rt n
 |mo {n f x:Node} {lt rt:Bool}:n.kind=5->n.kids=[f,x]->WfM f->WfE lt rt x->WfE lt rt n
 |dy {n f x y:Node} {lt rt:Bool}:n.kind=6->n.kids=[f,x,y]->WfD f->WfE lt rt x->WfE lt rt y->WfE lt rt n
inductive WfM:Node->Prop
 |prim {n:Node}:n.kind=21->WfM n
 |lam {n e:Node}:n.kind=22->n.kids=[e]->WfE false true e->WfM n
 |fold {n b:Node}:n.kind=31\/n.kind=32\/n.kind=33\/n.kind=34->n.kids=[b]->WfB b->WfM n
 |comm {n f:Node}:n.kind=35->n.kids=[f]->WfT f->WfM n
 |pow {n f:Node}:n.kind=26->0<=n.op_->n.op_<=4096->n.kids=[f]->WfM f->WfM n
inductive WfT:Node->Prop
 |prim {n:Node}:n.kind=21->WfT n
 |lam {n e:Node}:n.kind=23->n.kids=[e]->WfE true true e->WfT n
inductive WfD:Node->Prop
 |outer {n b:Node}:n.kind=25->n.kids=[b]->WfB b->WfD n
 |comm {n f:Node}:n.kind=35->n.kids=[f]->WfT f->WfD n
 |two {n:Node}:WfT n->WfD n
end
theorem WfE.mono (n:Node):∀{lt rt lt' rt':Bool},WfE lt rt n->(lt=true->lt'=true)->(rt=true->rt'=true)->WfE lt' rt' n:=by
 refine Node.ind (P:=λn=>∀{lt rt lt' rt':Bool},WfE lt rt n->(lt=true->lt'=true)->(rt=true->rt'=true)->WfE lt' rt' n) ?_ n
 intro n ih lt rt lt' rt' h h1 h2
 cases h with
 |lit a b=>exact .lit a b
 |var a=>exact .var a
 |left a b=>exact .left a (h1 b)
 |right a b=>exact .right a (h2 b)
 |mo a b c d=>exact .mo a b c (ih _ (by rw[b]; simp) d h1 h2)
 |dy a b c d e=>exact .dy a b c (ih _ (by rw[b]; simp) d h1 h2) (ih _ (by rw[b]; simp) e h1 h2)
theorem AlL {b:List (Int×Bool)} {k j:Int}:yI (Au0 b k true) j false=if j=k then true else yI b j false:=by
 induction b with
 |nil=>simp only[Au0,yI]; by_cases h:j=k<;>simp[h]
 |cons p r ih=>
  obtain⟨k',v'⟩:=p
  simp only[Au0]
  by_cases h:k=k'
  ·subst h
   simp only[beq_self_eq_true,if_true,yI]
   by_cases h2:j=k<;>simp[h2]
  have e1:(k==k')=false:=by simpa using h
  simp only[e1,fJ,if_false,yI,ih]
  by_cases h2:j=k'
  ·have h3:¬j=k:=λe=>h (by rw[←e,h2])
   have e2:(j==k')=true:=by simpa using h2
   rw[e2,if_pos rfl,if_neg h3,if_pos rfl]
  have e2:(j==k')=false:=by simpa using h2
  simp only[e2,fJ,if_false]
def QE (b:List (Int×Bool)) (n:Node) (r:Bool×Int×List (Int×Bool)):Prop:=
 (∀k,yI b k false=true->yI r.2.2 k false=true)/\(r.1=true->WfE (yI r.2.2 3 false) (yI r.2.2 4 false) n)
theorem qe {b:List (Int×Bool)} {n:Node} {t:Bool} {m:Int} (h:t=true->∀lt rt,WfE lt rt n):QE b n (t,m,b):=⟨λ_ h=>h,λe=>h e _ _⟩
theorem qno {b:List (Int×Bool)} {n:Node} {m:Int}:QE b n (false,m,b):=qe λe=>by cases e
theorem AdM {deep nodes:Int} {b:List (Int×Bool)}:T (cP deep nodes b) (λ_=>True):=by
 unfold cP
 exact T.ite (λ_=>T.ret trivial) (λ_=>T.ret trivial)
theorem AaD {deep nodes:Int}:T (bU deep nodes) (λ_=>True):=by
 unfold bU
 exact T.ite (λ_=>T.ret trivial) (λ_=>T.ret trivial)
theorem fY {n:Node} {k:Int} {a b c:Bool}:T (bM n k a b c) (λr=>r=true->(n.kids.length:Int)=k):=by
 unfold bM
 refine T.ite (λh=>?_) (λ_=>T.ret (by intro e; cases e))
 have hk:(n.kids.length:Int)=k:=by simpa using h
 have ok:∀x:Bool,x=true->(n.kids.length:Int)=k:=λ_ _=>hk
 repeat' (first|exact T.ret (ok _)|refine T.ite (λ_=>?_) (λ_=>?_))
theorem AeH {n:Node} (h:(n.kids.length:Int)=1):∃a,n.kids=[a]:=List.length_eq_one_iff.1 (by omega)
theorem BhE {n:Node} (h:(n.kids.length:Int)=2):∃a b,n.kids=[a,b]:=by
 match hk:n.kids,h with
 | [a,b],_=>exact⟨a,b,rfl⟩
 | [],h=>simp at h
 | [_],h=>simp at h
 |_::_::_::_,h=>simp at h; omega
theorem BhF {n:Node} (h:(n.kids.length:Int)=3):∃a b c,n.kids=[a,b,c]:=by
 match hk:n.kids,h with
 | [a,b,c],_=>exact⟨a,b,c,rfl⟩
 | [],h=>simp at h
 | [_],h=>simp at h
 | [_,_],h=>simp at h
 |_::_::_::_::_,h=>simp at h; omega
theorem AjB {op:Int}:T (mH op) (λr=>r=true->21<=op/\op<=32):=by
 unfold mH
 refine T.ite (λh=>T.ret ?_) (λ_=>T.ret (by intro e; cases e))
 intro e
 simp at h e; omega
theorem Aj8 {a:Arr} (hf:Few a.cells):∀(r:List aA) (k:Nat),a.cells.drop k=r->T (iY (a,(k:Int))) (λ_=>True)
 | [],k,h=>by
  rw[iY]
  simp only[bZ (cC h),fJ,if_false]
  exact T.ret trivial
 |c::r,k,h=>by
  have hk:=cD h
  have ih:=Aj8 hf r (k+1) (bC h)
  rw[iY]
  simp only[dH hk,if_true,bN h,oJ,bJ,bW h hf]
  refine T.bind (R:=λ_=>True) ?_ (λv _=>?_)
  ·refine T.ite (λ_=>T.ret trivial) (λ_=>?_)
   refine T.bind (T.lget (Q:=λ_=>True) (by omega) (by omega) (λ_ _=>trivial)) (λy _=>?_)
   repeat' (first|exact T.ret trivial|refine T.ite (λ_=>?_) (λ_=>?_))
  cases v
  ·exact T.ret trivial
  exact ih
theorem Aj9 {a:Arr} (hf:Few a.cells):∀(r:List aA) (k:Nat),a.cells.drop k=r->T (jA (a,(k:Int))) (λ_=>True)
 | [],k,h=>by
  rw[jA]
  simp only[bZ (cC h),fJ,if_false]
  exact T.ret trivial
 |c::r,k,h=>by
  have hk:=cD h
  have ih:=Aj9 hf r (k+1) (bC h)
  rw[jA]
  simp only[dH hk,if_true,bN h,oJ,bJ,bW h hf]
  refine T.bind (R:=λ_=>True) ?_ (λv _=>?_)
  ·refine T.ite (λ_=>T.ret trivial) (λ_=>?_)
   refine T.bind (T.lget (Q:=λ_=>True) (by omega) (by omega) (λ_ _=>trivial)) (λy _=>?_)
   repeat' (first|exact T.ret trivial|refine T.ite (λ_=>?_) (λ_=>?_))
  cases v
  ·exact T.ret trivial
  exact ih
theorem AqP (a:Arr):T (pB a) (λr=>r=true->Val 0 a):=by
 unfold pB
 refine T.bind (T.val (qG a) (Q:=λv=>v=AeZ a 0) rfl) (λx hx=>?_)
 subst hx
 refine T.ite (λ_=>T.ret (by intro e; cases e)) (λhx=>?_)
 have hv:Val 0 a:=by unfold Val; simpa using hx
 have ok:∀r:Bool,r=true->Val 0 a:=λ_ _=>hv
 refine T.ite (λ_=>T.ret (ok _)) (λ_=>?_)
 refine T.ite (λ_=>?_) (λ_=>?_)
 ·refine T.ite (λ_=>T.ret (ok _)) (λ_=>?_)
  refine T.bind (Aj8 hv.fewc a.cells 0 rfl) (λv _=>?_)
  cases v<;>exact T.ret (ok _)
 refine T.bind (Aj9 hv.fewc a.cells 0 rfl) (λv _=>?_)
 cases v<;>exact T.ret (ok _)
theorem AqQ {s:Str} (hf:Few s):∀(r:List UInt8) (k:Nat),s.drop k=r->T (mW (s,(k:Int))) (λ_=>True)
 | [],k,h=>by
  rw[mW]
  simp only[bZ (cC h),fJ,if_false]
  exact T.ret trivial
 |c::r,k,h=>by
  have hk:=cD h
  have ih:=AqQ hf r (k+1) (bC h)
  rw[mW]
  have g:∀{α:Type} {f:Int->Option α} {Q:α->Prop},(∀v,T (f v) Q)->T (sget s (k:Int)>>=f) Q:=λhh=>T.bind (T.sget (Q:=λ_=>True) (by omega) hk (λ_ _=>trivial)) (λv _=>hh v)
  simp only[dH hk,if_true,bW h hf]
  refine T.bind (R:=λ_=>True) ?_ (λv _=>?_)
  ·repeat' (first|exact T.ret trivial|refine T.ite (λ_=>?_) (λ_=>?_)|refine g (λ_=>?_))
  cases v
  ·exact T.ret trivial
  exact ih
theorem BcH {s:Str} (hf:Few s):T (vD s) (λ_=>True):=by
 unfold vD
 refine T.bind (AqQ hf s 0 rfl) (λv _=>?_)
 cases v
 ·exact T.ret trivial
 exact T.ite (λ_=>T.ret trivial) (λ_=>T.ret trivial)
theorem hC {α:Prop}:(false:Bool)=true->α:=λe=>by cases e
theorem eU {a b:Int} (h:(a==b)=true):a=b:=by simpa using h
theorem jK {α:Type} {a:α} {r:List α} {Q:α->Prop} (h:Q a):T (lget (a::r) 0) Q:=⟨a,rfl,h⟩
theorem AwL {α:Type} {a b:α} {r:List α} {Q:α->Prop} (h:Q b):T (lget (a::b::r) 1) Q:=⟨b,rfl,h⟩
theorem BhG {α:Type} {a b c:α} {r:List α} {Q:α->Prop} (h:Q c):T (lget (a::b::c::r) 2) Q:=⟨c,rfl,h⟩
theorem Ar1 {n:Node} {deep nodes:Int} {b:List (Int×Bool)}:T (fW n deep nodes b) (λr=>r.1=true->WfB n):=by
 unfold fW
 refine T.bind (R:=λr=>match r with|.error r=>r.1=false|.ok (_,k,o,_)=>(k=21->21<=o->o<=32->WfB n)) ?_ (λv hv=>?_)
 ·refine T.ite (λh=>?_) (λh=>?_)
  ·refine T.bind AdM (λv _=>?_)
   refine T.ite (λ_=>T.ret rfl) (λ_=>?_)
   refine T.bind fY (λx hx=>?_)
   refine T.ite (λ_=>T.ret rfl) (λhxx=>?_)
   obtain⟨a,ha⟩:=AeH (hx (by simpa using hxx))
   rw[ha]
   refine T.bind (jK (Q:=λy=>y=a) rfl) (λy hy=>?_)
   subst hy
   exact T.ret (λh1 h2 h3=>.inr ⟨eU h,y,ha,h1,h2,h3⟩)
  ·exact T.ret (λh1 h2 h3=>.inl ⟨h1,h2,h3⟩)
 match v,hv with
 |.error r,hv=>exact T.ret (λe=>by rw[hv] at e; cases e)
 |.ok (_,k,o,_,_,_,_,_,_),hv=>
  refine T.bind AdM (λv _=>?_)
  refine T.ite (λ_=>?_) (λ_=>T.ret hC)
  refine T.ite (λhk=>?_) (λ_=>T.ret hC)
  refine T.bind fY (λx hx=>?_)
  refine T.ite (λ_=>?_) (λ_=>T.ret hC)
  refine T.bind AjB (λx hx=>?_)
  exact T.ret (λe=>hv (eU hk) (hx e).1 (hx e).2)
def BcF (n:Node):Prop:=∀(deep nodes:Int) (b:List (Int×Bool)),
 T (dI (n,deep,nodes,b)) (QE b n)/\T (kT (n,deep,nodes,b)) (λr=>r.1=true->WfM n)/\T (oE (n,deep,nodes,b)) (λr=>r.1=true->WfD n) /\
 T (fO (n,deep,nodes,b)) (λr=>r.1=true->WfT n)
theorem BjA (n:Node):fitN n->BcF n:=by
 refine Node.ind (P:=λn=>fitN n->BcF n) ?_ n
 intro n ih hf
 have ihk:∀k∈n.kids,BcF k:=λk hk=>ih k hk (hf.kids k hk)
 have lam:∀(deep nodes:Int) (b:List (Int×Bool)),T (gI (n,deep,nodes,b)) (λr=>r.1=true->∃e,n.kids=[e]/\(n.kind=22->WfE false true e)/\(n.kind≠22->WfE true true e)):=by
  intro deep nodes b
  rw[gI]
  refine T.bind fY (λx hx=>?_)
  refine T.ite (λ_=>T.ret hC) (λhxx=>?_)
  obtain⟨a,ha⟩:=AeH (hx (by simpa using hxx))
  rw[ha]
  refine T.bind (jK (Q:=λy=>y=a) rfl) (λy hy=>?_)
  subst hy
  refine T.bind ((ihk y (by rw[ha]; simp) (w64 (deep+1)) nodes []).1) (λr hr=>?_)
  refine T.ite (λhk=>?_) (λhk=>?_)
  ·refine T.ite (λh=>T.ret (λe=>⟨y,rfl,λ_=>(hr.2 h).mono _ (λh3=>by rw[h3] at e; cases e) (λ_=>rfl),λh'=>absurd (eU hk) h'⟩)) (λ_=>T.ret hC)
  refine T.ite (λh=>?_) (λ_=>T.ret hC)
  refine T.ite (λh3=>T.ret (λh4=>⟨y,rfl,λh'=>by rw[h'] at hk; simp at hk,λ_=>(hr.2 h).mono _ (λ_=>rfl) (λ_=>rfl)⟩)) (λ_=>T.ret hC)
 have two:∀(deep nodes:Int) (b:List (Int×Bool)),T (fO (n,deep,nodes,b)) (λr=>r.1=true->WfT n):=by
  intro deep nodes b
  rw[fO]
  refine T.bind AdM (λv _=>?_)
  refine T.ite (λ_=>T.ret hC) (λ_=>?_)
  refine T.ite (λhk=>?_) (λ_=>?_)
  ·have hp:WfT n:=.prim (eU hk)
   refine T.bind fY (λx hx=>?_)
   refine T.ite (λ_=>?_) (λ_=>T.ret hC)
   refine T.bind AjB (λx hx=>?_)
   refine T.ite (λ_=>T.ret (λ_=>hp)) (λ_=>?_)
   exact T.ite (λ_=>T.ret (λ_=>hp)) (λ_=>T.ret hC)
  refine T.ite (λhk=>?_) (λ_=>T.ret hC)
  refine T.bind (lam deep _ b) (λr hr=>T.ret (λe=>?_))
  obtain⟨x,h1,h2⟩:=hr e
  exact .lam (eU hk) h1 (h2.2 (by rw[eU hk]; decide))
 have turned:∀(deep nodes:Int) (b:List (Int×Bool)),T (gK (n,deep,nodes,b)) (λr=>r.1=true->∃f,n.kids=[f]/\WfT f):=by
  intro deep nodes b
  rw[gK]
  refine T.bind fY (λx hx=>?_)
  refine T.ite (λ_=>T.ret hC) (λhxx=>?_)
  obtain⟨a,ha⟩:=AeH (hx (by simpa using hxx))
  rw[ha]
  refine T.bind (jK (Q:=λy=>y=a) rfl) (λy hy=>?_)
  subst hy
  have g:=(ihk y (by rw[ha]; simp) (w64 (deep+1)) nodes b).2.2.2
  refine T.ite (λ_=>?_) (λ_=>?_)
  ·exact T.bind g (λr hr=>T.ret (λe=>⟨y,rfl,hr e⟩))
  refine T.ite (λ_=>?_) (λ_=>T.ret hC)
  refine T.ite (λ_=>?_) (λ_=>T.ret hC)
  exact T.bind g (λr hr=>T.ret (λe=>⟨y,rfl,hr e⟩))
 intro deep nodes b
 refine⟨?_,?_,?_,two deep nodes b⟩
 ·rw[dI]
  refine T.bind AdM (λv _=>?_)
  refine T.ite (λ_=>T.ret qno) (λ_=>?_)
  refine T.ite (λhk=>?_) (λ_=>?_)
  ·refine T.bind fY (λx hx=>?_)
   refine T.ite (λ_=>?_) (λ_=>T.ret qno)
   exact T.bind (AqP _) (λr hr=>T.ret (qe λe _ _=>.lit (eU hk) (hr e)))
  refine T.ite (λhk=>?_) (λ_=>?_)
  ·refine T.bind fY (λx hx=>?_)
   refine T.ite (λ_=>?_) (λ_=>T.ret qno)
   exact T.bind (BcH hf.name) (λr hr=>T.ret (qe λe _ _=>.var (eU hk)))
  refine T.bind (R:=λr=>r=true->n.kind=3\/n.kind=4) ?_ (λx5 h5=>?_)
  ·exact T.ite (λh=>T.ret (λ_=>.inl (eU h))) (λ_=>T.ret (λh=>.inr (eU h)))
  refine T.ite (λhk=>?_) (λ_=>?_)
  ·refine T.bind fY (λx hx=>?_)
   exact T.ite (λ_=>T.ret qno) (λ_=>T.ret ⟨λk h=>by rw[AlL]; split; rfl; exact h,λ_=>by
    rcases h5 hk with h|h
    ·exact .left h (by rw[AlL,if_pos h.symm])
    exact .right h (by rw[AlL,if_pos h.symm])⟩)
  refine T.ite (λhk=>?_) (λ_=>?_)
  ·refine T.bind fY (λx hx=>?_)
   refine T.ite (λhxx=>?_) (λ_=>T.ret qno)
   obtain⟨f,x1,ha⟩:=BhE (hx hxx)
   rw[ha]
   refine T.bind (jK (Q:=λy=>y=f) rfl) (λy hy=>?_)
   subst hy
   refine T.bind (ihk y (by rw[ha]; simp) _ _ _).2.1 (λr hr=>?_)
   refine T.ite (λh8=>?_) (λ_=>T.ret qno)
   refine T.bind (AwL (Q:=λz=>z=x1) rfl) (λz hz=>?_)
   subst hz
   exact T.bind (ihk z (by rw[ha]; simp) _ _ _).1 (λr2 hr2=>T.ret ⟨hr2.1,λe=>.mo (eU hk) ha (hr h8) (hr2.2 e)⟩)
  refine T.ite (λhk=>?_) (λ_=>T.ret qno)
  refine T.bind fY (λx hx=>?_)
  refine T.ite (λhxx=>?_) (λ_=>T.ret qno)
  obtain⟨f,x1,y1,ha⟩:=BhF (hx hxx)
  rw[ha]
  refine T.bind (jK (Q:=λy=>y=f) rfl) (λy hy=>?_)
  subst hy
  refine T.bind (ihk y (by rw[ha]; simp) _ _ _).2.2.1 (λr hr=>?_)
  refine T.ite (λh8=>?_) (λ_=>T.ret qno)
  refine T.bind (AwL (Q:=λz=>z=x1) rfl) (λz hz=>?_)
  subst hz
  refine T.bind (ihk z (by rw[ha]; simp) _ _ _).1 (λr2 hr2=>?_)
  refine T.ite (λh9=>?_) (λ_=>T.ret ⟨hr2.1,hC⟩)
  refine T.bind (BhG (Q:=λw=>w=y1) rfl) (λw hw=>?_)
  subst hw
  exact T.bind (ihk w (by rw[ha]; simp) _ _ _).1 (λr3 hr3=>T.ret ⟨λk h=>hr3.1 k (hr2.1 k h),λe=>.dy (eU hk) ha (hr h8) ((hr2.2 h9).mono _ (hr3.1 3) (hr3.1 4)) (hr3.2 e)⟩)
 ·rw[kT]
  refine T.bind AdM (λv _=>?_)
  refine T.ite (λ_=>T.ret hC) (λ_=>?_)
  refine T.ite (λhk=>?_) (λ_=>?_)
  ·refine T.bind fY (λx hx=>?_)
   refine T.ite (λ_=>?_) (λ_=>T.ret hC)
   exact T.ite (λ_=>T.ret (λ_=>.prim (eU hk))) (λ_=>T.ret hC)
  refine T.ite (λhk=>?_) (λ_=>?_)
  ·refine T.bind (lam deep _ b) (λr hr=>T.ret (λe=>?_))
   obtain⟨x,h1,h2⟩:=hr e
   exact .lam (eU hk) h1 (h2.1 (eU hk))
  refine T.bind (R:=λr=>r=true->n.kind=31\/n.kind=32\/n.kind=33\/n.kind=34) ?_ (λx5 h5=>?_)
  ·refine T.ite (λh=>T.ret (λ_=>.inl (eU h))) (λ_=>?_)
   refine T.ite (λh=>T.ret (λ_=>.inr (.inl (eU h)))) (λ_=>?_)
   exact T.ite (λh=>T.ret (λ_=>.inr (.inr (.inl (eU h))))) (λ_=>T.ret (λh=>.inr (.inr (.inr (eU h)))))
  refine T.ite (λhk=>?_) (λ_=>?_)
  ·refine T.bind fY (λx hx=>?_)
   refine T.ite (λhxx=>?_) (λ_=>T.ret hC)
   obtain⟨a,ha⟩:=AeH (hx hxx)
   rw[ha]
   refine T.bind (jK (Q:=λy=>y=a) rfl) (λy hy=>?_)
   subst hy
   exact T.bind Ar1 (λr hr=>T.ret (λe=>.fold (h5 hk) ha (hr e)))
  refine T.ite (λhk=>?_) (λ_=>?_)
  ·refine T.bind (turned deep _ b) (λr hr=>T.ret (λe=>?_))
   obtain⟨x,h1,h2⟩:=hr e
   exact .comm (eU hk) h1 h2
  refine T.ite (λhk=>?_) (λ_=>T.ret hC)
  refine T.bind fY (λx hx=>?_)
  refine T.ite (λhxx=>?_) (λ_=>T.ret hC)
  refine T.ite (λho=>?_) (λ_=>T.ret hC)
  refine T.ite (λho'=>?_) (λ_=>T.ret hC)
  obtain⟨a,ha⟩:=AeH (hx hxx)
  rw[ha]
  refine T.bind (jK (Q:=λy=>y=a) rfl) (λy hy=>?_)
  refine T.ite (λ_=>?_) (λ_=>T.ret hC)
  refine T.bind (jK (Q:=λy=>y=a) rfl) (λz hz=>?_)
  subst hz
  exact T.bind (ihk z (by rw[ha]; simp) _ _ _).2.1 (λr hr=>T.ret (λe=>.pow (eU hk) (by simpa using ho) (by simpa using ho') ha (hr e)))
 rw[oE]
 refine T.ite (λhk=>?_) (λ_=>?_)
 ·refine T.bind AdM (λv _=>?_)
  refine T.ite (λ_=>?_) (λ_=>T.ret hC)
  refine T.bind fY (λx hx=>?_)
  refine T.ite (λhxx=>?_) (λ_=>T.ret hC)
  obtain⟨a,ha⟩:=AeH (hx hxx)
  rw[ha]
  refine T.bind (jK (Q:=λy=>y=a) rfl) (λy hy=>?_)
  subst hy
  exact T.bind Ar1 (λr hr=>T.ret (λe=>.outer (eU hk) ha (hr e)))
 refine T.ite (λhk=>?_) (λ_=>?_)
 ·refine T.bind AdM (λv _=>?_)
  refine T.ite (λ_=>?_) (λ_=>T.ret hC)
  refine T.bind (turned deep _ b) (λr hr=>T.ret (λe=>?_))
  obtain⟨x,h1,h2⟩:=hr e
  exact .comm (eU hk) h1 h2
 exact T.bind (two deep _ b) (λr hr=>T.ret (λe=>.two (hr e)))
end Go.AM.Seat
namespace Go.AM
open Go Go.ChangeShapes Go.WideShapes
variable [cN]
theorem BcO {a:Addr} (h:a.spot=none):a=ad a.block a.off:=by
 obtain⟨b,o,s⟩:=a
 simp only at h; subst h; rfl
theorem dE.app {K:Col} {w:World}:∀{a b:List D} {vs us:List Value},dE K w a vs->dE K w b us->dE K w (a++b) (vs++us)
 | [],b,vs,us,h,h'=>by
  simp only[dE] at h; subst h
  simpa using h'
 |d::a,b,vs,us,h,h'=>by
  simp only[dE] at h
  obtain⟨v,r,rfl,h1,h2,h3⟩:=h
  simp only[List.cons_append,dE]
  exact⟨v,r++us,rfl,h1,h2,dE.app h3 h'⟩
theorem dE.one {K:Col} {w:World} {d:D} {v:Value} (h:Rep K w d v) (h1:eX v=true):dE K w [d] [v]:=by
 simp only[dE]; exact⟨v,[],rfl,h1,h,rfl⟩
section
variable {H:Type} {enc:TypeId×Value->H} {P:Program} {w:World} {base:Nat} {sp:Nat->Bool} {held:Bool} {t e:TypeId} {n:Nat} {cs:List Value} {x:DataW H×List MemPlace}
theorem ApK {k:IntKind} (ht:P.underlying t=some (.int k)) (h:DataW.trod enc P w base sp held n t cs=some x):∃m,dE (colRo w) w [.int k m] cs/\(Lit.int k m).wf=true:=by
 obtain⟨m,rfl,_,hw⟩:=DataW.trod_int ht h
 exact⟨m,dE.one (by simp only[Rep]) rfl,hw⟩
def Wts (P:Program) (t:TypeId) (d:DataW H):Prop:=∀b∈d.weights P t,b<=reachBytes
theorem BiI (ht:P.underlying t=some .string) (hs:Wts P t x.1) (h:DataW.trod enc P w base sp held n t cs=some x):∃s:Str,dE (colRo w) w [.str s] cs/\s.length<=reachBytes:=by
 obtain⟨s,rfl,rfl,hw⟩:=DataW.trod_string ht h
 exact⟨s.data.toList,dE.one (by simp only[Rep]) rfl,hs _ (by simp[DataW.weights])⟩
theorem AgQ {d:DataW H}:∀{l:List (DataW H)},d∈l->∀b∈d.weights P e,b∈DataW.weightsAll P e l
 |y::r,hd,b,hb=>by
  simp only[DataW.weightsAll,List.mem_append]
  rcases List.mem_cons.1 hd with rfl|hd
  ·exact .inl hb
  ·exact .inr (AgQ hd b hb)
theorem AeY {d:DataW H} {u:TypeId}:∀{ts:List TypeId} {l:List (DataW H)} {i:Nat},ts[i]?=some u->l[i]?=some d->∀b∈d.weights P u,b∈DataW.weightsEach P ts l
 |_::ts,y::r,0,ht,hl,b,hb=>by
  simp only[List.getElem?_cons_zero,sJ] at ht hl
  subst ht; subst hl
  simp only[DataW.weightsEach,List.mem_append]
  exact .inl hb
 |_::ts,y::r,i+1,ht,hl,b,hb=>by
  simp only[List.getElem?_cons_succ] at ht hl
  simp only[DataW.weightsEach,List.mem_append]
  exact .inr (AeY ht hl b hb)
theorem Bc6 {a:Addr} {v:Value} (h:w.cell? a=some v):a.spot=none:=by
 unfold World.cell? at h
 split at h
 ·split at h
  ·simp at h
  ·rename_i hs; simpa using hs
 ·simp at h
theorem AdE {α:Type} {sz:Nat} (f:α->D) (Q:α->Prop) (ht:P.underlying t=some (.slice e)) (hc:P.cellsOf e=sz) (hz:0<sz) (hb8:0<P.bytesOf e) (hs:Wts P t x.1)
  (ih:∀m,m<n->∀cs x,Wts P e x.1->DataW.trod enc P w base sp held m e cs=some x->∃a v,v.cells.toList=cs/\Rep (colRo w) w (f a) v/\Q a)
  (h:DataW.trod enc P w base sp held n t cs=some x):∃l:List α,dE (colRo w) w [.list sz (l.map f)] cs/\l.length<=reachBytes/\∀a∈l,Q a:=by
 rcases DataW.trod_slice ht h with ⟨rfl,_⟩|⟨a,len,cap,elems,rest,m,rfl,rfl,rfl,hb,hl,hm,hlen,hel,_,_⟩
 ·exact⟨[],dE.one (by simp only[Rep,List.map_nil]; exact .inl ⟨by simp,.inl rfl⟩) rfl,by simp,by simp⟩
 ·subst hc
  have hle:elems.length<=reachBytes:=by
   have h1:(elems.length+rest.length)*P.bytesOf e<=reachBytes:=by
    have:=hs ((elems.length+rest.length)*P.bytesOf e) (by simp[DataW.weights,ht])
    exact this
   have h2:(elems.length+rest.length)*1<=(elems.length+rest.length)*P.bytesOf e:=Nat.mul_le_mul_left _ hb8
   omega
  have hwe:∀y∈elems,Wts P e y.1:=by
   intro y hy b hb
   refine hs b ?_
   simp only[DataW.weights,ht,List.mem_cons,List.mem_append]
   exact .inr (.inl (AgQ (List.mem_map.2 ⟨y,hy,rfl⟩) b hb))
  have each:∀i,i<len->∃a' v,Rep (colRo w) w (f a') v/\Q a'/\v.cells.size=P.cellsOf e/\∀j u,v.cells.toList[j]?=some u->w.cell? (a.add (i*P.cellsOf e+j))=some u:=by
   intro i hi
   have h1:=hel i hi
   have h2:elems[i]?=some (elems[i]'(by omega)):=List.getElem?_eq_getElem (by omega)
   rw[h2,Option.bind_eq_some_iff] at h1
   obtain⟨cs',hcs,ht'⟩:=h1
   obtain⟨a',v,hv,hr,hq⟩:=ih m (by omega) _ _ (hwe _ (List.getElem_mem _)) ht'
   obtain⟨_,hcl,hce⟩:=World.cells?_some hcs
   refine⟨a',v,hr,hq,?_,?_⟩
   ·rw[←hcl,←hv]; simp
   ·intro j u hu
    rw[hv] at hu
    have hj:j<P.cellsOf e:=by rw[←hcl]; exact (List.getElem?_eq_some_iff.1 hu).1
    have:=hce j hj
    rw[hu] at this
    rw[←this,Addr.add_add]
  by_cases h0:len=0
  ·subst h0
   exact⟨[],dE.one (by simp only[Rep,List.map_nil]; exact .inl ⟨by simp,.inr ⟨a,cap,rfl⟩⟩) rfl,by simp,by simp⟩
  ·have hsp:a.spot=none:=by
    obtain⟨_,v,_,_,hs,hg⟩:=each 0 (by omega)
    have h1:v.cells.toList[0]?=some (v.cells.toList[0]'(by simp; omega)):=List.getElem?_eq_getElem _
    have:=Bc6 (hg 0 _ h1)
    simpa[Addr.add] using this
   have hada:=BcO hsp
   have all:∀k,k<=len->∃l:List α,l.length=len-k/\gY (colRo w) w (P.cellsOf e) a.block (a.off+k*P.cellsOf e) (l.map f)/\∀a∈l,Q a:=by
    intro k hk
    induction hj:len-k generalizing k with
    |zero=>exact⟨[],rfl,by simp only[List.map_nil,gY],by simp⟩
    |succ j ihj=>
     obtain⟨l,h1,h2,h3⟩:=ihj (k+1) (by omega) (by omega)
     obtain⟨a',v,hr,hq,hs,hg⟩:=each k (by omega)
     refine⟨a'::l,by simp[h1],?_,?_⟩
     ·simp only[List.map_cons,gY]
      refine⟨⟨v,hr,hs,?_⟩,by rw[show a.off+k*P.cellsOf e+P.cellsOf e=a.off+(k+1)*P.cellsOf e by rw[Nat.add_mul]; omega]; exact h2⟩
      intro i u hu
      have:=hg i u hu
      rw[show a.add (k*P.cellsOf e+i)=ad a.block (a.off+k*P.cellsOf e+i) by
       conv=>lhs; rw[hada]
       rw[Addr.add_lit,Nat.add_assoc]] at this
      refine⟨?_,this⟩
      simp only[colRo]; rw[if_pos (block_lt this)]
     ·intro b hb
      rcases List.mem_cons.1 hb with rfl|hb
      ·exact hq
      ·exact h3 b hb
   obtain⟨l,h1,h2,h3⟩:=all 0 (by omega)
   refine⟨l,dE.one ?_ rfl,by omega,h3⟩
   simp only[Rep]
   refine .inr ⟨a.block,a.off,cap,?_,?_,by simpa using h2⟩
   ·rw[←hada]; simp[h1]
   ·simp[h1]; omega
def AzE (enc:TypeId×Value->H) (P:Program) (w:World) (base:Nat) (sp:Nat->Bool) (held:Bool) (m:Nat):List (TypeId×Nat×Nat)->List Value->Prop
 | [],cs=>cs=[]
 |p::r,cs=>∃a b,cs=a++b/\(∃x,Wts P p.1 x.1/\DataW.trod enc P w base sp held m p.1 a=some x)/\AzE enc P w base sp held m r b
def chained:Nat->Nat->List (TypeId×Nat×Nat)->Bool
 |off,z,[]=>off==z
 |off,z,p::r=>p.2.1==off&&chained (off+p.2.2) z r
theorem Ax1 {m:Nat} {cs:List Value}:∀(tz:List (TypeId×Nat×Nat)) (off:Nat),chained off cs.length tz=true ->
  (∀p∈tz,∃x,Wts P p.1 x.1/\DataW.trod enc P w base sp held m p.1 ((cs.drop p.2.1).take p.2.2)=some x)->AzE enc P w base sp held m tz (cs.drop off)
 | [],off,hc,_=>by
  simp only[chained,beq_iff_eq] at hc
  simp only[AzE,hc,List.drop_length]
 |p::r,off,hc,h=>by
  simp only[chained,Bool.and_eq_true,beq_iff_eq] at hc
  refine⟨(cs.drop off).take p.2.2,(cs.drop off).drop p.2.2,(List.take_append_drop _ _).symm,?_,?_⟩
  ·rw[←hc.1]; exact h p (by simp)
  ·rw[List.drop_drop]
   exact Ax1 r _ hc.2 λq hq=>h q (by simp[hq])
theorem AhD {fs:Array Field} {tz:List (TypeId×Nat×Nat)} {z:Nat} (ht:P.underlying t=some (.struct fs)) (hf:fs.toList.map (λf=>(f.type,f.offset,P.cellsOf f.type))=tz) (hz:P.cellsOf t=z) (hc:chained 0 z tz=true) (hs:Wts P t x.1)
  (h:DataW.trod enc P w base sp held n t cs=some x):∃m,n=m+1/\AzE enc P w base sp held m tz cs:=by
 obtain⟨xs,m,rfl,rfl,hl,hxl,hx⟩:=DataW.trod_struct ht h
 refine⟨m,rfl,?_⟩
 have:=Ax1 (enc:=enc) (P:=P) (w:=w) (base:=base) (sp:=sp) (held:=held) (m:=m) (cs:=cs) tz 0 (by rw[hl,hz]; exact hc) ?_
 ·simpa using this
 ·intro p hp
  rw[←hf,List.mem_map] at hp
  obtain⟨f,hf',rfl⟩:=hp
  obtain⟨i,hi⟩:=List.getElem?_of_mem hf'
  have hi':fs[i]?=some f:=by simpa using hi
  have:=hx i f hi'
  have hlt:i<xs.length:=by
   rw[hxl]
   have:=(List.getElem?_eq_some_iff.1 hi).1
   simpa using this
  rw[List.getElem?_eq_getElem hlt] at this
  refine⟨_,λb hb=>hs b ?_,this⟩
  simp only[DataW.weights,ht]
  exact AeY (u:=f.type) (i:=i) (by simp[List.getElem?_map,hi]) (by rw[List.getElem?_map,List.getElem?_eq_getElem hlt]; rfl) b hb
end
end Go.AM
namespace Go.AM
open Go Go.ChangeShapes Go.WideShapes Go.AM.Seat
variable [cN]
structure BhT (P:Program) (tA tC tIs tCs tAs:TypeId):Prop where
 arr:∃fs,P.underlying tA=some (.struct fs)/\fs.toList.map (λf=>(f.type,f.offset,P.cellsOf f.type))=[(tIs,0,1),(tCs,1,1)]
 arrz:P.cellsOf tA=2
 cell:∃fs k n,P.underlying tC=some (.struct fs)/\fs.toList.map (λf=>(f.type,f.offset,P.cellsOf f.type))=[(k,0,1),(n,1,1),(tAs,2,1)]/\P.underlying k=some (.int .i64)/\P.underlying n=some (.int .i64)
 cellz:P.cellsOf tC=3
 ints:∃e,P.underlying tIs=some (.slice e)/\P.underlying e=some (.int .i64)/\P.cellsOf e=1/\0<P.bytesOf e
 cells:P.underlying tCs=some (.slice tC)
 arrs:P.underlying tAs=some (.slice tA)
 arrb:0<P.bytesOf tA
 cellb:0<P.bytesOf tC
section
variable {H:Type} {enc:TypeId×Value->H} {P:Program} {w:World} {base:Nat} {sp:Nat->Bool} {held:Bool} {tA tC tIs tCs tAs t e:TypeId} {n:Nat} {cs:List Value} {x:DataW H×List MemPlace}
theorem AiN {α:Type} {l:List α} (h:l.length<=reachBytes):Few l:=by unfold Few; unfold reachBytes at h; omega
def BhU (a:Arr):List D:=[.list 1 (a.shape.map (D.int .i64)),.list 3 (a.cells.map aD)]
def cellL (c:aA):List D:=[.int .i64 c.kind,.int .i64 c.n,.list 2 (c.box.map aX)]
theorem BgG (hi:∃e,P.underlying t=some (.slice e)/\P.underlying e=some (.int .i64)/\P.cellsOf e=1/\0<P.bytesOf e) (hs:Wts P t x.1) (h:DataW.trod enc P w base sp held n t cs=some x) :
  ∃l:List Int,dE (colRo w) w [.list 1 (l.map (D.int .i64))] cs/\Few l:=by
 obtain⟨e,h1,h2,h3,h4⟩:=hi
 obtain⟨l,h5,h6,_⟩:=AdE (D.int .i64) (λ_=>True) h1 h3 (by omega) h4 hs (λm _ cs x _ hx=>by
  obtain⟨k,rfl,_,hw⟩:=DataW.trod_int h2 hx
  exact⟨k,.int .i64 k,rfl,by simp only[Rep],trivial⟩) h
 exact⟨l,h5,AiN h6⟩
theorem BgI (h1:P.underlying t=some (.slice e)) (h2:P.underlying e=some .string) (h3:P.cellsOf e=1) (h4:0<P.bytesOf e) (hs:Wts P t x.1) (h:DataW.trod enc P w base sp held n t cs=some x) :
  ∃l:List Str,dE (colRo w) w [.list 1 (l.map D.str)] cs/\Few l/\∀s∈l,Few s:=by
 obtain⟨l,h5,h6,h7⟩:=AdE D.str (λs:Str=>Few s) h1 h3 (by omega) h4 hs (λm _ cs x hs hx=>by
  obtain⟨s,rfl,hx',hw⟩:=DataW.trod_string h2 hx
  subst hx'
  exact⟨s.data.toList,.string s,rfl,by simp only[Rep],AiN (hs _ (by simp[DataW.weights]))⟩) h
 exact⟨l,h5,AiN h6,h7⟩
theorem Aw1:∀{l:List aA},(∀c∈l,AtL c)->Aw0 l
 | [],_=>trivial
 |c::r,h=>⟨h c (by simp),Aw1 λc hc=>h c (by simp[hc])⟩
theorem AzY:∀{l:List Arr},(∀c∈l,fitA c)->BfV l
 | [],_=>trivial
 |c::r,h=>⟨h c (by simp),AzY λc hc=>h c (by simp[hc])⟩
theorem Aw2:∀{l:List Node},(∀c∈l,fitN c)->AzZ l
 | [],_=>trivial
 |c::r,h=>⟨h c (by simp),Aw2 λc hc=>h c (by simp[hc])⟩
theorem ApJ (S:BhT P tA tC tIs tCs tAs):∀n,
  (∀cs x,Wts P tA x.1->DataW.trod enc P w base sp held n tA cs=some x->∃a:Arr,dE (colRo w) w (BhU a) cs/\fitA a) /\
  (∀cs x,Wts P tC x.1->DataW.trod enc P w base sp held n tC cs=some x->∃c:aA,dE (colRo w) w (cellL c) cs/\AtL c):=by
 intro n
 induction n using Nat.strongRecOn with
 |ind n ih=>
 constructor
 ·intro cs x hs h
  obtain⟨fs,h1,h2⟩:=S.arr
  obtain⟨m,rfl,a,_,rfl,⟨x1,w1,t1⟩,b,_,rfl,⟨x2,w2,t2⟩,rfl⟩:=AhD h1 h2 S.arrz rfl hs h
  obtain⟨sh,r1,f1⟩:=BgG S.ints w1 t1
  obtain⟨cl,r2,f2,f3⟩:=AdE aD AtL S.cells S.cellz (by omega) S.cellb w2 (λk hk cs x hs hx=>by
   obtain⟨c,hr,hf⟩:=(ih k (by omega)).2 cs x hs hx
   exact⟨c,.agg cs.toArray,by simp[Value.cells],by simp only[aD,Rep]; exact⟨cs,rfl,hr⟩,hf⟩) t2
  exact⟨.mk sh cl,by simpa[BhU,Arr.shape,Arr.cells] using dE.app r1 r2,f1,AiN f2,Aw1 f3⟩
 ·intro cs x hs h
  obtain⟨fs,kt,nt,h1,h2,h3,h4⟩:=S.cell
  obtain⟨m,rfl,a,_,rfl,⟨x1,w1,t1⟩,b,_,rfl,⟨x2,w2,t2⟩,c,_,rfl,⟨x3,w3,t3⟩,rfl⟩:=AhD h1 h2 S.cellz rfl hs h
  obtain⟨k,r1,_⟩:=ApK h3 t1
  obtain⟨nn,r2,_⟩:=ApK h4 t2
  obtain⟨bx,r3,f2,f3⟩:=AdE aX fitA S.arrs S.arrz (by omega) S.arrb w3 (λk hk cs x hs hx=>by
   obtain⟨a,hr,hf⟩:=(ih k (by omega)).1 cs x hs hx
   exact⟨a,.agg cs.toArray,by simp[Value.cells],by rw[pS]; simp only[aI,Rep]; exact⟨cs,rfl,hr⟩,hf⟩) t3
  exact⟨.mk k nn bx,by simpa[cellL,aA.kind,aA.n,aA.box] using dE.app r1 (dE.app r2 r3),AiN f2,AzY f3⟩
structure BiY (P:Program) (tN tNs tA:TypeId):Prop where
 node:∃fs k o s a,P.underlying tN=some (.struct fs)/\fs.toList.map (λf=>(f.type,f.offset,P.cellsOf f.type))=[(k,0,1),(o,1,1),(s,2,1),(tA,3,2),(tNs,5,1),(a,6,1)] /\
  P.underlying k=some (.int .i64)/\P.underlying o=some (.int .i64)/\P.underlying s=some .string/\P.underlying a=some (.int .i64)
 nodez:P.cellsOf tN=7
 nodes:P.underlying tNs=some (.slice tN)
 nodeb:0<P.bytesOf tN
def BhI (n:Node):List D:=[.int .i64 n.kind,.int .i64 n.op_,.str n.name,.list 1 (n.lit.shape.map (D.int .i64)),.list 3 (n.lit.cells.map aD),.list 7 (n.kids.map qM),.int .i64 n.at_]
theorem BgH {tN tNs:TypeId} (S:BhT P tA tC tIs tCs tAs) (R:BiY P tN tNs tA):∀n cs x,Wts P tN x.1->DataW.trod enc P w base sp held n tN cs=some x->∃a:Node,dE (colRo w) w (BhI a) cs/\fitN a:=by
 intro n
 induction n using Nat.strongRecOn with
 |ind n ih=>
 intro cs x hs h
 obtain⟨fs,kt,ot,st,at_,h1,h2,h3,h4,h5,h6⟩:=R.node
 obtain⟨m,rfl,a,_,rfl,⟨x1,w1,t1⟩,b,_,rfl,⟨x2,w2,t2⟩,c,_,rfl,⟨x3,w3,t3⟩,d,_,rfl,⟨x4,w4,t4⟩,e,_,rfl,⟨x5,w5,t5⟩,f,_,rfl,⟨x6,w6,t6⟩,rfl⟩:=AhD h1 h2 R.nodez rfl hs h
 obtain⟨k,r1,_⟩:=ApK h3 t1
 obtain⟨o,r2,_⟩:=ApK h4 t2
 obtain⟨s,r3,f3⟩:=BiI h5 w3 t3
 obtain⟨l,r4,f4⟩:=(ApJ S m).1 _ _ w4 t4
 obtain⟨ks,r5,f5,f5'⟩:=AdE qM fitN R.nodes R.nodez (by omega) R.nodeb w5 (λk hk cs x hs hx=>by
  obtain⟨a,hr,hf⟩:=ih k (by omega) cs x hs hx
  exact⟨a,.agg cs.toArray,by simp[Value.cells],by rw[uZ]; simp only[encNode,Rep]; exact⟨cs,rfl,hr⟩,hf⟩) t5
 obtain⟨at',r6,_⟩:=ApK h6 t6
 exact⟨.mk k o s l ks at',by simpa[BhI,BhU,Node.kind,Node.op_,Node.name,Node.lit,Node.kids,Node.at_] using dE.app r1 (dE.app r2 (dE.app r3 (dE.app r4 (dE.app r5 r6)))),AiN f3,f4,AiN f5,Aw2 f5'⟩
end
end Go.AM
namespace Go.AM.Seat
open Go Go.AM Go.Proofs Go.ChangeShapes Go.WideShapes
set_option maxRecDepth 100000
set_option maxHeartbeats 0
theorem BgK:BhT Tryz.prog 29 50 26 27 23 where
 arr:=⟨_,Tryz.underlying29,by kernel_rfl⟩
 arrz:=by kernel_rfl
 cell:=⟨_,3,2,Tryz.underlying50,by kernel_rfl,Tryz.underlying3,Tryz.underlying2⟩
 cellz:=by kernel_rfl
 ints:=⟨3,Tryz.underlying26,Tryz.underlying3,by kernel_rfl,of_decide_eq_true (by kernel_rfl)⟩
 cells:=Tryz.underlying27
 arrs:=Tryz.underlying23
 arrb:=of_decide_eq_true (by kernel_rfl)
 cellb:=of_decide_eq_true (by kernel_rfl)
theorem Bm9:BiY Tryz.prog 32 30 29 where
 node:=⟨_,3,3,9,3,Tryz.underlying32,by kernel_rfl,Tryz.underlying3,Tryz.underlying3,Tryz.underlying9,Tryz.underlying3⟩
 nodez:=by kernel_rfl
 nodes:=Tryz.underlying30
 nodeb:=of_decide_eq_true (by kernel_rfl)
section
variable {H:Type} {enc:TypeId×Value->H} {w:World} {base:Nat} {sp:Nat->Bool} {held:Bool} {v:Value} {d:DataW H} {p:List MemPlace}
theorem open_node (hv:∃cs,v=.agg cs/\cs.size=Tryz.prog.cellsOf 32) (hs:Wts Tryz.prog 32 d) (h:DataW.Trod enc Tryz.prog w base sp held 32 v d p):∃a:Node,RepC (colRo w) (λ_=>0) w (.d (encNode a)) v/\fitN a:=by
 obtain⟨cs,rfl,_⟩:=hv
 obtain⟨fuel,hf⟩:=h
 obtain⟨a,hr,hfit⟩:=BgH BgK Bm9 fuel _ (d,p) hs hf
 refine⟨a,?_,hfit⟩
 simp only[RepC,encNode,Rep]
 exact⟨cs.toList,by simp,hr⟩
theorem open_env (hv:∃cs,v=.agg cs/\cs.size=Tryz.prog.cellsOf 25) (hs:Wts Tryz.prog 25 d) (h:DataW.Trod enc Tryz.prog w base sp held 25 v d p) :
  ∃a:Env,RepC (colRo w) (λ_=>0) w (.d (encEnv a)) v/\∀x∈a.vals,fitA x:=by
 obtain⟨cs,rfl,_⟩:=hv
 obtain⟨fuel,hf⟩:=h
 obtain⟨m,rfl,a,_,e,⟨x1,w1,t1⟩,b,_,rfl,⟨x2,w2,t2⟩,rfl⟩:=AhD (z:=2) (tz:=[(22,0,1),(23,1,1)]) Tryz.underlying25 (by kernel_rfl) (by kernel_rfl) rfl (x:=(d,p)) hs hf
 obtain⟨l,r1,f1,_⟩:=BgI Tryz.underlying22 Tryz.underlying9 (by kernel_rfl) (of_decide_eq_true (by kernel_rfl)) w1 t1
 obtain⟨vs,r2,f2,f3⟩:=AdE aX fitA Tryz.underlying23 BgK.arrz (by omega) BgK.arrb w2 (λk hk cs x hs hx=>by
  obtain⟨a,hr,hf⟩:=(ApJ BgK k).1 cs x hs hx
  exact⟨a,.agg cs.toArray,by simp[Value.cells],by rw[pS]; simp only[aI,Rep]; exact⟨cs,rfl,hr⟩,hf⟩) t2
 refine⟨⟨l,vs⟩,?_,f3⟩
 simp only[RepC,encEnv,Rep]
 have e':cs.toList=a++(b++[]):=e
 exact⟨cs.toList,by simp,by rw[e']; simpa using dE.app r1 r2⟩
end
theorem wts_of {H:Type} {ts:List TypeId} {ds:List (DataW H)} (h:(DataW.weightsEach Tryz.prog ts ds).all (·<=reachBytes)=true) {j:Nat} {t:TypeId} {d:DataW H} (ht:ts[j]?=some t) (hd:ds[j]?=some d):Wts Tryz.prog t d:=by
 intro b hb
 simpa using List.all_eq_true.1 h b (DataW.weights_mem_each ht hd b hb)
theorem laidOutB0:laidOutB Tryz.prog=true:=by kernel_rfl
end Go.AM.Seat
namespace Go.AM.Seat
open Go Go.AM
theorem Ao0 {n:Node} {deep nodes:Int}:T (dG n deep nodes) (λr=>r.1=true->WfB n):=by
 unfold dG
 refine T.bind (R:=λr=>match r with|.error r=>r.1=false|.ok (_,k,o,_)=>(k=21->21<=o->o<=32->WfB n)) ?_ (λv hv=>?_)
 ·refine T.ite (λh=>?_) (λh=>?_)
  ·refine T.bind AaD (λv _=>?_)
   refine T.ite (λ_=>T.ret rfl) (λ_=>?_)
   refine T.bind fY (λx hx=>?_)
   refine T.ite (λ_=>T.ret rfl) (λhxx=>?_)
   obtain⟨a,ha⟩:=AeH (hx (by simpa using hxx))
   rw[ha]
   refine T.bind (jK (Q:=λy=>y=a) rfl) (λy hy=>?_)
   subst hy
   exact T.ret (λh1 h2 h3=>.inr ⟨eU h,y,ha,h1,h2,h3⟩)
  ·exact T.ret (λh1 h2 h3=>.inl ⟨h1,h2,h3⟩)
 match v,hv with
 |.error r,hv=>exact T.ret (λe=>by rw[hv] at e; cases e)
 |.ok (_,k,o,_,_,_,_,_,_),hv=>
  refine T.bind AaD (λv _=>?_)
  refine T.ite (λ_=>?_) (λ_=>T.ret hC)
  refine T.ite (λhk=>?_) (λ_=>T.ret hC)
  refine T.bind fY (λx hx=>?_)
  refine T.ite (λ_=>?_) (λ_=>T.ret hC)
  refine T.bind AjB (λx hx=>?_)
  exact T.ret (λe=>hv (eU hk) (hx e).1 (hx e).2)
def BcG (n:Node):Prop:=∀(deep nodes:Int),
 T (cB (n,deep,nodes)) (λr=>r.1=true->WfE false false n)/\T (dW (n,deep,nodes)) (λr=>r.1=true->WfM n)/\T (gS n deep nodes) (λr=>r.1=true->WfD n) /\
 T (cT n deep nodes) (λr=>r.1=true->WfT n)
theorem BjB (n:Node):fitN n->BcG n:=by
 refine Node.ind (P:=λn=>fitN n->BcG n) ?_ n
 intro n ih hf
 have ihk:∀k∈n.kids,BcG k:=λk hk=>ih k hk (hf.kids k hk)
 have lam:∀(deep nodes:Int),T (dP n deep nodes) (λr=>r.1=true->∃e,n.kids=[e]/\(n.kind=22->WfE false true e)/\(n.kind≠22->WfE true true e)):=by
  intro deep nodes
  unfold dP
  refine T.bind fY (λx hx=>?_)
  refine T.ite (λ_=>T.ret hC) (λhxx=>?_)
  obtain⟨a,ha⟩:=AeH (hx (by simpa using hxx))
  rw[ha]
  refine T.bind (jK (Q:=λy=>y=a) rfl) (λy hy=>?_)
  subst hy
  refine T.bind ((BjA y (hf.kids y (by rw[ha]; simp)) (w64 (deep+1)) nodes []).1) (λr hr=>?_)
  refine T.ite (λhk=>?_) (λhk=>?_)
  ·refine T.ite (λh=>T.ret (λe=>⟨y,rfl,λ_=>(hr.2 h).mono _ (λh3=>by rw[h3] at e; cases e) (λ_=>rfl),λh'=>absurd (eU hk) h'⟩)) (λ_=>T.ret hC)
  refine T.ite (λh=>?_) (λ_=>T.ret hC)
  refine T.ite (λh3=>T.ret (λh4=>⟨y,rfl,λh'=>by rw[h'] at hk; simp at hk,λ_=>(hr.2 h).mono _ (λ_=>rfl) (λ_=>rfl)⟩)) (λ_=>T.ret hC)
 have two:∀(deep nodes:Int),T (cT n deep nodes) (λr=>r.1=true->WfT n):=by
  intro deep nodes
  unfold cT
  refine T.bind AaD (λv _=>?_)
  refine T.ite (λ_=>T.ret hC) (λ_=>?_)
  refine T.ite (λhk=>?_) (λ_=>?_)
  ·have hp:WfT n:=.prim (eU hk)
   refine T.bind fY (λx hx=>?_)
   refine T.ite (λ_=>?_) (λ_=>T.ret hC)
   refine T.bind AjB (λx hx=>?_)
   refine T.ite (λ_=>T.ret (λ_=>hp)) (λ_=>?_)
   exact T.ite (λ_=>T.ret (λ_=>hp)) (λ_=>T.ret hC)
  refine T.ite (λhk=>?_) (λ_=>T.ret hC)
  refine T.bind (lam deep _) (λr hr=>T.ret (λe=>?_))
  obtain⟨x,h1,h2⟩:=hr e
  exact .lam (eU hk) h1 (h2.2 (by rw[eU hk]; decide))
 have turned:∀(deep nodes:Int),T (dQ n deep nodes) (λr=>r.1=true->∃f,n.kids=[f]/\WfT f):=by
  intro deep nodes
  unfold dQ
  refine T.bind fY (λx hx=>?_)
  refine T.ite (λ_=>T.ret hC) (λhxx=>?_)
  obtain⟨a,ha⟩:=AeH (hx (by simpa using hxx))
  rw[ha]
  refine T.bind (jK (Q:=λy=>y=a) rfl) (λy hy=>?_)
  subst hy
  have g:=(ihk y (by rw[ha]; simp) (w64 (deep+1)) nodes).2.2.2
  refine T.ite (λ_=>?_) (λ_=>?_)
  ·exact T.bind g (λr hr=>T.ret (λe=>⟨y,rfl,hr e⟩))
  refine T.ite (λ_=>?_) (λ_=>T.ret hC)
  refine T.ite (λ_=>?_) (λ_=>T.ret hC)
  exact T.bind g (λr hr=>T.ret (λe=>⟨y,rfl,hr e⟩))
 intro deep nodes
 refine⟨?_,?_,?_,two deep nodes⟩
 ·rw[cB]
  refine T.bind AaD (λv _=>?_)
  refine T.ite (λ_=>T.ret hC) (λ_=>?_)
  refine T.ite (λhk=>?_) (λ_=>?_)
  ·refine T.bind fY (λx hx=>?_)
   refine T.ite (λ_=>?_) (λ_=>T.ret hC)
   exact T.bind (AqP _) (λr hr=>T.ret (λe=>.lit (eU hk) (hr e)))
  refine T.ite (λhk=>?_) (λ_=>?_)
  ·refine T.bind fY (λx hx=>?_)
   refine T.ite (λ_=>?_) (λ_=>T.ret hC)
   exact T.bind (BcH hf.name) (λr hr=>T.ret (λe=>.var (eU hk)))
  refine T.bind (R:=λr=>r=true->n.kind=3\/n.kind=4) ?_ (λx5 h5=>?_)
  ·exact T.ite (λh=>T.ret (λ_=>.inl (eU h))) (λ_=>T.ret (λh=>.inr (eU h)))
  refine T.ite (λhk=>T.ret hC) (λ_=>?_)
  refine T.ite (λhk=>?_) (λ_=>?_)
  ·refine T.bind fY (λx hx=>?_)
   refine T.ite (λhxx=>?_) (λ_=>T.ret hC)
   obtain⟨f,x1,ha⟩:=BhE (hx hxx)
   rw[ha]
   refine T.bind (jK (Q:=λy=>y=f) rfl) (λy hy=>?_)
   subst hy
   refine T.bind (ihk y (by rw[ha]; simp) _ _).2.1 (λr hr=>?_)
   refine T.ite (λh8=>?_) (λ_=>T.ret hC)
   refine T.bind (AwL (Q:=λz=>z=x1) rfl) (λz hz=>?_)
   subst hz
   exact T.bind (ihk z (by rw[ha]; simp) _ _).1 (λr2 hr2=>T.ret (λe=>.mo (eU hk) ha (hr h8) (hr2 e)))
  refine T.ite (λhk=>?_) (λ_=>T.ret hC)
  refine T.bind fY (λx hx=>?_)
  refine T.ite (λhxx=>?_) (λ_=>T.ret hC)
  obtain⟨f,x1,y1,ha⟩:=BhF (hx hxx)
  rw[ha]
  refine T.bind (jK (Q:=λy=>y=f) rfl) (λy hy=>?_)
  subst hy
  refine T.bind (ihk y (by rw[ha]; simp) _ _).2.2.1 (λr hr=>?_)
  refine T.ite (λh8=>?_) (λ_=>T.ret hC)
  refine T.bind (AwL (Q:=λz=>z=x1) rfl) (λz hz=>?_)
  subst hz
  refine T.bind (ihk z (by rw[ha]; simp) _ _).1 (λr2 hr2=>?_)
  refine T.ite (λh9=>?_) (λ_=>T.ret hC)
  refine T.bind (BhG (Q:=λw=>w=y1) rfl) (λw hw=>?_)
  subst hw
  exact T.bind (ihk w (by rw[ha]; simp) _ _).1 (λr3 hr3=>T.ret (λe=>.dy (eU hk) ha (hr h8) (hr2 h9) (hr3 e)))
 ·rw[dW]
  refine T.bind AaD (λv _=>?_)
  refine T.ite (λ_=>T.ret hC) (λ_=>?_)
  refine T.ite (λhk=>?_) (λ_=>?_)
  ·refine T.bind fY (λx hx=>?_)
   refine T.ite (λ_=>?_) (λ_=>T.ret hC)
   exact T.ite (λ_=>T.ret (λ_=>.prim (eU hk))) (λ_=>T.ret hC)
  refine T.ite (λhk=>?_) (λ_=>?_)
  ·refine T.bind (lam deep _) (λr hr=>T.ret (λe=>?_))
   obtain⟨x,h1,h2⟩:=hr e
   exact .lam (eU hk) h1 (h2.1 (eU hk))
  refine T.bind (R:=λr=>r=true->n.kind=31\/n.kind=32\/n.kind=33\/n.kind=34) ?_ (λx5 h5=>?_)
  ·refine T.ite (λh=>T.ret (λ_=>.inl (eU h))) (λ_=>?_)
   refine T.ite (λh=>T.ret (λ_=>.inr (.inl (eU h)))) (λ_=>?_)
   exact T.ite (λh=>T.ret (λ_=>.inr (.inr (.inl (eU h))))) (λ_=>T.ret (λh=>.inr (.inr (.inr (eU h)))))
  refine T.ite (λhk=>?_) (λ_=>?_)
  ·refine T.bind fY (λx hx=>?_)
   refine T.ite (λhxx=>?_) (λ_=>T.ret hC)
   obtain⟨a,ha⟩:=AeH (hx hxx)
   rw[ha]
   refine T.bind (jK (Q:=λy=>y=a) rfl) (λy hy=>?_)
   subst hy
   exact T.bind Ao0 (λr hr=>T.ret (λe=>.fold (h5 hk) ha (hr e)))
  refine T.ite (λhk=>?_) (λ_=>?_)
  ·refine T.bind (turned deep _) (λr hr=>T.ret (λe=>?_))
   obtain⟨x,h1,h2⟩:=hr e
   exact .comm (eU hk) h1 h2
  refine T.ite (λhk=>?_) (λ_=>T.ret hC)
  refine T.bind fY (λx hx=>?_)
  refine T.ite (λhxx=>?_) (λ_=>T.ret hC)
  refine T.ite (λho=>?_) (λ_=>T.ret hC)
  refine T.ite (λho'=>?_) (λ_=>T.ret hC)
  obtain⟨a,ha⟩:=AeH (hx hxx)
  rw[ha]
  refine T.bind (jK (Q:=λy=>y=a) rfl) (λy hy=>?_)
  refine T.ite (λ_=>?_) (λ_=>T.ret hC)
  refine T.bind (jK (Q:=λy=>y=a) rfl) (λz hz=>?_)
  subst hz
  exact T.bind (ihk z (by rw[ha]; simp) _ _).2.1 (λr hr=>T.ret (λe=>.pow (eU hk) (by simpa using ho) (by simpa using ho') ha (hr e)))
 unfold gS
 refine T.ite (λhk=>?_) (λ_=>?_)
 ·refine T.bind AaD (λv _=>?_)
  refine T.ite (λ_=>?_) (λ_=>T.ret hC)
  refine T.bind fY (λx hx=>?_)
  refine T.ite (λhxx=>?_) (λ_=>T.ret hC)
  obtain⟨a,ha⟩:=AeH (hx hxx)
  rw[ha]
  refine T.bind (jK (Q:=λy=>y=a) rfl) (λy hy=>?_)
  subst hy
  exact T.bind Ao0 (λr hr=>T.ret (λe=>.outer (eU hk) ha (hr e)))
 refine T.ite (λhk=>?_) (λ_=>?_)
 ·refine T.bind AaD (λv _=>?_)
  refine T.ite (λ_=>?_) (λ_=>T.ret hC)
  refine T.bind (turned deep _) (λr hr=>T.ret (λe=>?_))
  obtain⟨x,h1,h2⟩:=hr e
  exact .comm (eU hk) h1 h2
 exact T.bind (two deep _) (λr hr=>T.ret (λe=>.two (hr e)))
theorem BfC {n:Node} (hf:fitN n):T (sN n) (λe=>e=0->WfE false false n):=by
 unfold sN
 refine T.bind ((BjB n hf 0 0).1) (λr hr=>?_)
 refine T.ite (λ_=>T.ret (λe=>by cases e)) (λh=>T.ret (λ_=>hr (by simpa using h)))
abbrev Any {α:Type}:α->Prop:=λ_=>True
theorem T.any {α:Type} {v:α}:T (some v) (Any:α->Prop):=T.ret trivial
def uI (c:aA):Prop:=c.kind=0/\c.box=[]
theorem uI.mk (n:Int):uI (aA.mk 0 n []):=⟨rfl,rfl⟩
theorem uI.chk {c:aA} (h:uI c) (d:Int):AcV c d=0:=by
 obtain⟨k,n,b⟩:=c
 obtain⟨h1,h2⟩:=h
 simp only[aA.kind,aA.box] at h1 h2
 subst h1; subst h2
 simp[AcV]
theorem uI.w {c:aA} (h:uI c):wC c=0:=by rw[AxV,h.2]; rfl
theorem AzC (op:Int):pO op=some (decide (21<=op)&&decide (op<=32)):=by
 unfold pO
 by_cases h:op>=21
 ·simp[h]
 simp[h]
theorem BaO {b:Bool}:T (mV b) Any:=by
 unfold mV; exact T.ite (λ_=>T.any) (λ_=>T.any)
theorem BcM {a b:Int}:T (Aa1 a b) Any:=by
 unfold Aa1; repeat' (first|exact T.any|refine T.ite (λ_=>?_) (λ_=>?_))
theorem BiO {a b:Int}:T (Ad9 a b) Any:=by
 unfold Ad9; repeat' (first|exact T.any|refine T.ite (λ_=>?_) (λ_=>?_))
theorem BeN {a:Int}:T (xQ a) Any:=by
 unfold xQ; repeat' (first|exact T.any|refine T.ite (λ_=>?_) (λ_=>?_))
theorem AxI {n:Int} {b:Bool}:T (sR n b) Any:=by
 unfold sR
 refine T.bind (R:=Any) ?_ (λv _=>?_)
 ·repeat' (first|exact T.any|refine T.ite (λ_=>?_) (λ_=>?_))
 cases v<;>exact T.any
theorem Bi7 {k:IntKind} {a b:Int} (h:b≠0):T (idiv k a b) Any:=by
 unfold idiv; rw[if_neg h]; exact T.any
theorem Bi9 {a b:Int} (h:b≠0):T (irem a b) Any:=by
 unfold irem; rw[if_neg h]; exact T.any
theorem AqR {l:List Int} (hf:Few l):∀(r:List Int) (k:Nat) (n:Int) (b o:Bool),l.drop k=r->T (oL (l,n,b,o,(k:Int))) Any
 | [],k,n,b,o,h=>by
  rw[oL]
  simp only[bZ (cC h),fJ,if_false]
  exact T.any
 |c::r,k,n,b,o,h=>by
  have ih:=λn b o=>AqR hf r (k+1) n b o (bC h)
  rw[oL]
  simp only[dH (cD h),if_true,bN h,oJ,bJ,bW h hf]
  refine T.bind (R:=Any) ?_ (λv _=>?_)
  ·refine T.bind BeN (λm _=>?_)
   refine T.ite (λ_=>T.any) (λhm=>?_)
   refine T.ite (λ_=>T.any) (λ_=>?_)
   refine T.bind (Bi7 (by simpa using hm)) (λq _=>?_)
   exact T.ite (λ_=>T.any) (λ_=>T.any)
  match v with
  |.error e=>exact T.any
  |.ok (n1,b1,o1)=>exact ih n1 b1 o1
theorem BcI {l:List Int} (hf:Few l):T (sA l) Any:=by
 unfold sA
 refine T.bind (AqR hf l 0 1 false false rfl) (λv _=>?_)
 match v with
 |.error e=>exact T.any
 |.ok (n1,b1,o1)=>exact T.ite (λ_=>T.any) (λ_=>T.bind AxI (λ_ _=>T.any))
theorem BiU {a b:Int}:T (AdA a b) Any:=by
 unfold AdA
 exact T.bind (BcI (by unfold Few; simp)) (λ_ _=>T.any)
theorem BiX {a b:Int}:T (AdB a b) Any:=by
 unfold AdB
 refine T.ite (λ_=>T.any) (λh=>?_)
 refine T.ite (λ_=>T.any) (λ_=>?_)
 refine T.bind (Bi9 (by simpa using h)) (λr _=>?_)
 refine T.ite (λ_=>?_) (λ_=>T.any)
 exact T.bind (R:=Any) (T.ite (λ_=>T.any) (λ_=>T.any)) (λ_ _=>T.any)
theorem Ax2 {op a b:Int}:T (nW op a b) Any:=by
 unfold nW
 refine T.ite (λ_=>T.bind BiO (λ_ _=>T.any)) (λ_=>?_)
 refine T.ite (λ_=>T.bind BcM (λ_ _=>T.any)) (λ_=>?_)
 refine T.ite (λ_=>T.bind BiU (λ_ _=>T.any)) (λ_=>?_)
 refine T.ite (λ_=>T.any) (λ_=>?_)
 refine T.ite (λ_=>T.any) (λ_=>?_)
 exact T.bind BiX (λ_ _=>T.any)
theorem BdU {op a b:Int} (h:27<=op) (h':op<=32):T (rH op a b) Any:=by
 unfold rH Run.heldI
 repeat' split
 all_goals first|exact T.any|(exfalso; omega)
theorem AzG {op:Int} {a b:aA}:T (oH op a b) (λr=>uI r.1):=by
 unfold oH
 refine T.ite (λh27=>?_) (λ_=>?_)
 ·have e:op=27:=eU h27
  subst e
  refine T.bind (T.val (AzC 27) (Q:=λv=>v=true) rfl) (λv hv=>?_)
  subst hv
  refine T.ite (λh=>by cases h) (λ_=>?_)
  refine T.ite (λ_=>T.ret (.mk _)) (λ_=>?_)
  refine T.ite (λ_=>T.ret (.mk _)) (λ_=>?_)
  refine T.ite (λ_=>T.bind BaO (λ_ _=>T.ret (.mk _))) (λ_=>?_)
  refine T.ite (λ_=>T.bind (BdU (by omega) (by omega)) (λ_ _=>T.ret (.mk _))) (λ_=>T.bind Ax2 (λ_ _=>T.ret (.mk _)))
 refine T.bind (R:=λr=>match r with|.error r=>uI r.1|.ok _=>True) ?_ (λv hv=>?_)
 ·refine T.bind (T.val (AzC op) (Q:=λv=>v=true->21<=op/\op<=32) (by intro h; simpa using h)) (λv hv=>?_)
  refine T.ite (λ_=>T.ret (.mk _)) (λhvv=>?_)
  have hI:=hv (by simpa using hvv)
  have g:∀{h:decide (op>=27)=true},T (rH op a.n b.n) Any:=λ{h}=>BdU (by simpa using h) hI.2
  repeat' (first
   |exact T.ret (.mk _)
   |exact T.ret trivial
   |exact T.bind BaO (λ_ _=>T.ret (.mk _))
   |refine T.ite (λhq=>T.bind (g (h:=hq)) (λ_ _=>T.ret (.mk _))) (λ_=>?_)
   |refine T.ite (λ_=>?_) (λ_=>?_))
 match v,hv with
 |.error r,hv=>exact T.ret hv
 |.ok _,_=>exact T.bind Ax2 (λ_ _=>T.ret (.mk _))
def Cw (m:Nat) (l:List aA):Prop:=∀c∈l,wC c<=m
def Res (m:Nat) (r:Arr×Int):Prop:=r.2=0->Val 0 r.1/\Cw m r.1.cells
theorem Res.err {m:Nat} {a:Arr} {e:Int} (h:e≠0):Res m (a,e):=λh'=>absurd h' h
theorem AlU {sh:List Int} {cs:List aA} (h1:mD sh cs.length) (h2:∀x∈sh,x<=16384) (h3:∀c∈cs,AcV c 0=0):Val 0 (.mk sh cs):=(AxZ.mk (a:=.mk sh cs) h1 h2 h3).v
theorem Au5 {sh:List Int} {cs:List aA} {m:Nat} (h1:mD sh cs.length) (h2:∀x∈sh,x<=16384) (h3:∀c∈cs,uI c):Val 0 (.mk sh cs)/\Cw m cs:=
 ⟨AlU h1 h2 λc hc=>(h3 c hc).chk 0,λc hc=>by rw[(h3 c hc).w]; omega⟩
theorem fK {a b:Int} (h:(a != b)=true):a≠b:=by simpa using h
theorem dR {a b:Int} (h:(a != b)=false):a=b:=by simpa using h
theorem dT {α:Type} {l m:List α} (h:l.length+m.length<=4294967296):T (lapp l m) (λr=>r=l++m):=T.lapp h rfl
theorem BjF {op n:Int}:T (wL op n) Any:=by
 unfold wL Aa0 AhB AhA Aa0
 refine T.ite (λ_=>T.bind (T.bind BcM (λ_ _=>T.any)) (λ_ _=>T.any)) (λ_=>?_)
 refine T.ite (λ_=>T.bind (R:=Any) ?_ (λ_ _=>T.any)) (λ_=>?_)
 ·repeat' (first|exact T.any|refine T.ite (λ_=>?_) (λ_=>?_))
 refine T.ite (λ_=>T.bind (R:=Any) ?_ (λ_ _=>T.any)) (λ_=>?_)
 ·exact T.ite (λ_=>T.bind (T.bind BcM (λ_ _=>T.any)) (λ_ _=>T.any)) (λ_=>T.any)
 repeat' (first|exact T.any|refine T.ite (λ_=>?_) (λ_=>?_))
theorem AzD {op:Int} {a:Arr} {l:List Int} (hv:Val 0 a):∀(r:List aA) (k:Nat) (out:List aA),a.cells.drop k=r->out.length=k->k<=a.cells.length->(∀c∈out,uI c) ->
  T (mU (op,a,l,(k:Int),out)) (λr=>match r with|.error r=>r.2≠0|.ok cs=>cs.length=a.cells.length/\∀c∈cs,uI c)
 | [],k,out,h,ho,hkl,hc=>by
  rw[mU]
  simp only[bZ (cC h),fJ,if_false]
  have:=List.drop_eq_nil_iff.1 h
  exact T.ret ⟨by omega,hc⟩
 |c::r,k,out,h,ho,hkl,hc=>by
  have hk:=cD h
  have hl:=hv.i.sized.hi
  rw[mU]
  simp only[dH hk,if_true,bN h,oJ,bJ,bW h hv.fewc]
  refine T.ite (λ_=>T.ret (by simp)) (λ_=>?_)
  refine T.bind BjF (λv _=>?_)
  refine T.ite (λhe=>T.ret (fK he)) (λ_=>?_)
  refine T.bind (dT (by simp; omega)) (λv hv'=>?_)
  subst hv'
  refine AzD hv r (k+1) _ (bC h) (by simp[ho]) (by omega) ?_
  intro x hx
  rcases List.mem_append.1 hx with hx|hx
  ·exact hc x hx
  simp only[List.mem_singleton] at hx; subst hx; exact .mk _
theorem Ay4 {op:Int} {a:Arr} {m:Nat}:T (rU op a) (Res m):=by
 unfold rU
 refine T.bind (T.val (qG a) (Q:=λv=>v=AeZ a 0) rfl) (λe he=>?_)
 subst he
 refine T.ite (λhe=>T.ret (Res.err (fK he))) (λhe=>?_)
 have hv:Val 0 a:=dR he
 refine T.bind (R:=Any) ?_ (λx _=>?_)
 ·repeat' (first|exact T.any|refine T.ite (λ_=>?_) (λ_=>?_))
 refine T.ite (λ_=>?_) (λ_=>T.ite (λ_=>T.ret (Res.err (by omega))) (λ_=>T.ret (Res.err (by omega))))
 have hr:=hv.i.sized.rank
 refine T.bind (dT (by simp; omega)) (λl hl=>?_)
 subst hl
 refine T.bind (AzD hv a.cells 0 [] rfl rfl (by omega) (by simp)) (λv hvv=>?_)
 match v,hvv with
 |.error r,h=>exact T.ret (λe=>absurd e h)
 |.ok cs,h=>
  refine T.ret (λ_=>Au5 ?_ hv.i.dims h.2)
  rw[h.1]; exact hv.i.sized
theorem AnJ {a b:List Int} (hf:Few a) (hl:a.length=b.length):∀(r:List Int) (k:Nat),a.drop k=r->a.take k=b.take k->T (iX (a,b,(k:Int))) (λr=>match r with|.error r=>r.2≠0|.ok _=>a=b)
 | [],k,h,ht=>by
  rw[iX]
  simp only[bZ (cC h),fJ,if_false]
  refine T.ret ?_
  have h1:=List.drop_eq_nil_iff.1 h
  rwa [List.take_of_length_le h1,List.take_of_length_le (by omega)] at ht
 |c::r,k,h,ht=>by
  have hk:=cD h
  rw[iX]
  simp only[dH hk,if_true,bN h,oJ,bJ,bW h hf]
  refine T.bind (T.lget (Q:=λv=>b[k]?=some v) (by omega) (by omega) (λv hv=>by simpa using hv)) (λv hv=>?_)
  refine T.ite (λ_=>T.ret (by simp)) (λhe=>?_)
  refine AnJ hf hl r (k+1) (bC h) ?_
  have:a[k]?=some c:=by
   have:(a.drop k)[0]?=some c:=by rw[h]; rfl
   simpa using this
  rw[List.take_add_one,List.take_add_one,ht,this,hv,dR he]
theorem Bf9 {a b:List Int} (h8:a.length<=8) (h8':b.length<=8):T (rS a b) (λr=>r.2=0->(a=[]/\r.1=b)\/(a≠[]/\b=[]/\r.1=a)\/(a≠[]/\a=b/\r.1=a)):=by
 unfold rS
 refine T.ite (λh=>?_) (λh=>?_)
 ·refine T.bind (dT (by simp; omega)) (λl hl=>T.ret (λ_=>.inl ⟨?_,by simp[hl]⟩))
  have:=eU h; exact List.length_eq_zero_iff.1 (by omega)
 have ha:a≠[]:=by rintro rfl; simp at h
 refine T.ite (λh=>?_) (λh=>?_)
 ·refine T.bind (dT (by simp; omega)) (λl hl=>T.ret (λ_=>.inr (.inl ⟨ha,?_,by simp[hl]⟩)))
  have:=eU h; exact List.length_eq_zero_iff.1 (by omega)
 refine T.ite (λ_=>T.ret (λe=>absurd e (by simp))) (λhl=>?_)
 have hl':=dR hl
 refine T.bind (AnJ (by unfold Few; omega) (by omega) a 0 rfl (by simp)) (λv hv=>?_)
 match v,hv with
 |.error r,h=>exact T.ret (λe=>absurd e h)
 |.ok _,h=>exact T.bind (dT (by simp; omega)) (λl hl=>T.ret (λ_=>.inr (.inr ⟨ha,h,by simp[hl]⟩)))
theorem Bd3 {op:Int} {a b:Arr}:T (kK (op,a,b,0)) (λr=>match r with|.error r=>r.2≠0|.ok _=>Val 0 a/\Val 0 b):=by
 rw[kK]
 refine T.ite (λ_=>?_) (λh=>by simp at h)
 refine T.bind (jK (Q:=λv=>v=a) rfl) (λy hy=>?_)
 subst hy
 refine T.bind (T.val (qG y) (Q:=λv=>v=AeZ y 0) rfl) (λe he=>?_)
 subst he
 refine T.ite (λhe=>T.ret (fK he)) (λhe=>?_)
 have hva:Val 0 y:=dR he
 rw[show w64 (0+1)=(1:Int) from by rw[aE (by omega) (by omega)]; rfl,kK]
 refine T.ite (λ_=>?_) (λh=>by simp at h)
 refine T.bind (AwL (Q:=λv=>v=b) rfl) (λz hz=>?_)
 subst hz
 refine T.bind (T.val (qG z) (Q:=λv=>v=AeZ z 0) rfl) (λe he=>?_)
 subst he
 refine T.ite (λhe=>T.ret (fK he)) (λhe=>?_)
 have hvb:Val 0 z:=dR he
 rw[show w64 (1+1)=(2:Int) from by rw[aE (by omega) (by omega)]; rfl,kK]
 refine T.ite (λh=>by simp at h) (λ_=>T.ret ⟨hva,hvb⟩)
theorem AzB {op:Int} {a b:Arr} {shape:List Int} {n:Nat} (hn:n<=16384) (ha:0<n->0<a.cells.length/\(0<a.shape.length->n<=a.cells.length)) (hb:0<n->0<b.cells.length/\(0<b.shape.length->n<=b.cells.length)) :
  ∀(d k:Nat) (out:List aA),k+d=n->out.length=k->(∀c∈out,uI c)->T (mT (op,a,b,shape,(n:Int),(k:Int),out)) (λr=>match r with|.error r=>r.2≠0|.ok cs=>cs.length=n/\∀c∈cs,uI c)
 |0,k,out,h,ho,hc=>by
  rw[mT]
  refine T.ite (λh'=>by simp at h'; omega) (λ_=>T.ret ⟨by omega,hc⟩)
 |d+1,k,out,h,ho,hc=>by
  obtain⟨a1,a2⟩:=ha (by omega)
  obtain⟨b1,b2⟩:=hb (by omega)
  rw[mT]
  refine T.ite (λh'=>?_) (λh'=>by simp at h'; omega)
  refine T.bind (T.lget (Q:=Any) (by omega) (by omega) (λ_ _=>trivial)) (λy1 _=>?_)
  refine T.bind (T.lget (Q:=Any) (by omega) (by omega) (λ_ _=>trivial)) (λy2 _=>?_)
  refine T.bind (R:=Any) ?_ (λv _=>?_)
  ·refine T.ite (λhs=>?_) (λ_=>T.any)
   have:=a2 (by simp at hs; omega)
   exact T.bind (T.lget (Q:=Any) (by omega) (by omega) (λ_ _=>trivial)) (λ_ _=>T.any)
  refine T.bind (R:=Any) ?_ (λv _=>?_)
  ·refine T.ite (λhs=>?_) (λ_=>T.any)
   have:=b2 (by simp at hs; omega)
   exact T.bind (T.lget (Q:=Any) (by omega) (by omega) (λ_ _=>trivial)) (λ_ _=>T.any)
  refine T.bind AzG (λv hv=>?_)
  refine T.ite (λhe=>T.ret (fK he)) (λ_=>?_)
  refine T.bind (dT (by simp; omega)) (λv hv'=>?_)
  subst hv'
  rw[show w64 ((k:Int)+1)=((k+1:Nat):Int) from by rw[aE (by omega) (by omega)]; rfl]
  refine AzB hn ha hb d (k+1) _ (by omega) (by simp[ho]) ?_
  intro x hx
  rcases List.mem_append.1 hx with hx|hx
  ·exact hc x hx
  simp only[List.mem_singleton] at hx; subst hx; exact hv
theorem Ay3 {op:Int} {a b:Arr} {m:Nat}:T (yK op a b) (Res m):=by
 unfold yK
 refine T.bind Bd3 (λv hv=>?_)
 match v,hv with
 |.error r,h=>exact T.ret (λe=>absurd e h)
 |.ok _,⟨hva,hvb⟩=>
  refine T.ite (λ_=>T.ret (Res.err (by omega))) (λ_=>?_)
  refine T.bind (T.val (AzC op) (Q:=Any) trivial) (λx _=>?_)
  refine T.ite (λ_=>T.ret (Res.err (by omega))) (λ_=>?_)
  have ra:=hva.i.sized; have rb:=hvb.i.sized
  refine T.bind (Bf9 ra.rank rb.rank) (λr hr=>?_)
  refine T.ite (λhe=>T.ret (Res.err (fK he))) (λhe=>?_)
  have hag:=hr (dR he)
  have nil1:∀{x:Arr},Val 0 x->x.shape=[]->x.cells.length=1:=by
   intro x hx h0
   have:=hx.i.sized.prod
   rw[h0] at this
   simp only[aR] at this
   omega
  have main:∃n:Nat,n<=16384/\mD r.1 n/\(∀x∈r.1,x<=16384)/\(0<n->0<a.cells.length/\(0<a.shape.length->n<=a.cells.length))/\(0<n->0<b.cells.length/\(0<b.shape.length->n<=b.cells.length)) /\
    (a.cells.length=0->n=0)/\(a.cells.length≠0->(b.cells.length=0->n=0)/\(b.cells.length≠0->n=max a.cells.length b.cells.length)):=by
   have ha1:=ra.hi; have hb1:=rb.hi
   rcases hag with ⟨h1,h2⟩|⟨h1,h2,h3⟩|⟨h1,h2,h3⟩
   ·have:=nil1 hva h1
    refine⟨b.cells.length,by omega,by rw[h2]; exact rb,by rw[h2]; exact hvb.i.dims,λ_=>⟨by omega,λh=>by rw[h1] at h; simp at h⟩,λh=>⟨h,λ_=>Nat.le_refl _⟩,by omega,λ_=>⟨λh=>h,λ_=>by omega⟩⟩
   ·have:=nil1 hvb h2
    refine⟨a.cells.length,by omega,by rw[h3]; exact ra,by rw[h3]; exact hva.i.dims,λh=>⟨h,λ_=>Nat.le_refl _⟩,λ_=>⟨by omega,λh=>by rw[h2] at h; simp at h⟩,λh=>h,λ_=>⟨by omega,λ_=>by omega⟩⟩
   have he:(a.cells.length:Int)=b.cells.length:=by rw[←ra.prod,←rb.prod,h2]
   refine⟨a.cells.length,by omega,by rw[h3]; exact ra,by rw[h3]; exact hva.i.dims,λh=>⟨h,λ_=>Nat.le_refl _⟩,λh=>⟨by omega,λ_=>by omega⟩,λh=>h,λ_=>⟨by omega,λ_=>by omega⟩⟩
  obtain⟨n,hn,hsz,hdm,hA,hB,h0,h1⟩:=main
  have fin:∀cs:List aA,cs.length=n->(∀c∈cs,uI c)->Res m (Arr.mk r.1 cs,0):=by
   intro cs hl hc _
   exact Au5 (by rw[hl]; exact hsz) hdm hc
  refine T.ite (λhz=>?_) (λhz=>?_)
  ·have hz':a.cells.length=0:=by have:=eU hz; omega
   rw[rT]
   exact T.bind (R:=λx=>x=.ok []) (T.ret rfl) (λv hv=>by subst hv; exact T.ret (fin [] (by simp; exact (h0 hz').symm) (by simp)))
  have hz':a.cells.length≠0:=by intro e; rw[e] at hz; simp at hz
  obtain⟨g1,g2⟩:=h1 hz'
  refine T.bind (R:=λx=>x=(n:Int)) ?_ (λv hv=>?_)
  ·refine T.ite (λhq=>T.ret ?_) (λhq=>T.ret ?_)
   ·have:=g1 (by have:=eU hq; omega); omega
   ·have hb':b.cells.length≠0:=by intro e; rw[e] at hq; simp at hq
    have:=g2 hb'
    split<;>omega
  subst hv
  refine T.bind (AzB hn hA hB n 0 [] (by omega) rfl (by simp)) (λv hvv=>?_)
  match v,hvv with
  |.error r,h=>exact T.ret (λe=>absurd e h)
  |.ok cs,h=>exact T.ret (fin cs h.1 h.2)
def dN (n:Int):List Int->Int
 | []=>n
 |d::r=>dN (w64 (n*d)) r
theorem Aq0:∀l:List Int,dN 0 l=0
 | []=>rfl
 |d::r=>by simp only[dN,Int.zero_mul]; rw[aE (by omega) (by omega)]; exact Aq0 r
theorem Aa8:∀{l:List Int} {n:Int},0∈l->dN n l=0
 |d::r,n,h=>by
  simp only[dN]
  rcases List.mem_cons.1 h with h|h
  ·rw[←h,Int.mul_zero,aE (by omega) (by omega)]; exact Aq0 r
  exact Aa8 h
theorem AnH:∀{l:List Int},(∀d∈l,0<d)->0<aR l
 | [],_=>by simp[aR]
 |d::r,hp=>Int.mul_pos (hp d (by simp)) (AnH λx hx=>hp x (by simp[hx]))
theorem AsP:∀{l:List Int} {n:Int},(∀d∈l,0<d)->0<n->n*aR l<=16384->dN n l=n*aR l
 | [],n,_,_,_=>by simp[dN,aR]
 |d::r,n,hp,h0,h=>by
  have hd:=hp d (by simp)
  have hr:=AnH (l:=r) λx hx=>hp x (by simp[hx])
  simp only[aR,←Int.mul_assoc] at h ⊢
  have hm0:=Int.mul_pos h0 hd
  have h1:n*d<=16384:=by
   have h2:n*d*1<=n*d*aR r:=Int.mul_le_mul_of_nonneg_left (by omega) (Int.le_of_lt hm0)
   rw[Int.mul_one] at h2
   omega
  simp only[dN]
  rw[aE (by omega) (by omega)]
  exact AsP (λx hx=>hp x (by simp[hx])) hm0 h
theorem fQ:∀l m:List Int,aR (l++m)=aR l*aR m
 | [],m=>by simp[aR]
 |d::r,m=>by simp only[List.cons_append,aR,fQ r m]; exact (Int.mul_assoc _ _ _).symm
theorem AhC {l:List Int} (h:aR l=0):0∈l:=by
 induction l with
 |nil=>simp[aR] at h
 |cons d r ih=>
  simp only[aR] at h
  rcases Int.mul_eq_zero.1 h with h|h
  ·simp[h]
  simp[ih h]
theorem jO {l:List Int} {n:Int} (h:mD l n):dN 1 l=n:=by
 by_cases hz:n=0
 ·rw[Aa8 (AhC (by rw[h.prod]; exact hz)),hz]
 have hd:=h.dim hz
 rw[AsP (λd hd'=>(hd d hd').1) (by omega) (by rw[Int.one_mul,h.prod]; exact h.hi),Int.one_mul,h.prod]
theorem oO {a b:List Int} {n:Int} (h:mD (a++b) n) (hn:n≠0):mD a (aR a)/\mD b (aR b)/\0<aR a/\0<aR b:=by
 have hd:=h.dim hn
 have pa:∀d∈a,0<d:=λd hd'=>(hd d (by simp[hd'])).1
 have pb:∀d∈b,0<d:=λd hd'=>(hd d (by simp[hd'])).1
 have ga:=AnH pa; have gb:=AnH pb
 have hp:=h.prod; rw[fQ] at hp
 have hr:=h.rank; rw[List.length_append] at hr
 have hle:=h.hi
 have la:aR a<=16384:=by
  have:=Int.mul_le_mul_of_nonneg_left (show (1:Int)<=aR b by omega) (Int.le_of_lt ga)
  rw[Int.mul_one] at this; omega
 have lb:aR b<=16384:=by
  have:=Int.mul_le_mul_of_nonneg_right (show (1:Int)<=aR a by omega) (Int.le_of_lt gb)
  rw[Int.one_mul] at this; omega
 exact⟨⟨by omega,λd hd'=>Int.le_of_lt (pa d hd'),rfl,by omega,la,λ_ d hd'=>hd d (by simp[hd'])⟩,⟨by omega,λd hd'=>Int.le_of_lt (pb d hd'),rfl,by omega,lb,λ_ d hd'=>hd d (by simp[hd'])⟩,ga,gb⟩
theorem AmL {s l:List Int} {ax:Int} (hf:Few l):∀(r:List Int) (k:Nat) (n:Int),l.drop k=r->jM (s,ax,l,n,(k:Int))=some (dN n r)
 | [],k,n,h=>by
  rw[jM]; simp only[bZ (cC h),fJ,if_false,dN]
 |d::r,k,n,h=>by
  rw[jM]
  simp only[dH (cD h),if_true,bN h,oJ,bJ,bW h hf,dN]
  exact AmL hf r (k+1) _ (bC h)
theorem AmM {s l:List Int} {ax o:Int} (hf:Few l):∀(r:List Int) (k:Nat) (n:Int),l.drop k=r->jN (s,ax,o,l,n,(k:Int))=some (dN n r)
 | [],k,n,h=>by
  rw[jN]; simp only[bZ (cC h),fJ,if_false,dN]
 |d::r,k,n,h=>by
  rw[jN]
  simp only[dH (cD h),if_true,bN h,oJ,bJ,bW h hf,dN]
  exact AmM hf r (k+1) _ (bC h)
theorem AwN {s:List Int} {k:Nat} (h8:s.length<=8) (hk:k<s.length):sQ s (k:Int)=some (dN 1 (s.take k),dN 1 (s.drop (k+1)),s[k]):=by
 unfold sQ
 have h1:lto s (k:Int)=some (s.take k):=by unfold lto; rw[if_pos (by omega)]; simp
 have h2:lfrom s (w64 ((k:Int)+1))=some (s.drop (k+1)):=by
  rw[show w64 ((k:Int)+1)=((k+1:Nat):Int) from by rw[aE (by omega) (by omega)]; rfl]
  unfold lfrom; rw[if_pos (by omega)]; simp
 have h3:lget s (k:Int)=some s[k]:=fS hk
 have e1:=AmL (s:=s) (ax:=(k:Int)) (l:=s.take k) (by unfold Few; simp; omega) (s.take k) 0 1 rfl
 have e2:=AmM (s:=s) (ax:=(k:Int)) (o:=dN 1 (s.take k)) (l:=s.drop (k+1)) (by unfold Few; simp; omega) (s.drop (k+1)) 0 1 rfl
 simp only[h1,h2,h3,oJ,bJ,show jM (s,(k:Int),s.take k,1,0)=_ from e1,show jN (s,(k:Int),dN 1 (s.take k),s.drop (k+1),1,0)=_ from e2]
def axN (s:List Int) (last:Bool):Nat:=if last then s.length-1 else 0
theorem AzM {a:Arr} {last:Bool} (h:0<a.shape.length) (h8:a.shape.length<=8):vG a last=some ((axN a.shape last:Nat):Int):=by
 unfold vG axN
 cases last
 ·rfl
 simp only[if_true]; rw[aE (by omega) (by omega)]; congr 1; omega
theorem At2 {s:List Int} {last:Bool} (h:0<s.length):axN s last<s.length:=by unfold axN; split<;>omega
theorem As0 {l:List aA} {at_ step long:Int} (hlong:long<=16384) (hi:∀j:Int,0<=j->j<long->0<=w64 (at_+w64 (j*step))/\w64 (at_+w64 (j*step))<l.length) :
  ∀(d:Nat) (k:Nat) (out:List aA),(k:Int)+d=max long 0->out.length=k->(∀c∈out,c∈l)->T (mY (l,at_,step,long,out,(k:Int))) (λr=>(r.length:Int)=max long 0/\∀c∈r,c∈l)
 |0,k,out,h,ho,hc=>by
  rw[mY]
  refine T.ite (λh'=>by simp at h'; omega) (λ_=>T.ret ⟨by omega,hc⟩)
 |d+1,k,out,h,ho,hc=>by
  rw[mY]
  refine T.ite (λh'=>?_) (λh'=>by simp at h'; omega)
  obtain⟨g1,g2⟩:=hi k (by omega) (by simpa using h')
  refine T.bind (T.lget (Q:=λv=>v∈l) g1 g2 (λv hv=>List.mem_of_getElem? hv)) (λy hy=>?_)
  refine T.bind (dT (by simp; omega)) (λv hv'=>?_)
  subst hv'
  rw[show w64 ((k:Int)+1)=((k+1:Nat):Int) from by rw[aE (by omega) (by omega)]; rfl]
  refine As0 hlong hi d (k+1) _ (by omega) (by simp[ho]) ?_
  intro x hx
  rcases List.mem_append.1 hx with hx|hx
  ·exact hc x hx
  simp only[List.mem_singleton] at hx; subst hx; exact hy
theorem BiC {l:List aA} {at_ step long:Int} (h0:0<=long) (hlong:long<=16384) (hi:∀j:Int,0<=j->j<long->0<=w64 (at_+w64 (j*step))/\w64 (at_+w64 (j*step))<l.length) :
  T (rV l at_ step long) (λr=>(r.length:Int)=long/\∀c∈r,c∈l):=by
 unfold rV
 refine T.bind (T.val (v:=()) (by unfold mkcap; rw[if_pos (by omega)]) (Q:=Any) trivial) (λ_ _=>?_)
 refine T.bind (As0 hlong hi long.toNat 0 [] (by omega) rfl (by simp)) (λr hr=>T.ret ⟨by omega,hr.2⟩)
def Fr (l:List aA) (c:aA):Prop:=c∈l\/uI c
theorem Fr.chk {a:Arr} (h:Val 0 a) {c:aA} (hc:Fr a.cells c):AcV c 0=0:=by
 rcases hc with hc|hc
 ·exact h.i.cells c hc
 exact hc.chk 0
theorem Fr.w {m:Nat} {l:List aA} (h:Cw m l) {c:aA} (hc:Fr l c):wC c<=m:=by
 rcases hc with hc|hc
 ·exact h c hc
 rw[hc.w]; omega
theorem frv {a:Arr} {sh:List Int} {cs:List aA} {m:Nat} (ha:Val 0 a) (hm:Cw m a.cells) (h1:mD sh cs.length) (h2:∀x∈sh,x<=16384) (h3:∀c∈cs,Fr a.cells c):Val 0 (.mk sh cs)/\Cw m cs:=
 ⟨AlU h1 h2 λc hc=>(h3 c hc).chk ha,λc hc=>(h3 c hc).w hm⟩
theorem BjE {f:bY} {a b:aA}:T (vE f a b) (λr=>uI r.1):=by
 unfold vE
 refine T.bind (R:=Any) (T.ite (λ_=>T.any) (λ_=>T.any)) (λv _=>?_)
 exact T.bind AzG (λr hr=>T.ret hr)
theorem AkJ {l:List aA} (hl:l.length<=16384):∀(r:List aA) (k:Nat) (out:List Int),l.drop k=r->out.length=l.length->T (jB (l,(k:Int),out)) (λr=>match r with|.error r=>r.2≠0|.ok o=>o.length=l.length)
 | [],k,out,h,ho=>by
  rw[jB]
  simp only[bZ (cC h),fJ,if_false]
  exact T.ret ho
 |c::r,k,out,h,ho=>by
  have hk:=cD h
  rw[jB]
  simp only[dH hk,if_true,bN h,oJ,bJ,bW h (by unfold Few; omega)]
  refine T.ite (λ_=>T.ret (by simp)) (λ_=>?_)
  refine T.bind (T.val (v:=k) (by unfold aidx; rw[if_pos (by simp; omega)]; simp) (Q:=λv=>v=k) rfl) (λj hj=>?_)
  subst hj
  refine T.bind (T.val (by unfold aset; rw[if_pos (by omega)]) (Q:=λv=>v.length=l.length) (by simpa using ho)) (λo hoo=>?_)
  exact AkJ hl r (j+1) o (bC h) hoo
theorem BbW {l:List aA} (hl:l.length<=16384):T (mZ l) (λr=>r.2=0->r.1.length<=16384):=by
 unfold mZ
 refine T.bind (T.val (by unfold mkarr; rw[if_pos (by omega)]) (Q:=λv=>v.length=l.length) (by simp)) (λo ho=>?_)
 refine T.bind (AkJ hl l 0 o rfl ho) (λv hv=>?_)
 match v,hv with
 |.error r,h=>exact T.ret (λe=>absurd e h)
 |.ok o2,h=>
  exact T.bind (T.val (by unfold afrz; rw[if_pos (by simp; exact h)]) (Q:=λv=>v.length=l.length) h) (λv hv=>T.ret (λ_=>by simp only; omega))
theorem BeV {n:Int} {w:eK}:T (pE n w) Any:=by unfold pE; exact T.ite (λ_=>T.any) (λ_=>T.any)
theorem BgR {w x:eK}:T (qQ w x) Any:=by unfold qQ; exact T.ite (λ_=>T.any) (λ_=>T.ite (λ_=>T.any) (λ_=>T.any))
theorem BeZ {w x:eK}:T (pF w x) Any:=by unfold pF; exact T.bind (R:=Any) (T.ite (λ_=>T.any) (λ_=>T.any)) (λ_ _=>T.any)
theorem AsQ {w:eK} {b:Bool}:T (kU w b) Any:=by
 unfold kU
 refine T.ite (λ_=>T.ite (λ_=>T.any) (λ_=>T.any)) (λ_=>?_)
 exact T.ite (λ_=>T.ite (λ_=>T.any) (λ_=>T.any)) (λ_=>T.bind AxI (λ_ _=>T.any))
theorem AuR {l:List Int} (hf:Few l):∀(r:List Int) (k:Nat) (a b c d:Int),l.drop k=r->T (pZ (l,(k:Int),a,b,c,d)) Any
 | [],k,a,b,c,d,h=>by
  rw[pZ]
  simp only[bZ (cC h),fJ,if_false]
  exact T.any
 |x::r,k,a,b,c,d,h=>by
  have ih:=λa b c d=>AuR hf r (k+1) a b c d (bC h)
  rw[pZ]
  simp only[dH (cD h),if_true,bN h,oJ,bJ,bW h hf]
  refine T.bind (R:=Any) ?_ (λv _=>ih _ _ _ _)
  refine T.bind BeN (λm _=>?_)
  exact T.ite (λ_=>T.bind BeV (λ_ _=>T.any)) (λ_=>T.bind BeV (λ_ _=>T.any))
theorem BiZ {l:List Int} (hf:Few l):T (xP l) Any:=by
 unfold xP
 refine T.bind (AuR hf l 0 0 0 0 0 rfl) (λv _=>?_)
 refine T.bind BgR (λx _=>?_)
 exact T.ite (λ_=>T.bind BeZ (λ_ _=>T.bind AsQ (λ_ _=>T.any))) (λ_=>T.bind BeZ (λ_ _=>T.bind AsQ (λ_ _=>T.any)))
theorem AxA {f:bY} {l:List aA} (hl:l.length<=16384):∀(d:Nat) (i:Int) (c:aA),i+1=d->i<l.length->Fr l c->T (p_fold_F_row_l0 (f,l,i,c.kind,c.n,c.box)) (λr=>match r with|.error r=>r.2≠0|.ok (a,b,c)=>Fr l (aA.mk a b c))
 |0,i,c,h,hi,hc=>by
  rw[p_fold_F_row_l0]
  refine T.ite (λh'=>by simp at h'; omega) (λ_=>T.ret ?_)
  cases c; exact hc
 |d+1,i,c,h,hi,hc=>by
  rw[p_fold_F_row_l0]
  refine T.ite (λh'=>?_) (λh'=>by simp at h'; omega)
  refine T.bind (T.lget (Q:=Any) (by omega) hi (λ_ _=>trivial)) (λy _=>?_)
  refine T.bind BjE (λr hr=>?_)
  refine T.ite (λhe=>T.ret (fK he)) (λ_=>?_)
  rw[aE (x:=i-1) (by omega) (by omega)]
  exact AxA hl d (i-1) r.1 (by omega) (by omega) (.inr hr)
theorem BhK {f:bY} {l:List aA} (hl:l.length<=16384):T (sO f l) (λr=>r.2=0->Fr l r.1):=by
 unfold sO
 refine T.bind (R:=λr=>match r with|.error r=>r.2=0->Fr l r.1|.ok _=>2<=l.length) ?_ (λv hv=>?_)
 ·refine T.ite (λh1=>?_) (λh1=>?_)
  ·have:=eU h1
   exact T.bind (T.lget (Q:=λv=>v∈l) (by omega) (by omega) (λv hv=>List.mem_of_getElem? hv)) (λy hy=>T.ret (λ_=>.inl hy))
  refine T.ite (λh0=>?_) (λh0=>?_)
  ·refine T.ite (λ_=>T.ret (λ_=>.inr (.mk _))) (λ_=>?_)
   refine T.ite (λ_=>T.ret (λ_=>.inr (.mk _))) (λ_=>?_)
   refine T.ite (λ_=>?_) (λh=>by rw[h0] at h; cases h)
   refine T.ite (λ_=>T.ret (λ_=>.inr (.mk _))) (λ_=>?_)
   exact T.ite (λ_=>T.ret (λe=>absurd e (by simp))) (λh=>by rw[h0] at h; cases h)
  refine T.ite (λh=>by rw[h0] at h; cases h) (λ_=>?_)
  refine T.ite (λh=>by rw[h0] at h; cases h) (λ_=>T.ret ?_)
  have a1:(l.length:Int)≠1:=by simpa using h1
  have a2:(l.length:Int)≠0:=by simpa using h0
  show 2<=l.length
  omega
 match v,hv with
 |.error r,h=>exact T.ret h
 |.ok _,h2=>
  have fin:∀{α:Type},T (mZ l>>=λ(n,e)=>if (e != 0) then some ((aA.mk 0 0 []),e) else if (f.op_==23) then sA n>>=λ(k,e1)=>some ((aA.mk 0 k []),e1) else xP n>>=λ(k1,e2)=>some ((aA.mk 0 k1 []),e2)) (λr=>r.2=0->Fr l r.1):=by
   intro _
   refine T.bind (BbW hl) (λr hr=>?_)
   refine T.ite (λhe=>T.ret (λe=>absurd e (fK he))) (λhe=>?_)
   have hfw:Few r.1:=by have:=hr (dR he); unfold Few; omega
   exact T.ite (λ_=>T.bind (BcI hfw) (λ_ _=>T.ret (λ_=>.inr (.mk _)))) (λ_=>T.bind (BiZ hfw) (λ_ _=>T.ret (λ_=>.inr (.mk _))))
  refine T.ite (λ_=>fin (α:=Unit)) (λ_=>?_)
  refine T.ite (λ_=>fin (α:=Unit)) (λ_=>?_)
  rw[aE (x:=(l.length:Int)-1) (by omega) (by omega),aE (x:=(l.length:Int)-2) (by omega) (by omega)]
  refine T.bind (T.lget (Q:=λv=>v∈l) (by omega) (by omega) (λv hv=>List.mem_of_getElem? hv)) (λy hy=>?_)
  refine T.bind (AxA hl (l.length-1) _ y (by omega) (by omega) (.inl hy)) (λv hv=>?_)
  match v,hv with
  |.error r,h=>exact T.ret (λe=>absurd e h)
  |.ok (a,b,c),h=>exact T.ret (λ_=>h)
theorem Ba0 {o s g x y j N:Int} (hx:0<=x) (hx':x<o) (hy:0<=y) (hy':y<s) (hj:0<=j) (hj':j<g) (hN:o*s*g=N) (hle:N<=16384) :
  w64 (w64 (w64 (w64 (x*s)*g)+y)+w64 (j*s))=x*s*g+y+j*s/\0<=x*s*g+y+j*s/\x*s*g+y+j*s<N/\w64 (w64 (w64 (x*s)*g)+y)=x*s*g+y:=by
 have h1:0<=x*s:=Int.mul_nonneg hx (by omega)
 have h2:0<=x*s*g:=Int.mul_nonneg h1 (by omega)
 have h3:0<=j*s:=Int.mul_nonneg hj (by omega)
 have h4:(x*g+j+1)<=o*g:=by
  have:(x+1)*g<=o*g:=Int.mul_le_mul_of_nonneg_right (by omega) (by omega)
  rw[Int.add_mul,Int.one_mul] at this; omega
 have h5:(x*g+j+1)*s<=o*g*s:=Int.mul_le_mul_of_nonneg_right h4 (by omega)
 rw[Int.add_mul,Int.add_mul,Int.one_mul] at h5
 have e1:x*g*s=x*s*g:=by rw[Int.mul_assoc,Int.mul_comm g s,←Int.mul_assoc]
 have e2:o*g*s=o*s*g:=by rw[Int.mul_assoc,Int.mul_comm g s,←Int.mul_assoc]
 rw[e1,e2,hN] at h5
 have h6:x*s<=x*s*g:=by
  have:=Int.mul_le_mul_of_nonneg_left (show (1:Int)<=g by omega) h1
  rwa [Int.mul_one] at this
 have w1:w64 (x*s)=x*s:=aE (by omega) (by omega)
 have w2:w64 (x*s*g)=x*s*g:=aE (by omega) (by omega)
 have w3:w64 (x*s*g+y)=x*s*g+y:=aE (by omega) (by omega)
 have w4:w64 (j*s)=j*s:=aE (by omega) (by omega)
 have w5:w64 (x*s*g+y+j*s)=x*s*g+y+j*s:=aE (by omega) (by omega)
 rw[w1,w2,w3,w4,w5]
 exact⟨rfl,by omega,by omega,rfl⟩
structure Geo (a:Arr) (o s g:Int):Prop where
 g0:0<=g
 g1:g<=16384
 all:0<o->0<s->0<g->o*s*g=a.cells.length
theorem geo {a:Arr} {last:Bool} (hv:Val 0 a) (h:0<a.shape.length):Geo a (dN 1 (a.shape.take (axN a.shape last))) (dN 1 (a.shape.drop (axN a.shape last+1))) (a.shape[axN a.shape last]'(At2 h)):=by
 have hk:=At2 (last:=last) h
 have hz:=hv.i.sized
 have hm:a.shape[axN a.shape last]'hk∈a.shape:=List.getElem_mem hk
 refine⟨hz.pos _ hm,hv.i.dims _ hm,?_⟩
 intro ho hs hg
 have e0:a.shape=a.shape.take (axN a.shape last)++(a.shape[axN a.shape last]'hk::a.shape.drop (axN a.shape last+1)):=by
  rw[←List.drop_eq_getElem_cons hk,List.take_append_drop]
 have hne:(a.cells.length:Int)≠0:=by
  intro e
  have h0:(0:Int)∈a.shape:=AhC (by rw[hz.prod]; exact e)
  rw[e0] at h0
  rcases List.mem_append.1 h0 with h0|h0
  ·rw[Aa8 h0] at ho; omega
  rcases List.mem_cons.1 h0 with h0|h0
  ·omega
  rw[Aa8 h0] at hs; omega
 have hz':=hz
 rw[e0] at hz'
 obtain⟨p1,p2,p3,p4⟩:=oO hz' hne
 have hz2:mD ([a.shape[axN a.shape last]'hk]++a.shape.drop (axN a.shape last+1)) (aR (a.shape[axN a.shape last]'hk::a.shape.drop (axN a.shape last+1))):=p2
 obtain⟨q1,q2,q3,q4⟩:=oO hz2 (by omega)
 rw[jO p1,jO q2]
 have hp:=hz'.prod
 rw[fQ] at hp
 simp only[aR] at hp
 rw[←hp,Int.mul_assoc,Int.mul_comm (aR (a.shape.drop (axN a.shape last+1)))]
theorem AjI {f:bY} {l:List Arr} (hf:Few l):∀(r:List Arr) (k:Nat),l.drop k=r->(∀x∈l.take k,Val 0 x)->T (gB (f,l,(k:Int))) (λr=>match r with|.error e=>e≠0|.ok _=>∀x∈l,Val 0 x)
 | [],k,h,hv=>by
  rw[gB]
  simp only[bZ (cC h),fJ,if_false]
  refine T.ret ?_
  rwa [List.take_of_length_le (List.drop_eq_nil_iff.1 h)] at hv
 |a::r,k,h,hv=>by
  rw[gB]
  simp only[dH (cD h),if_true,bN h,oJ,bJ,bW h hf,qG]
  refine T.ite (λhe=>T.ret (fK he)) (λhe=>?_)
  refine AjI hf r (k+1) (bC h) ?_
  have:l[k]?=some a:=by
   have:(l.drop k)[0]?=some a:=by rw[h]; rfl
   simpa using this
  rw[List.take_add_one,this]
  intro x hx
  rcases List.mem_append.1 hx with hx|hx
  ·exact hv x hx
  simp only[Option.toList_some,List.mem_singleton] at hx; subst hx; exact dR he
theorem Al1 {f:bY} {l:List Arr} (hf:Few l):T (jV f l) (λe=>e=0->∀x∈l,Val 0 x):=by
 unfold jV
 refine T.bind (AjI hf l 0 rfl (by simp)) (λv hv=>?_)
 match v,hv with
 |.error r,h=>exact T.ret (λe=>absurd e h)
 |.ok _,h=>
  refine T.bind (T.val (AzC f.op_) (Q:=Any) trivial) (λx _=>?_)
  exact T.ite (λ_=>T.ret (λe=>by omega)) (λ_=>T.ret (λ_=>h))
theorem AgR {l:List Int} (h:l.length<=8):T (rM l) (λr=>r=(l.length,l)):=⟨_,by unfold rM; rw[if_pos (by omega)],rfl⟩
theorem Ae2 {a:Int} (h1:0<=a) (h2:a<4611686018427387904):w64 (a+1)=a+1:=aE (by omega) (by omega)
theorem Ba5 {a:Arr} {o s g x y:Int} (hv:Val 0 a) (G:Geo a o s g) (hx:0<=x) (hx':x<o) (hy:0<=y) (hy':y<s):T (rV a.cells (w64 (w64 (w64 (x*s)*g)+y)) s g) (λr=>(r.length:Int)=g/\∀c∈r,c∈a.cells):=by
 refine BiC G.g0 G.g1 ?_
 intro j hj hj'
 obtain⟨e,g1,g2,_⟩:=Ba0 hx hx' hy hy' hj hj' (G.all (by omega) (by omega) (by omega)) hv.i.sized.hi
 rw[e]; exact⟨g1,g2⟩
theorem AuQ {f:bY} {a:Arr} {x2 x3:List Int} {o s g x5:Int} (hv:Val 0 a) (G:Geo a o s g) (hs:s<=16384) (ho:o<=16384) (hos:o*s<=16384) (hx:0<=x5) (hx':x5<o):∀(d:Nat) (x6:Int) (out:List aA),0<=x6->x6+d=max s x6->(out.length:Int)=x5*s+x6->(∀c∈out,Fr a.cells c)->x6<=s ->
  T (oK (f,a,x2,x3,o,s,g,x5,x6,out)) (λr=>match r with|.error r=>r.2≠0|.ok cs=>(cs.length:Int)=x5*s+s/\∀c∈cs,Fr a.cells c)
 |0,x6,out,h0,hd,hl,hc,hle=>by
  rw[oK]
  refine T.ite (λh'=>by simp at h'; omega) (λh'=>T.ret ⟨by simp at h'; omega,hc⟩)
 |d+1,x6,out,h0,hd,hl,hc,hle=>by
  have hlt:x6<s:=by omega
  rw[oK]
  refine T.ite (λ_=>?_) (λh'=>by simp at h'; omega)
  refine T.bind (Ba5 hv G hx hx' h0 hlt) (λl hl'=>?_)
  have hg:=G.g1
  refine T.bind (BhK (by omega)) (λr hr=>?_)
  refine T.ite (λhe=>T.ret (fK he)) (λhe=>?_)
  have h1:x5*s+s<=o*s:=by
   have:=Int.mul_le_mul_of_nonneg_right (show x5+1<=o by omega) (show 0<=s by omega)
   rwa [Int.add_mul,Int.one_mul] at this
  refine T.bind (dT (by simp; omega)) (λv hv'=>?_)
  subst hv'
  rw[Ae2 h0 (by omega)]
  refine AuQ hv G hs ho hos hx hx' d (x6+1) _ (by omega) (by omega) (by simp; omega) ?_ (by omega)
  intro c hcc
  rcases List.mem_append.1 hcc with hcc|hcc
  ·exact hc c hcc
  simp only[List.mem_singleton] at hcc; subst hcc
  rcases hr (dR he) with h|h
  ·exact .inl (hl'.2 _ h)
  exact .inr h
theorem AuP {f:bY} {a:Arr} {x2 x3:List Int} {o s g:Int} (hv:Val 0 a) (G:Geo a o s g) (hs0:0<=s) (hs:s<=16384) (ho:o<=16384) (hos:o*s<=16384):∀(d:Nat) (x5:Int) (out:List aA),0<=x5->x5+d=o->(out.length:Int)=x5*s->(∀c∈out,Fr a.cells c) ->
  T (mI (f,a,x2,x3,o,s,g,x5,out)) (λr=>match r with|.error r=>r.2≠0|.ok cs=>(cs.length:Int)=o*s/\∀c∈cs,Fr a.cells c)
 |0,x5,out,h0,hd,hl,hc=>by
  rw[mI]
  refine T.ite (λh'=>by simp at h'; omega) (λh'=>T.ret ⟨?_,hc⟩)
  rw[hl]; congr 1; omega
 |d+1,x5,out,h0,hd,hl,hc=>by
  rw[mI]
  refine T.ite (λ_=>?_) (λh'=>by simp at h'; omega)
  refine T.bind (AuQ hv G hs ho hos h0 (by omega) s.toNat 0 out (by omega) (by omega) (by omega) hc hs0) (λv hvv=>?_)
  match v,hvv with
  |.error r,h=>exact T.ret h
  |.ok cs,h=>
   show T (mI (f,a,x2,x3,o,s,g,w64 (x5+1),cs)) _
   rw[Ae2 h0 (by omega)]
   exact AuP hv G hs0 hs ho hos d (x5+1) cs (by omega) (by omega) (by rw[h.1,Int.add_mul,Int.one_mul]) h.2
theorem Ay6 (s:List Int) (last:Bool) (h:0<s.length):(s.take (axN s last)=[]/\s.take (axN s last)++s.drop (axN s last+1)=s.drop (axN s last+1))\/(s.drop (axN s last+1)=[]/\s.take (axN s last)++s.drop (axN s last+1)=s.take (axN s last)):=by
 unfold axN
 cases last
 ·left; simp
 right
 have:s.drop (s.length-1+1)=[]:=List.drop_eq_nil_of_le (by omega)
 simp[this]
theorem BiW {f:bY} {a:Arr} {last:Bool} {m:Nat} (hm:Cw m a.cells):T (xO f a last) (Res m):=by
 unfold xO
 refine T.bind (Al1 (by unfold Few; simp)) (λe he=>?_)
 refine T.ite (λh=>T.ret (Res.err (fK h))) (λh=>?_)
 have hv:Val 0 a:=he (dR h) a (by simp)
 have hr:=hv.i.sized.rank
 refine T.ite (λh0=>?_) (λh0=>?_)
 ·exact T.bind (T.val (sE a 0 hv) (Q:=λv=>v=a) rfl) (λv hv'=>by subst hv'; exact T.ret (λ_=>⟨hv,hm⟩))
 have hpos:0<a.shape.length:=by
    have:(a.shape.length:Int)≠0:=by simpa using h0
    omega
 have hk:=At2 (last:=last) hpos
 refine T.bind (T.val (AzM hpos hr) (Q:=λv=>v=((axN a.shape last:Nat):Int)) rfl) (λk hkk=>?_)
 subst hkk
 refine T.bind (AgR hr) (λc hc=>?_)
 subst hc
 rw[show w64 (((axN a.shape last:Nat):Int)+1)=((axN a.shape last+1:Nat):Int) from by rw[aE (by omega) (by omega)]; rfl]
 refine T.bind (T.val (v:=(a.shape.take (axN a.shape last)++a.shape.drop (axN a.shape last+1),[])) (by unfold AcX; rw[if_pos (by omega)]; simp) (Q:=λv=>v=(a.shape.take (axN a.shape last)++a.shape.drop (axN a.shape last+1),[])) rfl) (λd hd=>?_)
 subst hd
 refine T.bind (T.val (zJ _) (Q:=λv=>v=kV (a.shape.take (axN a.shape last)++a.shape.drop (axN a.shape last+1))) rfl) (λsz hsz=>?_)
 subst hsz
 refine T.ite (λh=>T.ret (Res.err (fK h))) (λh=>?_)
 have hS:=tZ (dR h)
 refine T.bind (T.val (AwN hr hk) (Q:=λv=>v=(dN 1 (a.shape.take (axN a.shape last)),dN 1 (a.shape.drop (axN a.shape last+1)),a.shape[axN a.shape last]'hk)) rfl) (λq hq=>?_)
 subst hq
 have G:=geo (last:=last) hv hpos
 have hos:0<=dN 1 (a.shape.take (axN a.shape last))/\dN 1 (a.shape.take (axN a.shape last))<=16384/\0<=dN 1 (a.shape.drop (axN a.shape last+1))/\dN 1 (a.shape.drop (axN a.shape last+1))<=16384 /\
   dN 1 (a.shape.take (axN a.shape last))*dN 1 (a.shape.drop (axN a.shape last+1))=(kV (a.shape.take (axN a.shape last)++a.shape.drop (axN a.shape last+1))).1:=by
  have l1:=hS.lo; have l2:=hS.hi
  rcases Ay6 a.shape last hpos with ⟨h1,h2⟩|⟨h1,h2⟩
  ·rw[h2] at hS l1 l2 ⊢
   rw[h1,jO hS]
   simp only[dN]; omega
  rw[h2] at hS l1 l2 ⊢
  rw[h1,jO hS]
  simp only[dN]; omega
 obtain⟨o0,o1,s0,s1,hprod⟩:=hos
 have hdim:∀x∈a.shape.take (axN a.shape last)++a.shape.drop (axN a.shape last+1),x<=16384:=by
  intro x hx
  rcases List.mem_append.1 hx with hx|hx
  ·exact hv.i.dims x (List.mem_of_mem_take hx)
  exact hv.i.dims x (List.mem_of_mem_drop hx)
 refine T.bind (AuP hv G s0 s1 o1 (by rw[hprod]; exact hS.hi) _ 0 [] (by omega) (by rw[Int.toNat_of_nonneg o0]; omega) (by simp) (by simp)) (λv hvv=>?_)
 match v,hvv with
 |.error r,h=>exact T.ret (λe=>absurd e h)
 |.ok cs,h=>
  have hval:=frv (m:=m) hv hm (sh:=a.shape.take (axN a.shape last)++a.shape.drop (axN a.shape last+1)) (cs:=cs) (by rw[h.1,hprod]; exact hS) hdim h.2
  exact T.bind (T.val (sE _ 0 hval.1) (Q:=λv=>v=Arr.mk (a.shape.take (axN a.shape last)++a.shape.drop (axN a.shape last+1)) cs) rfl) (λv hv'=>by subst hv'; exact T.ret (λ_=>hval))
theorem Bb5 {d:Int} {a:Arr} (hv:Val d a):∀c∈a.cells,kD c=some c:=by
 intro c hm
 rw[kD]
 rcases rJ (hv.i.cells c hm) with ⟨_,_,_,b,hb,hvb⟩|⟨hb,_⟩
 ·have:=sE b _ hvb
  obtain⟨k,n,bx⟩:=c
  simp only[aA.box] at hb
  subst hb
  have hl:lget [b] 0=some b:=rfl
  simp[aA.box,aA.kind,aA.n,hl,this]
 obtain⟨k,n,bx⟩:=c
 simp only[aA.box] at hb
 subst hb
 simp[aA.box,aA.kind,aA.n]
theorem AvG {a:Arr} {l:List Int} (hf:Few a.cells) (hl:a.cells.length<=16384) (hc:∀c∈a.cells,kD c=some c):∀(r:List aA) (k:Nat) (out:List aA),a.cells.drop k=r->out=a.cells.take k->p_arr_Copy_V_l0 (a,l,(k:Int),out)=some a.cells
 | [],k,out,h,ho=>by
  rw[p_arr_Copy_V_l0]
  simp only[bZ (cC h),fJ,if_false]
  rw[ho,List.take_of_length_le (List.drop_eq_nil_iff.1 h)]
 |c::r,k,out,h,ho=>by
  have hk:=cD h
  have hm:c∈a.cells:=List.mem_of_mem_drop (by rw[h]; simp)
  rw[p_arr_Copy_V_l0]
  have hlo:out.length<=16384:=by rw[ho,List.length_take]; omega
  have hap:lapp out [c]=some (out++[c]):=by unfold lapp; rw[if_pos (by simp; omega)]
  simp only[dH hk,if_true,bN h,oJ,bJ,bW h hf,hc c hm,hap]
  refine AvG hf hl hc r (k+1) _ (bC h) ?_
  rw[ho]
  have:a.cells[k]?=some c:=by
   have:(a.cells.drop k)[0]?=some c:=by rw[h]; rfl
   simpa using this
  rw[List.take_add_one,this]; rfl
theorem BcE {a:Arr} {d:Int} (hv:Val d a):wJ a=some (a.shape.length,a.cells.length,a.shape,a.cells):=by
 unfold wJ
 have hr:=hv.i.sized.rank
 have h1:lapp ([]:List Int) a.shape=some a.shape:=by unfold lapp; rw[if_pos (by simp; omega)]; simp
 have hlen:a.cells.length<=16384:=by have:=hv.i.sized.hi; omega
 have h2:=AvG (l:=a.shape) hv.fewc hlen (Bb5 hv) a.cells 0 [] rfl rfl
 simp only[h1,oJ,bJ]
 rw[show p_arr_Copy_V_l0 (a,a.shape,0,[])=some a.cells from h2]; rfl
theorem uJ {α:Type} {n:Nat} {l:List α} (h:l.length=n):T (afrz n l) (λr=>r=l):=⟨l,by unfold afrz; rw[if_pos h],rfl⟩
theorem AqU {f:bY} {a:Arr} {n n1:Nat} {b:List Int} {o s g x1 x2:Int} (hv:Val 0 a) (G:Geo a o s g) (hn:n1=a.cells.length) (hx:0<=x1) (hx':x1<o) (hy:0<=x2) (hy':x2<s) {l:List aA} (hl:(l.length:Int)=g) (hlc:∀c∈l,c∈a.cells) :
  ∀(d:Nat) (k:Int) (cs:List aA),1<=k->k+d=max g k->cs.length=a.cells.length->(∀c∈cs,Fr a.cells c)->T (mX (f,a,n,n1,b,o,s,g,x1,x2,l,k,cs)) (λr=>match r with|.error r=>r.2≠0|.ok cs=>cs.length=a.cells.length/\∀c∈cs,Fr a.cells c)
 |0,k,cs,h1,hd,hc,hf=>by
  rw[mX]
  refine T.ite (λh'=>by simp at h'; omega) (λ_=>T.ret ⟨hc,hf⟩)
 |d+1,k,cs,h1,hd,hc,hf=>by
  have hg:=G.g1
  have hlt:k<g:=by omega
  rw[mX]
  refine T.ite (λ_=>?_) (λh'=>by simp at h'; omega)
  rw[Ae2 (by omega) (by omega)]
  refine T.bind (T.val (by unfold lto; rw[if_pos (by omega)]) (Q:=λv=>v=l.take (k+1).toNat) rfl) (λl1 hl1=>?_)
  subst hl1
  refine T.bind (BhK (by rw[List.length_take]; omega)) (λr hr=>?_)
  refine T.ite (λhe=>T.ret (fK he)) (λhe=>?_)
  obtain⟨e,g1,g2,_⟩:=Ba0 hx hx' hy hy' (show 0<=k by omega) hlt (G.all (by omega) (by omega) (by omega)) hv.i.sized.hi
  rw[e]
  refine T.bind (T.val (by unfold aidx; rw[if_pos (by omega)]) (Q:=λv=>v<a.cells.length) (by omega)) (λj hj=>?_)
  refine T.bind (T.val (by unfold aset; rw[if_pos (by omega)]) (Q:=λv=>v=cs.set j r.1) rfl) (λcs2 hcs2=>?_)
  subst hcs2
  refine AqU hv G hn hx hx' hy hy' hl hlc d (k+1) _ (by omega) (by omega) (by simpa using hc) ?_
  intro c hcc
  rcases List.mem_or_eq_of_mem_set hcc with hcc|hcc
  ·exact hf c hcc
  subst hcc
  rcases hr (dR he) with h|h
  ·exact .inl (hlc _ (List.mem_of_mem_take h))
  exact .inr h
theorem AqT {f:bY} {a:Arr} {n n1:Nat} {b:List Int} {o s g x1:Int} (hv:Val 0 a) (G:Geo a o s g) (hs:s<9223372036854775808) (hn:n1=a.cells.length) (hx:0<=x1) (hx':x1<o) :
  ∀(d:Nat) (x2:Int) (cs:List aA),0<=x2->x2+d=max s x2->cs.length=a.cells.length->(∀c∈cs,Fr a.cells c)->T (kM (f,a,n,n1,b,o,s,g,x1,x2,cs)) (λr=>match r with|.error r=>r.2≠0|.ok cs=>cs.length=a.cells.length/\∀c∈cs,Fr a.cells c)
 |0,x2,cs,h0,hd,hc,hf=>by
  rw[kM]
  refine T.ite (λh'=>by simp at h'; omega) (λ_=>T.ret ⟨hc,hf⟩)
 |d+1,x2,cs,h0,hd,hc,hf=>by
  have hlt:x2<s:=by omega
  rw[kM]
  refine T.ite (λ_=>?_) (λh'=>by simp at h'; omega)
  refine T.bind (Ba5 hv G hx hx' h0 hlt) (λl hl=>?_)
  refine T.bind (AqU hv G hn hx hx' h0 hlt hl.1 hl.2 (g-1).toNat 1 cs (by omega) (by have:=G.g0; omega) hc hf) (λv hvv=>?_)
  match v,hvv with
  |.error r,h=>exact T.ret h
  |.ok cs2,h=>
   show T (kM (f,a,n,n1,b,o,s,g,x1,w64 (x2+1),cs2)) _
   rw[aE (by omega) (by omega)]
   exact AqT hv G hs hn hx hx' d (x2+1) cs2 (by omega) (by omega) h.1 h.2
theorem AqS {f:bY} {a:Arr} {n n1:Nat} {b:List Int} {o s g:Int} (hv:Val 0 a) (G:Geo a o s g) (hs:s<9223372036854775808) (ho:o<9223372036854775808) (hn:n1=a.cells.length) :
  ∀(d:Nat) (x1:Int) (cs:List aA),0<=x1->x1+d=max o x1->cs.length=a.cells.length->(∀c∈cs,Fr a.cells c)->T (kL (f,a,n,n1,b,o,s,g,x1,cs)) (λr=>match r with|.error r=>r.2≠0|.ok cs=>cs.length=a.cells.length/\∀c∈cs,Fr a.cells c)
 |0,x1,cs,h0,hd,hc,hf=>by
  rw[kL]
  refine T.ite (λh'=>by simp at h'; omega) (λ_=>T.ret ⟨hc,hf⟩)
 |d+1,x1,cs,h0,hd,hc,hf=>by
  have hlt:x1<o:=by omega
  rw[kL]
  refine T.ite (λ_=>?_) (λh'=>by simp at h'; omega)
  refine T.bind (AqT hv G hs hn h0 hlt s.toNat 0 cs (by omega) (by omega) hc hf) (λv hvv=>?_)
  match v,hvv with
  |.error r,h=>exact T.ret h
  |.ok cs2,h=>
   show T (kL (f,a,n,n1,b,o,s,g,w64 (x1+1),cs2)) _
   rw[aE (by omega) (by omega)]
   exact AqS hv G hs ho hn d (x1+1) cs2 (by omega) (by omega) h.1 h.2
theorem BiM (x:Int):w64 x<9223372036854775808:=by unfold w64; rw[IntKind.wrap_i64]; omega
theorem AkV:∀{l:List Int} {n:Int},n<9223372036854775808->dN n l<9223372036854775808
 | [],n,h=>h
 |d::r,n,_=>by simp only[dN]; exact AkV (l:=r) (BiM _)
theorem BhS {f:bY} {a:Arr} {last:Bool} {m:Nat} (hm:Cw m a.cells):T (vF f a last) (Res m):=by
 unfold vF
 refine T.bind (Al1 (by unfold Few; simp)) (λe he=>?_)
 refine T.ite (λh=>T.ret (Res.err (fK h))) (λh=>?_)
 have hv:Val 0 a:=he (dR h) a (by simp)
 have hr:=hv.i.sized.rank
 refine T.bind (T.val (BcE hv) (Q:=λv=>v=(a.shape.length,a.cells.length,a.shape,a.cells)) rfl) (λq hq=>?_)
 subst hq
 refine T.ite (λh0=>?_) (λh0=>?_)
 ·refine T.bind (uJ rfl) (λc hc=>?_)
  refine T.bind (uJ rfl) (λs hs=>?_)
  subst hc; subst hs
  exact T.ret (λ_=>by cases a; exact⟨hv,hm⟩)
 have hpos:0<a.shape.length:=by
   have:(a.shape.length:Int)≠0:=by simpa using h0
   omega
 have hk:=At2 (last:=last) hpos
 refine T.bind (T.val (AzM hpos hr) (Q:=λv=>v=((axN a.shape last:Nat):Int)) rfl) (λk hkk=>?_)
 subst hkk
 refine T.bind (T.val (AwN hr hk) (Q:=λv=>v=(dN 1 (a.shape.take (axN a.shape last)),dN 1 (a.shape.drop (axN a.shape last+1)),a.shape[axN a.shape last]'hk)) rfl) (λq hq=>?_)
 subst hq
 have G:=geo (last:=last) hv hpos
 refine T.bind (AqS hv G (AkV (by omega)) (AkV (by omega)) rfl (dN 1 (a.shape.take (axN a.shape last))).toNat 0 a.cells (by omega) (by omega) rfl (λc hc=>.inl hc)) (λv hvv=>?_)
 match v,hvv with
 |.error r,h=>exact T.ret (λe=>absurd e h)
 |.ok cs,h=>
  refine T.bind (uJ h.1) (λc hc=>?_)
  refine T.bind (uJ rfl) (λs hs=>?_)
  subst hc; subst hs
  exact T.ret (λ_=>frv hv hm (by rw[h.1]; exact hv.i.sized) hv.i.dims h.2)
theorem AnO {f:bY} {a b:Arr} {l:List Int} {x2:Int} {y:aA} (hb:Val 0 b) {base:Nat} (hbase:base+b.cells.length<=16384):∀(r:List aA) (k:Nat) (out:List aA),b.cells.drop k=r->out.length=base+k->k<=b.cells.length->(∀c∈out,uI c) ->
  T (lA (f,a,b,l,x2,y,(k:Int),out)) (λr=>match r with|.error r=>r.2≠0|.ok cs=>cs.length=base+b.cells.length/\∀c∈cs,uI c)
 | [],k,out,h,ho,hkl,hc=>by
  rw[lA]
  simp only[bZ (cC h),fJ,if_false]
  have:=List.drop_eq_nil_iff.1 h
  exact T.ret ⟨by omega,hc⟩
 |c::r,k,out,h,ho,hkl,hc=>by
  have hk:=cD h
  rw[lA]
  simp only[dH hk,if_true,bN h,oJ,bJ,bW h hb.fewc]
  refine T.bind BjE (λv hv=>?_)
  refine T.ite (λhe=>T.ret (fK he)) (λ_=>?_)
  refine T.bind (dT (by simp; omega)) (λw hw=>?_)
  subst hw
  refine AnO hb hbase r (k+1) _ (bC h) (by simp; omega) (by omega) ?_
  intro x hx
  rcases List.mem_append.1 hx with hx|hx
  ·exact hc x hx
  simp only[List.mem_singleton] at hx; subst hx; exact hv
theorem AnN {f:bY} {a b:Arr} {l:List Int} (ha:Val 0 a) (hb:Val 0 b) (hN:a.cells.length*b.cells.length<=16384):∀(r:List aA) (k:Nat) (out:List aA),a.cells.drop k=r->out.length=k*b.cells.length->k<=a.cells.length->(∀c∈out,uI c) ->
  T (kZ (f,a,b,l,(k:Int),out)) (λr=>match r with|.error r=>r.2≠0|.ok cs=>cs.length=a.cells.length*b.cells.length/\∀c∈cs,uI c)
 | [],k,out,h,ho,hkl,hc=>by
  rw[kZ]
  simp only[bZ (cC h),fJ,if_false]
  have h1:=List.drop_eq_nil_iff.1 h
  have:k=a.cells.length:=by omega
  exact T.ret ⟨by rw[ho,this],hc⟩
 |c::r,k,out,h,ho,hkl,hc=>by
  have hk:=cD h
  have hb2:k*b.cells.length+b.cells.length<=a.cells.length*b.cells.length:=by
   have:=Nat.mul_le_mul_right b.cells.length (show k+1<=a.cells.length by omega)
   rwa [Nat.add_mul,Nat.one_mul] at this
  rw[kZ]
  simp only[dH hk,if_true,bN h,oJ,bJ,bW h ha.fewc]
  refine T.bind (AnO hb (base:=k*b.cells.length) (by omega) b.cells 0 out rfl (by omega) (by omega) hc) (λv hv=>?_)
  match v,hv with
  |.error r,h=>exact T.ret h
  |.ok cs,hcs=>exact AnN ha hb hN r (k+1) cs (bC h) (by rw[hcs.1,Nat.add_mul,Nat.one_mul]) (by omega) hcs.2
theorem BfE {f:bY} {a b:Arr} {m:Nat}:T (sP f a b) (Res m):=by
 unfold sP
 refine T.bind (Al1 (by unfold Few; simp)) (λe he=>?_)
 refine T.ite (λh=>T.ret (Res.err (fK h))) (λh=>?_)
 have ha:Val 0 a:=he (dR h) a (by simp)
 have hb:Val 0 b:=he (dR h) b (by simp)
 have ra:=ha.i.sized; have rb:=hb.i.sized
 refine T.bind (AgR ra.rank) (λc hc=>?_)
 subst hc
 have r1:=ra.rank; have r2:=rb.rank
 refine T.bind (T.val (v:=a.shape++b.shape) (by unfold BfF afrz lapp; rw[if_pos rfl]; simp; omega) (Q:=λv=>v=a.shape++b.shape) rfl) (λl hl=>?_)
 subst hl
 refine T.bind (T.val (zJ _) (Q:=λv=>v=kV (a.shape++b.shape)) rfl) (λsz hsz=>?_)
 subst hsz
 refine T.ite (λh=>T.ret (Res.err (fK h))) (λh=>?_)
 have hS:=tZ (dR h)
 have hp:=hS.prod
 rw[fQ,ra.prod,rb.prod] at hp
 have hp':((a.cells.length*b.cells.length:Nat):Int)=(kV (a.shape++b.shape)).1:=by rw[←hp]; simp
 have hle:=hS.hi
 refine T.bind (AnN ha hb (by omega) a.cells 0 [] rfl (by simp) (by omega) (by simp)) (λv hvv=>?_)
 match v,hvv with
 |.error r,h=>exact T.ret (λe=>absurd e h)
 |.ok cs,h=>
  refine T.ret (λ_=>Au5 (by rw[h.1,hp']; exact hS) ?_ h.2)
  intro x hx
  rcases List.mem_append.1 hx with hx|hx
  ·exact ha.i.dims x hx
  exact hb.i.dims x hx
theorem AdG {n:Int} (h0:0<=n) (h1:n<=16384):mD [n] n:=⟨by simp,by simpa using h0,by simp[aR],h0,h1,λh d hd=>by simp only[List.mem_singleton] at hd; subst hd; omega⟩
theorem AsI:mD [] 1:=⟨by simp,by simp,rfl,by omega,by omega,by simp⟩
theorem ArX {a:Arr} {y3:aA} {n:Int} (hn:n<=16384):∀(d:Nat) (k:Nat) (out:List aA),(k:Int)+d=n->out.length=k->(∀c∈out,uI c)->T (jD (a,y3,n,(k:Int),out)) (λr=>(r.length:Int)=n/\∀c∈r,uI c)
 |0,k,out,h,ho,hc=>by
  rw[jD]
  refine T.ite (λh'=>by simp at h'; omega) (λ_=>T.ret ⟨by omega,hc⟩)
 |d+1,k,out,h,ho,hc=>by
  rw[jD]
  refine T.ite (λ_=>?_) (λh'=>by simp at h'; omega)
  refine T.bind (dT (by simp; omega)) (λw hw=>?_)
  subst hw
  rw[show w64 ((k:Int)+1)=((k+1:Nat):Int) from by rw[aE (by omega) (by omega)]; rfl]
  refine ArX hn d (k+1) _ (by omega) (by simp[ho]) ?_
  intro x hx
  rcases List.mem_append.1 hx with hx|hx
  ·exact hc x hx
  simp only[List.mem_singleton] at hx; subst hx; exact .mk _
theorem xB {a:Arr} (hv:Val 0 a) (h:¬(a.shape.length:Int)>0):∃c,a.cells=[c]:=by
 have h0:a.shape=[]:=List.length_eq_zero_iff.1 (by omega)
 have:=hv.i.sized.prod
 rw[h0] at this
 simp only[aR] at this
 exact List.length_eq_one_iff.1 (by omega)
theorem Bi8 {a:Arr} {m:Nat} (hv:Val 0 a):T (rX a) (Res m):=by
 unfold rX
 refine T.ite (λ_=>T.ret (Res.err (by omega))) (λh=>?_)
 obtain⟨c,hc⟩:=xB hv (by simpa using h)
 rw[hc]
 refine T.bind (jK (Q:=λv=>v=c) rfl) (λy hy=>?_)
 subst hy
 refine T.ite (λ_=>T.ret (Res.err (by omega))) (λ_=>?_)
 refine T.bind (jK (Q:=λv=>v=y) rfl) (λy1 hy=>?_)
 subst hy
 refine T.ite (λ_=>T.ret (Res.err (by omega))) (λh0=>?_)
 refine T.bind (jK (Q:=λv=>v=y1) rfl) (λy2 hy=>?_)
 subst hy
 refine T.ite (λ_=>T.ret (Res.err (by omega))) (λh1=>?_)
 refine T.bind (jK (Q:=λv=>v=y2) rfl) (λy3 hy=>?_)
 subst hy
 have g0:0<=y3.n:=by simpa using h0
 have g1:y3.n<=16384:=by simpa using h1
 refine T.bind (jK (Q:=λv=>v=y3.n) rfl) (λy4 hy=>?_)
 subst hy
 refine T.bind (ArX g1 y3.n.toNat 0 [] (by omega) rfl (by simp)) (λr hr=>?_)
 exact T.ret (λ_=>Au5 (by rw[hr.1]; exact AdG g0 g1) (by simpa using g1) hr.2)
theorem AkS {a:Arr} {ax:Int} {l:List Int} (hf:Few l):∀(r:List Int) (k:Nat) (n:Int),l.drop k=r->hJ (a,ax,l,n,(k:Int))=some (dN n r)
 | [],k,n,h=>by
  rw[hJ]; simp only[bZ (cC h),fJ,if_false,dN]
 |d::r,k,n,h=>by
  rw[hJ]
  simp only[dH (cD h),if_true,bN h,oJ,bJ,bW h hf,dN]
  exact AkS hf r (k+1) _ (bC h)
theorem AmY {a:Arr} {s g at_:Int} (hs:0<s) (hat:0<=at_) (hN:at_+g*s<=a.cells.length) (hle:(a.cells.length:Int)<=16384):∀(d:Nat) (i:Int) (out:List aA),i+1=d->i<g->(out.length:Int)=at_+(g-1-i)*s->(∀c∈out,c∈a.cells) ->
  T (hO (a,s,g,at_,out,i)) (λr=>(r.length:Int)=at_+g*s/\∀c∈r,c∈a.cells)
 |0,i,out,h,hi,hl,hc=>by
  rw[hO]
  refine T.ite (λh'=>by simp at h'; omega) (λ_=>T.ret ⟨?_,hc⟩)
  rw[hl,show g-1-i=g from by omega]
 |d+1,i,out,h,hi,hl,hc=>by
  have h1:0<=i*s:=Int.mul_nonneg (by omega) (by omega)
  have h2:(i+1)*s<=g*s:=Int.mul_le_mul_of_nonneg_right (by omega) (by omega)
  have h3:i*s+s=(i+1)*s:=by rw[Int.add_mul,Int.one_mul]
  have h4:(g-1-i)*s+(i+1)*s=g*s:=by rw[←Int.add_mul]; congr 1; omega
  rw[hO]
  refine T.ite (λ_=>?_) (λh'=>by simp at h'; omega)
  have hs16:s<=16384:=by omega
  have hi16:i<=16384:=by
   have:=Int.mul_le_mul_of_nonneg_left (show (1:Int)<=s by omega) (show 0<=i by omega)
   omega
  rw[aE (x:=i*s) (by omega) (by omega),aE (x:=i+1) (by omega) (by omega),aE (x:=(i+1)*s) (by omega) (by omega),aE (x:=at_+i*s) (by omega) (by omega),aE (x:=at_+(i+1)*s) (by omega) (by omega)]
  refine T.bind (T.val (by unfold Af0; rw[if_pos (by omega)]) (Q:=λv=>(v.length:Int)=s/\∀c∈v,c∈a.cells) ⟨by simp; omega,λc hcc=>List.mem_of_mem_take (List.mem_of_mem_drop hcc)⟩) (λl1 hl1=>?_)
  have hg:0<=(g-1-i)*s:=Int.mul_nonneg (by omega) (by omega)
  refine T.bind (dT (by omega)) (λw hw=>?_)
  subst hw
  rw[aE (x:=i-1) (by omega) (by omega)]
  refine AmY hs hat hN hle d (i-1) _ (by omega) (by omega) ?_ ?_
  ·rw[List.length_append,show g-1-(i-1)=(g-1-i)+1 from by omega,Int.add_mul,Int.one_mul]; omega
  intro x hx
  rcases List.mem_append.1 hx with hx|hx
  ·exact hc x hx
  exact hl1.2 x hx
theorem AmX {a:Arr} {s g o:Int} (hs:0<s) (hg:0<g) (hN:o*(g*s)=a.cells.length) (hle:(a.cells.length:Int)<=16384):∀(d:Nat) (x:Int) (out:List aA),0<=x->x+d=o->(out.length:Int)=x*(g*s)->(∀c∈out,c∈a.cells) ->
  T (fP (a,s,g,out,x*(g*s))) (λr=>r.length=a.cells.length/\∀c∈r,c∈a.cells)
 |0,x,out,h0,hd,hl,hc=>by
  rw[fP]
  have:x*(g*s)=a.cells.length:=by rw[←hN]; congr 1; omega
  refine T.ite (λh'=>by simp at h'; omega) (λ_=>T.ret ⟨by omega,hc⟩)
 |d+1,x,out,h0,hd,hl,hc=>by
  have hB:0<g*s:=Int.mul_pos hg hs
  have h1:0<=x*(g*s):=Int.mul_nonneg h0 (by omega)
  have h2:(x+1)*(g*s)<=o*(g*s):=Int.mul_le_mul_of_nonneg_right (by omega) (by omega)
  have h3:(x+1)*(g*s)=x*(g*s)+g*s:=by rw[Int.add_mul,Int.one_mul]
  have hg16:g<=16384:=by
   have:=Int.mul_le_mul_of_nonneg_left (show (1:Int)<=s by omega) (show 0<=g by omega)
   rw[Int.mul_one] at this; omega
  rw[fP]
  refine T.ite (λ_=>?_) (λh'=>by simp at h'; omega)
  rw[aE (x:=g-1) (by omega) (by omega),aE (x:=g*s) (by omega) (by omega),aE (x:=x*(g*s)+g*s) (by omega) (by omega),←h3]
  refine T.bind (AmY hs h1 (by omega) hle g.toNat (g-1) out (by omega) (by omega) (by rw[hl,show g-1-(g-1)=(0:Int) from by omega]; omega) hc) (λr hr=>?_)
  exact AmX hs hg hN hle d (x+1) r (by omega) (by omega) (by rw[hr.1]; omega) hr.2
theorem AxS {a:Arr} {k:Nat} {m:Nat} (hv:Val 0 a) (hm:Cw m a.cells) (hk:k<a.shape.length\/a.shape=[]):T (p_layout_turned a (k:Int)) (λr=>Val 0 r/\Cw m r.cells):=by
 unfold p_layout_turned
 have hr:=hv.i.sized.rank
 refine T.ite (λ_=>T.ret ⟨hv,hm⟩) (λh0=>?_)
 have hk':k<a.shape.length:=by
  rcases hk with hk|hk
  ·exact hk
  rw[hk] at h0; simp at h0
 rw[show w64 ((k:Int)+1)=((k+1:Nat):Int) from by rw[aE (by omega) (by omega)]; rfl]
 refine T.bind (T.val (v:=a.shape.drop (k+1)) (by unfold lfrom; rw[if_pos (by omega)]; simp) (Q:=λv=>v=a.shape.drop (k+1)) rfl) (λl hl=>?_)
 subst hl
 refine T.bind (T.val (AkS (by unfold Few; simp; omega) (a.shape.drop (k+1)) 0 1 rfl) (Q:=λv=>v=dN 1 (a.shape.drop (k+1))) rfl) (λs hs=>?_)
 subst hs
 refine T.bind (T.val (fS hk') (Q:=λv=>v=a.shape[k]) rfl) (λg hg=>?_)
 subst hg
 have hz:=hv.i.sized
 have fin:∀cs:List aA,cs.length=a.cells.length->(∀c∈cs,c∈a.cells)->Val 0 (Arr.mk a.shape cs)/\Cw m (Arr.mk a.shape cs).cells:=λcs h1 h2=>frv hv hm (by rw[h1]; exact hz) hv.i.dims λc hc=>.inl (h2 c hc)
 by_cases hne:a.cells.length=0
 ·rw[fP]
  have:(decide ((0:Int)<(a.cells.length:Int)))=false:=by simp[hne]
  rw[this]
  exact T.bind (R:=λv=>v=[]) (T.ret rfl) (λv hv'=>by subst hv'; exact T.ret (fin [] (by simp[hne]) (by simp)))
 have e0:a.shape=a.shape.take k++([a.shape[k]]++a.shape.drop (k+1)):=by
  rw[List.singleton_append,←List.drop_eq_getElem_cons hk',List.take_append_drop]
 have hz':=hz
 rw[e0] at hz'
 obtain⟨p1,p2,p3,p4⟩:=oO hz' (by omega)
 obtain⟨q1,q2,q3,q4⟩:=oO p2 (by omega)
 have hp:=hz'.prod
 rw[fQ,fQ] at hp
 simp only[aR,Int.mul_one] at hp q1 q3
 rw[jO q2]
 have t:=AmX (a:=a) (s:=aR (a.shape.drop (k+1))) (g:=a.shape[k]) (o:=aR (a.shape.take k)) q4 q3 hp hz.hi (aR (a.shape.take k)).toNat 0 [] (by omega) (by omega) (by simp) (by simp)
 rw[Int.zero_mul] at t
 exact T.bind t (λr hr=>T.ret (fin r hr.1 hr.2))
theorem Bd6 (a:Arr):∀d,0<=d->Val (d+1) a->Val d a:=by
 refine Arr.ind (P:=λa=>∀d,0<=d->Val (d+1) a->Val d a) ?_ a
 intro sh cs ih d h0 hv
 have hi:=hv.i
 refine (AxZ.mk hi.sized hi.dims ?_).v
 intro c hc
 obtain⟨k,n,b⟩:=c
 rcases rJ (hi.cells _ hc) with ⟨h1,h2,h3,x,hb,hx⟩|⟨hb,hk⟩
 ·simp only[aA.kind,aA.n,aA.box] at h1 h2 hb
  subst h1; subst h2; subst hb
  have:=ih _ hc x (by simp[aA.box]) (d+1) (by omega) hx
  simp only[AcV,Bd5,List.length_singleton,and_self,if_true]
  rw[if_neg (by omega)]; exact this
 simp only[aA.kind,aA.n,aA.box] at hb hk
 subst hb
 simp[AcV,hk]
mutual
def dA:Arr->Nat
 |.mk _ cs=>dCs cs
def dCs:List aA->Nat
 | []=>0
 |c::r=>max (dC c) (dCs r)
def dC:aA->Nat
 |.mk _ _ b=>dB b
def dB:List Arr->Nat
 | []=>0
 |a::_=>1+dA a
end
theorem Bj3 (a:Arr):dA a=dCs a.cells:=by cases a; rfl
theorem AzP (c:aA):dC c=dB c.box:=by cases c; rfl
theorem AzQ {c:aA}:∀{l:List aA},c∈l->dC c<=dCs l
 |x::r,h=>by
  simp only[dCs]
  rcases List.mem_cons.1 h with rfl|h
  ·omega
  have:=AzQ h; omega
theorem Bd7 (a:Arr):∀d:Int,0<=d->Val d a->d+dA a<=7->Val (d+1) a:=by
 refine Arr.ind (P:=λa=>∀d:Int,0<=d->Val d a->d+dA a<=7->Val (d+1) a) ?_ a
 intro sh cs ih d h0 hv hd
 have hi:=hv.i
 refine (AxZ.mk hi.sized hi.dims ?_).v
 intro c hc
 have hdc:=AzQ (l:=cs) hc
 rw[Bj3] at hd
 simp only[Arr.cells] at hd
 obtain⟨k,n,b⟩:=c
 rcases rJ (hi.cells _ hc) with ⟨h1,h2,h3,x,hb,hx⟩|⟨hb,hk⟩
 ·simp only[aA.kind,aA.n,aA.box] at h1 h2 hb
  subst h1; subst h2; subst hb
  simp only[dC,dB] at hdc
  have:=ih _ hc x (by simp[aA.box]) (d+1) (by omega) hx (by omega)
  simp only[AcV,Bd5,List.length_singleton,and_self,if_true]
  rw[if_neg (by omega)]; exact this
 simp only[aA.kind,aA.n,aA.box] at hb hk
 subst hb
 simp[AcV,hk]
theorem Bd9 (a:Arr):∀d:Int,Val d a->d<=8->d+dA a<=8:=by
 refine Arr.ind (P:=λa=>∀d:Int,Val d a->d<=8->d+dA a<=8) ?_ a
 intro sh cs ih d hv h8
 have hi:=hv.i
 have key:∀l:List aA,(∀c∈l,c∈cs)->d+dCs l<=8:=by
  intro l
  induction l with
  |nil=>intro _; simp only[dCs]; omega
  |cons c r ihr=>
   intro hl
   have h1:=ihr λx hx=>hl x (by simp[hx])
   have hc:=hl c (by simp)
   have h2:d+dC c<=8:=by
    rcases rJ (hi.cells c hc) with ⟨_,_,h3,x,hb,hx⟩|⟨hb,_⟩
    ·have:=ih c hc x (by rw[hb]; simp) (d+1) hx (by omega)
     rw[AzP,hb]; simp only[dB]; omega
    rw[AzP,hb]; simp only[dB]; omega
   simp only[dCs]; omega
 exact key cs λ_ h=>h
theorem BhP (a:Arr):∀d:Int,0<=d->d<=8->Val d a->uP a=some (dA a:Int):=by
 refine Arr.ind (P:=λa=>∀d:Int,0<=d->d<=8->Val d a->uP a=some (dA a:Int)) ?_ a
 intro sh cs ih d h0 h8 hv
 have hi:=hv.i
 have l0:∀(r:List aA) (k:Nat) (n:Nat),cs.drop k=r->kC (.mk sh cs,(n:Int),(k:Int))=some ((max n (dCs r):Nat):Int):=by
  intro r
  induction r with
  |nil=>
   intro k n h
   rw[kC]
   simp only[show (Arr.mk sh cs).cells=cs from rfl,bZ (cC h),fJ,if_false,dCs]
   congr 2<;>omega
  |cons c r ihr=>
   intro k n h
   have hm:c∈cs:=List.mem_of_mem_drop (by rw[h]; simp)
   rw[kC]
   simp only[show (Arr.mk sh cs).cells=cs from rfl,dH (cD h),if_true,bN h,oJ,bJ,bW h hv.fewc]
   rcases rJ (hi.cells c hm) with ⟨_,_,h3,b,hb,hx⟩|⟨hb,_⟩
   ·have h4:=ih c hm b (by rw[hb]; simp) (d+1) (by omega) (by omega) hx
    have h5:=Bd9 b _ hx (by omega)
    have hdc:dC c=1+dA b:=by rw[AzP,hb]; rfl
    simp only[hb,List.length_singleton,show lget [b] (0:Int)=some b from rfl,h4,bJ]
    rw[if_pos (by decide),aE (by omega) (by omega)]
    simp only[bJ]
    rw[show (if (n:Int)<1+(dA b:Int) then 1+(dA b:Int) else (n:Int))=((max n (dC c):Nat):Int) from by rw[hdc]; split<;>omega]
    rw[ihr (k+1) _ (bC h)]
    simp only[dCs]; congr 2<;>omega
   have hdc:dC c=0:=by rw[AzP,hb]; rfl
   simp only[hb,List.length_nil]
   rw[if_neg (by decide)]
   simp only[bJ]
   rw[ihr (k+1) _ (bC h)]
   simp only[dCs]; congr 2<;>omega
 rw[uP]
 rw[show kC (Arr.mk sh cs,0,0)=_ from l0 cs 0 0 rfl]
 simp only[oJ,bJ,dA]
 congr 2<;>omega
end Go.AM.Seat
namespace Go.AM.Seat
open Go Go.AM
structure At (s at_:List Int):Prop where
 len:at_.length=s.length
 all:∀k d,s[k]?=some d->∃v,at_[s.length-1-k]?=some v/\0<=v/\v<d
theorem At.put {s at_:List Int} {i:Nat} {d v:Int} (h:At s at_) (hi:i<s.length) (hd:s[s.length-1-i]?=some d) (h0:0<=v) (h1:v<d):At s (at_.set i v):=by
 refine⟨by simp[h.len],?_⟩
 intro k e he
 have hk:k<s.length:=(List.getElem?_eq_some_iff.1 he).1
 by_cases hc:s.length-1-k=i
 ·refine⟨v,by rw[hc,List.getElem?_set_self (by rw[h.len]; exact hi)],h0,?_⟩
  rw[show s.length-1-i=k by omega] at hd
  rw[hd] at he; cases he; exact h1
 obtain⟨w,g1,g2⟩:=h.all k e he
 exact⟨w,by rw[List.getElem?_set_ne (Ne.symm hc)]; exact g1,g2⟩
theorem uA {m:Int} {n:Nat} (h0:0<=m) (h1:m.toNat<n):aidx m n=some m.toNat:=by unfold aidx; rw[if_pos ⟨h0,h1⟩]
theorem AsA:∀{l:List Int},(∀d∈l,0<d)->0<aR l
 | [],_=>by simp[aR]
 |d::r,h=>Int.mul_pos (h d (by simp)) (AsA λx hx=>h x (by simp[hx]))
theorem Ak2 {a:Arr} {x1 at_:List Int} {x2:Int} {out:List aA} (hs:a.shape.length<=8) (hd:∀d∈a.shape,0<d) (hA:At a.shape at_) :
  ∀(r:List Int) (k:Nat) (n P:Int),a.shape.drop k=r->0<=n->n<P->P*aR r<=16384->T (gF (a,a.shape.length,x1,x2,at_,out,n,(k:Int))) (λv=>0<=v/\v<P*aR r)
 | [],k,n,P,h,h0,h1,h2=>by
  rw[gF]
  have:=cC h
  refine T.ite (λh'=>by simp at h'; omega) (λ_=>T.ret ⟨h0,by simpa[aR] using h1⟩)
 |d::r,k,n,P,h,h0,h1,h2=>by
  rw[gF]
  have hk:=cD h
  have hdk:a.shape[k]?=some d:=by
   rw[List.drop_eq_getElem_cons (by omega)] at h
   obtain⟨h,_⟩:=List.cons.inj h
   rw[←h]; simp[show k<a.shape.length by omega]
  have hd0:0<d:=hd d (List.mem_of_getElem? hdk)
  obtain⟨v,e1,e2,e3⟩:=hA.all k d hdk
  have pr:0<aR r:=AsA λx hx=>hd x (List.mem_of_mem_drop (i:=k) (by rw[h]; simp[hx]))
  simp only[aR] at h2 ⊢
  have hPd:P*d<=16384:=by
   have:P*d*1<=P*d*aR r:=Int.mul_le_mul_of_nonneg_left (by omega) (Int.mul_nonneg (by omega) (by omega))
   rw[Int.mul_one,Int.mul_assoc] at this; omega
  have hn1:n*d+v<P*d:=by
   have:(n+1)*d<=P*d:=Int.mul_le_mul_of_nonneg_right (by omega) (by omega)
   rw[Int.add_mul,Int.one_mul] at this; omega
  have hn0:0<=n*d:=Int.mul_nonneg h0 (by omega)
  simp only[Int.toNat_natCast,dH hk,if_true,bN h,oJ,bJ,bW h (by unfold Few; omega)]
  rw[aE (x:=(a.shape.length:Int)-1) (by omega) (by omega),aE (x:=(a.shape.length:Int)-1-(k:Int)) (by omega) (by omega),uA (by omega) (by omega)]
  simp only[bJ]
  rw[show ((a.shape.length:Int)-1-(k:Int)).toNat=a.shape.length-1-k by omega,show pQ at_ (a.shape.length-1-k)=some v from e1]
  simp only[bJ]
  rw[aE (x:=n*d) (by omega) (by omega),aE (x:=n*d+v) (by omega) (by omega)]
  have t:=Ak2 (x1:=x1) (x2:=x2) (out:=out) hs hd hA r (k+1) (n*d+v) (P*d) (bC h) (by omega) hn1 (by rw[Int.mul_assoc]; exact h2)
  rw[Int.mul_assoc] at t
  exact t
theorem Ak3 {a:Arr} {x2:Int} {out:List aA} (hs:a.shape.length<=8) (hd:∀d∈a.shape,0<d/\d<=16384):∀(n:Nat) (i:Int) (at_:List Int),i+1=n->n<=a.shape.length->At a.shape at_ ->
  T (p_layout_flipped_l2 (a,a.shape.length,a.shape.reverse,x2,out,i,at_)) (λr=>match r with|.error v=>At a.shape v|.ok v=>At a.shape v)
 |0,i,at_,h,hi,hA=>by
  rw[p_layout_flipped_l2]
  exact T.ite (λh'=>by simp at h'; omega) (λ_=>T.ret hA)
 |n+1,i,at_,h,hi,hA=>by
  rw[p_layout_flipped_l2]
  obtain rfl:i=(n:Int):=by omega
  have hn:n<a.shape.length:=by omega
  have hk:a.shape.length-1-n<a.shape.length:=by omega
  have e0:a.shape[a.shape.length-1-n]?=some a.shape[a.shape.length-1-n]:=List.getElem?_eq_getElem hk
  have hdd:=hd _ (List.getElem_mem hk)
  generalize a.shape[a.shape.length-1-n]=d at e0 hdd
  obtain⟨v,e1,e2,e3⟩:=hA.all _ d e0
  rw[show a.shape.length-1-(a.shape.length-1-n)=n by omega] at e1
  refine T.ite (λ_=>?_) (λh'=>by simp at h')
  have a0:aidx (n:Int) a.shape.length=some n:=uA (by omega) (by simpa using hn)
  have a1:pQ at_ n=some v:=e1
  have a2:∀w:Int,aset at_ n w=some (at_.set n w):=λw=>by unfold aset; rw[if_pos (by rw[hA.len]; exact hn)]
  have a3:∀w:Int,pQ (at_.set n w) n=some w:=λw=>by unfold pQ; rw[List.getElem?_set_self (by rw[hA.len]; exact hn)]
  have a4:pQ a.shape.reverse n=some d:=by unfold pQ; rw[List.getElem?_reverse hn]; exact e0
  have a5:∀w u:Int,aset (at_.set n w) n u=some (at_.set n u):=λw u=>by unfold aset; rw[if_pos (by rw[List.length_set,hA.len]; exact hn),List.set_set]
  simp only[Int.toNat_natCast,oJ,bJ,a0,a1,a2,a3,a4,a5]
  rw[aE (x:=v+1) (by omega) (by omega),aE (x:=(n:Int)-1) (by omega) (by omega)]
  refine T.ite (λh'=>?_) (λ_=>?_)
  ·exact T.ret (hA.put hn e0 (by omega) (by simpa using h'))
  exact Ak3 hs hd n _ _ (by omega) (by omega) (hA.put hn e0 (by omega) hdd.1)
theorem Ak1 {a:Arr} (hv:Val 0 a) (hne:a.cells.length≠0):∀(d:Nat) (k:Int) (at_:List Int) (out:List aA),0<=k->k+d=a.cells.length->At a.shape at_->(out.length:Int)=k->(∀c∈out,c∈a.cells) ->
  T (fA (a,a.shape.length,a.shape.reverse,k,at_,out)) (λr=>r.2.length=a.cells.length/\∀c∈r.2,c∈a.cells)
 |0,k,at_,out,h0,hd,hA,ho,hc=>by
  rw[fA]
  exact T.ite (λh'=>by simp at h'; omega) (λ_=>T.ret ⟨by simp only; omega,hc⟩)
 |d+1,k,at_,out,h0,hd,hA,ho,hc=>by
  have hz:=hv.i.sized
  have hdm:=hz.dim (by omega)
  have hle:=hz.hi
  rw[fA]
  refine T.ite (λ_=>?_) (λh'=>by simp at h'; omega)
  refine T.bind (R:=λr=>At a.shape r.1/\r.2.length=out.length+1/\∀c∈r.2,c∈a.cells) ?_ (λr hr=>?_)
  ·refine T.bind (Ak2 hz.rank (λd h=>(hdm d h).1) hA a.shape 0 0 1 rfl (by omega) (by omega) (by rw[hz.prod]; omega)) (λn hn=>?_)
   rw[Int.one_mul,hz.prod] at hn
   refine T.bind (T.lget hn.1 hn.2 (Q:=λv=>v∈a.cells) λv h=>List.mem_of_getElem? h) (λc hcm=>?_)
   refine T.bind (dT (by simp; omega)) (λl hl=>?_)
   subst hl
   rw[show w64 (((Int.toNat (a.shape.length:Int)):Int)-1)=(a.shape.length:Int)-1 from by have:=hz.rank; rw[Int.toNat_natCast,aE (by omega) (by omega)]]
   have fin:∀c'∈out++[c],c'∈a.cells:=by
    intro c' h
    rcases List.mem_append.1 h with h|h
    ·exact hc c' h
    simp only[List.mem_singleton] at h; subst h; exact hcm
   refine T.bind (Ak3 hz.rank hdm a.shape.length _ at_ (by omega) (by omega) hA) (λv hv'=>?_)
   match v,hv' with
   |.error v,h=>exact T.ret ⟨h,by simp,fin⟩
   |.ok v,h=>exact T.ret ⟨h,by simp,fin⟩
  obtain⟨r1,r2⟩:=r
  obtain⟨g1,g2,g3⟩:=hr
  rw[Ae2 h0 (by omega)]
  exact Ak1 hv hne d (k+1) r1 r2 (by omega) (by omega) g1 (by simp only at g2; omega) g3
theorem BbJ {a:Arr} {m:Nat} (hv:Val 0 a) (hm:Cw m a.cells):T (pD a) (λr=>Val 0 r/\Cw m r.cells):=by
 unfold pD
 have hz:=hv.i.sized
 have hr:=hz.rank
 refine T.bind (AgR hr) (λx hx=>?_)
 subst hx
 refine T.bind (T.val (by unfold AaP; rw[if_pos (by omega)]) (Q:=λv=>v=a.shape.reverse) rfl) (λx1 hx=>?_)
 subst hx
 refine T.bind (T.val (by unfold mkarr; rw[if_pos (by omega)]) (Q:=λv=>v=List.replicate a.shape.length 0) (by simp)) (λat_ hat=>?_)
 subst hat
 have rz:∀{s:List Int} {n:Int},mD s n->mD s.reverse n:=by
  intro s n h
  have pr:∀l:List Int,aR l.reverse=aR l:=by
   intro l
   induction l with
   |nil=>rfl
   |cons d r ih=>rw[List.reverse_cons,fQ,ih]; simp only[aR,Int.mul_one]; exact Int.mul_comm _ _
  exact⟨by simpa using h.rank,λd hd=>h.pos d (by simpa using hd),by rw[pr]; exact h.prod,h.lo,h.hi,λhn d hd=>h.dim hn d (by simpa using hd)⟩
 have fin:∀cs:List aA,cs.length=a.cells.length->(∀c∈cs,c∈a.cells)->Val 0 (Arr.mk a.shape.reverse cs)/\Cw m (Arr.mk a.shape.reverse cs).cells:=
  fun cs h1 h2=>frv hv hm (by rw[h1]; exact rz hz) (λd hd=>hv.i.dims d (by simpa using hd)) λc hc=>.inl (h2 c hc)
 refine T.bind (R:=λr=>r.2.length=a.cells.length/\∀c∈r.2,c∈a.cells) ?_ (λr hr=>?_)
 ·by_cases hne:a.cells.length=0
  ·rw[fA]
   exact T.ite (λh'=>by simp[hne] at h') (λ_=>T.ret ⟨by simp[hne],by simp⟩)
  ·refine Ak1 hv hne a.cells.length 0 _ [] (by omega) (by omega) ⟨by simp,?_⟩ (by simp) (by simp)
   intro k d hk
   have hk':k<a.shape.length:=(List.getElem?_eq_some_iff.1 hk).1
   exact⟨0,by rw[List.getElem?_replicate,if_pos (by omega)],by omega,(hz.dim (by omega) d (List.mem_of_getElem? hk)).1⟩
 exact T.bind (uJ (by simp)) (λsh hsh=>by subst hsh; exact T.ret (fin r.2 hr.1 hr.2))
theorem BiH {a:Arr} {m:Nat} (hv:Val 0 a) (hm:Cw m a.cells):T (tP a) (Res m):=by
 unfold tP
 refine T.ite (λ_=>T.ret (Res.err (by omega))) (λh=>?_)
 obtain⟨c,hc⟩:=xB hv (by simpa using h)
 have hcm:c∈a.cells:=by rw[hc]; simp
 rw[hc]
 refine T.bind (jK (Q:=λv=>v=c) rfl) (λy hy=>?_)
 subst hy
 refine T.ite (λh2=>?_) (λ_=>T.ret λ_=>⟨hv,hm⟩)
 refine T.bind (jK (Q:=λv=>v=y) rfl) (λy1 hy=>?_)
 subst hy
 rcases rJ (hv.i.cells _ hcm) with ⟨_,_,h8,b,hb,hvb⟩|⟨_,hk⟩
 ·rw[hb]
  refine T.bind (jK (Q:=λv=>v=b) rfl) (λy2 hy=>?_)
  subst hy
  refine T.ret λ_=>⟨Bd6 _ 0 (by omega) hvb,λc hc'=>?_⟩
  have h1:=hm _ hcm
  rw[AxV,hb] at h1
  simp only[wB] at h1
  rw[AxU,An0] at h1
  have h2:wC c<=bCs y2.cells:=AnC hc'
  omega
 have h2:y1.kind=2:=by simpa using h2
 rcases hk with hk|hk<;>omega
theorem mC:∀{l:List Int},(∀d∈l,0<=d)->0<=aR l
 | [],_=>by simp[aR]
 |d::r,h=>Int.mul_nonneg (h d (by simp)) (mC λx hx=>h x (by simp[hx]))
theorem BfU {a:Arr} {m:Nat} (hv:Val 0 a) (hm:Cw m a.cells):T (rW a) (Res m):=by
 unfold rW
 refine T.ite (λ_=>T.ret λ_=>⟨hv,hm⟩) (λh=>?_)
 have hz:=hv.i.sized
 have hdm:=hv.i.dims
 cases hs:a.shape with
 |nil=>rw[hs] at h; simp at h
 |cons d r=>
  rw[hs] at hz hdm
  refine T.bind (jK (Q:=λv=>v=d) rfl) (λy hy=>?_)
  subst hy
  refine T.ite (λ_=>T.ret (Res.err (by omega))) (λh0=>?_)
  have h0:y≠0:=by simpa using h0
  have hy0:=hz.pos y (by simp)
  have hy:0<y:=by omega
  have hp:=hz.prod
  simp only[aR] at hp
  have hq:(a.cells.length:Int) / y=aR r:=by rw[←hp]; exact Int.mul_ediv_cancel_left _ h0
  have hr0:0<=aR r:=mC λx hx=>hz.pos x (by simp[hx])
  have hrle:aR r<=a.cells.length:=by
   rw[←hp]
   have:1*aR r<=y*aR r:=Int.mul_le_mul_of_nonneg_right (by omega) hr0
   omega
  have hle:=hz.hi
  refine T.bind (T.lfrom (Q:=λv=>v=r) (by omega) (by simp; omega) (by simp)) (λl hl=>?_)
  subst hl
  refine T.bind (jK (Q:=λv=>v=y) rfl) (λy1 hy1=>?_)
  subst hy1
  refine T.bind (T.val (Ap3 hy (by omega) (by omega)) (Q:=λv=>v=aR l) hq) (λq hq'=>?_)
  subst hq'
  refine T.bind (T.val (by unfold lto; rw[if_pos ⟨hr0,by omega⟩]) (Q:=λv=>v=a.cells.take (aR l).toNat) rfl) (λl1 hl1=>?_)
  subst hl1
  refine T.ret λ_=>frv hv hm ?_ (λx hx=>hdm x (by simp[hx])) (λc hc=>.inl (List.mem_of_mem_take hc))
  have hlen:((a.cells.take (aR l).toNat).length:Int)=aR l:=by rw[List.length_take]; omega
  rw[hlen]
  refine⟨by have:=hz.rank; simp at this; omega,λx hx=>hz.pos x (by simp[hx]),rfl,hr0,by omega,λhn x hx=>?_⟩
  have:(a.cells.length:Int)≠0:=by omega
  exact hz.dim this x (by simp[hx])
theorem AwJ {a:Arr} (hr:a.shape.length<=8):∀(r:List Int) (k:Nat) (out:List aA),a.shape.drop k=r->out.length=k->k<=a.shape.length->(∀c∈out,uI c) ->
  T (nA (a,(k:Int),out)) (λcs=>cs.length=a.shape.length/\∀c∈cs,uI c)
 | [],k,out,h,ho,hk,hc=>by
  rw[nA]
  simp only[bZ (cC h),fJ,if_false]
  have:=List.drop_eq_nil_iff.1 h
  exact T.ret ⟨by omega,hc⟩
 |d::r,k,out,h,ho,hk,hc=>by
  have hk':=cD h
  rw[nA]
  simp only[dH hk',if_true,bN h,oJ,bJ,bW h (by unfold Few; omega)]
  refine T.bind (dT (by simp; omega)) (λv hv'=>?_)
  subst hv'
  refine AwJ hr r (k+1) _ (bC h) (by simp[ho]) (by omega) ?_
  intro x hx
  rcases List.mem_append.1 hx with hx|hx
  ·exact hc x hx
  simp only[List.mem_singleton] at hx; subst hx; exact .mk _
theorem BgL (a:Arr):T (rY a) Any:=by
 unfold rY
 refine T.ite (λ_=>T.any) (λh=>?_)
 cases hs:a.shape with
 |nil=>rw[hs] at h; simp at h
 |cons d r=>exact T.bind (jK (Q:=Any) trivial) (λ_ _=>T.any)
theorem AyQ {op:Int} {a:Arr} {m:Nat} (hm:Cw m a.cells) (hw:wA a<=m):T (yL op a) (Res m):=by
 unfold yL
 refine T.bind (T.val (qG a) (Q:=λv=>v=AeZ a 0) rfl) (λe he=>?_)
 subst he
 refine T.ite (λhe=>T.ret (Res.err (fK he))) (λhe=>?_)
 have hv:Val 0 a:=dR he
 have hz:=hv.i.sized
 have hle:=hz.hi
 have hrk:=hz.rank
 refine T.bind (T.val (sE a 0 hv) (Q:=λv=>v=a) rfl) (λx hx=>?_)
 subst hx
 refine T.ite (λ_=>T.bind (Bi8 hv) (λr hr=>T.ret hr)) (λ_=>?_)
 refine T.ite (λ_=>?_) (λ_=>?_)
 ·refine T.bind (AwJ hrk x.shape 0 [] rfl rfl (by omega) (by simp)) (λcs hcs=>?_)
  exact T.ret λ_=>Au5 (by rw[hcs.1]; exact AdG (by omega) (by omega)) (by simp; omega) hcs.2
 refine T.ite (λ_=>?_) (λ_=>?_)
 ·refine T.bind (BgL x) (λv _=>?_)
  unfold Ae8
  exact T.bind (T.ret (Q:=λv=>∃n,v=Arr.mk [] [aA.mk 0 n []]) ⟨_,rfl⟩) (λw hw'=>by
   obtain⟨n,rfl⟩:=hw'
   exact T.ret λ_=>Au5 AsI (by simp) (by intro c hc; simp only[List.mem_singleton] at hc; subst hc; exact .mk _))
 refine T.ite (λ_=>?_) (λ_=>?_)
 ·exact T.ret λ_=>frv hv hm (AdG (by omega) hle) (by simp; omega) λc hc=>.inl hc
 refine T.ite (λ_=>?_) (λ_=>?_)
 ·refine T.bind (AxS (k:=0) hv hm ?_) (λr hr=>T.ret λ_=>hr)
  cases hs:x.shape with
  |nil=>exact .inr rfl
  |cons d r=>exact .inl (by simp)
 refine T.ite (λ_=>?_) (λ_=>?_)
 ·rcases Nat.eq_zero_or_pos x.shape.length with h0|h0
  ·unfold p_layout_turned
   refine T.bind (T.ite (λ_=>T.ret (Q:=λr=>Val 0 r/\Cw m r.cells) ⟨hv,hm⟩) (λh=>?_)) (λr hr=>T.ret λ_=>hr)
   simp[h0] at h
  ·rw[show w64 ((x.shape.length:Int)-1)=((x.shape.length-1:Nat):Int) from by rw[aE (by omega) (by omega)]; omega]
   exact T.bind (AxS (k:=x.shape.length-1) hv hm (.inl (by omega))) (λr hr=>T.ret λ_=>hr)
 refine T.ite (λ_=>T.bind (BbJ hv hm) (λr hr=>T.ret λ_=>hr)) (λ_=>?_)
 refine T.ite (λ_=>?_) (λ_=>?_)
 ·refine T.bind (T.val (BhP x 0 (by omega) (by omega) hv) (Q:=λv=>v=(dA x:Int)) rfl) (λv hv'=>?_)
  subst hv'
  refine T.ite (λ_=>T.ret (Res.err (by omega))) (λh=>?_)
  have hd:dA x<8:=Int.ofNat_lt.1 (by simpa using h)
  have h1:=Bd7 x 0 (by omega) hv (by omega)
  refine T.ret λ_=>⟨AlU AsI (by simp) ?_,?_⟩
  ·intro c hc
   simp only[List.mem_singleton] at hc
   subst hc
   simp only[AcV,List.length_singleton,and_self,if_true]
   rw[if_neg (by omega)]
   exact h1
  intro c hc
  rw[List.mem_singleton.1 hc]
  simp only[wC,wB]; omega
 refine T.ite (λ_=>T.bind (BiH hv hm) (λr hr=>T.ret hr)) (λ_=>?_)
 refine T.ite (λ_=>T.bind (BfU hv hm) (λr hr=>T.ret hr)) (λ_=>?_)
 refine T.ite (λ_=>?_) (λ_=>T.ret (Res.err (by omega)))
 refine T.ite (λ_=>T.ret (Res.err (by omega))) (λh=>?_)
 have h7:x.shape.length<8:=by simp at h; omega
 refine T.bind (dT (by simp; omega)) (λl hl=>?_)
 subst hl
 refine T.ret λ_=>frv hv hm ?_ ?_ λc hc=>.inl hc
 ·refine⟨by simp; omega,?_,by simp only[List.singleton_append,aR,Int.one_mul]; exact hz.prod,hz.lo,hz.hi,?_⟩
  ·intro d hd
   rcases List.mem_cons.1 hd with rfl|hd
   ·omega
   exact hz.pos d hd
  ·intro hn d hd
   rcases List.mem_cons.1 hd with rfl|hd
   ·omega
   exact hz.dim hn d hd
 intro d hd
 rcases List.mem_cons.1 hd with rfl|hd
 ·omega
 exact hv.i.dims d hd
theorem AuO {l:List Int} (hf:Few l):∀(r:List Int) (k:Nat) (n:Int),l.drop k=r->(∀x∈l.take k,x<=n)->T (gG (l,n,(k:Int))) (λm=>∀x∈l,x<=m)
 | [],k,n,h,hn=>by
  rw[gG]
  simp only[bZ (cC h),fJ,if_false]
  have:=List.drop_eq_nil_iff.1 h
  rw[List.take_of_length_le this] at hn
  exact T.ret hn
 |d::r,k,n,h,hn=>by
  have hk:=cD h
  rw[gG]
  simp only[dH hk,if_true,bN h,oJ,bJ,bW h hf]
  refine AuO hf r (k+1) _ (bC h) ?_
  intro x hx
  rw[List.take_add_one,List.mem_append] at hx
  have hd:l[k]?=some d:=by
   rw[List.drop_eq_getElem_cons (by omega)] at h
   obtain⟨h,_⟩:=List.cons.inj h
   rw[←h]; simp[show k<l.length by omega]
  rcases hx with hx|hx
  ·have:=hn x hx
   split<;>omega
  rw[hd] at hx
  simp only[Option.toList_some,List.mem_singleton] at hx
  subst hx
  split<;>omega
theorem BiT {l:List Int} (hf:Few l) (h:0<l.length):T (pH l) (λm=>∀x∈l,x<=m):=by
 unfold pH
 rw[if_neg (by simp; omega)]
 cases hl:l with
 |nil=>rw[hl] at h; simp at h
 |cons d r=>
  refine T.bind (jK (Q:=λv=>v=d) rfl) (λy hy=>?_)
  subst hy
  rw[hl] at hf
  exact T.bind (AuO hf r 1 y rfl (by simp)) (λm hm=>T.ret hm)
theorem An1 {s:Arr} (hl:s.cells.length<=16384):∀(r:List aA) (k:Nat) (out:List Int),s.cells.drop k=r->out.length=k->k<=s.cells.length ->
  T (hU (s,out,(k:Int))) (λr=>match r with|.error r=>r.2≠0|.ok l=>l.length=s.cells.length)
 | [],k,out,h,ho,hk=>by
  rw[hU]
  simp only[bZ (cC h),fJ,if_false]
  have:=List.drop_eq_nil_iff.1 h
  exact T.ret (by simp only; omega)
 |c::r,k,out,h,ho,hk=>by
  have hk':=cD h
  rw[hU]
  simp only[dH hk',if_true,bN h,oJ,bJ,bW h (by unfold Few; omega)]
  refine T.ite (λ_=>T.ret (by simp)) (λ_=>T.ite (λ_=>T.ret (by simp)) (λ_=>?_))
  refine T.bind (dT (by simp; omega)) (λv hv'=>?_)
  subst hv'
  exact An1 hl r (k+1) _ (bC h) (by simp[ho]) (by omega)
theorem BeW {s:Arr} (hv:Val 0 s):T (qP s) (λr=>r.2=0->∀x∈r.1,x<=16384):=by
 unfold qP
 have hle:=hv.i.sized.hi
 refine T.ite (λ_=>T.ret (λh=>by simp at h)) (λ_=>?_)
 refine T.bind (T.val (by unfold mkcap; rw[if_pos (by omega)]) (Q:=Any) trivial) (λ_ _=>?_)
 refine T.bind (An1 (by omega) s.cells 0 [] rfl rfl (by omega)) (λv hv'=>?_)
 match v,hv' with
 |.error r,h=>exact T.ret (λh'=>absurd h' h)
 |.ok l,h=>
  have h:l.length=s.cells.length:=h
  refine T.ite (λ_=>T.ret (λh=>by simp at h)) (λh8=>?_)
  have h8:l.length<=8:=by simp at h8; omega
  refine T.bind (dT (by simp; omega)) (λl1 hl1=>?_)
  subst hl1
  refine T.bind (BiT (by unfold Few; simp; omega) (by simp)) (λm hm=>?_)
  refine T.ite (λ_=>T.ret (λh=>by simp at h)) (λh'=>?_)
  have h':m<=16384:=by simpa using h'
  exact T.ret λ_ x hx=>by have:=hm x (by simp[hx]); omega
theorem BgN {x n:Int} (hx:0<=x) (hn:0<n):0<=x.tmod n/\x.tmod n<n:=⟨Int.tmod_nonneg _ hx,Int.tmod_lt_of_pos _ hn⟩
theorem AjA {s a:Arr} {sh:List Int} {n:Int} (hn:n<=16384) (hne:a.cells.length≠0):∀(d:Nat) (x:Int) (out:List aA),0<=x->x+d=n->(out.length:Int)=x->(∀c∈out,c∈a.cells) ->
  T (gE (s,a,sh,n,x,out)) (λr=>(r.length:Int)=n/\∀c∈r,c∈a.cells)
 |0,x,out,h0,hd,hl,hc=>by
  rw[gE]
  exact T.ite (λh'=>by simp at h'; omega) (λ_=>T.ret ⟨by omega,hc⟩)
 |d+1,x,out,h0,hd,hl,hc=>by
  rw[gE]
  refine T.ite (λ_=>?_) (λh'=>by simp at h'; omega)
  have hm:=BgN (n:=(a.cells.length:Int)) h0 (by omega)
  refine T.bind (T.val (by unfold irem; rw[if_neg (by omega)]) (Q:=λv=>v=x.tmod a.cells.length) rfl) (λq hq=>?_)
  subst hq
  refine T.bind (T.lget hm.1 hm.2 (Q:=λv=>v∈a.cells) λv h=>List.mem_of_getElem? h) (λc hcm=>?_)
  refine T.bind (dT (by simp; omega)) (λv hv'=>?_)
  subst hv'
  rw[Ae2 h0 (by omega)]
  refine AjA hn hne d (x+1) _ (by omega) (by omega) (by simp; omega) ?_
  intro y hy
  rcases List.mem_append.1 hy with hy|hy
  ·exact hc y hy
  simp only[List.mem_singleton] at hy; subst hy; exact hcm
theorem BaT {s a:Arr} {m:Nat} (hm:Cw m a.cells):T (pC s a) (Res m):=by
 unfold pC
 refine T.bind (R:=λv=>match v with|.error r=>r.2≠0|.ok _=>Val 0 s/\Val 0 a) ?_ (λv hv=>?_)
 ·rw[gD]
  rw[if_pos (by simp)]
  refine T.bind (T.val (v:=s) rfl (Q:=λv=>v=s) rfl) (λy hy=>?_)
  subst hy
  refine T.bind (T.val (qG y) (Q:=λv=>v=AeZ y 0) rfl) (λe he=>?_)
  subst he
  refine T.ite (λhe=>T.ret (fK he)) (λhe1=>?_)
  rw[show w64 ((0:Int)+1)=1 from by rw[aE (by omega) (by omega)]; rfl]
  rw[gD]
  rw[if_pos (by simp)]
  refine T.bind (T.val (v:=a) rfl (Q:=λv=>v=a) rfl) (λz hz=>?_)
  subst hz
  refine T.bind (T.val (qG z) (Q:=λv=>v=AeZ z 0) rfl) (λe he=>?_)
  subst he
  refine T.ite (λhe=>T.ret (fK he)) (λhe2=>?_)
  rw[show w64 ((1:Int)+1)=2 from by rw[aE (by omega) (by omega)]; rfl]
  rw[gD]
  rw[if_neg (by simp)]
  exact T.ret ⟨dR he1,dR he2⟩
 match v,hv with
 |.error r,h=>exact T.ret λh'=>absurd h' h
 |.ok _,⟨hs,ha⟩=>
  refine T.bind (BeW hs) (λw hw=>?_)
  obtain⟨sh,e⟩:=w
  refine T.ite (λhe=>T.ret (Res.err (fK he))) (λhe=>?_)
  have hdm:=hw (dR he)
  refine T.bind (T.val (zJ sh) (Q:=λv=>v=kV sh) rfl) (λz hz=>?_)
  obtain⟨n,e2⟩:=z
  refine T.ite (λh=>T.ret (Res.err (fK h))) (λh=>?_)
  have hS:mD sh n:=by
   have h':e2=0:=dR h
   have:=tZ (s:=sh) (by rw[←hz]; exact h')
   rw[←hz] at this; exact this
  have fin:∀cs:List aA,(cs.length:Int)=n->(∀c∈cs,c∈a.cells)->Val 0 (Arr.mk sh cs)/\Cw m (Arr.mk sh cs).cells:=λcs h1 h2=>frv ha hm (by rw[h1]; exact hS) hdm λc hc=>.inl (h2 c hc)
  have l0:=hS.lo
  refine T.ite (λhn=>?_) (λhn=>?_)
  ·refine T.ite (λ_=>T.ret (Res.err (by omega))) (λhne=>?_)
   refine T.bind (AjA hS.hi (by
     have:(a.cells.length:Int)≠0:=by simpa using hne
     omega) n.toNat 0 [] (by omega) (by omega) (by simp) (by simp)) (λr hr=>?_)
   have hf:=fin r hr.1 hr.2
   exact T.bind (T.val (sE _ 0 hf.1) (Q:=λv=>v=Arr.mk sh r) rfl) (λv hv'=>by subst hv'; exact T.ret λ_=>hf)
  have hn:n=0:=by
   have:n<=0:=by simpa using hn
   omega
  rw[lP]
  rw[if_neg (by simp[hn])]
  refine T.bind (T.ret (Q:=λv=>v=[]) rfl) (λr hr=>?_)
  subst hr
  have hf:=fin [] (by simp[hn]) (by simp)
  exact T.bind (T.val (sE _ 0 hf.1) (Q:=λv=>v=Arr.mk sh []) rfl) (λv hv'=>by subst hv'; exact T.ret λ_=>hf)
theorem Ae6 {a b:Int}:T (p_arr_order_int a b) (λo=>o=0->a=b):=by
 unfold p_arr_order_int
 refine T.ite (λ_=>T.ret (by omega)) (λh1=>T.ite (λ_=>T.ret (by omega)) (λh2=>T.ret λ_=>?_))
 have h1:b<=a:=by simpa using h1
 have h2:a<=b:=by simpa using h2
 omega
theorem BbZ {a b:Int}:T (oD a b) Any:=by
 unfold oD
 exact T.ite (λ_=>T.any) (λ_=>T.ite (λ_=>T.any) (λ_=>T.any))
theorem Ar3 {c e:aA} (h:∀x∈c.box,∀y,T (xM (x,y)) Any):T (mS (c,e)) Any:=by
 rw[mS]
 refine T.bind Ae6 (λo _=>?_)
 refine T.ite (λ_=>T.any) (λ_=>?_)
 refine T.bind BbZ (λo1 _=>?_)
 refine T.ite (λ_=>T.ite (λ_=>T.bind Ae6 λ_ _=>T.any) (λ_=>T.any)) (λ_=>?_)
 refine T.ite (λ_=>T.ite (λ_=>T.bind Ae6 λ_ _=>T.any) (λ_=>T.any)) (λh1=>?_)
 refine T.ite (λ_=>T.ite (λ_=>T.bind Ae6 λ_ _=>T.any) (λ_=>T.any)) (λh2=>?_)
 cases hx:c.box with
 |nil=>rw[hx] at h1; simp at h1
 |cons x r=>
  cases hy:e.box with
  |nil=>rw[hy] at h2; simp at h2
  |cons y s=>
   refine T.bind (jK (Q:=λv=>v=x) rfl) (λv hv=>?_)
   refine T.bind (jK (Q:=λv=>v=y) rfl) (λw hw=>?_)
   subst hv
   exact T.bind (h v (by rw[hx]; simp) w) (λ_ _=>T.any)
theorem AqN {a b:Arr} (hr:a.shape.length<=8) (hb:b.shape.length=a.shape.length):∀(d:Nat) (k:Nat),k+d=a.shape.length->T (dK ((a.shape.length:Int),a,b,(k:Int))) Any
 |0,k,h=>by
  rw[dK]
  exact T.ite (λh'=>by simp at h'; omega) (λ_=>T.any)
 |d+1,k,h=>by
  rw[dK]
  refine T.ite (λ_=>?_) (λ_=>T.any)
  refine T.bind (R:=Any) ?_ (λo _=>T.ite (λ_=>T.any) (λ_=>?_))
  ·unfold Ac1
   refine T.bind (T.lget (Q:=Any) (by omega) (by omega) λ_ _=>trivial) (λ_ _=>?_)
   refine T.bind (T.lget (Q:=Any) (by omega) (by omega) λ_ _=>trivial) (λ_ _=>?_)
   exact T.bind Ae6 (λ_ _=>T.any)
  rw[aE (by omega) (by omega)]
  exact AqN hr hb d (k+1) (by omega)
theorem AqO {a b:Arr} {n:Nat} (hn:n<=a.cells.length) (hn2:n<=b.cells.length) (hl:a.cells.length<=16384) (hc:∀c∈a.cells,∀e,T (mS (c,e)) Any):∀(d:Nat) (k:Nat),k+d=n->T (dL ((n:Int),a,b,(k:Int))) Any
 |0,k,h=>by
  rw[dL]
  exact T.ite (λh'=>by simp at h'; omega) (λ_=>T.any)
 |d+1,k,h=>by
  rw[dL]
  refine T.ite (λ_=>?_) (λ_=>T.any)
  refine T.bind (R:=Any) ?_ (λo _=>T.ite (λ_=>T.any) (λ_=>?_))
  ·rw[Ac2]
   refine T.bind (T.lget (Q:=λv=>v∈a.cells) (by omega) (by omega) λ_ h=>List.mem_of_getElem? h) (λv hv=>?_)
   refine T.bind (T.lget (Q:=Any) (by omega) (by omega) λ_ _=>trivial) (λw _=>?_)
   exact T.bind (hc v hv w) (λ_ _=>T.any)
  rw[aE (by omega) (by omega)]
  exact AqO hn hn2 hl hc d (k+1) (by omega)
theorem BiQ (a:Arr):∀d,Val d a->∀b,T (xM (a,b)) Any:=by
 refine Arr.ind (P:=λa=>∀d,Val d a->∀b,T (xM (a,b)) Any) ?_ a
 intro sh cs ih d hv b
 have hz:=hv.i.sized
 have hr:=hz.rank
 have hl:(Arr.mk sh cs).cells.length<=16384:=by have:=hz.hi; omega
 have hc:∀c∈cs,∀e,T (mS (c,e)) Any:=λc hm e=>Ar3 λx hx=>by
  rcases rJ (hv.i.cells c hm) with ⟨_,_,_,z,hb,hvz⟩|⟨hb,_⟩
  ·rw[hb,List.mem_singleton] at hx
   subst hx
   exact ih c hm x (by rw[hb]; simp) _ hvz
  rw[hb] at hx; simp at hx
 rw[xM]
 refine T.bind Ae6 (λo ho=>T.ite (λ_=>T.any) (λh=>?_))
 have hs:=ho (dR h)
 refine T.bind (R:=Any) ?_ (λo1 _=>T.ite (λ_=>T.any) (λ_=>?_))
 ·unfold p_arr_Cmp_1__arr_Cmp_2
  refine T.bind (AqN hr (by omega) (Arr.mk sh cs).shape.length 0 (by omega)) (λv _=>?_)
  match v with
  |.error _=>exact T.any
  |.ok _=>exact T.any
 refine T.bind (R:=Any) ?_ (λo1 _=>T.ite (λ_=>T.any) (λ_=>T.bind Ae6 λ_ _=>T.any))
 rw[p_arr_Cmp_1__arr_Cmp_3]
 rw[show (if (b.cells.length:Int)<((Arr.mk sh cs).cells.length:Int) then (b.cells.length:Int) else ((Arr.mk sh cs).cells.length:Int))=((min b.cells.length (Arr.mk sh cs).cells.length:Nat):Int) from by split<;>omega]
 refine T.bind (AqO (by omega) (by omega) hl hc (min b.cells.length (Arr.mk sh cs).cells.length) 0 (by omega)) (λv _=>?_)
 match v with
 |.error _=>exact T.any
 |.ok _=>exact T.any
def BiR (c:aA):Prop:=∀e,T (mS (c,e)) Any
theorem Bj2 {d:Int} {c:aA} (h:AcV c d=0):BiR c:=λe=>Ar3 λx hx=>by
 rcases rJ h with ⟨_,_,_,z,hb,hvz⟩|⟨hb,_⟩
 ·rw[hb,List.mem_singleton] at hx
  subst hx
  exact BiQ x _ hvz
 rw[hb] at hx; simp at hx
structure An3 (r:List aA):Prop where
 len:r.length<=16384
 all:∀c∈r,BiR c
theorem AcT {s t:List aA} (hs:An3 s):∀(d:Nat) (k:Nat),k+d=s.length->T (bV (s,t,(k:Int))) Any
 |0,k,h=>by
  rw[bV]
  exact T.ite (λh'=>by simp at h'; omega) (λ_=>T.any)
 |d+1,k,h=>by
  have:=hs.len
  rw[bV]
  refine T.ite (λ_=>?_) (λ_=>T.any)
  refine T.bind (T.lget (Q:=λv=>v∈s) (by omega) (by omega) λ_ h=>List.mem_of_getElem? h) (λv hv=>?_)
  refine T.ite (λ_=>T.any) (λh2=>?_)
  have h2:(k:Int)<t.length:=by simpa using h2
  refine T.bind (T.lget (Q:=Any) (by omega) (by omega) λ_ _=>trivial) (λw _=>?_)
  refine T.bind (hs.all v hv w) (λo _=>T.ite (λ_=>T.any) (λ_=>?_))
  rw[aE (by omega) (by omega)]
  exact AcT hs d (k+1) (by omega)
theorem AhL {s t:List aA} (hs:An3 s):T (cG s t) Any:=by
 unfold cG
 refine T.bind (AcT hs s.length 0 (by omega)) (λv _=>?_)
 match v with
 |.error _=>exact T.any
 |.ok _=>exact T.ite (λ_=>T.any) (λ_=>T.any)
theorem Ak6 {i k:Int} {rows:List (List aA)} {down:Bool} (hr:∀r∈rows,An3 r) (h0:0<=i) (h1:i<rows.length) (h2:0<=k) (h3:k<rows.length):T (kO i k rows down) Any:=by
 unfold kO
 refine T.bind (T.lget (Q:=λv=>v∈rows) h0 h1 λ_ h=>List.mem_of_getElem? h) (λv hv=>?_)
 refine T.bind (T.lget (Q:=Any) h2 h3 λ_ _=>trivial) (λw _=>?_)
 exact T.bind (AhL (hr v hv)) (λ_ _=>T.ite (λ_=>T.any) (λ_=>T.any))
structure Dt (n R:Nat) (l:List Int):Prop where
 len:l.length=n
 all:∀v∈l,0<=v/\v<R
section
variable {n R:Nat} {l:List Int}
theorem oQ {x:Int} (h0:0<=x) (h1:x<n):T (aidx x n) (λj=>(j:Int)=x/\j<n):=⟨_,uA h0 (by omega),by omega,by omega⟩
theorem Dt.get (h:Dt n R l) {j:Nat} (hj:j<n):T (pQ l j) (λv=>0<=v/\v<R):=by
 have hj':j<l.length:=by rw[h.len]; exact hj
 exact⟨l[j],by unfold pQ; simp[hj'],h.all _ (List.getElem_mem hj')⟩
theorem Dt.set (h:Dt n R l) {j:Nat} (hj:j<n) {v:Int} (hv:0<=v/\v<R):T (aset l j v) (Dt n R):=by
 refine⟨l.set j v,by unfold aset; rw[if_pos (by rw[h.len]; exact hj)],by simp[h.len],?_⟩
 intro w hw
 rcases List.mem_or_eq_of_mem_set hw with hw|rfl
 ·exact h.all w hw
 exact hv
end
theorem Ak8 {x:Int} (h0:0<=x) (h1:x<4611686018427387904):w64 (Int.fdiv (IntKind.u64.wrap (w64 x)) (2 ^ 1))=x / 2:=by
 rw[aE (x:=x) (by omega) (by omega)]
 have:IntKind.u64.wrap x=x:=by unfold IntKind.wrap; simp[IntKind.bits,IntKind.signed]; omega
 rw[this,Int.fdiv_eq_ediv_of_nonneg _ (by omega)]
 exact aE (by omega) (by omega)
section
variable {n:Nat} {rows:List (List aA)} {down:Bool} (hn:n<=16384) (hr:∀r∈rows,An3 r)
include hn hr
theorem AwD {a b i:Int} (ha:0<=a):∀(d:Nat) (j:Int) (l:List Int),j-a=d->j<n->Dt n rows.length l->T (aW (n,a,b,rows,down,i,j,l)) (Dt n rows.length)
 |0,j,l,h,hj,hl=>by
  rw[aW]
  exact T.ite (λh'=>by simp at h'; omega) (λ_=>T.ret hl)
 |d+1,j,l,h,hj,hl=>by
  rw[aW]
  rw[aE (x:=j-1) (by omega) (by omega)]
  refine T.ite (λ_=>?_) (λ_=>T.ret hl)
  refine T.bind (oQ (by omega) hj) (λj1 h1=>T.bind (hl.get h1.2) (λy hy=>?_))
  refine T.bind (oQ (by omega) (by omega)) (λj2 h2=>T.bind (hl.get h2.2) (λy1 hy1=>?_))
  refine T.bind (Ak6 hr hy.1 hy.2 hy1.1 hy1.2) (λx _=>T.ite (λ_=>?_) (λ_=>T.ret hl))
  refine T.bind (oQ (by omega) (by omega)) (λj3 h3=>T.bind (hl.get h3.2) (λy2 hy2=>?_))
  refine T.bind (oQ (by omega) hj) (λj4 h4=>T.bind (hl.get h4.2) (λy3 hy3=>?_))
  refine T.bind (oQ (by omega) hj) (λj5 h5=>T.bind (hl.set h5.2 hy2) (λl3 hl3=>?_))
  refine T.bind (oQ (by omega) (by omega)) (λj6 h6=>T.bind (hl3.set h6.2 hy3) (λl4 hl4=>?_))
  exact AwD ha d (j-1) l4 (by omega) (by omega) hl4
theorem AwC {a b:Int} (ha:0<=a) (hb:b<=n):∀(d:Nat) (i:Int) (l:List Int),a<=i->i+d=max b i->Dt n rows.length l->T (aV (n,a,b,rows,down,i,l)) (Dt n rows.length)
 |0,i,l,h0,h,hl=>by
  rw[aV]
  exact T.ite (λh'=>by simp at h'; omega) (λ_=>T.ret hl)
 |d+1,i,l,h0,h,hl=>by
  rw[aV]
  refine T.ite (λ_=>?_) (λ_=>T.ret hl)
  refine T.bind (AwD hn hr ha (i-a).toNat i l (by omega) (by omega) hl) (λl2 hl2=>?_)
  rw[aE (x:=i+1) (by omega) (by omega)]
  exact AwC ha hb d (i+1) l2 (by omega) (by omega) hl2
theorem Bh5 {a b:Int} {l:List Int} (ha:0<=a) (han:a<=n) (hb:b<=n) (hl:Dt n rows.length l):T (bO n a b l rows down) (Dt n rows.length):=by
 unfold bO
 rw[aE (x:=a+1) (by omega) (by omega)]
 exact T.bind (AwC hn hr ha hb (max b (a+1)-(a+1)).toNat (a+1) l (by omega) (by omega) hl) (λv hv=>T.ret hv)
omit hr in
theorem AsL {a b m:Int} (ha:0<=a) (hb:0<=b) (ha2:a+m<=n) (hb2:b+m<=n):∀(d:Nat) (i:Int) (l:List Int),0<=i->i+d=max m i->Dt n rows.length l->T (bB (n,a,b,m,rows,down,i,l)) (Dt n rows.length)
 |0,i,l,h0,h,hl=>by
  rw[bB]
  exact T.ite (λh'=>by simp at h'; omega) (λ_=>T.ret hl)
 |d+1,i,l,h0,h,hl=>by
  rw[bB]
  refine T.ite (λ_=>?_) (λ_=>T.ret hl)
  rw[aE (x:=b+i) (by omega) (by omega),aE (x:=a+i) (by omega) (by omega),aE (x:=i+1) (by omega) (by omega)]
  refine T.bind (oQ (by omega) (by omega)) (λj1 h1=>T.bind (hl.get h1.2) (λy hy=>?_))
  refine T.bind (oQ (by omega) (by omega)) (λj2 h2=>T.bind (hl.get h2.2) (λy1 hy1=>?_))
  refine T.bind (oQ (by omega) (by omega)) (λj5 h5=>T.bind (hl.set h5.2 hy) (λl3 hl3=>?_))
  refine T.bind (oQ (by omega) (by omega)) (λj6 h6=>T.bind (hl3.set h6.2 hy1) (λl4 hl4=>?_))
  exact AsL ha hb ha2 hb2 d (i+1) l4 (by omega) (by omega) hl4
omit hr in
theorem Az8 {a b m:Int} {l:List Int} (ha:0<=a) (hb:0<=b) (ha2:a+m<=n) (hb2:b+m<=n) (hl:Dt n rows.length l):T (bK n a b m l rows down) (Dt n rows.length):=by
 unfold bK
 exact T.bind (AsL hn ha hb ha2 hb2 (max m 0).toNat 0 l (by omega) (by omega) hl) (λv hv=>T.ret hv)
omit hr in
theorem ApN {m:Int}:∀(d:Nat) (i j:Int) (l:List Int),i+j<=d->1<=i->1<=j->i<=m->m+j<=n->Dt n rows.length l ->
  T (bF (n,m,rows,down,i,l,j)) (λr=>1<=r.1/\r.1<=m/\m+r.1<=n/\Dt n rows.length r.2)
 |0,i,j,l,h,h1,h2,h3,h4,hl=>by omega
 |d+1,i,j,l,h,h1,h2,h3,h4,hl=>by
  rw[bF]
  rw[aE (x:=m-i) (by omega) (by omega),aE (x:=m+j) (by omega) (by omega),aE (x:=m+j-i) (by omega) (by omega),aE (x:=i-j) (by omega) (by omega),aE (x:=j-i) (by omega) (by omega)]
  refine T.ite (λhne=>?_) (λhe=>?_)
  ·have hne:i≠j:=fK hne
   refine T.ite (λhgt=>?_) (λhgt=>?_)
   ·have hgt:i>j:=by simpa using hgt
    refine T.bind (Az8 hn (by omega) (by omega) (by omega) (by omega) hl) (λl2 hl2=>?_)
    exact ApN d (i-j) j l2 (by omega) (by omega) h2 (by omega) h4 hl2
   have hgt:i<=j:=by simpa using hgt
   refine T.bind (Az8 hn (by omega) (by omega) (by omega) (by omega) hl) (λl2 hl2=>?_)
   exact ApN d i (j-i) l2 (by omega) h1 (by omega) h3 (by omega) hl2
  have he:i=j:=dR he
  exact T.ret ⟨h1,h3,by simp only; omega,hl⟩
omit hr in
theorem BjG {a m b:Int} {l:List Int} (ha:0<=a) (h1:a<m) (h2:m<b) (hb:b<=n) (hl:Dt n rows.length l):T (cK n a m b l rows down) (Dt n rows.length):=by
 unfold cK
 rw[aE (x:=m-a) (by omega) (by omega),aE (x:=b-m) (by omega) (by omega)]
 refine T.bind (ApN hn (m-a+(b-m)).toNat (m-a) (b-m) l (by omega) (by omega) (by omega) (by omega) (by omega) hl) (λr hr=>?_)
 obtain⟨i,l2⟩:=r
 obtain⟨g1,g2,g3,g4⟩:=hr
 simp only at g1 g2 g3 g4 ⊢
 rw[aE (x:=m-i) (by omega) (by omega)]
 exact T.bind (Az8 hn (by omega) (by omega) (by omega) (by omega) g4) (λv hv=>T.ret hv)
theorem AuC {a:Int} {l:List Int} (ha:0<=a) (han:a<n) (hl:Dt n rows.length l):∀(d:Nat) (i j:Int),j-i<=d->0<=i->i<=j->j<=n ->
  T (aL (n,a,l,rows,down,i,j)) (λr=>i<=r/\r<=j)
 |0,i,j,h,h0,h1,h2=>by
  rw[aL]
  exact T.ite (λh'=>by simp at h'; omega) (λ_=>T.ret ⟨by omega,by omega⟩)
 |d+1,i,j,h,h0,h1,h2=>by
  rw[aL]
  refine T.ite (λh'=>?_) (λ_=>T.ret ⟨by omega,by omega⟩)
  have h':i<j:=by simpa using h'
  rw[Ak8 (x:=i+j) (by omega) (by omega),aE (x:=(i+j) / 2+1) (by omega) (by omega)]
  refine T.bind (oQ (by omega) (by omega)) (λj1 h1=>T.bind (hl.get h1.2) (λy hy=>?_))
  refine T.bind (oQ (by omega) (by omega)) (λj2 h2=>T.bind (hl.get h2.2) (λy1 hy1=>?_))
  refine T.bind (Ak6 hr hy.1 hy.2 hy1.1 hy1.2) (λx _=>T.ite (λ_=>?_) (λ_=>?_))
  ·exact T.imp (AuC ha han hl d _ _ (by omega) (by omega) (by omega) (by omega)) (λr hr=>⟨by omega,by omega⟩)
  exact T.imp (AuC ha han hl d _ _ (by omega) (by omega) (by omega) (by omega)) (λr hr=>⟨by omega,by omega⟩)
theorem AuD {m:Int} {l:List Int} (ha:0<=m) (han:m<n) (hl:Dt n rows.length l):∀(d:Nat) (i j:Int),j-i<=d->0<=i->i<=j->j<=n ->
  T (aM (n,m,l,rows,down,i,j)) (λr=>i<=r/\r<=j)
 |0,i,j,h,h0,h1,h2=>by
  rw[aM]
  exact T.ite (λh'=>by simp at h'; omega) (λ_=>T.ret ⟨by omega,by omega⟩)
 |d+1,i,j,h,h0,h1,h2=>by
  rw[aM]
  refine T.ite (λh'=>?_) (λ_=>T.ret ⟨by omega,by omega⟩)
  have h':i<j:=by simpa using h'
  rw[Ak8 (x:=i+j) (by omega) (by omega),aE (x:=(i+j) / 2+1) (by omega) (by omega)]
  refine T.bind (oQ (by omega) (by omega)) (λj1 h1=>T.bind (hl.get h1.2) (λy hy=>?_))
  refine T.bind (oQ (by omega) (by omega)) (λj2 h2=>T.bind (hl.get h2.2) (λy1 hy1=>?_))
  refine T.bind (Ak6 hr hy.1 hy.2 hy1.1 hy1.2) (λx _=>T.ite (λ_=>?_) (λ_=>?_))
  ·exact T.imp (AuD ha han hl d _ _ (by omega) (by omega) (by omega) (by omega)) (λr hr=>⟨by omega,by omega⟩)
  exact T.imp (AuD ha han hl d _ _ (by omega) (by omega) (by omega) (by omega)) (λr hr=>⟨by omega,by omega⟩)
theorem AuE {a m b s0 r0:Int} {l:List Int} (ha:0<=a) (hm:0<=m) (hmn:m<=n) (hb:0<=b) (hbn:b<=n) (han:a<=n) (hl:Dt n rows.length l) (h00:0<=s0) (hr0:r0<=n) (hlo:r0<=(a+b) / 2+m) (hhi:(a+b) / 2+m-s0<=n):∀(d:Nat) (i j:Int),j-i<=d->s0<=i->i<=j->j<=r0 ->
  T (aN (n,a,m,b,l,rows,down,i,j)) (λr=>i<=r/\r<=j)
 |0,i,j,h,h0,h1,h2=>by
  rw[aN]
  exact T.ite (λh'=>by simp at h'; omega) (λ_=>T.ret ⟨by omega,by omega⟩)
 |d+1,i,j,h,h0,h1,h2=>by
  rw[aN]
  refine T.ite (λh'=>?_) (λ_=>T.ret ⟨by omega,by omega⟩)
  have h':i<j:=by simpa using h'
  rw[Ak8 (x:=i+j) (by omega) (by omega),Ak8 (x:=a+b) (by omega) (by omega),aE (x:=(i+j) / 2+1) (by omega) (by omega),aE (x:=(a+b) / 2+m) (by omega) (by omega),aE (x:=(a+b) / 2+m-1) (by omega) (by omega),aE (x:=(a+b) / 2+m-1-(i+j) / 2) (by omega) (by omega)]
  refine T.bind (oQ (by omega) (by omega)) (λj1 h1=>T.bind (hl.get h1.2) (λy hy=>?_))
  refine T.bind (oQ (by omega) (by omega)) (λj2 h2=>T.bind (hl.get h2.2) (λy1 hy1=>?_))
  refine T.bind (Ak6 hr hy.1 hy.2 hy1.1 hy1.2) (λx _=>T.ite (λ_=>?_) (λ_=>?_))
  ·exact T.imp (AuE ha hm hmn hb hbn han hl h00 hr0 hlo hhi d _ _ (by omega) (by omega) (by omega) (by omega)) (λr hr=>⟨by omega,by omega⟩)
  exact T.imp (AuE ha hm hmn hb hbn han hl h00 hr0 hlo hhi d _ _ (by omega) (by omega) (by omega) (by omega)) (λr hr=>⟨by omega,by omega⟩)
omit hr in
theorem BaI {i:Int} (hi0:0<=i) (hi:i<=n):∀(d:Nat) (k:Int) (l:List Int),0<=k->k+d=max (i-1) k->k<=n->Dt n rows.length l->T (aS (n,rows,down,i,k,l)) (Dt n rows.length)
 |0,k,l,h0,h,hk,hl=>by
  rw[aS]
  refine T.ite (λh'=>?_) (λ_=>T.ret hl)
  rw[aE (x:=i-1) (by omega) (by omega)] at h'; simp at h'; omega
 |d+1,k,l,h0,h,hk,hl=>by
  rw[aS]
  refine T.ite (λ_=>?_) (λ_=>T.ret hl)
  rw[aE (x:=k+1) (by omega) (by omega)]
  refine T.bind (oQ (by omega) (by omega)) (λj1 h1=>T.bind (hl.get h1.2) (λy hy=>?_))
  refine T.bind (oQ (by omega) (by omega)) (λj2 h2=>T.bind (hl.get h2.2) (λy1 hy1=>?_))
  refine T.bind (oQ (by omega) (by omega)) (λj5 h5=>T.bind (hl.set h5.2 hy) (λl3 hl3=>?_))
  refine T.bind (oQ (by omega) (by omega)) (λj6 h6=>T.bind (hl3.set h6.2 hy1) (λl4 hl4=>?_))
  exact BaI hi0 hi d (k+1) l4 (by omega) (by omega) (by omega) hl4
omit hr in
theorem BaJ {i:Int} (hi:0<=i):∀(d:Nat) (k:Int) (l:List Int),i+d=k->k<n->Dt n rows.length l->T (aT (n,rows,down,i,k,l)) (Dt n rows.length)
 |0,k,l,h,hk,hl=>by
  rw[aT]
  exact T.ite (λh'=>by simp at h'; omega) (λ_=>T.ret hl)
 |d+1,k,l,h,hk,hl=>by
  rw[aT]
  refine T.ite (λ_=>?_) (λ_=>T.ret hl)
  rw[aE (x:=k-1) (by omega) (by omega)]
  refine T.bind (oQ (by omega) (by omega)) (λj1 h1=>T.bind (hl.get h1.2) (λy hy=>?_))
  refine T.bind (oQ (by omega) (by omega)) (λj2 h2=>T.bind (hl.get h2.2) (λy1 hy1=>?_))
  refine T.bind (oQ (by omega) (by omega)) (λj5 h5=>T.bind (hl.set h5.2 hy) (λl3 hl3=>?_))
  refine T.bind (oQ (by omega) (by omega)) (λj6 h6=>T.bind (hl3.set h6.2 hy1) (λl4 hl4=>?_))
  exact BaJ hi d (k-1) l4 (by omega) (by omega) hl4
end
end Go.AM.Seat
