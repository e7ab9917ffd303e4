/- Part of a proof about the given program: the abstract machine, the printed functions, the plain laws. -/
import Derived.Test.YtbillkiljpkdfaaGreatRunNamesA3
import Derived.ChangeSlices
import Derived.SizedLaws
import Derived.DataElems
import Derived.Laws.Entries
set_option linter.all false
set_option maxRecDepth 100000
set_option maxHeartbeats 4000000
namespace Go.AM.Seat
open Go Go.AM Go.Proofs
def lF (a:Arr×LI×Int×Int):Option (Int):=match a with
  |(b,l,n,x)=>
   if (decide (x<(List.length l:Int))) then
    lget l x>>=λd=>
    lF (b,l,(w64 (n*d)),(w64 (x+1)))
   else
    some n
 partial_fixpoint
def qG (a:Arr):Option (Int):=
 lfrom a.shape 1>>=λl=>
 (
  lF (a,l,1,0)
 : Option (Int))>>=λb=>
 some b
def mI (a:LI×Bool×Int):Option (Except (Int×Int) (Bool)):=match a with
  |(b,c,x)=>
   if (decide (x<(List.length b:Int))) then
    (
     lget b x>>=λd=>
     if (decide (d<0)) then
      some (.error (0,1))
     else
      if c then
       some (.ok true)
      else
       some (.ok (d==0))
    : Option (Except (Int×Int) (Bool)))>>=λf=>match f with
    |.error r=>some (.error r)
    |.ok e=>
     mI (b,e,(w64 (x+1)))
   else
    some (.ok c)
 partial_fixpoint
def mK (a:LI×Int×Int):Option (Except (Int×Int) (Int)):=match a with
  |(b,n,c)=>
   if (decide (c<(List.length b:Int))) then
    lget b c>>=λd=>
    idiv .i64 16384 n>>=λq=>
    if (decide (d>q)) then
     some (.error (0,12))
    else
     mK (b,(w64 (n*d)),(w64 (c+1)))
   else
    some (.ok n)
 partial_fixpoint
def jW (b:LI):Option (Int×Int):=
 if (decide ((List.length b:Int)>8)) then
  some (0,6)
 else
  (
   mI (b,false,0)
  : Option (Except (Int×Int) (Bool)))>>=λa=>match a with
  |.error r=>some r
  |.ok d=>
   if d then
    some (0,0)
   else
    (
     mK (b,1,0)
    : Option (Except (Int×Int) (Int)))>>=λa=>match a with
    |.error r=>some r
    |.ok c=>
     some (c,0)
def nE (a:Arr×Arr×Int):Option (Except (Arr×Int) (Unit)):=match a with
  |(l,b,x)=>
   if (decide (x<(List.length l.cells:Int))) then
    lget l.cells x>>=λy=>
    if (y.kind != 0) then
     some (.error ((Arr.mk [] []),5))
    else
     if (decide (y.n<0)) then
      some (.error ((Arr.mk [] []),8))
     else
      lget b.shape 0>>=λc=>
      if (decide (y.n>=c)) then
       some (.error ((Arr.mk [] []),8))
      else
       nE (l,b,(w64 (x+1)))
   else
    some (.ok ())
 partial_fixpoint
def kQ (a:Arr×Arr×LI×Int×Int×(List aA)):Option (List aA):=match a with
  |(l,c,f,k,b,d)=>
   if (decide (b<(List.length l.cells:Int))) then
    lget l.cells b>>=λe=>
    Af4 c.cells (w64 (e.n*k)) (w64 ((w64 (e.n+1))*k))>>=λg=>
    lapp d g>>=λh=>
    kQ (l,c,f,k,(w64 (b+1)),h)
   else
    some d
 partial_fixpoint
def vL (l:Arr) (a:Arr):Option (Arr×Int):=
 if ((List.length a.shape:Int)==0) then
  some ((Arr.mk [] []),6)
 else
  if (decide ((w64 ((w64 ((List.length l.shape:Int)+(List.length a.shape:Int)))-1))>8)) then
   some ((Arr.mk [] []),6)
  else
   (
    nE (l,a,0)
   : Option (Except (Arr×Int) (Unit)))>>=λg=>match g with
   |.error r=>some r
   |.ok _=>
    lapp ([]:LI) l.shape>>=λc=>
    lfrom a.shape 1>>=λd=>
    lapp c d>>=λb=>
    jW b>>=λ(h,e)=>
    if (e != 0) then
     some ((Arr.mk [] []),e)
    else
     qG a>>=λk=>
     (
      kQ (l,a,b,k,0,[])
     : Option (List aA))>>=λf=>
     some ((Arr.mk b f),0)
def gW (a:Arr):Option (Arr):=
 (
  if ((List.length a.shape:Int)==0) then
   some [1]
  else
   some a.shape
 : Option LI)>>=λb=>
 some (Arr.mk b a.cells)
def lG (a:Arr×Int×Int):Option (Except (LI×Int) (Unit)):=match a with
  |(m,n,x)=>
   if (decide (x<(List.length m.cells:Int))) then
    lget m.cells x>>=λy=>
    if (y.kind != 0) then
     some (.error ([],5))
    else
     if (decide (y.n<0)) then
      some (.error ([],5))
     else
      lG (m,n,(w64 (x+1)))
   else
    some (.ok ())
 partial_fixpoint
def lH (a:Arr×Int×Int×Int×LI):Option (Except (LI×Int) LI):=match a with
  |(m,n,e,b,g)=>
   if (decide (b<((Int.toNat n):Int))) then
    lget m.cells 0>>=λc=>
    (
     if ((List.length m.shape:Int)==1) then
      lget m.cells b>>=λd=>
      some (d.kind,d.n,d.box)
     else
      some (c.kind,c.n,c.box)
    : Option (Int×Int×(List Arr)))>>=λ(l,f,o)=>
    if (decide (f>(w64 (16384-e)))) then
     some (.error ([],12))
    else
     aidx b (Int.toNat n)>>=λj=>
     aset g j f>>=λh=>
     aidx b (Int.toNat n)>>=λi=>
     pV h i>>=λk=>
     lH (m,n,(w64 (e+k)),(w64 (b+1)),h)
   else
    some (.ok g)
 partial_fixpoint
def lJ (a:Arr×Int×Int×Int×LI):Option (Except (LI×Int) LI):=match a with
  |(m,n,e,b,g)=>
   if (decide (b<((Int.toNat n):Int))) then
    lget m.cells 0>>=λc=>
    (
     if ((List.length m.shape:Int)==1) then
      lget m.cells b>>=λd=>
      some (d.kind,d.n,d.box)
     else
      some (c.kind,c.n,c.box)
    : Option (Int×Int×(List Arr)))>>=λ(l,f,o)=>
    if (decide (f>(w64 (16384-e)))) then
     some (.error ([],12))
    else
     aidx b (Int.toNat n)>>=λi=>
     aset g i f>>=λh=>
     aidx b (Int.toNat n)>>=λj=>
     pV h j>>=λk=>
     lJ (m,n,(w64 (e+k)),(w64 (b+1)),h)
   else
    some (.ok g)
 partial_fixpoint
def wQ (m:Arr) (n:Int):Option (LI×Int):=
 if (decide ((List.length m.shape:Int)>1)) then
  some ([],6)
 else
  (
   lG (m,n,0)
  : Option (Except (LI×Int) (Unit)))>>=λa=>match a with
  |.error r=>some r
  |.ok _=>
   if ((List.length m.shape:Int)==1) then
    if ((List.length m.cells:Int) != n) then
     some ([],7)
    else
     mkarr n 0>>=λl=>
     (
      lH (m,n,0,0,l)
     : Option (Except (LI×Int) LI))>>=λa=>match a with
     |.error r=>some r
     |.ok b=>
      afrz (Int.toNat n) b>>=λc=>
      some (c,0)
   else
    mkarr n 0>>=λd=>
    (
     lJ (m,n,0,0,d)
    : Option (Except (LI×Int) LI))>>=λa=>match a with
    |.error r=>some r
    |.ok e=>
     afrz (Int.toNat n) e>>=λf=>
     some (f,0)
def iB (a:Arr×Arr×Int×LI×LI×Int×LI):Option LI:=match a with
  |(m,x,b,l,e,f,d)=>
   if (decide (f<(List.length l:Int))) then
    lget l f>>=λk=>
    aidx b (List.length e)>>=λg=>
    pV d g>>=λi=>
    aidx b (List.length e)>>=λh=>
    aset d h (w64 (i+k))>>=λc=>
    iB (m,x,b,l,e,(w64 (f+1)),c)
   else
    some d
 partial_fixpoint
def iC (a:Arr×Arr×LI×LI×LI×Int×Int):Option (Int):=match a with
  |(m,x,l,f,b,e,c)=>
   if (decide (c<(List.length b:Int))) then
    lget b c>>=λd=>
    iC (m,x,l,f,b,(w64 (e*d)),(w64 (c+1)))
   else
    some e
 partial_fixpoint
def iF (a:Arr×Arr×LI×LI×Int×Int×Int×Int×Int×(List aA)):Option (List aA):=match a with
  |(m,x,l,h,c,b,d,e,g,f)=>
   if (decide (g<e)) then
    Af4 x.cells (w64 (b+(w64 (d*c)))) (w64 (b+(w64 ((w64 (d+1))*c))))>>=λi=>
    lapp f i>>=λj=>
    iF (m,x,l,h,c,b,d,e,(w64 (g+1)),j)
   else
    some f
 partial_fixpoint
def iD (a:Arr×Arr×LI×LI×Int×Int×Int×(List aA)):Option (List aA):=match a with
  |(m,x,l,d,f,c,b,e)=>
   if (decide (b<(List.length l:Int))) then
    lget l b>>=λg=>
    (
     iF (m,x,l,d,f,c,b,g,0,e)
    : Option (List aA))>>=λh=>
    iD (m,x,l,d,f,c,(w64 (b+1)),h)
   else
    some e
 partial_fixpoint
def p_pick_repeated_l2 (a:Arr×Arr×LI×LI×Int×Int×(List aA)):Option (List aA):=match a with
  |(m,x,l,d,c,b,e)=>
   if (decide (b<(List.length x.cells:Int))) then
    (
     iD (m,x,l,d,c,b,0,e)
    : Option (List aA))>>=λf=>
    p_pick_repeated_l2 (m,x,l,d,c,(w64 (b+(w64 ((List.length l:Int)*c)))),f)
   else
    some e
 partial_fixpoint
def qW (m:Arr) (f:Arr) (k:Bool):Option (Arr×Int):=
 gW f>>=λx=>
 (
  if k then
   some (w64 ((List.length x.shape:Int)-1))
  else
   some 0
 : Option (Int))>>=λa=>
 lget x.shape a>>=λy=>
 wQ m y>>=λ(l,e)=>
 if (e != 0) then
  some ((Arr.mk [] []),e)
 else
  lapp ([]:LI) x.shape>>=λb=>
  aidx a (List.length b)>>=λj=>
  aset b j 0>>=λh=>
  (
   iB (m,x,a,l,b,0,h)
  : Option LI)>>=λg=>
  afrz (List.length b) g>>=λc=>
  jW c>>=λ(p,d)=>
  if (d != 0) then
   some ((Arr.mk [] []),d)
  else
   lfrom x.shape (w64 (a+1))>>=λi=>
   (
    iC (m,x,l,c,i,1,0)
   : Option (Int))>>=λo=>
   (
    p_pick_repeated_l2 (m,x,l,c,o,0,[])
   : Option (List aA))>>=λn=>
   some ((Arr.mk c n),0)
def tZ (a:Arr):Option (Int×Int):=
 if (decide ((List.length a.shape:Int)>0)) then
  some (0,6)
 else
  lget a.cells 0>>=λy=>
  if (y.kind != 0) then
   some (0,5)
  else
   lget a.cells 0>>=λb=>
   some (b.n,0)
def kI (a:Arr) (b:Int) (n:Int):Option (Arr):=
 qG a>>=λk=>
 lfrom a.shape 1>>=λl=>
 lapp [n] l>>=λd=>
 mkarr (w64 (n*k)) (aA.mk 0 0 [])>>=λe=>
 Af4 a.cells (w64 (b*k)) (w64 ((w64 (b+n))*k))>>=λf=>
 Ba9 (Int.toNat (w64 (n*k))) e f>>=λg=>
 afrz (Int.toNat (w64 (n*k))) g>>=λc=>
 some (Arr.mk d c)
def tX (a:Arr):Option (aA×Int):=
 if ((List.length a.cells:Int)==0) then
  some ((aA.mk 0 0 []),0)
 else
  lget a.cells 0>>=λy=>
  if (y.kind==0) then
   some ((aA.mk 0 0 []),0)
  else
   lget a.cells 0>>=λb=>
   if (b.kind==1) then
    some ((aA.mk 1 32 []),0)
   else
    some ((aA.mk 0 0 []),5)
def nH (a:Int×Arr×Int×LI×aA×Int×Int×(List aA)):Option (List aA):=match a with
  |(n,x,b,h,f,c,d,e)=>
   if (decide (d<((Int.toNat (w64 ((w64 ((if n<(w64 (0-n)) then (w64 (0-n)) else n)-b))*c))):Int))) then
    aidx d (Int.toNat (w64 ((w64 ((if n<(w64 (0-n)) then (w64 (0-n)) else n)-b))*c)))>>=λj=>
    aset e j f>>=λg=>
    nH (n,x,b,h,f,c,(w64 (d+1)),g)
   else
    some e
 partial_fixpoint
def yS (n:Int) (g:Arr):Option (Arr×Int):=
 gW g>>=λx=>
 if (decide (n>16384)) then
  some ((Arr.mk [] []),12)
 else
  if (decide (n<(-16384))) then
   some ((Arr.mk [] []),12)
  else
   lget x.shape 0>>=λa=>
   lfrom x.shape 1>>=λl=>
   lapp [(if n<(w64 (0-n)) then (w64 (0-n)) else n)] l>>=λb=>
   jW b>>=λ(s,e)=>
   if (e != 0) then
    some ((Arr.mk [] []),e)
   else
    if (decide ((if n<(w64 (0-n)) then (w64 (0-n)) else n)<=a)) then
     if (decide (n<0)) then
      kI x (w64 (a-(if n<(w64 (0-n)) then (w64 (0-n)) else n))) (if n<(w64 (0-n)) then (w64 (0-n)) else n)>>=λp=>
      some (p,0)
     else
      kI x 0 (if n<(w64 (0-n)) then (w64 (0-n)) else n)>>=λq=>
      some (q,0)
    else
     tX x>>=λ(r,d)=>
     if (d != 0) then
      some ((Arr.mk [] []),d)
     else
      qG x>>=λc=>
      mkarr (w64 ((w64 ((if n<(w64 (0-n)) then (w64 (0-n)) else n)-a))*c)) (aA.mk 0 0 [])>>=λm=>
      (
       nH (n,x,a,b,r,c,0,m)
      : Option (List aA))>>=λf=>
      if (decide (n<0)) then
       afrz (Int.toNat (w64 ((w64 ((if n<(w64 (0-n)) then (w64 (0-n)) else n)-a))*c))) f>>=λh=>
       lapp h x.cells>>=λi=>
       some ((Arr.mk b i),0)
      else
       afrz (Int.toNat (w64 ((w64 ((if n<(w64 (0-n)) then (w64 (0-n)) else n)-a))*c))) f>>=λo=>
       lapp ([]:List aA) x.cells>>=λj=>
       lapp j o>>=λk=>
       some ((Arr.mk b k),0)
def yQ (n:Int) (b:Arr):Option (Arr):=
 gW b>>=λx=>
 lget x.shape 0>>=λa=>
 if (decide (n>=a)) then
  kI x 0 0>>=λc=>
  some c
 else
  if (decide (n<=(w64 (0-a)))) then
   kI x 0 0>>=λd=>
   some d
  else
   if (decide (n<0)) then
    kI x 0 (w64 (a+n))>>=λe=>
    some e
   else
    kI x n (w64 (a-n))>>=λf=>
    some f
def jG (a:Int×Arr×Int×LI×Int×Int):Option (Int):=match a with
  |(n,c,e,l,b,x)=>
   if (decide (x<(List.length l:Int))) then
    lget l x>>=λd=>
    jG (n,c,e,l,(w64 (b*d)),(w64 (x+1)))
   else
    some b
 partial_fixpoint
def jI (a:Arr×Int×Int×Int×Int×(List aA)):Option (List aA):=match a with
  |(d,b,e,f,c,h)=>
   if (decide (c<(List.length d.cells:Int))) then
    Af4 d.cells c (w64 (c+(w64 (e*b))))>>=λg=>
    lfrom g (w64 (f*b))>>=λi=>
    lapp h i>>=λj=>
    lto g (w64 (f*b))>>=λk=>
    lapp j k>>=λl=>
    jI (d,b,e,f,(w64 (c+(w64 (e*b)))),l)
   else
    some h
 partial_fixpoint
def p_pick_rotated (n:Int) (a:Arr) (b:Int):Option (Arr):=
 if ((List.length a.cells:Int)==0) then
  some a
 else
  if ((List.length a.shape:Int)==0) then
   some a
  else
   lfrom a.shape (w64 (b+1))>>=λl=>
   (
    jG (n,a,b,l,1,0)
   : Option (Int))>>=λf=>
   lget a.shape b>>=λc=>
   irem n c>>=λk=>
   (
    if (decide (k<0)) then
     some (w64 (k+c))
    else
     some k
   : Option (Int))>>=λd=>
   (
    jI (a,f,c,d,0,[])
   : Option (List aA))>>=λe=>
   some (Arr.mk a.shape e)
def pT (a:Int):Option (Bool):=
 if (decide (a>=21)) then
  some (decide (a<=32))
 else
  some false
def jA (a:LI×LI×Int):Option (Except (LI×Int) (Unit)):=match a with
  |(c,b,x)=>
   if (decide (x<(List.length c:Int))) then
    lget c x>>=λy=>
    lget b x>>=λd=>
    if (y != d) then
     some (.error ([],7))
    else
     jA (c,b,(w64 (x+1)))
   else
    some (.ok ())
 partial_fixpoint
def rY (a:LI) (b:LI):Option (LI×Int):=
 if ((List.length a:Int)==0) then
  lapp [] b>>=λl=>
  some (l,0)
 else
  if ((List.length b:Int)==0) then
   lapp [] a>>=λc=>
   some (c,0)
  else
   if ((List.length a:Int) != (List.length b:Int)) then
    some ([],6)
   else
    (
     jA (a,b,0)
    : Option (Except (LI×Int) (Unit)))>>=λe=>match e with
    |.error r=>some r
    |.ok _=>
     lapp [] a>>=λd=>
     some (d,0)
def mY (b:Bool):Option (Int):=
 if b then
  some 1
 else
  some 0
def Aa5 (a:Int) (b:Int):Option (Int×Int):=
 if (decide (b<0)) then
  if (decide (a>(w64 (9223372036854775807+b)))) then
   some (0,9)
  else
   if (decide (b>0)) then
    if (decide (a<(w64 ((-9223372036854775808)+b)))) then
     some (0,9)
    else
     some ((w64 (a-b)),0)
   else
    some ((w64 (a-b)),0)
 else
  if (decide (b>0)) then
   if (decide (a<(w64 ((-9223372036854775808)+b)))) then
    some (0,9)
   else
    some ((w64 (a-b)),0)
  else
   some ((w64 (a-b)),0)
def AdD (a:Int) (b:Int):Option (Int×Int):=
 if (decide (b>0)) then
  if (decide (a>(w64 (9223372036854775807-b)))) then
   some (0,9)
  else
   if (decide (b<0)) then
    if (decide (a<(w64 ((-9223372036854775808)-b)))) then
     some (0,9)
    else
     some ((w64 (a+b)),0)
   else
    some ((w64 (a+b)),0)
 else
  if (decide (b<0)) then
   if (decide (a<(w64 ((-9223372036854775808)-b)))) then
    some (0,9)
   else
    some ((w64 (a+b)),0)
  else
   some ((w64 (a+b)),0)
def xT (a:Int):Option (Int×Bool):=
 if (decide (a<0)) then
  some ((IntKind.u64.wrap (0-(IntKind.u64.wrap a))),true)
 else
  some ((IntKind.u64.wrap a),false)
def sX (n:Int) (a:Bool):Option (Int×Int):=
 (
  if a then
   if (decide (n<=9223372036854775808)) then
    some (.error ((w64 ((w64 (0-(w64 (IntKind.u64.wrap (n-1)))))-1)),0))
   else
    if (!a) then
     if (decide (n<=9223372036854775807)) then
      some (.error ((w64 n),0))
     else
      some (.ok ())
    else
     some (.ok ())
  else
   if (!a) then
    if (decide (n<=9223372036854775807)) then
     some (.error ((w64 n),0))
    else
     some (.ok ())
   else
    some (.ok ())
 : Option (Except (Int×Int) (Unit)))>>=λb=>match b with
 |.error r=>some r
 |.ok _=>
  some (0,9)
def oR (a:LI×Int×Bool×Bool×Int):Option (Except (Int×Int) (Int×Bool×Bool)):=match a with
  |(l,n,b,d,x)=>
   if (decide (x<(List.length l:Int))) then
    (
     lget l x>>=λy=>
     xT y>>=λ(m,c)=>
     if (m==0) then
      some (.error (0,0))
     else
      if d then
       some (.ok (n,(!(b==c)),true))
      else
       idiv .u64 9223372036854775808 m>>=λq=>
       if (decide (n>q)) then
        some (.ok (n,(!(b==c)),true))
       else
        some (.ok ((IntKind.u64.wrap (n*m)),(!(b==c)),d))
    : Option (Except (Int×Int) (Int×Bool×Bool)))>>=λh=>match h with
    |.error r=>some (.error r)
    |.ok (f,e,g)=>
     oR (l,f,e,g,(w64 (x+1)))
   else
    some (.ok (n,b,d))
 partial_fixpoint
def sG (l:LI):Option (Int×Int):=
 (
  oR (l,1,false,false,0)
 : Option (Except (Int×Int) (Int×Bool×Bool)))>>=λd=>match d with
 |.error r=>some r
 |.ok (b,a,c)=>
  if c then
   some (0,9)
  else
   sX b a>>=λ(e,f)=>
   some (e,f)
def AdE (a:Int) (b:Int):Option (Int×Int):=
 sG [a,b]>>=λ(x,c)=>
 some (x,c)
def AdF (a:Int) (b:Int):Option (Int):=
 if (a==0) then
  some b
 else
  if (a==(-1)) then
   some 0
  else
   irem b a>>=λc=>
   if (c != 0) then
    (
     if (!((decide (c<0))==(decide (a<0)))) then
      some (w64 (c+a))
     else
      some c
    : Option (Int))>>=λd=>
    some d
   else
    some c
def nZ (c:Int) (a:Int) (b:Int):Option (Int×Int):=
 if (c==21) then
  AdD a b>>=λ(x,d)=>
  some (x,d)
 else
  if (c==22) then
   Aa5 a b>>=λ(e,f)=>
   some (e,f)
  else
   if (c==23) then
    AdE a b>>=λ(g,h)=>
    some (g,h)
   else
    if (c==24) then
     some ((if b<a then b else a),0)
    else
     if (c==25) then
      some ((if a<b then b else a),0)
     else
      AdF a b>>=λi=>
      some (i,0)
def oP (a:Int) (c:aA) (b:aA):Option (aA×Int):=
 if (a==27) then
  pT a>>=λx=>
  if (!x) then
   some ((aA.mk 0 0 []),1)
  else
   if (c.kind==2) then
    some ((aA.mk 0 0 []),5)
   else
    if (b.kind==2) then
     some ((aA.mk 0 0 []),5)
    else
     if (c.kind != b.kind) then
      mY (a==28)>>=λh=>
      some ((aA.mk 0 h []),0)
     else
      if (decide (a>=27)) then
       rN a c.n b.n>>=λm=>
       some ((aA.mk 0 m []),0)
      else
       nZ a c.n b.n>>=λ(n,e)=>
       some ((aA.mk 0 n []),e)
 else
  (
   pT a>>=λo=>
   if (!o) then
    some (.error ((aA.mk 0 0 []),1))
   else
    if (a==28) then
     if (c.kind==2) then
      some (.error ((aA.mk 0 0 []),5))
     else
      if (b.kind==2) then
       some (.error ((aA.mk 0 0 []),5))
      else
       if (a==28) then
        if (c.kind != b.kind) then
         mY (a==28)>>=λp=>
         some (.error ((aA.mk 0 p []),0))
        else
         if (!(a==28)) then
          if (c.kind != 0) then
           some (.error ((aA.mk 0 0 []),5))
          else
           if (b.kind != 0) then
            some (.error ((aA.mk 0 0 []),5))
           else
            if (decide (a>=27)) then
             rN a c.n b.n>>=λq=>
             some (.error ((aA.mk 0 q []),0))
            else
             some (.ok ())
         else
          if (decide (a>=27)) then
           rN a c.n b.n>>=λs=>
           some (.error ((aA.mk 0 s []),0))
          else
           some (.ok ())
       else
        if (!(a==28)) then
         if (c.kind != 0) then
          some (.error ((aA.mk 0 0 []),5))
         else
          if (b.kind != 0) then
           some (.error ((aA.mk 0 0 []),5))
          else
           if (decide (a>=27)) then
            rN a c.n b.n>>=λt=>
            some (.error ((aA.mk 0 t []),0))
           else
            some (.ok ())
        else
         if (decide (a>=27)) then
          rN a c.n b.n>>=λu=>
          some (.error ((aA.mk 0 u []),0))
         else
          some (.ok ())
    else
     if (a==28) then
      if (c.kind != b.kind) then
       mY (a==28)>>=λv=>
       some (.error ((aA.mk 0 v []),0))
      else
       if (!(a==28)) then
        if (c.kind != 0) then
         some (.error ((aA.mk 0 0 []),5))
        else
         if (b.kind != 0) then
          some (.error ((aA.mk 0 0 []),5))
         else
          if (decide (a>=27)) then
           rN a c.n b.n>>=λi=>
           some (.error ((aA.mk 0 i []),0))
          else
           some (.ok ())
       else
        if (decide (a>=27)) then
         rN a c.n b.n>>=λj=>
         some (.error ((aA.mk 0 j []),0))
        else
         some (.ok ())
     else
      if (!(a==28)) then
       if (c.kind != 0) then
        some (.error ((aA.mk 0 0 []),5))
       else
        if (b.kind != 0) then
         some (.error ((aA.mk 0 0 []),5))
        else
         if (decide (a>=27)) then
          rN a c.n b.n>>=λk=>
          some (.error ((aA.mk 0 k []),0))
         else
          some (.ok ())
      else
       if (decide (a>=27)) then
        rN a c.n b.n>>=λl=>
        some (.error ((aA.mk 0 l []),0))
       else
        some (.ok ())
  : Option (Except (aA×Int) (Unit)))>>=λg=>match g with
  |.error r=>some r
  |.ok _=>
   nZ a c.n b.n>>=λ(f,d)=>
   some ((aA.mk 0 f []),d)
def vM (a:LI×Bool×Int):Option (Except (Int×Int) (Bool)):=match a with
  |(b,c,i)=>
   if (decide (i<(List.length b:Int))) then
    (
     lget b i>>=λy=>
     if (decide (y<0)) then
      some (.error (0,1))
     else
      lget b i>>=λf=>
      if (f==0) then
       some (.ok true)
      else
       some (.ok c)
    : Option (Except (Int×Int) (Bool)))>>=λe=>match e with
    |.error r=>some (.error r)
    |.ok d=>
     vM (b,d,(w64 (i+1)))
   else
    some (.ok c)
 partial_fixpoint
def vN (a:LI×Int×Int):Option (Except (Int×Int) (Int)):=match a with
  |(c,n,b)=>
   if (decide (b<(List.length c:Int))) then
    lget c b>>=λe=>
    if (decide (e>16384)) then
     some (.error (0,12))
    else
     lget c b>>=λd=>
     if (decide ((w64 (n*d))>16384)) then
      some (.error (0,12))
     else
      vN (c,(w64 (n*d)),(w64 (b+1)))
   else
    some (.ok n)
 partial_fixpoint
def AgK (b:LI):Option (Int×Int):=
 if (decide ((List.length b:Int)>8)) then
  some (0,6)
 else
  (
   vM (b,false,0)
  : Option (Except (Int×Int) (Bool)))>>=λa=>match a with
  |.error r=>some r
  |.ok d=>
   if d then
    some (0,0)
   else
    (
     vN (b,1,0)
    : Option (Except (Int×Int) (Int)))>>=λa=>match a with
    |.error r=>some r
    |.ok c=>
     some (c,0)
def bT (b:Int) (a:Int):Option (Bool×Int):=
 if (decide ((w64 (a+1))<=2048)) then
  some ((decide (b<=24)),(w64 (a+1)))
 else
  some (false,(w64 (a+1)))
def bM (n:Node) (c:Int) (d:Bool) (b:Bool) (a:Bool):Option (Bool):=
 if ((List.length n.kids:Int)==c) then
  if d then
   if b then
    if a then
     some true
    else
     if ((List.length n.lit.shape:Int)==0) then
      some ((List.length n.lit.cells:Int)==0)
     else
      some false
   else
    if (n.name==[]) then
     if a then
      some true
     else
      if ((List.length n.lit.shape:Int)==0) then
       some ((List.length n.lit.cells:Int)==0)
      else
       some false
    else
     some false
  else
   if (n.op_==0) then
    if b then
     if a then
      some true
     else
      if ((List.length n.lit.shape:Int)==0) then
       some ((List.length n.lit.cells:Int)==0)
      else
       some false
    else
     if (n.name==[]) then
      if a then
       some true
      else
       if ((List.length n.lit.shape:Int)==0) then
        some ((List.length n.lit.cells:Int)==0)
       else
        some false
     else
      some false
   else
    some false
 else
  some false
def uV (n:Int):Option (Bool):=
 if (decide (n>=0)) then
  if (decide (n<=1114111)) then
   if (decide (n<55296)) then
    some true
   else
    some (decide (n>57343))
  else
   some false
 else
  some false
def iY (a:Arr×Int×Int):Option (Except (Int) (Unit)):=match a with
  |(b,c,x)=>
   if (decide (x<(List.length b.shape:Int))) then
    lget b.shape x>>=λd=>
    if (decide (d>16384)) then
     some (.error 12)
    else
     iY (b,c,(w64 (x+1)))
   else
    some (.ok ())
 partial_fixpoint
mutual
def gU (a:Arr×Int×Int):Option (Except (Int) (Unit)):=match a with
  |(b,c,d)=>
   if (decide (d<(List.length b.cells:Int))) then
    (
     lget b.cells d>>=λy=>
     if (y.kind==2) then
      if (y.n==0) then
       if ((List.length y.box:Int)==1) then
        if (decide (c>=8)) then
         some (.error 15)
        else
         lget y.box 0>>=λj=>
         pS (j,(w64 (c+1)))>>=λe=>
         if (e != 0) then
          some (.error e)
         else
          some (.ok ())
       else
        if (decide ((List.length y.box:Int)>0)) then
         some (.error 1)
        else
         if (y.kind != 0) then
          if (y.kind != 1) then
           some (.error 1)
          else
           uV y.n>>=λg=>
           if (!g) then
            some (.error 1)
           else
            some (.ok ())
         else
          some (.ok ())
      else
       if (decide ((List.length y.box:Int)>0)) then
        some (.error 1)
       else
        if (y.kind != 0) then
         if (y.kind != 1) then
          some (.error 1)
         else
          uV y.n>>=λh=>
          if (!h) then
           some (.error 1)
          else
           some (.ok ())
        else
         some (.ok ())
     else
      if (decide ((List.length y.box:Int)>0)) then
       some (.error 1)
      else
       if (y.kind != 0) then
        if (y.kind != 1) then
         some (.error 1)
        else
         uV y.n>>=λi=>
         if (!i) then
          some (.error 1)
         else
          some (.ok ())
       else
        some (.ok ())
    : Option (Except (Int) (Unit)))>>=λf=>match f with
    |.error r=>some (.error r)
    |.ok _=>
     gU (b,c,(w64 (d+1)))
   else
    some (.ok ())
 partial_fixpoint
def pS (a:Arr×Int):Option (Int):=match a with
  |(b,d)=>
   jW b.shape>>=λ(n,e)=>
   if (e != 0) then
    some e
   else
    if (n != (List.length b.cells:Int)) then
     some 1
    else
     (
      iY (b,d,0)
     : Option (Except (Int) (Unit)))>>=λc=>match c with
     |.error r=>some r
     |.ok _=>
      (
       gU (b,d,0)
      : Option (Except (Int) (Unit)))>>=λc=>match c with
      |.error r=>some r
      |.ok _=>
       some 0
 partial_fixpoint
end
def iM (a:Arr):Option (Int):=
 pS (a,0)>>=λx=>
 some x
def jB (a:Arr×Int):Option (Except (Bool) (Unit)):=match a with
  |(b,c)=>
   if (decide (c<(List.length b.cells:Int))) then
    (
     lget b.cells c>>=λy=>
     if (y.kind==2) then
      some (.error false)
     else
      lget b.cells 0>>=λe=>
      if (y.kind != e.kind) then
       some (.error false)
      else
       if (y.kind==1) then
        if (decide (y.n<32)) then
         some (.error false)
        else
         if (y.n==127) then
          some (.error false)
         else
          some (.ok ())
       else
        some (.ok ())
    : Option (Except (Bool) (Unit)))>>=λd=>match d with
    |.error r=>some (.error r)
    |.ok _=>
     jB (b,(w64 (c+1)))
   else
    some (.ok ())
 partial_fixpoint
def jD (a:Arr×Int):Option (Except (Bool) (Unit)):=match a with
  |(c,d)=>
   if (decide (d<(List.length c.cells:Int))) then
    (
     lget c.cells d>>=λb=>
     if (b.kind==2) then
      some (.error false)
     else
      lget c.cells 0>>=λf=>
      if (b.kind != f.kind) then
       some (.error false)
      else
       if (b.kind==1) then
        if (decide (b.n<32)) then
         some (.error false)
        else
         if (b.n==127) then
          some (.error false)
         else
          some (.ok ())
       else
        some (.ok ())
    : Option (Except (Bool) (Unit)))>>=λe=>match e with
    |.error r=>some (.error r)
    |.ok _=>
     jD (c,(w64 (d+1)))
   else
    some (.ok ())
 partial_fixpoint
def pG (a:Arr):Option (Bool):=
 iM a>>=λx=>
 if (x != 0) then
  some false
 else
  if (decide ((List.length a.shape:Int)>1)) then
   some false
  else
   if ((List.length a.shape:Int)==1) then
    if ((List.length a.cells:Int)==1) then
     some false
    else
     (
      jB (a,0)
     : Option (Except (Bool) (Unit)))>>=λb=>match b with
     |.error r=>some r
     |.ok _=>
      some true
   else
    (
     jD (a,0)
    : Option (Except (Bool) (Unit)))>>=λb=>match b with
    |.error r=>some r
    |.ok _=>
     some true
def mZ (a:Str×Int):Option (Except (Bool) (Unit)):=match a with
  |(s,x)=>
   if (decide (x<(List.length s:Int))) then
    (
     sget s x>>=λc=>
     if (decide (c>=97)) then
      sget s x>>=λb=>
      if (!(decide (b<=119))) then
       if (x==0) then
        some (.error false)
       else
        sget s x>>=λd=>
        if (decide (d<48)) then
         some (.error false)
        else
         sget s x>>=λe=>
         if (decide (e>57)) then
          some (.error false)
         else
          some (.ok ())
      else
       some (.ok ())
     else
      if (x==0) then
       some (.error false)
      else
       sget s x>>=λf=>
       if (decide (f<48)) then
        some (.error false)
       else
        sget s x>>=λg=>
        if (decide (g>57)) then
         some (.error false)
        else
         some (.ok ())
    : Option (Except (Bool) (Unit)))>>=λh=>match h with
    |.error r=>some (.error r)
    |.ok _=>
     mZ (s,(w64 (x+1)))
   else
    some (.ok ())
 partial_fixpoint
def vH (s:Str):Option (Bool):=
 (
  mZ (s,0)
 : Option (Except (Bool) (Unit)))>>=λa=>match a with
 |.error r=>some r
 |.ok _=>
  if (decide ((List.length s:Int)>0)) then
   some (decide ((List.length s:Int)<=8))
  else
   some false
def cO (c:Int) (a:Int) (b:(List (Int×Bool))):Option (Bool×Int):=
 if (decide ((w64 (a+1))<=2048)) then
  some ((decide (c<=24)),(w64 (a+1)))
 else
  some (false,(w64 (a+1)))
def mL (a:Int):Option (Bool):=
 if (decide (a>=21)) then
  some (decide (a<=32))
 else
  some false
def fY (n:Node) (c:Int) (e:Int) (b:(List (Int×Bool))):Option (Bool×Int):=
 (
  if (n.kind==35) then
   cO c e b>>=λ(x,d)=>
   if (!x) then
    some (.error (false,d))
   else
    bM n 1 false false false>>=λk=>
    if (!k) then
     some (.error (false,d))
    else
     lget n.kids 0>>=λy=>
     some (.ok ((w64 (c+1)),y.kind,y.op_,y.name,y.lit.shape,y.lit.cells,y.kids,y.at_,d))
  else
   some (.ok (c,n.kind,n.op_,n.name,n.lit.shape,n.lit.cells,n.kids,n.at_,e))
 : Option (Except (Bool×Int) (Int×Int×Int×Str×LI×(List aA)×(List Node)×Int×Int)))>>=λj=>match j with
 |.error r=>some r
 |.ok (i,f,g,l,m,o,p,q,h)=>
  cO i h b>>=λ(s,a)=>
  if s then
   if (f==21) then
    bM (Node.mk f g l (Arr.mk m o) p q) 0 true false false>>=λt=>
    if t then
     mL g>>=λu=>
     some (u,a)
    else
     some (false,a)
   else
    some (false,a)
  else
   some (false,a)
mutual
def dH (a:Node×Int×Int×(List (Int×Bool))):Option (Bool×Int×(List (Int×Bool))):=match a with
  |(n,d,i,b)=>
   cO d i b>>=λ(x,c)=>
   if (!x) then
    some (false,c,b)
   else
    if (n.kind==1) then
     bM n 0 false false true>>=λl=>
     if l then
      pG n.lit>>=λt=>
      some (t,c,b)
     else
      some (false,c,b)
    else
     if (n.kind==2) then
      bM n 0 false true false>>=λu=>
      if u then
       vH n.name>>=λv=>
       some (v,c,b)
      else
       some (false,c,b)
     else
      (
       if (n.kind==3) then
        some (n.kind==3)
       else
        some (n.kind==4)
      : Option (Bool))>>=λw=>
      if w then
       bM n 0 false false false>>=λz=>
       if (!z) then
        some (false,c,b)
       else
        some (true,c,(Au6 b n.kind true))
      else
       if (n.kind==5) then
        bM n 2 false false false>>=λx7=>
        if x7 then
         lget n.kids 0>>=λy=>
         kV (y,(w64 (d+1)),c,b)>>=λ(x8,e)=>
         if x8 then
          lget n.kids 1>>=λy1=>
          dH (y1,(w64 (d+1)),e,b)>>=λ(x9,j,m)=>
          some (x9,j,m)
         else
          some (false,e,b)
        else
         some (false,c,b)
       else
        if (n.kind==6) then
         bM n 3 false false false>>=λo=>
         if o then
          lget n.kids 0>>=λy2=>
          oH (y2,(w64 (d+1)),c,b)>>=λ(p,f)=>
          if p then
           lget n.kids 1>>=λy3=>
           dH (y3,(w64 (d+1)),f,b)>>=λ(q,g,h)=>
           if q then
            lget n.kids 2>>=λy4=>
            dH (y4,(w64 (d+1)),g,h)>>=λ(r,k,s)=>
            some (r,k,s)
           else
            some (false,g,h)
          else
           some (false,f,b)
         else
          some (false,c,b)
        else
         some (false,c,b)
 partial_fixpoint
def kV (a:Node×Int×Int×(List (Int×Bool))):Option (Bool×Int):=match a with
  |(n,d,e,b)=>
   cO d e b>>=λ(x,c)=>
   if (!x) then
    some (false,c)
   else
    if (n.kind==21) then
     bM n 0 true false false>>=λj=>
     if j then
      if (decide (n.op_>=1)) then
       some ((decide (n.op_<=19)),c)
      else
       some (false,c)
     else
      some (false,c)
    else
     if (n.kind==22) then
      gL (n,d,c,b)>>=λ(k,f)=>
      some (k,f)
     else
      (
       if (n.kind==31) then
        some (n.kind==31)
       else
        if (n.kind==32) then
         some (n.kind==32)
        else
         if (n.kind==33) then
          some (n.kind==33)
         else
          some (n.kind==34)
      : Option (Bool))>>=λl=>
      if l then
       bM n 1 false false false>>=λm=>
       if m then
        lget n.kids 0>>=λy=>
        fY y (w64 (d+1)) c b>>=λ(o,g)=>
        some (o,g)
       else
        some (false,c)
      else
       if (n.kind==35) then
        gM (n,d,c,b)>>=λ(p,h)=>
        some (p,h)
       else
        if (n.kind==26) then
         bM n 1 true false false>>=λq=>
         if q then
          if (decide (n.op_>=0)) then
           if (decide (n.op_<=4096)) then
            lget n.kids 0>>=λs=>
            if (s.kind==22) then
             lget n.kids 0>>=λt=>
             kV (t,(w64 (d+1)),c,b)>>=λ(r,i)=>
             some (r,i)
            else
             some (false,c)
           else
            some (false,c)
          else
           some (false,c)
         else
          some (false,c)
        else
         some (false,c)
 partial_fixpoint
def oH (a:Node×Int×Int×(List (Int×Bool))):Option (Bool×Int):=match a with
  |(n,c,d,b)=>
   if (n.kind==25) then
    cO c d b>>=λ(x,e)=>
    if x then
     bM n 1 false false false>>=λj=>
     if j then
      lget n.kids 0>>=λy=>
      fY y (w64 (c+1)) e b>>=λ(k,g)=>
      some (k,g)
     else
      some (false,e)
    else
     some (false,e)
   else
    if (n.kind==35) then
     cO c d b>>=λ(l,f)=>
     if l then
      gM (n,c,f,b)>>=λ(m,h)=>
      some (m,h)
     else
      some (false,f)
    else
     fQ (n,c,d,b)>>=λ(o,i)=>
     some (o,i)
 partial_fixpoint
def gL (a:Node×Int×Int×(List (Int×Bool))):Option (Bool×Int):=match a with
  |(n,g,e,b)=>
   bM n 1 false false false>>=λx=>
   if (!x) then
    some (false,e)
   else
    lget n.kids 0>>=λy=>
    dH (y,(w64 (g+1)),e,[])>>=λ(f,c,d)=>
    if (n.kind==22) then
     if f then
      some ((!(yM d 3 false)),c)
     else
      some (false,c)
    else
     if f then
      if (yM d 3 false) then
       some ((yM d 4 false),c)
      else
       some (false,c)
     else
      some (false,c)
 partial_fixpoint
def gM (a:Node×Int×Int×(List (Int×Bool))):Option (Bool×Int):=match a with
  |(n,d,c,b)=>
   bM n 1 false false false>>=λx=>
   if (!x) then
    some (false,c)
   else
    lget n.kids 0>>=λy=>
    if (y.kind != 21) then
     fQ (y,(w64 (d+1)),c,b)>>=λ(g,e)=>
     some (g,e)
    else
     if (y.op_ != 52) then
      if (y.op_ != 53) then
       fQ (y,(w64 (d+1)),c,b)>>=λ(h,f)=>
       some (h,f)
      else
       some (false,c)
     else
      some (false,c)
 partial_fixpoint
def fQ (a:Node×Int×Int×(List (Int×Bool))):Option (Bool×Int):=match a with
  |(n,d,e,b)=>
   cO d e b>>=λ(x,c)=>
   if (!x) then
    some (false,c)
   else
    if (n.kind==21) then
     bM n 0 true false false>>=λg=>
     if g then
      mL n.op_>>=λh=>
      if h then
       some (true,c)
      else
       if (decide (n.op_>=41)) then
        some ((decide (n.op_<=54)),c)
       else
        some (false,c)
     else
      some (false,c)
    else
     if (n.kind==23) then
      gL (n,d,c,b)>>=λ(i,f)=>
      some (i,f)
     else
      some (false,c)
 partial_fixpoint
end
def dO (n:Node) (e:Int) (c:Int):Option (Bool×Int):=
 bM n 1 false false false>>=λx=>
 if (!x) then
  some (false,c)
 else
  lget n.kids 0>>=λy=>
  dH (y,(w64 (e+1)),c,[])>>=λ(d,a,b)=>
  if (n.kind==22) then
   if d then
    some ((!(yM b 3 false)),a)
   else
    some (false,a)
  else
   if d then
    if (yM b 3 false) then
     some ((yM b 4 false),a)
    else
     some (false,a)
   else
    some (false,a)
def dG (n:Node) (b:Int) (d:Int):Option (Bool×Int):=
 (
  if (n.kind==35) then
   bT b d>>=λ(x,c)=>
   if (!x) then
    some (.error (false,c))
   else
    bM n 1 false false false>>=λj=>
    if (!j) then
     some (.error (false,c))
    else
     lget n.kids 0>>=λy=>
     some (.ok ((w64 (b+1)),y.kind,y.op_,y.name,y.lit.shape,y.lit.cells,y.kids,y.at_,c))
  else
   some (.ok (b,n.kind,n.op_,n.name,n.lit.shape,n.lit.cells,n.kids,n.at_,d))
 : Option (Except (Bool×Int) (Int×Int×Int×Str×LI×(List aA)×(List Node)×Int×Int)))>>=λi=>match i with
 |.error r=>some r
 |.ok (h,e,f,k,l,m,o,p,g)=>
  bT h g>>=λ(q,a)=>
  if q then
   if (e==21) then
    bM (Node.mk e f k (Arr.mk l m) o p) 0 true false false>>=λs=>
    if s then
     mL f>>=λt=>
     some (t,a)
    else
     some (false,a)
   else
    some (false,a)
  else
   some (false,a)
def cR (n:Node) (b:Int) (c:Int):Option (Bool×Int):=
 bT b c>>=λ(x,a)=>
 if (!x) then
  some (false,a)
 else
  if (n.kind==21) then
   bM n 0 true false false>>=λe=>
   if e then
    mL n.op_>>=λf=>
    if f then
     some (true,a)
    else
     if (decide (n.op_>=41)) then
      some ((decide (n.op_<=54)),a)
     else
      some (false,a)
   else
    some (false,a)
  else
   if (n.kind==23) then
    dO n b a>>=λ(g,d)=>
    some (g,d)
   else
    some (false,a)
def dP (n:Node) (b:Int) (a:Int):Option (Bool×Int):=
 bM n 1 false false false>>=λx=>
 if (!x) then
  some (false,a)
 else
  lget n.kids 0>>=λy=>
  if (y.kind != 21) then
   cR y (w64 (b+1)) a>>=λ(e,c)=>
   some (e,c)
  else
   if (y.op_ != 52) then
    if (y.op_ != 53) then
     cR y (w64 (b+1)) a>>=λ(f,d)=>
     some (f,d)
    else
     some (false,a)
   else
    some (false,a)
def dV (a:Node×Int×Int):Option (Bool×Int):=match a with
  |(n,c,d)=>
   bT c d>>=λ(x,b)=>
   if (!x) then
    some (false,b)
   else
    if (n.kind==21) then
     bM n 0 true false false>>=λi=>
     if i then
      if (decide (n.op_>=1)) then
       some ((decide (n.op_<=19)),b)
      else
       some (false,b)
     else
      some (false,b)
    else
     if (n.kind==22) then
      dO n c b>>=λ(j,e)=>
      some (j,e)
     else
      (
       if (n.kind==31) then
        some (n.kind==31)
       else
        if (n.kind==32) then
         some (n.kind==32)
        else
         if (n.kind==33) then
          some (n.kind==33)
         else
          some (n.kind==34)
      : Option (Bool))>>=λk=>
      if k then
       bM n 1 false false false>>=λl=>
       if l then
        lget n.kids 0>>=λy=>
        dG y (w64 (c+1)) b>>=λ(m,f)=>
        some (m,f)
       else
        some (false,b)
      else
       if (n.kind==35) then
        dP n c b>>=λ(o,g)=>
        some (o,g)
       else
        if (n.kind==26) then
         bM n 1 true false false>>=λp=>
         if p then
          if (decide (n.op_>=0)) then
           if (decide (n.op_<=4096)) then
            lget n.kids 0>>=λr=>
            if (r.kind==22) then
             lget n.kids 0>>=λs=>
             dV (s,(w64 (c+1)),b)>>=λ(q,h)=>
             some (q,h)
            else
             some (false,b)
           else
            some (false,b)
          else
           some (false,b)
         else
          some (false,b)
        else
         some (false,b)
 partial_fixpoint
def gV (n:Node) (a:Int) (b:Int):Option (Bool×Int):=
 if (n.kind==25) then
  bT a b>>=λ(x,c)=>
  if x then
   bM n 1 false false false>>=λh=>
   if h then
    lget n.kids 0>>=λy=>
    dG y (w64 (a+1)) c>>=λ(i,e)=>
    some (i,e)
   else
    some (false,c)
  else
   some (false,c)
 else
  if (n.kind==35) then
   bT a b>>=λ(j,d)=>
   if j then
    dP n a d>>=λ(k,f)=>
    some (k,f)
   else
    some (false,d)
  else
   cR n a b>>=λ(l,g)=>
   some (l,g)
def cB (a:Node×Int×Int):Option (Bool×Int):=match a with
  |(n,c,g)=>
   bT c g>>=λ(x,b)=>
   if (!x) then
    some (false,b)
   else
    if (n.kind==1) then
     bM n 0 false false true>>=λj=>
     if j then
      pG n.lit>>=λo=>
      some (o,b)
     else
      some (false,b)
    else
     if (n.kind==2) then
      bM n 0 false true false>>=λp=>
      if p then
       vH n.name>>=λq=>
       some (q,b)
      else
       some (false,b)
     else
      (
       if (n.kind==3) then
        some (n.kind==3)
       else
        some (n.kind==4)
      : Option (Bool))>>=λr=>
      if r then
       some (false,b)
      else
       if (n.kind==5) then
        bM n 2 false false false>>=λs=>
        if s then
         lget n.kids 0>>=λy=>
         dV (y,(w64 (c+1)),b)>>=λ(t,d)=>
         if t then
          lget n.kids 1>>=λw=>
          cB (w,(w64 (c+1)),d)>>=λ(u,h)=>
          some (u,h)
         else
          some (false,d)
        else
         some (false,b)
       else
        if (n.kind==6) then
         bM n 3 false false false>>=λv=>
         if v then
          lget n.kids 0>>=λz=>
          gV z (w64 (c+1)) b>>=λ(k,e)=>
          if k then
           lget n.kids 1>>=λy3=>
           cB (y3,(w64 (c+1)),e)>>=λ(l,f)=>
           if l then
            lget n.kids 2>>=λy4=>
            cB (y4,(w64 (c+1)),f)>>=λ(m,i)=>
            some (m,i)
           else
            some (false,f)
          else
           some (false,e)
         else
          some (false,b)
        else
         some (false,b)
 partial_fixpoint
def sT (n:Node):Option (Int):=
 cB (n,0,0)>>=λ(x,a)=>
 if (!x) then
  some 1
 else
  some 0
def AgJ (b:Int) (a:Int):Option (aF):=
 some (aF.mk (cZ.mk (if b<0 then 0 else b) 0) (if a<0 then 0 else a))
mutual
def kE (a:Arr×LI×Int×(List aA)):Option (List aA):=match a with
  |(b,l,x,c)=>
   if (decide (x<(List.length b.cells:Int))) then
    lget b.cells x>>=λy=>
    kG y>>=λe=>
    lapp c [e]>>=λd=>
    kE (b,l,(w64 (x+1)),d)
   else
    some c
 partial_fixpoint
def fH (a:Arr):Option (Arr):=match a with
  |a_=>
   lapp [] a_.shape>>=λl=>
   (
    kE (a_,l,0,[])
   : Option (List aA))>>=λb=>
   some (Arr.mk l b)
 partial_fixpoint
def kG (a:aA):Option (aA):=match a with
  |c=>
   (
    if (decide ((List.length c.box:Int)>0)) then
     lget c.box 0>>=λy=>
     fH y>>=λx=>
     some [x]
    else
     some c.box
   : Option (List Arr))>>=λb=>
   some (aA.mk c.kind c.n b)
 partial_fixpoint
end
def mC (n:Int) (c:aF):Option (Bool×Int×Int):=
 if (decide (n<0)) then
  some (false,c.fuel.left,c.fuel.used)
 else
  if (decide (n>c.fuel.left)) then
   some (false,c.fuel.left,c.fuel.used)
  else
   some (true,(w64 (c.fuel.left-n)),(w64 (c.fuel.used+n)))
def eV (m:aF):Option (Int×Int×Int):=
 mC 1 m>>=λ(x,a,b)=>
 if (!x) then
  some (11,a,b)
 else
  some (0,a,b)
mutual
def iN (a:Arr×Int×aA×Int×Int):Option (Int):=match a with
  |(d,x,y,c,b)=>
   if (decide (b<(List.length y.box:Int))) then
    lget y.box b>>=λf=>
    kH f>>=λe=>
    iN (d,x,y,(w64 (c+e)),(w64 (b+1)))
   else
    some c
 partial_fixpoint
def p_meter_Cells_l0 (a:Arr×Int×Int):Option (Int):=match a with
  |(b,n,x)=>
   if (decide (x<(List.length b.cells:Int))) then
    lget b.cells x>>=λy=>
    (
     iN (b,x,y,n,0)
    : Option (Int))>>=λc=>
    p_meter_Cells_l0 (b,c,(w64 (x+1)))
   else
    some n
 partial_fixpoint
def kH (a:Arr):Option (Int):=match a with
  |a_=>
   (
    p_meter_Cells_l0 (a_,(List.length a_.cells:Int),0)
   : Option (Int))>>=λb=>
   some b
 partial_fixpoint
end
def qD (a:Arr) (m:aF):Option (Int):=
 kH a>>=λx=>
 if (decide (x>m.cells)) then
  some 12
 else
  some 0
def aT (a:Arr) (e:Int) (f:(List Str)) (g:(List Arr)) (b:aF):Option (Arr×Int):=
 (
  if (e==0) then
   qD a b>>=λd=>
   some d
  else
   some e
 : Option (Int))>>=λc=>
 if (c != 0) then
  some ((Arr.mk [] []),c)
 else
  some (a,0)
def p_run_machine_name_l0 (a:Str×(List Str)×(List Arr)×aF×Int):Option (Except (Arr×Int) (Unit)):=match a with
  |(s,d,c,b,x)=>
   if (decide (x<(List.length d:Int))) then
    (
     lget d x>>=λn=>
     if (n==s) then
      if (decide (x<(List.length c:Int))) then
       lget c x>>=λy=>
       iM y>>=λf=>
       if (f != 0) then
        some (.error ((Arr.mk [] []),1))
       else
        lget c x>>=λh=>
        fH h>>=λg=>
        some (.error (g,0))
      else
       some (.ok ())
     else
      some (.ok ())
    : Option (Except (Arr×Int) (Unit)))>>=λe=>match e with
    |.error r=>some (.error r)
    |.ok _=>
     p_run_machine_name_l0 (s,d,c,b,(w64 (x+1)))
   else
    some (.ok ())
 partial_fixpoint
def cK (s:Str) (a:(List Str)) (d:(List Arr)) (b:aF):Option (Arr×Int):=
 (
  p_run_machine_name_l0 (s,a,d,b,0)
 : Option (Except (Arr×Int) (Unit)))>>=λc=>match c with
 |.error r=>some r
 |.ok _=>
  some ((Arr.mk [] []),4)
def gD (a:bZ×(List Arr)×Int):Option (Except (Int) (Unit)):=match a with
  |(f,l,x)=>
   if (decide (x<(List.length l:Int))) then
    lget l x>>=λy=>
    iM y>>=λe=>
    if (e != 0) then
     some (.error e)
    else
     gD (f,l,(w64 (x+1)))
   else
    some (.ok ())
 partial_fixpoint
def jX (f:bZ) (l:(List Arr)):Option (Int):=
 (
  gD (f,l,0)
 : Option (Except (Int) (Unit)))>>=λa=>match a with
 |.error r=>some r
 |.ok _=>
  pT f.op_>>=λb=>
  if (!b) then
   some 1
  else
   some 0
def vK (a:Arr) (b:Bool):Option (Int):=
 if b then
  some (w64 ((List.length a.shape:Int)-1))
 else
  some 0
def jO (a:LI×Int×LI×Int×Int):Option (Int):=match a with
  |(e,c,l,b,x)=>
   if (decide (x<(List.length l:Int))) then
    lget l x>>=λd=>
    jO (e,c,l,(w64 (b*d)),(w64 (x+1)))
   else
    some b
 partial_fixpoint
def jP (a:LI×Int×Int×LI×Int×Int):Option (Int):=match a with
  |(h,e,g,b,d,c)=>
   if (decide (c<(List.length b:Int))) then
    lget b c>>=λf=>
    jP (h,e,g,b,(w64 (d*f)),(w64 (c+1)))
   else
    some d
 partial_fixpoint
def sW (b:LI) (a:Int):Option (Int×Int×Int):=
 lto b a>>=λl=>
 (
  jO (b,a,l,1,0)
 : Option (Int))>>=λc=>
 lfrom b (w64 (a+1))>>=λd=>
 (
  jP (b,a,c,d,1,0)
 : Option (Int))>>=λf=>
 lget b a>>=λe=>
 some (c,f,e)
def vI (f:bZ) (a:aA) (b:aA):Option (aA×Int):=
 (
  if f.turned then
   some (a.kind,a.n,a.box,b.kind,b.n,b.box)
  else
   some (b.kind,b.n,b.box,a.kind,a.n,a.box)
 : Option (Int×Int×(List Arr)×Int×Int×(List Arr)))>>=λ(g,h,i,c,d,e)=>
 oP f.op_ (aA.mk c d e) (aA.mk g h i)>>=λ(x,j)=>
 some (x,j)
def jE (a:(List aA)×Int×LI):Option (Except (LI×Int) LI):=match a with
  |(l,x,b)=>
   if (decide (x<(List.length l:Int))) then
    lget l x>>=λy=>
    if (y.kind != 0) then
     some (.error ([],5))
    else
     aidx x (Int.toNat (List.length l:Int))>>=λj=>
     aset b j y.n>>=λc=>
     jE (l,(w64 (x+1)),c)
   else
    some (.ok b)
 partial_fixpoint
def nC (l:(List aA)):Option (LI×Int):=
 mkarr (List.length l:Int) 0>>=λa=>
 (
  jE (l,0,a)
 : Option (Except (LI×Int) LI))>>=λd=>match d with
 |.error r=>some r
 |.ok b=>
  afrz (Int.toNat (List.length l:Int)) b>>=λc=>
  some (c,0)
def pK (n:Int) (w:eL):Option (Int×Int):=
 if (decide ((IntKind.u64.wrap (w.lo+n))<n)) then
  some ((IntKind.u64.wrap (w.hi+1)),(IntKind.u64.wrap (w.lo+n)))
 else
  some (w.hi,(IntKind.u64.wrap (w.lo+n)))
def qV (w:eL) (a:eL):Option (Bool):=
 if (decide (w.hi<a.hi)) then
  some true
 else
  if (w.hi==a.hi) then
   some (decide (w.lo<a.lo))
  else
   some false
def pL (a:eL) (w:eL):Option (Int×Int):=
 (
  if (decide (w.lo<a.lo)) then
   some (IntKind.u64.wrap (w.hi-1))
  else
   some w.hi
 : Option (Int))>>=λb=>
 some ((IntKind.u64.wrap (b-a.hi)),(IntKind.u64.wrap (w.lo-a.lo)))
def kW (w:eL) (a:Bool):Option (Int×Int):=
 if (decide (w.hi>0)) then
  if (decide (w.hi>0)) then
   some (0,9)
  else
   some (0,0)
 else
  if (w.lo==0) then
   if (decide (w.hi>0)) then
    some (0,9)
   else
    some (0,0)
  else
   sX w.lo a>>=λ(x,b)=>
   some (x,b)
def qE (a:LI×Int×Int×Int×Int×Int):Option (Int×Int×Int×Int):=match a with
  |(l,x,d,e,b,c)=>
   if (decide (x<(List.length l:Int))) then
    (
     lget l x>>=λy=>
     xT y>>=λ(n,p)=>
     if p then
      pK n (eL.mk d e)>>=λ(j,m)=>
      some (j,m,b,c)
     else
      pK n (eL.mk b c)>>=λ(k,o)=>
      some (d,e,k,o)
    : Option (Int×Int×Int×Int))>>=λ(h,i,f,g)=>
    qE (l,(w64 (x+1)),h,i,f,g)
   else
    some (d,e,b,c)
 partial_fixpoint
def xS (l:LI):Option (Int×Int):=
 (
  qE (l,0,0,0,0,0)
 : Option (Int×Int×Int×Int))>>=λ(c,d,a,b)=>
 qV (eL.mk a b) (eL.mk c d)>>=λi=>
 if i then
  pL (eL.mk a b) (eL.mk c d)>>=λ(e,g)=>
  kW (eL.mk e g) true>>=λ(j,k)=>
  some (j,k)
 else
  pL (eL.mk c d) (eL.mk a b)>>=λ(f,h)=>
  kW (eL.mk f h) false>>=λ(m,n)=>
  some (m,n)
def p_fold_F_row_l0 (a:bZ×(List aA)×Int×Int×Int×(List Arr)):Option (Except (aA×Int) (Int×Int×(List Arr))):=match a with
  |(f,l,i,b,c,d)=>
   if (decide (i>=0)) then
    lget l i>>=λg=>
    vI f g (aA.mk b c d)>>=λ(x,e)=>
    if (e != 0) then
     some (.error ((aA.mk 0 0 []),e))
    else
     p_fold_F_row_l0 (f,l,(w64 (i-1)),x.kind,x.n,x.box)
   else
    some (.ok (b,c,d))
 partial_fixpoint
def sU (f:bZ) (l:(List aA)):Option (aA×Int):=
 (
  if ((List.length l:Int)==1) then
   lget l 0>>=λy=>
   some (.error (y,0))
  else
   if ((List.length l:Int)==0) then
    if (f.op_==21) then
     some (.error ((aA.mk 0 0 []),0))
    else
     if (f.op_==22) then
      some (.error ((aA.mk 0 0 []),0))
     else
      if ((List.length l:Int)==0) then
       if (f.op_==23) then
        some (.error ((aA.mk 0 1 []),0))
       else
        if ((List.length l:Int)==0) then
         some (.error ((aA.mk 0 0 []),5))
        else
         some (.ok ())
      else
       if ((List.length l:Int)==0) then
        some (.error ((aA.mk 0 0 []),5))
       else
        some (.ok ())
   else
    if ((List.length l:Int)==0) then
     if (f.op_==23) then
      some (.error ((aA.mk 0 1 []),0))
     else
      if ((List.length l:Int)==0) then
       some (.error ((aA.mk 0 0 []),5))
      else
       some (.ok ())
    else
     if ((List.length l:Int)==0) then
      some (.error ((aA.mk 0 0 []),5))
     else
      some (.ok ())
 : Option (Except (aA×Int) (Unit)))>>=λa=>match a with
 |.error r=>some r
 |.ok _=>
  if (f.op_==21) then
   nC l>>=λ(n,e)=>
   if (e != 0) then
    some ((aA.mk 0 0 []),e)
   else
    if (f.op_==23) then
     sG n>>=λ(k,j)=>
     some ((aA.mk 0 k []),j)
    else
     xS n>>=λ(q,m)=>
     some ((aA.mk 0 q []),m)
  else
   if (f.op_==23) then
    nC l>>=λ(d,c)=>
    if (c != 0) then
     some ((aA.mk 0 0 []),c)
    else
     if (f.op_==23) then
      sG d>>=λ(s,o)=>
      some ((aA.mk 0 s []),o)
     else
      xS d>>=λ(t,p)=>
      some ((aA.mk 0 t []),p)
   else
    lget l (w64 ((List.length l:Int)-1))>>=λb=>
    (
     p_fold_F_row_l0 (f,l,(w64 ((List.length l:Int)-2)),b.kind,b.n,b.box)
    : Option (Except (aA×Int) (Int×Int×(List Arr))))>>=λa=>match a with
    |.error r=>some r
    |.ok (g,h,i)=>
     some ((aA.mk g h i),0)
def nB (a:(List aA)×Int×Int×Int×(List aA)×Int):Option (List aA):=match a with
  |(l,b,e,c,d,x)=>
   if (decide (x<c)) then
    lget l (w64 (b+(w64 (x*e))))>>=λy=>
    lapp d [y]>>=λf=>
    nB (l,b,e,c,f,(w64 (x+1)))
   else
    some d
 partial_fixpoint
def sB (l:(List aA)) (b:Int) (d:Int) (a:Int):Option (List aA):=
 mkcap a>>=λe=>
 (
  nB (l,b,d,a,[],0)
 : Option (List aA))>>=λc=>
 some c
def oQ (a:bZ×Arr×LI×LI×Int×Int×Int×Int×Int×(List aA)):Option (Except (Arr×Int) (List aA)):=match a with
  |(f,e,k,m,j,b,c,i,d,h)=>
   if (decide (d<b)) then
    sB e.cells (w64 ((w64 ((w64 (i*b))*c))+d)) b c>>=λn=>
    sU f n>>=λ(o,g)=>
    if (g != 0) then
     some (.error ((Arr.mk [] []),g))
    else
     lapp h [o]>>=λl=>
     oQ (f,e,k,m,j,b,c,i,(w64 (d+1)),l)
   else
    some (.ok h)
 partial_fixpoint
def mM (a:bZ×Arr×LI×LI×Int×Int×Int×Int×(List aA)):Option (Except (Arr×Int) (List aA)):=match a with
  |(f,d,i,j,b,h,e,c,g)=>
   if (decide (c<b)) then
    (
     oQ (f,d,i,j,b,h,e,c,0,g)
    : Option (Except (Arr×Int) (List aA)))>>=λl=>match l with
    |.error r=>some (.error r)
    |.ok k=>
     mM (f,d,i,j,b,h,e,(w64 (c+1)),k)
   else
    some (.ok g)
 partial_fixpoint
def xR (f:bZ) (a:Arr) (g:Bool):Option (Arr×Int):=
 jX f [a]>>=λe=>
 if (e != 0) then
  some ((Arr.mk [] []),e)
 else
  if ((List.length a.shape:Int)==0) then
   fH a>>=λx=>
   some (x,0)
  else
   vK a g>>=λk=>
   rS a.shape>>=λ(n,b)=>
   Ad1 n k (w64 (k+1)) b>>=λ(c,o)=>
   jW c>>=λ(q,d)=>
   if (d != 0) then
    some ((Arr.mk [] []),d)
   else
    sW a.shape k>>=λ(j,m,h)=>
    (
     mM (f,a,c,o,j,m,h,0,[])
    : Option (Except (Arr×Int) (List aA)))>>=λl=>match l with
    |.error r=>some r
    |.ok i=>
     fH (Arr.mk c i)>>=λp=>
     some (p,0)
def gX (n:Node):Option (bZ):=
 if (n.kind==35) then
  lget n.kids 0>>=λy=>
  some (bZ.mk y.op_ true)
 else
  some (bZ.mk n.op_ false)
def p_arr_Copy_V_l0 (a:Arr×LI×Int×(List aA)):Option (List aA):=match a with
  |(b,l,x,c)=>
   if (decide (x<(List.length b.cells:Int))) then
    lget b.cells x>>=λy=>
    kG y>>=λe=>
    lapp c [e]>>=λd=>
    p_arr_Copy_V_l0 (b,l,(w64 (x+1)),d)
   else
    some c
 partial_fixpoint
def wN (a:Arr):Option (Nat×Nat×LI×(List aA)):=
 lapp ([]:LI) a.shape>>=λl=>
 (
  p_arr_Copy_V_l0 (a,l,0,([]:List aA))
 : Option (List aA))>>=λb=>
 some ((List.length l),(List.length b),l,b)
def nA (a:bZ×Arr×Nat×Nat×LI×Int×Int×Int×Int×Int×(List aA)×Int×(List aA)):Option (Except (Arr×Int) (List aA)):=match a with
  |(f,p,n,k,b,r,e,i,m,o,l,d,g)=>
   if (decide (d<(List.length l:Int))) then
    lto l (w64 (d+1))>>=λq=>
    sU f q>>=λ(s,h)=>
    if (h != 0) then
     some (.error ((Arr.mk [] []),h))
    else
     aidx (w64 ((w64 ((w64 ((w64 (m*e))*i))+o))+(w64 (d*e)))) k>>=λj=>
     aset g j s>>=λc=>
     nA (f,p,n,k,b,r,e,i,m,o,l,(w64 (d+1)),c)
   else
    some (.ok g)
 partial_fixpoint
def kP (a:bZ×Arr×Nat×Nat×LI×Int×Int×Int×Int×Int×(List aA)):Option (Except (Arr×Int) (List aA)):=match a with
  |(f,g,n,j,b,k,c,d,h,e,i)=>
   if (decide (e<c)) then
    sB g.cells (w64 ((w64 ((w64 (h*c))*d))+e)) c d>>=λl=>
    (
     nA (f,g,n,j,b,k,c,d,h,e,l,1,i)
    : Option (Except (Arr×Int) (List aA)))>>=λo=>match o with
    |.error r=>some (.error r)
    |.ok m=>
     kP (f,g,n,j,b,k,c,d,h,(w64 (e+1)),m)
   else
    some (.ok i)
 partial_fixpoint
def kO (a:bZ×Arr×Nat×Nat×LI×Int×Int×Int×Int×(List aA)):Option (Except (Arr×Int) (List aA)):=match a with
  |(f,e,n,i,b,c,j,h,d,g)=>
   if (decide (d<c)) then
    (
     kP (f,e,n,i,b,c,j,h,d,0,g)
    : Option (Except (Arr×Int) (List aA)))>>=λl=>match l with
    |.error r=>some (.error r)
    |.ok k=>
     kO (f,e,n,i,b,c,j,h,(w64 (d+1)),k)
   else
    some (.ok g)
 partial_fixpoint
def vJ (f:bZ) (a:Arr) (j:Bool):Option (Arr×Int):=
 jX f [a]>>=λe=>
 if (e != 0) then
  some ((Arr.mk [] []),e)
 else
  wN a>>=λ(n,c,b,d)=>
  if ((List.length a.shape:Int)==0) then
   afrz c d>>=λh=>
   afrz n b>>=λo=>
   some ((Arr.mk o h),0)
  else
   vK a j>>=λx=>
   sW a.shape x>>=λ(l,q,k)=>
   (
    kO (f,a,n,c,b,l,q,k,0,d)
   : Option (Except (Arr×Int) (List aA)))>>=λm=>match m with
   |.error r=>some r
   |.ok g=>
    afrz c g>>=λi=>
    afrz n b>>=λp=>
    some ((Arr.mk p i),0)
def Aa4 (a:Int):Option (Int×Int):=
 Aa5 0 a>>=λ(x,b)=>
 some (x,b)
def AhF (a:Int):Option (Int):=
 if (decide (a<0)) then
  some (-1)
 else
  if (decide (a>0)) then
   some 1
  else
   some 0
def AhE (a:Int):Option (Int×Int):=
 if (decide (a<0)) then
  Aa4 a>>=λ(x,b)=>
  some (x,b)
 else
  some (a,0)
def wP (a:Int) (n:Int):Option (Int×Int):=
 if (a==1) then
  Aa4 n>>=λ(x,b)=>
  some (x,b)
 else
  if (a==2) then
   AhF n>>=λc=>
   some (c,0)
  else
   if (a==3) then
    AhE n>>=λ(d,e)=>
    some (d,e)
   else
    if (n != 0) then
     if (n != 1) then
      some (0,5)
     else
      some ((w64 (1-n)),0)
    else
     some ((w64 (1-n)),0)
def mX (a:Int×Arr×LI×Int×(List aA)):Option (Except (Arr×Int) (List aA)):=match a with
  |(e,b,l,c,f)=>
   if (decide (c<(List.length b.cells:Int))) then
    lget b.cells c>>=λy=>
    if (y.kind != 0) then
     some (.error ((Arr.mk [] []),5))
    else
     wP e y.n>>=λ(n,d)=>
     if (d != 0) then
      some (.error ((Arr.mk [] []),d))
     else
      lapp f [(aA.mk 0 n [])]>>=λg=>
      mX (e,b,l,(w64 (c+1)),g)
   else
    some (.ok f)
 partial_fixpoint
def sA (a:Int) (b:Arr):Option (Arr×Int):=
 iM b>>=λe=>
 if (e != 0) then
  some ((Arr.mk [] []),e)
 else
  (
   if (a==1) then
    some (a==1)
   else
    if (a==2) then
     some (a==2)
    else
     if (a==3) then
      some (a==3)
     else
      some (a==4)
  : Option (Bool))>>=λx=>
  if x then
   lapp [] b.shape>>=λl=>
   (
    mX (a,b,l,0,[])
   : Option (Except (Arr×Int) (List aA)))>>=λd=>match d with
   |.error r=>some r
   |.ok c=>
    some ((Arr.mk l c),0)
  else
   if (a==19) then
    some ((Arr.mk [] []),10)
   else
    some ((Arr.mk [] []),1)
def jJ (a:(List Arr)×Int):Option (Except (Int) (Unit)):=match a with
  |(l,x)=>
   if (decide (x<(List.length l:Int))) then
    lget l x>>=λy=>
    iM y>>=λe=>
    if (e != 0) then
     some (.error e)
    else
     jJ (l,(w64 (x+1)))
   else
    some (.ok ())
 partial_fixpoint
def pM (l:(List Arr)):Option (Int):=
 (
  jJ (l,0)
 : Option (Except (Int) (Unit)))>>=λa=>match a with
 |.error r=>some r
 |.ok _=>
  some 0
def lO (a:(List aA)×Int):Option (Except (Bool) (Unit)):=match a with
  |(l,x)=>
   if (decide (x<(List.length l:Int))) then
    lget l x>>=λy=>
    if (y.kind==2) then
     some (.error false)
    else
     lget l 0>>=λb=>
     if (y.kind != b.kind) then
      some (.error false)
     else
      lO (l,(w64 (x+1)))
   else
    some (.ok ())
 partial_fixpoint
def wT (l:(List aA)):Option (Bool):=
 (
  lO (l,0)
 : Option (Except (Bool) (Unit)))>>=λa=>match a with
 |.error r=>some r
 |.ok _=>
  some true
def lM (a:Arr×Int×Int×(List (List aA))×Int):Option ((List (List aA))):=match a with
  |(b,k,c,l,x)=>
   if (decide (x<c)) then
    Af4 b.cells (w64 (x*k)) (w64 ((w64 (x+1))*k))>>=λd=>
    lapp l [d]>>=λe=>
    lM (b,k,c,e,(w64 (x+1)))
   else
    some l
 partial_fixpoint
def sY (a:Arr):Option ((List (List aA))):=
 lget a.shape 0>>=λy=>
 if (y==0) then
  some []
 else
  lget a.shape 0>>=λc=>
  idiv .i64 (List.length a.cells:Int) c>>=λk=>
  lget a.shape 0>>=λd=>
  (
   lM (a,k,d,[],0)
  : Option ((List (List aA))))>>=λb=>
  some b
def p_arr_order_int (a:Int) (b:Int):Option (Int):=
 if (decide (a<b)) then
  some (-1)
 else
  if (decide (a>b)) then
   some 1
  else
   some 0
def oG (a:Int) (b:Int):Option (Int):=
 if (decide (a<b)) then
  some (-1)
 else
  if (decide (a>b)) then
   some 1
  else
   some 0
def Ac5 (i:Int) (a:Arr) (b:Arr):Option (Int):=
 lget a.shape i>>=λy=>
 lget b.shape i>>=λc=>
 p_arr_order_int y c>>=λx=>
 some x
def dJ (a:Int×Arr×Arr×Int):Option (Except (Int) (Unit)):=match a with
  |(n,b,c,x)=>
   if (decide (x<n)) then
    Ac5 x b c>>=λo=>
    if (o != 0) then
     some (.error o)
    else
     dJ (n,b,c,(w64 (x+1)))
   else
    some (.ok ())
 partial_fixpoint
def p_arr_Cmp_1__arr_Cmp_2 (n:Int) (b:Arr) (a:Arr):Option (Int):=
 (
  dJ (n,b,a,0)
 : Option (Except (Int) (Unit)))>>=λc=>match c with
 |.error r=>some r
 |.ok _=>
  some 0
mutual
def mV (a:aA×aA):Option (Int):=match a with
  |(c,b)=>
   p_arr_order_int c.kind b.kind>>=λo=>
   if (o != 0) then
    some o
   else
    oG c.n b.n>>=λd=>
    if (d != 0) then
     if (d==0) then
      p_arr_order_int (List.length c.box:Int) (List.length b.box:Int)>>=λx=>
      some x
     else
      some d
    else
     if ((List.length c.box:Int)==0) then
      if (d==0) then
       p_arr_order_int (List.length c.box:Int) (List.length b.box:Int)>>=λe=>
       some e
      else
       some d
     else
      if ((List.length b.box:Int)==0) then
       if (d==0) then
        p_arr_order_int (List.length c.box:Int) (List.length b.box:Int)>>=λf=>
        some f
       else
        some d
      else
       lget c.box 0>>=λy=>
       lget b.box 0>>=λh=>
       xP (y,h)>>=λg=>
       some g
 partial_fixpoint
def xP (a:Arr×Arr):Option (Int):=match a with
  |(c,b)=>
   p_arr_order_int (List.length c.shape:Int) (List.length b.shape:Int)>>=λo=>
   if (o != 0) then
    some o
   else
    p_arr_Cmp_1__arr_Cmp_2 (List.length c.shape:Int) c b>>=λd=>
    if (d != 0) then
     some d
    else
     p_arr_Cmp_1__arr_Cmp_3 ((if (List.length b.cells:Int)<(List.length c.cells:Int) then (List.length b.cells:Int) else (List.length c.cells:Int)),c,b)>>=λe=>
     if (e != 0) then
      some e
     else
      p_arr_order_int (List.length c.cells:Int) (List.length b.cells:Int)>>=λx=>
      some x
 partial_fixpoint
def dK (a:Int×Arr×Arr×Int):Option (Except (Int) (Unit)):=match a with
  |(n,b,c,x)=>
   if (decide (x<n)) then
    Ac6 (x,b,c)>>=λo=>
    if (o != 0) then
     some (.error o)
    else
     dK (n,b,c,(w64 (x+1)))
   else
    some (.ok ())
 partial_fixpoint
def p_arr_Cmp_1__arr_Cmp_3 (a:Int×Arr×Arr):Option (Int):=match a with
  |(n,b,c)=>
   (
    dK (n,b,c,0)
   : Option (Except (Int) (Unit)))>>=λd=>match d with
   |.error r=>some r
   |.ok _=>
    some 0
 partial_fixpoint
def Ac6 (a:Int×Arr×Arr):Option (Int):=match a with
  |(i,b,c)=>
   lget b.cells i>>=λy=>
   lget c.cells i>>=λd=>
   mV (y,d)>>=λx=>
   some x
 partial_fixpoint
end
def bU (a:(List aA)×(List aA)×Int):Option (Except (Int) (Unit)):=match a with
  |(b,d,x)=>
   if (decide (x<(List.length b:Int))) then
    lget b x>>=λy=>
    if (decide (x>=(List.length d:Int))) then
     some (.error 1)
    else
     lget d x>>=λe=>
     mV (y,e)>>=λc=>
     if (c != 0) then
      some (.error c)
     else
      bU (b,d,(w64 (x+1)))
   else
    some (.ok ())
 partial_fixpoint
def cF (a:(List aA)) (b:(List aA)):Option (Int):=
 (
  bU (a,b,0)
 : Option (Except (Int) (Unit)))>>=λc=>match c with
 |.error r=>some r
 |.ok _=>
  if (decide ((List.length a:Int)<(List.length b:Int))) then
   some (-1)
  else
   some 0
def kR (i:Int) (k:Int) (a:(List (List aA))) (b:Bool):Option (Int):=
 lget a i>>=λy=>
 lget a k>>=λc=>
 cF y c>>=λo=>
 if b then
  some (w64 (0-o))
 else
  some o
def aV (a:Nat×Int×Int×((List (List aA)))×Bool×Int×Int×LI):Option LI:=match a with
  |(n,d,b,e,f,i,j,c)=>
   if (decide (j>d)) then
    aidx j n>>=λk=>
    pV c k>>=λy=>
    aidx (w64 (j-1)) n>>=λl=>
    pV c l>>=λr=>
    kR y r e f>>=λx=>
    if (decide (x<0)) then
     aidx (w64 (j-1)) n>>=λm=>
     pV c m>>=λs=>
     aidx j n>>=λo=>
     pV c o>>=λt=>
     aidx j n>>=λp=>
     aset c p s>>=λg=>
     aidx (w64 (j-1)) n>>=λq=>
     aset g q t>>=λh=>
     aV (n,d,b,e,f,i,(w64 (j-1)),h)
    else
     some c
   else
    some c
 partial_fixpoint
def aU (a:Nat×Int×Int×((List (List aA)))×Bool×Int×LI):Option LI:=match a with
  |(n,c,b,d,e,i,f)=>
   if (decide (i<b)) then
    (
     aV (n,c,b,d,e,i,i,f)
    : Option LI)>>=λg=>
    aU (n,c,b,d,e,(w64 (i+1)),g)
   else
    some f
 partial_fixpoint
def bN (n:Nat) (a:Int) (b:Int) (f:LI) (c:(List (List aA))) (d:Bool):Option LI:=
 (
  aU (n,a,b,c,d,(w64 (a+1)),f)
 : Option LI)>>=λe=>
 some e
def bB (a:Nat×Int×Int×Int×((List (List aA)))×Bool×Int×LI):Option LI:=match a with
  |(n,d,b,e,f,g,i,c)=>
   if (decide (i<e)) then
    aidx (w64 (b+i)) n>>=λj=>
    pV c j>>=λy=>
    aidx (w64 (d+i)) n>>=λl=>
    pV c l>>=λp=>
    aidx (w64 (d+i)) n>>=λm=>
    aset c m y>>=λh=>
    aidx (w64 (b+i)) n>>=λo=>
    aset h o p>>=λk=>
    bB (n,d,b,e,f,g,(w64 (i+1)),k)
   else
    some c
 partial_fixpoint
def bK (n:Nat) (a:Int) (b:Int) (g:Int) (f:LI) (c:(List (List aA))) (d:Bool):Option LI:=
 (
  bB (n,a,b,g,c,d,0,f)
 : Option LI)>>=λe=>
 some e
def bF (a:Nat×Int×((List (List aA)))×Bool×Int×LI×Int):Option (Int×LI):=match a with
  |(n,m,b,c,i,d,j)=>
   if (i != j) then
    if (decide (i>j)) then
     bK n (w64 (m-i)) m j d b c>>=λx=>
     bF (n,m,b,c,(w64 (i-j)),x,j)
    else
     bK n (w64 (m-i)) (w64 ((w64 (m+j))-i)) i d b c>>=λe=>
     bF (n,m,b,c,i,e,(w64 (j-i)))
   else
    some (i,d)
 partial_fixpoint
def cI (n:Nat) (e:Int) (m:Int) (b:Int) (f:LI) (a:(List (List aA))) (c:Bool):Option LI:=
 (
  bF (n,m,a,c,(w64 (m-e)),f,(w64 (b-m)))
 : Option (Int×LI))>>=λ(d,g)=>
 bK n (w64 (m-d)) m d g a c>>=λh=>
 some h
def aK (a:Nat×Int×LI×((List (List aA)))×Bool×Int×Int):Option (Int):=match a with
  |(n,c,b,d,e,i,j)=>
   if (decide (i<j)) then
    aidx (w64 (Int.fdiv (IntKind.u64.wrap (w64 (i+j))) (2 ^ 1))) n>>=λf=>
    pV b f>>=λy=>
    aidx c n>>=λg=>
    pV b g>>=λh=>
    kR y h d e>>=λx=>
    if (decide (x<0)) then
     aK (n,c,b,d,e,(w64 ((w64 (Int.fdiv (IntKind.u64.wrap (w64 (i+j))) (2 ^ 1)))+1)),j)
    else
     aK (n,c,b,d,e,i,(w64 (Int.fdiv (IntKind.u64.wrap (w64 (i+j))) (2 ^ 1))))
   else
    some i
 partial_fixpoint
def aR (a:Nat×((List (List aA)))×Bool×Int×Int×LI):Option LI:=match a with
  |(n,d,e,c,k,b)=>
   if (decide (k<(w64 (c-1)))) then
    aidx (w64 (k+1)) n>>=λh=>
    pV b h>>=λm=>
    aidx k n>>=λi=>
    pV b i>>=λo=>
    aidx k n>>=λj=>
    aset b j m>>=λf=>
    aidx (w64 (k+1)) n>>=λl=>
    aset f l o>>=λg=>
    aR (n,d,e,c,(w64 (k+1)),g)
   else
    some b
 partial_fixpoint
def aL (a:Nat×Int×LI×((List (List aA)))×Bool×Int×Int):Option (Int):=match a with
  |(n,m,d,e,f,b,c)=>
   if (decide (b<c)) then
    aidx m n>>=λg=>
    pV d g>>=λj=>
    aidx (w64 (Int.fdiv (IntKind.u64.wrap (w64 (b+c))) (2 ^ 1))) n>>=λh=>
    pV d h>>=λk=>
    kR j k e f>>=λi=>
    if (!(decide (i<0))) then
     aL (n,m,d,e,f,(w64 ((w64 (Int.fdiv (IntKind.u64.wrap (w64 (b+c))) (2 ^ 1)))+1)),c)
    else
     aL (n,m,d,e,f,b,(w64 (Int.fdiv (IntKind.u64.wrap (w64 (b+c))) (2 ^ 1))))
   else
    some b
 partial_fixpoint
def aS (a:Nat×((List (List aA)))×Bool×Int×Int×LI):Option LI:=match a with
  |(n,e,f,d,b,c)=>
   if (decide (b>d)) then
    aidx (w64 (b-1)) n>>=λi=>
    pV c i>>=λm=>
    aidx b n>>=λj=>
    pV c j>>=λo=>
    aidx b n>>=λk=>
    aset c k m>>=λg=>
    aidx (w64 (b-1)) n>>=λl=>
    aset g l o>>=λh=>
    aS (n,e,f,d,(w64 (b-1)),h)
   else
    some c
 partial_fixpoint
def aM (a:Nat×Int×Int×Int×LI×((List (List aA)))×Bool×Int×Int):Option (Int):=match a with
  |(n,f,m,b,e,g,h,c,d)=>
   if (decide (c<d)) then
    aidx (w64 ((w64 ((w64 ((w64 (Int.fdiv (IntKind.u64.wrap (w64 (f+b))) (2 ^ 1)))+m))-1))-(w64 (Int.fdiv (IntKind.u64.wrap (w64 (c+d))) (2 ^ 1))))) n>>=λi=>
    pV e i>>=λl=>
    aidx (w64 (Int.fdiv (IntKind.u64.wrap (w64 (c+d))) (2 ^ 1))) n>>=λj=>
    pV e j>>=λo=>
    kR l o g h>>=λk=>
    if (!(decide (k<0))) then
     aM (n,f,m,b,e,g,h,(w64 ((w64 (Int.fdiv (IntKind.u64.wrap (w64 (c+d))) (2 ^ 1)))+1)),d)
    else
     aM (n,f,m,b,e,g,h,c,(w64 (Int.fdiv (IntKind.u64.wrap (w64 (c+d))) (2 ^ 1))))
   else
    some c
 partial_fixpoint
def aC (a:Nat×Int×Int×Int×LI×(List (List aA))×Bool):Option LI:=match a with
  |(n,c,m,b,g,e,f)=>
   if ((w64 (m-c))==1) then
    (
     aK (n,c,g,e,f,m,b)
    : Option (Int))>>=λo=>
    (
     aR (n,e,f,o,c,g)
    : Option LI)>>=λk=>
    some k
   else
    if ((w64 (b-m))==1) then
     (
      aL (n,m,g,e,f,c,m)
     : Option (Int))>>=λp=>
     (
      aS (n,e,f,p,m,g)
     : Option LI)>>=λl=>
     some l
    else
     (
      if (decide (m>(w64 (Int.fdiv (IntKind.u64.wrap (w64 (c+b))) (2 ^ 1))))) then
       some ((w64 ((w64 ((w64 (Int.fdiv (IntKind.u64.wrap (w64 (c+b))) (2 ^ 1)))+m))-b)),(w64 (Int.fdiv (IntKind.u64.wrap (w64 (c+b))) (2 ^ 1))))
      else
       some (c,m)
     : Option (Int×Int))>>=λ(r,q)=>
     (
      aM (n,c,m,b,g,e,f,r,q)
     : Option (Int))>>=λd=>
     if (decide (d<m)) then
      (
       if (decide (m<(w64 ((w64 ((w64 (Int.fdiv (IntKind.u64.wrap (w64 (c+b))) (2 ^ 1)))+m))-d)))) then
        cI n d m (w64 ((w64 ((w64 (Int.fdiv (IntKind.u64.wrap (w64 (c+b))) (2 ^ 1)))+m))-d)) g e f>>=λs=>
        some s
       else
        some g
      : Option LI)>>=λh=>
      if (decide (c<d)) then
       (
        if (decide (d<(w64 (Int.fdiv (IntKind.u64.wrap (w64 (c+b))) (2 ^ 1))))) then
         aC (n,c,d,(w64 (Int.fdiv (IntKind.u64.wrap (w64 (c+b))) (2 ^ 1))),h,e,f)>>=λt=>
         some t
        else
         some h
       : Option LI)>>=λi=>
       if (decide ((w64 (Int.fdiv (IntKind.u64.wrap (w64 (c+b))) (2 ^ 1)))<(w64 ((w64 ((w64 (Int.fdiv (IntKind.u64.wrap (w64 (c+b))) (2 ^ 1)))+m))-d)))) then
        if (decide ((w64 ((w64 ((w64 (Int.fdiv (IntKind.u64.wrap (w64 (c+b))) (2 ^ 1)))+m))-d))<b)) then
         aC (n,(w64 (Int.fdiv (IntKind.u64.wrap (w64 (c+b))) (2 ^ 1))),(w64 ((w64 ((w64 (Int.fdiv (IntKind.u64.wrap (w64 (c+b))) (2 ^ 1)))+m))-d)),b,i,e,f)>>=λu=>
         some u
        else
         some i
       else
        some i
      else
       if (decide ((w64 (Int.fdiv (IntKind.u64.wrap (w64 (c+b))) (2 ^ 1)))<(w64 ((w64 ((w64 (Int.fdiv (IntKind.u64.wrap (w64 (c+b))) (2 ^ 1)))+m))-d)))) then
        if (decide ((w64 ((w64 ((w64 (Int.fdiv (IntKind.u64.wrap (w64 (c+b))) (2 ^ 1)))+m))-d))<b)) then
         aC (n,(w64 (Int.fdiv (IntKind.u64.wrap (w64 (c+b))) (2 ^ 1))),(w64 ((w64 ((w64 (Int.fdiv (IntKind.u64.wrap (w64 (c+b))) (2 ^ 1)))+m))-d)),b,h,e,f)>>=λv=>
         some v
        else
         some h
       else
        some h
     else
      if (decide (c<d)) then
       (
        if (decide (d<(w64 (Int.fdiv (IntKind.u64.wrap (w64 (c+b))) (2 ^ 1))))) then
         aC (n,c,d,(w64 (Int.fdiv (IntKind.u64.wrap (w64 (c+b))) (2 ^ 1))),g,e,f)>>=λw=>
         some w
        else
         some g
       : Option LI)>>=λj=>
       if (decide ((w64 (Int.fdiv (IntKind.u64.wrap (w64 (c+b))) (2 ^ 1)))<(w64 ((w64 ((w64 (Int.fdiv (IntKind.u64.wrap (w64 (c+b))) (2 ^ 1)))+m))-d)))) then
        if (decide ((w64 ((w64 ((w64 (Int.fdiv (IntKind.u64.wrap (w64 (c+b))) (2 ^ 1)))+m))-d))<b)) then
         aC (n,(w64 (Int.fdiv (IntKind.u64.wrap (w64 (c+b))) (2 ^ 1))),(w64 ((w64 ((w64 (Int.fdiv (IntKind.u64.wrap (w64 (c+b))) (2 ^ 1)))+m))-d)),b,j,e,f)>>=λx=>
         some x
        else
         some j
       else
        some j
      else
       if (decide ((w64 (Int.fdiv (IntKind.u64.wrap (w64 (c+b))) (2 ^ 1)))<(w64 ((w64 ((w64 (Int.fdiv (IntKind.u64.wrap (w64 (c+b))) (2 ^ 1)))+m))-d)))) then
        if (decide ((w64 ((w64 ((w64 (Int.fdiv (IntKind.u64.wrap (w64 (c+b))) (2 ^ 1)))+m))-d))<b)) then
         aC (n,(w64 (Int.fdiv (IntKind.u64.wrap (w64 (c+b))) (2 ^ 1))),(w64 ((w64 ((w64 (Int.fdiv (IntKind.u64.wrap (w64 (c+b))) (2 ^ 1)))+m))-d)),b,g,e,f)>>=λy=>
         some y
        else
         some g
       else
        some g
 partial_fixpoint
def bG (a:Nat×Int×((List (List aA)))×Bool×Int×Int×LI):Option (Int×LI):=match a with
  |(n,g,b,e,d,c,f)=>
   if (decide (c<=g)) then
    bN n d c f b e>>=λx=>
    bG (n,g,b,e,c,(w64 (c+20)),x)
   else
    some (d,f)
 partial_fixpoint
def bI (a:Nat×Int×((List (List aA)))×Bool×Int×Int×Int×LI):Option (Int×LI):=match a with
  |(n,h,b,f,e,d,c,g)=>
   if (decide (c<=h)) then
    aC (n,d,(w64 (d+e)),c,g,b,f)>>=λi=>
    bI (n,h,b,f,e,c,(w64 (c+(w64 (2*e)))),i)
   else
    some (d,g)
 partial_fixpoint
def bH (a:Nat×Int×((List (List aA)))×Bool×Int×LI):Option LI:=match a with
  |(n,d,b,f,c,g)=>
   if (decide (c<d)) then
    (
     bI (n,d,b,f,c,0,(w64 (2*c)),g)
    : Option (Int×LI))>>=λ(e,h)=>
    (
     if (decide ((w64 (e+c))<d)) then
      aC (n,e,(w64 (e+c)),d,h,b,f)>>=λj=>
      some j
     else
      some h
    : Option LI)>>=λi=>
    bH (n,d,b,f,(w64 (c*2)),i)
   else
    some g
 partial_fixpoint
def p_slices_stableCmpFunc_int__seek_grade_1 (n:Nat) (c:Int) (f:LI) (b:(List (List aA))) (a:Bool):Option LI:=
 (
  bG (n,c,b,a,0,20,f)
 : Option (Int×LI))>>=λ(d,g)=>
 bN n d c g b a>>=λh=>
 (
  bH (n,c,b,a,20,h)
 : Option LI)>>=λe=>
 some e
def p_slices_SortStableFunc_int__seek_grade_1 (n:Nat) (a:LI) (b:(List (List aA))) (c:Bool):Option LI:=
 p_slices_stableCmpFunc_int__seek_grade_1 n (n:Int) a b c>>=λx=>
 some x
def lK (a:Arr×Bool×((List (List aA)))×Int×LI):Option LI:=match a with
  |(e,g,c,b,d)=>
   if (decide (b<((Int.toNat (List.length c:Int)):Int))) then
    aidx b (Int.toNat (List.length c:Int))>>=λj=>
    aset d j b>>=λf=>
    lK (e,g,c,(w64 (b+1)),f)
   else
    some d
 partial_fixpoint
def lL (a:Arr×Bool×((List (List aA)))×LI×Int×(List aA)):Option (List aA):=match a with
  |(f,g,b,e,c,d)=>
   if (decide (c<((Int.toNat (List.length b:Int)):Int))) then
    aidx c (Int.toNat (List.length b:Int))>>=λi=>
    pV e i>>=λh=>
    lapp d [(aA.mk 0 h [])]>>=λl=>
    lL (f,g,b,e,(w64 (c+1)),l)
   else
    some d
 partial_fixpoint
def wR (b:Arr) (c:Bool):Option (Arr×Int):=
 if ((List.length b.shape:Int)==0) then
  some ((Arr.mk [] []),6)
 else
  wT b.cells>>=λx=>
  if (!x) then
   some ((Arr.mk [] []),5)
  else
   sY b>>=λa=>
   mkarr (List.length a:Int) 0>>=λd=>
   (
    lK (b,c,a,0,d)
   : Option LI)>>=λe=>
   p_slices_SortStableFunc_int__seek_grade_1 (Int.toNat (List.length a:Int)) e a c>>=λg=>
   (
    lL (b,c,a,g,0,[])
   : Option (List aA))>>=λf=>
   some ((Arr.mk [((Int.toNat (List.length a:Int)):Int)] f),0)
def uL (y:(List aA)) (a:(List aA)):Option (Bool):=
 cF a y>>=λx=>
 some (x==0)
def bO (a:((List (List aA)))×(List aA)×Int):Option (Except (Int) (Unit)):=match a with
  |(s,b,x)=>
   if (decide (x<(List.length s:Int))) then
    lget s x>>=λy=>
    uL y b>>=λc=>
    if c then
     some (.error x)
    else
     bO (s,b,(w64 (x+1)))
   else
    some (.ok ())
 partial_fixpoint
def dT (s:(List (List aA))) (b:(List aA)):Option (Int):=
 (
  bO (s,b,0)
 : Option (Except (Int) (Unit)))>>=λa=>match a with
 |.error r=>some r
 |.ok _=>
  some (-1)
def cC (s:(List (List aA))) (b:(List aA)):Option (Bool):=
 dT s b>>=λx=>
 some (decide (x>=0))
def kB (a:Arr×LI×Nat×LI×((List (List aA)))×(List (List aA))×Int×(List aA)):Option ((List (List aA))×(List aA)):=match a with
  |(x,j,k,b,e,c,f,d)=>
   if (decide (f<(List.length e:Int))) then
    (
     lget e f>>=λy=>
     cC c y>>=λm=>
     if (!m) then
      lapp c [y]>>=λg=>
      lapp d y>>=λl=>
      some (g,l)
     else
      some (c,d)
    : Option ((List (List aA))×(List aA)))>>=λ(h,i)=>
    kB (x,j,k,b,e,h,(w64 (f+1)),i)
   else
    some (c,d)
 partial_fixpoint
def uA (d:Arr):Option (Arr):=
 fH d>>=λx=>
 (
  if ((List.length x.shape:Int)==0) then
   some [1]
  else
   some x.shape
 : Option LI)>>=λa=>
 rS a>>=λ(c,b)=>
 sY (Arr.mk a x.cells)>>=λi=>
 (
  kB (x,a,c,b,i,[],0,[])
 : Option ((List (List aA))×(List aA)))>>=λ(f,g)=>
 aidx 0 c>>=λj=>
 aset b j (List.length f:Int)>>=λe=>
 afrz c e>>=λh=>
 some (Arr.mk h g)
def rC (a:Int) (b:Arr):Option (Arr×Int):=
 pM [b]>>=λe=>
 if (e != 0) then
  some ((Arr.mk [] []),e)
 else
  (
   if (a==12) then
    some (a==12)
   else
    some (a==13)
  : Option (Bool))>>=λx=>
  if x then
   wR b (a==13)>>=λ(c,d)=>
   some (c,d)
  else
   if (a==14) then
    uA b>>=λf=>
    some (f,0)
   else
    some ((Arr.mk [] []),1)
def jF (a:Arr×aA×Int×Int×(List aA)):Option (List aA):=match a with
  |(d,e,c,x,b)=>
   if (decide (x<c)) then
    lapp b [(aA.mk 0 x [])]>>=λl=>
    jF (d,e,c,(w64 (x+1)),l)
   else
    some b
 partial_fixpoint
def sD (a:Arr):Option (Arr×Int):=
 if (decide ((List.length a.shape:Int)>0)) then
  some ((Arr.mk [] []),6)
 else
  lget a.cells 0>>=λy=>
  if (y.kind != 0) then
   some ((Arr.mk [] []),5)
  else
   lget a.cells 0>>=λd=>
   if (decide (d.n<0)) then
    some ((Arr.mk [] []),5)
   else
    lget a.cells 0>>=λe=>
    if (decide (e.n>16384)) then
     some ((Arr.mk [] []),12)
    else
     lget a.cells 0>>=λb=>
     lget [b.n] 0>>=λf=>
     (
      jF (a,b,f,0,[])
     : Option (List aA))>>=λc=>
     some ((Arr.mk [b.n] c),0)
def AeC (n:Int):Option (Arr):=
 some (Arr.mk [] [(aA.mk 0 n [])])
def sE (a:Arr):Option (Int):=
 if ((List.length a.shape:Int)==0) then
  some 1
 else
  lget a.shape 0>>=λy=>
  some y
def hU (a:Arr×Int×LI×Int×Int):Option (Int):=match a with
  |(c,e,l,b,x)=>
   if (decide (x<(List.length l:Int))) then
    lget l x>>=λd=>
    hU (c,e,l,(w64 (b*d)),(w64 (x+1)))
   else
    some b
 partial_fixpoint
def hZ (a:Arr×Int×Int×Int×(List aA)×Int):Option (List aA):=match a with
  |(d,c,f,b,e,i)=>
   if (decide (i>=0)) then
    Af4 d.cells (w64 (b+(w64 (i*c)))) (w64 (b+(w64 ((w64 (i+1))*c))))>>=λg=>
    lapp e g>>=λh=>
    hZ (d,c,f,b,h,(w64 (i-1)))
   else
    some e
 partial_fixpoint
def fR (a:Arr×Int×Int×(List aA)×Int):Option (List aA):=match a with
  |(c,e,b,f,d)=>
   if (decide (d<(List.length c.cells:Int))) then
    (
     hZ (c,e,b,d,f,(w64 (b-1)))
    : Option (List aA))>>=λg=>
    fR (c,e,b,g,(w64 (d+(w64 (b*e)))))
   else
    some f
 partial_fixpoint
def p_layout_turned (a:Arr) (b:Int):Option (Arr):=
 if ((List.length a.shape:Int)==0) then
  some a
 else
  lfrom a.shape (w64 (b+1))>>=λl=>
  (
   hU (a,b,l,1,0)
  : Option (Int))>>=λd=>
  lget a.shape b>>=λc=>
  (
   fR (a,d,c,[],0)
  : Option (List aA))>>=λe=>
  some (Arr.mk a.shape e)
def gG (a:Arr×Nat×LI×Int×LI×(List aA)×Int×Int):Option (Int):=match a with
  |(c,x,f,g,d,e,n,b)=>
   if (decide (b<((Int.toNat (x:Int)):Int))) then
    lget c.shape b>>=λy=>
    aidx (w64 ((w64 (((Int.toNat (x:Int)):Int)-1))-b)) (Int.toNat (x:Int))>>=λj=>
    pV d j>>=λh=>
    gG (c,x,f,g,d,e,(w64 ((w64 (n*y))+h)),(w64 (b+1)))
   else
    some n
 partial_fixpoint
def p_layout_flipped_l2 (a:Arr×Nat×LI×Int×(List aA)×Int×LI):Option (Except LI LI):=match a with
  |(e,x,d,n,l,i,b)=>
   if (decide (i>=0)) then
    aidx i (Int.toNat (x:Int))>>=λg=>
    pV b g>>=λo=>
    aidx i (Int.toNat (x:Int))>>=λh=>
    aset b h (w64 (o+1))>>=λc=>
    aidx i (Int.toNat (x:Int))>>=λj=>
    pV c j>>=λp=>
    aidx i x>>=λk=>
    pV d k>>=λq=>
    if (decide (p<q)) then
     some (.error c)
    else
     aidx i (Int.toNat (x:Int))>>=λm=>
     aset c m 0>>=λf=>
     p_layout_flipped_l2 (e,x,d,n,l,(w64 (i-1)),f)
   else
    some (.ok b)
 partial_fixpoint
def fD (a:Arr×Nat×LI×Int×LI×(List aA)):Option (LI×(List aA)):=match a with
  |(b,x,f,c,d,e)=>
   if (decide (c<(List.length b.cells:Int))) then
    (
     (
      gG (b,x,f,c,d,e,0,0)
     : Option (Int))>>=λj=>
     lget b.cells j>>=λn=>
     lapp e [n]>>=λl=>
     p_layout_flipped_l2 (b,x,f,c,l,(w64 (((Int.toNat (x:Int)):Int)-1)),d)>>=λm=>match m with
     |.error h=>
      some (h,l)
     |.ok g=>
      some (g,l)
    : Option (LI×(List aA)))>>=λ(i,k)=>
    fD (b,x,f,(w64 (c+1)),i,k)
   else
    some (d,e)
 partial_fixpoint
def pI (a:Arr):Option (Arr):=
 rS a.shape>>=λ(x,b)=>
 AaT x b>>=λc=>
 mkarr (x:Int) 0>>=λd=>
 (
  fD (a,x,c,0,d,[])
 : Option (LI×(List aA)))>>=λ(g,e)=>
 afrz x c>>=λf=>
 some (Arr.mk f e)
mutual
def kF (a:Arr×Int×Int):Option (Int):=match a with
  |(b,n,x)=>
   if (decide (x<(List.length b.cells:Int))) then
    (
     lget b.cells x>>=λy=>
     if (decide ((List.length y.box:Int)>0)) then
      lget y.box 0>>=λe=>
      uU e>>=λc=>
      some (if n<(w64 (1+c)) then (w64 (1+c)) else n)
     else
      some n
    : Option (Int))>>=λd=>
    kF (b,d,(w64 (x+1)))
   else
    some n
 partial_fixpoint
def uU (a:Arr):Option (Int):=match a with
  |a_=>
   (
    kF (a_,0,0)
   : Option (Int))>>=λb=>
   some b
 partial_fixpoint
end
def tW (a:Arr):Option (Arr×Int):=
 if (decide ((List.length a.shape:Int)>0)) then
  some ((Arr.mk [] []),6)
 else
  lget a.cells 0>>=λy=>
  if (y.kind==2) then
   lget a.cells 0>>=λb=>
   lget b.box 0>>=λc=>
   some (c,0)
  else
   some (a,0)
def sC (a:Arr):Option (Arr×Int):=
 if ((List.length a.shape:Int)==0) then
  some (a,0)
 else
  lget a.shape 0>>=λy=>
  if (y==0) then
   some ((Arr.mk [] []),8)
  else
   lfrom a.shape 1>>=λl=>
   lget a.shape 0>>=λc=>
   idiv .i64 (List.length a.cells:Int) c>>=λq=>
   lto a.cells q>>=λb=>
   some ((Arr.mk l b),0)
def nD (a:Arr×Int×(List aA)):Option (List aA):=match a with
  |(x,b,c)=>
   if (decide (b<(List.length x.shape:Int))) then
    lget x.shape b>>=λd=>
    lapp c [(aA.mk 0 d [])]>>=λl=>
    nD (x,(w64 (b+1)),l)
   else
    some c
 partial_fixpoint
def yP (a:Int) (b:Arr):Option (Arr×Int):=
 iM b>>=λe=>
 if (e != 0) then
  some ((Arr.mk [] []),e)
 else
  fH b>>=λx=>
  if (a==5) then
   sD x>>=λ(f,k)=>
   some (f,k)
  else
   if (a==6) then
    (
     nD (x,0,[])
    : Option (List aA))>>=λd=>
    some ((Arr.mk [(List.length x.shape:Int)] d),0)
   else
    if (a==7) then
     sE x>>=λl=>
     AeC l>>=λm=>
     some (m,0)
    else
     if (a==8) then
      some ((Arr.mk [(List.length x.cells:Int)] x.cells),0)
     else
      if (a==9) then
       p_layout_turned x 0>>=λn=>
       some (n,0)
      else
       if (a==10) then
        p_layout_turned x (w64 ((List.length x.shape:Int)-1))>>=λo=>
        some (o,0)
       else
        if (a==11) then
         pI x>>=λp=>
         some (p,0)
        else
         if (a==15) then
          uU x>>=λq=>
          if (decide (q>=8)) then
           some ((Arr.mk [] []),15)
          else
           some ((Arr.mk [] [(aA.mk 2 0 [x])]),0)
         else
          if (a==16) then
           tW x>>=λ(g,h)=>
           some (g,h)
          else
           if (a==17) then
            sC x>>=λ(i,j)=>
            some (i,j)
           else
            if (a==18) then
             if (decide ((List.length x.shape:Int)>=8)) then
              some ((Arr.mk [] []),6)
             else
              lapp [1] x.shape>>=λc=>
              some ((Arr.mk c x.cells),0)
            else
             some ((Arr.mk [] []),1)
def Aa6 (a:Int) (b:Arr):Option (Arr×Int):=
 (
  if (decide (a>=1)) then
   if (decide (a<=4)) then
    sA a b>>=λ(x,d)=>
    some (.error (x,d))
   else
    if (a==19) then
     sA a b>>=λ(o,p)=>
     some (.error (o,p))
    else
     if (a==12) then
      rC a b>>=λ(q,s)=>
      some (.error (q,s))
     else
      if (a==13) then
       rC a b>>=λ(t,u)=>
       some (.error (t,u))
      else
       if (a==14) then
        rC a b>>=λ(v,w)=>
        some (.error (v,w))
       else
        some (.ok ())
  else
   if (a==19) then
    sA a b>>=λ(e,f)=>
    some (.error (e,f))
   else
    if (a==12) then
     rC a b>>=λ(g,h)=>
     some (.error (g,h))
    else
     if (a==13) then
      rC a b>>=λ(i,j)=>
      some (.error (i,j))
     else
      if (a==14) then
       rC a b>>=λ(k,l)=>
       some (.error (k,l))
      else
       some (.ok ())
 : Option (Except (Arr×Int) (Unit)))>>=λc=>match c with
 |.error r=>some r
 |.ok _=>
  yP a b>>=λ(m,n)=>
  some (m,n)
def lE (a:bZ×Arr×Arr×LI×Int×aA×Int×(List aA)):Option (Except (Arr×Int) (List aA)):=match a with
  |(f,g,b,l,i,y,c,e)=>
   if (decide (c<(List.length b.cells:Int))) then
    lget b.cells c>>=λk=>
    vI f y k>>=λ(j,d)=>
    if (d != 0) then
     some (.error ((Arr.mk [] []),d))
    else
     lapp e [j]>>=λh=>
     lE (f,g,b,l,i,y,(w64 (c+1)),h)
   else
    some (.ok e)
 partial_fixpoint
def lD (a:bZ×Arr×Arr×LI×Int×(List aA)):Option (Except (Arr×Int) (List aA)):=match a with
  |(f,c,b,l,d,e)=>
   if (decide (d<(List.length c.cells:Int))) then
    lget c.cells d>>=λy=>
    (
     lE (f,c,b,l,d,y,0,e)
    : Option (Except (Arr×Int) (List aA)))>>=λh=>match h with
    |.error r=>some (.error r)
    |.ok g=>
     lD (f,c,b,l,(w64 (d+1)),g)
   else
    some (.ok e)
 partial_fixpoint
def sV (f:bZ) (a:Arr) (b:Arr):Option (Arr×Int):=
 jX f [a,b]>>=λe=>
 if (e != 0) then
  some ((Arr.mk [] []),e)
 else
  rS a.shape>>=λ(x,d)=>
  BfL x d b.shape>>=λl=>
  jW l>>=λ(i,c)=>
  if (c != 0) then
   some ((Arr.mk [] []),c)
  else
   (
    lD (f,a,b,l,0,[])
   : Option (Except (Arr×Int) (List aA)))>>=λh=>match h with
   |.error r=>some r
   |.ok g=>
    some ((Arr.mk l g),0)
def gH (a:LI×Int×Int):Option (Int):=match a with
  |(b,c,i)=>
   if (decide (i<(List.length b:Int))) then
    lget b i>>=λy=>
    gH (b,(if c<y then y else c),(w64 (i+1)))
   else
    some c
 partial_fixpoint
def pN (a:LI):Option (Int):=
 if (decide ((List.length a:Int)<1)) then
  none
 else
  lget a 0>>=λm=>
  (
   gH (a,m,1)
  : Option (Int))>>=λb=>
  some b
def iA (a:Arr×LI×Int):Option (Except (LI×Int) LI):=match a with
  |(s,b,x)=>
   if (decide (x<(List.length s.cells:Int))) then
    lget s.cells x>>=λy=>
    if (y.kind != 0) then
     some (.error ([],5))
    else
     if (decide (y.n<0)) then
      some (.error ([],5))
     else
      lapp b [(if 16385<y.n then 16385 else y.n)]>>=λc=>
      iA (s,c,(w64 (x+1)))
   else
    some (.ok b)
 partial_fixpoint
def qU (s:Arr):Option (LI×Int):=
 if (decide ((List.length s.shape:Int)>1)) then
  some ([],6)
 else
  mkcap (List.length s.cells:Int)>>=λd=>
  (
   iA (s,[],0)
  : Option (Except (LI×Int) LI))>>=λb=>match b with
  |.error r=>some r
  |.ok a=>
   if (decide ((List.length a:Int)>8)) then
    some ([],6)
   else
    lapp a [0]>>=λl=>
    pN l>>=λc=>
    if (decide (c>16384)) then
     some ([],12)
    else
     some (a,0)
def gE (a:Arr×Arr×Int):Option (Except (Arr×Int) (Unit)):=match a with
  |(s,b,x)=>
   if (decide (x<(List.length [s,b]:Int))) then
    lget [s,b] x>>=λy=>
    iM y>>=λe=>
    if (e != 0) then
     some (.error ((Arr.mk [] []),e))
    else
     gE (s,b,(w64 (x+1)))
   else
    some (.ok ())
 partial_fixpoint
def gF (a:Arr×Arr×LI×Int×Int×(List aA)):Option (List aA):=match a with
  |(s,b,e,n,c,d)=>
   if (decide (c<n)) then
    irem c (List.length b.cells:Int)>>=λq=>
    lget b.cells q>>=λf=>
    lapp d [f]>>=λl=>
    gF (s,b,e,n,(w64 (c+1)),l)
   else
    some d
 partial_fixpoint
def lU (a:Arr×Arr×LI×Int×Int×(List aA)):Option (List aA):=match a with
  |(s,b,g,n,c,d)=>
   if (decide (c<n)) then
    irem c (List.length b.cells:Int)>>=λf=>
    lget b.cells f>>=λh=>
    lapp d [h]>>=λe=>
    lU (s,b,g,n,(w64 (c+1)),e)
   else
    some d
 partial_fixpoint
def pH (s:Arr) (b:Arr):Option (Arr×Int):=
 (
  gE (s,b,0)
 : Option (Except (Arr×Int) (Unit)))>>=λg=>match g with
 |.error r=>some r
 |.ok _=>
  qU s>>=λ(a,c)=>
  if (c != 0) then
   some ((Arr.mk [] []),c)
  else
   jW a>>=λ(n,d)=>
   if (d != 0) then
    some ((Arr.mk [] []),d)
   else
    if (decide (n>0)) then
     if ((List.length b.cells:Int)==0) then
      some ((Arr.mk [] []),7)
     else
      (
       gF (s,b,a,n,0,[])
      : Option (List aA))>>=λe=>
      fH (Arr.mk a e)>>=λh=>
      some (h,0)
    else
     (
      lU (s,b,a,n,0,[])
     : Option (List aA))>>=λf=>
     fH (Arr.mk a f)>>=λi=>
     some (i,0)
def wS (a:aA) (b:aA):Option (Bool):=
 mV (a,b)>>=λx=>
 some (x==0)
def bS (a:(List aA)×aA×Int):Option (Except (Int) (Unit)):=match a with
  |(s,b,x)=>
   if (decide (x<(List.length s:Int))) then
    lget s x>>=λy=>
    wS y b>>=λc=>
    if c then
     some (.error x)
    else
     bS (s,b,(w64 (x+1)))
   else
    some (.ok ())
 partial_fixpoint
def eA (s:(List aA)) (b:aA):Option (Int):=
 (
  bS (s,b,0)
 : Option (Except (Int) (Unit)))>>=λa=>match a with
 |.error r=>some r
 |.ok _=>
  some (-1)
def sZ (l:(List aA)) (c:aA):Option (Int):=
 eA l c>>=λk=>
 if (decide (k>=0)) then
  some k
 else
  some (List.length l:Int)
def qH (a:Arr×Arr×Nat×LI×Int×(List aA)):Option (List aA):=match a with
  |(d,b,x,f,c,e)=>
   if (decide (c<(List.length b.cells:Int))) then
    lget b.cells c>>=λy=>
    sZ d.cells y>>=λg=>
    lapp e [(aA.mk 0 g [])]>>=λl=>
    qH (d,b,x,f,(w64 (c+1)),l)
   else
    some e
 partial_fixpoint
def qI (a:Arr×Arr×Nat×LI×Int×(List aA)):Option (List aA):=match a with
  |(c,b,h,f,d,e)=>
   if (decide (d<(List.length c.cells:Int))) then
    lget c.cells d>>=λj=>
    sZ b.cells j>>=λi=>
    (
     if (decide (i<(List.length b.cells:Int))) then
      some 1
     else
      some 0
    : Option (Int))>>=λn=>
    lapp e [(aA.mk 0 n [])]>>=λg=>
    qI (c,b,h,f,(w64 (d+1)),g)
   else
    some e
 partial_fixpoint
def Aa8 (f:Int) (a:Arr) (b:Arr):Option (Arr×Int):=
 pM [a,b]>>=λe=>
 if (e != 0) then
  some ((Arr.mk [] []),e)
 else
  if (f==48) then
   if ((List.length a.shape:Int) != 1) then
    some ((Arr.mk [] []),6)
   else
    rS b.shape>>=λ(x,c)=>
    (
     qH (a,b,x,c,0,[])
    : Option (List aA))>>=λh=>
    afrz x c>>=λj=>
    some ((Arr.mk j h),0)
  else
   if (f==49) then
    rS a.shape>>=λ(g,d)=>
    (
     qI (a,b,g,d,0,[])
    : Option (List aA))>>=λi=>
    afrz g d>>=λk=>
    some ((Arr.mk k i),0)
   else
    some ((Arr.mk [] []),1)
def kA (a:Arr×LI×Int×Int×(List aA)):Option (List aA):=match a with
  |(b,e,n,d,c)=>
   if (decide (d<n)) then
    lget b.cells 0>>=λy=>
    lapp c [y]>>=λl=>
    kA (b,e,n,(w64 (d+1)),l)
   else
    some c
 partial_fixpoint
def iW (b:Arr) (a:LI):Option (Arr):=
 jW a>>=λ(n,x)=>
 (
  kA (b,a,n,0,[])
 : Option (List aA))>>=λc=>
 some (Arr.mk a c)
def p_pick_with (b:LI) (a:Int):Option LI:=
 lto b a>>=λl=>
 lapp ([]:LI) l>>=λc=>
 lapp c [1]>>=λd=>
 lfrom b a>>=λe=>
 lapp d e>>=λf=>
 some f
def p_pick_without (b:LI) (a:Int):Option LI:=
 lto b a>>=λl=>
 lapp ([]:LI) l>>=λc=>
 lfrom b (w64 (a+1))>>=λd=>
 lapp c d>>=λe=>
 some e
def nF (a:Int×LI×(List aA)×LI×(List aA)×LI×LI×Int):Option (Except (Arr×Arr×Int×Int) (Unit)):=match a with
  |(h,d,f,e,g,c,y,b)=>
   if (decide (b<(List.length c:Int))) then
    lget c b>>=λi=>
    lget y b>>=λj=>
    if (i != j) then
     some (.error ((Arr.mk e g),(Arr.mk d f),0,7))
    else
     nF (h,d,f,e,g,c,y,(w64 (b+1)))
   else
    some (.ok ())
 partial_fixpoint
def nG (a:Int×LI×(List aA)×LI×(List aA)×LI×LI×Int):Option (Except (Arr×Arr×Int×Int) (Unit)):=match a with
  |(i,d,f,e,g,c,h,b)=>
   if (decide (b<(List.length c:Int))) then
    lget c b>>=λj=>
    lget h b>>=λk=>
    if (j != k) then
     some (.error ((Arr.mk e g),(Arr.mk d f),0,7))
    else
     nG (i,d,f,e,g,c,h,(w64 (b+1)))
   else
    some (.ok ())
 partial_fixpoint
def yR (a:Arr) (b:Arr) (j:Bool):Option (Arr×Arr×Int×Int):=
 if ((List.length a.shape:Int)==0) then
  if ((List.length b.shape:Int)==0) then
   gW a>>=λx=>
   gW b>>=λt=>
   some (x,t,0,0)
  else
   (
    if j then
     some (w64 ((if (List.length a.shape:Int)<(List.length b.shape:Int) then (List.length b.shape:Int) else (List.length a.shape:Int))-1))
    else
     some 0
   : Option (Int))>>=λc=>
   (
    if ((List.length a.shape:Int)==0) then
     p_pick_without b.shape c>>=λx2=>
     p_pick_with x2 c>>=λx3=>
     iW a x3>>=λq=>
     some (.ok (b.shape,b.cells,q.shape,q.cells))
    else
     if ((List.length b.shape:Int)==0) then
      p_pick_without a.shape c>>=λx5=>
      p_pick_with x5 c>>=λx6=>
      iW b x6>>=λs=>
      some (.ok (s.shape,s.cells,a.shape,a.cells))
     else
      if ((w64 ((List.length a.shape:Int)-(List.length b.shape:Int)))==1) then
       p_pick_with b.shape c>>=λx8=>
       some (.ok (x8,b.cells,a.shape,a.cells))
      else
       if ((w64 ((List.length a.shape:Int)-(List.length b.shape:Int)))==(-1)) then
        p_pick_with a.shape c>>=λx9=>
        some (.ok (b.shape,b.cells,x9,a.cells))
       else
        if ((w64 ((List.length a.shape:Int)-(List.length b.shape:Int))) != 0) then
         some (.error (a,b,0,6))
        else
         some (.ok (b.shape,b.cells,a.shape,a.cells))
   : Option (Except (Arr×Arr×Int×Int) (LI×(List aA)×LI×(List aA))))>>=λe=>match e with
   |.error r=>some r
   |.ok (f,k,g,n)=>
    p_pick_without g c>>=λu=>
    p_pick_without f c>>=λy=>
    (
     nF (c,f,k,g,n,u,y,0)
    : Option (Except (Arr×Arr×Int×Int) (Unit)))>>=λe=>match e with
    |.error r=>some r
    |.ok _=>
     some ((Arr.mk g n),(Arr.mk f k),c,0)
 else
  (
   if j then
    some (w64 ((if (List.length a.shape:Int)<(List.length b.shape:Int) then (List.length b.shape:Int) else (List.length a.shape:Int))-1))
   else
    some 0
  : Option (Int))>>=λd=>
  (
   if ((List.length a.shape:Int)==0) then
    p_pick_without b.shape d>>=λv=>
    p_pick_with v d>>=λw=>
    iW a w>>=λo=>
    some (.ok (b.shape,b.cells,o.shape,o.cells))
   else
    if ((List.length b.shape:Int)==0) then
     p_pick_without a.shape d>>=λz=>
     p_pick_with z d>>=λa0=>
     iW b a0>>=λp=>
     some (.ok (p.shape,p.cells,a.shape,a.cells))
    else
     if ((w64 ((List.length a.shape:Int)-(List.length b.shape:Int)))==1) then
      p_pick_with b.shape d>>=λb0=>
      some (.ok (b0,b.cells,a.shape,a.cells))
     else
      if ((w64 ((List.length a.shape:Int)-(List.length b.shape:Int)))==(-1)) then
       p_pick_with a.shape d>>=λc0=>
       some (.ok (b.shape,b.cells,c0,a.cells))
      else
       if ((w64 ((List.length a.shape:Int)-(List.length b.shape:Int))) != 0) then
        some (.error (a,b,0,6))
       else
        some (.ok (b.shape,b.cells,a.shape,a.cells))
  : Option (Except (Arr×Arr×Int×Int) (LI×(List aA)×LI×(List aA))))>>=λe=>match e with
  |.error r=>some r
  |.ok (h,l,i,m)=>
   p_pick_without i d>>=λd0=>
   p_pick_without h d>>=λy3=>
   (
    nG (d,h,l,i,m,d0,y3,0)
   : Option (Except (Arr×Arr×Int×Int) (Unit)))>>=λe=>match e with
   |.error r=>some r
   |.ok _=>
    some ((Arr.mk i m),(Arr.mk h l),d,0)
def jY (a:Arr×Arr×Int×LI×LI×Int×Int):Option (Int):=match a with
  |(x,h,f,g,b,e,c)=>
   if (decide (c<(List.length b:Int))) then
    lget b c>>=λd=>
    jY (x,h,f,g,b,(w64 (e*d)),(w64 (c+1)))
   else
    some e
 partial_fixpoint
def jZ (a:Arr×Arr×LI×Int×Int×Int×LI×Int×Int):Option (Int):=match a with
  |(x,h,f,g,i,j,b,d,c)=>
   if (decide (c<(List.length b:Int))) then
    lget b c>>=λe=>
    jZ (x,h,f,g,i,j,b,(w64 (d*e)),(w64 (c+1)))
   else
    some d
 partial_fixpoint
def iO (a:Arr×Arr×LI×Int×Int×Int×Int×Int×(List aA)):Option (List aA):=match a with
  |(x,h,i,c,d,e,g,b,f)=>
   if (decide (b<g)) then
    Af4 x.cells (w64 (b*(w64 (d*c)))) (w64 ((w64 (b+1))*(w64 (d*c))))>>=λj=>
    lapp f j>>=λk=>
    Af4 h.cells (w64 (b*(w64 (e*c)))) (w64 ((w64 (b+1))*(w64 (e*c))))>>=λl=>
    lapp k l>>=λm=>
    iO (x,h,i,c,d,e,g,(w64 (b+1)),m)
   else
    some f
 partial_fixpoint
def tY (i:Arr) (b:Arr) (q:Bool):Option (Arr×Int):=
 yR i b q>>=λ(x,d,a,e)=>
 if (e != 0) then
  some ((Arr.mk [] []),e)
 else
  lapp ([]:LI) x.shape>>=λl=>
  aidx a (List.length l)>>=λj=>
  pV l j>>=λy=>
  lget d.shape a>>=λt=>
  aidx a (List.length l)>>=λm=>
  aset l m (w64 (y+t))>>=λn=>
  afrz (List.length l) n>>=λc=>
  jW c>>=λ(v,k)=>
  if (k != 0) then
   some ((Arr.mk [] []),12)
  else
   lget c a>>=λu=>
   if (decide (u>16384)) then
    some ((Arr.mk [] []),12)
   else
    lfrom x.shape (w64 (a+1))>>=λo=>
    (
     jY (x,d,a,c,o,1,0)
    : Option (Int))>>=λf=>
    lget x.shape a>>=λg=>
    lget d.shape a>>=λh=>
    lto x.shape a>>=λp=>
    (
     jZ (x,d,c,f,g,h,p,1,0)
    : Option (Int))>>=λs=>
    (
     iO (x,d,c,f,g,h,s,0,[])
    : Option (List aA))>>=λr=>
    some ((Arr.mk c r),0)
def qF (a:Int×Arr×Arr×Int):Option (Except (Arr×Int) (Unit)):=match a with
  |(d,c,b,x)=>
   if (decide (x<(List.length [c,b]:Int))) then
    lget [c,b] x>>=λy=>
    iM y>>=λe=>
    if (e != 0) then
     some (.error ((Arr.mk [] []),e))
    else
     qF (d,c,b,(w64 (x+1)))
   else
    some (.ok ())
 partial_fixpoint
def AdG (a:Int) (e:Arr) (b:Arr):Option (Arr×Int):=
 (
  qF (a,e,b,0)
 : Option (Except (Arr×Int) (Unit)))>>=λg=>match g with
 |.error r=>some r
 |.ok _=>
  fH e>>=λd=>
  fH b>>=λc=>
  (
   if (a==46) then
    some (a==46)
   else
    some (a==47)
  : Option (Bool))>>=λs=>
  if s then
   tY d c (a==47)>>=λ(t,u)=>
   some (t,u)
  else
   if (a==52) then
    vL d c>>=λ(v,w)=>
    some (v,w)
   else
    if (a==53) then
     vL c d>>=λ(x,y)=>
     some (x,y)
    else
     (
      if (a==50) then
       some (a==50)
      else
       some (a==51)
     : Option (Bool))>>=λh=>
     if h then
      qW d c (a==51)>>=λ(i,j)=>
      some (i,j)
     else
      (
       if (a==42) then
        some (a==42)
       else
        if (a==43) then
         some (a==43)
        else
         if (a==44) then
          some (a==44)
         else
          some (a==45)
      : Option (Bool))>>=λk=>
      if k then
       tZ d>>=λ(n,f)=>
       if (f != 0) then
        some ((Arr.mk [] []),f)
       else
        if (a==42) then
         yS n c>>=λ(l,m)=>
         some (l,m)
        else
         if (a==43) then
          yQ n c>>=λo=>
          some (o,0)
         else
          if (a==44) then
           p_pick_rotated n c 0>>=λp=>
           some (p,0)
          else
           p_pick_rotated n c (w64 ((List.length c.shape:Int)-1))>>=λq=>
           some (q,0)
      else
       some ((Arr.mk [] []),1)
def kN (a:Int×Arr×Arr×Int):Option (Except (Arr×Int) (Unit)):=match a with
  |(d,c,b,x)=>
   if (decide (x<(List.length [c,b]:Int))) then
    lget [c,b] x>>=λy=>
    iM y>>=λe=>
    if (e != 0) then
     some (.error ((Arr.mk [] []),e))
    else
     kN (d,c,b,(w64 (x+1)))
   else
    some (.ok ())
 partial_fixpoint
def rZ (a:Int×Arr×Arr×LI×Int×(List aA)):Option (Except (Arr×Int) (List aA)):=match a with
  |(j,c,b,m,d,k)=>
   if (decide (d<0)) then
    lget c.cells 0>>=λe=>
    lget b.cells 0>>=λf=>
    (
     if (decide ((List.length c.shape:Int)>0)) then
      lget c.cells d>>=λg=>
      some (g.kind,g.n,g.box)
     else
      some (e.kind,e.n,e.box)
    : Option (Int×Int×(List Arr)))>>=λ(n,o,p)=>
    (
     if (decide ((List.length b.shape:Int)>0)) then
      lget b.cells d>>=λh=>
      some (h.kind,h.n,h.box)
     else
      some (f.kind,f.n,f.box)
    : Option (Int×Int×(List Arr)))>>=λ(r,s,t)=>
    oP j (aA.mk n o p) (aA.mk r s t)>>=λ(q,i)=>
    if (i != 0) then
     some (.error ((Arr.mk [] []),i))
    else
     lapp k [q]>>=λl=>
     rZ (j,c,b,m,(w64 (d+1)),l)
   else
    some (.ok k)
 partial_fixpoint
def mW (a:Int×Arr×Arr×LI×Int×Int×(List aA)):Option (Except (Arr×Int) (List aA)):=match a with
  |(j,c,b,m,n,d,k)=>
   if (decide (d<n)) then
    lget c.cells 0>>=λe=>
    lget b.cells 0>>=λf=>
    (
     if (decide ((List.length c.shape:Int)>0)) then
      lget c.cells d>>=λg=>
      some (g.kind,g.n,g.box)
     else
      some (e.kind,e.n,e.box)
    : Option (Int×Int×(List Arr)))>>=λ(o,p,q)=>
    (
     if (decide ((List.length b.shape:Int)>0)) then
      lget b.cells d>>=λh=>
      some (h.kind,h.n,h.box)
     else
      some (f.kind,f.n,f.box)
    : Option (Int×Int×(List Arr)))>>=λ(s,t,u)=>
    oP j (aA.mk o p q) (aA.mk s t u)>>=λ(r,i)=>
    if (i != 0) then
     some (.error ((Arr.mk [] []),i))
    else
     lapp k [r]>>=λl=>
     mW (j,c,b,m,n,(w64 (d+1)),l)
   else
    some (.ok k)
 partial_fixpoint
def yO (c:Int) (a:Arr) (b:Arr):Option (Arr×Int):=
 (
  kN (c,a,b,0)
 : Option (Except (Arr×Int) (Unit)))>>=λd=>match d with
 |.error r=>some r
 |.ok _=>
  if (c==54) then
   some ((Arr.mk [] []),10)
  else
   pT c>>=λi=>
   if (!i) then
    some ((Arr.mk [] []),1)
   else
    rY a.shape b.shape>>=λ(e,f)=>
    if (f != 0) then
     some ((Arr.mk [] []),f)
    else
     if ((List.length a.cells:Int)==0) then
      (
       rZ (c,a,b,e,0,[])
      : Option (Except (Arr×Int) (List aA)))>>=λd=>match d with
      |.error r=>some r
      |.ok g=>
       some ((Arr.mk e g),0)
     else
      (
       if ((List.length b.cells:Int)==0) then
        some 0
       else
        some (if (List.length a.cells:Int)<(List.length b.cells:Int) then (List.length b.cells:Int) else (List.length a.cells:Int))
      : Option (Int))>>=λn=>
      (
       mW (c,a,b,e,n,0,[])
      : Option (Except (Arr×Int) (List aA)))>>=λd=>match d with
      |.error r=>some r
      |.ok h=>
       some ((Arr.mk e h),0)
def Aa7 (a:Int) (b:Arr) (y:Arr):Option (Arr×Int):=
 (
  if (a==41) then
   pH b y>>=λ(x,d)=>
   some (.error (x,d))
  else
   if (a==48) then
    Aa8 a b y>>=λ(e,f)=>
    some (.error (e,f))
   else
    if (a==49) then
     Aa8 a b y>>=λ(g,h)=>
     some (.error (g,h))
    else
     if (decide (a>=42)) then
      if (decide (a<=53)) then
       AdG a b y>>=λ(i,j)=>
       some (.error (i,j))
      else
       some (.ok ())
     else
      some (.ok ())
 : Option (Except (Arr×Int) (Unit)))>>=λc=>match c with
 |.error r=>some r
 |.ok _=>
  yO a b y>>=λ(k,l)=>
  some (k,l)
mutual
def aI (a:Node×pA×(List Str)×(List Arr)×aF):Option (Arr×Int×Int×Int):=match a with
  |(n,k,f,g,b)=>
   eV b>>=λ(e,c,d)=>
   if (e != 0) then
    some ((Arr.mk [] []),e,c,d)
   else
    if (n.kind==1) then
     fH n.lit>>=λx=>
     aT x 0 f g (aF.mk (cZ.mk c d) b.cells)>>=λ(w,x2)=>
     some (w,x2,c,d)
    else
     if (n.kind==2) then
      cK n.name f g (aF.mk (cZ.mk c d) b.cells)>>=λ(x3,x4)=>
      aT x3 x4 f g (aF.mk (cZ.mk c d) b.cells)>>=λ(x5,x6)=>
      some (x5,x6,c,d)
     else
      if (n.kind==3) then
       some (k.left,0,c,d)
      else
       if (n.kind==4) then
        some (k.right,0,c,d)
       else
        lget n.kids (w64 ((List.length n.kids:Int)-1))>>=λy=>
        aI (y,k,f,g,(aF.mk (cZ.mk c d) b.cells))>>=λ(l,h,i,j)=>
        if (h != 0) then
         if (h != 0) then
          some ((Arr.mk [] []),h,i,j)
         else
          lget n.kids 0>>=λy1=>
          aZ (y1,l,f,g,(aF.mk (cZ.mk i j) b.cells))>>=λ(x8,x9,q,t)=>
          some (x8,x9,q,t)
        else
         if (n.kind==5) then
          if (h != 0) then
           some ((Arr.mk [] []),h,i,j)
          else
           lget n.kids 0>>=λy2=>
           aZ (y2,l,f,g,(aF.mk (cZ.mk i j) b.cells))>>=λ(z,a0,r,u)=>
           some (z,a0,r,u)
         else
          lget n.kids 1>>=λy3=>
          aI (y3,k,f,g,(aF.mk (cZ.mk i j) b.cells))>>=λ(b0,m,o,p)=>
          if (m != 0) then
           some ((Arr.mk [] []),m,o,p)
          else
           lget n.kids 0>>=λy4=>
           bD (y4,b0,l,f,g,(aF.mk (cZ.mk o p) b.cells))>>=λ(c0,d0,s,v)=>
           some (c0,d0,s,v)
 partial_fixpoint
def bP (a:Node×(List Str)×(List Arr)×aF×Int×LI×(List aA)×Int×Int):Option (Except (Arr×Int×Int×Int) (LI×(List aA)×Int×Int)):=match a with
  |(f,h,j,b,m,k,l,c,d)=>
   if (decide (m<f.op_)) then
    lget f.kids 0>>=λo=>
    aZ (o,(Arr.mk k l),h,j,(aF.mk (cZ.mk c d) b.cells))>>=λ(n,e,g,i)=>
    if (e != 0) then
     some (.error ((Arr.mk [] []),e,g,i))
    else
     bP (f,h,j,b,(w64 (m+1)),n.shape,n.cells,g,i)
   else
    some (.ok (k,l,c,d))
 partial_fixpoint
def aZ (a:Node×Arr×(List Str)×(List Arr)×aF):Option (Arr×Int×Int×Int):=match a with
  |(f,g,h,i,b)=>
   eV b>>=λ(e,c,d)=>
   if (e != 0) then
    some ((Arr.mk [] []),e,c,d)
   else
    if (f.kind==21) then
     Aa6 f.op_ g>>=λ(x,s)=>
     aT x s h i (aF.mk (cZ.mk c d) b.cells)>>=λ(x2,x3)=>
     some (x2,x3,c,d)
    else
     if (f.kind==22) then
      lget f.kids 0>>=λy=>
      aI (y,(pA.mk (Arr.mk [] []) g),h,i,(aF.mk (cZ.mk c d) b.cells))>>=λ(x4,x5,l,o)=>
      some (x4,x5,l,o)
     else
      if (f.kind==35) then
       lget f.kids 0>>=λy1=>
       bD (y1,g,g,h,i,(aF.mk (cZ.mk c d) b.cells))>>=λ(x6,x7,m,p)=>
       some (x6,x7,m,p)
      else
       (
        if (f.kind==31) then
         some (f.kind==31)
        else
         some (f.kind==32)
       : Option (Bool))>>=λx8=>
       if x8 then
        lget f.kids 0>>=λy2=>
        gX y2>>=λx9=>
        xR x9 g (f.kind==32)>>=λ(t,u)=>
        aT t u h i (aF.mk (cZ.mk c d) b.cells)>>=λ(w,z)=>
        some (w,z,c,d)
       else
        (
         if (f.kind==33) then
          some (f.kind==33)
         else
          some (f.kind==34)
        : Option (Bool))>>=λa0=>
        if a0 then
         lget f.kids 0>>=λy3=>
         gX y3>>=λb0=>
         vJ b0 g (f.kind==34)>>=λ(c0,d0)=>
         aT c0 d0 h i (aF.mk (cZ.mk c d) b.cells)>>=λ(e0,f0)=>
         some (e0,f0,c,d)
        else
         (
          bP (f,h,i,b,0,g.shape,g.cells,c,d)
         : Option (Except (Arr×Int×Int×Int) (LI×(List aA)×Int×Int)))>>=λn=>match n with
         |.error r=>some r
         |.ok (q,v,j,k)=>
          some ((Arr.mk q v),0,j,k)
 partial_fixpoint
def bD (a:Node×Arr×Arr×(List Str)×(List Arr)×aF):Option (Arr×Int×Int×Int):=match a with
  |(f,g,y,h,i,b)=>
   eV b>>=λ(e,c,d)=>
   if (e != 0) then
    some ((Arr.mk [] []),e,c,d)
   else
    if (f.kind==21) then
     Aa7 f.op_ g y>>=λ(x,n)=>
     aT x n h i (aF.mk (cZ.mk c d) b.cells)>>=λ(r,s)=>
     some (r,s,c,d)
    else
     if (f.kind==23) then
      lget f.kids 0>>=λy1=>
      aI (y1,(pA.mk g y),h,i,(aF.mk (cZ.mk c d) b.cells))>>=λ(t,u,j,l)=>
      some (t,u,j,l)
     else
      if (f.kind==35) then
       lget f.kids 0>>=λy2=>
       bD (y2,y,g,h,i,(aF.mk (cZ.mk c d) b.cells))>>=λ(v,w,k,m)=>
       some (v,w,k,m)
      else
       lget f.kids 0>>=λy3=>
       gX y3>>=λz=>
       sV z g y>>=λ(x9,o)=>
       aT x9 o h i (aF.mk (cZ.mk c d) b.cells)>>=λ(p,q)=>
       some (p,q,c,d)
 partial_fixpoint
end
def uW (m:aF):Option (Int×Int):=
 some (m.fuel.used,m.fuel.left)
def uX (a:Env) (n:Node) (f:Int) (d:Int):Option (Arr×Int×Int):=
 sT n>>=λx=>
 if (x != 0) then
  some ((Arr.mk [] []),0,1)
 else
  AgJ f d>>=λb=>
  aI (n,(pA.mk (Arr.mk [] []) (Arr.mk [] [])),a.names,a.vals,b)>>=λ(i,e,g,h)=>
  uW (aF.mk (cZ.mk g h) b.cells)>>=λ(c,k)=>
  if (e != 0) then
   some ((Arr.mk [] []),c,e)
  else
   fH i>>=λj=>
   some (j,c,0)
def sH (n:Int):Option (Bool):=
 if (decide (n>=0)) then
  if (decide (n<55296)) then
   some true
  else
   if (decide (n>57343)) then
    some (decide (n<1114112))
   else
    some false
 else
  if (decide (n>57343)) then
   some (decide (n<1114112))
  else
   some false
def uB (a:Arr×Int×Int):Option (Except (Int) (Unit)):=match a with
  |(b,c,i)=>
   if (decide (i<(List.length b.shape:Int))) then
    lget b.shape i>>=λy=>
    if (decide (y>16384)) then
     some (.error 12)
    else
     uB (b,c,(w64 (i+1)))
   else
    some (.ok ())
 partial_fixpoint
mutual
def uC (a:Arr×Int×Int):Option (Except (Int) (Unit)):=match a with
  |(b,d,c)=>
   if (decide (c<(List.length b.cells:Int))) then
    lget b.cells c>>=λe=>
    AgL (e,d)>>=λf=>
    if (f != 0) then
     some (.error f)
    else
     uC (b,d,(w64 (c+1)))
   else
    some (.ok ())
 partial_fixpoint
def Af5 (a:Arr×Int):Option (Int):=match a with
  |(b,d)=>
   AgK b.shape>>=λ(n,e)=>
   if (e != 0) then
    some e
   else
    if (n != (List.length b.cells:Int)) then
     some 1
    else
     (
      uB (b,d,0)
     : Option (Except (Int) (Unit)))>>=λc=>match c with
     |.error r=>some r
     |.ok _=>
      (
       uC (b,d,0)
      : Option (Except (Int) (Unit)))>>=λc=>match c with
      |.error r=>some r
      |.ok _=>
       some 0
 partial_fixpoint
def AgL (a:aA×Int):Option (Int):=match a with
  |(c,b)=>
   if (c.kind==2) then
    if (c.n==0) then
     if ((List.length c.box:Int)==1) then
      if (b==8) then
       some 15
      else
       lget c.box 0>>=λy=>
       Af5 (y,(w64 (b+1)))>>=λx=>
       some x
     else
      if (decide ((List.length c.box:Int)>0)) then
       some 1
      else
       if (c.kind==0) then
        some 0
       else
        if (c.kind==1) then
         sH c.n>>=λd=>
         if d then
          some 0
         else
          some 1
        else
         some 1
    else
     if (decide ((List.length c.box:Int)>0)) then
      some 1
     else
      if (c.kind==0) then
       some 0
      else
       if (c.kind==1) then
        sH c.n>>=λe=>
        if e then
         some 0
        else
         some 1
       else
        some 1
   else
    if (decide ((List.length c.box:Int)>0)) then
     some 1
    else
     if (c.kind==0) then
      some 0
     else
      if (c.kind==1) then
       sH c.n>>=λf=>
       if f then
        some 0
       else
        some 1
      else
       some 1
 partial_fixpoint
end
def p_triglyphref03_ints (a:Int) (b:Int):Option (Int):=
 if (decide (a<b)) then
  some (-1)
 else
  if (decide (a>b)) then
   some 1
  else
   some 0
def cW (a:Arr×Arr×Int×Int):Option (Int):=match a with
  |(c,b,d,i)=>
   if (decide (i<(List.length c.shape:Int))) then
    if (d==0) then
     lget c.shape i>>=λy=>
     lget b.shape i>>=λf=>
     p_triglyphref03_ints y f>>=λe=>
     cW (c,b,e,(w64 (i+1)))
    else
     some d
   else
    some d
 partial_fixpoint
mutual
def cX (a:Arr×Arr×Int×Int):Option (Int):=match a with
  |(e,b,d,c)=>
   if (decide (c<(List.length e.cells:Int))) then
    if (decide (c<(List.length b.cells:Int))) then
     if (d==0) then
      lget e.cells c>>=λg=>
      lget b.cells c>>=λh=>
      iP (g,h)>>=λf=>
      cX (e,b,f,(w64 (c+1)))
     else
      some d
    else
     some d
   else
    some d
 partial_fixpoint
def fE (a:Arr×Arr):Option (Int):=match a with
  |(c,b)=>
   p_triglyphref03_ints (List.length c.shape:Int) (List.length b.shape:Int)>>=λo=>
   (
    cW (c,b,o,0)
   : Option (Int))>>=λe=>
   (
    cX (c,b,e,0)
   : Option (Int))>>=λd=>
   (
    if (d==0) then
     p_triglyphref03_ints (List.length c.cells:Int) (List.length b.cells:Int)>>=λf=>
     some f
    else
     some d
   : Option (Int))>>=λg=>
   some g
 partial_fixpoint
def iP (a:aA×aA):Option (Int):=match a with
  |(c,b)=>
   p_triglyphref03_ints c.kind b.kind>>=λo=>
   (
    if (o==0) then
     p_triglyphref03_ints c.n b.n>>=λe=>
     some e
    else
     some o
   : Option (Int))>>=λd=>
   if (d==0) then
    if (decide ((List.length c.box:Int)>0)) then
     if (decide ((List.length b.box:Int)>0)) then
      lget c.box 0>>=λy=>
      lget b.box 0>>=λl=>
      fE (y,l)>>=λx=>
      some x
     else
      (
       if (d==0) then
        p_triglyphref03_ints (List.length c.box:Int) (List.length b.box:Int)>>=λf=>
        some f
       else
        some d
      : Option (Int))>>=λg=>
      some g
    else
     (
      if (d==0) then
       p_triglyphref03_ints (List.length c.box:Int) (List.length b.box:Int)>>=λh=>
       some h
      else
       some d
     : Option (Int))>>=λi=>
     some i
   else
    (
     if (d==0) then
      p_triglyphref03_ints (List.length c.box:Int) (List.length b.box:Int)>>=λj=>
      some j
     else
      some d
    : Option (Int))>>=λk=>
    some k
 partial_fixpoint
end
def eS (a:Arr) (b:Arr):Option (Bool):=
 fE (a,b)>>=λx=>
 some (x==0)
mutual
def cS (a:Arr×Int×Int×Int×Int×Int):Option (Except (Int) (Int)):=match a with
  |(d,c,e,i,b,k)=>
   lget d.cells i>>=λy=>
   if (decide (k<(List.length y.box:Int))) then
    if (decide (b<=c)) then
     if (e==0) then
      some (.error (w64 (c+1)))
     else
      lget d.cells i>>=λf=>
      lget f.box k>>=λg=>
      cY (g,(w64 (c-b)),(w64 (e-1)))>>=λx=>
      cS (d,c,e,i,(w64 ((w64 (b+1))+x)),(w64 (k+1)))
    else
     some (.ok b)
   else
    some (.ok b)
 partial_fixpoint
def p_triglyphref03_weight_l0 (a:Arr×Int×Int×Int×Int):Option (Except (Int) (Int)):=match a with
  |(b,c,d,n,i)=>
   if (decide (i<(List.length b.cells:Int))) then
    if (decide (n<=c)) then
     (
      cS (b,c,d,i,n,0)
     : Option (Except (Int) (Int)))>>=λf=>match f with
     |.error r=>some (.error r)
     |.ok e=>
      p_triglyphref03_weight_l0 (b,c,d,e,(w64 (i+1)))
    else
     some (.ok n)
   else
    some (.ok n)
 partial_fixpoint
def cY (a:Arr×Int×Int):Option (Int):=match a with
  |(b,d,c)=>
   (
    p_triglyphref03_weight_l0 (b,d,c,(w64 ((List.length b.cells:Int)+(List.length b.shape:Int))),0)
   : Option (Except (Int) (Int)))>>=λf=>match f with
   |.error r=>some r
   |.ok e=>
    some e
 partial_fixpoint
end
def eX (a:Arr) (b:Int):Option (Int):=
 cY (a,b,16)>>=λx=>
 some x
mutual
def dD (a:Node×Str×Int):Option (Except (Bool) (Unit)):=match a with
  |(n,s,i)=>
   if (decide (i<(List.length n.kids:Int))) then
    lget n.kids i>>=λy=>
    eK (y,s)>>=λx=>
    if x then
     some (.error true)
    else
     dD (n,s,(w64 (i+1)))
   else
    some (.ok ())
 partial_fixpoint
def dX (a:Node×Str×Int):Option (Except (Bool) (Unit)):=match a with
  |(n,s,b)=>
   if (decide (b<(List.length n.kids:Int))) then
    lget n.kids b>>=λd=>
    eK (d,s)>>=λc=>
    if c then
     some (.error true)
    else
     dX (n,s,(w64 (b+1)))
   else
    some (.ok ())
 partial_fixpoint
def eK (a:Node×Str):Option (Bool):=match a with
  |(n,s)=>
   if (n.kind==2) then
    if (n.name==s) then
     some true
    else
     (
      dD (n,s,0)
     : Option (Except (Bool) (Unit)))>>=λb=>match b with
     |.error r=>some r
     |.ok _=>
      some false
   else
    (
     dX (n,s,0)
    : Option (Except (Bool) (Unit)))>>=λb=>match b with
    |.error r=>some r
    |.ok _=>
     some false
 partial_fixpoint
end
mutual
def cT (a:Node×Int×Int×Int×Int):Option (Except (Int) (Int)):=match a with
  |(n,b,c,k,i)=>
   if (decide (i<(List.length n.kids:Int))) then
    if (decide (k<=b)) then
     if (c==0) then
      some (.error (w64 (b+1)))
     else
      lget n.kids i>>=λy=>
      dU (y,(w64 (b-k)),(w64 (c-1)))>>=λd=>
      cT (n,b,c,(w64 (k+d)),(w64 (i+1)))
    else
     some (.ok k)
   else
    some (.ok k)
 partial_fixpoint
def dU (a:Node×Int×Int):Option (Int):=match a with
  |(n,b,c)=>
   eX n.lit b>>=λx=>
   (
    cT (n,b,c,(w64 (1+x)),0)
   : Option (Except (Int) (Int)))>>=λe=>match e with
   |.error r=>some r
   |.ok d=>
    some d
 partial_fixpoint
end
def mE (n:Node) (a:Int):Option (Int):=
 dU (n,a,40)>>=λx=>
 some x
def dW (a:Env×Node×Int×Int):Option (Int):=match a with
  |(b,n,w,i)=>
   if (decide (i<(List.length b.vals:Int))) then
    if (decide (w<=3000)) then
     lget b.vals i>>=λy=>
     eX y 3000>>=λc=>
     dW (b,n,(w64 (w+c)),(w64 (i+1)))
    else
     some w
   else
    some w
 partial_fixpoint
def jU (a:Env) (n:Node) (c:Int) (b:Int):Option (Int):=
 if (decide (c>2000)) then
  some 1
 else
  if (decide (b>300)) then
   some 1
  else
   if (decide ((List.length a.names:Int)>40)) then
    some 1
   else
    if (decide ((List.length a.vals:Int)>40)) then
     some 1
    else
     mE n 3000>>=λx=>
     if (decide (x>3000)) then
      some 1
     else
      (
       dW (a,n,0,0)
      : Option (Int))>>=λd=>
      if (decide (d>3000)) then
       some 1
      else
       some 0
def p_triglyphlaw11_RunNames (a:Env) (n:Node) (c:Int) (b:Int) (d:Str) (v:Arr):Option (Bool):=
 jU a n c b>>=λx=>
 if (decide (x>0)) then
  yI>>=λm=>
  some m
 else
  eX v 300>>=λp=>
  if (decide (p>300)) then
   yI>>=λq=>
   some q
  else
   eK (n,d)>>=λr=>
   if r then
    yI>>=λs=>
    some s
   else
    if ((List.length a.names:Int) != (List.length a.vals:Int)) then
     yI>>=λt=>
     some t
    else
     lapp [] [d]>>=λl=>
     lapp [] [v]>>=λg=>
     lapp l a.names>>=λh=>
     lapp g a.vals>>=λj=>
     uX a n c b>>=λ(u,i,e)=>
     uX (Env.mk h j) n c b>>=λ(w,k,f)=>
     if (e==f) then
      if (i==k) then
       eS u w>>=λy=>
       if y then
        yI>>=λo=>
        some o
       else
        some false
      else
       some false
     else
      some false
end Go.AM.Seat
namespace Go.AM.Seat
open Go Go.AM
def T {α:Type} (x:Option α) (Q:α->Prop):Prop:=∃r,x=some r/\Q r
section
variable {α β:Type} {Q R:α->Prop} {S:β->Prop}
theorem T.ret {v:α} (h:Q v):T (some v) Q:=⟨v,rfl,h⟩
theorem T.bind {x:Option α} {f:α->Option β} (h:T x R) (k:∀v,R v->T (f v) S):T (x>>=f) S:=by
 obtain⟨v,rfl,hv⟩:=h; exact k v hv
theorem T.ite {c:Bool} {a b:Option α} (h:c=true->T a Q) (k:c=false->T b Q):T (if c=true then a else b) Q:=by
 cases c
 ·exact k rfl
 exact h rfl
theorem T.imp {x:Option α} (h:T x R) (k:∀v,R v->Q v):T x Q:=by
 obtain⟨v,e,hv⟩:=h; exact⟨v,e,k v hv⟩
theorem T.val {x:Option α} {v:α} (h:x=some v) (k:Q v):T x Q:=⟨v,h,k⟩
theorem T.lget {l:List α} {i:Int} (h0:0<=i) (h1:i<l.length) (k:∀v,l[i.toNat]?=some v->Q v):T (lget l i) Q:=by
 have hl:i.toNat<l.length:=by omega
 refine⟨l[i.toNat],?_,k _ (by simp[hl])⟩
 unfold AM.lget
 rw[if_pos h0]; simp[hl]
theorem T.lapp {l m:List α} {Q:List α->Prop} (h:l.length+m.length<=4294967296) (k:Q (l++m)):T (lapp l m) Q:=⟨_,by unfold AM.lapp; rw[if_pos h],k⟩
theorem T.lfrom {l:List α} {lo:Int} {Q:List α->Prop} (h0:0<=lo) (h1:lo<=l.length) (k:Q (l.drop lo.toNat)):T (lfrom l lo) Q:=
 ⟨_,by unfold AM.lfrom; rw[if_pos ⟨h0,by omega⟩],k⟩
end
theorem T.sget {s:Str} {i:Int} {Q:Int->Prop} (h0:0<=i) (h1:i<s.length) (k:∀b,s[i.toNat]?=some b->Q (b.toNat:Int)):T (sget s i) Q:=by
 have hl:i.toNat<s.length:=by omega
 refine⟨(s[i.toNat].toNat:Int),?_,k _ (by simp[hl])⟩
 unfold AM.sget
 rw[if_pos h0]; simp[hl]
theorem T.sfrom {s:Str} {lo:Int} {Q:Str->Prop} (h0:0<=lo) (h1:lo<=s.length) (k:Q (s.drop lo.toNat)):T (sfrom s lo) Q:=
 ⟨_,by unfold AM.sfrom; rw[if_pos ⟨h0,by omega⟩],k⟩
theorem T.smid {s:Str} {lo hi:Int} {Q:Str->Prop} (h0:0<=lo) (h1:lo<=hi) (h2:hi<=s.length) (k:Q ((s.take hi.toNat).drop lo.toNat)):T (smid s lo hi) Q:=
 ⟨_,by unfold AM.smid; rw[if_pos ⟨h0,h1,by omega⟩],k⟩
theorem T.scat {a b:Str} {Q:Str->Prop} (h:a.length+b.length<=1099511627776) (k:Q (a++b)):T (scat a b) Q:=⟨_,by unfold AM.scat; rw[if_pos h],k⟩
theorem T.sbytes {s:Str} {Q:List Int->Prop} (h:s.length<=1099511627776) (k:Q (s.map u8I)):T (sbytes s) Q:=⟨_,by unfold AM.sbytes; rw[if_pos h],k⟩
theorem aG {x:Int} (h1:-9223372036854775808<=x) (h2:x<9223372036854775808):w64 x=x:=by
 unfold w64; rw[IntKind.wrap_i64]; omega
theorem fV {α:Type} {l:List α} {i:Nat} (h:i<l.length):lget l (i:Int)=some l[i]:=by
 unfold AM.lget
 rw[if_pos (by omega)]; simp[h]
end Go.AM.Seat
namespace Go.AM.Seat
open Go Go.AM
theorem bE {α:Type} {l:List α} {k:Nat} {d:α} {r:List α} (h:l.drop k=d::r):lget l (k:Int)=some d:=by
 have hk:k<l.length:=by
  rcases Nat.lt_or_ge k l.length with h' | h'
  ·exact h'
  rw[List.drop_eq_nil_of_le h'] at h; simp at h
 unfold AM.lget
 rw[if_pos (by omega)]
 have:(l.drop k)[0]?=some d:=by rw[h]; rfl
 simpa using this
theorem bY {α:Type} {l:List α} {k:Nat} {d:α} {r:List α} (h:l.drop k=d::r):(k:Int)<(l.length:Int):=by
 rcases Nat.lt_or_ge k l.length with h' | h'
 ·omega
 rw[List.drop_eq_nil_of_le h'] at h; simp at h
theorem bX {α:Type} {l:List α} {k:Nat} (h:l.drop k=[]):¬(k:Int)<(l.length:Int):=by
 have:=List.drop_eq_nil_iff.1 h
 omega
theorem aX {α:Type} {l:List α} {k:Nat} {d:α} {r:List α} (h:l.drop k=d::r):l.drop (k+1)=r:=by
 rw[←List.drop_drop,h]; rfl
def Few {α:Type} (l:List α):Prop:=l.length<=140737488355328
theorem bQ {α:Type} {l:List α} {k:Nat} {d:α} {r:List α} (h:l.drop k=d::r) (hl:Few l):w64 ((k:Int)+1)=((k+1:Nat):Int):=by
 have:=bY h
 unfold Few at hl
 rw[aG (by omega) (by omega)]; omega
theorem cU {a b:Int} (h:a<b):decide (a<b)=true:=decide_eq_true h
theorem bW {a b:Int} (h:¬a<b):decide (a<b)=false:=decide_eq_false h
def aQ:List Int->Int
 | []=>1
 |d::r=>d*aQ r
def yZ (b:Bool):List Int->Except (Int×Int) Bool
 | []=>.ok b
 |d::r=>if d<0 then .error (0,1) else yZ (b||d==0) r
theorem AiJ {s:List Int} (hs:Few s):∀(l:List Int) (k:Nat) (b:Bool),s.drop k=l->mI (s,b,(k:Int))=some (yZ b l)
 | [],k,b,h=>by
  rw[mI]
  simp only[bW (bX h),fJ,if_false,yZ]
 |d::r,k,b,h=>by
  rw[mI]
  simp only[cU (bY h),if_true,bE h,oJ,bJ,bQ h hs,yZ]
  by_cases hd:d<0
  ·simp[hd]
  simp only[hd,decide_false,fJ,if_false]
  cases b
  ·exact AiJ hs r (k+1) _ (aX h)
  exact AiJ hs r (k+1) _ (aX h)
def vO (n:Int):List Int->Except (Int×Int) Int
 | []=>.ok n
 |d::r=>if d>16384 / n then .error (0,12) else vO (n*d) r
theorem Ap9 {a n:Int} (h:0<n) (ha:0<=a) (hb:a<9223372036854775808):idiv .i64 a n=some (a / n):=by
 unfold idiv
 rw[if_neg (by omega)]
 have h1:a.tdiv n=a / n:=Int.tdiv_eq_ediv_of_nonneg ha
 rw[h1]
 have h2:0<=a / n:=Int.ediv_nonneg ha (by omega)
 have h3:a / n<=a:=Int.ediv_le_self _ ha
 have:=aG (x:=a / n) (by omega) (by omega)
 unfold w64 at this
 rw[this]
theorem AnU {s:List Int} (hs:Few s):∀(l:List Int) (k:Nat) (n:Int),s.drop k=l->(∀d∈l,0<d)->0<n->n<=16384->mK (s,n,(k:Int))=some (vO n l)
 | [],k,n,h,hp,h0,h1=>by
  rw[mK]
  simp only[bW (bX h),fJ,if_false,vO]
 |d::r,k,n,h,hp,h0,h1=>by
  rw[mK]
  have hd:=hp d (by simp)
  simp only[cU (bY h),if_true,bE h,oJ,bJ,bQ h hs,vO,Ap9 h0 (by omega:(0:Int)<=16384) (by omega)]
  by_cases hq:d>16384 / n
  ·simp[hq]
  have hm:n*d<=16384:=by
   have h2:d<=16384 / n:=by omega
   have:=(Int.le_ediv_iff_mul_le h0).1 h2
   rw[Int.mul_comm]; exact this
  have hm0:0<n*d:=Int.mul_pos h0 hd
  simp only[hq,decide_false,fJ,if_false]
  rw[aG (by omega) (by omega)]
  exact AnU hs r (k+1) (n*d) (aX h) (λx hx=>hp x (by simp[hx])) hm0 hm
def kX (s:List Int):Int×Int:=
 if s.length>8 then (0,6) else match yZ false s with
 |.error r=>r
 |.ok true=>(0,0)
 |.ok false=>match vO 1 s with
  |.error r=>r
  |.ok n=>(n,0)
theorem Au7 {b:Bool}:∀{l:List Int},yZ b l=.ok false->b=false/\∀d∈l,0<d
 | [],h=>by simp only[yZ,Except.ok.injEq] at h; exact⟨h,by simp⟩
 |d::r,h=>by
  simp only[yZ] at h
  split at h
  ·cases h
  rename_i hd
  obtain⟨h1,h2⟩:=Au7 h
  simp only[Bool.or_eq_false_iff,beq_eq_false_iff_ne] at h1
  refine⟨h1.1,?_⟩
  intro x hx
  rcases List.mem_cons.1 hx with rfl|hx
  ·omega
  exact h2 x hx
theorem zN (s:List Int):jW s=some (kX s):=by
 unfold jW kX
 by_cases h8:s.length>8
 ·rw[if_pos (by simp; omega),if_pos h8]
 rw[if_neg (by simp; omega),if_neg h8]
 have hs:Few s:=by unfold Few; omega
 have h0:=AiJ hs s 0 false rfl
 rw[show mI (s,false,0)=some (yZ false s) from h0]
 simp only[oJ,bJ]
 cases hn:yZ false s with
 |error r=>rfl
 |ok b=>
  cases b with
  |true=>rfl
  |false=>
   obtain⟨_,hp⟩:=Au7 hn
   have h1:=AnU hs s 0 1 rfl hp (by omega) (by omega)
   simp only[fJ,if_false]
   rw[show mK (s,1,0)=some (vO 1 s) from h1]
   simp only[bJ]
   cases vO 1 s<;>rfl
theorem Arr.ind {P:Arr->Prop} (h:∀sh cs,(∀c∈cs,∀b∈aA.box c,P b)->P (.mk sh cs)) (a:Arr):P a:=by
 refine Arr.rec (motive_1:=P) (motive_2:=λc=>∀b∈aA.box c,P b) (motive_3:=λcs=>∀c∈cs,∀b∈aA.box c,P b) (motive_4:=λl=>∀b∈l,P b) ?_ ?_ ?_ ?_ ?_ ?_ a
 ·intro sh cs ih; exact h sh cs ih
 ·intro k n box ih; exact ih
 ·intro c hc; simp at hc
 ·intro c cs ihc ihs x hx
  rcases List.mem_cons.1 hx with rfl|hx
  ·exact ihc
  exact ihs x hx
 ·intro b hb; simp at hb
 intro b l ihb ihl x hx
 rcases List.mem_cons.1 hx with rfl|hx
 ·exact ihb
 exact ihl x hx
def AwE (n:Int):Bool:=decide (0<=n)&&decide (n<=1114111)&&(decide (n<55296)||decide (n>57343))
theorem Bg3 (n:Int):uV n=some (AwE n):=by
 unfold uV AwE
 by_cases h1:n>=0
 ·by_cases h2:n<=1114111
  ·by_cases h3:n<55296
   ·simp[h1,h2,h3]
   ·simp[h1,h2,h3]
  ·simp[h1,h2]
 simp[h1]
mutual
def Af3:Arr->Int->Int
 |.mk sh cs,deep=>if (kX sh).2≠0 then (kX sh).2 else if (kX sh).1≠cs.length then 1 else if sh.any (λd=>decide (d>16384)) then 12 else AhQ cs deep
def AhQ:List aA->Int->Int
 | [],_=>0
 |c::r,deep=>if AcZ c deep=0 then AhQ r deep else AcZ c deep
def AcZ:aA->Int->Int
 |.mk k n b,deep=>if k=2/\n=0/\b.length=1 then (if deep>=8 then 15 else BdB b deep) else if b.length>0 then 1 else if k=0\/(k=1/\AwE n=true) then 0 else 1
def BdB:List Arr->Int->Int
 | [],_=>0
 |a::_,deep=>Af3 a (deep+1)
end
theorem Am9 {a:Arr} {deep:Int} (hs:Few a.shape):∀(l:List Int) (k:Nat),a.shape.drop k=l->iY (a,deep,(k:Int))=some (if l.any (λd=>decide (d>16384)) then .error 12 else .ok ())
 | [],k,h=>by
  rw[iY]
  simp only[bW (bX h),fJ,if_false,List.any_nil]
 |d::r,k,h=>by
  rw[iY]
  simp only[cU (bY h),if_true,bE h,oJ,bJ,bQ h hs,List.any_cons]
  by_cases hd:d>16384
  ·simp[hd]
  simp only[hd,decide_false,fJ,if_false,Bool.false_or]
  exact Am9 hs r (k+1) (aX h)
theorem AmA {a:Arr} {deep:Int} (hs:Few a.cells) (h0:0<=deep) (h8:deep<=8) (ih:∀c∈a.cells,∀b∈c.box,∀d,0<=d->d<=8->pS (b,d)=some (Af3 b d)) :
  ∀(l:List aA) (k:Nat),a.cells.drop k=l->gU (a,deep,(k:Int))=some (if AhQ l deep=0 then .ok () else .error (AhQ l deep))
 | [],k,h=>by
  rw[gU]
  simp only[bW (bX h),fJ,if_false,AhQ,if_true]
 |.mk kd n b::r,k,h=>by
  have hm:aA.mk kd n b∈a.cells:=List.mem_of_mem_drop (by rw[h]; simp)
  have ihc:=ih _ hm
  have rec_:gU (a,deep,(k:Int)+1)=_:=AmA hs h0 h8 ih r (k+1) (aX h)
  rw[gU]
  simp only[cU (bY h),if_true,bE h,oJ,bJ,bQ h hs,Bg3]
  simp only[aA.kind,aA.n,aA.box,AhQ,AcZ] at ihc ⊢
  by_cases h2:kd=2
  ·by_cases hn:n=0
   ·by_cases hb:b.length=1
    ·obtain⟨x,rfl⟩:∃x,b=[x]:=List.length_eq_one_iff.1 hb
     by_cases h9:deep>=8
     ·simp[h2,hn,h9]
     have hx:=ihc x (by simp) (deep+1) (by omega) (by omega)
     have hw:w64 (deep+1)=deep+1:=aG (by omega) (by omega)
     have hl:lget [x] 0=some x:=rfl
     by_cases hz:Af3 x (deep+1)=0
     ·simp[h2,hn,h9,hw,hl,hx,BdB,hz,rec_]
     simp[h2,hn,h9,hw,hl,hx,BdB,hz]
    ·have hb':¬((b.length:Int)=1):=by omega
     by_cases hp:b.length>0
     ·have hp':(b.length:Int)>0:=by omega
      simp[h2,hn,hb,hb',hp,hp']
     have hp':¬(b.length:Int)>0:=by omega
     simp[h2,hn,hb,hb',hp,hp']
   ·by_cases hp:b.length>0
    ·have hp':(b.length:Int)>0:=by omega
     simp[h2,hn,hp,hp']
    ·have hp':¬(b.length:Int)>0:=by omega
     simp[h2,hn,hp,hp']
  by_cases hp:b.length>0
  ·have hp':(b.length:Int)>0:=by omega
   simp[h2,hp,hp']
  have hp':¬(b.length:Int)>0:=by omega
  by_cases h00:kd=0
  ·simp[h00,hp,hp',rec_]
  by_cases h1:kd=1
  ·by_cases hg:AwE n=true
   ·simp[h1,hp,hp',hg,rec_]
   ·simp[h1,hp,hp',hg]
  simp[h2,h1,h00,hp,hp']
theorem AxO:∀{l:List Int} {n m:Int},(∀d∈l,0<d)->0<n->n<=16384->vO n l=.ok m->m=n*aQ l/\0<m/\m<=16384/\∀d∈l,d<=16384
 | [],n,m,_,h0,h1,h=>by simp only[vO,Except.ok.injEq] at h; subst h; simp[aQ,h0,h1]
 |d::r,n,m,hp,h0,h1,h=>by
  simp only[vO] at h
  split at h
  ·cases h
  rename_i hq
  have hd:=hp d (by simp)
  have h2:d<=16384 / n:=by omega
  have hm:n*d<=16384:=by
   have:=(Int.le_ediv_iff_mul_le h0).1 h2
   rw[Int.mul_comm]; exact this
  have hm0:0<n*d:=Int.mul_pos h0 hd
  obtain⟨e,g1,g2,g3⟩:=AxO (λx hx=>hp x (by simp[hx])) hm0 hm h
  refine⟨by rw[e,aQ]; exact Int.mul_assoc _ _ _,g1,g2,?_⟩
  intro x hx
  rcases List.mem_cons.1 hx with rfl|hx
  ·have:x<=n*x:=by
    have:=Int.mul_le_mul_of_nonneg_right (show (1:Int)<=n by omega) (Int.le_of_lt hd)
    rwa [Int.one_mul] at this
   omega
  exact g3 x hx
theorem AsD:∀{l:List Int} {b:Bool},yZ b l=.ok true->(∀d∈l,0<=d)/\(b=true\/0∈l)
 | [],b,h=>by simp only[yZ,Except.ok.injEq] at h; simp[h]
 |d::r,b,h=>by
  simp only[yZ] at h
  split at h
  ·cases h
  rename_i hd
  obtain⟨h1,h2⟩:=AsD h
  refine⟨?_,?_⟩
  ·intro x hx
   rcases List.mem_cons.1 hx with rfl|hx
   ·omega
   exact h1 x hx
  rcases h2 with h2|h2
  ·rw[Bool.or_eq_true,beq_iff_eq] at h2
   rcases h2 with h2|h2
   ·exact .inl h2
   exact .inr (by simp[h2])
  exact .inr (by simp[h2])
theorem Aj5:∀{l:List Int},0∈l->aQ l=0
 |d::r,h=>by
  rcases List.mem_cons.1 h with rfl|h
  ·simp[aQ]
  simp[aQ,Aj5 h]
structure mG (s:List Int) (n:Int):Prop where
 rank:s.length<=8
 pos:∀d∈s,0<=d
 prod:aQ s=n
 lo:0<=n
 hi:n<=16384
 dim:n≠0->∀d∈s,0<d/\d<=16384
theorem uE {s:List Int} (h:(kX s).2=0):mG s (kX s).1:=by
 unfold kX at h ⊢
 split at h
 ·simp at h
 rename_i h8
 rw[if_neg h8]
 have e1:∀{b:Bool} {l:List Int} {r:Int×Int},yZ b l=.error r->r.2≠0:=by
  intro b l
  induction l generalizing b with
  |nil=>intro r h; cases h
  |cons d l ih=>
   intro r h
   simp only[yZ] at h
   split at h
   ·simp only[Except.error.injEq] at h; subst h; simp
   exact ih h
 have e2:∀{n:Int} {l:List Int} {r:Int×Int},vO n l=.error r->r.2≠0:=by
  intro n l
  induction l generalizing n with
  |nil=>intro r h; cases h
  |cons d l ih=>
   intro r h
   simp only[vO] at h
   split at h
   ·simp only[Except.error.injEq] at h; subst h; simp
   exact ih h
 cases hn:yZ false s with
 |error r=>rw[hn] at h; exact absurd h (e1 hn)
 |ok b=>
  rw[hn] at h
  cases b with
  |true=>
   obtain⟨g1,g2⟩:=AsD hn
   have hz:0∈s:=by rcases g2 with g2|g2; exact absurd g2 (by simp); exact g2
   exact⟨by omega,g1,Aj5 hz,by simp,by simp,λh=>absurd rfl h⟩
  |false=>
   obtain⟨_,hp⟩:=Au7 hn
   simp only at h ⊢
   cases hl:vO 1 s with
   |error r=>rw[hl] at h; exact absurd h (e2 hl)
   |ok n=>
    obtain⟨g1,g2,g3,g4⟩:=AxO hp (by omega) (by omega) hl
    exact⟨by omega,λd hd=>Int.le_of_lt (hp d hd),by rw[g1,Int.one_mul],by simp only; omega,g3,λ_ d hd=>⟨hp d hd,g4 d hd⟩⟩
theorem BdA (a:Arr):∀d,0<=d->d<=8->pS (a,d)=some (Af3 a d):=by
 refine Arr.ind (P:=λa=>∀d,0<=d->d<=8->pS (a,d)=some (Af3 a d)) ?_ a
 intro sh cs ih d h0 h8
 rw[pS]
 simp only[show (Arr.mk sh cs).shape=sh from rfl,show (Arr.mk sh cs).cells=cs from rfl,zN,oJ,bJ,Af3]
 by_cases he:(kX sh).2=0
 ·by_cases hn:(kX sh).1=cs.length
  ·have hz:=uE he
   have hfs:Few sh:=by have:=hz.rank; unfold Few; omega
   have hfc:Few cs:=by have:=hz.hi; unfold Few; omega
   have h1:=Am9 (a:=.mk sh cs) (deep:=d) hfs sh 0 rfl
   have h2:=AmA (a:=.mk sh cs) (deep:=d) hfc h0 h8 ih cs 0 rfl
   rw[show iY (Arr.mk sh cs,d,0)=_ from h1,show gU (Arr.mk sh cs,d,0)=_ from h2]
   cases ha:sh.any (λd=>decide (d>16384)) with
   |true=>simp[he,hn]
   |false=>
    by_cases hc:AhQ cs d=0
    ·simp[he,hn,hc]
    simp[he,hn,hc]
  ·have:((kX sh).1 != (cs.length:Int))=true:=by simpa using hn
   simp[he,hn]
 simp[he]
theorem qL (a:Arr):iM a=some (Af3 a 0):=by
 unfold iM
 rw[BdA a 0 (by omega) (by omega)]; rfl
end Go.AM.Seat
namespace Go.AM.Seat
open Go Go.AM
def Val (d:Int) (a:Arr):Prop:=Af3 a d=0
structure Ay3 (d:Int) (a:Arr):Prop where
 sized:mG a.shape a.cells.length
 dims:∀x∈a.shape,x<=16384
 cells:∀c∈a.cells,AcZ c d=0
theorem AiM {d:Int}:∀{l:List aA},AhQ l d=0↔∀c∈l,AcZ c d=0
 | []=>by simp[AhQ]
 |c::r=>by
  simp only[AhQ,List.mem_cons,forall_eq_or_imp]
  by_cases h:AcZ c d=0
  ·simp[h,AiM (l:=r)]
  simp[h]
theorem AuM {d:Int} {a:Arr}:Val d a↔Ay3 d a:=by
  obtain⟨sh,cs⟩:=a
  unfold Val
  simp only[Af3]
  constructor
  ·intro h
   split at h
   ·rename_i he; exact absurd h he
   rename_i he
   split at h
   ·omega
   rename_i hn
   split at h
   ·omega
   rename_i ha
   have he':(kX sh).2=0:=by omega
   have hz:=uE he'
   have hn':(kX sh).1=cs.length:=by omega
   rw[hn'] at hz
   refine⟨hz,?_,AiM.1 h⟩
   intro x hx
   simp only[Bool.not_eq_true,List.any_eq_false,decide_eq_true_eq] at ha
   have:=ha x hx
   omega
  rintro⟨h1,h2,h3⟩
  have he:kX sh=((cs.length:Int),0):=sizeS_of h1
  rw[he]
  simp only[ne_eq,not_true_eq_false,if_false]
  rw[if_neg]
  ·exact AiM.2 h3
  simp only[Bool.not_eq_true,List.any_eq_false,decide_eq_true_eq]
  intro x hx
  have:=h2 x hx
  simp only[Arr.shape] at *
  omega
 where
  sizeS_of {s:List Int} {n:Int} (h:mG s n):kX s=(n,0):=by
   unfold kX
   have h8:=h.rank
   rw[if_neg (by omega)]
   by_cases hz:n=0
   ·have hp:aQ s=0:=by rw[h.prod,hz]
    have h0:0∈s:=prod_zero hp
    rw[neg_zero false h.pos (.inr h0)]
    subst hz; rfl
   have hd:=h.dim hz
   rw[neg_pos (λd hd'=>(hd d hd').1)]
   simp only
   rw[size_ok (n:=1) (λd hd'=>(hd d hd').1) (by omega) (by rw[Int.one_mul,h.prod]; exact h.hi)]
   simp only[Int.one_mul,h.prod]
  prod_zero:∀{l:List Int},aQ l=0->0∈l
   | [],h=>by simp[aQ] at h
   |d::r,h=>by
    simp only[aQ] at h
    rcases Int.mul_eq_zero.1 h with h|h
    ·simp[h]
    simp[prod_zero h]
  neg_zero:∀{l:List Int} (b:Bool),(∀d∈l,0<=d)->(b=true\/0∈l)->yZ b l=.ok true
   | [],b,_,h=>by
    rcases h with h|h
    ·simp[yZ,h]
    simp at h
   |d::r,b,hp,h=>by
    have hd:=hp d (by simp)
    simp only[yZ]
    rw[if_neg (by omega)]
    refine neg_zero _ (λx hx=>hp x (by simp[hx])) ?_
    rcases h with h|h
    ·left; simp[h]
    rcases List.mem_cons.1 h with h|h
    ·left; simp[←h]
    exact .inr h
  neg_pos:∀{l:List Int},(∀d∈l,0<d)->yZ false l=.ok false
   | [],_=>rfl
   |d::r,hp=>by
    have hd:=hp d (by simp)
    simp only[yZ]
    rw[if_neg (by omega)]
    have:(false||d==0)=false:=by simp; omega
    rw[this]
    exact neg_pos λx hx=>hp x (by simp[hx])
  prod_pos:∀{l:List Int},(∀d∈l,0<d)->0<aQ l
   | [],_=>by simp[aQ]
   |d::r,hp=>Int.mul_pos (hp d (by simp)) (prod_pos λx hx=>hp x (by simp[hx]))
  size_ok:∀{l:List Int} {n:Int},(∀d∈l,0<d)->0<n->n*aQ l<=16384->vO n l=.ok (n*aQ l)
   | [],n,_,_,_=>by simp[vO,aQ]
   |d::r,n,hp,h0,h=>by
    have hd:=hp d (by simp)
    have hr:=prod_pos (l:=r) λx hx=>hp x (by simp[hx])
    simp only[aQ,←Int.mul_assoc] at h ⊢
    have h1:n*d<=16384:=by
     have h2:n*d*1<=n*d*aQ r:=Int.mul_le_mul_of_nonneg_left (by omega) (Int.le_of_lt (Int.mul_pos h0 hd))
     rw[Int.mul_one] at h2
     omega
    simp only[vO]
    rw[if_neg]
    ·exact size_ok (λx hx=>hp x (by simp[hx])) (Int.mul_pos h0 hd) h
    have:d<=16384 / n:=(Int.le_ediv_iff_mul_le h0).2 (by rw[Int.mul_comm]; exact h1)
    omega
theorem Val.i {d:Int} {a:Arr} (h:Val d a):Ay3 d a:=AuM.1 h
theorem Ay3.v {d:Int} {a:Arr} (h:Ay3 d a):Val d a:=AuM.2 h
theorem Val.fews {d:Int} {a:Arr} (h:Val d a):Few a.shape:=by have:=h.i.sized.rank; unfold Few; omega
theorem Val.fewc {d:Int} {a:Arr} (h:Val d a):Few a.cells:=by have:=h.i.sized.hi; unfold Few; omega
theorem rP {d:Int} {c:aA} (h:AcZ c d=0):(c.kind=2/\c.n=0/\d<8/\∃b,c.box=[b]/\Val (d+1) b)\/(c.box=[]/\(c.kind=0\/(c.kind=1/\AwE c.n=true))):=by
 obtain⟨k,n,b⟩:=c
 simp only[AcZ] at h
 split at h
 ·rename_i hc
  split at h
  ·omega
  obtain⟨x,rfl⟩:=List.length_eq_one_iff.1 hc.2.2
  exact .inl ⟨hc.1,hc.2.1,by omega,x,rfl,h⟩
 split at h
 ·omega
 rename_i hb
 split at h
 ·rename_i hk
  refine .inr ⟨?_,hk⟩
  cases b with
  |nil=>rfl
  |cons _ _=>simp at hb
 omega
theorem AzT {a:Arr} {l:List Int} (hf:Few a.cells) (hl:a.cells.length<=16384) (hc:∀c∈a.cells,kG c=some c):∀(r:List aA) (k:Nat) (out:List aA),a.cells.drop k=r->out=a.cells.take k->kE (a,l,(k:Int),out)=some a.cells
 | [],k,out,h,ho=>by
  rw[kE]
  simp only[bW (bX h),fJ,if_false]
  rw[ho,List.take_of_length_le (List.drop_eq_nil_iff.1 h)]
 |c::r,k,out,h,ho=>by
  have hk:=bY h
  have hm:c∈a.cells:=List.mem_of_mem_drop (by rw[h]; simp)
  rw[kE]
  have hlo:out.length<=16384:=by rw[ho,List.length_take]; omega
  have hap:lapp out [c]=some (out++[c]):=by unfold lapp; rw[if_pos (by simp; omega)]
  simp only[cU hk,if_true,bE h,oJ,bJ,bQ h hf,hc c hm,hap]
  refine AzT hf hl hc r (k+1) _ (aX h) ?_
  rw[ho]
  have:a.cells[k]?=some c:=by
   have:(a.cells.drop k)[0]?=some c:=by rw[h]; rfl
   simpa using this
  rw[List.take_add_one,this]; rfl
theorem sM (a:Arr):∀d,Val d a->fH a=some a:=by
 refine Arr.ind (P:=λa=>∀d,Val d a->fH a=some a) ?_ a
 intro sh cs ih d hv
 have hi:=hv.i
 have hc:∀c∈cs,kG c=some c:=by
  intro c hm
  rw[kG]
  rcases rP (hi.cells c hm) with ⟨_,_,_,b,hb,hvb⟩|⟨hb,_⟩
  ·have:=ih c hm b (by rw[hb]; simp) _ hvb
   obtain⟨k,n,bx⟩:=c
   simp only[aA.box] at hb
   subst hb
   have hl:lget [b] 0=some b:=rfl
   simp[aA.box,aA.kind,aA.n,hl,this]
  obtain⟨k,n,bx⟩:=c
  simp only[aA.box] at hb
  subst hb
  simp[aA.box,aA.kind,aA.n]
 rw[fH]
 have h1:lapp [] sh=some sh:=by unfold lapp; have:=hi.sized.rank; simp only[Arr.shape] at this; rw[if_pos (by simp; omega)]; simp
 have hlen:cs.length<=16384:=by have:=hi.sized.hi; simp only[Arr.cells] at this; omega
 have h2:=AzT (a:=.mk sh cs) (l:=sh) hv.fewc hlen hc cs 0 [] rfl rfl
 simp only[Arr.shape,h1,oJ,bJ]
 rw[show kE (Arr.mk sh cs,sh,0,[])=some cs from h2]; rfl
mutual
def wA:Arr->Nat
 |.mk _ cs=>wCs cs
def wCs:List aA->Nat
 | []=>0
 |c::r=>1+wC c+wCs r
def wC:aA->Nat
 |.mk _ _ b=>wB b
def wB:List Arr->Nat
 | []=>0
 |a::r=>wA a+wB r
end
theorem AxY (a:Arr):wA a=wCs a.cells:=by cases a; rfl
theorem AxZ (c:aA):wC c=wB c.box:=by cases c; rfl
def bCs:List aA->Nat
 | []=>0
 |c::r=>wC c+bCs r
theorem An5:∀l:List aA,wCs l=l.length+bCs l
 | []=>rfl
 |c::r=>by simp only[wCs,bCs,List.length_cons,An5 r]; omega
theorem Bd2 {m:Nat}:∀{l:List aA},(∀c∈l,wC c<=m)->bCs l<=l.length*m
 | [],_=>by simp[bCs]
 |c::r,h=>by
  have h1:=h c (by simp)
  have h2:=Bd2 λx hx=>h x (List.mem_cons_of_mem _ hx)
  simp only[bCs,List.length_cons,Nat.add_mul,Nat.one_mul]
  omega
theorem AnH {c:aA}:∀{l:List aA},c∈l->wC c<=bCs l
 |x::r,h=>by
  simp only[bCs]
  rcases List.mem_cons.1 h with rfl|h
  ·omega
  have:=AnH h; omega
theorem Al5:∀(l:List aA) (k:Nat),bCs l=bCs (l.take k)+bCs (l.drop k)
 | [],k=>by simp[bCs]
 |c::r,0=>by simp[bCs]
 |c::r,k+1=>by simp only[List.take_succ_cons,List.drop_succ_cons,bCs,Al5 r k]; omega
def big:Nat:=4611686018427387904
theorem BfH (a:Arr):∀d,Val d a->T (kH a) (λn=>wA a<big->n=wA a):=by
 refine Arr.ind (P:=λa=>∀d,Val d a->T (kH a) (λn=>wA a<big->n=wA a)) ?_ a
 intro sh cs ih d hv
 have hi:=hv.i
 have hfc:Few cs:=hv.fewc
 have l1:∀(x:Int) (c:aA),c∈cs->∀n:Int,T (iN (.mk sh cs,x,c,n,0)) (λm=>wCs cs<big->0<=n->n+wC c<big->m=n+wC c):=by
  intro x c hm n
  have hc:=hi.cells c hm
  rw[iN]
  rcases rP hc with ⟨_,_,_,b,hb,hvb⟩|⟨hb,_⟩
  ·have hwc:wC c=wA b:=by rw[AxZ,hb]; simp[wB]
   simp only[hb]
   rw[show (decide ((0:Int)<(([b]:List Arr).length:Int)))=true from rfl,if_pos rfl,show lget [b] (0:Int)=some b from rfl]
   refine T.bind (T.val rfl (Q:=λv=>v=b) rfl) ?_
   intro v hv'; subst hv'
   refine T.bind (ih c hm v (by rw[hb]; simp) _ hvb) ?_
   intro w hw
   rw[iN]
   simp only[hb]
   rw[show (decide (w64 (0+1)<(([v]:List Arr).length:Int)))=false from rfl]
   refine T.ret ?_
   intro h1 h2 h3
   have hwm:=AnH hm
   have hwb:=An5 cs
   have:=hw (by omega)
   rw[this,hwc]
   rw[aG (by omega) (by unfold big at h3; omega)]
  have hwc:wC c=0:=by rw[AxZ,hb]; simp[wB]
  simp only[hb]
  refine T.ret ?_
  intro h1 h2 h3; rw[hwc]; simp
 have l0:∀(r:List aA) (k:Nat) (n:Int),cs.drop k=r->T (p_meter_Cells_l0 (.mk sh cs,n,(k:Int))) (λm=>wCs cs<big->n=((cs.length+bCs (cs.take k):Nat):Int)->m=wCs cs):=by
  intro r
  induction r with
  |nil=>
   intro k n h
   rw[p_meter_Cells_l0]
   simp only[show (Arr.mk sh cs).cells=cs from rfl,bW (bX h),fJ,if_false]
   refine T.ret ?_
   intro h1 h2
   rw[h2,An5,List.take_of_length_le (List.drop_eq_nil_iff.1 h)]
  |cons c r ihr=>
   intro k n h
   have hm:c∈cs:=List.mem_of_mem_drop (by rw[h]; simp)
   rw[p_meter_Cells_l0]
   simp only[show (Arr.mk sh cs).cells=cs from rfl,cU (bY h),if_true,bE h,oJ,bJ,bQ h hfc]
   refine T.bind (l1 _ c hm n) ?_
   intro m hm2
   refine (ihr (k+1) m (aX h)).imp ?_
   intro v hv2 h1 h2
   refine hv2 h1 ?_
   have hs:=Al5 cs k
   have hs':=Al5 cs (k+1)
   rw[h] at hs
   rw[aX h] at hs'
   simp only[bCs] at hs
   have hwb:=An5 cs
   rw[hm2 h1 (by omega) (by omega)]
   omega
 rw[kH]
 refine T.bind (l0 cs 0 _ rfl) ?_
 intro v hv2
 refine T.ret ?_
 intro h1
 rw[AxY] at h1 ⊢
 refine hv2 h1 ?_
 simp[bCs,Arr.cells]
end Go.AM.Seat
namespace Go.AM.Seat
open Go Go.AM
theorem Node.ind {P:Node->Prop} (h:∀n,(∀k∈Node.kids n,P k)->P n) (n:Node):P n:=by
 refine Node.rec (motive_1:=P) (motive_2:=λl=>∀k∈l,P k) ?_ ?_ ?_ n
 ·intro kd op nm lit ks at_ ih; exact h _ ih
 ·intro k hk; simp at hk
 intro k l ihk ihl x hx
 rcases List.mem_cons.1 hx with rfl|hx
 ·exact ihk
 exact ihl x hx
mutual
def fitA:Arr->Prop
 |.mk sh cs=>Few sh/\Few cs/\Aw4 cs
def Aw4:List aA->Prop
 | []=>True
 |c::r=>AtR c/\Aw4 r
def AtR:aA->Prop
 |.mk _ _ b=>Few b/\Bg1 b
def Bg1:List Arr->Prop
 | []=>True
 |a::r=>fitA a/\Bg1 r
end
mutual
def fitN:Node->Prop
 |.mk _ _ nm lit ks _=>Few nm/\fitA lit/\Few ks/\Ba4 ks
def Ba4:List Node->Prop
 | []=>True
 |n::r=>fitN n/\Ba4 r
end
theorem ArT:∀{l:List Node},Ba4 l->∀k∈l,fitN k
 |n::r,h,k,hk=>by
  rcases List.mem_cons.1 hk with rfl|hk
  ·exact h.1
  exact ArT h.2 k hk
theorem fitN.name {n:Node} (h:fitN n):Few n.name:=by cases n; exact h.1
theorem fitN.kids {n:Node} (h:fitN n):∀k∈n.kids,fitN k:=by cases n; exact ArT h.2.2.2
theorem fitN.fewk {n:Node} (h:fitN n):Few n.kids:=by cases n; exact h.2.2.1
def WfB (n:Node):Prop:=(n.kind=21/\21<=n.op_/\n.op_<=32)\/(n.kind=35/\∃b,n.kids=[b]/\b.kind=21/\21<=b.op_/\b.op_<=32)
mutual
inductive WfE:Bool->Bool->Node->Prop
 |lit {n:Node} {lt rt:Bool}:n.kind=1->Val 0 n.lit->WfE lt rt n
 |var {n:Node} {lt rt:Bool}:n.kind=2->WfE lt rt n
 |left {n:Node} {lt rt:Bool}:n.kind=3->lt=true->WfE lt rt n
 |right {n:Node} {lt rt:Bool}:n.kind=4->rt=true->WfE lt rt n
 |mo {n f x:Node} {lt rt:Bool}:n.kind=5->n.kids=[f,x]->WfM f->WfE lt rt x->WfE lt rt n
 |dy {n f x y:Node} {lt rt:Bool}:n.kind=6->n.kids=[f,x,y]->WfD f->WfE lt rt x->WfE lt rt y->WfE lt rt n
inductive WfM:Node->Prop
 |prim {n:Node}:n.kind=21->WfM n
 |lam {n e:Node}:n.kind=22->n.kids=[e]->WfE false true e->WfM n
 |fold {n b:Node}:n.kind=31\/n.kind=32\/n.kind=33\/n.kind=34->n.kids=[b]->WfB b->WfM n
 |comm {n f:Node}:n.kind=35->n.kids=[f]->WfT f->WfM n
 |pow {n f:Node}:n.kind=26->0<=n.op_->n.op_<=4096->n.kids=[f]->WfM f->WfM n
inductive WfT:Node->Prop
 |prim {n:Node}:n.kind=21->WfT n
 |lam {n e:Node}:n.kind=23->n.kids=[e]->WfE true true e->WfT n
inductive WfD:Node->Prop
 |outer {n b:Node}:n.kind=25->n.kids=[b]->WfB b->WfD n
 |comm {n f:Node}:n.kind=35->n.kids=[f]->WfT f->WfD n
 |two {n:Node}:WfT n->WfD n
end
theorem WfE.mono (n:Node):∀{lt rt lt' rt':Bool},WfE lt rt n->(lt=true->lt'=true)->(rt=true->rt'=true)->WfE lt' rt' n:=by
 refine Node.ind (P:=λn=>∀{lt rt lt' rt':Bool},WfE lt rt n->(lt=true->lt'=true)->(rt=true->rt'=true)->WfE lt' rt' n) ?_ n
 intro n ih lt rt lt' rt' h h1 h2
 cases h with
 |lit a b=>exact .lit a b
 |var a=>exact .var a
 |left a b=>exact .left a (h1 b)
 |right a b=>exact .right a (h2 b)
 |mo a b c d=>exact .mo a b c (ih _ (by rw[b]; simp) d h1 h2)
 |dy a b c d e=>exact .dy a b c (ih _ (by rw[b]; simp) d h1 h2) (ih _ (by rw[b]; simp) e h1 h2)
theorem AlQ {b:List (Int×Bool)} {k j:Int}:yM (Au6 b k true) j false=if j=k then true else yM b j false:=by
 induction b with
 |nil=>simp only[Au6,yM]; by_cases h:j=k<;>simp[h]
 |cons p r ih=>
  obtain⟨k',v'⟩:=p
  simp only[Au6]
  by_cases h:k=k'
  ·subst h
   simp only[beq_self_eq_true,if_true,yM]
   by_cases h2:j=k<;>simp[h2]
  have e1:(k==k')=false:=by simpa using h
  simp only[e1,fJ,if_false,yM,ih]
  by_cases h2:j=k'
  ·have h3:¬j=k:=λe=>h (by rw[←e,h2])
   have e2:(j==k')=true:=by simpa using h2
   rw[e2,if_pos rfl,if_neg h3,if_pos rfl]
  have e2:(j==k')=false:=by simpa using h2
  simp only[e2,fJ,if_false]
def QE (b:List (Int×Bool)) (n:Node) (r:Bool×Int×List (Int×Bool)):Prop:=
 (∀k,yM b k false=true->yM r.2.2 k false=true)/\(r.1=true->WfE (yM r.2.2 3 false) (yM r.2.2 4 false) n)
theorem qe {b:List (Int×Bool)} {n:Node} {t:Bool} {m:Int} (h:t=true->∀lt rt,WfE lt rt n):QE b n (t,m,b):=⟨λ_ h=>h,λe=>h e _ _⟩
theorem qno {b:List (Int×Bool)} {n:Node} {m:Int}:QE b n (false,m,b):=qe λe=>by cases e
theorem AdQ {deep nodes:Int} {b:List (Int×Bool)}:T (cO deep nodes b) (λ_=>True):=by
 unfold cO
 exact T.ite (λ_=>T.ret trivial) (λ_=>T.ret trivial)
theorem AaH {deep nodes:Int}:T (bT deep nodes) (λ_=>True):=by
 unfold bT
 exact T.ite (λ_=>T.ret trivial) (λ_=>T.ret trivial)
theorem fZ {n:Node} {k:Int} {a b c:Bool}:T (bM n k a b c) (λr=>r=true->(n.kids.length:Int)=k):=by
 unfold bM
 refine T.ite (λh=>?_) (λ_=>T.ret (by intro e; cases e))
 have hk:(n.kids.length:Int)=k:=by simpa using h
 have ok:∀x:Bool,x=true->(n.kids.length:Int)=k:=λ_ _=>hk
 repeat' (first|exact T.ret (ok _)|refine T.ite (λ_=>?_) (λ_=>?_))
theorem AeL {n:Node} (h:(n.kids.length:Int)=1):∃a,n.kids=[a]:=List.length_eq_one_iff.1 (by omega)
theorem BhK {n:Node} (h:(n.kids.length:Int)=2):∃a b,n.kids=[a,b]:=by
 match hk:n.kids,h with
 | [a,b],_=>exact⟨a,b,rfl⟩
 | [],h=>simp at h
 | [_],h=>simp at h
 |_::_::_::_,h=>simp at h; omega
theorem BhL {n:Node} (h:(n.kids.length:Int)=3):∃a b c,n.kids=[a,b,c]:=by
 match hk:n.kids,h with
 | [a,b,c],_=>exact⟨a,b,c,rfl⟩
 | [],h=>simp at h
 | [_],h=>simp at h
 | [_,_],h=>simp at h
 |_::_::_::_::_,h=>simp at h; omega
theorem AjG {op:Int}:T (mL op) (λr=>r=true->21<=op/\op<=32):=by
 unfold mL
 refine T.ite (λh=>T.ret ?_) (λ_=>T.ret (by intro e; cases e))
 intro e
 simp at h e; omega
theorem AjD {a:Arr} (hf:Few a.cells):∀(r:List aA) (k:Nat),a.cells.drop k=r->T (jB (a,(k:Int))) (λ_=>True)
 | [],k,h=>by
  rw[jB]
  simp only[bW (bX h),fJ,if_false]
  exact T.ret trivial
 |c::r,k,h=>by
  have hk:=bY h
  have ih:=AjD hf r (k+1) (aX h)
  rw[jB]
  simp only[cU hk,if_true,bE h,oJ,bJ,bQ h hf]
  refine T.bind (R:=λ_=>True) ?_ (λv _=>?_)
  ·refine T.ite (λ_=>T.ret trivial) (λ_=>?_)
   refine T.bind (T.lget (Q:=λ_=>True) (by omega) (by omega) (λ_ _=>trivial)) (λy _=>?_)
   repeat' (first|exact T.ret trivial|refine T.ite (λ_=>?_) (λ_=>?_))
  cases v
  ·exact T.ret trivial
  exact ih
theorem AjE {a:Arr} (hf:Few a.cells):∀(r:List aA) (k:Nat),a.cells.drop k=r->T (jD (a,(k:Int))) (λ_=>True)
 | [],k,h=>by
  rw[jD]
  simp only[bW (bX h),fJ,if_false]
  exact T.ret trivial
 |c::r,k,h=>by
  have hk:=bY h
  have ih:=AjE hf r (k+1) (aX h)
  rw[jD]
  simp only[cU hk,if_true,bE h,oJ,bJ,bQ h hf]
  refine T.bind (R:=λ_=>True) ?_ (λv _=>?_)
  ·refine T.ite (λ_=>T.ret trivial) (λ_=>?_)
   refine T.bind (T.lget (Q:=λ_=>True) (by omega) (by omega) (λ_ _=>trivial)) (λy _=>?_)
   repeat' (first|exact T.ret trivial|refine T.ite (λ_=>?_) (λ_=>?_))
  cases v
  ·exact T.ret trivial
  exact ih
theorem AqV (a:Arr):T (pG a) (λr=>r=true->Val 0 a):=by
 unfold pG
 refine T.bind (T.val (qL a) (Q:=λv=>v=Af3 a 0) rfl) (λx hx=>?_)
 subst hx
 refine T.ite (λ_=>T.ret (by intro e; cases e)) (λhx=>?_)
 have hv:Val 0 a:=by unfold Val; simpa using hx
 have ok:∀r:Bool,r=true->Val 0 a:=λ_ _=>hv
 refine T.ite (λ_=>T.ret (ok _)) (λ_=>?_)
 refine T.ite (λ_=>?_) (λ_=>?_)
 ·refine T.ite (λ_=>T.ret (ok _)) (λ_=>?_)
  refine T.bind (AjD hv.fewc a.cells 0 rfl) (λv _=>?_)
  cases v<;>exact T.ret (ok _)
 refine T.bind (AjE hv.fewc a.cells 0 rfl) (λv _=>?_)
 cases v<;>exact T.ret (ok _)
theorem AqW {s:Str} (hf:Few s):∀(r:List UInt8) (k:Nat),s.drop k=r->T (mZ (s,(k:Int))) (λ_=>True)
 | [],k,h=>by
  rw[mZ]
  simp only[bW (bX h),fJ,if_false]
  exact T.ret trivial
 |c::r,k,h=>by
  have hk:=bY h
  have ih:=AqW hf r (k+1) (aX h)
  rw[mZ]
  have g:∀{α:Type} {f:Int->Option α} {Q:α->Prop},(∀v,T (f v) Q)->T (sget s (k:Int)>>=f) Q:=λhh=>T.bind (T.sget (Q:=λ_=>True) (by omega) hk (λ_ _=>trivial)) (λv _=>hh v)
  simp only[cU hk,if_true,bQ h hf]
  refine T.bind (R:=λ_=>True) ?_ (λv _=>?_)
  ·repeat' (first|exact T.ret trivial|refine T.ite (λ_=>?_) (λ_=>?_)|refine g (λ_=>?_))
  cases v
  ·exact T.ret trivial
  exact ih
theorem BcN {s:Str} (hf:Few s):T (vH s) (λ_=>True):=by
 unfold vH
 refine T.bind (AqW hf s 0 rfl) (λv _=>?_)
 cases v
 ·exact T.ret trivial
 exact T.ite (λ_=>T.ret trivial) (λ_=>T.ret trivial)
theorem hO {α:Prop}:(false:Bool)=true->α:=λe=>by cases e
theorem eY {a b:Int} (h:(a==b)=true):a=b:=by simpa using h
theorem jM {α:Type} {a:α} {r:List α} {Q:α->Prop} (h:Q a):T (lget (a::r) 0) Q:=⟨a,rfl,h⟩
theorem AwP {α:Type} {a b:α} {r:List α} {Q:α->Prop} (h:Q b):T (lget (a::b::r) 1) Q:=⟨b,rfl,h⟩
theorem BhM {α:Type} {a b c:α} {r:List α} {Q:α->Prop} (h:Q c):T (lget (a::b::c::r) 2) Q:=⟨c,rfl,h⟩
theorem Ar7 {n:Node} {deep nodes:Int} {b:List (Int×Bool)}:T (fY n deep nodes b) (λr=>r.1=true->WfB n):=by
 unfold fY
 refine T.bind (R:=λr=>match r with|.error r=>r.1=false|.ok (_,k,o,_)=>(k=21->21<=o->o<=32->WfB n)) ?_ (λv hv=>?_)
 ·refine T.ite (λh=>?_) (λh=>?_)
  ·refine T.bind AdQ (λv _=>?_)
   refine T.ite (λ_=>T.ret rfl) (λ_=>?_)
   refine T.bind fZ (λx hx=>?_)
   refine T.ite (λ_=>T.ret rfl) (λhxx=>?_)
   obtain⟨a,ha⟩:=AeL (hx (by simpa using hxx))
   rw[ha]
   refine T.bind (jM (Q:=λy=>y=a) rfl) (λy hy=>?_)
   subst hy
   exact T.ret (λh1 h2 h3=>.inr ⟨eY h,y,ha,h1,h2,h3⟩)
  ·exact T.ret (λh1 h2 h3=>.inl ⟨h1,h2,h3⟩)
 match v,hv with
 |.error r,hv=>exact T.ret (λe=>by rw[hv] at e; cases e)
 |.ok (_,k,o,_,_,_,_,_,_),hv=>
  refine T.bind AdQ (λv _=>?_)
  refine T.ite (λ_=>?_) (λ_=>T.ret hO)
  refine T.ite (λhk=>?_) (λ_=>T.ret hO)
  refine T.bind fZ (λx hx=>?_)
  refine T.ite (λ_=>?_) (λ_=>T.ret hO)
  refine T.bind AjG (λx hx=>?_)
  exact T.ret (λe=>hv (eY hk) (hx e).1 (hx e).2)
def BcL (n:Node):Prop:=∀(deep nodes:Int) (b:List (Int×Bool)),
 T (dH (n,deep,nodes,b)) (QE b n)/\T (kV (n,deep,nodes,b)) (λr=>r.1=true->WfM n)/\T (oH (n,deep,nodes,b)) (λr=>r.1=true->WfD n) /\
 T (fQ (n,deep,nodes,b)) (λr=>r.1=true->WfT n)
theorem BjH (n:Node):fitN n->BcL n:=by
 refine Node.ind (P:=λn=>fitN n->BcL n) ?_ n
 intro n ih hf
 have ihk:∀k∈n.kids,BcL k:=λk hk=>ih k hk (hf.kids k hk)
 have lam:∀(deep nodes:Int) (b:List (Int×Bool)),T (gL (n,deep,nodes,b)) (λr=>r.1=true->∃e,n.kids=[e]/\(n.kind=22->WfE false true e)/\(n.kind≠22->WfE true true e)):=by
  intro deep nodes b
  rw[gL]
  refine T.bind fZ (λx hx=>?_)
  refine T.ite (λ_=>T.ret hO) (λhxx=>?_)
  obtain⟨a,ha⟩:=AeL (hx (by simpa using hxx))
  rw[ha]
  refine T.bind (jM (Q:=λy=>y=a) rfl) (λy hy=>?_)
  subst hy
  refine T.bind ((ihk y (by rw[ha]; simp) (w64 (deep+1)) nodes []).1) (λr hr=>?_)
  refine T.ite (λhk=>?_) (λhk=>?_)
  ·refine T.ite (λh=>T.ret (λe=>⟨y,rfl,λ_=>(hr.2 h).mono _ (λh3=>by rw[h3] at e; cases e) (λ_=>rfl),λh'=>absurd (eY hk) h'⟩)) (λ_=>T.ret hO)
  refine T.ite (λh=>?_) (λ_=>T.ret hO)
  refine T.ite (λh3=>T.ret (λh4=>⟨y,rfl,λh'=>by rw[h'] at hk; simp at hk,λ_=>(hr.2 h).mono _ (λ_=>rfl) (λ_=>rfl)⟩)) (λ_=>T.ret hO)
 have two:∀(deep nodes:Int) (b:List (Int×Bool)),T (fQ (n,deep,nodes,b)) (λr=>r.1=true->WfT n):=by
  intro deep nodes b
  rw[fQ]
  refine T.bind AdQ (λv _=>?_)
  refine T.ite (λ_=>T.ret hO) (λ_=>?_)
  refine T.ite (λhk=>?_) (λ_=>?_)
  ·have hp:WfT n:=.prim (eY hk)
   refine T.bind fZ (λx hx=>?_)
   refine T.ite (λ_=>?_) (λ_=>T.ret hO)
   refine T.bind AjG (λx hx=>?_)
   refine T.ite (λ_=>T.ret (λ_=>hp)) (λ_=>?_)
   exact T.ite (λ_=>T.ret (λ_=>hp)) (λ_=>T.ret hO)
  refine T.ite (λhk=>?_) (λ_=>T.ret hO)
  refine T.bind (lam deep _ b) (λr hr=>T.ret (λe=>?_))
  obtain⟨x,h1,h2⟩:=hr e
  exact .lam (eY hk) h1 (h2.2 (by rw[eY hk]; decide))
 have turned:∀(deep nodes:Int) (b:List (Int×Bool)),T (gM (n,deep,nodes,b)) (λr=>r.1=true->∃f,n.kids=[f]/\WfT f):=by
  intro deep nodes b
  rw[gM]
  refine T.bind fZ (λx hx=>?_)
  refine T.ite (λ_=>T.ret hO) (λhxx=>?_)
  obtain⟨a,ha⟩:=AeL (hx (by simpa using hxx))
  rw[ha]
  refine T.bind (jM (Q:=λy=>y=a) rfl) (λy hy=>?_)
  subst hy
  have g:=(ihk y (by rw[ha]; simp) (w64 (deep+1)) nodes b).2.2.2
  refine T.ite (λ_=>?_) (λ_=>?_)
  ·exact T.bind g (λr hr=>T.ret (λe=>⟨y,rfl,hr e⟩))
  refine T.ite (λ_=>?_) (λ_=>T.ret hO)
  refine T.ite (λ_=>?_) (λ_=>T.ret hO)
  exact T.bind g (λr hr=>T.ret (λe=>⟨y,rfl,hr e⟩))
 intro deep nodes b
 refine⟨?_,?_,?_,two deep nodes b⟩
 ·rw[dH]
  refine T.bind AdQ (λv _=>?_)
  refine T.ite (λ_=>T.ret qno) (λ_=>?_)
  refine T.ite (λhk=>?_) (λ_=>?_)
  ·refine T.bind fZ (λx hx=>?_)
   refine T.ite (λ_=>?_) (λ_=>T.ret qno)
   exact T.bind (AqV _) (λr hr=>T.ret (qe λe _ _=>.lit (eY hk) (hr e)))
  refine T.ite (λhk=>?_) (λ_=>?_)
  ·refine T.bind fZ (λx hx=>?_)
   refine T.ite (λ_=>?_) (λ_=>T.ret qno)
   exact T.bind (BcN hf.name) (λr hr=>T.ret (qe λe _ _=>.var (eY hk)))
  refine T.bind (R:=λr=>r=true->n.kind=3\/n.kind=4) ?_ (λx5 h5=>?_)
  ·exact T.ite (λh=>T.ret (λ_=>.inl (eY h))) (λ_=>T.ret (λh=>.inr (eY h)))
  refine T.ite (λhk=>?_) (λ_=>?_)
  ·refine T.bind fZ (λx hx=>?_)
   exact T.ite (λ_=>T.ret qno) (λ_=>T.ret ⟨λk h=>by rw[AlQ]; split; rfl; exact h,λ_=>by
    rcases h5 hk with h|h
    ·exact .left h (by rw[AlQ,if_pos h.symm])
    exact .right h (by rw[AlQ,if_pos h.symm])⟩)
  refine T.ite (λhk=>?_) (λ_=>?_)
  ·refine T.bind fZ (λx hx=>?_)
   refine T.ite (λhxx=>?_) (λ_=>T.ret qno)
   obtain⟨f,x1,ha⟩:=BhK (hx hxx)
   rw[ha]
   refine T.bind (jM (Q:=λy=>y=f) rfl) (λy hy=>?_)
   subst hy
   refine T.bind (ihk y (by rw[ha]; simp) _ _ _).2.1 (λr hr=>?_)
   refine T.ite (λh8=>?_) (λ_=>T.ret qno)
   refine T.bind (AwP (Q:=λz=>z=x1) rfl) (λz hz=>?_)
   subst hz
   exact T.bind (ihk z (by rw[ha]; simp) _ _ _).1 (λr2 hr2=>T.ret ⟨hr2.1,λe=>.mo (eY hk) ha (hr h8) (hr2.2 e)⟩)
  refine T.ite (λhk=>?_) (λ_=>T.ret qno)
  refine T.bind fZ (λx hx=>?_)
  refine T.ite (λhxx=>?_) (λ_=>T.ret qno)
  obtain⟨f,x1,y1,ha⟩:=BhL (hx hxx)
  rw[ha]
  refine T.bind (jM (Q:=λy=>y=f) rfl) (λy hy=>?_)
  subst hy
  refine T.bind (ihk y (by rw[ha]; simp) _ _ _).2.2.1 (λr hr=>?_)
  refine T.ite (λh8=>?_) (λ_=>T.ret qno)
  refine T.bind (AwP (Q:=λz=>z=x1) rfl) (λz hz=>?_)
  subst hz
  refine T.bind (ihk z (by rw[ha]; simp) _ _ _).1 (λr2 hr2=>?_)
  refine T.ite (λh9=>?_) (λ_=>T.ret ⟨hr2.1,hO⟩)
  refine T.bind (BhM (Q:=λw=>w=y1) rfl) (λw hw=>?_)
  subst hw
  exact T.bind (ihk w (by rw[ha]; simp) _ _ _).1 (λr3 hr3=>T.ret ⟨λk h=>hr3.1 k (hr2.1 k h),λe=>.dy (eY hk) ha (hr h8) ((hr2.2 h9).mono _ (hr3.1 3) (hr3.1 4)) (hr3.2 e)⟩)
 ·rw[kV]
  refine T.bind AdQ (λv _=>?_)
  refine T.ite (λ_=>T.ret hO) (λ_=>?_)
  refine T.ite (λhk=>?_) (λ_=>?_)
  ·refine T.bind fZ (λx hx=>?_)
   refine T.ite (λ_=>?_) (λ_=>T.ret hO)
   exact T.ite (λ_=>T.ret (λ_=>.prim (eY hk))) (λ_=>T.ret hO)
  refine T.ite (λhk=>?_) (λ_=>?_)
  ·refine T.bind (lam deep _ b) (λr hr=>T.ret (λe=>?_))
   obtain⟨x,h1,h2⟩:=hr e
   exact .lam (eY hk) h1 (h2.1 (eY hk))
  refine T.bind (R:=λr=>r=true->n.kind=31\/n.kind=32\/n.kind=33\/n.kind=34) ?_ (λx5 h5=>?_)
  ·refine T.ite (λh=>T.ret (λ_=>.inl (eY h))) (λ_=>?_)
   refine T.ite (λh=>T.ret (λ_=>.inr (.inl (eY h)))) (λ_=>?_)
   exact T.ite (λh=>T.ret (λ_=>.inr (.inr (.inl (eY h))))) (λ_=>T.ret (λh=>.inr (.inr (.inr (eY h)))))
  refine T.ite (λhk=>?_) (λ_=>?_)
  ·refine T.bind fZ (λx hx=>?_)
   refine T.ite (λhxx=>?_) (λ_=>T.ret hO)
   obtain⟨a,ha⟩:=AeL (hx hxx)
   rw[ha]
   refine T.bind (jM (Q:=λy=>y=a) rfl) (λy hy=>?_)
   subst hy
   exact T.bind Ar7 (λr hr=>T.ret (λe=>.fold (h5 hk) ha (hr e)))
  refine T.ite (λhk=>?_) (λ_=>?_)
  ·refine T.bind (turned deep _ b) (λr hr=>T.ret (λe=>?_))
   obtain⟨x,h1,h2⟩:=hr e
   exact .comm (eY hk) h1 h2
  refine T.ite (λhk=>?_) (λ_=>T.ret hO)
  refine T.bind fZ (λx hx=>?_)
  refine T.ite (λhxx=>?_) (λ_=>T.ret hO)
  refine T.ite (λho=>?_) (λ_=>T.ret hO)
  refine T.ite (λho'=>?_) (λ_=>T.ret hO)
  obtain⟨a,ha⟩:=AeL (hx hxx)
  rw[ha]
  refine T.bind (jM (Q:=λy=>y=a) rfl) (λy hy=>?_)
  refine T.ite (λ_=>?_) (λ_=>T.ret hO)
  refine T.bind (jM (Q:=λy=>y=a) rfl) (λz hz=>?_)
  subst hz
  exact T.bind (ihk z (by rw[ha]; simp) _ _ _).2.1 (λr hr=>T.ret (λe=>.pow (eY hk) (by simpa using ho) (by simpa using ho') ha (hr e)))
 rw[oH]
 refine T.ite (λhk=>?_) (λ_=>?_)
 ·refine T.bind AdQ (λv _=>?_)
  refine T.ite (λ_=>?_) (λ_=>T.ret hO)
  refine T.bind fZ (λx hx=>?_)
  refine T.ite (λhxx=>?_) (λ_=>T.ret hO)
  obtain⟨a,ha⟩:=AeL (hx hxx)
  rw[ha]
  refine T.bind (jM (Q:=λy=>y=a) rfl) (λy hy=>?_)
  subst hy
  exact T.bind Ar7 (λr hr=>T.ret (λe=>.outer (eY hk) ha (hr e)))
 refine T.ite (λhk=>?_) (λ_=>?_)
 ·refine T.bind AdQ (λv _=>?_)
  refine T.ite (λ_=>?_) (λ_=>T.ret hO)
  refine T.bind (turned deep _ b) (λr hr=>T.ret (λe=>?_))
  obtain⟨x,h1,h2⟩:=hr e
  exact .comm (eY hk) h1 h2
 exact T.bind (two deep _ b) (λr hr=>T.ret (λe=>.two (hr e)))
end Go.AM.Seat
namespace Go.AM
open Go Go.ChangeShapes Go.WideShapes
variable [cM]
theorem BcU {a:Addr} (h:a.spot=none):a=ad a.block a.off:=by
 obtain⟨b,o,s⟩:=a
 simp only at h; subst h; rfl
theorem dE.app {K:Col} {w:World}:∀{a b:List D} {vs us:List Value},dE K w a vs->dE K w b us->dE K w (a++b) (vs++us)
 | [],b,vs,us,h,h'=>by
  simp only[dE] at h; subst h
  simpa using h'
 |d::a,b,vs,us,h,h'=>by
  simp only[dE] at h
  obtain⟨v,r,rfl,h1,h2,h3⟩:=h
  simp only[List.cons_append,dE]
  exact⟨v,r++us,rfl,h1,h2,dE.app h3 h'⟩
theorem dE.one {K:Col} {w:World} {d:D} {v:Value} (h:Rep K w d v) (h1:fA v=true):dE K w [d] [v]:=by
 simp only[dE]; exact⟨v,[],rfl,h1,h,rfl⟩
section
variable {H:Type} {enc:TypeId×Value->H} {P:Program} {w:World} {base:Nat} {sp:Nat->Bool} {held:Bool} {t e:TypeId} {n:Nat} {cs:List Value} {x:DataW H×List MemPlace}
theorem ApQ {k:IntKind} (ht:P.underlying t=some (.int k)) (h:DataW.trod enc P w base sp held n t cs=some x):∃m,dE (colRo w) w [.int k m] cs/\(Lit.int k m).wf=true:=by
 obtain⟨m,rfl,_,hw⟩:=DataW.trod_int ht h
 exact⟨m,dE.one (by simp only[Rep]) rfl,hw⟩
def Wts (P:Program) (t:TypeId) (d:DataW H):Prop:=∀b∈d.weights P t,b<=reachBytes
theorem BiP (ht:P.underlying t=some .string) (hs:Wts P t x.1) (h:DataW.trod enc P w base sp held n t cs=some x):∃s:Str,dE (colRo w) w [.str s] cs/\s.length<=reachBytes:=by
 obtain⟨s,rfl,rfl,hw⟩:=DataW.trod_string ht h
 exact⟨s.data.toList,dE.one (by simp only[Rep]) rfl,hs _ (by simp[DataW.weights])⟩
theorem AgU {d:DataW H}:∀{l:List (DataW H)},d∈l->∀b∈d.weights P e,b∈DataW.weightsAll P e l
 |y::r,hd,b,hb=>by
  simp only[DataW.weightsAll,List.mem_append]
  rcases List.mem_cons.1 hd with rfl|hd
  ·exact .inl hb
  exact .inr (AgU hd b hb)
theorem Af2 {d:DataW H} {u:TypeId}:∀{ts:List TypeId} {l:List (DataW H)} {i:Nat},ts[i]?=some u->l[i]?=some d->∀b∈d.weights P u,b∈DataW.weightsEach P ts l
 |_::ts,y::r,0,ht,hl,b,hb=>by
  simp only[List.getElem?_cons_zero,sJ] at ht hl
  subst ht; subst hl
  simp only[DataW.weightsEach,List.mem_append]
  exact .inl hb
 |_::ts,y::r,i+1,ht,hl,b,hb=>by
  simp only[List.getElem?_cons_succ] at ht hl
  simp only[DataW.weightsEach,List.mem_append]
  exact .inr (Af2 ht hl b hb)
theorem BcC {a:Addr} {v:Value} (h:w.cell? a=some v):a.spot=none:=by
 unfold World.cell? at h
 split at h
 ·split at h
  ·simp at h
  ·rename_i hs; simpa using hs
 simp at h
theorem AdI {α:Type} {sz:Nat} (f:α->D) (Q:α->Prop) (ht:P.underlying t=some (.slice e)) (hc:P.cellsOf e=sz) (hz:0<sz) (hb8:0<P.bytesOf e) (hs:Wts P t x.1)
  (ih:∀m,m<n->∀cs x,Wts P e x.1->DataW.trod enc P w base sp held m e cs=some x->∃a v,v.cells.toList=cs/\Rep (colRo w) w (f a) v/\Q a)
  (h:DataW.trod enc P w base sp held n t cs=some x):∃l:List α,dE (colRo w) w [.list sz (l.map f)] cs/\l.length<=reachBytes/\∀a∈l,Q a:=by
 rcases DataW.trod_slice ht h with ⟨rfl,_⟩|⟨a,len,cap,elems,rest,m,rfl,rfl,rfl,hb,hl,hm,hlen,hel,_,_⟩
 ·exact⟨[],dE.one (by simp only[Rep,List.map_nil]; exact .inl ⟨by simp,.inl rfl⟩) rfl,by simp,by simp⟩
 subst hc
 have hle:elems.length<=reachBytes:=by
  have h1:(elems.length+rest.length)*P.bytesOf e<=reachBytes:=by
   have:=hs ((elems.length+rest.length)*P.bytesOf e) (by simp[DataW.weights,ht])
   exact this
  have h2:(elems.length+rest.length)*1<=(elems.length+rest.length)*P.bytesOf e:=Nat.mul_le_mul_left _ hb8
  omega
 have hwe:∀y∈elems,Wts P e y.1:=by
  intro y hy b hb
  refine hs b ?_
  simp only[DataW.weights,ht,List.mem_cons,List.mem_append]
  exact .inr (.inl (AgU (List.mem_map.2 ⟨y,hy,rfl⟩) b hb))
 have each:∀i,i<len->∃a' v,Rep (colRo w) w (f a') v/\Q a'/\v.cells.size=P.cellsOf e/\∀j u,v.cells.toList[j]?=some u->w.cell? (a.add (i*P.cellsOf e+j))=some u:=by
  intro i hi
  have h1:=hel i hi
  have h2:elems[i]?=some (elems[i]'(by omega)):=List.getElem?_eq_getElem (by omega)
  rw[h2,Option.bind_eq_some_iff] at h1
  obtain⟨cs',hcs,ht'⟩:=h1
  obtain⟨a',v,hv,hr,hq⟩:=ih m (by omega) _ _ (hwe _ (List.getElem_mem _)) ht'
  obtain⟨_,hcl,hce⟩:=World.cells?_some hcs
  refine⟨a',v,hr,hq,?_,?_⟩
  ·rw[←hcl,←hv]; simp
  intro j u hu
  rw[hv] at hu
  have hj:j<P.cellsOf e:=by rw[←hcl]; exact (List.getElem?_eq_some_iff.1 hu).1
  have:=hce j hj
  rw[hu] at this
  rw[←this,Addr.add_add]
 by_cases h0:len=0
 ·subst h0
  exact⟨[],dE.one (by simp only[Rep,List.map_nil]; exact .inl ⟨by simp,.inr ⟨a,cap,rfl⟩⟩) rfl,by simp,by simp⟩
 have hsp:a.spot=none:=by
  obtain⟨_,v,_,_,hs,hg⟩:=each 0 (by omega)
  have h1:v.cells.toList[0]?=some (v.cells.toList[0]'(by simp; omega)):=List.getElem?_eq_getElem _
  have:=BcC (hg 0 _ h1)
  simpa[Addr.add] using this
 have hada:=BcU hsp
 have all:∀k,k<=len->∃l:List α,l.length=len-k/\hC (colRo w) w (P.cellsOf e) a.block (a.off+k*P.cellsOf e) (l.map f)/\∀a∈l,Q a:=by
  intro k hk
  induction hj:len-k generalizing k with
  |zero=>exact⟨[],rfl,by simp only[List.map_nil,hC],by simp⟩
  |succ j ihj=>
   obtain⟨l,h1,h2,h3⟩:=ihj (k+1) (by omega) (by omega)
   obtain⟨a',v,hr,hq,hs,hg⟩:=each k (by omega)
   refine⟨a'::l,by simp[h1],?_,?_⟩
   ·simp only[List.map_cons,hC]
    refine⟨⟨v,hr,hs,?_⟩,by rw[show a.off+k*P.cellsOf e+P.cellsOf e=a.off+(k+1)*P.cellsOf e by rw[Nat.add_mul]; omega]; exact h2⟩
    intro i u hu
    have:=hg i u hu
    rw[show a.add (k*P.cellsOf e+i)=ad a.block (a.off+k*P.cellsOf e+i) by
     conv=>lhs; rw[hada]
     rw[Addr.add_lit,Nat.add_assoc]] at this
    refine⟨?_,this⟩
    simp only[colRo]; rw[if_pos (block_lt this)]
   intro b hb
   rcases List.mem_cons.1 hb with rfl|hb
   ·exact hq
   exact h3 b hb
 obtain⟨l,h1,h2,h3⟩:=all 0 (by omega)
 refine⟨l,dE.one ?_ rfl,by omega,h3⟩
 simp only[Rep]
 refine .inr ⟨a.block,a.off,cap,?_,?_,by simpa using h2⟩
 ·rw[←hada]; simp[h1]
 simp[h1]; omega
def AzJ (enc:TypeId×Value->H) (P:Program) (w:World) (base:Nat) (sp:Nat->Bool) (held:Bool) (m:Nat):List (TypeId×Nat×Nat)->List Value->Prop
 | [],cs=>cs=[]
 |p::r,cs=>∃a b,cs=a++b/\(∃x,Wts P p.1 x.1/\DataW.trod enc P w base sp held m p.1 a=some x)/\AzJ enc P w base sp held m r b
def chained:Nat->Nat->List (TypeId×Nat×Nat)->Bool
 |off,z,[]=>off==z
 |off,z,p::r=>p.2.1==off&&chained (off+p.2.2) z r
theorem Ax5 {m:Nat} {cs:List Value}:∀(tz:List (TypeId×Nat×Nat)) (off:Nat),chained off cs.length tz=true ->
  (∀p∈tz,∃x,Wts P p.1 x.1/\DataW.trod enc P w base sp held m p.1 ((cs.drop p.2.1).take p.2.2)=some x)->AzJ enc P w base sp held m tz (cs.drop off)
 | [],off,hc,_=>by
  simp only[chained,beq_iff_eq] at hc
  simp only[AzJ,hc,List.drop_length]
 |p::r,off,hc,h=>by
  simp only[chained,Bool.and_eq_true,beq_iff_eq] at hc
  refine⟨(cs.drop off).take p.2.2,(cs.drop off).drop p.2.2,(List.take_append_drop _ _).symm,?_,?_⟩
  ·rw[←hc.1]; exact h p (by simp)
  rw[List.drop_drop]
  exact Ax5 r _ hc.2 λq hq=>h q (by simp[hq])
theorem AhH {fs:Array Field} {tz:List (TypeId×Nat×Nat)} {z:Nat} (ht:P.underlying t=some (.struct fs)) (hf:fs.toList.map (λf=>(f.type,f.offset,P.cellsOf f.type))=tz) (hz:P.cellsOf t=z) (hc:chained 0 z tz=true) (hs:Wts P t x.1)
  (h:DataW.trod enc P w base sp held n t cs=some x):∃m,n=m+1/\AzJ enc P w base sp held m tz cs:=by
 obtain⟨xs,m,rfl,rfl,hl,hxl,hx⟩:=DataW.trod_struct ht h
 refine⟨m,rfl,?_⟩
 have:=Ax5 (enc:=enc) (P:=P) (w:=w) (base:=base) (sp:=sp) (held:=held) (m:=m) (cs:=cs) tz 0 (by rw[hl,hz]; exact hc) ?_
 ·simpa using this
 intro p hp
 rw[←hf,List.mem_map] at hp
 obtain⟨f,hf',rfl⟩:=hp
 obtain⟨i,hi⟩:=List.getElem?_of_mem hf'
 have hi':fs[i]?=some f:=by simpa using hi
 have:=hx i f hi'
 have hlt:i<xs.length:=by
  rw[hxl]
  have:=(List.getElem?_eq_some_iff.1 hi).1
  simpa using this
 rw[List.getElem?_eq_getElem hlt] at this
 refine⟨_,λb hb=>hs b ?_,this⟩
 simp only[DataW.weights,ht]
 exact Af2 (u:=f.type) (i:=i) (by simp[List.getElem?_map,hi]) (by rw[List.getElem?_map,List.getElem?_eq_getElem hlt]; rfl) b hb
end
end Go.AM
namespace Go.AM
open Go Go.ChangeShapes Go.WideShapes Go.AM.Seat
variable [cM]
structure Bi0 (P:Program) (tA tC tIs tCs tAs:TypeId):Prop where
 arr:∃fs,P.underlying tA=some (.struct fs)/\fs.toList.map (λf=>(f.type,f.offset,P.cellsOf f.type))=[(tIs,0,1),(tCs,1,1)]
 arrz:P.cellsOf tA=2
 cell:∃fs k n,P.underlying tC=some (.struct fs)/\fs.toList.map (λf=>(f.type,f.offset,P.cellsOf f.type))=[(k,0,1),(n,1,1),(tAs,2,1)]/\P.underlying k=some (.int .i64)/\P.underlying n=some (.int .i64)
 cellz:P.cellsOf tC=3
 ints:∃e,P.underlying tIs=some (.slice e)/\P.underlying e=some (.int .i64)/\P.cellsOf e=1/\0<P.bytesOf e
 cells:P.underlying tCs=some (.slice tC)
 arrs:P.underlying tAs=some (.slice tA)
 arrb:0<P.bytesOf tA
 cellb:0<P.bytesOf tC
section
variable {H:Type} {enc:TypeId×Value->H} {P:Program} {w:World} {base:Nat} {sp:Nat->Bool} {held:Bool} {tA tC tIs tCs tAs t e:TypeId} {n:Nat} {cs:List Value} {x:DataW H×List MemPlace}
theorem AiR {α:Type} {l:List α} (h:l.length<=reachBytes):Few l:=by unfold Few; unfold reachBytes at h; omega
def Bi1 (a:Arr):List D:=[.list 1 (a.shape.map (D.int .i64)),.list 3 (a.cells.map aD)]
def cellL (c:aA):List D:=[.int .i64 c.kind,.int .i64 c.n,.list 2 (c.box.map aW)]
theorem BgN (hi:∃e,P.underlying t=some (.slice e)/\P.underlying e=some (.int .i64)/\P.cellsOf e=1/\0<P.bytesOf e) (hs:Wts P t x.1) (h:DataW.trod enc P w base sp held n t cs=some x) :
  ∃l:List Int,dE (colRo w) w [.list 1 (l.map (D.int .i64))] cs/\Few l:=by
 obtain⟨e,h1,h2,h3,h4⟩:=hi
 obtain⟨l,h5,h6,_⟩:=AdI (D.int .i64) (λ_=>True) h1 h3 (by omega) h4 hs (λm _ cs x _ hx=>by
  obtain⟨k,rfl,_,hw⟩:=DataW.trod_int h2 hx
  exact⟨k,.int .i64 k,rfl,by simp only[Rep],trivial⟩) h
 exact⟨l,h5,AiR h6⟩
theorem BgP (h1:P.underlying t=some (.slice e)) (h2:P.underlying e=some .string) (h3:P.cellsOf e=1) (h4:0<P.bytesOf e) (hs:Wts P t x.1) (h:DataW.trod enc P w base sp held n t cs=some x) :
  ∃l:List Str,dE (colRo w) w [.list 1 (l.map D.str)] cs/\Few l/\∀s∈l,Few s:=by
 obtain⟨l,h5,h6,h7⟩:=AdI D.str (λs:Str=>Few s) h1 h3 (by omega) h4 hs (λm _ cs x hs hx=>by
  obtain⟨s,rfl,hx',hw⟩:=DataW.trod_string h2 hx
  subst hx'
  exact⟨s.data.toList,.string s,rfl,by simp only[Rep],AiR (hs _ (by simp[DataW.weights]))⟩) h
 exact⟨l,h5,AiR h6,h7⟩
theorem Aw5:∀{l:List aA},(∀c∈l,AtR c)->Aw4 l
 | [],_=>trivial
 |c::r,h=>⟨h c (by simp),Aw5 λc hc=>h c (by simp[hc])⟩
theorem Ba3:∀{l:List Arr},(∀c∈l,fitA c)->Bg1 l
 | [],_=>trivial
 |c::r,h=>⟨h c (by simp),Ba3 λc hc=>h c (by simp[hc])⟩
theorem Aw6:∀{l:List Node},(∀c∈l,fitN c)->Ba4 l
 | [],_=>trivial
 |c::r,h=>⟨h c (by simp),Aw6 λc hc=>h c (by simp[hc])⟩
theorem Aj7 (S:Bi0 P tA tC tIs tCs tAs):∀n,
  (∀cs x,Wts P tA x.1->DataW.trod enc P w base sp held n tA cs=some x->∃a:Arr,dE (colRo w) w (Bi1 a) cs/\fitA a) /\
  (∀cs x,Wts P tC x.1->DataW.trod enc P w base sp held n tC cs=some x->∃c:aA,dE (colRo w) w (cellL c) cs/\AtR c):=by
 intro n
 induction n using Nat.strongRecOn with
 |ind n ih=>
 constructor
 ·intro cs x hs h
  obtain⟨fs,h1,h2⟩:=S.arr
  obtain⟨m,rfl,a,_,rfl,⟨x1,w1,t1⟩,b,_,rfl,⟨x2,w2,t2⟩,rfl⟩:=AhH h1 h2 S.arrz rfl hs h
  obtain⟨sh,r1,f1⟩:=BgN S.ints w1 t1
  obtain⟨cl,r2,f2,f3⟩:=AdI aD AtR S.cells S.cellz (by omega) S.cellb w2 (λk hk cs x hs hx=>by
   obtain⟨c,hr,hf⟩:=(ih k (by omega)).2 cs x hs hx
   exact⟨c,.agg cs.toArray,by simp[Value.cells],by simp only[aD,Rep]; exact⟨cs,rfl,hr⟩,hf⟩) t2
  exact⟨.mk sh cl,by simpa[Bi1,Arr.shape,Arr.cells] using dE.app r1 r2,f1,AiR f2,Aw5 f3⟩
 intro cs x hs h
 obtain⟨fs,kt,nt,h1,h2,h3,h4⟩:=S.cell
 obtain⟨m,rfl,a,_,rfl,⟨x1,w1,t1⟩,b,_,rfl,⟨x2,w2,t2⟩,c,_,rfl,⟨x3,w3,t3⟩,rfl⟩:=AhH h1 h2 S.cellz rfl hs h
 obtain⟨k,r1,_⟩:=ApQ h3 t1
 obtain⟨nn,r2,_⟩:=ApQ h4 t2
 obtain⟨bx,r3,f2,f3⟩:=AdI aW fitA S.arrs S.arrz (by omega) S.arrb w3 (λk hk cs x hs hx=>by
  obtain⟨a,hr,hf⟩:=(ih k (by omega)).1 cs x hs hx
  exact⟨a,.agg cs.toArray,by simp[Value.cells],by rw[pX]; simp only[encArr,Rep]; exact⟨cs,rfl,hr⟩,hf⟩) t3
 exact⟨.mk k nn bx,by simpa[cellL,aA.kind,aA.n,aA.box] using dE.app r1 (dE.app r2 r3),AiR f2,Ba3 f3⟩
structure Bj5 (P:Program) (tN tNs tA:TypeId):Prop where
 node:∃fs k o s a,P.underlying tN=some (.struct fs)/\fs.toList.map (λf=>(f.type,f.offset,P.cellsOf f.type))=[(k,0,1),(o,1,1),(s,2,1),(tA,3,2),(tNs,5,1),(a,6,1)] /\
  P.underlying k=some (.int .i64)/\P.underlying o=some (.int .i64)/\P.underlying s=some .string/\P.underlying a=some (.int .i64)
 nodez:P.cellsOf tN=7
 nodes:P.underlying tNs=some (.slice tN)
 nodeb:0<P.bytesOf tN
def BhP (n:Node):List D:=[.int .i64 n.kind,.int .i64 n.op_,.str n.name,.list 1 (n.lit.shape.map (D.int .i64)),.list 3 (n.lit.cells.map aD),.list 7 (n.kids.map qR),.int .i64 n.at_]
theorem BgO {tN tNs:TypeId} (S:Bi0 P tA tC tIs tCs tAs) (R:Bj5 P tN tNs tA):∀n cs x,Wts P tN x.1->DataW.trod enc P w base sp held n tN cs=some x->∃a:Node,dE (colRo w) w (BhP a) cs/\fitN a:=by
 intro n
 induction n using Nat.strongRecOn with
 |ind n ih=>
 intro cs x hs h
 obtain⟨fs,kt,ot,st,at_,h1,h2,h3,h4,h5,h6⟩:=R.node
 obtain⟨m,rfl,a,_,rfl,⟨x1,w1,t1⟩,b,_,rfl,⟨x2,w2,t2⟩,c,_,rfl,⟨x3,w3,t3⟩,d,_,rfl,⟨x4,w4,t4⟩,e,_,rfl,⟨x5,w5,t5⟩,f,_,rfl,⟨x6,w6,t6⟩,rfl⟩:=AhH h1 h2 R.nodez rfl hs h
 obtain⟨k,r1,_⟩:=ApQ h3 t1
 obtain⟨o,r2,_⟩:=ApQ h4 t2
 obtain⟨s,r3,f3⟩:=BiP h5 w3 t3
 obtain⟨l,r4,f4⟩:=(Aj7 S m).1 _ _ w4 t4
 obtain⟨ks,r5,f5,f5'⟩:=AdI qR fitN R.nodes R.nodez (by omega) R.nodeb w5 (λk hk cs x hs hx=>by
  obtain⟨a,hr,hf⟩:=ih k (by omega) cs x hs hx
  exact⟨a,.agg cs.toArray,by simp[Value.cells],by rw[vD]; simp only[encNode,Rep]; exact⟨cs,rfl,hr⟩,hf⟩) t5
 obtain⟨at',r6,_⟩:=ApQ h6 t6
 exact⟨.mk k o s l ks at',by simpa[BhP,Bi1,Node.kind,Node.op_,Node.name,Node.lit,Node.kids,Node.at_] using dE.app r1 (dE.app r2 (dE.app r3 (dE.app r4 (dE.app r5 r6)))),AiR f3,f4,AiR f5,Aw6 f5'⟩
end
end Go.AM
namespace Go.AM.Seat
open Go Go.AM Go.Proofs Go.ChangeShapes Go.WideShapes
set_option maxRecDepth 100000
set_option maxHeartbeats 0
theorem BeS:Bi0 Tryz.prog 29 50 26 27 23 where
 arr:=⟨_,Tryz.underlying29,by kernel_rfl⟩
 arrz:=by kernel_rfl
 cell:=⟨_,3,2,Tryz.underlying50,by kernel_rfl,Tryz.underlying3,Tryz.underlying2⟩
 cellz:=by kernel_rfl
 ints:=⟨3,Tryz.underlying26,Tryz.underlying3,by kernel_rfl,of_decide_eq_true (by kernel_rfl)⟩
 cells:=Tryz.underlying27
 arrs:=Tryz.underlying23
 arrb:=of_decide_eq_true (by kernel_rfl)
 cellb:=of_decide_eq_true (by kernel_rfl)
theorem BmG:Bj5 Tryz.prog 32 30 29 where
 node:=⟨_,3,3,9,3,Tryz.underlying32,by kernel_rfl,Tryz.underlying3,Tryz.underlying3,Tryz.underlying9,Tryz.underlying3⟩
 nodez:=by kernel_rfl
 nodes:=Tryz.underlying30
 nodeb:=of_decide_eq_true (by kernel_rfl)
section
variable {H:Type} {enc:TypeId×Value->H} {w:World} {base:Nat} {sp:Nat->Bool} {held:Bool} {v:Value} {d:DataW H} {p:List MemPlace}
theorem open_arr (hv:∃cs,v=.agg cs/\cs.size=Tryz.prog.cellsOf 29) (hs:Wts Tryz.prog 29 d) (h:DataW.Trod enc Tryz.prog w base sp held 29 v d p):∃a:Arr,RepC (colRo w) (λ_=>0) w (.d (encArr a)) v/\fitA a:=by
 obtain⟨cs,rfl,_⟩:=hv
 obtain⟨fuel,hf⟩:=h
 obtain⟨a,hr,hfit⟩:=(Aj7 BeS fuel).1 _ (d,p) hs hf
 refine⟨a,?_,hfit⟩
 simp only[RepC,encArr,Rep]
 exact⟨cs.toList,by simp,hr⟩
theorem open_node (hv:∃cs,v=.agg cs/\cs.size=Tryz.prog.cellsOf 32) (hs:Wts Tryz.prog 32 d) (h:DataW.Trod enc Tryz.prog w base sp held 32 v d p):∃a:Node,RepC (colRo w) (λ_=>0) w (.d (encNode a)) v/\fitN a:=by
 obtain⟨cs,rfl,_⟩:=hv
 obtain⟨fuel,hf⟩:=h
 obtain⟨a,hr,hfit⟩:=BgO BeS BmG fuel _ (d,p) hs hf
 refine⟨a,?_,hfit⟩
 simp only[RepC,encNode,Rep]
 exact⟨cs.toList,by simp,hr⟩
theorem open_env (hv:∃cs,v=.agg cs/\cs.size=Tryz.prog.cellsOf 25) (hs:Wts Tryz.prog 25 d) (h:DataW.Trod enc Tryz.prog w base sp held 25 v d p) :
  ∃a:Env,RepC (colRo w) (λ_=>0) w (.d (encEnv a)) v/\∀x∈a.vals,fitA x:=by
 obtain⟨cs,rfl,_⟩:=hv
 obtain⟨fuel,hf⟩:=h
 obtain⟨m,rfl,a,_,e,⟨x1,w1,t1⟩,b,_,rfl,⟨x2,w2,t2⟩,rfl⟩:=AhH (z:=2) (tz:=[(22,0,1),(23,1,1)]) Tryz.underlying25 (by kernel_rfl) (by kernel_rfl) rfl (x:=(d,p)) hs hf
 obtain⟨l,r1,f1,_⟩:=BgP Tryz.underlying22 Tryz.underlying9 (by kernel_rfl) (of_decide_eq_true (by kernel_rfl)) w1 t1
 obtain⟨vs,r2,f2,f3⟩:=AdI aW fitA Tryz.underlying23 BeS.arrz (by omega) BeS.arrb w2 (λk hk cs x hs hx=>by
  obtain⟨a,hr,hf⟩:=(Aj7 BeS k).1 cs x hs hx
  exact⟨a,.agg cs.toArray,by simp[Value.cells],by rw[pX]; simp only[encArr,Rep]; exact⟨cs,rfl,hr⟩,hf⟩) t2
 refine⟨⟨l,vs⟩,?_,f3⟩
 simp only[RepC,encEnv,Rep]
 have e':cs.toList=a++(b++[]):=e
 exact⟨cs.toList,by simp,by rw[e']; simpa using dE.app r1 r2⟩
end
theorem wts_of {H:Type} {ts:List TypeId} {ds:List (DataW H)} (h:(DataW.weightsEach Tryz.prog ts ds).all (·<=reachBytes)=true) {j:Nat} {t:TypeId} {d:DataW H} (ht:ts[j]?=some t) (hd:ds[j]?=some d):Wts Tryz.prog t d:=by
 intro b hb
 simpa using List.all_eq_true.1 h b (DataW.weights_mem_each ht hd b hb)
theorem laidOutB0:laidOutB Tryz.prog=true:=by kernel_rfl
end Go.AM.Seat
namespace Go.AM.Seat
open Go Go.AM
theorem Ao6 {n:Node} {deep nodes:Int}:T (dG n deep nodes) (λr=>r.1=true->WfB n):=by
 unfold dG
 refine T.bind (R:=λr=>match r with|.error r=>r.1=false|.ok (_,k,o,_)=>(k=21->21<=o->o<=32->WfB n)) ?_ (λv hv=>?_)
 ·refine T.ite (λh=>?_) (λh=>?_)
  ·refine T.bind AaH (λv _=>?_)
   refine T.ite (λ_=>T.ret rfl) (λ_=>?_)
   refine T.bind fZ (λx hx=>?_)
   refine T.ite (λ_=>T.ret rfl) (λhxx=>?_)
   obtain⟨a,ha⟩:=AeL (hx (by simpa using hxx))
   rw[ha]
   refine T.bind (jM (Q:=λy=>y=a) rfl) (λy hy=>?_)
   subst hy
   exact T.ret (λh1 h2 h3=>.inr ⟨eY h,y,ha,h1,h2,h3⟩)
  ·exact T.ret (λh1 h2 h3=>.inl ⟨h1,h2,h3⟩)
 match v,hv with
 |.error r,hv=>exact T.ret (λe=>by rw[hv] at e; cases e)
 |.ok (_,k,o,_,_,_,_,_,_),hv=>
  refine T.bind AaH (λv _=>?_)
  refine T.ite (λ_=>?_) (λ_=>T.ret hO)
  refine T.ite (λhk=>?_) (λ_=>T.ret hO)
  refine T.bind fZ (λx hx=>?_)
  refine T.ite (λ_=>?_) (λ_=>T.ret hO)
  refine T.bind AjG (λx hx=>?_)
  exact T.ret (λe=>hv (eY hk) (hx e).1 (hx e).2)
def BcM (n:Node):Prop:=∀(deep nodes:Int),
 T (cB (n,deep,nodes)) (λr=>r.1=true->WfE false false n)/\T (dV (n,deep,nodes)) (λr=>r.1=true->WfM n)/\T (gV n deep nodes) (λr=>r.1=true->WfD n) /\
 T (cR n deep nodes) (λr=>r.1=true->WfT n)
theorem BjI (n:Node):fitN n->BcM n:=by
 refine Node.ind (P:=λn=>fitN n->BcM n) ?_ n
 intro n ih hf
 have ihk:∀k∈n.kids,BcM k:=λk hk=>ih k hk (hf.kids k hk)
 have lam:∀(deep nodes:Int),T (dO n deep nodes) (λr=>r.1=true->∃e,n.kids=[e]/\(n.kind=22->WfE false true e)/\(n.kind≠22->WfE true true e)):=by
  intro deep nodes
  unfold dO
  refine T.bind fZ (λx hx=>?_)
  refine T.ite (λ_=>T.ret hO) (λhxx=>?_)
  obtain⟨a,ha⟩:=AeL (hx (by simpa using hxx))
  rw[ha]
  refine T.bind (jM (Q:=λy=>y=a) rfl) (λy hy=>?_)
  subst hy
  refine T.bind ((BjH y (hf.kids y (by rw[ha]; simp)) (w64 (deep+1)) nodes []).1) (λr hr=>?_)
  refine T.ite (λhk=>?_) (λhk=>?_)
  ·refine T.ite (λh=>T.ret (λe=>⟨y,rfl,λ_=>(hr.2 h).mono _ (λh3=>by rw[h3] at e; cases e) (λ_=>rfl),λh'=>absurd (eY hk) h'⟩)) (λ_=>T.ret hO)
  refine T.ite (λh=>?_) (λ_=>T.ret hO)
  refine T.ite (λh3=>T.ret (λh4=>⟨y,rfl,λh'=>by rw[h'] at hk; simp at hk,λ_=>(hr.2 h).mono _ (λ_=>rfl) (λ_=>rfl)⟩)) (λ_=>T.ret hO)
 have two:∀(deep nodes:Int),T (cR n deep nodes) (λr=>r.1=true->WfT n):=by
  intro deep nodes
  unfold cR
  refine T.bind AaH (λv _=>?_)
  refine T.ite (λ_=>T.ret hO) (λ_=>?_)
  refine T.ite (λhk=>?_) (λ_=>?_)
  ·have hp:WfT n:=.prim (eY hk)
   refine T.bind fZ (λx hx=>?_)
   refine T.ite (λ_=>?_) (λ_=>T.ret hO)
   refine T.bind AjG (λx hx=>?_)
   refine T.ite (λ_=>T.ret (λ_=>hp)) (λ_=>?_)
   exact T.ite (λ_=>T.ret (λ_=>hp)) (λ_=>T.ret hO)
  refine T.ite (λhk=>?_) (λ_=>T.ret hO)
  refine T.bind (lam deep _) (λr hr=>T.ret (λe=>?_))
  obtain⟨x,h1,h2⟩:=hr e
  exact .lam (eY hk) h1 (h2.2 (by rw[eY hk]; decide))
 have turned:∀(deep nodes:Int),T (dP n deep nodes) (λr=>r.1=true->∃f,n.kids=[f]/\WfT f):=by
  intro deep nodes
  unfold dP
  refine T.bind fZ (λx hx=>?_)
  refine T.ite (λ_=>T.ret hO) (λhxx=>?_)
  obtain⟨a,ha⟩:=AeL (hx (by simpa using hxx))
  rw[ha]
  refine T.bind (jM (Q:=λy=>y=a) rfl) (λy hy=>?_)
  subst hy
  have g:=(ihk y (by rw[ha]; simp) (w64 (deep+1)) nodes).2.2.2
  refine T.ite (λ_=>?_) (λ_=>?_)
  ·exact T.bind g (λr hr=>T.ret (λe=>⟨y,rfl,hr e⟩))
  refine T.ite (λ_=>?_) (λ_=>T.ret hO)
  refine T.ite (λ_=>?_) (λ_=>T.ret hO)
  exact T.bind g (λr hr=>T.ret (λe=>⟨y,rfl,hr e⟩))
 intro deep nodes
 refine⟨?_,?_,?_,two deep nodes⟩
 ·rw[cB]
  refine T.bind AaH (λv _=>?_)
  refine T.ite (λ_=>T.ret hO) (λ_=>?_)
  refine T.ite (λhk=>?_) (λ_=>?_)
  ·refine T.bind fZ (λx hx=>?_)
   refine T.ite (λ_=>?_) (λ_=>T.ret hO)
   exact T.bind (AqV _) (λr hr=>T.ret (λe=>.lit (eY hk) (hr e)))
  refine T.ite (λhk=>?_) (λ_=>?_)
  ·refine T.bind fZ (λx hx=>?_)
   refine T.ite (λ_=>?_) (λ_=>T.ret hO)
   exact T.bind (BcN hf.name) (λr hr=>T.ret (λe=>.var (eY hk)))
  refine T.bind (R:=λr=>r=true->n.kind=3\/n.kind=4) ?_ (λx5 h5=>?_)
  ·exact T.ite (λh=>T.ret (λ_=>.inl (eY h))) (λ_=>T.ret (λh=>.inr (eY h)))
  refine T.ite (λhk=>T.ret hO) (λ_=>?_)
  refine T.ite (λhk=>?_) (λ_=>?_)
  ·refine T.bind fZ (λx hx=>?_)
   refine T.ite (λhxx=>?_) (λ_=>T.ret hO)
   obtain⟨f,x1,ha⟩:=BhK (hx hxx)
   rw[ha]
   refine T.bind (jM (Q:=λy=>y=f) rfl) (λy hy=>?_)
   subst hy
   refine T.bind (ihk y (by rw[ha]; simp) _ _).2.1 (λr hr=>?_)
   refine T.ite (λh8=>?_) (λ_=>T.ret hO)
   refine T.bind (AwP (Q:=λz=>z=x1) rfl) (λz hz=>?_)
   subst hz
   exact T.bind (ihk z (by rw[ha]; simp) _ _).1 (λr2 hr2=>T.ret (λe=>.mo (eY hk) ha (hr h8) (hr2 e)))
  refine T.ite (λhk=>?_) (λ_=>T.ret hO)
  refine T.bind fZ (λx hx=>?_)
  refine T.ite (λhxx=>?_) (λ_=>T.ret hO)
  obtain⟨f,x1,y1,ha⟩:=BhL (hx hxx)
  rw[ha]
  refine T.bind (jM (Q:=λy=>y=f) rfl) (λy hy=>?_)
  subst hy
  refine T.bind (ihk y (by rw[ha]; simp) _ _).2.2.1 (λr hr=>?_)
  refine T.ite (λh8=>?_) (λ_=>T.ret hO)
  refine T.bind (AwP (Q:=λz=>z=x1) rfl) (λz hz=>?_)
  subst hz
  refine T.bind (ihk z (by rw[ha]; simp) _ _).1 (λr2 hr2=>?_)
  refine T.ite (λh9=>?_) (λ_=>T.ret hO)
  refine T.bind (BhM (Q:=λw=>w=y1) rfl) (λw hw=>?_)
  subst hw
  exact T.bind (ihk w (by rw[ha]; simp) _ _).1 (λr3 hr3=>T.ret (λe=>.dy (eY hk) ha (hr h8) (hr2 h9) (hr3 e)))
 ·rw[dV]
  refine T.bind AaH (λv _=>?_)
  refine T.ite (λ_=>T.ret hO) (λ_=>?_)
  refine T.ite (λhk=>?_) (λ_=>?_)
  ·refine T.bind fZ (λx hx=>?_)
   refine T.ite (λ_=>?_) (λ_=>T.ret hO)
   exact T.ite (λ_=>T.ret (λ_=>.prim (eY hk))) (λ_=>T.ret hO)
  refine T.ite (λhk=>?_) (λ_=>?_)
  ·refine T.bind (lam deep _) (λr hr=>T.ret (λe=>?_))
   obtain⟨x,h1,h2⟩:=hr e
   exact .lam (eY hk) h1 (h2.1 (eY hk))
  refine T.bind (R:=λr=>r=true->n.kind=31\/n.kind=32\/n.kind=33\/n.kind=34) ?_ (λx5 h5=>?_)
  ·refine T.ite (λh=>T.ret (λ_=>.inl (eY h))) (λ_=>?_)
   refine T.ite (λh=>T.ret (λ_=>.inr (.inl (eY h)))) (λ_=>?_)
   exact T.ite (λh=>T.ret (λ_=>.inr (.inr (.inl (eY h))))) (λ_=>T.ret (λh=>.inr (.inr (.inr (eY h)))))
  refine T.ite (λhk=>?_) (λ_=>?_)
  ·refine T.bind fZ (λx hx=>?_)
   refine T.ite (λhxx=>?_) (λ_=>T.ret hO)
   obtain⟨a,ha⟩:=AeL (hx hxx)
   rw[ha]
   refine T.bind (jM (Q:=λy=>y=a) rfl) (λy hy=>?_)
   subst hy
   exact T.bind Ao6 (λr hr=>T.ret (λe=>.fold (h5 hk) ha (hr e)))
  refine T.ite (λhk=>?_) (λ_=>?_)
  ·refine T.bind (turned deep _) (λr hr=>T.ret (λe=>?_))
   obtain⟨x,h1,h2⟩:=hr e
   exact .comm (eY hk) h1 h2
  refine T.ite (λhk=>?_) (λ_=>T.ret hO)
  refine T.bind fZ (λx hx=>?_)
  refine T.ite (λhxx=>?_) (λ_=>T.ret hO)
  refine T.ite (λho=>?_) (λ_=>T.ret hO)
  refine T.ite (λho'=>?_) (λ_=>T.ret hO)
  obtain⟨a,ha⟩:=AeL (hx hxx)
  rw[ha]
  refine T.bind (jM (Q:=λy=>y=a) rfl) (λy hy=>?_)
  refine T.ite (λ_=>?_) (λ_=>T.ret hO)
  refine T.bind (jM (Q:=λy=>y=a) rfl) (λz hz=>?_)
  subst hz
  exact T.bind (ihk z (by rw[ha]; simp) _ _).2.1 (λr hr=>T.ret (λe=>.pow (eY hk) (by simpa using ho) (by simpa using ho') ha (hr e)))
 unfold gV
 refine T.ite (λhk=>?_) (λ_=>?_)
 ·refine T.bind AaH (λv _=>?_)
  refine T.ite (λ_=>?_) (λ_=>T.ret hO)
  refine T.bind fZ (λx hx=>?_)
  refine T.ite (λhxx=>?_) (λ_=>T.ret hO)
  obtain⟨a,ha⟩:=AeL (hx hxx)
  rw[ha]
  refine T.bind (jM (Q:=λy=>y=a) rfl) (λy hy=>?_)
  subst hy
  exact T.bind Ao6 (λr hr=>T.ret (λe=>.outer (eY hk) ha (hr e)))
 refine T.ite (λhk=>?_) (λ_=>?_)
 ·refine T.bind AaH (λv _=>?_)
  refine T.ite (λ_=>?_) (λ_=>T.ret hO)
  refine T.bind (turned deep _) (λr hr=>T.ret (λe=>?_))
  obtain⟨x,h1,h2⟩:=hr e
  exact .comm (eY hk) h1 h2
 exact T.bind (two deep _) (λr hr=>T.ret (λe=>.two (hr e)))
theorem BfI {n:Node} (hf:fitN n):T (sT n) (λe=>e=0->WfE false false n):=by
 unfold sT
 refine T.bind ((BjI n hf 0 0).1) (λr hr=>?_)
 refine T.ite (λ_=>T.ret (λe=>by cases e)) (λh=>T.ret (λ_=>hr (by simpa using h)))
abbrev Any {α:Type}:α->Prop:=λ_=>True
theorem T.any {α:Type} {v:α}:T (some v) (Any:α->Prop):=T.ret trivial
def uO (c:aA):Prop:=c.kind=0/\c.box=[]
theorem uO.mk (n:Int):uO (aA.mk 0 n []):=⟨rfl,rfl⟩
theorem uO.chk {c:aA} (h:uO c) (d:Int):AcZ c d=0:=by
 obtain⟨k,n,b⟩:=c
 obtain⟨h1,h2⟩:=h
 simp only[aA.kind,aA.box] at h1 h2
 subst h1; subst h2
 simp[AcZ]
theorem uO.w {c:aA} (h:uO c):wC c=0:=by rw[AxZ,h.2]; rfl
theorem AzH (op:Int):pT op=some (decide (21<=op)&&decide (op<=32)):=by
 unfold pT
 by_cases h:op>=21
 ·simp[h]
 simp[h]
theorem BaT {b:Bool}:T (mY b) Any:=by
 unfold mY; exact T.ite (λ_=>T.any) (λ_=>T.any)
theorem BcS {a b:Int}:T (Aa5 a b) Any:=by
 unfold Aa5; repeat' (first|exact T.any|refine T.ite (λ_=>?_) (λ_=>?_))
theorem BiV {a b:Int}:T (AdD a b) Any:=by
 unfold AdD; repeat' (first|exact T.any|refine T.ite (λ_=>?_) (λ_=>?_))
theorem BeT {a:Int}:T (xT a) Any:=by
 unfold xT; repeat' (first|exact T.any|refine T.ite (λ_=>?_) (λ_=>?_))
theorem AxM {n:Int} {b:Bool}:T (sX n b) Any:=by
 unfold sX
 refine T.bind (R:=Any) ?_ (λv _=>?_)
 ·repeat' (first|exact T.any|refine T.ite (λ_=>?_) (λ_=>?_))
 cases v<;>exact T.any
theorem BiE {k:IntKind} {a b:Int} (h:b≠0):T (idiv k a b) Any:=by
 unfold idiv; rw[if_neg h]; exact T.any
theorem BiG {a b:Int} (h:b≠0):T (irem a b) Any:=by
 unfold irem; rw[if_neg h]; exact T.any
theorem AqX {l:List Int} (hf:Few l):∀(r:List Int) (k:Nat) (n:Int) (b o:Bool),l.drop k=r->T (oR (l,n,b,o,(k:Int))) Any
 | [],k,n,b,o,h=>by
  rw[oR]
  simp only[bW (bX h),fJ,if_false]
  exact T.any
 |c::r,k,n,b,o,h=>by
  have ih:=λn b o=>AqX hf r (k+1) n b o (aX h)
  rw[oR]
  simp only[cU (bY h),if_true,bE h,oJ,bJ,bQ h hf]
  refine T.bind (R:=Any) ?_ (λv _=>?_)
  ·refine T.bind BeT (λm _=>?_)
   refine T.ite (λ_=>T.any) (λhm=>?_)
   refine T.ite (λ_=>T.any) (λ_=>?_)
   refine T.bind (BiE (by simpa using hm)) (λq _=>?_)
   exact T.ite (λ_=>T.any) (λ_=>T.any)
  match v with
  |.error e=>exact T.any
  |.ok (n1,b1,o1)=>exact ih n1 b1 o1
theorem BcO {l:List Int} (hf:Few l):T (sG l) Any:=by
 unfold sG
 refine T.bind (AqX hf l 0 1 false false rfl) (λv _=>?_)
 match v with
 |.error e=>exact T.any
 |.ok (n1,b1,o1)=>exact T.ite (λ_=>T.any) (λ_=>T.bind AxM (λ_ _=>T.any))
theorem Bj1 {a b:Int}:T (AdE a b) Any:=by
 unfold AdE
 exact T.bind (BcO (by unfold Few; simp)) (λ_ _=>T.any)
theorem Bj4 {a b:Int}:T (AdF a b) Any:=by
 unfold AdF
 refine T.ite (λ_=>T.any) (λh=>?_)
 refine T.ite (λ_=>T.any) (λ_=>?_)
 refine T.bind (BiG (by simpa using h)) (λr _=>?_)
 refine T.ite (λ_=>?_) (λ_=>T.any)
 exact T.bind (R:=Any) (T.ite (λ_=>T.any) (λ_=>T.any)) (λ_ _=>T.any)
theorem Ax6 {op a b:Int}:T (nZ op a b) Any:=by
 unfold nZ
 refine T.ite (λ_=>T.bind BiV (λ_ _=>T.any)) (λ_=>?_)
 refine T.ite (λ_=>T.bind BcS (λ_ _=>T.any)) (λ_=>?_)
 refine T.ite (λ_=>T.bind Bj1 (λ_ _=>T.any)) (λ_=>?_)
 refine T.ite (λ_=>T.any) (λ_=>?_)
 refine T.ite (λ_=>T.any) (λ_=>?_)
 exact T.bind Bj4 (λ_ _=>T.any)
theorem Be0 {op a b:Int} (h:27<=op) (h':op<=32):T (rN op a b) Any:=by
 unfold rN Run.heldI
 repeat' split
 all_goals first|exact T.any|(exfalso; omega)
theorem AzL {op:Int} {a b:aA}:T (oP op a b) (λr=>uO r.1):=by
 unfold oP
 refine T.ite (λh27=>?_) (λ_=>?_)
 ·have e:op=27:=eY h27
  subst e
  refine T.bind (T.val (AzH 27) (Q:=λv=>v=true) rfl) (λv hv=>?_)
  subst hv
  refine T.ite (λh=>by cases h) (λ_=>?_)
  refine T.ite (λ_=>T.ret (.mk _)) (λ_=>?_)
  refine T.ite (λ_=>T.ret (.mk _)) (λ_=>?_)
  refine T.ite (λ_=>T.bind BaT (λ_ _=>T.ret (.mk _))) (λ_=>?_)
  refine T.ite (λ_=>T.bind (Be0 (by omega) (by omega)) (λ_ _=>T.ret (.mk _))) (λ_=>T.bind Ax6 (λ_ _=>T.ret (.mk _)))
 refine T.bind (R:=λr=>match r with|.error r=>uO r.1|.ok _=>True) ?_ (λv hv=>?_)
 ·refine T.bind (T.val (AzH op) (Q:=λv=>v=true->21<=op/\op<=32) (by intro h; simpa using h)) (λv hv=>?_)
  refine T.ite (λ_=>T.ret (.mk _)) (λhvv=>?_)
  have hI:=hv (by simpa using hvv)
  have g:∀{h:decide (op>=27)=true},T (rN op a.n b.n) Any:=λ{h}=>Be0 (by simpa using h) hI.2
  repeat' (first
   |exact T.ret (.mk _)
   |exact T.ret trivial
   |exact T.bind BaT (λ_ _=>T.ret (.mk _))
   |refine T.ite (λhq=>T.bind (g (h:=hq)) (λ_ _=>T.ret (.mk _))) (λ_=>?_)
   |refine T.ite (λ_=>?_) (λ_=>?_))
 match v,hv with
 |.error r,hv=>exact T.ret hv
 |.ok _,_=>exact T.bind Ax6 (λ_ _=>T.ret (.mk _))
def Cw (m:Nat) (l:List aA):Prop:=∀c∈l,wC c<=m
def Res (m:Nat) (r:Arr×Int):Prop:=r.2=0->Val 0 r.1/\Cw m r.1.cells
theorem Res.err {m:Nat} {a:Arr} {e:Int} (h:e≠0):Res m (a,e):=λh'=>absurd h' h
theorem AlZ {sh:List Int} {cs:List aA} (h1:mG sh cs.length) (h2:∀x∈sh,x<=16384) (h3:∀c∈cs,AcZ c 0=0):Val 0 (.mk sh cs):=(Ay3.mk (a:=.mk sh cs) h1 h2 h3).v
theorem AuA {sh:List Int} {cs:List aA} {m:Nat} (h1:mG sh cs.length) (h2:∀x∈sh,x<=16384) (h3:∀c∈cs,uO c):Val 0 (.mk sh cs)/\Cw m cs:=
 ⟨AlZ h1 h2 λc hc=>(h3 c hc).chk 0,λc hc=>by rw[(h3 c hc).w]; omega⟩
theorem fM {a b:Int} (h:(a != b)=true):a≠b:=by simpa using h
theorem dQ {a b:Int} (h:(a != b)=false):a=b:=by simpa using h
theorem dS {α:Type} {l m:List α} (h:l.length+m.length<=4294967296):T (lapp l m) (λr=>r=l++m):=T.lapp h rfl
theorem BjM {op n:Int}:T (wP op n) Any:=by
 unfold wP Aa4 AhF AhE Aa4
 refine T.ite (λ_=>T.bind (T.bind BcS (λ_ _=>T.any)) (λ_ _=>T.any)) (λ_=>?_)
 refine T.ite (λ_=>T.bind (R:=Any) ?_ (λ_ _=>T.any)) (λ_=>?_)
 ·repeat' (first|exact T.any|refine T.ite (λ_=>?_) (λ_=>?_))
 refine T.ite (λ_=>T.bind (R:=Any) ?_ (λ_ _=>T.any)) (λ_=>?_)
 ·exact T.ite (λ_=>T.bind (T.bind BcS (λ_ _=>T.any)) (λ_ _=>T.any)) (λ_=>T.any)
 repeat' (first|exact T.any|refine T.ite (λ_=>?_) (λ_=>?_))
theorem AzI {op:Int} {a:Arr} {l:List Int} (hv:Val 0 a):∀(r:List aA) (k:Nat) (out:List aA),a.cells.drop k=r->out.length=k->k<=a.cells.length->(∀c∈out,uO c) ->
  T (mX (op,a,l,(k:Int),out)) (λr=>match r with|.error r=>r.2≠0|.ok cs=>cs.length=a.cells.length/\∀c∈cs,uO c)
 | [],k,out,h,ho,hkl,hc=>by
  rw[mX]
  simp only[bW (bX h),fJ,if_false]
  have:=List.drop_eq_nil_iff.1 h
  exact T.ret ⟨by omega,hc⟩
 |c::r,k,out,h,ho,hkl,hc=>by
  have hk:=bY h
  have hl:=hv.i.sized.hi
  rw[mX]
  simp only[cU hk,if_true,bE h,oJ,bJ,bQ h hv.fewc]
  refine T.ite (λ_=>T.ret (by simp)) (λ_=>?_)
  refine T.bind BjM (λv _=>?_)
  refine T.ite (λhe=>T.ret (fM he)) (λ_=>?_)
  refine T.bind (dS (by simp; omega)) (λv hv'=>?_)
  subst hv'
  refine AzI hv r (k+1) _ (aX h) (by simp[ho]) (by omega) ?_
  intro x hx
  rcases List.mem_append.1 hx with hx|hx
  ·exact hc x hx
  simp only[List.mem_singleton] at hx; subst hx; exact .mk _
theorem Ay8 {op:Int} {a:Arr} {m:Nat}:T (sA op a) (Res m):=by
 unfold sA
 refine T.bind (T.val (qL a) (Q:=λv=>v=Af3 a 0) rfl) (λe he=>?_)
 subst he
 refine T.ite (λhe=>T.ret (Res.err (fM he))) (λhe=>?_)
 have hv:Val 0 a:=dQ he
 refine T.bind (R:=Any) ?_ (λx _=>?_)
 ·repeat' (first|exact T.any|refine T.ite (λ_=>?_) (λ_=>?_))
 refine T.ite (λ_=>?_) (λ_=>T.ite (λ_=>T.ret (Res.err (by omega))) (λ_=>T.ret (Res.err (by omega))))
 have hr:=hv.i.sized.rank
 refine T.bind (dS (by simp; omega)) (λl hl=>?_)
 subst hl
 refine T.bind (AzI hv a.cells 0 [] rfl rfl (by omega) (by simp)) (λv hvv=>?_)
 match v,hvv with
 |.error r,h=>exact T.ret (λe=>absurd e h)
 |.ok cs,h=>
  refine T.ret (λ_=>AuA ?_ hv.i.dims h.2)
  rw[h.1]; exact hv.i.sized
theorem AnO {a b:List Int} (hf:Few a) (hl:a.length=b.length):∀(r:List Int) (k:Nat),a.drop k=r->a.take k=b.take k->T (jA (a,b,(k:Int))) (λr=>match r with|.error r=>r.2≠0|.ok _=>a=b)
 | [],k,h,ht=>by
  rw[jA]
  simp only[bW (bX h),fJ,if_false]
  refine T.ret ?_
  have h1:=List.drop_eq_nil_iff.1 h
  rwa [List.take_of_length_le h1,List.take_of_length_le (by omega)] at ht
 |c::r,k,h,ht=>by
  have hk:=bY h
  rw[jA]
  simp only[cU hk,if_true,bE h,oJ,bJ,bQ h hf]
  refine T.bind (T.lget (Q:=λv=>b[k]?=some v) (by omega) (by omega) (λv hv=>by simpa using hv)) (λv hv=>?_)
  refine T.ite (λ_=>T.ret (by simp)) (λhe=>?_)
  refine AnO hf hl r (k+1) (aX h) ?_
  have:a[k]?=some c:=by
   have:(a.drop k)[0]?=some c:=by rw[h]; rfl
   simpa using this
  rw[List.take_add_one,List.take_add_one,ht,this,hv,dQ he]
theorem BfF {a b:List Int} (h8:a.length<=8) (h8':b.length<=8):T (rY a b) (λr=>r.2=0->(a=[]/\r.1=b)\/(a≠[]/\b=[]/\r.1=a)\/(a≠[]/\a=b/\r.1=a)):=by
 unfold rY
 refine T.ite (λh=>?_) (λh=>?_)
 ·refine T.bind (dS (by simp; omega)) (λl hl=>T.ret (λ_=>.inl ⟨?_,by simp[hl]⟩))
  have:=eY h; exact List.length_eq_zero_iff.1 (by omega)
 have ha:a≠[]:=by rintro rfl; simp at h
 refine T.ite (λh=>?_) (λh=>?_)
 ·refine T.bind (dS (by simp; omega)) (λl hl=>T.ret (λ_=>.inr (.inl ⟨ha,?_,by simp[hl]⟩)))
  have:=eY h; exact List.length_eq_zero_iff.1 (by omega)
 refine T.ite (λ_=>T.ret (λe=>absurd e (by simp))) (λhl=>?_)
 have hl':=dQ hl
 refine T.bind (AnO (by unfold Few; omega) (by omega) a 0 rfl (by simp)) (λv hv=>?_)
 match v,hv with
 |.error r,h=>exact T.ret (λe=>absurd e h)
 |.ok _,h=>exact T.bind (dS (by simp; omega)) (λl hl=>T.ret (λ_=>.inr (.inr ⟨ha,h,by simp[hl]⟩)))
theorem Bd9 {op:Int} {a b:Arr}:T (kN (op,a,b,0)) (λr=>match r with|.error r=>r.2≠0|.ok _=>Val 0 a/\Val 0 b):=by
 rw[kN]
 refine T.ite (λ_=>?_) (λh=>by simp at h)
 refine T.bind (jM (Q:=λv=>v=a) rfl) (λy hy=>?_)
 subst hy
 refine T.bind (T.val (qL y) (Q:=λv=>v=Af3 y 0) rfl) (λe he=>?_)
 subst he
 refine T.ite (λhe=>T.ret (fM he)) (λhe=>?_)
 have hva:Val 0 y:=dQ he
 rw[show w64 (0+1)=(1:Int) from by rw[aG (by omega) (by omega)]; rfl,kN]
 refine T.ite (λ_=>?_) (λh=>by simp at h)
 refine T.bind (AwP (Q:=λv=>v=b) rfl) (λz hz=>?_)
 subst hz
 refine T.bind (T.val (qL z) (Q:=λv=>v=Af3 z 0) rfl) (λe he=>?_)
 subst he
 refine T.ite (λhe=>T.ret (fM he)) (λhe=>?_)
 have hvb:Val 0 z:=dQ he
 rw[show w64 (1+1)=(2:Int) from by rw[aG (by omega) (by omega)]; rfl,kN]
 refine T.ite (λh=>by simp at h) (λ_=>T.ret ⟨hva,hvb⟩)
theorem AzG {op:Int} {a b:Arr} {shape:List Int} {n:Nat} (hn:n<=16384) (ha:0<n->0<a.cells.length/\(0<a.shape.length->n<=a.cells.length)) (hb:0<n->0<b.cells.length/\(0<b.shape.length->n<=b.cells.length)) :
  ∀(d k:Nat) (out:List aA),k+d=n->out.length=k->(∀c∈out,uO c)->T (mW (op,a,b,shape,(n:Int),(k:Int),out)) (λr=>match r with|.error r=>r.2≠0|.ok cs=>cs.length=n/\∀c∈cs,uO c)
 |0,k,out,h,ho,hc=>by
  rw[mW]
  refine T.ite (λh'=>by simp at h'; omega) (λ_=>T.ret ⟨by omega,hc⟩)
 |d+1,k,out,h,ho,hc=>by
  obtain⟨a1,a2⟩:=ha (by omega)
  obtain⟨b1,b2⟩:=hb (by omega)
  rw[mW]
  refine T.ite (λh'=>?_) (λh'=>by simp at h'; omega)
  refine T.bind (T.lget (Q:=Any) (by omega) (by omega) (λ_ _=>trivial)) (λy1 _=>?_)
  refine T.bind (T.lget (Q:=Any) (by omega) (by omega) (λ_ _=>trivial)) (λy2 _=>?_)
  refine T.bind (R:=Any) ?_ (λv _=>?_)
  ·refine T.ite (λhs=>?_) (λ_=>T.any)
   have:=a2 (by simp at hs; omega)
   exact T.bind (T.lget (Q:=Any) (by omega) (by omega) (λ_ _=>trivial)) (λ_ _=>T.any)
  refine T.bind (R:=Any) ?_ (λv _=>?_)
  ·refine T.ite (λhs=>?_) (λ_=>T.any)
   have:=b2 (by simp at hs; omega)
   exact T.bind (T.lget (Q:=Any) (by omega) (by omega) (λ_ _=>trivial)) (λ_ _=>T.any)
  refine T.bind AzL (λv hv=>?_)
  refine T.ite (λhe=>T.ret (fM he)) (λ_=>?_)
  refine T.bind (dS (by simp; omega)) (λv hv'=>?_)
  subst hv'
  rw[show w64 ((k:Int)+1)=((k+1:Nat):Int) from by rw[aG (by omega) (by omega)]; rfl]
  refine AzG hn ha hb d (k+1) _ (by omega) (by simp[ho]) ?_
  intro x hx
  rcases List.mem_append.1 hx with hx|hx
  ·exact hc x hx
  simp only[List.mem_singleton] at hx; subst hx; exact hv
theorem Ay7 {op:Int} {a b:Arr} {m:Nat}:T (yO op a b) (Res m):=by
 unfold yO
 refine T.bind Bd9 (λv hv=>?_)
 match v,hv with
 |.error r,h=>exact T.ret (λe=>absurd e h)
 |.ok _,⟨hva,hvb⟩=>
  refine T.ite (λ_=>T.ret (Res.err (by omega))) (λ_=>?_)
  refine T.bind (T.val (AzH op) (Q:=Any) trivial) (λx _=>?_)
  refine T.ite (λ_=>T.ret (Res.err (by omega))) (λ_=>?_)
  have ra:=hva.i.sized; have rb:=hvb.i.sized
  refine T.bind (BfF ra.rank rb.rank) (λr hr=>?_)
  refine T.ite (λhe=>T.ret (Res.err (fM he))) (λhe=>?_)
  have hag:=hr (dQ he)
  have nil1:∀{x:Arr},Val 0 x->x.shape=[]->x.cells.length=1:=by
   intro x hx h0
   have:=hx.i.sized.prod
   rw[h0] at this
   simp only[aQ] at this
   omega
  have main:∃n:Nat,n<=16384/\mG r.1 n/\(∀x∈r.1,x<=16384)/\(0<n->0<a.cells.length/\(0<a.shape.length->n<=a.cells.length))/\(0<n->0<b.cells.length/\(0<b.shape.length->n<=b.cells.length)) /\
    (a.cells.length=0->n=0)/\(a.cells.length≠0->(b.cells.length=0->n=0)/\(b.cells.length≠0->n=max a.cells.length b.cells.length)):=by
   have ha1:=ra.hi; have hb1:=rb.hi
   rcases hag with ⟨h1,h2⟩|⟨h1,h2,h3⟩|⟨h1,h2,h3⟩
   ·have:=nil1 hva h1
    refine⟨b.cells.length,by omega,by rw[h2]; exact rb,by rw[h2]; exact hvb.i.dims,λ_=>⟨by omega,λh=>by rw[h1] at h; simp at h⟩,λh=>⟨h,λ_=>Nat.le_refl _⟩,by omega,λ_=>⟨λh=>h,λ_=>by omega⟩⟩
   ·have:=nil1 hvb h2
    refine⟨a.cells.length,by omega,by rw[h3]; exact ra,by rw[h3]; exact hva.i.dims,λh=>⟨h,λ_=>Nat.le_refl _⟩,λ_=>⟨by omega,λh=>by rw[h2] at h; simp at h⟩,λh=>h,λ_=>⟨by omega,λ_=>by omega⟩⟩
   have he:(a.cells.length:Int)=b.cells.length:=by rw[←ra.prod,←rb.prod,h2]
   refine⟨a.cells.length,by omega,by rw[h3]; exact ra,by rw[h3]; exact hva.i.dims,λh=>⟨h,λ_=>Nat.le_refl _⟩,λh=>⟨by omega,λ_=>by omega⟩,λh=>h,λ_=>⟨by omega,λ_=>by omega⟩⟩
  obtain⟨n,hn,hsz,hdm,hA,hB,h0,h1⟩:=main
  have fin:∀cs:List aA,cs.length=n->(∀c∈cs,uO c)->Res m (Arr.mk r.1 cs,0):=by
   intro cs hl hc _
   exact AuA (by rw[hl]; exact hsz) hdm hc
  refine T.ite (λhz=>?_) (λhz=>?_)
  ·have hz':a.cells.length=0:=by have:=eY hz; omega
   rw[rZ]
   exact T.bind (R:=λx=>x=.ok []) (T.ret rfl) (λv hv=>by subst hv; exact T.ret (fin [] (by simp; exact (h0 hz').symm) (by simp)))
  have hz':a.cells.length≠0:=by intro e; rw[e] at hz; simp at hz
  obtain⟨g1,g2⟩:=h1 hz'
  refine T.bind (R:=λx=>x=(n:Int)) ?_ (λv hv=>?_)
  ·refine T.ite (λhq=>T.ret ?_) (λhq=>T.ret ?_)
   ·have:=g1 (by have:=eY hq; omega); omega
   ·have hb':b.cells.length≠0:=by intro e; rw[e] at hq; simp at hq
    have:=g2 hb'
    split<;>omega
  subst hv
  refine T.bind (AzG hn hA hB n 0 [] (by omega) rfl (by simp)) (λv hvv=>?_)
  match v,hvv with
  |.error r,h=>exact T.ret (λe=>absurd e h)
  |.ok cs,h=>exact T.ret (fin cs h.1 h.2)
def dM (n:Int):List Int->Int
 | []=>n
 |d::r=>dM (w64 (n*d)) r
theorem Aq6:∀l:List Int,dM 0 l=0
 | []=>rfl
 |d::r=>by simp only[dM,Int.zero_mul]; rw[aG (by omega) (by omega)]; exact Aq6 r
theorem AaC:∀{l:List Int} {n:Int},0∈l->dM n l=0
 |d::r,n,h=>by
  simp only[dM]
  rcases List.mem_cons.1 h with h|h
  ·rw[←h,Int.mul_zero,aG (by omega) (by omega)]; exact Aq6 r
  exact AaC h
theorem AnM:∀{l:List Int},(∀d∈l,0<d)->0<aQ l
 | [],_=>by simp[aQ]
 |d::r,hp=>Int.mul_pos (hp d (by simp)) (AnM λx hx=>hp x (by simp[hx]))
theorem AsV:∀{l:List Int} {n:Int},(∀d∈l,0<d)->0<n->n*aQ l<=16384->dM n l=n*aQ l
 | [],n,_,_,_=>by simp[dM,aQ]
 |d::r,n,hp,h0,h=>by
  have hd:=hp d (by simp)
  have hr:=AnM (l:=r) λx hx=>hp x (by simp[hx])
  simp only[aQ,←Int.mul_assoc] at h ⊢
  have hm0:=Int.mul_pos h0 hd
  have h1:n*d<=16384:=by
   have h2:n*d*1<=n*d*aQ r:=Int.mul_le_mul_of_nonneg_left (by omega) (Int.le_of_lt hm0)
   rw[Int.mul_one] at h2
   omega
  simp only[dM]
  rw[aG (by omega) (by omega)]
  exact AsV (λx hx=>hp x (by simp[hx])) hm0 h
theorem fS:∀l m:List Int,aQ (l++m)=aQ l*aQ m
 | [],m=>by simp[aQ]
 |d::r,m=>by simp only[List.cons_append,aQ,fS r m]; exact (Int.mul_assoc _ _ _).symm
theorem AhG {l:List Int} (h:aQ l=0):0∈l:=by
 induction l with
 |nil=>simp[aQ] at h
 |cons d r ih=>
  simp only[aQ] at h
  rcases Int.mul_eq_zero.1 h with h|h
  ·simp[h]
  simp[ih h]
theorem jQ {l:List Int} {n:Int} (h:mG l n):dM 1 l=n:=by
 by_cases hz:n=0
 ·rw[AaC (AhG (by rw[h.prod]; exact hz)),hz]
 have hd:=h.dim hz
 rw[AsV (λd hd'=>(hd d hd').1) (by omega) (by rw[Int.one_mul,h.prod]; exact h.hi),Int.one_mul,h.prod]
theorem oV {a b:List Int} {n:Int} (h:mG (a++b) n) (hn:n≠0):mG a (aQ a)/\mG b (aQ b)/\0<aQ a/\0<aQ b:=by
 have hd:=h.dim hn
 have pa:∀d∈a,0<d:=λd hd'=>(hd d (by simp[hd'])).1
 have pb:∀d∈b,0<d:=λd hd'=>(hd d (by simp[hd'])).1
 have ga:=AnM pa; have gb:=AnM pb
 have hp:=h.prod; rw[fS] at hp
 have hr:=h.rank; rw[List.length_append] at hr
 have hle:=h.hi
 have la:aQ a<=16384:=by
  have:=Int.mul_le_mul_of_nonneg_left (show (1:Int)<=aQ b by omega) (Int.le_of_lt ga)
  rw[Int.mul_one] at this; omega
 have lb:aQ b<=16384:=by
  have:=Int.mul_le_mul_of_nonneg_right (show (1:Int)<=aQ a by omega) (Int.le_of_lt gb)
  rw[Int.one_mul] at this; omega
 exact⟨⟨by omega,λd hd'=>Int.le_of_lt (pa d hd'),rfl,by omega,la,λ_ d hd'=>hd d (by simp[hd'])⟩,⟨by omega,λd hd'=>Int.le_of_lt (pb d hd'),rfl,by omega,lb,λ_ d hd'=>hd d (by simp[hd'])⟩,ga,gb⟩
theorem AmQ {s l:List Int} {ax:Int} (hf:Few l):∀(r:List Int) (k:Nat) (n:Int),l.drop k=r->jO (s,ax,l,n,(k:Int))=some (dM n r)
 | [],k,n,h=>by
  rw[jO]; simp only[bW (bX h),fJ,if_false,dM]
 |d::r,k,n,h=>by
  rw[jO]
  simp only[cU (bY h),if_true,bE h,oJ,bJ,bQ h hf,dM]
  exact AmQ hf r (k+1) _ (aX h)
theorem AmR {s l:List Int} {ax o:Int} (hf:Few l):∀(r:List Int) (k:Nat) (n:Int),l.drop k=r->jP (s,ax,o,l,n,(k:Int))=some (dM n r)
 | [],k,n,h=>by
  rw[jP]; simp only[bW (bX h),fJ,if_false,dM]
 |d::r,k,n,h=>by
  rw[jP]
  simp only[cU (bY h),if_true,bE h,oJ,bJ,bQ h hf,dM]
  exact AmR hf r (k+1) _ (aX h)
theorem AwR {s:List Int} {k:Nat} (h8:s.length<=8) (hk:k<s.length):sW s (k:Int)=some (dM 1 (s.take k),dM 1 (s.drop (k+1)),s[k]):=by
 unfold sW
 have h1:lto s (k:Int)=some (s.take k):=by unfold lto; rw[if_pos (by omega)]; simp
 have h2:lfrom s (w64 ((k:Int)+1))=some (s.drop (k+1)):=by
  rw[show w64 ((k:Int)+1)=((k+1:Nat):Int) from by rw[aG (by omega) (by omega)]; rfl]
  unfold lfrom; rw[if_pos (by omega)]; simp
 have h3:lget s (k:Int)=some s[k]:=fV hk
 have e1:=AmQ (s:=s) (ax:=(k:Int)) (l:=s.take k) (by unfold Few; simp; omega) (s.take k) 0 1 rfl
 have e2:=AmR (s:=s) (ax:=(k:Int)) (o:=dM 1 (s.take k)) (l:=s.drop (k+1)) (by unfold Few; simp; omega) (s.drop (k+1)) 0 1 rfl
 simp only[h1,h2,h3,oJ,bJ,show jO (s,(k:Int),s.take k,1,0)=_ from e1,show jP (s,(k:Int),dM 1 (s.take k),s.drop (k+1),1,0)=_ from e2]
def axN (s:List Int) (last:Bool):Nat:=if last then s.length-1 else 0
theorem AzR {a:Arr} {last:Bool} (h:0<a.shape.length) (h8:a.shape.length<=8):vK a last=some ((axN a.shape last:Nat):Int):=by
 unfold vK axN
 cases last
 ·rfl
 simp only[if_true]; rw[aG (by omega) (by omega)]; congr 1; omega
theorem At8 {s:List Int} {last:Bool} (h:0<s.length):axN s last<s.length:=by unfold axN; split<;>omega
theorem As6 {l:List aA} {at_ step long:Int} (hlong:long<=16384) (hi:∀j:Int,0<=j->j<long->0<=w64 (at_+w64 (j*step))/\w64 (at_+w64 (j*step))<l.length) :
  ∀(d:Nat) (k:Nat) (out:List aA),(k:Int)+d=max long 0->out.length=k->(∀c∈out,c∈l)->T (nB (l,at_,step,long,out,(k:Int))) (λr=>(r.length:Int)=max long 0/\∀c∈r,c∈l)
 |0,k,out,h,ho,hc=>by
  rw[nB]
  refine T.ite (λh'=>by simp at h'; omega) (λ_=>T.ret ⟨by omega,hc⟩)
 |d+1,k,out,h,ho,hc=>by
  rw[nB]
  refine T.ite (λh'=>?_) (λh'=>by simp at h'; omega)
  obtain⟨g1,g2⟩:=hi k (by omega) (by simpa using h')
  refine T.bind (T.lget (Q:=λv=>v∈l) g1 g2 (λv hv=>List.mem_of_getElem? hv)) (λy hy=>?_)
  refine T.bind (dS (by simp; omega)) (λv hv'=>?_)
  subst hv'
  rw[show w64 ((k:Int)+1)=((k+1:Nat):Int) from by rw[aG (by omega) (by omega)]; rfl]
  refine As6 hlong hi d (k+1) _ (by omega) (by simp[ho]) ?_
  intro x hx
  rcases List.mem_append.1 hx with hx|hx
  ·exact hc x hx
  simp only[List.mem_singleton] at hx; subst hx; exact hy
theorem BiJ {l:List aA} {at_ step long:Int} (h0:0<=long) (hlong:long<=16384) (hi:∀j:Int,0<=j->j<long->0<=w64 (at_+w64 (j*step))/\w64 (at_+w64 (j*step))<l.length) :
  T (sB l at_ step long) (λr=>(r.length:Int)=long/\∀c∈r,c∈l):=by
 unfold sB
 refine T.bind (T.val (v:=()) (by unfold mkcap; rw[if_pos (by omega)]) (Q:=Any) trivial) (λ_ _=>?_)
 refine T.bind (As6 hlong hi long.toNat 0 [] (by omega) rfl (by simp)) (λr hr=>T.ret ⟨by omega,hr.2⟩)
def Fr (l:List aA) (c:aA):Prop:=c∈l\/uO c
theorem Fr.chk {a:Arr} (h:Val 0 a) {c:aA} (hc:Fr a.cells c):AcZ c 0=0:=by
 rcases hc with hc|hc
 ·exact h.i.cells c hc
 exact hc.chk 0
theorem Fr.w {m:Nat} {l:List aA} (h:Cw m l) {c:aA} (hc:Fr l c):wC c<=m:=by
 rcases hc with hc|hc
 ·exact h c hc
 rw[hc.w]; omega
theorem frv {a:Arr} {sh:List Int} {cs:List aA} {m:Nat} (ha:Val 0 a) (hm:Cw m a.cells) (h1:mG sh cs.length) (h2:∀x∈sh,x<=16384) (h3:∀c∈cs,Fr a.cells c):Val 0 (.mk sh cs)/\Cw m cs:=
 ⟨AlZ h1 h2 λc hc=>(h3 c hc).chk ha,λc hc=>(h3 c hc).w hm⟩
theorem BjL {f:bZ} {a b:aA}:T (vI f a b) (λr=>uO r.1):=by
 unfold vI
 refine T.bind (R:=Any) (T.ite (λ_=>T.any) (λ_=>T.any)) (λv _=>?_)
 exact T.bind AzL (λr hr=>T.ret hr)
theorem AkO {l:List aA} (hl:l.length<=16384):∀(r:List aA) (k:Nat) (out:List Int),l.drop k=r->out.length=l.length->T (jE (l,(k:Int),out)) (λr=>match r with|.error r=>r.2≠0|.ok o=>o.length=l.length)
 | [],k,out,h,ho=>by
  rw[jE]
  simp only[bW (bX h),fJ,if_false]
  exact T.ret ho
 |c::r,k,out,h,ho=>by
  have hk:=bY h
  rw[jE]
  simp only[cU hk,if_true,bE h,oJ,bJ,bQ h (by unfold Few; omega)]
  refine T.ite (λ_=>T.ret (by simp)) (λ_=>?_)
  refine T.bind (T.val (v:=k) (by unfold aidx; rw[if_pos (by simp; omega)]; simp) (Q:=λv=>v=k) rfl) (λj hj=>?_)
  subst hj
  refine T.bind (T.val (by unfold aset; rw[if_pos (by omega)]) (Q:=λv=>v.length=l.length) (by simpa using ho)) (λo hoo=>?_)
  exact AkO hl r (j+1) o (aX h) hoo
theorem Bc2 {l:List aA} (hl:l.length<=16384):T (nC l) (λr=>r.2=0->r.1.length<=16384):=by
 unfold nC
 refine T.bind (T.val (by unfold mkarr; rw[if_pos (by omega)]) (Q:=λv=>v.length=l.length) (by simp)) (λo ho=>?_)
 refine T.bind (AkO hl l 0 o rfl ho) (λv hv=>?_)
 match v,hv with
 |.error r,h=>exact T.ret (λe=>absurd e h)
 |.ok o2,h=>
  exact T.bind (T.val (by unfold afrz; rw[if_pos (by simp; exact h)]) (Q:=λv=>v.length=l.length) h) (λv hv=>T.ret (λ_=>by simp only; omega))
theorem Bf1 {n:Int} {w:eL}:T (pK n w) Any:=by unfold pK; exact T.ite (λ_=>T.any) (λ_=>T.any)
theorem BgX {w x:eL}:T (qV w x) Any:=by unfold qV; exact T.ite (λ_=>T.any) (λ_=>T.ite (λ_=>T.any) (λ_=>T.any))
theorem Bf5 {w x:eL}:T (pL w x) Any:=by unfold pL; exact T.bind (R:=Any) (T.ite (λ_=>T.any) (λ_=>T.any)) (λ_ _=>T.any)
theorem AsW {w:eL} {b:Bool}:T (kW w b) Any:=by
 unfold kW
 refine T.ite (λ_=>T.ite (λ_=>T.any) (λ_=>T.any)) (λ_=>?_)
 exact T.ite (λ_=>T.ite (λ_=>T.any) (λ_=>T.any)) (λ_=>T.bind AxM (λ_ _=>T.any))
theorem AuW {l:List Int} (hf:Few l):∀(r:List Int) (k:Nat) (a b c d:Int),l.drop k=r->T (qE (l,(k:Int),a,b,c,d)) Any
 | [],k,a,b,c,d,h=>by
  rw[qE]
  simp only[bW (bX h),fJ,if_false]
  exact T.any
 |x::r,k,a,b,c,d,h=>by
  have ih:=λa b c d=>AuW hf r (k+1) a b c d (aX h)
  rw[qE]
  simp only[cU (bY h),if_true,bE h,oJ,bJ,bQ h hf]
  refine T.bind (R:=Any) ?_ (λv _=>ih _ _ _ _)
  refine T.bind BeT (λm _=>?_)
  exact T.ite (λ_=>T.bind Bf1 (λ_ _=>T.any)) (λ_=>T.bind Bf1 (λ_ _=>T.any))
theorem Bj6 {l:List Int} (hf:Few l):T (xS l) Any:=by
 unfold xS
 refine T.bind (AuW hf l 0 0 0 0 0 rfl) (λv _=>?_)
 refine T.bind BgX (λx _=>?_)
 exact T.ite (λ_=>T.bind Bf5 (λ_ _=>T.bind AsW (λ_ _=>T.any))) (λ_=>T.bind Bf5 (λ_ _=>T.bind AsW (λ_ _=>T.any)))
theorem AxE {f:bZ} {l:List aA} (hl:l.length<=16384):∀(d:Nat) (i:Int) (c:aA),i+1=d->i<l.length->Fr l c->T (p_fold_F_row_l0 (f,l,i,c.kind,c.n,c.box)) (λr=>match r with|.error r=>r.2≠0|.ok (a,b,c)=>Fr l (aA.mk a b c))
 |0,i,c,h,hi,hc=>by
  rw[p_fold_F_row_l0]
  refine T.ite (λh'=>by simp at h'; omega) (λ_=>T.ret ?_)
  cases c; exact hc
 |d+1,i,c,h,hi,hc=>by
  rw[p_fold_F_row_l0]
  refine T.ite (λh'=>?_) (λh'=>by simp at h'; omega)
  refine T.bind (T.lget (Q:=Any) (by omega) hi (λ_ _=>trivial)) (λy _=>?_)
  refine T.bind BjL (λr hr=>?_)
  refine T.ite (λhe=>T.ret (fM he)) (λ_=>?_)
  rw[aG (x:=i-1) (by omega) (by omega)]
  exact AxE hl d (i-1) r.1 (by omega) (by omega) (.inr hr)
theorem BhR {f:bZ} {l:List aA} (hl:l.length<=16384):T (sU f l) (λr=>r.2=0->Fr l r.1):=by
 unfold sU
 refine T.bind (R:=λr=>match r with|.error r=>r.2=0->Fr l r.1|.ok _=>2<=l.length) ?_ (λv hv=>?_)
 ·refine T.ite (λh1=>?_) (λh1=>?_)
  ·have:=eY h1
   exact T.bind (T.lget (Q:=λv=>v∈l) (by omega) (by omega) (λv hv=>List.mem_of_getElem? hv)) (λy hy=>T.ret (λ_=>.inl hy))
  refine T.ite (λh0=>?_) (λh0=>?_)
  ·refine T.ite (λ_=>T.ret (λ_=>.inr (.mk _))) (λ_=>?_)
   refine T.ite (λ_=>T.ret (λ_=>.inr (.mk _))) (λ_=>?_)
   refine T.ite (λ_=>?_) (λh=>by rw[h0] at h; cases h)
   refine T.ite (λ_=>T.ret (λ_=>.inr (.mk _))) (λ_=>?_)
   exact T.ite (λ_=>T.ret (λe=>absurd e (by simp))) (λh=>by rw[h0] at h; cases h)
  refine T.ite (λh=>by rw[h0] at h; cases h) (λ_=>?_)
  refine T.ite (λh=>by rw[h0] at h; cases h) (λ_=>T.ret ?_)
  have a1:(l.length:Int)≠1:=by simpa using h1
  have a2:(l.length:Int)≠0:=by simpa using h0
  show 2<=l.length
  omega
 match v,hv with
 |.error r,h=>exact T.ret h
 |.ok _,h2=>
  have fin:∀{α:Type},T (nC l>>=λ(n,e)=>if (e != 0) then some ((aA.mk 0 0 []),e) else if (f.op_==23) then sG n>>=λ(k,e1)=>some ((aA.mk 0 k []),e1) else xS n>>=λ(k1,e2)=>some ((aA.mk 0 k1 []),e2)) (λr=>r.2=0->Fr l r.1):=by
   intro _
   refine T.bind (Bc2 hl) (λr hr=>?_)
   refine T.ite (λhe=>T.ret (λe=>absurd e (fM he))) (λhe=>?_)
   have hfw:Few r.1:=by have:=hr (dQ he); unfold Few; omega
   exact T.ite (λ_=>T.bind (BcO hfw) (λ_ _=>T.ret (λ_=>.inr (.mk _)))) (λ_=>T.bind (Bj6 hfw) (λ_ _=>T.ret (λ_=>.inr (.mk _))))
  refine T.ite (λ_=>fin (α:=Unit)) (λ_=>?_)
  refine T.ite (λ_=>fin (α:=Unit)) (λ_=>?_)
  rw[aG (x:=(l.length:Int)-1) (by omega) (by omega),aG (x:=(l.length:Int)-2) (by omega) (by omega)]
  refine T.bind (T.lget (Q:=λv=>v∈l) (by omega) (by omega) (λv hv=>List.mem_of_getElem? hv)) (λy hy=>?_)
  refine T.bind (AxE hl (l.length-1) _ y (by omega) (by omega) (.inl hy)) (λv hv=>?_)
  match v,hv with
  |.error r,h=>exact T.ret (λe=>absurd e h)
  |.ok (a,b,c),h=>exact T.ret (λ_=>h)
theorem Ba5 {o s g x y j N:Int} (hx:0<=x) (hx':x<o) (hy:0<=y) (hy':y<s) (hj:0<=j) (hj':j<g) (hN:o*s*g=N) (hle:N<=16384) :
  w64 (w64 (w64 (w64 (x*s)*g)+y)+w64 (j*s))=x*s*g+y+j*s/\0<=x*s*g+y+j*s/\x*s*g+y+j*s<N/\w64 (w64 (w64 (x*s)*g)+y)=x*s*g+y:=by
 have h1:0<=x*s:=Int.mul_nonneg hx (by omega)
 have h2:0<=x*s*g:=Int.mul_nonneg h1 (by omega)
 have h3:0<=j*s:=Int.mul_nonneg hj (by omega)
 have h4:(x*g+j+1)<=o*g:=by
  have:(x+1)*g<=o*g:=Int.mul_le_mul_of_nonneg_right (by omega) (by omega)
  rw[Int.add_mul,Int.one_mul] at this; omega
 have h5:(x*g+j+1)*s<=o*g*s:=Int.mul_le_mul_of_nonneg_right h4 (by omega)
 rw[Int.add_mul,Int.add_mul,Int.one_mul] at h5
 have e1:x*g*s=x*s*g:=by rw[Int.mul_assoc,Int.mul_comm g s,←Int.mul_assoc]
 have e2:o*g*s=o*s*g:=by rw[Int.mul_assoc,Int.mul_comm g s,←Int.mul_assoc]
 rw[e1,e2,hN] at h5
 have h6:x*s<=x*s*g:=by
  have:=Int.mul_le_mul_of_nonneg_left (show (1:Int)<=g by omega) h1
  rwa [Int.mul_one] at this
 have w1:w64 (x*s)=x*s:=aG (by omega) (by omega)
 have w2:w64 (x*s*g)=x*s*g:=aG (by omega) (by omega)
 have w3:w64 (x*s*g+y)=x*s*g+y:=aG (by omega) (by omega)
 have w4:w64 (j*s)=j*s:=aG (by omega) (by omega)
 have w5:w64 (x*s*g+y+j*s)=x*s*g+y+j*s:=aG (by omega) (by omega)
 rw[w1,w2,w3,w4,w5]
 exact⟨rfl,by omega,by omega,rfl⟩
structure Geo (a:Arr) (o s g:Int):Prop where
 g0:0<=g
 g1:g<=16384
 all:0<o->0<s->0<g->o*s*g=a.cells.length
theorem geo {a:Arr} {last:Bool} (hv:Val 0 a) (h:0<a.shape.length):Geo a (dM 1 (a.shape.take (axN a.shape last))) (dM 1 (a.shape.drop (axN a.shape last+1))) (a.shape[axN a.shape last]'(At8 h)):=by
 have hk:=At8 (last:=last) h
 have hz:=hv.i.sized
 have hm:a.shape[axN a.shape last]'hk∈a.shape:=List.getElem_mem hk
 refine⟨hz.pos _ hm,hv.i.dims _ hm,?_⟩
 intro ho hs hg
 have e0:a.shape=a.shape.take (axN a.shape last)++(a.shape[axN a.shape last]'hk::a.shape.drop (axN a.shape last+1)):=by
  rw[←List.drop_eq_getElem_cons hk,List.take_append_drop]
 have hne:(a.cells.length:Int)≠0:=by
  intro e
  have h0:(0:Int)∈a.shape:=AhG (by rw[hz.prod]; exact e)
  rw[e0] at h0
  rcases List.mem_append.1 h0 with h0|h0
  ·rw[AaC h0] at ho; omega
  rcases List.mem_cons.1 h0 with h0|h0
  ·omega
  rw[AaC h0] at hs; omega
 have hz':=hz
 rw[e0] at hz'
 obtain⟨p1,p2,p3,p4⟩:=oV hz' hne
 have hz2:mG ([a.shape[axN a.shape last]'hk]++a.shape.drop (axN a.shape last+1)) (aQ (a.shape[axN a.shape last]'hk::a.shape.drop (axN a.shape last+1))):=p2
 obtain⟨q1,q2,q3,q4⟩:=oV hz2 (by omega)
 rw[jQ p1,jQ q2]
 have hp:=hz'.prod
 rw[fS] at hp
 simp only[aQ] at hp
 rw[←hp,Int.mul_assoc,Int.mul_comm (aQ (a.shape.drop (axN a.shape last+1)))]
theorem AjN {f:bZ} {l:List Arr} (hf:Few l):∀(r:List Arr) (k:Nat),l.drop k=r->(∀x∈l.take k,Val 0 x)->T (gD (f,l,(k:Int))) (λr=>match r with|.error e=>e≠0|.ok _=>∀x∈l,Val 0 x)
 | [],k,h,hv=>by
  rw[gD]
  simp only[bW (bX h),fJ,if_false]
  refine T.ret ?_
  rwa [List.take_of_length_le (List.drop_eq_nil_iff.1 h)] at hv
 |a::r,k,h,hv=>by
  rw[gD]
  simp only[cU (bY h),if_true,bE h,oJ,bJ,bQ h hf,qL]
  refine T.ite (λhe=>T.ret (fM he)) (λhe=>?_)
  refine AjN hf r (k+1) (aX h) ?_
  have:l[k]?=some a:=by
   have:(l.drop k)[0]?=some a:=by rw[h]; rfl
   simpa using this
  rw[List.take_add_one,this]
  intro x hx
  rcases List.mem_append.1 hx with hx|hx
  ·exact hv x hx
  simp only[Option.toList_some,List.mem_singleton] at hx; subst hx; exact dQ he
theorem Al6 {f:bZ} {l:List Arr} (hf:Few l):T (jX f l) (λe=>e=0->∀x∈l,Val 0 x):=by
 unfold jX
 refine T.bind (AjN hf l 0 rfl (by simp)) (λv hv=>?_)
 match v,hv with
 |.error r,h=>exact T.ret (λe=>absurd e h)
 |.ok _,h=>
  refine T.bind (T.val (AzH f.op_) (Q:=Any) trivial) (λx _=>?_)
  exact T.ite (λ_=>T.ret (λe=>by omega)) (λ_=>T.ret (λ_=>h))
theorem AgV {l:List Int} (h:l.length<=8):T (rS l) (λr=>r=(l.length,l)):=⟨_,by unfold rS; rw[if_pos (by omega)],rfl⟩
theorem Ae6 {a:Int} (h1:0<=a) (h2:a<4611686018427387904):w64 (a+1)=a+1:=aG (by omega) (by omega)
theorem BaA {a:Arr} {o s g x y:Int} (hv:Val 0 a) (G:Geo a o s g) (hx:0<=x) (hx':x<o) (hy:0<=y) (hy':y<s):T (sB a.cells (w64 (w64 (w64 (x*s)*g)+y)) s g) (λr=>(r.length:Int)=g/\∀c∈r,c∈a.cells):=by
 refine BiJ G.g0 G.g1 ?_
 intro j hj hj'
 obtain⟨e,g1,g2,_⟩:=Ba5 hx hx' hy hy' hj hj' (G.all (by omega) (by omega) (by omega)) hv.i.sized.hi
 rw[e]; exact⟨g1,g2⟩
theorem AuV {f:bZ} {a:Arr} {x2 x3:List Int} {o s g x5:Int} (hv:Val 0 a) (G:Geo a o s g) (hs:s<=16384) (ho:o<=16384) (hos:o*s<=16384) (hx:0<=x5) (hx':x5<o):∀(d:Nat) (x6:Int) (out:List aA),0<=x6->x6+d=max s x6->(out.length:Int)=x5*s+x6->(∀c∈out,Fr a.cells c)->x6<=s ->
  T (oQ (f,a,x2,x3,o,s,g,x5,x6,out)) (λr=>match r with|.error r=>r.2≠0|.ok cs=>(cs.length:Int)=x5*s+s/\∀c∈cs,Fr a.cells c)
 |0,x6,out,h0,hd,hl,hc,hle=>by
  rw[oQ]
  refine T.ite (λh'=>by simp at h'; omega) (λh'=>T.ret ⟨by simp at h'; omega,hc⟩)
 |d+1,x6,out,h0,hd,hl,hc,hle=>by
  have hlt:x6<s:=by omega
  rw[oQ]
  refine T.ite (λ_=>?_) (λh'=>by simp at h'; omega)
  refine T.bind (BaA hv G hx hx' h0 hlt) (λl hl'=>?_)
  have hg:=G.g1
  refine T.bind (BhR (by omega)) (λr hr=>?_)
  refine T.ite (λhe=>T.ret (fM he)) (λhe=>?_)
  have h1:x5*s+s<=o*s:=by
   have:=Int.mul_le_mul_of_nonneg_right (show x5+1<=o by omega) (show 0<=s by omega)
   rwa [Int.add_mul,Int.one_mul] at this
  refine T.bind (dS (by simp; omega)) (λv hv'=>?_)
  subst hv'
  rw[Ae6 h0 (by omega)]
  refine AuV hv G hs ho hos hx hx' d (x6+1) _ (by omega) (by omega) (by simp; omega) ?_ (by omega)
  intro c hcc
  rcases List.mem_append.1 hcc with hcc|hcc
  ·exact hc c hcc
  simp only[List.mem_singleton] at hcc; subst hcc
  rcases hr (dQ he) with h|h
  ·exact .inl (hl'.2 _ h)
  exact .inr h
theorem AuU {f:bZ} {a:Arr} {x2 x3:List Int} {o s g:Int} (hv:Val 0 a) (G:Geo a o s g) (hs0:0<=s) (hs:s<=16384) (ho:o<=16384) (hos:o*s<=16384):∀(d:Nat) (x5:Int) (out:List aA),0<=x5->x5+d=o->(out.length:Int)=x5*s->(∀c∈out,Fr a.cells c) ->
  T (mM (f,a,x2,x3,o,s,g,x5,out)) (λr=>match r with|.error r=>r.2≠0|.ok cs=>(cs.length:Int)=o*s/\∀c∈cs,Fr a.cells c)
 |0,x5,out,h0,hd,hl,hc=>by
  rw[mM]
  refine T.ite (λh'=>by simp at h'; omega) (λh'=>T.ret ⟨?_,hc⟩)
  rw[hl]; congr 1; omega
 |d+1,x5,out,h0,hd,hl,hc=>by
  rw[mM]
  refine T.ite (λ_=>?_) (λh'=>by simp at h'; omega)
  refine T.bind (AuV hv G hs ho hos h0 (by omega) s.toNat 0 out (by omega) (by omega) (by omega) hc hs0) (λv hvv=>?_)
  match v,hvv with
  |.error r,h=>exact T.ret h
  |.ok cs,h=>
   show T (mM (f,a,x2,x3,o,s,g,w64 (x5+1),cs)) _
   rw[Ae6 h0 (by omega)]
   exact AuU hv G hs0 hs ho hos d (x5+1) cs (by omega) (by omega) (by rw[h.1,Int.add_mul,Int.one_mul]) h.2
theorem AyA (s:List Int) (last:Bool) (h:0<s.length):(s.take (axN s last)=[]/\s.take (axN s last)++s.drop (axN s last+1)=s.drop (axN s last+1))\/(s.drop (axN s last+1)=[]/\s.take (axN s last)++s.drop (axN s last+1)=s.take (axN s last)):=by
 unfold axN
 cases last
 ·left; simp
 right
 have:s.drop (s.length-1+1)=[]:=List.drop_eq_nil_of_le (by omega)
 simp[this]
theorem Bj3 {f:bZ} {a:Arr} {last:Bool} {m:Nat} (hm:Cw m a.cells):T (xR f a last) (Res m):=by
 unfold xR
 refine T.bind (Al6 (by unfold Few; simp)) (λe he=>?_)
 refine T.ite (λh=>T.ret (Res.err (fM h))) (λh=>?_)
 have hv:Val 0 a:=he (dQ h) a (by simp)
 have hr:=hv.i.sized.rank
 refine T.ite (λh0=>?_) (λh0=>?_)
 ·exact T.bind (T.val (sM a 0 hv) (Q:=λv=>v=a) rfl) (λv hv'=>by subst hv'; exact T.ret (λ_=>⟨hv,hm⟩))
 have hpos:0<a.shape.length:=by
    have:(a.shape.length:Int)≠0:=by simpa using h0
    omega
 have hk:=At8 (last:=last) hpos
 refine T.bind (T.val (AzR hpos hr) (Q:=λv=>v=((axN a.shape last:Nat):Int)) rfl) (λk hkk=>?_)
 subst hkk
 refine T.bind (AgV hr) (λc hc=>?_)
 subst hc
 rw[show w64 (((axN a.shape last:Nat):Int)+1)=((axN a.shape last+1:Nat):Int) from by rw[aG (by omega) (by omega)]; rfl]
 refine T.bind (T.val (v:=(a.shape.take (axN a.shape last)++a.shape.drop (axN a.shape last+1),[])) (by unfold Ad1; rw[if_pos (by omega)]; simp) (Q:=λv=>v=(a.shape.take (axN a.shape last)++a.shape.drop (axN a.shape last+1),[])) rfl) (λd hd=>?_)
 subst hd
 refine T.bind (T.val (zN _) (Q:=λv=>v=kX (a.shape.take (axN a.shape last)++a.shape.drop (axN a.shape last+1))) rfl) (λsz hsz=>?_)
 subst hsz
 refine T.ite (λh=>T.ret (Res.err (fM h))) (λh=>?_)
 have hS:=uE (dQ h)
 refine T.bind (T.val (AwR hr hk) (Q:=λv=>v=(dM 1 (a.shape.take (axN a.shape last)),dM 1 (a.shape.drop (axN a.shape last+1)),a.shape[axN a.shape last]'hk)) rfl) (λq hq=>?_)
 subst hq
 have G:=geo (last:=last) hv hpos
 have hos:0<=dM 1 (a.shape.take (axN a.shape last))/\dM 1 (a.shape.take (axN a.shape last))<=16384/\0<=dM 1 (a.shape.drop (axN a.shape last+1))/\dM 1 (a.shape.drop (axN a.shape last+1))<=16384 /\
   dM 1 (a.shape.take (axN a.shape last))*dM 1 (a.shape.drop (axN a.shape last+1))=(kX (a.shape.take (axN a.shape last)++a.shape.drop (axN a.shape last+1))).1:=by
  have l1:=hS.lo; have l2:=hS.hi
  rcases AyA a.shape last hpos with ⟨h1,h2⟩|⟨h1,h2⟩
  ·rw[h2] at hS l1 l2 ⊢
   rw[h1,jQ hS]
   simp only[dM]; omega
  rw[h2] at hS l1 l2 ⊢
  rw[h1,jQ hS]
  simp only[dM]; omega
 obtain⟨o0,o1,s0,s1,hprod⟩:=hos
 have hdim:∀x∈a.shape.take (axN a.shape last)++a.shape.drop (axN a.shape last+1),x<=16384:=by
  intro x hx
  rcases List.mem_append.1 hx with hx|hx
  ·exact hv.i.dims x (List.mem_of_mem_take hx)
  exact hv.i.dims x (List.mem_of_mem_drop hx)
 refine T.bind (AuU hv G s0 s1 o1 (by rw[hprod]; exact hS.hi) _ 0 [] (by omega) (by rw[Int.toNat_of_nonneg o0]; omega) (by simp) (by simp)) (λv hvv=>?_)
 match v,hvv with
 |.error r,h=>exact T.ret (λe=>absurd e h)
 |.ok cs,h=>
  have hval:=frv (m:=m) hv hm (sh:=a.shape.take (axN a.shape last)++a.shape.drop (axN a.shape last+1)) (cs:=cs) (by rw[h.1,hprod]; exact hS) hdim h.2
  exact T.bind (T.val (sM _ 0 hval.1) (Q:=λv=>v=Arr.mk (a.shape.take (axN a.shape last)++a.shape.drop (axN a.shape last+1)) cs) rfl) (λv hv'=>by subst hv'; exact T.ret (λ_=>hval))
theorem BbA {d:Int} {a:Arr} (hv:Val d a):∀c∈a.cells,kG c=some c:=by
 intro c hm
 rw[kG]
 rcases rP (hv.i.cells c hm) with ⟨_,_,_,b,hb,hvb⟩|⟨hb,_⟩
 ·have:=sM b _ hvb
  obtain⟨k,n,bx⟩:=c
  simp only[aA.box] at hb
  subst hb
  have hl:lget [b] 0=some b:=rfl
  simp[aA.box,aA.kind,aA.n,hl,this]
 obtain⟨k,n,bx⟩:=c
 simp only[aA.box] at hb
 subst hb
 simp[aA.box,aA.kind,aA.n]
theorem AvK {a:Arr} {l:List Int} (hf:Few a.cells) (hl:a.cells.length<=16384) (hc:∀c∈a.cells,kG c=some c):∀(r:List aA) (k:Nat) (out:List aA),a.cells.drop k=r->out=a.cells.take k->p_arr_Copy_V_l0 (a,l,(k:Int),out)=some a.cells
 | [],k,out,h,ho=>by
  rw[p_arr_Copy_V_l0]
  simp only[bW (bX h),fJ,if_false]
  rw[ho,List.take_of_length_le (List.drop_eq_nil_iff.1 h)]
 |c::r,k,out,h,ho=>by
  have hk:=bY h
  have hm:c∈a.cells:=List.mem_of_mem_drop (by rw[h]; simp)
  rw[p_arr_Copy_V_l0]
  have hlo:out.length<=16384:=by rw[ho,List.length_take]; omega
  have hap:lapp out [c]=some (out++[c]):=by unfold lapp; rw[if_pos (by simp; omega)]
  simp only[cU hk,if_true,bE h,oJ,bJ,bQ h hf,hc c hm,hap]
  refine AvK hf hl hc r (k+1) _ (aX h) ?_
  rw[ho]
  have:a.cells[k]?=some c:=by
   have:(a.cells.drop k)[0]?=some c:=by rw[h]; rfl
   simpa using this
  rw[List.take_add_one,this]; rfl
theorem BcK {a:Arr} {d:Int} (hv:Val d a):wN a=some (a.shape.length,a.cells.length,a.shape,a.cells):=by
 unfold wN
 have hr:=hv.i.sized.rank
 have h1:lapp ([]:List Int) a.shape=some a.shape:=by unfold lapp; rw[if_pos (by simp; omega)]; simp
 have hlen:a.cells.length<=16384:=by have:=hv.i.sized.hi; omega
 have h2:=AvK (l:=a.shape) hv.fewc hlen (BbA hv) a.cells 0 [] rfl rfl
 simp only[h1,oJ,bJ]
 rw[show p_arr_Copy_V_l0 (a,a.shape,0,[])=some a.cells from h2]; rfl
theorem uP {α:Type} {n:Nat} {l:List α} (h:l.length=n):T (afrz n l) (λr=>r=l):=⟨l,by unfold afrz; rw[if_pos h],rfl⟩
theorem Ar0 {f:bZ} {a:Arr} {n n1:Nat} {b:List Int} {o s g x1 x2:Int} (hv:Val 0 a) (G:Geo a o s g) (hn:n1=a.cells.length) (hx:0<=x1) (hx':x1<o) (hy:0<=x2) (hy':x2<s) {l:List aA} (hl:(l.length:Int)=g) (hlc:∀c∈l,c∈a.cells) :
  ∀(d:Nat) (k:Int) (cs:List aA),1<=k->k+d=max g k->cs.length=a.cells.length->(∀c∈cs,Fr a.cells c)->T (nA (f,a,n,n1,b,o,s,g,x1,x2,l,k,cs)) (λr=>match r with|.error r=>r.2≠0|.ok cs=>cs.length=a.cells.length/\∀c∈cs,Fr a.cells c)
 |0,k,cs,h1,hd,hc,hf=>by
  rw[nA]
  refine T.ite (λh'=>by simp at h'; omega) (λ_=>T.ret ⟨hc,hf⟩)
 |d+1,k,cs,h1,hd,hc,hf=>by
  have hg:=G.g1
  have hlt:k<g:=by omega
  rw[nA]
  refine T.ite (λ_=>?_) (λh'=>by simp at h'; omega)
  rw[Ae6 (by omega) (by omega)]
  refine T.bind (T.val (by unfold lto; rw[if_pos (by omega)]) (Q:=λv=>v=l.take (k+1).toNat) rfl) (λl1 hl1=>?_)
  subst hl1
  refine T.bind (BhR (by rw[List.length_take]; omega)) (λr hr=>?_)
  refine T.ite (λhe=>T.ret (fM he)) (λhe=>?_)
  obtain⟨e,g1,g2,_⟩:=Ba5 hx hx' hy hy' (show 0<=k by omega) hlt (G.all (by omega) (by omega) (by omega)) hv.i.sized.hi
  rw[e]
  refine T.bind (T.val (by unfold aidx; rw[if_pos (by omega)]) (Q:=λv=>v<a.cells.length) (by omega)) (λj hj=>?_)
  refine T.bind (T.val (by unfold aset; rw[if_pos (by omega)]) (Q:=λv=>v=cs.set j r.1) rfl) (λcs2 hcs2=>?_)
  subst hcs2
  refine Ar0 hv G hn hx hx' hy hy' hl hlc d (k+1) _ (by omega) (by omega) (by simpa using hc) ?_
  intro c hcc
  rcases List.mem_or_eq_of_mem_set hcc with hcc|hcc
  ·exact hf c hcc
  subst hcc
  rcases hr (dQ he) with h|h
  ·exact .inl (hlc _ (List.mem_of_mem_take h))
  exact .inr h
theorem AqZ {f:bZ} {a:Arr} {n n1:Nat} {b:List Int} {o s g x1:Int} (hv:Val 0 a) (G:Geo a o s g) (hs:s<9223372036854775808) (hn:n1=a.cells.length) (hx:0<=x1) (hx':x1<o) :
  ∀(d:Nat) (x2:Int) (cs:List aA),0<=x2->x2+d=max s x2->cs.length=a.cells.length->(∀c∈cs,Fr a.cells c)->T (kP (f,a,n,n1,b,o,s,g,x1,x2,cs)) (λr=>match r with|.error r=>r.2≠0|.ok cs=>cs.length=a.cells.length/\∀c∈cs,Fr a.cells c)
 |0,x2,cs,h0,hd,hc,hf=>by
  rw[kP]
  refine T.ite (λh'=>by simp at h'; omega) (λ_=>T.ret ⟨hc,hf⟩)
 |d+1,x2,cs,h0,hd,hc,hf=>by
  have hlt:x2<s:=by omega
  rw[kP]
  refine T.ite (λ_=>?_) (λh'=>by simp at h'; omega)
  refine T.bind (BaA hv G hx hx' h0 hlt) (λl hl=>?_)
  refine T.bind (Ar0 hv G hn hx hx' h0 hlt hl.1 hl.2 (g-1).toNat 1 cs (by omega) (by have:=G.g0; omega) hc hf) (λv hvv=>?_)
  match v,hvv with
  |.error r,h=>exact T.ret h
  |.ok cs2,h=>
   show T (kP (f,a,n,n1,b,o,s,g,x1,w64 (x2+1),cs2)) _
   rw[aG (by omega) (by omega)]
   exact AqZ hv G hs hn hx hx' d (x2+1) cs2 (by omega) (by omega) h.1 h.2
theorem AqY {f:bZ} {a:Arr} {n n1:Nat} {b:List Int} {o s g:Int} (hv:Val 0 a) (G:Geo a o s g) (hs:s<9223372036854775808) (ho:o<9223372036854775808) (hn:n1=a.cells.length) :
  ∀(d:Nat) (x1:Int) (cs:List aA),0<=x1->x1+d=max o x1->cs.length=a.cells.length->(∀c∈cs,Fr a.cells c)->T (kO (f,a,n,n1,b,o,s,g,x1,cs)) (λr=>match r with|.error r=>r.2≠0|.ok cs=>cs.length=a.cells.length/\∀c∈cs,Fr a.cells c)
 |0,x1,cs,h0,hd,hc,hf=>by
  rw[kO]
  refine T.ite (λh'=>by simp at h'; omega) (λ_=>T.ret ⟨hc,hf⟩)
 |d+1,x1,cs,h0,hd,hc,hf=>by
  have hlt:x1<o:=by omega
  rw[kO]
  refine T.ite (λ_=>?_) (λh'=>by simp at h'; omega)
  refine T.bind (AqZ hv G hs hn h0 hlt s.toNat 0 cs (by omega) (by omega) hc hf) (λv hvv=>?_)
  match v,hvv with
  |.error r,h=>exact T.ret h
  |.ok cs2,h=>
   show T (kO (f,a,n,n1,b,o,s,g,w64 (x1+1),cs2)) _
   rw[aG (by omega) (by omega)]
   exact AqY hv G hs ho hn d (x1+1) cs2 (by omega) (by omega) h.1 h.2
theorem BiT (x:Int):w64 x<9223372036854775808:=by unfold w64; rw[IntKind.wrap_i64]; omega
theorem Al0:∀{l:List Int} {n:Int},n<9223372036854775808->dM n l<9223372036854775808
 | [],n,h=>h
 |d::r,n,_=>by simp only[dM]; exact Al0 (l:=r) (BiT _)
theorem BhZ {f:bZ} {a:Arr} {last:Bool} {m:Nat} (hm:Cw m a.cells):T (vJ f a last) (Res m):=by
 unfold vJ
 refine T.bind (Al6 (by unfold Few; simp)) (λe he=>?_)
 refine T.ite (λh=>T.ret (Res.err (fM h))) (λh=>?_)
 have hv:Val 0 a:=he (dQ h) a (by simp)
 have hr:=hv.i.sized.rank
 refine T.bind (T.val (BcK hv) (Q:=λv=>v=(a.shape.length,a.cells.length,a.shape,a.cells)) rfl) (λq hq=>?_)
 subst hq
 refine T.ite (λh0=>?_) (λh0=>?_)
 ·refine T.bind (uP rfl) (λc hc=>?_)
  refine T.bind (uP rfl) (λs hs=>?_)
  subst hc; subst hs
  exact T.ret (λ_=>by cases a; exact⟨hv,hm⟩)
 have hpos:0<a.shape.length:=by
   have:(a.shape.length:Int)≠0:=by simpa using h0
   omega
 have hk:=At8 (last:=last) hpos
 refine T.bind (T.val (AzR hpos hr) (Q:=λv=>v=((axN a.shape last:Nat):Int)) rfl) (λk hkk=>?_)
 subst hkk
 refine T.bind (T.val (AwR hr hk) (Q:=λv=>v=(dM 1 (a.shape.take (axN a.shape last)),dM 1 (a.shape.drop (axN a.shape last+1)),a.shape[axN a.shape last]'hk)) rfl) (λq hq=>?_)
 subst hq
 have G:=geo (last:=last) hv hpos
 refine T.bind (AqY hv G (Al0 (by omega)) (Al0 (by omega)) rfl (dM 1 (a.shape.take (axN a.shape last))).toNat 0 a.cells (by omega) (by omega) rfl (λc hc=>.inl hc)) (λv hvv=>?_)
 match v,hvv with
 |.error r,h=>exact T.ret (λe=>absurd e h)
 |.ok cs,h=>
  refine T.bind (uP h.1) (λc hc=>?_)
  refine T.bind (uP rfl) (λs hs=>?_)
  subst hc; subst hs
  exact T.ret (λ_=>frv hv hm (by rw[h.1]; exact hv.i.sized) hv.i.dims h.2)
theorem AnT {f:bZ} {a b:Arr} {l:List Int} {x2:Int} {y:aA} (hb:Val 0 b) {base:Nat} (hbase:base+b.cells.length<=16384):∀(r:List aA) (k:Nat) (out:List aA),b.cells.drop k=r->out.length=base+k->k<=b.cells.length->(∀c∈out,uO c) ->
  T (lE (f,a,b,l,x2,y,(k:Int),out)) (λr=>match r with|.error r=>r.2≠0|.ok cs=>cs.length=base+b.cells.length/\∀c∈cs,uO c)
 | [],k,out,h,ho,hkl,hc=>by
  rw[lE]
  simp only[bW (bX h),fJ,if_false]
  have:=List.drop_eq_nil_iff.1 h
  exact T.ret ⟨by omega,hc⟩
 |c::r,k,out,h,ho,hkl,hc=>by
  have hk:=bY h
  rw[lE]
  simp only[cU hk,if_true,bE h,oJ,bJ,bQ h hb.fewc]
  refine T.bind BjL (λv hv=>?_)
  refine T.ite (λhe=>T.ret (fM he)) (λ_=>?_)
  refine T.bind (dS (by simp; omega)) (λw hw=>?_)
  subst hw
  refine AnT hb hbase r (k+1) _ (aX h) (by simp; omega) (by omega) ?_
  intro x hx
  rcases List.mem_append.1 hx with hx|hx
  ·exact hc x hx
  simp only[List.mem_singleton] at hx; subst hx; exact hv
theorem AnS {f:bZ} {a b:Arr} {l:List Int} (ha:Val 0 a) (hb:Val 0 b) (hN:a.cells.length*b.cells.length<=16384):∀(r:List aA) (k:Nat) (out:List aA),a.cells.drop k=r->out.length=k*b.cells.length->k<=a.cells.length->(∀c∈out,uO c) ->
  T (lD (f,a,b,l,(k:Int),out)) (λr=>match r with|.error r=>r.2≠0|.ok cs=>cs.length=a.cells.length*b.cells.length/\∀c∈cs,uO c)
 | [],k,out,h,ho,hkl,hc=>by
  rw[lD]
  simp only[bW (bX h),fJ,if_false]
  have h1:=List.drop_eq_nil_iff.1 h
  have:k=a.cells.length:=by omega
  exact T.ret ⟨by rw[ho,this],hc⟩
 |c::r,k,out,h,ho,hkl,hc=>by
  have hk:=bY h
  have hb2:k*b.cells.length+b.cells.length<=a.cells.length*b.cells.length:=by
   have:=Nat.mul_le_mul_right b.cells.length (show k+1<=a.cells.length by omega)
   rwa [Nat.add_mul,Nat.one_mul] at this
  rw[lD]
  simp only[cU hk,if_true,bE h,oJ,bJ,bQ h ha.fewc]
  refine T.bind (AnT hb (base:=k*b.cells.length) (by omega) b.cells 0 out rfl (by omega) (by omega) hc) (λv hv=>?_)
  match v,hv with
  |.error r,h=>exact T.ret h
  |.ok cs,hcs=>exact AnS ha hb hN r (k+1) cs (aX h) (by rw[hcs.1,Nat.add_mul,Nat.one_mul]) (by omega) hcs.2
theorem BfK {f:bZ} {a b:Arr} {m:Nat}:T (sV f a b) (Res m):=by
 unfold sV
 refine T.bind (Al6 (by unfold Few; simp)) (λe he=>?_)
 refine T.ite (λh=>T.ret (Res.err (fM h))) (λh=>?_)
 have ha:Val 0 a:=he (dQ h) a (by simp)
 have hb:Val 0 b:=he (dQ h) b (by simp)
 have ra:=ha.i.sized; have rb:=hb.i.sized
 refine T.bind (AgV ra.rank) (λc hc=>?_)
 subst hc
 have r1:=ra.rank; have r2:=rb.rank
 refine T.bind (T.val (v:=a.shape++b.shape) (by unfold BfL afrz lapp; rw[if_pos rfl]; simp; omega) (Q:=λv=>v=a.shape++b.shape) rfl) (λl hl=>?_)
 subst hl
 refine T.bind (T.val (zN _) (Q:=λv=>v=kX (a.shape++b.shape)) rfl) (λsz hsz=>?_)
 subst hsz
 refine T.ite (λh=>T.ret (Res.err (fM h))) (λh=>?_)
 have hS:=uE (dQ h)
 have hp:=hS.prod
 rw[fS,ra.prod,rb.prod] at hp
 have hp':((a.cells.length*b.cells.length:Nat):Int)=(kX (a.shape++b.shape)).1:=by rw[←hp]; simp
 have hle:=hS.hi
 refine T.bind (AnS ha hb (by omega) a.cells 0 [] rfl (by simp) (by omega) (by simp)) (λv hvv=>?_)
 match v,hvv with
 |.error r,h=>exact T.ret (λe=>absurd e h)
 |.ok cs,h=>
  refine T.ret (λ_=>AuA (by rw[h.1,hp']; exact hS) ?_ h.2)
  intro x hx
  rcases List.mem_append.1 hx with hx|hx
  ·exact ha.i.dims x hx
  exact hb.i.dims x hx
theorem AdK {n:Int} (h0:0<=n) (h1:n<=16384):mG [n] n:=⟨by simp,by simpa using h0,by simp[aQ],h0,h1,λh d hd=>by simp only[List.mem_singleton] at hd; subst hd; omega⟩
theorem AsO:mG [] 1:=⟨by simp,by simp,rfl,by omega,by omega,by simp⟩
theorem As3 {a:Arr} {y3:aA} {n:Int} (hn:n<=16384):∀(d:Nat) (k:Nat) (out:List aA),(k:Int)+d=n->out.length=k->(∀c∈out,uO c)->T (jF (a,y3,n,(k:Int),out)) (λr=>(r.length:Int)=n/\∀c∈r,uO c)
 |0,k,out,h,ho,hc=>by
  rw[jF]
  refine T.ite (λh'=>by simp at h'; omega) (λ_=>T.ret ⟨by omega,hc⟩)
 |d+1,k,out,h,ho,hc=>by
  rw[jF]
  refine T.ite (λ_=>?_) (λh'=>by simp at h'; omega)
  refine T.bind (dS (by simp; omega)) (λw hw=>?_)
  subst hw
  rw[show w64 ((k:Int)+1)=((k+1:Nat):Int) from by rw[aG (by omega) (by omega)]; rfl]
  refine As3 hn d (k+1) _ (by omega) (by simp[ho]) ?_
  intro x hx
  rcases List.mem_append.1 hx with hx|hx
  ·exact hc x hx
  simp only[List.mem_singleton] at hx; subst hx; exact .mk _
theorem xE {a:Arr} (hv:Val 0 a) (h:¬(a.shape.length:Int)>0):∃c,a.cells=[c]:=by
 have h0:a.shape=[]:=List.length_eq_zero_iff.1 (by omega)
 have:=hv.i.sized.prod
 rw[h0] at this
 simp only[aQ] at this
 exact List.length_eq_one_iff.1 (by omega)
theorem BiF {a:Arr} {m:Nat} (hv:Val 0 a):T (sD a) (Res m):=by
 unfold sD
 refine T.ite (λ_=>T.ret (Res.err (by omega))) (λh=>?_)
 obtain⟨c,hc⟩:=xE hv (by simpa using h)
 rw[hc]
 refine T.bind (jM (Q:=λv=>v=c) rfl) (λy hy=>?_)
 subst hy
 refine T.ite (λ_=>T.ret (Res.err (by omega))) (λ_=>?_)
 refine T.bind (jM (Q:=λv=>v=y) rfl) (λy1 hy=>?_)
 subst hy
 refine T.ite (λ_=>T.ret (Res.err (by omega))) (λh0=>?_)
 refine T.bind (jM (Q:=λv=>v=y1) rfl) (λy2 hy=>?_)
 subst hy
 refine T.ite (λ_=>T.ret (Res.err (by omega))) (λh1=>?_)
 refine T.bind (jM (Q:=λv=>v=y2) rfl) (λy3 hy=>?_)
 subst hy
 have g0:0<=y3.n:=by simpa using h0
 have g1:y3.n<=16384:=by simpa using h1
 refine T.bind (jM (Q:=λv=>v=y3.n) rfl) (λy4 hy=>?_)
 subst hy
 refine T.bind (As3 g1 y3.n.toNat 0 [] (by omega) rfl (by simp)) (λr hr=>?_)
 exact T.ret (λ_=>AuA (by rw[hr.1]; exact AdK g0 g1) (by simpa using g1) hr.2)
theorem AkX {a:Arr} {ax:Int} {l:List Int} (hf:Few l):∀(r:List Int) (k:Nat) (n:Int),l.drop k=r->hU (a,ax,l,n,(k:Int))=some (dM n r)
 | [],k,n,h=>by
  rw[hU]; simp only[bW (bX h),fJ,if_false,dM]
 |d::r,k,n,h=>by
  rw[hU]
  simp only[cU (bY h),if_true,bE h,oJ,bJ,bQ h hf,dM]
  exact AkX hf r (k+1) _ (aX h)
theorem An3 {a:Arr} {s g at_:Int} (hs:0<s) (hat:0<=at_) (hN:at_+g*s<=a.cells.length) (hle:(a.cells.length:Int)<=16384):∀(d:Nat) (i:Int) (out:List aA),i+1=d->i<g->(out.length:Int)=at_+(g-1-i)*s->(∀c∈out,c∈a.cells) ->
  T (hZ (a,s,g,at_,out,i)) (λr=>(r.length:Int)=at_+g*s/\∀c∈r,c∈a.cells)
 |0,i,out,h,hi,hl,hc=>by
  rw[hZ]
  refine T.ite (λh'=>by simp at h'; omega) (λ_=>T.ret ⟨?_,hc⟩)
  rw[hl,show g-1-i=g from by omega]
 |d+1,i,out,h,hi,hl,hc=>by
  have h1:0<=i*s:=Int.mul_nonneg (by omega) (by omega)
  have h2:(i+1)*s<=g*s:=Int.mul_le_mul_of_nonneg_right (by omega) (by omega)
  have h3:i*s+s=(i+1)*s:=by rw[Int.add_mul,Int.one_mul]
  have h4:(g-1-i)*s+(i+1)*s=g*s:=by rw[←Int.add_mul]; congr 1; omega
  rw[hZ]
  refine T.ite (λ_=>?_) (λh'=>by simp at h'; omega)
  have hs16:s<=16384:=by omega
  have hi16:i<=16384:=by
   have:=Int.mul_le_mul_of_nonneg_left (show (1:Int)<=s by omega) (show 0<=i by omega)
   omega
  rw[aG (x:=i*s) (by omega) (by omega),aG (x:=i+1) (by omega) (by omega),aG (x:=(i+1)*s) (by omega) (by omega),aG (x:=at_+i*s) (by omega) (by omega),aG (x:=at_+(i+1)*s) (by omega) (by omega)]
  refine T.bind (T.val (by unfold Af4; rw[if_pos (by omega)]) (Q:=λv=>(v.length:Int)=s/\∀c∈v,c∈a.cells) ⟨by simp; omega,λc hcc=>List.mem_of_mem_take (List.mem_of_mem_drop hcc)⟩) (λl1 hl1=>?_)
  have hg:0<=(g-1-i)*s:=Int.mul_nonneg (by omega) (by omega)
  refine T.bind (dS (by omega)) (λw hw=>?_)
  subst hw
  rw[aG (x:=i-1) (by omega) (by omega)]
  refine An3 hs hat hN hle d (i-1) _ (by omega) (by omega) ?_ ?_
  ·rw[List.length_append,show g-1-(i-1)=(g-1-i)+1 from by omega,Int.add_mul,Int.one_mul]; omega
  intro x hx
  rcases List.mem_append.1 hx with hx|hx
  ·exact hc x hx
  exact hl1.2 x hx
theorem An2 {a:Arr} {s g o:Int} (hs:0<s) (hg:0<g) (hN:o*(g*s)=a.cells.length) (hle:(a.cells.length:Int)<=16384):∀(d:Nat) (x:Int) (out:List aA),0<=x->x+d=o->(out.length:Int)=x*(g*s)->(∀c∈out,c∈a.cells) ->
  T (fR (a,s,g,out,x*(g*s))) (λr=>r.length=a.cells.length/\∀c∈r,c∈a.cells)
 |0,x,out,h0,hd,hl,hc=>by
  rw[fR]
  have:x*(g*s)=a.cells.length:=by rw[←hN]; congr 1; omega
  refine T.ite (λh'=>by simp at h'; omega) (λ_=>T.ret ⟨by omega,hc⟩)
 |d+1,x,out,h0,hd,hl,hc=>by
  have hB:0<g*s:=Int.mul_pos hg hs
  have h1:0<=x*(g*s):=Int.mul_nonneg h0 (by omega)
  have h2:(x+1)*(g*s)<=o*(g*s):=Int.mul_le_mul_of_nonneg_right (by omega) (by omega)
  have h3:(x+1)*(g*s)=x*(g*s)+g*s:=by rw[Int.add_mul,Int.one_mul]
  have hg16:g<=16384:=by
   have:=Int.mul_le_mul_of_nonneg_left (show (1:Int)<=s by omega) (show 0<=g by omega)
   rw[Int.mul_one] at this; omega
  rw[fR]
  refine T.ite (λ_=>?_) (λh'=>by simp at h'; omega)
  rw[aG (x:=g-1) (by omega) (by omega),aG (x:=g*s) (by omega) (by omega),aG (x:=x*(g*s)+g*s) (by omega) (by omega),←h3]
  refine T.bind (An3 hs h1 (by omega) hle g.toNat (g-1) out (by omega) (by omega) (by rw[hl,show g-1-(g-1)=(0:Int) from by omega]; omega) hc) (λr hr=>?_)
  exact An2 hs hg hN hle d (x+1) r (by omega) (by omega) (by rw[hr.1]; omega) hr.2
theorem AxW {a:Arr} {k:Nat} {m:Nat} (hv:Val 0 a) (hm:Cw m a.cells) (hk:k<a.shape.length\/a.shape=[]):T (p_layout_turned a (k:Int)) (λr=>Val 0 r/\Cw m r.cells):=by
 unfold p_layout_turned
 have hr:=hv.i.sized.rank
 refine T.ite (λ_=>T.ret ⟨hv,hm⟩) (λh0=>?_)
 have hk':k<a.shape.length:=by
  rcases hk with hk|hk
  ·exact hk
  rw[hk] at h0; simp at h0
 rw[show w64 ((k:Int)+1)=((k+1:Nat):Int) from by rw[aG (by omega) (by omega)]; rfl]
 refine T.bind (T.val (v:=a.shape.drop (k+1)) (by unfold lfrom; rw[if_pos (by omega)]; simp) (Q:=λv=>v=a.shape.drop (k+1)) rfl) (λl hl=>?_)
 subst hl
 refine T.bind (T.val (AkX (by unfold Few; simp; omega) (a.shape.drop (k+1)) 0 1 rfl) (Q:=λv=>v=dM 1 (a.shape.drop (k+1))) rfl) (λs hs=>?_)
 subst hs
 refine T.bind (T.val (fV hk') (Q:=λv=>v=a.shape[k]) rfl) (λg hg=>?_)
 subst hg
 have hz:=hv.i.sized
 have fin:∀cs:List aA,cs.length=a.cells.length->(∀c∈cs,c∈a.cells)->Val 0 (Arr.mk a.shape cs)/\Cw m (Arr.mk a.shape cs).cells:=λcs h1 h2=>frv hv hm (by rw[h1]; exact hz) hv.i.dims λc hc=>.inl (h2 c hc)
 by_cases hne:a.cells.length=0
 ·rw[fR]
  have:(decide ((0:Int)<(a.cells.length:Int)))=false:=by simp[hne]
  rw[this]
  exact T.bind (R:=λv=>v=[]) (T.ret rfl) (λv hv'=>by subst hv'; exact T.ret (fin [] (by simp[hne]) (by simp)))
 have e0:a.shape=a.shape.take k++([a.shape[k]]++a.shape.drop (k+1)):=by
  rw[List.singleton_append,←List.drop_eq_getElem_cons hk',List.take_append_drop]
 have hz':=hz
 rw[e0] at hz'
 obtain⟨p1,p2,p3,p4⟩:=oV hz' (by omega)
 obtain⟨q1,q2,q3,q4⟩:=oV p2 (by omega)
 have hp:=hz'.prod
 rw[fS,fS] at hp
 simp only[aQ,Int.mul_one] at hp q1 q3
 rw[jQ q2]
 have t:=An2 (a:=a) (s:=aQ (a.shape.drop (k+1))) (g:=a.shape[k]) (o:=aQ (a.shape.take k)) q4 q3 hp hz.hi (aQ (a.shape.take k)).toNat 0 [] (by omega) (by omega) (by simp) (by simp)
 rw[Int.zero_mul] at t
 exact T.bind t (λr hr=>T.ret (fin r hr.1 hr.2))
theorem BdC (a:Arr):∀d,0<=d->Val (d+1) a->Val d a:=by
 refine Arr.ind (P:=λa=>∀d,0<=d->Val (d+1) a->Val d a) ?_ a
 intro sh cs ih d h0 hv
 have hi:=hv.i
 refine (Ay3.mk hi.sized hi.dims ?_).v
 intro c hc
 obtain⟨k,n,b⟩:=c
 rcases rP (hi.cells _ hc) with ⟨h1,h2,h3,x,hb,hx⟩|⟨hb,hk⟩
 ·simp only[aA.kind,aA.n,aA.box] at h1 h2 hb
  subst h1; subst h2; subst hb
  have:=ih _ hc x (by simp[aA.box]) (d+1) (by omega) hx
  simp only[AcZ,BdB,List.length_singleton,and_self,if_true]
  rw[if_neg (by omega)]; exact this
 simp only[aA.kind,aA.n,aA.box] at hb hk
 subst hb
 simp[AcZ,hk]
mutual
def dA:Arr->Nat
 |.mk _ cs=>dCs cs
def dCs:List aA->Nat
 | []=>0
 |c::r=>max (dC c) (dCs r)
def dC:aA->Nat
 |.mk _ _ b=>dB b
def dB:List Arr->Nat
 | []=>0
 |a::_=>1+dA a
end
theorem BjA (a:Arr):dA a=dCs a.cells:=by cases a; rfl
theorem AzU (c:aA):dC c=dB c.box:=by cases c; rfl
theorem AzV {c:aA}:∀{l:List aA},c∈l->dC c<=dCs l
 |x::r,h=>by
  simp only[dCs]
  rcases List.mem_cons.1 h with rfl|h
  ·omega
  have:=AzV h; omega
theorem BdD (a:Arr):∀d:Int,0<=d->Val d a->d+dA a<=7->Val (d+1) a:=by
 refine Arr.ind (P:=λa=>∀d:Int,0<=d->Val d a->d+dA a<=7->Val (d+1) a) ?_ a
 intro sh cs ih d h0 hv hd
 have hi:=hv.i
 refine (Ay3.mk hi.sized hi.dims ?_).v
 intro c hc
 have hdc:=AzV (l:=cs) hc
 rw[BjA] at hd
 simp only[Arr.cells] at hd
 obtain⟨k,n,b⟩:=c
 rcases rP (hi.cells _ hc) with ⟨h1,h2,h3,x,hb,hx⟩|⟨hb,hk⟩
 ·simp only[aA.kind,aA.n,aA.box] at h1 h2 hb
  subst h1; subst h2; subst hb
  simp only[dC,dB] at hdc
  have:=ih _ hc x (by simp[aA.box]) (d+1) (by omega) hx (by omega)
  simp only[AcZ,BdB,List.length_singleton,and_self,if_true]
  rw[if_neg (by omega)]; exact this
 simp only[aA.kind,aA.n,aA.box] at hb hk
 subst hb
 simp[AcZ,hk]
theorem BdF (a:Arr):∀d:Int,Val d a->d<=8->d+dA a<=8:=by
 refine Arr.ind (P:=λa=>∀d:Int,Val d a->d<=8->d+dA a<=8) ?_ a
 intro sh cs ih d hv h8
 have hi:=hv.i
 have key:∀l:List aA,(∀c∈l,c∈cs)->d+dCs l<=8:=by
  intro l
  induction l with
  |nil=>intro _; simp only[dCs]; omega
  |cons c r ihr=>
   intro hl
   have h1:=ihr λx hx=>hl x (by simp[hx])
   have hc:=hl c (by simp)
   have h2:d+dC c<=8:=by
    rcases rP (hi.cells c hc) with ⟨_,_,h3,x,hb,hx⟩|⟨hb,_⟩
    ·have:=ih c hc x (by rw[hb]; simp) (d+1) hx (by omega)
     rw[AzU,hb]; simp only[dB]; omega
    rw[AzU,hb]; simp only[dB]; omega
   simp only[dCs]; omega
 exact key cs λ_ h=>h
theorem BhW (a:Arr):∀d:Int,0<=d->d<=8->Val d a->uU a=some (dA a:Int):=by
 refine Arr.ind (P:=λa=>∀d:Int,0<=d->d<=8->Val d a->uU a=some (dA a:Int)) ?_ a
 intro sh cs ih d h0 h8 hv
 have hi:=hv.i
 have l0:∀(r:List aA) (k:Nat) (n:Nat),cs.drop k=r->kF (.mk sh cs,(n:Int),(k:Int))=some ((max n (dCs r):Nat):Int):=by
  intro r
  induction r with
  |nil=>
   intro k n h
   rw[kF]
   simp only[show (Arr.mk sh cs).cells=cs from rfl,bW (bX h),fJ,if_false,dCs]
   congr 2<;>omega
  |cons c r ihr=>
   intro k n h
   have hm:c∈cs:=List.mem_of_mem_drop (by rw[h]; simp)
   rw[kF]
   simp only[show (Arr.mk sh cs).cells=cs from rfl,cU (bY h),if_true,bE h,oJ,bJ,bQ h hv.fewc]
   rcases rP (hi.cells c hm) with ⟨_,_,h3,b,hb,hx⟩|⟨hb,_⟩
   ·have h4:=ih c hm b (by rw[hb]; simp) (d+1) (by omega) (by omega) hx
    have h5:=BdF b _ hx (by omega)
    have hdc:dC c=1+dA b:=by rw[AzU,hb]; rfl
    simp only[hb,List.length_singleton,show lget [b] (0:Int)=some b from rfl,h4,bJ]
    rw[if_pos (by decide),aG (by omega) (by omega)]
    simp only[bJ]
    rw[show (if (n:Int)<1+(dA b:Int) then 1+(dA b:Int) else (n:Int))=((max n (dC c):Nat):Int) from by rw[hdc]; split<;>omega]
    rw[ihr (k+1) _ (aX h)]
    simp only[dCs]; congr 2<;>omega
   have hdc:dC c=0:=by rw[AzU,hb]; rfl
   simp only[hb,List.length_nil]
   rw[if_neg (by decide)]
   simp only[bJ]
   rw[ihr (k+1) _ (aX h)]
   simp only[dCs]; congr 2<;>omega
 rw[uU]
 rw[show kF (Arr.mk sh cs,0,0)=_ from l0 cs 0 0 rfl]
 simp only[oJ,bJ,dA]
 congr 2<;>omega
end Go.AM.Seat
namespace Go.AM.Seat
open Go Go.AM
structure At (s at_:List Int):Prop where
 len:at_.length=s.length
 all:∀k d,s[k]?=some d->∃v,at_[s.length-1-k]?=some v/\0<=v/\v<d
theorem At.put {s at_:List Int} {i:Nat} {d v:Int} (h:At s at_) (hi:i<s.length) (hd:s[s.length-1-i]?=some d) (h0:0<=v) (h1:v<d):At s (at_.set i v):=by
 refine⟨by simp[h.len],?_⟩
 intro k e he
 have hk:k<s.length:=(List.getElem?_eq_some_iff.1 he).1
 by_cases hc:s.length-1-k=i
 ·refine⟨v,by rw[hc,List.getElem?_set_self (by rw[h.len]; exact hi)],h0,?_⟩
  rw[show s.length-1-i=k by omega] at hd
  rw[hd] at he; cases he; exact h1
 obtain⟨w,g1,g2⟩:=h.all k e he
 exact⟨w,by rw[List.getElem?_set_ne (Ne.symm hc)]; exact g1,g2⟩
theorem uF {m:Int} {n:Nat} (h0:0<=m) (h1:m.toNat<n):aidx m n=some m.toNat:=by unfold aidx; rw[if_pos ⟨h0,h1⟩]
theorem AsG:∀{l:List Int},(∀d∈l,0<d)->0<aQ l
 | [],_=>by simp[aQ]
 |d::r,h=>Int.mul_pos (h d (by simp)) (AsG λx hx=>h x (by simp[hx]))
theorem Ak7 {a:Arr} {x1 at_:List Int} {x2:Int} {out:List aA} (hs:a.shape.length<=8) (hd:∀d∈a.shape,0<d) (hA:At a.shape at_) :
  ∀(r:List Int) (k:Nat) (n P:Int),a.shape.drop k=r->0<=n->n<P->P*aQ r<=16384->T (gG (a,a.shape.length,x1,x2,at_,out,n,(k:Int))) (λv=>0<=v/\v<P*aQ r)
 | [],k,n,P,h,h0,h1,h2=>by
  rw[gG]
  have:=bX h
  refine T.ite (λh'=>by simp at h'; omega) (λ_=>T.ret ⟨h0,by simpa[aQ] using h1⟩)
 |d::r,k,n,P,h,h0,h1,h2=>by
  rw[gG]
  have hk:=bY h
  have hdk:a.shape[k]?=some d:=by
   rw[List.drop_eq_getElem_cons (by omega)] at h
   obtain⟨h,_⟩:=List.cons.inj h
   rw[←h]; simp[show k<a.shape.length by omega]
  have hd0:0<d:=hd d (List.mem_of_getElem? hdk)
  obtain⟨v,e1,e2,e3⟩:=hA.all k d hdk
  have pr:0<aQ r:=AsG λx hx=>hd x (List.mem_of_mem_drop (i:=k) (by rw[h]; simp[hx]))
  simp only[aQ] at h2 ⊢
  have hPd:P*d<=16384:=by
   have:P*d*1<=P*d*aQ r:=Int.mul_le_mul_of_nonneg_left (by omega) (Int.mul_nonneg (by omega) (by omega))
   rw[Int.mul_one,Int.mul_assoc] at this; omega
  have hn1:n*d+v<P*d:=by
   have:(n+1)*d<=P*d:=Int.mul_le_mul_of_nonneg_right (by omega) (by omega)
   rw[Int.add_mul,Int.one_mul] at this; omega
  have hn0:0<=n*d:=Int.mul_nonneg h0 (by omega)
  simp only[Int.toNat_natCast,cU hk,if_true,bE h,oJ,bJ,bQ h (by unfold Few; omega)]
  rw[aG (x:=(a.shape.length:Int)-1) (by omega) (by omega),aG (x:=(a.shape.length:Int)-1-(k:Int)) (by omega) (by omega),uF (by omega) (by omega)]
  simp only[bJ]
  rw[show ((a.shape.length:Int)-1-(k:Int)).toNat=a.shape.length-1-k by omega,show pV at_ (a.shape.length-1-k)=some v from e1]
  simp only[bJ]
  rw[aG (x:=n*d) (by omega) (by omega),aG (x:=n*d+v) (by omega) (by omega)]
  have t:=Ak7 (x1:=x1) (x2:=x2) (out:=out) hs hd hA r (k+1) (n*d+v) (P*d) (aX h) (by omega) hn1 (by rw[Int.mul_assoc]; exact h2)
  rw[Int.mul_assoc] at t
  exact t
theorem Ak8 {a:Arr} {x2:Int} {out:List aA} (hs:a.shape.length<=8) (hd:∀d∈a.shape,0<d/\d<=16384):∀(n:Nat) (i:Int) (at_:List Int),i+1=n->n<=a.shape.length->At a.shape at_ ->
  T (p_layout_flipped_l2 (a,a.shape.length,a.shape.reverse,x2,out,i,at_)) (λr=>match r with|.error v=>At a.shape v|.ok v=>At a.shape v)
 |0,i,at_,h,hi,hA=>by
  rw[p_layout_flipped_l2]
  exact T.ite (λh'=>by simp at h'; omega) (λ_=>T.ret hA)
 |n+1,i,at_,h,hi,hA=>by
  rw[p_layout_flipped_l2]
  obtain rfl:i=(n:Int):=by omega
  have hn:n<a.shape.length:=by omega
  have hk:a.shape.length-1-n<a.shape.length:=by omega
  have e0:a.shape[a.shape.length-1-n]?=some a.shape[a.shape.length-1-n]:=List.getElem?_eq_getElem hk
  have hdd:=hd _ (List.getElem_mem hk)
  generalize a.shape[a.shape.length-1-n]=d at e0 hdd
  obtain⟨v,e1,e2,e3⟩:=hA.all _ d e0
  rw[show a.shape.length-1-(a.shape.length-1-n)=n by omega] at e1
  refine T.ite (λ_=>?_) (λh'=>by simp at h')
  have a0:aidx (n:Int) a.shape.length=some n:=uF (by omega) (by simpa using hn)
  have a1:pV at_ n=some v:=e1
  have a2:∀w:Int,aset at_ n w=some (at_.set n w):=λw=>by unfold aset; rw[if_pos (by rw[hA.len]; exact hn)]
  have a3:∀w:Int,pV (at_.set n w) n=some w:=λw=>by unfold pV; rw[List.getElem?_set_self (by rw[hA.len]; exact hn)]
  have a4:pV a.shape.reverse n=some d:=by unfold pV; rw[List.getElem?_reverse hn]; exact e0
  have a5:∀w u:Int,aset (at_.set n w) n u=some (at_.set n u):=λw u=>by unfold aset; rw[if_pos (by rw[List.length_set,hA.len]; exact hn),List.set_set]
  simp only[Int.toNat_natCast,oJ,bJ,a0,a1,a2,a3,a4,a5]
  rw[aG (x:=v+1) (by omega) (by omega),aG (x:=(n:Int)-1) (by omega) (by omega)]
  refine T.ite (λh'=>?_) (λ_=>?_)
  ·exact T.ret (hA.put hn e0 (by omega) (by simpa using h'))
  exact Ak8 hs hd n _ _ (by omega) (by omega) (hA.put hn e0 (by omega) hdd.1)
theorem Ak6 {a:Arr} (hv:Val 0 a) (hne:a.cells.length≠0):∀(d:Nat) (k:Int) (at_:List Int) (out:List aA),0<=k->k+d=a.cells.length->At a.shape at_->(out.length:Int)=k->(∀c∈out,c∈a.cells) ->
  T (fD (a,a.shape.length,a.shape.reverse,k,at_,out)) (λr=>r.2.length=a.cells.length/\∀c∈r.2,c∈a.cells)
 |0,k,at_,out,h0,hd,hA,ho,hc=>by
  rw[fD]
  exact T.ite (λh'=>by simp at h'; omega) (λ_=>T.ret ⟨by simp only; omega,hc⟩)
 |d+1,k,at_,out,h0,hd,hA,ho,hc=>by
  have hz:=hv.i.sized
  have hdm:=hz.dim (by omega)
  have hle:=hz.hi
  rw[fD]
  refine T.ite (λ_=>?_) (λh'=>by simp at h'; omega)
  refine T.bind (R:=λr=>At a.shape r.1/\r.2.length=out.length+1/\∀c∈r.2,c∈a.cells) ?_ (λr hr=>?_)
  ·refine T.bind (Ak7 hz.rank (λd h=>(hdm d h).1) hA a.shape 0 0 1 rfl (by omega) (by omega) (by rw[hz.prod]; omega)) (λn hn=>?_)
   rw[Int.one_mul,hz.prod] at hn
   refine T.bind (T.lget hn.1 hn.2 (Q:=λv=>v∈a.cells) λv h=>List.mem_of_getElem? h) (λc hcm=>?_)
   refine T.bind (dS (by simp; omega)) (λl hl=>?_)
   subst hl
   rw[show w64 (((Int.toNat (a.shape.length:Int)):Int)-1)=(a.shape.length:Int)-1 from by have:=hz.rank; rw[Int.toNat_natCast,aG (by omega) (by omega)]]
   have fin:∀c'∈out++[c],c'∈a.cells:=by
    intro c' h
    rcases List.mem_append.1 h with h|h
    ·exact hc c' h
    simp only[List.mem_singleton] at h; subst h; exact hcm
   refine T.bind (Ak8 hz.rank hdm a.shape.length _ at_ (by omega) (by omega) hA) (λv hv'=>?_)
   match v,hv' with
   |.error v,h=>exact T.ret ⟨h,by simp,fin⟩
   |.ok v,h=>exact T.ret ⟨h,by simp,fin⟩
  obtain⟨r1,r2⟩:=r
  obtain⟨g1,g2,g3⟩:=hr
  rw[Ae6 h0 (by omega)]
  exact Ak6 hv hne d (k+1) r1 r2 (by omega) (by omega) g1 (by simp only at g2; omega) g3
theorem BbO {a:Arr} {m:Nat} (hv:Val 0 a) (hm:Cw m a.cells):T (pI a) (λr=>Val 0 r/\Cw m r.cells):=by
 unfold pI
 have hz:=hv.i.sized
 have hr:=hz.rank
 refine T.bind (AgV hr) (λx hx=>?_)
 subst hx
 refine T.bind (T.val (by unfold AaT; rw[if_pos (by omega)]) (Q:=λv=>v=a.shape.reverse) rfl) (λx1 hx=>?_)
 subst hx
 refine T.bind (T.val (by unfold mkarr; rw[if_pos (by omega)]) (Q:=λv=>v=List.replicate a.shape.length 0) (by simp)) (λat_ hat=>?_)
 subst hat
 have rz:∀{s:List Int} {n:Int},mG s n->mG s.reverse n:=by
  intro s n h
  have pr:∀l:List Int,aQ l.reverse=aQ l:=by
   intro l
   induction l with
   |nil=>rfl
   |cons d r ih=>rw[List.reverse_cons,fS,ih]; simp only[aQ,Int.mul_one]; exact Int.mul_comm _ _
  exact⟨by simpa using h.rank,λd hd=>h.pos d (by simpa using hd),by rw[pr]; exact h.prod,h.lo,h.hi,λhn d hd=>h.dim hn d (by simpa using hd)⟩
 have fin:∀cs:List aA,cs.length=a.cells.length->(∀c∈cs,c∈a.cells)->Val 0 (Arr.mk a.shape.reverse cs)/\Cw m (Arr.mk a.shape.reverse cs).cells:=
  fun cs h1 h2=>frv hv hm (by rw[h1]; exact rz hz) (λd hd=>hv.i.dims d (by simpa using hd)) λc hc=>.inl (h2 c hc)
 refine T.bind (R:=λr=>r.2.length=a.cells.length/\∀c∈r.2,c∈a.cells) ?_ (λr hr=>?_)
 ·by_cases hne:a.cells.length=0
  ·rw[fD]
   exact T.ite (λh'=>by simp[hne] at h') (λ_=>T.ret ⟨by simp[hne],by simp⟩)
  ·refine Ak6 hv hne a.cells.length 0 _ [] (by omega) (by omega) ⟨by simp,?_⟩ (by simp) (by simp)
   intro k d hk
   have hk':k<a.shape.length:=(List.getElem?_eq_some_iff.1 hk).1
   exact⟨0,by rw[List.getElem?_replicate,if_pos (by omega)],by omega,(hz.dim (by omega) d (List.mem_of_getElem? hk)).1⟩
 exact T.bind (uP (by simp)) (λsh hsh=>by subst hsh; exact T.ret (fin r.2 hr.1 hr.2))
theorem BiO {a:Arr} {m:Nat} (hv:Val 0 a) (hm:Cw m a.cells):T (tW a) (Res m):=by
 unfold tW
 refine T.ite (λ_=>T.ret (Res.err (by omega))) (λh=>?_)
 obtain⟨c,hc⟩:=xE hv (by simpa using h)
 have hcm:c∈a.cells:=by rw[hc]; simp
 rw[hc]
 refine T.bind (jM (Q:=λv=>v=c) rfl) (λy hy=>?_)
 subst hy
 refine T.ite (λh2=>?_) (λ_=>T.ret λ_=>⟨hv,hm⟩)
 refine T.bind (jM (Q:=λv=>v=y) rfl) (λy1 hy=>?_)
 subst hy
 rcases rP (hv.i.cells _ hcm) with ⟨_,_,h8,b,hb,hvb⟩|⟨_,hk⟩
 ·rw[hb]
  refine T.bind (jM (Q:=λv=>v=b) rfl) (λy2 hy=>?_)
  subst hy
  refine T.ret λ_=>⟨BdC _ 0 (by omega) hvb,λc hc'=>?_⟩
  have h1:=hm _ hcm
  rw[AxZ,hb] at h1
  simp only[wB] at h1
  rw[AxY,An5] at h1
  have h2:wC c<=bCs y2.cells:=AnH hc'
  omega
 have h2:y1.kind=2:=by simpa using h2
 rcases hk with hk|hk<;>omega
theorem mF:∀{l:List Int},(∀d∈l,0<=d)->0<=aQ l
 | [],_=>by simp[aQ]
 |d::r,h=>Int.mul_nonneg (h d (by simp)) (mF λx hx=>h x (by simp[hx]))
theorem Bg0 {a:Arr} {m:Nat} (hv:Val 0 a) (hm:Cw m a.cells):T (sC a) (Res m):=by
 unfold sC
 refine T.ite (λ_=>T.ret λ_=>⟨hv,hm⟩) (λh=>?_)
 have hz:=hv.i.sized
 have hdm:=hv.i.dims
 cases hs:a.shape with
 |nil=>rw[hs] at h; simp at h
 |cons d r=>
  rw[hs] at hz hdm
  refine T.bind (jM (Q:=λv=>v=d) rfl) (λy hy=>?_)
  subst hy
  refine T.ite (λ_=>T.ret (Res.err (by omega))) (λh0=>?_)
  have h0:y≠0:=by simpa using h0
  have hy0:=hz.pos y (by simp)
  have hy:0<y:=by omega
  have hp:=hz.prod
  simp only[aQ] at hp
  have hq:(a.cells.length:Int) / y=aQ r:=by rw[←hp]; exact Int.mul_ediv_cancel_left _ h0
  have hr0:0<=aQ r:=mF λx hx=>hz.pos x (by simp[hx])
  have hrle:aQ r<=a.cells.length:=by
   rw[←hp]
   have:1*aQ r<=y*aQ r:=Int.mul_le_mul_of_nonneg_right (by omega) hr0
   omega
  have hle:=hz.hi
  refine T.bind (T.lfrom (Q:=λv=>v=r) (by omega) (by simp; omega) (by simp)) (λl hl=>?_)
  subst hl
  refine T.bind (jM (Q:=λv=>v=y) rfl) (λy1 hy1=>?_)
  subst hy1
  refine T.bind (T.val (Ap9 hy (by omega) (by omega)) (Q:=λv=>v=aQ l) hq) (λq hq'=>?_)
  subst hq'
  refine T.bind (T.val (by unfold lto; rw[if_pos ⟨hr0,by omega⟩]) (Q:=λv=>v=a.cells.take (aQ l).toNat) rfl) (λl1 hl1=>?_)
  subst hl1
  refine T.ret λ_=>frv hv hm ?_ (λx hx=>hdm x (by simp[hx])) (λc hc=>.inl (List.mem_of_mem_take hc))
  have hlen:((a.cells.take (aQ l).toNat).length:Int)=aQ l:=by rw[List.length_take]; omega
  rw[hlen]
  refine⟨by have:=hz.rank; simp at this; omega,λx hx=>hz.pos x (by simp[hx]),rfl,hr0,by omega,λhn x hx=>?_⟩
  have:(a.cells.length:Int)≠0:=by omega
  exact hz.dim this x (by simp[hx])
theorem AwN {a:Arr} (hr:a.shape.length<=8):∀(r:List Int) (k:Nat) (out:List aA),a.shape.drop k=r->out.length=k->k<=a.shape.length->(∀c∈out,uO c) ->
  T (nD (a,(k:Int),out)) (λcs=>cs.length=a.shape.length/\∀c∈cs,uO c)
 | [],k,out,h,ho,hk,hc=>by
  rw[nD]
  simp only[bW (bX h),fJ,if_false]
  have:=List.drop_eq_nil_iff.1 h
  exact T.ret ⟨by omega,hc⟩
 |d::r,k,out,h,ho,hk,hc=>by
  have hk':=bY h
  rw[nD]
  simp only[cU hk',if_true,bE h,oJ,bJ,bQ h (by unfold Few; omega)]
  refine T.bind (dS (by simp; omega)) (λv hv'=>?_)
  subst hv'
  refine AwN hr r (k+1) _ (aX h) (by simp[ho]) (by omega) ?_
  intro x hx
  rcases List.mem_append.1 hx with hx|hx
  ·exact hc x hx
  simp only[List.mem_singleton] at hx; subst hx; exact .mk _
theorem BgR (a:Arr):T (sE a) Any:=by
 unfold sE
 refine T.ite (λ_=>T.any) (λh=>?_)
 cases hs:a.shape with
 |nil=>rw[hs] at h; simp at h
 |cons d r=>exact T.bind (jM (Q:=Any) trivial) (λ_ _=>T.any)
theorem AyU {op:Int} {a:Arr} {m:Nat} (hm:Cw m a.cells) (hw:wA a<=m):T (yP op a) (Res m):=by
 unfold yP
 refine T.bind (T.val (qL a) (Q:=λv=>v=Af3 a 0) rfl) (λe he=>?_)
 subst he
 refine T.ite (λhe=>T.ret (Res.err (fM he))) (λhe=>?_)
 have hv:Val 0 a:=dQ he
 have hz:=hv.i.sized
 have hle:=hz.hi
 have hrk:=hz.rank
 refine T.bind (T.val (sM a 0 hv) (Q:=λv=>v=a) rfl) (λx hx=>?_)
 subst hx
 refine T.ite (λ_=>T.bind (BiF hv) (λr hr=>T.ret hr)) (λ_=>?_)
 refine T.ite (λ_=>?_) (λ_=>?_)
 ·refine T.bind (AwN hrk x.shape 0 [] rfl rfl (by omega) (by simp)) (λcs hcs=>?_)
  exact T.ret λ_=>AuA (by rw[hcs.1]; exact AdK (by omega) (by omega)) (by simp; omega) hcs.2
 refine T.ite (λ_=>?_) (λ_=>?_)
 ·refine T.bind (BgR x) (λv _=>?_)
  unfold AeC
  exact T.bind (T.ret (Q:=λv=>∃n,v=Arr.mk [] [aA.mk 0 n []]) ⟨_,rfl⟩) (λw hw'=>by
   obtain⟨n,rfl⟩:=hw'
   exact T.ret λ_=>AuA AsO (by simp) (by intro c hc; simp only[List.mem_singleton] at hc; subst hc; exact .mk _))
 refine T.ite (λ_=>?_) (λ_=>?_)
 ·exact T.ret λ_=>frv hv hm (AdK (by omega) hle) (by simp; omega) λc hc=>.inl hc
 refine T.ite (λ_=>?_) (λ_=>?_)
 ·refine T.bind (AxW (k:=0) hv hm ?_) (λr hr=>T.ret λ_=>hr)
  cases hs:x.shape with
  |nil=>exact .inr rfl
  |cons d r=>exact .inl (by simp)
 refine T.ite (λ_=>?_) (λ_=>?_)
 ·rcases Nat.eq_zero_or_pos x.shape.length with h0|h0
  ·unfold p_layout_turned
   refine T.bind (T.ite (λ_=>T.ret (Q:=λr=>Val 0 r/\Cw m r.cells) ⟨hv,hm⟩) (λh=>?_)) (λr hr=>T.ret λ_=>hr)
   simp[h0] at h
  ·rw[show w64 ((x.shape.length:Int)-1)=((x.shape.length-1:Nat):Int) from by rw[aG (by omega) (by omega)]; omega]
   exact T.bind (AxW (k:=x.shape.length-1) hv hm (.inl (by omega))) (λr hr=>T.ret λ_=>hr)
 refine T.ite (λ_=>T.bind (BbO hv hm) (λr hr=>T.ret λ_=>hr)) (λ_=>?_)
 refine T.ite (λ_=>?_) (λ_=>?_)
 ·refine T.bind (T.val (BhW x 0 (by omega) (by omega) hv) (Q:=λv=>v=(dA x:Int)) rfl) (λv hv'=>?_)
  subst hv'
  refine T.ite (λ_=>T.ret (Res.err (by omega))) (λh=>?_)
  have hd:dA x<8:=Int.ofNat_lt.1 (by simpa using h)
  have h1:=BdD x 0 (by omega) hv (by omega)
  refine T.ret λ_=>⟨AlZ AsO (by simp) ?_,?_⟩
  ·intro c hc
   simp only[List.mem_singleton] at hc
   subst hc
   simp only[AcZ,List.length_singleton,and_self,if_true]
   rw[if_neg (by omega)]
   exact h1
  intro c hc
  rw[List.mem_singleton.1 hc]
  simp only[wC,wB]; omega
 refine T.ite (λ_=>T.bind (BiO hv hm) (λr hr=>T.ret hr)) (λ_=>?_)
 refine T.ite (λ_=>T.bind (Bg0 hv hm) (λr hr=>T.ret hr)) (λ_=>?_)
 refine T.ite (λ_=>?_) (λ_=>T.ret (Res.err (by omega)))
 refine T.ite (λ_=>T.ret (Res.err (by omega))) (λh=>?_)
 have h7:x.shape.length<8:=by simp at h; omega
 refine T.bind (dS (by simp; omega)) (λl hl=>?_)
 subst hl
 refine T.ret λ_=>frv hv hm ?_ ?_ λc hc=>.inl hc
 ·refine⟨by simp; omega,?_,by simp only[List.singleton_append,aQ,Int.one_mul]; exact hz.prod,hz.lo,hz.hi,?_⟩
  ·intro d hd
   rcases List.mem_cons.1 hd with rfl|hd
   ·omega
   exact hz.pos d hd
  ·intro hn d hd
   rcases List.mem_cons.1 hd with rfl|hd
   ·omega
   exact hz.dim hn d hd
 intro d hd
 rcases List.mem_cons.1 hd with rfl|hd
 ·omega
 exact hv.i.dims d hd
theorem AuT {l:List Int} (hf:Few l):∀(r:List Int) (k:Nat) (n:Int),l.drop k=r->(∀x∈l.take k,x<=n)->T (gH (l,n,(k:Int))) (λm=>∀x∈l,x<=m)
 | [],k,n,h,hn=>by
  rw[gH]
  simp only[bW (bX h),fJ,if_false]
  have:=List.drop_eq_nil_iff.1 h
  rw[List.take_of_length_le this] at hn
  exact T.ret hn
 |d::r,k,n,h,hn=>by
  have hk:=bY h
  rw[gH]
  simp only[cU hk,if_true,bE h,oJ,bJ,bQ h hf]
  refine AuT hf r (k+1) _ (aX h) ?_
  intro x hx
  rw[List.take_add_one,List.mem_append] at hx
  have hd:l[k]?=some d:=by
   rw[List.drop_eq_getElem_cons (by omega)] at h
   obtain⟨h,_⟩:=List.cons.inj h
   rw[←h]; simp[show k<l.length by omega]
  rcases hx with hx|hx
  ·have:=hn x hx
   split<;>omega
  rw[hd] at hx
  simp only[Option.toList_some,List.mem_singleton] at hx
  subst hx
  split<;>omega
theorem Bj0 {l:List Int} (hf:Few l) (h:0<l.length):T (pN l) (λm=>∀x∈l,x<=m):=by
 unfold pN
 rw[if_neg (by simp; omega)]
 cases hl:l with
 |nil=>rw[hl] at h; simp at h
 |cons d r=>
  refine T.bind (jM (Q:=λv=>v=d) rfl) (λy hy=>?_)
  subst hy
  rw[hl] at hf
  exact T.bind (AuT hf r 1 y rfl (by simp)) (λm hm=>T.ret hm)
theorem An6 {s:Arr} (hl:s.cells.length<=16384):∀(r:List aA) (k:Nat) (out:List Int),s.cells.drop k=r->out.length=k->k<=s.cells.length ->
  T (iA (s,out,(k:Int))) (λr=>match r with|.error r=>r.2≠0|.ok l=>l.length=s.cells.length)
 | [],k,out,h,ho,hk=>by
  rw[iA]
  simp only[bW (bX h),fJ,if_false]
  have:=List.drop_eq_nil_iff.1 h
  exact T.ret (by simp only; omega)
 |c::r,k,out,h,ho,hk=>by
  have hk':=bY h
  rw[iA]
  simp only[cU hk',if_true,bE h,oJ,bJ,bQ h (by unfold Few; omega)]
  refine T.ite (λ_=>T.ret (by simp)) (λ_=>T.ite (λ_=>T.ret (by simp)) (λ_=>?_))
  refine T.bind (dS (by simp; omega)) (λv hv'=>?_)
  subst hv'
  exact An6 hl r (k+1) _ (aX h) (by simp[ho]) (by omega)
theorem Bf2 {s:Arr} (hv:Val 0 s):T (qU s) (λr=>r.2=0->∀x∈r.1,x<=16384):=by
 unfold qU
 have hle:=hv.i.sized.hi
 refine T.ite (λ_=>T.ret (λh=>by simp at h)) (λ_=>?_)
 refine T.bind (T.val (by unfold mkcap; rw[if_pos (by omega)]) (Q:=Any) trivial) (λ_ _=>?_)
 refine T.bind (An6 (by omega) s.cells 0 [] rfl rfl (by omega)) (λv hv'=>?_)
 match v,hv' with
 |.error r,h=>exact T.ret (λh'=>absurd h' h)
 |.ok l,h=>
  have h:l.length=s.cells.length:=h
  refine T.ite (λ_=>T.ret (λh=>by simp at h)) (λh8=>?_)
  have h8:l.length<=8:=by simp at h8; omega
  refine T.bind (dS (by simp; omega)) (λl1 hl1=>?_)
  subst hl1
  refine T.bind (Bj0 (by unfold Few; simp; omega) (by simp)) (λm hm=>?_)
  refine T.ite (λ_=>T.ret (λh=>by simp at h)) (λh'=>?_)
  have h':m<=16384:=by simpa using h'
  exact T.ret λ_ x hx=>by have:=hm x (by simp[hx]); omega
theorem BgT {x n:Int} (hx:0<=x) (hn:0<n):0<=x.tmod n/\x.tmod n<n:=⟨Int.tmod_nonneg _ hx,Int.tmod_lt_of_pos _ hn⟩
theorem AjF {s a:Arr} {sh:List Int} {n:Int} (hn:n<=16384) (hne:a.cells.length≠0):∀(d:Nat) (x:Int) (out:List aA),0<=x->x+d=n->(out.length:Int)=x->(∀c∈out,c∈a.cells) ->
  T (gF (s,a,sh,n,x,out)) (λr=>(r.length:Int)=n/\∀c∈r,c∈a.cells)
 |0,x,out,h0,hd,hl,hc=>by
  rw[gF]
  exact T.ite (λh'=>by simp at h'; omega) (λ_=>T.ret ⟨by omega,hc⟩)
 |d+1,x,out,h0,hd,hl,hc=>by
  rw[gF]
  refine T.ite (λ_=>?_) (λh'=>by simp at h'; omega)
  have hm:=BgT (n:=(a.cells.length:Int)) h0 (by omega)
  refine T.bind (T.val (by unfold irem; rw[if_neg (by omega)]) (Q:=λv=>v=x.tmod a.cells.length) rfl) (λq hq=>?_)
  subst hq
  refine T.bind (T.lget hm.1 hm.2 (Q:=λv=>v∈a.cells) λv h=>List.mem_of_getElem? h) (λc hcm=>?_)
  refine T.bind (dS (by simp; omega)) (λv hv'=>?_)
  subst hv'
  rw[Ae6 h0 (by omega)]
  refine AjF hn hne d (x+1) _ (by omega) (by omega) (by simp; omega) ?_
  intro y hy
  rcases List.mem_append.1 hy with hy|hy
  ·exact hc y hy
  simp only[List.mem_singleton] at hy; subst hy; exact hcm
theorem BaY {s a:Arr} {m:Nat} (hm:Cw m a.cells):T (pH s a) (Res m):=by
 unfold pH
 refine T.bind (R:=λv=>match v with|.error r=>r.2≠0|.ok _=>Val 0 s/\Val 0 a) ?_ (λv hv=>?_)
 ·rw[gE]
  rw[if_pos (by simp)]
  refine T.bind (T.val (v:=s) rfl (Q:=λv=>v=s) rfl) (λy hy=>?_)
  subst hy
  refine T.bind (T.val (qL y) (Q:=λv=>v=Af3 y 0) rfl) (λe he=>?_)
  subst he
  refine T.ite (λhe=>T.ret (fM he)) (λhe1=>?_)
  rw[show w64 ((0:Int)+1)=1 from by rw[aG (by omega) (by omega)]; rfl]
  rw[gE]
  rw[if_pos (by simp)]
  refine T.bind (T.val (v:=a) rfl (Q:=λv=>v=a) rfl) (λz hz=>?_)
  subst hz
  refine T.bind (T.val (qL z) (Q:=λv=>v=Af3 z 0) rfl) (λe he=>?_)
  subst he
  refine T.ite (λhe=>T.ret (fM he)) (λhe2=>?_)
  rw[show w64 ((1:Int)+1)=2 from by rw[aG (by omega) (by omega)]; rfl]
  rw[gE]
  rw[if_neg (by simp)]
  exact T.ret ⟨dQ he1,dQ he2⟩
 match v,hv with
 |.error r,h=>exact T.ret λh'=>absurd h' h
 |.ok _,⟨hs,ha⟩=>
  refine T.bind (Bf2 hs) (λw hw=>?_)
  obtain⟨sh,e⟩:=w
  refine T.ite (λhe=>T.ret (Res.err (fM he))) (λhe=>?_)
  have hdm:=hw (dQ he)
  refine T.bind (T.val (zN sh) (Q:=λv=>v=kX sh) rfl) (λz hz=>?_)
  obtain⟨n,e2⟩:=z
  refine T.ite (λh=>T.ret (Res.err (fM h))) (λh=>?_)
  have hS:mG sh n:=by
   have h':e2=0:=dQ h
   have:=uE (s:=sh) (by rw[←hz]; exact h')
   rw[←hz] at this; exact this
  have fin:∀cs:List aA,(cs.length:Int)=n->(∀c∈cs,c∈a.cells)->Val 0 (Arr.mk sh cs)/\Cw m (Arr.mk sh cs).cells:=λcs h1 h2=>frv ha hm (by rw[h1]; exact hS) hdm λc hc=>.inl (h2 c hc)
  have l0:=hS.lo
  refine T.ite (λhn=>?_) (λhn=>?_)
  ·refine T.ite (λ_=>T.ret (Res.err (by omega))) (λhne=>?_)
   refine T.bind (AjF hS.hi (by
     have:(a.cells.length:Int)≠0:=by simpa using hne
     omega) n.toNat 0 [] (by omega) (by omega) (by simp) (by simp)) (λr hr=>?_)
   have hf:=fin r hr.1 hr.2
   exact T.bind (T.val (sM _ 0 hf.1) (Q:=λv=>v=Arr.mk sh r) rfl) (λv hv'=>by subst hv'; exact T.ret λ_=>hf)
  have hn:n=0:=by
   have:n<=0:=by simpa using hn
   omega
  rw[lU]
  rw[if_neg (by simp[hn])]
  refine T.bind (T.ret (Q:=λv=>v=[]) rfl) (λr hr=>?_)
  subst hr
  have hf:=fin [] (by simp[hn]) (by simp)
  exact T.bind (T.val (sM _ 0 hf.1) (Q:=λv=>v=Arr.mk sh []) rfl) (λv hv'=>by subst hv'; exact T.ret λ_=>hf)
theorem AeA {a b:Int}:T (p_arr_order_int a b) (λo=>o=0->a=b):=by
 unfold p_arr_order_int
 refine T.ite (λ_=>T.ret (by omega)) (λh1=>T.ite (λ_=>T.ret (by omega)) (λh2=>T.ret λ_=>?_))
 have h1:b<=a:=by simpa using h1
 have h2:a<=b:=by simpa using h2
 omega
theorem Bc5 {a b:Int}:T (oG a b) Any:=by
 unfold oG
 exact T.ite (λ_=>T.any) (λ_=>T.ite (λ_=>T.any) (λ_=>T.any))
theorem Ar9 {c e:aA} (h:∀x∈c.box,∀y,T (xP (x,y)) Any):T (mV (c,e)) Any:=by
 rw[mV]
 refine T.bind AeA (λo _=>?_)
 refine T.ite (λ_=>T.any) (λ_=>?_)
 refine T.bind Bc5 (λo1 _=>?_)
 refine T.ite (λ_=>T.ite (λ_=>T.bind AeA λ_ _=>T.any) (λ_=>T.any)) (λ_=>?_)
 refine T.ite (λ_=>T.ite (λ_=>T.bind AeA λ_ _=>T.any) (λ_=>T.any)) (λh1=>?_)
 refine T.ite (λ_=>T.ite (λ_=>T.bind AeA λ_ _=>T.any) (λ_=>T.any)) (λh2=>?_)
 cases hx:c.box with
 |nil=>rw[hx] at h1; simp at h1
 |cons x r=>
  cases hy:e.box with
  |nil=>rw[hy] at h2; simp at h2
  |cons y s=>
   refine T.bind (jM (Q:=λv=>v=x) rfl) (λv hv=>?_)
   refine T.bind (jM (Q:=λv=>v=y) rfl) (λw hw=>?_)
   subst hv
   exact T.bind (h v (by rw[hx]; simp) w) (λ_ _=>T.any)
theorem AqT {a b:Arr} (hr:a.shape.length<=8) (hb:b.shape.length=a.shape.length):∀(d:Nat) (k:Nat),k+d=a.shape.length->T (dJ ((a.shape.length:Int),a,b,(k:Int))) Any
 |0,k,h=>by
  rw[dJ]
  exact T.ite (λh'=>by simp at h'; omega) (λ_=>T.any)
 |d+1,k,h=>by
  rw[dJ]
  refine T.ite (λ_=>?_) (λ_=>T.any)
  refine T.bind (R:=Any) ?_ (λo _=>T.ite (λ_=>T.any) (λ_=>?_))
  ·unfold Ac5
   refine T.bind (T.lget (Q:=Any) (by omega) (by omega) λ_ _=>trivial) (λ_ _=>?_)
   refine T.bind (T.lget (Q:=Any) (by omega) (by omega) λ_ _=>trivial) (λ_ _=>?_)
   exact T.bind AeA (λ_ _=>T.any)
  rw[aG (by omega) (by omega)]
  exact AqT hr hb d (k+1) (by omega)
theorem AqU {a b:Arr} {n:Nat} (hn:n<=a.cells.length) (hn2:n<=b.cells.length) (hl:a.cells.length<=16384) (hc:∀c∈a.cells,∀e,T (mV (c,e)) Any):∀(d:Nat) (k:Nat),k+d=n->T (dK ((n:Int),a,b,(k:Int))) Any
 |0,k,h=>by
  rw[dK]
  exact T.ite (λh'=>by simp at h'; omega) (λ_=>T.any)
 |d+1,k,h=>by
  rw[dK]
  refine T.ite (λ_=>?_) (λ_=>T.any)
  refine T.bind (R:=Any) ?_ (λo _=>T.ite (λ_=>T.any) (λ_=>?_))
  ·rw[Ac6]
   refine T.bind (T.lget (Q:=λv=>v∈a.cells) (by omega) (by omega) λ_ h=>List.mem_of_getElem? h) (λv hv=>?_)
   refine T.bind (T.lget (Q:=Any) (by omega) (by omega) λ_ _=>trivial) (λw _=>?_)
   exact T.bind (hc v hv w) (λ_ _=>T.any)
  rw[aG (by omega) (by omega)]
  exact AqU hn hn2 hl hc d (k+1) (by omega)
theorem BiX (a:Arr):∀d,Val d a->∀b,T (xP (a,b)) Any:=by
 refine Arr.ind (P:=λa=>∀d,Val d a->∀b,T (xP (a,b)) Any) ?_ a
 intro sh cs ih d hv b
 have hz:=hv.i.sized
 have hr:=hz.rank
 have hl:(Arr.mk sh cs).cells.length<=16384:=by have:=hz.hi; omega
 have hc:∀c∈cs,∀e,T (mV (c,e)) Any:=λc hm e=>Ar9 λx hx=>by
  rcases rP (hv.i.cells c hm) with ⟨_,_,_,z,hb,hvz⟩|⟨hb,_⟩
  ·rw[hb,List.mem_singleton] at hx
   subst hx
   exact ih c hm x (by rw[hb]; simp) _ hvz
  rw[hb] at hx; simp at hx
 rw[xP]
 refine T.bind AeA (λo ho=>T.ite (λ_=>T.any) (λh=>?_))
 have hs:=ho (dQ h)
 refine T.bind (R:=Any) ?_ (λo1 _=>T.ite (λ_=>T.any) (λ_=>?_))
 ·unfold p_arr_Cmp_1__arr_Cmp_2
  refine T.bind (AqT hr (by omega) (Arr.mk sh cs).shape.length 0 (by omega)) (λv _=>?_)
  match v with
  |.error _=>exact T.any
  |.ok _=>exact T.any
 refine T.bind (R:=Any) ?_ (λo1 _=>T.ite (λ_=>T.any) (λ_=>T.bind AeA λ_ _=>T.any))
 rw[p_arr_Cmp_1__arr_Cmp_3]
 rw[show (if (b.cells.length:Int)<((Arr.mk sh cs).cells.length:Int) then (b.cells.length:Int) else ((Arr.mk sh cs).cells.length:Int))=((min b.cells.length (Arr.mk sh cs).cells.length:Nat):Int) from by split<;>omega]
 refine T.bind (AqU (by omega) (by omega) hl hc (min b.cells.length (Arr.mk sh cs).cells.length) 0 (by omega)) (λv _=>?_)
 match v with
 |.error _=>exact T.any
 |.ok _=>exact T.any
def BiY (c:aA):Prop:=∀e,T (mV (c,e)) Any
theorem Bj9 {d:Int} {c:aA} (h:AcZ c d=0):BiY c:=λe=>Ar9 λx hx=>by
 rcases rP h with ⟨_,_,_,z,hb,hvz⟩|⟨hb,_⟩
 ·rw[hb,List.mem_singleton] at hx
  subst hx
  exact BiX x _ hvz
 rw[hb] at hx; simp at hx
structure An8 (r:List aA):Prop where
 len:r.length<=16384
 all:∀c∈r,BiY c
theorem AcX {s t:List aA} (hs:An8 s):∀(d:Nat) (k:Nat),k+d=s.length->T (bU (s,t,(k:Int))) Any
 |0,k,h=>by
  rw[bU]
  exact T.ite (λh'=>by simp at h'; omega) (λ_=>T.any)
 |d+1,k,h=>by
  have:=hs.len
  rw[bU]
  refine T.ite (λ_=>?_) (λ_=>T.any)
  refine T.bind (T.lget (Q:=λv=>v∈s) (by omega) (by omega) λ_ h=>List.mem_of_getElem? h) (λv hv=>?_)
  refine T.ite (λ_=>T.any) (λh2=>?_)
  have h2:(k:Int)<t.length:=by simpa using h2
  refine T.bind (T.lget (Q:=Any) (by omega) (by omega) λ_ _=>trivial) (λw _=>?_)
  refine T.bind (hs.all v hv w) (λo _=>T.ite (λ_=>T.any) (λ_=>?_))
  rw[aG (by omega) (by omega)]
  exact AcX hs d (k+1) (by omega)
theorem AhP {s t:List aA} (hs:An8 s):T (cF s t) Any:=by
 unfold cF
 refine T.bind (AcX hs s.length 0 (by omega)) (λv _=>?_)
 match v with
 |.error _=>exact T.any
 |.ok _=>exact T.ite (λ_=>T.any) (λ_=>T.any)
theorem AkB {i k:Int} {rows:List (List aA)} {down:Bool} (hr:∀r∈rows,An8 r) (h0:0<=i) (h1:i<rows.length) (h2:0<=k) (h3:k<rows.length):T (kR i k rows down) Any:=by
 unfold kR
 refine T.bind (T.lget (Q:=λv=>v∈rows) h0 h1 λ_ h=>List.mem_of_getElem? h) (λv hv=>?_)
 refine T.bind (T.lget (Q:=Any) h2 h3 λ_ _=>trivial) (λw _=>?_)
 exact T.bind (AhP (hr v hv)) (λ_ _=>T.ite (λ_=>T.any) (λ_=>T.any))
structure Dt (n R:Nat) (l:List Int):Prop where
 len:l.length=n
 all:∀v∈l,0<=v/\v<R
section
variable {n R:Nat} {l:List Int}
theorem oX {x:Int} (h0:0<=x) (h1:x<n):T (aidx x n) (λj=>(j:Int)=x/\j<n):=⟨_,uF h0 (by omega),by omega,by omega⟩
theorem Dt.get (h:Dt n R l) {j:Nat} (hj:j<n):T (pV l j) (λv=>0<=v/\v<R):=by
 have hj':j<l.length:=by rw[h.len]; exact hj
 exact⟨l[j],by unfold pV; simp[hj'],h.all _ (List.getElem_mem hj')⟩
theorem Dt.set (h:Dt n R l) {j:Nat} (hj:j<n) {v:Int} (hv:0<=v/\v<R):T (aset l j v) (Dt n R):=by
 refine⟨l.set j v,by unfold aset; rw[if_pos (by rw[h.len]; exact hj)],by simp[h.len],?_⟩
 intro w hw
 rcases List.mem_or_eq_of_mem_set hw with hw|rfl
 ·exact h.all w hw
 exact hv
end
theorem AkD {x:Int} (h0:0<=x) (h1:x<4611686018427387904):w64 (Int.fdiv (IntKind.u64.wrap (w64 x)) (2 ^ 1))=x / 2:=by
 rw[aG (x:=x) (by omega) (by omega)]
 have:IntKind.u64.wrap x=x:=by unfold IntKind.wrap; simp[IntKind.bits,IntKind.signed]; omega
 rw[this,Int.fdiv_eq_ediv_of_nonneg _ (by omega)]
 exact aG (by omega) (by omega)
section
variable {n:Nat} {rows:List (List aA)} {down:Bool} (hn:n<=16384) (hr:∀r∈rows,An8 r)
include hn hr
theorem AwH {a b i:Int} (ha:0<=a):∀(d:Nat) (j:Int) (l:List Int),j-a=d->j<n->Dt n rows.length l->T (aV (n,a,b,rows,down,i,j,l)) (Dt n rows.length)
 |0,j,l,h,hj,hl=>by
  rw[aV]
  exact T.ite (λh'=>by simp at h'; omega) (λ_=>T.ret hl)
 |d+1,j,l,h,hj,hl=>by
  rw[aV]
  rw[aG (x:=j-1) (by omega) (by omega)]
  refine T.ite (λ_=>?_) (λ_=>T.ret hl)
  refine T.bind (oX (by omega) hj) (λj1 h1=>T.bind (hl.get h1.2) (λy hy=>?_))
  refine T.bind (oX (by omega) (by omega)) (λj2 h2=>T.bind (hl.get h2.2) (λy1 hy1=>?_))
  refine T.bind (AkB hr hy.1 hy.2 hy1.1 hy1.2) (λx _=>T.ite (λ_=>?_) (λ_=>T.ret hl))
  refine T.bind (oX (by omega) (by omega)) (λj3 h3=>T.bind (hl.get h3.2) (λy2 hy2=>?_))
  refine T.bind (oX (by omega) hj) (λj4 h4=>T.bind (hl.get h4.2) (λy3 hy3=>?_))
  refine T.bind (oX (by omega) hj) (λj5 h5=>T.bind (hl.set h5.2 hy2) (λl3 hl3=>?_))
  refine T.bind (oX (by omega) (by omega)) (λj6 h6=>T.bind (hl3.set h6.2 hy3) (λl4 hl4=>?_))
  exact AwH ha d (j-1) l4 (by omega) (by omega) hl4
theorem AwG {a b:Int} (ha:0<=a) (hb:b<=n):∀(d:Nat) (i:Int) (l:List Int),a<=i->i+d=max b i->Dt n rows.length l->T (aU (n,a,b,rows,down,i,l)) (Dt n rows.length)
 |0,i,l,h0,h,hl=>by
  rw[aU]
  exact T.ite (λh'=>by simp at h'; omega) (λ_=>T.ret hl)
 |d+1,i,l,h0,h,hl=>by
  rw[aU]
  refine T.ite (λ_=>?_) (λ_=>T.ret hl)
  refine T.bind (AwH hn hr ha (i-a).toNat i l (by omega) (by omega) hl) (λl2 hl2=>?_)
  rw[aG (x:=i+1) (by omega) (by omega)]
  exact AwG ha hb d (i+1) l2 (by omega) (by omega) hl2
theorem BhB {a b:Int} {l:List Int} (ha:0<=a) (han:a<=n) (hb:b<=n) (hl:Dt n rows.length l):T (bN n a b l rows down) (Dt n rows.length):=by
 unfold bN
 rw[aG (x:=a+1) (by omega) (by omega)]
 exact T.bind (AwG hn hr ha hb (max b (a+1)-(a+1)).toNat (a+1) l (by omega) (by omega) hl) (λv hv=>T.ret hv)
omit hr in
theorem AsR {a b m:Int} (ha:0<=a) (hb:0<=b) (ha2:a+m<=n) (hb2:b+m<=n):∀(d:Nat) (i:Int) (l:List Int),0<=i->i+d=max m i->Dt n rows.length l->T (bB (n,a,b,m,rows,down,i,l)) (Dt n rows.length)
 |0,i,l,h0,h,hl=>by
  rw[bB]
  exact T.ite (λh'=>by simp at h'; omega) (λ_=>T.ret hl)
 |d+1,i,l,h0,h,hl=>by
  rw[bB]
  refine T.ite (λ_=>?_) (λ_=>T.ret hl)
  rw[aG (x:=b+i) (by omega) (by omega),aG (x:=a+i) (by omega) (by omega),aG (x:=i+1) (by omega) (by omega)]
  refine T.bind (oX (by omega) (by omega)) (λj1 h1=>T.bind (hl.get h1.2) (λy hy=>?_))
  refine T.bind (oX (by omega) (by omega)) (λj2 h2=>T.bind (hl.get h2.2) (λy1 hy1=>?_))
  refine T.bind (oX (by omega) (by omega)) (λj5 h5=>T.bind (hl.set h5.2 hy) (λl3 hl3=>?_))
  refine T.bind (oX (by omega) (by omega)) (λj6 h6=>T.bind (hl3.set h6.2 hy1) (λl4 hl4=>?_))
  exact AsR ha hb ha2 hb2 d (i+1) l4 (by omega) (by omega) hl4
omit hr in
theorem AzD {a b m:Int} {l:List Int} (ha:0<=a) (hb:0<=b) (ha2:a+m<=n) (hb2:b+m<=n) (hl:Dt n rows.length l):T (bK n a b m l rows down) (Dt n rows.length):=by
 unfold bK
 exact T.bind (AsR hn ha hb ha2 hb2 (max m 0).toNat 0 l (by omega) (by omega) hl) (λv hv=>T.ret hv)
omit hr in
theorem ApT {m:Int}:∀(d:Nat) (i j:Int) (l:List Int),i+j<=d->1<=i->1<=j->i<=m->m+j<=n->Dt n rows.length l ->
  T (bF (n,m,rows,down,i,l,j)) (λr=>1<=r.1/\r.1<=m/\m+r.1<=n/\Dt n rows.length r.2)
 |0,i,j,l,h,h1,h2,h3,h4,hl=>by omega
 |d+1,i,j,l,h,h1,h2,h3,h4,hl=>by
  rw[bF]
  rw[aG (x:=m-i) (by omega) (by omega),aG (x:=m+j) (by omega) (by omega),aG (x:=m+j-i) (by omega) (by omega),aG (x:=i-j) (by omega) (by omega),aG (x:=j-i) (by omega) (by omega)]
  refine T.ite (λhne=>?_) (λhe=>?_)
  ·have hne:i≠j:=fM hne
   refine T.ite (λhgt=>?_) (λhgt=>?_)
   ·have hgt:i>j:=by simpa using hgt
    refine T.bind (AzD hn (by omega) (by omega) (by omega) (by omega) hl) (λl2 hl2=>?_)
    exact ApT d (i-j) j l2 (by omega) (by omega) h2 (by omega) h4 hl2
   have hgt:i<=j:=by simpa using hgt
   refine T.bind (AzD hn (by omega) (by omega) (by omega) (by omega) hl) (λl2 hl2=>?_)
   exact ApT d i (j-i) l2 (by omega) h1 (by omega) h3 (by omega) hl2
  have he:i=j:=dQ he
  exact T.ret ⟨h1,h3,by simp only; omega,hl⟩
omit hr in
theorem BjN {a m b:Int} {l:List Int} (ha:0<=a) (h1:a<m) (h2:m<b) (hb:b<=n) (hl:Dt n rows.length l):T (cI n a m b l rows down) (Dt n rows.length):=by
 unfold cI
 rw[aG (x:=m-a) (by omega) (by omega),aG (x:=b-m) (by omega) (by omega)]
 refine T.bind (ApT hn (m-a+(b-m)).toNat (m-a) (b-m) l (by omega) (by omega) (by omega) (by omega) (by omega) hl) (λr hr=>?_)
 obtain⟨i,l2⟩:=r
 obtain⟨g1,g2,g3,g4⟩:=hr
 simp only at g1 g2 g3 g4 ⊢
 rw[aG (x:=m-i) (by omega) (by omega)]
 exact T.bind (AzD hn (by omega) (by omega) (by omega) (by omega) g4) (λv hv=>T.ret hv)
theorem AuH {a:Int} {l:List Int} (ha:0<=a) (han:a<n) (hl:Dt n rows.length l):∀(d:Nat) (i j:Int),j-i<=d->0<=i->i<=j->j<=n ->
  T (aK (n,a,l,rows,down,i,j)) (λr=>i<=r/\r<=j)
 |0,i,j,h,h0,h1,h2=>by
  rw[aK]
  exact T.ite (λh'=>by simp at h'; omega) (λ_=>T.ret ⟨by omega,by omega⟩)
 |d+1,i,j,h,h0,h1,h2=>by
  rw[aK]
  refine T.ite (λh'=>?_) (λ_=>T.ret ⟨by omega,by omega⟩)
  have h':i<j:=by simpa using h'
  rw[AkD (x:=i+j) (by omega) (by omega),aG (x:=(i+j) / 2+1) (by omega) (by omega)]
  refine T.bind (oX (by omega) (by omega)) (λj1 h1=>T.bind (hl.get h1.2) (λy hy=>?_))
  refine T.bind (oX (by omega) (by omega)) (λj2 h2=>T.bind (hl.get h2.2) (λy1 hy1=>?_))
  refine T.bind (AkB hr hy.1 hy.2 hy1.1 hy1.2) (λx _=>T.ite (λ_=>?_) (λ_=>?_))
  ·exact T.imp (AuH ha han hl d _ _ (by omega) (by omega) (by omega) (by omega)) (λr hr=>⟨by omega,by omega⟩)
  exact T.imp (AuH ha han hl d _ _ (by omega) (by omega) (by omega) (by omega)) (λr hr=>⟨by omega,by omega⟩)
theorem AuI {m:Int} {l:List Int} (ha:0<=m) (han:m<n) (hl:Dt n rows.length l):∀(d:Nat) (i j:Int),j-i<=d->0<=i->i<=j->j<=n ->
  T (aL (n,m,l,rows,down,i,j)) (λr=>i<=r/\r<=j)
 |0,i,j,h,h0,h1,h2=>by
  rw[aL]
  exact T.ite (λh'=>by simp at h'; omega) (λ_=>T.ret ⟨by omega,by omega⟩)
 |d+1,i,j,h,h0,h1,h2=>by
  rw[aL]
  refine T.ite (λh'=>?_) (λ_=>T.ret ⟨by omega,by omega⟩)
  have h':i<j:=by simpa using h'
  rw[AkD (x:=i+j) (by omega) (by omega),aG (x:=(i+j) / 2+1) (by omega) (by omega)]
  refine T.bind (oX (by omega) (by omega)) (λj1 h1=>T.bind (hl.get h1.2) (λy hy=>?_))
  refine T.bind (oX (by omega) (by omega)) (λj2 h2=>T.bind (hl.get h2.2) (λy1 hy1=>?_))
  refine T.bind (AkB hr hy.1 hy.2 hy1.1 hy1.2) (λx _=>T.ite (λ_=>?_) (λ_=>?_))
  ·exact T.imp (AuI ha han hl d _ _ (by omega) (by omega) (by omega) (by omega)) (λr hr=>⟨by omega,by omega⟩)
  exact T.imp (AuI ha han hl d _ _ (by omega) (by omega) (by omega) (by omega)) (λr hr=>⟨by omega,by omega⟩)
theorem AuJ {a m b s0 r0:Int} {l:List Int} (ha:0<=a) (hm:0<=m) (hmn:m<=n) (hb:0<=b) (hbn:b<=n) (han:a<=n) (hl:Dt n rows.length l) (h00:0<=s0) (hr0:r0<=n) (hlo:r0<=(a+b) / 2+m) (hhi:(a+b) / 2+m-s0<=n):∀(d:Nat) (i j:Int),j-i<=d->s0<=i->i<=j->j<=r0 ->
  T (aM (n,a,m,b,l,rows,down,i,j)) (λr=>i<=r/\r<=j)
 |0,i,j,h,h0,h1,h2=>by
  rw[aM]
  exact T.ite (λh'=>by simp at h'; omega) (λ_=>T.ret ⟨by omega,by omega⟩)
 |d+1,i,j,h,h0,h1,h2=>by
  rw[aM]
  refine T.ite (λh'=>?_) (λ_=>T.ret ⟨by omega,by omega⟩)
  have h':i<j:=by simpa using h'
  rw[AkD (x:=i+j) (by omega) (by omega),AkD (x:=a+b) (by omega) (by omega),aG (x:=(i+j) / 2+1) (by omega) (by omega),aG (x:=(a+b) / 2+m) (by omega) (by omega),aG (x:=(a+b) / 2+m-1) (by omega) (by omega),aG (x:=(a+b) / 2+m-1-(i+j) / 2) (by omega) (by omega)]
  refine T.bind (oX (by omega) (by omega)) (λj1 h1=>T.bind (hl.get h1.2) (λy hy=>?_))
  refine T.bind (oX (by omega) (by omega)) (λj2 h2=>T.bind (hl.get h2.2) (λy1 hy1=>?_))
  refine T.bind (AkB hr hy.1 hy.2 hy1.1 hy1.2) (λx _=>T.ite (λ_=>?_) (λ_=>?_))
  ·exact T.imp (AuJ ha hm hmn hb hbn han hl h00 hr0 hlo hhi d _ _ (by omega) (by omega) (by omega) (by omega)) (λr hr=>⟨by omega,by omega⟩)
  exact T.imp (AuJ ha hm hmn hb hbn han hl h00 hr0 hlo hhi d _ _ (by omega) (by omega) (by omega) (by omega)) (λr hr=>⟨by omega,by omega⟩)
omit hr in
theorem BaN {i:Int} (hi0:0<=i) (hi:i<=n):∀(d:Nat) (k:Int) (l:List Int),0<=k->k+d=max (i-1) k->k<=n->Dt n rows.length l->T (aR (n,rows,down,i,k,l)) (Dt n rows.length)
 |0,k,l,h0,h,hk,hl=>by
  rw[aR]
  refine T.ite (λh'=>?_) (λ_=>T.ret hl)
  rw[aG (x:=i-1) (by omega) (by omega)] at h'; simp at h'; omega
 |d+1,k,l,h0,h,hk,hl=>by
  rw[aR]
  refine T.ite (λ_=>?_) (λ_=>T.ret hl)
  rw[aG (x:=k+1) (by omega) (by omega)]
  refine T.bind (oX (by omega) (by omega)) (λj1 h1=>T.bind (hl.get h1.2) (λy hy=>?_))
  refine T.bind (oX (by omega) (by omega)) (λj2 h2=>T.bind (hl.get h2.2) (λy1 hy1=>?_))
  refine T.bind (oX (by omega) (by omega)) (λj5 h5=>T.bind (hl.set h5.2 hy) (λl3 hl3=>?_))
  refine T.bind (oX (by omega) (by omega)) (λj6 h6=>T.bind (hl3.set h6.2 hy1) (λl4 hl4=>?_))
  exact BaN hi0 hi d (k+1) l4 (by omega) (by omega) (by omega) hl4
omit hr in
theorem BaO {i:Int} (hi:0<=i):∀(d:Nat) (k:Int) (l:List Int),i+d=k->k<n->Dt n rows.length l->T (aS (n,rows,down,i,k,l)) (Dt n rows.length)
 |0,k,l,h,hk,hl=>by
  rw[aS]
  exact T.ite (λh'=>by simp at h'; omega) (λ_=>T.ret hl)
 |d+1,k,l,h,hk,hl=>by
  rw[aS]
  refine T.ite (λ_=>?_) (λ_=>T.ret hl)
  rw[aG (x:=k-1) (by omega) (by omega)]
  refine T.bind (oX (by omega) (by omega)) (λj1 h1=>T.bind (hl.get h1.2) (λy hy=>?_))
  refine T.bind (oX (by omega) (by omega)) (λj2 h2=>T.bind (hl.get h2.2) (λy1 hy1=>?_))
  refine T.bind (oX (by omega) (by omega)) (λj5 h5=>T.bind (hl.set h5.2 hy) (λl3 hl3=>?_))
  refine T.bind (oX (by omega) (by omega)) (λj6 h6=>T.bind (hl3.set h6.2 hy1) (λl4 hl4=>?_))
  exact BaO hi d (k-1) l4 (by omega) (by omega) hl4
end
end Go.AM.Seat
namespace Go.AM.Seat
open Go Go.AM
section
variable {n:Nat} {rows:List (List aA)} {down:Bool} (hn:n<=16384) (hr:∀r∈rows,An8 r)
include hn hr
theorem BiR:∀(d:Nat) (a m b:Int) (l:List Int),b-a<=d->0<=a->a<m->m<b->b<=n->Dt n rows.length l->T (aC (n,a,m,b,l,rows,down)) (Dt n rows.length)
 |0,a,m,b,l,h,ha,h1,h2,hb,hl=>by omega
 |d+1,a,m,b,l,h,ha,h1,h2,hb,hl=>by
  have IH:=BiR d
  rw[aC]
  rw[aG (x:=m-a) (by omega) (by omega),aG (x:=b-m) (by omega) (by omega),AkD (x:=a+b) (by omega) (by omega),aG (x:=(a+b) / 2+m) (by omega) (by omega),aG (x:=(a+b) / 2+m-b) (by omega) (by omega)]
  refine T.ite (λ_=>?_) (λe1=>?_)
  ·refine T.bind (AuH hn hr ha (by omega) hl (b-m).toNat m b (by omega) (by omega) (by omega) hb) (λi hi=>?_)
   exact T.bind (BaN hn (by omega) (by omega) (max (i-1) a-a).toNat a l ha (by omega) (by omega) hl) (λv hv=>T.ret hv)
  refine T.ite (λ_=>?_) (λe2=>?_)
  ·refine T.bind (AuI hn hr (by omega) (by omega) hl (m-a).toNat a m (by omega) (by omega) (by omega) (by omega)) (λi hi=>?_)
   exact T.bind (BaO hn (by omega) (m-i).toNat m l (by omega) (by omega) hl) (λv hv=>T.ret hv)
  have e1:m-a≠1:=by simpa using e1
  have e2:b-m≠1:=by simpa using e2
  obtain⟨mid,hmid⟩:∃mid,mid=(a+b) / 2:=⟨_,rfl⟩
  rw[←hmid]
  refine T.bind (R:=λr=>(mid<m/\r=(mid+m-b,mid))\/(m<=mid/\r=(a,m))) ?_ (λr hrr=>?_)
  ·exact T.ite (λh'=>T.ret (.inl ⟨by simpa using h',rfl⟩)) (λh'=>T.ret (.inr ⟨by simpa using h',rfl⟩))
  obtain⟨s0,r0⟩:=r
  simp only[pJ] at hrr ⊢
  refine T.bind (AuJ hn hr (a:=a) (m:=m) (b:=b) (s0:=s0) (r0:=r0) ha (by omega) (by omega) (by omega) hb (by omega) hl (by omega) (by omega) (by omega) (by omega) (r0-s0).toNat s0 r0 (by omega) (by omega) (by omega) (by omega)) (λst hst=>?_)
  rw[aG (x:=mid+m-st) (by omega) (by omega)]
  have tail:∀l',Dt n rows.length l'->T (if decide (mid<mid+m-st)=true then if decide (mid+m-st<b)=true then aC (n,mid,mid+m-st,b,l',rows,down)>>=λx=>some x else some l' else some l') (Dt n rows.length):=by
   intro l' hl'
   refine T.ite (λg1=>T.ite (λg2=>?_) (λ_=>T.ret hl')) (λ_=>T.ret hl')
   have g1:mid<mid+m-st:=by simpa using g1
   have g2:mid+m-st<b:=by simpa using g2
   exact T.bind (IH mid (mid+m-st) b l' (by omega) (by omega) (by omega) (by omega) hb hl') (λv hv=>T.ret hv)
  have head:∀l',Dt n rows.length l'->a<st->T (if decide (st<mid)=true then aC (n,a,st,mid,l',rows,down)>>=λx=>some x else some l') (Dt n rows.length):=by
   intro l' hl' g1
   refine T.ite (λg2=>?_) (λ_=>T.ret hl')
   have g2:st<mid:=by simpa using g2
   exact T.bind (IH a st mid l' (by omega) (by omega) (by omega) (by omega) (by omega) hl') (λv hv=>T.ret hv)
  have both:∀l',Dt n rows.length l'->T (if decide (a<st)=true then (if decide (st<mid)=true then aC (n,a,st,mid,l',rows,down)>>=λx=>some x else some l')>>=λl2=>if decide (mid<mid+m-st)=true then if decide (mid+m-st<b)=true then aC (n,mid,mid+m-st,b,l2,rows,down)>>=λx=>some x else some l2 else some l2
    else if decide (mid<mid+m-st)=true then if decide (mid+m-st<b)=true then aC (n,mid,mid+m-st,b,l',rows,down)>>=λx=>some x else some l' else some l') (Dt n rows.length):=by
   intro l' hl'
   exact T.ite (λg=>T.bind (head l' hl' (by simpa using g)) (λv hv=>tail v hv)) (λ_=>tail l' hl')
  refine T.ite (λg1=>?_) (λ_=>both l hl)
  have g1:st<m:=by simpa using g1
  refine T.bind (R:=Dt n rows.length) (T.ite (λg2=>?_) (λ_=>T.ret hl)) (λl7 hl7=>both l7 hl7)
  have g2:m<mid+m-st:=by simpa using g2
  exact T.bind (BjN hn (by omega) g1 g2 (by omega) hl) (λv hv=>T.ret hv)
theorem BaP:∀(d:Nat) (a:Int) (l:List Int),(n:Int)-a<=d->0<=a->a<=n->Dt n rows.length l->T (bG (n,(n:Int),rows,down,a,a+20,l)) (λr=>0<=r.1/\r.1<=n/\Dt n rows.length r.2)
 |0,a,l,h,h0,h1,hl=>by
  rw[bG]
  exact T.ite (λh'=>by simp at h'; omega) (λ_=>T.ret ⟨h0,h1,hl⟩)
 |d+1,a,l,h,h0,h1,hl=>by
  rw[bG]
  refine T.ite (λh'=>?_) (λ_=>T.ret ⟨h0,h1,hl⟩)
  have h':a+20<=n:=by simpa using h'
  refine T.bind (BhB hn hr h0 h1 h' hl) (λx hx=>?_)
  rw[aG (x:=a+20+20) (by omega) (by omega)]
  exact BaP d (a+20) x (by omega) (by omega) h' hx
theorem BaR {bs:Int} (hb:20<=bs) (hbs:bs<=16384):∀(d:Nat) (a:Int) (l:List Int),(n:Int)-a<=d->0<=a->a<=n->Dt n rows.length l->T (bI (n,(n:Int),rows,down,bs,a,a+2*bs,l)) (λr=>0<=r.1/\r.1<=n/\Dt n rows.length r.2)
 |0,a,l,h,h0,h1,hl=>by
  rw[bI]
  exact T.ite (λh'=>by simp at h'; omega) (λ_=>T.ret ⟨h0,h1,hl⟩)
 |d+1,a,l,h,h0,h1,hl=>by
  rw[bI]
  refine T.ite (λh'=>?_) (λ_=>T.ret ⟨h0,h1,hl⟩)
  have h':a+2*bs<=n:=by simpa using h'
  rw[aG (x:=a+bs) (by omega) (by omega),aG (x:=2*bs) (by omega) (by omega),aG (x:=a+2*bs+2*bs) (by omega) (by omega)]
  refine T.bind (BiR hn hr (2*bs).toNat a (a+bs) (a+2*bs) l (by omega) h0 (by omega) (by omega) h' hl) (λx hx=>?_)
  exact BaR hb hbs d (a+2*bs) x (by omega) (by omega) h' hx
theorem BaQ:∀(d:Nat) (bs:Int) (l:List Int),(n:Int)-bs<=d->20<=bs->Dt n rows.length l->bs<=32768->T (bH (n,(n:Int),rows,down,bs,l)) (Dt n rows.length)
 |0,bs,l,h,h0,hl,hh=>by
  rw[bH]
  exact T.ite (λh'=>by simp at h'; omega) (λ_=>T.ret hl)
 |d+1,bs,l,h,h0,hl,hh=>by
  rw[bH]
  refine T.ite (λh'=>?_) (λ_=>T.ret hl)
  have h':bs<n:=by simpa using h'
  rw[aG (x:=2*bs) (by omega) (by omega),aG (x:=bs*2) (by omega) (by omega)]
  have t:=BaR hn hr (down:=down) h0 (by omega) n 0 l (by omega) (by omega) (by omega) hl
  rw[Int.zero_add] at t
  refine T.bind t (λr hrr=>?_)
  obtain⟨a3,l5⟩:=r
  obtain⟨g1,g2,g3⟩:=hrr
  simp only at g1 g2 g3 ⊢
  rw[aG (x:=a3+bs) (by omega) (by omega)]
  refine T.bind (R:=Dt n rows.length) (T.ite (λg=>?_) (λ_=>T.ret g3)) (λl6 hl6=>BaQ d (bs*2) l6 (by omega) (by omega) hl6 (by omega))
  have g:a3+bs<n:=by simpa using g
  exact T.bind (BiR hn hr n a3 (a3+bs) n l5 (by omega) g1 (by omega) g (by omega) g3) (λv hv=>T.ret hv)
theorem BeU {l:List Int} (hl:Dt n rows.length l):T (p_slices_SortStableFunc_int__seek_grade_1 n l rows down) (Dt n rows.length):=by
 unfold p_slices_SortStableFunc_int__seek_grade_1 p_slices_stableCmpFunc_int__seek_grade_1
 refine T.bind ?_ (λv hv=>T.ret hv)
 refine T.bind (BaP hn hr n 0 l (by omega) (by omega) (by omega) hl) (λr hrr=>?_)
 obtain⟨a1,l2⟩:=r
 obtain⟨g1,g2,g3⟩:=hrr
 refine T.bind (BhB hn hr g1 g2 (by omega) g3) (λx hx=>?_)
 exact T.bind (BaQ hn hr n 20 x (by omega) (by omega) hx (by omega)) (λv hv=>T.ret hv)
end
end Go.AM.Seat
