/- Part of a proof about the given program: the abstract machine, the printed functions, the plain laws. -/
import Derived.Test.YtbillkiljpkdfaaGreatRunAgainA3
import Derived.ChangeSlices
import Derived.SizedLaws
import Derived.DataElems
import Derived.Laws.Entries
set_option linter.all false
set_option maxRecDepth 100000
set_option maxHeartbeats 4000000
namespace Go.AM.Seat
open Go Go.AM Go.Proofs
def mF (a:Arr×LI×Int×Int):Option (Int):=match a with
  |(b,l,n,x)=>
   if (decide (x<(List.length l:Int))) then
    lget l x>>=λd=>
    mF (b,l,(w64 (n*d)),(w64 (x+1)))
   else
    some n
 partial_fixpoint
def rF (a:Arr):Option (Int):=
 lfrom a.shape 1>>=λl=>
 (
  mF (a,l,1,0)
 : Option (Int))>>=λb=>
 some b
def nG (a:LI×Bool×Int):Option (Except (Int×Int) (Bool)):=match a with
  |(b,c,x)=>
   if (decide (x<(List.length b:Int))) then
    (
     lget b x>>=λd=>
     if (decide (d<0)) then
      some (.error (0,1))
     else
      if c then
       some (.ok true)
      else
       some (.ok (d==0))
    : Option (Except (Int×Int) (Bool)))>>=λf=>match f with
    |.error r=>some (.error r)
    |.ok e=>
     nG (b,e,(w64 (x+1)))
   else
    some (.ok c)
 partial_fixpoint
def nH (a:LI×Int×Int):Option (Except (Int×Int) (Int)):=match a with
  |(b,n,c)=>
   if (decide (c<(List.length b:Int))) then
    lget b c>>=λd=>
    idiv .i64 16384 n>>=λq=>
    if (decide (d>q)) then
     some (.error (0,12))
    else
     nH (b,(w64 (n*d)),(w64 (c+1)))
   else
    some (.ok n)
 partial_fixpoint
def kP (b:LI):Option (Int×Int):=
 if (decide ((List.length b:Int)>8)) then
  some (0,6)
 else
  (
   nG (b,false,0)
  : Option (Except (Int×Int) (Bool)))>>=λa=>match a with
  |.error r=>some r
  |.ok d=>
   if d then
    some (0,0)
   else
    (
     nH (b,1,0)
    : Option (Except (Int×Int) (Int)))>>=λa=>match a with
    |.error r=>some r
    |.ok c=>
     some (c,0)
def oD (a:Arr×Arr×Int):Option (Except (Arr×Int) (Unit)):=match a with
  |(l,b,x)=>
   if (decide (x<(List.length l.cells:Int))) then
    lget l.cells x>>=λy=>
    if (y.kind != 0) then
     some (.error ((Arr.mk [] []),5))
    else
     if (decide (y.n<0)) then
      some (.error ((Arr.mk [] []),8))
     else
      lget b.shape 0>>=λc=>
      if (decide (y.n>=c)) then
       some (.error ((Arr.mk [] []),8))
      else
       oD (l,b,(w64 (x+1)))
   else
    some (.ok ())
 partial_fixpoint
def lP (a:Arr×Arr×LI×Int×Int×(List aA)):Option (List aA):=match a with
  |(l,c,f,k,b,d)=>
   if (decide (b<(List.length l.cells:Int))) then
    lget l.cells b>>=λe=>
    Ag0 c.cells (w64 (e.n*k)) (w64 ((w64 (e.n+1))*k))>>=λg=>
    lapp d g>>=λh=>
    lP (l,c,f,k,(w64 (b+1)),h)
   else
    some d
 partial_fixpoint
def wP (l:Arr) (a:Arr):Option (Arr×Int):=
 if ((List.length a.shape:Int)==0) then
  some ((Arr.mk [] []),6)
 else
  if (decide ((w64 ((w64 ((List.length l.shape:Int)+(List.length a.shape:Int)))-1))>8)) then
   some ((Arr.mk [] []),6)
  else
   (
    oD (l,a,0)
   : Option (Except (Arr×Int) (Unit)))>>=λg=>match g with
   |.error r=>some r
   |.ok _=>
    lapp ([]:LI) l.shape>>=λc=>
    lfrom a.shape 1>>=λd=>
    lapp c d>>=λb=>
    kP b>>=λ(h,e)=>
    if (e != 0) then
     some ((Arr.mk [] []),e)
    else
     rF a>>=λk=>
     (
      lP (l,a,b,k,0,[])
     : Option (List aA))>>=λf=>
     some ((Arr.mk b f),0)
def iI (a:Arr):Option (Arr):=
 (
  if ((List.length a.shape:Int)==0) then
   some [1]
  else
   some a.shape
 : Option LI)>>=λb=>
 some (Arr.mk b a.cells)
def mG (a:Arr×Int×Int):Option (Except (LI×Int) (Unit)):=match a with
  |(m,n,x)=>
   if (decide (x<(List.length m.cells:Int))) then
    lget m.cells x>>=λy=>
    if (y.kind != 0) then
     some (.error ([],5))
    else
     if (decide (y.n<0)) then
      some (.error ([],5))
     else
      mG (m,n,(w64 (x+1)))
   else
    some (.ok ())
 partial_fixpoint
def mH (a:Arr×Int×Int×Int×LI):Option (Except (LI×Int) LI):=match a with
  |(m,n,e,b,g)=>
   if (decide (b<((Int.toNat n):Int))) then
    lget m.cells 0>>=λc=>
    (
     if ((List.length m.shape:Int)==1) then
      lget m.cells b>>=λd=>
      some (d.kind,d.n,d.box)
     else
      some (c.kind,c.n,c.box)
    : Option (Int×Int×(List Arr)))>>=λ(l,f,o)=>
    if (decide (f>(w64 (16384-e)))) then
     some (.error ([],12))
    else
     jO b (Int.toNat n)>>=λj=>
     oL g j f>>=λh=>
     jO b (Int.toNat n)>>=λi=>
     nM h i>>=λk=>
     mH (m,n,(w64 (e+k)),(w64 (b+1)),h)
   else
    some (.ok g)
 partial_fixpoint
def mI (a:Arr×Int×Int×Int×LI):Option (Except (LI×Int) LI):=match a with
  |(m,n,e,b,g)=>
   if (decide (b<((Int.toNat n):Int))) then
    lget m.cells 0>>=λc=>
    (
     if ((List.length m.shape:Int)==1) then
      lget m.cells b>>=λd=>
      some (d.kind,d.n,d.box)
     else
      some (c.kind,c.n,c.box)
    : Option (Int×Int×(List Arr)))>>=λ(l,f,o)=>
    if (decide (f>(w64 (16384-e)))) then
     some (.error ([],12))
    else
     jO b (Int.toNat n)>>=λi=>
     oL g i f>>=λh=>
     jO b (Int.toNat n)>>=λj=>
     nM h j>>=λk=>
     mI (m,n,(w64 (e+k)),(w64 (b+1)),h)
   else
    some (.ok g)
 partial_fixpoint
def xT (m:Arr) (n:Int):Option (LI×Int):=
 if (decide ((List.length m.shape:Int)>1)) then
  some ([],6)
 else
  (
   mG (m,n,0)
  : Option (Except (LI×Int) (Unit)))>>=λa=>match a with
  |.error r=>some r
  |.ok _=>
   if ((List.length m.shape:Int)==1) then
    if ((List.length m.cells:Int) != n) then
     some ([],7)
    else
     xP n 0>>=λl=>
     (
      mH (m,n,0,0,l)
     : Option (Except (LI×Int) LI))>>=λa=>match a with
     |.error r=>some r
     |.ok b=>
      wU (Int.toNat n) b>>=λc=>
      some (c,0)
   else
    xP n 0>>=λd=>
    (
     mI (m,n,0,0,d)
    : Option (Except (LI×Int) LI))>>=λa=>match a with
    |.error r=>some r
    |.ok e=>
     wU (Int.toNat n) e>>=λf=>
     some (f,0)
def iS (a:Arr×Arr×Int×LI×LI×Int×LI):Option LI:=match a with
  |(m,x,b,l,e,f,d)=>
   if (decide (f<(List.length l:Int))) then
    lget l f>>=λk=>
    jO b (List.length e)>>=λg=>
    nM d g>>=λi=>
    jO b (List.length e)>>=λh=>
    oL d h (w64 (i+k))>>=λc=>
    iS (m,x,b,l,e,(w64 (f+1)),c)
   else
    some d
 partial_fixpoint
def iT (a:Arr×Arr×LI×LI×LI×Int×Int):Option (Int):=match a with
  |(m,x,l,f,b,e,c)=>
   if (decide (c<(List.length b:Int))) then
    lget b c>>=λd=>
    iT (m,x,l,f,b,(w64 (e*d)),(w64 (c+1)))
   else
    some e
 partial_fixpoint
def iV (a:Arr×Arr×LI×LI×Int×Int×Int×Int×Int×(List aA)):Option (List aA):=match a with
  |(m,x,l,h,c,b,d,e,g,f)=>
   if (decide (g<e)) then
    Ag0 x.cells (w64 (b+(w64 (d*c)))) (w64 (b+(w64 ((w64 (d+1))*c))))>>=λi=>
    lapp f i>>=λj=>
    iV (m,x,l,h,c,b,d,e,(w64 (g+1)),j)
   else
    some f
 partial_fixpoint
def iU (a:Arr×Arr×LI×LI×Int×Int×Int×(List aA)):Option (List aA):=match a with
  |(m,x,l,d,f,c,b,e)=>
   if (decide (b<(List.length l:Int))) then
    lget l b>>=λg=>
    (
     iV (m,x,l,d,f,c,b,g,0,e)
    : Option (List aA))>>=λh=>
    iU (m,x,l,d,f,c,(w64 (b+1)),h)
   else
    some e
 partial_fixpoint
def gG (a:Arr×Arr×LI×LI×Int×Int×(List aA)):Option (List aA):=match a with
  |(m,x,l,d,c,b,e)=>
   if (decide (b<(List.length x.cells:Int))) then
    (
     iU (m,x,l,d,c,b,0,e)
    : Option (List aA))>>=λf=>
    gG (m,x,l,d,c,(w64 (b+(w64 ((List.length l:Int)*c)))),f)
   else
    some e
 partial_fixpoint
def rV (m:Arr) (f:Arr) (k:Bool):Option (Arr×Int):=
 iI f>>=λx=>
 (
  if k then
   some (w64 ((List.length x.shape:Int)-1))
  else
   some 0
 : Option (Int))>>=λa=>
 lget x.shape a>>=λy=>
 xT m y>>=λ(l,e)=>
 if (e != 0) then
  some ((Arr.mk [] []),e)
 else
  lapp ([]:LI) x.shape>>=λb=>
  jO a (List.length b)>>=λj=>
  oL b j 0>>=λh=>
  (
   iS (m,x,a,l,b,0,h)
  : Option LI)>>=λg=>
  wU (List.length b) g>>=λc=>
  kP c>>=λ(p,d)=>
  if (d != 0) then
   some ((Arr.mk [] []),d)
  else
   lfrom x.shape (w64 (a+1))>>=λi=>
   (
    iT (m,x,l,c,i,1,0)
   : Option (Int))>>=λo=>
   (
    gG (m,x,l,c,o,0,[])
   : Option (List aA))>>=λn=>
   some ((Arr.mk c n),0)
def uZ (a:Arr):Option (Int×Int):=
 if (decide ((List.length a.shape:Int)>0)) then
  some (0,6)
 else
  lget a.cells 0>>=λy=>
  if (y.kind != 0) then
   some (0,5)
  else
   lget a.cells 0>>=λb=>
   some (b.n,0)
def lE (a:Arr) (b:Int) (n:Int):Option (Arr):=
 rF a>>=λk=>
 lfrom a.shape 1>>=λl=>
 lapp [n] l>>=λd=>
 xP (w64 (n*k)) (aA.mk 0 0 [])>>=λe=>
 Ag0 a.cells (w64 (b*k)) (w64 ((w64 (b+n))*k))>>=λf=>
 BbD (Int.toNat (w64 (n*k))) e f>>=λg=>
 wU (Int.toNat (w64 (n*k))) g>>=λc=>
 some (Arr.mk d c)
def uX (a:Arr):Option (aA×Int):=
 if ((List.length a.cells:Int)==0) then
  some ((aA.mk 0 0 []),0)
 else
  lget a.cells 0>>=λy=>
  if (y.kind==0) then
   some ((aA.mk 0 0 []),0)
  else
   lget a.cells 0>>=λb=>
   if (b.kind==1) then
    some ((aA.mk 1 32 []),0)
   else
    some ((aA.mk 0 0 []),5)
def oG (a:Int×Arr×Int×LI×aA×Int×Int×(List aA)):Option (List aA):=match a with
  |(n,x,b,h,f,c,d,e)=>
   if (decide (d<((Int.toNat (w64 ((w64 ((if n<(w64 (0-n)) then (w64 (0-n)) else n)-b))*c))):Int))) then
    jO d (Int.toNat (w64 ((w64 ((if n<(w64 (0-n)) then (w64 (0-n)) else n)-b))*c)))>>=λj=>
    oL e j f>>=λg=>
    oG (n,x,b,h,f,c,(w64 (d+1)),g)
   else
    some e
 partial_fixpoint
def zW (n:Int) (g:Arr):Option (Arr×Int):=
 iI g>>=λx=>
 if (decide (n>16384)) then
  some ((Arr.mk [] []),12)
 else
  if (decide (n<(-16384))) then
   some ((Arr.mk [] []),12)
  else
   lget x.shape 0>>=λa=>
   lfrom x.shape 1>>=λl=>
   lapp [(if n<(w64 (0-n)) then (w64 (0-n)) else n)] l>>=λb=>
   kP b>>=λ(s,e)=>
   if (e != 0) then
    some ((Arr.mk [] []),e)
   else
    if (decide ((if n<(w64 (0-n)) then (w64 (0-n)) else n)<=a)) then
     if (decide (n<0)) then
      lE x (w64 (a-(if n<(w64 (0-n)) then (w64 (0-n)) else n))) (if n<(w64 (0-n)) then (w64 (0-n)) else n)>>=λp=>
      some (p,0)
     else
      lE x 0 (if n<(w64 (0-n)) then (w64 (0-n)) else n)>>=λq=>
      some (q,0)
    else
     uX x>>=λ(r,d)=>
     if (d != 0) then
      some ((Arr.mk [] []),d)
     else
      rF x>>=λc=>
      xP (w64 ((w64 ((if n<(w64 (0-n)) then (w64 (0-n)) else n)-a))*c)) (aA.mk 0 0 [])>>=λm=>
      (
       oG (n,x,a,b,r,c,0,m)
      : Option (List aA))>>=λf=>
      if (decide (n<0)) then
       wU (Int.toNat (w64 ((w64 ((if n<(w64 (0-n)) then (w64 (0-n)) else n)-a))*c))) f>>=λh=>
       lapp h x.cells>>=λi=>
       some ((Arr.mk b i),0)
      else
       wU (Int.toNat (w64 ((w64 ((if n<(w64 (0-n)) then (w64 (0-n)) else n)-a))*c))) f>>=λo=>
       lapp ([]:List aA) x.cells>>=λj=>
       lapp j o>>=λk=>
       some ((Arr.mk b k),0)
def zT (n:Int) (b:Arr):Option (Arr):=
 iI b>>=λx=>
 lget x.shape 0>>=λa=>
 if (decide (n>=a)) then
  lE x 0 0>>=λc=>
  some c
 else
  if (decide (n<=(w64 (0-a)))) then
   lE x 0 0>>=λd=>
   some d
  else
   if (decide (n<0)) then
    lE x 0 (w64 (a+n))>>=λe=>
    some e
   else
    lE x n (w64 (a-n))>>=λf=>
    some f
def jX (a:Int×Arr×Int×LI×Int×Int):Option (Int):=match a with
  |(n,c,e,l,b,x)=>
   if (decide (x<(List.length l:Int))) then
    lget l x>>=λd=>
    jX (n,c,e,l,(w64 (b*d)),(w64 (x+1)))
   else
    some b
 partial_fixpoint
def jY (a:Arr×Int×Int×Int×Int×(List aA)):Option (List aA):=match a with
  |(d,b,e,f,c,h)=>
   if (decide (c<(List.length d.cells:Int))) then
    Ag0 d.cells c (w64 (c+(w64 (e*b))))>>=λg=>
    lfrom g (w64 (f*b))>>=λi=>
    lapp h i>>=λj=>
    lto g (w64 (f*b))>>=λk=>
    lapp j k>>=λl=>
    jY (d,b,e,f,(w64 (c+(w64 (e*b)))),l)
   else
    some h
 partial_fixpoint
def lQ (n:Int) (a:Arr) (b:Int):Option (Arr):=
 if ((List.length a.cells:Int)==0) then
  some a
 else
  if ((List.length a.shape:Int)==0) then
   some a
  else
   lfrom a.shape (w64 (b+1))>>=λl=>
   (
    jX (n,a,b,l,1,0)
   : Option (Int))>>=λf=>
   lget a.shape b>>=λc=>
   irem n c>>=λk=>
   (
    if (decide (k<0)) then
     some (w64 (k+c))
    else
     some k
   : Option (Int))>>=λd=>
   (
    jY (a,f,c,d,0,[])
   : Option (List aA))>>=λe=>
   some (Arr.mk a.shape e)
def qR (a:Int):Option (Bool):=
 if (decide (a>=21)) then
  some (decide (a<=32))
 else
  some false
def jR (a:LI×LI×Int):Option (Except (LI×Int) (Unit)):=match a with
  |(c,b,x)=>
   if (decide (x<(List.length c:Int))) then
    lget c x>>=λy=>
    lget b x>>=λd=>
    if (y != d) then
     some (.error ([],7))
    else
     jR (c,b,(w64 (x+1)))
   else
    some (.ok ())
 partial_fixpoint
def tD (a:LI) (b:LI):Option (LI×Int):=
 if ((List.length a:Int)==0) then
  lapp [] b>>=λl=>
  some (l,0)
 else
  if ((List.length b:Int)==0) then
   lapp [] a>>=λc=>
   some (c,0)
  else
   if ((List.length a:Int) != (List.length b:Int)) then
    some ([],6)
   else
    (
     jR (a,b,0)
    : Option (Except (LI×Int) (Unit)))>>=λe=>match e with
    |.error r=>some r
    |.ok _=>
     lapp [] a>>=λd=>
     some (d,0)
def nW (b:Bool):Option (Int):=
 if b then
  some 1
 else
  some 0
def Ab1 (a:Int) (b:Int):Option (Int×Int):=
 if (decide (b<0)) then
  if (decide (a>(w64 (9223372036854775807+b)))) then
   some (0,9)
  else
   if (decide (b>0)) then
    if (decide (a<(w64 ((-9223372036854775808)+b)))) then
     some (0,9)
    else
     some ((w64 (a-b)),0)
   else
    some ((w64 (a-b)),0)
 else
  if (decide (b>0)) then
   if (decide (a<(w64 ((-9223372036854775808)+b)))) then
    some (0,9)
   else
    some ((w64 (a-b)),0)
  else
   some ((w64 (a-b)),0)
def Ae8 (a:Int) (b:Int):Option (Int×Int):=
 if (decide (b>0)) then
  if (decide (a>(w64 (9223372036854775807-b)))) then
   some (0,9)
  else
   if (decide (b<0)) then
    if (decide (a<(w64 ((-9223372036854775808)-b)))) then
     some (0,9)
    else
     some ((w64 (a+b)),0)
   else
    some ((w64 (a+b)),0)
 else
  if (decide (b<0)) then
   if (decide (a<(w64 ((-9223372036854775808)-b)))) then
    some (0,9)
   else
    some ((w64 (a+b)),0)
  else
   some ((w64 (a+b)),0)
def yX (a:Int):Option (Int×Bool):=
 if (decide (a<0)) then
  some ((IntKind.u64.wrap (0-(IntKind.u64.wrap a))),true)
 else
  some ((IntKind.u64.wrap a),false)
def uA (n:Int) (a:Bool):Option (Int×Int):=
 (
  if a then
   if (decide (n<=9223372036854775808)) then
    some (.error ((w64 ((w64 (0-(w64 (IntKind.u64.wrap (n-1)))))-1)),0))
   else
    if (!a) then
     if (decide (n<=9223372036854775807)) then
      some (.error ((w64 n),0))
     else
      some (.ok ())
    else
     some (.ok ())
  else
   if (!a) then
    if (decide (n<=9223372036854775807)) then
     some (.error ((w64 n),0))
    else
     some (.ok ())
   else
    some (.ok ())
 : Option (Except (Int×Int) (Unit)))>>=λb=>match b with
 |.error r=>some r
 |.ok _=>
  some (0,9)
def pT (a:LI×Int×Bool×Bool×Int):Option (Except (Int×Int) (Int×Bool×Bool)):=match a with
  |(l,n,b,d,x)=>
   if (decide (x<(List.length l:Int))) then
    (
     lget l x>>=λy=>
     yX y>>=λ(m,c)=>
     if (m==0) then
      some (.error (0,0))
     else
      if d then
       some (.ok (n,(!(b==c)),true))
      else
       idiv .u64 9223372036854775808 m>>=λq=>
       if (decide (n>q)) then
        some (.ok (n,(!(b==c)),true))
       else
        some (.ok ((IntKind.u64.wrap (n*m)),(!(b==c)),d))
    : Option (Except (Int×Int) (Int×Bool×Bool)))>>=λh=>match h with
    |.error r=>some (.error r)
    |.ok (f,e,g)=>
     pT (l,f,e,g,(w64 (x+1)))
   else
    some (.ok (n,b,d))
 partial_fixpoint
def tL (l:LI):Option (Int×Int):=
 (
  pT (l,1,false,false,0)
 : Option (Except (Int×Int) (Int×Bool×Bool)))>>=λd=>match d with
 |.error r=>some r
 |.ok (b,a,c)=>
  if c then
   some (0,9)
  else
   uA b a>>=λ(e,f)=>
   some (e,f)
def Ae9 (a:Int) (b:Int):Option (Int×Int):=
 tL [a,b]>>=λ(x,c)=>
 some (x,c)
def AeA (a:Int) (b:Int):Option (Int):=
 if (a==0) then
  some b
 else
  if (a==(-1)) then
   some 0
  else
   irem b a>>=λc=>
   if (c != 0) then
    (
     if (!((decide (c<0))==(decide (a<0)))) then
      some (w64 (c+a))
     else
      some c
    : Option (Int))>>=λd=>
    some d
   else
    some c
def pD (c:Int) (a:Int) (b:Int):Option (Int×Int):=
 if (c==21) then
  Ae8 a b>>=λ(x,d)=>
  some (x,d)
 else
  if (c==22) then
   Ab1 a b>>=λ(e,f)=>
   some (e,f)
  else
   if (c==23) then
    Ae9 a b>>=λ(g,h)=>
    some (g,h)
   else
    if (c==24) then
     some ((if b<a then b else a),0)
    else
     if (c==25) then
      some ((if a<b then b else a),0)
     else
      AeA a b>>=λi=>
      some (i,0)
def pR (a:Int) (c:aA) (b:aA):Option (aA×Int):=
 if (a==27) then
  qR a>>=λx=>
  if (!x) then
   some ((aA.mk 0 0 []),1)
  else
   if (c.kind==2) then
    some ((aA.mk 0 0 []),5)
   else
    if (b.kind==2) then
     some ((aA.mk 0 0 []),5)
    else
     if (c.kind != b.kind) then
      nW (a==28)>>=λh=>
      some ((aA.mk 0 h []),0)
     else
      if (decide (a>=27)) then
       sO a c.n b.n>>=λm=>
       some ((aA.mk 0 m []),0)
      else
       pD a c.n b.n>>=λ(n,e)=>
       some ((aA.mk 0 n []),e)
 else
  (
   qR a>>=λo=>
   if (!o) then
    some (.error ((aA.mk 0 0 []),1))
   else
    if (a==28) then
     if (c.kind==2) then
      some (.error ((aA.mk 0 0 []),5))
     else
      if (b.kind==2) then
       some (.error ((aA.mk 0 0 []),5))
      else
       if (a==28) then
        if (c.kind != b.kind) then
         nW (a==28)>>=λp=>
         some (.error ((aA.mk 0 p []),0))
        else
         if (!(a==28)) then
          if (c.kind != 0) then
           some (.error ((aA.mk 0 0 []),5))
          else
           if (b.kind != 0) then
            some (.error ((aA.mk 0 0 []),5))
           else
            if (decide (a>=27)) then
             sO a c.n b.n>>=λq=>
             some (.error ((aA.mk 0 q []),0))
            else
             some (.ok ())
         else
          if (decide (a>=27)) then
           sO a c.n b.n>>=λs=>
           some (.error ((aA.mk 0 s []),0))
          else
           some (.ok ())
       else
        if (!(a==28)) then
         if (c.kind != 0) then
          some (.error ((aA.mk 0 0 []),5))
         else
          if (b.kind != 0) then
           some (.error ((aA.mk 0 0 []),5))
          else
           if (decide (a>=27)) then
            sO a c.n b.n>>=λt=>
            some (.error ((aA.mk 0 t []),0))
           else
            some (.ok ())
        else
         if (decide (a>=27)) then
          sO a c.n b.n>>=λu=>
          some (.error ((aA.mk 0 u []),0))
         else
          some (.ok ())
    else
     if (a==28) then
      if (c.kind != b.kind) then
       nW (a==28)>>=λv=>
       some (.error ((aA.mk 0 v []),0))
      else
       if (!(a==28)) then
        if (c.kind != 0) then
         some (.error ((aA.mk 0 0 []),5))
        else
         if (b.kind != 0) then
          some (.error ((aA.mk 0 0 []),5))
         else
          if (decide (a>=27)) then
           sO a c.n b.n>>=λi=>
           some (.error ((aA.mk 0 i []),0))
          else
           some (.ok ())
       else
        if (decide (a>=27)) then
         sO a c.n b.n>>=λj=>
         some (.error ((aA.mk 0 j []),0))
        else
         some (.ok ())
     else
      if (!(a==28)) then
       if (c.kind != 0) then
        some (.error ((aA.mk 0 0 []),5))
       else
        if (b.kind != 0) then
         some (.error ((aA.mk 0 0 []),5))
        else
         if (decide (a>=27)) then
          sO a c.n b.n>>=λk=>
          some (.error ((aA.mk 0 k []),0))
         else
          some (.ok ())
      else
       if (decide (a>=27)) then
        sO a c.n b.n>>=λl=>
        some (.error ((aA.mk 0 l []),0))
       else
        some (.ok ())
  : Option (Except (aA×Int) (Unit)))>>=λg=>match g with
  |.error r=>some r
  |.ok _=>
   pD a c.n b.n>>=λ(f,d)=>
   some ((aA.mk 0 f []),d)
def wQ (a:LI×Bool×Int):Option (Except (Int×Int) (Bool)):=match a with
  |(b,c,i)=>
   if (decide (i<(List.length b:Int))) then
    (
     lget b i>>=λy=>
     if (decide (y<0)) then
      some (.error (0,1))
     else
      lget b i>>=λf=>
      if (f==0) then
       some (.ok true)
      else
       some (.ok c)
    : Option (Except (Int×Int) (Bool)))>>=λe=>match e with
    |.error r=>some (.error r)
    |.ok d=>
     wQ (b,d,(w64 (i+1)))
   else
    some (.ok c)
 partial_fixpoint
def wR (a:LI×Int×Int):Option (Except (Int×Int) (Int)):=match a with
  |(c,n,b)=>
   if (decide (b<(List.length c:Int))) then
    lget c b>>=λe=>
    if (decide (e>16384)) then
     some (.error (0,12))
    else
     lget c b>>=λd=>
     if (decide ((w64 (n*d))>16384)) then
      some (.error (0,12))
     else
      wR (c,(w64 (n*d)),(w64 (b+1)))
   else
    some (.ok n)
 partial_fixpoint
def AhI (b:LI):Option (Int×Int):=
 if (decide ((List.length b:Int)>8)) then
  some (0,6)
 else
  (
   wQ (b,false,0)
  : Option (Except (Int×Int) (Bool)))>>=λa=>match a with
  |.error r=>some r
  |.ok d=>
   if d then
    some (0,0)
   else
    (
     wR (b,1,0)
    : Option (Except (Int×Int) (Int)))>>=λa=>match a with
    |.error r=>some r
    |.ok c=>
     some (c,0)
def bV (b:Int) (a:Int):Option (Bool×Int):=
 if (decide ((w64 (a+1))<=2048)) then
  some ((decide (b<=24)),(w64 (a+1)))
 else
  some (false,(w64 (a+1)))
def bN (n:Node) (c:Int) (d:Bool) (b:Bool) (a:Bool):Option (Bool):=
 if ((List.length n.kids:Int)==c) then
  if d then
   if b then
    if a then
     some true
    else
     if ((List.length n.lit.shape:Int)==0) then
      some ((List.length n.lit.cells:Int)==0)
     else
      some false
   else
    if (n.name==[]) then
     if a then
      some true
     else
      if ((List.length n.lit.shape:Int)==0) then
       some ((List.length n.lit.cells:Int)==0)
      else
       some false
    else
     some false
  else
   if (n.op_==0) then
    if b then
     if a then
      some true
     else
      if ((List.length n.lit.shape:Int)==0) then
       some ((List.length n.lit.cells:Int)==0)
      else
       some false
    else
     if (n.name==[]) then
      if a then
       some true
      else
       if ((List.length n.lit.shape:Int)==0) then
        some ((List.length n.lit.cells:Int)==0)
       else
        some false
     else
      some false
   else
    some false
 else
  some false
def vX (n:Int):Option (Bool):=
 if (decide (n>=0)) then
  if (decide (n<=1114111)) then
   if (decide (n<55296)) then
    some true
   else
    some (decide (n>57343))
  else
   some false
 else
  some false
def jQ (a:Arr×Int×Int):Option (Except (Int) (Unit)):=match a with
  |(b,c,x)=>
   if (decide (x<(List.length b.shape:Int))) then
    lget b.shape x>>=λd=>
    if (decide (d>16384)) then
     some (.error 12)
    else
     jQ (b,c,(w64 (x+1)))
   else
    some (.ok ())
 partial_fixpoint
mutual
def iG (a:Arr×Int×Int):Option (Except (Int) (Unit)):=match a with
  |(b,c,d)=>
   if (decide (d<(List.length b.cells:Int))) then
    (
     lget b.cells d>>=λy=>
     if (y.kind==2) then
      if (y.n==0) then
       if ((List.length y.box:Int)==1) then
        if (decide (c>=8)) then
         some (.error 15)
        else
         lget y.box 0>>=λj=>
         qQ (j,(w64 (c+1)))>>=λe=>
         if (e != 0) then
          some (.error e)
         else
          some (.ok ())
       else
        if (decide ((List.length y.box:Int)>0)) then
         some (.error 1)
        else
         if (y.kind != 0) then
          if (y.kind != 1) then
           some (.error 1)
          else
           vX y.n>>=λg=>
           if (!g) then
            some (.error 1)
           else
            some (.ok ())
         else
          some (.ok ())
      else
       if (decide ((List.length y.box:Int)>0)) then
        some (.error 1)
       else
        if (y.kind != 0) then
         if (y.kind != 1) then
          some (.error 1)
         else
          vX y.n>>=λh=>
          if (!h) then
           some (.error 1)
          else
           some (.ok ())
        else
         some (.ok ())
     else
      if (decide ((List.length y.box:Int)>0)) then
       some (.error 1)
      else
       if (y.kind != 0) then
        if (y.kind != 1) then
         some (.error 1)
        else
         vX y.n>>=λi=>
         if (!i) then
          some (.error 1)
         else
          some (.ok ())
       else
        some (.ok ())
    : Option (Except (Int) (Unit)))>>=λf=>match f with
    |.error r=>some (.error r)
    |.ok _=>
     iG (b,c,(w64 (d+1)))
   else
    some (.ok ())
 partial_fixpoint
def qQ (a:Arr×Int):Option (Int):=match a with
  |(b,d)=>
   kP b.shape>>=λ(n,e)=>
   if (e != 0) then
    some e
   else
    if (n != (List.length b.cells:Int)) then
     some 1
    else
     (
      jQ (b,d,0)
     : Option (Except (Int) (Unit)))>>=λc=>match c with
     |.error r=>some r
     |.ok _=>
      (
       iG (b,d,0)
      : Option (Except (Int) (Unit)))>>=λc=>match c with
      |.error r=>some r
      |.ok _=>
       some 0
 partial_fixpoint
end
def jD (a:Arr):Option (Int):=
 qQ (a,0)>>=λx=>
 some x
def jS (a:Arr×Int):Option (Except (Bool) (Unit)):=match a with
  |(b,c)=>
   if (decide (c<(List.length b.cells:Int))) then
    (
     lget b.cells c>>=λy=>
     if (y.kind==2) then
      some (.error false)
     else
      lget b.cells 0>>=λe=>
      if (y.kind != e.kind) then
       some (.error false)
      else
       if (y.kind==1) then
        if (decide (y.n<32)) then
         some (.error false)
        else
         if (y.n==127) then
          some (.error false)
         else
          some (.ok ())
       else
        some (.ok ())
    : Option (Except (Bool) (Unit)))>>=λd=>match d with
    |.error r=>some (.error r)
    |.ok _=>
     jS (b,(w64 (c+1)))
   else
    some (.ok ())
 partial_fixpoint
def jU (a:Arr×Int):Option (Except (Bool) (Unit)):=match a with
  |(c,d)=>
   if (decide (d<(List.length c.cells:Int))) then
    (
     lget c.cells d>>=λb=>
     if (b.kind==2) then
      some (.error false)
     else
      lget c.cells 0>>=λf=>
      if (b.kind != f.kind) then
       some (.error false)
      else
       if (b.kind==1) then
        if (decide (b.n<32)) then
         some (.error false)
        else
         if (b.n==127) then
          some (.error false)
         else
          some (.ok ())
       else
        some (.ok ())
    : Option (Except (Bool) (Unit)))>>=λe=>match e with
    |.error r=>some (.error r)
    |.ok _=>
     jU (c,(w64 (d+1)))
   else
    some (.ok ())
 partial_fixpoint
def qF (a:Arr):Option (Bool):=
 jD a>>=λx=>
 if (x != 0) then
  some false
 else
  if (decide ((List.length a.shape:Int)>1)) then
   some false
  else
   if ((List.length a.shape:Int)==1) then
    if ((List.length a.cells:Int)==1) then
     some false
    else
     (
      jS (a,0)
     : Option (Except (Bool) (Unit)))>>=λb=>match b with
     |.error r=>some r
     |.ok _=>
      some true
   else
    (
     jU (a,0)
    : Option (Except (Bool) (Unit)))>>=λb=>match b with
    |.error r=>some r
    |.ok _=>
     some true
def nX (a:Str×Int):Option (Except (Bool) (Unit)):=match a with
  |(s,x)=>
   if (decide (x<(List.length s:Int))) then
    (
     sget s x>>=λc=>
     if (decide (c>=97)) then
      sget s x>>=λb=>
      if (!(decide (b<=119))) then
       if (x==0) then
        some (.error false)
       else
        sget s x>>=λd=>
        if (decide (d<48)) then
         some (.error false)
        else
         sget s x>>=λe=>
         if (decide (e>57)) then
          some (.error false)
         else
          some (.ok ())
      else
       some (.ok ())
     else
      if (x==0) then
       some (.error false)
      else
       sget s x>>=λf=>
       if (decide (f<48)) then
        some (.error false)
       else
        sget s x>>=λg=>
        if (decide (g>57)) then
         some (.error false)
        else
         some (.ok ())
    : Option (Except (Bool) (Unit)))>>=λh=>match h with
    |.error r=>some (.error r)
    |.ok _=>
     nX (s,(w64 (x+1)))
   else
    some (.ok ())
 partial_fixpoint
def wL (s:Str):Option (Bool):=
 (
  nX (s,0)
 : Option (Except (Bool) (Unit)))>>=λa=>match a with
 |.error r=>some r
 |.ok _=>
  if (decide ((List.length s:Int)>0)) then
   some (decide ((List.length s:Int)<=8))
  else
   some false
def cX (c:Int) (a:Int) (b:(List (Int×Bool))):Option (Bool×Int):=
 if (decide ((w64 (a+1))<=2048)) then
  some ((decide (c<=24)),(w64 (a+1)))
 else
  some (false,(w64 (a+1)))
def nI (a:Int):Option (Bool):=
 if (decide (a>=21)) then
  some (decide (a<=32))
 else
  some false
def gO (n:Node) (c:Int) (e:Int) (b:(List (Int×Bool))):Option (Bool×Int):=
 (
  if (n.kind==35) then
   cX c e b>>=λ(x,d)=>
   if (!x) then
    some (.error (false,d))
   else
    bN n 1 false false false>>=λk=>
    if (!k) then
     some (.error (false,d))
    else
     lget n.kids 0>>=λy=>
     some (.ok ((w64 (c+1)),y.kind,y.op_,y.name,y.lit.shape,y.lit.cells,y.kids,y.at_,d))
  else
   some (.ok (c,n.kind,n.op_,n.name,n.lit.shape,n.lit.cells,n.kids,n.at_,e))
 : Option (Except (Bool×Int) (Int×Int×Int×Str×LI×(List aA)×(List Node)×Int×Int)))>>=λj=>match j with
 |.error r=>some r
 |.ok (i,f,g,l,m,o,p,q,h)=>
  cX i h b>>=λ(s,a)=>
  if s then
   if (f==21) then
    bN (Node.mk f g l (Arr.mk m o) p q) 0 true false false>>=λt=>
    if t then
     nI g>>=λu=>
     some (u,a)
    else
     some (false,a)
   else
    some (false,a)
  else
   some (false,a)
mutual
def dR (a:Node×Int×Int×(List (Int×Bool))):Option (Bool×Int×(List (Int×Bool))):=match a with
  |(n,d,i,b)=>
   cX d i b>>=λ(x,c)=>
   if (!x) then
    some (false,c,b)
   else
    if (n.kind==1) then
     bN n 0 false false true>>=λl=>
     if l then
      qF n.lit>>=λt=>
      some (t,c,b)
     else
      some (false,c,b)
    else
     if (n.kind==2) then
      bN n 0 false true false>>=λu=>
      if u then
       wL n.name>>=λv=>
       some (v,c,b)
      else
       some (false,c,b)
     else
      (
       if (n.kind==3) then
        some (n.kind==3)
       else
        some (n.kind==4)
      : Option (Bool))>>=λw=>
      if w then
       bN n 0 false false false>>=λz=>
       if (!z) then
        some (false,c,b)
       else
        some (true,c,(Av4 b n.kind true))
      else
       if (n.kind==5) then
        bN n 2 false false false>>=λx7=>
        if x7 then
         lget n.kids 0>>=λy=>
         lX (y,(w64 (d+1)),c,b)>>=λ(x8,e)=>
         if x8 then
          lget n.kids 1>>=λy1=>
          dR (y1,(w64 (d+1)),e,b)>>=λ(x9,j,m)=>
          some (x9,j,m)
         else
          some (false,e,b)
        else
         some (false,c,b)
       else
        if (n.kind==6) then
         bN n 3 false false false>>=λo=>
         if o then
          lget n.kids 0>>=λy2=>
          pN (y2,(w64 (d+1)),c,b)>>=λ(p,f)=>
          if p then
           lget n.kids 1>>=λy3=>
           dR (y3,(w64 (d+1)),f,b)>>=λ(q,g,h)=>
           if q then
            lget n.kids 2>>=λy4=>
            dR (y4,(w64 (d+1)),g,h)>>=λ(r,k,s)=>
            some (r,k,s)
           else
            some (false,g,h)
          else
           some (false,f,b)
         else
          some (false,c,b)
        else
         some (false,c,b)
 partial_fixpoint
def lX (a:Node×Int×Int×(List (Int×Bool))):Option (Bool×Int):=match a with
  |(n,d,e,b)=>
   cX d e b>>=λ(x,c)=>
   if (!x) then
    some (false,c)
   else
    if (n.kind==21) then
     bN n 0 true false false>>=λj=>
     if j then
      if (decide (n.op_>=1)) then
       some ((decide (n.op_<=19)),c)
      else
       some (false,c)
     else
      some (false,c)
    else
     if (n.kind==22) then
      hJ (n,d,c,b)>>=λ(k,f)=>
      some (k,f)
     else
      (
       if (n.kind==31) then
        some (n.kind==31)
       else
        if (n.kind==32) then
         some (n.kind==32)
        else
         if (n.kind==33) then
          some (n.kind==33)
         else
          some (n.kind==34)
      : Option (Bool))>>=λl=>
      if l then
       bN n 1 false false false>>=λm=>
       if m then
        lget n.kids 0>>=λy=>
        gO y (w64 (d+1)) c b>>=λ(o,g)=>
        some (o,g)
       else
        some (false,c)
      else
       if (n.kind==35) then
        hO (n,d,c,b)>>=λ(p,h)=>
        some (p,h)
       else
        if (n.kind==26) then
         bN n 1 true false false>>=λq=>
         if q then
          if (decide (n.op_>=0)) then
           if (decide (n.op_<=4096)) then
            lget n.kids 0>>=λs=>
            if (s.kind==22) then
             lget n.kids 0>>=λt=>
             lX (t,(w64 (d+1)),c,b)>>=λ(r,i)=>
             some (r,i)
            else
             some (false,c)
           else
            some (false,c)
          else
           some (false,c)
         else
          some (false,c)
        else
         some (false,c)
 partial_fixpoint
def pN (a:Node×Int×Int×(List (Int×Bool))):Option (Bool×Int):=match a with
  |(n,c,d,b)=>
   if (n.kind==25) then
    cX c d b>>=λ(x,e)=>
    if x then
     bN n 1 false false false>>=λj=>
     if j then
      lget n.kids 0>>=λy=>
      gO y (w64 (c+1)) e b>>=λ(k,g)=>
      some (k,g)
     else
      some (false,e)
    else
     some (false,e)
   else
    if (n.kind==35) then
     cX c d b>>=λ(l,f)=>
     if l then
      hO (n,c,f,b)>>=λ(m,h)=>
      some (m,h)
     else
      some (false,f)
    else
     gE (n,c,d,b)>>=λ(o,i)=>
     some (o,i)
 partial_fixpoint
def hJ (a:Node×Int×Int×(List (Int×Bool))):Option (Bool×Int):=match a with
  |(n,g,e,b)=>
   bN n 1 false false false>>=λx=>
   if (!x) then
    some (false,e)
   else
    lget n.kids 0>>=λy=>
    dR (y,(w64 (g+1)),e,[])>>=λ(f,c,d)=>
    if (n.kind==22) then
     if f then
      some ((!(zP d 3 false)),c)
     else
      some (false,c)
    else
     if f then
      if (zP d 3 false) then
       some ((zP d 4 false),c)
      else
       some (false,c)
     else
      some (false,c)
 partial_fixpoint
def hO (a:Node×Int×Int×(List (Int×Bool))):Option (Bool×Int):=match a with
  |(n,d,c,b)=>
   bN n 1 false false false>>=λx=>
   if (!x) then
    some (false,c)
   else
    lget n.kids 0>>=λy=>
    if (y.kind != 21) then
     gE (y,(w64 (d+1)),c,b)>>=λ(g,e)=>
     some (g,e)
    else
     if (y.op_ != 52) then
      if (y.op_ != 53) then
       gE (y,(w64 (d+1)),c,b)>>=λ(h,f)=>
       some (h,f)
      else
       some (false,c)
     else
      some (false,c)
 partial_fixpoint
def gE (a:Node×Int×Int×(List (Int×Bool))):Option (Bool×Int):=match a with
  |(n,d,e,b)=>
   cX d e b>>=λ(x,c)=>
   if (!x) then
    some (false,c)
   else
    if (n.kind==21) then
     bN n 0 true false false>>=λg=>
     if g then
      nI n.op_>>=λh=>
      if h then
       some (true,c)
      else
       if (decide (n.op_>=41)) then
        some ((decide (n.op_<=54)),c)
       else
        some (false,c)
     else
      some (false,c)
    else
     if (n.kind==23) then
      hJ (n,d,c,b)>>=λ(i,f)=>
      some (i,f)
     else
      some (false,c)
 partial_fixpoint
end
def eA (n:Node) (e:Int) (c:Int):Option (Bool×Int):=
 bN n 1 false false false>>=λx=>
 if (!x) then
  some (false,c)
 else
  lget n.kids 0>>=λy=>
  dR (y,(w64 (e+1)),c,[])>>=λ(d,a,b)=>
  if (n.kind==22) then
   if d then
    some ((!(zP b 3 false)),a)
   else
    some (false,a)
  else
   if d then
    if (zP b 3 false) then
     some ((zP b 4 false),a)
    else
     some (false,a)
   else
    some (false,a)
def dQ (n:Node) (b:Int) (d:Int):Option (Bool×Int):=
 (
  if (n.kind==35) then
   bV b d>>=λ(x,c)=>
   if (!x) then
    some (.error (false,c))
   else
    bN n 1 false false false>>=λj=>
    if (!j) then
     some (.error (false,c))
    else
     lget n.kids 0>>=λy=>
     some (.ok ((w64 (b+1)),y.kind,y.op_,y.name,y.lit.shape,y.lit.cells,y.kids,y.at_,c))
  else
   some (.ok (b,n.kind,n.op_,n.name,n.lit.shape,n.lit.cells,n.kids,n.at_,d))
 : Option (Except (Bool×Int) (Int×Int×Int×Str×LI×(List aA)×(List Node)×Int×Int)))>>=λi=>match i with
 |.error r=>some r
 |.ok (h,e,f,k,l,m,o,p,g)=>
  bV h g>>=λ(q,a)=>
  if q then
   if (e==21) then
    bN (Node.mk e f k (Arr.mk l m) o p) 0 true false false>>=λs=>
    if s then
     nI f>>=λt=>
     some (t,a)
    else
     some (false,a)
   else
    some (false,a)
  else
   some (false,a)
def dE (n:Node) (b:Int) (c:Int):Option (Bool×Int):=
 bV b c>>=λ(x,a)=>
 if (!x) then
  some (false,a)
 else
  if (n.kind==21) then
   bN n 0 true false false>>=λe=>
   if e then
    nI n.op_>>=λf=>
    if f then
     some (true,a)
    else
     if (decide (n.op_>=41)) then
      some ((decide (n.op_<=54)),a)
     else
      some (false,a)
   else
    some (false,a)
  else
   if (n.kind==23) then
    eA n b a>>=λ(g,d)=>
    some (g,d)
   else
    some (false,a)
def eC (n:Node) (b:Int) (a:Int):Option (Bool×Int):=
 bN n 1 false false false>>=λx=>
 if (!x) then
  some (false,a)
 else
  lget n.kids 0>>=λy=>
  if (y.kind != 21) then
   dE y (w64 (b+1)) a>>=λ(e,c)=>
   some (e,c)
  else
   if (y.op_ != 52) then
    if (y.op_ != 53) then
     dE y (w64 (b+1)) a>>=λ(f,d)=>
     some (f,d)
    else
     some (false,a)
   else
    some (false,a)
def eK (a:Node×Int×Int):Option (Bool×Int):=match a with
  |(n,c,d)=>
   bV c d>>=λ(x,b)=>
   if (!x) then
    some (false,b)
   else
    if (n.kind==21) then
     bN n 0 true false false>>=λi=>
     if i then
      if (decide (n.op_>=1)) then
       some ((decide (n.op_<=19)),b)
      else
       some (false,b)
     else
      some (false,b)
    else
     if (n.kind==22) then
      eA n c b>>=λ(j,e)=>
      some (j,e)
     else
      (
       if (n.kind==31) then
        some (n.kind==31)
       else
        if (n.kind==32) then
         some (n.kind==32)
        else
         if (n.kind==33) then
          some (n.kind==33)
         else
          some (n.kind==34)
      : Option (Bool))>>=λk=>
      if k then
       bN n 1 false false false>>=λl=>
       if l then
        lget n.kids 0>>=λy=>
        dQ y (w64 (c+1)) b>>=λ(m,f)=>
        some (m,f)
       else
        some (false,b)
      else
       if (n.kind==35) then
        eC n c b>>=λ(o,g)=>
        some (o,g)
       else
        if (n.kind==26) then
         bN n 1 true false false>>=λp=>
         if p then
          if (decide (n.op_>=0)) then
           if (decide (n.op_<=4096)) then
            lget n.kids 0>>=λr=>
            if (r.kind==22) then
             lget n.kids 0>>=λs=>
             eK (s,(w64 (c+1)),b)>>=λ(q,h)=>
             some (q,h)
            else
             some (false,b)
           else
            some (false,b)
          else
           some (false,b)
         else
          some (false,b)
        else
         some (false,b)
 partial_fixpoint
def iH (n:Node) (a:Int) (b:Int):Option (Bool×Int):=
 if (n.kind==25) then
  bV a b>>=λ(x,c)=>
  if x then
   bN n 1 false false false>>=λh=>
   if h then
    lget n.kids 0>>=λy=>
    dQ y (w64 (a+1)) c>>=λ(i,e)=>
    some (i,e)
   else
    some (false,c)
  else
   some (false,c)
 else
  if (n.kind==35) then
   bV a b>>=λ(j,d)=>
   if j then
    eC n a d>>=λ(k,f)=>
    some (k,f)
   else
    some (false,d)
  else
   dE n a b>>=λ(l,g)=>
   some (l,g)
def cE (a:Node×Int×Int):Option (Bool×Int):=match a with
  |(n,c,g)=>
   bV c g>>=λ(x,b)=>
   if (!x) then
    some (false,b)
   else
    if (n.kind==1) then
     bN n 0 false false true>>=λj=>
     if j then
      qF n.lit>>=λo=>
      some (o,b)
     else
      some (false,b)
    else
     if (n.kind==2) then
      bN n 0 false true false>>=λp=>
      if p then
       wL n.name>>=λq=>
       some (q,b)
      else
       some (false,b)
     else
      (
       if (n.kind==3) then
        some (n.kind==3)
       else
        some (n.kind==4)
      : Option (Bool))>>=λr=>
      if r then
       some (false,b)
      else
       if (n.kind==5) then
        bN n 2 false false false>>=λs=>
        if s then
         lget n.kids 0>>=λy=>
         eK (y,(w64 (c+1)),b)>>=λ(t,d)=>
         if t then
          lget n.kids 1>>=λw=>
          cE (w,(w64 (c+1)),d)>>=λ(u,h)=>
          some (u,h)
         else
          some (false,d)
        else
         some (false,b)
       else
        if (n.kind==6) then
         bN n 3 false false false>>=λv=>
         if v then
          lget n.kids 0>>=λz=>
          iH z (w64 (c+1)) b>>=λ(k,e)=>
          if k then
           lget n.kids 1>>=λy3=>
           cE (y3,(w64 (c+1)),e)>>=λ(l,f)=>
           if l then
            lget n.kids 2>>=λy4=>
            cE (y4,(w64 (c+1)),f)>>=λ(m,i)=>
            some (m,i)
           else
            some (false,f)
          else
           some (false,e)
         else
          some (false,b)
        else
         some (false,b)
 partial_fixpoint
def pM (n:Node):Option (Int):=
 cE (n,0,0)>>=λ(x,a)=>
 if (!x) then
  some 1
 else
  some 0
def Ad5 (b:Int) (a:Int):Option (aG):=
 some (aG.mk (dD.mk (if b<0 then 0 else b) 0) (if a<0 then 0 else a))
mutual
def kY (a:Arr×LI×Int×(List aA)):Option (List aA):=match a with
  |(b,l,x,c)=>
   if (decide (x<(List.length b.cells:Int))) then
    lget b.cells x>>=λy=>
    lA y>>=λe=>
    lapp c [e]>>=λd=>
    kY (b,l,(w64 (x+1)),d)
   else
    some c
 partial_fixpoint
def fS (a:Arr):Option (Arr):=match a with
  |a_=>
   lapp [] a_.shape>>=λl=>
   (
    kY (a_,l,0,[])
   : Option (List aA))>>=λb=>
   some (Arr.mk l b)
 partial_fixpoint
def lA (a:aA):Option (aA):=match a with
  |c=>
   (
    if (decide ((List.length c.box:Int)>0)) then
     lget c.box 0>>=λy=>
     fS y>>=λx=>
     some [x]
    else
     some c.box
   : Option (List Arr))>>=λb=>
   some (aA.mk c.kind c.n b)
 partial_fixpoint
end
def nA (n:Int) (c:aG):Option (Bool×Int×Int):=
 if (decide (n<0)) then
  some (false,c.fuel.left,c.fuel.used)
 else
  if (decide (n>c.fuel.left)) then
   some (false,c.fuel.left,c.fuel.used)
  else
   some (true,(w64 (c.fuel.left-n)),(w64 (c.fuel.used+n)))
def fH (m:aG):Option (Int×Int×Int):=
 nA 1 m>>=λ(x,a,b)=>
 if (!x) then
  some (11,a,b)
 else
  some (0,a,b)
mutual
def jE (a:Arr×Int×aA×Int×Int):Option (Int):=match a with
  |(d,x,y,c,b)=>
   if (decide (b<(List.length y.box:Int))) then
    lget y.box b>>=λf=>
    lD f>>=λe=>
    jE (d,x,y,(w64 (c+e)),(w64 (b+1)))
   else
    some c
 partial_fixpoint
def kR (a:Arr×Int×Int):Option (Int):=match a with
  |(b,n,x)=>
   if (decide (x<(List.length b.cells:Int))) then
    lget b.cells x>>=λy=>
    (
     jE (b,x,y,n,0)
    : Option (Int))>>=λc=>
    kR (b,c,(w64 (x+1)))
   else
    some n
 partial_fixpoint
def lD (a:Arr):Option (Int):=match a with
  |a_=>
   (
    kR (a_,(List.length a_.cells:Int),0)
   : Option (Int))>>=λb=>
   some b
 partial_fixpoint
end
def rB (a:Arr) (m:aG):Option (Int):=
 lD a>>=λx=>
 if (decide (x>m.cells)) then
  some 12
 else
  some 0
def aV (a:Arr) (e:Int) (f:(List Str)) (g:(List Arr)) (b:aG):Option (Arr×Int):=
 (
  if (e==0) then
   rB a b>>=λd=>
   some d
  else
   some e
 : Option (Int))>>=λc=>
 if (c != 0) then
  some ((Arr.mk [] []),c)
 else
  some (a,0)
def bT (a:Str×(List Str)×(List Arr)×aG×Int):Option (Except (Arr×Int) (Unit)):=match a with
  |(s,d,c,b,x)=>
   if (decide (x<(List.length d:Int))) then
    (
     lget d x>>=λn=>
     if (n==s) then
      if (decide (x<(List.length c:Int))) then
       lget c x>>=λy=>
       jD y>>=λf=>
       if (f != 0) then
        some (.error ((Arr.mk [] []),1))
       else
        lget c x>>=λh=>
        fS h>>=λg=>
        some (.error (g,0))
      else
       some (.ok ())
     else
      some (.ok ())
    : Option (Except (Arr×Int) (Unit)))>>=λe=>match e with
    |.error r=>some (.error r)
    |.ok _=>
     bT (s,d,c,b,(w64 (x+1)))
   else
    some (.ok ())
 partial_fixpoint
def cZ (s:Str) (a:(List Str)) (d:(List Arr)) (b:aG):Option (Arr×Int):=
 (
  bT (s,a,d,b,0)
 : Option (Except (Arr×Int) (Unit)))>>=λc=>match c with
 |.error r=>some r
 |.ok _=>
  some ((Arr.mk [] []),4)
def gU (a:cC×(List Arr)×Int):Option (Except (Int) (Unit)):=match a with
  |(f,l,x)=>
   if (decide (x<(List.length l:Int))) then
    lget l x>>=λy=>
    jD y>>=λe=>
    if (e != 0) then
     some (.error e)
    else
     gU (f,l,(w64 (x+1)))
   else
    some (.ok ())
 partial_fixpoint
def kQ (f:cC) (l:(List Arr)):Option (Int):=
 (
  gU (f,l,0)
 : Option (Except (Int) (Unit)))>>=λa=>match a with
 |.error r=>some r
 |.ok _=>
  qR f.op_>>=λb=>
  if (!b) then
   some 1
  else
   some 0
def wO (a:Arr) (b:Bool):Option (Int):=
 if b then
  some (w64 ((List.length a.shape:Int)-1))
 else
  some 0
def kF (a:LI×Int×LI×Int×Int):Option (Int):=match a with
  |(e,c,l,b,x)=>
   if (decide (x<(List.length l:Int))) then
    lget l x>>=λd=>
    kF (e,c,l,(w64 (b*d)),(w64 (x+1)))
   else
    some b
 partial_fixpoint
def kG (a:LI×Int×Int×LI×Int×Int):Option (Int):=match a with
  |(h,e,g,b,d,c)=>
   if (decide (c<(List.length b:Int))) then
    lget b c>>=λf=>
    kG (h,e,g,b,(w64 (d*f)),(w64 (c+1)))
   else
    some d
 partial_fixpoint
def tZ (b:LI) (a:Int):Option (Int×Int×Int):=
 lto b a>>=λl=>
 (
  kF (b,a,l,1,0)
 : Option (Int))>>=λc=>
 lfrom b (w64 (a+1))>>=λd=>
 (
  kG (b,a,c,d,1,0)
 : Option (Int))>>=λf=>
 lget b a>>=λe=>
 some (c,f,e)
def wM (f:cC) (a:aA) (b:aA):Option (aA×Int):=
 (
  if f.turned then
   some (a.kind,a.n,a.box,b.kind,b.n,b.box)
  else
   some (b.kind,b.n,b.box,a.kind,a.n,a.box)
 : Option (Int×Int×(List Arr)×Int×Int×(List Arr)))>>=λ(g,h,i,c,d,e)=>
 pR f.op_ (aA.mk c d e) (aA.mk g h i)>>=λ(x,j)=>
 some (x,j)
def jV (a:(List aA)×Int×LI):Option (Except (LI×Int) LI):=match a with
  |(l,x,b)=>
   if (decide (x<(List.length l:Int))) then
    lget l x>>=λy=>
    if (y.kind != 0) then
     some (.error ([],5))
    else
     jO x (Int.toNat (List.length l:Int))>>=λj=>
     oL b j y.n>>=λc=>
     jV (l,(w64 (x+1)),c)
   else
    some (.ok b)
 partial_fixpoint
def oA (l:(List aA)):Option (LI×Int):=
 xP (List.length l:Int) 0>>=λa=>
 (
  jV (l,0,a)
 : Option (Except (LI×Int) LI))>>=λd=>match d with
 |.error r=>some r
 |.ok b=>
  wU (Int.toNat (List.length l:Int)) b>>=λc=>
  some (c,0)
def qI (n:Int) (w:eV):Option (Int×Int):=
 if (decide ((IntKind.u64.wrap (w.lo+n))<n)) then
  some ((IntKind.u64.wrap (w.hi+1)),(IntKind.u64.wrap (w.lo+n)))
 else
  some (w.hi,(IntKind.u64.wrap (w.lo+n)))
def rU (w:eV) (a:eV):Option (Bool):=
 if (decide (w.hi<a.hi)) then
  some true
 else
  if (w.hi==a.hi) then
   some (decide (w.lo<a.lo))
  else
   some false
def qJ (a:eV) (w:eV):Option (Int×Int):=
 (
  if (decide (w.lo<a.lo)) then
   some (IntKind.u64.wrap (w.hi-1))
  else
   some w.hi
 : Option (Int))>>=λb=>
 some ((IntKind.u64.wrap (b-a.hi)),(IntKind.u64.wrap (w.lo-a.lo)))
def lY (w:eV) (a:Bool):Option (Int×Int):=
 if (decide (w.hi>0)) then
  if (decide (w.hi>0)) then
   some (0,9)
  else
   some (0,0)
 else
  if (w.lo==0) then
   if (decide (w.hi>0)) then
    some (0,9)
   else
    some (0,0)
  else
   uA w.lo a>>=λ(x,b)=>
   some (x,b)
def rD (a:LI×Int×Int×Int×Int×Int):Option (Int×Int×Int×Int):=match a with
  |(l,x,d,e,b,c)=>
   if (decide (x<(List.length l:Int))) then
    (
     lget l x>>=λy=>
     yX y>>=λ(n,p)=>
     if p then
      qI n (eV.mk d e)>>=λ(j,m)=>
      some (j,m,b,c)
     else
      qI n (eV.mk b c)>>=λ(k,o)=>
      some (d,e,k,o)
    : Option (Int×Int×Int×Int))>>=λ(h,i,f,g)=>
    rD (l,(w64 (x+1)),h,i,f,g)
   else
    some (d,e,b,c)
 partial_fixpoint
def yW (l:LI):Option (Int×Int):=
 (
  rD (l,0,0,0,0,0)
 : Option (Int×Int×Int×Int))>>=λ(c,d,a,b)=>
 rU (eV.mk a b) (eV.mk c d)>>=λi=>
 if i then
  qJ (eV.mk a b) (eV.mk c d)>>=λ(e,g)=>
  lY (eV.mk e g) true>>=λ(j,k)=>
  some (j,k)
 else
  qJ (eV.mk c d) (eV.mk a b)>>=λ(f,h)=>
  lY (eV.mk f h) false>>=λ(m,n)=>
  some (m,n)
def mB (a:cC×(List aA)×Int×Int×Int×(List Arr)):Option (Except (aA×Int) (Int×Int×(List Arr))):=match a with
  |(f,l,i,b,c,d)=>
   if (decide (i>=0)) then
    lget l i>>=λg=>
    wM f g (aA.mk b c d)>>=λ(x,e)=>
    if (e != 0) then
     some (.error ((aA.mk 0 0 []),e))
    else
     mB (f,l,(w64 (i-1)),x.kind,x.n,x.box)
   else
    some (.ok (b,c,d))
 partial_fixpoint
def tX (f:cC) (l:(List aA)):Option (aA×Int):=
 (
  if ((List.length l:Int)==1) then
   lget l 0>>=λy=>
   some (.error (y,0))
  else
   if ((List.length l:Int)==0) then
    if (f.op_==21) then
     some (.error ((aA.mk 0 0 []),0))
    else
     if (f.op_==22) then
      some (.error ((aA.mk 0 0 []),0))
     else
      if ((List.length l:Int)==0) then
       if (f.op_==23) then
        some (.error ((aA.mk 0 1 []),0))
       else
        if ((List.length l:Int)==0) then
         some (.error ((aA.mk 0 0 []),5))
        else
         some (.ok ())
      else
       if ((List.length l:Int)==0) then
        some (.error ((aA.mk 0 0 []),5))
       else
        some (.ok ())
   else
    if ((List.length l:Int)==0) then
     if (f.op_==23) then
      some (.error ((aA.mk 0 1 []),0))
     else
      if ((List.length l:Int)==0) then
       some (.error ((aA.mk 0 0 []),5))
      else
       some (.ok ())
    else
     if ((List.length l:Int)==0) then
      some (.error ((aA.mk 0 0 []),5))
     else
      some (.ok ())
 : Option (Except (aA×Int) (Unit)))>>=λa=>match a with
 |.error r=>some r
 |.ok _=>
  if (f.op_==21) then
   oA l>>=λ(n,e)=>
   if (e != 0) then
    some ((aA.mk 0 0 []),e)
   else
    if (f.op_==23) then
     tL n>>=λ(k,j)=>
     some ((aA.mk 0 k []),j)
    else
     yW n>>=λ(q,m)=>
     some ((aA.mk 0 q []),m)
  else
   if (f.op_==23) then
    oA l>>=λ(d,c)=>
    if (c != 0) then
     some ((aA.mk 0 0 []),c)
    else
     if (f.op_==23) then
      tL d>>=λ(s,o)=>
      some ((aA.mk 0 s []),o)
     else
      yW d>>=λ(t,p)=>
      some ((aA.mk 0 t []),p)
   else
    lget l (w64 ((List.length l:Int)-1))>>=λb=>
    (
     mB (f,l,(w64 ((List.length l:Int)-2)),b.kind,b.n,b.box)
    : Option (Except (aA×Int) (Int×Int×(List Arr))))>>=λa=>match a with
    |.error r=>some r
    |.ok (g,h,i)=>
     some ((aA.mk g h i),0)
def nZ (a:(List aA)×Int×Int×Int×(List aA)×Int):Option (List aA):=match a with
  |(l,b,e,c,d,x)=>
   if (decide (x<c)) then
    lget l (w64 (b+(w64 (x*e))))>>=λy=>
    lapp d [y]>>=λf=>
    nZ (l,b,e,c,f,(w64 (x+1)))
   else
    some d
 partial_fixpoint
def tG (l:(List aA)) (b:Int) (d:Int) (a:Int):Option (List aA):=
 mkcap a>>=λe=>
 (
  nZ (l,b,d,a,[],0)
 : Option (List aA))>>=λc=>
 some c
def pS (a:cC×Arr×LI×LI×Int×Int×Int×Int×Int×(List aA)):Option (Except (Arr×Int) (List aA)):=match a with
  |(f,e,k,m,j,b,c,i,d,h)=>
   if (decide (d<b)) then
    tG e.cells (w64 ((w64 ((w64 (i*b))*c))+d)) b c>>=λn=>
    tX f n>>=λ(o,g)=>
    if (g != 0) then
     some (.error ((Arr.mk [] []),g))
    else
     lapp h [o]>>=λl=>
     pS (f,e,k,m,j,b,c,i,(w64 (d+1)),l)
   else
    some (.ok h)
 partial_fixpoint
def nJ (a:cC×Arr×LI×LI×Int×Int×Int×Int×(List aA)):Option (Except (Arr×Int) (List aA)):=match a with
  |(f,d,i,j,b,h,e,c,g)=>
   if (decide (c<b)) then
    (
     pS (f,d,i,j,b,h,e,c,0,g)
    : Option (Except (Arr×Int) (List aA)))>>=λl=>match l with
    |.error r=>some (.error r)
    |.ok k=>
     nJ (f,d,i,j,b,h,e,(w64 (c+1)),k)
   else
    some (.ok g)
 partial_fixpoint
def yV (f:cC) (a:Arr) (g:Bool):Option (Arr×Int):=
 kQ f [a]>>=λe=>
 if (e != 0) then
  some ((Arr.mk [] []),e)
 else
  if ((List.length a.shape:Int)==0) then
   fS a>>=λx=>
   some (x,0)
  else
   wO a g>>=λk=>
   sV a.shape>>=λ(n,b)=>
   AdW n k (w64 (k+1)) b>>=λ(c,o)=>
   kP c>>=λ(q,d)=>
   if (d != 0) then
    some ((Arr.mk [] []),d)
   else
    tZ a.shape k>>=λ(j,m,h)=>
    (
     nJ (f,a,c,o,j,m,h,0,[])
    : Option (Except (Arr×Int) (List aA)))>>=λl=>match l with
    |.error r=>some r
    |.ok i=>
     fS (Arr.mk c i)>>=λp=>
     some (p,0)
def iJ (n:Node):Option (cC):=
 if (n.kind==35) then
  lget n.kids 0>>=λy=>
  some (cC.mk y.op_ true)
 else
  some (cC.mk n.op_ false)
def kE (a:Arr×LI×Int×(List aA)):Option (List aA):=match a with
  |(b,l,x,c)=>
   if (decide (x<(List.length b.cells:Int))) then
    lget b.cells x>>=λy=>
    lA y>>=λe=>
    lapp c [e]>>=λd=>
    kE (b,l,(w64 (x+1)),d)
   else
    some c
 partial_fixpoint
def rA (a:Arr):Option (Nat×Nat×LI×(List aA)):=
 lapp ([]:LI) a.shape>>=λl=>
 (
  kE (a,l,0,([]:List aA))
 : Option (List aA))>>=λb=>
 some ((List.length l),(List.length b),l,b)
def nY (a:cC×Arr×Nat×Nat×LI×Int×Int×Int×Int×Int×(List aA)×Int×(List aA)):Option (Except (Arr×Int) (List aA)):=match a with
  |(f,p,n,k,b,r,e,i,m,o,l,d,g)=>
   if (decide (d<(List.length l:Int))) then
    lto l (w64 (d+1))>>=λq=>
    tX f q>>=λ(s,h)=>
    if (h != 0) then
     some (.error ((Arr.mk [] []),h))
    else
     jO (w64 ((w64 ((w64 ((w64 (m*e))*i))+o))+(w64 (d*e)))) k>>=λj=>
     oL g j s>>=λc=>
     nY (f,p,n,k,b,r,e,i,m,o,l,(w64 (d+1)),c)
   else
    some (.ok g)
 partial_fixpoint
def lO (a:cC×Arr×Nat×Nat×LI×Int×Int×Int×Int×Int×(List aA)):Option (Except (Arr×Int) (List aA)):=match a with
  |(f,g,n,j,b,k,c,d,h,e,i)=>
   if (decide (e<c)) then
    tG g.cells (w64 ((w64 ((w64 (h*c))*d))+e)) c d>>=λl=>
    (
     nY (f,g,n,j,b,k,c,d,h,e,l,1,i)
    : Option (Except (Arr×Int) (List aA)))>>=λo=>match o with
    |.error r=>some (.error r)
    |.ok m=>
     lO (f,g,n,j,b,k,c,d,h,(w64 (e+1)),m)
   else
    some (.ok i)
 partial_fixpoint
def lM (a:cC×Arr×Nat×Nat×LI×Int×Int×Int×Int×(List aA)):Option (Except (Arr×Int) (List aA)):=match a with
  |(f,e,n,i,b,c,j,h,d,g)=>
   if (decide (d<c)) then
    (
     lO (f,e,n,i,b,c,j,h,d,0,g)
    : Option (Except (Arr×Int) (List aA)))>>=λl=>match l with
    |.error r=>some (.error r)
    |.ok k=>
     lM (f,e,n,i,b,c,j,h,(w64 (d+1)),k)
   else
    some (.ok g)
 partial_fixpoint
def wN (f:cC) (a:Arr) (j:Bool):Option (Arr×Int):=
 kQ f [a]>>=λe=>
 if (e != 0) then
  some ((Arr.mk [] []),e)
 else
  rA a>>=λ(n,c,b,d)=>
  if ((List.length a.shape:Int)==0) then
   wU c d>>=λh=>
   wU n b>>=λo=>
   some ((Arr.mk o h),0)
  else
   wO a j>>=λx=>
   tZ a.shape x>>=λ(l,q,k)=>
   (
    lM (f,a,n,c,b,l,q,k,0,d)
   : Option (Except (Arr×Int) (List aA)))>>=λm=>match m with
   |.error r=>some r
   |.ok g=>
    wU c g>>=λi=>
    wU n b>>=λp=>
    some ((Arr.mk p i),0)
def Ab0 (a:Int):Option (Int×Int):=
 Ab1 0 a>>=λ(x,b)=>
 some (x,b)
def AiE (a:Int):Option (Int):=
 if (decide (a<0)) then
  some (-1)
 else
  if (decide (a>0)) then
   some 1
  else
   some 0
def AiD (a:Int):Option (Int×Int):=
 if (decide (a<0)) then
  Ab0 a>>=λ(x,b)=>
  some (x,b)
 else
  some (a,0)
def xS (a:Int) (n:Int):Option (Int×Int):=
 if (a==1) then
  Ab0 n>>=λ(x,b)=>
  some (x,b)
 else
  if (a==2) then
   AiE n>>=λc=>
   some (c,0)
  else
   if (a==3) then
    AiD n>>=λ(d,e)=>
    some (d,e)
   else
    if (n != 0) then
     if (n != 1) then
      some (0,5)
     else
      some ((w64 (1-n)),0)
    else
     some ((w64 (1-n)),0)
def nV (a:Int×Arr×LI×Int×(List aA)):Option (Except (Arr×Int) (List aA)):=match a with
  |(e,b,l,c,f)=>
   if (decide (c<(List.length b.cells:Int))) then
    lget b.cells c>>=λy=>
    if (y.kind != 0) then
     some (.error ((Arr.mk [] []),5))
    else
     xS e y.n>>=λ(n,d)=>
     if (d != 0) then
      some (.error ((Arr.mk [] []),d))
     else
      lapp f [(aA.mk 0 n [])]>>=λg=>
      nV (e,b,l,(w64 (c+1)),g)
   else
    some (.ok f)
 partial_fixpoint
def tF (a:Int) (b:Arr):Option (Arr×Int):=
 jD b>>=λe=>
 if (e != 0) then
  some ((Arr.mk [] []),e)
 else
  (
   if (a==1) then
    some (a==1)
   else
    if (a==2) then
     some (a==2)
    else
     if (a==3) then
      some (a==3)
     else
      some (a==4)
  : Option (Bool))>>=λx=>
  if x then
   lapp [] b.shape>>=λl=>
   (
    nV (a,b,l,0,[])
   : Option (Except (Arr×Int) (List aA)))>>=λd=>match d with
   |.error r=>some r
   |.ok c=>
    some ((Arr.mk l c),0)
  else
   if (a==19) then
    some ((Arr.mk [] []),10)
   else
    some ((Arr.mk [] []),1)
def jZ (a:(List Arr)×Int):Option (Except (Int) (Unit)):=match a with
  |(l,x)=>
   if (decide (x<(List.length l:Int))) then
    lget l x>>=λy=>
    jD y>>=λe=>
    if (e != 0) then
     some (.error e)
    else
     jZ (l,(w64 (x+1)))
   else
    some (.ok ())
 partial_fixpoint
def qK (l:(List Arr)):Option (Int):=
 (
  jZ (l,0)
 : Option (Except (Int) (Unit)))>>=λa=>match a with
 |.error r=>some r
 |.ok _=>
  some 0
def mN (a:(List aA)×Int):Option (Except (Bool) (Unit)):=match a with
  |(l,x)=>
   if (decide (x<(List.length l:Int))) then
    lget l x>>=λy=>
    if (y.kind==2) then
     some (.error false)
    else
     lget l 0>>=λb=>
     if (y.kind != b.kind) then
      some (.error false)
     else
      mN (l,(w64 (x+1)))
   else
    some (.ok ())
 partial_fixpoint
def xX (l:(List aA)):Option (Bool):=
 (
  mN (l,0)
 : Option (Except (Bool) (Unit)))>>=λa=>match a with
 |.error r=>some r
 |.ok _=>
  some true
def mM (a:Arr×Int×Int×(List (List aA))×Int):Option ((List (List aA))):=match a with
  |(b,k,c,l,x)=>
   if (decide (x<c)) then
    Ag0 b.cells (w64 (x*k)) (w64 ((w64 (x+1))*k))>>=λd=>
    lapp l [d]>>=λe=>
    mM (b,k,c,e,(w64 (x+1)))
   else
    some l
 partial_fixpoint
def uB (a:Arr):Option ((List (List aA))):=
 lget a.shape 0>>=λy=>
 if (y==0) then
  some []
 else
  lget a.shape 0>>=λc=>
  idiv .i64 (List.length a.cells:Int) c>>=λk=>
  lget a.shape 0>>=λd=>
  (
   mM (a,k,d,[],0)
  : Option ((List (List aA))))>>=λb=>
  some b
def fM (a:Int) (b:Int):Option (Int):=
 if (decide (a<b)) then
  some (-1)
 else
  if (decide (a>b)) then
   some 1
  else
   some 0
def pL (a:Int) (b:Int):Option (Int):=
 if (decide (a<b)) then
  some (-1)
 else
  if (decide (a>b)) then
   some 1
  else
   some 0
def Ad2 (i:Int) (a:Arr) (b:Arr):Option (Int):=
 lget a.shape i>>=λy=>
 lget b.shape i>>=λc=>
 fM y c>>=λx=>
 some x
def dU (a:Int×Arr×Arr×Int):Option (Except (Int) (Unit)):=match a with
  |(n,b,c,x)=>
   if (decide (x<n)) then
    Ad2 x b c>>=λo=>
    if (o != 0) then
     some (.error o)
    else
     dU (n,b,c,(w64 (x+1)))
   else
    some (.ok ())
 partial_fixpoint
def mY (n:Int) (b:Arr) (a:Arr):Option (Int):=
 (
  dU (n,b,a,0)
 : Option (Except (Int) (Unit)))>>=λc=>match c with
 |.error r=>some r
 |.ok _=>
  some 0
mutual
def nT (a:aA×aA):Option (Int):=match a with
  |(c,b)=>
   fM c.kind b.kind>>=λo=>
   if (o != 0) then
    some o
   else
    pL c.n b.n>>=λd=>
    if (d != 0) then
     if (d==0) then
      fM (List.length c.box:Int) (List.length b.box:Int)>>=λx=>
      some x
     else
      some d
    else
     if ((List.length c.box:Int)==0) then
      if (d==0) then
       fM (List.length c.box:Int) (List.length b.box:Int)>>=λe=>
       some e
      else
       some d
     else
      if ((List.length b.box:Int)==0) then
       if (d==0) then
        fM (List.length c.box:Int) (List.length b.box:Int)>>=λf=>
        some f
       else
        some d
      else
       lget c.box 0>>=λy=>
       lget b.box 0>>=λh=>
       yT (y,h)>>=λg=>
       some g
 partial_fixpoint
def yT (a:Arr×Arr):Option (Int):=match a with
  |(c,b)=>
   fM (List.length c.shape:Int) (List.length b.shape:Int)>>=λo=>
   if (o != 0) then
    some o
   else
    mY (List.length c.shape:Int) c b>>=λd=>
    if (d != 0) then
     some d
    else
     mZ ((if (List.length b.cells:Int)<(List.length c.cells:Int) then (List.length b.cells:Int) else (List.length c.cells:Int)),c,b)>>=λe=>
     if (e != 0) then
      some e
     else
      fM (List.length c.cells:Int) (List.length b.cells:Int)>>=λx=>
      some x
 partial_fixpoint
def dV (a:Int×Arr×Arr×Int):Option (Except (Int) (Unit)):=match a with
  |(n,b,c,x)=>
   if (decide (x<n)) then
    Ad3 (x,b,c)>>=λo=>
    if (o != 0) then
     some (.error o)
    else
     dV (n,b,c,(w64 (x+1)))
   else
    some (.ok ())
 partial_fixpoint
def mZ (a:Int×Arr×Arr):Option (Int):=match a with
  |(n,b,c)=>
   (
    dV (n,b,c,0)
   : Option (Except (Int) (Unit)))>>=λd=>match d with
   |.error r=>some r
   |.ok _=>
    some 0
 partial_fixpoint
def Ad3 (a:Int×Arr×Arr):Option (Int):=match a with
  |(i,b,c)=>
   lget b.cells i>>=λy=>
   lget c.cells i>>=λd=>
   nT (y,d)>>=λx=>
   some x
 partial_fixpoint
end
def bX (a:(List aA)×(List aA)×Int):Option (Except (Int) (Unit)):=match a with
  |(b,d,x)=>
   if (decide (x<(List.length b:Int))) then
    lget b x>>=λy=>
    if (decide (x>=(List.length d:Int))) then
     some (.error 1)
    else
     lget d x>>=λe=>
     nT (y,e)>>=λc=>
     if (c != 0) then
      some (.error c)
     else
      bX (b,d,(w64 (x+1)))
   else
    some (.ok ())
 partial_fixpoint
def cN (a:(List aA)) (b:(List aA)):Option (Int):=
 (
  bX (a,b,0)
 : Option (Except (Int) (Unit)))>>=λc=>match c with
 |.error r=>some r
 |.ok _=>
  if (decide ((List.length a:Int)<(List.length b:Int))) then
   some (-1)
  else
   some 0
def lR (i:Int) (k:Int) (a:(List (List aA))) (b:Bool):Option (Int):=
 lget a i>>=λy=>
 lget a k>>=λc=>
 cN y c>>=λo=>
 if b then
  some (w64 (0-o))
 else
  some o
def aX (a:Nat×Int×Int×((List (List aA)))×Bool×Int×Int×LI):Option LI:=match a with
  |(n,d,b,e,f,i,j,c)=>
   if (decide (j>d)) then
    jO j n>>=λk=>
    nM c k>>=λy=>
    jO (w64 (j-1)) n>>=λl=>
    nM c l>>=λr=>
    lR y r e f>>=λx=>
    if (decide (x<0)) then
     jO (w64 (j-1)) n>>=λm=>
     nM c m>>=λs=>
     jO j n>>=λo=>
     nM c o>>=λt=>
     jO j n>>=λp=>
     oL c p s>>=λg=>
     jO (w64 (j-1)) n>>=λq=>
     oL g q t>>=λh=>
     aX (n,d,b,e,f,i,(w64 (j-1)),h)
    else
     some c
   else
    some c
 partial_fixpoint
def aW (a:Nat×Int×Int×((List (List aA)))×Bool×Int×LI):Option LI:=match a with
  |(n,c,b,d,e,i,f)=>
   if (decide (i<b)) then
    (
     aX (n,c,b,d,e,i,i,f)
    : Option LI)>>=λg=>
    aW (n,c,b,d,e,(w64 (i+1)),g)
   else
    some f
 partial_fixpoint
def bP (n:Nat) (a:Int) (b:Int) (f:LI) (c:(List (List aA))) (d:Bool):Option LI:=
 (
  aW (n,a,b,c,d,(w64 (a+1)),f)
 : Option LI)>>=λe=>
 some e
def bB (a:Nat×Int×Int×Int×((List (List aA)))×Bool×Int×LI):Option LI:=match a with
  |(n,d,b,e,f,g,i,c)=>
   if (decide (i<e)) then
    jO (w64 (b+i)) n>>=λj=>
    nM c j>>=λy=>
    jO (w64 (d+i)) n>>=λl=>
    nM c l>>=λp=>
    jO (w64 (d+i)) n>>=λm=>
    oL c m y>>=λh=>
    jO (w64 (b+i)) n>>=λo=>
    oL h o p>>=λk=>
    bB (n,d,b,e,f,g,(w64 (i+1)),k)
   else
    some c
 partial_fixpoint
def bL (n:Nat) (a:Int) (b:Int) (g:Int) (f:LI) (c:(List (List aA))) (d:Bool):Option LI:=
 (
  bB (n,a,b,g,c,d,0,f)
 : Option LI)>>=λe=>
 some e
def bG (a:Nat×Int×((List (List aA)))×Bool×Int×LI×Int):Option (Int×LI):=match a with
  |(n,m,b,c,i,d,j)=>
   if (i != j) then
    if (decide (i>j)) then
     bL n (w64 (m-i)) m j d b c>>=λx=>
     bG (n,m,b,c,(w64 (i-j)),x,j)
    else
     bL n (w64 (m-i)) (w64 ((w64 (m+j))-i)) i d b c>>=λe=>
     bG (n,m,b,c,i,e,(w64 (j-i)))
   else
    some (i,d)
 partial_fixpoint
def cP (n:Nat) (e:Int) (m:Int) (b:Int) (f:LI) (a:(List (List aA))) (c:Bool):Option LI:=
 (
  bG (n,m,a,c,(w64 (m-e)),f,(w64 (b-m)))
 : Option (Int×LI))>>=λ(d,g)=>
 bL n (w64 (m-d)) m d g a c>>=λh=>
 some h
def aM (a:Nat×Int×LI×((List (List aA)))×Bool×Int×Int):Option (Int):=match a with
  |(n,c,b,d,e,i,j)=>
   if (decide (i<j)) then
    jO (w64 (Int.fdiv (IntKind.u64.wrap (w64 (i+j))) (2 ^ 1))) n>>=λf=>
    nM b f>>=λy=>
    jO c n>>=λg=>
    nM b g>>=λh=>
    lR y h d e>>=λx=>
    if (decide (x<0)) then
     aM (n,c,b,d,e,(w64 ((w64 (Int.fdiv (IntKind.u64.wrap (w64 (i+j))) (2 ^ 1)))+1)),j)
    else
     aM (n,c,b,d,e,i,(w64 (Int.fdiv (IntKind.u64.wrap (w64 (i+j))) (2 ^ 1))))
   else
    some i
 partial_fixpoint
def aT (a:Nat×((List (List aA)))×Bool×Int×Int×LI):Option LI:=match a with
  |(n,d,e,c,k,b)=>
   if (decide (k<(w64 (c-1)))) then
    jO (w64 (k+1)) n>>=λh=>
    nM b h>>=λm=>
    jO k n>>=λi=>
    nM b i>>=λo=>
    jO k n>>=λj=>
    oL b j m>>=λf=>
    jO (w64 (k+1)) n>>=λl=>
    oL f l o>>=λg=>
    aT (n,d,e,c,(w64 (k+1)),g)
   else
    some b
 partial_fixpoint
def aN (a:Nat×Int×LI×((List (List aA)))×Bool×Int×Int):Option (Int):=match a with
  |(n,m,d,e,f,b,c)=>
   if (decide (b<c)) then
    jO m n>>=λg=>
    nM d g>>=λj=>
    jO (w64 (Int.fdiv (IntKind.u64.wrap (w64 (b+c))) (2 ^ 1))) n>>=λh=>
    nM d h>>=λk=>
    lR j k e f>>=λi=>
    if (!(decide (i<0))) then
     aN (n,m,d,e,f,(w64 ((w64 (Int.fdiv (IntKind.u64.wrap (w64 (b+c))) (2 ^ 1)))+1)),c)
    else
     aN (n,m,d,e,f,b,(w64 (Int.fdiv (IntKind.u64.wrap (w64 (b+c))) (2 ^ 1))))
   else
    some b
 partial_fixpoint
def aU (a:Nat×((List (List aA)))×Bool×Int×Int×LI):Option LI:=match a with
  |(n,e,f,d,b,c)=>
   if (decide (b>d)) then
    jO (w64 (b-1)) n>>=λi=>
    nM c i>>=λm=>
    jO b n>>=λj=>
    nM c j>>=λo=>
    jO b n>>=λk=>
    oL c k m>>=λg=>
    jO (w64 (b-1)) n>>=λl=>
    oL g l o>>=λh=>
    aU (n,e,f,d,(w64 (b-1)),h)
   else
    some c
 partial_fixpoint
def aO (a:Nat×Int×Int×Int×LI×((List (List aA)))×Bool×Int×Int):Option (Int):=match a with
  |(n,f,m,b,e,g,h,c,d)=>
   if (decide (c<d)) then
    jO (w64 ((w64 ((w64 ((w64 (Int.fdiv (IntKind.u64.wrap (w64 (f+b))) (2 ^ 1)))+m))-1))-(w64 (Int.fdiv (IntKind.u64.wrap (w64 (c+d))) (2 ^ 1))))) n>>=λi=>
    nM e i>>=λl=>
    jO (w64 (Int.fdiv (IntKind.u64.wrap (w64 (c+d))) (2 ^ 1))) n>>=λj=>
    nM e j>>=λo=>
    lR l o g h>>=λk=>
    if (!(decide (k<0))) then
     aO (n,f,m,b,e,g,h,(w64 ((w64 (Int.fdiv (IntKind.u64.wrap (w64 (c+d))) (2 ^ 1)))+1)),d)
    else
     aO (n,f,m,b,e,g,h,c,(w64 (Int.fdiv (IntKind.u64.wrap (w64 (c+d))) (2 ^ 1))))
   else
    some c
 partial_fixpoint
def aD (a:Nat×Int×Int×Int×LI×(List (List aA))×Bool):Option LI:=match a with
  |(n,c,m,b,g,e,f)=>
   if ((w64 (m-c))==1) then
    (
     aM (n,c,g,e,f,m,b)
    : Option (Int))>>=λo=>
    (
     aT (n,e,f,o,c,g)
    : Option LI)>>=λk=>
    some k
   else
    if ((w64 (b-m))==1) then
     (
      aN (n,m,g,e,f,c,m)
     : Option (Int))>>=λp=>
     (
      aU (n,e,f,p,m,g)
     : Option LI)>>=λl=>
     some l
    else
     (
      if (decide (m>(w64 (Int.fdiv (IntKind.u64.wrap (w64 (c+b))) (2 ^ 1))))) then
       some ((w64 ((w64 ((w64 (Int.fdiv (IntKind.u64.wrap (w64 (c+b))) (2 ^ 1)))+m))-b)),(w64 (Int.fdiv (IntKind.u64.wrap (w64 (c+b))) (2 ^ 1))))
      else
       some (c,m)
     : Option (Int×Int))>>=λ(r,q)=>
     (
      aO (n,c,m,b,g,e,f,r,q)
     : Option (Int))>>=λd=>
     if (decide (d<m)) then
      (
       if (decide (m<(w64 ((w64 ((w64 (Int.fdiv (IntKind.u64.wrap (w64 (c+b))) (2 ^ 1)))+m))-d)))) then
        cP n d m (w64 ((w64 ((w64 (Int.fdiv (IntKind.u64.wrap (w64 (c+b))) (2 ^ 1)))+m))-d)) g e f>>=λs=>
        some s
       else
        some g
      : Option LI)>>=λh=>
      if (decide (c<d)) then
       (
        if (decide (d<(w64 (Int.fdiv (IntKind.u64.wrap (w64 (c+b))) (2 ^ 1))))) then
         aD (n,c,d,(w64 (Int.fdiv (IntKind.u64.wrap (w64 (c+b))) (2 ^ 1))),h,e,f)>>=λt=>
         some t
        else
         some h
       : Option LI)>>=λi=>
       if (decide ((w64 (Int.fdiv (IntKind.u64.wrap (w64 (c+b))) (2 ^ 1)))<(w64 ((w64 ((w64 (Int.fdiv (IntKind.u64.wrap (w64 (c+b))) (2 ^ 1)))+m))-d)))) then
        if (decide ((w64 ((w64 ((w64 (Int.fdiv (IntKind.u64.wrap (w64 (c+b))) (2 ^ 1)))+m))-d))<b)) then
         aD (n,(w64 (Int.fdiv (IntKind.u64.wrap (w64 (c+b))) (2 ^ 1))),(w64 ((w64 ((w64 (Int.fdiv (IntKind.u64.wrap (w64 (c+b))) (2 ^ 1)))+m))-d)),b,i,e,f)>>=λu=>
         some u
        else
         some i
       else
        some i
      else
       if (decide ((w64 (Int.fdiv (IntKind.u64.wrap (w64 (c+b))) (2 ^ 1)))<(w64 ((w64 ((w64 (Int.fdiv (IntKind.u64.wrap (w64 (c+b))) (2 ^ 1)))+m))-d)))) then
        if (decide ((w64 ((w64 ((w64 (Int.fdiv (IntKind.u64.wrap (w64 (c+b))) (2 ^ 1)))+m))-d))<b)) then
         aD (n,(w64 (Int.fdiv (IntKind.u64.wrap (w64 (c+b))) (2 ^ 1))),(w64 ((w64 ((w64 (Int.fdiv (IntKind.u64.wrap (w64 (c+b))) (2 ^ 1)))+m))-d)),b,h,e,f)>>=λv=>
         some v
        else
         some h
       else
        some h
     else
      if (decide (c<d)) then
       (
        if (decide (d<(w64 (Int.fdiv (IntKind.u64.wrap (w64 (c+b))) (2 ^ 1))))) then
         aD (n,c,d,(w64 (Int.fdiv (IntKind.u64.wrap (w64 (c+b))) (2 ^ 1))),g,e,f)>>=λw=>
         some w
        else
         some g
       : Option LI)>>=λj=>
       if (decide ((w64 (Int.fdiv (IntKind.u64.wrap (w64 (c+b))) (2 ^ 1)))<(w64 ((w64 ((w64 (Int.fdiv (IntKind.u64.wrap (w64 (c+b))) (2 ^ 1)))+m))-d)))) then
        if (decide ((w64 ((w64 ((w64 (Int.fdiv (IntKind.u64.wrap (w64 (c+b))) (2 ^ 1)))+m))-d))<b)) then
         aD (n,(w64 (Int.fdiv (IntKind.u64.wrap (w64 (c+b))) (2 ^ 1))),(w64 ((w64 ((w64 (Int.fdiv (IntKind.u64.wrap (w64 (c+b))) (2 ^ 1)))+m))-d)),b,j,e,f)>>=λx=>
         some x
        else
         some j
       else
        some j
      else
       if (decide ((w64 (Int.fdiv (IntKind.u64.wrap (w64 (c+b))) (2 ^ 1)))<(w64 ((w64 ((w64 (Int.fdiv (IntKind.u64.wrap (w64 (c+b))) (2 ^ 1)))+m))-d)))) then
        if (decide ((w64 ((w64 ((w64 (Int.fdiv (IntKind.u64.wrap (w64 (c+b))) (2 ^ 1)))+m))-d))<b)) then
         aD (n,(w64 (Int.fdiv (IntKind.u64.wrap (w64 (c+b))) (2 ^ 1))),(w64 ((w64 ((w64 (Int.fdiv (IntKind.u64.wrap (w64 (c+b))) (2 ^ 1)))+m))-d)),b,g,e,f)>>=λy=>
         some y
        else
         some g
       else
        some g
 partial_fixpoint
def bH (a:Nat×Int×((List (List aA)))×Bool×Int×Int×LI):Option (Int×LI):=match a with
  |(n,g,b,e,d,c,f)=>
   if (decide (c<=g)) then
    bP n d c f b e>>=λx=>
    bH (n,g,b,e,c,(w64 (c+20)),x)
   else
    some (d,f)
 partial_fixpoint
def bK (a:Nat×Int×((List (List aA)))×Bool×Int×Int×Int×LI):Option (Int×LI):=match a with
  |(n,h,b,f,e,d,c,g)=>
   if (decide (c<=h)) then
    aD (n,d,(w64 (d+e)),c,g,b,f)>>=λi=>
    bK (n,h,b,f,e,c,(w64 (c+(w64 (2*e)))),i)
   else
    some (d,g)
 partial_fixpoint
def bI (a:Nat×Int×((List (List aA)))×Bool×Int×LI):Option LI:=match a with
  |(n,d,b,f,c,g)=>
   if (decide (c<d)) then
    (
     bK (n,d,b,f,c,0,(w64 (2*c)),g)
    : Option (Int×LI))>>=λ(e,h)=>
    (
     if (decide ((w64 (e+c))<d)) then
      aD (n,e,(w64 (e+c)),d,h,b,f)>>=λj=>
      some j
     else
      some h
    : Option LI)>>=λi=>
    bI (n,d,b,f,(w64 (c*2)),i)
   else
    some g
 partial_fixpoint
def dO (n:Nat) (c:Int) (f:LI) (b:(List (List aA))) (a:Bool):Option LI:=
 (
  bH (n,c,b,a,0,20,f)
 : Option (Int×LI))>>=λ(d,g)=>
 bP n d c g b a>>=λh=>
 (
  bI (n,c,b,a,20,h)
 : Option LI)>>=λe=>
 some e
def cJ (n:Nat) (a:LI) (b:(List (List aA))) (c:Bool):Option LI:=
 dO n (n:Int) a b c>>=λx=>
 some x
def mK (a:Arr×Bool×((List (List aA)))×Int×LI):Option LI:=match a with
  |(e,g,c,b,d)=>
   if (decide (b<((Int.toNat (List.length c:Int)):Int))) then
    jO b (Int.toNat (List.length c:Int))>>=λj=>
    oL d j b>>=λf=>
    mK (e,g,c,(w64 (b+1)),f)
   else
    some d
 partial_fixpoint
def mL (a:Arr×Bool×((List (List aA)))×LI×Int×(List aA)):Option (List aA):=match a with
  |(f,g,b,e,c,d)=>
   if (decide (c<((Int.toNat (List.length b:Int)):Int))) then
    jO c (Int.toNat (List.length b:Int))>>=λi=>
    nM e i>>=λh=>
    lapp d [(aA.mk 0 h [])]>>=λl=>
    mL (f,g,b,e,(w64 (c+1)),l)
   else
    some d
 partial_fixpoint
def xV (b:Arr) (c:Bool):Option (Arr×Int):=
 if ((List.length b.shape:Int)==0) then
  some ((Arr.mk [] []),6)
 else
  xX b.cells>>=λx=>
  if (!x) then
   some ((Arr.mk [] []),5)
  else
   uB b>>=λa=>
   xP (List.length a:Int) 0>>=λd=>
   (
    mK (b,c,a,0,d)
   : Option LI)>>=λe=>
   cJ (Int.toNat (List.length a:Int)) e a c>>=λg=>
   (
    mL (b,c,a,g,0,[])
   : Option (List aA))>>=λf=>
   some ((Arr.mk [((Int.toNat (List.length a:Int)):Int)] f),0)
def vN (y:(List aA)) (a:(List aA)):Option (Bool):=
 cN a y>>=λx=>
 some (x==0)
def bQ (a:((List (List aA)))×(List aA)×Int):Option (Except (Int) (Unit)):=match a with
  |(s,b,x)=>
   if (decide (x<(List.length s:Int))) then
    lget s x>>=λy=>
    vN y b>>=λc=>
    if c then
     some (.error x)
    else
     bQ (s,b,(w64 (x+1)))
   else
    some (.ok ())
 partial_fixpoint
def eH (s:(List (List aA))) (b:(List aA)):Option (Int):=
 (
  bQ (s,b,0)
 : Option (Except (Int) (Unit)))>>=λa=>match a with
 |.error r=>some r
 |.ok _=>
  some (-1)
def cI (s:(List (List aA))) (b:(List aA)):Option (Bool):=
 eH s b>>=λx=>
 some (decide (x>=0))
def kV (a:Arr×LI×Nat×LI×((List (List aA)))×(List (List aA))×Int×(List aA)):Option ((List (List aA))×(List aA)):=match a with
  |(x,j,k,b,e,c,f,d)=>
   if (decide (f<(List.length e:Int))) then
    (
     lget e f>>=λy=>
     cI c y>>=λm=>
     if (!m) then
      lapp c [y]>>=λg=>
      lapp d y>>=λl=>
      some (g,l)
     else
      some (c,d)
    : Option ((List (List aA))×(List aA)))>>=λ(h,i)=>
    kV (x,j,k,b,e,h,(w64 (f+1)),i)
   else
    some (c,d)
 partial_fixpoint
def vA (d:Arr):Option (Arr):=
 fS d>>=λx=>
 (
  if ((List.length x.shape:Int)==0) then
   some [1]
  else
   some x.shape
 : Option LI)>>=λa=>
 sV a>>=λ(c,b)=>
 uB (Arr.mk a x.cells)>>=λi=>
 (
  kV (x,a,c,b,i,[],0,[])
 : Option ((List (List aA))×(List aA)))>>=λ(f,g)=>
 jO 0 c>>=λj=>
 oL b j (List.length f:Int)>>=λe=>
 wU c e>>=λh=>
 some (Arr.mk h g)
def sB (a:Int) (b:Arr):Option (Arr×Int):=
 qK [b]>>=λe=>
 if (e != 0) then
  some ((Arr.mk [] []),e)
 else
  (
   if (a==12) then
    some (a==12)
   else
    some (a==13)
  : Option (Bool))>>=λx=>
  if x then
   xV b (a==13)>>=λ(c,d)=>
   some (c,d)
  else
   if (a==14) then
    vA b>>=λf=>
    some (f,0)
   else
    some ((Arr.mk [] []),1)
def jW (a:Arr×aA×Int×Int×(List aA)):Option (List aA):=match a with
  |(d,e,c,x,b)=>
   if (decide (x<c)) then
    lapp b [(aA.mk 0 x [])]>>=λl=>
    jW (d,e,c,(w64 (x+1)),l)
   else
    some b
 partial_fixpoint
def tI (a:Arr):Option (Arr×Int):=
 if (decide ((List.length a.shape:Int)>0)) then
  some ((Arr.mk [] []),6)
 else
  lget a.cells 0>>=λy=>
  if (y.kind != 0) then
   some ((Arr.mk [] []),5)
  else
   lget a.cells 0>>=λd=>
   if (decide (d.n<0)) then
    some ((Arr.mk [] []),5)
   else
    lget a.cells 0>>=λe=>
    if (decide (e.n>16384)) then
     some ((Arr.mk [] []),12)
    else
     lget a.cells 0>>=λb=>
     lget [b.n] 0>>=λf=>
     (
      jW (a,b,f,0,[])
     : Option (List aA))>>=λc=>
     some ((Arr.mk [b.n] c),0)
def Af8 (n:Int):Option (Arr):=
 some (Arr.mk [] [(aA.mk 0 n [])])
def tJ (a:Arr):Option (Int):=
 if ((List.length a.shape:Int)==0) then
  some 1
 else
  lget a.shape 0>>=λy=>
  some y
def iP (a:Arr×Int×LI×Int×Int):Option (Int):=match a with
  |(c,e,l,b,x)=>
   if (decide (x<(List.length l:Int))) then
    lget l x>>=λd=>
    iP (c,e,l,(w64 (b*d)),(w64 (x+1)))
   else
    some b
 partial_fixpoint
def iQ (a:Arr×Int×Int×Int×(List aA)×Int):Option (List aA):=match a with
  |(d,c,f,b,e,i)=>
   if (decide (i>=0)) then
    Ag0 d.cells (w64 (b+(w64 (i*c)))) (w64 (b+(w64 ((w64 (i+1))*c))))>>=λg=>
    lapp e g>>=λh=>
    iQ (d,c,f,b,h,(w64 (i-1)))
   else
    some e
 partial_fixpoint
def gF (a:Arr×Int×Int×(List aA)×Int):Option (List aA):=match a with
  |(c,e,b,f,d)=>
   if (decide (d<(List.length c.cells:Int))) then
    (
     iQ (c,e,b,d,f,(w64 (b-1)))
    : Option (List aA))>>=λg=>
    gF (c,e,b,g,(w64 (d+(w64 (b*e)))))
   else
    some f
 partial_fixpoint
def mE (a:Arr) (b:Int):Option (Arr):=
 if ((List.length a.shape:Int)==0) then
  some a
 else
  lfrom a.shape (w64 (b+1))>>=λl=>
  (
   iP (a,b,l,1,0)
  : Option (Int))>>=λd=>
  lget a.shape b>>=λc=>
  (
   gF (a,d,c,[],0)
  : Option (List aA))>>=λe=>
  some (Arr.mk a.shape e)
def gX (a:Arr×Nat×LI×Int×LI×(List aA)×Int×Int):Option (Int):=match a with
  |(c,x,f,g,d,e,n,b)=>
   if (decide (b<((Int.toNat (x:Int)):Int))) then
    lget c.shape b>>=λy=>
    jO (w64 ((w64 (((Int.toNat (x:Int)):Int)-1))-b)) (Int.toNat (x:Int))>>=λj=>
    nM d j>>=λh=>
    gX (c,x,f,g,d,e,(w64 ((w64 (n*y))+h)),(w64 (b+1)))
   else
    some n
 partial_fixpoint
def gY (a:Arr×Nat×LI×Int×(List aA)×Int×LI):Option (Except LI LI):=match a with
  |(e,x,d,n,l,i,b)=>
   if (decide (i>=0)) then
    jO i (Int.toNat (x:Int))>>=λg=>
    nM b g>>=λo=>
    jO i (Int.toNat (x:Int))>>=λh=>
    oL b h (w64 (o+1))>>=λc=>
    jO i (Int.toNat (x:Int))>>=λj=>
    nM c j>>=λp=>
    jO i x>>=λk=>
    nM d k>>=λq=>
    if (decide (p<q)) then
     some (.error c)
    else
     jO i (Int.toNat (x:Int))>>=λm=>
     oL c m 0>>=λf=>
     gY (e,x,d,n,l,(w64 (i-1)),f)
   else
    some (.ok b)
 partial_fixpoint
def fO (a:Arr×Nat×LI×Int×LI×(List aA)):Option (LI×(List aA)):=match a with
  |(b,x,f,c,d,e)=>
   if (decide (c<(List.length b.cells:Int))) then
    (
     (
      gX (b,x,f,c,d,e,0,0)
     : Option (Int))>>=λj=>
     lget b.cells j>>=λn=>
     lapp e [n]>>=λl=>
     gY (b,x,f,c,l,(w64 (((Int.toNat (x:Int)):Int)-1)),d)>>=λm=>match m with
     |.error h=>
      some (h,l)
     |.ok g=>
      some (g,l)
    : Option (LI×(List aA)))>>=λ(i,k)=>
    fO (b,x,f,(w64 (c+1)),i,k)
   else
    some (d,e)
 partial_fixpoint
def qH (a:Arr):Option (Arr):=
 sV a.shape>>=λ(x,b)=>
 AbQ x b>>=λc=>
 xP (x:Int) 0>>=λd=>
 (
  fO (a,x,c,0,d,[])
 : Option (LI×(List aA)))>>=λ(g,e)=>
 wU x c>>=λf=>
 some (Arr.mk f e)
mutual
def kZ (a:Arr×Int×Int):Option (Int):=match a with
  |(b,n,x)=>
   if (decide (x<(List.length b.cells:Int))) then
    (
     lget b.cells x>>=λy=>
     if (decide ((List.length y.box:Int)>0)) then
      lget y.box 0>>=λe=>
      vW e>>=λc=>
      some (if n<(w64 (1+c)) then (w64 (1+c)) else n)
     else
      some n
    : Option (Int))>>=λd=>
    kZ (b,d,(w64 (x+1)))
   else
    some n
 partial_fixpoint
def vW (a:Arr):Option (Int):=match a with
  |a_=>
   (
    kZ (a_,0,0)
   : Option (Int))>>=λb=>
   some b
 partial_fixpoint
end
def uW (a:Arr):Option (Arr×Int):=
 if (decide ((List.length a.shape:Int)>0)) then
  some ((Arr.mk [] []),6)
 else
  lget a.cells 0>>=λy=>
  if (y.kind==2) then
   lget a.cells 0>>=λb=>
   lget b.box 0>>=λc=>
   some (c,0)
  else
   some (a,0)
def tH (a:Arr):Option (Arr×Int):=
 if ((List.length a.shape:Int)==0) then
  some (a,0)
 else
  lget a.shape 0>>=λy=>
  if (y==0) then
   some ((Arr.mk [] []),8)
  else
   lfrom a.shape 1>>=λl=>
   lget a.shape 0>>=λc=>
   idiv .i64 (List.length a.cells:Int) c>>=λq=>
   lto a.cells q>>=λb=>
   some ((Arr.mk l b),0)
def oB (a:Arr×Int×(List aA)):Option (List aA):=match a with
  |(x,b,c)=>
   if (decide (b<(List.length x.shape:Int))) then
    lget x.shape b>>=λd=>
    lapp c [(aA.mk 0 d [])]>>=λl=>
    oB (x,(w64 (b+1)),l)
   else
    some c
 partial_fixpoint
def zS (a:Int) (b:Arr):Option (Arr×Int):=
 jD b>>=λe=>
 if (e != 0) then
  some ((Arr.mk [] []),e)
 else
  fS b>>=λx=>
  if (a==5) then
   tI x>>=λ(f,k)=>
   some (f,k)
  else
   if (a==6) then
    (
     oB (x,0,[])
    : Option (List aA))>>=λd=>
    some ((Arr.mk [(List.length x.shape:Int)] d),0)
   else
    if (a==7) then
     tJ x>>=λl=>
     Af8 l>>=λm=>
     some (m,0)
    else
     if (a==8) then
      some ((Arr.mk [(List.length x.cells:Int)] x.cells),0)
     else
      if (a==9) then
       mE x 0>>=λn=>
       some (n,0)
      else
       if (a==10) then
        mE x (w64 ((List.length x.shape:Int)-1))>>=λo=>
        some (o,0)
       else
        if (a==11) then
         qH x>>=λp=>
         some (p,0)
        else
         if (a==15) then
          vW x>>=λq=>
          if (decide (q>=8)) then
           some ((Arr.mk [] []),15)
          else
           some ((Arr.mk [] [(aA.mk 2 0 [x])]),0)
         else
          if (a==16) then
           uW x>>=λ(g,h)=>
           some (g,h)
          else
           if (a==17) then
            tH x>>=λ(i,j)=>
            some (i,j)
           else
            if (a==18) then
             if (decide ((List.length x.shape:Int)>=8)) then
              some ((Arr.mk [] []),6)
             else
              lapp [1] x.shape>>=λc=>
              some ((Arr.mk c x.cells),0)
            else
             some ((Arr.mk [] []),1)
def Ab2 (a:Int) (b:Arr):Option (Arr×Int):=
 (
  if (decide (a>=1)) then
   if (decide (a<=4)) then
    tF a b>>=λ(x,d)=>
    some (.error (x,d))
   else
    if (a==19) then
     tF a b>>=λ(o,p)=>
     some (.error (o,p))
    else
     if (a==12) then
      sB a b>>=λ(q,s)=>
      some (.error (q,s))
     else
      if (a==13) then
       sB a b>>=λ(t,u)=>
       some (.error (t,u))
      else
       if (a==14) then
        sB a b>>=λ(v,w)=>
        some (.error (v,w))
       else
        some (.ok ())
  else
   if (a==19) then
    tF a b>>=λ(e,f)=>
    some (.error (e,f))
   else
    if (a==12) then
     sB a b>>=λ(g,h)=>
     some (.error (g,h))
    else
     if (a==13) then
      sB a b>>=λ(i,j)=>
      some (.error (i,j))
     else
      if (a==14) then
       sB a b>>=λ(k,l)=>
       some (.error (k,l))
      else
       some (.ok ())
 : Option (Except (Arr×Int) (Unit)))>>=λc=>match c with
 |.error r=>some r
 |.ok _=>
  zS a b>>=λ(m,n)=>
  some (m,n)
def mD (a:cC×Arr×Arr×LI×Int×aA×Int×(List aA)):Option (Except (Arr×Int) (List aA)):=match a with
  |(f,g,b,l,i,y,c,e)=>
   if (decide (c<(List.length b.cells:Int))) then
    lget b.cells c>>=λk=>
    wM f y k>>=λ(j,d)=>
    if (d != 0) then
     some (.error ((Arr.mk [] []),d))
    else
     lapp e [j]>>=λh=>
     mD (f,g,b,l,i,y,(w64 (c+1)),h)
   else
    some (.ok e)
 partial_fixpoint
def mC (a:cC×Arr×Arr×LI×Int×(List aA)):Option (Except (Arr×Int) (List aA)):=match a with
  |(f,c,b,l,d,e)=>
   if (decide (d<(List.length c.cells:Int))) then
    lget c.cells d>>=λy=>
    (
     mD (f,c,b,l,d,y,0,e)
    : Option (Except (Arr×Int) (List aA)))>>=λh=>match h with
    |.error r=>some (.error r)
    |.ok g=>
     mC (f,c,b,l,(w64 (d+1)),g)
   else
    some (.ok e)
 partial_fixpoint
def tY (f:cC) (a:Arr) (b:Arr):Option (Arr×Int):=
 kQ f [a,b]>>=λe=>
 if (e != 0) then
  some ((Arr.mk [] []),e)
 else
  sV a.shape>>=λ(x,d)=>
  BgN x d b.shape>>=λl=>
  kP l>>=λ(i,c)=>
  if (c != 0) then
   some ((Arr.mk [] []),c)
  else
   (
    mC (f,a,b,l,0,[])
   : Option (Except (Arr×Int) (List aA)))>>=λh=>match h with
   |.error r=>some r
   |.ok g=>
    some ((Arr.mk l g),0)
def gZ (a:LI×Int×Int):Option (Int):=match a with
  |(b,c,i)=>
   if (decide (i<(List.length b:Int))) then
    lget b i>>=λy=>
    gZ (b,(if c<y then y else c),(w64 (i+1)))
   else
    some c
 partial_fixpoint
def qL (a:LI):Option (Int):=
 if (decide ((List.length a:Int)<1)) then
  none
 else
  lget a 0>>=λm=>
  (
   gZ (a,m,1)
  : Option (Int))>>=λb=>
  some b
def iR (a:Arr×LI×Int):Option (Except (LI×Int) LI):=match a with
  |(s,b,x)=>
   if (decide (x<(List.length s.cells:Int))) then
    lget s.cells x>>=λy=>
    if (y.kind != 0) then
     some (.error ([],5))
    else
     if (decide (y.n<0)) then
      some (.error ([],5))
     else
      lapp b [(if 16385<y.n then 16385 else y.n)]>>=λc=>
      iR (s,c,(w64 (x+1)))
   else
    some (.ok b)
 partial_fixpoint
def rT (s:Arr):Option (LI×Int):=
 if (decide ((List.length s.shape:Int)>1)) then
  some ([],6)
 else
  mkcap (List.length s.cells:Int)>>=λd=>
  (
   iR (s,[],0)
  : Option (Except (LI×Int) LI))>>=λb=>match b with
  |.error r=>some r
  |.ok a=>
   if (decide ((List.length a:Int)>8)) then
    some ([],6)
   else
    lapp a [0]>>=λl=>
    qL l>>=λc=>
    if (decide (c>16384)) then
     some ([],12)
    else
     some (a,0)
def gV (a:Arr×Arr×Int):Option (Except (Arr×Int) (Unit)):=match a with
  |(s,b,x)=>
   if (decide (x<(List.length [s,b]:Int))) then
    lget [s,b] x>>=λy=>
    jD y>>=λe=>
    if (e != 0) then
     some (.error ((Arr.mk [] []),e))
    else
     gV (s,b,(w64 (x+1)))
   else
    some (.ok ())
 partial_fixpoint
def gW (a:Arr×Arr×LI×Int×Int×(List aA)):Option (List aA):=match a with
  |(s,b,e,n,c,d)=>
   if (decide (c<n)) then
    irem c (List.length b.cells:Int)>>=λq=>
    lget b.cells q>>=λf=>
    lapp d [f]>>=λl=>
    gW (s,b,e,n,(w64 (c+1)),l)
   else
    some d
 partial_fixpoint
def mQ (a:Arr×Arr×LI×Int×Int×(List aA)):Option (List aA):=match a with
  |(s,b,g,n,c,d)=>
   if (decide (c<n)) then
    irem c (List.length b.cells:Int)>>=λf=>
    lget b.cells f>>=λh=>
    lapp d [h]>>=λe=>
    mQ (s,b,g,n,(w64 (c+1)),e)
   else
    some d
 partial_fixpoint
def qG (s:Arr) (b:Arr):Option (Arr×Int):=
 (
  gV (s,b,0)
 : Option (Except (Arr×Int) (Unit)))>>=λg=>match g with
 |.error r=>some r
 |.ok _=>
  rT s>>=λ(a,c)=>
  if (c != 0) then
   some ((Arr.mk [] []),c)
  else
   kP a>>=λ(n,d)=>
   if (d != 0) then
    some ((Arr.mk [] []),d)
   else
    if (decide (n>0)) then
     if ((List.length b.cells:Int)==0) then
      some ((Arr.mk [] []),7)
     else
      (
       gW (s,b,a,n,0,[])
      : Option (List aA))>>=λe=>
      fS (Arr.mk a e)>>=λh=>
      some (h,0)
    else
     (
      mQ (s,b,a,n,0,[])
     : Option (List aA))>>=λf=>
     fS (Arr.mk a f)>>=λi=>
     some (i,0)
def xW (a:aA) (b:aA):Option (Bool):=
 nT (a,b)>>=λx=>
 some (x==0)
def bU (a:(List aA)×aA×Int):Option (Except (Int) (Unit)):=match a with
  |(s,b,x)=>
   if (decide (x<(List.length s:Int))) then
    lget s x>>=λy=>
    xW y b>>=λc=>
    if c then
     some (.error x)
    else
     bU (s,b,(w64 (x+1)))
   else
    some (.ok ())
 partial_fixpoint
def eO (s:(List aA)) (b:aA):Option (Int):=
 (
  bU (s,b,0)
 : Option (Except (Int) (Unit)))>>=λa=>match a with
 |.error r=>some r
 |.ok _=>
  some (-1)
def uC (l:(List aA)) (c:aA):Option (Int):=
 eO l c>>=λk=>
 if (decide (k>=0)) then
  some k
 else
  some (List.length l:Int)
def rG (a:Arr×Arr×Nat×LI×Int×(List aA)):Option (List aA):=match a with
  |(d,b,x,f,c,e)=>
   if (decide (c<(List.length b.cells:Int))) then
    lget b.cells c>>=λy=>
    uC d.cells y>>=λg=>
    lapp e [(aA.mk 0 g [])]>>=λl=>
    rG (d,b,x,f,(w64 (c+1)),l)
   else
    some e
 partial_fixpoint
def rH (a:Arr×Arr×Nat×LI×Int×(List aA)):Option (List aA):=match a with
  |(c,b,h,f,d,e)=>
   if (decide (d<(List.length c.cells:Int))) then
    lget c.cells d>>=λj=>
    uC b.cells j>>=λi=>
    (
     if (decide (i<(List.length b.cells:Int))) then
      some 1
     else
      some 0
    : Option (Int))>>=λn=>
    lapp e [(aA.mk 0 n [])]>>=λg=>
    rH (c,b,h,f,(w64 (d+1)),g)
   else
    some e
 partial_fixpoint
def Ab4 (f:Int) (a:Arr) (b:Arr):Option (Arr×Int):=
 qK [a,b]>>=λe=>
 if (e != 0) then
  some ((Arr.mk [] []),e)
 else
  if (f==48) then
   if ((List.length a.shape:Int) != 1) then
    some ((Arr.mk [] []),6)
   else
    sV b.shape>>=λ(x,c)=>
    (
     rG (a,b,x,c,0,[])
    : Option (List aA))>>=λh=>
    wU x c>>=λj=>
    some ((Arr.mk j h),0)
  else
   if (f==49) then
    sV a.shape>>=λ(g,d)=>
    (
     rH (a,b,g,d,0,[])
    : Option (List aA))>>=λi=>
    wU g d>>=λk=>
    some ((Arr.mk k i),0)
   else
    some ((Arr.mk [] []),1)
def kU (a:Arr×LI×Int×Int×(List aA)):Option (List aA):=match a with
  |(b,e,n,d,c)=>
   if (decide (d<n)) then
    lget b.cells 0>>=λy=>
    lapp c [y]>>=λl=>
    kU (b,e,n,(w64 (d+1)),l)
   else
    some c
 partial_fixpoint
def jN (b:Arr) (a:LI):Option (Arr):=
 kP a>>=λ(n,x)=>
 (
  kU (b,a,n,0,[])
 : Option (List aA))>>=λc=>
 some (Arr.mk a c)
def eG (b:LI) (a:Int):Option LI:=
 lto b a>>=λl=>
 lapp ([]:LI) l>>=λc=>
 lapp c [1]>>=λd=>
 lfrom b a>>=λe=>
 lapp d e>>=λf=>
 some f
def cF (b:LI) (a:Int):Option LI:=
 lto b a>>=λl=>
 lapp ([]:LI) l>>=λc=>
 lfrom b (w64 (a+1))>>=λd=>
 lapp c d>>=λe=>
 some e
def oE (a:Int×LI×(List aA)×LI×(List aA)×LI×LI×Int):Option (Except (Arr×Arr×Int×Int) (Unit)):=match a with
  |(h,d,f,e,g,c,y,b)=>
   if (decide (b<(List.length c:Int))) then
    lget c b>>=λi=>
    lget y b>>=λj=>
    if (i != j) then
     some (.error ((Arr.mk e g),(Arr.mk d f),0,7))
    else
     oE (h,d,f,e,g,c,y,(w64 (b+1)))
   else
    some (.ok ())
 partial_fixpoint
def oF (a:Int×LI×(List aA)×LI×(List aA)×LI×LI×Int):Option (Except (Arr×Arr×Int×Int) (Unit)):=match a with
  |(i,d,f,e,g,c,h,b)=>
   if (decide (b<(List.length c:Int))) then
    lget c b>>=λj=>
    lget h b>>=λk=>
    if (j != k) then
     some (.error ((Arr.mk e g),(Arr.mk d f),0,7))
    else
     oF (i,d,f,e,g,c,h,(w64 (b+1)))
   else
    some (.ok ())
 partial_fixpoint
def zU (a:Arr) (b:Arr) (j:Bool):Option (Arr×Arr×Int×Int):=
 if ((List.length a.shape:Int)==0) then
  if ((List.length b.shape:Int)==0) then
   iI a>>=λx=>
   iI b>>=λt=>
   some (x,t,0,0)
  else
   (
    if j then
     some (w64 ((if (List.length a.shape:Int)<(List.length b.shape:Int) then (List.length b.shape:Int) else (List.length a.shape:Int))-1))
    else
     some 0
   : Option (Int))>>=λc=>
   (
    if ((List.length a.shape:Int)==0) then
     cF b.shape c>>=λx2=>
     eG x2 c>>=λx3=>
     jN a x3>>=λq=>
     some (.ok (b.shape,b.cells,q.shape,q.cells))
    else
     if ((List.length b.shape:Int)==0) then
      cF a.shape c>>=λx5=>
      eG x5 c>>=λx6=>
      jN b x6>>=λs=>
      some (.ok (s.shape,s.cells,a.shape,a.cells))
     else
      if ((w64 ((List.length a.shape:Int)-(List.length b.shape:Int)))==1) then
       eG b.shape c>>=λx8=>
       some (.ok (x8,b.cells,a.shape,a.cells))
      else
       if ((w64 ((List.length a.shape:Int)-(List.length b.shape:Int)))==(-1)) then
        eG a.shape c>>=λx9=>
        some (.ok (b.shape,b.cells,x9,a.cells))
       else
        if ((w64 ((List.length a.shape:Int)-(List.length b.shape:Int))) != 0) then
         some (.error (a,b,0,6))
        else
         some (.ok (b.shape,b.cells,a.shape,a.cells))
   : Option (Except (Arr×Arr×Int×Int) (LI×(List aA)×LI×(List aA))))>>=λe=>match e with
   |.error r=>some r
   |.ok (f,k,g,n)=>
    cF g c>>=λu=>
    cF f c>>=λy=>
    (
     oE (c,f,k,g,n,u,y,0)
    : Option (Except (Arr×Arr×Int×Int) (Unit)))>>=λe=>match e with
    |.error r=>some r
    |.ok _=>
     some ((Arr.mk g n),(Arr.mk f k),c,0)
 else
  (
   if j then
    some (w64 ((if (List.length a.shape:Int)<(List.length b.shape:Int) then (List.length b.shape:Int) else (List.length a.shape:Int))-1))
   else
    some 0
  : Option (Int))>>=λd=>
  (
   if ((List.length a.shape:Int)==0) then
    cF b.shape d>>=λv=>
    eG v d>>=λw=>
    jN a w>>=λo=>
    some (.ok (b.shape,b.cells,o.shape,o.cells))
   else
    if ((List.length b.shape:Int)==0) then
     cF a.shape d>>=λz=>
     eG z d>>=λa0=>
     jN b a0>>=λp=>
     some (.ok (p.shape,p.cells,a.shape,a.cells))
    else
     if ((w64 ((List.length a.shape:Int)-(List.length b.shape:Int)))==1) then
      eG b.shape d>>=λb0=>
      some (.ok (b0,b.cells,a.shape,a.cells))
     else
      if ((w64 ((List.length a.shape:Int)-(List.length b.shape:Int)))==(-1)) then
       eG a.shape d>>=λc0=>
       some (.ok (b.shape,b.cells,c0,a.cells))
      else
       if ((w64 ((List.length a.shape:Int)-(List.length b.shape:Int))) != 0) then
        some (.error (a,b,0,6))
       else
        some (.ok (b.shape,b.cells,a.shape,a.cells))
  : Option (Except (Arr×Arr×Int×Int) (LI×(List aA)×LI×(List aA))))>>=λe=>match e with
  |.error r=>some r
  |.ok (h,l,i,m)=>
   cF i d>>=λd0=>
   cF h d>>=λy3=>
   (
    oF (d,h,l,i,m,d0,y3,0)
   : Option (Except (Arr×Arr×Int×Int) (Unit)))>>=λe=>match e with
   |.error r=>some r
   |.ok _=>
    some ((Arr.mk i m),(Arr.mk h l),d,0)
def kS (a:Arr×Arr×Int×LI×LI×Int×Int):Option (Int):=match a with
  |(x,h,f,g,b,e,c)=>
   if (decide (c<(List.length b:Int))) then
    lget b c>>=λd=>
    kS (x,h,f,g,b,(w64 (e*d)),(w64 (c+1)))
   else
    some e
 partial_fixpoint
def kT (a:Arr×Arr×LI×Int×Int×Int×LI×Int×Int):Option (Int):=match a with
  |(x,h,f,g,i,j,b,d,c)=>
   if (decide (c<(List.length b:Int))) then
    lget b c>>=λe=>
    kT (x,h,f,g,i,j,b,(w64 (d*e)),(w64 (c+1)))
   else
    some d
 partial_fixpoint
def jF (a:Arr×Arr×LI×Int×Int×Int×Int×Int×(List aA)):Option (List aA):=match a with
  |(x,h,i,c,d,e,g,b,f)=>
   if (decide (b<g)) then
    Ag0 x.cells (w64 (b*(w64 (d*c)))) (w64 ((w64 (b+1))*(w64 (d*c))))>>=λj=>
    lapp f j>>=λk=>
    Ag0 h.cells (w64 (b*(w64 (e*c)))) (w64 ((w64 (b+1))*(w64 (e*c))))>>=λl=>
    lapp k l>>=λm=>
    jF (x,h,i,c,d,e,g,(w64 (b+1)),m)
   else
    some f
 partial_fixpoint
def uY (i:Arr) (b:Arr) (q:Bool):Option (Arr×Int):=
 zU i b q>>=λ(x,d,a,e)=>
 if (e != 0) then
  some ((Arr.mk [] []),e)
 else
  lapp ([]:LI) x.shape>>=λl=>
  jO a (List.length l)>>=λj=>
  nM l j>>=λy=>
  lget d.shape a>>=λt=>
  jO a (List.length l)>>=λm=>
  oL l m (w64 (y+t))>>=λn=>
  wU (List.length l) n>>=λc=>
  kP c>>=λ(v,k)=>
  if (k != 0) then
   some ((Arr.mk [] []),12)
  else
   lget c a>>=λu=>
   if (decide (u>16384)) then
    some ((Arr.mk [] []),12)
   else
    lfrom x.shape (w64 (a+1))>>=λo=>
    (
     kS (x,d,a,c,o,1,0)
    : Option (Int))>>=λf=>
    lget x.shape a>>=λg=>
    lget d.shape a>>=λh=>
    lto x.shape a>>=λp=>
    (
     kT (x,d,c,f,g,h,p,1,0)
    : Option (Int))>>=λs=>
    (
     jF (x,d,c,f,g,h,s,0,[])
    : Option (List aA))>>=λr=>
    some ((Arr.mk c r),0)
def rE (a:Int×Arr×Arr×Int):Option (Except (Arr×Int) (Unit)):=match a with
  |(d,c,b,x)=>
   if (decide (x<(List.length [c,b]:Int))) then
    lget [c,b] x>>=λy=>
    jD y>>=λe=>
    if (e != 0) then
     some (.error ((Arr.mk [] []),e))
    else
     rE (d,c,b,(w64 (x+1)))
   else
    some (.ok ())
 partial_fixpoint
def AeB (a:Int) (e:Arr) (b:Arr):Option (Arr×Int):=
 (
  rE (a,e,b,0)
 : Option (Except (Arr×Int) (Unit)))>>=λg=>match g with
 |.error r=>some r
 |.ok _=>
  fS e>>=λd=>
  fS b>>=λc=>
  (
   if (a==46) then
    some (a==46)
   else
    some (a==47)
  : Option (Bool))>>=λs=>
  if s then
   uY d c (a==47)>>=λ(t,u)=>
   some (t,u)
  else
   if (a==52) then
    wP d c>>=λ(v,w)=>
    some (v,w)
   else
    if (a==53) then
     wP c d>>=λ(x,y)=>
     some (x,y)
    else
     (
      if (a==50) then
       some (a==50)
      else
       some (a==51)
     : Option (Bool))>>=λh=>
     if h then
      rV d c (a==51)>>=λ(i,j)=>
      some (i,j)
     else
      (
       if (a==42) then
        some (a==42)
       else
        if (a==43) then
         some (a==43)
        else
         if (a==44) then
          some (a==44)
         else
          some (a==45)
      : Option (Bool))>>=λk=>
      if k then
       uZ d>>=λ(n,f)=>
       if (f != 0) then
        some ((Arr.mk [] []),f)
       else
        if (a==42) then
         zW n c>>=λ(l,m)=>
         some (l,m)
        else
         if (a==43) then
          zT n c>>=λo=>
          some (o,0)
         else
          if (a==44) then
           lQ n c 0>>=λp=>
           some (p,0)
          else
           lQ n c (w64 ((List.length c.shape:Int)-1))>>=λq=>
           some (q,0)
      else
       some ((Arr.mk [] []),1)
def lL (a:Int×Arr×Arr×Int):Option (Except (Arr×Int) (Unit)):=match a with
  |(d,c,b,x)=>
   if (decide (x<(List.length [c,b]:Int))) then
    lget [c,b] x>>=λy=>
    jD y>>=λe=>
    if (e != 0) then
     some (.error ((Arr.mk [] []),e))
    else
     lL (d,c,b,(w64 (x+1)))
   else
    some (.ok ())
 partial_fixpoint
def tE (a:Int×Arr×Arr×LI×Int×(List aA)):Option (Except (Arr×Int) (List aA)):=match a with
  |(j,c,b,m,d,k)=>
   if (decide (d<0)) then
    lget c.cells 0>>=λe=>
    lget b.cells 0>>=λf=>
    (
     if (decide ((List.length c.shape:Int)>0)) then
      lget c.cells d>>=λg=>
      some (g.kind,g.n,g.box)
     else
      some (e.kind,e.n,e.box)
    : Option (Int×Int×(List Arr)))>>=λ(n,o,p)=>
    (
     if (decide ((List.length b.shape:Int)>0)) then
      lget b.cells d>>=λh=>
      some (h.kind,h.n,h.box)
     else
      some (f.kind,f.n,f.box)
    : Option (Int×Int×(List Arr)))>>=λ(r,s,t)=>
    pR j (aA.mk n o p) (aA.mk r s t)>>=λ(q,i)=>
    if (i != 0) then
     some (.error ((Arr.mk [] []),i))
    else
     lapp k [q]>>=λl=>
     tE (j,c,b,m,(w64 (d+1)),l)
   else
    some (.ok k)
 partial_fixpoint
def nU (a:Int×Arr×Arr×LI×Int×Int×(List aA)):Option (Except (Arr×Int) (List aA)):=match a with
  |(j,c,b,m,n,d,k)=>
   if (decide (d<n)) then
    lget c.cells 0>>=λe=>
    lget b.cells 0>>=λf=>
    (
     if (decide ((List.length c.shape:Int)>0)) then
      lget c.cells d>>=λg=>
      some (g.kind,g.n,g.box)
     else
      some (e.kind,e.n,e.box)
    : Option (Int×Int×(List Arr)))>>=λ(o,p,q)=>
    (
     if (decide ((List.length b.shape:Int)>0)) then
      lget b.cells d>>=λh=>
      some (h.kind,h.n,h.box)
     else
      some (f.kind,f.n,f.box)
    : Option (Int×Int×(List Arr)))>>=λ(s,t,u)=>
    pR j (aA.mk o p q) (aA.mk s t u)>>=λ(r,i)=>
    if (i != 0) then
     some (.error ((Arr.mk [] []),i))
    else
     lapp k [r]>>=λl=>
     nU (j,c,b,m,n,(w64 (d+1)),l)
   else
    some (.ok k)
 partial_fixpoint
def zR (c:Int) (a:Arr) (b:Arr):Option (Arr×Int):=
 (
  lL (c,a,b,0)
 : Option (Except (Arr×Int) (Unit)))>>=λd=>match d with
 |.error r=>some r
 |.ok _=>
  if (c==54) then
   some ((Arr.mk [] []),10)
  else
   qR c>>=λi=>
   if (!i) then
    some ((Arr.mk [] []),1)
   else
    tD a.shape b.shape>>=λ(e,f)=>
    if (f != 0) then
     some ((Arr.mk [] []),f)
    else
     if ((List.length a.cells:Int)==0) then
      (
       tE (c,a,b,e,0,[])
      : Option (Except (Arr×Int) (List aA)))>>=λd=>match d with
      |.error r=>some r
      |.ok g=>
       some ((Arr.mk e g),0)
     else
      (
       if ((List.length b.cells:Int)==0) then
        some 0
       else
        some (if (List.length a.cells:Int)<(List.length b.cells:Int) then (List.length b.cells:Int) else (List.length a.cells:Int))
      : Option (Int))>>=λn=>
      (
       nU (c,a,b,e,n,0,[])
      : Option (Except (Arr×Int) (List aA)))>>=λd=>match d with
      |.error r=>some r
      |.ok h=>
       some ((Arr.mk e h),0)
def Ab3 (a:Int) (b:Arr) (y:Arr):Option (Arr×Int):=
 (
  if (a==41) then
   qG b y>>=λ(x,d)=>
   some (.error (x,d))
  else
   if (a==48) then
    Ab4 a b y>>=λ(e,f)=>
    some (.error (e,f))
   else
    if (a==49) then
     Ab4 a b y>>=λ(g,h)=>
     some (.error (g,h))
    else
     if (decide (a>=42)) then
      if (decide (a<=53)) then
       AeB a b y>>=λ(i,j)=>
       some (.error (i,j))
      else
       some (.ok ())
     else
      some (.ok ())
 : Option (Except (Arr×Int) (Unit)))>>=λc=>match c with
 |.error r=>some r
 |.ok _=>
  zR a b y>>=λ(k,l)=>
  some (k,l)
mutual
def aK (a:Node×pE×(List Str)×(List Arr)×aG):Option (Arr×Int×Int×Int):=match a with
  |(n,k,f,g,b)=>
   fH b>>=λ(e,c,d)=>
   if (e != 0) then
    some ((Arr.mk [] []),e,c,d)
   else
    if (n.kind==1) then
     fS n.lit>>=λx=>
     aV x 0 f g (aG.mk (dD.mk c d) b.cells)>>=λ(w,x2)=>
     some (w,x2,c,d)
    else
     if (n.kind==2) then
      cZ n.name f g (aG.mk (dD.mk c d) b.cells)>>=λ(x3,x4)=>
      aV x3 x4 f g (aG.mk (dD.mk c d) b.cells)>>=λ(x5,x6)=>
      some (x5,x6,c,d)
     else
      if (n.kind==3) then
       some (k.left,0,c,d)
      else
       if (n.kind==4) then
        some (k.right,0,c,d)
       else
        lget n.kids (w64 ((List.length n.kids:Int)-1))>>=λy=>
        aK (y,k,f,g,(aG.mk (dD.mk c d) b.cells))>>=λ(l,h,i,j)=>
        if (h != 0) then
         if (h != 0) then
          some ((Arr.mk [] []),h,i,j)
         else
          lget n.kids 0>>=λy1=>
          bA (y1,l,f,g,(aG.mk (dD.mk i j) b.cells))>>=λ(x8,x9,q,t)=>
          some (x8,x9,q,t)
        else
         if (n.kind==5) then
          if (h != 0) then
           some ((Arr.mk [] []),h,i,j)
          else
           lget n.kids 0>>=λy2=>
           bA (y2,l,f,g,(aG.mk (dD.mk i j) b.cells))>>=λ(z,a0,r,u)=>
           some (z,a0,r,u)
         else
          lget n.kids 1>>=λy3=>
          aK (y3,k,f,g,(aG.mk (dD.mk i j) b.cells))>>=λ(b0,m,o,p)=>
          if (m != 0) then
           some ((Arr.mk [] []),m,o,p)
          else
           lget n.kids 0>>=λy4=>
           bE (y4,b0,l,f,g,(aG.mk (dD.mk o p) b.cells))>>=λ(c0,d0,s,v)=>
           some (c0,d0,s,v)
 partial_fixpoint
def bR (a:Node×(List Str)×(List Arr)×aG×Int×LI×(List aA)×Int×Int):Option (Except (Arr×Int×Int×Int) (LI×(List aA)×Int×Int)):=match a with
  |(f,h,j,b,m,k,l,c,d)=>
   if (decide (m<f.op_)) then
    lget f.kids 0>>=λo=>
    bA (o,(Arr.mk k l),h,j,(aG.mk (dD.mk c d) b.cells))>>=λ(n,e,g,i)=>
    if (e != 0) then
     some (.error ((Arr.mk [] []),e,g,i))
    else
     bR (f,h,j,b,(w64 (m+1)),n.shape,n.cells,g,i)
   else
    some (.ok (k,l,c,d))
 partial_fixpoint
def bA (a:Node×Arr×(List Str)×(List Arr)×aG):Option (Arr×Int×Int×Int):=match a with
  |(f,g,h,i,b)=>
   fH b>>=λ(e,c,d)=>
   if (e != 0) then
    some ((Arr.mk [] []),e,c,d)
   else
    if (f.kind==21) then
     Ab2 f.op_ g>>=λ(x,s)=>
     aV x s h i (aG.mk (dD.mk c d) b.cells)>>=λ(x2,x3)=>
     some (x2,x3,c,d)
    else
     if (f.kind==22) then
      lget f.kids 0>>=λy=>
      aK (y,(pE.mk (Arr.mk [] []) g),h,i,(aG.mk (dD.mk c d) b.cells))>>=λ(x4,x5,l,o)=>
      some (x4,x5,l,o)
     else
      if (f.kind==35) then
       lget f.kids 0>>=λy1=>
       bE (y1,g,g,h,i,(aG.mk (dD.mk c d) b.cells))>>=λ(x6,x7,m,p)=>
       some (x6,x7,m,p)
      else
       (
        if (f.kind==31) then
         some (f.kind==31)
        else
         some (f.kind==32)
       : Option (Bool))>>=λx8=>
       if x8 then
        lget f.kids 0>>=λy2=>
        iJ y2>>=λx9=>
        yV x9 g (f.kind==32)>>=λ(t,u)=>
        aV t u h i (aG.mk (dD.mk c d) b.cells)>>=λ(w,z)=>
        some (w,z,c,d)
       else
        (
         if (f.kind==33) then
          some (f.kind==33)
         else
          some (f.kind==34)
        : Option (Bool))>>=λa0=>
        if a0 then
         lget f.kids 0>>=λy3=>
         iJ y3>>=λb0=>
         wN b0 g (f.kind==34)>>=λ(c0,d0)=>
         aV c0 d0 h i (aG.mk (dD.mk c d) b.cells)>>=λ(e0,f0)=>
         some (e0,f0,c,d)
        else
         (
          bR (f,h,i,b,0,g.shape,g.cells,c,d)
         : Option (Except (Arr×Int×Int×Int) (LI×(List aA)×Int×Int)))>>=λn=>match n with
         |.error r=>some r
         |.ok (q,v,j,k)=>
          some ((Arr.mk q v),0,j,k)
 partial_fixpoint
def bE (a:Node×Arr×Arr×(List Str)×(List Arr)×aG):Option (Arr×Int×Int×Int):=match a with
  |(f,g,y,h,i,b)=>
   fH b>>=λ(e,c,d)=>
   if (e != 0) then
    some ((Arr.mk [] []),e,c,d)
   else
    if (f.kind==21) then
     Ab3 f.op_ g y>>=λ(x,n)=>
     aV x n h i (aG.mk (dD.mk c d) b.cells)>>=λ(r,s)=>
     some (r,s,c,d)
    else
     if (f.kind==23) then
      lget f.kids 0>>=λy1=>
      aK (y1,(pE.mk g y),h,i,(aG.mk (dD.mk c d) b.cells))>>=λ(t,u,j,l)=>
      some (t,u,j,l)
     else
      if (f.kind==35) then
       lget f.kids 0>>=λy2=>
       bE (y2,y,g,h,i,(aG.mk (dD.mk c d) b.cells))>>=λ(v,w,k,m)=>
       some (v,w,k,m)
      else
       lget f.kids 0>>=λy3=>
       iJ y3>>=λz=>
       tY z g y>>=λ(x9,o)=>
       aV x9 o h i (aG.mk (dD.mk c d) b.cells)>>=λ(p,q)=>
       some (p,q,c,d)
 partial_fixpoint
end
def rC (m:aG):Option (Int×Int):=
 some (m.fuel.used,m.fuel.left)
def xU (a:Env) (n:Node) (h:Int) (g:Int):Option (Nat×Nat×Int×Int×LI×(List aA)):=
 pM n>>=λx=>
 if (x != 0) then
  some (0,0,0,1,([]:LI),([]:List aA))
 else
  Ad5 h g>>=λb=>
  aK (n,(pE.mk (Arr.mk [] []) (Arr.mk [] [])),a.names,a.vals,b)>>=λ(m,e,i,l)=>
  rC (aG.mk (dD.mk i l) b.cells)>>=λ(c,o)=>
  if (e != 0) then
   some (0,0,c,e,([]:LI),([]:List aA))
  else
   rA m>>=λ(j,k,d,f)=>
   some (j,k,c,0,d,f)
def vY (a:Env) (n:Node) (f:Int) (d:Int):Option (Arr×Int×Int):=
 pM n>>=λx=>
 if (x != 0) then
  some ((Arr.mk [] []),0,1)
 else
  Ad5 f d>>=λb=>
  aK (n,(pE.mk (Arr.mk [] []) (Arr.mk [] [])),a.names,a.vals,b)>>=λ(i,e,g,h)=>
  rC (aG.mk (dD.mk g h) b.cells)>>=λ(c,k)=>
  if (e != 0) then
   some ((Arr.mk [] []),c,e)
  else
   fS i>>=λj=>
   some (j,c,0)
def tM (n:Int):Option (Bool):=
 if (decide (n>=0)) then
  if (decide (n<55296)) then
   some true
  else
   if (decide (n>57343)) then
    some (decide (n<1114112))
   else
    some false
 else
  if (decide (n>57343)) then
   some (decide (n<1114112))
  else
   some false
def vD (a:Arr×Int×Int):Option (Except (Int) (Unit)):=match a with
  |(b,c,i)=>
   if (decide (i<(List.length b.shape:Int))) then
    lget b.shape i>>=λy=>
    if (decide (y>16384)) then
     some (.error 12)
    else
     vD (b,c,(w64 (i+1)))
   else
    some (.ok ())
 partial_fixpoint
mutual
def vE (a:Arr×Int×Int):Option (Except (Int) (Unit)):=match a with
  |(b,d,c)=>
   if (decide (c<(List.length b.cells:Int))) then
    lget b.cells c>>=λe=>
    AhJ (e,d)>>=λf=>
    if (f != 0) then
     some (.error f)
    else
     vE (b,d,(w64 (c+1)))
   else
    some (.ok ())
 partial_fixpoint
def Ag1 (a:Arr×Int):Option (Int):=match a with
  |(b,d)=>
   AhI b.shape>>=λ(n,e)=>
   if (e != 0) then
    some e
   else
    if (n != (List.length b.cells:Int)) then
     some 1
    else
     (
      vD (b,d,0)
     : Option (Except (Int) (Unit)))>>=λc=>match c with
     |.error r=>some r
     |.ok _=>
      (
       vE (b,d,0)
      : Option (Except (Int) (Unit)))>>=λc=>match c with
      |.error r=>some r
      |.ok _=>
       some 0
 partial_fixpoint
def AhJ (a:aA×Int):Option (Int):=match a with
  |(c,b)=>
   if (c.kind==2) then
    if (c.n==0) then
     if ((List.length c.box:Int)==1) then
      if (b==8) then
       some 15
      else
       lget c.box 0>>=λy=>
       Ag1 (y,(w64 (b+1)))>>=λx=>
       some x
     else
      if (decide ((List.length c.box:Int)>0)) then
       some 1
      else
       if (c.kind==0) then
        some 0
       else
        if (c.kind==1) then
         tM c.n>>=λd=>
         if d then
          some 0
         else
          some 1
        else
         some 1
    else
     if (decide ((List.length c.box:Int)>0)) then
      some 1
     else
      if (c.kind==0) then
       some 0
      else
       if (c.kind==1) then
        tM c.n>>=λe=>
        if e then
         some 0
        else
         some 1
       else
        some 1
   else
    if (decide ((List.length c.box:Int)>0)) then
     some 1
    else
     if (c.kind==0) then
      some 0
     else
      if (c.kind==1) then
       tM c.n>>=λf=>
       if f then
        some 0
       else
        some 1
      else
       some 1
 partial_fixpoint
end
def cK (a:Int) (b:Int):Option (Int):=
 if (decide (a<b)) then
  some (-1)
 else
  if (decide (a>b)) then
   some 1
  else
   some 0
def dI (a:Arr×Arr×Int×Int):Option (Int):=match a with
  |(c,b,d,i)=>
   if (decide (i<(List.length c.shape:Int))) then
    if (d==0) then
     lget c.shape i>>=λy=>
     lget b.shape i>>=λf=>
     cK y f>>=λe=>
     dI (c,b,e,(w64 (i+1)))
    else
     some d
   else
    some d
 partial_fixpoint
mutual
def dJ (a:Arr×Arr×Int×Int):Option (Int):=match a with
  |(e,b,d,c)=>
   if (decide (c<(List.length e.cells:Int))) then
    if (decide (c<(List.length b.cells:Int))) then
     if (d==0) then
      lget e.cells c>>=λg=>
      lget b.cells c>>=λh=>
      jG (g,h)>>=λf=>
      dJ (e,b,f,(w64 (c+1)))
     else
      some d
    else
     some d
   else
    some d
 partial_fixpoint
def fP (a:Arr×Arr):Option (Int):=match a with
  |(c,b)=>
   cK (List.length c.shape:Int) (List.length b.shape:Int)>>=λo=>
   (
    dI (c,b,o,0)
   : Option (Int))>>=λe=>
   (
    dJ (c,b,e,0)
   : Option (Int))>>=λd=>
   (
    if (d==0) then
     cK (List.length c.cells:Int) (List.length b.cells:Int)>>=λf=>
     some f
    else
     some d
   : Option (Int))>>=λg=>
   some g
 partial_fixpoint
def jG (a:aA×aA):Option (Int):=match a with
  |(c,b)=>
   cK c.kind b.kind>>=λo=>
   (
    if (o==0) then
     cK c.n b.n>>=λe=>
     some e
    else
     some o
   : Option (Int))>>=λd=>
   if (d==0) then
    if (decide ((List.length c.box:Int)>0)) then
     if (decide ((List.length b.box:Int)>0)) then
      lget c.box 0>>=λy=>
      lget b.box 0>>=λl=>
      fP (y,l)>>=λx=>
      some x
     else
      (
       if (d==0) then
        cK (List.length c.box:Int) (List.length b.box:Int)>>=λf=>
        some f
       else
        some d
      : Option (Int))>>=λg=>
      some g
    else
     (
      if (d==0) then
       cK (List.length c.box:Int) (List.length b.box:Int)>>=λh=>
       some h
      else
       some d
     : Option (Int))>>=λi=>
     some i
   else
    (
     if (d==0) then
      cK (List.length c.box:Int) (List.length b.box:Int)>>=λj=>
      some j
     else
      some d
    : Option (Int))>>=λk=>
    some k
 partial_fixpoint
end
def fE (a:Arr) (b:Arr):Option (Bool):=
 fP (a,b)>>=λx=>
 some (x==0)
mutual
def dF (a:Arr×Int×Int×Int×Int×Int):Option (Except (Int) (Int)):=match a with
  |(d,c,e,i,b,k)=>
   lget d.cells i>>=λy=>
   if (decide (k<(List.length y.box:Int))) then
    if (decide (b<=c)) then
     if (e==0) then
      some (.error (w64 (c+1)))
     else
      lget d.cells i>>=λf=>
      lget f.box k>>=λg=>
      dK (g,(w64 (c-b)),(w64 (e-1)))>>=λx=>
      dF (d,c,e,i,(w64 ((w64 (b+1))+x)),(w64 (k+1)))
    else
     some (.ok b)
   else
    some (.ok b)
 partial_fixpoint
def dW (a:Arr×Int×Int×Int×Int):Option (Except (Int) (Int)):=match a with
  |(b,c,d,n,i)=>
   if (decide (i<(List.length b.cells:Int))) then
    if (decide (n<=c)) then
     (
      dF (b,c,d,i,n,0)
     : Option (Except (Int) (Int)))>>=λf=>match f with
     |.error r=>some (.error r)
     |.ok e=>
      dW (b,c,d,e,(w64 (i+1)))
    else
     some (.ok n)
   else
    some (.ok n)
 partial_fixpoint
def dK (a:Arr×Int×Int):Option (Int):=match a with
  |(b,d,c)=>
   (
    dW (b,d,c,(w64 ((List.length b.cells:Int)+(List.length b.shape:Int))),0)
   : Option (Except (Int) (Int)))>>=λf=>match f with
   |.error r=>some r
   |.ok e=>
    some e
 partial_fixpoint
end
def gP (a:Arr) (b:Int):Option (Int):=
 dK (a,b,16)>>=λx=>
 some x
mutual
def vB (a:Node×Str×Int):Option (Except (Bool) (Unit)):=match a with
  |(n,s,i)=>
   if (decide (i<(List.length n.kids:Int))) then
    lget n.kids i>>=λy=>
    yI (y,s)>>=λx=>
    if x then
     some (.error true)
    else
     vB (n,s,(w64 (i+1)))
   else
    some (.ok ())
 partial_fixpoint
def vC (a:Node×Str×Int):Option (Except (Bool) (Unit)):=match a with
  |(n,s,b)=>
   if (decide (b<(List.length n.kids:Int))) then
    lget n.kids b>>=λd=>
    yI (d,s)>>=λc=>
    if c then
     some (.error true)
    else
     vC (n,s,(w64 (b+1)))
   else
    some (.ok ())
 partial_fixpoint
def yI (a:Node×Str):Option (Bool):=match a with
  |(n,s)=>
   if (n.kind==2) then
    if (n.name==s) then
     some true
    else
     (
      vB (n,s,0)
     : Option (Except (Bool) (Unit)))>>=λb=>match b with
     |.error r=>some r
     |.ok _=>
      some false
   else
    (
     vC (n,s,0)
    : Option (Except (Bool) (Unit)))>>=λb=>match b with
    |.error r=>some r
    |.ok _=>
     some false
 partial_fixpoint
end
mutual
def dG (a:Node×Int×Int×Int×Int):Option (Except (Int) (Int)):=match a with
  |(n,b,c,k,i)=>
   if (decide (i<(List.length n.kids:Int))) then
    if (decide (k<=b)) then
     if (c==0) then
      some (.error (w64 (b+1)))
     else
      lget n.kids i>>=λy=>
      eI (y,(w64 (b-k)),(w64 (c-1)))>>=λd=>
      dG (n,b,c,(w64 (k+d)),(w64 (i+1)))
    else
     some (.ok k)
   else
    some (.ok k)
 partial_fixpoint
def eI (a:Node×Int×Int):Option (Int):=match a with
  |(n,b,c)=>
   gP n.lit b>>=λx=>
   (
    dG (n,b,c,(w64 (1+x)),0)
   : Option (Except (Int) (Int)))>>=λe=>match e with
   |.error r=>some r
   |.ok d=>
    some d
 partial_fixpoint
end
def nC (n:Node) (a:Int):Option (Int):=
 eI (n,a,40)>>=λx=>
 some x
def eL (a:Env×Node×Int×Int):Option (Int):=match a with
  |(b,n,w,i)=>
   if (decide (i<(List.length b.vals:Int))) then
    if (decide (w<=3000)) then
     lget b.vals i>>=λy=>
     gP y 3000>>=λc=>
     eL (b,n,(w64 (w+c)),(w64 (i+1)))
    else
     some w
   else
    some w
 partial_fixpoint
def kL (a:Env) (n:Node) (c:Int) (b:Int):Option (Int):=
 if (decide (c>2000)) then
  some 1
 else
  if (decide (b>300)) then
   some 1
  else
   if (decide ((List.length a.names:Int)>40)) then
    some 1
   else
    if (decide ((List.length a.vals:Int)>40)) then
     some 1
    else
     nC n 3000>>=λx=>
     if (decide (x>3000)) then
      some 1
     else
      (
       eL (a,n,0,0)
      : Option (Int))>>=λd=>
      if (decide (d>3000)) then
       some 1
      else
       some 0
def cS (a:Env×Node×Int×Int×Arr×Int×Int×Nat×Nat×LI×Int×(List aA)):Option (List aA):=match a with
  |(m,n,o,l,q,i,e,p,f,b,k,d)=>
   if (decide (k<(f:Int))) then
    jO k f>>=λj=>
    nM d j>>=λy=>
    jO k f>>=λg=>
    nM d g>>=λh=>
    oL d g (aA.mk h.kind (w64 (y.n+1)) h.box)>>=λc=>
    cS (m,n,o,l,q,i,e,p,f,b,(w64 (k+1)),c)
   else
    some d
 partial_fixpoint
def cT (a:Env×Node×Int×Int×Arr×Int×Int×Nat×Nat×(List aA)×Int×LI):Option LI:=match a with
  |(j,n,k,h,p,i,e,c,o,f,b,d)=>
   if (decide (b<(c:Int))) then
    jO b c>>=λl=>
    nM d l>>=λq=>
    jO b c>>=λm=>
    oL d m (w64 (q+1))>>=λg=>
    cT (j,n,k,h,p,i,e,c,o,f,(w64 (b+1)),g)
   else
    some d
 partial_fixpoint
def p_triglyphlaw11_RunAgain (c:Env) (n:Node) (d:Int) (a:Int):Option (Bool):=
 kL c n d a>>=λx=>
 if (decide (x>0)) then
  AgW>>=λo=>
  some o
 else
  vY c n d a>>=λ(g,i,e)=>
  xU c n d a>>=λ(h,j,t,u,b,k)=>
  (
   cS (c,n,d,a,g,i,e,h,j,b,0,k)
  : Option (List aA))>>=λl=>
  (
   cT (c,n,d,a,g,i,e,h,j,l,0,b)
  : Option LI)>>=λs=>
  vY c n d a>>=λ(p,m,f)=>
  if (e==f) then
   if (i==m) then
    fE g p>>=λq=>
    if q then
     AgW>>=λr=>
     some r
    else
     some false
   else
    some false
  else
   some false
end Go.AM.Seat
namespace Go.AM.Seat
open Go Go.AM
def T {α:Type} (x:Option α) (Q:α->Prop):Prop:=∃r,x=some r/\Q r
section
variable {α β:Type} {Q R:α->Prop} {S:β->Prop}
theorem T.ret {v:α} (h:Q v):T (some v) Q:=⟨v,rfl,h⟩
theorem T.bind {x:Option α} {f:α->Option β} (h:T x R) (k:∀v,R v->T (f v) S):T (x>>=f) S:=by
 obtain⟨v,rfl,hv⟩:=h; exact k v hv
theorem T.ite {c:Bool} {a b:Option α} (h:c=true->T a Q) (k:c=false->T b Q):T (if c=true then a else b) Q:=by
 cases c
 ·exact k rfl
 exact h rfl
theorem T.imp {x:Option α} (h:T x R) (k:∀v,R v->Q v):T x Q:=by
 obtain⟨v,e,hv⟩:=h; exact⟨v,e,k v hv⟩
theorem T.val {x:Option α} {v:α} (h:x=some v) (k:Q v):T x Q:=⟨v,h,k⟩
theorem T.lget {l:List α} {i:Int} (h0:0<=i) (h1:i<l.length) (k:∀v,l[i.toNat]?=some v->Q v):T (lget l i) Q:=by
 have hl:i.toNat<l.length:=oM
 refine⟨l[i.toNat],?_,k _ (by simp[hl])⟩
 unfold AM.lget
 rw[if_pos h0]; simp[hl]
theorem T.lapp {l m:List α} {Q:List α->Prop} (h:l.length+m.length<=4294967296) (k:Q (l++m)):T (lapp l m) Q:=⟨_,by unfold AM.lapp; rw[if_pos h],k⟩
theorem T.lfrom {l:List α} {lo:Int} {Q:List α->Prop} (h0:0<=lo) (h1:lo<=l.length) (k:Q (l.drop lo.toNat)):T (lfrom l lo) Q:=
 ⟨_,by unfold AM.lfrom; rw[if_pos ⟨h0,oM⟩],k⟩
end
theorem T.sget {s:Str} {i:Int} {Q:Int->Prop} (h0:0<=i) (h1:i<s.length) (k:∀b,s[i.toNat]?=some b->Q (b.toNat:Int)):T (sget s i) Q:=by
 have hl:i.toNat<s.length:=oM
 refine⟨(s[i.toNat].toNat:Int),?_,k _ (by simp[hl])⟩
 unfold AM.sget
 rw[if_pos h0]; simp[hl]
theorem T.sfrom {s:Str} {lo:Int} {Q:Str->Prop} (h0:0<=lo) (h1:lo<=s.length) (k:Q (s.drop lo.toNat)):T (sfrom s lo) Q:=
 ⟨_,by unfold AM.sfrom; rw[if_pos ⟨h0,oM⟩],k⟩
theorem T.smid {s:Str} {lo hi:Int} {Q:Str->Prop} (h0:0<=lo) (h1:lo<=hi) (h2:hi<=s.length) (k:Q ((s.take hi.toNat).drop lo.toNat)):T (smid s lo hi) Q:=
 ⟨_,by unfold AM.smid; rw[if_pos ⟨h0,h1,oM⟩],k⟩
theorem T.scat {a b:Str} {Q:Str->Prop} (h:a.length+b.length<=1099511627776) (k:Q (a++b)):T (scat a b) Q:=⟨_,by unfold AM.scat; rw[if_pos h],k⟩
theorem T.sbytes {s:Str} {Q:List Int->Prop} (h:s.length<=1099511627776) (k:Q (s.map u8I)):T (sbytes s) Q:=⟨_,by unfold AM.sbytes; rw[if_pos h],k⟩
theorem aE {x:Int} (h1:-9223372036854775808<=x) (h2:x<9223372036854775808):w64 x=x:=by
 unfold w64; rw[IntKind.wrap_i64]; omega
theorem gL {α:Type} {l:List α} {i:Nat} (h:i<l.length):lget l (i:Int)=some l[i]:=by
 unfold AM.lget
 rw[if_pos oM]; simp[h]
end Go.AM.Seat
namespace Go.AM.Seat
open Go Go.AM
theorem bO {α:Type} {l:List α} {k:Nat} {d:α} {r:List α} (h:l.drop k=d::r):lget l (k:Int)=some d:=by
 have hk:k<l.length:=by
  rcases Nat.lt_or_ge k l.length with h' | h'
  ·exact h'
  rw[List.drop_eq_nil_of_le h'] at h; simp at h
 unfold AM.lget
 rw[if_pos oM]
 have:(l.drop k)[0]?=some d:=by rw[h]; rfl
 simpa using this
theorem cH {α:Type} {l:List α} {k:Nat} {d:α} {r:List α} (h:l.drop k=d::r):(k:Int)<(l.length:Int):=by
 rcases Nat.lt_or_ge k l.length with h' | h'
 ·omega
 rw[List.drop_eq_nil_of_le h'] at h; simp at h
theorem cG {α:Type} {l:List α} {k:Nat} (h:l.drop k=[]):¬(k:Int)<(l.length:Int):=by
 have:=List.drop_eq_nil_iff.1 h
 omega
theorem bC {α:Type} {l:List α} {k:Nat} {d:α} {r:List α} (h:l.drop k=d::r):l.drop (k+1)=r:=by
 rw[←List.drop_drop,h]; rfl
def Few {α:Type} (l:List α):Prop:=l.length<=140737488355328
theorem bZ {α:Type} {l:List α} {k:Nat} {d:α} {r:List α} (h:l.drop k=d::r) (hl:Few l):w64 ((k:Int)+1)=((k+1:Nat):Int):=by
 have:=cH h
 unfold Few at hl
 rw[aE oM oM]; omega
theorem dL {a b:Int} (h:a<b):decide (a<b)=true:=decide_eq_true h
theorem cB {a b:Int} (h:¬a<b):decide (a<b)=false:=decide_eq_false h
def aS:List Int->Int
 | []=>1
 |d::r=>d*aS r
def Aa5 (b:Bool):List Int->Except (Int×Int) Bool
 | []=>.ok b
 |d::r=>if d<0 then .error (0,1) else Aa5 (b||d==0) r
theorem AjH {s:List Int} (hs:Few s):∀(l:List Int) (k:Nat) (b:Bool),s.drop k=l->nG (s,b,(k:Int))=some (Aa5 b l)
 | [],k,b,h=>by
  rw[nG]
  simp only[cB (cG h),fJ,if_false,Aa5]
 |d::r,k,b,h=>by
  rw[nG]
  simp only[dL (cH h),if_true,bO h,oJ,bJ,bZ h hs,Aa5]
  by_cases hd:d<0
  ·simp[hd]
  simp only[hd,decide_false,fJ,if_false]
  cases b
  ·exact AjH hs r (k+1) _ (bC h)
  exact AjH hs r (k+1) _ (bC h)
def wS (n:Int):List Int->Except (Int×Int) Int
 | []=>.ok n
 |d::r=>if d>16384 / n then .error (0,12) else wS (n*d) r
theorem Aq8 {a n:Int} (h:0<n) (ha:0<=a) (hb:a<9223372036854775808):idiv .i64 a n=some (a / n):=by
 unfold idiv
 rw[if_neg oM]
 have h1:a.tdiv n=a / n:=Int.tdiv_eq_ediv_of_nonneg ha
 rw[h1]
 have h2:0<=a / n:=Int.ediv_nonneg ha oM
 have h3:a / n<=a:=Int.ediv_le_self _ ha
 have:=aE (x:=a / n) oM oM
 unfold w64 at this
 rw[this]
theorem AoS {s:List Int} (hs:Few s):∀(l:List Int) (k:Nat) (n:Int),s.drop k=l->(∀d∈l,0<d)->0<n->n<=16384->nH (s,n,(k:Int))=some (wS n l)
 | [],k,n,h,hp,h0,h1=>by
  rw[nH]
  simp only[cB (cG h),fJ,if_false,wS]
 |d::r,k,n,h,hp,h0,h1=>by
  rw[nH]
  have hd:=hp d sM
  simp only[dL (cH h),if_true,bO h,oJ,bJ,bZ h hs,wS,Aq8 h0 (by omega:(0:Int)<=16384) oM]
  by_cases hq:d>16384 / n
  ·simp[hq]
  have hm:n*d<=16384:=by
   have h2:d<=16384 / n:=oM
   have:=(Int.le_ediv_iff_mul_le h0).1 h2
   rw[Int.mul_comm]; exact this
  have hm0:0<n*d:=Int.mul_pos h0 hd
  simp only[hq,decide_false,fJ,if_false]
  rw[aE oM oM]
  exact AoS hs r (k+1) (n*d) (bC h) (λx hx=>hp x (by simp[hx])) hm0 hm
def lZ (s:List Int):Int×Int:=
 if s.length>8 then (0,6) else match Aa5 false s with
 |.error r=>r
 |.ok true=>(0,0)
 |.ok false=>match wS 1 s with
  |.error r=>r
  |.ok n=>(n,0)
theorem Av6 {b:Bool}:∀{l:List Int},Aa5 b l=.ok false->b=false/\∀d∈l,0<d
 | [],h=>by simp only[Aa5,Except.ok.injEq] at h; exact⟨h,sM⟩
 |d::r,h=>by
  simp only[Aa5] at h
  split at h
  ·cases h
  rename_i hd
  obtain⟨h1,h2⟩:=Av6 h
  simp only[Bool.or_eq_false_iff,beq_eq_false_iff_ne] at h1
  refine⟨h1.1,?_⟩
  intro x hx
  rcases List.mem_cons.1 hx with rfl|hx
  ·omega
  exact h2 x hx
theorem AaJ (s:List Int):kP s=some (lZ s):=by
 unfold kP lZ
 by_cases h8:s.length>8
 ·rw[if_pos (by simp; omega),if_pos h8]
 rw[if_neg (by simp; omega),if_neg h8]
 have hs:Few s:=by unfold Few; omega
 have h0:=AjH hs s 0 false rfl
 rw[show nG (s,false,0)=some (Aa5 false s) from h0]
 simp only[oJ,bJ]
 cases hn:Aa5 false s with
 |error r=>rfl
 |ok b=>
  cases b with
  |true=>rfl
  |false=>
   obtain⟨_,hp⟩:=Av6 hn
   have h1:=AoS hs s 0 1 rfl hp oM oM
   simp only[fJ,if_false]
   rw[show nH (s,1,0)=some (wS 1 s) from h1]
   simp only[bJ]
   cases wS 1 s<;>rfl
theorem Arr.ind {P:Arr->Prop} (h:∀sh cs,(∀c∈cs,∀b∈aA.box c,P b)->P (.mk sh cs)) (a:Arr):P a:=by
 refine Arr.rec (motive_1:=P) (motive_2:=λc=>∀b∈aA.box c,P b) (motive_3:=λcs=>∀c∈cs,∀b∈aA.box c,P b) (motive_4:=λl=>∀b∈l,P b) ?_ ?_ ?_ ?_ ?_ ?_ a
 ·intro sh cs ih; exact h sh cs ih
 ·intro k n box ih; exact ih
 ·intro c hc; simp at hc
 ·intro c cs ihc ihs x hx
  rcases List.mem_cons.1 hx with rfl|hx
  ·exact ihc
  exact ihs x hx
 ·intro b hb; simp at hb
 intro b l ihb ihl x hx
 rcases List.mem_cons.1 hx with rfl|hx
 ·exact ihb
 exact ihl x hx
def AxH (n:Int):Bool:=decide (0<=n)&&decide (n<=1114111)&&(decide (n<55296)||decide (n>57343))
theorem Bh6 (n:Int):vX n=some (AxH n):=by
 unfold vX AxH
 by_cases h1:n>=0
 ·by_cases h2:n<=1114111
  ·by_cases h3:n<55296
   ·simp[h1,h2,h3]
   ·simp[h1,h2,h3]
  ·simp[h1,h2]
 simp[h1]
mutual
def AfZ:Arr->Int->Int
 |.mk sh cs,deep=>if (lZ sh).2≠0 then (lZ sh).2 else if (lZ sh).1≠cs.length then 1 else if sh.any (λd=>decide (d>16384)) then 12 else AiN cs deep
def AiN:List aA->Int->Int
 | [],_=>0
 |c::r,deep=>if AdU c deep=0 then AiN r deep else AdU c deep
def AdU:aA->Int->Int
 |.mk k n b,deep=>if k=2/\n=0/\b.length=1 then (if deep>=8 then 15 else BeF b deep) else if b.length>0 then 1 else if k=0\/(k=1/\AxH n=true) then 0 else 1
def BeF:List Arr->Int->Int
 | [],_=>0
 |a::_,deep=>AfZ a (deep+1)
end
theorem An6 {a:Arr} {deep:Int} (hs:Few a.shape):∀(l:List Int) (k:Nat),a.shape.drop k=l->jQ (a,deep,(k:Int))=some (if l.any (λd=>decide (d>16384)) then .error 12 else .ok ())
 | [],k,h=>by
  rw[jQ]
  simp only[cB (cG h),fJ,if_false,List.any_nil]
 |d::r,k,h=>by
  rw[jQ]
  simp only[dL (cH h),if_true,bO h,oJ,bJ,bZ h hs,List.any_cons]
  by_cases hd:d>16384
  ·simp[hd]
  simp only[hd,decide_false,fJ,if_false,Bool.false_or]
  exact An6 hs r (k+1) (bC h)
theorem An7 {a:Arr} {deep:Int} (hs:Few a.cells) (h0:0<=deep) (h8:deep<=8) (ih:∀c∈a.cells,∀b∈c.box,∀d,0<=d->d<=8->qQ (b,d)=some (AfZ b d)) :
  ∀(l:List aA) (k:Nat),a.cells.drop k=l->iG (a,deep,(k:Int))=some (if AiN l deep=0 then .ok () else .error (AiN l deep))
 | [],k,h=>by
  rw[iG]
  simp only[cB (cG h),fJ,if_false,AiN,if_true]
 |.mk kd n b::r,k,h=>by
  have hm:aA.mk kd n b∈a.cells:=List.mem_of_mem_drop (by rw[h]; simp)
  have ihc:=ih _ hm
  have rec_:iG (a,deep,(k:Int)+1)=_:=An7 hs h0 h8 ih r (k+1) (bC h)
  rw[iG]
  simp only[dL (cH h),if_true,bO h,oJ,bJ,bZ h hs,Bh6]
  simp only[aA.kind,aA.n,aA.box,AiN,AdU] at ihc ⊢
  by_cases h2:kd=2
  ·by_cases hn:n=0
   ·by_cases hb:b.length=1
    ·obtain⟨x,rfl⟩:∃x,b=[x]:=List.length_eq_one_iff.1 hb
     by_cases h9:deep>=8
     ·simp[h2,hn,h9]
     have hx:=ihc x sM (deep+1) oM oM
     have hw:w64 (deep+1)=deep+1:=aE oM oM
     have hl:lget [x] 0=some x:=rfl
     by_cases hz:AfZ x (deep+1)=0
     ·simp[h2,hn,h9,hw,hl,hx,BeF,hz,rec_]
     simp[h2,hn,h9,hw,hl,hx,BeF,hz]
    ·have hb':¬((b.length:Int)=1):=oM
     by_cases hp:b.length>0
     ·have hp':(b.length:Int)>0:=oM
      simp[h2,hn,hb,hb',hp,hp']
     have hp':¬(b.length:Int)>0:=oM
     simp[h2,hn,hb,hb',hp,hp']
   ·by_cases hp:b.length>0
    ·have hp':(b.length:Int)>0:=oM
     simp[h2,hn,hp,hp']
    ·have hp':¬(b.length:Int)>0:=oM
     simp[h2,hn,hp,hp']
  by_cases hp:b.length>0
  ·have hp':(b.length:Int)>0:=oM
   simp[h2,hp,hp']
  have hp':¬(b.length:Int)>0:=oM
  by_cases h00:kd=0
  ·simp[h00,hp,hp',rec_]
  by_cases h1:kd=1
  ·by_cases hg:AxH n=true
   ·simp[h1,hp,hp',hg,rec_]
   ·simp[h1,hp,hp',hg]
  simp[h2,h1,h00,hp,hp']
theorem AyS:∀{l:List Int} {n m:Int},(∀d∈l,0<d)->0<n->n<=16384->wS n l=.ok m->m=n*aS l/\0<m/\m<=16384/\∀d∈l,d<=16384
 | [],n,m,_,h0,h1,h=>by simp only[wS,Except.ok.injEq] at h; subst h; simp[aS,h0,h1]
 |d::r,n,m,hp,h0,h1,h=>by
  simp only[wS] at h
  split at h
  ·cases h
  rename_i hq
  have hd:=hp d sM
  have h2:d<=16384 / n:=oM
  have hm:n*d<=16384:=by
   have:=(Int.le_ediv_iff_mul_le h0).1 h2
   rw[Int.mul_comm]; exact this
  have hm0:0<n*d:=Int.mul_pos h0 hd
  obtain⟨e,g1,g2,g3⟩:=AyS (λx hx=>hp x (by simp[hx])) hm0 hm h
  refine⟨by rw[e,aS]; exact Int.mul_assoc _ _ _,g1,g2,?_⟩
  intro x hx
  rcases List.mem_cons.1 hx with rfl|hx
  ·have:x<=n*x:=by
    have:=Int.mul_le_mul_of_nonneg_right (show (1:Int)<=n by omega) (Int.le_of_lt hd)
    rwa [Int.one_mul] at this
   omega
  exact g3 x hx
theorem AtA:∀{l:List Int} {b:Bool},Aa5 b l=.ok true->(∀d∈l,0<=d)/\(b=true\/0∈l)
 | [],b,h=>by simp only[Aa5,Except.ok.injEq] at h; simp[h]
 |d::r,b,h=>by
  simp only[Aa5] at h
  split at h
  ·cases h
  rename_i hd
  obtain⟨h1,h2⟩:=AtA h
  refine⟨?_,?_⟩
  ·intro x hx
   rcases List.mem_cons.1 hx with rfl|hx
   ·omega
   exact h1 x hx
  rcases h2 with h2|h2
  ·rw[Bool.or_eq_true,beq_iff_eq] at h2
   rcases h2 with h2|h2
   ·exact .inl h2
   exact .inr (by simp[h2])
  exact .inr (by simp[h2])
theorem Ak3:∀{l:List Int},0∈l->aS l=0
 |d::r,h=>by
  rcases List.mem_cons.1 h with rfl|h
  ·simp[aS]
  simp[aS,Ak3 h]
structure nE (s:List Int) (n:Int):Prop where
 rank:s.length<=8
 pos:∀d∈s,0<=d
 prod:aS s=n
 lo:0<=n
 hi:n<=16384
 dim:n≠0->∀d∈s,0<d/\d<=16384
theorem vG {s:List Int} (h:(lZ s).2=0):nE s (lZ s).1:=by
 unfold lZ at h ⊢
 split at h
 ·simp at h
 rename_i h8
 rw[if_neg h8]
 have e1:∀{b:Bool} {l:List Int} {r:Int×Int},Aa5 b l=.error r->r.2≠0:=by
  intro b l
  induction l generalizing b with
  |nil=>intro r h; cases h
  |cons d l ih=>
   intro r h
   simp only[Aa5] at h
   split at h
   ·simp only[Except.error.injEq] at h; subst h; simp
   exact ih h
 have e2:∀{n:Int} {l:List Int} {r:Int×Int},wS n l=.error r->r.2≠0:=by
  intro n l
  induction l generalizing n with
  |nil=>intro r h; cases h
  |cons d l ih=>
   intro r h
   simp only[wS] at h
   split at h
   ·simp only[Except.error.injEq] at h; subst h; simp
   exact ih h
 cases hn:Aa5 false s with
 |error r=>rw[hn] at h; exact absurd h (e1 hn)
 |ok b=>
  rw[hn] at h
  cases b with
  |true=>
   obtain⟨g1,g2⟩:=AtA hn
   have hz:0∈s:=by rcases g2 with g2|g2; exact absurd g2 sM; exact g2
   exact⟨oM,g1,Ak3 hz,sM,sM,λh=>absurd rfl h⟩
  |false=>
   obtain⟨_,hp⟩:=Av6 hn
   simp only at h ⊢
   cases hl:wS 1 s with
   |error r=>rw[hl] at h; exact absurd h (e2 hl)
   |ok n=>
    obtain⟨g1,g2,g3,g4⟩:=AyS hp oM oM hl
    exact⟨oM,λd hd=>Int.le_of_lt (hp d hd),by rw[g1,Int.one_mul],by simp only; omega,g3,λ_ d hd=>⟨hp d hd,g4 d hd⟩⟩
theorem BeE (a:Arr):∀d,0<=d->d<=8->qQ (a,d)=some (AfZ a d):=by
 refine Arr.ind (P:=λa=>∀d,0<=d->d<=8->qQ (a,d)=some (AfZ a d)) ?_ a
 intro sh cs ih d h0 h8
 rw[qQ]
 simp only[show (Arr.mk sh cs).shape=sh from rfl,show (Arr.mk sh cs).cells=cs from rfl,AaJ,oJ,bJ,AfZ]
 by_cases he:(lZ sh).2=0
 ·by_cases hn:(lZ sh).1=cs.length
  ·have hz:=vG he
   have hfs:Few sh:=by have:=hz.rank; unfold Few; omega
   have hfc:Few cs:=by have:=hz.hi; unfold Few; omega
   have h1:=An6 (a:=.mk sh cs) (deep:=d) hfs sh 0 rfl
   have h2:=An7 (a:=.mk sh cs) (deep:=d) hfc h0 h8 ih cs 0 rfl
   rw[show jQ (Arr.mk sh cs,d,0)=_ from h1,show iG (Arr.mk sh cs,d,0)=_ from h2]
   cases ha:sh.any (λd=>decide (d>16384)) with
   |true=>simp[he,hn]
   |false=>
    by_cases hc:AiN cs d=0
    ·simp[he,hn,hc]
    simp[he,hn,hc]
  ·have:((lZ sh).1 != (cs.length:Int))=true:=by simpa using hn
   simp[he,hn]
 simp[he]
theorem rK (a:Arr):jD a=some (AfZ a 0):=by
 unfold jD
 rw[BeE a 0 oM oM]; rfl
end Go.AM.Seat
namespace Go.AM.Seat
open Go Go.AM
def Val (d:Int) (a:Arr):Prop:=AfZ a d=0
structure Az7 (d:Int) (a:Arr):Prop where
 sized:nE a.shape a.cells.length
 dims:∀x∈a.shape,x<=16384
 cells:∀c∈a.cells,AdU c d=0
theorem AjK {d:Int}:∀{l:List aA},AiN l d=0↔∀c∈l,AdU c d=0
 | []=>by simp[AiN]
 |c::r=>by
  simp only[AiN,List.mem_cons,forall_eq_or_imp]
  by_cases h:AdU c d=0
  ·simp[h,AjK (l:=r)]
  simp[h]
theorem AvL {d:Int} {a:Arr}:Val d a↔Az7 d a:=by
  obtain⟨sh,cs⟩:=a
  unfold Val
  simp only[AfZ]
  constructor
  ·intro h
   split at h
   ·rename_i he; exact absurd h he
   rename_i he
   split at h
   ·omega
   rename_i hn
   split at h
   ·omega
   rename_i ha
   have he':(lZ sh).2=0:=oM
   have hz:=vG he'
   have hn':(lZ sh).1=cs.length:=oM
   rw[hn'] at hz
   refine⟨hz,?_,AjK.1 h⟩
   intro x hx
   simp only[Bool.not_eq_true,List.any_eq_false,decide_eq_true_eq] at ha
   have:=ha x hx
   omega
  rintro⟨h1,h2,h3⟩
  have he:lZ sh=((cs.length:Int),0):=sizeS_of h1
  rw[he]
  simp only[ne_eq,not_true_eq_false,if_false]
  rw[if_neg]
  ·exact AjK.2 h3
  simp only[Bool.not_eq_true,List.any_eq_false,decide_eq_true_eq]
  intro x hx
  have:=h2 x hx
  simp only[Arr.shape] at *
  omega
 where
  sizeS_of {s:List Int} {n:Int} (h:nE s n):lZ s=(n,0):=by
   unfold lZ
   have h8:=h.rank
   rw[if_neg oM]
   by_cases hz:n=0
   ·have hp:aS s=0:=by rw[h.prod,hz]
    have h0:0∈s:=prod_zero hp
    rw[neg_zero false h.pos (.inr h0)]
    subst hz; rfl
   have hd:=h.dim hz
   rw[neg_pos (λd hd'=>(hd d hd').1)]
   simp only
   rw[size_ok (n:=1) (λd hd'=>(hd d hd').1) oM (by rw[Int.one_mul,h.prod]; exact h.hi)]
   simp only[Int.one_mul,h.prod]
  prod_zero:∀{l:List Int},aS l=0->0∈l
   | [],h=>by simp[aS] at h
   |d::r,h=>by
    simp only[aS] at h
    rcases Int.mul_eq_zero.1 h with h|h
    ·simp[h]
    simp[prod_zero h]
  neg_zero:∀{l:List Int} (b:Bool),(∀d∈l,0<=d)->(b=true\/0∈l)->Aa5 b l=.ok true
   | [],b,_,h=>by
    rcases h with h|h
    ·simp[Aa5,h]
    simp at h
   |d::r,b,hp,h=>by
    have hd:=hp d sM
    simp only[Aa5]
    rw[if_neg oM]
    refine neg_zero _ (λx hx=>hp x (by simp[hx])) ?_
    rcases h with h|h
    ·left; simp[h]
    rcases List.mem_cons.1 h with h|h
    ·left; simp[←h]
    exact .inr h
  neg_pos:∀{l:List Int},(∀d∈l,0<d)->Aa5 false l=.ok false
   | [],_=>rfl
   |d::r,hp=>by
    have hd:=hp d sM
    simp only[Aa5]
    rw[if_neg oM]
    have:(false||d==0)=false:=by simp; omega
    rw[this]
    exact neg_pos λx hx=>hp x (by simp[hx])
  prod_pos:∀{l:List Int},(∀d∈l,0<d)->0<aS l
   | [],_=>by simp[aS]
   |d::r,hp=>Int.mul_pos (hp d sM) (prod_pos λx hx=>hp x (by simp[hx]))
  size_ok:∀{l:List Int} {n:Int},(∀d∈l,0<d)->0<n->n*aS l<=16384->wS n l=.ok (n*aS l)
   | [],n,_,_,_=>by simp[wS,aS]
   |d::r,n,hp,h0,h=>by
    have hd:=hp d sM
    have hr:=prod_pos (l:=r) λx hx=>hp x (by simp[hx])
    simp only[aS,←Int.mul_assoc] at h ⊢
    have h1:n*d<=16384:=by
     have h2:n*d*1<=n*d*aS r:=Int.mul_le_mul_of_nonneg_left oM (Int.le_of_lt (Int.mul_pos h0 hd))
     rw[Int.mul_one] at h2
     omega
    simp only[wS]
    rw[if_neg]
    ·exact size_ok (λx hx=>hp x (by simp[hx])) (Int.mul_pos h0 hd) h
    have:d<=16384 / n:=(Int.le_ediv_iff_mul_le h0).2 (by rw[Int.mul_comm]; exact h1)
    omega
theorem Val.i {d:Int} {a:Arr} (h:Val d a):Az7 d a:=AvL.1 h
theorem Az7.v {d:Int} {a:Arr} (h:Az7 d a):Val d a:=AvL.2 h
theorem Val.fews {d:Int} {a:Arr} (h:Val d a):Few a.shape:=by have:=h.i.sized.rank; unfold Few; omega
theorem Val.fewc {d:Int} {a:Arr} (h:Val d a):Few a.cells:=by have:=h.i.sized.hi; unfold Few; omega
theorem sS {d:Int} {c:aA} (h:AdU c d=0):(c.kind=2/\c.n=0/\d<8/\∃b,c.box=[b]/\Val (d+1) b)\/(c.box=[]/\(c.kind=0\/(c.kind=1/\AxH c.n=true))):=by
 obtain⟨k,n,b⟩:=c
 simp only[AdU] at h
 split at h
 ·rename_i hc
  split at h
  ·omega
  obtain⟨x,rfl⟩:=List.length_eq_one_iff.1 hc.2.2
  exact .inl ⟨hc.1,hc.2.1,oM,x,rfl,h⟩
 split at h
 ·omega
 rename_i hb
 split at h
 ·rename_i hk
  refine .inr ⟨?_,hk⟩
  cases b with
  |nil=>rfl
  |cons _ _=>simp at hb
 omega
theorem BaX {a:Arr} {l:List Int} (hf:Few a.cells) (hl:a.cells.length<=16384) (hc:∀c∈a.cells,lA c=some c):∀(r:List aA) (k:Nat) (out:List aA),a.cells.drop k=r->out=a.cells.take k->kY (a,l,(k:Int),out)=some a.cells
 | [],k,out,h,ho=>by
  rw[kY]
  simp only[cB (cG h),fJ,if_false]
  rw[ho,List.take_of_length_le (List.drop_eq_nil_iff.1 h)]
 |c::r,k,out,h,ho=>by
  have hk:=cH h
  have hm:c∈a.cells:=List.mem_of_mem_drop (by rw[h]; simp)
  rw[kY]
  have hlo:out.length<=16384:=by rw[ho,List.length_take]; omega
  have hap:lapp out [c]=some (out++[c]):=by unfold lapp; rw[if_pos (by simp; omega)]
  simp only[dL hk,if_true,bO h,oJ,bJ,bZ h hf,hc c hm,hap]
  refine BaX hf hl hc r (k+1) _ (bC h) ?_
  rw[ho]
  have:a.cells[k]?=some c:=by
   have:(a.cells.drop k)[0]?=some c:=by rw[h]; rfl
   simpa using this
  rw[List.take_add_one,this]; rfl
theorem tQ (a:Arr):∀d,Val d a->fS a=some a:=by
 refine Arr.ind (P:=λa=>∀d,Val d a->fS a=some a) ?_ a
 intro sh cs ih d hv
 have hi:=hv.i
 have hc:∀c∈cs,lA c=some c:=by
  intro c hm
  rw[lA]
  rcases sS (hi.cells c hm) with ⟨_,_,_,b,hb,hvb⟩|⟨hb,_⟩
  ·have:=ih c hm b (by rw[hb]; simp) _ hvb
   obtain⟨k,n,bx⟩:=c
   simp only[aA.box] at hb
   subst hb
   have hl:lget [b] 0=some b:=rfl
   simp[aA.box,aA.kind,aA.n,hl,this]
  obtain⟨k,n,bx⟩:=c
  simp only[aA.box] at hb
  subst hb
  simp[aA.box,aA.kind,aA.n]
 rw[fS]
 have h1:lapp [] sh=some sh:=by unfold lapp; have:=hi.sized.rank; simp only[Arr.shape] at this; rw[if_pos (by simp; omega)]; simp
 have hlen:cs.length<=16384:=by have:=hi.sized.hi; simp only[Arr.cells] at this; omega
 have h2:=BaX (a:=.mk sh cs) (l:=sh) hv.fewc hlen hc cs 0 [] rfl rfl
 simp only[Arr.shape,h1,oJ,bJ]
 rw[show kY (Arr.mk sh cs,sh,0,[])=some cs from h2]; rfl
mutual
def wA:Arr->Nat
 |.mk _ cs=>wCs cs
def wCs:List aA->Nat
 | []=>0
 |c::r=>1+wC c+wCs r
def wC:aA->Nat
 |.mk _ _ b=>wB b
def wB:List Arr->Nat
 | []=>0
 |a::r=>wA a+wB r
end
theorem Az2 (a:Arr):wA a=wCs a.cells:=by cases a; rfl
theorem Az3 (c:aA):wC c=wB c.box:=by cases c; rfl
def bCs:List aA->Nat
 | []=>0
 |c::r=>wC c+bCs r
theorem Ao3:∀l:List aA,wCs l=l.length+bCs l
 | []=>rfl
 |c::r=>by simp only[wCs,bCs,List.length_cons,Ao3 r]; omega
theorem Be6 {m:Nat}:∀{l:List aA},(∀c∈l,wC c<=m)->bCs l<=l.length*m
 | [],_=>by simp[bCs]
 |c::r,h=>by
  have h1:=h c sM
  have h2:=Be6 λx hx=>h x (List.mem_cons_of_mem _ hx)
  simp only[bCs,List.length_cons,Nat.add_mul,Nat.one_mul]
  omega
theorem AoF {c:aA}:∀{l:List aA},c∈l->wC c<=bCs l
 |x::r,h=>by
  simp only[bCs]
  rcases List.mem_cons.1 h with rfl|h
  ·omega
  have:=AoF h; omega
theorem Am2:∀(l:List aA) (k:Nat),bCs l=bCs (l.take k)+bCs (l.drop k)
 | [],k=>by simp[bCs]
 |c::r,0=>by simp[bCs]
 |c::r,k+1=>by simp only[List.take_succ_cons,List.drop_succ_cons,bCs,Am2 r k]; omega
def big:Nat:=4611686018427387904
theorem BgJ (a:Arr):∀d,Val d a->T (lD a) (λn=>wA a<big->n=wA a):=by
 refine Arr.ind (P:=λa=>∀d,Val d a->T (lD a) (λn=>wA a<big->n=wA a)) ?_ a
 intro sh cs ih d hv
 have hi:=hv.i
 have hfc:Few cs:=hv.fewc
 have l1:∀(x:Int) (c:aA),c∈cs->∀n:Int,T (jE (.mk sh cs,x,c,n,0)) (λm=>wCs cs<big->0<=n->n+wC c<big->m=n+wC c):=by
  intro x c hm n
  have hc:=hi.cells c hm
  rw[jE]
  rcases sS hc with ⟨_,_,_,b,hb,hvb⟩|⟨hb,_⟩
  ·have hwc:wC c=wA b:=by rw[Az3,hb]; simp[wB]
   simp only[hb]
   rw[show (decide ((0:Int)<(([b]:List Arr).length:Int)))=true from rfl,if_pos rfl,show lget [b] (0:Int)=some b from rfl]
   refine T.bind (T.val rfl (Q:=λv=>v=b) rfl) ?_
   intro v hv'; subst hv'
   refine T.bind (ih c hm v (by rw[hb]; simp) _ hvb) ?_
   intro w hw
   rw[jE]
   simp only[hb]
   rw[show (decide (w64 (0+1)<(([v]:List Arr).length:Int)))=false from rfl]
   refine T.ret ?_
   intro h1 h2 h3
   have hwm:=AoF hm
   have hwb:=Ao3 cs
   have:=hw oM
   rw[this,hwc]
   rw[aE oM (by unfold big at h3; omega)]
  have hwc:wC c=0:=by rw[Az3,hb]; simp[wB]
  simp only[hb]
  refine T.ret ?_
  intro h1 h2 h3; rw[hwc]; simp
 have l0:∀(r:List aA) (k:Nat) (n:Int),cs.drop k=r->T (kR (.mk sh cs,n,(k:Int))) (λm=>wCs cs<big->n=((cs.length+bCs (cs.take k):Nat):Int)->m=wCs cs):=by
  intro r
  induction r with
  |nil=>
   intro k n h
   rw[kR]
   simp only[show (Arr.mk sh cs).cells=cs from rfl,cB (cG h),fJ,if_false]
   refine T.ret ?_
   intro h1 h2
   rw[h2,Ao3,List.take_of_length_le (List.drop_eq_nil_iff.1 h)]
  |cons c r ihr=>
   intro k n h
   have hm:c∈cs:=List.mem_of_mem_drop (by rw[h]; simp)
   rw[kR]
   simp only[show (Arr.mk sh cs).cells=cs from rfl,dL (cH h),if_true,bO h,oJ,bJ,bZ h hfc]
   refine T.bind (l1 _ c hm n) ?_
   intro m hm2
   refine (ihr (k+1) m (bC h)).imp ?_
   intro v hv2 h1 h2
   refine hv2 h1 ?_
   have hs:=Am2 cs k
   have hs':=Am2 cs (k+1)
   rw[h] at hs
   rw[bC h] at hs'
   simp only[bCs] at hs
   have hwb:=Ao3 cs
   rw[hm2 h1 oM oM]
   omega
 rw[lD]
 refine T.bind (l0 cs 0 _ rfl) ?_
 intro v hv2
 refine T.ret ?_
 intro h1
 rw[Az2] at h1 ⊢
 refine hv2 h1 ?_
 simp[bCs,Arr.cells]
end Go.AM.Seat
namespace Go.AM.Seat
open Go Go.AM
theorem Node.ind {P:Node->Prop} (h:∀n,(∀k∈Node.kids n,P k)->P n) (n:Node):P n:=by
 refine Node.rec (motive_1:=P) (motive_2:=λl=>∀k∈l,P k) ?_ ?_ ?_ n
 ·intro kd op nm lit ks at_ ih; exact h _ ih
 ·intro k hk; simp at hk
 intro k l ihk ihl x hx
 rcases List.mem_cons.1 hx with rfl|hx
 ·exact ihk
 exact ihl x hx
mutual
def fitA:Arr->Prop
 |.mk sh cs=>Few sh/\Few cs/\Ax9 cs
def Ax9:List aA->Prop
 | []=>True
 |c::r=>AuP c/\Ax9 r
def AuP:aA->Prop
 |.mk _ _ b=>Few b/\Bh4 b
def Bh4:List Arr->Prop
 | []=>True
 |a::r=>fitA a/\Bh4 r
end
mutual
def fitN:Node->Prop
 |.mk _ _ nm lit ks _=>Few nm/\fitA lit/\Few ks/\Bb8 ks
def Bb8:List Node->Prop
 | []=>True
 |n::r=>fitN n/\Bb8 r
end
theorem AsR:∀{l:List Node},Bb8 l->∀k∈l,fitN k
 |n::r,h,k,hk=>by
  rcases List.mem_cons.1 hk with rfl|hk
  ·exact h.1
  exact AsR h.2 k hk
theorem fitN.name {n:Node} (h:fitN n):Few n.name:=by cases n; exact h.1
theorem fitN.kids {n:Node} (h:fitN n):∀k∈n.kids,fitN k:=by cases n; exact AsR h.2.2.2
theorem fitN.fewk {n:Node} (h:fitN n):Few n.kids:=by cases n; exact h.2.2.1
def WfB (n:Node):Prop:=(n.kind=21/\21<=n.op_/\n.op_<=32)\/(n.kind=35/\∃b,n.kids=[b]/\b.kind=21/\21<=b.op_/\b.op_<=32)
mutual
inductive WfE:Bool->Bool->Node->Prop
 |lit {n:Node} {lt rt:Bool}:n.kind=1->Val 0 n.lit->WfE lt rt n
 |var {n:Node} {lt rt:Bool}:n.kind=2->WfE lt rt n
 |left {n:Node} {lt rt:Bool}:n.kind=3->lt=true->WfE lt rt n
 |right {n:Node} {lt rt:Bool}:n.kind=4->rt=true->WfE lt rt n
 |mo {n f x:Node} {lt rt:Bool}:n.kind=5->n.kids=[f,x]->WfM f->WfE lt rt x->WfE lt rt n
 |dy {n f x y:Node} {lt rt:Bool}:n.kind=6->n.kids=[f,x,y]->WfD f->WfE lt rt x->WfE lt rt y->WfE lt rt n
inductive WfM:Node->Prop
 |prim {n:Node}:n.kind=21->WfM n
 |lam {n e:Node}:n.kind=22->n.kids=[e]->WfE false true e->WfM n
 |fold {n b:Node}:n.kind=31\/n.kind=32\/n.kind=33\/n.kind=34->n.kids=[b]->WfB b->WfM n
 |comm {n f:Node}:n.kind=35->n.kids=[f]->WfT f->WfM n
 |pow {n f:Node}:n.kind=26->0<=n.op_->n.op_<=4096->n.kids=[f]->WfM f->WfM n
inductive WfT:Node->Prop
 |prim {n:Node}:n.kind=21->WfT n
 |lam {n e:Node}:n.kind=23->n.kids=[e]->WfE true true e->WfT n
inductive WfD:Node->Prop
 |outer {n b:Node}:n.kind=25->n.kids=[b]->WfB b->WfD n
 |comm {n f:Node}:n.kind=35->n.kids=[f]->WfT f->WfD n
 |two {n:Node}:WfT n->WfD n
end
theorem WfE.mono (n:Node):∀{lt rt lt' rt':Bool},WfE lt rt n->(lt=true->lt'=true)->(rt=true->rt'=true)->WfE lt' rt' n:=by
 refine Node.ind (P:=λn=>∀{lt rt lt' rt':Bool},WfE lt rt n->(lt=true->lt'=true)->(rt=true->rt'=true)->WfE lt' rt' n) ?_ n
 intro n ih lt rt lt' rt' h h1 h2
 cases h with
 |lit a b=>exact .lit a b
 |var a=>exact .var a
 |left a b=>exact .left a (h1 b)
 |right a b=>exact .right a (h2 b)
 |mo a b c d=>exact .mo a b c (ih _ (by rw[b]; simp) d h1 h2)
 |dy a b c d e=>exact .dy a b c (ih _ (by rw[b]; simp) d h1 h2) (ih _ (by rw[b]; simp) e h1 h2)
theorem AmO {b:List (Int×Bool)} {k j:Int}:zP (Av4 b k true) j false=if j=k then true else zP b j false:=by
 induction b with
 |nil=>simp only[Av4,zP]; by_cases h:j=k<;>simp[h]
 |cons p r ih=>
  obtain⟨k',v'⟩:=p
  simp only[Av4]
  by_cases h:k=k'
  ·subst h
   simp only[beq_self_eq_true,if_true,zP]
   by_cases h2:j=k<;>simp[h2]
  have e1:(k==k')=false:=by simpa using h
  simp only[e1,fJ,if_false,zP,ih]
  by_cases h2:j=k'
  ·have h3:¬j=k:=λe=>h (by rw[←e,h2])
   have e2:(j==k')=true:=by simpa using h2
   rw[e2,if_pos rfl,if_neg h3,if_pos rfl]
  have e2:(j==k')=false:=by simpa using h2
  simp only[e2,fJ,if_false]
def QE (b:List (Int×Bool)) (n:Node) (r:Bool×Int×List (Int×Bool)):Prop:=
 (∀k,zP b k false=true->zP r.2.2 k false=true)/\(r.1=true->WfE (zP r.2.2 3 false) (zP r.2.2 4 false) n)
theorem qe {b:List (Int×Bool)} {n:Node} {t:Bool} {m:Int} (h:t=true->∀lt rt,WfE lt rt n):QE b n (t,m,b):=⟨λ_ h=>h,λe=>h e _ _⟩
theorem qno {b:List (Int×Bool)} {n:Node} {m:Int}:QE b n (false,m,b):=qe λe=>by cases e
theorem AeL {deep nodes:Int} {b:List (Int×Bool)}:T (cX deep nodes b) (λ_=>True):=by
 unfold cX
 exact T.ite (λ_=>T.ret trivial) (λ_=>T.ret trivial)
theorem AbD {deep nodes:Int}:T (bV deep nodes) (λ_=>True):=by
 unfold bV
 exact T.ite (λ_=>T.ret trivial) (λ_=>T.ret trivial)
theorem gQ {n:Node} {k:Int} {a b c:Bool}:T (bN n k a b c) (λr=>r=true->(n.kids.length:Int)=k):=by
 unfold bN
 refine T.ite (λh=>?_) (λ_=>T.ret (by intro e; cases e))
 have hk:(n.kids.length:Int)=k:=by simpa using h
 have ok:∀x:Bool,x=true->(n.kids.length:Int)=k:=λ_ _=>hk
 repeat' (first|exact T.ret (ok _)|refine T.ite (λ_=>?_) (λ_=>?_))
theorem AfG {n:Node} (h:(n.kids.length:Int)=1):∃a,n.kids=[a]:=List.length_eq_one_iff.1 oM
theorem BiN {n:Node} (h:(n.kids.length:Int)=2):∃a b,n.kids=[a,b]:=by
 match hk:n.kids,h with
 | [a,b],_=>exact⟨a,b,rfl⟩
 | [],h=>simp at h
 | [_],h=>simp at h
 |_::_::_::_,h=>simp at h; omega
theorem BiO {n:Node} (h:(n.kids.length:Int)=3):∃a b c,n.kids=[a,b,c]:=by
 match hk:n.kids,h with
 | [a,b,c],_=>exact⟨a,b,c,rfl⟩
 | [],h=>simp at h
 | [_],h=>simp at h
 | [_,_],h=>simp at h
 |_::_::_::_::_,h=>simp at h; omega
theorem AkE {op:Int}:T (nI op) (λr=>r=true->21<=op/\op<=32):=by
 unfold nI
 refine T.ite (λh=>T.ret ?_) (λ_=>T.ret (by intro e; cases e))
 intro e
 simp at h e; omega
theorem AkB {a:Arr} (hf:Few a.cells):∀(r:List aA) (k:Nat),a.cells.drop k=r->T (jS (a,(k:Int))) (λ_=>True)
 | [],k,h=>by
  rw[jS]
  simp only[cB (cG h),fJ,if_false]
  exact T.ret trivial
 |c::r,k,h=>by
  have hk:=cH h
  have ih:=AkB hf r (k+1) (bC h)
  rw[jS]
  simp only[dL hk,if_true,bO h,oJ,bJ,bZ h hf]
  refine T.bind (R:=λ_=>True) ?_ (λv _=>?_)
  ·refine T.ite (λ_=>T.ret trivial) (λ_=>?_)
   refine T.bind (T.lget (Q:=λ_=>True) oM oM (λ_ _=>trivial)) (λy _=>?_)
   repeat' (first|exact T.ret trivial|refine T.ite (λ_=>?_) (λ_=>?_))
  cases v
  ·exact T.ret trivial
  exact ih
theorem AkC {a:Arr} (hf:Few a.cells):∀(r:List aA) (k:Nat),a.cells.drop k=r->T (jU (a,(k:Int))) (λ_=>True)
 | [],k,h=>by
  rw[jU]
  simp only[cB (cG h),fJ,if_false]
  exact T.ret trivial
 |c::r,k,h=>by
  have hk:=cH h
  have ih:=AkC hf r (k+1) (bC h)
  rw[jU]
  simp only[dL hk,if_true,bO h,oJ,bJ,bZ h hf]
  refine T.bind (R:=λ_=>True) ?_ (λv _=>?_)
  ·refine T.ite (λ_=>T.ret trivial) (λ_=>?_)
   refine T.bind (T.lget (Q:=λ_=>True) oM oM (λ_ _=>trivial)) (λy _=>?_)
   repeat' (first|exact T.ret trivial|refine T.ite (λ_=>?_) (λ_=>?_))
  cases v
  ·exact T.ret trivial
  exact ih
theorem ArS (a:Arr):T (qF a) (λr=>r=true->Val 0 a):=by
 unfold qF
 refine T.bind (T.val (rK a) (Q:=λv=>v=AfZ a 0) rfl) (λx hx=>?_)
 subst hx
 refine T.ite (λ_=>T.ret (by intro e; cases e)) (λhx=>?_)
 have hv:Val 0 a:=by unfold Val; simpa using hx
 have ok:∀r:Bool,r=true->Val 0 a:=λ_ _=>hv
 refine T.ite (λ_=>T.ret (ok _)) (λ_=>?_)
 refine T.ite (λ_=>?_) (λ_=>?_)
 ·refine T.ite (λ_=>T.ret (ok _)) (λ_=>?_)
  refine T.bind (AkB hv.fewc a.cells 0 rfl) (λv _=>?_)
  cases v<;>exact T.ret (ok _)
 refine T.bind (AkC hv.fewc a.cells 0 rfl) (λv _=>?_)
 cases v<;>exact T.ret (ok _)
theorem ArT {s:Str} (hf:Few s):∀(r:List UInt8) (k:Nat),s.drop k=r->T (nX (s,(k:Int))) (λ_=>True)
 | [],k,h=>by
  rw[nX]
  simp only[cB (cG h),fJ,if_false]
  exact T.ret trivial
 |c::r,k,h=>by
  have hk:=cH h
  have ih:=ArT hf r (k+1) (bC h)
  rw[nX]
  have g:∀{α:Type} {f:Int->Option α} {Q:α->Prop},(∀v,T (f v) Q)->T (sget s (k:Int)>>=f) Q:=λhh=>T.bind (T.sget (Q:=λ_=>True) oM hk (λ_ _=>trivial)) (λv _=>hh v)
  simp only[dL hk,if_true,bZ h hf]
  refine T.bind (R:=λ_=>True) ?_ (λv _=>?_)
  ·repeat' (first|exact T.ret trivial|refine T.ite (λ_=>?_) (λ_=>?_)|refine g (λ_=>?_))
  cases v
  ·exact T.ret trivial
  exact ih
theorem BdR {s:Str} (hf:Few s):T (wL s) (λ_=>True):=by
 unfold wL
 refine T.bind (ArT hf s 0 rfl) (λv _=>?_)
 cases v
 ·exact T.ret trivial
 exact T.ite (λ_=>T.ret trivial) (λ_=>T.ret trivial)
theorem iO {α:Prop}:(false:Bool)=true->α:=λe=>by cases e
theorem fI {a b:Int} (h:(a==b)=true):a=b:=by simpa using h
theorem kC {α:Type} {a:α} {r:List α} {Q:α->Prop} (h:Q a):T (lget (a::r) 0) Q:=⟨a,rfl,h⟩
theorem AxS {α:Type} {a b:α} {r:List α} {Q:α->Prop} (h:Q b):T (lget (a::b::r) 1) Q:=⟨b,rfl,h⟩
theorem BiP {α:Type} {a b c:α} {r:List α} {Q:α->Prop} (h:Q c):T (lget (a::b::c::r) 2) Q:=⟨c,rfl,h⟩
theorem As5 {n:Node} {deep nodes:Int} {b:List (Int×Bool)}:T (gO n deep nodes b) (λr=>r.1=true->WfB n):=by
 unfold gO
 refine T.bind (R:=λr=>match r with|.error r=>r.1=false|.ok (_,k,o,_)=>(k=21->21<=o->o<=32->WfB n)) ?_ (λv hv=>?_)
 ·refine T.ite (λh=>?_) (λh=>?_)
  ·refine T.bind AeL (λv _=>?_)
   refine T.ite (λ_=>T.ret rfl) (λ_=>?_)
   refine T.bind gQ (λx hx=>?_)
   refine T.ite (λ_=>T.ret rfl) (λhxx=>?_)
   obtain⟨a,ha⟩:=AfG (hx (by simpa using hxx))
   rw[ha]
   refine T.bind (kC (Q:=λy=>y=a) rfl) (λy hy=>?_)
   subst hy
   exact T.ret (λh1 h2 h3=>.inr ⟨fI h,y,ha,h1,h2,h3⟩)
  ·exact T.ret (λh1 h2 h3=>.inl ⟨h1,h2,h3⟩)
 match v,hv with
 |.error r,hv=>exact T.ret (λe=>by rw[hv] at e; cases e)
 |.ok (_,k,o,_,_,_,_,_,_),hv=>
  refine T.bind AeL (λv _=>?_)
  refine T.ite (λ_=>?_) (λ_=>T.ret iO)
  refine T.ite (λhk=>?_) (λ_=>T.ret iO)
  refine T.bind gQ (λx hx=>?_)
  refine T.ite (λ_=>?_) (λ_=>T.ret iO)
  refine T.bind AkE (λx hx=>?_)
  exact T.ret (λe=>hv (fI hk) (hx e).1 (hx e).2)
def BdP (n:Node):Prop:=∀(deep nodes:Int) (b:List (Int×Bool)),
 T (dR (n,deep,nodes,b)) (QE b n)/\T (lX (n,deep,nodes,b)) (λr=>r.1=true->WfM n)/\T (pN (n,deep,nodes,b)) (λr=>r.1=true->WfD n) /\
 T (gE (n,deep,nodes,b)) (λr=>r.1=true->WfT n)
theorem BkJ (n:Node):fitN n->BdP n:=by
 refine Node.ind (P:=λn=>fitN n->BdP n) ?_ n
 intro n ih hf
 have ihk:∀k∈n.kids,BdP k:=λk hk=>ih k hk (hf.kids k hk)
 have lam:∀(deep nodes:Int) (b:List (Int×Bool)),T (hJ (n,deep,nodes,b)) (λr=>r.1=true->∃e,n.kids=[e]/\(n.kind=22->WfE false true e)/\(n.kind≠22->WfE true true e)):=by
  intro deep nodes b
  rw[hJ]
  refine T.bind gQ (λx hx=>?_)
  refine T.ite (λ_=>T.ret iO) (λhxx=>?_)
  obtain⟨a,ha⟩:=AfG (hx (by simpa using hxx))
  rw[ha]
  refine T.bind (kC (Q:=λy=>y=a) rfl) (λy hy=>?_)
  subst hy
  refine T.bind ((ihk y (by rw[ha]; simp) (w64 (deep+1)) nodes []).1) (λr hr=>?_)
  refine T.ite (λhk=>?_) (λhk=>?_)
  ·refine T.ite (λh=>T.ret (λe=>⟨y,rfl,λ_=>(hr.2 h).mono _ (λh3=>by rw[h3] at e; cases e) (λ_=>rfl),λh'=>absurd (fI hk) h'⟩)) (λ_=>T.ret iO)
  refine T.ite (λh=>?_) (λ_=>T.ret iO)
  refine T.ite (λh3=>T.ret (λh4=>⟨y,rfl,λh'=>by rw[h'] at hk; simp at hk,λ_=>(hr.2 h).mono _ (λ_=>rfl) (λ_=>rfl)⟩)) (λ_=>T.ret iO)
 have two:∀(deep nodes:Int) (b:List (Int×Bool)),T (gE (n,deep,nodes,b)) (λr=>r.1=true->WfT n):=by
  intro deep nodes b
  rw[gE]
  refine T.bind AeL (λv _=>?_)
  refine T.ite (λ_=>T.ret iO) (λ_=>?_)
  refine T.ite (λhk=>?_) (λ_=>?_)
  ·have hp:WfT n:=.prim (fI hk)
   refine T.bind gQ (λx hx=>?_)
   refine T.ite (λ_=>?_) (λ_=>T.ret iO)
   refine T.bind AkE (λx hx=>?_)
   refine T.ite (λ_=>T.ret (λ_=>hp)) (λ_=>?_)
   exact T.ite (λ_=>T.ret (λ_=>hp)) (λ_=>T.ret iO)
  refine T.ite (λhk=>?_) (λ_=>T.ret iO)
  refine T.bind (lam deep _ b) (λr hr=>T.ret (λe=>?_))
  obtain⟨x,h1,h2⟩:=hr e
  exact .lam (fI hk) h1 (h2.2 (by rw[fI hk]; decide))
 have turned:∀(deep nodes:Int) (b:List (Int×Bool)),T (hO (n,deep,nodes,b)) (λr=>r.1=true->∃f,n.kids=[f]/\WfT f):=by
  intro deep nodes b
  rw[hO]
  refine T.bind gQ (λx hx=>?_)
  refine T.ite (λ_=>T.ret iO) (λhxx=>?_)
  obtain⟨a,ha⟩:=AfG (hx (by simpa using hxx))
  rw[ha]
  refine T.bind (kC (Q:=λy=>y=a) rfl) (λy hy=>?_)
  subst hy
  have g:=(ihk y (by rw[ha]; simp) (w64 (deep+1)) nodes b).2.2.2
  refine T.ite (λ_=>?_) (λ_=>?_)
  ·exact T.bind g (λr hr=>T.ret (λe=>⟨y,rfl,hr e⟩))
  refine T.ite (λ_=>?_) (λ_=>T.ret iO)
  refine T.ite (λ_=>?_) (λ_=>T.ret iO)
  exact T.bind g (λr hr=>T.ret (λe=>⟨y,rfl,hr e⟩))
 intro deep nodes b
 refine⟨?_,?_,?_,two deep nodes b⟩
 ·rw[dR]
  refine T.bind AeL (λv _=>?_)
  refine T.ite (λ_=>T.ret qno) (λ_=>?_)
  refine T.ite (λhk=>?_) (λ_=>?_)
  ·refine T.bind gQ (λx hx=>?_)
   refine T.ite (λ_=>?_) (λ_=>T.ret qno)
   exact T.bind (ArS _) (λr hr=>T.ret (qe λe _ _=>.lit (fI hk) (hr e)))
  refine T.ite (λhk=>?_) (λ_=>?_)
  ·refine T.bind gQ (λx hx=>?_)
   refine T.ite (λ_=>?_) (λ_=>T.ret qno)
   exact T.bind (BdR hf.name) (λr hr=>T.ret (qe λe _ _=>.var (fI hk)))
  refine T.bind (R:=λr=>r=true->n.kind=3\/n.kind=4) ?_ (λx5 h5=>?_)
  ·exact T.ite (λh=>T.ret (λ_=>.inl (fI h))) (λ_=>T.ret (λh=>.inr (fI h)))
  refine T.ite (λhk=>?_) (λ_=>?_)
  ·refine T.bind gQ (λx hx=>?_)
   exact T.ite (λ_=>T.ret qno) (λ_=>T.ret ⟨λk h=>by rw[AmO]; split; rfl; exact h,λ_=>by
    rcases h5 hk with h|h
    ·exact .left h (by rw[AmO,if_pos h.symm])
    exact .right h (by rw[AmO,if_pos h.symm])⟩)
  refine T.ite (λhk=>?_) (λ_=>?_)
  ·refine T.bind gQ (λx hx=>?_)
   refine T.ite (λhxx=>?_) (λ_=>T.ret qno)
   obtain⟨f,x1,ha⟩:=BiN (hx hxx)
   rw[ha]
   refine T.bind (kC (Q:=λy=>y=f) rfl) (λy hy=>?_)
   subst hy
   refine T.bind (ihk y (by rw[ha]; simp) _ _ _).2.1 (λr hr=>?_)
   refine T.ite (λh8=>?_) (λ_=>T.ret qno)
   refine T.bind (AxS (Q:=λz=>z=x1) rfl) (λz hz=>?_)
   subst hz
   exact T.bind (ihk z (by rw[ha]; simp) _ _ _).1 (λr2 hr2=>T.ret ⟨hr2.1,λe=>.mo (fI hk) ha (hr h8) (hr2.2 e)⟩)
  refine T.ite (λhk=>?_) (λ_=>T.ret qno)
  refine T.bind gQ (λx hx=>?_)
  refine T.ite (λhxx=>?_) (λ_=>T.ret qno)
  obtain⟨f,x1,y1,ha⟩:=BiO (hx hxx)
  rw[ha]
  refine T.bind (kC (Q:=λy=>y=f) rfl) (λy hy=>?_)
  subst hy
  refine T.bind (ihk y (by rw[ha]; simp) _ _ _).2.2.1 (λr hr=>?_)
  refine T.ite (λh8=>?_) (λ_=>T.ret qno)
  refine T.bind (AxS (Q:=λz=>z=x1) rfl) (λz hz=>?_)
  subst hz
  refine T.bind (ihk z (by rw[ha]; simp) _ _ _).1 (λr2 hr2=>?_)
  refine T.ite (λh9=>?_) (λ_=>T.ret ⟨hr2.1,iO⟩)
  refine T.bind (BiP (Q:=λw=>w=y1) rfl) (λw hw=>?_)
  subst hw
  exact T.bind (ihk w (by rw[ha]; simp) _ _ _).1 (λr3 hr3=>T.ret ⟨λk h=>hr3.1 k (hr2.1 k h),λe=>.dy (fI hk) ha (hr h8) ((hr2.2 h9).mono _ (hr3.1 3) (hr3.1 4)) (hr3.2 e)⟩)
 ·rw[lX]
  refine T.bind AeL (λv _=>?_)
  refine T.ite (λ_=>T.ret iO) (λ_=>?_)
  refine T.ite (λhk=>?_) (λ_=>?_)
  ·refine T.bind gQ (λx hx=>?_)
   refine T.ite (λ_=>?_) (λ_=>T.ret iO)
   exact T.ite (λ_=>T.ret (λ_=>.prim (fI hk))) (λ_=>T.ret iO)
  refine T.ite (λhk=>?_) (λ_=>?_)
  ·refine T.bind (lam deep _ b) (λr hr=>T.ret (λe=>?_))
   obtain⟨x,h1,h2⟩:=hr e
   exact .lam (fI hk) h1 (h2.1 (fI hk))
  refine T.bind (R:=λr=>r=true->n.kind=31\/n.kind=32\/n.kind=33\/n.kind=34) ?_ (λx5 h5=>?_)
  ·refine T.ite (λh=>T.ret (λ_=>.inl (fI h))) (λ_=>?_)
   refine T.ite (λh=>T.ret (λ_=>.inr (.inl (fI h)))) (λ_=>?_)
   exact T.ite (λh=>T.ret (λ_=>.inr (.inr (.inl (fI h))))) (λ_=>T.ret (λh=>.inr (.inr (.inr (fI h)))))
  refine T.ite (λhk=>?_) (λ_=>?_)
  ·refine T.bind gQ (λx hx=>?_)
   refine T.ite (λhxx=>?_) (λ_=>T.ret iO)
   obtain⟨a,ha⟩:=AfG (hx hxx)
   rw[ha]
   refine T.bind (kC (Q:=λy=>y=a) rfl) (λy hy=>?_)
   subst hy
   exact T.bind As5 (λr hr=>T.ret (λe=>.fold (h5 hk) ha (hr e)))
  refine T.ite (λhk=>?_) (λ_=>?_)
  ·refine T.bind (turned deep _ b) (λr hr=>T.ret (λe=>?_))
   obtain⟨x,h1,h2⟩:=hr e
   exact .comm (fI hk) h1 h2
  refine T.ite (λhk=>?_) (λ_=>T.ret iO)
  refine T.bind gQ (λx hx=>?_)
  refine T.ite (λhxx=>?_) (λ_=>T.ret iO)
  refine T.ite (λho=>?_) (λ_=>T.ret iO)
  refine T.ite (λho'=>?_) (λ_=>T.ret iO)
  obtain⟨a,ha⟩:=AfG (hx hxx)
  rw[ha]
  refine T.bind (kC (Q:=λy=>y=a) rfl) (λy hy=>?_)
  refine T.ite (λ_=>?_) (λ_=>T.ret iO)
  refine T.bind (kC (Q:=λy=>y=a) rfl) (λz hz=>?_)
  subst hz
  exact T.bind (ihk z (by rw[ha]; simp) _ _ _).2.1 (λr hr=>T.ret (λe=>.pow (fI hk) (by simpa using ho) (by simpa using ho') ha (hr e)))
 rw[pN]
 refine T.ite (λhk=>?_) (λ_=>?_)
 ·refine T.bind AeL (λv _=>?_)
  refine T.ite (λ_=>?_) (λ_=>T.ret iO)
  refine T.bind gQ (λx hx=>?_)
  refine T.ite (λhxx=>?_) (λ_=>T.ret iO)
  obtain⟨a,ha⟩:=AfG (hx hxx)
  rw[ha]
  refine T.bind (kC (Q:=λy=>y=a) rfl) (λy hy=>?_)
  subst hy
  exact T.bind As5 (λr hr=>T.ret (λe=>.outer (fI hk) ha (hr e)))
 refine T.ite (λhk=>?_) (λ_=>?_)
 ·refine T.bind AeL (λv _=>?_)
  refine T.ite (λ_=>?_) (λ_=>T.ret iO)
  refine T.bind (turned deep _ b) (λr hr=>T.ret (λe=>?_))
  obtain⟨x,h1,h2⟩:=hr e
  exact .comm (fI hk) h1 h2
 exact T.bind (two deep _ b) (λr hr=>T.ret (λe=>.two (hr e)))
end Go.AM.Seat
namespace Go.AM
open Go Go.ChangeShapes Go.WideShapes
variable [cU]
theorem BdY {a:Addr} (h:a.spot=none):a=ad a.block a.off:=by
 obtain⟨b,o,s⟩:=a
 simp only at h; subst h; rfl
theorem dN.app {K:Col} {w:World}:∀{a b:List D} {vs us:List Value},dN K w a vs->dN K w b us->dN K w (a++b) (vs++us)
 | [],b,vs,us,h,h'=>by
  simp only[dN] at h; subst h
  simpa using h'
 |d::a,b,vs,us,h,h'=>by
  simp only[dN] at h
  obtain⟨v,r,rfl,h1,h2,h3⟩:=h
  simp only[List.cons_append,dN]
  exact⟨v,r++us,rfl,h1,h2,dN.app h3 h'⟩
theorem dN.one {K:Col} {w:World} {d:D} {v:Value} (h:Rep K w d v) (h1:eZ v=true):dN K w [d] [v]:=by
 simp only[dN]; exact⟨v,[],rfl,h1,h,rfl⟩
section
variable {H:Type} {enc:TypeId×Value->H} {P:Program} {w:World} {base:Nat} {sp:Nat->Bool} {held:Bool} {t e:TypeId} {n:Nat} {cs:List Value} {x:DataW H×List MemPlace}
theorem AqP {k:IntKind} (ht:P.underlying t=some (.int k)) (h:DataW.trod enc P w base sp held n t cs=some x):∃m,dN (colRo w) w [.int k m] cs/\(Lit.int k m).wf=true:=by
 obtain⟨m,rfl,_,hw⟩:=DataW.trod_int ht h
 exact⟨m,dN.one (by simp only[Rep]) rfl,hw⟩
def Wts (P:Program) (t:TypeId) (d:DataW H):Prop:=∀b∈d.weights P t,b<=reachBytes
theorem BjR (ht:P.underlying t=some .string) (hs:Wts P t x.1) (h:DataW.trod enc P w base sp held n t cs=some x):∃s:Str,dN (colRo w) w [.str s] cs/\s.length<=reachBytes:=by
 obtain⟨s,rfl,rfl,hw⟩:=DataW.trod_string ht h
 exact⟨s.data.toList,dN.one (by simp only[Rep]) rfl,hs _ (by simp[DataW.weights])⟩
theorem AhT {d:DataW H}:∀{l:List (DataW H)},d∈l->∀b∈d.weights P e,b∈DataW.weightsAll P e l
 |y::r,hd,b,hb=>by
  simp only[DataW.weightsAll,List.mem_append]
  rcases List.mem_cons.1 hd with rfl|hd
  ·exact .inl hb
  exact .inr (AhT hd b hb)
theorem AfX {d:DataW H} {u:TypeId}:∀{ts:List TypeId} {l:List (DataW H)} {i:Nat},ts[i]?=some u->l[i]?=some d->∀b∈d.weights P u,b∈DataW.weightsEach P ts l
 |_::ts,y::r,0,ht,hl,b,hb=>by
  simp only[List.getElem?_cons_zero,sJ] at ht hl
  subst ht; subst hl
  simp only[DataW.weightsEach,List.mem_append]
  exact .inl hb
 |_::ts,y::r,i+1,ht,hl,b,hb=>by
  simp only[List.getElem?_cons_succ] at ht hl
  simp only[DataW.weightsEach,List.mem_append]
  exact .inr (AfX ht hl b hb)
theorem BdG {a:Addr} {v:Value} (h:w.cell? a=some v):a.spot=none:=by
 unfold World.cell? at h
 split at h
 ·split at h
  ·simp at h
  ·rename_i hs; simpa using hs
 simp at h
theorem AeD {α:Type} {sz:Nat} (f:α->D) (Q:α->Prop) (ht:P.underlying t=some (.slice e)) (hc:P.cellsOf e=sz) (hz:0<sz) (hb8:0<P.bytesOf e) (hs:Wts P t x.1)
  (ih:∀m,m<n->∀cs x,Wts P e x.1->DataW.trod enc P w base sp held m e cs=some x->∃a v,v.cells.toList=cs/\Rep (colRo w) w (f a) v/\Q a)
  (h:DataW.trod enc P w base sp held n t cs=some x):∃l:List α,dN (colRo w) w [.list sz (l.map f)] cs/\l.length<=reachBytes/\∀a∈l,Q a:=by
 rcases DataW.trod_slice ht h with ⟨rfl,_⟩|⟨a,len,cap,elems,rest,m,rfl,rfl,rfl,hb,hl,hm,hlen,hel,_,_⟩
 ·exact⟨[],dN.one (by simp only[Rep,List.map_nil]; exact .inl ⟨sM,.inl rfl⟩) rfl,sM,sM⟩
 subst hc
 have hle:elems.length<=reachBytes:=by
  have h1:(elems.length+rest.length)*P.bytesOf e<=reachBytes:=by
   have:=hs ((elems.length+rest.length)*P.bytesOf e) (by simp[DataW.weights,ht])
   exact this
  have h2:(elems.length+rest.length)*1<=(elems.length+rest.length)*P.bytesOf e:=Nat.mul_le_mul_left _ hb8
  omega
 have hwe:∀y∈elems,Wts P e y.1:=by
  intro y hy b hb
  refine hs b ?_
  simp only[DataW.weights,ht,List.mem_cons,List.mem_append]
  exact .inr (.inl (AhT (List.mem_map.2 ⟨y,hy,rfl⟩) b hb))
 have each:∀i,i<len->∃a' v,Rep (colRo w) w (f a') v/\Q a'/\v.cells.size=P.cellsOf e/\∀j u,v.cells.toList[j]?=some u->w.cell? (a.add (i*P.cellsOf e+j))=some u:=by
  intro i hi
  have h1:=hel i hi
  have h2:elems[i]?=some (elems[i]'oM):=List.getElem?_eq_getElem oM
  rw[h2,Option.bind_eq_some_iff] at h1
  obtain⟨cs',hcs,ht'⟩:=h1
  obtain⟨a',v,hv,hr,hq⟩:=ih m oM _ _ (hwe _ (List.getElem_mem _)) ht'
  obtain⟨_,hcl,hce⟩:=World.cells?_some hcs
  refine⟨a',v,hr,hq,?_,?_⟩
  ·rw[←hcl,←hv]; simp
  intro j u hu
  rw[hv] at hu
  have hj:j<P.cellsOf e:=by rw[←hcl]; exact (List.getElem?_eq_some_iff.1 hu).1
  have:=hce j hj
  rw[hu] at this
  rw[←this,Addr.add_add]
 by_cases h0:len=0
 ·subst h0
  exact⟨[],dN.one (by simp only[Rep,List.map_nil]; exact .inl ⟨sM,.inr ⟨a,cap,rfl⟩⟩) rfl,sM,sM⟩
 have hsp:a.spot=none:=by
  obtain⟨_,v,_,_,hs,hg⟩:=each 0 oM
  have h1:v.cells.toList[0]?=some (v.cells.toList[0]'(by simp; omega)):=List.getElem?_eq_getElem _
  have:=BdG (hg 0 _ h1)
  simpa[Addr.add] using this
 have hada:=BdY hsp
 have all:∀k,k<=len->∃l:List α,l.length=len-k/\iM (colRo w) w (P.cellsOf e) a.block (a.off+k*P.cellsOf e) (l.map f)/\∀a∈l,Q a:=by
  intro k hk
  induction hj:len-k generalizing k with
  |zero=>exact⟨[],rfl,by simp only[List.map_nil,iM],sM⟩
  |succ j ihj=>
   obtain⟨l,h1,h2,h3⟩:=ihj (k+1) oM oM
   obtain⟨a',v,hr,hq,hs,hg⟩:=each k oM
   refine⟨a'::l,by simp[h1],?_,?_⟩
   ·simp only[List.map_cons,iM]
    refine⟨⟨v,hr,hs,?_⟩,by rw[show a.off+k*P.cellsOf e+P.cellsOf e=a.off+(k+1)*P.cellsOf e by rw[Nat.add_mul]; omega]; exact h2⟩
    intro i u hu
    have:=hg i u hu
    rw[show a.add (k*P.cellsOf e+i)=ad a.block (a.off+k*P.cellsOf e+i) by
     conv=>lhs; rw[hada]
     rw[Addr.add_lit,Nat.add_assoc]] at this
    refine⟨?_,this⟩
    simp only[colRo]; rw[if_pos (block_lt this)]
   intro b hb
   rcases List.mem_cons.1 hb with rfl|hb
   ·exact hq
   exact h3 b hb
 obtain⟨l,h1,h2,h3⟩:=all 0 oM
 refine⟨l,dN.one ?_ rfl,oM,h3⟩
 simp only[Rep]
 refine .inr ⟨a.block,a.off,cap,?_,?_,by simpa using h2⟩
 ·rw[←hada]; simp[h1]
 simp[h1]; omega
def BaN (enc:TypeId×Value->H) (P:Program) (w:World) (base:Nat) (sp:Nat->Bool) (held:Bool) (m:Nat):List (TypeId×Nat×Nat)->List Value->Prop
 | [],cs=>cs=[]
 |p::r,cs=>∃a b,cs=a++b/\(∃x,Wts P p.1 x.1/\DataW.trod enc P w base sp held m p.1 a=some x)/\BaN enc P w base sp held m r b
def chained:Nat->Nat->List (TypeId×Nat×Nat)->Bool
 |off,z,[]=>off==z
 |off,z,p::r=>p.2.1==off&&chained (off+p.2.2) z r
theorem Ay8 {m:Nat} {cs:List Value}:∀(tz:List (TypeId×Nat×Nat)) (off:Nat),chained off cs.length tz=true ->
  (∀p∈tz,∃x,Wts P p.1 x.1/\DataW.trod enc P w base sp held m p.1 ((cs.drop p.2.1).take p.2.2)=some x)->BaN enc P w base sp held m tz (cs.drop off)
 | [],off,hc,_=>by
  simp only[chained,beq_iff_eq] at hc
  simp only[BaN,hc,List.drop_length]
 |p::r,off,hc,h=>by
  simp only[chained,Bool.and_eq_true,beq_iff_eq] at hc
  refine⟨(cs.drop off).take p.2.2,(cs.drop off).drop p.2.2,(List.take_append_drop _ _).symm,?_,?_⟩
  ·rw[←hc.1]; exact h p sM
  rw[List.drop_drop]
  exact Ay8 r _ hc.2 λq hq=>h q (by simp[hq])
theorem AiG {fs:Array Field} {tz:List (TypeId×Nat×Nat)} {z:Nat} (ht:P.underlying t=some (.struct fs)) (hf:fs.toList.map (λf=>(f.type,f.offset,P.cellsOf f.type))=tz) (hz:P.cellsOf t=z) (hc:chained 0 z tz=true) (hs:Wts P t x.1)
  (h:DataW.trod enc P w base sp held n t cs=some x):∃m,n=m+1/\BaN enc P w base sp held m tz cs:=by
 obtain⟨xs,m,rfl,rfl,hl,hxl,hx⟩:=DataW.trod_struct ht h
 refine⟨m,rfl,?_⟩
 have:=Ay8 (enc:=enc) (P:=P) (w:=w) (base:=base) (sp:=sp) (held:=held) (m:=m) (cs:=cs) tz 0 (by rw[hl,hz]; exact hc) ?_
 ·simpa using this
 intro p hp
 rw[←hf,List.mem_map] at hp
 obtain⟨f,hf',rfl⟩:=hp
 obtain⟨i,hi⟩:=List.getElem?_of_mem hf'
 have hi':fs[i]?=some f:=by simpa using hi
 have:=hx i f hi'
 have hlt:i<xs.length:=by
  rw[hxl]
  have:=(List.getElem?_eq_some_iff.1 hi).1
  simpa using this
 rw[List.getElem?_eq_getElem hlt] at this
 refine⟨_,λb hb=>hs b ?_,this⟩
 simp only[DataW.weights,ht]
 exact AfX (u:=f.type) (i:=i) (by simp[List.getElem?_map,hi]) (by rw[List.getElem?_map,List.getElem?_eq_getElem hlt]; rfl) b hb
end
end Go.AM
namespace Go.AM
open Go Go.ChangeShapes Go.WideShapes Go.AM.Seat
variable [cU]
structure Bj2 (P:Program) (tA tC tIs tCs tAs:TypeId):Prop where
 arr:∃fs,P.underlying tA=some (.struct fs)/\fs.toList.map (λf=>(f.type,f.offset,P.cellsOf f.type))=[(tIs,0,1),(tCs,1,1)]
 arrz:P.cellsOf tA=2
 cell:∃fs k n,P.underlying tC=some (.struct fs)/\fs.toList.map (λf=>(f.type,f.offset,P.cellsOf f.type))=[(k,0,1),(n,1,1),(tAs,2,1)]/\P.underlying k=some (.int .i64)/\P.underlying n=some (.int .i64)
 cellz:P.cellsOf tC=3
 ints:∃e,P.underlying tIs=some (.slice e)/\P.underlying e=some (.int .i64)/\P.cellsOf e=1/\0<P.bytesOf e
 cells:P.underlying tCs=some (.slice tC)
 arrs:P.underlying tAs=some (.slice tA)
 arrb:0<P.bytesOf tA
 cellb:0<P.bytesOf tC
section
variable {H:Type} {enc:TypeId×Value->H} {P:Program} {w:World} {base:Nat} {sp:Nat->Bool} {held:Bool} {tA tC tIs tCs tAs t e:TypeId} {n:Nat} {cs:List Value} {x:DataW H×List MemPlace}
theorem AjP {α:Type} {l:List α} (h:l.length<=reachBytes):Few l:=by unfold Few; unfold reachBytes at h; omega
def Bj3 (a:Arr):List D:=[.list 1 (a.shape.map (D.int .i64)),.list 3 (a.cells.map aC)]
def cellL (c:aA):List D:=[.int .i64 c.kind,.int .i64 c.n,.list 2 (c.box.map aH)]
theorem BhO (hi:∃e,P.underlying t=some (.slice e)/\P.underlying e=some (.int .i64)/\P.cellsOf e=1/\0<P.bytesOf e) (hs:Wts P t x.1) (h:DataW.trod enc P w base sp held n t cs=some x) :
  ∃l:List Int,dN (colRo w) w [.list 1 (l.map (D.int .i64))] cs/\Few l:=by
 obtain⟨e,h1,h2,h3,h4⟩:=hi
 obtain⟨l,h5,h6,_⟩:=AeD (D.int .i64) (λ_=>True) h1 h3 oM h4 hs (λm _ cs x _ hx=>by
  obtain⟨k,rfl,_,hw⟩:=DataW.trod_int h2 hx
  exact⟨k,.int .i64 k,rfl,by simp only[Rep],trivial⟩) h
 exact⟨l,h5,AjP h6⟩
theorem BhQ (h1:P.underlying t=some (.slice e)) (h2:P.underlying e=some .string) (h3:P.cellsOf e=1) (h4:0<P.bytesOf e) (hs:Wts P t x.1) (h:DataW.trod enc P w base sp held n t cs=some x) :
  ∃l:List Str,dN (colRo w) w [.list 1 (l.map D.str)] cs/\Few l/\∀s∈l,Few s:=by
 obtain⟨l,h5,h6,h7⟩:=AeD D.str (λs:Str=>Few s) h1 h3 oM h4 hs (λm _ cs x hs hx=>by
  obtain⟨s,rfl,hx',hw⟩:=DataW.trod_string h2 hx
  subst hx'
  exact⟨s.data.toList,.string s,rfl,by simp only[Rep],AjP (hs _ (by simp[DataW.weights]))⟩) h
 exact⟨l,h5,AjP h6,h7⟩
theorem AxA:∀{l:List aA},(∀c∈l,AuP c)->Ax9 l
 | [],_=>trivial
 |c::r,h=>⟨h c sM,AxA λc hc=>h c (by simp[hc])⟩
theorem Bb7:∀{l:List Arr},(∀c∈l,fitA c)->Bh4 l
 | [],_=>trivial
 |c::r,h=>⟨h c sM,Bb7 λc hc=>h c (by simp[hc])⟩
theorem AxB:∀{l:List Node},(∀c∈l,fitN c)->Bb8 l
 | [],_=>trivial
 |c::r,h=>⟨h c sM,AxB λc hc=>h c (by simp[hc])⟩
theorem AqO (S:Bj2 P tA tC tIs tCs tAs):∀n,
  (∀cs x,Wts P tA x.1->DataW.trod enc P w base sp held n tA cs=some x->∃a:Arr,dN (colRo w) w (Bj3 a) cs/\fitA a) /\
  (∀cs x,Wts P tC x.1->DataW.trod enc P w base sp held n tC cs=some x->∃c:aA,dN (colRo w) w (cellL c) cs/\AuP c):=by
 intro n
 induction n using Nat.strongRecOn with
 |ind n ih=>
 constructor
 ·intro cs x hs h
  obtain⟨fs,h1,h2⟩:=S.arr
  obtain⟨m,rfl,a,_,rfl,⟨x1,w1,t1⟩,b,_,rfl,⟨x2,w2,t2⟩,rfl⟩:=AiG h1 h2 S.arrz rfl hs h
  obtain⟨sh,r1,f1⟩:=BhO S.ints w1 t1
  obtain⟨cl,r2,f2,f3⟩:=AeD aC AuP S.cells S.cellz oM S.cellb w2 (λk hk cs x hs hx=>by
   obtain⟨c,hr,hf⟩:=(ih k oM).2 cs x hs hx
   exact⟨c,.agg cs.toArray,by simp[Value.cells],by simp only[aC,Rep]; exact⟨cs,rfl,hr⟩,hf⟩) t2
  exact⟨.mk sh cl,by simpa[Bj3,Arr.shape,Arr.cells] using dN.app r1 r2,f1,AjP f2,AxA f3⟩
 intro cs x hs h
 obtain⟨fs,kt,nt,h1,h2,h3,h4⟩:=S.cell
 obtain⟨m,rfl,a,_,rfl,⟨x1,w1,t1⟩,b,_,rfl,⟨x2,w2,t2⟩,c,_,rfl,⟨x3,w3,t3⟩,rfl⟩:=AiG h1 h2 S.cellz rfl hs h
 obtain⟨k,r1,_⟩:=AqP h3 t1
 obtain⟨nn,r2,_⟩:=AqP h4 t2
 obtain⟨bx,r3,f2,f3⟩:=AeD aH fitA S.arrs S.arrz oM S.arrb w3 (λk hk cs x hs hx=>by
  obtain⟨a,hr,hf⟩:=(ih k oM).1 cs x hs hx
  exact⟨a,.agg cs.toArray,by simp[Value.cells],by rw[qU]; simp only[aI,Rep]; exact⟨cs,rfl,hr⟩,hf⟩) t3
 exact⟨.mk k nn bx,by simpa[cellL,aA.kind,aA.n,aA.box] using dN.app r1 (dN.app r2 r3),AjP f2,Bb7 f3⟩
structure Bk7 (P:Program) (tN tNs tA:TypeId):Prop where
 node:∃fs k o s a,P.underlying tN=some (.struct fs)/\fs.toList.map (λf=>(f.type,f.offset,P.cellsOf f.type))=[(k,0,1),(o,1,1),(s,2,1),(tA,3,2),(tNs,5,1),(a,6,1)] /\
  P.underlying k=some (.int .i64)/\P.underlying o=some (.int .i64)/\P.underlying s=some .string/\P.underlying a=some (.int .i64)
 nodez:P.cellsOf tN=7
 nodes:P.underlying tNs=some (.slice tN)
 nodeb:0<P.bytesOf tN
def BiR (n:Node):List D:=[.int .i64 n.kind,.int .i64 n.op_,.str n.name,.list 1 (n.lit.shape.map (D.int .i64)),.list 3 (n.lit.cells.map aC),.list 7 (n.kids.map rQ),.int .i64 n.at_]
theorem BhP {tN tNs:TypeId} (S:Bj2 P tA tC tIs tCs tAs) (R:Bk7 P tN tNs tA):∀n cs x,Wts P tN x.1->DataW.trod enc P w base sp held n tN cs=some x->∃a:Node,dN (colRo w) w (BiR a) cs/\fitN a:=by
 intro n
 induction n using Nat.strongRecOn with
 |ind n ih=>
 intro cs x hs h
 obtain⟨fs,kt,ot,st,at_,h1,h2,h3,h4,h5,h6⟩:=R.node
 obtain⟨m,rfl,a,_,rfl,⟨x1,w1,t1⟩,b,_,rfl,⟨x2,w2,t2⟩,c,_,rfl,⟨x3,w3,t3⟩,d,_,rfl,⟨x4,w4,t4⟩,e,_,rfl,⟨x5,w5,t5⟩,f,_,rfl,⟨x6,w6,t6⟩,rfl⟩:=AiG h1 h2 R.nodez rfl hs h
 obtain⟨k,r1,_⟩:=AqP h3 t1
 obtain⟨o,r2,_⟩:=AqP h4 t2
 obtain⟨s,r3,f3⟩:=BjR h5 w3 t3
 obtain⟨l,r4,f4⟩:=(AqO S m).1 _ _ w4 t4
 obtain⟨ks,r5,f5,f5'⟩:=AeD rQ fitN R.nodes R.nodez oM R.nodeb w5 (λk hk cs x hs hx=>by
  obtain⟨a,hr,hf⟩:=ih k oM cs x hs hx
  exact⟨a,.agg cs.toArray,by simp[Value.cells],by rw[wH]; simp only[encNode,Rep]; exact⟨cs,rfl,hr⟩,hf⟩) t5
 obtain⟨at',r6,_⟩:=AqP h6 t6
 exact⟨.mk k o s l ks at',by simpa[BiR,Bj3,Node.kind,Node.op_,Node.name,Node.lit,Node.kids,Node.at_] using dN.app r1 (dN.app r2 (dN.app r3 (dN.app r4 (dN.app r5 r6)))),AjP f3,f4,AjP f5,AxB f5'⟩
end
end Go.AM
namespace Go.AM.Seat
open Go Go.AM Go.Proofs Go.ChangeShapes Go.WideShapes
set_option maxRecDepth 100000
set_option maxHeartbeats 0
theorem BhT:Bj2 Tryz.prog 29 50 26 27 23 where
 arr:=⟨_,Tryz.underlying29,by kernel_rfl⟩
 arrz:=by kernel_rfl
 cell:=⟨_,3,2,Tryz.underlying50,by kernel_rfl,Tryz.underlying3,Tryz.underlying2⟩
 cellz:=by kernel_rfl
 ints:=⟨3,Tryz.underlying26,Tryz.underlying3,by kernel_rfl,of_decide_eq_true (by kernel_rfl)⟩
 cells:=Tryz.underlying27
 arrs:=Tryz.underlying23
 arrb:=of_decide_eq_true (by kernel_rfl)
 cellb:=of_decide_eq_true (by kernel_rfl)
theorem BnJ:Bk7 Tryz.prog 32 30 29 where
 node:=⟨_,3,3,9,3,Tryz.underlying32,by kernel_rfl,Tryz.underlying3,Tryz.underlying3,Tryz.underlying9,Tryz.underlying3⟩
 nodez:=by kernel_rfl
 nodes:=Tryz.underlying30
 nodeb:=of_decide_eq_true (by kernel_rfl)
section
variable {H:Type} {enc:TypeId×Value->H} {w:World} {base:Nat} {sp:Nat->Bool} {held:Bool} {v:Value} {d:DataW H} {p:List MemPlace}
theorem open_node (hv:∃cs,v=.agg cs/\cs.size=Tryz.prog.cellsOf 32) (hs:Wts Tryz.prog 32 d) (h:DataW.Trod enc Tryz.prog w base sp held 32 v d p):∃a:Node,RepC (colRo w) (λ_=>0) w (.d (encNode a)) v/\fitN a:=by
 obtain⟨cs,rfl,_⟩:=hv
 obtain⟨fuel,hf⟩:=h
 obtain⟨a,hr,hfit⟩:=BhP BhT BnJ fuel _ (d,p) hs hf
 refine⟨a,?_,hfit⟩
 simp only[RepC,encNode,Rep]
 exact⟨cs.toList,sM,hr⟩
theorem open_env (hv:∃cs,v=.agg cs/\cs.size=Tryz.prog.cellsOf 25) (hs:Wts Tryz.prog 25 d) (h:DataW.Trod enc Tryz.prog w base sp held 25 v d p) :
  ∃a:Env,RepC (colRo w) (λ_=>0) w (.d (encEnv a)) v/\∀x∈a.vals,fitA x:=by
 obtain⟨cs,rfl,_⟩:=hv
 obtain⟨fuel,hf⟩:=h
 obtain⟨m,rfl,a,_,e,⟨x1,w1,t1⟩,b,_,rfl,⟨x2,w2,t2⟩,rfl⟩:=AiG (z:=2) (tz:=[(22,0,1),(23,1,1)]) Tryz.underlying25 (by kernel_rfl) (by kernel_rfl) rfl (x:=(d,p)) hs hf
 obtain⟨l,r1,f1,_⟩:=BhQ Tryz.underlying22 Tryz.underlying9 (by kernel_rfl) (of_decide_eq_true (by kernel_rfl)) w1 t1
 obtain⟨vs,r2,f2,f3⟩:=AeD aH fitA Tryz.underlying23 BhT.arrz oM BhT.arrb w2 (λk hk cs x hs hx=>by
  obtain⟨a,hr,hf⟩:=(AqO BhT k).1 cs x hs hx
  exact⟨a,.agg cs.toArray,by simp[Value.cells],by rw[qU]; simp only[aI,Rep]; exact⟨cs,rfl,hr⟩,hf⟩) t2
 refine⟨⟨l,vs⟩,?_,f3⟩
 simp only[RepC,encEnv,Rep]
 have e':cs.toList=a++(b++[]):=e
 exact⟨cs.toList,sM,by rw[e']; simpa using dN.app r1 r2⟩
end
theorem wts_of {H:Type} {ts:List TypeId} {ds:List (DataW H)} (h:(DataW.weightsEach Tryz.prog ts ds).all (·<=reachBytes)=true) {j:Nat} {t:TypeId} {d:DataW H} (ht:ts[j]?=some t) (hd:ds[j]?=some d):Wts Tryz.prog t d:=by
 intro b hb
 simpa using List.all_eq_true.1 h b (DataW.weights_mem_each ht hd b hb)
theorem laidOutB0:laidOutB Tryz.prog=true:=by kernel_rfl
end Go.AM.Seat
namespace Go.AM.Seat
open Go Go.AM
theorem Ap3 {n:Node} {deep nodes:Int}:T (dQ n deep nodes) (λr=>r.1=true->WfB n):=by
 unfold dQ
 refine T.bind (R:=λr=>match r with|.error r=>r.1=false|.ok (_,k,o,_)=>(k=21->21<=o->o<=32->WfB n)) ?_ (λv hv=>?_)
 ·refine T.ite (λh=>?_) (λh=>?_)
  ·refine T.bind AbD (λv _=>?_)
   refine T.ite (λ_=>T.ret rfl) (λ_=>?_)
   refine T.bind gQ (λx hx=>?_)
   refine T.ite (λ_=>T.ret rfl) (λhxx=>?_)
   obtain⟨a,ha⟩:=AfG (hx (by simpa using hxx))
   rw[ha]
   refine T.bind (kC (Q:=λy=>y=a) rfl) (λy hy=>?_)
   subst hy
   exact T.ret (λh1 h2 h3=>.inr ⟨fI h,y,ha,h1,h2,h3⟩)
  ·exact T.ret (λh1 h2 h3=>.inl ⟨h1,h2,h3⟩)
 match v,hv with
 |.error r,hv=>exact T.ret (λe=>by rw[hv] at e; cases e)
 |.ok (_,k,o,_,_,_,_,_,_),hv=>
  refine T.bind AbD (λv _=>?_)
  refine T.ite (λ_=>?_) (λ_=>T.ret iO)
  refine T.ite (λhk=>?_) (λ_=>T.ret iO)
  refine T.bind gQ (λx hx=>?_)
  refine T.ite (λ_=>?_) (λ_=>T.ret iO)
  refine T.bind AkE (λx hx=>?_)
  exact T.ret (λe=>hv (fI hk) (hx e).1 (hx e).2)
def BdQ (n:Node):Prop:=∀(deep nodes:Int),
 T (cE (n,deep,nodes)) (λr=>r.1=true->WfE false false n)/\T (eK (n,deep,nodes)) (λr=>r.1=true->WfM n)/\T (iH n deep nodes) (λr=>r.1=true->WfD n) /\
 T (dE n deep nodes) (λr=>r.1=true->WfT n)
theorem BkK (n:Node):fitN n->BdQ n:=by
 refine Node.ind (P:=λn=>fitN n->BdQ n) ?_ n
 intro n ih hf
 have ihk:∀k∈n.kids,BdQ k:=λk hk=>ih k hk (hf.kids k hk)
 have lam:∀(deep nodes:Int),T (eA n deep nodes) (λr=>r.1=true->∃e,n.kids=[e]/\(n.kind=22->WfE false true e)/\(n.kind≠22->WfE true true e)):=by
  intro deep nodes
  unfold eA
  refine T.bind gQ (λx hx=>?_)
  refine T.ite (λ_=>T.ret iO) (λhxx=>?_)
  obtain⟨a,ha⟩:=AfG (hx (by simpa using hxx))
  rw[ha]
  refine T.bind (kC (Q:=λy=>y=a) rfl) (λy hy=>?_)
  subst hy
  refine T.bind ((BkJ y (hf.kids y (by rw[ha]; simp)) (w64 (deep+1)) nodes []).1) (λr hr=>?_)
  refine T.ite (λhk=>?_) (λhk=>?_)
  ·refine T.ite (λh=>T.ret (λe=>⟨y,rfl,λ_=>(hr.2 h).mono _ (λh3=>by rw[h3] at e; cases e) (λ_=>rfl),λh'=>absurd (fI hk) h'⟩)) (λ_=>T.ret iO)
  refine T.ite (λh=>?_) (λ_=>T.ret iO)
  refine T.ite (λh3=>T.ret (λh4=>⟨y,rfl,λh'=>by rw[h'] at hk; simp at hk,λ_=>(hr.2 h).mono _ (λ_=>rfl) (λ_=>rfl)⟩)) (λ_=>T.ret iO)
 have two:∀(deep nodes:Int),T (dE n deep nodes) (λr=>r.1=true->WfT n):=by
  intro deep nodes
  unfold dE
  refine T.bind AbD (λv _=>?_)
  refine T.ite (λ_=>T.ret iO) (λ_=>?_)
  refine T.ite (λhk=>?_) (λ_=>?_)
  ·have hp:WfT n:=.prim (fI hk)
   refine T.bind gQ (λx hx=>?_)
   refine T.ite (λ_=>?_) (λ_=>T.ret iO)
   refine T.bind AkE (λx hx=>?_)
   refine T.ite (λ_=>T.ret (λ_=>hp)) (λ_=>?_)
   exact T.ite (λ_=>T.ret (λ_=>hp)) (λ_=>T.ret iO)
  refine T.ite (λhk=>?_) (λ_=>T.ret iO)
  refine T.bind (lam deep _) (λr hr=>T.ret (λe=>?_))
  obtain⟨x,h1,h2⟩:=hr e
  exact .lam (fI hk) h1 (h2.2 (by rw[fI hk]; decide))
 have turned:∀(deep nodes:Int),T (eC n deep nodes) (λr=>r.1=true->∃f,n.kids=[f]/\WfT f):=by
  intro deep nodes
  unfold eC
  refine T.bind gQ (λx hx=>?_)
  refine T.ite (λ_=>T.ret iO) (λhxx=>?_)
  obtain⟨a,ha⟩:=AfG (hx (by simpa using hxx))
  rw[ha]
  refine T.bind (kC (Q:=λy=>y=a) rfl) (λy hy=>?_)
  subst hy
  have g:=(ihk y (by rw[ha]; simp) (w64 (deep+1)) nodes).2.2.2
  refine T.ite (λ_=>?_) (λ_=>?_)
  ·exact T.bind g (λr hr=>T.ret (λe=>⟨y,rfl,hr e⟩))
  refine T.ite (λ_=>?_) (λ_=>T.ret iO)
  refine T.ite (λ_=>?_) (λ_=>T.ret iO)
  exact T.bind g (λr hr=>T.ret (λe=>⟨y,rfl,hr e⟩))
 intro deep nodes
 refine⟨?_,?_,?_,two deep nodes⟩
 ·rw[cE]
  refine T.bind AbD (λv _=>?_)
  refine T.ite (λ_=>T.ret iO) (λ_=>?_)
  refine T.ite (λhk=>?_) (λ_=>?_)
  ·refine T.bind gQ (λx hx=>?_)
   refine T.ite (λ_=>?_) (λ_=>T.ret iO)
   exact T.bind (ArS _) (λr hr=>T.ret (λe=>.lit (fI hk) (hr e)))
  refine T.ite (λhk=>?_) (λ_=>?_)
  ·refine T.bind gQ (λx hx=>?_)
   refine T.ite (λ_=>?_) (λ_=>T.ret iO)
   exact T.bind (BdR hf.name) (λr hr=>T.ret (λe=>.var (fI hk)))
  refine T.bind (R:=λr=>r=true->n.kind=3\/n.kind=4) ?_ (λx5 h5=>?_)
  ·exact T.ite (λh=>T.ret (λ_=>.inl (fI h))) (λ_=>T.ret (λh=>.inr (fI h)))
  refine T.ite (λhk=>T.ret iO) (λ_=>?_)
  refine T.ite (λhk=>?_) (λ_=>?_)
  ·refine T.bind gQ (λx hx=>?_)
   refine T.ite (λhxx=>?_) (λ_=>T.ret iO)
   obtain⟨f,x1,ha⟩:=BiN (hx hxx)
   rw[ha]
   refine T.bind (kC (Q:=λy=>y=f) rfl) (λy hy=>?_)
   subst hy
   refine T.bind (ihk y (by rw[ha]; simp) _ _).2.1 (λr hr=>?_)
   refine T.ite (λh8=>?_) (λ_=>T.ret iO)
   refine T.bind (AxS (Q:=λz=>z=x1) rfl) (λz hz=>?_)
   subst hz
   exact T.bind (ihk z (by rw[ha]; simp) _ _).1 (λr2 hr2=>T.ret (λe=>.mo (fI hk) ha (hr h8) (hr2 e)))
  refine T.ite (λhk=>?_) (λ_=>T.ret iO)
  refine T.bind gQ (λx hx=>?_)
  refine T.ite (λhxx=>?_) (λ_=>T.ret iO)
  obtain⟨f,x1,y1,ha⟩:=BiO (hx hxx)
  rw[ha]
  refine T.bind (kC (Q:=λy=>y=f) rfl) (λy hy=>?_)
  subst hy
  refine T.bind (ihk y (by rw[ha]; simp) _ _).2.2.1 (λr hr=>?_)
  refine T.ite (λh8=>?_) (λ_=>T.ret iO)
  refine T.bind (AxS (Q:=λz=>z=x1) rfl) (λz hz=>?_)
  subst hz
  refine T.bind (ihk z (by rw[ha]; simp) _ _).1 (λr2 hr2=>?_)
  refine T.ite (λh9=>?_) (λ_=>T.ret iO)
  refine T.bind (BiP (Q:=λw=>w=y1) rfl) (λw hw=>?_)
  subst hw
  exact T.bind (ihk w (by rw[ha]; simp) _ _).1 (λr3 hr3=>T.ret (λe=>.dy (fI hk) ha (hr h8) (hr2 h9) (hr3 e)))
 ·rw[eK]
  refine T.bind AbD (λv _=>?_)
  refine T.ite (λ_=>T.ret iO) (λ_=>?_)
  refine T.ite (λhk=>?_) (λ_=>?_)
  ·refine T.bind gQ (λx hx=>?_)
   refine T.ite (λ_=>?_) (λ_=>T.ret iO)
   exact T.ite (λ_=>T.ret (λ_=>.prim (fI hk))) (λ_=>T.ret iO)
  refine T.ite (λhk=>?_) (λ_=>?_)
  ·refine T.bind (lam deep _) (λr hr=>T.ret (λe=>?_))
   obtain⟨x,h1,h2⟩:=hr e
   exact .lam (fI hk) h1 (h2.1 (fI hk))
  refine T.bind (R:=λr=>r=true->n.kind=31\/n.kind=32\/n.kind=33\/n.kind=34) ?_ (λx5 h5=>?_)
  ·refine T.ite (λh=>T.ret (λ_=>.inl (fI h))) (λ_=>?_)
   refine T.ite (λh=>T.ret (λ_=>.inr (.inl (fI h)))) (λ_=>?_)
   exact T.ite (λh=>T.ret (λ_=>.inr (.inr (.inl (fI h))))) (λ_=>T.ret (λh=>.inr (.inr (.inr (fI h)))))
  refine T.ite (λhk=>?_) (λ_=>?_)
  ·refine T.bind gQ (λx hx=>?_)
   refine T.ite (λhxx=>?_) (λ_=>T.ret iO)
   obtain⟨a,ha⟩:=AfG (hx hxx)
   rw[ha]
   refine T.bind (kC (Q:=λy=>y=a) rfl) (λy hy=>?_)
   subst hy
   exact T.bind Ap3 (λr hr=>T.ret (λe=>.fold (h5 hk) ha (hr e)))
  refine T.ite (λhk=>?_) (λ_=>?_)
  ·refine T.bind (turned deep _) (λr hr=>T.ret (λe=>?_))
   obtain⟨x,h1,h2⟩:=hr e
   exact .comm (fI hk) h1 h2
  refine T.ite (λhk=>?_) (λ_=>T.ret iO)
  refine T.bind gQ (λx hx=>?_)
  refine T.ite (λhxx=>?_) (λ_=>T.ret iO)
  refine T.ite (λho=>?_) (λ_=>T.ret iO)
  refine T.ite (λho'=>?_) (λ_=>T.ret iO)
  obtain⟨a,ha⟩:=AfG (hx hxx)
  rw[ha]
  refine T.bind (kC (Q:=λy=>y=a) rfl) (λy hy=>?_)
  refine T.ite (λ_=>?_) (λ_=>T.ret iO)
  refine T.bind (kC (Q:=λy=>y=a) rfl) (λz hz=>?_)
  subst hz
  exact T.bind (ihk z (by rw[ha]; simp) _ _).2.1 (λr hr=>T.ret (λe=>.pow (fI hk) (by simpa using ho) (by simpa using ho') ha (hr e)))
 unfold iH
 refine T.ite (λhk=>?_) (λ_=>?_)
 ·refine T.bind AbD (λv _=>?_)
  refine T.ite (λ_=>?_) (λ_=>T.ret iO)
  refine T.bind gQ (λx hx=>?_)
  refine T.ite (λhxx=>?_) (λ_=>T.ret iO)
  obtain⟨a,ha⟩:=AfG (hx hxx)
  rw[ha]
  refine T.bind (kC (Q:=λy=>y=a) rfl) (λy hy=>?_)
  subst hy
  exact T.bind Ap3 (λr hr=>T.ret (λe=>.outer (fI hk) ha (hr e)))
 refine T.ite (λhk=>?_) (λ_=>?_)
 ·refine T.bind AbD (λv _=>?_)
  refine T.ite (λ_=>?_) (λ_=>T.ret iO)
  refine T.bind (turned deep _) (λr hr=>T.ret (λe=>?_))
  obtain⟨x,h1,h2⟩:=hr e
  exact .comm (fI hk) h1 h2
 exact T.bind (two deep _) (λr hr=>T.ret (λe=>.two (hr e)))
theorem BaJ {n:Node} (hf:fitN n):T (pM n) (λe=>e=0->WfE false false n):=by
 unfold pM
 refine T.bind ((BkK n hf 0 0).1) (λr hr=>?_)
 refine T.ite (λ_=>T.ret (λe=>by cases e)) (λh=>T.ret (λ_=>hr (by simpa using h)))
abbrev Any {α:Type}:α->Prop:=λ_=>True
theorem T.any {α:Type} {v:α}:T (some v) (Any:α->Prop):=T.ret trivial
def vP (c:aA):Prop:=c.kind=0/\c.box=[]
theorem vP.mk (n:Int):vP (aA.mk 0 n []):=⟨rfl,rfl⟩
theorem vP.chk {c:aA} (h:vP c) (d:Int):AdU c d=0:=by
 obtain⟨k,n,b⟩:=c
 obtain⟨h1,h2⟩:=h
 simp only[aA.kind,aA.box] at h1 h2
 subst h1; subst h2
 simp[AdU]
theorem vP.w {c:aA} (h:vP c):wC c=0:=by rw[Az3,h.2]; rfl
theorem BaL (op:Int):qR op=some (decide (21<=op)&&decide (op<=32)):=by
 unfold qR
 by_cases h:op>=21
 ·simp[h]
 simp[h]
theorem BbY {b:Bool}:T (nW b) Any:=by
 unfold nW; exact T.ite (λ_=>T.any) (λ_=>T.any)
theorem BdW {a b:Int}:T (Ab1 a b) Any:=by
 unfold Ab1; repeat' (first|exact T.any|refine T.ite (λ_=>?_) (λ_=>?_))
theorem BjX {a b:Int}:T (Ae8 a b) Any:=by
 unfold Ae8; repeat' (first|exact T.any|refine T.ite (λ_=>?_) (λ_=>?_))
theorem BfV {a:Int}:T (yX a) Any:=by
 unfold yX; repeat' (first|exact T.any|refine T.ite (λ_=>?_) (λ_=>?_))
theorem AyQ {n:Int} {b:Bool}:T (uA n b) Any:=by
 unfold uA
 refine T.bind (R:=Any) ?_ (λv _=>?_)
 ·repeat' (first|exact T.any|refine T.ite (λ_=>?_) (λ_=>?_))
 cases v<;>exact T.any
theorem BjG {k:IntKind} {a b:Int} (h:b≠0):T (idiv k a b) Any:=by
 unfold idiv; rw[if_neg h]; exact T.any
theorem BjI {a b:Int} (h:b≠0):T (irem a b) Any:=by
 unfold irem; rw[if_neg h]; exact T.any
theorem ArU {l:List Int} (hf:Few l):∀(r:List Int) (k:Nat) (n:Int) (b o:Bool),l.drop k=r->T (pT (l,n,b,o,(k:Int))) Any
 | [],k,n,b,o,h=>by
  rw[pT]
  simp only[cB (cG h),fJ,if_false]
  exact T.any
 |c::r,k,n,b,o,h=>by
  have ih:=λn b o=>ArU hf r (k+1) n b o (bC h)
  rw[pT]
  simp only[dL (cH h),if_true,bO h,oJ,bJ,bZ h hf]
  refine T.bind (R:=Any) ?_ (λv _=>?_)
  ·refine T.bind BfV (λm _=>?_)
   refine T.ite (λ_=>T.any) (λhm=>?_)
   refine T.ite (λ_=>T.any) (λ_=>?_)
   refine T.bind (BjG (by simpa using hm)) (λq _=>?_)
   exact T.ite (λ_=>T.any) (λ_=>T.any)
  match v with
  |.error e=>exact T.any
  |.ok (n1,b1,o1)=>exact ih n1 b1 o1
theorem BdS {l:List Int} (hf:Few l):T (tL l) Any:=by
 unfold tL
 refine T.bind (ArU hf l 0 1 false false rfl) (λv _=>?_)
 match v with
 |.error e=>exact T.any
 |.ok (n1,b1,o1)=>exact T.ite (λ_=>T.any) (λ_=>T.bind AyQ (λ_ _=>T.any))
theorem Bk3 {a b:Int}:T (Ae9 a b) Any:=by
 unfold Ae9
 exact T.bind (BdS (by unfold Few; simp)) (λ_ _=>T.any)
theorem Bk6 {a b:Int}:T (AeA a b) Any:=by
 unfold AeA
 refine T.ite (λ_=>T.any) (λh=>?_)
 refine T.ite (λ_=>T.any) (λ_=>?_)
 refine T.bind (BjI (by simpa using h)) (λr _=>?_)
 refine T.ite (λ_=>?_) (λ_=>T.any)
 exact T.bind (R:=Any) (T.ite (λ_=>T.any) (λ_=>T.any)) (λ_ _=>T.any)
theorem Ay9 {op a b:Int}:T (pD op a b) Any:=by
 unfold pD
 refine T.ite (λ_=>T.bind BjX (λ_ _=>T.any)) (λ_=>?_)
 refine T.ite (λ_=>T.bind BdW (λ_ _=>T.any)) (λ_=>?_)
 refine T.ite (λ_=>T.bind Bk3 (λ_ _=>T.any)) (λ_=>?_)
 refine T.ite (λ_=>T.any) (λ_=>?_)
 refine T.ite (λ_=>T.any) (λ_=>?_)
 exact T.bind Bk6 (λ_ _=>T.any)
theorem Bf4 {op a b:Int} (h:27<=op) (h':op<=32):T (sO op a b) Any:=by
 unfold sO Run.heldI
 repeat' split
 all_goals first|exact T.any|(exfalso; omega)
theorem BaP {op:Int} {a b:aA}:T (pR op a b) (λr=>vP r.1):=by
 unfold pR
 refine T.ite (λh27=>?_) (λ_=>?_)
 ·have e:op=27:=fI h27
  subst e
  refine T.bind (T.val (BaL 27) (Q:=λv=>v=true) rfl) (λv hv=>?_)
  subst hv
  refine T.ite (λh=>by cases h) (λ_=>?_)
  refine T.ite (λ_=>T.ret (.mk _)) (λ_=>?_)
  refine T.ite (λ_=>T.ret (.mk _)) (λ_=>?_)
  refine T.ite (λ_=>T.bind BbY (λ_ _=>T.ret (.mk _))) (λ_=>?_)
  refine T.ite (λ_=>T.bind (Bf4 oM oM) (λ_ _=>T.ret (.mk _))) (λ_=>T.bind Ay9 (λ_ _=>T.ret (.mk _)))
 refine T.bind (R:=λr=>match r with|.error r=>vP r.1|.ok _=>True) ?_ (λv hv=>?_)
 ·refine T.bind (T.val (BaL op) (Q:=λv=>v=true->21<=op/\op<=32) (by intro h; simpa using h)) (λv hv=>?_)
  refine T.ite (λ_=>T.ret (.mk _)) (λhvv=>?_)
  have hI:=hv (by simpa using hvv)
  have g:∀{h:decide (op>=27)=true},T (sO op a.n b.n) Any:=λ{h}=>Bf4 (by simpa using h) hI.2
  repeat' (first
   |exact T.ret (.mk _)
   |exact T.ret trivial
   |exact T.bind BbY (λ_ _=>T.ret (.mk _))
   |refine T.ite (λhq=>T.bind (g (h:=hq)) (λ_ _=>T.ret (.mk _))) (λ_=>?_)
   |refine T.ite (λ_=>?_) (λ_=>?_))
 match v,hv with
 |.error r,hv=>exact T.ret hv
 |.ok _,_=>exact T.bind Ay9 (λ_ _=>T.ret (.mk _))
def Cw (m:Nat) (l:List aA):Prop:=∀c∈l,wC c<=m
def Res (m:Nat) (r:Arr×Int):Prop:=r.2=0->Val 0 r.1/\Cw m r.1.cells
theorem Res.err {m:Nat} {a:Arr} {e:Int} (h:e≠0):Res m (a,e):=λh'=>absurd h' h
theorem AmV {sh:List Int} {cs:List aA} (h1:nE sh cs.length) (h2:∀x∈sh,x<=16384) (h3:∀c∈cs,AdU c 0=0):Val 0 (.mk sh cs):=(Az7.mk (a:=.mk sh cs) h1 h2 h3).v
theorem Av9 {sh:List Int} {cs:List aA} {m:Nat} (h1:nE sh cs.length) (h2:∀x∈sh,x<=16384) (h3:∀c∈cs,vP c):Val 0 (.mk sh cs)/\Cw m cs:=
 ⟨AmV h1 h2 λc hc=>(h3 c hc).chk 0,λc hc=>by rw[(h3 c hc).w]; omega⟩
theorem gA {a b:Int} (h:(a != b)=true):a≠b:=by simpa using h
theorem eD {a b:Int} (h:(a != b)=false):a=b:=by simpa using h
theorem eF {α:Type} {l m:List α} (h:l.length+m.length<=4294967296):T (lapp l m) (λr=>r=l++m):=T.lapp h rfl
theorem BkO {op n:Int}:T (xS op n) Any:=by
 unfold xS Ab0 AiE AiD Ab0
 refine T.ite (λ_=>T.bind (T.bind BdW (λ_ _=>T.any)) (λ_ _=>T.any)) (λ_=>?_)
 refine T.ite (λ_=>T.bind (R:=Any) ?_ (λ_ _=>T.any)) (λ_=>?_)
 ·repeat' (first|exact T.any|refine T.ite (λ_=>?_) (λ_=>?_))
 refine T.ite (λ_=>T.bind (R:=Any) ?_ (λ_ _=>T.any)) (λ_=>?_)
 ·exact T.ite (λ_=>T.bind (T.bind BdW (λ_ _=>T.any)) (λ_ _=>T.any)) (λ_=>T.any)
 repeat' (first|exact T.any|refine T.ite (λ_=>?_) (λ_=>?_))
theorem BaM {op:Int} {a:Arr} {l:List Int} (hv:Val 0 a):∀(r:List aA) (k:Nat) (out:List aA),a.cells.drop k=r->out.length=k->k<=a.cells.length->(∀c∈out,vP c) ->
  T (nV (op,a,l,(k:Int),out)) (λr=>match r with|.error r=>r.2≠0|.ok cs=>cs.length=a.cells.length/\∀c∈cs,vP c)
 | [],k,out,h,ho,hkl,hc=>by
  rw[nV]
  simp only[cB (cG h),fJ,if_false]
  have:=List.drop_eq_nil_iff.1 h
  exact T.ret ⟨oM,hc⟩
 |c::r,k,out,h,ho,hkl,hc=>by
  have hk:=cH h
  have hl:=hv.i.sized.hi
  rw[nV]
  simp only[dL hk,if_true,bO h,oJ,bJ,bZ h hv.fewc]
  refine T.ite (λ_=>T.ret sM) (λ_=>?_)
  refine T.bind BkO (λv _=>?_)
  refine T.ite (λhe=>T.ret (gA he)) (λ_=>?_)
  refine T.bind (eF (by simp; omega)) (λv hv'=>?_)
  subst hv'
  refine BaM hv r (k+1) _ (bC h) (by simp[ho]) oM ?_
  intro x hx
  rcases List.mem_append.1 hx with hx|hx
  ·exact hc x hx
  simp only[List.mem_singleton] at hx; subst hx; exact .mk _
theorem AzC {op:Int} {a:Arr} {m:Nat}:T (tF op a) (Res m):=by
 unfold tF
 refine T.bind (T.val (rK a) (Q:=λv=>v=AfZ a 0) rfl) (λe he=>?_)
 subst he
 refine T.ite (λhe=>T.ret (Res.err (gA he))) (λhe=>?_)
 have hv:Val 0 a:=eD he
 refine T.bind (R:=Any) ?_ (λx _=>?_)
 ·repeat' (first|exact T.any|refine T.ite (λ_=>?_) (λ_=>?_))
 refine T.ite (λ_=>?_) (λ_=>T.ite (λ_=>T.ret (Res.err oM)) (λ_=>T.ret (Res.err oM)))
 have hr:=hv.i.sized.rank
 refine T.bind (eF (by simp; omega)) (λl hl=>?_)
 subst hl
 refine T.bind (BaM hv a.cells 0 [] rfl rfl oM sM) (λv hvv=>?_)
 match v,hvv with
 |.error r,h=>exact T.ret (λe=>absurd e h)
 |.ok cs,h=>
  refine T.ret (λ_=>Av9 ?_ hv.i.dims h.2)
  rw[h.1]; exact hv.i.sized
theorem AoM {a b:List Int} (hf:Few a) (hl:a.length=b.length):∀(r:List Int) (k:Nat),a.drop k=r->a.take k=b.take k->T (jR (a,b,(k:Int))) (λr=>match r with|.error r=>r.2≠0|.ok _=>a=b)
 | [],k,h,ht=>by
  rw[jR]
  simp only[cB (cG h),fJ,if_false]
  refine T.ret ?_
  have h1:=List.drop_eq_nil_iff.1 h
  rwa [List.take_of_length_le h1,List.take_of_length_le oM] at ht
 |c::r,k,h,ht=>by
  have hk:=cH h
  rw[jR]
  simp only[dL hk,if_true,bO h,oJ,bJ,bZ h hf]
  refine T.bind (T.lget (Q:=λv=>b[k]?=some v) oM oM (λv hv=>by simpa using hv)) (λv hv=>?_)
  refine T.ite (λ_=>T.ret sM) (λhe=>?_)
  refine AoM hf hl r (k+1) (bC h) ?_
  have:a[k]?=some c:=by
   have:(a.drop k)[0]?=some c:=by rw[h]; rfl
   simpa using this
  rw[List.take_add_one,List.take_add_one,ht,this,hv,eD he]
theorem BgH {a b:List Int} (h8:a.length<=8) (h8':b.length<=8):T (tD a b) (λr=>r.2=0->(a=[]/\r.1=b)\/(a≠[]/\b=[]/\r.1=a)\/(a≠[]/\a=b/\r.1=a)):=by
 unfold tD
 refine T.ite (λh=>?_) (λh=>?_)
 ·refine T.bind (eF (by simp; omega)) (λl hl=>T.ret (λ_=>.inl ⟨?_,by simp[hl]⟩))
  have:=fI h; exact List.length_eq_zero_iff.1 oM
 have ha:a≠[]:=by rintro rfl; simp at h
 refine T.ite (λh=>?_) (λh=>?_)
 ·refine T.bind (eF (by simp; omega)) (λl hl=>T.ret (λ_=>.inr (.inl ⟨ha,?_,by simp[hl]⟩)))
  have:=fI h; exact List.length_eq_zero_iff.1 oM
 refine T.ite (λ_=>T.ret (λe=>absurd e sM)) (λhl=>?_)
 have hl':=eD hl
 refine T.bind (AoM (by unfold Few; omega) oM a 0 rfl sM) (λv hv=>?_)
 match v,hv with
 |.error r,h=>exact T.ret (λe=>absurd e h)
 |.ok _,h=>exact T.bind (eF (by simp; omega)) (λl hl=>T.ret (λ_=>.inr (.inr ⟨ha,h,by simp[hl]⟩)))
theorem BeD {op:Int} {a b:Arr}:T (lL (op,a,b,0)) (λr=>match r with|.error r=>r.2≠0|.ok _=>Val 0 a/\Val 0 b):=by
 rw[lL]
 refine T.ite (λ_=>?_) (λh=>by simp at h)
 refine T.bind (kC (Q:=λv=>v=a) rfl) (λy hy=>?_)
 subst hy
 refine T.bind (T.val (rK y) (Q:=λv=>v=AfZ y 0) rfl) (λe he=>?_)
 subst he
 refine T.ite (λhe=>T.ret (gA he)) (λhe=>?_)
 have hva:Val 0 y:=eD he
 rw[show w64 (0+1)=(1:Int) from by rw[aE oM oM]; rfl,lL]
 refine T.ite (λ_=>?_) (λh=>by simp at h)
 refine T.bind (AxS (Q:=λv=>v=b) rfl) (λz hz=>?_)
 subst hz
 refine T.bind (T.val (rK z) (Q:=λv=>v=AfZ z 0) rfl) (λe he=>?_)
 subst he
 refine T.ite (λhe=>T.ret (gA he)) (λhe=>?_)
 have hvb:Val 0 z:=eD he
 rw[show w64 (1+1)=(2:Int) from by rw[aE oM oM]; rfl,lL]
 refine T.ite (λh=>by simp at h) (λ_=>T.ret ⟨hva,hvb⟩)
theorem BaK {op:Int} {a b:Arr} {shape:List Int} {n:Nat} (hn:n<=16384) (ha:0<n->0<a.cells.length/\(0<a.shape.length->n<=a.cells.length)) (hb:0<n->0<b.cells.length/\(0<b.shape.length->n<=b.cells.length)) :
  ∀(d k:Nat) (out:List aA),k+d=n->out.length=k->(∀c∈out,vP c)->T (nU (op,a,b,shape,(n:Int),(k:Int),out)) (λr=>match r with|.error r=>r.2≠0|.ok cs=>cs.length=n/\∀c∈cs,vP c)
 |0,k,out,h,ho,hc=>by
  rw[nU]
  refine T.ite (λh'=>by simp at h'; omega) (λ_=>T.ret ⟨oM,hc⟩)
 |d+1,k,out,h,ho,hc=>by
  obtain⟨a1,a2⟩:=ha oM
  obtain⟨b1,b2⟩:=hb oM
  rw[nU]
  refine T.ite (λh'=>?_) (λh'=>by simp at h'; omega)
  refine T.bind (T.lget (Q:=Any) oM oM (λ_ _=>trivial)) (λy1 _=>?_)
  refine T.bind (T.lget (Q:=Any) oM oM (λ_ _=>trivial)) (λy2 _=>?_)
  refine T.bind (R:=Any) ?_ (λv _=>?_)
  ·refine T.ite (λhs=>?_) (λ_=>T.any)
   have:=a2 (by simp at hs; omega)
   exact T.bind (T.lget (Q:=Any) oM oM (λ_ _=>trivial)) (λ_ _=>T.any)
  refine T.bind (R:=Any) ?_ (λv _=>?_)
  ·refine T.ite (λhs=>?_) (λ_=>T.any)
   have:=b2 (by simp at hs; omega)
   exact T.bind (T.lget (Q:=Any) oM oM (λ_ _=>trivial)) (λ_ _=>T.any)
  refine T.bind BaP (λv hv=>?_)
  refine T.ite (λhe=>T.ret (gA he)) (λ_=>?_)
  refine T.bind (eF (by simp; omega)) (λv hv'=>?_)
  subst hv'
  rw[show w64 ((k:Int)+1)=((k+1:Nat):Int) from by rw[aE oM oM]; rfl]
  refine BaK hn ha hb d (k+1) _ oM (by simp[ho]) ?_
  intro x hx
  rcases List.mem_append.1 hx with hx|hx
  ·exact hc x hx
  simp only[List.mem_singleton] at hx; subst hx; exact hv
theorem AzB {op:Int} {a b:Arr} {m:Nat}:T (zR op a b) (Res m):=by
 unfold zR
 refine T.bind BeD (λv hv=>?_)
 match v,hv with
 |.error r,h=>exact T.ret (λe=>absurd e h)
 |.ok _,⟨hva,hvb⟩=>
  refine T.ite (λ_=>T.ret (Res.err oM)) (λ_=>?_)
  refine T.bind (T.val (BaL op) (Q:=Any) trivial) (λx _=>?_)
  refine T.ite (λ_=>T.ret (Res.err oM)) (λ_=>?_)
  have ra:=hva.i.sized; have rb:=hvb.i.sized
  refine T.bind (BgH ra.rank rb.rank) (λr hr=>?_)
  refine T.ite (λhe=>T.ret (Res.err (gA he))) (λhe=>?_)
  have hag:=hr (eD he)
  have nil1:∀{x:Arr},Val 0 x->x.shape=[]->x.cells.length=1:=by
   intro x hx h0
   have:=hx.i.sized.prod
   rw[h0] at this
   simp only[aS] at this
   omega
  have main:∃n:Nat,n<=16384/\nE r.1 n/\(∀x∈r.1,x<=16384)/\(0<n->0<a.cells.length/\(0<a.shape.length->n<=a.cells.length))/\(0<n->0<b.cells.length/\(0<b.shape.length->n<=b.cells.length)) /\
    (a.cells.length=0->n=0)/\(a.cells.length≠0->(b.cells.length=0->n=0)/\(b.cells.length≠0->n=max a.cells.length b.cells.length)):=by
   have ha1:=ra.hi; have hb1:=rb.hi
   rcases hag with ⟨h1,h2⟩|⟨h1,h2,h3⟩|⟨h1,h2,h3⟩
   ·have:=nil1 hva h1
    refine⟨b.cells.length,oM,by rw[h2]; exact rb,by rw[h2]; exact hvb.i.dims,λ_=>⟨oM,λh=>by rw[h1] at h; simp at h⟩,λh=>⟨h,λ_=>Nat.le_refl _⟩,oM,λ_=>⟨λh=>h,λ_=>oM⟩⟩
   ·have:=nil1 hvb h2
    refine⟨a.cells.length,oM,by rw[h3]; exact ra,by rw[h3]; exact hva.i.dims,λh=>⟨h,λ_=>Nat.le_refl _⟩,λ_=>⟨oM,λh=>by rw[h2] at h; simp at h⟩,λh=>h,λ_=>⟨oM,λ_=>oM⟩⟩
   have he:(a.cells.length:Int)=b.cells.length:=by rw[←ra.prod,←rb.prod,h2]
   refine⟨a.cells.length,oM,by rw[h3]; exact ra,by rw[h3]; exact hva.i.dims,λh=>⟨h,λ_=>Nat.le_refl _⟩,λh=>⟨oM,λ_=>oM⟩,λh=>h,λ_=>⟨oM,λ_=>oM⟩⟩
  obtain⟨n,hn,hsz,hdm,hA,hB,h0,h1⟩:=main
  have fin:∀cs:List aA,cs.length=n->(∀c∈cs,vP c)->Res m (Arr.mk r.1 cs,0):=by
   intro cs hl hc _
   exact Av9 (by rw[hl]; exact hsz) hdm hc
  refine T.ite (λhz=>?_) (λhz=>?_)
  ·have hz':a.cells.length=0:=by have:=fI hz; omega
   rw[tE]
   exact T.bind (R:=λx=>x=.ok []) (T.ret rfl) (λv hv=>by subst hv; exact T.ret (fin [] (by simp; exact (h0 hz').symm) sM))
  have hz':a.cells.length≠0:=by intro e; rw[e] at hz; simp at hz
  obtain⟨g1,g2⟩:=h1 hz'
  refine T.bind (R:=λx=>x=(n:Int)) ?_ (λv hv=>?_)
  ·refine T.ite (λhq=>T.ret ?_) (λhq=>T.ret ?_)
   ·have:=g1 (by have:=fI hq; omega); omega
   ·have hb':b.cells.length≠0:=by intro e; rw[e] at hq; simp at hq
    have:=g2 hb'
    split<;>omega
  subst hv
  refine T.bind (BaK hn hA hB n 0 [] oM rfl sM) (λv hvv=>?_)
  match v,hvv with
  |.error r,h=>exact T.ret (λe=>absurd e h)
  |.ok cs,h=>exact T.ret (fin cs h.1 h.2)
def dY (n:Int):List Int->Int
 | []=>n
 |d::r=>dY (w64 (n*d)) r
theorem Ar4:∀l:List Int,dY 0 l=0
 | []=>rfl
 |d::r=>by simp only[dY,Int.zero_mul]; rw[aE oM oM]; exact Ar4 r
theorem Ab8:∀{l:List Int} {n:Int},0∈l->dY n l=0
 |d::r,n,h=>by
  simp only[dY]
  rcases List.mem_cons.1 h with h|h
  ·rw[←h,Int.mul_zero,aE oM oM]; exact Ar4 r
  exact Ab8 h
theorem AoK:∀{l:List Int},(∀d∈l,0<d)->0<aS l
 | [],_=>by simp[aS]
 |d::r,hp=>Int.mul_pos (hp d sM) (AoK λx hx=>hp x (by simp[hx]))
theorem AtT:∀{l:List Int} {n:Int},(∀d∈l,0<d)->0<n->n*aS l<=16384->dY n l=n*aS l
 | [],n,_,_,_=>by simp[dY,aS]
 |d::r,n,hp,h0,h=>by
  have hd:=hp d sM
  have hr:=AoK (l:=r) λx hx=>hp x (by simp[hx])
  simp only[aS,←Int.mul_assoc] at h ⊢
  have hm0:=Int.mul_pos h0 hd
  have h1:n*d<=16384:=by
   have h2:n*d*1<=n*d*aS r:=Int.mul_le_mul_of_nonneg_left oM (Int.le_of_lt hm0)
   rw[Int.mul_one] at h2
   omega
  simp only[dY]
  rw[aE oM oM]
  exact AtT (λx hx=>hp x (by simp[hx])) hm0 h
theorem gH:∀l m:List Int,aS (l++m)=aS l*aS m
 | [],m=>by simp[aS]
 |d::r,m=>by simp only[List.cons_append,aS,gH r m]; exact (Int.mul_assoc _ _ _).symm
theorem AiF {l:List Int} (h:aS l=0):0∈l:=by
 induction l with
 |nil=>simp[aS] at h
 |cons d r ih=>
  simp only[aS] at h
  rcases Int.mul_eq_zero.1 h with h|h
  ·simp[h]
  simp[ih h]
theorem kH {l:List Int} {n:Int} (h:nE l n):dY 1 l=n:=by
 by_cases hz:n=0
 ·rw[Ab8 (AiF (by rw[h.prod]; exact hz)),hz]
 have hd:=h.dim hz
 rw[AtT (λd hd'=>(hd d hd').1) oM (by rw[Int.one_mul,h.prod]; exact h.hi),Int.one_mul,h.prod]
theorem pV {a b:List Int} {n:Int} (h:nE (a++b) n) (hn:n≠0):nE a (aS a)/\nE b (aS b)/\0<aS a/\0<aS b:=by
 have hd:=h.dim hn
 have pa:∀d∈a,0<d:=λd hd'=>(hd d (by simp[hd'])).1
 have pb:∀d∈b,0<d:=λd hd'=>(hd d (by simp[hd'])).1
 have ga:=AoK pa; have gb:=AoK pb
 have hp:=h.prod; rw[gH] at hp
 have hr:=h.rank; rw[List.length_append] at hr
 have hle:=h.hi
 have la:aS a<=16384:=by
  have:=Int.mul_le_mul_of_nonneg_left (show (1:Int)<=aS b by omega) (Int.le_of_lt ga)
  rw[Int.mul_one] at this; omega
 have lb:aS b<=16384:=by
  have:=Int.mul_le_mul_of_nonneg_right (show (1:Int)<=aS a by omega) (Int.le_of_lt gb)
  rw[Int.one_mul] at this; omega
 exact⟨⟨oM,λd hd'=>Int.le_of_lt (pa d hd'),rfl,oM,la,λ_ d hd'=>hd d (by simp[hd'])⟩,⟨oM,λd hd'=>Int.le_of_lt (pb d hd'),rfl,oM,lb,λ_ d hd'=>hd d (by simp[hd'])⟩,ga,gb⟩
theorem AnO {s l:List Int} {ax:Int} (hf:Few l):∀(r:List Int) (k:Nat) (n:Int),l.drop k=r->kF (s,ax,l,n,(k:Int))=some (dY n r)
 | [],k,n,h=>by
  rw[kF]; simp only[cB (cG h),fJ,if_false,dY]
 |d::r,k,n,h=>by
  rw[kF]
  simp only[dL (cH h),if_true,bO h,oJ,bJ,bZ h hf,dY]
  exact AnO hf r (k+1) _ (bC h)
theorem AnP {s l:List Int} {ax o:Int} (hf:Few l):∀(r:List Int) (k:Nat) (n:Int),l.drop k=r->kG (s,ax,o,l,n,(k:Int))=some (dY n r)
 | [],k,n,h=>by
  rw[kG]; simp only[cB (cG h),fJ,if_false,dY]
 |d::r,k,n,h=>by
  rw[kG]
  simp only[dL (cH h),if_true,bO h,oJ,bJ,bZ h hf,dY]
  exact AnP hf r (k+1) _ (bC h)
theorem AxU {s:List Int} {k:Nat} (h8:s.length<=8) (hk:k<s.length):tZ s (k:Int)=some (dY 1 (s.take k),dY 1 (s.drop (k+1)),s[k]):=by
 unfold tZ
 have h1:lto s (k:Int)=some (s.take k):=by unfold lto; rw[if_pos oM]; simp
 have h2:lfrom s (w64 ((k:Int)+1))=some (s.drop (k+1)):=by
  rw[show w64 ((k:Int)+1)=((k+1:Nat):Int) from by rw[aE oM oM]; rfl]
  unfold lfrom; rw[if_pos oM]; simp
 have h3:lget s (k:Int)=some s[k]:=gL hk
 have e1:=AnO (s:=s) (ax:=(k:Int)) (l:=s.take k) (by unfold Few; simp; omega) (s.take k) 0 1 rfl
 have e2:=AnP (s:=s) (ax:=(k:Int)) (o:=dY 1 (s.take k)) (l:=s.drop (k+1)) (by unfold Few; simp; omega) (s.drop (k+1)) 0 1 rfl
 simp only[h1,h2,h3,oJ,bJ,show kF (s,(k:Int),s.take k,1,0)=_ from e1,show kG (s,(k:Int),dY 1 (s.take k),s.drop (k+1),1,0)=_ from e2]
def axN (s:List Int) (last:Bool):Nat:=if last then s.length-1 else 0
theorem BaV {a:Arr} {last:Bool} (h:0<a.shape.length) (h8:a.shape.length<=8):wO a last=some ((axN a.shape last:Nat):Int):=by
 unfold wO axN
 cases last
 ·rfl
 simp only[if_true]; rw[aE oM oM]; congr 1; omega
theorem Au6 {s:List Int} {last:Bool} (h:0<s.length):axN s last<s.length:=by unfold axN; split<;>omega
theorem At4 {l:List aA} {at_ step long:Int} (hlong:long<=16384) (hi:∀j:Int,0<=j->j<long->0<=w64 (at_+w64 (j*step))/\w64 (at_+w64 (j*step))<l.length) :
  ∀(d:Nat) (k:Nat) (out:List aA),(k:Int)+d=max long 0->out.length=k->(∀c∈out,c∈l)->T (nZ (l,at_,step,long,out,(k:Int))) (λr=>(r.length:Int)=max long 0/\∀c∈r,c∈l)
 |0,k,out,h,ho,hc=>by
  rw[nZ]
  refine T.ite (λh'=>by simp at h'; omega) (λ_=>T.ret ⟨oM,hc⟩)
 |d+1,k,out,h,ho,hc=>by
  rw[nZ]
  refine T.ite (λh'=>?_) (λh'=>by simp at h'; omega)
  obtain⟨g1,g2⟩:=hi k oM (by simpa using h')
  refine T.bind (T.lget (Q:=λv=>v∈l) g1 g2 (λv hv=>List.mem_of_getElem? hv)) (λy hy=>?_)
  refine T.bind (eF (by simp; omega)) (λv hv'=>?_)
  subst hv'
  rw[show w64 ((k:Int)+1)=((k+1:Nat):Int) from by rw[aE oM oM]; rfl]
  refine At4 hlong hi d (k+1) _ oM (by simp[ho]) ?_
  intro x hx
  rcases List.mem_append.1 hx with hx|hx
  ·exact hc x hx
  simp only[List.mem_singleton] at hx; subst hx; exact hy
theorem BjL {l:List aA} {at_ step long:Int} (h0:0<=long) (hlong:long<=16384) (hi:∀j:Int,0<=j->j<long->0<=w64 (at_+w64 (j*step))/\w64 (at_+w64 (j*step))<l.length) :
  T (tG l at_ step long) (λr=>(r.length:Int)=long/\∀c∈r,c∈l):=by
 unfold tG
 refine T.bind (T.val (v:=()) (by unfold mkcap; rw[if_pos oM]) (Q:=Any) trivial) (λ_ _=>?_)
 refine T.bind (At4 hlong hi long.toNat 0 [] oM rfl sM) (λr hr=>T.ret ⟨oM,hr.2⟩)
def Fr (l:List aA) (c:aA):Prop:=c∈l\/vP c
theorem Fr.chk {a:Arr} (h:Val 0 a) {c:aA} (hc:Fr a.cells c):AdU c 0=0:=by
 rcases hc with hc|hc
 ·exact h.i.cells c hc
 exact hc.chk 0
theorem Fr.w {m:Nat} {l:List aA} (h:Cw m l) {c:aA} (hc:Fr l c):wC c<=m:=by
 rcases hc with hc|hc
 ·exact h c hc
 rw[hc.w]; omega
theorem frv {a:Arr} {sh:List Int} {cs:List aA} {m:Nat} (ha:Val 0 a) (hm:Cw m a.cells) (h1:nE sh cs.length) (h2:∀x∈sh,x<=16384) (h3:∀c∈cs,Fr a.cells c):Val 0 (.mk sh cs)/\Cw m cs:=
 ⟨AmV h1 h2 λc hc=>(h3 c hc).chk ha,λc hc=>(h3 c hc).w hm⟩
theorem BkN {f:cC} {a b:aA}:T (wM f a b) (λr=>vP r.1):=by
 unfold wM
 refine T.bind (R:=Any) (T.ite (λ_=>T.any) (λ_=>T.any)) (λv _=>?_)
 exact T.bind BaP (λr hr=>T.ret hr)
theorem AlL {l:List aA} (hl:l.length<=16384):∀(r:List aA) (k:Nat) (out:List Int),l.drop k=r->out.length=l.length->T (jV (l,(k:Int),out)) (λr=>match r with|.error r=>r.2≠0|.ok o=>o.length=l.length)
 | [],k,out,h,ho=>by
  rw[jV]
  simp only[cB (cG h),fJ,if_false]
  exact T.ret ho
 |c::r,k,out,h,ho=>by
  have hk:=cH h
  rw[jV]
  simp only[dL hk,if_true,bO h,oJ,bJ,bZ h (by unfold Few; omega)]
  refine T.ite (λ_=>T.ret sM) (λ_=>?_)
  refine T.bind (T.val (v:=k) (by unfold jO; rw[if_pos (by simp; omega)]; simp) (Q:=λv=>v=k) rfl) (λj hj=>?_)
  subst hj
  refine T.bind (T.val (by unfold oL; rw[if_pos oM]) (Q:=λv=>v.length=l.length) (by simpa using ho)) (λo hoo=>?_)
  exact AlL hl r (j+1) o (bC h) hoo
theorem Bd5 {l:List aA} (hl:l.length<=16384):T (oA l) (λr=>r.2=0->r.1.length<=16384):=by
 unfold oA
 refine T.bind (T.val (by unfold xP; rw[if_pos oM]) (Q:=λv=>v.length=l.length) sM) (λo ho=>?_)
 refine T.bind (AlL hl l 0 o rfl ho) (λv hv=>?_)
 match v,hv with
 |.error r,h=>exact T.ret (λe=>absurd e h)
 |.ok o2,h=>
  exact T.bind (T.val (by unfold wU; rw[if_pos (by simp; exact h)]) (Q:=λv=>v.length=l.length) h) (λv hv=>T.ret (λ_=>by simp only; omega))
theorem Bg3 {n:Int} {w:eV}:T (qI n w) Any:=by unfold qI; exact T.ite (λ_=>T.any) (λ_=>T.any)
theorem Bi0 {w x:eV}:T (rU w x) Any:=by unfold rU; exact T.ite (λ_=>T.any) (λ_=>T.ite (λ_=>T.any) (λ_=>T.any))
theorem Bg7 {w x:eV}:T (qJ w x) Any:=by unfold qJ; exact T.bind (R:=Any) (T.ite (λ_=>T.any) (λ_=>T.any)) (λ_ _=>T.any)
theorem AtU {w:eV} {b:Bool}:T (lY w b) Any:=by
 unfold lY
 refine T.ite (λ_=>T.ite (λ_=>T.any) (λ_=>T.any)) (λ_=>?_)
 exact T.ite (λ_=>T.ite (λ_=>T.any) (λ_=>T.any)) (λ_=>T.bind AyQ (λ_ _=>T.any))
theorem AvX {l:List Int} (hf:Few l):∀(r:List Int) (k:Nat) (a b c d:Int),l.drop k=r->T (rD (l,(k:Int),a,b,c,d)) Any
 | [],k,a,b,c,d,h=>by
  rw[rD]
  simp only[cB (cG h),fJ,if_false]
  exact T.any
 |x::r,k,a,b,c,d,h=>by
  have ih:=λa b c d=>AvX hf r (k+1) a b c d (bC h)
  rw[rD]
  simp only[dL (cH h),if_true,bO h,oJ,bJ,bZ h hf]
  refine T.bind (R:=Any) ?_ (λv _=>ih _ _ _ _)
  refine T.bind BfV (λm _=>?_)
  exact T.ite (λ_=>T.bind Bg3 (λ_ _=>T.any)) (λ_=>T.bind Bg3 (λ_ _=>T.any))
theorem Bk8 {l:List Int} (hf:Few l):T (yW l) Any:=by
 unfold yW
 refine T.bind (AvX hf l 0 0 0 0 0 rfl) (λv _=>?_)
 refine T.bind Bi0 (λx _=>?_)
 exact T.ite (λ_=>T.bind Bg7 (λ_ _=>T.bind AtU (λ_ _=>T.any))) (λ_=>T.bind Bg7 (λ_ _=>T.bind AtU (λ_ _=>T.any)))
theorem AyI {f:cC} {l:List aA} (hl:l.length<=16384):∀(d:Nat) (i:Int) (c:aA),i+1=d->i<l.length->Fr l c->T (mB (f,l,i,c.kind,c.n,c.box)) (λr=>match r with|.error r=>r.2≠0|.ok (a,b,c)=>Fr l (aA.mk a b c))
 |0,i,c,h,hi,hc=>by
  rw[mB]
  refine T.ite (λh'=>by simp at h'; omega) (λ_=>T.ret ?_)
  cases c; exact hc
 |d+1,i,c,h,hi,hc=>by
  rw[mB]
  refine T.ite (λh'=>?_) (λh'=>by simp at h'; omega)
  refine T.bind (T.lget (Q:=Any) oM hi (λ_ _=>trivial)) (λy _=>?_)
  refine T.bind BkN (λr hr=>?_)
  refine T.ite (λhe=>T.ret (gA he)) (λ_=>?_)
  rw[aE (x:=i-1) oM oM]
  exact AyI hl d (i-1) r.1 oM oM (.inr hr)
theorem BiT {f:cC} {l:List aA} (hl:l.length<=16384):T (tX f l) (λr=>r.2=0->Fr l r.1):=by
 unfold tX
 refine T.bind (R:=λr=>match r with|.error r=>r.2=0->Fr l r.1|.ok _=>2<=l.length) ?_ (λv hv=>?_)
 ·refine T.ite (λh1=>?_) (λh1=>?_)
  ·have:=fI h1
   exact T.bind (T.lget (Q:=λv=>v∈l) oM oM (λv hv=>List.mem_of_getElem? hv)) (λy hy=>T.ret (λ_=>.inl hy))
  refine T.ite (λh0=>?_) (λh0=>?_)
  ·refine T.ite (λ_=>T.ret (λ_=>.inr (.mk _))) (λ_=>?_)
   refine T.ite (λ_=>T.ret (λ_=>.inr (.mk _))) (λ_=>?_)
   refine T.ite (λ_=>?_) (λh=>by rw[h0] at h; cases h)
   refine T.ite (λ_=>T.ret (λ_=>.inr (.mk _))) (λ_=>?_)
   exact T.ite (λ_=>T.ret (λe=>absurd e sM)) (λh=>by rw[h0] at h; cases h)
  refine T.ite (λh=>by rw[h0] at h; cases h) (λ_=>?_)
  refine T.ite (λh=>by rw[h0] at h; cases h) (λ_=>T.ret ?_)
  have a1:(l.length:Int)≠1:=by simpa using h1
  have a2:(l.length:Int)≠0:=by simpa using h0
  show 2<=l.length
  omega
 match v,hv with
 |.error r,h=>exact T.ret h
 |.ok _,h2=>
  have fin:∀{α:Type},T (oA l>>=λ(n,e)=>if (e != 0) then some ((aA.mk 0 0 []),e) else if (f.op_==23) then tL n>>=λ(k,e1)=>some ((aA.mk 0 k []),e1) else yW n>>=λ(k1,e2)=>some ((aA.mk 0 k1 []),e2)) (λr=>r.2=0->Fr l r.1):=by
   intro _
   refine T.bind (Bd5 hl) (λr hr=>?_)
   refine T.ite (λhe=>T.ret (λe=>absurd e (gA he))) (λhe=>?_)
   have hfw:Few r.1:=by have:=hr (eD he); unfold Few; omega
   exact T.ite (λ_=>T.bind (BdS hfw) (λ_ _=>T.ret (λ_=>.inr (.mk _)))) (λ_=>T.bind (Bk8 hfw) (λ_ _=>T.ret (λ_=>.inr (.mk _))))
  refine T.ite (λ_=>fin (α:=Unit)) (λ_=>?_)
  refine T.ite (λ_=>fin (α:=Unit)) (λ_=>?_)
  rw[aE (x:=(l.length:Int)-1) oM oM,aE (x:=(l.length:Int)-2) oM oM]
  refine T.bind (T.lget (Q:=λv=>v∈l) oM oM (λv hv=>List.mem_of_getElem? hv)) (λy hy=>?_)
  refine T.bind (AyI hl (l.length-1) _ y oM oM (.inl hy)) (λv hv=>?_)
  match v,hv with
  |.error r,h=>exact T.ret (λe=>absurd e h)
  |.ok (a,b,c),h=>exact T.ret (λ_=>h)
theorem Bb9 {o s g x y j N:Int} (hx:0<=x) (hx':x<o) (hy:0<=y) (hy':y<s) (hj:0<=j) (hj':j<g) (hN:o*s*g=N) (hle:N<=16384) :
  w64 (w64 (w64 (w64 (x*s)*g)+y)+w64 (j*s))=x*s*g+y+j*s/\0<=x*s*g+y+j*s/\x*s*g+y+j*s<N/\w64 (w64 (w64 (x*s)*g)+y)=x*s*g+y:=by
 have h1:0<=x*s:=Int.mul_nonneg hx oM
 have h2:0<=x*s*g:=Int.mul_nonneg h1 oM
 have h3:0<=j*s:=Int.mul_nonneg hj oM
 have h4:(x*g+j+1)<=o*g:=by
  have:(x+1)*g<=o*g:=Int.mul_le_mul_of_nonneg_right oM oM
  rw[Int.add_mul,Int.one_mul] at this; omega
 have h5:(x*g+j+1)*s<=o*g*s:=Int.mul_le_mul_of_nonneg_right h4 oM
 rw[Int.add_mul,Int.add_mul,Int.one_mul] at h5
 have e1:x*g*s=x*s*g:=by rw[Int.mul_assoc,Int.mul_comm g s,←Int.mul_assoc]
 have e2:o*g*s=o*s*g:=by rw[Int.mul_assoc,Int.mul_comm g s,←Int.mul_assoc]
 rw[e1,e2,hN] at h5
 have h6:x*s<=x*s*g:=by
  have:=Int.mul_le_mul_of_nonneg_left (show (1:Int)<=g by omega) h1
  rwa [Int.mul_one] at this
 have w1:w64 (x*s)=x*s:=aE oM oM
 have w2:w64 (x*s*g)=x*s*g:=aE oM oM
 have w3:w64 (x*s*g+y)=x*s*g+y:=aE oM oM
 have w4:w64 (j*s)=j*s:=aE oM oM
 have w5:w64 (x*s*g+y+j*s)=x*s*g+y+j*s:=aE oM oM
 rw[w1,w2,w3,w4,w5]
 exact⟨rfl,oM,oM,rfl⟩
structure Geo (a:Arr) (o s g:Int):Prop where
 g0:0<=g
 g1:g<=16384
 all:0<o->0<s->0<g->o*s*g=a.cells.length
theorem geo {a:Arr} {last:Bool} (hv:Val 0 a) (h:0<a.shape.length):Geo a (dY 1 (a.shape.take (axN a.shape last))) (dY 1 (a.shape.drop (axN a.shape last+1))) (a.shape[axN a.shape last]'(Au6 h)):=by
 have hk:=Au6 (last:=last) h
 have hz:=hv.i.sized
 have hm:a.shape[axN a.shape last]'hk∈a.shape:=List.getElem_mem hk
 refine⟨hz.pos _ hm,hv.i.dims _ hm,?_⟩
 intro ho hs hg
 have e0:a.shape=a.shape.take (axN a.shape last)++(a.shape[axN a.shape last]'hk::a.shape.drop (axN a.shape last+1)):=by
  rw[←List.drop_eq_getElem_cons hk,List.take_append_drop]
 have hne:(a.cells.length:Int)≠0:=by
  intro e
  have h0:(0:Int)∈a.shape:=AiF (by rw[hz.prod]; exact e)
  rw[e0] at h0
  rcases List.mem_append.1 h0 with h0|h0
  ·rw[Ab8 h0] at ho; omega
  rcases List.mem_cons.1 h0 with h0|h0
  ·omega
  rw[Ab8 h0] at hs; omega
 have hz':=hz
 rw[e0] at hz'
 obtain⟨p1,p2,p3,p4⟩:=pV hz' hne
 have hz2:nE ([a.shape[axN a.shape last]'hk]++a.shape.drop (axN a.shape last+1)) (aS (a.shape[axN a.shape last]'hk::a.shape.drop (axN a.shape last+1))):=p2
 obtain⟨q1,q2,q3,q4⟩:=pV hz2 oM
 rw[kH p1,kH q2]
 have hp:=hz'.prod
 rw[gH] at hp
 simp only[aS] at hp
 rw[←hp,Int.mul_assoc,Int.mul_comm (aS (a.shape.drop (axN a.shape last+1)))]
theorem AkL {f:cC} {l:List Arr} (hf:Few l):∀(r:List Arr) (k:Nat),l.drop k=r->(∀x∈l.take k,Val 0 x)->T (gU (f,l,(k:Int))) (λr=>match r with|.error e=>e≠0|.ok _=>∀x∈l,Val 0 x)
 | [],k,h,hv=>by
  rw[gU]
  simp only[cB (cG h),fJ,if_false]
  refine T.ret ?_
  rwa [List.take_of_length_le (List.drop_eq_nil_iff.1 h)] at hv
 |a::r,k,h,hv=>by
  rw[gU]
  simp only[dL (cH h),if_true,bO h,oJ,bJ,bZ h hf,rK]
  refine T.ite (λhe=>T.ret (gA he)) (λhe=>?_)
  refine AkL hf r (k+1) (bC h) ?_
  have:l[k]?=some a:=by
   have:(l.drop k)[0]?=some a:=by rw[h]; rfl
   simpa using this
  rw[List.take_add_one,this]
  intro x hx
  rcases List.mem_append.1 hx with hx|hx
  ·exact hv x hx
  simp only[Option.toList_some,List.mem_singleton] at hx; subst hx; exact eD he
theorem Am3 {f:cC} {l:List Arr} (hf:Few l):T (kQ f l) (λe=>e=0->∀x∈l,Val 0 x):=by
 unfold kQ
 refine T.bind (AkL hf l 0 rfl sM) (λv hv=>?_)
 match v,hv with
 |.error r,h=>exact T.ret (λe=>absurd e h)
 |.ok _,h=>
  refine T.bind (T.val (BaL f.op_) (Q:=Any) trivial) (λx _=>?_)
  exact T.ite (λ_=>T.ret (λe=>oM)) (λ_=>T.ret (λ_=>h))
theorem AhU {l:List Int} (h:l.length<=8):T (sV l) (λr=>r=(l.length,l)):=⟨_,by unfold sV; rw[if_pos oM],rfl⟩
theorem Af2 {a:Int} (h1:0<=a) (h2:a<4611686018427387904):w64 (a+1)=a+1:=aE oM oM
theorem BbE {a:Arr} {o s g x y:Int} (hv:Val 0 a) (G:Geo a o s g) (hx:0<=x) (hx':x<o) (hy:0<=y) (hy':y<s):T (tG a.cells (w64 (w64 (w64 (x*s)*g)+y)) s g) (λr=>(r.length:Int)=g/\∀c∈r,c∈a.cells):=by
 refine BjL G.g0 G.g1 ?_
 intro j hj hj'
 obtain⟨e,g1,g2,_⟩:=Bb9 hx hx' hy hy' hj hj' (G.all oM oM oM) hv.i.sized.hi
 rw[e]; exact⟨g1,g2⟩
theorem AvW {f:cC} {a:Arr} {x2 x3:List Int} {o s g x5:Int} (hv:Val 0 a) (G:Geo a o s g) (hs:s<=16384) (ho:o<=16384) (hos:o*s<=16384) (hx:0<=x5) (hx':x5<o):∀(d:Nat) (x6:Int) (out:List aA),0<=x6->x6+d=max s x6->(out.length:Int)=x5*s+x6->(∀c∈out,Fr a.cells c)->x6<=s ->
  T (pS (f,a,x2,x3,o,s,g,x5,x6,out)) (λr=>match r with|.error r=>r.2≠0|.ok cs=>(cs.length:Int)=x5*s+s/\∀c∈cs,Fr a.cells c)
 |0,x6,out,h0,hd,hl,hc,hle=>by
  rw[pS]
  refine T.ite (λh'=>by simp at h'; omega) (λh'=>T.ret ⟨by simp at h'; omega,hc⟩)
 |d+1,x6,out,h0,hd,hl,hc,hle=>by
  have hlt:x6<s:=oM
  rw[pS]
  refine T.ite (λ_=>?_) (λh'=>by simp at h'; omega)
  refine T.bind (BbE hv G hx hx' h0 hlt) (λl hl'=>?_)
  have hg:=G.g1
  refine T.bind (BiT oM) (λr hr=>?_)
  refine T.ite (λhe=>T.ret (gA he)) (λhe=>?_)
  have h1:x5*s+s<=o*s:=by
   have:=Int.mul_le_mul_of_nonneg_right (show x5+1<=o by omega) (show 0<=s by omega)
   rwa [Int.add_mul,Int.one_mul] at this
  refine T.bind (eF (by simp; omega)) (λv hv'=>?_)
  subst hv'
  rw[Af2 h0 oM]
  refine AvW hv G hs ho hos hx hx' d (x6+1) _ oM oM (by simp; omega) ?_ oM
  intro c hcc
  rcases List.mem_append.1 hcc with hcc|hcc
  ·exact hc c hcc
  simp only[List.mem_singleton] at hcc; subst hcc
  rcases hr (eD he) with h|h
  ·exact .inl (hl'.2 _ h)
  exact .inr h
theorem AvV {f:cC} {a:Arr} {x2 x3:List Int} {o s g:Int} (hv:Val 0 a) (G:Geo a o s g) (hs0:0<=s) (hs:s<=16384) (ho:o<=16384) (hos:o*s<=16384):∀(d:Nat) (x5:Int) (out:List aA),0<=x5->x5+d=o->(out.length:Int)=x5*s->(∀c∈out,Fr a.cells c) ->
  T (nJ (f,a,x2,x3,o,s,g,x5,out)) (λr=>match r with|.error r=>r.2≠0|.ok cs=>(cs.length:Int)=o*s/\∀c∈cs,Fr a.cells c)
 |0,x5,out,h0,hd,hl,hc=>by
  rw[nJ]
  refine T.ite (λh'=>by simp at h'; omega) (λh'=>T.ret ⟨?_,hc⟩)
  rw[hl]; congr 1; omega
 |d+1,x5,out,h0,hd,hl,hc=>by
  rw[nJ]
  refine T.ite (λ_=>?_) (λh'=>by simp at h'; omega)
  refine T.bind (AvW hv G hs ho hos h0 oM s.toNat 0 out oM oM oM hc hs0) (λv hvv=>?_)
  match v,hvv with
  |.error r,h=>exact T.ret h
  |.ok cs,h=>
   show T (nJ (f,a,x2,x3,o,s,g,w64 (x5+1),cs)) _
   rw[Af2 h0 oM]
   exact AvV hv G hs0 hs ho hos d (x5+1) cs oM oM (by rw[h.1,Int.add_mul,Int.one_mul]) h.2
theorem AzE (s:List Int) (last:Bool) (h:0<s.length):(s.take (axN s last)=[]/\s.take (axN s last)++s.drop (axN s last+1)=s.drop (axN s last+1))\/(s.drop (axN s last+1)=[]/\s.take (axN s last)++s.drop (axN s last+1)=s.take (axN s last)):=by
 unfold axN
 cases last
 ·left; simp
 right
 have:s.drop (s.length-1+1)=[]:=List.drop_eq_nil_of_le oM
 simp[this]
theorem Bk5 {f:cC} {a:Arr} {last:Bool} {m:Nat} (hm:Cw m a.cells):T (yV f a last) (Res m):=by
 unfold yV
 refine T.bind (Am3 (by unfold Few; simp)) (λe he=>?_)
 refine T.ite (λh=>T.ret (Res.err (gA h))) (λh=>?_)
 have hv:Val 0 a:=he (eD h) a sM
 have hr:=hv.i.sized.rank
 refine T.ite (λh0=>?_) (λh0=>?_)
 ·exact T.bind (T.val (tQ a 0 hv) (Q:=λv=>v=a) rfl) (λv hv'=>by subst hv'; exact T.ret (λ_=>⟨hv,hm⟩))
 have hpos:0<a.shape.length:=by
    have:(a.shape.length:Int)≠0:=by simpa using h0
    omega
 have hk:=Au6 (last:=last) hpos
 refine T.bind (T.val (BaV hpos hr) (Q:=λv=>v=((axN a.shape last:Nat):Int)) rfl) (λk hkk=>?_)
 subst hkk
 refine T.bind (AhU hr) (λc hc=>?_)
 subst hc
 rw[show w64 (((axN a.shape last:Nat):Int)+1)=((axN a.shape last+1:Nat):Int) from by rw[aE oM oM]; rfl]
 refine T.bind (T.val (v:=(a.shape.take (axN a.shape last)++a.shape.drop (axN a.shape last+1),[])) (by unfold AdW; rw[if_pos oM]; simp) (Q:=λv=>v=(a.shape.take (axN a.shape last)++a.shape.drop (axN a.shape last+1),[])) rfl) (λd hd=>?_)
 subst hd
 refine T.bind (T.val (AaJ _) (Q:=λv=>v=lZ (a.shape.take (axN a.shape last)++a.shape.drop (axN a.shape last+1))) rfl) (λsz hsz=>?_)
 subst hsz
 refine T.ite (λh=>T.ret (Res.err (gA h))) (λh=>?_)
 have hS:=vG (eD h)
 refine T.bind (T.val (AxU hr hk) (Q:=λv=>v=(dY 1 (a.shape.take (axN a.shape last)),dY 1 (a.shape.drop (axN a.shape last+1)),a.shape[axN a.shape last]'hk)) rfl) (λq hq=>?_)
 subst hq
 have G:=geo (last:=last) hv hpos
 have hos:0<=dY 1 (a.shape.take (axN a.shape last))/\dY 1 (a.shape.take (axN a.shape last))<=16384/\0<=dY 1 (a.shape.drop (axN a.shape last+1))/\dY 1 (a.shape.drop (axN a.shape last+1))<=16384 /\
   dY 1 (a.shape.take (axN a.shape last))*dY 1 (a.shape.drop (axN a.shape last+1))=(lZ (a.shape.take (axN a.shape last)++a.shape.drop (axN a.shape last+1))).1:=by
  have l1:=hS.lo; have l2:=hS.hi
  rcases AzE a.shape last hpos with ⟨h1,h2⟩|⟨h1,h2⟩
  ·rw[h2] at hS l1 l2 ⊢
   rw[h1,kH hS]
   simp only[dY]; omega
  rw[h2] at hS l1 l2 ⊢
  rw[h1,kH hS]
  simp only[dY]; omega
 obtain⟨o0,o1,s0,s1,hprod⟩:=hos
 have hdim:∀x∈a.shape.take (axN a.shape last)++a.shape.drop (axN a.shape last+1),x<=16384:=by
  intro x hx
  rcases List.mem_append.1 hx with hx|hx
  ·exact hv.i.dims x (List.mem_of_mem_take hx)
  exact hv.i.dims x (List.mem_of_mem_drop hx)
 refine T.bind (AvV hv G s0 s1 o1 (by rw[hprod]; exact hS.hi) _ 0 [] oM (by rw[Int.toNat_of_nonneg o0]; omega) sM sM) (λv hvv=>?_)
 match v,hvv with
 |.error r,h=>exact T.ret (λe=>absurd e h)
 |.ok cs,h=>
  have hval:=frv (m:=m) hv hm (sh:=a.shape.take (axN a.shape last)++a.shape.drop (axN a.shape last+1)) (cs:=cs) (by rw[h.1,hprod]; exact hS) hdim h.2
  exact T.bind (T.val (tQ _ 0 hval.1) (Q:=λv=>v=Arr.mk (a.shape.take (axN a.shape last)++a.shape.drop (axN a.shape last+1)) cs) rfl) (λv hv'=>by subst hv'; exact T.ret (λ_=>hval))
theorem BcE {d:Int} {a:Arr} (hv:Val d a):∀c∈a.cells,lA c=some c:=by
 intro c hm
 rw[lA]
 rcases sS (hv.i.cells c hm) with ⟨_,_,_,b,hb,hvb⟩|⟨hb,_⟩
 ·have:=tQ b _ hvb
  obtain⟨k,n,bx⟩:=c
  simp only[aA.box] at hb
  subst hb
  have hl:lget [b] 0=some b:=rfl
  simp[aA.box,aA.kind,aA.n,hl,this]
 obtain⟨k,n,bx⟩:=c
 simp only[aA.box] at hb
 subst hb
 simp[aA.box,aA.kind,aA.n]
theorem AwO {a:Arr} {l:List Int} (hf:Few a.cells) (hl:a.cells.length<=16384) (hc:∀c∈a.cells,lA c=some c):∀(r:List aA) (k:Nat) (out:List aA),a.cells.drop k=r->out=a.cells.take k->kE (a,l,(k:Int),out)=some a.cells
 | [],k,out,h,ho=>by
  rw[kE]
  simp only[cB (cG h),fJ,if_false]
  rw[ho,List.take_of_length_le (List.drop_eq_nil_iff.1 h)]
 |c::r,k,out,h,ho=>by
  have hk:=cH h
  have hm:c∈a.cells:=List.mem_of_mem_drop (by rw[h]; simp)
  rw[kE]
  have hlo:out.length<=16384:=by rw[ho,List.length_take]; omega
  have hap:lapp out [c]=some (out++[c]):=by unfold lapp; rw[if_pos (by simp; omega)]
  simp only[dL hk,if_true,bO h,oJ,bJ,bZ h hf,hc c hm,hap]
  refine AwO hf hl hc r (k+1) _ (bC h) ?_
  rw[ho]
  have:a.cells[k]?=some c:=by
   have:(a.cells.drop k)[0]?=some c:=by rw[h]; rfl
   simpa using this
  rw[List.take_add_one,this]; rfl
theorem AvP {a:Arr} {d:Int} (hv:Val d a):rA a=some (a.shape.length,a.cells.length,a.shape,a.cells):=by
 unfold rA
 have hr:=hv.i.sized.rank
 have h1:lapp ([]:List Int) a.shape=some a.shape:=by unfold lapp; rw[if_pos (by simp; omega)]; simp
 have hlen:a.cells.length<=16384:=by have:=hv.i.sized.hi; omega
 have h2:=AwO (l:=a.shape) hv.fewc hlen (BcE hv) a.cells 0 [] rfl rfl
 simp only[h1,oJ,bJ]
 rw[show kE (a,a.shape,0,[])=some a.cells from h2]; rfl
theorem vQ {α:Type} {n:Nat} {l:List α} (h:l.length=n):T (wU n l) (λr=>r=l):=⟨l,by unfold wU; rw[if_pos h],rfl⟩
theorem ArX {f:cC} {a:Arr} {n n1:Nat} {b:List Int} {o s g x1 x2:Int} (hv:Val 0 a) (G:Geo a o s g) (hn:n1=a.cells.length) (hx:0<=x1) (hx':x1<o) (hy:0<=x2) (hy':x2<s) {l:List aA} (hl:(l.length:Int)=g) (hlc:∀c∈l,c∈a.cells) :
  ∀(d:Nat) (k:Int) (cs:List aA),1<=k->k+d=max g k->cs.length=a.cells.length->(∀c∈cs,Fr a.cells c)->T (nY (f,a,n,n1,b,o,s,g,x1,x2,l,k,cs)) (λr=>match r with|.error r=>r.2≠0|.ok cs=>cs.length=a.cells.length/\∀c∈cs,Fr a.cells c)
 |0,k,cs,h1,hd,hc,hf=>by
  rw[nY]
  refine T.ite (λh'=>by simp at h'; omega) (λ_=>T.ret ⟨hc,hf⟩)
 |d+1,k,cs,h1,hd,hc,hf=>by
  have hg:=G.g1
  have hlt:k<g:=oM
  rw[nY]
  refine T.ite (λ_=>?_) (λh'=>by simp at h'; omega)
  rw[Af2 oM oM]
  refine T.bind (T.val (by unfold lto; rw[if_pos oM]) (Q:=λv=>v=l.take (k+1).toNat) rfl) (λl1 hl1=>?_)
  subst hl1
  refine T.bind (BiT (by rw[List.length_take]; omega)) (λr hr=>?_)
  refine T.ite (λhe=>T.ret (gA he)) (λhe=>?_)
  obtain⟨e,g1,g2,_⟩:=Bb9 hx hx' hy hy' (show 0<=k by omega) hlt (G.all oM oM oM) hv.i.sized.hi
  rw[e]
  refine T.bind (T.val (by unfold jO; rw[if_pos oM]) (Q:=λv=>v<a.cells.length) oM) (λj hj=>?_)
  refine T.bind (T.val (by unfold oL; rw[if_pos oM]) (Q:=λv=>v=cs.set j r.1) rfl) (λcs2 hcs2=>?_)
  subst hcs2
  refine ArX hv G hn hx hx' hy hy' hl hlc d (k+1) _ oM oM (by simpa using hc) ?_
  intro c hcc
  rcases List.mem_or_eq_of_mem_set hcc with hcc|hcc
  ·exact hf c hcc
  subst hcc
  rcases hr (eD he) with h|h
  ·exact .inl (hlc _ (List.mem_of_mem_take h))
  exact .inr h
theorem ArW {f:cC} {a:Arr} {n n1:Nat} {b:List Int} {o s g x1:Int} (hv:Val 0 a) (G:Geo a o s g) (hs:s<9223372036854775808) (hn:n1=a.cells.length) (hx:0<=x1) (hx':x1<o) :
  ∀(d:Nat) (x2:Int) (cs:List aA),0<=x2->x2+d=max s x2->cs.length=a.cells.length->(∀c∈cs,Fr a.cells c)->T (lO (f,a,n,n1,b,o,s,g,x1,x2,cs)) (λr=>match r with|.error r=>r.2≠0|.ok cs=>cs.length=a.cells.length/\∀c∈cs,Fr a.cells c)
 |0,x2,cs,h0,hd,hc,hf=>by
  rw[lO]
  refine T.ite (λh'=>by simp at h'; omega) (λ_=>T.ret ⟨hc,hf⟩)
 |d+1,x2,cs,h0,hd,hc,hf=>by
  have hlt:x2<s:=oM
  rw[lO]
  refine T.ite (λ_=>?_) (λh'=>by simp at h'; omega)
  refine T.bind (BbE hv G hx hx' h0 hlt) (λl hl=>?_)
  refine T.bind (ArX hv G hn hx hx' h0 hlt hl.1 hl.2 (g-1).toNat 1 cs oM (by have:=G.g0; omega) hc hf) (λv hvv=>?_)
  match v,hvv with
  |.error r,h=>exact T.ret h
  |.ok cs2,h=>
   show T (lO (f,a,n,n1,b,o,s,g,x1,w64 (x2+1),cs2)) _
   rw[aE oM oM]
   exact ArW hv G hs hn hx hx' d (x2+1) cs2 oM oM h.1 h.2
theorem ArV {f:cC} {a:Arr} {n n1:Nat} {b:List Int} {o s g:Int} (hv:Val 0 a) (G:Geo a o s g) (hs:s<9223372036854775808) (ho:o<9223372036854775808) (hn:n1=a.cells.length) :
  ∀(d:Nat) (x1:Int) (cs:List aA),0<=x1->x1+d=max o x1->cs.length=a.cells.length->(∀c∈cs,Fr a.cells c)->T (lM (f,a,n,n1,b,o,s,g,x1,cs)) (λr=>match r with|.error r=>r.2≠0|.ok cs=>cs.length=a.cells.length/\∀c∈cs,Fr a.cells c)
 |0,x1,cs,h0,hd,hc,hf=>by
  rw[lM]
  refine T.ite (λh'=>by simp at h'; omega) (λ_=>T.ret ⟨hc,hf⟩)
 |d+1,x1,cs,h0,hd,hc,hf=>by
  have hlt:x1<o:=oM
  rw[lM]
  refine T.ite (λ_=>?_) (λh'=>by simp at h'; omega)
  refine T.bind (ArW hv G hs hn h0 hlt s.toNat 0 cs oM oM hc hf) (λv hvv=>?_)
  match v,hvv with
  |.error r,h=>exact T.ret h
  |.ok cs2,h=>
   show T (lM (f,a,n,n1,b,o,s,g,w64 (x1+1),cs2)) _
   rw[aE oM oM]
   exact ArV hv G hs ho hn d (x1+1) cs2 oM oM h.1 h.2
theorem BjV (x:Int):w64 x<9223372036854775808:=by unfold w64; rw[IntKind.wrap_i64]; omega
theorem AlX:∀{l:List Int} {n:Int},n<9223372036854775808->dY n l<9223372036854775808
 | [],n,h=>h
 |d::r,n,_=>by simp only[dY]; exact AlX (l:=r) (BjV _)
theorem Bj1 {f:cC} {a:Arr} {last:Bool} {m:Nat} (hm:Cw m a.cells):T (wN f a last) (Res m):=by
 unfold wN
 refine T.bind (Am3 (by unfold Few; simp)) (λe he=>?_)
 refine T.ite (λh=>T.ret (Res.err (gA h))) (λh=>?_)
 have hv:Val 0 a:=he (eD h) a sM
 have hr:=hv.i.sized.rank
 refine T.bind (T.val (AvP hv) (Q:=λv=>v=(a.shape.length,a.cells.length,a.shape,a.cells)) rfl) (λq hq=>?_)
 subst hq
 refine T.ite (λh0=>?_) (λh0=>?_)
 ·refine T.bind (vQ rfl) (λc hc=>?_)
  refine T.bind (vQ rfl) (λs hs=>?_)
  subst hc; subst hs
  exact T.ret (λ_=>by cases a; exact⟨hv,hm⟩)
 have hpos:0<a.shape.length:=by
   have:(a.shape.length:Int)≠0:=by simpa using h0
   omega
 have hk:=Au6 (last:=last) hpos
 refine T.bind (T.val (BaV hpos hr) (Q:=λv=>v=((axN a.shape last:Nat):Int)) rfl) (λk hkk=>?_)
 subst hkk
 refine T.bind (T.val (AxU hr hk) (Q:=λv=>v=(dY 1 (a.shape.take (axN a.shape last)),dY 1 (a.shape.drop (axN a.shape last+1)),a.shape[axN a.shape last]'hk)) rfl) (λq hq=>?_)
 subst hq
 have G:=geo (last:=last) hv hpos
 refine T.bind (ArV hv G (AlX oM) (AlX oM) rfl (dY 1 (a.shape.take (axN a.shape last))).toNat 0 a.cells oM oM rfl (λc hc=>.inl hc)) (λv hvv=>?_)
 match v,hvv with
 |.error r,h=>exact T.ret (λe=>absurd e h)
 |.ok cs,h=>
  refine T.bind (vQ h.1) (λc hc=>?_)
  refine T.bind (vQ rfl) (λs hs=>?_)
  subst hc; subst hs
  exact T.ret (λ_=>frv hv hm (by rw[h.1]; exact hv.i.sized) hv.i.dims h.2)
theorem AoR {f:cC} {a b:Arr} {l:List Int} {x2:Int} {y:aA} (hb:Val 0 b) {base:Nat} (hbase:base+b.cells.length<=16384):∀(r:List aA) (k:Nat) (out:List aA),b.cells.drop k=r->out.length=base+k->k<=b.cells.length->(∀c∈out,vP c) ->
  T (mD (f,a,b,l,x2,y,(k:Int),out)) (λr=>match r with|.error r=>r.2≠0|.ok cs=>cs.length=base+b.cells.length/\∀c∈cs,vP c)
 | [],k,out,h,ho,hkl,hc=>by
  rw[mD]
  simp only[cB (cG h),fJ,if_false]
  have:=List.drop_eq_nil_iff.1 h
  exact T.ret ⟨oM,hc⟩
 |c::r,k,out,h,ho,hkl,hc=>by
  have hk:=cH h
  rw[mD]
  simp only[dL hk,if_true,bO h,oJ,bJ,bZ h hb.fewc]
  refine T.bind BkN (λv hv=>?_)
  refine T.ite (λhe=>T.ret (gA he)) (λ_=>?_)
  refine T.bind (eF (by simp; omega)) (λw hw=>?_)
  subst hw
  refine AoR hb hbase r (k+1) _ (bC h) (by simp; omega) oM ?_
  intro x hx
  rcases List.mem_append.1 hx with hx|hx
  ·exact hc x hx
  simp only[List.mem_singleton] at hx; subst hx; exact hv
theorem AoQ {f:cC} {a b:Arr} {l:List Int} (ha:Val 0 a) (hb:Val 0 b) (hN:a.cells.length*b.cells.length<=16384):∀(r:List aA) (k:Nat) (out:List aA),a.cells.drop k=r->out.length=k*b.cells.length->k<=a.cells.length->(∀c∈out,vP c) ->
  T (mC (f,a,b,l,(k:Int),out)) (λr=>match r with|.error r=>r.2≠0|.ok cs=>cs.length=a.cells.length*b.cells.length/\∀c∈cs,vP c)
 | [],k,out,h,ho,hkl,hc=>by
  rw[mC]
  simp only[cB (cG h),fJ,if_false]
  have h1:=List.drop_eq_nil_iff.1 h
  have:k=a.cells.length:=oM
  exact T.ret ⟨by rw[ho,this],hc⟩
 |c::r,k,out,h,ho,hkl,hc=>by
  have hk:=cH h
  have hb2:k*b.cells.length+b.cells.length<=a.cells.length*b.cells.length:=by
   have:=Nat.mul_le_mul_right b.cells.length (show k+1<=a.cells.length by omega)
   rwa [Nat.add_mul,Nat.one_mul] at this
  rw[mC]
  simp only[dL hk,if_true,bO h,oJ,bJ,bZ h ha.fewc]
  refine T.bind (AoR hb (base:=k*b.cells.length) oM b.cells 0 out rfl oM oM hc) (λv hv=>?_)
  match v,hv with
  |.error r,h=>exact T.ret h
  |.ok cs,hcs=>exact AoQ ha hb hN r (k+1) cs (bC h) (by rw[hcs.1,Nat.add_mul,Nat.one_mul]) oM hcs.2
theorem BgM {f:cC} {a b:Arr} {m:Nat}:T (tY f a b) (Res m):=by
 unfold tY
 refine T.bind (Am3 (by unfold Few; simp)) (λe he=>?_)
 refine T.ite (λh=>T.ret (Res.err (gA h))) (λh=>?_)
 have ha:Val 0 a:=he (eD h) a sM
 have hb:Val 0 b:=he (eD h) b sM
 have ra:=ha.i.sized; have rb:=hb.i.sized
 refine T.bind (AhU ra.rank) (λc hc=>?_)
 subst hc
 have r1:=ra.rank; have r2:=rb.rank
 refine T.bind (T.val (v:=a.shape++b.shape) (by unfold BgN wU lapp; rw[if_pos rfl]; simp; omega) (Q:=λv=>v=a.shape++b.shape) rfl) (λl hl=>?_)
 subst hl
 refine T.bind (T.val (AaJ _) (Q:=λv=>v=lZ (a.shape++b.shape)) rfl) (λsz hsz=>?_)
 subst hsz
 refine T.ite (λh=>T.ret (Res.err (gA h))) (λh=>?_)
 have hS:=vG (eD h)
 have hp:=hS.prod
 rw[gH,ra.prod,rb.prod] at hp
 have hp':((a.cells.length*b.cells.length:Nat):Int)=(lZ (a.shape++b.shape)).1:=by rw[←hp]; simp
 have hle:=hS.hi
 refine T.bind (AoQ ha hb oM a.cells 0 [] rfl sM oM sM) (λv hvv=>?_)
 match v,hvv with
 |.error r,h=>exact T.ret (λe=>absurd e h)
 |.ok cs,h=>
  refine T.ret (λ_=>Av9 (by rw[h.1,hp']; exact hS) ?_ h.2)
  intro x hx
  rcases List.mem_append.1 hx with hx|hx
  ·exact ha.i.dims x hx
  exact hb.i.dims x hx
theorem AeF {n:Int} (h0:0<=n) (h1:n<=16384):nE [n] n:=⟨sM,by simpa using h0,by simp[aS],h0,h1,λh d hd=>by simp only[List.mem_singleton] at hd; subst hd; omega⟩
theorem AtM:nE [] 1:=⟨sM,sM,rfl,oM,oM,sM⟩
theorem At1 {a:Arr} {y3:aA} {n:Int} (hn:n<=16384):∀(d:Nat) (k:Nat) (out:List aA),(k:Int)+d=n->out.length=k->(∀c∈out,vP c)->T (jW (a,y3,n,(k:Int),out)) (λr=>(r.length:Int)=n/\∀c∈r,vP c)
 |0,k,out,h,ho,hc=>by
  rw[jW]
  refine T.ite (λh'=>by simp at h'; omega) (λ_=>T.ret ⟨oM,hc⟩)
 |d+1,k,out,h,ho,hc=>by
  rw[jW]
  refine T.ite (λ_=>?_) (λh'=>by simp at h'; omega)
  refine T.bind (eF (by simp; omega)) (λw hw=>?_)
  subst hw
  rw[show w64 ((k:Int)+1)=((k+1:Nat):Int) from by rw[aE oM oM]; rfl]
  refine At1 hn d (k+1) _ oM (by simp[ho]) ?_
  intro x hx
  rcases List.mem_append.1 hx with hx|hx
  ·exact hc x hx
  simp only[List.mem_singleton] at hx; subst hx; exact .mk _
theorem yJ {a:Arr} (hv:Val 0 a) (h:¬(a.shape.length:Int)>0):∃c,a.cells=[c]:=by
 have h0:a.shape=[]:=List.length_eq_zero_iff.1 oM
 have:=hv.i.sized.prod
 rw[h0] at this
 simp only[aS] at this
 exact List.length_eq_one_iff.1 oM
theorem BjH {a:Arr} {m:Nat} (hv:Val 0 a):T (tI a) (Res m):=by
 unfold tI
 refine T.ite (λ_=>T.ret (Res.err oM)) (λh=>?_)
 obtain⟨c,hc⟩:=yJ hv (by simpa using h)
 rw[hc]
 refine T.bind (kC (Q:=λv=>v=c) rfl) (λy hy=>?_)
 subst hy
 refine T.ite (λ_=>T.ret (Res.err oM)) (λ_=>?_)
 refine T.bind (kC (Q:=λv=>v=y) rfl) (λy1 hy=>?_)
 subst hy
 refine T.ite (λ_=>T.ret (Res.err oM)) (λh0=>?_)
 refine T.bind (kC (Q:=λv=>v=y1) rfl) (λy2 hy=>?_)
 subst hy
 refine T.ite (λ_=>T.ret (Res.err oM)) (λh1=>?_)
 refine T.bind (kC (Q:=λv=>v=y2) rfl) (λy3 hy=>?_)
 subst hy
 have g0:0<=y3.n:=by simpa using h0
 have g1:y3.n<=16384:=by simpa using h1
 refine T.bind (kC (Q:=λv=>v=y3.n) rfl) (λy4 hy=>?_)
 subst hy
 refine T.bind (At1 g1 y3.n.toNat 0 [] oM rfl sM) (λr hr=>?_)
 exact T.ret (λ_=>Av9 (by rw[hr.1]; exact AeF g0 g1) (by simpa using g1) hr.2)
theorem AlU {a:Arr} {ax:Int} {l:List Int} (hf:Few l):∀(r:List Int) (k:Nat) (n:Int),l.drop k=r->iP (a,ax,l,n,(k:Int))=some (dY n r)
 | [],k,n,h=>by
  rw[iP]; simp only[cB (cG h),fJ,if_false,dY]
 |d::r,k,n,h=>by
  rw[iP]
  simp only[dL (cH h),if_true,bO h,oJ,bJ,bZ h hf,dY]
  exact AlU hf r (k+1) _ (bC h)
theorem Ao1 {a:Arr} {s g at_:Int} (hs:0<s) (hat:0<=at_) (hN:at_+g*s<=a.cells.length) (hle:(a.cells.length:Int)<=16384):∀(d:Nat) (i:Int) (out:List aA),i+1=d->i<g->(out.length:Int)=at_+(g-1-i)*s->(∀c∈out,c∈a.cells) ->
  T (iQ (a,s,g,at_,out,i)) (λr=>(r.length:Int)=at_+g*s/\∀c∈r,c∈a.cells)
 |0,i,out,h,hi,hl,hc=>by
  rw[iQ]
  refine T.ite (λh'=>by simp at h'; omega) (λ_=>T.ret ⟨?_,hc⟩)
  rw[hl,show g-1-i=g from by omega]
 |d+1,i,out,h,hi,hl,hc=>by
  have h1:0<=i*s:=Int.mul_nonneg oM oM
  have h2:(i+1)*s<=g*s:=Int.mul_le_mul_of_nonneg_right oM oM
  have h3:i*s+s=(i+1)*s:=by rw[Int.add_mul,Int.one_mul]
  have h4:(g-1-i)*s+(i+1)*s=g*s:=by rw[←Int.add_mul]; congr 1; omega
  rw[iQ]
  refine T.ite (λ_=>?_) (λh'=>by simp at h'; omega)
  have hs16:s<=16384:=oM
  have hi16:i<=16384:=by
   have:=Int.mul_le_mul_of_nonneg_left (show (1:Int)<=s by omega) (show 0<=i by omega)
   omega
  rw[aE (x:=i*s) oM oM,aE (x:=i+1) oM oM,aE (x:=(i+1)*s) oM oM,aE (x:=at_+i*s) oM oM,aE (x:=at_+(i+1)*s) oM oM]
  refine T.bind (T.val (by unfold Ag0; rw[if_pos oM]) (Q:=λv=>(v.length:Int)=s/\∀c∈v,c∈a.cells) ⟨by simp; omega,λc hcc=>List.mem_of_mem_take (List.mem_of_mem_drop hcc)⟩) (λl1 hl1=>?_)
  have hg:0<=(g-1-i)*s:=Int.mul_nonneg oM oM
  refine T.bind (eF oM) (λw hw=>?_)
  subst hw
  rw[aE (x:=i-1) oM oM]
  refine Ao1 hs hat hN hle d (i-1) _ oM oM ?_ ?_
  ·rw[List.length_append,show g-1-(i-1)=(g-1-i)+1 from by omega,Int.add_mul,Int.one_mul]; omega
  intro x hx
  rcases List.mem_append.1 hx with hx|hx
  ·exact hc x hx
  exact hl1.2 x hx
theorem Ao0 {a:Arr} {s g o:Int} (hs:0<s) (hg:0<g) (hN:o*(g*s)=a.cells.length) (hle:(a.cells.length:Int)<=16384):∀(d:Nat) (x:Int) (out:List aA),0<=x->x+d=o->(out.length:Int)=x*(g*s)->(∀c∈out,c∈a.cells) ->
  T (gF (a,s,g,out,x*(g*s))) (λr=>r.length=a.cells.length/\∀c∈r,c∈a.cells)
 |0,x,out,h0,hd,hl,hc=>by
  rw[gF]
  have:x*(g*s)=a.cells.length:=by rw[←hN]; congr 1; omega
  refine T.ite (λh'=>by simp at h'; omega) (λ_=>T.ret ⟨oM,hc⟩)
 |d+1,x,out,h0,hd,hl,hc=>by
  have hB:0<g*s:=Int.mul_pos hg hs
  have h1:0<=x*(g*s):=Int.mul_nonneg h0 oM
  have h2:(x+1)*(g*s)<=o*(g*s):=Int.mul_le_mul_of_nonneg_right oM oM
  have h3:(x+1)*(g*s)=x*(g*s)+g*s:=by rw[Int.add_mul,Int.one_mul]
  have hg16:g<=16384:=by
   have:=Int.mul_le_mul_of_nonneg_left (show (1:Int)<=s by omega) (show 0<=g by omega)
   rw[Int.mul_one] at this; omega
  rw[gF]
  refine T.ite (λ_=>?_) (λh'=>by simp at h'; omega)
  rw[aE (x:=g-1) oM oM,aE (x:=g*s) oM oM,aE (x:=x*(g*s)+g*s) oM oM,←h3]
  refine T.bind (Ao1 hs h1 oM hle g.toNat (g-1) out oM oM (by rw[hl,show g-1-(g-1)=(0:Int) from by omega]; omega) hc) (λr hr=>?_)
  exact Ao0 hs hg hN hle d (x+1) r oM oM (by rw[hr.1]; omega) hr.2
theorem Az0 {a:Arr} {k:Nat} {m:Nat} (hv:Val 0 a) (hm:Cw m a.cells) (hk:k<a.shape.length\/a.shape=[]):T (mE a (k:Int)) (λr=>Val 0 r/\Cw m r.cells):=by
 unfold mE
 have hr:=hv.i.sized.rank
 refine T.ite (λ_=>T.ret ⟨hv,hm⟩) (λh0=>?_)
 have hk':k<a.shape.length:=by
  rcases hk with hk|hk
  ·exact hk
  rw[hk] at h0; simp at h0
 rw[show w64 ((k:Int)+1)=((k+1:Nat):Int) from by rw[aE oM oM]; rfl]
 refine T.bind (T.val (v:=a.shape.drop (k+1)) (by unfold lfrom; rw[if_pos oM]; simp) (Q:=λv=>v=a.shape.drop (k+1)) rfl) (λl hl=>?_)
 subst hl
 refine T.bind (T.val (AlU (by unfold Few; simp; omega) (a.shape.drop (k+1)) 0 1 rfl) (Q:=λv=>v=dY 1 (a.shape.drop (k+1))) rfl) (λs hs=>?_)
 subst hs
 refine T.bind (T.val (gL hk') (Q:=λv=>v=a.shape[k]) rfl) (λg hg=>?_)
 subst hg
 have hz:=hv.i.sized
 have fin:∀cs:List aA,cs.length=a.cells.length->(∀c∈cs,c∈a.cells)->Val 0 (Arr.mk a.shape cs)/\Cw m (Arr.mk a.shape cs).cells:=λcs h1 h2=>frv hv hm (by rw[h1]; exact hz) hv.i.dims λc hc=>.inl (h2 c hc)
 by_cases hne:a.cells.length=0
 ·rw[gF]
  have:(decide ((0:Int)<(a.cells.length:Int)))=false:=by simp[hne]
  rw[this]
  exact T.bind (R:=λv=>v=[]) (T.ret rfl) (λv hv'=>by subst hv'; exact T.ret (fin [] (by simp[hne]) sM))
 have e0:a.shape=a.shape.take k++([a.shape[k]]++a.shape.drop (k+1)):=by
  rw[List.singleton_append,←List.drop_eq_getElem_cons hk',List.take_append_drop]
 have hz':=hz
 rw[e0] at hz'
 obtain⟨p1,p2,p3,p4⟩:=pV hz' oM
 obtain⟨q1,q2,q3,q4⟩:=pV p2 oM
 have hp:=hz'.prod
 rw[gH,gH] at hp
 simp only[aS,Int.mul_one] at hp q1 q3
 rw[kH q2]
 have t:=Ao0 (a:=a) (s:=aS (a.shape.drop (k+1))) (g:=a.shape[k]) (o:=aS (a.shape.take k)) q4 q3 hp hz.hi (aS (a.shape.take k)).toNat 0 [] oM oM sM sM
 rw[Int.zero_mul] at t
 exact T.bind t (λr hr=>T.ret (fin r hr.1 hr.2))
theorem BeG (a:Arr):∀d,0<=d->Val (d+1) a->Val d a:=by
 refine Arr.ind (P:=λa=>∀d,0<=d->Val (d+1) a->Val d a) ?_ a
 intro sh cs ih d h0 hv
 have hi:=hv.i
 refine (Az7.mk hi.sized hi.dims ?_).v
 intro c hc
 obtain⟨k,n,b⟩:=c
 rcases sS (hi.cells _ hc) with ⟨h1,h2,h3,x,hb,hx⟩|⟨hb,hk⟩
 ·simp only[aA.kind,aA.n,aA.box] at h1 h2 hb
  subst h1; subst h2; subst hb
  have:=ih _ hc x (by simp[aA.box]) (d+1) oM hx
  simp only[AdU,BeF,List.length_singleton,and_self,if_true]
  rw[if_neg oM]; exact this
 simp only[aA.kind,aA.n,aA.box] at hb hk
 subst hb
 simp[AdU,hk]
mutual
def dA:Arr->Nat
 |.mk _ cs=>dCs cs
def dCs:List aA->Nat
 | []=>0
 |c::r=>max (dC c) (dCs r)
def dC:aA->Nat
 |.mk _ _ b=>dB b
def dB:List Arr->Nat
 | []=>0
 |a::_=>1+dA a
end
theorem BkC (a:Arr):dA a=dCs a.cells:=by cases a; rfl
theorem BaY (c:aA):dC c=dB c.box:=by cases c; rfl
theorem BaZ {c:aA}:∀{l:List aA},c∈l->dC c<=dCs l
 |x::r,h=>by
  simp only[dCs]
  rcases List.mem_cons.1 h with rfl|h
  ·omega
  have:=BaZ h; omega
theorem BeH (a:Arr):∀d:Int,0<=d->Val d a->d+dA a<=7->Val (d+1) a:=by
 refine Arr.ind (P:=λa=>∀d:Int,0<=d->Val d a->d+dA a<=7->Val (d+1) a) ?_ a
 intro sh cs ih d h0 hv hd
 have hi:=hv.i
 refine (Az7.mk hi.sized hi.dims ?_).v
 intro c hc
 have hdc:=BaZ (l:=cs) hc
 rw[BkC] at hd
 simp only[Arr.cells] at hd
 obtain⟨k,n,b⟩:=c
 rcases sS (hi.cells _ hc) with ⟨h1,h2,h3,x,hb,hx⟩|⟨hb,hk⟩
 ·simp only[aA.kind,aA.n,aA.box] at h1 h2 hb
  subst h1; subst h2; subst hb
  simp only[dC,dB] at hdc
  have:=ih _ hc x (by simp[aA.box]) (d+1) oM hx oM
  simp only[AdU,BeF,List.length_singleton,and_self,if_true]
  rw[if_neg oM]; exact this
 simp only[aA.kind,aA.n,aA.box] at hb hk
 subst hb
 simp[AdU,hk]
theorem BeJ (a:Arr):∀d:Int,Val d a->d<=8->d+dA a<=8:=by
 refine Arr.ind (P:=λa=>∀d:Int,Val d a->d<=8->d+dA a<=8) ?_ a
 intro sh cs ih d hv h8
 have hi:=hv.i
 have key:∀l:List aA,(∀c∈l,c∈cs)->d+dCs l<=8:=by
  intro l
  induction l with
  |nil=>intro _; simp only[dCs]; omega
  |cons c r ihr=>
   intro hl
   have h1:=ihr λx hx=>hl x (by simp[hx])
   have hc:=hl c sM
   have h2:d+dC c<=8:=by
    rcases sS (hi.cells c hc) with ⟨_,_,h3,x,hb,hx⟩|⟨hb,_⟩
    ·have:=ih c hc x (by rw[hb]; simp) (d+1) hx oM
     rw[BaY,hb]; simp only[dB]; omega
    rw[BaY,hb]; simp only[dB]; omega
   simp only[dCs]; omega
 exact key cs λ_ h=>h
theorem BiY (a:Arr):∀d:Int,0<=d->d<=8->Val d a->vW a=some (dA a:Int):=by
 refine Arr.ind (P:=λa=>∀d:Int,0<=d->d<=8->Val d a->vW a=some (dA a:Int)) ?_ a
 intro sh cs ih d h0 h8 hv
 have hi:=hv.i
 have l0:∀(r:List aA) (k:Nat) (n:Nat),cs.drop k=r->kZ (.mk sh cs,(n:Int),(k:Int))=some ((max n (dCs r):Nat):Int):=by
  intro r
  induction r with
  |nil=>
   intro k n h
   rw[kZ]
   simp only[show (Arr.mk sh cs).cells=cs from rfl,cB (cG h),fJ,if_false,dCs]
   congr 2<;>omega
  |cons c r ihr=>
   intro k n h
   have hm:c∈cs:=List.mem_of_mem_drop (by rw[h]; simp)
   rw[kZ]
   simp only[show (Arr.mk sh cs).cells=cs from rfl,dL (cH h),if_true,bO h,oJ,bJ,bZ h hv.fewc]
   rcases sS (hi.cells c hm) with ⟨_,_,h3,b,hb,hx⟩|⟨hb,_⟩
   ·have h4:=ih c hm b (by rw[hb]; simp) (d+1) oM oM hx
    have h5:=BeJ b _ hx oM
    have hdc:dC c=1+dA b:=by rw[BaY,hb]; rfl
    simp only[hb,List.length_singleton,show lget [b] (0:Int)=some b from rfl,h4,bJ]
    rw[if_pos dM,aE oM oM]
    simp only[bJ]
    rw[show (if (n:Int)<1+(dA b:Int) then 1+(dA b:Int) else (n:Int))=((max n (dC c):Nat):Int) from by rw[hdc]; split<;>omega]
    rw[ihr (k+1) _ (bC h)]
    simp only[dCs]; congr 2<;>omega
   have hdc:dC c=0:=by rw[BaY,hb]; rfl
   simp only[hb,List.length_nil]
   rw[if_neg dM]
   simp only[bJ]
   rw[ihr (k+1) _ (bC h)]
   simp only[dCs]; congr 2<;>omega
 rw[vW]
 rw[show kZ (Arr.mk sh cs,0,0)=_ from l0 cs 0 0 rfl]
 simp only[oJ,bJ,dA]
 congr 2<;>omega
end Go.AM.Seat
namespace Go.AM.Seat
open Go Go.AM
structure At (s at_:List Int):Prop where
 len:at_.length=s.length
 all:∀k d,s[k]?=some d->∃v,at_[s.length-1-k]?=some v/\0<=v/\v<d
theorem At.put {s at_:List Int} {i:Nat} {d v:Int} (h:At s at_) (hi:i<s.length) (hd:s[s.length-1-i]?=some d) (h0:0<=v) (h1:v<d):At s (at_.set i v):=by
 refine⟨by simp[h.len],?_⟩
 intro k e he
 have hk:k<s.length:=(List.getElem?_eq_some_iff.1 he).1
 by_cases hc:s.length-1-k=i
 ·refine⟨v,by rw[hc,List.getElem?_set_self (by rw[h.len]; exact hi)],h0,?_⟩
  rw[show s.length-1-i=k by omega] at hd
  rw[hd] at he; cases he; exact h1
 obtain⟨w,g1,g2⟩:=h.all k e he
 exact⟨w,by rw[List.getElem?_set_ne (Ne.symm hc)]; exact g1,g2⟩
theorem vH {m:Int} {n:Nat} (h0:0<=m) (h1:m.toNat<n):jO m n=some m.toNat:=by unfold jO; rw[if_pos ⟨h0,h1⟩]
theorem AtD:∀{l:List Int},(∀d∈l,0<d)->0<aS l
 | [],_=>by simp[aS]
 |d::r,h=>Int.mul_pos (h d sM) (AtD λx hx=>h x (by simp[hx]))
theorem Al5 {a:Arr} {x1 at_:List Int} {x2:Int} {out:List aA} (hs:a.shape.length<=8) (hd:∀d∈a.shape,0<d) (hA:At a.shape at_) :
  ∀(r:List Int) (k:Nat) (n P:Int),a.shape.drop k=r->0<=n->n<P->P*aS r<=16384->T (gX (a,a.shape.length,x1,x2,at_,out,n,(k:Int))) (λv=>0<=v/\v<P*aS r)
 | [],k,n,P,h,h0,h1,h2=>by
  rw[gX]
  have:=cG h
  refine T.ite (λh'=>by simp at h'; omega) (λ_=>T.ret ⟨h0,by simpa[aS] using h1⟩)
 |d::r,k,n,P,h,h0,h1,h2=>by
  rw[gX]
  have hk:=cH h
  have hdk:a.shape[k]?=some d:=by
   rw[List.drop_eq_getElem_cons oM] at h
   obtain⟨h,_⟩:=List.cons.inj h
   rw[←h]; simp[show k<a.shape.length by omega]
  have hd0:0<d:=hd d (List.mem_of_getElem? hdk)
  obtain⟨v,e1,e2,e3⟩:=hA.all k d hdk
  have pr:0<aS r:=AtD λx hx=>hd x (List.mem_of_mem_drop (i:=k) (by rw[h]; simp[hx]))
  simp only[aS] at h2 ⊢
  have hPd:P*d<=16384:=by
   have:P*d*1<=P*d*aS r:=Int.mul_le_mul_of_nonneg_left oM (Int.mul_nonneg oM oM)
   rw[Int.mul_one,Int.mul_assoc] at this; omega
  have hn1:n*d+v<P*d:=by
   have:(n+1)*d<=P*d:=Int.mul_le_mul_of_nonneg_right oM oM
   rw[Int.add_mul,Int.one_mul] at this; omega
  have hn0:0<=n*d:=Int.mul_nonneg h0 oM
  simp only[Int.toNat_natCast,dL hk,if_true,bO h,oJ,bJ,bZ h (by unfold Few; omega)]
  rw[aE (x:=(a.shape.length:Int)-1) oM oM,aE (x:=(a.shape.length:Int)-1-(k:Int)) oM oM,vH oM oM]
  simp only[bJ]
  rw[show ((a.shape.length:Int)-1-(k:Int)).toNat=a.shape.length-1-k by omega,show nM at_ (a.shape.length-1-k)=some v from e1]
  simp only[bJ]
  rw[aE (x:=n*d) oM oM,aE (x:=n*d+v) oM oM]
  have t:=Al5 (x1:=x1) (x2:=x2) (out:=out) hs hd hA r (k+1) (n*d+v) (P*d) (bC h) oM hn1 (by rw[Int.mul_assoc]; exact h2)
  rw[Int.mul_assoc] at t
  exact t
theorem Al6 {a:Arr} {x2:Int} {out:List aA} (hs:a.shape.length<=8) (hd:∀d∈a.shape,0<d/\d<=16384):∀(n:Nat) (i:Int) (at_:List Int),i+1=n->n<=a.shape.length->At a.shape at_ ->
  T (gY (a,a.shape.length,a.shape.reverse,x2,out,i,at_)) (λr=>match r with|.error v=>At a.shape v|.ok v=>At a.shape v)
 |0,i,at_,h,hi,hA=>by
  rw[gY]
  exact T.ite (λh'=>by simp at h'; omega) (λ_=>T.ret hA)
 |n+1,i,at_,h,hi,hA=>by
  rw[gY]
  obtain rfl:i=(n:Int):=oM
  have hn:n<a.shape.length:=oM
  have hk:a.shape.length-1-n<a.shape.length:=oM
  have e0:a.shape[a.shape.length-1-n]?=some a.shape[a.shape.length-1-n]:=List.getElem?_eq_getElem hk
  have hdd:=hd _ (List.getElem_mem hk)
  generalize a.shape[a.shape.length-1-n]=d at e0 hdd
  obtain⟨v,e1,e2,e3⟩:=hA.all _ d e0
  rw[show a.shape.length-1-(a.shape.length-1-n)=n by omega] at e1
  refine T.ite (λ_=>?_) (λh'=>by simp at h')
  have a0:jO (n:Int) a.shape.length=some n:=vH oM (by simpa using hn)
  have a1:nM at_ n=some v:=e1
  have a2:∀w:Int,oL at_ n w=some (at_.set n w):=λw=>by unfold oL; rw[if_pos (by rw[hA.len]; exact hn)]
  have a3:∀w:Int,nM (at_.set n w) n=some w:=λw=>by unfold nM; rw[List.getElem?_set_self (by rw[hA.len]; exact hn)]
  have a4:nM a.shape.reverse n=some d:=by unfold nM; rw[List.getElem?_reverse hn]; exact e0
  have a5:∀w u:Int,oL (at_.set n w) n u=some (at_.set n u):=λw u=>by unfold oL; rw[if_pos (by rw[List.length_set,hA.len]; exact hn),List.set_set]
  simp only[Int.toNat_natCast,oJ,bJ,a0,a1,a2,a3,a4,a5]
  rw[aE (x:=v+1) oM oM,aE (x:=(n:Int)-1) oM oM]
  refine T.ite (λh'=>?_) (λ_=>?_)
  ·exact T.ret (hA.put hn e0 oM (by simpa using h'))
  exact Al6 hs hd n _ _ oM oM (hA.put hn e0 oM hdd.1)
theorem Al4 {a:Arr} (hv:Val 0 a) (hne:a.cells.length≠0):∀(d:Nat) (k:Int) (at_:List Int) (out:List aA),0<=k->k+d=a.cells.length->At a.shape at_->(out.length:Int)=k->(∀c∈out,c∈a.cells) ->
  T (fO (a,a.shape.length,a.shape.reverse,k,at_,out)) (λr=>r.2.length=a.cells.length/\∀c∈r.2,c∈a.cells)
 |0,k,at_,out,h0,hd,hA,ho,hc=>by
  rw[fO]
  exact T.ite (λh'=>by simp at h'; omega) (λ_=>T.ret ⟨by simp only; omega,hc⟩)
 |d+1,k,at_,out,h0,hd,hA,ho,hc=>by
  have hz:=hv.i.sized
  have hdm:=hz.dim oM
  have hle:=hz.hi
  rw[fO]
  refine T.ite (λ_=>?_) (λh'=>by simp at h'; omega)
  refine T.bind (R:=λr=>At a.shape r.1/\r.2.length=out.length+1/\∀c∈r.2,c∈a.cells) ?_ (λr hr=>?_)
  ·refine T.bind (Al5 hz.rank (λd h=>(hdm d h).1) hA a.shape 0 0 1 rfl oM oM (by rw[hz.prod]; omega)) (λn hn=>?_)
   rw[Int.one_mul,hz.prod] at hn
   refine T.bind (T.lget hn.1 hn.2 (Q:=λv=>v∈a.cells) λv h=>List.mem_of_getElem? h) (λc hcm=>?_)
   refine T.bind (eF (by simp; omega)) (λl hl=>?_)
   subst hl
   rw[show w64 (((Int.toNat (a.shape.length:Int)):Int)-1)=(a.shape.length:Int)-1 from by have:=hz.rank; rw[Int.toNat_natCast,aE oM oM]]
   have fin:∀c'∈out++[c],c'∈a.cells:=by
    intro c' h
    rcases List.mem_append.1 h with h|h
    ·exact hc c' h
    simp only[List.mem_singleton] at h; subst h; exact hcm
   refine T.bind (Al6 hz.rank hdm a.shape.length _ at_ oM oM hA) (λv hv'=>?_)
   match v,hv' with
   |.error v,h=>exact T.ret ⟨h,sM,fin⟩
   |.ok v,h=>exact T.ret ⟨h,sM,fin⟩
  obtain⟨r1,r2⟩:=r
  obtain⟨g1,g2,g3⟩:=hr
  rw[Af2 h0 oM]
  exact Al4 hv hne d (k+1) r1 r2 oM oM g1 (by simp only at g2; omega) g3
theorem BcS {a:Arr} {m:Nat} (hv:Val 0 a) (hm:Cw m a.cells):T (qH a) (λr=>Val 0 r/\Cw m r.cells):=by
 unfold qH
 have hz:=hv.i.sized
 have hr:=hz.rank
 refine T.bind (AhU hr) (λx hx=>?_)
 subst hx
 refine T.bind (T.val (by unfold AbQ; rw[if_pos oM]) (Q:=λv=>v=a.shape.reverse) rfl) (λx1 hx=>?_)
 subst hx
 refine T.bind (T.val (by unfold xP; rw[if_pos oM]) (Q:=λv=>v=List.replicate a.shape.length 0) sM) (λat_ hat=>?_)
 subst hat
 have rz:∀{s:List Int} {n:Int},nE s n->nE s.reverse n:=by
  intro s n h
  have pr:∀l:List Int,aS l.reverse=aS l:=by
   intro l
   induction l with
   |nil=>rfl
   |cons d r ih=>rw[List.reverse_cons,gH,ih]; simp only[aS,Int.mul_one]; exact Int.mul_comm _ _
  exact⟨by simpa using h.rank,λd hd=>h.pos d (by simpa using hd),by rw[pr]; exact h.prod,h.lo,h.hi,λhn d hd=>h.dim hn d (by simpa using hd)⟩
 have fin:∀cs:List aA,cs.length=a.cells.length->(∀c∈cs,c∈a.cells)->Val 0 (Arr.mk a.shape.reverse cs)/\Cw m (Arr.mk a.shape.reverse cs).cells:=
  fun cs h1 h2=>frv hv hm (by rw[h1]; exact rz hz) (λd hd=>hv.i.dims d (by simpa using hd)) λc hc=>.inl (h2 c hc)
 refine T.bind (R:=λr=>r.2.length=a.cells.length/\∀c∈r.2,c∈a.cells) ?_ (λr hr=>?_)
 ·by_cases hne:a.cells.length=0
  ·rw[fO]
   exact T.ite (λh'=>by simp[hne] at h') (λ_=>T.ret ⟨by simp[hne],sM⟩)
  ·refine Al4 hv hne a.cells.length 0 _ [] oM oM ⟨sM,?_⟩ sM sM
   intro k d hk
   have hk':k<a.shape.length:=(List.getElem?_eq_some_iff.1 hk).1
   exact⟨0,by rw[List.getElem?_replicate,if_pos oM],oM,(hz.dim oM d (List.mem_of_getElem? hk)).1⟩
 exact T.bind (vQ sM) (λsh hsh=>by subst hsh; exact T.ret (fin r.2 hr.1 hr.2))
theorem BjQ {a:Arr} {m:Nat} (hv:Val 0 a) (hm:Cw m a.cells):T (uW a) (Res m):=by
 unfold uW
 refine T.ite (λ_=>T.ret (Res.err oM)) (λh=>?_)
 obtain⟨c,hc⟩:=yJ hv (by simpa using h)
 have hcm:c∈a.cells:=by rw[hc]; simp
 rw[hc]
 refine T.bind (kC (Q:=λv=>v=c) rfl) (λy hy=>?_)
 subst hy
 refine T.ite (λh2=>?_) (λ_=>T.ret λ_=>⟨hv,hm⟩)
 refine T.bind (kC (Q:=λv=>v=y) rfl) (λy1 hy=>?_)
 subst hy
 rcases sS (hv.i.cells _ hcm) with ⟨_,_,h8,b,hb,hvb⟩|⟨_,hk⟩
 ·rw[hb]
  refine T.bind (kC (Q:=λv=>v=b) rfl) (λy2 hy=>?_)
  subst hy
  refine T.ret λ_=>⟨BeG _ 0 oM hvb,λc hc'=>?_⟩
  have h1:=hm _ hcm
  rw[Az3,hb] at h1
  simp only[wB] at h1
  rw[Az2,Ao3] at h1
  have h2:wC c<=bCs y2.cells:=AoF hc'
  omega
 have h2:y1.kind=2:=by simpa using h2
 rcases hk with hk|hk<;>omega
theorem nD:∀{l:List Int},(∀d∈l,0<=d)->0<=aS l
 | [],_=>by simp[aS]
 |d::r,h=>Int.mul_nonneg (h d sM) (nD λx hx=>h x (by simp[hx]))
theorem Bh3 {a:Arr} {m:Nat} (hv:Val 0 a) (hm:Cw m a.cells):T (tH a) (Res m):=by
 unfold tH
 refine T.ite (λ_=>T.ret λ_=>⟨hv,hm⟩) (λh=>?_)
 have hz:=hv.i.sized
 have hdm:=hv.i.dims
 cases hs:a.shape with
 |nil=>rw[hs] at h; simp at h
 |cons d r=>
  rw[hs] at hz hdm
  refine T.bind (kC (Q:=λv=>v=d) rfl) (λy hy=>?_)
  subst hy
  refine T.ite (λ_=>T.ret (Res.err oM)) (λh0=>?_)
  have h0:y≠0:=by simpa using h0
  have hy0:=hz.pos y sM
  have hy:0<y:=oM
  have hp:=hz.prod
  simp only[aS] at hp
  have hq:(a.cells.length:Int) / y=aS r:=by rw[←hp]; exact Int.mul_ediv_cancel_left _ h0
  have hr0:0<=aS r:=nD λx hx=>hz.pos x (by simp[hx])
  have hrle:aS r<=a.cells.length:=by
   rw[←hp]
   have:1*aS r<=y*aS r:=Int.mul_le_mul_of_nonneg_right oM hr0
   omega
  have hle:=hz.hi
  refine T.bind (T.lfrom (Q:=λv=>v=r) oM (by simp; omega) sM) (λl hl=>?_)
  subst hl
  refine T.bind (kC (Q:=λv=>v=y) rfl) (λy1 hy1=>?_)
  subst hy1
  refine T.bind (T.val (Aq8 hy oM oM) (Q:=λv=>v=aS l) hq) (λq hq'=>?_)
  subst hq'
  refine T.bind (T.val (by unfold lto; rw[if_pos ⟨hr0,oM⟩]) (Q:=λv=>v=a.cells.take (aS l).toNat) rfl) (λl1 hl1=>?_)
  subst hl1
  refine T.ret λ_=>frv hv hm ?_ (λx hx=>hdm x (by simp[hx])) (λc hc=>.inl (List.mem_of_mem_take hc))
  have hlen:((a.cells.take (aS l).toNat).length:Int)=aS l:=by rw[List.length_take]; omega
  rw[hlen]
  refine⟨by have:=hz.rank; simp at this; omega,λx hx=>hz.pos x (by simp[hx]),rfl,hr0,oM,λhn x hx=>?_⟩
  have:(a.cells.length:Int)≠0:=oM
  exact hz.dim this x (by simp[hx])
theorem AxQ {a:Arr} (hr:a.shape.length<=8):∀(r:List Int) (k:Nat) (out:List aA),a.shape.drop k=r->out.length=k->k<=a.shape.length->(∀c∈out,vP c) ->
  T (oB (a,(k:Int),out)) (λcs=>cs.length=a.shape.length/\∀c∈cs,vP c)
 | [],k,out,h,ho,hk,hc=>by
  rw[oB]
  simp only[cB (cG h),fJ,if_false]
  have:=List.drop_eq_nil_iff.1 h
  exact T.ret ⟨oM,hc⟩
 |d::r,k,out,h,ho,hk,hc=>by
  have hk':=cH h
  rw[oB]
  simp only[dL hk',if_true,bO h,oJ,bJ,bZ h (by unfold Few; omega)]
  refine T.bind (eF (by simp; omega)) (λv hv'=>?_)
  subst hv'
  refine AxQ hr r (k+1) _ (bC h) (by simp[ho]) oM ?_
  intro x hx
  rcases List.mem_append.1 hx with hx|hx
  ·exact hc x hx
  simp only[List.mem_singleton] at hx; subst hx; exact .mk _
theorem BhU (a:Arr):T (tJ a) Any:=by
 unfold tJ
 refine T.ite (λ_=>T.any) (λh=>?_)
 cases hs:a.shape with
 |nil=>rw[hs] at h; simp at h
 |cons d r=>exact T.bind (kC (Q:=Any) trivial) (λ_ _=>T.any)
theorem AzY {op:Int} {a:Arr} {m:Nat} (hm:Cw m a.cells) (hw:wA a<=m):T (zS op a) (Res m):=by
 unfold zS
 refine T.bind (T.val (rK a) (Q:=λv=>v=AfZ a 0) rfl) (λe he=>?_)
 subst he
 refine T.ite (λhe=>T.ret (Res.err (gA he))) (λhe=>?_)
 have hv:Val 0 a:=eD he
 have hz:=hv.i.sized
 have hle:=hz.hi
 have hrk:=hz.rank
 refine T.bind (T.val (tQ a 0 hv) (Q:=λv=>v=a) rfl) (λx hx=>?_)
 subst hx
 refine T.ite (λ_=>T.bind (BjH hv) (λr hr=>T.ret hr)) (λ_=>?_)
 refine T.ite (λ_=>?_) (λ_=>?_)
 ·refine T.bind (AxQ hrk x.shape 0 [] rfl rfl oM sM) (λcs hcs=>?_)
  exact T.ret λ_=>Av9 (by rw[hcs.1]; exact AeF oM oM) (by simp; omega) hcs.2
 refine T.ite (λ_=>?_) (λ_=>?_)
 ·refine T.bind (BhU x) (λv _=>?_)
  unfold Af8
  exact T.bind (T.ret (Q:=λv=>∃n,v=Arr.mk [] [aA.mk 0 n []]) ⟨_,rfl⟩) (λw hw'=>by
   obtain⟨n,rfl⟩:=hw'
   exact T.ret λ_=>Av9 AtM sM (by intro c hc; simp only[List.mem_singleton] at hc; subst hc; exact .mk _))
 refine T.ite (λ_=>?_) (λ_=>?_)
 ·exact T.ret λ_=>frv hv hm (AeF oM hle) (by simp; omega) λc hc=>.inl hc
 refine T.ite (λ_=>?_) (λ_=>?_)
 ·refine T.bind (Az0 (k:=0) hv hm ?_) (λr hr=>T.ret λ_=>hr)
  cases hs:x.shape with
  |nil=>exact .inr rfl
  |cons d r=>exact .inl sM
 refine T.ite (λ_=>?_) (λ_=>?_)
 ·rcases Nat.eq_zero_or_pos x.shape.length with h0|h0
  ·unfold mE
   refine T.bind (T.ite (λ_=>T.ret (Q:=λr=>Val 0 r/\Cw m r.cells) ⟨hv,hm⟩) (λh=>?_)) (λr hr=>T.ret λ_=>hr)
   simp[h0] at h
  ·rw[show w64 ((x.shape.length:Int)-1)=((x.shape.length-1:Nat):Int) from by rw[aE oM oM]; omega]
   exact T.bind (Az0 (k:=x.shape.length-1) hv hm (.inl oM)) (λr hr=>T.ret λ_=>hr)
 refine T.ite (λ_=>T.bind (BcS hv hm) (λr hr=>T.ret λ_=>hr)) (λ_=>?_)
 refine T.ite (λ_=>?_) (λ_=>?_)
 ·refine T.bind (T.val (BiY x 0 oM oM hv) (Q:=λv=>v=(dA x:Int)) rfl) (λv hv'=>?_)
  subst hv'
  refine T.ite (λ_=>T.ret (Res.err oM)) (λh=>?_)
  have hd:dA x<8:=Int.ofNat_lt.1 (by simpa using h)
  have h1:=BeH x 0 oM hv oM
  refine T.ret λ_=>⟨AmV AtM sM ?_,?_⟩
  ·intro c hc
   simp only[List.mem_singleton] at hc
   subst hc
   simp only[AdU,List.length_singleton,and_self,if_true]
   rw[if_neg oM]
   exact h1
  intro c hc
  rw[List.mem_singleton.1 hc]
  simp only[wC,wB]; omega
 refine T.ite (λ_=>T.bind (BjQ hv hm) (λr hr=>T.ret hr)) (λ_=>?_)
 refine T.ite (λ_=>T.bind (Bh3 hv hm) (λr hr=>T.ret hr)) (λ_=>?_)
 refine T.ite (λ_=>?_) (λ_=>T.ret (Res.err oM))
 refine T.ite (λ_=>T.ret (Res.err oM)) (λh=>?_)
 have h7:x.shape.length<8:=by simp at h; omega
 refine T.bind (eF (by simp; omega)) (λl hl=>?_)
 subst hl
 refine T.ret λ_=>frv hv hm ?_ ?_ λc hc=>.inl hc
 ·refine⟨by simp; omega,?_,by simp only[List.singleton_append,aS,Int.one_mul]; exact hz.prod,hz.lo,hz.hi,?_⟩
  ·intro d hd
   rcases List.mem_cons.1 hd with rfl|hd
   ·omega
   exact hz.pos d hd
  ·intro hn d hd
   rcases List.mem_cons.1 hd with rfl|hd
   ·omega
   exact hz.dim hn d hd
 intro d hd
 rcases List.mem_cons.1 hd with rfl|hd
 ·omega
 exact hv.i.dims d hd
theorem AvU {l:List Int} (hf:Few l):∀(r:List Int) (k:Nat) (n:Int),l.drop k=r->(∀x∈l.take k,x<=n)->T (gZ (l,n,(k:Int))) (λm=>∀x∈l,x<=m)
 | [],k,n,h,hn=>by
  rw[gZ]
  simp only[cB (cG h),fJ,if_false]
  have:=List.drop_eq_nil_iff.1 h
  rw[List.take_of_length_le this] at hn
  exact T.ret hn
 |d::r,k,n,h,hn=>by
  have hk:=cH h
  rw[gZ]
  simp only[dL hk,if_true,bO h,oJ,bJ,bZ h hf]
  refine AvU hf r (k+1) _ (bC h) ?_
  intro x hx
  rw[List.take_add_one,List.mem_append] at hx
  have hd:l[k]?=some d:=by
   rw[List.drop_eq_getElem_cons oM] at h
   obtain⟨h,_⟩:=List.cons.inj h
   rw[←h]; simp[show k<l.length by omega]
  rcases hx with hx|hx
  ·have:=hn x hx
   split<;>omega
  rw[hd] at hx
  simp only[Option.toList_some,List.mem_singleton] at hx
  subst hx
  split<;>omega
theorem Bk2 {l:List Int} (hf:Few l) (h:0<l.length):T (qL l) (λm=>∀x∈l,x<=m):=by
 unfold qL
 rw[if_neg (by simp; omega)]
 cases hl:l with
 |nil=>rw[hl] at h; simp at h
 |cons d r=>
  refine T.bind (kC (Q:=λv=>v=d) rfl) (λy hy=>?_)
  subst hy
  rw[hl] at hf
  exact T.bind (AvU hf r 1 y rfl sM) (λm hm=>T.ret hm)
theorem Ao4 {s:Arr} (hl:s.cells.length<=16384):∀(r:List aA) (k:Nat) (out:List Int),s.cells.drop k=r->out.length=k->k<=s.cells.length ->
  T (iR (s,out,(k:Int))) (λr=>match r with|.error r=>r.2≠0|.ok l=>l.length=s.cells.length)
 | [],k,out,h,ho,hk=>by
  rw[iR]
  simp only[cB (cG h),fJ,if_false]
  have:=List.drop_eq_nil_iff.1 h
  exact T.ret (by simp only; omega)
 |c::r,k,out,h,ho,hk=>by
  have hk':=cH h
  rw[iR]
  simp only[dL hk',if_true,bO h,oJ,bJ,bZ h (by unfold Few; omega)]
  refine T.ite (λ_=>T.ret sM) (λ_=>T.ite (λ_=>T.ret sM) (λ_=>?_))
  refine T.bind (eF (by simp; omega)) (λv hv'=>?_)
  subst hv'
  exact Ao4 hl r (k+1) _ (bC h) (by simp[ho]) oM
theorem Bg4 {s:Arr} (hv:Val 0 s):T (rT s) (λr=>r.2=0->∀x∈r.1,x<=16384):=by
 unfold rT
 have hle:=hv.i.sized.hi
 refine T.ite (λ_=>T.ret (λh=>by simp at h)) (λ_=>?_)
 refine T.bind (T.val (by unfold mkcap; rw[if_pos oM]) (Q:=Any) trivial) (λ_ _=>?_)
 refine T.bind (Ao4 oM s.cells 0 [] rfl rfl oM) (λv hv'=>?_)
 match v,hv' with
 |.error r,h=>exact T.ret (λh'=>absurd h' h)
 |.ok l,h=>
  have h:l.length=s.cells.length:=h
  refine T.ite (λ_=>T.ret (λh=>by simp at h)) (λh8=>?_)
  have h8:l.length<=8:=by simp at h8; omega
  refine T.bind (eF (by simp; omega)) (λl1 hl1=>?_)
  subst hl1
  refine T.bind (Bk2 (by unfold Few; simp; omega) sM) (λm hm=>?_)
  refine T.ite (λ_=>T.ret (λh=>by simp at h)) (λh'=>?_)
  have h':m<=16384:=by simpa using h'
  exact T.ret λ_ x hx=>by have:=hm x (by simp[hx]); omega
theorem BhW {x n:Int} (hx:0<=x) (hn:0<n):0<=x.tmod n/\x.tmod n<n:=⟨Int.tmod_nonneg _ hx,Int.tmod_lt_of_pos _ hn⟩
theorem AkD {s a:Arr} {sh:List Int} {n:Int} (hn:n<=16384) (hne:a.cells.length≠0):∀(d:Nat) (x:Int) (out:List aA),0<=x->x+d=n->(out.length:Int)=x->(∀c∈out,c∈a.cells) ->
  T (gW (s,a,sh,n,x,out)) (λr=>(r.length:Int)=n/\∀c∈r,c∈a.cells)
 |0,x,out,h0,hd,hl,hc=>by
  rw[gW]
  exact T.ite (λh'=>by simp at h'; omega) (λ_=>T.ret ⟨oM,hc⟩)
 |d+1,x,out,h0,hd,hl,hc=>by
  rw[gW]
  refine T.ite (λ_=>?_) (λh'=>by simp at h'; omega)
  have hm:=BhW (n:=(a.cells.length:Int)) h0 oM
  refine T.bind (T.val (by unfold irem; rw[if_neg oM]) (Q:=λv=>v=x.tmod a.cells.length) rfl) (λq hq=>?_)
  subst hq
  refine T.bind (T.lget hm.1 hm.2 (Q:=λv=>v∈a.cells) λv h=>List.mem_of_getElem? h) (λc hcm=>?_)
  refine T.bind (eF (by simp; omega)) (λv hv'=>?_)
  subst hv'
  rw[Af2 h0 oM]
  refine AkD hn hne d (x+1) _ oM oM (by simp; omega) ?_
  intro y hy
  rcases List.mem_append.1 hy with hy|hy
  ·exact hc y hy
  simp only[List.mem_singleton] at hy; subst hy; exact hcm
theorem Bc2 {s a:Arr} {m:Nat} (hm:Cw m a.cells):T (qG s a) (Res m):=by
 unfold qG
 refine T.bind (R:=λv=>match v with|.error r=>r.2≠0|.ok _=>Val 0 s/\Val 0 a) ?_ (λv hv=>?_)
 ·rw[gV]
  rw[if_pos sM]
  refine T.bind (T.val (v:=s) rfl (Q:=λv=>v=s) rfl) (λy hy=>?_)
  subst hy
  refine T.bind (T.val (rK y) (Q:=λv=>v=AfZ y 0) rfl) (λe he=>?_)
  subst he
  refine T.ite (λhe=>T.ret (gA he)) (λhe1=>?_)
  rw[show w64 ((0:Int)+1)=1 from by rw[aE oM oM]; rfl]
  rw[gV]
  rw[if_pos sM]
  refine T.bind (T.val (v:=a) rfl (Q:=λv=>v=a) rfl) (λz hz=>?_)
  subst hz
  refine T.bind (T.val (rK z) (Q:=λv=>v=AfZ z 0) rfl) (λe he=>?_)
  subst he
  refine T.ite (λhe=>T.ret (gA he)) (λhe2=>?_)
  rw[show w64 ((1:Int)+1)=2 from by rw[aE oM oM]; rfl]
  rw[gV]
  rw[if_neg sM]
  exact T.ret ⟨eD he1,eD he2⟩
 match v,hv with
 |.error r,h=>exact T.ret λh'=>absurd h' h
 |.ok _,⟨hs,ha⟩=>
  refine T.bind (Bg4 hs) (λw hw=>?_)
  obtain⟨sh,e⟩:=w
  refine T.ite (λhe=>T.ret (Res.err (gA he))) (λhe=>?_)
  have hdm:=hw (eD he)
  refine T.bind (T.val (AaJ sh) (Q:=λv=>v=lZ sh) rfl) (λz hz=>?_)
  obtain⟨n,e2⟩:=z
  refine T.ite (λh=>T.ret (Res.err (gA h))) (λh=>?_)
  have hS:nE sh n:=by
   have h':e2=0:=eD h
   have:=vG (s:=sh) (by rw[←hz]; exact h')
   rw[←hz] at this; exact this
  have fin:∀cs:List aA,(cs.length:Int)=n->(∀c∈cs,c∈a.cells)->Val 0 (Arr.mk sh cs)/\Cw m (Arr.mk sh cs).cells:=λcs h1 h2=>frv ha hm (by rw[h1]; exact hS) hdm λc hc=>.inl (h2 c hc)
  have l0:=hS.lo
  refine T.ite (λhn=>?_) (λhn=>?_)
  ·refine T.ite (λ_=>T.ret (Res.err oM)) (λhne=>?_)
   refine T.bind (AkD hS.hi (by
     have:(a.cells.length:Int)≠0:=by simpa using hne
     omega) n.toNat 0 [] oM oM sM sM) (λr hr=>?_)
   have hf:=fin r hr.1 hr.2
   exact T.bind (T.val (tQ _ 0 hf.1) (Q:=λv=>v=Arr.mk sh r) rfl) (λv hv'=>by subst hv'; exact T.ret λ_=>hf)
  have hn:n=0:=by
   have:n<=0:=by simpa using hn
   omega
  rw[mQ]
  rw[if_neg (by simp[hn])]
  refine T.bind (T.ret (Q:=λv=>v=[]) rfl) (λr hr=>?_)
  subst hr
  have hf:=fin [] (by simp[hn]) sM
  exact T.bind (T.val (tQ _ 0 hf.1) (Q:=λv=>v=Arr.mk sh []) rfl) (λv hv'=>by subst hv'; exact T.ret λ_=>hf)
theorem Af6 {a b:Int}:T (fM a b) (λo=>o=0->a=b):=by
 unfold fM
 refine T.ite (λ_=>T.ret oM) (λh1=>T.ite (λ_=>T.ret oM) (λh2=>T.ret λ_=>?_))
 have h1:b<=a:=by simpa using h1
 have h2:a<=b:=by simpa using h2
 omega
theorem Bd8 {a b:Int}:T (pL a b) Any:=by
 unfold pL
 exact T.ite (λ_=>T.any) (λ_=>T.ite (λ_=>T.any) (λ_=>T.any))
theorem As7 {c e:aA} (h:∀x∈c.box,∀y,T (yT (x,y)) Any):T (nT (c,e)) Any:=by
 rw[nT]
 refine T.bind Af6 (λo _=>?_)
 refine T.ite (λ_=>T.any) (λ_=>?_)
 refine T.bind Bd8 (λo1 _=>?_)
 refine T.ite (λ_=>T.ite (λ_=>T.bind Af6 λ_ _=>T.any) (λ_=>T.any)) (λ_=>?_)
 refine T.ite (λ_=>T.ite (λ_=>T.bind Af6 λ_ _=>T.any) (λ_=>T.any)) (λh1=>?_)
 refine T.ite (λ_=>T.ite (λ_=>T.bind Af6 λ_ _=>T.any) (λ_=>T.any)) (λh2=>?_)
 cases hx:c.box with
 |nil=>rw[hx] at h1; simp at h1
 |cons x r=>
  cases hy:e.box with
  |nil=>rw[hy] at h2; simp at h2
  |cons y s=>
   refine T.bind (kC (Q:=λv=>v=x) rfl) (λv hv=>?_)
   refine T.bind (kC (Q:=λv=>v=y) rfl) (λw hw=>?_)
   subst hv
   exact T.bind (h v (by rw[hx]; simp) w) (λ_ _=>T.any)
theorem ArQ {a b:Arr} (hr:a.shape.length<=8) (hb:b.shape.length=a.shape.length):∀(d:Nat) (k:Nat),k+d=a.shape.length->T (dU ((a.shape.length:Int),a,b,(k:Int))) Any
 |0,k,h=>by
  rw[dU]
  exact T.ite (λh'=>by simp at h'; omega) (λ_=>T.any)
 |d+1,k,h=>by
  rw[dU]
  refine T.ite (λ_=>?_) (λ_=>T.any)
  refine T.bind (R:=Any) ?_ (λo _=>T.ite (λ_=>T.any) (λ_=>?_))
  ·unfold Ad2
   refine T.bind (T.lget (Q:=Any) oM oM λ_ _=>trivial) (λ_ _=>?_)
   refine T.bind (T.lget (Q:=Any) oM oM λ_ _=>trivial) (λ_ _=>?_)
   exact T.bind Af6 (λ_ _=>T.any)
  rw[aE oM oM]
  exact ArQ hr hb d (k+1) oM
theorem ArR {a b:Arr} {n:Nat} (hn:n<=a.cells.length) (hn2:n<=b.cells.length) (hl:a.cells.length<=16384) (hc:∀c∈a.cells,∀e,T (nT (c,e)) Any):∀(d:Nat) (k:Nat),k+d=n->T (dV ((n:Int),a,b,(k:Int))) Any
 |0,k,h=>by
  rw[dV]
  exact T.ite (λh'=>by simp at h'; omega) (λ_=>T.any)
 |d+1,k,h=>by
  rw[dV]
  refine T.ite (λ_=>?_) (λ_=>T.any)
  refine T.bind (R:=Any) ?_ (λo _=>T.ite (λ_=>T.any) (λ_=>?_))
  ·rw[Ad3]
   refine T.bind (T.lget (Q:=λv=>v∈a.cells) oM oM λ_ h=>List.mem_of_getElem? h) (λv hv=>?_)
   refine T.bind (T.lget (Q:=Any) oM oM λ_ _=>trivial) (λw _=>?_)
   exact T.bind (hc v hv w) (λ_ _=>T.any)
  rw[aE oM oM]
  exact ArR hn hn2 hl hc d (k+1) oM
theorem BjZ (a:Arr):∀d,Val d a->∀b,T (yT (a,b)) Any:=by
 refine Arr.ind (P:=λa=>∀d,Val d a->∀b,T (yT (a,b)) Any) ?_ a
 intro sh cs ih d hv b
 have hz:=hv.i.sized
 have hr:=hz.rank
 have hl:(Arr.mk sh cs).cells.length<=16384:=by have:=hz.hi; omega
 have hc:∀c∈cs,∀e,T (nT (c,e)) Any:=λc hm e=>As7 λx hx=>by
  rcases sS (hv.i.cells c hm) with ⟨_,_,_,z,hb,hvz⟩|⟨hb,_⟩
  ·rw[hb,List.mem_singleton] at hx
   subst hx
   exact ih c hm x (by rw[hb]; simp) _ hvz
  rw[hb] at hx; simp at hx
 rw[yT]
 refine T.bind Af6 (λo ho=>T.ite (λ_=>T.any) (λh=>?_))
 have hs:=ho (eD h)
 refine T.bind (R:=Any) ?_ (λo1 _=>T.ite (λ_=>T.any) (λ_=>?_))
 ·unfold mY
  refine T.bind (ArQ hr oM (Arr.mk sh cs).shape.length 0 oM) (λv _=>?_)
  match v with
  |.error _=>exact T.any
  |.ok _=>exact T.any
 refine T.bind (R:=Any) ?_ (λo1 _=>T.ite (λ_=>T.any) (λ_=>T.bind Af6 λ_ _=>T.any))
 rw[mZ]
 rw[show (if (b.cells.length:Int)<((Arr.mk sh cs).cells.length:Int) then (b.cells.length:Int) else ((Arr.mk sh cs).cells.length:Int))=((min b.cells.length (Arr.mk sh cs).cells.length:Nat):Int) from by split<;>omega]
 refine T.bind (ArR oM oM hl hc (min b.cells.length (Arr.mk sh cs).cells.length) 0 oM) (λv _=>?_)
 match v with
 |.error _=>exact T.any
 |.ok _=>exact T.any
def Bk0 (c:aA):Prop:=∀e,T (nT (c,e)) Any
theorem BkB {d:Int} {c:aA} (h:AdU c d=0):Bk0 c:=λe=>As7 λx hx=>by
 rcases sS h with ⟨_,_,_,z,hb,hvz⟩|⟨hb,_⟩
 ·rw[hb,List.mem_singleton] at hx
  subst hx
  exact BjZ x _ hvz
 rw[hb] at hx; simp at hx
structure Ao6 (r:List aA):Prop where
 len:r.length<=16384
 all:∀c∈r,Bk0 c
theorem AdS {s t:List aA} (hs:Ao6 s):∀(d:Nat) (k:Nat),k+d=s.length->T (bX (s,t,(k:Int))) Any
 |0,k,h=>by
  rw[bX]
  exact T.ite (λh'=>by simp at h'; omega) (λ_=>T.any)
 |d+1,k,h=>by
  have:=hs.len
  rw[bX]
  refine T.ite (λ_=>?_) (λ_=>T.any)
  refine T.bind (T.lget (Q:=λv=>v∈s) oM oM λ_ h=>List.mem_of_getElem? h) (λv hv=>?_)
  refine T.ite (λ_=>T.any) (λh2=>?_)
  have h2:(k:Int)<t.length:=by simpa using h2
  refine T.bind (T.lget (Q:=Any) oM oM λ_ _=>trivial) (λw _=>?_)
  refine T.bind (hs.all v hv w) (λo _=>T.ite (λ_=>T.any) (λ_=>?_))
  rw[aE oM oM]
  exact AdS hs d (k+1) oM
theorem AiM {s t:List aA} (hs:Ao6 s):T (cN s t) Any:=by
 unfold cN
 refine T.bind (AdS hs s.length 0 oM) (λv _=>?_)
 match v with
 |.error _=>exact T.any
 |.ok _=>exact T.ite (λ_=>T.any) (λ_=>T.any)
theorem Al8 {i k:Int} {rows:List (List aA)} {down:Bool} (hr:∀r∈rows,Ao6 r) (h0:0<=i) (h1:i<rows.length) (h2:0<=k) (h3:k<rows.length):T (lR i k rows down) Any:=by
 unfold lR
 refine T.bind (T.lget (Q:=λv=>v∈rows) h0 h1 λ_ h=>List.mem_of_getElem? h) (λv hv=>?_)
 refine T.bind (T.lget (Q:=Any) h2 h3 λ_ _=>trivial) (λw _=>?_)
 exact T.bind (AiM (hr v hv)) (λ_ _=>T.ite (λ_=>T.any) (λ_=>T.any))
structure Dt (n R:Nat) (l:List Int):Prop where
 len:l.length=n
 all:∀v∈l,0<=v/\v<R
section
variable {n R:Nat} {l:List Int}
theorem pX {x:Int} (h0:0<=x) (h1:x<n):T (jO x n) (λj=>(j:Int)=x/\j<n):=⟨_,vH h0 oM,oM,oM⟩
theorem Dt.get (h:Dt n R l) {j:Nat} (hj:j<n):T (nM l j) (λv=>0<=v/\v<R):=by
 have hj':j<l.length:=by rw[h.len]; exact hj
 exact⟨l[j],by unfold nM; simp[hj'],h.all _ (List.getElem_mem hj')⟩
theorem Dt.set (h:Dt n R l) {j:Nat} (hj:j<n) {v:Int} (hv:0<=v/\v<R):T (oL l j v) (Dt n R):=by
 refine⟨l.set j v,by unfold oL; rw[if_pos (by rw[h.len]; exact hj)],by simp[h.len],?_⟩
 intro w hw
 rcases List.mem_or_eq_of_mem_set hw with hw|rfl
 ·exact h.all w hw
 exact hv
end
theorem AlA {x:Int} (h0:0<=x) (h1:x<4611686018427387904):w64 (Int.fdiv (IntKind.u64.wrap (w64 x)) (2 ^ 1))=x / 2:=by
 rw[aE (x:=x) oM oM]
 have:IntKind.u64.wrap x=x:=by unfold IntKind.wrap; simp[IntKind.bits,IntKind.signed]; omega
 rw[this,Int.fdiv_eq_ediv_of_nonneg _ oM]
 exact aE oM oM
section
variable {n:Nat} {rows:List (List aA)} {down:Bool} (hn:n<=16384) (hr:∀r∈rows,Ao6 r)
include hn hr
theorem AxK {a b i:Int} (ha:0<=a):∀(d:Nat) (j:Int) (l:List Int),j-a=d->j<n->Dt n rows.length l->T (aX (n,a,b,rows,down,i,j,l)) (Dt n rows.length)
 |0,j,l,h,hj,hl=>by
  rw[aX]
  exact T.ite (λh'=>by simp at h'; omega) (λ_=>T.ret hl)
 |d+1,j,l,h,hj,hl=>by
  rw[aX]
  rw[aE (x:=j-1) oM oM]
  refine T.ite (λ_=>?_) (λ_=>T.ret hl)
  refine T.bind (pX oM hj) (λj1 h1=>T.bind (hl.get h1.2) (λy hy=>?_))
  refine T.bind (pX oM oM) (λj2 h2=>T.bind (hl.get h2.2) (λy1 hy1=>?_))
  refine T.bind (Al8 hr hy.1 hy.2 hy1.1 hy1.2) (λx _=>T.ite (λ_=>?_) (λ_=>T.ret hl))
  refine T.bind (pX oM oM) (λj3 h3=>T.bind (hl.get h3.2) (λy2 hy2=>?_))
  refine T.bind (pX oM hj) (λj4 h4=>T.bind (hl.get h4.2) (λy3 hy3=>?_))
  refine T.bind (pX oM hj) (λj5 h5=>T.bind (hl.set h5.2 hy2) (λl3 hl3=>?_))
  refine T.bind (pX oM oM) (λj6 h6=>T.bind (hl3.set h6.2 hy3) (λl4 hl4=>?_))
  exact AxK ha d (j-1) l4 oM oM hl4
theorem AxJ {a b:Int} (ha:0<=a) (hb:b<=n):∀(d:Nat) (i:Int) (l:List Int),a<=i->i+d=max b i->Dt n rows.length l->T (aW (n,a,b,rows,down,i,l)) (Dt n rows.length)
 |0,i,l,h0,h,hl=>by
  rw[aW]
  exact T.ite (λh'=>by simp at h'; omega) (λ_=>T.ret hl)
 |d+1,i,l,h0,h,hl=>by
  rw[aW]
  refine T.ite (λ_=>?_) (λ_=>T.ret hl)
  refine T.bind (AxK hn hr ha (i-a).toNat i l oM oM hl) (λl2 hl2=>?_)
  rw[aE (x:=i+1) oM oM]
  exact AxJ ha hb d (i+1) l2 oM oM hl2
theorem BiE {a b:Int} {l:List Int} (ha:0<=a) (han:a<=n) (hb:b<=n) (hl:Dt n rows.length l):T (bP n a b l rows down) (Dt n rows.length):=by
 unfold bP
 rw[aE (x:=a+1) oM oM]
 exact T.bind (AxJ hn hr ha hb (max b (a+1)-(a+1)).toNat (a+1) l oM oM hl) (λv hv=>T.ret hv)
omit hr in
theorem AtP {a b m:Int} (ha:0<=a) (hb:0<=b) (ha2:a+m<=n) (hb2:b+m<=n):∀(d:Nat) (i:Int) (l:List Int),0<=i->i+d=max m i->Dt n rows.length l->T (bB (n,a,b,m,rows,down,i,l)) (Dt n rows.length)
 |0,i,l,h0,h,hl=>by
  rw[bB]
  exact T.ite (λh'=>by simp at h'; omega) (λ_=>T.ret hl)
 |d+1,i,l,h0,h,hl=>by
  rw[bB]
  refine T.ite (λ_=>?_) (λ_=>T.ret hl)
  rw[aE (x:=b+i) oM oM,aE (x:=a+i) oM oM,aE (x:=i+1) oM oM]
  refine T.bind (pX oM oM) (λj1 h1=>T.bind (hl.get h1.2) (λy hy=>?_))
  refine T.bind (pX oM oM) (λj2 h2=>T.bind (hl.get h2.2) (λy1 hy1=>?_))
  refine T.bind (pX oM oM) (λj5 h5=>T.bind (hl.set h5.2 hy) (λl3 hl3=>?_))
  refine T.bind (pX oM oM) (λj6 h6=>T.bind (hl3.set h6.2 hy1) (λl4 hl4=>?_))
  exact AtP ha hb ha2 hb2 d (i+1) l4 oM oM hl4
omit hr in
theorem BaG {a b m:Int} {l:List Int} (ha:0<=a) (hb:0<=b) (ha2:a+m<=n) (hb2:b+m<=n) (hl:Dt n rows.length l):T (bL n a b m l rows down) (Dt n rows.length):=by
 unfold bL
 exact T.bind (AtP hn ha hb ha2 hb2 (max m 0).toNat 0 l oM oM hl) (λv hv=>T.ret hv)
omit hr in
theorem AqR {m:Int}:∀(d:Nat) (i j:Int) (l:List Int),i+j<=d->1<=i->1<=j->i<=m->m+j<=n->Dt n rows.length l ->
  T (bG (n,m,rows,down,i,l,j)) (λr=>1<=r.1/\r.1<=m/\m+r.1<=n/\Dt n rows.length r.2)
 |0,i,j,l,h,h1,h2,h3,h4,hl=>by omega
 |d+1,i,j,l,h,h1,h2,h3,h4,hl=>by
  rw[bG]
  rw[aE (x:=m-i) oM oM,aE (x:=m+j) oM oM,aE (x:=m+j-i) oM oM,aE (x:=i-j) oM oM,aE (x:=j-i) oM oM]
  refine T.ite (λhne=>?_) (λhe=>?_)
  ·have hne:i≠j:=gA hne
   refine T.ite (λhgt=>?_) (λhgt=>?_)
   ·have hgt:i>j:=by simpa using hgt
    refine T.bind (BaG hn oM oM oM oM hl) (λl2 hl2=>?_)
    exact AqR d (i-j) j l2 oM oM h2 oM h4 hl2
   have hgt:i<=j:=by simpa using hgt
   refine T.bind (BaG hn oM oM oM oM hl) (λl2 hl2=>?_)
   exact AqR d i (j-i) l2 oM h1 oM h3 oM hl2
  have he:i=j:=eD he
  exact T.ret ⟨h1,h3,by simp only; omega,hl⟩
omit hr in
theorem BkP {a m b:Int} {l:List Int} (ha:0<=a) (h1:a<m) (h2:m<b) (hb:b<=n) (hl:Dt n rows.length l):T (cP n a m b l rows down) (Dt n rows.length):=by
 unfold cP
 rw[aE (x:=m-a) oM oM,aE (x:=b-m) oM oM]
 refine T.bind (AqR hn (m-a+(b-m)).toNat (m-a) (b-m) l oM oM oM oM oM hl) (λr hr=>?_)
 obtain⟨i,l2⟩:=r
 obtain⟨g1,g2,g3,g4⟩:=hr
 simp only at g1 g2 g3 g4 ⊢
 rw[aE (x:=m-i) oM oM]
 exact T.bind (BaG hn oM oM oM oM g4) (λv hv=>T.ret hv)
theorem AvG {a:Int} {l:List Int} (ha:0<=a) (han:a<n) (hl:Dt n rows.length l):∀(d:Nat) (i j:Int),j-i<=d->0<=i->i<=j->j<=n ->
  T (aM (n,a,l,rows,down,i,j)) (λr=>i<=r/\r<=j)
 |0,i,j,h,h0,h1,h2=>by
  rw[aM]
  exact T.ite (λh'=>by simp at h'; omega) (λ_=>T.ret ⟨oM,oM⟩)
 |d+1,i,j,h,h0,h1,h2=>by
  rw[aM]
  refine T.ite (λh'=>?_) (λ_=>T.ret ⟨oM,oM⟩)
  have h':i<j:=by simpa using h'
  rw[AlA (x:=i+j) oM oM,aE (x:=(i+j) / 2+1) oM oM]
  refine T.bind (pX oM oM) (λj1 h1=>T.bind (hl.get h1.2) (λy hy=>?_))
  refine T.bind (pX oM oM) (λj2 h2=>T.bind (hl.get h2.2) (λy1 hy1=>?_))
  refine T.bind (Al8 hr hy.1 hy.2 hy1.1 hy1.2) (λx _=>T.ite (λ_=>?_) (λ_=>?_))
  ·exact T.imp (AvG ha han hl d _ _ oM oM oM oM) (λr hr=>⟨oM,oM⟩)
  exact T.imp (AvG ha han hl d _ _ oM oM oM oM) (λr hr=>⟨oM,oM⟩)
theorem AvH {m:Int} {l:List Int} (ha:0<=m) (han:m<n) (hl:Dt n rows.length l):∀(d:Nat) (i j:Int),j-i<=d->0<=i->i<=j->j<=n ->
  T (aN (n,m,l,rows,down,i,j)) (λr=>i<=r/\r<=j)
 |0,i,j,h,h0,h1,h2=>by
  rw[aN]
  exact T.ite (λh'=>by simp at h'; omega) (λ_=>T.ret ⟨oM,oM⟩)
 |d+1,i,j,h,h0,h1,h2=>by
  rw[aN]
  refine T.ite (λh'=>?_) (λ_=>T.ret ⟨oM,oM⟩)
  have h':i<j:=by simpa using h'
  rw[AlA (x:=i+j) oM oM,aE (x:=(i+j) / 2+1) oM oM]
  refine T.bind (pX oM oM) (λj1 h1=>T.bind (hl.get h1.2) (λy hy=>?_))
  refine T.bind (pX oM oM) (λj2 h2=>T.bind (hl.get h2.2) (λy1 hy1=>?_))
  refine T.bind (Al8 hr hy.1 hy.2 hy1.1 hy1.2) (λx _=>T.ite (λ_=>?_) (λ_=>?_))
  ·exact T.imp (AvH ha han hl d _ _ oM oM oM oM) (λr hr=>⟨oM,oM⟩)
  exact T.imp (AvH ha han hl d _ _ oM oM oM oM) (λr hr=>⟨oM,oM⟩)
theorem AvI {a m b s0 r0:Int} {l:List Int} (ha:0<=a) (hm:0<=m) (hmn:m<=n) (hb:0<=b) (hbn:b<=n) (han:a<=n) (hl:Dt n rows.length l) (h00:0<=s0) (hr0:r0<=n) (hlo:r0<=(a+b) / 2+m) (hhi:(a+b) / 2+m-s0<=n):∀(d:Nat) (i j:Int),j-i<=d->s0<=i->i<=j->j<=r0 ->
  T (aO (n,a,m,b,l,rows,down,i,j)) (λr=>i<=r/\r<=j)
 |0,i,j,h,h0,h1,h2=>by
  rw[aO]
  exact T.ite (λh'=>by simp at h'; omega) (λ_=>T.ret ⟨oM,oM⟩)
 |d+1,i,j,h,h0,h1,h2=>by
  rw[aO]
  refine T.ite (λh'=>?_) (λ_=>T.ret ⟨oM,oM⟩)
  have h':i<j:=by simpa using h'
  rw[AlA (x:=i+j) oM oM,AlA (x:=a+b) oM oM,aE (x:=(i+j) / 2+1) oM oM,aE (x:=(a+b) / 2+m) oM oM,aE (x:=(a+b) / 2+m-1) oM oM,aE (x:=(a+b) / 2+m-1-(i+j) / 2) oM oM]
  refine T.bind (pX oM oM) (λj1 h1=>T.bind (hl.get h1.2) (λy hy=>?_))
  refine T.bind (pX oM oM) (λj2 h2=>T.bind (hl.get h2.2) (λy1 hy1=>?_))
  refine T.bind (Al8 hr hy.1 hy.2 hy1.1 hy1.2) (λx _=>T.ite (λ_=>?_) (λ_=>?_))
  ·exact T.imp (AvI ha hm hmn hb hbn han hl h00 hr0 hlo hhi d _ _ oM oM oM oM) (λr hr=>⟨oM,oM⟩)
  exact T.imp (AvI ha hm hmn hb hbn han hl h00 hr0 hlo hhi d _ _ oM oM oM oM) (λr hr=>⟨oM,oM⟩)
omit hr in
theorem BbS {i:Int} (hi0:0<=i) (hi:i<=n):∀(d:Nat) (k:Int) (l:List Int),0<=k->k+d=max (i-1) k->k<=n->Dt n rows.length l->T (aT (n,rows,down,i,k,l)) (Dt n rows.length)
 |0,k,l,h0,h,hk,hl=>by
  rw[aT]
  refine T.ite (λh'=>?_) (λ_=>T.ret hl)
  rw[aE (x:=i-1) oM oM] at h'; simp at h'; omega
 |d+1,k,l,h0,h,hk,hl=>by
  rw[aT]
  refine T.ite (λ_=>?_) (λ_=>T.ret hl)
  rw[aE (x:=k+1) oM oM]
  refine T.bind (pX oM oM) (λj1 h1=>T.bind (hl.get h1.2) (λy hy=>?_))
  refine T.bind (pX oM oM) (λj2 h2=>T.bind (hl.get h2.2) (λy1 hy1=>?_))
  refine T.bind (pX oM oM) (λj5 h5=>T.bind (hl.set h5.2 hy) (λl3 hl3=>?_))
  refine T.bind (pX oM oM) (λj6 h6=>T.bind (hl3.set h6.2 hy1) (λl4 hl4=>?_))
  exact BbS hi0 hi d (k+1) l4 oM oM oM hl4
omit hr in
theorem BbT {i:Int} (hi:0<=i):∀(d:Nat) (k:Int) (l:List Int),i+d=k->k<n->Dt n rows.length l->T (aU (n,rows,down,i,k,l)) (Dt n rows.length)
 |0,k,l,h,hk,hl=>by
  rw[aU]
  exact T.ite (λh'=>by simp at h'; omega) (λ_=>T.ret hl)
 |d+1,k,l,h,hk,hl=>by
  rw[aU]
  refine T.ite (λ_=>?_) (λ_=>T.ret hl)
  rw[aE (x:=k-1) oM oM]
  refine T.bind (pX oM oM) (λj1 h1=>T.bind (hl.get h1.2) (λy hy=>?_))
  refine T.bind (pX oM oM) (λj2 h2=>T.bind (hl.get h2.2) (λy1 hy1=>?_))
  refine T.bind (pX oM oM) (λj5 h5=>T.bind (hl.set h5.2 hy) (λl3 hl3=>?_))
  refine T.bind (pX oM oM) (λj6 h6=>T.bind (hl3.set h6.2 hy1) (λl4 hl4=>?_))
  exact BbT hi d (k-1) l4 oM oM hl4
end
end Go.AM.Seat
namespace Go.AM.Seat
open Go Go.AM
section
variable {n:Nat} {rows:List (List aA)} {down:Bool} (hn:n<=16384) (hr:∀r∈rows,Ao6 r)
include hn hr
theorem BjT:∀(d:Nat) (a m b:Int) (l:List Int),b-a<=d->0<=a->a<m->m<b->b<=n->Dt n rows.length l->T (aD (n,a,m,b,l,rows,down)) (Dt n rows.length)
 |0,a,m,b,l,h,ha,h1,h2,hb,hl=>by omega
 |d+1,a,m,b,l,h,ha,h1,h2,hb,hl=>by
  have IH:=BjT d
  rw[aD]
  rw[aE (x:=m-a) oM oM,aE (x:=b-m) oM oM,AlA (x:=a+b) oM oM,aE (x:=(a+b) / 2+m) oM oM,aE (x:=(a+b) / 2+m-b) oM oM]
  refine T.ite (λ_=>?_) (λe1=>?_)
  ·refine T.bind (AvG hn hr ha oM hl (b-m).toNat m b oM oM oM hb) (λi hi=>?_)
   exact T.bind (BbS hn oM oM (max (i-1) a-a).toNat a l ha oM oM hl) (λv hv=>T.ret hv)
  refine T.ite (λ_=>?_) (λe2=>?_)
  ·refine T.bind (AvH hn hr oM oM hl (m-a).toNat a m oM oM oM oM) (λi hi=>?_)
   exact T.bind (BbT hn oM (m-i).toNat m l oM oM hl) (λv hv=>T.ret hv)
  have e1:m-a≠1:=by simpa using e1
  have e2:b-m≠1:=by simpa using e2
  obtain⟨mid,hmid⟩:∃mid,mid=(a+b) / 2:=⟨_,rfl⟩
  rw[←hmid]
  refine T.bind (R:=λr=>(mid<m/\r=(mid+m-b,mid))\/(m<=mid/\r=(a,m))) ?_ (λr hrr=>?_)
  ·exact T.ite (λh'=>T.ret (.inl ⟨by simpa using h',rfl⟩)) (λh'=>T.ret (.inr ⟨by simpa using h',rfl⟩))
  obtain⟨s0,r0⟩:=r
  simp only[pJ] at hrr ⊢
  refine T.bind (AvI hn hr (a:=a) (m:=m) (b:=b) (s0:=s0) (r0:=r0) ha oM oM oM hb oM hl oM oM oM oM (r0-s0).toNat s0 r0 oM oM oM oM) (λst hst=>?_)
  rw[aE (x:=mid+m-st) oM oM]
  have tail:∀l',Dt n rows.length l'->T (if decide (mid<mid+m-st)=true then if decide (mid+m-st<b)=true then aD (n,mid,mid+m-st,b,l',rows,down)>>=λx=>some x else some l' else some l') (Dt n rows.length):=by
   intro l' hl'
   refine T.ite (λg1=>T.ite (λg2=>?_) (λ_=>T.ret hl')) (λ_=>T.ret hl')
   have g1:mid<mid+m-st:=by simpa using g1
   have g2:mid+m-st<b:=by simpa using g2
   exact T.bind (IH mid (mid+m-st) b l' oM oM oM oM hb hl') (λv hv=>T.ret hv)
  have head:∀l',Dt n rows.length l'->a<st->T (if decide (st<mid)=true then aD (n,a,st,mid,l',rows,down)>>=λx=>some x else some l') (Dt n rows.length):=by
   intro l' hl' g1
   refine T.ite (λg2=>?_) (λ_=>T.ret hl')
   have g2:st<mid:=by simpa using g2
   exact T.bind (IH a st mid l' oM oM oM oM oM hl') (λv hv=>T.ret hv)
  have both:∀l',Dt n rows.length l'->T (if decide (a<st)=true then (if decide (st<mid)=true then aD (n,a,st,mid,l',rows,down)>>=λx=>some x else some l')>>=λl2=>if decide (mid<mid+m-st)=true then if decide (mid+m-st<b)=true then aD (n,mid,mid+m-st,b,l2,rows,down)>>=λx=>some x else some l2 else some l2
    else if decide (mid<mid+m-st)=true then if decide (mid+m-st<b)=true then aD (n,mid,mid+m-st,b,l',rows,down)>>=λx=>some x else some l' else some l') (Dt n rows.length):=by
   intro l' hl'
   exact T.ite (λg=>T.bind (head l' hl' (by simpa using g)) (λv hv=>tail v hv)) (λ_=>tail l' hl')
  refine T.ite (λg1=>?_) (λ_=>both l hl)
  have g1:st<m:=by simpa using g1
  refine T.bind (R:=Dt n rows.length) (T.ite (λg2=>?_) (λ_=>T.ret hl)) (λl7 hl7=>both l7 hl7)
  have g2:m<mid+m-st:=by simpa using g2
  exact T.bind (BkP hn oM g1 g2 oM hl) (λv hv=>T.ret hv)
theorem BbU:∀(d:Nat) (a:Int) (l:List Int),(n:Int)-a<=d->0<=a->a<=n->Dt n rows.length l->T (bH (n,(n:Int),rows,down,a,a+20,l)) (λr=>0<=r.1/\r.1<=n/\Dt n rows.length r.2)
 |0,a,l,h,h0,h1,hl=>by
  rw[bH]
  exact T.ite (λh'=>by simp at h'; omega) (λ_=>T.ret ⟨h0,h1,hl⟩)
 |d+1,a,l,h,h0,h1,hl=>by
  rw[bH]
  refine T.ite (λh'=>?_) (λ_=>T.ret ⟨h0,h1,hl⟩)
  have h':a+20<=n:=by simpa using h'
  refine T.bind (BiE hn hr h0 h1 h' hl) (λx hx=>?_)
  rw[aE (x:=a+20+20) oM oM]
  exact BbU d (a+20) x oM oM h' hx
theorem BbW {bs:Int} (hb:20<=bs) (hbs:bs<=16384):∀(d:Nat) (a:Int) (l:List Int),(n:Int)-a<=d->0<=a->a<=n->Dt n rows.length l->T (bK (n,(n:Int),rows,down,bs,a,a+2*bs,l)) (λr=>0<=r.1/\r.1<=n/\Dt n rows.length r.2)
 |0,a,l,h,h0,h1,hl=>by
  rw[bK]
  exact T.ite (λh'=>by simp at h'; omega) (λ_=>T.ret ⟨h0,h1,hl⟩)
 |d+1,a,l,h,h0,h1,hl=>by
  rw[bK]
  refine T.ite (λh'=>?_) (λ_=>T.ret ⟨h0,h1,hl⟩)
  have h':a+2*bs<=n:=by simpa using h'
  rw[aE (x:=a+bs) oM oM,aE (x:=2*bs) oM oM,aE (x:=a+2*bs+2*bs) oM oM]
  refine T.bind (BjT hn hr (2*bs).toNat a (a+bs) (a+2*bs) l oM h0 oM oM h' hl) (λx hx=>?_)
  exact BbW hb hbs d (a+2*bs) x oM oM h' hx
theorem BbV:∀(d:Nat) (bs:Int) (l:List Int),(n:Int)-bs<=d->20<=bs->Dt n rows.length l->bs<=32768->T (bI (n,(n:Int),rows,down,bs,l)) (Dt n rows.length)
 |0,bs,l,h,h0,hl,hh=>by
  rw[bI]
  exact T.ite (λh'=>by simp at h'; omega) (λ_=>T.ret hl)
 |d+1,bs,l,h,h0,hl,hh=>by
  rw[bI]
  refine T.ite (λh'=>?_) (λ_=>T.ret hl)
  have h':bs<n:=by simpa using h'
  rw[aE (x:=2*bs) oM oM,aE (x:=bs*2) oM oM]
  have t:=BbW hn hr (down:=down) h0 oM n 0 l oM oM oM hl
  rw[Int.zero_add] at t
  refine T.bind t (λr hrr=>?_)
  obtain⟨a3,l5⟩:=r
  obtain⟨g1,g2,g3⟩:=hrr
  simp only at g1 g2 g3 ⊢
  rw[aE (x:=a3+bs) oM oM]
  refine T.bind (R:=Dt n rows.length) (T.ite (λg=>?_) (λ_=>T.ret g3)) (λl6 hl6=>BbV d (bs*2) l6 oM oM hl6 oM)
  have g:a3+bs<n:=by simpa using g
  exact T.bind (BjT hn hr n a3 (a3+bs) n l5 oM g1 oM g oM g3) (λv hv=>T.ret hv)
theorem BfW {l:List Int} (hl:Dt n rows.length l):T (cJ n l rows down) (Dt n rows.length):=by
 unfold cJ dO
 refine T.bind ?_ (λv hv=>T.ret hv)
 refine T.bind (BbU hn hr n 0 l oM oM oM hl) (λr hrr=>?_)
 obtain⟨a1,l2⟩:=r
 obtain⟨g1,g2,g3⟩:=hrr
 refine T.bind (BiE hn hr g1 g2 oM g3) (λx hx=>?_)
 exact T.bind (BbV hn hr n 20 x oM oM hx oM) (λv hv=>T.ret hv)
end
end Go.AM.Seat
namespace Go.AM.Seat
open Go Go.AM
theorem AnU {l:List Arr} (hf:Few l):∀(r:List Arr) (k:Nat),l.drop k=r->(∀x∈l.take k,Val 0 x)->T (jZ (l,(k:Int))) (λr=>match r with|.error e=>e≠0|.ok _=>∀x∈l,Val 0 x)
 | [],k,h,hv=>by
  rw[jZ]
  simp only[cB (cG h),fJ,if_false]
  have:=List.drop_eq_nil_iff.1 h
  rw[List.take_of_length_le this] at hv
  exact T.ret hv
 |a::r,k,h,hv=>by
  have hk:=cH h
  rw[jZ]
  simp only[dL hk,if_true,bO h,oJ,bJ,bZ h hf,rK]
  refine T.ite (λhe=>T.ret (gA he)) (λhe=>?_)
  refine AnU hf r (k+1) (bC h) ?_
  intro x hx
  rw[List.take_add_one,List.mem_append] at hx
  rcases hx with hx|hx
  ·exact hv x hx
  have hd:l[k]?=some a:=by
   rw[List.drop_eq_getElem_cons oM] at h
   obtain⟨h,_⟩:=List.cons.inj h
   rw[←h]; simp[show k<l.length by omega]
  rw[hd] at hx
  simp only[Option.toList_some,List.mem_singleton] at hx
  subst hx
  exact eD he
theorem AyN {l:List Arr} (hf:Few l):T (qK l) (λe=>e=0->∀x∈l,Val 0 x):=by
 unfold qK
 refine T.bind (AnU hf l 0 rfl sM) (λv hv=>?_)
 match v,hv with
 |.error e,h=>exact T.ret λh'=>absurd h' h
 |.ok _,h=>exact T.ret λ_=>h
theorem AqL {l:List aA} (hf:Few l):∀(r:List aA) (k:Nat),l.drop k=r->T (mN (l,(k:Int))) Any
 | [],k,h=>by
  rw[mN]
  simp only[cB (cG h),fJ,if_false]
  exact T.any
 |c::r,k,h=>by
  have hk:=cH h
  rw[mN]
  simp only[dL hk,if_true,bO h,oJ,bJ,bZ h hf]
  refine T.ite (λ_=>T.any) (λ_=>?_)
  refine T.bind (T.lget (Q:=Any) oM oM λ_ _=>trivial) (λ_ _=>?_)
  exact T.ite (λ_=>T.any) (λ_=>AqL hf r (k+1) (bC h))
theorem BhM {l:List aA} (hf:Few l):T (xX l) Any:=by
 unfold xX
 refine T.bind (AqL hf l 0 rfl) (λv _=>?_)
 match v with
 |.error _=>exact T.any
 |.ok _=>exact T.any
structure AvT (a:Arr) (d k:Int) (l:List (List aA)):Prop where
 all:∀r∈l,(r.length:Int)=k/\∀c∈r,c∈a.cells
theorem AqC {a:Arr} {g k:Int} (hk:0<=k) (hk2:k<=16384) (hg:g<=16384) (hN:g*k=a.cells.length) (hle:(a.cells.length:Int)<=16384):∀(d:Nat) (x:Int) (l:List (List aA)),0<=x->x+d=g->(l.length:Int)=x->AvT a g k l ->
  T (mM (a,k,g,l,x)) (λr=>(r.length:Int)=g/\AvT a g k r)
 |0,x,l,h0,h,hl,hi=>by
  rw[mM]
  exact T.ite (λh'=>by simp at h'; omega) (λ_=>T.ret ⟨oM,hi⟩)
 |d+1,x,l,h0,h,hl,hi=>by
  rw[mM]
  refine T.ite (λ_=>?_) (λh'=>by simp at h'; omega)
  have h1:0<=x*k:=Int.mul_nonneg h0 hk
  have h2:(x+1)*k<=g*k:=Int.mul_le_mul_of_nonneg_right oM hk
  have h3:(x+1)*k=x*k+k:=by rw[Int.add_mul,Int.one_mul]
  rw[Af2 h0 oM,aE (x:=x*k) oM oM,aE (x:=(x+1)*k) oM oM]
  refine T.bind (T.val (by unfold Ag0; rw[if_pos ⟨h1,oM,oM⟩]) (Q:=λv=>v=(a.cells.take ((x+1)*k).toNat).drop (x*k).toNat) rfl) (λv hv=>?_)
  refine T.bind (eF (by simp; omega)) (λw hw=>?_)
  subst hw
  refine AqC hk hk2 hg hN hle d (x+1) _ oM oM (by simp; omega) ⟨?_⟩
  intro r hr
  rcases List.mem_append.1 hr with hr|hr
  ·exact hi.all r hr
  simp only[List.mem_singleton] at hr
  subst hr
  subst hv
  refine⟨by rw[List.length_drop,List.length_take]; omega,λc hc=>List.mem_of_mem_take (List.mem_of_mem_drop hc)⟩
theorem BbB {a:Arr} (hv:Val 0 a) (h:0<a.shape.length):T (uB a) (λl=>∃k,(l.length:Int)=a.shape[0]/\(l≠[]->a.shape[0]*k=a.cells.length)/\AvT a a.shape[0] k l):=by
 unfold uB
 have hz:=hv.i.sized
 have hd:=hv.i.dims _ (List.getElem_mem h)
 have hp:=hz.pos _ (List.getElem_mem h)
 have hg:lget a.shape 0=some a.shape[0]:=gL (i:=0) h
 have hle:=hz.hi
 refine T.bind (T.val hg (Q:=λv=>v=a.shape[0]) rfl) (λy hy=>?_)
 subst hy
 refine T.ite (λh0=>T.ret ⟨0,?_,sM,⟨sM⟩⟩) (λh0=>?_)
 ·have:a.shape[0]=0:=by simpa using h0
  simp[this]
 have h0:a.shape[0]≠0:=by simpa using h0
 have hprod:=hz.prod
 have e0:a.shape=a.shape[0]::a.shape.drop 1:=by rw[←List.drop_eq_getElem_cons h]; rfl
 rw[e0] at hprod
 simp only[aS] at hprod
 have hq:(a.cells.length:Int) / a.shape[0]=aS (a.shape.drop 1):=by rw[←hprod]; exact Int.mul_ediv_cancel_left _ h0
 have hr0:0<=aS (a.shape.drop 1):=nD λx hx=>hz.pos x (List.mem_of_mem_drop hx)
 have hr1:aS (a.shape.drop 1)<=a.cells.length:=by
  rw[←hprod]
  have:1*aS (a.shape.drop 1)<=a.shape[0]*aS (a.shape.drop 1):=Int.mul_le_mul_of_nonneg_right oM hr0
  omega
 refine T.bind (T.val hg (Q:=λv=>v=a.shape[0]) rfl) (λy hy=>?_)
 subst hy
 refine T.bind (T.val (Aq8 oM oM oM) (Q:=λv=>v=aS (a.shape.drop 1)) hq) (λk hk=>?_)
 subst hk
 refine T.bind (T.val hg (Q:=λv=>v=a.shape[0]) rfl) (λy hy=>?_)
 subst hy
 refine T.bind (AqC hr0 oM hd hprod hle a.shape[0].toNat 0 [] oM oM sM ⟨sM⟩) (λl hl=>T.ret ⟨_,hl.1,λ_=>hprod,hl.2⟩)
theorem BbO {a:Arr} (hv:Val 0 a) {g k:Int} {l:List (List aA)} (h:AvT a g k l) (hk:l≠[]->k<=16384):∀r∈l,Ao6 r:=λr hr=>
 ⟨by have:=(h.all r hr).1; have:=hk (List.ne_nil_of_mem hr); omega,λc hc=>BkB (hv.i.cells c ((h.all r hr).2 c hc))⟩
theorem Aq6 {a:Arr} {down:Bool} {rows:List (List aA)} (hn:rows.length<=16384):∀(d:Nat) (x:Nat) (l:List Int),x+d=rows.length->Dt rows.length rows.length l->T (mK (a,down,rows,(x:Int),l)) (Dt rows.length rows.length)
 |0,x,l,h,hl=>by
  rw[mK]
  exact T.ite (λh'=>by simp at h'; omega) (λ_=>T.ret hl)
 |d+1,x,l,h,hl=>by
  rw[mK]
  simp only[Int.toNat_natCast]
  refine T.ite (λ_=>?_) (λ_=>T.ret hl)
  refine T.bind (pX oM oM) (λj hj=>T.bind (hl.set hj.2 (v:=(x:Int)) oM) (λl2 hl2=>?_))
  rw[aE (x:=(x:Int)+1) oM oM]
  exact Aq6 hn d (x+1) l2 oM hl2
theorem Aq7 {a:Arr} {down:Bool} {rows:List (List aA)} {l:List Int} (hn:rows.length<=16384) (hl:Dt rows.length rows.length l):∀(d:Nat) (x:Nat) (out:List aA),x+d=rows.length->out.length=x->(∀c∈out,vP c)->T (mL (a,down,rows,l,(x:Int),out)) (λr=>r.length=rows.length/\∀c∈r,vP c)
 |0,x,out,h,ho,hc=>by
  rw[mL]
  exact T.ite (λh'=>by simp at h'; omega) (λ_=>T.ret ⟨oM,hc⟩)
 |d+1,x,out,h,ho,hc=>by
  rw[mL]
  simp only[Int.toNat_natCast]
  refine T.ite (λ_=>?_) (λh'=>by simp at h'; omega)
  refine T.bind (pX oM oM) (λj hj=>T.bind (hl.get hj.2) (λv hv=>?_))
  refine T.bind (eF (by simp; omega)) (λw hw=>?_)
  subst hw
  rw[aE (x:=(x:Int)+1) oM oM]
  refine Aq7 hn hl d (x+1) _ oM (by simp[ho]) ?_
  intro y hy
  rcases List.mem_append.1 hy with hy|hy
  ·exact hc y hy
  simp only[List.mem_singleton] at hy; subst hy; exact .mk _
theorem AuW {a:Arr} {k:Int} {l:List (List aA)} {g:Int} (hz:(a.cells.length:Int)<=16384) (hl:(l.length:Int)=g) (hk:l≠[]->g*k=a.cells.length):l≠[]->k<=16384:=by
 intro hne
 have:=hk hne
 have hg:1<=g:=by have:=List.length_pos_iff.2 hne; omega
 rcases Int.lt_or_le k 0 with h|h
 ·omega
 have:1*k<=g*k:=Int.mul_le_mul_of_nonneg_right hg h
 omega
theorem Bh7 {a:Arr} {down:Bool} {m:Nat} (hv:Val 0 a):T (xV a down) (Res m):=by
 unfold xV
 refine T.ite (λ_=>T.ret (Res.err oM)) (λh=>?_)
 have hpos:0<a.shape.length:=by
   have:(a.shape.length:Int)≠0:=by simpa using h
   omega
 refine T.bind (BhM hv.fewc) (λx _=>T.ite (λ_=>T.ret (Res.err oM)) (λ_=>?_))
 refine T.bind (BbB hv hpos) (λrows hrows=>?_)
 obtain⟨k,h1,h2,h3⟩:=hrows
 have hd:=hv.i.dims _ (List.getElem_mem hpos)
 have hR:=BbO hv h3 (AuW hv.i.sized.hi h1 h2)
 have hn:rows.length<=16384:=oM
 refine T.bind (T.val (by unfold xP; rw[if_pos oM]) (Q:=Dt rows.length rows.length) ?_) (λby_ hby=>?_)
 ·refine⟨sM,λv hv=>?_⟩
  have h0:=List.mem_replicate.1 hv
  simp only[Int.toNat_natCast] at h0
  omega
 refine T.bind (Aq6 hn rows.length 0 by_ oM hby) (λb3 hb3=>?_)
 simp only[Int.toNat_natCast]
 refine T.bind (BfW hn hR hb3) (λx3 hx3=>?_)
 refine T.bind (Aq7 hn hx3 rows.length 0 [] oM rfl sM) (λcs hcs=>?_)
 exact T.ret λ_=>Av9 (by rw[hcs.1]; exact AeF oM oM) (by simp; omega) hcs.2
end Go.AM.Seat
