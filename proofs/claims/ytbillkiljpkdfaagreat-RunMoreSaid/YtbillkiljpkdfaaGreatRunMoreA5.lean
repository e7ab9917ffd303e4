/- Part of a proof about the given program: the abstract machine, the printed functions, the plain laws. -/
import Derived.Test.YtbillkiljpkdfaaGreatRunMoreA4
set_option linter.all false
set_option maxRecDepth 100000
set_option maxHeartbeats 4000000
namespace Go.AM.Seat
open Go Go.AM
section
variable {n:Nat} {rows:List (List aA)} {down:Bool} (hn:n<=16384) (hr:∀r∈rows,An3 r)
include hn hr
theorem BiK:∀(d:Nat) (a m b:Int) (l:List Int),b-a<=d->0<=a->a<m->m<b->b<=n->Dt n rows.length l->T (aC (n,a,m,b,l,rows,down)) (Dt n rows.length)
 |0,a,m,b,l,h,ha,h1,h2,hb,hl=>by omega
 |d+1,a,m,b,l,h,ha,h1,h2,hb,hl=>by
  have IH:=BiK d
  rw[aC]
  rw[aE (x:=m-a) (by omega) (by omega),aE (x:=b-m) (by omega) (by omega),Ak8 (x:=a+b) (by omega) (by omega),aE (x:=(a+b) / 2+m) (by omega) (by omega),aE (x:=(a+b) / 2+m-b) (by omega) (by omega)]
  refine T.ite (λ_=>?_) (λe1=>?_)
  ·refine T.bind (AuC hn hr ha (by omega) hl (b-m).toNat m b (by omega) (by omega) (by omega) hb) (λi hi=>?_)
   exact T.bind (BaI hn (by omega) (by omega) (max (i-1) a-a).toNat a l ha (by omega) (by omega) hl) (λv hv=>T.ret hv)
  refine T.ite (λ_=>?_) (λe2=>?_)
  ·refine T.bind (AuD hn hr (by omega) (by omega) hl (m-a).toNat a m (by omega) (by omega) (by omega) (by omega)) (λi hi=>?_)
   exact T.bind (BaJ hn (by omega) (m-i).toNat m l (by omega) (by omega) hl) (λv hv=>T.ret hv)
  have e1:m-a≠1:=by simpa using e1
  have e2:b-m≠1:=by simpa using e2
  obtain⟨mid,hmid⟩:∃mid,mid=(a+b) / 2:=⟨_,rfl⟩
  rw[←hmid]
  refine T.bind (R:=λr=>(mid<m/\r=(mid+m-b,mid))\/(m<=mid/\r=(a,m))) ?_ (λr hrr=>?_)
  ·exact T.ite (λh'=>T.ret (.inl ⟨by simpa using h',rfl⟩)) (λh'=>T.ret (.inr ⟨by simpa using h',rfl⟩))
  obtain⟨s0,r0⟩:=r
  simp only[pJ] at hrr ⊢
  refine T.bind (AuE hn hr (a:=a) (m:=m) (b:=b) (s0:=s0) (r0:=r0) ha (by omega) (by omega) (by omega) hb (by omega) hl (by omega) (by omega) (by omega) (by omega) (r0-s0).toNat s0 r0 (by omega) (by omega) (by omega) (by omega)) (λst hst=>?_)
  rw[aE (x:=mid+m-st) (by omega) (by omega)]
  have tail:∀l',Dt n rows.length l'->T (if decide (mid<mid+m-st)=true then if decide (mid+m-st<b)=true then aC (n,mid,mid+m-st,b,l',rows,down)>>=λx=>some x else some l' else some l') (Dt n rows.length):=by
   intro l' hl'
   refine T.ite (λg1=>T.ite (λg2=>?_) (λ_=>T.ret hl')) (λ_=>T.ret hl')
   have g1:mid<mid+m-st:=by simpa using g1
   have g2:mid+m-st<b:=by simpa using g2
   exact T.bind (IH mid (mid+m-st) b l' (by omega) (by omega) (by omega) (by omega) hb hl') (λv hv=>T.ret hv)
  have head:∀l',Dt n rows.length l'->a<st->T (if decide (st<mid)=true then aC (n,a,st,mid,l',rows,down)>>=λx=>some x else some l') (Dt n rows.length):=by
   intro l' hl' g1
   refine T.ite (λg2=>?_) (λ_=>T.ret hl')
   have g2:st<mid:=by simpa using g2
   exact T.bind (IH a st mid l' (by omega) (by omega) (by omega) (by omega) (by omega) hl') (λv hv=>T.ret hv)
  have both:∀l',Dt n rows.length l'->T (if decide (a<st)=true then (if decide (st<mid)=true then aC (n,a,st,mid,l',rows,down)>>=λx=>some x else some l')>>=λl2=>if decide (mid<mid+m-st)=true then if decide (mid+m-st<b)=true then aC (n,mid,mid+m-st,b,l2,rows,down)>>=λx=>some x else some l2 else some l2
    else if decide (mid<mid+m-st)=true then if decide (mid+m-st<b)=true then aC (n,mid,mid+m-st,b,l',rows,down)>>=λx=>some x else some l' else some l') (Dt n rows.length):=by
   intro l' hl'
   exact T.ite (λg=>T.bind (head l' hl' (by simpa using g)) (λv hv=>tail v hv)) (λ_=>tail l' hl')
  refine T.ite (λg1=>?_) (λ_=>both l hl)
  have g1:st<m:=by simpa using g1
  refine T.bind (R:=Dt n rows.length) (T.ite (λg2=>?_) (λ_=>T.ret hl)) (λl7 hl7=>both l7 hl7)
  have g2:m<mid+m-st:=by simpa using g2
  exact T.bind (BjG hn (by omega) g1 g2 (by omega) hl) (λv hv=>T.ret hv)
theorem BaK:∀(d:Nat) (a:Int) (l:List Int),(n:Int)-a<=d->0<=a->a<=n->Dt n rows.length l->T (bG (n,(n:Int),rows,down,a,a+20,l)) (λr=>0<=r.1/\r.1<=n/\Dt n rows.length r.2)
 |0,a,l,h,h0,h1,hl=>by
  rw[bG]
  exact T.ite (λh'=>by simp at h'; omega) (λ_=>T.ret ⟨h0,h1,hl⟩)
 |d+1,a,l,h,h0,h1,hl=>by
  rw[bG]
  refine T.ite (λh'=>?_) (λ_=>T.ret ⟨h0,h1,hl⟩)
  have h':a+20<=n:=by simpa using h'
  refine T.bind (Bh5 hn hr h0 h1 h' hl) (λx hx=>?_)
  rw[aE (x:=a+20+20) (by omega) (by omega)]
  exact BaK d (a+20) x (by omega) (by omega) h' hx
theorem BaM {bs:Int} (hb:20<=bs) (hbs:bs<=16384):∀(d:Nat) (a:Int) (l:List Int),(n:Int)-a<=d->0<=a->a<=n->Dt n rows.length l->T (bI (n,(n:Int),rows,down,bs,a,a+2*bs,l)) (λr=>0<=r.1/\r.1<=n/\Dt n rows.length r.2)
 |0,a,l,h,h0,h1,hl=>by
  rw[bI]
  exact T.ite (λh'=>by simp at h'; omega) (λ_=>T.ret ⟨h0,h1,hl⟩)
 |d+1,a,l,h,h0,h1,hl=>by
  rw[bI]
  refine T.ite (λh'=>?_) (λ_=>T.ret ⟨h0,h1,hl⟩)
  have h':a+2*bs<=n:=by simpa using h'
  rw[aE (x:=a+bs) (by omega) (by omega),aE (x:=2*bs) (by omega) (by omega),aE (x:=a+2*bs+2*bs) (by omega) (by omega)]
  refine T.bind (BiK hn hr (2*bs).toNat a (a+bs) (a+2*bs) l (by omega) h0 (by omega) (by omega) h' hl) (λx hx=>?_)
  exact BaM hb hbs d (a+2*bs) x (by omega) (by omega) h' hx
theorem BaL:∀(d:Nat) (bs:Int) (l:List Int),(n:Int)-bs<=d->20<=bs->Dt n rows.length l->bs<=32768->T (bH (n,(n:Int),rows,down,bs,l)) (Dt n rows.length)
 |0,bs,l,h,h0,hl,hh=>by
  rw[bH]
  exact T.ite (λh'=>by simp at h'; omega) (λ_=>T.ret hl)
 |d+1,bs,l,h,h0,hl,hh=>by
  rw[bH]
  refine T.ite (λh'=>?_) (λ_=>T.ret hl)
  have h':bs<n:=by simpa using h'
  rw[aE (x:=2*bs) (by omega) (by omega),aE (x:=bs*2) (by omega) (by omega)]
  have t:=BaM hn hr (down:=down) h0 (by omega) n 0 l (by omega) (by omega) (by omega) hl
  rw[Int.zero_add] at t
  refine T.bind t (λr hrr=>?_)
  obtain⟨a3,l5⟩:=r
  obtain⟨g1,g2,g3⟩:=hrr
  simp only at g1 g2 g3 ⊢
  rw[aE (x:=a3+bs) (by omega) (by omega)]
  refine T.bind (R:=Dt n rows.length) (T.ite (λg=>?_) (λ_=>T.ret g3)) (λl6 hl6=>BaL d (bs*2) l6 (by omega) (by omega) hl6 (by omega))
  have g:a3+bs<n:=by simpa using g
  exact T.bind (BiK hn hr n a3 (a3+bs) n l5 (by omega) g1 (by omega) g (by omega) g3) (λv hv=>T.ret hv)
theorem BeO {l:List Int} (hl:Dt n rows.length l):T (p_slices_SortStableFunc_int__seek_grade_1 n l rows down) (Dt n rows.length):=by
 unfold p_slices_SortStableFunc_int__seek_grade_1 p_slices_stableCmpFunc_int__seek_grade_1
 refine T.bind ?_ (λv hv=>T.ret hv)
 refine T.bind (BaK hn hr n 0 l (by omega) (by omega) (by omega) hl) (λr hrr=>?_)
 obtain⟨a1,l2⟩:=r
 obtain⟨g1,g2,g3⟩:=hrr
 refine T.bind (Bh5 hn hr g1 g2 (by omega) g3) (λx hx=>?_)
 exact T.bind (BaL hn hr n 20 x (by omega) (by omega) hx (by omega)) (λv hv=>T.ret hv)
end
end Go.AM.Seat
namespace Go.AM.Seat
open Go Go.AM
theorem AmR {l:List Arr} (hf:Few l):∀(r:List Arr) (k:Nat),l.drop k=r->(∀x∈l.take k,Val 0 x)->T (jG (l,(k:Int))) (λr=>match r with|.error e=>e≠0|.ok _=>∀x∈l,Val 0 x)
 | [],k,h,hv=>by
  rw[jG]
  simp only[bZ (cC h),fJ,if_false]
  have:=List.drop_eq_nil_iff.1 h
  rw[List.take_of_length_le this] at hv
  exact T.ret hv
 |a::r,k,h,hv=>by
  have hk:=cD h
  rw[jG]
  simp only[dH hk,if_true,bN h,oJ,bJ,bW h hf,qG]
  refine T.ite (λhe=>T.ret (fK he)) (λhe=>?_)
  refine AmR hf r (k+1) (bC h) ?_
  intro x hx
  rw[List.take_add_one,List.mem_append] at hx
  rcases hx with hx|hx
  ·exact hv x hx
  have hd:l[k]?=some a:=by
   rw[List.drop_eq_getElem_cons (by omega)] at h
   obtain⟨h,_⟩:=List.cons.inj h
   rw[←h]; simp[show k<l.length by omega]
  rw[hd] at hx
  simp only[Option.toList_some,List.mem_singleton] at hx
  subst hx
  exact dR he
theorem AxF {l:List Arr} (hf:Few l):T (pG l) (λe=>e=0->∀x∈l,Val 0 x):=by
 unfold pG
 refine T.bind (AmR hf l 0 rfl (by simp)) (λv hv=>?_)
 match v,hv with
 |.error e,h=>exact T.ret λh'=>absurd h' h
 |.ok _,h=>exact T.ret λ_=>h
theorem ApG {l:List aA} (hf:Few l):∀(r:List aA) (k:Nat),l.drop k=r->T (lL (l,(k:Int))) Any
 | [],k,h=>by
  rw[lL]
  simp only[bZ (cC h),fJ,if_false]
  exact T.any
 |c::r,k,h=>by
  have hk:=cD h
  rw[lL]
  simp only[dH hk,if_true,bN h,oJ,bJ,bW h hf]
  refine T.ite (λ_=>T.any) (λ_=>?_)
  refine T.bind (T.lget (Q:=Any) (by omega) (by omega) λ_ _=>trivial) (λ_ _=>?_)
  exact T.ite (λ_=>T.any) (λ_=>ApG hf r (k+1) (bC h))
theorem BgE {l:List aA} (hf:Few l):T (wP l) Any:=by
 unfold wP
 refine T.bind (ApG hf l 0 rfl) (λv _=>?_)
 match v with
 |.error _=>exact T.any
 |.ok _=>exact T.any
structure AuN (a:Arr) (d k:Int) (l:List (List aA)):Prop where
 all:∀r∈l,(r.length:Int)=k/\∀c∈r,c∈a.cells
theorem Ap7 {a:Arr} {g k:Int} (hk:0<=k) (hk2:k<=16384) (hg:g<=16384) (hN:g*k=a.cells.length) (hle:(a.cells.length:Int)<=16384):∀(d:Nat) (x:Int) (l:List (List aA)),0<=x->x+d=g->(l.length:Int)=x->AuN a g k l ->
  T (lK (a,k,g,l,x)) (λr=>(r.length:Int)=g/\AuN a g k r)
 |0,x,l,h0,h,hl,hi=>by
  rw[lK]
  exact T.ite (λh'=>by simp at h'; omega) (λ_=>T.ret ⟨by omega,hi⟩)
 |d+1,x,l,h0,h,hl,hi=>by
  rw[lK]
  refine T.ite (λ_=>?_) (λh'=>by simp at h'; omega)
  have h1:0<=x*k:=Int.mul_nonneg h0 hk
  have h2:(x+1)*k<=g*k:=Int.mul_le_mul_of_nonneg_right (by omega) hk
  have h3:(x+1)*k=x*k+k:=by rw[Int.add_mul,Int.one_mul]
  rw[Ae2 h0 (by omega),aE (x:=x*k) (by omega) (by omega),aE (x:=(x+1)*k) (by omega) (by omega)]
  refine T.bind (T.val (by unfold Af0; rw[if_pos ⟨h1,by omega,by omega⟩]) (Q:=λv=>v=(a.cells.take ((x+1)*k).toNat).drop (x*k).toNat) rfl) (λv hv=>?_)
  refine T.bind (dT (by simp; omega)) (λw hw=>?_)
  subst hw
  refine Ap7 hk hk2 hg hN hle d (x+1) _ (by omega) (by omega) (by simp; omega) ⟨?_⟩
  intro r hr
  rcases List.mem_append.1 hr with hr|hr
  ·exact hi.all r hr
  simp only[List.mem_singleton] at hr
  subst hr
  subst hv
  refine⟨by rw[List.length_drop,List.length_take]; omega,λc hc=>List.mem_of_mem_take (List.mem_of_mem_drop hc)⟩
theorem Ba2 {a:Arr} (hv:Val 0 a) (h:0<a.shape.length):T (sS a) (λl=>∃k,(l.length:Int)=a.shape[0]/\(l≠[]->a.shape[0]*k=a.cells.length)/\AuN a a.shape[0] k l):=by
 unfold sS
 have hz:=hv.i.sized
 have hd:=hv.i.dims _ (List.getElem_mem h)
 have hp:=hz.pos _ (List.getElem_mem h)
 have hg:lget a.shape 0=some a.shape[0]:=fS (i:=0) h
 have hle:=hz.hi
 refine T.bind (T.val hg (Q:=λv=>v=a.shape[0]) rfl) (λy hy=>?_)
 subst hy
 refine T.ite (λh0=>T.ret ⟨0,?_,by simp,⟨by simp⟩⟩) (λh0=>?_)
 ·have:a.shape[0]=0:=by simpa using h0
  simp[this]
 have h0:a.shape[0]≠0:=by simpa using h0
 have hprod:=hz.prod
 have e0:a.shape=a.shape[0]::a.shape.drop 1:=by rw[←List.drop_eq_getElem_cons h]; rfl
 rw[e0] at hprod
 simp only[aR] at hprod
 have hq:(a.cells.length:Int) / a.shape[0]=aR (a.shape.drop 1):=by rw[←hprod]; exact Int.mul_ediv_cancel_left _ h0
 have hr0:0<=aR (a.shape.drop 1):=mC λx hx=>hz.pos x (List.mem_of_mem_drop hx)
 have hr1:aR (a.shape.drop 1)<=a.cells.length:=by
  rw[←hprod]
  have:1*aR (a.shape.drop 1)<=a.shape[0]*aR (a.shape.drop 1):=Int.mul_le_mul_of_nonneg_right (by omega) hr0
  omega
 refine T.bind (T.val hg (Q:=λv=>v=a.shape[0]) rfl) (λy hy=>?_)
 subst hy
 refine T.bind (T.val (Ap3 (by omega) (by omega) (by omega)) (Q:=λv=>v=aR (a.shape.drop 1)) hq) (λk hk=>?_)
 subst hk
 refine T.bind (T.val hg (Q:=λv=>v=a.shape[0]) rfl) (λy hy=>?_)
 subst hy
 refine T.bind (Ap7 hr0 (by omega) hd hprod hle a.shape[0].toNat 0 [] (by omega) (by omega) (by simp) ⟨by simp⟩) (λl hl=>T.ret ⟨_,hl.1,λ_=>hprod,hl.2⟩)
theorem BaE {a:Arr} (hv:Val 0 a) {g k:Int} {l:List (List aA)} (h:AuN a g k l) (hk:l≠[]->k<=16384):∀r∈l,An3 r:=λr hr=>
 ⟨by have:=(h.all r hr).1; have:=hk (List.ne_nil_of_mem hr); omega,λc hc=>Bj2 (hv.i.cells c ((h.all r hr).2 c hc))⟩
theorem Ap1 {a:Arr} {down:Bool} {rows:List (List aA)} (hn:rows.length<=16384):∀(d:Nat) (x:Nat) (l:List Int),x+d=rows.length->Dt rows.length rows.length l->T (lH (a,down,rows,(x:Int),l)) (Dt rows.length rows.length)
 |0,x,l,h,hl=>by
  rw[lH]
  exact T.ite (λh'=>by simp at h'; omega) (λ_=>T.ret hl)
 |d+1,x,l,h,hl=>by
  rw[lH]
  simp only[Int.toNat_natCast]
  refine T.ite (λ_=>?_) (λ_=>T.ret hl)
  refine T.bind (oQ (by omega) (by omega)) (λj hj=>T.bind (hl.set hj.2 (v:=(x:Int)) (by omega)) (λl2 hl2=>?_))
  rw[aE (x:=(x:Int)+1) (by omega) (by omega)]
  exact Ap1 hn d (x+1) l2 (by omega) hl2
theorem Ap2 {a:Arr} {down:Bool} {rows:List (List aA)} {l:List Int} (hn:rows.length<=16384) (hl:Dt rows.length rows.length l):∀(d:Nat) (x:Nat) (out:List aA),x+d=rows.length->out.length=x->(∀c∈out,uI c)->T (lJ (a,down,rows,l,(x:Int),out)) (λr=>r.length=rows.length/\∀c∈r,uI c)
 |0,x,out,h,ho,hc=>by
  rw[lJ]
  exact T.ite (λh'=>by simp at h'; omega) (λ_=>T.ret ⟨by omega,hc⟩)
 |d+1,x,out,h,ho,hc=>by
  rw[lJ]
  simp only[Int.toNat_natCast]
  refine T.ite (λ_=>?_) (λh'=>by simp at h'; omega)
  refine T.bind (oQ (by omega) (by omega)) (λj hj=>T.bind (hl.get hj.2) (λv hv=>?_))
  refine T.bind (dT (by simp; omega)) (λw hw=>?_)
  subst hw
  rw[aE (x:=(x:Int)+1) (by omega) (by omega)]
  refine Ap2 hn hl d (x+1) _ (by omega) (by simp[ho]) ?_
  intro y hy
  rcases List.mem_append.1 hy with hy|hy
  ·exact hc y hy
  simp only[List.mem_singleton] at hy; subst hy; exact .mk _
theorem AtS {a:Arr} {k:Int} {l:List (List aA)} {g:Int} (hz:(a.cells.length:Int)<=16384) (hl:(l.length:Int)=g) (hk:l≠[]->g*k=a.cells.length):l≠[]->k<=16384:=by
 intro hne
 have:=hk hne
 have hg:1<=g:=by have:=List.length_pos_iff.2 hne; omega
 rcases Int.lt_or_le k 0 with h|h
 ·omega
 have:1*k<=g*k:=Int.mul_le_mul_of_nonneg_right hg h
 omega
theorem BfY {a:Arr} {down:Bool} {m:Nat} (hv:Val 0 a):T (wN a down) (Res m):=by
 unfold wN
 refine T.ite (λ_=>T.ret (Res.err (by omega))) (λh=>?_)
 have hpos:0<a.shape.length:=by
   have:(a.shape.length:Int)≠0:=by simpa using h
   omega
 refine T.bind (BgE hv.fewc) (λx _=>T.ite (λ_=>T.ret (Res.err (by omega))) (λ_=>?_))
 refine T.bind (Ba2 hv hpos) (λrows hrows=>?_)
 obtain⟨k,h1,h2,h3⟩:=hrows
 have hd:=hv.i.dims _ (List.getElem_mem hpos)
 have hR:=BaE hv h3 (AtS hv.i.sized.hi h1 h2)
 have hn:rows.length<=16384:=by omega
 refine T.bind (T.val (by unfold mkarr; rw[if_pos (by omega)]) (Q:=Dt rows.length rows.length) ?_) (λby_ hby=>?_)
 ·refine⟨by simp,λv hv=>?_⟩
  have h0:=List.mem_replicate.1 hv
  simp only[Int.toNat_natCast] at h0
  omega
 refine T.bind (Ap1 hn rows.length 0 by_ (by omega) hby) (λb3 hb3=>?_)
 simp only[Int.toNat_natCast]
 refine T.bind (BeO hn hR hb3) (λx3 hx3=>?_)
 refine T.bind (Ap2 hn hx3 rows.length 0 [] (by omega) rfl (by simp)) (λcs hcs=>?_)
 exact T.ret λ_=>Au5 (by rw[hcs.1]; exact AdG (by omega) (by omega)) (by simp; omega) hcs.2
theorem AsO {s:List (List aA)} {b:List aA} (hb:An3 b) (hs:s.length<=16384):∀(d:Nat) (k:Nat),k+d=s.length->T (bP (s,b,(k:Int))) Any
 |0,k,h=>by
  rw[bP]
  exact T.ite (λh'=>by simp at h'; omega) (λ_=>T.any)
 |d+1,k,h=>by
  rw[bP]
  refine T.ite (λ_=>?_) (λ_=>T.any)
  refine T.bind (T.lget (Q:=Any) (by omega) (by omega) λ_ _=>trivial) (λy _=>?_)
  unfold uG
  refine T.bind (T.bind (AhL hb) (λ_ _=>T.any)) (λx _=>T.ite (λ_=>T.any) (λ_=>?_))
  rw[aE (by omega) (by omega)]
  exact AsO hb hs d (k+1) (by omega)
theorem BgP {s:List (List aA)} {b:List aA} (hb:An3 b) (hs:s.length<=16384):T (cE s b) Any:=by
 unfold cE dU
 refine T.bind (R:=Any) (T.bind (AsO hb hs s.length 0 (by omega)) (λv _=>?_)) (λ_ _=>T.any)
 match v with
 |.error _=>exact T.any
 |.ok _=>exact T.any
theorem AmZ {x a:Arr} {x0:List Int} {n:Nat} {b:List Int} {rows:List (List aA)} {g k:Int} (hv:Val 0 a) (hi:AuN a g k rows) (hR:∀r∈rows,An3 r) (hg:(rows.length:Int)=g) (hgk:rows≠[]->g*k=a.cells.length) (hg2:g<=16384) (hk0:rows≠[]->0<=k) :
  ∀(d:Nat) (i:Nat) (kept:List (List aA)) (out:List aA),i+d=rows.length->kept.length<=i->(out.length:Int)=kept.length*k->(∀c∈out,c∈a.cells) ->
  T (jZ (x,x0,n,b,rows,kept,(i:Int),out)) (λr=>r.1.length<=rows.length/\(r.2.length:Int)=r.1.length*k/\∀c∈r.2,c∈a.cells)
 |0,i,kept,out,h,hk,ho,hc=>by
  rw[jZ]
  exact T.ite (λh'=>by simp at h'; omega) (λ_=>T.ret ⟨by simp only; omega,ho,hc⟩)
 |d+1,i,kept,out,h,hk,ho,hc=>by
  have hle:=hv.i.sized.hi
  rw[jZ]
  refine T.ite (λ_=>?_) (λh'=>by simp at h'; omega)
  refine T.bind (R:=λr=>r.1.length<=i+1/\(r.2.length:Int)=r.1.length*k/\∀c∈r.2,c∈a.cells) ?_ (λr hr=>?_)
  ·refine T.bind (T.lget (Q:=λv=>v∈rows) (by omega) (by omega) λ_ h=>List.mem_of_getElem? h) (λy hy=>?_)
   have hne:=List.ne_nil_of_mem hy
   have k0:=hk0 hne
   refine T.bind (BgP (hR y hy) (by omega)) (λx4 _=>T.ite (λ_=>?_) (λ_=>T.ret ⟨by simp only; omega,ho,hc⟩))
   obtain⟨hy1,hy2⟩:=hi.all y hy
   have hkk:(kept.length:Int)*k<=g*k:=Int.mul_le_mul_of_nonneg_right (by omega) k0
   have hkg:=hgk hne
   have hk1:k<=16384:=AtS hle hg hgk hne
   refine T.bind (dT (by simp; omega)) (λw hw=>?_)
   subst hw
   refine T.bind (dT (by omega)) (λw hw=>?_)
   subst hw
   refine T.ret ⟨by simp; omega,?_,?_⟩
   ·simp only[List.length_append,List.length_singleton]
    rw[Int.natCast_add,Int.natCast_add,Int.add_mul,ho,hy1]; simp
   intro c hc'
   rcases List.mem_append.1 hc' with hc' | hc'
   ·exact hc c hc'
   exact hy2 c hc'
  obtain⟨r1,r2⟩:=r
  obtain⟨g1,g2,g3⟩:=hr
  simp only at g1 g2 g3 ⊢
  rw[aE (by omega) (by omega)]
  exact AmZ hv hi hR hg hgk hg2 hk0 d (i+1) r1 r2 (by omega) g1 g2 g3
theorem AnG {a:Arr} (hv:Val 0 a) (h:a.shape=[]):Val 0 (Arr.mk [1] a.cells):=by
 obtain⟨c,hc⟩:=xB hv (by rw[h]; simp)
 refine AlU ?_ (by simp) hv.i.cells
 rw[hc]
 exact AdG (n:=1) (by omega) (by omega)
theorem Aj0:∀{s:List Int} (h:0<s.length),aR s=s[0]*aR (s.drop 1)
 |d::r,_=>rfl
theorem BeM:∀{s:List Int} {v:Int} (h:0<s.length),s.set 0 v=v::s.drop 1
 |d::r,_,_=>rfl
theorem BeT {a:Arr} {m:Nat} (hv:Val 0 a) (hm:Cw m a.cells):T (tT a) (λr=>Val 0 r/\Cw m r.cells):=by
 unfold tT
 refine T.bind (T.val (sE a 0 hv) (Q:=λv=>v=a) rfl) (λx hx=>?_)
 subst hx
 refine T.bind (R:=λs=>0<s.length/\Val 0 (Arr.mk s x.cells)) (T.ite (λh=>T.ret ?_) (λh=>T.ret ?_)) (λs hs=>?_)
 ·have:x.shape=[]:=List.length_eq_zero_iff.1 (by
    have:(x.shape.length:Int)=0:=by simpa using h
    omega)
  exact⟨by simp,AnG hv this⟩
 ·have:(x.shape.length:Int)≠0:=by simpa using h
  exact⟨by omega,by cases x; exact hv⟩
 obtain⟨hpos,hvs⟩:=hs
 have hz:=hvs.i.sized
 have hrk:s.length<=8:=hz.rank
 have hle:=hz.hi
 have hd0:s[0]<=16384:=hvs.i.dims _ (List.getElem_mem hpos)
 have hp0:0<=s[0]:=hz.pos _ (List.getElem_mem hpos)
 refine T.bind (AgR hrk) (λc hc=>?_)
 subst hc
 refine T.bind (Ba2 hvs hpos) (λrows hrows=>?_)
 obtain⟨k,h1,h2,h3⟩:=hrows
 have h1:(rows.length:Int)=s[0]:=h1
 have hR:=BaE hvs h3 (AtS hle h1 h2)
 have e0:s=s[0]::s.drop 1:=by rw[←List.drop_eq_getElem_cons hpos]; rfl
 have hprod:s[0]*aR (s.drop 1)=x.cells.length:=by
  have:=hz.prod
  have e1:aR s=s[0]*aR (s.drop 1):=Aj0 hpos
  rw[←e1]; exact this
 have hr0:0<=aR (s.drop 1):=mC λd hd=>hz.pos d (List.mem_of_mem_drop hd)
 have hk:rows≠[]->k=aR (s.drop 1):=λhne=>by
  have hg:1<=s[0]:=by have:=List.length_pos_iff.2 hne; omega
  have:s[0]*k=s[0]*aR (s.drop 1):=by rw[hprod]; exact h2 hne
  exact Int.eq_of_mul_eq_mul_left (by omega) this
 refine T.bind (AmZ hvs h3 hR h1 h2 hd0 (λhne=>by rw[hk hne]; exact hr0) rows.length 0 [] [] (by omega) (by simp) (by simp) (by simp)) (λr hr=>?_)
 obtain⟨kept,out⟩:=r
 obtain⟨g1,g2,g3⟩:=hr
 simp only at g1 g2 g3 ⊢
 refine T.bind (oQ (n:=s.length) (by omega) (by omega)) (λj hj=>?_)
 obtain rfl:j=0:=by omega
 refine T.bind (T.val (by unfold aset; rw[if_pos hpos]) (Q:=λv=>v=(kept.length:Int)::s.drop 1) (BeM hpos)) (λb1 hb1=>?_)
 subst hb1
 refine T.bind (uJ (by simp; omega)) (λsh hsh=>?_)
 subst hsh
 have hdim:∀d∈(kept.length:Int)::s.drop 1,0<=d/\d<=16384:=by
  intro d hd
  rcases List.mem_cons.1 hd with rfl|hd
  ·omega
  exact⟨hz.pos d (List.mem_of_mem_drop hd),hvs.i.dims d (List.mem_of_mem_drop hd)⟩
 have hlen:(out.length:Int)=kept.length*aR (s.drop 1):=by
  rcases Nat.eq_zero_or_pos kept.length with h0|h0
  ·rw[g2,h0]; simp
  rw[g2,hk (List.ne_nil_of_length_pos (by omega))]
 have hle2:(out.length:Int)<=x.cells.length:=by
  rw[hlen,←hprod]
  exact Int.mul_le_mul_of_nonneg_right (by omega) hr0
 refine T.ret (frv hvs hm ?_ (λd hd=>(hdim d hd).2) λc hc=>.inl (g3 c hc))
 have hle':(x.cells.length:Int)<=16384:=hle
 refine⟨by simp; omega,λd hd=>(hdim d hd).1,hlen.symm,by omega,by omega,λhne d hd=>⟨?_,(hdim d hd).2⟩⟩
 have hx:(x.cells.length:Int)≠0:=by omega
 rcases List.mem_cons.1 hd with rfl|hd
 ·rcases Nat.eq_zero_or_pos kept.length with h0|h0
  ·rw[hlen,h0] at hne; simp at hne
  ·omega
 exact (hz.dim hx d (List.mem_of_mem_drop hd)).1
theorem BeK {op:Int} {a:Arr} {m:Nat} (hm:Cw m a.cells):T (qX op a) (Res m):=by
 unfold qX
 refine T.bind (AxF (by unfold Few; simp)) (λe he=>?_)
 refine T.ite (λh=>T.ret (Res.err (fK h))) (λh=>?_)
 have hv:Val 0 a:=he (dR h) a (by simp)
 refine T.bind (R:=Any) (T.ite (λ_=>T.any) (λ_=>T.any)) (λx _=>?_)
 refine T.ite (λ_=>T.bind (BfY hv) (λr hr=>T.ret hr)) (λ_=>?_)
 refine T.ite (λ_=>T.bind (BeT hv hm) (λr hr=>T.ret λ_=>hr)) (λ_=>T.ret (Res.err (by omega)))
theorem As8 {s:List aA} {b:aA} (hs:An3 s):∀(d:Nat) (k:Nat),k+d=s.length->T (bT (s,b,(k:Int))) Any
 |0,k,h=>by
  rw[bT]
  exact T.ite (λh'=>by simp at h'; omega) (λ_=>T.any)
 |d+1,k,h=>by
  have:=hs.len
  rw[bT]
  refine T.ite (λ_=>?_) (λ_=>T.any)
  refine T.bind (T.lget (Q:=λv=>v∈s) (by omega) (by omega) λ_ h=>List.mem_of_getElem? h) (λy hy=>?_)
  unfold wO
  refine T.bind (T.bind (hs.all y hy b) (λ_ _=>T.any)) (λx _=>T.ite (λ_=>T.any) (λ_=>?_))
  rw[aE (by omega) (by omega)]
  exact As8 hs d (k+1) (by omega)
theorem BaA {s:List aA} {b:aA} (hs:An3 s):T (sT s b) Any:=by
 unfold sT eA
 refine T.bind (R:=Any) (T.bind (As8 hs s.length 0 (by omega)) (λv _=>?_)) (λ_ _=>T.ite (λ_=>T.any) (λ_=>T.any))
 match v with
 |.error _=>exact T.any
 |.ok _=>exact T.any
theorem ApO {a:Arr} (hv:Val 0 a):An3 a.cells:=⟨by have:=hv.i.sized.hi; omega,λc hc=>Bj2 (hv.i.cells c hc)⟩
theorem AxB {a b:Arr} {n:Nat} {b1:List Int} (hv:Val 0 a) (hb:Val 0 b):∀(d:Nat) (k:Nat) (out:List aA),k+d=b.cells.length->out.length=k->(∀c∈out,uI c)->T (qC (a,b,n,b1,(k:Int),out)) (λr=>r.length=b.cells.length/\∀c∈r,uI c)
 |0,k,out,h,ho,hc=>by
  rw[qC]
  exact T.ite (λh'=>by simp at h'; omega) (λ_=>T.ret ⟨by omega,hc⟩)
 |d+1,k,out,h,ho,hc=>by
  have hle:=hb.i.sized.hi
  rw[qC]
  refine T.ite (λ_=>?_) (λh'=>by simp at h'; omega)
  refine T.bind (T.lget (Q:=Any) (by omega) (by omega) λ_ _=>trivial) (λy _=>?_)
  refine T.bind (BaA (ApO hv)) (λx _=>?_)
  refine T.bind (dT (by simp; omega)) (λw hw=>?_)
  subst hw
  rw[aE (by omega) (by omega)]
  refine AxB hv hb d (k+1) _ (by omega) (by simp[ho]) ?_
  intro y hy
  rcases List.mem_append.1 hy with hy|hy
  ·exact hc y hy
  simp only[List.mem_singleton] at hy; subst hy; exact .mk _
theorem AxC {a b:Arr} {n:Nat} {b1:List Int} (hv:Val 0 a) (hb:Val 0 b):∀(d:Nat) (k:Nat) (out:List aA),k+d=a.cells.length->out.length=k->(∀c∈out,uI c)->T (qD (a,b,n,b1,(k:Int),out)) (λr=>r.length=a.cells.length/\∀c∈r,uI c)
 |0,k,out,h,ho,hc=>by
  rw[qD]
  exact T.ite (λh'=>by simp at h'; omega) (λ_=>T.ret ⟨by omega,hc⟩)
 |d+1,k,out,h,ho,hc=>by
  have hle:=hv.i.sized.hi
  rw[qD]
  refine T.ite (λ_=>?_) (λh'=>by simp at h'; omega)
  refine T.bind (T.lget (Q:=Any) (by omega) (by omega) λ_ _=>trivial) (λy _=>?_)
  refine T.bind (BaA (ApO hb)) (λx _=>?_)
  refine T.bind (R:=Any) (T.ite (λ_=>T.any) (λ_=>T.any)) (λv _=>?_)
  refine T.bind (dT (by simp; omega)) (λw hw=>?_)
  subst hw
  rw[aE (by omega) (by omega)]
  refine AxC hv hb d (k+1) _ (by omega) (by simp[ho]) ?_
  intro y hy
  rcases List.mem_append.1 hy with hy|hy
  ·exact hc y hy
  simp only[List.mem_singleton] at hy; subst hy; exact .mk _
theorem BeJ {op:Int} {a b:Arr} {m:Nat}:T (Aa4 op a b) (Res m):=by
 unfold Aa4
 refine T.bind (AxF (by unfold Few; simp)) (λe he=>?_)
 refine T.ite (λh=>T.ret (Res.err (fK h))) (λh=>?_)
 have hv:Val 0 a:=he (dR h) a (by simp)
 have hb:Val 0 b:=he (dR h) b (by simp)
 refine T.ite (λ_=>T.ite (λ_=>T.ret (Res.err (by omega))) (λ_=>?_)) (λ_=>T.ite (λ_=>?_) (λ_=>T.ret (Res.err (by omega))))
 ·refine T.bind (AgR hb.i.sized.rank) (λc hc=>?_)
  subst hc
  refine T.bind (AxB hv hb b.cells.length 0 [] (by omega) rfl (by simp)) (λcs hcs=>?_)
  refine T.bind (uJ rfl) (λsh hsh=>?_)
  subst hsh
  exact T.ret λ_=>Au5 (by rw[hcs.1]; exact hb.i.sized) hb.i.dims hcs.2
 refine T.bind (AgR hv.i.sized.rank) (λc hc=>?_)
 subst hc
 refine T.bind (AxC hv hb a.cells.length 0 [] (by omega) rfl (by simp)) (λcs hcs=>?_)
 refine T.bind (uJ rfl) (λsh hsh=>?_)
 subst hsh
 exact T.ret λ_=>Au5 (by rw[hcs.1]; exact hv.i.sized) hv.i.dims hcs.2
theorem sizeS_of {s:List Int} {n:Int} (h:mD s n):kV s=(n,0):=AuH.sizeS_of h
theorem mD.of {s:List Int} {n:Int} (h8:s.length<=8) (h0:∀d∈s,0<=d/\d<=16384) (hp:aR s=n) (hn:n<=16384):mD s n:=by
 refine⟨h8,λd hd=>(h0 d hd).1,hp,by rw[←hp]; exact mC λd hd=>(h0 d hd).1,hn,λhne d hd=>⟨?_,(h0 d hd).2⟩⟩
 have:=h0 d hd
 by_cases hz:d=0
 ·subst hz
  rw[Aj1 hd] at hp; omega
 omega
theorem ApB {a:Arr} (hv:Val 0 a):T (gU a) (λr=>Val 0 r/\0<r.shape.length/\r.cells=a.cells):=by
 unfold gU
 refine T.bind (R:=λs=>0<s.length/\Val 0 (Arr.mk s a.cells)) (T.ite (λh=>T.ret ?_) (λh=>T.ret ?_)) (λs hs=>T.ret ⟨hs.2,hs.1,rfl⟩)
 ·have:a.shape=[]:=List.length_eq_zero_iff.1 (by
   have:(a.shape.length:Int)=0:=by simpa using h
   omega)
  exact⟨by simp,AnG hv this⟩
 have:(a.shape.length:Int)≠0:=by simpa using h
 exact⟨by omega,by cases a; exact hv⟩
theorem Be3 {a:Arr} (hv:Val 0 a):T (tS a) Any:=by
 unfold tS
 refine T.ite (λ_=>T.any) (λh=>?_)
 obtain⟨c,hc⟩:=xB hv (by simpa using h)
 rw[hc]
 refine T.bind (jK (Q:=Any) trivial) (λ_ _=>T.ite (λ_=>T.any) (λ_=>?_))
 exact T.bind (jK (Q:=Any) trivial) (λ_ _=>T.any)
def AlY (c:aA):Prop:=uI c\/c=aA.mk 1 32 []
theorem AlY.chk {c:aA} (h:AlY c):AcV c 0=0:=by
 rcases h with h|rfl
 ·exact h.chk 0
 rfl
theorem AlY.w {c:aA} (h:AlY c):wC c=0:=by
 rcases h with h|rfl
 ·exact h.w
 rfl
theorem BdO {a:Arr}:T (tQ a) (λr=>AlY r.1):=by
 unfold tQ
 refine T.ite (λ_=>T.ret (.inl (.mk _))) (λh=>?_)
 cases hc:a.cells with
 |nil=>rw[hc] at h; simp at h
 |cons c r=>
  refine T.bind (jK (Q:=Any) trivial) (λ_ _=>T.ite (λ_=>T.ret (.inl (.mk _))) (λ_=>?_))
  exact T.bind (jK (Q:=Any) trivial) (λ_ _=>T.ite (λ_=>T.ret (.inr rfl)) (λ_=>T.ret (.inl (.mk _))))
theorem AmK {a:Arr} {l:List Int} (hf:Few l):∀(r:List Int) (k:Nat) (n:Int),l.drop k=r->lD (a,l,n,(k:Int))=some (dN n r)
 | [],k,n,h=>by
  rw[lD]; simp only[bZ (cC h),fJ,if_false,dN]
 |d::r,k,n,h=>by
  have hk:=cD h
  rw[lD]
  simp only[dH hk,if_true,bN h,oJ,bJ,bW h hf,dN]
  exact AmK hf r (k+1) _ (bC h)
theorem AtP {a:Arr} (h8:a.shape.length<=8) (h:0<a.shape.length):T (qB a) (λk=>k=dN 1 (a.shape.drop 1)):=by
 unfold qB
 refine T.bind (T.lfrom (Q:=λv=>v=a.shape.drop 1) (by omega) (by omega) rfl) (λl hl=>?_)
 subst hl
 exact T.bind (T.val (AmK (by unfold Few; simp; omega) (a.shape.drop 1) 0 1 rfl) (Q:=λv=>v=dN 1 (a.shape.drop 1)) rfl) (λv hv=>T.ret hv)
theorem ApT {a:Arr} (hv:Val 0 a) (h:0<a.shape.length) (hne:a.shape[0]≠0):mD (a.shape.drop 1) (aR (a.shape.drop 1))/\a.shape[0]*aR (a.shape.drop 1)=a.cells.length:=by
 have hz:=hv.i.sized
 have hp0:=hz.pos _ (List.getElem_mem h)
 have hprod:a.shape[0]*aR (a.shape.drop 1)=a.cells.length:=by rw[←Aj0 h]; exact hz.prod
 have hr0:0<=aR (a.shape.drop 1):=mC λd hd=>hz.pos d (List.mem_of_mem_drop hd)
 have:1*aR (a.shape.drop 1)<=a.shape[0]*aR (a.shape.drop 1):=Int.mul_le_mul_of_nonneg_right (by omega) hr0
 have hle:=hz.hi
 have h8:=hz.rank
 exact⟨mD.of (by simp; omega) (λd hd=>⟨hz.pos d (List.mem_of_mem_drop hd),hv.i.dims d (List.mem_of_mem_drop hd)⟩) rfl (by omega),hprod⟩
theorem AcY {a:Arr} {f n:Int} {m:Nat} (hv:Val 0 a) (hm:Cw m a.cells) (h:0<a.shape.length) (h0:0<=f) (h1:0<=n) (h2:f+n<=a.shape[0]):T (kF a f n) (λr=>Val 0 r/\Cw m r.cells):=by
 unfold kF
 have hz:=hv.i.sized
 have h8:=hz.rank
 have hd0:=hv.i.dims _ (List.getElem_mem h)
 have hle:=hz.hi
 refine T.bind (AtP h8 h) (λk hk=>?_)
 refine T.bind (T.lfrom (Q:=λv=>v=a.shape.drop 1) (by omega) (by omega) rfl) (λl hl=>?_)
 subst hl
 refine T.bind (dT (by simp; omega)) (λl1 hl1=>?_)
 subst hl1
 have hdims:∀d∈[n]++a.shape.drop 1,0<=d/\d<=16384:=by
  intro d hd
  rcases List.mem_cons.1 hd with rfl|hd
  ·omega
  exact⟨hz.pos d (List.mem_of_mem_drop hd),hv.i.dims d (List.mem_of_mem_drop hd)⟩
 have key:∃p:Int,0<=p/\n*k=n*p/\f*k=f*p/\(f+n)*k=f*p+n*p/\0<=n*p/\0<=f*p/\f*p+n*p<=a.cells.length/\aR ([n]++a.shape.drop 1)=n*p:=by
  by_cases hne:a.shape[0]=0
  ·have hf:f=0:=by omega
   have hn:n=0:=by omega
   subst hf; subst hn
   refine⟨0,by omega,by simp,by simp,by simp,by simp,by simp,by simp,by simp[aR]⟩
  obtain⟨hs,hp⟩:=ApT hv h hne
  rw[jO hs] at hk
  subst hk
  have:(f+n)*aR (a.shape.drop 1)<=a.shape[0]*aR (a.shape.drop 1):=Int.mul_le_mul_of_nonneg_right h2 hs.lo
  rw[hp,Int.add_mul] at this
  exact⟨_,hs.lo,rfl,rfl,Int.add_mul ..,Int.mul_nonneg h1 hs.lo,Int.mul_nonneg h0 hs.lo,this,rfl⟩
 obtain⟨p,_,e1,e2,e3,g1,g2,g3,g4⟩:=key
 rw[aE (x:=f+n) (by omega) (by omega),e1,e2,e3,aE (x:=n*p) (by omega) (by omega),aE (x:=f*p) (by omega) (by omega),aE (x:=f*p+n*p) (by omega) (by omega)]
 refine T.bind (T.val (by unfold mkarr; rw[if_pos (by omega)]) (Q:=λv=>v.length=(n*p).toNat) (by simp)) (λl2 hl2=>?_)
 refine T.bind (T.val (by unfold Af0; rw[if_pos ⟨g2,by omega,by omega⟩]) (Q:=λv=>v=(a.cells.take (f*p+n*p).toNat).drop (f*p).toNat) rfl) (λl3 hl3=>?_)
 have h3:l3.length=(n*p).toNat:=by subst hl3; rw[List.length_drop,List.length_take]; omega
 refine T.bind (T.val (by unfold Ba4; rw[if_pos ⟨hl2,by omega⟩]) (Q:=λv=>v=l3) (by rw[List.drop_of_length_le (by omega)]; simp)) (λl4 hl4=>?_)
 subst hl4
 refine T.bind (uJ h3) (λcs hcs=>?_)
 subst hcs
 refine T.ret (frv hv hm ?_ (λd hd=>(hdims d hd).2) λc hc=>.inl ?_)
 ·refine mD.of (by simp; omega) hdims ?_ (by omega)
  rw[g4]; omega
 subst hl3
 exact List.mem_of_mem_take (List.mem_of_mem_drop hc)
theorem BhX {a:Arr} {n:Int} {m:Nat} (hv:Val 0 a) (hm:Cw m a.cells):T (yM n a) (λr=>Val 0 r/\Cw m r.cells):=by
 unfold yM
 refine T.bind (ApB hv) (λx hx=>?_)
 obtain⟨hvx,hpos,hc⟩:=hx
 have hmx:Cw m x.cells:=by rw[hc]; exact hm
 have hp0:=hvx.i.sized.pos _ (List.getElem_mem hpos)
 have hd0:=hvx.i.dims _ (List.getElem_mem hpos)
 refine T.bind (T.val (fS (i:=0) hpos) (Q:=λv=>v=x.shape[0]) rfl) (λg hg=>?_)
 subst hg
 refine T.ite (λ_=>T.bind (AcY hvx hmx hpos (by omega) (by omega) (by omega)) (λr hr=>T.ret hr)) (λh1=>?_)
 rw[aE (x:=(0:Int)-x.shape[0]) (by omega) (by omega)]
 refine T.ite (λ_=>T.bind (AcY hvx hmx hpos (by omega) (by omega) (by omega)) (λr hr=>T.ret hr)) (λh2=>?_)
 have h1:n<x.shape[0]:=by simpa using h1
 have h2:(0:Int)-x.shape[0]<n:=by simpa using h2
 rw[aE (x:=x.shape[0]+n) (by omega) (by omega),aE (x:=x.shape[0]-n) (by omega) (by omega)]
 refine T.ite (λh3=>?_) (λh3=>?_)
 ·have h3:n<0:=by simpa using h3
  exact T.bind (AcY hvx hmx hpos (by omega) (by omega) (by omega)) (λr hr=>T.ret hr)
 have h3:0<=n:=by simpa using h3
 exact T.bind (AcY hvx hmx hpos (by omega) (by omega) (by omega)) (λr hr=>T.ret hr)
theorem AsM {n hv x5:Int} {x:Arr} {sh:List Int} {x4:aA} {N:Nat} (hN:N=Int.toNat (w64 ((w64 ((if n<(w64 (0-n)) then (w64 (0-n)) else n)-hv))*x5))) (hN2:N<=16384) (hf:AlY x4) :
  ∀(d:Nat) (i:Nat) (l:List aA),i+d=N->l.length=N->(∀c∈l,AlY c)->T (nE (n,x,hv,sh,x4,x5,(i:Int),l)) (λr=>r.length=N/\∀c∈r,AlY c)
 |0,i,l,h,hl,hc=>by
  rw[nE,←hN]
  exact T.ite (λh'=>by simp at h'; omega) (λ_=>T.ret ⟨hl,hc⟩)
 |d+1,i,l,h,hl,hc=>by
  rw[nE,←hN]
  refine T.ite (λ_=>?_) (λ_=>T.ret ⟨hl,hc⟩)
  refine T.bind (oQ (n:=N) (by omega) (by omega)) (λj hj=>?_)
  refine T.bind (T.val (by unfold aset; rw[if_pos (by omega)]) (Q:=λv=>v=l.set j x4) rfl) (λl2 hl2=>?_)
  subst hl2
  rw[aE (x:=(i:Int)+1) (by omega) (by omega)]
  refine AsM hN hN2 hf d (i+1) _ (by omega) (by simp[hl]) ?_
  intro c hc'
  rcases List.mem_or_eq_of_mem_set hc' with hc' | rfl
  ·exact hc c hc'
  exact hf
theorem BiL {a:Arr} {n:Int} {m:Nat} (hv:Val 0 a) (hm:Cw m a.cells):T (yO n a) (Res m):=by
 unfold yO
 refine T.bind (ApB hv) (λx hx=>?_)
 obtain⟨hvx,hpos,hc⟩:=hx
 have hmx:Cw m x.cells:=by rw[hc]; exact hm
 have hzx:=hvx.i.sized
 have hp0:=hzx.pos _ (List.getElem_mem hpos)
 have hd0:=hvx.i.dims _ (List.getElem_mem hpos)
 have h8:=hzx.rank
 have hle:=hzx.hi
 refine T.ite (λ_=>T.ret (Res.err (by omega))) (λh1=>T.ite (λ_=>T.ret (Res.err (by omega))) (λh2=>?_))
 have h1:n<=16384:=by simpa using h1
 have h2:-16384<=n:=by simpa using h2
 refine T.bind (T.val (fS (i:=0) hpos) (Q:=λv=>v=x.shape[0]) rfl) (λg hg=>?_)
 subst hg
 refine T.bind (T.lfrom (Q:=λv=>v=x.shape.drop 1) (by omega) (by omega) rfl) (λl hl=>?_)
 subst hl
 obtain⟨N,hN⟩:∃N,N=(if n<(w64 (0-n)) then (w64 (0-n)) else n):=⟨_,rfl⟩
 have hN':=hN
 rw[aE (x:=0-n) (by omega) (by omega)] at hN'
 have N0:0<=N:=by split at hN'<;>omega
 have N1:N<=16384:=by split at hN'<;>omega
 rw[←hN]
 refine T.bind (dT (by simp; omega)) (λsh hsh=>?_)
 subst hsh
 refine T.bind (T.val (zJ _) (Q:=λv=>v=kV ([N]++x.shape.drop 1)) rfl) (λz hz=>?_)
 obtain⟨z1,z2⟩:=z
 refine T.ite (λhe=>T.ret (Res.err (fK he))) (λhe=>?_)
 have hS:mD ([N]++x.shape.drop 1) z1:=by
  have h':z2=0:=dR he
  have:=tZ (s:=[N]++x.shape.drop 1) (by rw[←hz]; exact h')
  rw[←hz] at this; exact this
 have hdims:∀d∈[N]++x.shape.drop 1,d<=16384:=by
  intro d hd
  rcases List.mem_cons.1 hd with rfl|hd
  ·exact N1
  exact hvx.i.dims d (List.mem_of_mem_drop hd)
 refine T.ite (λh3=>?_) (λh3=>?_)
 ·have h3:N<=x.shape[0]:=by simpa using h3
  rw[aE (x:=x.shape[0]-N) (by omega) (by omega)]
  exact T.ite (λ_=>T.bind (AcY hvx hmx hpos (by omega) (by omega) (by omega)) (λr hr=>T.ret λ_=>hr)) (λ_=>T.bind (AcY hvx hmx hpos (by omega) (by omega) (by omega)) (λr hr=>T.ret λ_=>hr))
 have h3:x.shape[0]<N:=by simpa using h3
 refine T.bind BdO (λfc hfc=>?_)
 obtain⟨x4,e1⟩:=fc
 refine T.ite (λhe=>T.ret (Res.err (fK he))) (λ_=>?_)
 refine T.bind (AtP h8 hpos) (λk hk=>?_)
 have hp:aR (x.shape.drop 1)=k/\0<=k/\z1=N*k/\x.shape[0]*k=x.cells.length:=by
  have hr0:0<=aR (x.shape.drop 1):=mC λd hd=>hzx.pos d (List.mem_of_mem_drop hd)
  have hz1:=hS.prod
  have hz2:=hS.hi
  simp only[List.singleton_append,aR] at hz1
  have:1*aR (x.shape.drop 1)<=N*aR (x.shape.drop 1):=Int.mul_le_mul_of_nonneg_right (by omega) hr0
  have hs:mD (x.shape.drop 1) (aR (x.shape.drop 1)):=mD.of (by simp; omega) (λd hd=>⟨hzx.pos d (List.mem_of_mem_drop hd),hvx.i.dims d (List.mem_of_mem_drop hd)⟩) rfl (by omega)
  rw[jO hs] at hk
  subst hk
  exact⟨rfl,hr0,hz1.symm,by rw[←Aj0 hpos]; exact hzx.prod⟩
 obtain⟨_,k0,hz1,hxc⟩:=hp
 have hz2:=hS.hi
 have hNk:(N-x.shape[0])*k=N*k-x.shape[0]*k:=Int.sub_mul ..
 have hx0:0<=x.shape[0]*k:=Int.mul_nonneg hp0 k0
 have hNk0:0<=(N-x.shape[0])*k:=Int.mul_nonneg (by omega) k0
 have eW:w64 ((w64 (N-x.shape[0]))*k)=(N-x.shape[0])*k:=by rw[aE (x:=N-x.shape[0]) (by omega) (by omega),aE (by omega) (by omega)]
 refine T.bind (T.val (by unfold mkarr; rw[eW,if_pos (by omega)]) (Q:=λv=>v=List.replicate ((N-x.shape[0])*k).toNat (aA.mk 0 0 [])) rfl) (λmore hmore=>?_)
 subst hmore
 refine T.bind (AsM (N:=((N-x.shape[0])*k).toNat) (by rw[←hN,eW]) (by omega) hfc ((N-x.shape[0])*k).toNat 0 _ (by omega) (by simp) (λc hc=>.inl (by rw[(List.mem_replicate.1 hc).2]; exact .mk _))) (λl3 hl3=>?_)
 rw[eW]
 have fin:∀cs:List aA,cs.length=l3.length+x.cells.length->(∀c∈cs,c∈l3\/c∈x.cells)->Val 0 (Arr.mk ([N]++x.shape.drop 1) cs)/\Cw m (Arr.mk ([N]++x.shape.drop 1) cs).cells:=by
  intro cs h1 h2
  refine⟨AlU ?_ hdims λc hc=>?_,λc hc=>?_⟩
  ·rw[show (cs.length:Int)=z1 by have:=hl3.1; omega]; exact hS
  ·rcases h2 c hc with h|h
   ·exact (hl3.2 c h).chk
   ·exact hvx.i.cells c h
  rcases h2 c hc with h|h
  ·rw[(hl3.2 c h).w]; omega
  exact hmx c h
 have hl31:=hl3.1
 refine T.ite (λ_=>?_) (λ_=>?_)
 ·refine T.bind (uJ hl3.1) (λl1 hl1=>?_)
  subst hl1
  refine T.bind (dT (by omega)) (λl2 hl2=>?_)
  subst hl2
  exact T.ret λ_=>fin _ (by simp) (λc hc=>List.mem_append.1 hc)
 refine T.bind (uJ hl3.1) (λl1 hl1=>?_)
 subst hl1
 refine T.bind (dT (by simp; omega)) (λl2 hl2=>?_)
 subst hl2
 refine T.bind (dT (by simp; omega)) (λl4 hl4=>?_)
 subst hl4
 exact T.ret λ_=>fin _ (by simp; omega) (λc hc=>(List.mem_append.1 hc).symm.imp id (λh=>by simpa using h))
theorem Ai9 {a:Arr} {n ax:Int} {l:List Int} (hf:Few l):∀(r:List Int) (k:Nat) (z:Int),l.drop k=r->jE (n,a,ax,l,z,(k:Int))=some (dN z r)
 | [],k,z,h=>by
  rw[jE]; simp only[bZ (cC h),fJ,if_false,dN]
 |d::r,k,z,h=>by
  have hk:=cD h
  rw[jE]
  simp only[dH hk,if_true,bN h,oJ,bJ,bW h hf,dN]
  exact Ai9 hf r (k+1) _ (bC h)
theorem AkN {a:Arr} {s g o j:Int} (hs:0<s) (hg:0<g) (hj:0<=j) (hj2:j<g) (hN:o*(g*s)=a.cells.length) (hle:(a.cells.length:Int)<=16384):∀(d:Nat) (x:Int) (out:List aA),0<=x->x+d=o->(out.length:Int)=x*(g*s)->(∀c∈out,c∈a.cells) ->
  T (jF (a,s,g,j,x*(g*s),out)) (λr=>r.length=a.cells.length/\∀c∈r,c∈a.cells)
 |0,x,out,h0,hd,hl,hc=>by
  rw[jF]
  have:x=o:=by omega
  subst this
  exact T.ite (λh'=>by simp at h'; omega) (λ_=>T.ret ⟨by omega,hc⟩)
 |d+1,x,out,h0,hd,hl,hc=>by
  have hgs:0<g*s:=Int.mul_pos hg hs
  have h1:0<=x*(g*s):=Int.mul_nonneg h0 (by omega)
  have h2:(x+1)*(g*s)<=o*(g*s):=Int.mul_le_mul_of_nonneg_right (by omega) (by omega)
  have h3:(x+1)*(g*s)=x*(g*s)+g*s:=by rw[Int.add_mul,Int.one_mul]
  have h4:0<=j*s:=Int.mul_nonneg hj (by omega)
  have h5:j*s<=g*s:=Int.mul_le_mul_of_nonneg_right (by omega) (by omega)
  rw[jF]
  refine T.ite (λ_=>?_) (λh'=>by simp at h'; omega)
  rw[aE (x:=g*s) (by omega) (by omega),aE (x:=x*(g*s)+g*s) (by omega) (by omega),aE (x:=j*s) (by omega) (by omega)]
  refine T.bind (T.val (by unfold Af0; rw[if_pos ⟨h1,by omega,by omega⟩]) (Q:=λv=>(v.length:Int)=g*s/\∀c∈v,c∈a.cells) ⟨by rw[List.length_drop,List.length_take]; omega,λc hc=>List.mem_of_mem_take (List.mem_of_mem_drop hc)⟩) (λblk hb=>?_)
  refine T.bind (T.lfrom (Q:=λv=>v=blk.drop (j*s).toNat) h4 (by omega) rfl) (λl1 hl1=>?_)
  subst hl1
  refine T.bind (dT (by simp; omega)) (λl2 hl2=>?_)
  subst hl2
  refine T.bind (T.val (by unfold lto; rw[if_pos ⟨h4,by omega⟩]) (Q:=λv=>v=blk.take (j*s).toNat) rfl) (λl3 hl3=>?_)
  subst hl3
  refine T.bind (dT (by simp; omega)) (λl4 hl4=>?_)
  subst hl4
  rw[←h3]
  refine AkN hs hg hj hj2 hN hle d (x+1) _ (by omega) (by omega) (by rw[h3]; simp; omega) ?_
  intro c hc'
  rcases List.mem_append.1 hc' with hc' | hc'
  ·rcases List.mem_append.1 hc' with hc' |hc'
   ·exact hc c hc'
   ·exact hb.2 c (List.mem_of_mem_drop hc')
  exact hb.2 c (List.mem_of_mem_take hc')
theorem BeQ {n g:Int} (hg:0<g):-g<n.tmod g/\n.tmod g<g:=by
 refine⟨?_,Int.tmod_lt_of_pos _ hg⟩
 have:=Int.tmod_lt_of_pos (-n) hg
 rw[Int.neg_tmod] at this; omega
theorem AsD {a:Arr} {n:Int} {k:Nat} {m:Nat} (hv:Val 0 a) (hm:Cw m a.cells) (hk:k<a.shape.length\/a.shape=[]):T (p_pick_rotated n a (k:Int)) (λr=>Val 0 r/\Cw m r.cells):=by
 unfold p_pick_rotated
 refine T.ite (λ_=>T.ret ⟨hv,hm⟩) (λhc=>T.ite (λ_=>T.ret ⟨hv,hm⟩) (λh0=>?_))
 have hc:(a.cells.length:Int)≠0:=by simpa using hc
 have h0:(a.shape.length:Int)≠0:=by simpa using h0
 have hk:k<a.shape.length:=by
  rcases hk with hk|hk
  ·exact hk
  rw[hk] at h0; simp at h0
 have hz:=hv.i.sized
 have hrk:=hz.rank
 have e0:a.shape=a.shape.take k++([a.shape[k]]++a.shape.drop (k+1)):=by
  rw[List.singleton_append,←List.drop_eq_getElem_cons hk,List.take_append_drop]
 have hz':=hz
 rw[e0] at hz'
 obtain⟨p1,p2,p3,p4⟩:=oO hz' hc
 obtain⟨q1,q2,q3,q4⟩:=oO p2 (by omega)
 have hp:=hz'.prod
 rw[fQ,fQ] at hp
 simp only[aR,Int.mul_one] at hp q1 q3
 rw[show w64 ((k:Int)+1)=((k+1:Nat):Int) from by rw[aE (by omega) (by omega)]; rfl]
 refine T.bind (T.val (v:=a.shape.drop (k+1)) (by unfold lfrom; rw[if_pos (by omega)]; simp) (Q:=λv=>v=a.shape.drop (k+1)) rfl) (λl hl=>?_)
 subst hl
 refine T.bind (T.val (Ai9 (by unfold Few; simp; omega) (a.shape.drop (k+1)) 0 1 rfl) (Q:=λv=>v=aR (a.shape.drop (k+1))) (jO q2)) (λs hs=>?_)
 subst hs
 refine T.bind (T.val (fS hk) (Q:=λv=>v=a.shape[k]) rfl) (λg hg=>?_)
 subst hg
 have hd:=hv.i.dims _ (List.getElem_mem hk)
 have hlim:=BeQ (n:=n) q3
 refine T.bind (T.val (by unfold irem; rw[if_neg (by omega)]) (Q:=λv=>v=n.tmod a.shape[k]) rfl) (λt ht=>?_)
 subst ht
 refine T.bind (R:=λj=>0<=j/\j<a.shape[k]) (T.ite (λh=>?_) (λh=>?_)) (λj hj=>?_)
 ·have h:n.tmod a.shape[k]<0:=by simpa using h
  rw[aE (by omega) (by omega)]
  exact T.ret (by omega)
 ·have h:0<=n.tmod a.shape[k]:=by simpa using h
  exact T.ret ⟨h,hlim.2⟩
 have t:=AkN (a:=a) (s:=aR (a.shape.drop (k+1))) (g:=a.shape[k]) (o:=aR (a.shape.take k)) (j:=j) q4 q3 hj.1 hj.2 hp hz.hi (aR (a.shape.take k)).toNat 0 [] (by omega) (by omega) (by simp) (by simp)
 rw[Int.zero_mul] at t
 exact T.bind t (λr hr=>T.ret (frv hv hm (by rw[hr.1]; exact hz) hv.i.dims λc hc=>.inl (hr.2 c hc)))
theorem ArS {l a:Arr} (hl:Val 0 l) (h:0<a.shape.length):∀(r:List aA) (k:Nat),l.cells.drop k=r->(∀c∈l.cells.take k,0<=c.n/\c.n<a.shape[0])->T (nB (l,a,(k:Int))) (λr=>match r with|.error r=>r.2≠0|.ok _=>∀c∈l.cells,0<=c.n/\c.n<a.shape[0])
 | [],k,hd,hc=>by
  rw[nB]
  simp only[bZ (cC hd),fJ,if_false]
  have:=List.drop_eq_nil_iff.1 hd
  rw[List.take_of_length_le this] at hc
  exact T.ret hc
 |c::r,k,hd,hc=>by
  have hk:=cD hd
  rw[nB]
  simp only[dH hk,if_true,bN hd,oJ,bJ,bW hd hl.fewc]
  refine T.ite (λ_=>T.ret (by simp)) (λ_=>T.ite (λ_=>T.ret (by simp)) (λh1=>?_))
  refine T.bind (T.val (fS (i:=0) h) (Q:=λv=>v=a.shape[0]) rfl) (λg hg=>?_)
  subst hg
  refine T.ite (λ_=>T.ret (by simp)) (λh2=>?_)
  have h1:0<=c.n:=by simpa using h1
  have h2:c.n<a.shape[0]:=by simpa using h2
  refine ArS hl h r (k+1) (bC hd) ?_
  intro x hx
  rw[List.take_add_one,List.mem_append] at hx
  rcases hx with hx|hx
  ·exact hc x hx
  have hdk:l.cells[k]?=some c:=by
   rw[List.drop_eq_getElem_cons (by omega)] at hd
   obtain⟨hd,_⟩:=List.cons.inj hd
   rw[←hd]; simp[show k<l.cells.length by omega]
  rw[hdk] at hx
  simp only[Option.toList_some,List.mem_singleton] at hx
  subst hx
  exact⟨h1,h2⟩
theorem ArT {l a:Arr} {sh:List Int} {k:Int} (hl:Val 0 l) (ha:Val 0 a) (h:0<a.shape.length) (hc:∀c∈l.cells,0<=c.n/\c.n<a.shape[0]) (hk:0<=k) (hN:a.shape[0]*k=a.cells.length) (hT:l.cells.length*k<=16384) :
  ∀(r:List aA) (i:Nat) (out:List aA),l.cells.drop i=r->i<=l.cells.length->(out.length:Int)=i*k->(∀c∈out,c∈a.cells)->T (kN (l,a,sh,k,(i:Int),out)) (λr=>(r.length:Int)=l.cells.length*k/\∀c∈r,c∈a.cells)
 | [],i,out,hd,hi,ho,hm=>by
  rw[kN]
  simp only[bZ (cC hd),fJ,if_false]
  have:=List.drop_eq_nil_iff.1 hd
  exact T.ret ⟨by rw[ho,show i=l.cells.length by omega],hm⟩
 |c::r,i,out,hd,hi,ho,hm=>by
  have hik:=cD hd
  have hle:=ha.i.sized.hi
  have hcm:=hc c (List.mem_of_mem_drop (i:=i) (by rw[hd]; simp))
  have hd0:=ha.i.dims _ (List.getElem_mem h)
  rw[kN]
  simp only[dH hik,if_true,bN hd,oJ,bJ,bW hd hl.fewc]
  have h1:0<=c.n*k:=Int.mul_nonneg hcm.1 hk
  have h2:(c.n+(1:Int))*k<=a.shape[0]*k:=Int.mul_le_mul_of_nonneg_right (by omega) hk
  have h3:(c.n+1)*k=c.n*k+k:=by rw[Int.add_mul,Int.one_mul]
  have h4:((i:Int)+1)*k<=l.cells.length*k:=Int.mul_le_mul_of_nonneg_right (by omega) hk
  have h5:((i:Int)+1)*k=i*k+k:=by rw[Int.add_mul,Int.one_mul]
  rw[aE (x:=c.n+1) (by omega) (by omega),aE (x:=c.n*k) (by omega) (by omega),aE (x:=(c.n+1)*k) (by omega) (by omega)]
  refine T.bind (T.val (by unfold Af0; rw[if_pos ⟨h1,by omega,by omega⟩]) (Q:=λv=>(v.length:Int)=k/\∀c∈v,c∈a.cells) ⟨by rw[List.length_drop,List.length_take]; omega,λc hc=>List.mem_of_mem_take (List.mem_of_mem_drop hc)⟩) (λblk hb=>?_)
  refine T.bind (dT (by omega)) (λl5 hl5=>?_)
  subst hl5
  refine ArT hl ha h hc hk hN hT r (i+1) _ (bC hd) (by omega) (by simp only[List.length_append,Int.natCast_add,Int.natCast_one]; omega) ?_
  intro x hx
  rcases List.mem_append.1 hx with hx|hx
  ·exact hm x hx
  exact hb.2 x hx
theorem BdQ {l a:Arr} {m:Nat} (hl:Val 0 l) (ha:Val 0 a) (hm:Cw m a.cells):T (vH l a) (Res m):=by
 unfold vH
 refine T.ite (λ_=>T.ret (Res.err (by omega))) (λh0=>T.ite (λ_=>T.ret (Res.err (by omega))) (λ_=>?_))
 have hpos:0<a.shape.length:=by
     have:(a.shape.length:Int)≠0:=by simpa using h0
     omega
 have hzl:=hl.i.sized
 have hza:=ha.i.sized
 have hrl:=hzl.rank
 have hra:=hza.rank
 have hll:=hzl.hi
 refine T.bind (ArS hl hpos l.cells 0 rfl (by simp)) (λv hv=>?_)
 match v,hv with
 |.error r,h=>exact T.ret λh'=>absurd h' h
 |.ok _,hc=>
  refine T.bind (dT (by simp; omega)) (λl1 hl1=>?_)
  subst hl1
  refine T.bind (T.lfrom (Q:=λv=>v=a.shape.drop 1) (by omega) (by omega) rfl) (λl2 hl2=>?_)
  subst hl2
  refine T.bind (dT (by simp; omega)) (λl3 hl3=>?_)
  subst hl3
  rw[List.nil_append]
  refine T.bind (T.val (zJ _) (Q:=λv=>v=kV (l.shape++a.shape.drop 1)) rfl) (λz hz=>?_)
  obtain⟨z1,z2⟩:=z
  refine T.ite (λhe=>T.ret (Res.err (fK he))) (λhe=>?_)
  have hS:mD (l.shape++a.shape.drop 1) z1:=by
   have h':z2=0:=dR he
   have:=tZ (s:=l.shape++a.shape.drop 1) (by rw[←hz]; exact h')
   rw[←hz] at this; exact this
  have hdims:∀d∈l.shape++a.shape.drop 1,d<=16384:=by
   intro d hd
   rcases List.mem_append.1 hd with hd|hd
   ·exact hl.i.dims d hd
   exact ha.i.dims d (List.mem_of_mem_drop hd)
  refine T.bind (AtP hra hpos) (λk hk=>?_)
  have hzp:=hS.prod
  rw[fQ,hzl.prod] at hzp
  have fin:∀cs:List aA,(cs.length:Int)=z1->(∀c∈cs,c∈a.cells)->Val 0 (Arr.mk (l.shape++a.shape.drop 1) cs)/\Cw m (Arr.mk (l.shape++a.shape.drop 1) cs).cells:=λcs h1 h2=>frv ha hm (by rw[h1]; exact hS) hdims λc hc=>.inl (h2 c hc)
  by_cases hne:l.cells=[]
  ·rw[kN]
   rw[if_neg (by rw[hne]; simp)]
   refine T.bind (T.ret (Q:=λv=>v=[]) rfl) (λv hv=>?_)
   subst hv
   exact T.ret λ_=>fin [] (by rw[←hzp,hne]; simp) (by simp)
  obtain⟨c,hcm⟩:=List.exists_mem_of_ne_nil _ hne
  have hg:=hc c hcm
  obtain⟨hs,hp⟩:=ApT ha hpos (by omega)
  rw[jO hs] at hk
  subst hk
  have hz2:=hS.hi
  refine T.bind (ArT hl ha hpos hc hs.lo hp (by omega) l.cells 0 [] rfl (by omega) (by simp) (by simp)) (λr hr=>?_)
  exact T.ret λ_=>fin r (by rw[hr.1,hzp]) hr.2
def rB:List Int->Int
 | []=>0
 |d::r=>d+rB r
theorem AxP:∀l m:List Int,rB (l++m)=rB l+rB m
 | [],m=>by simp[rB]
 |d::r,m=>by simp only[List.cons_append,rB,AxP r m]; omega
theorem sD:∀{l:List Int},(∀d∈l,0<=d)->0<=rB l
 | [],_=>by simp[rB]
 |d::r,h=>by have:=h d (by simp); have:=sD (l:=r) λx hx=>h x (by simp[hx]); simp only[rB]; omega
theorem ApW {m:Arr} {n:Int} (hm:Val 0 m):∀(r:List aA) (k:Nat),m.cells.drop k=r->(∀c∈m.cells.take k,0<=c.n)->T (lE (m,n,(k:Int))) (λr=>match r with|.error r=>r.2≠0|.ok _=>∀c∈m.cells,0<=c.n)
 | [],k,hd,hc=>by
  rw[lE]
  simp only[bZ (cC hd),fJ,if_false]
  have:=List.drop_eq_nil_iff.1 hd
  rw[List.take_of_length_le this] at hc
  exact T.ret hc
 |c::r,k,hd,hc=>by
  have hk:=cD hd
  rw[lE]
  simp only[dH hk,if_true,bN hd,oJ,bJ,bW hd hm.fewc]
  refine T.ite (λ_=>T.ret (by simp)) (λ_=>T.ite (λ_=>T.ret (by simp)) (λh1=>?_))
  have h1:0<=c.n:=by simpa using h1
  refine ApW hm r (k+1) (bC hd) ?_
  intro x hx
  rw[List.take_add_one,List.mem_append] at hx
  rcases hx with hx|hx
  ·exact hc x hx
  have hdk:m.cells[k]?=some c:=by
   rw[List.drop_eq_getElem_cons (by omega)] at hd
   obtain⟨hd,_⟩:=List.cons.inj hd
   rw[←hd]; simp[show k<m.cells.length by omega]
  rw[hdk] at hx
  simp only[Option.toList_some,List.mem_singleton] at hx
  subst hx
  exact h1
structure Tm (N k:Nat) (all:Int) (l:List Int):Prop where
 len:l.length=N
 pos:∀v∈l.take k,0<=v
 sum:rB (l.take k)=all
 le:all<=16384
theorem Tm.next {N k:Nat} {all c:Int} {l:List Int} (h:Tm N k all l) (hk:k<N) (h0:0<=c) (h1:all+c<=16384):Tm N (k+1) (all+c) (l.set k c):=by
 have e:(l.set k c).take (k+1)=l.take k++[c]:=by
  rw[List.take_add_one,List.take_set_of_le (Nat.le_refl k),List.getElem?_set_self (by rw[h.len]; exact hk)]; rfl
 refine⟨by simp[h.len],?_,by rw[e,AxP,h.sum]; simp[rB],h1⟩
 rw[e]
 intro v hv
 rcases List.mem_append.1 hv with hv|hv
 ·exact h.pos v hv
 simp only[List.mem_singleton] at hv; subst hv; exact h0
theorem ApX {m:Arr} {N:Nat} (hN:N<=16384) (hc:∀c∈m.cells,0<=c.n) (hne:0<N->0<m.cells.length) (h1:m.shape.length=1->m.cells.length=N):∀(d:Nat) (k:Nat) (all:Int) (l:List Int),k+d=N->Tm N k all l ->
  T (lF (m,(N:Int),all,(k:Int),l)) (λr=>match r with|.error r=>r.2≠0|.ok l=>∃all,Tm N N all l)
 |0,k,all,l,h,hl=>by
  rw[lF]
  have:k=N:=by omega
  subst this
  exact T.ite (λh'=>by simp at h') (λ_=>T.ret ⟨all,hl⟩)
 |d+1,k,all,l,h,hl=>by
  rw[lF]
  have ha0:0<=all:=by rw[←hl.sum]; exact sD hl.pos
  have ha1:=hl.le
  have hp:=hne (by omega)
  refine T.ite (λ_=>?_) (λh'=>by simp at h'; omega)
  refine T.bind (T.lget (Q:=λv=>v∈m.cells) (by omega) (by omega) λ_ h=>List.mem_of_getElem? h) (λy hy=>?_)
  refine T.bind (R:=λr=>0<=r.2.1) (T.ite (λhs=>?_) (λ_=>T.ret (hc y hy))) (λc hcc=>?_)
  ·have hs:m.shape.length=1:=by
    have:(m.shape.length:Int)=1:=by simpa using hs
    omega
   have:=h1 hs
   exact T.bind (T.lget (Q:=λv=>v∈m.cells) (by omega) (by omega) λ_ h=>List.mem_of_getElem? h) (λz hz=>T.ret (hc z hz))
  obtain⟨c0,c1,c2⟩:=c
  have hcc:0<=c1:=hcc
  show T (if decide (c1>w64 (16384-all))=true then _ else _) _
  rw[aE (x:=16384-all) (by omega) (by omega)]
  refine T.ite (λ_=>T.ret (by simp)) (λhle=>?_)
  have hle:c1<=16384-all:=by simpa using hle
  simp only[Int.toNat_natCast]
  refine T.bind (T.val (uA (n:=N) (by omega) (by omega)) (Q:=λv=>v=k) (by omega)) (λj hj=>?_)
  subst hj
  refine T.bind (T.val (by unfold aset; rw[if_pos (by rw[hl.len]; omega)]) (Q:=λv=>v=l.set j c1) rfl) (λl2 hl2=>?_)
  subst hl2
  refine T.bind (T.val (uA (n:=N) (by omega) (by omega)) (Q:=λv=>v=j) (by omega)) (λj1 hj1=>?_)
  subst hj1
  refine T.bind (T.val (v:=c1) (by unfold pQ; rw[List.getElem?_set_self (by rw[hl.len]; omega)]) (Q:=λv=>v=c1) rfl) (λy3 hy3=>?_)
  subst hy3
  rw[aE (x:=all+y3) (by omega) (by omega),aE (x:=(j1:Int)+1) (by omega) (by omega)]
  exact ApX hN hc hne h1 d (j1+1) (all+y3) _ (by omega) (hl.next (by omega) hcc (by omega))
theorem ApY {m:Arr} {N:Nat} (hN:N<=16384) (hc:∀c∈m.cells,0<=c.n) (hne:0<N->0<m.cells.length) (h1:m.shape.length=1->m.cells.length=N):∀(d:Nat) (k:Nat) (all:Int) (l:List Int),k+d=N->Tm N k all l ->
  T (lG (m,(N:Int),all,(k:Int),l)) (λr=>match r with|.error r=>r.2≠0|.ok l=>∃all,Tm N N all l)
 |0,k,all,l,h,hl=>by
  rw[lG]
  have:k=N:=by omega
  subst this
  exact T.ite (λh'=>by simp at h') (λ_=>T.ret ⟨all,hl⟩)
 |d+1,k,all,l,h,hl=>by
  rw[lG]
  have ha0:0<=all:=by rw[←hl.sum]; exact sD hl.pos
  have ha1:=hl.le
  have hp:=hne (by omega)
  refine T.ite (λ_=>?_) (λh'=>by simp at h'; omega)
  refine T.bind (T.lget (Q:=λv=>v∈m.cells) (by omega) (by omega) λ_ h=>List.mem_of_getElem? h) (λy hy=>?_)
  refine T.bind (R:=λr=>0<=r.2.1) (T.ite (λhs=>?_) (λ_=>T.ret (hc y hy))) (λc hcc=>?_)
  ·have hs:m.shape.length=1:=by
    have:(m.shape.length:Int)=1:=by simpa using hs
    omega
   have:=h1 hs
   exact T.bind (T.lget (Q:=λv=>v∈m.cells) (by omega) (by omega) λ_ h=>List.mem_of_getElem? h) (λz hz=>T.ret (hc z hz))
  obtain⟨c0,c1,c2⟩:=c
  have hcc:0<=c1:=hcc
  show T (if decide (c1>w64 (16384-all))=true then _ else _) _
  rw[aE (x:=16384-all) (by omega) (by omega)]
  refine T.ite (λ_=>T.ret (by simp)) (λhle=>?_)
  have hle:c1<=16384-all:=by simpa using hle
  simp only[Int.toNat_natCast]
  refine T.bind (T.val (uA (n:=N) (by omega) (by omega)) (Q:=λv=>v=k) (by omega)) (λj hj=>?_)
  subst hj
  refine T.bind (T.val (by unfold aset; rw[if_pos (by rw[hl.len]; omega)]) (Q:=λv=>v=l.set j c1) rfl) (λl2 hl2=>?_)
  subst hl2
  refine T.bind (T.val (uA (n:=N) (by omega) (by omega)) (Q:=λv=>v=j) (by omega)) (λj1 hj1=>?_)
  subst hj1
  refine T.bind (T.val (v:=c1) (by unfold pQ; rw[List.getElem?_set_self (by rw[hl.len]; omega)]) (Q:=λv=>v=c1) rfl) (λy3 hy3=>?_)
  subst hy3
  rw[aE (x:=all+y3) (by omega) (by omega),aE (x:=(j1:Int)+1) (by omega) (by omega)]
  exact ApY hN hc hne h1 d (j1+1) (all+y3) _ (by omega) (hl.next (by omega) hcc (by omega))
theorem BgM {m:Arr} {N:Nat} (hm:Val 0 m) (hN:N<=16384):T (wM m (N:Int)) (λr=>r.2=0->∃all,Tm N N all r.1):=by
 unfold wM
 refine T.ite (λ_=>T.ret (λh=>by simp at h)) (λhr=>?_)
 have hr:m.shape.length<=1:=by simp at hr; omega
 refine T.bind (ApW hm m.cells 0 rfl (by simp)) (λv hv=>?_)
 have t0:Tm N 0 0 (List.replicate N 0):=⟨by simp,by simp,by simp[rB],by omega⟩
 match v,hv with
 |.error r,h=>exact T.ret λh'=>absurd h' h
 |.ok _,hc=>
  refine T.ite (λh1=>T.ite (λ_=>T.ret (λh=>by simp at h)) (λhn=>?_)) (λh1=>?_)
  ·have hn:(m.cells.length:Int)=N:=dR hn
   refine T.bind (T.val (by unfold mkarr; rw[if_pos (by omega)]) (Q:=λv=>v=List.replicate N 0) (by simp)) (λl hl=>?_)
   subst hl
   refine T.bind (ApX hN hc (λ_=>by omega) (λ_=>by omega) N 0 0 _ (by omega) t0) (λv hv=>?_)
   match v,hv with
   |.error r,h=>exact T.ret λh'=>absurd h' h
   |.ok l,⟨all,h⟩=>exact T.bind (uJ (by rw[h.len]; simp)) (λl4 hl4=>by subst hl4; exact T.ret λ_=>⟨all,h⟩)
  have h1:(m.shape.length:Int)≠1:=by simpa using h1
  obtain⟨c,hcl⟩:=xB hm (by omega)
  refine T.bind (T.val (by unfold mkarr; rw[if_pos (by omega)]) (Q:=λv=>v=List.replicate N 0) (by simp)) (λl hl=>?_)
  subst hl
  refine T.bind (ApY hN hc (λ_=>by rw[hcl]; simp) (λh=>by omega) N 0 0 _ (by omega) t0) (λv hv=>?_)
  match v,hv with
  |.error r,h=>exact T.ret λh'=>absurd h' h
  |.ok l,⟨all,h⟩=>exact T.bind (uJ (by rw[h.len]; simp)) (λl4 hl4=>by subst hl4; exact T.ret λ_=>⟨all,h⟩)
theorem Ax5 {m x:Arr} {k:Nat} {l l1:List Int} (hk:k<l1.length) (hl:l.length<=16384) (hp:∀v∈l,0<=v) (hs:rB l<=16384):∀(r:List Int) (i:Nat) (S:Int),l.drop i=r->0<=S->S+rB r<=16384 ->
  T (hZ (m,x,(k:Int),l,l1,(i:Int),l1.set k S)) (λv=>v=l1.set k (S+rB r))
 | [],i,S,hd,h0,h1=>by
  rw[hZ]
  simp only[bZ (cC hd),fJ,if_false,rB,Int.add_zero]
  exact T.ret rfl
 |d::r,i,S,hd,h0,h1=>by
  have hik:=cD hd
  have hd0:=hp d (List.mem_of_mem_drop (i:=i) (by rw[hd]; simp))
  have hr0:0<=rB r:=sD λv hv=>hp v (List.mem_of_mem_drop (i:=i) (by rw[hd]; simp[hv]))
  simp only[rB] at h1 ⊢
  rw[hZ]
  simp only[dH hik,if_true,bN hd,oJ,bJ,bW hd (by unfold Few; omega)]
  refine T.bind (T.val (uA (n:=l1.length) (by omega) (by omega)) (Q:=λv=>v=k) (by omega)) (λj hj=>?_)
  subst hj
  refine T.bind (T.val (v:=S) (by unfold pQ; rw[List.getElem?_set_self hk]) (Q:=λv=>v=S) rfl) (λy hy=>?_)
  subst hy
  refine T.bind (T.val (uA (n:=l1.length) (by omega) (by omega)) (Q:=λv=>v=j) (by omega)) (λj2 hj2=>?_)
  subst hj2
  rw[aE (x:=y+d) (by omega) (by omega)]
  refine T.bind (T.val (by unfold aset; rw[if_pos (by simpa using hk),List.set_set]) (Q:=λv=>v=l1.set j2 (y+d)) rfl) (λc hc=>?_)
  subst hc
  rw[←Int.add_assoc]
  exact Ax5 hk hl hp hs r (i+1) (y+d) (bC hd) (by omega) (by omega)
theorem AsC {m x:Arr} {l l3 l4:List Int} (hf:Few l4):∀(r:List Int) (k:Nat) (z:Int),l4.drop k=r->iA (m,x,l,l3,l4,z,(k:Int))=some (dN z r)
 | [],k,z,h=>by
  rw[iA]; simp only[bZ (cC h),fJ,if_false,dN]
 |d::r,k,z,h=>by
  have hk:=cD h
  rw[iA]
  simp only[dH hk,if_true,bN h,oJ,bJ,bW h hf,dN]
  exact AsC hf r (k+1) _ (bC h)
theorem Ax8 {m x:Arr} {l l3:List Int} {s at_ x4 k1:Int} (hx:(x.cells.length:Int)<=16384) (hs:0<s) (hat:0<=at_) (h4:0<=x4) (hle:at_+(x4*s+s)<=x.cells.length) (hk1:k1<=16384):∀(d:Nat) (i:Int) (out:List aA),0<=i->i+d=k1->out.length+d*s<=16384->(∀c∈out,c∈x.cells) ->
  T (iC (m,x,l,l3,s,at_,x4,k1,i,out)) (λr=>(r.length:Int)=out.length+d*s/\∀c∈r,c∈x.cells)
 |0,i,out,h0,h,hb,hc=>by
  rw[iC]
  exact T.ite (λh'=>by simp at h'; omega) (λ_=>T.ret ⟨by simp,hc⟩)
 |d+1,i,out,h0,h,hb,hc=>by
  have hxs:0<=x4*s:=Int.mul_nonneg h4 (by omega)
  have e1:(x4+1)*s=x4*s+s:=by rw[Int.add_mul,Int.one_mul]
  have e2:((d+1:Nat):Int)*s=d*s+s:=by rw[Int.natCast_add,Int.add_mul]; simp
  have hds:0<=(d:Int)*s:=Int.mul_nonneg (by omega) (by omega)
  have hx4:x4<=x4*s:=by
   have:x4*1<=x4*s:=Int.mul_le_mul_of_nonneg_left (by omega) h4
   omega
  have hd1:(d:Int)<=d*s:=by
   have:(d:Int)*1<=d*s:=Int.mul_le_mul_of_nonneg_left (by omega) (by omega)
   omega
  rw[e2] at hb ⊢
  rw[iC]
  refine T.ite (λ_=>?_) (λh'=>by simp at h'; omega)
  rw[aE (x:=x4+1) (by omega) (by omega),e1,aE (x:=x4*s) (by omega) (by omega),aE (x:=x4*s+s) (by omega) (by omega),aE (x:=at_+x4*s) (by omega) (by omega),aE (x:=at_+(x4*s+s)) (by omega) (by omega)]
  refine T.bind (T.val (by unfold Af0; rw[if_pos ⟨by omega,by omega,by omega⟩]) (Q:=λv=>(v.length:Int)=s/\∀c∈v,c∈x.cells) ⟨by rw[List.length_drop,List.length_take]; omega,λc hc=>List.mem_of_mem_take (List.mem_of_mem_drop hc)⟩) (λblk hbk=>?_)
  refine T.bind (dT (by omega)) (λl6 hl6=>?_)
  subst hl6
  rw[aE (x:=i+1) (by omega) (by omega)]
  have hlen:((out++blk).length:Int)=out.length+s:=by rw[List.length_append,Int.natCast_add,hbk.1]
  refine T.imp (Ax8 hx hs hat h4 hle hk1 d (i+1) (out++blk) (by omega) (by omega) (by omega) ?_) (λr hr=>⟨by omega,hr.2⟩)
  intro c hc'
  rcases List.mem_append.1 hc' with hc' | hc'
  ·exact hc c hc'
  exact hbk.2 c hc'
theorem Ax7 {m x:Arr} {l l3:List Int} {s at_:Int} (hx:(x.cells.length:Int)<=16384) (hs:0<s) (hat:0<=at_) (hl:l.length<=16384) (hp:∀v∈l,0<=v) (hle:at_+l.length*s<=x.cells.length):∀(r:List Int) (i:Nat) (out:List aA),l.drop i=r->out.length+rB r*s<=16384->(∀c∈out,c∈x.cells) ->
  T (iB (m,x,l,l3,s,at_,(i:Int),out)) (λv=>(v.length:Int)=out.length+rB r*s/\∀c∈v,c∈x.cells)
 | [],i,out,hd,hb,hc=>by
  rw[iB]
  simp only[bZ (cC hd),fJ,if_false,rB]
  exact T.ret ⟨by simp,hc⟩
 |d::r,i,out,hd,hb,hc=>by
  have hik:=cD hd
  have hd0:=hp d (List.mem_of_mem_drop (i:=i) (by rw[hd]; simp))
  have hr0:0<=rB r:=sD λv hv=>hp v (List.mem_of_mem_drop (i:=i) (by rw[hd]; simp[hv]))
  have hrs:0<=rB r*s:=Int.mul_nonneg hr0 (by omega)
  have h4:((i:Int)+1)*s<=l.length*s:=Int.mul_le_mul_of_nonneg_right (by omega) (by omega)
  have h5:((i:Int)+1)*s=i*s+s:=by rw[Int.add_mul,Int.one_mul]
  simp only[rB,Int.add_mul] at hb ⊢
  rw[iB]
  simp only[dH hik,if_true,bN hd,oJ,bJ,bW hd (by unfold Few; omega)]
  have hdle:d<=16384:=by
   have:d*1<=d*s:=Int.mul_le_mul_of_nonneg_left (by omega) hd0
   omega
  have t:=Ax8 (m:=m) (l:=l) (l3:=l3) (k1:=d) hx hs hat (x4:=(i:Int)) (by omega) (by omega) hdle d.toNat 0 out (by omega) (by omega) (by rw[Int.toNat_of_nonneg hd0]; omega) hc
  rw[Int.toNat_of_nonneg hd0] at t
  refine T.bind t (λv hv=>?_)
  exact T.imp (Ax7 hx hs hat hl hp hle r (i+1) v (bC hd) (by omega) hv.2) (λw hw=>⟨by omega,hw.2⟩)
theorem Ax6 {m x:Arr} {l l3:List Int} {s o:Int} (hx:(x.cells.length:Int)<=16384) (hs:0<s) (hg:0<l.length) (hp:∀v∈l,0<=v) (hN:o*(l.length*s)=x.cells.length) (hb:o*(rB l*s)<=16384):∀(d:Nat) (y:Int) (out:List aA),0<=y->y+d=o->(out.length:Int)=y*(rB l*s)->(∀c∈out,c∈x.cells) ->
  T (p_pick_repeated_l2 (m,x,l,l3,s,y*(l.length*s),out)) (λv=>(v.length:Int)=o*(rB l*s)/\∀c∈v,c∈x.cells)
 |0,y,out,h0,h,ho,hc=>by
  rw[p_pick_repeated_l2]
  have:y=o:=by omega
  subst this
  exact T.ite (λh'=>by simp at h'; omega) (λ_=>T.ret ⟨by omega,hc⟩)
 |d+1,y,out,h0,h,ho,hc=>by
  have hgs:0<(l.length:Int)*s:=Int.mul_pos (by omega) hs
  have hlg:(l.length:Int)<=l.length*s:=by
   have:(l.length:Int)*1<=l.length*s:=Int.mul_le_mul_of_nonneg_left (by omega) (by omega)
   omega
  have h1:0<=y*(l.length*s):=Int.mul_nonneg h0 (by omega)
  have h2:(y+1)*(l.length*s)<=o*(l.length*s):=Int.mul_le_mul_of_nonneg_right (by omega) (by omega)
  have h3:(y+1)*(l.length*s)=y*(l.length*s)+l.length*s:=by rw[Int.add_mul,Int.one_mul]
  have hss:0<=rB l*s:=Int.mul_nonneg (sD hp) (by omega)
  have h4:(y+1)*(rB l*s)<=o*(rB l*s):=Int.mul_le_mul_of_nonneg_right (by omega) hss
  have h5:(y+1)*(rB l*s)=y*(rB l*s)+rB l*s:=by rw[Int.add_mul,Int.one_mul]
  rw[p_pick_repeated_l2]
  refine T.ite (λ_=>?_) (λh'=>by simp at h'; omega)
  refine T.bind (Ax7 hx hs h1 (by omega) hp (by omega) l 0 out rfl (by omega) hc) (λv hv=>?_)
  rw[aE (x:=(l.length:Int)*s) (by omega) (by omega),aE (x:=y*(l.length*s)+l.length*s) (by omega) (by omega),←h3]
  exact Ax6 hx hs hg hp hN hb d (y+1) v (by omega) (by omega) (by rw[hv.1]; omega) hv.2
theorem AsH {s:List Int} {k:Nat} {v:Int} (hk:k<s.length):s.set k v=s.take k++([v]++s.drop (k+1)):=by
 rw[List.set_eq_take_append_cons_drop,if_pos hk]; rfl
theorem Ah5 {s:List Int} {k:Nat} (hk:k<s.length):s=s.take k++([s[k]]++s.drop (k+1)):=by
 rw[List.singleton_append,←List.drop_eq_getElem_cons hk,List.take_append_drop]
theorem AyZ {m a:Arr} {last:Bool} {w:Nat} (hm:Val 0 m) (ha:Val 0 a) (hw:Cw w a.cells):T (qR m a last) (Res w):=by
 unfold qR
 refine T.bind (ApB ha) (λx hx=>?_)
 obtain⟨hv,hpos,hc⟩:=hx
 have hmx:Cw w x.cells:=by rw[hc]; exact hw
 have hz:=hv.i.sized
 have h8:=hz.rank
 have hle:=hz.hi
 refine T.bind (R:=λv=>∃k:Nat,v=(k:Int)/\k<x.shape.length) (T.ite (λ_=>T.ret ⟨x.shape.length-1,by rw[aE (by omega) (by omega)]; omega,by omega⟩) (λ_=>T.ret ⟨0,rfl,hpos⟩)) (λax hax=>?_)
 obtain⟨k,rfl,hk⟩:=hax
 refine T.bind (T.val (fS hk) (Q:=λv=>v=x.shape[k]) rfl) (λg hg=>?_)
 subst hg
 have hp0:=hz.pos _ (List.getElem_mem hk)
 have hd0:=hv.i.dims _ (List.getElem_mem hk)
 obtain⟨N,hN⟩:∃N:Nat,(N:Int)=x.shape[k]:=⟨x.shape[k].toNat,by omega⟩
 have ht:=BgM (N:=N) hm (by omega)
 rw[←hN]
 refine T.bind ht (λr hr=>?_)
 obtain⟨l,e⟩:=r
 refine T.ite (λhe=>T.ret (Res.err (fK he))) (λhe=>?_)
 obtain⟨all,t⟩:=hr (dR he)
 have t1:=t.len
 have hlt:l.take N=l:=List.take_of_length_le (by simp only at t1; omega)
 have t2:∀v∈l,0<=v:=by have:=t.pos; simp only at this; rw[hlt] at this; exact this
 have t3:rB l=all:=by have:=t.sum; simp only at this; rw[hlt] at this; exact this
 have t4:=t.le
 simp only at t1
 have hs0:0<=rB l:=sD t2
 refine T.bind (dT (by simp; omega)) (λl1 hl1=>?_)
 subst hl1
 rw[List.nil_append]
 refine T.bind (T.val (uA (n:=x.shape.length) (by omega) (by omega)) (Q:=λv=>v=k) (by omega)) (λj hj=>?_)
 subst hj
 refine T.bind (T.val (by unfold aset; rw[if_pos hk]) (Q:=λv=>v=x.shape.set j 0) rfl) (λl2 hl2=>?_)
 subst hl2
 refine T.bind (Ax5 hk (by omega) t2 (by omega) l 0 0 rfl (by omega) (by omega)) (λc hcc=>?_)
 subst hcc
 rw[Int.zero_add]
 refine T.bind (uJ (by simp)) (λl3 hl3=>?_)
 have hl3':l3=x.shape.take j++([rB l]++x.shape.drop (j+1)):=by rw[hl3,AsH hk]
 refine T.bind (T.val (zJ l3) (Q:=λv=>v=kV l3) rfl) (λz hzz=>?_)
 obtain⟨z1,z2⟩:=z
 refine T.ite (λhe=>T.ret (Res.err (fK he))) (λhe=>?_)
 have hS:mD l3 z1:=by
  have h':z2=0:=dR he
  have:=tZ (s:=l3) (by rw[←hzz]; exact h')
  rw[←hzz] at this; exact this
 have hdims:∀d∈l3,d<=16384:=by
  intro d hd
  rw[hl3'] at hd
  rcases List.mem_append.1 hd with hd|hd
  ·exact hv.i.dims d (List.mem_of_mem_take hd)
  rcases List.mem_cons.1 hd with rfl|hd
  ·omega
  exact hv.i.dims d (List.mem_of_mem_drop hd)
 have fin:∀cs:List aA,(cs.length:Int)=z1->(∀c∈cs,c∈x.cells)->Val 0 (Arr.mk l3 cs)/\Cw w (Arr.mk l3 cs).cells:=λcs h1 h2=>frv hv hmx (by rw[h1]; exact hS) hdims λc hc=>.inl (h2 c hc)
 have hzp:=hS.prod
 have hz2:=hS.hi
 rw[hl3',fQ,fQ] at hzp
 simp only[aR,Int.mul_one] at hzp
 have hxp:=hz.prod
 rw[Ah5 hk,fQ,fQ,←hN] at hxp
 simp only[aR,Int.mul_one] at hxp
 rw[show w64 ((j:Int)+1)=((j+1:Nat):Int) from by rw[aE (by omega) (by omega)]; rfl]
 refine T.bind (T.val (v:=x.shape.drop (j+1)) (by unfold lfrom; rw[if_pos (by omega)]; simp) (Q:=λv=>v=x.shape.drop (j+1)) rfl) (λl4 hl4=>?_)
 subst hl4
 refine T.bind (T.val (AsC (by unfold Few; simp; omega) (x.shape.drop (j+1)) 0 1 rfl) (Q:=λv=>v=dN 1 (x.shape.drop (j+1))) rfl) (λs hs=>?_)
 by_cases hne:x.cells.length=0
 ·rw[p_pick_repeated_l2]
  rw[if_neg (by simp[hne])]
  refine T.bind (T.ret (Q:=λv=>v=[]) rfl) (λv hv'=>?_)
  subst hv'
  refine T.ret λ_=>fin [] ?_ (by simp)
  rw[hne] at hxp
  rw[←hzp]
  rcases Int.mul_eq_zero.1 hxp with h|h
  ·rw[h]; simp
  rcases Int.mul_eq_zero.1 h with h|h
  ·have:l=[]:=List.length_eq_zero_iff.1 (by omega)
   rw[this]; simp[rB]
  rw[h]; simp
 have hz':=hz
 rw[Ah5 hk] at hz'
 obtain⟨p1,p2,p3,p4⟩:=oO hz' (by omega)
 obtain⟨q1,q2,q3,q4⟩:=oO p2 (by omega)
 simp only[aR,Int.mul_one] at q3
 rw[jO q2] at hs
 subst hs
 have t:=Ax6 (m:=m) (x:=x) (l:=l) (l3:=l3) (s:=aR (x.shape.drop (j+1))) (o:=aR (x.shape.take j)) hle q4 (by omega) t2 (by rw[t1]; exact hxp) (by omega) (aR (x.shape.take j)).toNat 0 [] (by omega) (by omega) (by simp) (by simp)
 rw[Int.zero_mul] at t
 exact T.bind t (λr hr=>T.ret λ_=>fin r (by rw[hr.1]; exact hzp) hr.2)
theorem Bc4 {s:List Int} (h:(kV s).2≠0):(kV s).1=0:=by
 unfold kV at h ⊢
 split
 ·rfl
 rename_i h8
 rw[if_neg h8] at h
 cases hn:yV false s with
 |error r=>
  have:∀{l:List Int} {b:Bool} {r},yV b l=.error r->r.1=0:=by
   intro l
   induction l with
   |nil=>intro b r h; simp[yV] at h
   |cons d t ih=>
    intro b r h
    simp only[yV] at h
    split at h
    ·cases h; rfl
    exact ih h
  exact this hn
 |ok b=>
  cases b with
  |true=>rfl
  |false=>
   simp only
   rw[hn] at h
   cases hs:vK 1 s with
   |error r=>
    have:∀{l:List Int} {n:Int} {r},vK n l=.error r->r.1=0:=by
     intro l
     induction l with
     |nil=>intro n r h; simp[vK] at h
     |cons d t ih=>
      intro n r h
      simp only[vK] at h
      split at h
      ·cases h; rfl
      exact ih h
    exact this hs
   |ok n=>rw[hs] at h; simp at h
theorem AdH {s:List Int} {k:Nat} (h8:s.length<=8) (hk:k<s.length):T (p_pick_without s (k:Int)) (λr=>r=s.take k++s.drop (k+1)):=by
 unfold p_pick_without
 refine T.bind (T.val (by unfold lto; rw[if_pos ⟨by omega,by omega⟩]) (Q:=λv=>v=s.take k) (by simp)) (λl hl=>?_)
 subst hl
 refine T.bind (dT (by simp; omega)) (λl1 hl1=>?_)
 subst hl1
 rw[show w64 ((k:Int)+1)=((k+1:Nat):Int) from by rw[aE (by omega) (by omega)]; rfl]
 refine T.bind (T.val (v:=s.drop (k+1)) (by unfold lfrom; rw[if_pos (by omega)]; simp) (Q:=λv=>v=s.drop (k+1)) rfl) (λl2 hl2=>?_)
 subst hl2
 refine T.bind (dT (by simp; omega)) (λl3 hl3=>?_)
 subst hl3
 exact T.ret (by simp)
theorem AzA {s:List Int} {k:Nat} (h8:s.length<=8) (hk:k<=s.length):T (p_pick_with s (k:Int)) (λr=>r=s.take k++([1]++s.drop k)):=by
 unfold p_pick_with
 refine T.bind (T.val (by unfold lto; rw[if_pos ⟨by omega,by omega⟩]) (Q:=λv=>v=s.take k) (by simp)) (λl hl=>?_)
 subst hl
 refine T.bind (dT (by simp; omega)) (λl1 hl1=>?_)
 subst hl1
 refine T.bind (dT (by simp; omega)) (λl2 hl2=>?_)
 subst hl2
 refine T.bind (T.val (v:=s.drop k) (by unfold lfrom; rw[if_pos (by omega)]; simp) (Q:=λv=>v=s.drop k) rfl) (λl3 hl3=>?_)
 subst hl3
 refine T.bind (dT (by simp; omega)) (λl4 hl4=>?_)
 subst hl4
 exact T.ret (by simp)
theorem AmT {a:Arr} {sh:List Int} {n:Int} (hn:n<=16384) (hne:0<a.cells.length):∀(d:Nat) (i:Int) (out:List aA),0<=i->i+d=max n i->(out.length:Int)=i->(∀c∈out,c∈a.cells)->T (jY (a,sh,n,i,out)) (λr=>(r.length:Int)=max n i/\∀c∈r,c∈a.cells)
 |0,i,out,h0,h,ho,hc=>by
  rw[jY]
  exact T.ite (λh'=>by simp at h'; omega) (λ_=>T.ret ⟨by omega,hc⟩)
 |d+1,i,out,h0,h,ho,hc=>by
  rw[jY]
  refine T.ite (λ_=>?_) (λh'=>by simp at h'; omega)
  refine T.bind (T.lget (Q:=λv=>v∈a.cells) (by omega) (by omega) λ_ h=>List.mem_of_getElem? h) (λc hcm=>?_)
  refine T.bind (dT (by simp; omega)) (λl hl=>?_)
  subst hl
  rw[Ae2 h0 (by omega)]
  refine T.imp (AmT hn hne d (i+1) _ (by omega) (by omega) (by simp; omega) ?_) (λr hr=>⟨by omega,hr.2⟩)
  intro y hy
  rcases List.mem_append.1 hy with hy|hy
  ·exact hc y hy
  simp only[List.mem_singleton] at hy; subst hy; exact hcm
structure Aq2 (src:List aA) (k:Nat) (x:Arr):Prop where
 ax:k<x.shape.length
 rank:x.shape.length<=8
 dims:∀d∈x.shape,0<=d/\d<=16384
 len:(x.cells.length:Int)=(kV x.shape).1
 mem:∀c∈x.cells,c∈src
theorem AxM {a:Arr} {sh:List Int} {k:Nat} (hne:0<a.cells.length) (h1:k<sh.length) (h2:sh.length<=8) (h3:∀d∈sh,0<=d/\d<=16384):T (iU a sh) (λr=>r.shape=sh/\Aq2 a.cells k r):=by
 unfold iU
 refine T.bind (T.val (zJ sh) (Q:=λv=>v=kV sh) rfl) (λz hz=>?_)
 obtain⟨n,e⟩:=z
 have hn:0<=n/\n<=16384:=by
  by_cases h:(kV sh).2=0
  ·have:=tZ h
   rw[←hz] at this
   exact⟨this.lo,this.hi⟩
  have:=Bc4 h
  rw[←hz] at this
  simp only at this; omega
 refine T.bind (AmT hn.2 hne n.toNat 0 [] (by omega) (by omega) (by simp) (by simp)) (λr hr=>?_)
 exact T.ret ⟨rfl,h1,h2,h3,by show (r.length:Int)=(kV sh).1; rw[←hz]; simp only; omega,hr.2⟩
theorem yF {a:Arr} (hv:Val 0 a) {k:Nat} (hk:k<a.shape.length):Aq2 a.cells k a:=
 ⟨hk,hv.i.sized.rank,λd hd=>⟨hv.i.sized.pos d hd,hv.i.dims d hd⟩,by rw[sizeS_of hv.i.sized],λc hc=>hc⟩
theorem ArV {a:Arr} (hv:Val 0 a) {k:Nat} (hk:k<=a.shape.length) (h8:a.shape.length<8):Aq2 a.cells k (Arr.mk (a.shape.take k++([1]++a.shape.drop k)) a.cells):=by
 have hz:=hv.i.sized
 have hd:∀d∈a.shape.take k++([1]++a.shape.drop k),0<=d/\d<=16384:=by
  intro d hd
  rcases List.mem_append.1 hd with hd|hd
  ·exact⟨hz.pos d (List.mem_of_mem_take hd),hv.i.dims d (List.mem_of_mem_take hd)⟩
  rcases List.mem_cons.1 hd with rfl|hd
  ·omega
  exact⟨hz.pos d (List.mem_of_mem_drop hd),hv.i.dims d (List.mem_of_mem_drop hd)⟩
 have hl:(a.shape.take k++([1]++a.shape.drop k)).length=a.shape.length+1:=by simp; omega
 have hs:mD (a.shape.take k++([1]++a.shape.drop k)) a.cells.length:=by
  refine mD.of (by omega) hd ?_ hz.hi
  rw[fQ,fQ,←hz.prod]
  simp only[aR,Int.mul_one,Int.one_mul]
  rw[←fQ,List.take_append_drop]
 refine⟨?_,?_,hd,?_,λc hc=>hc⟩
 ·show k<(a.shape.take k++([1]++a.shape.drop k)).length
  omega
 ·show (a.shape.take k++([1]++a.shape.drop k)).length<=8
  omega
 show (a.cells.length:Int)=(kV (a.shape.take k++([1]++a.shape.drop k))).1
 rw[sizeS_of hs]
theorem BaH {a b:Arr} {k:Nat} (ha:Val 0 a) (hb:Val 0 b) (hk:k<a.shape.length\/k<b.shape.length) (hk2:(a.shape.length:Int)-b.shape.length=1->k<=b.shape.length) (hk3:(a.shape.length:Int)-b.shape.length=-1->k<=a.shape.length) :
  T ((if ((List.length a.shape:Int)==0) then
     p_pick_without b.shape (k:Int)>>=λx2=>
     p_pick_with x2 (k:Int)>>=λx3=>
     iU a x3>>=λx4=>
     some (.ok (b.shape,b.cells,x4.shape,x4.cells))
    else
     if ((List.length b.shape:Int)==0) then
      p_pick_without a.shape (k:Int)>>=λx5=>
      p_pick_with x5 (k:Int)>>=λx6=>
      iU b x6>>=λx7=>
      some (.ok (x7.shape,x7.cells,a.shape,a.cells))
     else
      if ((w64 ((List.length a.shape:Int)-(List.length b.shape:Int)))==1) then
       p_pick_with b.shape (k:Int)>>=λx8=>
       some (.ok (x8,b.cells,a.shape,a.cells))
      else
       if ((w64 ((List.length a.shape:Int)-(List.length b.shape:Int)))==(-1)) then
        p_pick_with a.shape (k:Int)>>=λx9=>
        some (.ok (b.shape,b.cells,x9,a.cells))
       else
        if ((w64 ((List.length a.shape:Int)-(List.length b.shape:Int))) != 0) then
         some (.error (a,b,(0:Int),(6:Int)))
        else
         some (.ok (b.shape,b.cells,a.shape,a.cells)):Option (Except (Arr×Arr×Int×Int) ((List Int)×(List aA)×(List Int)×(List aA)))))
   (λr=>match r with|.error r=>r.2.2.2≠0|.ok r=>Aq2 b.cells k (.mk r.1 r.2.1)/\Aq2 a.cells k (.mk r.2.2.1 r.2.2.2)/\r.1.length=r.2.2.1.length):=by
 have hra:=ha.i.sized.rank
 have hrb:=hb.i.sized.rank
 have E:∀{x:Arr},Arr.mk x.shape x.cells=x:=λ{x}=>by cases x; rfl
 have one:∀{c:Arr},Val 0 c->k<c.shape.length->T (p_pick_without c.shape (k:Int)>>=λx2=>p_pick_with x2 (k:Int)) (λr=>k<r.length/\r.length=c.shape.length/\∀d∈r,0<=d/\d<=16384):=by
  intro c hc hkc
  have hrc:=hc.i.sized.rank
  refine T.bind (AdH hrc hkc) (λx hx=>?_)
  subst hx
  refine T.imp (AzA (by simp; omega) (by simp; omega)) (λr hr=>?_)
  subst hr
  refine⟨by simp; omega,by simp; omega,?_⟩
  intro d hd
  have hm:∀d∈c.shape.take k++c.shape.drop (k+1),0<=d/\d<=16384:=by
   intro d hd
   rcases List.mem_append.1 hd with hd|hd
   ·exact⟨hc.i.sized.pos d (List.mem_of_mem_take hd),hc.i.dims d (List.mem_of_mem_take hd)⟩
   exact⟨hc.i.sized.pos d (List.mem_of_mem_drop hd),hc.i.dims d (List.mem_of_mem_drop hd)⟩
  rcases List.mem_append.1 hd with hd|hd
  ·exact hm d (List.mem_of_mem_take hd)
  rcases List.mem_cons.1 hd with rfl|hd
  ·omega
  exact hm d (List.mem_of_mem_drop hd)
 refine T.ite (λh1=>?_) (λh1=>T.ite (λh2=>?_) (λh2=>?_))
 ·have h1:a.shape.length=0:=by
          have:(a.shape.length:Int)=0:=dR (by simpa using h1)
          omega
  obtain⟨c,hc⟩:=xB ha (by omega)
  obtain⟨s,hs1,hs2⟩:=one hb (by omega)
  have hbind:∀{β:Type} (f:List Int->Option β),(p_pick_without b.shape (k:Int)>>=λx2=>p_pick_with x2 (k:Int)>>=f)=f s:=by
   intro β f
   cases hw:p_pick_without b.shape (k:Int) with
   |none=>rw[hw] at hs1; simp at hs1
   |some v=>
    rw[hw] at hs1
    simp only[oJ,bJ] at hs1 ⊢
    rw[hs1]; rfl
  rw[hbind]
  refine T.bind (AxM (a:=a) (by rw[hc]; simp) hs2.1 (by omega) hs2.2.2) (λr hr=>T.ret ⟨by rw[E]; exact yF hb (by omega),by rw[E]; exact hr.2,?_⟩)
  simp only; rw[hr.1]; omega
 ·have h1:a.shape.length≠0:=by
          have:(a.shape.length:Int)≠0:=by simpa using h1
          omega
  have h2:b.shape.length=0:=by
          have:(b.shape.length:Int)=0:=dR (by simpa using h2)
          omega
  obtain⟨c,hc⟩:=xB hb (by omega)
  obtain⟨s,hs1,hs2⟩:=one ha (by omega)
  have hbind:∀{β:Type} (f:List Int->Option β),(p_pick_without a.shape (k:Int)>>=λx2=>p_pick_with x2 (k:Int)>>=f)=f s:=by
   intro β f
   cases hw:p_pick_without a.shape (k:Int) with
   |none=>rw[hw] at hs1; simp at hs1
   |some v=>
    rw[hw] at hs1
    simp only[oJ,bJ] at hs1 ⊢
    rw[hs1]; rfl
  rw[hbind]
  refine T.bind (AxM (a:=b) (by rw[hc]; simp) hs2.1 (by omega) hs2.2.2) (λr hr=>T.ret ⟨by rw[E]; exact hr.2,by rw[E]; exact yF ha (by omega),?_⟩)
  simp only; rw[hr.1]; omega
 rw[aE (by omega) (by omega)]
 refine T.ite (λh3=>?_) (λh3=>T.ite (λh4=>?_) (λh4=>T.ite (λh5=>T.ret (by simp)) (λh5=>?_)))
 ·have h3:(a.shape.length:Int)-b.shape.length=1:=dR (by simpa using h3)
  have hk':=hk2 h3
  refine T.bind (AzA hrb hk') (λr hr=>?_)
  subst hr
  exact T.ret ⟨ArV hb hk' (by omega),by rw[E]; exact yF ha (by omega),by simp; omega⟩
 ·have h4:(a.shape.length:Int)-b.shape.length=-1:=dR (by simpa using h4)
  have hk':=hk3 h4
  refine T.bind (AzA hra hk') (λr hr=>?_)
  subst hr
  exact T.ret ⟨by rw[E]; exact yF hb (by omega),ArV ha hk' (by omega),by simp; omega⟩
 have h5:(a.shape.length:Int)-b.shape.length=0:=dR h5
 exact T.ret ⟨by rw[E]; exact yF hb (by omega),by rw[E]; exact yF ha (by omega),by simp only; omega⟩
theorem ArY {ax:Int} {x0 x01:List Int} {x11 x12:List aA} {p q:List Int} (hp:p.length<=8) (hq:q.length=p.length):∀(d k:Nat),k+d=p.length->T (nC (ax,x0,x11,x01,x12,p,q,(k:Int))) (λr=>match r with|.error r=>r.2.2.2≠0|.ok _=>p.drop k=q.drop k)
 |0,k,h=>by
  rw[nC]
  exact T.ite (λh'=>by simp at h'; omega) (λ_=>T.ret (by rw[List.drop_eq_nil_of_le (by omega),List.drop_eq_nil_of_le (by omega)]))
 |d+1,k,h=>by
  rw[nC]
  refine T.ite (λ_=>?_) (λh'=>by simp at h'; omega)
  refine T.bind (T.val (fS (i:=k) (by omega)) (Q:=λv=>v=p[k]'(by omega)) rfl) (λv hv=>?_)
  refine T.bind (T.val (fS (i:=k) (by omega)) (Q:=λv=>v=q[k]'(by omega)) rfl) (λw hw=>?_)
  refine T.ite (λ_=>T.ret (by simp)) (λhe=>?_)
  have he:v=w:=dR he
  rw[aE (by omega) (by omega)]
  refine T.imp (ArY hp hq d (k+1) (by omega)) (λr hr=>?_)
  match r,hr with
  |.error r,h=>exact h
  |.ok _,h=>
   simp only at h ⊢
   rw[List.drop_eq_getElem_cons (by omega),List.drop_eq_getElem_cons (l:=q) (by omega),h,←hv,←hw,he]
theorem ArZ {ax:Int} {x0 x01:List Int} {x11 x12:List aA} {p q:List Int} (hp:p.length<=8) (hq:q.length=p.length):∀(d k:Nat),k+d=p.length->T (nD (ax,x0,x11,x01,x12,p,q,(k:Int))) (λr=>match r with|.error r=>r.2.2.2≠0|.ok _=>p.drop k=q.drop k)
 |0,k,h=>by
  rw[nD]
  exact T.ite (λh'=>by simp at h'; omega) (λ_=>T.ret (by rw[List.drop_eq_nil_of_le (by omega),List.drop_eq_nil_of_le (by omega)]))
 |d+1,k,h=>by
  rw[nD]
  refine T.ite (λ_=>?_) (λh'=>by simp at h'; omega)
  refine T.bind (T.val (fS (i:=k) (by omega)) (Q:=λv=>v=p[k]'(by omega)) rfl) (λv hv=>?_)
  refine T.bind (T.val (fS (i:=k) (by omega)) (Q:=λv=>v=q[k]'(by omega)) rfl) (λw hw=>?_)
  refine T.ite (λ_=>T.ret (by simp)) (λhe=>?_)
  have he:v=w:=dR he
  rw[aE (by omega) (by omega)]
  refine T.imp (ArZ hp hq d (k+1) (by omega)) (λr hr=>?_)
  match r,hr with
  |.error r,h=>exact h
  |.ok _,h=>
   simp only at h ⊢
   rw[List.drop_eq_getElem_cons (by omega),List.drop_eq_getElem_cons (l:=q) (by omega),h,←hv,←hw,he]
structure Alike (a b:Arr) (k:Nat) (x y:Arr):Prop where
 l:Aq2 a.cells k x
 r:Aq2 b.cells k y
 rank:x.shape.length=y.shape.length
 lo:x.shape.take k=y.shape.take k
 hi:x.shape.drop (k+1)=y.shape.drop (k+1)
def BiS (a b:Arr) (r:Arr×Arr×Int×Int):Prop:=r.2.2.2=0->∃k:Nat,r.2.2.1=k/\Alike a b k r.1 r.2.1
theorem AnU {a b:Arr} {k:Nat} {x y:Arr} (hl:Aq2 a.cells k x) (hr:Aq2 b.cells k y) (h:y.shape.length=x.shape.length) (he:x.shape.take k++x.shape.drop (k+1)=y.shape.take k++y.shape.drop (k+1)):Alike a b k x y:=by
 have h1:=hl.ax; have h2:=hr.ax
 obtain⟨e1,e2⟩:=List.append_inj he (by simp; omega)
 exact⟨hl,hr,h.symm,e1,e2⟩
theorem Ba6 {a:Arr} (h:a.shape.length=0):gU a=some (Arr.mk [1] a.cells):=by
 unfold gU
 rw[if_pos (by simp[h])]; rfl
theorem BcV {a b:Nat} {last:Bool} (h:0<max a b) (h8:max a b<=8):T (if last then some (w64 ((if (a:Int)<(b:Int) then (b:Int) else (a:Int))-1)) else some 0) (λv=>∃k:Nat,v=(k:Int)/\(k<a\/k<b)/\((a:Int)-b=1->k<=b)/\((a:Int)-b=-1->k<=a)):=by
 refine T.ite (λ_=>T.ret ⟨max a b-1,?_,by omega,by omega,by omega⟩) (λ_=>T.ret ⟨0,rfl,by omega,by omega,by omega⟩)
 rw[aE (by split<;>omega) (by split<;>omega)]
 split<;>omega
theorem BiB {a b:Arr} {last:Bool} (ha:Val 0 a) (hb:Val 0 b):T (yN a b last) (BiS a b):=by
 unfold yN
 have hra:=ha.i.sized.rank
 have hrb:=hb.i.sized.rank
 refine T.ite (λh1=>T.ite (λh2=>?_) (λh2=>?_)) (λh1=>?_)
 ·have h1:a.shape.length=0:=by
    have:(a.shape.length:Int)=0:=by simpa using h1
    omega
  have h2:b.shape.length=0:=by
    have:(b.shape.length:Int)=0:=by simpa using h2
    omega
  refine T.bind (T.val (Ba6 h1) (Q:=λv=>v=Arr.mk [1] a.cells) rfl) (λx hx=>?_)
  refine T.bind (T.val (Ba6 h2) (Q:=λv=>v=Arr.mk [1] b.cells) rfl) (λy hy=>?_)
  refine T.ret λ_=>⟨0,rfl,?_⟩
  subst hx; subst hy
  exact AnU (yF (AnG ha (List.length_eq_zero_iff.1 h1)) Nat.zero_lt_one) (yF (AnG hb (List.length_eq_zero_iff.1 h2)) Nat.zero_lt_one) rfl rfl
 ·have h2:b.shape.length≠0:=by
    have:(b.shape.length:Int)≠0:=by simpa using h2
    omega
  refine T.bind (BcV (by omega) (by omega)) (λv hv=>?_)
  obtain⟨k,rfl,g1,g2,g3⟩:=hv
  refine T.bind (BaH ha hb g1 g2 g3) (λr hr=>?_)
  match r,hr with
  |.error r,h=>exact T.ret λh'=>absurd h' h
  |.ok (x0,x11,x01,x12),⟨e1,e2,e3⟩=>
   have m1:k<x0.length:=e1.ax
   have m2:x0.length<=8:=e1.rank
   have m3:k<x01.length:=e2.ax
   have m4:x01.length<=8:=e2.rank
   have e3:x0.length=x01.length:=e3
   refine T.bind (AdH m4 m3) (λp hp=>?_)
   refine T.bind (AdH m2 m1) (λq hq=>?_)
   have lp:p.length<=8:=by subst hp; simp; omega
   have lq:q.length=p.length:=by subst hp; subst hq; simp; omega
   refine T.bind (ArY lp lq p.length 0 (by omega)) (λv hv=>?_)
   match v,hv with
   |.error r,h=>exact T.ret λh'=>absurd h' h
   |.ok _,h=>exact T.ret λ_=>⟨k,rfl,AnU e2 e1 e3 (by simp only[List.drop_zero] at h; rw[hp,hq] at h; exact h)⟩
 have h1:a.shape.length≠0:=by
   have:(a.shape.length:Int)≠0:=by simpa using h1
   omega
 refine T.bind (BcV (by omega) (by omega)) (λv hv=>?_)
 obtain⟨k,rfl,g1,g2,g3⟩:=hv
 refine T.bind (BaH ha hb g1 g2 g3) (λr hr=>?_)
 match r,hr with
 |.error r,h=>exact T.ret λh'=>absurd h' h
 |.ok (x0,x11,x01,x12),⟨e1,e2,e3⟩=>
  have m1:k<x0.length:=e1.ax
  have m2:x0.length<=8:=e1.rank
  have m3:k<x01.length:=e2.ax
  have m4:x01.length<=8:=e2.rank
  have e3:x0.length=x01.length:=e3
  refine T.bind (AdH m4 m3) (λp hp=>?_)
  refine T.bind (AdH m2 m1) (λq hq=>?_)
  have lp:p.length<=8:=by subst hp; simp; omega
  have lq:q.length=p.length:=by subst hp; subst hq; simp; omega
  refine T.bind (ArZ lp lq p.length 0 (by omega)) (λv hv=>?_)
  match v,hv with
  |.error r,h=>exact T.ret λh'=>absurd h' h
  |.ok _,h=>exact T.ret λ_=>⟨k,rfl,AnU e2 e1 e3 (by simp only[List.drop_zero] at h; rw[hp,hq] at h; exact h)⟩
theorem AkB {x x1:Arr} {ax:Int} {l2 l:List Int} (hf:Few l):∀(r:List Int) (k:Nat) (z:Int),l.drop k=r->jW (x,x1,ax,l2,l,z,(k:Int))=some (dN z r)
 | [],k,z,h=>by
  rw[jW]; simp only[bZ (cC h),fJ,if_false,dN]
 |d::r,k,z,h=>by
  have hk:=cD h
  rw[jW]
  simp only[dH hk,if_true,bN h,oJ,bJ,bW h hf,dN]
  exact AkB hf r (k+1) _ (bC h)
theorem AkC {x x1:Arr} {s y3 y4:Int} {l2 l:List Int} (hf:Few l):∀(r:List Int) (k:Nat) (z:Int),l.drop k=r->jX (x,x1,l2,s,y3,y4,l,z,(k:Int))=some (dN z r)
 | [],k,z,h=>by
  rw[jX]; simp only[bZ (cC h),fJ,if_false,dN]
 |d::r,k,z,h=>by
  have hk:=cD h
  rw[jX]
  simp only[dH hk,if_true,bN h,oJ,bJ,bW h hf,dN]
  exact AkC hf r (k+1) _ (bC h)
theorem AfU {x x1:Arr} {s y3 y4 o c1 c2:Int} {l2:List Int} (e1:w64 (y3*s)=c1) (e2:w64 (y4*s)=c2) (h1:0<=c1) (h2:0<=c2) (hx:(x.cells.length:Int)<=16384) (hx1:(x1.cells.length:Int)<=16384) (g1:o*c1<=x.cells.length) (g2:o*c2<=x1.cells.length) (ho:o<9223372036854775808) :
  ∀(d:Nat) (i:Int) (out:List aA),0<=i->i+d=max o i->(out.length:Int)=i*(c1+c2)->(∀c∈out,c∈x.cells\/c∈x1.cells)->T (iM (x,x1,l2,s,y3,y4,o,i,out)) (λr=>(r.length:Int)=max o i*(c1+c2)/\∀c∈r,c∈x.cells\/c∈x1.cells)
 |0,i,out,h0,h,hl,hc=>by
  rw[iM]
  have:max o i=i:=by omega
  rw[this]
  exact T.ite (λh'=>by simp at h'; omega) (λ_=>T.ret ⟨hl,hc⟩)
 |d+1,i,out,h0,h,hl,hc=>by
  have hio:i<o:=by omega
  have k1:(i+1)*c1<=o*c1:=Int.mul_le_mul_of_nonneg_right (by omega) h1
  have k2:(i+1)*c2<=o*c2:=Int.mul_le_mul_of_nonneg_right (by omega) h2
  have k3:(i+1)*c1=i*c1+c1:=by rw[Int.add_mul,Int.one_mul]
  have k4:(i+1)*c2=i*c2+c2:=by rw[Int.add_mul,Int.one_mul]
  have k5:0<=i*c1:=Int.mul_nonneg h0 h1
  have k6:0<=i*c2:=Int.mul_nonneg h0 h2
  have k7:i*(c1+c2)=i*c1+i*c2:=Int.mul_add ..
  have k8:(i+1)*(c1+c2)=i*(c1+c2)+(c1+c2):=by rw[Int.add_mul,Int.one_mul]
  rw[iM]
  refine T.ite (λ_=>?_) (λh'=>by simp at h'; omega)
  rw[e1,e2,aE (x:=i+1) (by omega) (by omega),aE (x:=i*c1) (by omega) (by omega),aE (x:=i*c2) (by omega) (by omega),aE (x:=(i+1)*c1) (by omega) (by omega),aE (x:=(i+1)*c2) (by omega) (by omega)]
  refine T.bind (T.val (by unfold Af0; rw[if_pos ⟨k5,by omega,by omega⟩]) (Q:=λv=>(v.length:Int)=c1/\∀c∈v,c∈x.cells) ⟨by rw[List.length_drop,List.length_take]; omega,λc hc=>List.mem_of_mem_take (List.mem_of_mem_drop hc)⟩) (λb1 hb1=>?_)
  refine T.bind (dT (by omega)) (λl6 hl6=>?_)
  have n6:(l6.length:Int)=out.length+c1:=by rw[hl6,List.length_append,Int.natCast_add,hb1.1]
  refine T.bind (T.val (by unfold Af0; rw[if_pos ⟨k6,by omega,by omega⟩]) (Q:=λv=>(v.length:Int)=c2/\∀c∈v,c∈x1.cells) ⟨by rw[List.length_drop,List.length_take]; omega,λc hc=>List.mem_of_mem_take (List.mem_of_mem_drop hc)⟩) (λb2 hb2=>?_)
  refine T.bind (dT (by omega)) (λl8 hl8=>?_)
  have n8:(l8.length:Int)=l6.length+c2:=by rw[hl8,List.length_append,Int.natCast_add,hb2.1]
  rw[show max o i=max o (i+1) by omega]
  refine AfU e1 e2 h1 h2 hx hx1 g1 g2 ho d (i+1) l8 (by omega) (by omega) (by rw[n8,n6,hl,k8]; omega) ?_
  intro c hc'
  rw[hl8,hl6] at hc'
  rcases List.mem_append.1 hc' with hc' | hc'
  ·rcases List.mem_append.1 hc' with hc' |hc'
   ·exact hc c hc'
   ·exact .inl (hb1.2 c hc')
  exact .inr (hb2.2 c hc')
theorem AwB {src:List aA} {k:Nat} {x:Arr} (h:Aq2 src k x) {P Q y:Int} (hp:aR x.shape=P*(y*Q)) (hle:P*(y*Q)<=16384):(x.cells.length:Int)=P*(y*Q):=by
 rw[h.len,sizeS_of (mD.of h.rank h.dims hp hle)]
theorem Bg9 {s t:List Int} {v:Int} {k:Nat} (h:s.length=k) (hk:k<(s++([v]++t)).length):(s++([v]++t))[k]=v:=by
 subst h; simp
theorem Be1 {a b:Arr} {last:Bool} {w:Nat} (ha:Val 0 a) (hb:Val 0 b) (hw:Cw w a.cells) (hw2:Cw w b.cells):T (tR a b last) (Res w):=by
 unfold tR
 refine T.bind (BiB ha hb) (λr hr=>?_)
 obtain⟨x,x1,ax,e⟩:=r
 refine T.ite (λhe=>T.ret (Res.err (fK he))) (λhe=>?_)
 obtain⟨k,hax,A0⟩:=hr (dR he)
 have hax:ax=(k:Int):=hax
 subst hax
 have A:Alike a b k x x1:=A0
 clear A0
 have hk:=A.l.ax
 have hk1:=A.r.ax
 have h8:=A.l.rank
 have hy:=A.l.dims _ (List.getElem_mem hk)
 have hy1:=A.r.dims _ (List.getElem_mem hk1)
 obtain⟨y,hyy⟩:∃y,y=x.shape[k]:=⟨_,rfl⟩
 obtain⟨y1,hyy1⟩:∃y,y=x1.shape[k]:=⟨_,rfl⟩
 have sx:=Ah5 hk
 have sx1:=Ah5 hk1
 rw[←A.lo,←A.hi,←hyy1] at sx1
 rw[←hyy] at sx hy
 rw[←hyy1] at hy1
 refine T.bind (dT (by simp; omega)) (λl hl=>?_)
 subst hl
 rw[List.nil_append]
 refine T.bind (T.val (uA (n:=x.shape.length) (by omega) (by omega)) (Q:=λv=>v=k) (by omega)) (λj hj=>?_)
 subst hj
 refine T.bind (T.val (v:=x.shape[j]) (by unfold pQ; simp[hk]) (Q:=λv=>v=y) hyy.symm) (λv hv=>?_)
 subst hv
 refine T.bind (T.val (fS hk1) (Q:=λv=>v=y1) hyy1.symm) (λv1 hv=>?_)
 subst hv
 refine T.bind (T.val (uA (n:=x.shape.length) (by omega) (by omega)) (Q:=λv=>v=j) (by omega)) (λj1 hj=>?_)
 subst hj
 rw[aE (x:=v+v1) (by omega) (by omega)]
 refine T.bind (T.val (by unfold aset; rw[if_pos hk]) (Q:=λu=>u=x.shape.take j1++([v+v1]++x.shape.drop (j1+1))) (AsH hk)) (λl1 hl1=>?_)
 refine T.bind (uJ (by rw[hl1]; simp; omega)) (λl2 hl2=>?_)
 subst hl2
 refine T.bind (T.val (zJ l2) (Q:=λv=>v=kV l2) rfl) (λz hzz=>?_)
 obtain⟨z1,z2⟩:=z
 refine T.ite (λhe=>T.ret (Res.err (by omega))) (λhe=>?_)
 have hS:mD l2 z1:=by
  have h':z2=0:=dR he
  have:=tZ (s:=l2) (by rw[←hzz]; exact h')
  rw[←hzz] at this; exact this
 have hj2:j1<l2.length:=by rw[hl1]; simp; omega
 refine T.bind (T.val (fS hj2) (Q:=λu=>u=v+v1) ?_) (λy2 hy2=>?_)
 ·subst hl1
  exact Bg9 (by simp; omega) _
 subst hy2
 refine T.ite (λ_=>T.ret (Res.err (by omega))) (λhlim=>?_)
 have hlim:v+v1<=16384:=by simpa using hlim
 rw[show w64 ((j1:Int)+1)=((j1+1:Nat):Int) from by rw[aE (by omega) (by omega)]; rfl]
 refine T.bind (T.val (v:=x.shape.drop (j1+1)) (by unfold lfrom; rw[if_pos (by omega)]; simp) (Q:=λv=>v=x.shape.drop (j1+1)) rfl) (λl3 hl3=>?_)
 subst hl3
 refine T.bind (T.val (AkB (by unfold Few; simp; omega) (x.shape.drop (j1+1)) 0 1 rfl) (Q:=λv=>v=dN 1 (x.shape.drop (j1+1))) rfl) (λS hSS=>?_)
 refine T.bind (T.val (fS hk) (Q:=λu=>u=v) hyy.symm) (λy3 hy3=>?_)
 subst hy3
 refine T.bind (T.val (fS hk1) (Q:=λu=>u=v1) hyy1.symm) (λy4 hy4=>?_)
 subst hy4
 refine T.bind (T.val (v:=x.shape.take j1) (by unfold lto; rw[if_pos ⟨by omega,by omega⟩]; simp) (Q:=λv=>v=x.shape.take j1) rfl) (λl4 hl4=>?_)
 subst hl4
 refine T.bind (T.val (AkC (by unfold Few; simp; omega) (x.shape.take j1) 0 1 rfl) (Q:=λv=>v=dN 1 (x.shape.take j1)) rfl) (λW hW=>?_)
 obtain⟨P,hP⟩:∃P,P=aR (x.shape.take j1):=⟨_,rfl⟩
 obtain⟨Q,hQ⟩:∃Q,Q=aR (x.shape.drop (j1+1)):=⟨_,rfl⟩
 have P0:0<=P:=by rw[hP]; exact mC λd hd=>(A.l.dims d (List.mem_of_mem_take hd)).1
 have Q0:0<=Q:=by rw[hQ]; exact mC λd hd=>(A.l.dims d (List.mem_of_mem_drop hd)).1
 have hz1:=hS.prod
 have hz2:=hS.hi
 rw[hl1,fQ,fQ,←hP,←hQ] at hz1
 simp only[aR,Int.mul_one] at hz1
 rw[Int.add_mul,Int.mul_add] at hz1
 have px:aR x.shape=P*(y3*Q):=by
  rw[sx,fQ,fQ,←hP,←hQ]; simp only[aR,Int.mul_one]
 have px1:aR x1.shape=P*(y4*Q):=by
  rw[sx1,fQ,fQ,←hP,←hQ]; simp only[aR,Int.mul_one]
 have a1:0<=y3*Q:=Int.mul_nonneg hy.1 Q0
 have a2:0<=y4*Q:=Int.mul_nonneg hy1.1 Q0
 have b1:0<=P*(y3*Q):=Int.mul_nonneg P0 a1
 have b2:0<=P*(y4*Q):=Int.mul_nonneg P0 a2
 have nx:=AwB A.l px (by omega)
 have nx1:=AwB A.r px1 (by omega)
 have hdims:∀d∈l2,d<=16384:=by
  intro d hd
  rw[hl1] at hd
  rcases List.mem_append.1 hd with hd|hd
  ·exact (A.l.dims d (List.mem_of_mem_take hd)).2
  rcases List.mem_cons.1 hd with rfl|hd
  ·exact hlim
  exact (A.l.dims d (List.mem_of_mem_drop hd)).2
 have fin:∀cs:List aA,(cs.length:Int)=z1->(∀c∈cs,c∈x.cells\/c∈x1.cells)->Val 0 (Arr.mk l2 cs)/\Cw w (Arr.mk l2 cs).cells:=by
  intro cs h1 h2
  refine⟨AlU (by rw[h1]; exact hS) hdims λc hc=>?_,λc hc=>?_⟩
  ·rcases h2 c hc with h|h
   ·exact ha.i.cells c (A.l.mem c h)
   ·exact hb.i.cells c (A.r.mem c h)
  rcases h2 c hc with h|h
  ·exact hw c (A.l.mem c h)
  exact hw2 c (A.r.mem c h)
 have hWlt:W<9223372036854775808:=by rw[hW]; exact AkV (by omega)
 by_cases hn:z1=0
 ·-- nothing in it
  by_cases hw0:W<=0
  ·rw[iM]
   rw[if_neg (by simp; omega)]
   exact T.bind (T.ret (Q:=λv=>v=[]) rfl) (λu hu=>by subst hu; exact T.ret λ_=>fin [] (by simp[hn]) (by simp))
  have hP0:P≠0:=by
   intro h
   rw[hP] at h
   rw[hW,Aa8 (AhC h)] at hw0; omega
  have e0:y3*S=0/\y4*S=0:=by
   by_cases hq:Q=0
   ·rw[hQ] at hq
    rw[hSS,Aa8 (AhC hq)]; simp
   have z0:P*(y3*Q)=0:=by omega
   have z0':P*(y4*Q)=0:=by omega
   have c1:y3=0:=by
    rcases Int.mul_eq_zero.1 z0 with h|h
    ·exact absurd h hP0
    exact (Int.mul_eq_zero.1 h).resolve_right hq
   have c2:y4=0:=by
    rcases Int.mul_eq_zero.1 z0' with h|h
    ·exact absurd h hP0
    exact (Int.mul_eq_zero.1 h).resolve_right hq
   rw[c1,c2]; simp
  refine T.bind (AfU (c1:=0) (c2:=0) (o:=W) (by rw[e0.1]; rfl) (by rw[e0.2]; rfl) (by omega) (by omega) (by omega) (by omega) (by rw[Int.mul_zero]; omega) (by rw[Int.mul_zero]; omega) hWlt (max W 0).toNat 0 [] (by omega) (by omega) (by simp) (by simp)) (λr hr=>?_)
  exact T.ret λ_=>fin r (by rw[hr.1,hn]; simp) hr.2
 have hS':=hS
 rw[hl1] at hS'
 obtain⟨p1,p2,p3,p4⟩:=oO hS' hn
 obtain⟨q1,q2,q3,q4⟩:=oO p2 (by omega)
 rw[jO q2,←hQ] at hSS
 rw[jO p1,←hP] at hW
 subst hSS; subst hW
 rw[←hP] at p3
 have m1:1*(y3*S)<=W*(y3*S):=Int.mul_le_mul_of_nonneg_right (by omega) a1
 have m2:1*(y4*S)<=W*(y4*S):=Int.mul_le_mul_of_nonneg_right (by omega) a2
 refine T.bind (AfU (c1:=y3*S) (c2:=y4*S) (o:=W) (aE (by omega) (by omega)) (aE (by omega) (by omega)) a1 a2 (by omega) (by omega) (by omega) (by omega) hWlt (max W 0).toNat 0 [] (by omega) (by omega) (by simp) (by simp)) (λr hr=>?_)
 refine T.ret λ_=>fin r ?_ hr.2
 rw[hr.1,show max W 0=W by omega,Int.mul_add]; exact hz1
theorem Az1 {a:Arr} {n:Int} {m:Nat} (hv:Val 0 a) (hm:Cw m a.cells):T (p_pick_rotated n a (w64 ((a.shape.length:Int)-1))) (λr=>Val 0 r/\Cw m r.cells):=by
 have hr:=hv.i.sized.rank
 rcases Nat.eq_zero_or_pos a.shape.length with h0|h0
 ·unfold p_pick_rotated
  refine T.ite (λ_=>T.ret ⟨hv,hm⟩) (λ_=>T.ite (λ_=>T.ret ⟨hv,hm⟩) (λh=>?_))
  simp[h0] at h
 rw[show w64 ((a.shape.length:Int)-1)=((a.shape.length-1:Nat):Int) from by rw[aE (by omega) (by omega)]; omega]
 exact AsD hv hm (.inl (by omega))
theorem Be9 {op:Int} {a b:Arr} {w:Nat} (hw:Cw w a.cells) (hw2:Cw w b.cells):T (AdC op a b) (Res w):=by
 unfold AdC
 refine T.bind (R:=λv=>match v with|.error r=>r.2≠0|.ok _=>Val 0 a/\Val 0 b) ?_ (λv hv=>?_)
 ·rw[qA]
  rw[if_pos (by simp)]
  refine T.bind (T.val (v:=a) rfl (Q:=λv=>v=a) rfl) (λy hy=>?_)
  subst hy
  refine T.bind (T.val (qG y) (Q:=λv=>v=AeZ y 0) rfl) (λe he=>?_)
  subst he
  refine T.ite (λhe=>T.ret (fK he)) (λhe1=>?_)
  rw[show w64 ((0:Int)+1)=1 from by rw[aE (by omega) (by omega)]; rfl]
  rw[qA]
  rw[if_pos (by simp)]
  refine T.bind (T.val (v:=b) rfl (Q:=λv=>v=b) rfl) (λz hz=>?_)
  subst hz
  refine T.bind (T.val (qG z) (Q:=λv=>v=AeZ z 0) rfl) (λe he=>?_)
  subst he
  refine T.ite (λhe=>T.ret (fK he)) (λhe2=>?_)
  rw[show w64 ((1:Int)+1)=2 from by rw[aE (by omega) (by omega)]; rfl]
  rw[qA]
  rw[if_neg (by simp)]
  exact T.ret ⟨dR he1,dR he2⟩
 match v,hv with
 |.error r,h=>exact T.ret λh'=>absurd h' h
 |.ok _,⟨ha,hb⟩=>
  refine T.bind (T.val (sE a 0 ha) (Q:=λv=>v=a) rfl) (λx hx=>?_)
  subst hx
  refine T.bind (T.val (sE b 0 hb) (Q:=λv=>v=b) rfl) (λy hy=>?_)
  subst hy
  refine T.bind (R:=Any) (T.ite (λ_=>T.any) (λ_=>T.any)) (λx3 _=>?_)
  refine T.ite (λ_=>T.bind (Be1 ha hb hw hw2) (λr hr=>T.ret hr)) (λ_=>?_)
  refine T.ite (λ_=>T.bind (BdQ ha hb hw2) (λr hr=>T.ret hr)) (λ_=>?_)
  refine T.ite (λ_=>T.bind (BdQ hb ha hw) (λr hr=>T.ret hr)) (λ_=>?_)
  refine T.bind (R:=Any) (T.ite (λ_=>T.any) (λ_=>T.any)) (λx3 _=>?_)
  refine T.ite (λ_=>T.bind (AyZ ha hb hw2) (λr hr=>T.ret hr)) (λ_=>?_)
  refine T.bind (R:=Any) (T.ite (λ_=>T.any) (λ_=>T.ite (λ_=>T.any) (λ_=>T.ite (λ_=>T.any) (λ_=>T.any)))) (λx3 _=>?_)
  refine T.ite (λ_=>?_) (λ_=>T.ret (Res.err (by omega)))
  refine T.bind (Be3 ha) (λn _=>?_)
  obtain⟨n,e⟩:=n
  refine T.ite (λhe=>T.ret (Res.err (fK he))) (λ_=>?_)
  refine T.ite (λ_=>T.bind (BiL hb hw2) (λr hr=>T.ret hr)) (λ_=>?_)
  refine T.ite (λ_=>T.bind (BhX hb hw2) (λr hr=>T.ret λ_=>hr)) (λ_=>?_)
  refine T.ite (λ_=>T.bind (AsD (k:=0) hb hw2 ?_) (λr hr=>T.ret λ_=>hr)) (λ_=>T.bind (Az1 hb hw2) (λr hr=>T.ret λ_=>hr))
  cases hs:y.shape with
  |nil=>exact .inr rfl
  |cons d r=>exact .inl (by simp)
theorem BiV {op:Int} {a:Arr} {w:Nat} (hw:Cw w a.cells) (hwa:wA a<=w):T (Aa2 op a) (Res w):=by
 unfold Aa2
 have E:∀{x:Option (Arr×Int)},T x (Res w)->T (x>>=λ(x,x1)=>some (Except.error (x,x1):Except (Arr×Int) Unit)) (λr=>match r with|.error r=>Res w r|.ok _=>True):=λh=>T.bind h (λr hr=>T.ret hr)
 refine T.bind (R:=λr=>match r with|.error r=>Res w r|.ok _=>True) ?_ (λv hv=>?_)
 ·repeat' (first|exact E Ay4|exact E (BeK hw)|exact T.ret trivial|refine T.ite (λ_=>?_) (λ_=>?_))
 match v,hv with
 |.error r,h=>exact T.ret h
 |.ok _,_=>exact T.bind (AyQ hw hwa) (λr hr=>T.ret hr)
theorem Bj0 {op:Int} {a b:Arr} {w:Nat} (hw:Cw w a.cells) (hw2:Cw w b.cells):T (Aa3 op a b) (Res w):=by
 unfold Aa3
 have E:∀{x:Option (Arr×Int)},T x (Res w)->T (x>>=λ(x,x1)=>some (Except.error (x,x1):Except (Arr×Int) Unit)) (λr=>match r with|.error r=>Res w r|.ok _=>True):=λh=>T.bind h (λr hr=>T.ret hr)
 refine T.bind (R:=λr=>match r with|.error r=>Res w r|.ok _=>True) ?_ (λv hv=>?_)
 ·repeat' (first|exact E (BaT hw2)|exact E BeJ|exact E (Be9 hw hw2)|exact T.ret trivial|refine T.ite (λ_=>?_) (λ_=>?_))
 match v,hv with
 |.error r,h=>exact T.ret h
 |.ok _,_=>exact T.bind Ay3 (λr hr=>T.ret hr)
theorem AnB {l u c:Int} (hl:0<=l) (hl2:l<4611686018427387904) (hu:0<=u) (hu2:u<4611686018427387904) :
  eT (.mk (.mk l u) c)=some (if l=0 then (11,0,u) else (0,l-1,u+1)):=by
 unfold eT lZ
 rw[if_neg (by decide)]
 by_cases h:l=0
 ·subst h
  rw[if_pos (by simp),if_pos rfl]
  simp
 rw[if_neg (by simp; omega),if_neg h]
 simp only[aE (x:=l-1) (by omega) (by omega),aE (x:=u+1) (by omega) (by omega)]
 simp
def cA (a:Arr):Int:=(kE a).getD 0
theorem BgU {a:Arr} (h:Val 0 a):kE a=some (cA a)/\(wA a<big->cA a=wA a):=by
 obtain⟨n,hn,hn2⟩:=BfB a 0 h
 unfold cA
 rw[hn]
 exact⟨rfl,hn2⟩
theorem BfZ {a:Arr} {e:Int} {names:List Str} {vals:List Arr} {b:aG} (hv:e=0->Val 0 a) :
  aU a e names vals b=some (if e=0 then (if cA a>b.cells then (.mk [] [],12) else (a,0)) else (.mk [] [],e)):=by
 unfold aU
 by_cases he:e=0
 ·subst he
  unfold pY
  rw[(BgU (hv rfl)).1]
  by_cases hc:cA a>b.cells
  ·simp[hc]
  simp[hc]
 simp[he]
theorem Ay7 {n:Node} (h:WfB n):T (gV n) Any:=by
 unfold gV
 rcases h with ⟨h,_⟩|⟨h,b,hb,_⟩
 ·rw[h]; exact T.any
 rw[h,hb]
 rw[if_pos (by decide)]
 exact T.bind (jK (Q:=Any) trivial) (λ_ _=>T.any)
theorem As6 {s:Str} {names:List Str} {vals:List Arr} {b:aG} (hf:Few names):∀(r:List Str) (k:Nat),names.drop k=r->T (bS (s,names,vals,b,(k:Int))) (λr=>match r with|.error r=>r.2=0->Val 0 r.1/\r.1∈vals|.ok _=>True)
 | [],k,h=>by
  rw[bS]
  simp only[bZ (cC h),fJ,if_false]
  exact T.ret trivial
 |n::r,k,h=>by
  have hk:=cD h
  rw[bS]
  simp only[dH hk,if_true,bN h,oJ,bJ,bW h hf]
  refine T.bind (R:=λr=>match r with|.error r=>r.2=0->Val 0 r.1/\r.1∈vals|.ok _=>True) ?_ (λv hv=>?_)
  ·refine T.ite (λ_=>T.ite (λhx=>?_) (λ_=>T.ret trivial)) (λ_=>T.ret trivial)
   have hx:(k:Int)<vals.length:=by simpa using hx
   have e1:lget vals (k:Int)=some (vals[k]'(by omega)):=fS (by omega)
   rw[e1]
   simp only[bJ,qG]
   refine T.ite (λ_=>T.ret (λh=>by simp at h)) (λhe=>?_)
   have hv:Val 0 (vals[k]'(by omega)):=dR he
   rw[sE _ 0 hv]
   exact T.ret λ_=>⟨hv,List.getElem_mem _⟩
  match v,hv with
  |.error r,h=>exact T.ret h
  |.ok _,_=>exact As6 hf r (k+1) (bC h)
theorem BiG {s:Str} {names:List Str} {vals:List Arr} {b:aG} (hf:Few names):T (cS s names vals b) (λr=>r.2=0->Val 0 r.1/\r.1∈vals):=by
 unfold cS
 refine T.bind (As6 hf names 0 rfl) (λv hv=>?_)
 match v,hv with
 |.error r,h=>exact T.ret h
 |.ok _,_=>exact T.ret (λh=>by simp at h)
mutual
def fG:Node->List Str
 |.mk kd _ nm _ ks _=>(if kd=2 then [nm] else [])++Au1 ks
def Au1:List Node->List Str
 | []=>[]
 |n::r=>fG n++Au1 r
end
theorem ApD {k:Node}:∀{l:List Node},k∈l->∀s∈fG k,s∈Au1 l
 |n::r,hk,s,hs=>by
  simp only[Au1,List.mem_append]
  rcases List.mem_cons.1 hk with rfl|hk
  ·exact .inl hs
  exact .inr (ApD hk s hs)
theorem oG {n k:Node} (hk:k∈n.kids):∀s∈fG k,s∈fG n:=by
 cases n; intro s hs
 simp only[fG,List.mem_append]
 exact .inr (ApD hk s hs)
def Lk (N:List Str) (V:List Arr) (N2:List Str) (V2:List Arr) (s:Str):Prop:=∀b b2,cS s N V b=cS s N2 V2 b2
theorem AwU {s:Str} {N:List Str} {V:List Arr} {b b2:aG} (hf:Few N):∀(r:List Str) (k:Nat),N.drop k=r->bS (s,N,V,b,(k:Int))=bS (s,N,V,b2,(k:Int))
 | [],k,h=>by
  conv=>lhs; rw[bS]
  conv=>rhs; rw[bS]
  simp only[bZ (cC h),fJ,if_false]
 |n::r,k,h=>by
  conv=>lhs; rw[bS]
  conv=>rhs; rw[bS]
  simp only[bW h hf,AwU (b:=b) (b2:=b2) hf r (k+1) (bC h)]
theorem Be2 {s:Str} {N:List Str} {V:List Arr} (hf:Few N) (b b2:aG):cS s N V b=cS s N V b2:=by
 unfold cS
 rw[show bS (s,N,V,b,0)=bS (s,N,V,b2,0) from AwU hf N 0 rfl]
def dO (G:Prop) (S:List Str) (N:List Str) (V:List Arr) (l u c:Int) (X:List Str->List Arr->aG->Option (Arr×Int×Int×Int)):Prop:=
 ∃x e l',X N V (.mk (.mk l u) c)=some (x,e,l',u+(l-l'))/\0<=l'/\l'<=l/\(e=0->Val 0 x/\(G->(wA x:Int)<=c)) /\
  ∀k c2 N2 V2,0<=k->k<=1000000->c<=c2->c2<=1000000->(∀s∈S,Lk N V N2 V2 s)->((e≠11/\e≠12)\/(k=0/\c2=c))->X N2 V2 (.mk (.mk (l+k) u) c2)=some (x,e,l'+k,u+(l-l'))
theorem dO.sub {G S S' N V l u c X} (h:dO G S N V l u c X) (hs:∀s∈S,s∈S'):dO G S' N V l u c X:=by
 obtain⟨x,e,l',h1,h2,h3,h4,h5⟩:=h
 exact⟨x,e,l',h1,h2,h3,h4,λk c2 N2 V2 a b d f g=>h5 k c2 N2 V2 a b d f λs hs'=>g s (hs s hs')⟩
theorem dO.val {G S N V} {l u c:Int} {X:List Str->List Arr->aG->Option (Arr×Int×Int×Int)} {x:Arr} {e:Int} (hf:Few N) (h0:0<=l) (hv:e=0->Val 0 x/\(G->(wA x:Int)<=c))
  (h:∀N2 V2 l2 c2,(∀s∈S,Lk N V N2 V2 s)->c<=c2->((e≠11/\e≠12)\/c2=c)->X N2 V2 (.mk (.mk l2 u) c2)=some (x,e,l2,u)):dO G S N V l u c X:=by
 refine⟨x,e,l,?_,h0,Int.le_refl _,hv,λk c2 N2 V2 _ _ h2 _ hs hr=>?_⟩
 ·rw[h N V l c (λs _ b b2=>?_) (Int.le_refl _) (.inr rfl)]
  ·simp
  ·exact Be2 hf b b2
 rw[h N2 V2 (l+k) c2 hs h2 (hr.imp id λh=>h.2)]
 simp
theorem dO.step {G S N V} {l u c:Int} {X Y:List Str->List Arr->aG->Option (Arr×Int×Int×Int)} (h0:0<=l) (h1:l<=2000) (h2:0<=u) (h3:u<=2000)
  (hX:∀N V l u c,X N V (.mk (.mk l u) c)=eT (.mk (.mk l u) c)>>=λ(e,left,used)=>if (e != 0) then some (.mk [] [],e,left,used) else Y N V (.mk (.mk left used) c))
  (h:0<l->dO G S N V (l-1) (u+1) c Y):dO G S N V l u c X:=by
 by_cases hl:l=0
 ·subst hl
  refine⟨.mk [] [],11,0,?_,Int.le_refl _,Int.le_refl _,λh=>by omega,λk c2 N2 V2 _ _ _ _ _ hr=>?_⟩
  ·rw[hX,AnB (by omega) (by omega) (by omega) (by omega)]; simp
  have hk:k=0:=by omega
  subst hk
  rw[hX,Int.zero_add,AnB (by omega) (by omega) (by omega) (by omega)]; simp
 obtain⟨x,e,l',g1,g2,g3,g4,g5⟩:=h (by omega)
 refine⟨x,e,l',?_,g2,by omega,g4,λk c2 N2 V2 a b d f g hr=>?_⟩
 ·rw[hX,AnB (by omega) (by omega) (by omega) (by omega),if_neg hl]
  simp only[oJ,bJ]
  rw[if_neg (by decide),g1]
  rw[show u+1+(l-1-l')=u+(l-l') by omega]
 rw[hX,AnB (by omega) (by omega) (by omega) (by omega),if_neg (by omega)]
 simp only[oJ,bJ]
 rw[if_neg (by decide),show l+k-1=l-1+k by omega,g5 k c2 N2 V2 a b d f g hr]
 rw[show u+1+(l-1-l')=u+(l-l') by omega]
end Go.AM.Seat
namespace Go.AM.Seat
open Go Go.AM
theorem dO.held {G S N V} {l u c:Int} {a:Arr} {e:Int} (h0:0<=l) (hv:e=0->Val 0 a/\(G->wA a<big)) :
  dO G S N V l u c (λN V m=>aU a e N V m>>=λ(x,x1)=>some (x,x1,m.fuel.left,m.fuel.used)):=by
 have H:∀N V m,aU a e N V m=some (if e=0 then (if cA a>m.cells then (.mk [] [],12) else (a,0)) else (.mk [] [],e)):=λN V m=>BfZ λh=>(hv h).1
 by_cases he:e=0
 ·by_cases hc:cA a>c
  ·refine⟨.mk [] [],12,l,?_,h0,Int.le_refl _,λh=>by omega,λk c2 N2 V2 _ _ _ _ _ hr=>?_⟩
   ·simp only[H,if_pos he,if_pos hc,oJ,bJ,Int.sub_self,Int.add_zero]
   ·have hc2:c2=c:=by omega
    subst hc2
    simp only[H,if_pos he,if_pos hc,oJ,bJ,Int.sub_self,Int.add_zero]
  ·refine⟨a,0,l,?_,h0,Int.le_refl _,λh=>⟨(hv he).1,λg=>?_⟩,λk c2 N2 V2 _ _ h2 _ _ hr=>?_⟩
   ·simp only[H,if_pos he,if_neg hc,oJ,bJ,Int.sub_self,Int.add_zero]
   ·have:=(BgU (hv he).1).2 ((hv he).2 g)
    omega
   ·have hc2:¬cA a>c2:=by omega
    simp only[H,if_pos he,if_neg hc2,oJ,bJ,Int.sub_self,Int.add_zero]
 refine⟨.mk [] [],e,l,?_,h0,Int.le_refl _,λh=>absurd h he,λk c2 N2 V2 _ _ _ _ _ _=>?_⟩
 ·simp only[H,if_neg he,oJ,bJ,Int.sub_self,Int.add_zero]
 simp only[H,if_neg he,oJ,bJ,Int.sub_self,Int.add_zero]
theorem BiN {a:Arr} {w:Nat} (hv:Val 0 a) (hw:Cw w a.cells) (h:w<=1000000):wA a<big:=by
 rw[AxU,An0]
 have h1:=BcW hw
 have h2:=hv.i.sized.hi
 have h3:a.cells.length*w<=16384*1000000:=Nat.mul_le_mul (by omega) h
 unfold big; omega
theorem dO.seq {G S N V} {l u c:Int} {X X1:List Str->List Arr->aG->Option (Arr×Int×Int×Int)} {K:Arr×Int×Int×Int->List Str->List Arr->Int->Option (Arr×Int×Int×Int)} {Y:Arr->List Str->List Arr->aG->Option (Arr×Int×Int×Int)}
  (h1:dO G S N V l u c X1) (hX:∀N V l u c,X N V (.mk (.mk l u) c)=X1 N V (.mk (.mk l u) c)>>=λr=>K r N V c) (he:∀x e l u N V c,e≠0->K (x,e,l,u) N V c=some (.mk [] [],e,l,u)) (hk:∀x l u N V c,K (x,0,l,u) N V c=Y x N V (.mk (.mk l u) c))
  (h2:∀x l',Val 0 x->(G->(wA x:Int)<=c)->0<=l'->l'<=l->dO G S N V l' (u+(l-l')) c (Y x)):dO G S N V l u c X:=by
 obtain⟨x,e,l',g1,g2,g3,g4,g5⟩:=h1
 by_cases hz:e=0
 ·subst hz
  obtain⟨v1,v2⟩:=g4 rfl
  obtain⟨y,f,l2,k1,k2,k3,k4,k5⟩:=h2 x l' v1 v2 g2 g3
  refine⟨y,f,l2,?_,k2,by omega,k4,λk c2 N2 V2 a b d f2 g hr=>?_⟩
  ·rw[hX,g1]
   simp only[oJ,bJ,hk]
   rw[k1,show u+(l-l')+(l'-l2)=u+(l-l2) by omega]
  rw[hX,g5 k c2 N2 V2 a b d f2 g (.inl (by omega))]
  simp only[oJ,bJ,hk]
  rw[k5 k c2 N2 V2 a b d f2 g hr,show u+(l-l')+(l'-l2)=u+(l-l2) by omega]
 refine⟨.mk [] [],e,l',?_,g2,g3,λh=>absurd h hz,λk c2 N2 V2 a b d f2 g hr=>?_⟩
 ·rw[hX,g1]
  simp only[oJ,bJ,he _ _ _ _ _ _ _ hz]
 rw[hX,g5 k c2 N2 V2 a b d f2 g hr]
 simp only[oJ,bJ,he _ _ _ _ _ _ _ hz]
theorem BdL {G:Prop} {n:Node} {ar:oV} {S N V} {l u c:Int} (hl0:0<=l) (hl:l<=2000) (hu0:0<=u) (hu:u<=2000) (hk:n.kind=1) (hv:Val 0 n.lit) (hw:G->wA n.lit<big):dO G S N V l u c (λN V m=>aJ (n,ar,N,V,m)):=by
 refine dO.step (Y:=λN V m=>aU n.lit 0 N V m>>=λ(x,x1)=>some (x,x1,m.fuel.left,m.fuel.used)) hl0 hl hu0 hu ?_ (λh=>dO.held (by omega) λ_=>⟨hv,hw⟩)
 intro N V l u c
 simp only[]
 rw[aJ]
 simp only[hk,beq_self_eq_true,if_true,sE _ 0 hv,oJ,bJ]
theorem dO.congr {G:Prop} {S N V} {l u c:Int} {X Y:List Str->List Arr->aG->Option (Arr×Int×Int×Int)} (h:dO G S N V l u c Y) (e:∀N2 V2 m,(∀s∈S,Lk N V N2 V2 s)->X N2 V2 m=Y N2 V2 m) (hf:Few N):dO G S N V l u c X:=by
 obtain⟨x,f,l',g1,g2,g3,g4,g5⟩:=h
 exact⟨x,f,l',by rw[e N V _ λs _ b b2=>Be2 hf b b2,g1],g2,g3,g4,λk c2 N2 V2 a b d f2 g hr=>by rw[e N2 V2 _ g]; exact g5 k c2 N2 V2 a b d f2 g hr⟩
mutual
def AiT:Node->Prop
 |.mk kd _ _ l ks _=>(kd=1->Val 0 l->wA l<big)/\Ba7 ks
def Ba7:List Node->Prop
 | []=>True
 |n::r=>AiT n/\Ba7 r
end
theorem As1:∀{l:List Node},Ba7 l->∀k∈l,AiT k
 |n::r,h,k,hk=>by
  rcases List.mem_cons.1 hk with rfl|hk
  ·exact h.1
  exact As1 h.2 k hk
theorem AiT.kids {n:Node} (h:AiT n):∀k∈n.kids,AiT k:=by cases n; exact As1 h.2
theorem AiT.lit {n:Node} (h:AiT n):n.kind=1->Val 0 n.lit->wA n.lit<big:=by cases n; exact h.1
def Arg (G:Prop) (c:Int) (a:Arr):Prop:=Val 0 a/\(G->(wA a:Int)<=c)
def Mt (l u c:Int):Prop:=0<=l/\0<=u/\l+u<=2000/\c<=1000000
theorem Mt.less {l u c l':Int} (h:Mt l u c) (h0:0<=l') (h1:l'<=l):Mt l' (u+(l-l')) c:=by
 obtain⟨h2,h3,h4,h5⟩:=h; exact⟨h0,by omega,by omega,h5⟩
theorem Mt.next {l u c:Int} (h:Mt l u c) (h0:0<l):Mt (l-1) (u+1) c:=by
 obtain⟨h2,h3,h4,h5⟩:=h; exact⟨by omega,by omega,by omega,h5⟩
theorem Aj5 {a:Arr}:Cw (wA a) a.cells:=by
 intro c hc
 rw[AxU,An0]
 have:=AnC hc
 omega
theorem ob {α β:Type} {x:Option α} {f g:α->Option β} (h:∀a,f a=g a):(x>>=f)=(x>>=g):=by rw[funext h]
theorem BbC {α β γ δ:Type} (o:Option (α×β×γ×δ)):(o>>=λ(a,b,c,d)=>some (a,b,c,d))=o:=by cases o<;>rfl
theorem dO.eqv {G S N V} {l u c:Int} {X Y:List Str->List Arr->aG->Option (Arr×Int×Int×Int)} (h:dO G S N V l u c Y) (e:∀N V m,X N V m=Y N V m):dO G S N V l u c X:=by
 have:X=Y:=by funext N V m; exact e N V m
 rw[this]; exact h
theorem dO.prim {G:Prop} {S N V} {l u c:Int} {P:Option (Arr×Int)} {w:Nat} (hP:T P (Res w)) (h0:0<=l) (hc:c<=1000000) (hw:G->(w:Int)<=c) :
  dO G S N V l u c (λN V m=>P>>=λ(x,x1)=>aU x x1 N V m>>=λ(x2,x3)=>some (x2,x3,m.fuel.left,m.fuel.used)):=by
 obtain⟨⟨x,e⟩,hr,hq⟩:=hP
 subst hr
 refine dO.eqv (dO.held (a:=x) (e:=e) h0 λhe=>⟨(hq he).1,λg=>BiN (hq he).1 (hq he).2 ?_⟩) λ_ _ _=>rfl
 have:=hw g
 omega
theorem AyO {f x:Node}:lget [f,x] (w64 ((List.length [f,x]:Int)-1))=some x:=by rfl
theorem AyP {f x y:Node}:lget [f,x,y] (w64 ((List.length [f,x,y]:Int)-1))=some y:=by rfl
theorem dO.go {G S N V} {l u c:Int} {X Y:List Str->List Arr->aG->Option (Arr×Int×Int×Int)} (hm:Mt l u c)
  (hX:∀N V l u c,X N V (.mk (.mk l u) c)=eT (.mk (.mk l u) c)>>=λ(e,left,used)=>if (e != 0) then some (.mk [] [],e,left,used) else Y N V (.mk (.mk left used) c))
  (h:Mt (l-1) (u+1) c->dO G S N V (l-1) (u+1) c Y):dO G S N V l u c X:=
 dO.step hm.1 (by have:=hm; unfold Mt at this; omega) hm.2.1 (by have:=hm; unfold Mt at this; omega) hX λh0=>h (hm.next h0)
end Go.AM.Seat
namespace Go.AM.Seat
open Go Go.AM
def OkE (G:Prop) (N:List Str) (V:List Arr) (n:Node):Prop:=∀lt rt,WfE lt rt n->(G->AiT n)->∀(ar:oV) (l u c:Int),Mt l u c->(lt=true->Arg G c ar.left)->(rt=true->Arg G c ar.right) ->
 dO G (fG n) N V l u c (λN V m=>aJ (n,ar,N,V,m))
def OkM (G:Prop) (N:List Str) (V:List Arr) (n:Node):Prop:=WfM n->(G->AiT n)->∀(a:Arr) (l u c:Int),Mt l u c->Arg G c a->dO G (fG n) N V l u c (λN V m=>aZ (n,a,N,V,m))
def OkT (G:Prop) (N:List Str) (V:List Arr) (n:Node):Prop:=WfT n->(G->AiT n)->∀(a b:Arr) (l u c:Int),Mt l u c->Arg G c a->Arg G c b->dO G (fG n) N V l u c (λN V m=>bE (n,a,b,N,V,m))
def OkD (G:Prop) (N:List Str) (V:List Arr) (n:Node):Prop:=WfD n->(G->AiT n)->∀(a b:Arr) (l u c:Int),Mt l u c->Arg G c a->Arg G c b->dO G (fG n) N V l u c (λN V m=>bE (n,a,b,N,V,m))
section
variable {G:Prop} {N:List Str} {V:List Arr} {n:Node}
theorem BdM {ar:oV} {l u c:Int} (hf:Few N) (hG:G->∀v∈V,Val 0 v->wA v<big) (hm:Mt l u c) (hk:n.kind=2):dO G (fG n) N V l u c (λN V m=>aJ (n,ar,N,V,m)):=by
 refine dO.go (Y:=λN V m=>cS n.name N V m>>=λ(x3,x4)=>aU x3 x4 N V m>>=λ(x5,x6)=>some (x5,x6,m.fuel.left,m.fuel.used)) hm ?_ (λh=>?_)
 ·intro N V l u c
  simp only[]
  rw[aJ]
  simp only[hk]
  rfl
 obtain⟨⟨x,e⟩,hr,hq⟩:=BiG (s:=n.name) (vals:=V) (b:=.mk (.mk l u) c) hf
 refine dO.congr (Y:=λN V m=>aU x e N V m>>=λ(x5,x6)=>some (x5,x6,m.fuel.left,m.fuel.used)) (dO.held h.1 λhe=>⟨(hq he).1,λg=>hG g _ (hq he).2 (hq he).1⟩) ?_ hf
 intro N2 V2 m hs
 have:cS n.name N2 V2 m=some (x,e):=by
  rw[←hs n.name (by obtain⟨k,o,nm,lt,ks,at_⟩:=n; simp only[Node.kind] at hk; subst hk; simp[fG,Node.name]) (.mk (.mk l u) c) m,hr]
 rw[this]
 rfl
theorem AvW {ar:oV} {l u c:Int} {x:Arr} (hf:Few N) (hm:Mt l u c) (hx:Arg G c x) (hk:(n.kind=3/\ar.left=x)\/(n.kind=4/\ar.right=x)):dO G (fG n) N V l u c (λN V m=>aJ (n,ar,N,V,m)):=by
 refine dO.go (Y:=λN V m=>some (x,0,m.fuel.left,m.fuel.used)) hm ?_ (λh=>?_)
 ·intro N V l u c
  simp only[]
  rw[aJ]
  rcases hk with ⟨hk,rfl⟩|⟨hk,rfl⟩
  ·simp only[hk]; rfl
  simp only[hk]; rfl
 exact dO.val hf h.1 (λ_=>hx) λN2 V2 l2 c2 _ _ _=>rfl
theorem BfT {ar:oV} {l u c:Int} {f x:Node} (hm:Mt l u c) (hk:n.kind=5) (hks:n.kids=[f,x])
  (hx:Mt (l-1) (u+1) c->dO G (fG x) N V (l-1) (u+1) c (λN V m=>aJ (x,ar,N,V,m)))
  (hf:∀l u a,Mt l u c->Arg G c a->dO G (fG f) N V l u c (λN V m=>aZ (f,a,N,V,m))):dO G (fG n) N V l u c (λN V m=>aJ (n,ar,N,V,m)):=by
 let K:Arr×Int×Int×Int->List Str->List Arr->Int->Option (Arr×Int×Int×Int):=λ(x7,e1,left1,used1) N V c=>
  if (e1 != 0) then some (.mk [] [],e1,left1,used1) else aZ (f,x7,N,V,.mk (.mk left1 used1) c)>>=λ(x10,x11,left3,used3)=>some (x10,x11,left3,used3)
 refine dO.go (Y:=λN V m=>aJ (x,ar,N,V,m)>>=λr=>K r N V m.cells) hm ?_ (λh=>?_)
 ·intro N V l u c
  conv=>lhs; simp only[]; rw[aJ]
  refine ob λ⟨e,left,used⟩=>?_
  simp only[hk,hks,AyO,oJ,bJ]
  congr 1
  refine ob λ⟨x7,e1,left1,used1⟩=>?_
  simp only[K]
  by_cases he:e1=0
  ·subst he; rfl
  rw[if_pos (by simpa using he),if_pos (by simpa using he),if_pos (by simpa using he)]
 refine dO.seq (X1:=λN V m=>aJ (x,ar,N,V,m)) (K:=K) (Y:=λa N V m=>aZ (f,a,N,V,m)) ((hx h).sub (oG (by rw[hks]; simp))) (λ_ _ _ _ _=>rfl) ?_ ?_ ?_
 ·intro x e l u N V c he
  simp only[K]; rw[if_pos (by simpa using he)]
 ·intro x l u N V c
  exact BbC _
 intro a l' hv hw h0 h1
 exact (hf _ _ a (h.less h0 h1) ⟨hv,hw⟩).sub (oG (by rw[hks]; simp))
theorem BfS {ar:oV} {l u c:Int} {f x y:Node} (hm:Mt l u c) (hk:n.kind=6) (hks:n.kids=[f,x,y])
  (hy:∀l u,Mt l u c->dO G (fG y) N V l u c (λN V m=>aJ (y,ar,N,V,m)))
  (hx:∀l u,Mt l u c->dO G (fG x) N V l u c (λN V m=>aJ (x,ar,N,V,m)))
  (hf:∀l u a b,Mt l u c->Arg G c a->Arg G c b->dO G (fG f) N V l u c (λN V m=>bE (f,a,b,N,V,m))):dO G (fG n) N V l u c (λN V m=>aJ (n,ar,N,V,m)):=by
 let K2:Arr->Arr×Int×Int×Int->List Str->List Arr->Int->Option (Arr×Int×Int×Int):=λx7 (x12,e2,left4,used4) N V c=>
  if (e2 != 0) then some (.mk [] [],e2,left4,used4) else bE (f,x12,x7,N,V,.mk (.mk left4 used4) c)>>=λ(x10,x11,left3,used3)=>some (x10,x11,left3,used3)
 let Y2:Arr->List Str->List Arr->aG->Option (Arr×Int×Int×Int):=λx7 N V m=>aJ (x,ar,N,V,m)>>=λr=>K2 x7 r N V m.cells
 let K:Arr×Int×Int×Int->List Str->List Arr->Int->Option (Arr×Int×Int×Int):=λ(x7,e1,left1,used1) N V c=>
  if (e1 != 0) then some (.mk [] [],e1,left1,used1) else Y2 x7 N V (.mk (.mk left1 used1) c)
 refine dO.go (Y:=λN V m=>aJ (y,ar,N,V,m)>>=λr=>K r N V m.cells) hm ?_ (λh=>?_)
 ·intro N V l u c
  conv=>lhs; simp only[]; rw[aJ]
  refine ob λ⟨e,left,used⟩=>?_
  simp only[hk,hks,AyP,oJ,bJ]
  congr 1
  refine ob λ⟨x7,e1,left1,used1⟩=>?_
  simp only[K,Y2,K2]
  by_cases he:e1=0
  ·subst he; rfl
  rw[if_pos (by simpa using he),if_pos (by simpa using he),if_pos (by simpa using he)]
 refine dO.seq (X1:=λN V m=>aJ (y,ar,N,V,m)) (K:=K) (Y:=Y2) ((hy _ _ h).sub (oG (by rw[hks]; simp))) (λ_ _ _ _ _=>rfl) ?_ ?_ ?_
 ·intro x e l u N V c he
  simp only[K]; rw[if_pos (by simpa using he)]
 ·intro x l u N V c
  rfl
 intro a l' hv hw h0 h1
 have hm':=h.less h0 h1
 refine dO.seq (X1:=λN V m=>aJ (x,ar,N,V,m)) (K:=K2 a) (Y:=λb N V m=>bE (f,b,a,N,V,m)) ((hx _ _ hm').sub (oG (by rw[hks]; simp))) (λ_ _ _ _ _=>rfl) ?_ ?_ ?_
 ·intro x e l u N V c he
  simp only[K2]; rw[if_pos (by simpa using he)]
 ·intro x l u N V c
  exact BbC _
 intro b l2 hv2 hw2 h2 h3
 exact (hf _ _ b a (hm'.less h2 h3) ⟨hv2,hw2⟩ ⟨hv,hw⟩).sub (oG (by rw[hks]; simp))
end
end Go.AM.Seat
namespace Go.AM.Seat
open Go Go.AM
section
variable {G:Prop} {N:List Str} {V:List Arr} {n:Node}
theorem dO.fold {S N V} {l u c:Int} {P:Option (Arr×Int)} {b:Node} {w:Nat} (hb:WfB b) {R:bY->Option (Arr×Int)} (hP:∀f,T (R f) (Res w)) (h0:0<=l) (hc:c<=1000000) (hw:G->(w:Int)<=c) :
  dO G S N V l u c (λN V m=>gV b>>=λx8=>R x8>>=λ(x,x1)=>aU x x1 N V m>>=λ(x2,x3)=>some (x2,x3,m.fuel.left,m.fuel.used)):=by
 obtain⟨f,hr,_⟩:=Ay7 hb
 rw[hr]
 exact dO.prim (hP f) h0 hc hw
theorem Be6 {a:Arr} {l u c:Int} (hm:Mt l u c) (ha:Arg G c a) (hk:n.kind=21):dO G (fG n) N V l u c (λN V m=>aZ (n,a,N,V,m)):=by
 refine dO.go (Y:=λN V m=>Aa2 n.op_ a>>=λ(x,x1)=>aU x x1 N V m>>=λ(x2,x3)=>some (x2,x3,m.fuel.left,m.fuel.used)) hm ?_ (λh=>dO.prim (BiV Aj5 (Nat.le_refl _)) h.1 h.2.2.2 ha.2)
 intro N V l u c
 simp only[]
 rw[aZ]
 simp only[hk]
 rfl
theorem BeS {a b:Arr} {l u c:Int} (hm:Mt l u c) (ha:Arg G c a) (hb:Arg G c b) (hk:n.kind=21):dO G (fG n) N V l u c (λN V m=>bE (n,a,b,N,V,m)):=by
 have hle:∀{w v:Nat} {l:List aA},Cw w l->w<=v->Cw v l:=λh h' c hc=>Nat.le_trans (h c hc) h'
 refine dO.go (Y:=λN V m=>Aa3 n.op_ a b>>=λ(x,x1)=>aU x x1 N V m>>=λ(x2,x3)=>some (x2,x3,m.fuel.left,m.fuel.used)) hm ?_
  (λh=>dO.prim (Bj0 (w:=max (wA a) (wA b)) (hle Aj5 (by omega)) (hle Aj5 (by omega))) h.1 h.2.2.2 λg=>by have:=ha.2 g; have:=hb.2 g; omega)
 intro N V l u c
 simp only[]
 rw[bE]
 simp only[hk]
 rfl
theorem Be5 {a:Arr} {l u c:Int} {b:Node} (hm:Mt l u c) (ha:Arg G c a) (hk:n.kind=31\/n.kind=32\/n.kind=33\/n.kind=34) (hks:n.kids=[b]) (hb:WfB b):dO G (fG n) N V l u c (λN V m=>aZ (n,a,N,V,m)):=by
 have g:n.kind=31\/n.kind=32\/n.kind=33\/n.kind=34:=hk
 by_cases h12:n.kind=31\/n.kind=32
 ·refine dO.go (Y:=λN V m=>gV b>>=λx9=>xO x9 a (n.kind==32)>>=λ(x,x1)=>aU x x1 N V m>>=λ(x2,x3)=>some (x2,x3,m.fuel.left,m.fuel.used)) hm ?_
   (λh=>dO.fold (P:=none) hb (λf=>BiW Aj5) h.1 h.2.2.2 ha.2)
  intro N V l u c
  simp only[]
  rw[aZ]
  rcases h12 with hk|hk<;>simp only[hk,hks]<;>rfl
 refine dO.go (Y:=λN V m=>gV b>>=λx9=>vF x9 a (n.kind==34)>>=λ(x,x1)=>aU x x1 N V m>>=λ(x2,x3)=>some (x2,x3,m.fuel.left,m.fuel.used)) hm ?_
  (λh=>dO.fold (P:=none) hb (λf=>BhS Aj5) h.1 h.2.2.2 ha.2)
 intro N V l u c
 simp only[]
 rw[aZ]
 have h34:n.kind=33\/n.kind=34:=by omega
 rcases h34 with hk|hk<;>simp only[hk,hks]<;>rfl
theorem Bc9 {a b:Arr} {l u c:Int} {k:Node} (hm:Mt l u c) (ha:Arg G c a) (hb':Arg G c b) (hk:n.kind=25) (hks:n.kids=[k]) (hb:WfB k):dO G (fG n) N V l u c (λN V m=>bE (n,a,b,N,V,m)):=by
 refine dO.go (Y:=λN V m=>gV k>>=λx9=>sP x9 a b>>=λ(x,x1)=>aU x x1 N V m>>=λ(x2,x3)=>some (x2,x3,m.fuel.left,m.fuel.used)) hm ?_
  (λh=>dO.fold (P:=none) hb (λf=>BfE (m:=wA a)) h.1 h.2.2.2 ha.2)
 intro N V l u c
 simp only[]
 rw[bE]
 simp only[hk,hks]
 rfl
theorem BgA {a:Arr} {l u c:Int} {e:Node} (hm:Mt l u c) (hk:n.kind=22) (hks:n.kids=[e])
  (he:∀l u,Mt l u c->dO G (fG e) N V l u c (λN V m=>aJ (e,.mk (.mk [] []) a,N,V,m))):dO G (fG n) N V l u c (λN V m=>aZ (n,a,N,V,m)):=by
 refine dO.go (Y:=λN V m=>aJ (e,.mk (.mk [] []) a,N,V,m)) hm ?_ (λh=>(he _ _ h).sub (oG (by rw[hks]; simp)))
 intro N V l u c
 conv=>lhs; simp only[]; rw[aZ]
 refine ob λ⟨e1,left,used⟩=>?_
 simp only[hk,hks]
 congr 1
 exact BbC _
theorem Be4 {a:Arr} {l u c:Int} {f:Node} (hm:Mt l u c) (hk:n.kind=35) (hks:n.kids=[f])
  (he:∀l u,Mt l u c->dO G (fG f) N V l u c (λN V m=>bE (f,a,a,N,V,m))):dO G (fG n) N V l u c (λN V m=>aZ (n,a,N,V,m)):=by
 refine dO.go (Y:=λN V m=>bE (f,a,a,N,V,m)) hm ?_ (λh=>(he _ _ h).sub (oG (by rw[hks]; simp)))
 intro N V l u c
 conv=>lhs; simp only[]; rw[aZ]
 refine ob λ⟨e1,left,used⟩=>?_
 simp only[hk,hks]
 congr 1
 exact BbC _
theorem BgO {a b:Arr} {l u c:Int} {e:Node} (hm:Mt l u c) (hk:n.kind=23) (hks:n.kids=[e])
  (he:∀l u,Mt l u c->dO G (fG e) N V l u c (λN V m=>aJ (e,.mk a b,N,V,m))):dO G (fG n) N V l u c (λN V m=>bE (n,a,b,N,V,m)):=by
 refine dO.go (Y:=λN V m=>aJ (e,.mk a b,N,V,m)) hm ?_ (λh=>(he _ _ h).sub (oG (by rw[hks]; simp)))
 intro N V l u c
 conv=>lhs; simp only[]; rw[bE]
 refine ob λ⟨e1,left,used⟩=>?_
 simp only[hk,hks]
 congr 1
 exact BbC _
theorem BeR {a b:Arr} {l u c:Int} {f:Node} (hm:Mt l u c) (hk:n.kind=35) (hks:n.kids=[f])
  (he:∀l u,Mt l u c->dO G (fG f) N V l u c (λN V m=>bE (f,b,a,N,V,m))):dO G (fG n) N V l u c (λN V m=>bE (n,a,b,N,V,m)):=by
 refine dO.go (Y:=λN V m=>bE (f,b,a,N,V,m)) hm ?_ (λh=>(he _ _ h).sub (oG (by rw[hks]; simp)))
 intro N V l u c
 conv=>lhs; simp only[]; rw[bE]
 refine ob λ⟨e1,left,used⟩=>?_
 simp only[hk,hks]
 congr 1
 exact BbC _
theorem BiA {N:List Str} {V:List Arr} {l u c l2 u2:Int} (hn:n.op_<=4096):∀(k:Nat) (i:Int) (sh:List Int) (cs:List aA) (c0 c1:Int),0<=i->n.op_-i=k ->
  bQ (n,N,V,.mk (.mk l u) c,i,sh,cs,c0,c1)=bQ (n,N,V,.mk (.mk l2 u2) c,i,sh,cs,c0,c1)
 |0,i,sh,cs,c0,c1,hi,h=>by
  conv=>lhs; rw[bQ]
  conv=>rhs; rw[bQ]
  simp only[bZ (show ¬i<n.op_ by omega),fJ,if_false]
 |k+1,i,sh,cs,c0,c1,hi,h=>by
  conv=>lhs; rw[bQ]
  conv=>rhs; rw[bQ]
  have e:w64 (i+1)=i+1:=aE (by omega) (by omega)
  simp only[e]
  congr 1
  refine ob λy=>ob λ⟨x21,e1,l3,u3⟩=>?_
  by_cases he:e1=0
  ·subst he
   exact BiA hn k (i+1) _ _ _ _ (by omega) (by omega)
  rw[if_pos (by simpa using he),if_pos (by simpa using he)]
def BgF (r:Except (Arr×Int×Int×Int) (List Int×List aA×Int×Int)):Option (Arr×Int×Int×Int):=match r with|.error r=>some r|.ok (x01,x111,c01,c11)=>some (.mk x01 x111,0,c01,c11)
theorem Ax0 {f:Node} {c:Int} (hf0:Few N) (hks:n.kids=[f]) (hn:n.op_<=4096) (hf:∀l u a,Mt l u c->Arg G c a->dO G (fG f) N V l u c (λN V m=>aZ (f,a,N,V,m))) :
  ∀(k:Nat) (i:Int) (a:Arr) (l u:Int),0<=i->n.op_-i=k->Mt l u c->Arg G c a->dO G (fG n) N V l u c (λN V m=>bQ (n,N,V,m,i,a.shape,a.cells,m.fuel.left,m.fuel.used)>>=BgF)
 |0,i,a,l,u,hi,h,hm,ha=>by
  refine dO.val hf0 hm.1 (x:=a) (e:=0) (λ_=>ha) λN2 V2 l2 c2 _ _ _=>?_
  rw[bQ]
  simp only[bZ (show ¬i<n.op_ by omega),fJ,if_false]
  cases a; rfl
 |k+1,i,a,l,u,hi,h,hm,ha=>by
  let Y:Arr->List Str->List Arr->aG->Option (Arr×Int×Int×Int):=λx N V m=>bQ (n,N,V,m,i+1,x.shape,x.cells,m.fuel.left,m.fuel.used)>>=BgF
  let K:Arr×Int×Int×Int->List Str->List Arr->Int->Option (Arr×Int×Int×Int):=λ(x7,e1,left1,used1) N V c=>
   if (e1 != 0) then some (.mk [] [],e1,left1,used1) else Y x7 N V (.mk (.mk left1 used1) c)
  refine dO.seq (X1:=λN V m=>aZ (f,a,N,V,m)) (K:=K) (Y:=Y) ((hf _ _ a hm ha).sub (oG (by rw[hks]; simp))) ?_ ?_ ?_ ?_
  ·intro N V l u c
   simp only[]
   rw[bQ]
   have e:w64 (i+1)=i+1:=aE (by omega) (by omega)
   simp only[dH (show i<n.op_ by omega),if_true,hks,e]
   rw[show lget [f] 0=some f from rfl]
   have ea:Arr.mk a.shape a.cells=a:=by cases a; rfl
   simp only[oJ,bJ,Option.bind_assoc,ea]
   refine ob λ⟨x21,e1,l3,u3⟩=>?_
   by_cases he:e1=0
   ·subst he
    simp only[K,Y]
    have:=BiA (n:=n) (N:=N) (V:=V) (l:=l) (u:=u) (c:=c) (l2:=l3) (u2:=u3) hn k (i+1) x21.shape x21.cells l3 u3 (by omega) (by omega)
    show (bQ _>>=BgF)=_
    rw[this]
    rfl
   simp only[K]
   rw[if_pos (by simpa using he),if_pos (by simpa using he)]
   rfl
  ·intro x e l u N V c he
   simp only[K]; rw[if_pos (by simpa using he)]
  ·intro x l u N V c
   rfl
  intro x l' hv hw h0 h1
  exact Ax0 hf0 hks hn hf k (i+1) x l' _ (by omega) (by omega) (hm.less h0 h1) ⟨hv,hw⟩
theorem BgB {a:Arr} {l u c:Int} {f:Node} (hf0:Few N) (hm:Mt l u c) (ha:Arg G c a) (hk:n.kind=26) (ho:0<=n.op_) (hn:n.op_<=4096) (hks:n.kids=[f])
  (hf:∀l u a,Mt l u c->Arg G c a->dO G (fG f) N V l u c (λN V m=>aZ (f,a,N,V,m))):dO G (fG n) N V l u c (λN V m=>aZ (n,a,N,V,m)):=by
 refine dO.go (Y:=λN V m=>bQ (n,N,V,m,0,a.shape,a.cells,m.fuel.left,m.fuel.used)>>=BgF) hm ?_ (λh=>Ax0 hf0 hks hn hf (n.op_.toNat) 0 a _ _ (by omega) (by omega) h ha)
 intro N V l u c
 conv=>lhs; simp only[]; rw[aZ]
 refine ob λ⟨e1,left,used⟩=>?_
 simp only[hk]
 congr 1
 rw[←BiA (n:=n) (N:=N) (V:=V) (l:=l) (u:=u) (c:=c) (l2:=left) (u2:=used) hn (n.op_.toNat) 0 a.shape a.cells left used (by omega) (by omega)]
 rw[if_neg (by decide),if_neg (by decide),if_neg (by decide)]
 simp only[show ((26:Int)==31)=false from rfl,show ((26:Int)==32)=false from rfl,show ((26:Int)==33)=false from rfl,show ((26:Int)==34)=false from rfl,fJ,if_false,oJ,bJ]
 refine ob λr=>?_
 cases r<;>rfl
theorem Bg8 (hf:Few N) (hG:G->∀v∈V,Val 0 v->wA v<big) (n:Node):OkE G N V n/\OkM G N V n/\OkT G N V n/\OkD G N V n:=by
 refine Node.ind (P:=λn=>OkE G N V n/\OkM G N V n/\OkT G N V n/\OkD G N V n) ?_ n
 intro n ih
 have okT:OkT G N V n:=by
  intro h hl a b l u c hm ha hb
  cases h with
  |prim hk=>exact BeS hm ha hb hk
  | @lam _ e hk hks he=>
   exact BgO hm hk hks λl u hm=>(ih e (by rw[hks]; simp)).1 true true he (λg=>(hl g).kids e (by rw[hks]; simp)) _ l u c hm (λ_=>ha) (λ_=>hb)
 refine⟨?_,?_,okT,?_⟩
 ·intro lt rt h hl ar l u c hm h1 h2
  cases h with
  |lit hk hv=>exact BdL hm.1 (by have:=hm; unfold Mt at this; omega) hm.2.1 (by have:=hm; unfold Mt at this; omega) hk hv λg=>(hl g).lit hk hv
  |var hk=>exact BdM hf hG hm hk
  |left hk hlt=>exact AvW hf hm (h1 hlt) (.inl ⟨hk,rfl⟩)
  |right hk hlt=>exact AvW hf hm (h2 hlt) (.inr ⟨hk,rfl⟩)
  | @mo _ f x _ _ hk hks hF hX=>
   exact BfT hm hk hks (λhm=>(ih x (by rw[hks]; simp)).1 lt rt hX (λg=>(hl g).kids x (by rw[hks]; simp)) ar _ _ c hm h1 h2)
    (λl u a hm ha=>(ih f (by rw[hks]; simp)).2.1 hF (λg=>(hl g).kids f (by rw[hks]; simp)) a l u c hm ha)
  | @dy _ f x y _ _ hk hks hF hX hY=>
   exact BfS hm hk hks (λl u hm=>(ih y (by rw[hks]; simp)).1 lt rt hY (λg=>(hl g).kids y (by rw[hks]; simp)) ar _ _ c hm h1 h2)
    (λl u hm=>(ih x (by rw[hks]; simp)).1 lt rt hX (λg=>(hl g).kids x (by rw[hks]; simp)) ar _ _ c hm h1 h2)
    (λl u a b hm ha hb=>(ih f (by rw[hks]; simp)).2.2.2 hF (λg=>(hl g).kids f (by rw[hks]; simp)) a b l u c hm ha hb)
 ·intro h hl a l u c hm ha
  cases h with
  |prim hk=>exact Be6 hm ha hk
  | @lam _ e hk hks he=>
   exact BgA hm hk hks λl u hm=>(ih e (by rw[hks]; simp)).1 false true he (λg=>(hl g).kids e (by rw[hks]; simp)) _ l u c hm (λh=>by cases h) (λ_=>ha)
  | @fold _ b hk hks hb=>exact Be5 hm ha hk hks hb
  | @comm _ f hk hks hF=>
   exact Be4 hm hk hks λl u hm=>(ih f (by rw[hks]; simp)).2.2.1 hF (λg=>(hl g).kids f (by rw[hks]; simp)) a a l u c hm ha ha
  | @pow _ f hk ho hn hks hF=>
   exact BgB hf hm ha hk ho hn hks λl u a hm ha=>(ih f (by rw[hks]; simp)).2.1 hF (λg=>(hl g).kids f (by rw[hks]; simp)) a l u c hm ha
 intro h hl a b l u c hm ha hb
 cases h with
 | @outer _ k hk hks hb'=>exact Bc9 hm ha hb hk hks hb'
 | @comm _ f hk hks hF=>
  exact BeR hm hk hks λl u hm=>(ih f (by rw[hks]; simp)).2.2.1 hF (λg=>(hl g).kids f (by rw[hks]; simp)) b a l u c hm hb ha
 |two h=>exact okT h hl a b l u c hm ha hb
end
end Go.AM.Seat
namespace Go.AM.Seat
open Go Go.AM
def mx (x:Int):Int:=if x<0 then 0 else x
theorem BaR {G:Prop} {N:List Str} {V:List Arr} {n:Node} {fuel cells:Int} (hN:fitN n) (hf:Few N) (hG:G->∀v∈V,Val 0 v->wA v<big) (hl:G->AiT n) (h1:fuel<=2000) (h2:cells<=300) :
  ∃x i e,uS (.mk N V) n fuel cells=some (x,i,e)/\0<=i/\i<=mx fuel/\(e≠0->x=.mk [] [])/\(e=0->Val 0 x/\(G->(wA x:Int)<=mx cells)) /\
   ∀fuel2 cells2 N2 V2,mx fuel<=mx fuel2->mx fuel2<=5000->mx cells<=mx cells2->mx cells2<=5000->(∀s∈fG n,Lk N V N2 V2 s)->((e≠11/\e≠12)\/(mx fuel2=mx fuel/\mx cells2=mx cells)) ->
    uS (.mk N2 V2) n fuel2 cells2=some (x,i,e):=by
 have E:∀N V (fuel cells:Int),uS (.mk N V) n fuel cells=sN n>>=λx=>if (x != 0) then some (.mk [] [],0,1) else
   aJ (n,.mk (.mk [] []) (.mk [] []),N,V,.mk (.mk (mx fuel) 0) (mx cells))>>=λ(x1,e,left,used)=>if (e != 0) then some (.mk [] [],used,e) else fE x1>>=λx3=>some (x3,used,0):=by
  intro N V fuel cells
  rfl
 have m1:0<=mx fuel:=by unfold mx; split<;>omega
 have m2:mx fuel<=2000:=by unfold mx; split<;>omega
 have m3:mx cells<=300:=by unfold mx; split<;>omega
 obtain⟨ck,hck,hw⟩:=BfC hN
 by_cases hc:ck=0
 ·subst hc
  obtain⟨x,e,l',g1,g2,g3,g4,g5⟩:=(Bg8 (G:=G) hf hG n).1 false false (hw rfl) hl (.mk (.mk [] []) (.mk [] [])) (mx fuel) 0 (mx cells) ⟨m1,by omega,by omega,by omega⟩ (λh=>by cases h) (λh=>by cases h)
  simp only[] at g1 g5
  by_cases he:e=0
  ·subst he
   obtain⟨v1,v2⟩:=g4 rfl
   refine⟨x,0+(mx fuel-l'),0,?_,by omega,by omega,λh=>absurd rfl h,g4,λfuel2 cells2 N2 V2 a b c d s r=>?_⟩
   ·rw[E,hck]
    simp only[oJ,bJ]
    rw[if_neg (by decide),g1]
    simp only[bJ]
    rw[if_neg (by decide),sE x 0 v1]
    rfl
   rw[E,hck]
   simp only[oJ,bJ]
   have:=g5 (mx fuel2-mx fuel) (mx cells2) N2 V2 (by omega) (by omega) c (by omega) s (.inl (by omega))
   rw[show mx fuel+(mx fuel2-mx fuel)=mx fuel2 by omega] at this
   rw[if_neg (by decide),this]
   simp only[bJ]
   rw[if_neg (by decide),sE x 0 v1]
   rfl
  refine⟨.mk [] [],0+(mx fuel-l'),e,?_,by omega,by omega,λ_=>rfl,λh=>absurd h he,λfuel2 cells2 N2 V2 a b c d s r=>?_⟩
  ·rw[E,hck]
   simp only[oJ,bJ]
   rw[if_neg (by decide),g1]
   simp only[bJ]
   rw[if_pos (by simpa using he)]
  rw[E,hck]
  simp only[oJ,bJ]
  have:=g5 (mx fuel2-mx fuel) (mx cells2) N2 V2 (by omega) (by omega) c (by omega) s (r.imp id λh=>⟨by omega,h.2⟩)
  rw[show mx fuel+(mx fuel2-mx fuel)=mx fuel2 by omega] at this
  rw[if_neg (by decide),this]
  simp only[bJ]
  rw[if_pos (by simpa using he)]
 refine⟨.mk [] [],0,1,?_,by omega,by omega,λ_=>rfl,λh=>by omega,λfuel2 cells2 N2 V2 a b c d s r=>?_⟩
 ·rw[E,hck]
  simp only[oJ,bJ]
  rw[if_pos (by simpa using hc)]
 rw[E,hck]
 simp only[oJ,bJ]
 rw[if_pos (by simpa using hc)]
theorem AlG (a:Int):p_triglyphref03_ints a a=some 0:=by
 unfold p_triglyphref03_ints
 simp
theorem AlW {a:Arr} (hf:Few a.shape):∀(r:List Int) (k:Nat),a.shape.drop k=r->cX (a,a,0,(k:Int))=some 0
 | [],k,h=>by
  rw[cX]
  simp only[bZ (cC h),fJ,if_false]
 |d::r,k,h=>by
  rw[cX]
  simp only[dH (cD h),if_true,bN h,oJ,bJ,AlG,bW h hf]
  exact AlW hf r (k+1) (bC h)
theorem AlX {a:Arr} (hf:Few a.cells) (hc:∀c∈a.cells,iN (c,c)=some 0):∀(r:List aA) (k:Nat),a.cells.drop k=r->cY (a,a,0,(k:Int))=some 0
 | [],k,h=>by
  rw[cY]
  simp only[bZ (cC h),fJ,if_false]
 |c::r,k,h=>by
  rw[cY]
  have hm:c∈a.cells:=List.mem_of_mem_drop (i:=k) (by rw[h]; simp)
  simp only[dH (cD h),if_true,bN h,oJ,bJ,hc c hm,bW h hf]
  exact AlX hf hc r (k+1) (bC h)
theorem Ah2:∀{l:List aA},Aw0 l->∀c∈l,AtL c
 |n::r,h,k,hk=>by
  rcases List.mem_cons.1 hk with rfl|hk
  ·exact h.1
  exact Ah2 h.2 k hk
theorem AvZ:∀{l:List Arr},BfV l->∀c∈l,fitA c
 |n::r,h,k,hk=>by
  rcases List.mem_cons.1 hk with rfl|hk
  ·exact h.1
  exact AvZ h.2 k hk
theorem AtL.box {c:aA} (h:AtL c):∀b∈c.box,fitA b:=by cases c; exact AvZ h.2
theorem AtL.few {c:aA} (h:AtL c):Few c.box:=by cases c; exact h.1
theorem BaP {c:aA} (hb:∀b∈c.box,fB (b,b)=some 0):iN (c,c)=some 0:=by
 obtain⟨k,n,bx⟩:=c
 rw[iN]
 simp only[aA.kind,aA.n,aA.box,AlG,oJ,bJ,beq_self_eq_true,if_true] at hb ⊢
 cases bx with
 |nil=>rfl
 |cons b r=>
  have h0:lget (b::r) 0=some b:=rfl
  simp only[h0,bJ,hb b (by simp)]
  repeat' split
  all_goals rfl
theorem AuK (a:Arr):fitA a->fB (a,a)=some 0:=by
 refine Arr.ind (P:=λa=>fitA a->fB (a,a)=some 0) ?_ a
 intro sh cs ih hf
 obtain⟨f1,f2,f3⟩:=hf
 rw[fB]
 simp only[AlG,oJ,bJ]
 rw[show cX (Arr.mk sh cs,Arr.mk sh cs,0,0)=some 0 from AlW (a:=.mk sh cs) f1 sh 0 rfl]
 simp only[bJ]
 rw[show cY (Arr.mk sh cs,Arr.mk sh cs,0,0)=some 0 from AlX (a:=.mk sh cs) f2 (λc hc=>BaP λb hb=>ih c hc b hb ((Ah2 f3 c hc).box b hb)) cs 0 rfl]
 rfl
theorem Val.fit (a:Arr):∀d,Val d a->fitA a:=by
 refine Arr.ind (P:=λa=>∀d,Val d a->fitA a) ?_ a
 intro sh cs ih d h
 have hi:=h.i
 have hcs:∀(l:List aA),(∀c∈l,AcV c d=0/\∀b∈c.box,∀d,Val d b->fitA b)->Aw0 l:=by
  intro l
  induction l with
  |nil=>intro _; trivial
  |cons c r ihl=>
   intro hh
   refine⟨?_,ihl λc hc=>hh c (by simp[hc])⟩
   obtain⟨h1,h2⟩:=hh c (by simp)
   rcases rJ h1 with ⟨_,_,_,b,hb,hv⟩|⟨hb,_⟩
   ·obtain⟨k,n,bx⟩:=c
    simp only[aA.box] at hb h2
    subst hb
    exact⟨by unfold Few; simp,h2 b (by simp) _ hv,trivial⟩
   obtain⟨k,n,bx⟩:=c
   simp only[aA.box] at hb
   subst hb
   exact⟨by unfold Few; simp,trivial⟩
 exact⟨h.fews,h.fewc,hcs cs λc hc=>⟨hi.cells c hc,ih c hc⟩⟩
theorem BaU {a:Arr} (h:Val 0 a):eQ a a=some true:=by
 unfold eQ
 rw[AuK a (Val.fit a 0 h)]
 rfl
theorem BcK:eQ (.mk [] []) (.mk [] [])=some true:=by
 unfold eQ
 rw[AuK (.mk [] []) (show fitA (.mk [] []) from ⟨by unfold Few; simp,by unfold Few; simp,trivial⟩)]
 rfl
theorem BjH {a b:Nat} (h:a+b<=9223372036854775807):w64 ((a:Int)+(b:Int))=((a+b:Nat):Int):=by
 rw[aE (by omega) (by omega)]; omega
def Bd (deep:Int):Int:=(deep+1)*562949953421312
def Wt (a:Arr) (most deep r:Int):Prop:=0<=r/\r<=most+Bd deep/\(r<=most->(wA a:Int)<=r)
theorem BhN {a:Arr} {most deep:Int} {c:aA} {i:Int} (hl:lget a.cells i=some c) (hf:Few c.box) (h0:0<=most) (h1:most<=3000) (hd:0<=deep) (hd2:deep<=16)
  (hb:∀b∈c.box,∀most,0<=most->most<=3000->0<=deep-1->T (cZ (b,most,deep-1)) (Wt b most (deep-1))) :
  ∀(r:List Arr) (k:Nat) (n:Int),c.box.drop k=r->0<=n->n<=most+Bd deep->T (cU (a,most,deep,i,n,(k:Int))) (λr'=>match r' with|.error e=>e=most+1|.ok m=>n<=m/\m<=most+Bd deep/\(m<=most->n+(wB r:Int)<=m))
 | [],k,n,h,hn,hn2=>by
  rw[cU]
  simp only[hl,oJ,bJ,bZ (cC h),fJ,if_false]
  exact T.ret ⟨Int.le_refl _,hn2,λ_=>by simp[wB]⟩
 |b::r,k,n,h,hn,hn2=>by
  have hm:b∈c.box:=List.mem_of_mem_drop (i:=k) (by rw[h]; simp)
  rw[cU]
  simp only[hl,oJ,bJ,dH (cD h),if_true,bN h,bW h hf]
  refine T.ite (λhle=>?_) (λhle=>T.ret ⟨Int.le_refl _,hn2,λh=>absurd h (by simpa using hle)⟩)
  have hle:n<=most:=by simpa using hle
  refine T.ite (λ_=>T.ret (aE (by omega) (by omega))) (λhdd=>?_)
  have hdd:deep≠0:=by simpa using hdd
  rw[aE (x:=deep-1) (by omega) (by omega),aE (x:=most-n) (by omega) (by omega)]
  refine T.bind (hb b hm _ (by omega) (by omega) (by omega)) (λx hx=>?_)
  obtain⟨x0,x1,x2⟩:=hx
  have eB:Bd deep=Bd (deep-1)+562949953421312:=by unfold Bd; omega
  have lB:0<=Bd (deep-1)/\Bd (deep-1)<=9570149208162304:=by unfold Bd; omega
  have e2:w64 (n+1)=n+1:=aE (by omega) (by omega)
  have e3:w64 (n+1+x)=n+1+x:=aE (by omega) (by omega)
  rw[e2,e3]
  refine T.imp (BhN hl hf h0 h1 hd hd2 hb r (k+1) (n+1+x) (bC h) (by omega) (by omega)) (λv hv=>?_)
  match v,hv with
  |.error e,hv=>exact hv
  |.ok m,hv=>
   obtain⟨g1,g2,g3⟩:=hv
   refine⟨by omega,g2,λhm=>?_⟩
   have:=g3 hm
   have:=x2 (by omega)
   simp only[wB,Int.natCast_add]
   omega
theorem BhM {a:Arr} {most deep:Int} (hf:Few a.cells) (h0:0<=most) (h1:most<=3000) (hd:0<=deep) (hd2:deep<=16) (hfb:∀c∈a.cells,Few c.box)
  (hb:∀c∈a.cells,∀b∈c.box,∀most,0<=most->most<=3000->0<=deep-1->T (cZ (b,most,deep-1)) (Wt b most (deep-1))) :
  ∀(r:List aA) (k:Nat) (n:Int),a.cells.drop k=r->0<=n->n<=most+Bd deep->T (p_triglyphref03_weight_l0 (a,most,deep,n,(k:Int))) (λr'=>match r' with|.error e=>e=most+1|.ok m=>n<=m/\m<=most+Bd deep/\(m<=most->n+(bCs r:Int)<=m))
 | [],k,n,h,hn,hn2=>by
  rw[p_triglyphref03_weight_l0]
  simp only[bZ (cC h),fJ,if_false]
  exact T.ret ⟨Int.le_refl _,hn2,λ_=>by simp[bCs]⟩
 |c::r,k,n,h,hn,hn2=>by
  have hm:c∈a.cells:=List.mem_of_mem_drop (i:=k) (by rw[h]; simp)
  rw[p_triglyphref03_weight_l0]
  simp only[dH (cD h),if_true,bW h hf]
  refine T.ite (λhle=>?_) (λhle=>T.ret ⟨Int.le_refl _,hn2,λh=>absurd h (by simpa using hle)⟩)
  refine T.bind (BhN (bN h) (hfb c hm) h0 h1 hd hd2 (hb c hm) c.box 0 n rfl hn hn2) (λv hv=>?_)
  match v,hv with
  |.error e,hv=>exact T.ret hv
  |.ok m,hv=>
   obtain⟨g1,g2,g3⟩:=hv
   refine T.imp (BhM hf h0 h1 hd hd2 hfb hb r (k+1) m (bC h) (by omega) g2) (λv hv=>?_)
   match v,hv with
   |.error e,hv=>exact hv
   |.ok m2,hv=>
    obtain⟨k1,k2,k3⟩:=hv
    refine⟨by omega,k2,λhm2=>?_⟩
    have:=k3 hm2
    have:=g3 (by omega)
    have e1:bCs (c::r)=wC c+bCs r:=rfl
    rw[e1,AxV]
    omega
theorem BeX (a:Arr):fitA a->∀most deep:Int,0<=most->most<=3000->0<=deep->deep<=16->T (cZ (a,most,deep)) (Wt a most deep):=by
 refine Arr.ind (P:=λa=>fitA a->∀most deep:Int,0<=most->most<=3000->0<=deep->deep<=16->T (cZ (a,most,deep)) (Wt a most deep)) ?_ a
 intro sh cs ih hf most deep h0 h1 hd hd2
 obtain⟨f1,f2,f3⟩:=hf
 have l1:sh.length<=140737488355328:=f1
 have l2:cs.length<=140737488355328:=f2
 have ew:wA (.mk sh cs)=cs.length+bCs cs:=by rw[AxU,An0]; rfl
 have lB:562949953421312<=Bd deep:=by unfold Bd; omega
 rw[cZ]
 simp only[show (Arr.mk sh cs).shape=sh from rfl,show (Arr.mk sh cs).cells=cs from rfl]
 rw[BjH (by omega)]
 refine T.bind (BhM (a:=.mk sh cs) f2 h0 h1 hd hd2 (λc hc=>(Ah2 f3 c hc).few) (λc hc b hb most a1 a2 a3=>ih c hc b hb ((Ah2 f3 c hc).box b hb) most (deep-1) a1 a2 a3 (by omega)) cs 0 _ rfl (by omega) (by omega)) (λv hv=>?_)
 match v,hv with
 |.error e,hv=>exact T.ret ⟨by omega,by omega,λh=>by omega⟩
 |.ok m,hv=>
  obtain⟨g1,g2,g3⟩:=hv
  refine T.ret ⟨by omega,g2,λhm=>?_⟩
  have:=g3 hm
  rw[ew]
  omega
theorem AuS {a:Arr} {most:Int} (hf:fitA a) (h0:0<=most) (h1:most<=3000):T (fX a most) (λr=>0<=r/\r<=9570149208165304/\(r<=most->(wA a:Int)<=r)):=by
 unfold fX
 refine T.bind (BeX a hf most 16 h0 h1 (by omega) (by omega)) (λx hx=>T.ret ⟨hx.1,?_,hx.2.2⟩)
 have:=hx.2.1
 unfold Bd at this
 omega
def BdN (deep:Int):Int:=(deep+2)*18014398509481984
def WtN (n:Node) (most deep r:Int):Prop:=0<=r/\r<=most+BdN deep/\(r<=most->AiT n)
theorem fitN.lit {n:Node} (h:fitN n):fitA n.lit:=by cases n; exact h.2.1
theorem BhL {n:Node} {most deep:Int} (hf:Few n.kids) (h0:0<=most) (h1:most<=3000) (hd:0<=deep) (hd2:deep<=40)
  (hb:∀c∈n.kids,∀most,0<=most->most<=3000->0<=deep-1->T (dV (c,most,deep-1)) (WtN c most (deep-1))) :
  ∀(r:List Node) (i:Nat) (k:Int),n.kids.drop i=r->0<=k->k<=most+BdN deep->T (cV (n,most,deep,k,(i:Int))) (λr'=>match r' with|.error e=>e=most+1|.ok m=>k<=m/\m<=most+BdN deep/\(m<=most->Ba7 r))
 | [],i,k,h,hk,hk2=>by
  rw[cV]
  simp only[bZ (cC h),fJ,if_false]
  exact T.ret ⟨Int.le_refl _,hk2,λ_=>trivial⟩
 |c::r,i,k,h,hk,hk2=>by
  have hm:c∈n.kids:=List.mem_of_mem_drop (i:=i) (by rw[h]; simp)
  rw[cV]
  simp only[dH (cD h),if_true,bW h hf,bN h,oJ,bJ]
  refine T.ite (λhle=>?_) (λhle=>T.ret ⟨Int.le_refl _,hk2,λh=>absurd h (by simpa using hle)⟩)
  have hle:k<=most:=by simpa using hle
  refine T.ite (λ_=>T.ret (aE (by omega) (by omega))) (λhdd=>?_)
  have hdd:deep≠0:=by simpa using hdd
  rw[aE (x:=deep-1) (by omega) (by omega),aE (x:=most-k) (by omega) (by omega)]
  refine T.bind (hb c hm _ (by omega) (by omega) (by omega)) (λx hx=>?_)
  obtain⟨x0,x1,x2⟩:=hx
  have eB:BdN deep=BdN (deep-1)+18014398509481984:=by unfold BdN; omega
  have lB:0<=BdN (deep-1)/\BdN (deep-1)<=756604737398243328:=by unfold BdN; omega
  rw[aE (x:=k+x) (by omega) (by omega)]
  refine T.imp (BhL hf h0 h1 hd hd2 hb r (i+1) (k+x) (bC h) (by omega) (by omega)) (λv hv=>?_)
  match v,hv with
  |.error e,hv=>exact hv
  |.ok m,hv=>
   obtain⟨g1,g2,g3⟩:=hv
   exact⟨by omega,g2,λhm=>⟨x2 (by omega),g3 hm⟩⟩
theorem BcA (n:Node):fitN n->∀most deep:Int,0<=most->most<=3000->0<=deep->deep<=40->T (dV (n,most,deep)) (WtN n most deep):=by
 refine Node.ind (P:=λn=>fitN n->∀most deep:Int,0<=most->most<=3000->0<=deep->deep<=40->T (dV (n,most,deep)) (WtN n most deep)) ?_ n
 intro n ih hf most deep h0 h1 hd hd2
 rw[dV]
 have lB:36028797018963968<=BdN deep/\BdN deep<=756604737398243328:=by unfold BdN; omega
 refine T.bind (AuS hf.lit h0 h1) (λx hx=>?_)
 obtain⟨x0,x1,x2⟩:=hx
 rw[aE (x:=1+x) (by omega) (by omega)]
 refine T.bind (BhL hf.fewk h0 h1 hd hd2 (λc hc most a1 a2 a3=>ih c hc (hf.kids c hc) most (deep-1) a1 a2 a3 (by omega)) n.kids 0 (1+x) rfl (by omega) (by omega)) (λv hv=>?_)
 match v,hv with
 |.error e,hv=>exact T.ret ⟨by omega,by omega,λh=>by omega⟩
 |.ok m,hv=>
  obtain⟨g1,g2,g3⟩:=hv
  refine T.ret ⟨by omega,g2,λhm=>?_⟩
  have h3:=g3 hm
  have h4:=x2 (by omega)
  obtain⟨kd,o,nm,lt,ks,at_⟩:=n
  exact⟨λ_ _=>by simp only[Node.lit] at h4; unfold big; omega,h3⟩
def BhR (N:List Str) (V:List Arr) (n:Node) (fuel cells:Int):Prop:=fuel<=2000/\cells<=300/\N.length<=40/\V.length<=40/\AiT n/\∀v∈V,wA v<big
theorem AwM {N:List Str} {V:List Arr} {n:Node} (hV:V.length<=40) (hf:∀v∈V,fitA v):∀(r:List Arr) (i:Nat) (w:Int),V.drop i=r->0<=w->w<=3000+9570149208165304 ->
  T (dX (.mk N V,n,w,(i:Int))) (λm=>w<=m/\(m<=3000->∀v∈r,wA v<big))
 | [],i,w,h,h0,h1=>by
  rw[dX]
  simp only[bZ (cC h),fJ,if_false]
  exact T.ret ⟨Int.le_refl _,λ_ v hv=>by simp at hv⟩
 |v::r,i,w,h,h0,h1=>by
  have hm:v∈V:=List.mem_of_mem_drop (i:=i) (by rw[h]; simp)
  have hfew:Few V:=by unfold Few; omega
  rw[dX]
  simp only[dH (cD h),if_true,bW h hfew,bN h,oJ,bJ]
  refine T.ite (λhle=>?_) (λhle=>T.ret ⟨Int.le_refl _,λh=>absurd h (by simpa using hle)⟩)
  have hle:w<=3000:=by simpa using hle
  refine T.bind (AuS (hf v hm) (by omega) (by omega)) (λx hx=>?_)
  obtain⟨x0,x1,x2⟩:=hx
  rw[aE (x:=w+x) (by omega) (by omega)]
  refine T.imp (AwM hV hf r (i+1) (w+x) (bC h) (by omega) (by omega)) (λm hm=>?_)
  refine⟨by omega,λh3 u hu=>?_⟩
  rcases List.mem_cons.1 hu with rfl|hu
  ·have:=x2 (by omega)
   unfold big; omega
  exact hm.2 h3 u hu
theorem BfD {N:List Str} {V:List Arr} {n:Node} {fuel cells:Int} (hn:fitN n) (hf:∀v∈V,fitA v):T (jR (.mk N V) n fuel cells) (λr=>¬r>0->BhR N V n fuel cells):=by
 unfold jR
 have no:∀{Q:Prop},(¬(1:Int)>0->Q):=λh=>absurd (by decide) h
 refine T.ite (λ_=>T.ret no) (λh1=>?_)
 refine T.ite (λ_=>T.ret no) (λh2=>?_)
 refine T.ite (λ_=>T.ret no) (λh3=>?_)
 refine T.ite (λ_=>T.ret no) (λh4=>?_)
 simp only[decide_eq_false_iff_not,Int.not_lt,gt_iff_lt] at h1 h2 h3 h4
 have h4':V.length<=40:=by omega
 have h3':N.length<=40:=by omega
 refine T.bind (R:=λr=>r<=3000->AiT n) ?_ (λx hx=>?_)
 ·unfold mB
  exact T.bind (BcA n hn 3000 40 (by omega) (by omega) (by omega) (by omega)) (λx hx=>T.ret hx.2.2)
 refine T.ite (λ_=>T.ret no) (λh5=>?_)
 simp only[decide_eq_false_iff_not,Int.not_lt,gt_iff_lt] at h5
 refine T.bind (AwM h4' hf V 0 0 rfl (by omega) (by omega)) (λw hw=>?_)
 refine T.ite (λ_=>T.ret no) (λh6=>T.ret λ_=>?_)
 simp only[decide_eq_false_iff_not,Int.not_lt,gt_iff_lt] at h6
 exact⟨h1,h2,h3',h4',hx h5,hw.2 h6⟩
theorem BhH {a b:Int} (h:0<=b):mx (mx a+b)=mx a+b/\0<=mx a/\(0<=a->mx a=a)/\(a<=2000->mx a<=2000)/\(a<=300->mx a<=300):=by
 unfold mx
 refine⟨?_,?_,?_,?_,?_⟩
 all_goals (repeat' split)
 all_goals omega
theorem BeY:AaQ=some true:=rfl
theorem RunMore_true {N:List Str} {V:List Arr} {n:Node} {fuel cells more:Int} (hn:fitN n) (hf:∀v∈V,fitA v) (h0:0<=more) (h1:more<=255):p_triglyphlaw11_RunMore (.mk N V) n fuel cells more=some true:=by
 unfold p_triglyphlaw11_RunMore
 obtain⟨x,hx,hq⟩:=BfD (N:=N) (fuel:=fuel) (cells:=cells) hn hf
 rw[hx]
 simp only[oJ,bJ,BeY]
 by_cases hl:x>0
 ·rw[if_pos (by simpa using hl)]
 rw[if_neg (by simpa using hl)]
 obtain⟨l1,l2,l3,l4,_⟩:=hq hl
 have hN:Few N:=by unfold Few; omega
 obtain⟨a,i,e,r1,_,_,r2,r3,r4⟩:=BaR (G:=False) (N:=N) (V:=V) (n:=n) (fuel:=fuel) (cells:=cells) hn hN (λh=>h.elim) (λh=>h.elim) l1 l2
 rw[r1]
 simp only[bJ]
 by_cases e1:e=11
 ·rw[if_pos (by simpa using e1)]
 rw[if_neg (by simpa using e1)]
 by_cases e2:e=12
 ·rw[if_pos (by simpa using e2)]
 rw[if_neg (by simpa using e2)]
 obtain⟨m1,m2,_,m3,_⟩:=BhH (a:=fuel) h0
 obtain⟨c1,c2,_,_,c3⟩:=BhH (a:=cells) h0
 have hw:w64 more=more:=aE (by omega) (by omega)
 have em:(if fuel<0 then 0 else fuel)=mx fuel:=rfl
 have ec:(if cells<0 then 0 else cells)=mx cells:=rfl
 have:=m3 l1
 have:=c3 l2
 rw[hw,em,ec,aE (x:=mx fuel+more) (by omega) (by omega),aE (x:=mx cells+more) (by omega) (by omega)]
 rw[r4 (mx fuel+more) (mx cells+more) N V (by omega) (by omega) (by omega) (by omega) (λs _ b b2=>Be2 hN b b2) (.inl ⟨e1,e2⟩)]
 simp only[bJ,beq_self_eq_true,if_true]
 have hs:eQ a a=some true:=by
  by_cases he:e=0
  ·exact BaU (r3 he).1
  rw[r2 he]; exact BcK
 rw[hs]
 rfl
end Go.AM.Seat
namespace Go.AM.Seat
open Go Go.AM Go.Proofs
abbrev AiL (r:Arr):aF:=(aF.ret (.d (aI r)) [])
abbrev AjP (r:aA):aF:=(aF.ret (.d (aD r)) [])
instance BdY:Jn 60 1 6 (List Arr):=⟨λy=>[],λy=>[(0,[(2,.d (.list 2 (List.map aX y)))])]⟩
abbrev AcK (a:Arr×LI×Int×(List aA)) (res:(List aA)):Prop:=match a with|(a_,l,x,out1)=>cH X 32 (aO [1,1,0,1,0,0] (aQ Tryz.f32)) (aH (X.H 32 3) 3) (aK 0 (X.H 32 1000000) 3 (iP (λ(out11:(List aA))=>(⟨[(2,.c (.ptr 1 0)),(3,.c (.ptr 2 0))],[(2,[.d (lI l),oC out11]),(1,[oI [],oC []]),(0,[.d (lI a_.shape),.d (lC a_.cells)])],3,[],none⟩:St)) res)) ⟨[(2,.c (.ptr 1 0)),(3,.c (.ptr 2 0)),(11,.d (lC a_.cells)),(12,.d (iZ (List.length a_.cells:Int))),(13,.d (iZ x))],[(2,[.d (lI l),oC out1]),(1,[oI [],oC []]),(0,[.d (lI a_.shape),.d (lC a_.cells)])],3,[],none⟩
abbrev AiW (a:Arr) (res:Arr):Prop:=match a with|a_=>aval X 32 [.d (aI a_)] [] (AiL res)
abbrev Ae1 (a:aA) (res:aA):Prop:=match a with|c=>aval X 60 [.d (aD c)] [] (AjP res)
theorem wK:(∀a res,kB a=some res->AcK a res)/\(∀a res,kD a=some res->Ae1 a res)/\(∀a res,fE a=some res->AiW a res):=by
 refine kB.mutual_partial_correctness (motive_1:=AcK) (motive_2:=Ae1) (motive_3:=AiW) ?_ ?_ ?_
 ·rintro P0 P1 I0 I1 ⟨a_,l,x,out1⟩ res h
  have I0:=Ok.mk' I0
  have I1:=Ok.mk' I1
  refine lg I ?_
  have iE:eR Tryz.f32 0 _ AiL:=⟨trivial⟩
  exact Wk
 ·rintro P0 I0 c res h
  have I0:=Ok.mk' I0
  exact aB AjP I Tryz.func60 I I I I I I λiE=>Wk
 rintro P0 I0 a_ res h
 have I0:=Ok.mk' I0
 exact aB AiL I Tryz.func32 I I I I I I λiE=>Wk
instance {a:Arr×LI×Int×(List aA)}:Ok (kB a) (AcK a):=⟨λh=>wK.1 a _ h⟩
instance {a:aA}:Ok (kD a) (Ae1 a):=⟨λh=>wK.2.1 a _ h⟩
instance {a:Arr}:Ok (fE a) (AiW a):=⟨λh=>wK.2.2 a _ h⟩
abbrev xD (r:Int×Int):aF:=(aF.ret (.tuple [.d (iZ r.1),.d (iZ r.2)]) [])
instance Bg1:Jn 96 0 1 (Bool):=⟨λy=>[(5,.d (.bool y))],λy=>[]⟩
abbrev Ai3 (a:LI×Bool×Int) (res:Except (Int×Int) (Bool)):Prop:=match a with|(shape,none_,x)=>cH X 96 (aO [1,1,1,0,1,0,0] (aQ Tryz.f96)) (aH (X.H 96 5) 0) (aK 0 (X.H 96 1000000) 0 (kS X Tryz.f96 0 xD (λ(none_2:Bool)=>(⟨[(0,.d (lI shape)),(4,.d (iZ 1)),(5,.d (.bool none_2))],[],0,[],none⟩:St)) res)) ⟨[(0,.d (lI shape)),(4,.d (iZ 1)),(5,.d (.bool none_)),(13,.d (lI shape)),(14,.d (iZ (List.length shape:Int))),(15,.d (iZ x))],[],0,[],none⟩
instance {a:LI×Bool×Int}:Ok (mF a) (Ai3 a):=⟨λh=>mF.partial_correctness Ai3 (by
 rintro P_ IH ⟨shape,none_,x⟩ res h
 have IH:=Ok.mk' IH
 have iE:eR Tryz.f96 0 _ xD:=⟨trivial⟩
 refine lg I ?_
 exact Wk) _ _ h⟩
abbrev Ai4 (a:LI×Int×Int) (res:Except (Int×Int) (Int)):Prop:=match a with|(shape,n,x1)=>cH X 96 (aO [1,1,1,1,1,0,1,0,0] (aQ Tryz.f96)) (aH (X.H 96 14) 0) (aK 2 (X.H 96 1000002) 0 (kS X Tryz.f96 0 xD (λ(n1:Int)=>(⟨[(4,.d (iZ n1))],[],0,[],none⟩:St)) res)) ⟨[(4,.d (iZ n)),(28,.d (lI shape)),(29,.d (iZ (List.length shape:Int))),(30,.d (iZ x1))],[],0,[],none⟩
instance {a:LI×Int×Int}:Ok (mG a) (Ai4 a):=⟨λh=>mG.partial_correctness Ai4 (by
 rintro P_ IH ⟨shape,n,x1⟩ res h
 have IH:=Ok.mk' IH
 have iE:eR Tryz.f96 0 _ xD:=⟨trivial⟩
 refine lg I ?_
 exact Wk) _ _ h⟩
instance {shape:LI}:Ok (jU shape) λr=>aval X 96 [.d (lI shape)] [] (xD r):=⟨λh=>by
 unfold jU at h
 exact aB xD I Tryz.func96 I I I I I I λiE=>Wk⟩
abbrev AoD (r:Bool):aF:=(aF.ret (.d (.bool r)) [])
instance {n:Int}:Ok (uQ n) λr=>aval X 209 [.d (iZ n)] [] (AoD r):=⟨λh=>by
 unfold uQ at h
 exact aB AoD I Tryz.func209 I I I I I I λiE=>Wk⟩
abbrev uV (r:Int):aF:=(aF.ret (.d (iZ r)) [])
instance Bf0:Jn 144 0 3 (Unit):=⟨λy=>[],λy=>[]⟩
abbrev AaR (a:Arr×Int×Int) (res:Except (Int) (Unit)):Prop:=match a with|(a_,deep,x)=>cH X 144 (aO [1,1,1,1,0,1,0,0] (aQ Tryz.f144)) (aH (X.H 144 7) 1) (aK 0 (X.H 144 1000000) 1 (kS X Tryz.f144 0 uV (λ(_:Unit)=>(⟨[(1,.d (iZ deep)),(2,.c (.ptr 0 0))],[(0,[.d (lI a_.shape),.d (lC a_.cells)])],1,[],none⟩:St)) res)) ⟨[(1,.d (iZ deep)),(2,.c (.ptr 0 0)),(27,.d (lI a_.shape)),(28,.d (iZ (List.length a_.shape:Int))),(29,.d (iZ x))],[(0,[.d (lI a_.shape),.d (lC a_.cells)])],1,[],none⟩
theorem AiZ:∀a res,iW a=some res->AaR a res:=by
 refine iW.partial_correctness AaR ?_
 rintro P_ IH ⟨a_,deep,x⟩ res h
 have IH:=Ok.mk' IH
 refine lg I ?_
 have iE:eR Tryz.f144 0 _ uV:=⟨trivial⟩
 exact Wk
instance {a:Arr×Int×Int}:Ok (iW a) (AaR a):=⟨λh=>AiZ a _ h⟩
abbrev AaS (a:Arr×Int×Int) (res:Except (Int) (Unit)):Prop:=match a with|(a_,deep,x1)=>cH X 144 (aO [1,1,1,1,1,0,1,0,0] (aQ Tryz.f144)) (aH (X.H 144 13) 1) (aK 2 (X.H 144 1000002) 1 (kS X Tryz.f144 0 uV (λ(_:Unit)=>(⟨[],[(0,[.d (lI a_.shape),.d (lC a_.cells)])],1,[],none⟩:St)) res)) ⟨[(1,.d (iZ deep)),(37,.d (lC a_.cells)),(38,.d (iZ (List.length a_.cells:Int))),(39,.d (iZ x1))],[(0,[.d (lI a_.shape),.d (lC a_.cells)])],1,[],none⟩
abbrev AfY (a:Arr×Int) (res:Int):Prop:=match a with|(a_,deep)=>aval X 144 [.d (aI a_),.d (iZ deep)] [] (uV res)
theorem Ab4:(∀a res,gR a=some res->AaS a res)/\(∀a res,pN a=some res->AfY a res):=by
 refine gR.mutual_partial_correctness (motive_1:=AaS) (motive_2:=AfY) ?_ ?_
 ·rintro P0 P1 I0 I1 ⟨a_,deep,x1⟩ res h
  have I0:=Ok.mk' I0
  have I1:=Ok.mk' I1
  refine lg I ?_
  have iE:eR Tryz.f144 0 _ uV:=⟨trivial⟩
  exact Wk
 rintro P0 I0 ⟨a_,deep⟩ res h
 have I0:=Ok.mk' I0
 exact aB uV I Tryz.func144 I I I I I I λiE=>Wk
instance {a:Arr×Int×Int}:Ok (gR a) (AaS a):=⟨λh=>Ab4.1 a _ h⟩
instance {a:Arr×Int}:Ok (pN a) (AfY a):=⟨λh=>Ab4.2 a _ h⟩
abbrev Am9 (r:Int):aF:=(aF.ret (.d (iZ r)) [])
instance {a_:Arr}:Ok (iK a_) λr=>aval X 71 [.d (aI a_)] [] (Am9 r):=⟨λh=>by
 unfold iK at h
 exact aB Am9 I Tryz.func71 I I I I I I λiE=>Wk⟩
abbrev oY (r:Bool):aF:=(aF.ret (.d (.bool r)) [])
instance BbO:Jn 123 0 1 (Unit):=⟨λy=>[],λy=>[]⟩
abbrev AbU (a:Arr×Int) (res:Except (Bool) (Unit)):Prop:=match a with|(a_,x1)=>cH X 123 (aO [1,1,0,1,0,0] (aQ Tryz.f123)) (aH (X.H 123 4) 1) (aK 0 (X.H 123 1000000) 1 (kS X Tryz.f123 0 oY (λ(_:Unit)=>(⟨[],[(0,[.d (lI a_.shape),.d (lC a_.cells)])],1,[],none⟩:St)) res)) ⟨[(1,.c (.ptr 0 0)),(27,.d (lC a_.cells)),(28,.d (iZ (List.length a_.cells:Int))),(29,.d (iZ x1))],[(0,[.d (lI a_.shape),.d (lC a_.cells)])],1,[],none⟩
instance {a:Arr×Int}:Ok (iY a) (AbU a):=⟨λh=>iY.partial_correctness AbU (by
 rintro P_ IH ⟨a_,x1⟩ res h
 have IH:=Ok.mk' IH
 have iE:eR Tryz.f123 0 _ oY:=⟨trivial⟩
 refine lg I ?_
 exact Wk) _ _ h⟩
abbrev AbV (a:Arr×Int) (res:Except (Bool) (Unit)):Prop:=match a with|(a_,x2)=>cH X 123 (aO [1,1,0,1,0,0] (aQ Tryz.f123)) (aH (X.H 123 4) 1) (aK 0 (X.H 123 1000000) 1 (kS X Tryz.f123 0 oY (λ(_:Unit)=>(⟨[],[(0,[.d (lI a_.shape),.d (lC a_.cells)])],1,[],none⟩:St)) res)) ⟨[(1,.c (.ptr 0 0)),(27,.d (lC a_.cells)),(28,.d (iZ (List.length a_.cells:Int))),(29,.d (iZ x2))],[(0,[.d (lI a_.shape),.d (lC a_.cells)])],1,[],none⟩
instance {a:Arr×Int}:Ok (jA a) (AbV a):=⟨λh=>jA.partial_correctness AbV (by
 rintro P_ IH ⟨a_,x2⟩ res h
 have IH:=Ok.mk' IH
 have iE:eR Tryz.f123 0 _ oY:=⟨trivial⟩
 refine lg I ?_
 exact Wk) _ _ h⟩
instance {a_:Arr}:Ok (pB a_) λr=>aval X 123 [.d (aI a_)] [] (oY r):=⟨λh=>by
 unfold pB at h
 exact aB oY I Tryz.func123 I I I I I I λiE=>Wk⟩
abbrev AbG (r:Bool):aF:=(aF.ret (.d (.bool r)) [])
instance Bf5:Jn 124 0 1 (Unit):=⟨λy=>[],λy=>[]⟩
abbrev Ag3 (a:Str×Int) (res:Except (Bool) (Unit)):Prop:=match a with|(s,x)=>cH X 124 (aO [1,0,1,0,0] (aQ Tryz.f124)) (aH (X.H 124 2) 0) (aK 0 (X.H 124 1000000) 0 (kS X Tryz.f124 0 AbG (λ(_:Unit)=>(⟨[(0,.d (.str s))],[],0,[],none⟩:St)) res)) ⟨[(0,.d (.str s)),(6,.d (iZ (List.length s:Int))),(7,.d (iZ x))],[],0,[],none⟩
instance {a:Str×Int}:Ok (mW a) (Ag3 a):=⟨λh=>mW.partial_correctness Ag3 (by
 rintro P_ IH ⟨s,x⟩ res h
 have IH:=Ok.mk' IH
 have iE:eR Tryz.f124 0 _ AbG:=⟨trivial⟩
 refine lg I ?_
 exact Wk) _ _ h⟩
instance {s:Str}:Ok (vD s) λr=>aval X 124 [.d (.str s)] [] (AbG r):=⟨λh=>by
 unfold vD at h
 exact aB AbG I Tryz.func124 I I I I I I λiE=>Wk⟩
abbrev rF (r:Bool×Int):aF:=(aF.ret (.d (.bool r.1)) [[.d (iZ r.2),.nilmap]])
instance {deep:Int} {nodes:Int}:Ok (bU deep nodes) λr=>aval X 121 [.ptr 0 0,.d (iZ deep)] [[.d (iZ nodes),.nilmap]] (rF r):=⟨λh=>by
 unfold bU at h
 exact aB rF I Tryz.func121 I I I I I I λiE=>Wk⟩
abbrev AhQ (r:Bool):aF:=(aF.ret (.d (.bool r)) [])
instance {op_:Int}:Ok (mH op_) λr=>aval X 224 [.d (iZ op_)] [] (AhQ r):=⟨λh=>by
 unfold mH at h
 exact aB AhQ I Tryz.func224 I I I I I I λiE=>Wk⟩
abbrev AjS (r:Bool):aF:=(aF.ret (.d (.bool r)) [])
instance {n:Node} {kids:Int} {op_:Bool} {name:Bool} {lit:Bool}:Ok (bM n kids op_ name lit) λr=>aval X 122 [.d (encNode n),.d (iZ kids),.d (.bool op_),.d (.bool name),.d (.bool lit)] [] (AjS r):=⟨λh=>by
 unfold bM at h
 exact aB AjS I Tryz.func122 I I I I I I λiE=>Wk⟩
abbrev pK (r:Bool×Int):aF:=(aF.ret (.d (.bool r.1)) [[.d (iZ r.2),.nilmap]])
instance AkW:Jn 187 1 9 (Int×Int×Int×Str×LI×(List aA)×(List Node)×Int×Int):=⟨λy=>[(2,.d (iZ y.1))],λy=>[(0,[(0,.d (iZ y.2.2.2.2.2.2.2.2))]),(1,[(0,.d (iZ y.2.1)),(1,.d (iZ y.2.2.1)),(2,.d (.str y.2.2.2.1)),(3,.d (lI y.2.2.2.2.1)),(4,.d (lC y.2.2.2.2.2.1)),(5,.d (lN y.2.2.2.2.2.2.1)),(6,.d (iZ y.2.2.2.2.2.2.2.1))])]⟩
instance {n:Node} {deep:Int} {nodes:Int}:Ok (dG n deep nodes) λr=>aval X 187 [.ptr 0 0,.d (encNode n),.d (iZ deep)] [[.d (iZ nodes),.nilmap]] (pK r):=⟨λh=>by
 unfold dG at h
 exact aB pK I Tryz.func187 I I I I I I λiE=>Wk⟩
abbrev yA (b:(List (Int×Bool))) (r:Bool×Int):aF:=(aF.ret (.d (.bool r.1)) [[.d (iZ r.2),.mp 1],[.mdat (List.map (yT .i64 D.bool) b)]])
instance {deep:Int} {nodes:Int} {b:(List (Int×Bool))}:Ok (cP deep nodes b) λr=>aval X 121 [.ptr 0 0,.d (iZ deep)] [[.d (iZ nodes),.mp 1],[.mdat (List.map (yT .i64 D.bool) b)]] ((yA b) r):=⟨λh=>by
 unfold cP at h
 exact aB (yA b) I Tryz.func121 I I I I I I λiE=>Wk⟩
abbrev vP (b:(List (Int×Bool))) (r:Bool×Int):aF:=(aF.ret (.d (.bool r.1)) [[.d (iZ r.2),.mp 1],[.mdat (List.map (yT .i64 D.bool) b)]])
instance AqK:Jn 187 1 9 (Int×Int×Int×Str×LI×(List aA)×(List Node)×Int×Int):=⟨λy=>[(2,.d (iZ y.1))],λy=>[(0,[(0,.d (iZ y.2.2.2.2.2.2.2.2))]),(2,[(0,.d (iZ y.2.1)),(1,.d (iZ y.2.2.1)),(2,.d (.str y.2.2.2.1)),(3,.d (lI y.2.2.2.2.1)),(4,.d (lC y.2.2.2.2.2.1)),(5,.d (lN y.2.2.2.2.2.2.1)),(6,.d (iZ y.2.2.2.2.2.2.2.1))])]⟩
instance {n:Node} {deep:Int} {nodes:Int} {b:(List (Int×Bool))}:Ok (fW n deep nodes b) λr=>aval X 187 [.ptr 0 0,.d (encNode n),.d (iZ deep)] [[.d (iZ nodes),.mp 1],[.mdat (List.map (yT .i64 D.bool) b)]] ((vP b) r):=⟨λh=>by
 unfold fW at h
 exact aB (vP b) I Tryz.func187 I I I I I I λiE=>Wk⟩
abbrev yZ (r:Bool×Int×(List (Int×Bool))):aF:=(aF.ret (.d (.bool r.1)) [[.d (iZ r.2.1),.mp 1],[.mdat (List.map (yT .i64 D.bool) r.2.2)]])
instance AuI:Jn 54 1 31 (Bool):=⟨λy=>[(31,.d (.bool y))],λy=>[]⟩
abbrev AbI (b:(List (Int×Bool))) (r:Bool×Int):aF:=(aF.ret (.d (.bool r.1)) [[.d (iZ r.2),.mp 1],[.mdat (List.map (yT .i64 D.bool) b)]])
instance AxW:Jn 125 1 33 (Bool):=⟨λy=>[(33,.d (.bool y))],λy=>[]⟩
abbrev AbH (b:(List (Int×Bool))) (r:Bool×Int):aF:=(aF.ret (.d (.bool r.1)) [[.d (iZ r.2),.mp 1],[.mdat (List.map (yT .i64 D.bool) b)]])
abbrev wW (b:(List (Int×Bool))) (r:Bool×Int):aF:=(aF.ret (.d (.bool r.1)) [[.d (iZ r.2),.mp 1],[.mdat (List.map (yT .i64 D.bool) b)]])
abbrev wX (b:(List (Int×Bool))) (r:Bool×Int):aF:=(aF.ret (.d (.bool r.1)) [[.d (iZ r.2),.mp 1],[.mdat (List.map (yT .i64 D.bool) b)]])
abbrev AaG (b:(List (Int×Bool))) (r:Bool×Int):aF:=(aF.ret (.d (.bool r.1)) [[.d (iZ r.2),.mp 1],[.mdat (List.map (yT .i64 D.bool) b)]])
abbrev tD (a:Node×Int×Int×(List (Int×Bool))) (res:Bool×Int×(List (Int×Bool))):Prop:=match a with|(n,deep,nodes,b)=>aval X 54 [.ptr 0 0,.d (encNode n),.d (iZ deep)] [[.d (iZ nodes),.mp 1],[.mdat (List.map (yT .i64 D.bool) b)]] (yZ res)
abbrev wE (a:Node×Int×Int×(List (Int×Bool))) (res:Bool×Int):Prop:=match a with|(n,deep,nodes,b)=>aval X 125 [.ptr 0 0,.d (encNode n),.d (iZ deep)] [[.d (iZ nodes),.mp 1],[.mdat (List.map (yT .i64 D.bool) b)]] ((AbI b) res)
abbrev wD (a:Node×Int×Int×(List (Int×Bool))) (res:Bool×Int):Prop:=match a with|(n,deep,nodes,b)=>aval X 126 [.ptr 0 0,.d (encNode n),.d (iZ deep)] [[.d (iZ nodes),.mp 1],[.mdat (List.map (yT .i64 D.bool) b)]] ((AbH b) res)
abbrev qZ (a:Node×Int×Int×(List (Int×Bool))) (res:Bool×Int):Prop:=match a with|(n,deep,nodes,b)=>aval X 186 [.ptr 0 0,.d (encNode n),.d (iZ deep)] [[.d (iZ nodes),.mp 1],[.mdat (List.map (yT .i64 D.bool) b)]] ((wW b) res)
abbrev rA (a:Node×Int×Int×(List (Int×Bool))) (res:Bool×Int):Prop:=match a with|(n,deep,nodes,b)=>aval X 188 [.ptr 0 0,.d (encNode n),.d (iZ deep)] [[.d (iZ nodes),.mp 1],[.mdat (List.map (yT .i64 D.bool) b)]] ((wX b) res)
abbrev uM (a:Node×Int×Int×(List (Int×Bool))) (res:Bool×Int):Prop:=match a with|(n,deep,nodes,b)=>aval X 189 [.ptr 0 0,.d (encNode n),.d (iZ deep)] [[.d (iZ nodes),.mp 1],[.mdat (List.map (yT .i64 D.bool) b)]] ((AaG b) res)
theorem fI:(∀a res,dI a=some res->tD a res)/\(∀a res,oE a=some res->wD a res)/\(∀a res,fO a=some res->uM a res)/\(∀a res,gI a=some res->qZ a res)/\(∀a res,gK a=some res->rA a res)/\(∀a res,kT a=some res->wE a res):=by
 refine dI.mutual_partial_correctness (motive_1:=tD) (motive_2:=wD) (motive_3:=uM) (motive_4:=qZ) (motive_5:=rA) (motive_6:=wE) ?_ ?_ ?_ ?_ ?_ ?_
 ·rintro P0 P1 P2 I0 I1 I2 ⟨n,deep,nodes,b⟩ res h
  have I0:=Ok.mk' I0
  have I1:=Ok.mk' I1
  have I2:=Ok.mk' I2
  exact aB yZ I Tryz.func54 I I I I I I λiE=>Wk
 ·rintro P0 P1 I0 I1 ⟨n,deep,nodes,b⟩ res h
  have I0:=Ok.mk' I0
  have I1:=Ok.mk' I1
  exact aB (AbH b) I Tryz.func126 I I I I I I λiE=>Wk
 ·rintro P0 I0 ⟨n,deep,nodes,b⟩ res h
  have I0:=Ok.mk' I0
  exact aB (AaG b) I Tryz.func189 I I I I I I λiE=>Wk
 ·rintro P0 I0 ⟨n,deep,nodes,b⟩ res h
  have I0:=Ok.mk' I0
  exact aB (wW b) I Tryz.func186 I I I I I I λiE=>Wk
 ·rintro P0 I0 ⟨n,deep,nodes,b⟩ res h
  have I0:=Ok.mk' I0
  exact aB (wX b) I Tryz.func188 I I I I I I λiE=>Wk
 rintro P0 P1 P2 I0 I1 I2 ⟨n,deep,nodes,b⟩ res h
 have I0:=Ok.mk' I0
 have I1:=Ok.mk' I1
 have I2:=Ok.mk' I2
 exact aB (AbI b) I Tryz.func125 I I I I I I λiE=>Wk
instance {a:Node×Int×Int×(List (Int×Bool))}:Ok (dI a) (tD a):=⟨λh=>fI.1 a _ h⟩
instance {a:Node×Int×Int×(List (Int×Bool))}:Ok (oE a) (wD a):=⟨λh=>fI.2.1 a _ h⟩
instance {a:Node×Int×Int×(List (Int×Bool))}:Ok (fO a) (uM a):=⟨λh=>fI.2.2.1 a _ h⟩
instance {a:Node×Int×Int×(List (Int×Bool))}:Ok (gI a) (qZ a):=⟨λh=>fI.2.2.2.1 a _ h⟩
instance {a:Node×Int×Int×(List (Int×Bool))}:Ok (gK a) (rA a):=⟨λh=>fI.2.2.2.2.1 a _ h⟩
instance {a:Node×Int×Int×(List (Int×Bool))}:Ok (kT a) (wE a):=⟨λh=>fI.2.2.2.2.2 a _ h⟩
abbrev qJ (r:Bool×Int):aF:=(aF.ret (.d (.bool r.1)) [[.d (iZ r.2),.nilmap]])
instance {n:Node} {deep:Int} {nodes:Int}:Ok (dP n deep nodes) λr=>aval X 186 [.ptr 0 0,.d (encNode n),.d (iZ deep)] [[.d (iZ nodes),.nilmap]] (qJ r):=⟨λh=>by
 unfold dP at h
 exact aB qJ I Tryz.func186 I I I I I I λiE=>Wk⟩
abbrev sW (r:Bool×Int):aF:=(aF.ret (.d (.bool r.1)) [[.d (iZ r.2),.nilmap]])
instance {n:Node} {deep:Int} {nodes:Int}:Ok (cT n deep nodes) λr=>aval X 189 [.ptr 0 0,.d (encNode n),.d (iZ deep)] [[.d (iZ nodes),.nilmap]] (sW r):=⟨λh=>by
 unfold cT at h
 exact aB sW I Tryz.func189 I I I I I I λiE=>Wk⟩
abbrev qK (r:Bool×Int):aF:=(aF.ret (.d (.bool r.1)) [[.d (iZ r.2),.nilmap]])
instance {n:Node} {deep:Int} {nodes:Int}:Ok (dQ n deep nodes) λr=>aval X 188 [.ptr 0 0,.d (encNode n),.d (iZ deep)] [[.d (iZ nodes),.nilmap]] (qK r):=⟨λh=>by
 unfold dQ at h
 exact aB qK I Tryz.func188 I I I I I I λiE=>Wk⟩
abbrev tH (r:Bool×Int):aF:=(aF.ret (.d (.bool r.1)) [[.d (iZ r.2),.nilmap]])
instance {n:Node} {deep:Int} {nodes:Int}:Ok (gS n deep nodes) λr=>aval X 126 [.ptr 0 0,.d (encNode n),.d (iZ deep)] [[.d (iZ nodes),.nilmap]] (tH r):=⟨λh=>by
 unfold gS at h
 exact aB tH I Tryz.func126 I I I I I I λiE=>Wk⟩
abbrev tI (r:Bool×Int):aF:=(aF.ret (.d (.bool r.1)) [[.d (iZ r.2),.nilmap]])
instance Ap9:Jn 125 1 33 (Bool):=⟨λy=>[(33,.d (.bool y))],λy=>[]⟩
abbrev oF (a:Node×Int×Int) (res:Bool×Int):Prop:=match a with|(n,deep,nodes)=>aval X 125 [.ptr 0 0,.d (encNode n),.d (iZ deep)] [[.d (iZ nodes),.nilmap]] (tI res)
theorem yW:∀a res,dW a=some res->oF a res:=by
 refine dW.partial_correctness oF ?_
 rintro P_ IH ⟨n,deep,nodes⟩ res h
 have IH:=Ok.mk' IH
 exact aB tI I Tryz.func125 I I I I I I λiE=>Wk
instance {a:Node×Int×Int}:Ok (dW a) (oF a):=⟨λh=>yW a _ h⟩
abbrev rK (r:Bool×Int):aF:=(aF.ret (.d (.bool r.1)) [[.d (iZ r.2),.nilmap]])
instance An8:Jn 54 1 31 (Bool):=⟨λy=>[(31,.d (.bool y))],λy=>[]⟩
abbrev mR (a:Node×Int×Int) (res:Bool×Int):Prop:=match a with|(n,deep,nodes)=>aval X 54 [.ptr 0 0,.d (encNode n),.d (iZ deep)] [[.d (iZ nodes),.nilmap]] (rK res)
theorem xN:∀a res,cB a=some res->mR a res:=by
 refine cB.partial_correctness mR ?_
 rintro P_ IH ⟨n,deep,nodes⟩ res h
 have IH:=Ok.mk' IH
 exact aB rK I Tryz.func54 I I I I I I λiE=>Wk
instance {a:Node×Int×Int}:Ok (cB a) (mR a):=⟨λh=>xN a _ h⟩
abbrev AjR (r:Int):aF:=(aF.ret (.d (iZ r)) [])
instance {n:Node}:Ok (sN n) λr=>aval X 28 [.d (encNode n)] [] (AjR r):=⟨λh=>by
 unfold sN at h
 exact aB AjR I Tryz.func28 I I I I I I λiE=>Wk⟩
abbrev AaK (m:aG) (r:Int×Int):aF:=(aF.ret (.tuple [.d (iZ r.1),.d (iZ r.2)]) [[.d (iZ m.fuel.left),.d (iZ m.fuel.used),.d (iZ m.cells)]])
instance {m:aG}:Ok (uR m) λr=>aval X 31 [.ptr 0 0] [[.d (iZ m.fuel.left),.d (iZ m.fuel.used),.d (iZ m.cells)]] ((AaK m) r):=⟨λh=>by
 unfold uR at h
 exact aB (AaK m) I Tryz.func31 I I I I I I λiE=>Wk⟩
abbrev AmF (r:aG):aF:=(aF.ret (.c (.ptr 0 0)) [[.d (iZ r.fuel.left),.d (iZ r.fuel.used),.d (iZ r.cells)]])
instance {fuel:Int} {cells:Int}:Ok (AgF fuel cells) λr=>aval X 29 [.d (iZ fuel),.d (iZ cells)] [] (AmF r):=⟨λh=>by
 unfold AgF at h
 exact aB AmF I Tryz.func29 I I I I I I λiE=>Wk⟩
abbrev AmC (r:Bool):aF:=(aF.ret (.d (.bool r)) [])
instance {op_:Int}:Ok (pO op_) λr=>aval X 106 [.d (iZ op_)] [] (AmC r):=⟨λh=>by
 unfold pO at h
 exact aB AmC I Tryz.func106 I I I I I I λiE=>Wk⟩
abbrev sH (r:Int):aF:=(aF.ret (.d (iZ r)) [])
abbrev zA (a:bY×(List Arr)×Int) (res:Except (Int) (Unit)):Prop:=match a with|(f,l,x)=>cH X 191 (aO [1,0,1,0,0] (aQ Tryz.f191)) (aH (X.H 191 2) 1) (aK 0 (X.H 191 1000000) 1 (kS X Tryz.f191 0 sH (λ(_:Unit)=>(⟨[(2,.c (.ptr 0 0))],[(0,[.d (iZ f.op_),.d (.bool f.turned)])],1,[],none⟩:St)) res)) ⟨[(2,.c (.ptr 0 0)),(8,.d (.list 2 (List.map aX l))),(9,.d (iZ (List.length l:Int))),(10,.d (iZ x))],[(0,[.d (iZ f.op_),.d (.bool f.turned)])],1,[],none⟩
instance {a:bY×(List Arr)×Int}:Ok (gB a) (zA a):=⟨λh=>gB.partial_correctness zA (by
 rintro P_ IH ⟨f,l,x⟩ res h
 have IH:=Ok.mk' IH
 have iE:eR Tryz.f191 0 _ sH:=⟨trivial⟩
 refine lg I ?_
 exact Wk) _ _ h⟩
instance {f:bY} {l:(List Arr)}:Ok (jV f l) λr=>aval X 191 [.d (qV f),.d (.list 2 (List.map aX l))] [] (sH r):=⟨λh=>by
 unfold jV at h
 exact aB sH I Tryz.func191 I I I I I I λiE=>Wk⟩
abbrev ArA (r:Int×Int):aF:=(aF.ret (.tuple [.d (iZ r.1),.d (iZ r.2)]) [])
instance {a_:Int} {b:Int}:Ok (Ad9 a_ b) λr=>aval X 220 [.d (iZ a_),.d (iZ b)] [] (ArA r):=⟨λh=>by
 unfold Ad9 at h
 exact aB ArA I Tryz.func220 I I I I I I λiE=>Wk⟩
abbrev AjT (r:Int×Int):aF:=(aF.ret (.tuple [.d (iZ r.1),.d (iZ r.2)]) [])
instance Be0:Jn 241 0 0 (Unit):=⟨λy=>[],λy=>[]⟩
instance {n:Int} {below:Bool}:Ok (sR n below) λr=>aval X 241 [.d (.int .u64 n),.d (.bool below)] [] (AjT r):=⟨λh=>by
 unfold sR at h
 exact aB AjT I Tryz.func241 I I I I I I λiE=>Wk⟩
abbrev AoE (r:Int×Bool):aF:=(aF.ret (.tuple [.d (.int .u64 r.1),.d (.bool r.2)]) [])
instance {a_:Int}:Ok (xQ a_) λr=>aval X 236 [.d (iZ a_)] [] (AoE r):=⟨λh=>by
 unfold xQ at h
 exact aB AoE I Tryz.func236 I I I I I I λiE=>Wk⟩
abbrev AdP (r:Int×Int):aF:=(aF.ret (.tuple [.d (iZ r.1),.d (iZ r.2)]) [])
instance Bg2:Jn 227 0 1 (Int×Bool×Bool):=⟨λy=>[(4,.d (.int .u64 y.1)),(5,.d (.bool y.2.1)),(6,.d (.bool y.2.2))],λy=>[]⟩
abbrev Ai7 (a:LI×Int×Bool×Bool×Int) (res:Except (Int×Int) (Int×Bool×Bool)):Prop:=match a with|(l,n,below,over,x)=>cH X 227 (aO [1,1,1,0,1,0,0] (aQ Tryz.f227)) (aH (X.H 227 4) 0) (aK 0 (X.H 227 1000000) 0 (kS X Tryz.f227 0 AdP (λ((n2,below2,over2):Int×Bool×Bool)=>(⟨[(4,.d (.int .u64 n2)),(5,.d (.bool below2)),(6,.d (.bool over2))],[],0,[],none⟩:St)) res)) ⟨[(0,.d (lI l)),(4,.d (.int .u64 n)),(5,.d (.bool below)),(6,.d (.bool over)),(11,.d (iZ (List.length l:Int))),(12,.d (iZ x))],[],0,[],none⟩
instance {a:LI×Int×Bool×Bool×Int}:Ok (oL a) (Ai7 a):=⟨λh=>oL.partial_correctness Ai7 (by
 rintro P_ IH ⟨l,n,below,over,x⟩ res h
 have IH:=Ok.mk' IH
 have iE:eR Tryz.f227 0 _ AdP:=⟨trivial⟩
 refine lg I ?_
 exact Wk) _ _ h⟩
instance {l:LI}:Ok (sA l) λr=>aval X 227 [.d (lI l)] [] (AdP r):=⟨λh=>by
 unfold sA at h
 exact aB AdP I Tryz.func227 I I I I I I λiE=>Wk⟩
abbrev ArB (r:Int×Int):aF:=(aF.ret (.tuple [.d (iZ r.1),.d (iZ r.2)]) [])
instance {a_:Int} {b:Int}:Ok (AdA a_ b) λr=>aval X 221 [.d (iZ a_),.d (iZ b)] [] (ArB r):=⟨λh=>by
 unfold AdA at h
 exact aB ArB I Tryz.func221 I I I I I I λiE=>Wk⟩
abbrev ArD (r:Int):aF:=(aF.ret (.d (iZ r)) [])
instance Bh6:Jn 222 1 22 (Int):=⟨λy=>[(5,.d (iZ y))],λy=>[]⟩
instance {a_:Int} {b:Int}:Ok (AdB a_ b) λr=>aval X 222 [.d (iZ a_),.d (iZ b)] [] (ArD r):=⟨λh=>by
 unfold AdB at h
 exact aB ArD I Tryz.func222 I I I I I I λiE=>Wk⟩
abbrev ArF (r:Int×Int):aF:=(aF.ret (.tuple [.d (iZ r.1),.d (iZ r.2)]) [])
instance {a_:Int} {b:Int}:Ok (Aa1 a_ b) λr=>aval X 210 [.d (iZ a_),.d (iZ b)] [] (ArF r):=⟨λh=>by
 unfold Aa1 at h
 exact aB ArF I Tryz.func210 I I I I I I λiE=>Wk⟩
abbrev AeE (r:Int×Int):aF:=(aF.ret (.tuple [.d (iZ r.1),.d (iZ r.2)]) [])
instance {op_:Int} {a_:Int} {b:Int}:Ok (nW op_ a_ b) λr=>aval X 175 [.d (iZ op_),.d (iZ a_),.d (iZ b)] [] (AeE r):=⟨λh=>by
 unfold nW at h
 exact aB AeE I Tryz.func175 I I I I I I λiE=>Wk⟩
abbrev AfA (r:Int):aF:=(aF.ret (.d (iZ r)) [])
instance {b:Bool}:Ok (mV b) λr=>aval X 173 [.d (.bool b)] [] (AfA r):=⟨λh=>by
 unfold mV at h
 exact aB AfA I Tryz.func173 I I I I I I λiE=>Wk⟩
abbrev AhP (r:aA×Int):aF:=(aF.ret (.tuple [.d (aD r.1),.d (iZ r.2)]) [])
instance BcC:Jn 108 0 0 (Unit):=⟨λy=>[],λy=>[]⟩
instance {op_:Int} {a_:aA} {b:aA}:Ok (oH op_ a_ b) λr=>aval X 108 [.d (iZ op_),.d (aD a_),.d (aD b)] [] (AhP r):=⟨λh=>by
 unfold oH at h
 exact aB AhP I Tryz.func108 I I I I I I λiE=>Wk⟩
abbrev AmD (r:aA×Int):aF:=(aF.ret (.tuple [.d (aD r.1),.d (iZ r.2)]) [])
instance Bf6:Jn 197 1 9 (Int×Int×(List Arr)×Int×Int×(List Arr)):=⟨λy=>[],λy=>[(1,[(0,.d (iZ y.2.2.2.1)),(1,.d (iZ y.2.2.2.2.1)),(2,.d (.list 2 (List.map aX y.2.2.2.2.2)))]),(2,[(0,.d (iZ y.1)),(1,.d (iZ y.2.1)),(2,.d (.list 2 (List.map aX y.2.2.1)))])]⟩
instance {f:bY} {a_:aA} {b:aA}:Ok (vE f a_ b) λr=>aval X 197 [.d (qV f),.d (aD a_),.d (aD b)] [] (AmD r):=⟨λh=>by
 unfold vE at h
 exact aB AmD I Tryz.func197 I I I I I I λiE=>Wk⟩
abbrev zM (r:Arr×Int):aF:=(aF.ret (.tuple [.d (aI r.1),.d (iZ r.2)]) [])
abbrev AeN (a:bY×Arr×Arr×LI×Int×aA×Int×(List aA)) (res:Except (Arr×Int) (List aA)):Prop:=match a with|(f,a_,b,l,x2,y,x3,out11)=>cH X 132 (aO [1,1,1,1,0,1,0,0,1,1,0,0,1,1,0,0] (aQ Tryz.f132)) (aH (X.H 132 12) 16) (aK 2 (X.H 132 1000002) 16 (kS X Tryz.f132 0 zM (λ(out12:(List aA))=>(⟨[(3,.c (.ptr 0 0)),(5,.c (.ptr 2 0)),(6,.c (.ptr 3 0)),(9,.c (.ptr 11 0)),(45,.d (lC a_.cells)),(46,.d (iZ (List.length a_.cells:Int))),(47,.d (iZ x2))],[(15,[.d (iZ y.kind),.d (iZ y.n),.d (.list 2 (List.map aX y.box))]),(11,[.d (lI l),oC out12]),(3,[oI [],oC []]),(2,[.d (lI b.shape),.d (lC b.cells)]),(1,[.d (lI a_.shape),.d (lC a_.cells)]),(0,[.d (iZ f.op_),.d (.bool f.turned)])],16,[],none⟩:St)) res)) ⟨[(3,.c (.ptr 0 0)),(5,.c (.ptr 2 0)),(6,.c (.ptr 3 0)),(9,.c (.ptr 11 0)),(13,.c (.ptr 15 0)),(45,.d (lC a_.cells)),(46,.d (iZ (List.length a_.cells:Int))),(47,.d (iZ x2)),(52,.d (lC b.cells)),(53,.d (iZ (List.length b.cells:Int))),(54,.d (iZ x3))],[(15,[.d (iZ y.kind),.d (iZ y.n),.d (.list 2 (List.map aX y.box))]),(11,[.d (lI l),oC out11]),(3,[oI [],oC []]),(2,[.d (lI b.shape),.d (lC b.cells)]),(1,[.d (lI a_.shape),.d (lC a_.cells)]),(0,[.d (iZ f.op_),.d (.bool f.turned)])],16,[],none⟩
instance {a:bY×Arr×Arr×LI×Int×aA×Int×(List aA)}:Ok (lA a) (AeN a):=⟨λh=>lA.partial_correctness AeN (by
 rintro P_ IH ⟨f,a_,b,l,x2,y,x3,out11⟩ res h
 have IH:=Ok.mk' IH
 refine lg I (ra I (S_ ?_))
 rcases E_ h with ⟨hc,h⟩|⟨hc,h⟩
 ·refine ct I hc (K_ (cn I (N_ (S_ (W_ (S_ (rn 0 I ?_)))))))
  obtain⟨y1,hk,h⟩:=B h
  refine po (mP aD (λ_=>I) hk I I I I I) I I (on (nid':=17) 3 I (rz (S_ (rn 3 I ?_))))
  obtain⟨⟨x4,e2⟩,hk,h⟩:=B h
  have hv:=Ok.ok hk
  refine po (nO (hv) I I I I I I I I I) I I (on (nid':=18) 6 I (rz (S_ (ra I ?_))))
  rcases E_ h with ⟨hc,h⟩|⟨hc,h⟩
  ·refine ct I hc (ra I (R_ (C_ (Q_ (aK.ret (Q_ (cJ.ret (aK.ret ?_))))))))
   cases h
   exact .err I (.ret I I)
  refine cf I hc (K_ (cn I (N_ (rn 4 I ?_))))
  obtain⟨l1,hk,h⟩:=B h
  refine po (AfL hk I I I I I I I I I I I I I I ) I I (on 2 I (O_ (en I (N_ (rn 2 I (O_ (cJ.normal ?_)))))))
  have hv:=Ok.ok h
  exact bX I I hv
 ·refine cf I hc (X_ (fL.exit (kQ.exit (cJ.exit (eh I ?_)))))
  cases h
  exact .ok I
 ) _ _ h⟩
abbrev AeM (a:bY×Arr×Arr×LI×Int×(List aA)) (res:Except (Arr×Int) (List aA)):Prop:=match a with|(f,a_,b,l,x2,out1)=>cH X 132 (aO [1,1,1,1,0,1,0,0] (aQ Tryz.f132)) (aH (X.H 132 9) 15) (aK 0 (X.H 132 1000000) 15 (kS X Tryz.f132 0 zM (λ(out13:(List aA))=>(⟨[(6,.c (.ptr 3 0)),(9,.c (.ptr 11 0))],[(11,[.d (lI l),oC out13]),(3,[oI [],oC []]),(2,[.d (lI b.shape),.d (lC b.cells)]),(1,[.d (lI a_.shape),.d (lC a_.cells)]),(0,[.d (iZ f.op_),.d (.bool f.turned)])],15,[],none⟩:St)) res)) ⟨[(3,.c (.ptr 0 0)),(5,.c (.ptr 2 0)),(6,.c (.ptr 3 0)),(9,.c (.ptr 11 0)),(45,.d (lC a_.cells)),(46,.d (iZ (List.length a_.cells:Int))),(47,.d (iZ x2))],[(11,[.d (lI l),oC out1]),(3,[oI [],oC []]),(2,[.d (lI b.shape),.d (lC b.cells)]),(1,[.d (lI a_.shape),.d (lC a_.cells)]),(0,[.d (iZ f.op_),.d (.bool f.turned)])],15,[],none⟩
instance {a:bY×Arr×Arr×LI×Int×(List aA)}:Ok (kZ a) (AeM a):=⟨λh=>kZ.partial_correctness AeM (by
 rintro P_ IH ⟨f,a_,b,l,x2,out1⟩ res h
 have IH:=Ok.mk' IH
 refine lg I (ra I (S_ ?_))
 rcases E_ h with ⟨hc,h⟩|⟨hc,h⟩
 ·refine ct I hc (K_ (cn I (N_ (S_ (W_ (S_ (rn 0 I ?_)))))))
  obtain⟨y,hk,h⟩:=B h
  refine po (mP aD (λ_=>I) hk I I I I I) I I (on (nid':=16) 3 I (rz (S_ (rn 2 I (po (mQ I I I I I I I) I I (on 1 I (rz ?_)))))))
  obtain⟨res,hs,h⟩:=B h
  refine uB Tryz.f132 0 zM (λ(out12:(List aA))=>(⟨[(3,.c (.ptr 0 0)),(5,.c (.ptr 2 0)),(6,.c (.ptr 3 0)),(9,.c (.ptr 11 0)),(45,.d (lC a_.cells)),(46,.d (iZ (List.length a_.cells:Int))),(47,.d (iZ x2))],[(15,[.d (iZ y.kind),.d (iZ y.n),.d (.list 2 (List.map aX y.box))]),(11,[.d (lI l),oC out12]),(3,[oI [],oC []]),(2,[.d (lI b.shape),.d (lC b.cells)]),(1,[.d (lI a_.shape),.d (lC a_.cells)]),(0,[.d (iZ f.op_),.d (.bool f.turned)])],16,[],none⟩:St)) (res:=res) ?_ (λy hy=>?_) (λr x s' hr hx he=>?_)
  ·replace h:=hs
   refine W_ (eC ?_)
   have hv:=Ok.ok h
   exact bX I I hv
  ·subst hy
   obtain out12:=y
   refine en I (N_ (rn 2 I (O_ (cJ.normal ?_))))
   have hv:=Ok.ok h
   exact bX I I hv
  subst hr
  refine aK.out hx (kQ.out hx (cJ.out hx (aK.out hx ?_)))
  cases h
  exact .err hx he
 ·refine cf I hc (X_ (fL.exit (kQ.exit (cJ.exit (eh I ?_)))))
  cases h
  exact .ok I
 ) _ _ h⟩
instance {f:bY} {a_:Arr} {b:Arr}:Ok (sP f a_ b) λr=>aval X 132 [.d (qV f),.d (aI a_),.d (aI b)] [] (aF.ret (.tuple [.d (aI r.1),.d (iZ r.2)]) []):=⟨λ{r} h=>by
 unfold sP at h
 refine kW (tm:=[(0,.d (qV f)),(1,.d (aI a_)),(2,.d (aI b))]) (hp:=[]) (n:=0) I Tryz.func132 I I I I I I (ra (nid':=4) I (S_ (S_ (rn 3 I (po (BhZ (show V.c (.full 2 [aI a_,aI b])=V.c (.full 2 (List.map aX [a_,b])) from by simp only[List.map_cons,List.map_nil,pS]) (yU I)) I I ?_)))))
 obtain⟨e,hk,h⟩:=B h
 have hv:=Ok.ok hk
 refine po (nO (hv) I I I I I I I I I) I I (on 1 I (rz (ra I ?_)))
 rcases E_ h with ⟨hc,h⟩|⟨hc,h⟩
 ·refine ct I hc (ra I (R_ (C_ (Q_ ?_))))
  cases h
  exact .ret I I
 ·refine cf I hc (K_ (cn I (N_ (S_ (drn (m:=13) 2 I I ?_)))))
  obtain⟨⟨x,b1⟩,hk,h⟩:=B h
  have hv:=Ok.ok hk
  refine pd (AfM (nid':=14) (hv) I I I I I I I I I I I I) I I I I I (don 2 I ?_)
  obtain⟨l,hk,h⟩:=B h
  obtain⟨_,hk1,hk⟩:=AuT hk
  refine pda (D.int .i64) hk (AsY (D.int .i64) hk1 I) I I I I I I I I I I I I I I I I I I I I (don 3 I (dz (by kernel_rfl) (S_ (S_ (rnF 2 (tm0:=[(9,.c (.ptr 11 0)),(33,.vagg [.arr 14 (List.length l) 1,.nilsl 3]),(32,.c (.arr 14 (List.length l) 1)),(31,.d (lI b.shape)),(30,.c (.ptr 2 0)),(29,.c (.arr 13 x 1)),(28,.d (lI a_.shape)),(27,.c (.ptr 1 0)),(3,.c (.ptr 0 0)),(4,.c (.ptr 1 0)),(5,.c (.ptr 2 0)),(6,.c (.ptr 3 0))]) (hp0:=[(11,[.d (lI l),oC []]),(3,[oI [],oC []]),(2,[.d (lI b.shape),.d (lC b.cells)]),(1,[.d (lI a_.shape),.d (lC a_.cells)]),(0,[.d (iZ f.op_),.d (.bool f.turned)])]) (nid0:=15) (Ai0 I (gC (b0:=11) (off:=0) I (iH (D.int .i64) I (AuU _) I I I)) I) I ?_)))))
  obtain⟨⟨x1,e1⟩,hk,h⟩:=B h
  have hv:=Ok.ok hk
  refine po (nO (hv) I I I I I I I I I) I I (on 5 I (rz (ra I ?_)))
  rcases E_ h with ⟨hc,h⟩|⟨hc,h⟩
  ·refine ct I hc (ra I (R_ (C_ (Q_ ?_))))
   cases h
   exact .ret I I
  ·refine cf I hc (K_ (cn I (N_ (S_ (S_ (rn 2 I (po (mQ I I I I I I I) I I (on 1 I (rz ?_)))))))))
   obtain⟨res,hs,h⟩:=B h
   refine uB Tryz.f132 0 zM (λ(out13:(List aA))=>(⟨[(6,.c (.ptr 3 0)),(9,.c (.ptr 11 0))],[(11,[.d (lI l),oC out13]),(3,[oI [],oC []]),(2,[.d (lI b.shape),.d (lC b.cells)]),(1,[.d (lI a_.shape),.d (lC a_.cells)]),(0,[.d (iZ f.op_),.d (.bool f.turned)])],15,[],none⟩:St)) (res:=res) ?_ (λy hy=>?_) (λr x s' hr hx he=>?_)
   ·replace h:=hs
    refine W_ (eC ?_)
    have hv:=Ok.ok h
    exact bX I I hv
   ·subst hy
    obtain out13:=y
    refine N_ (ra I (R_ ?_))
    cases h
    exact .ret I I
   ·subst hr
    refine kQ.out hx ?_
    cases h
    exact he
 ⟩
abbrev AfC (r:LI×Int):aF:=(aF.ret (.tuple [.d (lI r.1),.d (iZ r.2)]) [])
abbrev AbW (a:(List aA)×Int×LI) (res:Except (LI×Int) LI):Prop:=match a with|(l,x,out1)=>cH X 225 (aO [1,1,0,1,0,0] (aQ Tryz.f225)) (aH (X.H 225 3) 1) (aK 0 (X.H 225 1000000) 1 (kS X Tryz.f225 0 AfC (λ(out3:LI)=>(⟨[(4,.c (.arr 0 (Int.toNat (List.length l:Int)) 1))],[(0,[.seq 1 (List.map (D.int .i64) out3)])],1,[],none⟩:St)) res)) ⟨[(4,.c (.arr 0 (Int.toNat (List.length l:Int)) 1)),(10,.d (lC l)),(11,.d (iZ (List.length l:Int))),(12,.d (iZ x))],[(0,[.seq 1 (List.map (D.int .i64) out1)])],1,[],none⟩
instance {a:(List aA)×Int×LI}:Ok (jB a) (AbW a):=⟨λh=>jB.partial_correctness AbW (by
 rintro P_ IH ⟨l,x,out1⟩ res h
 have IH:=Ok.mk' IH
 refine lg I (ra I (S_ ?_))
 rcases E_ h with ⟨hc,h⟩|⟨hc,h⟩
 ·refine ct I hc (K_ (cn I (N_ (S_ (W_ (S_ (rn 1 I ?_)))))))
  obtain⟨y,hk,h⟩:=B h
  refine po (mP aD (λ_=>I) hk I I I I I) I I (on (nid':=2) 4 I (rz (S_ (ra I ?_))))
  rcases E_ h with ⟨hc,h⟩|⟨hc,h⟩
  ·refine ct I hc (ra I (R_ (C_ (Q_ (aK.ret (Q_ (cJ.ret (aK.ret ?_))))))))
   cases h
   exact .err I (.ret I I)
  refine cf I hc (K_ (cn I (N_ (rn 4 I ?_))))
  obtain⟨j,hk,h⟩:=B h
  refine po (AcG hk I I I I I) I I ?_
  obtain⟨out2,hk,h⟩:=B h
  refine po (est (D.int .i64) (v:=y.n) hk I I (λ_=>⟨I,I,I⟩) I I I I) I I (O_ (en I (N_ (rn 2 I (O_ (cJ.normal ?_))))))
  have hv:=Ok.ok h
  exact bX I I hv
 ·refine cf I hc (X_ (fL.exit (kQ.exit (cJ.exit (eh I ?_)))))
  cases h
  exact .ok I
 ) _ _ h⟩
instance {l:(List aA)}:Ok (mZ l) λr=>aval X 225 [.d (lC l)] [] (aF.ret (.tuple [.d (lI r.1),.d (iZ r.2)]) []):=⟨λ{r} h=>by
 unfold mZ at h
 refine kW (tm:=[(0,.d (lC l))]) (hp:=[]) (n:=0) I Tryz.func225 I I I I I I (ra I (S_ (rn 1 I (po (mQ I I I I I I I) I I ?_))))
 obtain⟨out,hk,h⟩:=B h
 refine po (Al5 (nid':=1) (D.int .i64) 0 hk I I I I I I I I I I I I ) I I (on (nid':=1) 1 I (rz (S_ (S_ (rn 1 I (po (mQ I I I I I I I) I I (on 1 I (rz ?_))))))))
 obtain⟨res,hs,h⟩:=B h
 refine uB Tryz.f225 0 AfC (λ(out3:LI)=>(⟨[(4,.c (.arr 0 (Int.toNat (List.length l:Int)) 1))],[(0,[.seq 1 (List.map (D.int .i64) out3)])],1,[],none⟩:St)) (res:=res) ?_ (λy hy=>?_) (λr x s' hr hx he=>?_)
 ·replace h:=hs
  refine W_ (eC ?_)
  have hv:=Ok.ok h
  exact bX I I hv
 ·subst hy
  obtain out3:=y
  refine N_ ?_
  obtain⟨out4,hkFout4,h⟩:=B h
  refine S_ (rnF 3 (tm0:=[(4,.d (lI out4)),(4,.c (.arr 0 (Int.toNat (List.length l:Int)) 1))]) (hp0:=[]) (nid0:=1) (Ai0 I (gT (t:=4) I I I (AtM (AfR (D.int .i64) hkFout4 I)) I I) I) I (rz (R_ ?_)))
  cases h
  exact .ret I I
 ·subst hr
  refine kQ.out hx ?_
  cases h
  exact he
 ⟩
abbrev AfG (r:Int×Int):aF:=(aF.ret (.tuple []) [[.d (.int .u64 r.1),.d (.int .u64 r.2)]])
instance {n:Int} {w:eK}:Ok (pE n w) λr=>aval X 237 [.ptr 0 0,.d (.int .u64 n)] [[.d (.int .u64 w.hi),.d (.int .u64 w.lo)]] (AfG r):=⟨λh=>by
 unfold pE at h
 exact aB AfG I Tryz.func237 I I I I I I λiE=>Wk⟩
abbrev AeF (r:Bool):aF:=(aF.ret (.d (.bool r)) [])
instance {w:eK} {a_:eK}:Ok (qQ w a_) λr=>aval X 238 [.d (AbM w),.d (AbM a_)] [] (AeF r):=⟨λh=>by
 unfold qQ at h
 exact aB AeF I Tryz.func238 I I I I I I λiE=>Wk⟩
abbrev AbJ (r:Int×Int):aF:=(aF.ret (.tuple [.d (iZ r.1),.d (iZ r.2)]) [])
instance {w:eK} {below:Bool}:Ok (kU w below) λr=>aval X 240 [.d (AbM w),.d (.bool below)] [] (AbJ r):=⟨λh=>by
 unfold kU at h
 exact aB AbJ I Tryz.func240 I I I I I I λiE=>Wk⟩
abbrev AfH (r:Int×Int):aF:=(aF.ret (.tuple []) [[.d (.int .u64 r.1),.d (.int .u64 r.2)]])
instance BbP:Jn 239 1 10 (Int):=⟨λy=>[],λy=>[(0,[(0,.d (.int .u64 y))])]⟩
instance {a_:eK} {w:eK}:Ok (pF a_ w) λr=>aval X 239 [.ptr 0 0,.d (AbM a_)] [[.d (.int .u64 w.hi),.d (.int .u64 w.lo)]] (AfH r):=⟨λh=>by
 unfold pF at h
 exact aB AfH I Tryz.func239 I I I I I I λiE=>Wk⟩
abbrev Al3 (r:Int×Int):aF:=(aF.ret (.tuple [.d (iZ r.1),.d (iZ r.2)]) [])
instance Bh7:Jn 226 0 1 (Int×Int×Int×Int):=⟨λy=>[],λy=>[(0,[(0,.d (.int .u64 y.2.2.1)),(1,.d (.int .u64 y.2.2.2))]),(1,[(0,.d (.int .u64 y.1)),(1,.d (.int .u64 y.2.1))])]⟩
abbrev AkE (a:LI×Int×Int×Int×Int×Int) (res:Int×Int×Int×Int):Prop:=match a with|(l,x,below0,below1,above0,above1)=>cH X 226 (aO [1,1,0,1,0,0] (aQ Tryz.f226)) (aH (X.H 226 3) 2) (aK 0 (X.H 226 1000000) 2 (iP (λ((below02,below12,above02,above12):Int×Int×Int×Int)=>(⟨[(4,.c (.ptr 0 0)),(5,.c (.ptr 1 0))],[(1,[.d (.int .u64 below02),.d (.int .u64 below12)]),(0,[.d (.int .u64 above02),.d (.int .u64 above12)])],2,[],none⟩:St)) res)) ⟨[(0,.d (lI l)),(4,.c (.ptr 0 0)),(5,.c (.ptr 1 0)),(10,.d (iZ (List.length l:Int))),(11,.d (iZ x))],[(1,[.d (.int .u64 below0),.d (.int .u64 below1)]),(0,[.d (.int .u64 above0),.d (.int .u64 above1)])],2,[],none⟩
instance {a:LI×Int×Int×Int×Int×Int}:Ok (pZ a) (AkE a):=⟨λh=>pZ.partial_correctness AkE (by
 rintro P_ IH ⟨l,x,below0,below1,above0,above1⟩ res h
 have IH:=Ok.mk' IH
 have iE:eR Tryz.f226 0 _ Al3:=⟨trivial⟩
 refine lg I ?_
 exact Wk) _ _ h⟩
instance {l:LI}:Ok (xP l) λr=>aval X 226 [.d (lI l)] [] (Al3 r):=⟨λh=>by
 unfold xP at h
 exact aB Al3 I Tryz.func226 I I I I I I λiE=>Wk⟩
abbrev zL (r:aA×Int):aF:=(aF.ret (.tuple [.d (aD r.1),.d (iZ r.2)]) [])
instance BdZ:Jn 195 0 0 (Unit):=⟨λy=>[],λy=>[]⟩
abbrev AeL (a:bY×(List aA)×Int×Int×Int×(List Arr)) (res:Except (aA×Int) (Int×Int×(List Arr))):Prop:=match a with|(f,l,i,c0,c1,c2)=>cH X 195 (aO [1,1,1,1,1,0,1,0,0] (aQ Tryz.f195)) (aH (X.H 195 21) 3) (aK 1 (X.H 195 1000001) 3 (kS X Tryz.f195 0 zL (λ((c01,c11,c21):Int×Int×(List Arr))=>(⟨[(4,.c (.ptr 1 0)),(11,.c (.ptr 2 0))],[(2,[.d (iZ c01),.d (iZ c11),.d (.list 2 (List.map aX c21))]),(1,[.d (iZ 0),.d (iZ 0),.own 2 (List.map aX [])]),(0,[.d (iZ f.op_),.d (.bool f.turned)])],3,[],none⟩:St)) res)) ⟨[(1,.d (lC l)),(4,.c (.ptr 1 0)),(10,.c (.bfn 197 (qV f))),(11,.c (.ptr 2 0)),(13,.d (iZ i))],[(2,[.d (iZ c0),.d (iZ c1),.d (.list 2 (List.map aX c2))]),(1,[.d (iZ 0),.d (iZ 0),.own 2 (List.map aX [])]),(0,[.d (iZ f.op_),.d (.bool f.turned)])],3,[],none⟩
instance {a:bY×(List aA)×Int×Int×Int×(List Arr)}:Ok (p_fold_F_row_l0 a) (AeL a):=⟨λh=>p_fold_F_row_l0.partial_correctness AeL (by
 rintro P_ IH ⟨f,l,i,c0,c1,c2⟩ res h
 have IH:=Ok.mk' IH
 have iE:eR Tryz.f195 0 _ zL:=⟨trivial⟩
 refine lg I ?_
 exact Wk) _ _ h⟩
instance {f:bY} {l:(List aA)}:Ok (sO f l) λr=>aval X 195 [.d (qV f),.d (lC l)] [] (zL r):=⟨λh=>by
 unfold sO at h
 exact aB zL I Tryz.func195 I I I I I I λiE=>Wk⟩
abbrev AmE (r:Int):aF:=(aF.ret (.d (iZ r)) [])
instance {a_:Arr} {last:Bool}:Ok (vG a_ last) λr=>aval X 192 [.d (aI a_),.d (.bool last)] [] (AmE r):=⟨λh=>by
 unfold vG at h
 exact aB AmE I Tryz.func192 I I I I I I λiE=>Wk⟩
abbrev AfB (r:(List aA)):aF:=(aF.ret (.d (lC r)) [])
abbrev Ag7 (a:(List aA)×Int×Int×Int×(List aA)×Int) (res:(List aA)):Prop:=match a with|(l,at_,step,long,out1,x)=>cH X 196 (aO [1,1,0,1,0,0] (aQ Tryz.f196)) (aH (X.H 196 3) 0) (aK 0 (X.H 196 1000000) 0 (iP (λ(out3:(List aA))=>(⟨[(9,.c (.own 3 (List.map aD out3)))],[],0,[],none⟩:St)) res)) ⟨[(0,.d (lC l)),(1,.d (iZ at_)),(2,.d (iZ step)),(9,.c (.own 3 (List.map aD out1))),(13,.d (iZ long)),(14,.d (iZ x))],[],0,[],none⟩
instance {a:(List aA)×Int×Int×Int×(List aA)×Int}:Ok (mY a) (Ag7 a):=⟨λh=>mY.partial_correctness Ag7 (by
 rintro P_ IH ⟨l,at_,step,long,out1,x⟩ res h
 have IH:=Ok.mk' IH
 have iE:eR Tryz.f196 0 _ AfB:=⟨trivial⟩
 refine lg I ?_
 exact Wk) _ _ h⟩
instance {l:(List aA)} {at_:Int} {step:Int} {long:Int}:Ok (rV l at_ step long) λr=>aval X 196 [.d (lC l),.d (iZ at_),.d (iZ step),.d (iZ long)] [] (AfB r):=⟨λh=>by
 unfold rV at h
 exact aB AfB I Tryz.func196 I I I I I I λiE=>Wk⟩
abbrev zN (r:Int×Int×Int):aF:=(aF.ret (.tuple [.d (iZ r.1),.d (iZ r.2.1),.d (iZ r.2.2)]) [])
abbrev AeO (a:LI×Int×LI×Int×Int) (res:Int):Prop:=match a with|(shape,axis,l,outer,x)=>cH X 194 (aO [1,1,0,1,0,0] (aQ Tryz.f194)) (aH (X.H 194 3) 0) (aK 0 (X.H 194 1000000) 0 (iP (λ(outer1:Int)=>(⟨[(0,.d (lI shape)),(1,.d (iZ axis)),(4,.d (iZ outer1)),(5,.d (iZ 1))],[],0,[],none⟩:St)) res)) ⟨[(0,.d (lI shape)),(1,.d (iZ axis)),(4,.d (iZ outer)),(5,.d (iZ 1)),(13,.d (lI l)),(14,.d (iZ (List.length l:Int))),(15,.d (iZ x))],[],0,[],none⟩
instance {a:LI×Int×LI×Int×Int}:Ok (jM a) (AeO a):=⟨λh=>jM.partial_correctness AeO (by
 rintro P_ IH ⟨shape,axis,l,outer,x⟩ res h
 have IH:=Ok.mk' IH
 have iE:eR Tryz.f194 0 _ zN:=⟨trivial⟩
 refine lg I ?_
 exact Wk) _ _ h⟩
abbrev AeP (a:LI×Int×Int×LI×Int×Int) (res:Int):Prop:=match a with|(shape,axis,outer1,l1,step,x1)=>cH X 194 (aO [1,1,1,0,1,0,0] (aQ Tryz.f194)) (aH (X.H 194 8) 0) (aK 2 (X.H 194 1000002) 0 (iP (λ(step1:Int)=>(⟨[(0,.d (lI shape)),(1,.d (iZ axis)),(4,.d (iZ outer1)),(5,.d (iZ step1))],[],0,[],none⟩:St)) res)) ⟨[(0,.d (lI shape)),(1,.d (iZ axis)),(4,.d (iZ outer1)),(5,.d (iZ step)),(26,.d (lI l1)),(27,.d (iZ (List.length l1:Int))),(28,.d (iZ x1))],[],0,[],none⟩
instance {a:LI×Int×Int×LI×Int×Int}:Ok (jN a) (AeP a):=⟨λh=>jN.partial_correctness AeP (by
 rintro P_ IH ⟨shape,axis,outer1,l1,step,x1⟩ res h
 have IH:=Ok.mk' IH
 have iE:eR Tryz.f194 0 _ zN:=⟨trivial⟩
 refine lg I ?_
 exact Wk) _ _ h⟩
instance {shape:LI} {axis:Int}:Ok (sQ shape axis) λr=>aval X 194 [.d (lI shape),.d (iZ axis)] [] (zN r):=⟨λh=>by
 unfold sQ at h
 exact aB zN I Tryz.func194 I I I I I I λiE=>Wk⟩
abbrev xE (r:Arr×Int):aF:=(aF.ret (.tuple [.d (aI r.1),.d (iZ r.2)]) [])
abbrev Ai6 (a:bY×Arr×LI×LI×Int×Int×Int×Int×Int×(List aA)) (res:Except (Arr×Int) (List aA)):Prop:=match a with|(f,a_,x2,x3,outer,step,long,x5,x6,out11)=>cH X 129 (aO [1,1,1,1,1,1,1,0,1,0,0,1,1,0,0,1,1,0,0] (aQ Tryz.f129)) (aH (X.H 129 16) 5) (aK 2 (X.H 129 1000002) 5 (kS X Tryz.f129 0 xE (λ(out12:(List aA))=>(⟨[(3,.c (.ptr 0 0)),(4,.c (.ptr 1 0)),(6,.c (.ptr 2 0)),(10,.c (.ptr 4 0)),(14,.d (iZ step)),(15,.d (iZ long)),(63,.d (iZ outer)),(64,.d (iZ x5))],[(4,[.d (lI x2),oC out12]),(2,[oI [],oC []]),(1,[.d (lI a_.shape),.d (lC a_.cells)]),(0,[.d (iZ f.op_),.d (.bool f.turned)]),(3,[.seq 1 (List.map (D.int .i64) x3)])],5,[],none⟩:St)) res)) ⟨[(3,.c (.ptr 0 0)),(4,.c (.ptr 1 0)),(6,.c (.ptr 2 0)),(10,.c (.ptr 4 0)),(14,.d (iZ step)),(15,.d (iZ long)),(16,.d (iZ x5)),(63,.d (iZ outer)),(64,.d (iZ x5)),(67,.d (iZ step)),(68,.d (iZ x6))],[(4,[.d (lI x2),oC out11]),(2,[oI [],oC []]),(1,[.d (lI a_.shape),.d (lC a_.cells)]),(0,[.d (iZ f.op_),.d (.bool f.turned)]),(3,[.seq 1 (List.map (D.int .i64) x3)])],5,[],none⟩
instance {a:bY×Arr×LI×LI×Int×Int×Int×Int×Int×(List aA)}:Ok (oK a) (Ai6 a):=⟨λh=>oK.partial_correctness Ai6 (by
 rintro P_ IH ⟨f,a_,x2,x3,outer,step,long,x5,x6,out11⟩ res h
 have IH:=Ok.mk' IH
 have iE:eR Tryz.f129 0 _ xE:=⟨trivial⟩
 refine lg I ?_
 exact Wk) _ _ h⟩
abbrev Ai5 (a:bY×Arr×LI×LI×Int×Int×Int×Int×(List aA)) (res:Except (Arr×Int) (List aA)):Prop:=match a with|(f,a_,x2,x3,outer,step,long,x5,out1)=>cH X 129 (aO [1,1,1,1,1,1,1,0,1,0,0] (aQ Tryz.f129)) (aH (X.H 129 13) 5) (aK 0 (X.H 129 1000000) 5 (kS X Tryz.f129 0 xE (λ(out13:(List aA))=>(⟨[(6,.c (.ptr 2 0)),(10,.c (.ptr 4 0))],[(4,[.d (lI x2),oC out13]),(2,[oI [],oC []]),(1,[.d (lI a_.shape),.d (lC a_.cells)]),(0,[.d (iZ f.op_),.d (.bool f.turned)]),(3,[.seq 1 (List.map (D.int .i64) x3)])],5,[],none⟩:St)) res)) ⟨[(3,.c (.ptr 0 0)),(4,.c (.ptr 1 0)),(6,.c (.ptr 2 0)),(10,.c (.ptr 4 0)),(14,.d (iZ step)),(15,.d (iZ long)),(63,.d (iZ outer)),(64,.d (iZ x5))],[(4,[.d (lI x2),oC out1]),(2,[oI [],oC []]),(1,[.d (lI a_.shape),.d (lC a_.cells)]),(0,[.d (iZ f.op_),.d (.bool f.turned)]),(3,[.seq 1 (List.map (D.int .i64) x3)])],5,[],none⟩
instance {a:bY×Arr×LI×LI×Int×Int×Int×Int×(List aA)}:Ok (mI a) (Ai5 a):=⟨λh=>mI.partial_correctness Ai5 (by
 rintro P_ IH ⟨f,a_,x2,x3,outer,step,long,x5,out1⟩ res h
 have IH:=Ok.mk' IH
 have iE:eR Tryz.f129 0 _ xE:=⟨trivial⟩
 refine lg I ?_
 exact Wk) _ _ h⟩
instance {f:bY} {a_:Arr} {last:Bool}:Ok (xO f a_ last) λr=>aval X 129 [.d (qV f),.d (aI a_),.d (.bool last)] [] (xE r):=⟨λh=>by
 unfold xO at h
 exact aB xE I Tryz.func129 I I I I I I λiE=>Wk⟩
abbrev AeK (a:Arr×LI×Int×(List aA)) (res:(List aA)):Prop:=match a with|(a_,l,x,c0)=>cH X 1000032 (aO [1,1,0,1,0,0] (aQ Tryz.f32)) (aH (X.H 1000032 3) 5) (aK 0 (X.H 1000032 1000000) 5 (iP (λ(c01:(List aA))=>(⟨[(2,.c (.ptr 1 0)),(3,.c (.ptr 3 0))],[(5,[.seq 3 (List.map aD c01)]),(3,[.arr 2 (List.length l) 1,.arr 5 (List.length c01) 3]),(2,[.seq 1 (List.map (D.int .i64) l)]),(1,[oI [],oC []]),(0,[.d (lI a_.shape),.d (lC a_.cells)])],6,[],none⟩:St)) res)) ⟨[(2,.c (.ptr 1 0)),(3,.c (.ptr 3 0)),(11,.d (lC a_.cells)),(12,.d (iZ (List.length a_.cells:Int))),(13,.d (iZ x))],[(5,[.seq 3 (List.map aD c0)]),(3,[.arr 2 (List.length l) 1,.arr 5 (List.length c0) 3]),(2,[.seq 1 (List.map (D.int .i64) l)]),(1,[oI [],oC []]),(0,[.d (lI a_.shape),.d (lC a_.cells)])],6,[],none⟩
instance {a:Arr×LI×Int×(List aA)}:Ok (p_arr_Copy_V_l0 a) (AeK a):=⟨λh=>p_arr_Copy_V_l0.partial_correctness AeK (by
 rintro P_ IH ⟨a_,l,x,c0⟩ res h
 have IH:=Ok.mk' IH
 refine lgX (tm':=[(2,.c (.ptr 1 0)),(3,.c (.ptr 3 0)),(11,.d (lC a_.cells)),(12,.d (iZ (List.length a_.cells:Int))),(13,.d (iZ x))]) (hp':=[(5,[.seq 3 (List.map aD c0)]),(3,[.arr 2 (List.length l) 1,.arr 5 (List.length c0) 3]),(2,[.seq 1 (List.map (D.int .i64) l)]),(1,[oI [],oC []]),(0,[.d (lI a_.shape),.d (lC a_.cells)])]) (nid':=6) I (ra I (S_ ?_))
 rcases E_ h with ⟨hc,h⟩|⟨hc,h⟩
 ·refine ct I hc (K_ (cn I (N_ (S_ (W_ (S_ (rn 0 I ?_)))))))
  obtain⟨y,hk,h⟩:=B h
  refine po (mP aD (λ_=>I) hk I I I I I) I I (on (nid':=7) 3 I (rz (drn (m:=15) 3 I I ?_)))
  obtain⟨x1,hk,h⟩:=B h
  have hv:=Ok.ok hk
  refine pd (nO (hv) I I I I I I I I I) I I I I I (don 1 I ?_)
  obtain⟨l1,hk,h⟩:=B h
  refine pda aD hk (AqX aD I) I I I I I I I I I I I I I I I I I I I I (don 2 I (dz' (by kernel_rfl) (en I (N_ (rn 2 I (O_ (cJ.normal ?_)))))))
  have hv:=Ok.ok h
  exact bX I I hv
 ·refine cf I hc (X_ (fL.exit (kQ.exit (cJ.exit (ehX (tm':=[(2,.c (.ptr 1 0)),(3,.c (.ptr 3 0))]) (hp':=[(5,[.seq 3 (List.map aD c0)]),(3,[.arr 2 (List.length l) 1,.arr 5 (List.length c0) 3]),(2,[.seq 1 (List.map (D.int .i64) l)]),(1,[oI [],oC []]),(0,[.d (lI a_.shape),.d (lC a_.cells)])]) (nid':=6) I ?_)))))
  cases h
  exact .ok I
 ) _ _ h⟩
instance {a_:Arr}:Ok (wJ a_) λr=>AzI X 32 [.d (aI a_)] [] (aF.ret (.vagg [.arr 0 r.1 1,.arr 1 r.2.1 3]) [[.seq 1 (List.map (D.int .i64) r.2.2.1)],[.seq 3 (List.map aD r.2.2.2)]]):=⟨λ{r} h=>by
 unfold wJ at h
 refine Av0 (g:=1000032) (tm:=[(0,.d (aI a_))]) (hp:=[]) (n:=0) I Tryz.func32 I I I I I I (ra (nid':=2) I (S_ (rnM (tm0:=[(2,.c (.ptr 1 0)),(1,.c (.ptr 0 0)),(0,.d (aI a_))]) (hp0:=[(1,[oI [],oC []]),(0,[.d (lI a_.shape),.d (lC a_.cells)])]) (nid0:=2) I I I (mo (.of λ_=>I) I (λ_=>I) (s2:=⟨[(6,.c (.ptr 0 0)),(1,.c (.ptr 0 0)),(2,.c (.ptr 1 0))],[(1,[oI [],oC []]),(0,[.d (lI a_.shape),.d (lC a_.cells)])],2,[],none⟩) I (mo (.of λ_=>I) I (λ_=>I) (s2:=⟨[(7,.d (lI a_.shape)),(6,.c (.ptr 0 0)),(1,.c (.ptr 0 0)),(2,.c (.ptr 1 0))],[(1,[oI [],oC []]),(0,[.d (lI a_.shape),.d (lC a_.cells)])],2,[],none⟩) I ?_)))))
 obtain⟨l,hk,h⟩:=B h
 refine ms (BeI (D.int .i64) hk I I I I I I (BaX (D.int .i64)) I I I I I I I I I ) I (s2:=⟨[(8,.c (.arr 2 (List.length l) 1)),(7,.d (lI a_.shape)),(6,.c (.ptr 0 0)),(1,.c (.ptr 0 0)),(2,.c (.ptr 1 0))],[(2,[.seq 1 (List.map (D.int .i64) l)]),(1,[oI [],oC []]),(0,[.d (lI a_.shape),.d (lC a_.cells)])],3,[],none⟩) I (mo (.of λ_=>I) I (λ_=>I) (s2:=⟨[(9,.vagg [.arr 2 (List.length l) 1,.nilsl 3]),(8,.c (.arr 2 (List.length l) 1)),(7,.d (lI a_.shape)),(6,.c (.ptr 0 0)),(1,.c (.ptr 0 0)),(2,.c (.ptr 1 0))],[(2,[.seq 1 (List.map (D.int .i64) l)]),(1,[oI [],oC []]),(0,[.d (lI a_.shape),.d (lC a_.cells)])],3,[],none⟩) I (mo (.of λ_=>I) I (λ_=>I) (s2:=⟨[(3,.c (.ptr 3 0)),(9,.vagg [.arr 2 (List.length l) 1,.nilsl 3]),(8,.c (.arr 2 (List.length l) 1)),(7,.d (lI a_.shape)),(6,.c (.ptr 0 0)),(1,.c (.ptr 0 0)),(2,.c (.ptr 1 0))],[(3,[oI [],oC []]),(2,[.seq 1 (List.map (D.int .i64) l)]),(1,[oI [],oC []]),(0,[.d (lI a_.shape),.d (lC a_.cells)])],4,[],none⟩) I (ms I I (s2:=⟨[(3,.c (.ptr 3 0)),(9,.vagg [.arr 2 (List.length l) 1,.nilsl 3]),(8,.c (.arr 2 (List.length l) 1)),(7,.d (lI a_.shape)),(6,.c (.ptr 0 0)),(1,.c (.ptr 0 0)),(2,.c (.ptr 1 0))],[(3,[.arr 2 (List.length l) 1,.nilsl 3]),(2,[.seq 1 (List.map (D.int .i64) l)]),(1,[oI [],oC []]),(0,[.d (lI a_.shape),.d (lC a_.cells)])],4,[],none⟩) I (mz (N_ (S_ (S_ (rnF 2 (tm0:=[(3,.c (.ptr 3 0)),(9,.vagg [.arr 2 (List.length l) 1,.nilsl 3]),(8,.c (.arr 2 (List.length l) 1)),(7,.d (lI a_.shape)),(6,.c (.ptr 0 0)),(1,.c (.ptr 0 0)),(2,.c (.ptr 1 0))]) (hp0:=[(4,[.seq 3 (List.map aD ([]:List aA))]),(3,[.arr 2 (List.length l) 1,.arr 4 0 3]),(2,[.seq 1 (List.map (D.int .i64) l)]),(1,[oI [],oC []]),(0,[.d (lI a_.shape),.d (lC a_.cells)])]) (nid0:=5) (Ai0 I (I) I) I (po (mQ I I I I I I I) I I (on 1 I (rz ?_)))))))))))
 obtain⟨c01,hs,h⟩:=B h
 refine gX (λ(c01:(List aA))=>(⟨[(2,.c (.ptr 1 0)),(3,.c (.ptr 3 0))],[(5,[.seq 3 (List.map aD c01)]),(3,[.arr 2 (List.length l) 1,.arr 5 (List.length c01) 3]),(2,[.seq 1 (List.map (D.int .i64) l)]),(1,[oI [],oC []]),(0,[.d (lI a_.shape),.d (lC a_.cells)])],6,[],none⟩:St)) (y:=c01) ?_ ?_
 ·replace h:=hs
  refine W_ (eC ?_)
  have hv:=Ok.ok h
  exact bX I I hv
 ·refine N_ (ra I (R_ ?_))
  cases h
  exact BjQ I I
 ⟩
abbrev uW (r:Arr×Int):aF:=(aF.ret (.tuple [.d (aI r.1),.d (iZ r.2)]) [])
abbrev Ag6 (a:bY×Arr×Nat×Nat×LI×Int×Int×Int×Int×Int×(List aA)×Int×(List aA)) (res:Except (Arr×Int) (List aA)):Prop:=match a with|(f,a_,n,n1,b,outer,step,long,x1,x2,l,n2,c02)=>cH X 131 (aO [1,1,1,1,1,0,1,0,0,1,1,0,0,1,1,0,0,1,1,0,0,1,1,1,1,0,0] (aQ Tryz.f131)) (aH (X.H 131 17) 19) (aK 4 (X.H 131 1000004) 19 (kS X Tryz.f131 0 uW (λ(c03:(List aA))=>(⟨[(3,.c (.ptr 0 0)),(4,.c (.ptr 1 0)),(6,.c (.ptr 2 0)),(9,.c (.ptr 5 0)),(11,.d (iZ step)),(12,.d (iZ long)),(13,.d (iZ x1)),(45,.d (iZ outer)),(46,.d (iZ x1)),(49,.d (iZ step)),(50,.d (iZ x2))],[(5,[.arr 3 n 1,.arr 4 n1 3]),(2,[oI [],oC []]),(1,[.d (lI a_.shape),.d (lC a_.cells)]),(0,[.d (iZ f.op_),.d (.bool f.turned)]),(3,[.seq 1 (List.map (D.int .i64) b)]),(4,[.seq 3 (List.map aD c03)])],19,[],none⟩:St)) res)) ⟨[(3,.c (.ptr 0 0)),(4,.c (.ptr 1 0)),(6,.c (.ptr 2 0)),(9,.c (.ptr 5 0)),(11,.d (iZ step)),(12,.d (iZ long)),(13,.d (iZ x1)),(15,.d (iZ (w64 ((w64 ((w64 (x1*step))*long))+x2)))),(16,.d (lC l)),(17,.d (iZ n2)),(45,.d (iZ outer)),(46,.d (iZ x1)),(49,.d (iZ step)),(50,.d (iZ x2))],[(5,[.arr 3 n 1,.arr 4 n1 3]),(2,[oI [],oC []]),(1,[.d (lI a_.shape),.d (lC a_.cells)]),(0,[.d (iZ f.op_),.d (.bool f.turned)]),(3,[.seq 1 (List.map (D.int .i64) b)]),(4,[.seq 3 (List.map aD c02)])],19,[],none⟩
instance {a:bY×Arr×Nat×Nat×LI×Int×Int×Int×Int×Int×(List aA)×Int×(List aA)}:Ok (mX a) (Ag6 a):=⟨λh=>mX.partial_correctness Ag6 (by
 rintro P_ IH ⟨f,a_,n,n1,b,outer,step,long,x1,x2,l,n2,c02⟩ res h
 have IH:=Ok.mk' IH
 refine lg I (S_ (S_ (rn 2 I (po (mQ I I I I I I I) I I (on 1 I (rz ?_))))))
 rcases E_ h with ⟨hc,h⟩|⟨hc,h⟩
 ·refine ct I hc (K_ (cn I (N_ (S_ (W_ (S_ (drn (m:=31) 4 I I ?_)))))))
  obtain⟨l1,hk,h⟩:=B h
  refine pd (BfL hk I I I I I I) I I I I I ?_
  obtain⟨⟨x3,e1⟩,hk,h⟩:=B h
  have hv:=Ok.ok hk
  refine pd (nO (hv) I I I I I I I I I) I I I I I (don 6 I (dz (by kernel_rfl) (S_ (ra I ?_))))
  rcases E_ h with ⟨hc,h⟩|⟨hc,h⟩
  ·refine ct I hc (ra I (R_ (C_ (Q_ (aK.ret (Q_ (cJ.ret (aK.ret ?_))))))))
   cases h
   exact .err I (.ret I I)
  refine cf I hc (K_ (cn I (N_ (rn 8 I ?_))))
  obtain⟨j,hk,h⟩:=B h
  refine po (AcG hk I I I I I) I I ?_
  obtain⟨c,hk,h⟩:=B h
  refine po (est aD (v:=x3) hk I I (λ_=>⟨I,I,I⟩) I I I I) I I (O_ (en I (N_ (rn 3 I (O_ (cJ.normal ?_))))))
  have hv:=Ok.ok h
  exact bX I I hv
 ·refine cf I hc (X_ (fL.exit (kQ.exit (cJ.exit (eh I ?_)))))
  cases h
  exact .ok I
 ) _ _ h⟩
abbrev Ag5 (a:bY×Arr×Nat×Nat×LI×Int×Int×Int×Int×Int×(List aA)) (res:Except (Arr×Int) (List aA)):Prop:=match a with|(f,a_,n,n1,b,outer,step,long,x1,x2,c01)=>cH X 131 (aO [1,1,1,1,1,0,1,0,0,1,1,0,0,1,1,0,0] (aQ Tryz.f131)) (aH (X.H 131 12) 19) (aK 2 (X.H 131 1000002) 19 (kS X Tryz.f131 0 uW (λ(c04:(List aA))=>(⟨[(3,.c (.ptr 0 0)),(4,.c (.ptr 1 0)),(6,.c (.ptr 2 0)),(9,.c (.ptr 5 0)),(11,.d (iZ step)),(12,.d (iZ long)),(45,.d (iZ outer)),(46,.d (iZ x1))],[(5,[.arr 3 n 1,.arr 4 n1 3]),(2,[oI [],oC []]),(1,[.d (lI a_.shape),.d (lC a_.cells)]),(0,[.d (iZ f.op_),.d (.bool f.turned)]),(3,[.seq 1 (List.map (D.int .i64) b)]),(4,[.seq 3 (List.map aD c04)])],19,[],none⟩:St)) res)) ⟨[(3,.c (.ptr 0 0)),(4,.c (.ptr 1 0)),(6,.c (.ptr 2 0)),(9,.c (.ptr 5 0)),(11,.d (iZ step)),(12,.d (iZ long)),(13,.d (iZ x1)),(45,.d (iZ outer)),(46,.d (iZ x1)),(49,.d (iZ step)),(50,.d (iZ x2))],[(5,[.arr 3 n 1,.arr 4 n1 3]),(2,[oI [],oC []]),(1,[.d (lI a_.shape),.d (lC a_.cells)]),(0,[.d (iZ f.op_),.d (.bool f.turned)]),(3,[.seq 1 (List.map (D.int .i64) b)]),(4,[.seq 3 (List.map aD c01)])],19,[],none⟩
instance {a:bY×Arr×Nat×Nat×LI×Int×Int×Int×Int×Int×(List aA)}:Ok (kM a) (Ag5 a):=⟨λh=>kM.partial_correctness Ag5 (by
 rintro P_ IH ⟨f,a_,n,n1,b,outer,step,long,x1,x2,c01⟩ res h
 have IH:=Ok.mk' IH
 refine lg I (ra I (S_ ?_))
 rcases E_ h with ⟨hc,h⟩|⟨hc,h⟩
 ·refine ct I hc (K_ (cn I (N_ (S_ (W_ (ra I (ra I (S_ (rn 5 I ?_)))))))))
  obtain⟨l,hk,h⟩:=B h
  have hv:=Ok.ok hk
  refine po (nO (hv) I I I I I I I I I) I I (on 1 I (rz (ra I ?_)))
  obtain⟨res,hs,h⟩:=B h
  refine uB Tryz.f131 0 uW (λ(c03:(List aA))=>(⟨[(3,.c (.ptr 0 0)),(4,.c (.ptr 1 0)),(6,.c (.ptr 2 0)),(9,.c (.ptr 5 0)),(11,.d (iZ step)),(12,.d (iZ long)),(13,.d (iZ x1)),(45,.d (iZ outer)),(46,.d (iZ x1)),(49,.d (iZ step)),(50,.d (iZ x2))],[(5,[.arr 3 n 1,.arr 4 n1 3]),(2,[oI [],oC []]),(1,[.d (lI a_.shape),.d (lC a_.cells)]),(0,[.d (iZ f.op_),.d (.bool f.turned)]),(3,[.seq 1 (List.map (D.int .i64) b)]),(4,[.seq 3 (List.map aD c03)])],19,[],none⟩:St)) (res:=res) ?_ (λy hy=>?_) (λr x s' hr hx he=>?_)
  ·replace h:=hs
   refine W_ (eC ?_)
   have hv:=Ok.ok h
   exact bX I I hv
  ·subst hy
   obtain c03:=y
   refine en I (N_ (rn 2 I (O_ (cJ.normal ?_))))
   have hv:=Ok.ok h
   exact bX I I hv
  subst hr
  refine aK.out hx (kQ.out hx (cJ.out hx (aK.out hx ?_)))
  cases h
  exact .err hx he
 ·refine cf I hc (X_ (fL.exit (kQ.exit (cJ.exit (eh I ?_)))))
  cases h
  exact .ok I
 ) _ _ h⟩
abbrev Ag4 (a:bY×Arr×Nat×Nat×LI×Int×Int×Int×Int×(List aA)) (res:Except (Arr×Int) (List aA)):Prop:=match a with|(f,a_,n,n1,b,outer,step,long,x1,c0)=>cH X 131 (aO [1,1,1,1,1,0,1,0,0] (aQ Tryz.f131)) (aH (X.H 131 9) 19) (aK 0 (X.H 131 1000000) 19 (kS X Tryz.f131 0 uW (λ(c05:(List aA))=>(⟨[(6,.c (.ptr 2 0)),(9,.c (.ptr 5 0))],[(5,[.arr 3 n 1,.arr 4 n1 3]),(2,[oI [],oC []]),(1,[.d (lI a_.shape),.d (lC a_.cells)]),(0,[.d (iZ f.op_),.d (.bool f.turned)]),(3,[.seq 1 (List.map (D.int .i64) b)]),(4,[.seq 3 (List.map aD c05)])],19,[],none⟩:St)) res)) ⟨[(3,.c (.ptr 0 0)),(4,.c (.ptr 1 0)),(6,.c (.ptr 2 0)),(9,.c (.ptr 5 0)),(11,.d (iZ step)),(12,.d (iZ long)),(45,.d (iZ outer)),(46,.d (iZ x1))],[(5,[.arr 3 n 1,.arr 4 n1 3]),(2,[oI [],oC []]),(1,[.d (lI a_.shape),.d (lC a_.cells)]),(0,[.d (iZ f.op_),.d (.bool f.turned)]),(3,[.seq 1 (List.map (D.int .i64) b)]),(4,[.seq 3 (List.map aD c0)])],19,[],none⟩
instance {a:bY×Arr×Nat×Nat×LI×Int×Int×Int×Int×(List aA)}:Ok (kL a) (Ag4 a):=⟨λh=>kL.partial_correctness Ag4 (by
 rintro P_ IH ⟨f,a_,n,n1,b,outer,step,long,x1,c0⟩ res h
 have IH:=Ok.mk' IH
 refine lg I (ra I (S_ ?_))
 rcases E_ h with ⟨hc,h⟩|⟨hc,h⟩
 ·refine ct I hc (K_ (cn I (N_ (S_ (W_ (ra I (ra I ?_)))))))
  obtain⟨res,hs,h⟩:=B h
  refine uB Tryz.f131 0 uW (λ(c04:(List aA))=>(⟨[(3,.c (.ptr 0 0)),(4,.c (.ptr 1 0)),(6,.c (.ptr 2 0)),(9,.c (.ptr 5 0)),(11,.d (iZ step)),(12,.d (iZ long)),(45,.d (iZ outer)),(46,.d (iZ x1))],[(5,[.arr 3 n 1,.arr 4 n1 3]),(2,[oI [],oC []]),(1,[.d (lI a_.shape),.d (lC a_.cells)]),(0,[.d (iZ f.op_),.d (.bool f.turned)]),(3,[.seq 1 (List.map (D.int .i64) b)]),(4,[.seq 3 (List.map aD c04)])],19,[],none⟩:St)) (res:=res) ?_ (λy hy=>?_) (λr x s' hr hx he=>?_)
  ·replace h:=hs
   refine W_ (eC ?_)
   have hv:=Ok.ok h
   exact bX I I hv
  ·subst hy
   obtain c04:=y
   refine en I (N_ (rn 2 I (O_ (cJ.normal ?_))))
   have hv:=Ok.ok h
   exact bX I I hv
  subst hr
  refine aK.out hx (kQ.out hx (cJ.out hx (aK.out hx ?_)))
  cases h
  exact .err hx he
 ·refine cf I hc (X_ (fL.exit (kQ.exit (cJ.exit (eh I ?_)))))
  cases h
  exact .ok I
 ) _ _ h⟩
instance {f:bY} {a_:Arr} {last:Bool}:Ok (vF f a_ last) λr=>aval X 131 [.d (qV f),.d (aI a_),.d (.bool last)] [] (aF.ret (.tuple [.d (aI r.1),.d (iZ r.2)]) []):=⟨λ{r} h=>by
 unfold vF at h
 refine kW (tm:=[(0,.d (qV f)),(1,.d (aI a_)),(2,.d (.bool last))]) (hp:=[]) (n:=0) I Tryz.func131 I I I I I I (ra (nid':=3) I (S_ (S_ (rn 2 I (po (BhZ (show V.c (.full 2 [aI a_])=V.c (.full 2 (List.map aX [a_])) from by simp only[List.map_cons,List.map_nil,pS]) (yU I)) I I ?_)))))
 obtain⟨e,hk,h⟩:=B h
 have hv:=Ok.ok hk
 refine po (nO (hv) I I I I I I I I I) I I (on 1 I (rz (ra I ?_)))
 rcases E_ h with ⟨hc,h⟩|⟨hc,h⟩
 ·refine ct I hc (ra I (R_ (C_ (Q_ ?_))))
  cases h
  exact .ret I I
 ·refine cf I hc (K_ (cn I (N_ (S_ (rnM (tm0:=[(25,.d (.bool (e != 0))),(24,.d (iZ e)),(2,.d (.bool last)),(3,.c (.ptr 0 0)),(4,.c (.ptr 1 0)),(6,.c (.ptr 2 0)),(8,.d (iZ e))]) (hp0:=[(2,[oI [],oC []]),(1,[.d (lI a_.shape),.d (lC a_.cells)]),(0,[.d (iZ f.op_),.d (.bool f.turned)])]) (nid0:=3) I I I (mo (.of λ_=>I) I (λ_=>I) (s2:=⟨[(28,.d (aI a_)),(2,.d (.bool last)),(3,.c (.ptr 0 0)),(4,.c (.ptr 1 0)),(6,.c (.ptr 2 0))],[(2,[oI [],oC []]),(1,[.d (lI a_.shape),.d (lC a_.cells)]),(0,[.d (iZ f.op_),.d (.bool f.turned)])],3,[],none⟩) I ?_))))))
  obtain⟨⟨n,n1,b,b1⟩,hk,h⟩:=B h
  have hv:=Ok.ok hk
  refine mv (nid':=5) (hv) I I I I I I I I I I I  (s2:=⟨[(29,.vagg [.arr 3 n 1,.arr 4 n1 3]),(28,.d (aI a_)),(2,.d (.bool last)),(3,.c (.ptr 0 0)),(4,.c (.ptr 1 0)),(6,.c (.ptr 2 0))],[(2,[oI [],oC []]),(1,[.d (lI a_.shape),.d (lC a_.cells)]),(0,[.d (iZ f.op_),.d (.bool f.turned)]),(3,[.seq 1 (List.map (D.int .i64) b)]),(4,[.seq 3 (List.map aD b1)])],5,[],none⟩) I (mo (.of λ_=>I) I (λ_=>I) (s2:=⟨[(9,.c (.ptr 5 0)),(29,.vagg [.arr 3 n 1,.arr 4 n1 3]),(28,.d (aI a_)),(2,.d (.bool last)),(3,.c (.ptr 0 0)),(4,.c (.ptr 1 0)),(6,.c (.ptr 2 0))],[(5,[oI [],oC []]),(2,[oI [],oC []]),(1,[.d (lI a_.shape),.d (lC a_.cells)]),(0,[.d (iZ f.op_),.d (.bool f.turned)]),(3,[.seq 1 (List.map (D.int .i64) b)]),(4,[.seq 3 (List.map aD b1)])],6,[],none⟩) I (mo (.of λ_=>I) I (λ_=>I) (s2:=⟨[(9,.c (.ptr 5 0)),(29,.vagg [.arr 3 n 1,.arr 4 n1 3]),(28,.d (aI a_)),(2,.d (.bool last)),(3,.c (.ptr 0 0)),(4,.c (.ptr 1 0)),(6,.c (.ptr 2 0))],[(5,[.arr 3 n 1,.arr 4 n1 3]),(2,[oI [],oC []]),(1,[.d (lI a_.shape),.d (lC a_.cells)]),(0,[.d (iZ f.op_),.d (.bool f.turned)]),(3,[.seq 1 (List.map (D.int .i64) b)]),(4,[.seq 3 (List.map aD b1)])],6,[],none⟩) I (mz (N_ (S_ (S_ (rn 2 I (po (mQ I I I I I I I) I I (on 1 I (rz ?_))))))))))
  rcases E_ h with ⟨hc,h⟩|⟨hc,h⟩
  ·refine ct I hc (ra I (R_ (C_ (Q_ ?_))))
   obtain⟨cells,hkFcells,h⟩:=B h
   obtain⟨shape,hkFshape,h⟩:=B h
   cases h
   exact .retF I I (AbL I I I (lM (iH aD I hkFcells I I I) (lM (iH (D.int .i64) I hkFshape I I I) AbN)) (AoG AfN)) I
  ·refine cf I hc (K_ (cn I (N_ (S_ (drn (m:=19) 4 I I ?_)))))
   obtain⟨x,hk,h⟩:=B h
   have hv:=Ok.ok hk
   refine pd (nO (hv) I I I I I I I I I) I I I I I ?_
   obtain⟨⟨outer,step,long⟩,hk,h⟩:=B h
   have hv:=Ok.ok hk
   refine pd (nO (hv) I I I I I I I I I) I I I I I (don 7 I (dz (by kernel_rfl) (S_ (ra I ?_))))
   obtain⟨res,hs,h⟩:=B h
   refine uB Tryz.f131 0 uW (λ(c05:(List aA))=>(⟨[(6,.c (.ptr 2 0)),(9,.c (.ptr 5 0))],[(5,[.arr 3 n 1,.arr 4 n1 3]),(2,[oI [],oC []]),(1,[.d (lI a_.shape),.d (lC a_.cells)]),(0,[.d (iZ f.op_),.d (.bool f.turned)]),(3,[.seq 1 (List.map (D.int .i64) b)]),(4,[.seq 3 (List.map aD c05)])],19,[],none⟩:St)) (res:=res) ?_ (λy hy=>?_) (λr x s' hr hx he=>?_)
   ·replace h:=hs
    refine W_ (eC ?_)
    have hv:=Ok.ok h
    exact bX I I hv
   ·subst hy
    obtain c05:=y
    refine N_ (ra I (R_ ?_))
    obtain⟨cells1,hkFcells1,h⟩:=B h
    obtain⟨shape1,hkFshape1,h⟩:=B h
    cases h
    exact .retF I I (AbL I I I (lM (iH aD I hkFcells1 I I I) (lM (iH (D.int .i64) I hkFshape1 I I I) AbN)) (AoG AfN)) I
   ·subst hr
    refine kQ.out hx ?_
    cases h
    exact he
 ⟩
abbrev vQ (c:aG) (r:Bool×Int×Int):aF:=(aF.ret (.d (.bool r.1)) [[.d (iZ r.2.1),.d (iZ r.2.2),.d (iZ c.cells)]])
instance {n:Int} {c:aG}:Ok (lZ n c) λr=>aval X 127 [.ptr 0 0,.d (iZ n)] [[.d (iZ c.fuel.left),.d (iZ c.fuel.used),.d (iZ c.cells)]] ((vQ c) r):=⟨λh=>by
 unfold lZ at h
 exact aB (vQ c) I Tryz.func127 I I I I I I λiE=>Wk⟩
abbrev AaJ (m:aG) (r:Int×Int×Int):aF:=(aF.ret (.d (iZ r.1)) [[.d (iZ r.2.1),.d (iZ r.2.2),.d (iZ m.cells)]])
instance {m:aG}:Ok (eT m) λr=>aval X 55 [.ptr 0 0] [[.d (iZ m.fuel.left),.d (iZ m.fuel.used),.d (iZ m.cells)]] ((AaJ m) r):=⟨λh=>by
 unfold eT at h
 exact aB (AaJ m) I Tryz.func55 I I I I I I λiE=>Wk⟩
abbrev ArC (r:Int×Int):aF:=(aF.ret (.tuple [.d (iZ r.1),.d (iZ r.2)]) [])
instance {a_:Int}:Ok (Aa0 a_) λr=>aval X 145 [.d (iZ a_)] [] (ArC r):=⟨λh=>by
 unfold Aa0 at h
 exact aB ArC I Tryz.func145 I I I I I I λiE=>Wk⟩
abbrev Ar9 (r:Int×Int):aF:=(aF.ret (.tuple [.d (iZ r.1),.d (iZ r.2)]) [])
instance {a_:Int}:Ok (AhA a_) λr=>aval X 147 [.d (iZ a_)] [] (Ar9 r):=⟨λh=>by
 unfold AhA at h
 exact aB Ar9 I Tryz.func147 I I I I I I λiE=>Wk⟩
abbrev ArE (r:Int):aF:=(aF.ret (.d (iZ r)) [])
instance {a_:Int}:Ok (AhB a_) λr=>aval X 146 [.d (iZ a_)] [] (ArE r):=⟨λh=>by
 unfold AhB at h
 exact aB ArE I Tryz.func146 I I I I I I λiE=>Wk⟩
abbrev AjQ (r:Int×Int):aF:=(aF.ret (.tuple [.d (iZ r.1),.d (iZ r.2)]) [])
instance {op_:Int} {n:Int}:Ok (wL op_ n) λr=>aval X 72 [.d (iZ op_),.d (iZ n)] [] (AjQ r):=⟨λh=>by
 unfold wL at h
 exact aB AjQ I Tryz.func72 I I I I I I λiE=>Wk⟩
abbrev AbF (r:Arr×Int):aF:=(aF.ret (.tuple [.d (aI r.1),.d (iZ r.2)]) [])
instance Bf4:Jn 38 1 20 (Bool):=⟨λy=>[(20,.d (.bool y))],λy=>[]⟩
abbrev Ag2 (a:Int×Arr×LI×Int×(List aA)) (res:Except (Arr×Int) (List aA)):Prop:=match a with|(op_,a_,l,x1,out1)=>cH X 38 (aO [1,1,1,1,0,1,0,0] (aQ Tryz.f38)) (aH (X.H 38 14) 3) (aK 1 (X.H 38 1000001) 3 (kS X Tryz.f38 0 AbF (λ(out11:(List aA))=>(⟨[(4,.c (.ptr 1 0)),(7,.c (.ptr 2 0))],[(2,[.d (lI l),oC out11]),(1,[oI [],oC []]),(0,[.d (lI a_.shape),.d (lC a_.cells)])],3,[],none⟩:St)) res)) ⟨[(0,.d (iZ op_)),(4,.c (.ptr 1 0)),(7,.c (.ptr 2 0)),(33,.d (lC a_.cells)),(34,.d (iZ (List.length a_.cells:Int))),(35,.d (iZ x1))],[(2,[.d (lI l),oC out1]),(1,[oI [],oC []]),(0,[.d (lI a_.shape),.d (lC a_.cells)])],3,[],none⟩
instance {a:Int×Arr×LI×Int×(List aA)}:Ok (mU a) (Ag2 a):=⟨λh=>mU.partial_correctness Ag2 (by
 rintro P_ IH ⟨op_,a_,l,x1,out1⟩ res h
 have IH:=Ok.mk' IH
 have iE:eR Tryz.f38 0 _ AbF:=⟨trivial⟩
 refine lg I ?_
 exact Wk) _ _ h⟩
instance {op_:Int} {a_:Arr}:Ok (rU op_ a_) λr=>aval X 38 [.d (iZ op_),.d (aI a_)] [] (AbF r):=⟨λh=>by
 unfold rU at h
 exact aB AbF I Tryz.func38 I I I I I I λiE=>Wk⟩
abbrev AoB (r:Arr):aF:=(aF.ret (.d (aI r)) [])
instance {n:Int}:Ok (Ae8 n) λr=>aval X 77 [.d (iZ n)] [] (AoB r):=⟨λh=>by
 unfold Ae8 at h
 exact aB AoB I Tryz.func77 I I I I I I λiE=>Wk⟩
abbrev AiM (r:Int):aF:=(aF.ret (.d (iZ r)) [])
instance Bg0:Jn 81 0 1 (Int):=⟨λy=>[(3,.d (iZ y))],λy=>[]⟩
abbrev AcL (a:Arr×Int×Int) (res:Int):Prop:=match a with|(a_,n,x)=>cH X 81 (aO [1,1,0,1,0,0] (aQ Tryz.f81)) (aH (X.H 81 3) 1) (aK 0 (X.H 81 1000000) 1 (iP (λ(n2:Int)=>(⟨[(3,.d (iZ n2))],[(0,[.d (lI a_.shape),.d (lC a_.cells)])],1,[],none⟩:St)) res)) ⟨[(3,.d (iZ n)),(7,.d (lC a_.cells)),(8,.d (iZ (List.length a_.cells:Int))),(9,.d (iZ x))],[(0,[.d (lI a_.shape),.d (lC a_.cells)])],1,[],none⟩
abbrev AiX (a:Arr) (res:Int):Prop:=match a with|a_=>aval X 81 [.d (aI a_)] [] (AiM res)
theorem Ac3:(∀a res,kC a=some res->AcL a res)/\(∀a res,uP a=some res->AiX a res):=by
 refine kC.mutual_partial_correctness (motive_1:=AcL) (motive_2:=AiX) ?_ ?_
 ·rintro P0 P1 I0 I1 ⟨a_,n,x⟩ res h
  have I0:=Ok.mk' I0
  have I1:=Ok.mk' I1
  refine lg I ?_
  have iE:eR Tryz.f81 0 _ AiM:=⟨trivial⟩
  exact Wk
 rintro P0 I0 a_ res h
 have I0:=Ok.mk' I0
 exact aB AiM I Tryz.func81 I I I I I I λiE=>Wk
instance {a:Arr×Int×Int}:Ok (kC a) (AcL a):=⟨λh=>Ac3.1 a _ h⟩
instance {a:Arr}:Ok (uP a) (AiX a):=⟨λh=>Ac3.2 a _ h⟩
abbrev AfE (r:Arr×Int):aF:=(aF.ret (.tuple [.d (aI r.1),.d (iZ r.2)]) [])
instance {a_:Arr}:Ok (rW a_) λr=>aval X 83 [.d (aI a_)] [] (AfE r):=⟨λh=>by
 unfold rW at h
 exact aB AfE I Tryz.func83 I I I I I I λiE=>Wk⟩
abbrev zF (a:Arr×Nat×LI×Int×LI×(List aA)×Int×Int) (res:Int):Prop:=match a with|(a_,x,x1,x2,at_1,out1,n,x3)=>cH X 80 (aO [1,0,1,1,1,1,0,1,0,0,1,1,0,0,1,0,1,0,0] (aQ Tryz.f80)) (aH (X.H 80 8) 5) (aK 2 (X.H 80 1000002) 5 (iP (λ(n1:Int)=>(⟨[(1,.c (.ptr 0 0)),(2,.c (.ptr 1 0)),(3,.c (.ptr 3 0)),(4,.c (.arr 4 (Int.toNat (x:Int)) 1)),(5,.d (iZ n1)),(21,.d (iZ (List.length a_.cells:Int))),(22,.d (iZ x2))],[(4,[.seq 1 (List.map (D.int .i64) at_1)]),(3,[.arr 2 x 1,oC out1]),(1,[oI [],oC []]),(0,[.d (lI a_.shape),.d (lC a_.cells)]),(2,[.seq 1 (List.map (D.int .i64) x1)])],5,[],none⟩:St)) res)) ⟨[(1,.c (.ptr 0 0)),(2,.c (.ptr 1 0)),(3,.c (.ptr 3 0)),(4,.c (.arr 4 (Int.toNat (x:Int)) 1)),(5,.d (iZ n)),(21,.d (iZ (List.length a_.cells:Int))),(22,.d (iZ x2)),(25,.d (iZ ((Int.toNat (x:Int)):Int))),(26,.d (iZ x3))],[(4,[.seq 1 (List.map (D.int .i64) at_1)]),(3,[.arr 2 x 1,oC out1]),(1,[oI [],oC []]),(0,[.d (lI a_.shape),.d (lC a_.cells)]),(2,[.seq 1 (List.map (D.int .i64) x1)])],5,[],none⟩
instance {a:Arr×Nat×LI×Int×LI×(List aA)×Int×Int}:Ok (gF a) (zF a):=⟨λh=>gF.partial_correctness zF (by
 rintro P_ IH ⟨a_,x,x1,x2,at_1,out1,n,x3⟩ res h
 have IH:=Ok.mk' IH
 refine lg I (ra I (S_ ?_))
 rcases E_ h with ⟨hc,h⟩|⟨hc,h⟩
 ·refine ct I hc (K_ (cn I (N_ (S_ (W_ (ra I (drn (m:=22) 4 I I ?_)))))))
  obtain⟨y,hk,h⟩:=B h
  refine pd (mP (D.int .i64) (λ_=>I) hk I I I I I) I I I I I (don 8 I ?_)
  obtain⟨j,hk,h⟩:=B h
  refine pd (AcG hk I I I I I) I I I I I ?_
  obtain⟨y1,hk,h⟩:=B h
  refine pd (AqD (D.int .i64) hk I I (λ_=>⟨I,I,I⟩) I I) I I I I I (don 2 I (dz' (by kernel_rfl) (en I (N_ (rn 2 I (O_ (cJ.normal ?_)))))))
  have hv:=Ok.ok h
  exact bX I I hv
 ·refine cf I hc (X_ (fL.exit (kQ.exit (cJ.exit (eh I ?_)))))
  cases h
  exact .ok I
 ) _ _ h⟩
abbrev zG (a:Arr×Nat×LI×Int×(List aA)×Int×LI) (res:Except LI LI):Prop:=match a with|(a_,x,x1,x2,l,i,at_2)=>cH X 80 (aO [1,0,1,1,1,1,0,1,0,0,1,1,0,0,1,1,1,1,0,0] (aQ Tryz.f80)) (aH (X.H 80 14) 16) (aK 4 (X.H 80 1000004) 16 (BaS 1 (X.H 80 1000001) 5 (λ(at_6:LI)=>(⟨[(1,.c (.ptr 0 0)),(2,.c (.ptr 1 0)),(3,.c (.ptr 3 0)),(4,.c (.arr 4 (Int.toNat (x:Int)) 1)),(21,.d (iZ (List.length a_.cells:Int))),(22,.d (iZ x2))],[(4,[.seq 1 (List.map (D.int .i64) at_6)]),(3,[.arr 2 x 1,oC l]),(1,[oI [],oC []]),(0,[.d (lI a_.shape),.d (lC a_.cells)]),(2,[.seq 1 (List.map (D.int .i64) x1)])],5,[],none⟩:St)) (λ(at_5:LI)=>(⟨[(1,.c (.ptr 0 0)),(2,.c (.ptr 1 0)),(3,.c (.ptr 3 0)),(4,.c (.arr 4 (Int.toNat (x:Int)) 1)),(21,.d (iZ (List.length a_.cells:Int))),(22,.d (iZ x2))],[(4,[.seq 1 (List.map (D.int .i64) at_5)]),(3,[.arr 2 x 1,oC l]),(1,[oI [],oC []]),(0,[.d (lI a_.shape),.d (lC a_.cells)]),(2,[.seq 1 (List.map (D.int .i64) x1)])],16,[],none⟩:St)) res)) ⟨[(1,.c (.ptr 0 0)),(2,.c (.ptr 1 0)),(3,.c (.ptr 3 0)),(4,.c (.arr 4 (Int.toNat (x:Int)) 1)),(7,.d (iZ i)),(21,.d (iZ (List.length a_.cells:Int))),(22,.d (iZ x2))],[(4,[.seq 1 (List.map (D.int .i64) at_2)]),(3,[.arr 2 x 1,oC l]),(1,[oI [],oC []]),(0,[.d (lI a_.shape),.d (lC a_.cells)]),(2,[.seq 1 (List.map (D.int .i64) x1)])],16,[],none⟩
instance {a:Arr×Nat×LI×Int×(List aA)×Int×LI}:Ok (p_layout_flipped_l2 a) (zG a):=⟨λh=>p_layout_flipped_l2.partial_correctness zG (by
 rintro P_ IH ⟨a_,x,x1,x2,l,i,at_2⟩ res h
 have IH:=Ok.mk' IH
 refine lg I (S_ (ra I ?_))
 rcases E_ h with ⟨hc,h⟩|⟨hc,h⟩
 ·refine ct I hc (K_ (cn I (N_ (S_ (W_ (S_ (S_ (rn 2 I ?_))))))))
  obtain⟨j1,hk,h⟩:=B h
  refine po (AcG hk I I I I I) I I ?_
  obtain⟨y3,hk,h⟩:=B h
  refine po (AqD (D.int .i64) hk I I (λ_=>⟨I,I,I⟩) I I) I I (on 1 I ?_)
  obtain⟨j2,hk,h⟩:=B h
  refine po (AcG hk I I I I I) I I ?_
  obtain⟨at_3,hk,h⟩:=B h
  refine po (est (D.int .i64) (v:=(w64 (y3+1))) hk I I (λ_=>⟨I,I,I⟩) I I I I) I I (rz (S_ (drn (m:=26) 2 I I ?_)))
  obtain⟨j3,hk,h⟩:=B h
  refine pd (AcG hk I I I I I) I I I I I ?_
  obtain⟨y4,hk,h⟩:=B h
  refine pd (AqD (D.int .i64) hk I I (λ_=>⟨I,I,I⟩) I I) I I I I I (don 3 I ?_)
  obtain⟨j4,hk,h⟩:=B h
  refine pd (AcG hk I I I I I) I I I I I ?_
  obtain⟨y5,hk,h⟩:=B h
  refine pd (AqD (D.int .i64) hk I I (λ_=>⟨I,I,I⟩) I I) I I I I I (don 1 I (dz (by kernel_rfl) ?_))
  rcases E_ h with ⟨hc,h⟩|⟨hc,h⟩
  ·refine ct I hc (X_ (fL.exit (kQ.exit (aK.there I (kQ.exit (cJ.exit (aK.there I ?_)))))))
   cases h
   exact ex1 I I
  refine cf I hc (K_ (cn I (N_ (rn 2 I ?_))))
  obtain⟨j5,hk,h⟩:=B h
  refine po (AcG hk I I I I I) I I ?_
  obtain⟨at_4,hk,h⟩:=B h
  refine po (est (D.int .i64) (v:=0) hk I I (λ_=>⟨I,I,I⟩) I I I I) I I (O_ (en I (N_ (rn 3 I (O_ (cJ.normal ?_))))))
  have hv:=Ok.ok h
  exact bX I I hv
 ·refine cf I hc (X_ (fL.exit (kQ.exit (cJ.exit (eh I ?_)))))
  cases h
  exact .ok I
 ) _ _ h⟩
abbrev zE (a:Arr×Nat×LI×Int×LI×(List aA)) (res:LI×(List aA)):Prop:=match a with|(a_,x,x1,x2,at_1,out1)=>cH X 80 (aO [1,0,1,1,1,1,0,1,0,0] (aQ Tryz.f80)) (aH (X.H 80 5) 5) (aK 0 (X.H 80 1000000) 5 (iP (λ((c0,out12):LI×(List aA))=>(⟨[(2,.c (.ptr 1 0)),(3,.c (.ptr 3 0))],[(4,[.seq 1 (List.map (D.int .i64) c0)]),(3,[.arr 2 x 1,oC out12]),(1,[oI [],oC []]),(0,[.d (lI a_.shape),.d (lC a_.cells)]),(2,[.seq 1 (List.map (D.int .i64) x1)])],5,[],none⟩:St)) res)) ⟨[(1,.c (.ptr 0 0)),(2,.c (.ptr 1 0)),(3,.c (.ptr 3 0)),(4,.c (.arr 4 (Int.toNat (x:Int)) 1)),(21,.d (iZ (List.length a_.cells:Int))),(22,.d (iZ x2))],[(4,[.seq 1 (List.map (D.int .i64) at_1)]),(3,[.arr 2 x 1,oC out1]),(1,[oI [],oC []]),(0,[.d (lI a_.shape),.d (lC a_.cells)]),(2,[.seq 1 (List.map (D.int .i64) x1)])],5,[],none⟩
instance {a:Arr×Nat×LI×Int×LI×(List aA)}:Ok (fA a) (zE a):=⟨λh=>fA.partial_correctness zE (by
 rintro P_ IH ⟨a_,x,x1,x2,at_1,out1⟩ res h
 have IH:=Ok.mk' IH
 refine lg I (ra I (S_ ?_))
 rcases E_ h with ⟨hc,h⟩|⟨hc,h⟩
 ·refine ct I hc (K_ (cn I (N_ (S_ ?_))))
  obtain⟨⟨at_7,out11⟩,hs,h⟩:=B h
  refine gX (λ((at_7,out11):LI×(List aA))=>(⟨[(1,.c (.ptr 0 0)),(2,.c (.ptr 1 0)),(3,.c (.ptr 3 0)),(4,.c (.arr 4 (Int.toNat (x:Int)) 1)),(21,.d (iZ (List.length a_.cells:Int))),(22,.d (iZ x2))],[(4,[.seq 1 (List.map (D.int .i64) at_7)]),(3,[.arr 2 x 1,oC out11]),(1,[oI [],oC []]),(0,[.d (lI a_.shape),.d (lC a_.cells)]),(2,[.seq 1 (List.map (D.int .i64) x1)])],5,[],none⟩:St)) (y:=(at_7,out11)) ?_ ?_
  ·replace h:=hs
   refine W_ (ra I (S_ (ra I ?_)))
   obtain⟨n1,hs,h⟩:=B h
   refine gX (λ(n1:Int)=>(⟨[(1,.c (.ptr 0 0)),(2,.c (.ptr 1 0)),(3,.c (.ptr 3 0)),(4,.c (.arr 4 (Int.toNat (x:Int)) 1)),(5,.d (iZ n1)),(21,.d (iZ (List.length a_.cells:Int))),(22,.d (iZ x2))],[(4,[.seq 1 (List.map (D.int .i64) at_1)]),(3,[.arr 2 x 1,oC out1]),(1,[oI [],oC []]),(0,[.d (lI a_.shape),.d (lC a_.cells)]),(2,[.seq 1 (List.map (D.int .i64) x1)])],5,[],none⟩:St)) (y:=n1) ?_ ?_
   ·replace h:=hs
    refine W_ (eC ?_)
    have hv:=Ok.ok h
    exact bX I I hv
   refine N_ (S_ (drn (m:=16) 5 I I ?_))
   obtain⟨y2,hk,h⟩:=B h
   refine pd (mP aD (λ_=>I) hk I I I I I) I I I I I (don 2 I ?_)
   obtain⟨l,hk,h⟩:=B h
   refine pd (AfL hk I I I I I I I I I I I I I I ) I I I I I (don 2 I (dz (by kernel_rfl) (ra I ?_)))
   obtain⟨res,hs,h⟩:=B h
   refine AzK 1 (X.H 80 1000001) 5 (λ(at_6:LI)=>(⟨[(1,.c (.ptr 0 0)),(2,.c (.ptr 1 0)),(3,.c (.ptr 3 0)),(4,.c (.arr 4 (Int.toNat (x:Int)) 1)),(21,.d (iZ (List.length a_.cells:Int))),(22,.d (iZ x2))],[(4,[.seq 1 (List.map (D.int .i64) at_6)]),(3,[.arr 2 x 1,oC l]),(1,[oI [],oC []]),(0,[.d (lI a_.shape),.d (lC a_.cells)]),(2,[.seq 1 (List.map (D.int .i64) x1)])],5,[],none⟩:St)) (λ(at_5:LI)=>(⟨[(1,.c (.ptr 0 0)),(2,.c (.ptr 1 0)),(3,.c (.ptr 3 0)),(4,.c (.arr 4 (Int.toNat (x:Int)) 1)),(21,.d (iZ (List.length a_.cells:Int))),(22,.d (iZ x2))],[(4,[.seq 1 (List.map (D.int .i64) at_5)]),(3,[.arr 2 x 1,oC l]),(1,[oI [],oC []]),(0,[.d (lI a_.shape),.d (lC a_.cells)]),(2,[.seq 1 (List.map (D.int .i64) x1)])],16,[],none⟩:St)) (res:=res) ?_ (λy hy=>?_) (λy s' hy hS=>?_)
   ·replace h:=hs
    refine W_ (eC ?_)
    have hv:=Ok.ok h
    exact bX I I hv
   ·subst hy
    obtain at_5:=y
    refine en I ?_
    cases h
    exact .ok I
   subst hy
   obtain at_6:=y
   refine aK.here hS ?_
   cases h
   exact .ok I
  refine N_ (rn 2 I (O_ (cJ.normal ?_)))
  have hv:=Ok.ok h
  exact bX I I hv
 ·refine cf I hc (X_ (fL.exit (kQ.exit (cJ.exit (eh I ?_)))))
  cases h
  exact .ok I
 ) _ _ h⟩
instance {a_:Arr}:Ok (pD a_) λr=>aval X 80 [.d (aI a_)] [] (aF.ret (.d (aI r)) []):=⟨λ{r} h=>by
 unfold pD at h
 refine kW (tm:=[(0,.d (aI a_))]) (hp:=[]) (n:=0) I Tryz.func80 I I I I I I (ra (nid':=2) I (Ar0 (S_ (rn 2 I ?_))))
 obtain⟨⟨x,b⟩,hk,h⟩:=B h
 have hv:=Ok.ok hk
 refine po (AfM (nid':=3) (hv) I I I I I I I I I I I I) I I (on (nid':=4) 3 I (rz (S_ (rn 2 I ?_))))
 obtain⟨x1,hk,h⟩:=B h
 have hv:=Ok.ok hk
 refine po (AfM (nid':=4) (hv) I I I I I I I I I I I I) I I (rz (S_ (rn 3 I ?_)))
 obtain⟨at_,hk,h⟩:=B h
 refine po (Al5 (nid':=5) (D.int .i64) 0 hk I I I I I I I I I I I I ) I I (on (nid':=5) 1 I (rz (S_ (AqZ (N_ (S_ (S_ (rn 2 I (po (mQ I I I I I I I) I I (on 1 I (rz ?_)))))))))))
 obtain⟨⟨c0,out12⟩,hs,h⟩:=B h
 refine gX (λ((c0,out12):LI×(List aA))=>(⟨[(2,.c (.ptr 1 0)),(3,.c (.ptr 3 0))],[(4,[.seq 1 (List.map (D.int .i64) c0)]),(3,[.arr 2 x 1,oC out12]),(1,[oI [],oC []]),(0,[.d (lI a_.shape),.d (lC a_.cells)]),(2,[.seq 1 (List.map (D.int .i64) x1)])],5,[],none⟩:St)) (y:=(c0,out12)) ?_ ?_
 ·replace h:=hs
  refine W_ (eC ?_)
  have hv:=Ok.ok h
  exact bX I I hv
 ·refine N_ (ra I (R_ ?_))
  obtain⟨shape,hkFshape,h⟩:=B h
  cases h
  exact .retF I I (AbL I I I (lM I (lM (iH (D.int .i64) I hkFshape I I I) AbN)) AfN) I
 ⟩
abbrev AaH (r:Arr×Int):aF:=(aF.ret (.tuple [.d (aI r.1),.d (iZ r.2)]) [])
abbrev AbX (a:Arr×aA×Int×Int×(List aA)) (res:(List aA)):Prop:=match a with|(a_,y3,y4,x,out1)=>cH X 76 (aO [1,1,1,0,1,0,0] (aQ Tryz.f76)) (aH (X.H 76 9) 3) (aK 1 (X.H 76 1000001) 3 (iP (λ(out11:(List aA))=>(⟨[(2,.c (.ptr 1 0)),(4,.c (.ptr 2 0))],[(2,[oI [y3.n],oC out11]),(1,[oI [],oC []]),(0,[.d (lI a_.shape),.d (lC a_.cells)])],3,[],none⟩:St)) res)) ⟨[(2,.c (.ptr 1 0)),(4,.c (.ptr 2 0)),(46,.d (iZ y4)),(47,.d (iZ x))],[(2,[oI [y3.n],oC out1]),(1,[oI [],oC []]),(0,[.d (lI a_.shape),.d (lC a_.cells)])],3,[],none⟩
instance {a:Arr×aA×Int×Int×(List aA)}:Ok (jD a) (AbX a):=⟨λh=>jD.partial_correctness AbX (by
 rintro P_ IH ⟨a_,y3,y4,x,out1⟩ res h
 have IH:=Ok.mk' IH
 have iE:eR Tryz.f76 0 _ AaH:=⟨trivial⟩
 refine lg I ?_
 exact Wk) _ _ h⟩
instance {a_:Arr}:Ok (rX a_) λr=>aval X 76 [.d (aI a_)] [] (AaH r):=⟨λh=>by
 unfold rX at h
 exact aB AaH I Tryz.func76 I I I I I I λiE=>Wk⟩
abbrev AhR (r:Arr×Int):aF:=(aF.ret (.tuple [.d (aI r.1),.d (iZ r.2)]) [])
instance {a_:Arr}:Ok (tP a_) λr=>aval X 82 [.d (aI a_)] [] (AhR r):=⟨λh=>by
 unfold tP at h
 exact aB AhR I Tryz.func82 I I I I I I λiE=>Wk⟩
abbrev AfF (r:Int):aF:=(aF.ret (.d (iZ r)) [])
instance {a_:Arr}:Ok (rY a_) λr=>aval X 78 [.d (aI a_)] [] (AfF r):=⟨λh=>by
 unfold rY at h
 exact aB AfF I Tryz.func78 I I I I I I λiE=>Wk⟩
abbrev qL (r:Arr):aF:=(aF.ret (.d (aI r)) [])
abbrev AaT (a:Arr×Int×LI×Int×Int) (res:Int):Prop:=match a with|(a_,axis,l,inner,x)=>cH X 79 (aO [1,1,1,0,1,0,0] (aQ Tryz.f79)) (aH (X.H 79 5) 2) (aK 0 (X.H 79 1000000) 2 (iP (λ(inner1:Int)=>(⟨[(1,.d (iZ axis)),(2,.c (.ptr 0 0)),(4,.c (.ptr 1 0)),(5,.d (iZ inner1))],[(1,[oI [],oC []]),(0,[.d (lI a_.shape),.d (lC a_.cells)])],2,[],none⟩:St)) res)) ⟨[(1,.d (iZ axis)),(2,.c (.ptr 0 0)),(4,.c (.ptr 1 0)),(5,.d (iZ inner)),(21,.d (lI l)),(22,.d (iZ (List.length l:Int))),(23,.d (iZ x))],[(1,[oI [],oC []]),(0,[.d (lI a_.shape),.d (lC a_.cells)])],2,[],none⟩
instance {a:Arr×Int×LI×Int×Int}:Ok (hJ a) (AaT a):=⟨λh=>hJ.partial_correctness AaT (by
 rintro P_ IH ⟨a_,axis,l,inner,x⟩ res h
 have IH:=Ok.mk' IH
 have iE:eR Tryz.f79 0 _ qL:=⟨trivial⟩
 refine lg I ?_
 exact Wk) _ _ h⟩
abbrev AaV (a:Arr×Int×Int×Int×(List aA)×Int) (res:(List aA)):Prop:=match a with|(a_,inner1,d1,at_,out1,i)=>cH X 79 (aO [1,1,1,1,1,1,0,1,0,0,1,0,0,1,0,0] (aQ Tryz.f79)) (aH (X.H 79 15) 2) (aK 4 (X.H 79 1000004) 2 (iP (λ(out3:(List aA))=>(⟨[(2,.c (.ptr 0 0)),(4,.c (.ptr 1 0)),(5,.d (iZ inner1)),(8,.d (iZ d1)),(9,.c (.own 3 (List.map aD out3))),(10,.d (iZ at_))],[(1,[oI [],oC []]),(0,[.d (lI a_.shape),.d (lC a_.cells)])],2,[],none⟩:St)) res)) ⟨[(2,.c (.ptr 0 0)),(4,.c (.ptr 1 0)),(5,.d (iZ inner1)),(8,.d (iZ d1)),(9,.c (.own 3 (List.map aD out1))),(10,.d (iZ at_)),(11,.d (iZ i))],[(1,[oI [],oC []]),(0,[.d (lI a_.shape),.d (lC a_.cells)])],2,[],none⟩
instance {a:Arr×Int×Int×Int×(List aA)×Int}:Ok (hO a) (AaV a):=⟨λh=>hO.partial_correctness AaV (by
 rintro P_ IH ⟨a_,inner1,d1,at_,out1,i⟩ res h
 have IH:=Ok.mk' IH
 have iE:eR Tryz.f79 0 _ qL:=⟨trivial⟩
 refine lg I ?_
 exact Wk) _ _ h⟩
abbrev AaU (a:Arr×Int×Int×(List aA)×Int) (res:(List aA)):Prop:=match a with|(a_,inner1,d1,out,at_)=>cH X 79 (aO [1,1,1,1,1,1,0,1,0,0] (aQ Tryz.f79)) (aH (X.H 79 12) 2) (aK 2 (X.H 79 1000002) 2 (iP (λ(out4:(List aA))=>(⟨[(2,.c (.ptr 0 0)),(4,.c (.ptr 1 0)),(9,.c (.own 3 (List.map aD out4)))],[(1,[oI [],oC []]),(0,[.d (lI a_.shape),.d (lC a_.cells)])],2,[],none⟩:St)) res)) ⟨[(2,.c (.ptr 0 0)),(4,.c (.ptr 1 0)),(5,.d (iZ inner1)),(8,.d (iZ d1)),(9,.c (.own 3 (List.map aD out))),(10,.d (iZ at_))],[(1,[oI [],oC []]),(0,[.d (lI a_.shape),.d (lC a_.cells)])],2,[],none⟩
instance {a:Arr×Int×Int×(List aA)×Int}:Ok (fP a) (AaU a):=⟨λh=>fP.partial_correctness AaU (by
 rintro P_ IH ⟨a_,inner1,d1,out,at_⟩ res h
 have IH:=Ok.mk' IH
 have iE:eR Tryz.f79 0 _ qL:=⟨trivial⟩
 refine lg I ?_
 exact Wk) _ _ h⟩
instance {a_:Arr} {axis:Int}:Ok (p_layout_turned a_ axis) λr=>aval X 79 [.d (aI a_),.d (iZ axis)] [] (qL r):=⟨λh=>by
 unfold p_layout_turned at h
 exact aB qL I Tryz.func79 I I I I I I λiE=>Wk⟩
abbrev AfD (r:Arr×Int):aF:=(aF.ret (.tuple [.d (aI r.1),.d (iZ r.2)]) [])
abbrev Ag8 (a:Arr×Int×(List aA)) (res:(List aA)):Prop:=match a with|(x,x3,out1)=>cH X 40 (aO [1,1,1,0,1,0,1,1,1,0,1,0,1,0,0] (aQ Tryz.f40)) (aH (X.H 40 11) 3) (aK 1 (X.H 40 1000001) 3 (iP (λ(out11:(List aA))=>(⟨[(4,.c (.ptr 1 0)),(7,.c (.ptr 2 0))],[(2,[oI [(List.length x.shape:Int)],oC out11]),(1,[oI [],oC []]),(0,[.d (lI x.shape),.d (lC x.cells)])],3,[],none⟩:St)) res)) ⟨[(4,.c (.ptr 1 0)),(7,.c (.ptr 2 0)),(33,.d (lI x.shape)),(34,.d (iZ (List.length x.shape:Int))),(35,.d (iZ x3))],[(2,[oI [(List.length x.shape:Int)],oC out1]),(1,[oI [],oC []]),(0,[.d (lI x.shape),.d (lC x.cells)])],3,[],none⟩
instance {a:Arr×Int×(List aA)}:Ok (nA a) (Ag8 a):=⟨λh=>nA.partial_correctness Ag8 (by
 rintro P_ IH ⟨x,x3,out1⟩ res h
 have IH:=Ok.mk' IH
 have iE:eR Tryz.f40 0 _ AfD:=⟨trivial⟩
 refine lg I ?_
 exact Wk) _ _ h⟩
instance {op_:Int} {a_:Arr}:Ok (yL op_ a_) λr=>aval X 40 [.d (iZ op_),.d (aI a_)] [] (AfD r):=⟨λh=>by
 unfold yL at h
 exact aB AfD I Tryz.func40 I I I I I I λiE=>Wk⟩
abbrev vS (r:Int):aF:=(aF.ret (.d (iZ r)) [])
abbrev Ac0 (a:(List Arr)×Int) (res:Except (Int) (Unit)):Prop:=match a with|(l,x)=>cH X 73 (aO [1,0,1,0,0] (aQ Tryz.f73)) (aH (X.H 73 2) 0) (aK 0 (X.H 73 1000000) 0 (kS X Tryz.f73 0 vS (λ(_:Unit)=>(⟨[],[],0,[],none⟩:St)) res)) ⟨[(6,.d (.list 2 (List.map aX l))),(7,.d (iZ (List.length l:Int))),(8,.d (iZ x))],[],0,[],none⟩
instance {a:(List Arr)×Int}:Ok (jG a) (Ac0 a):=⟨λh=>jG.partial_correctness Ac0 (by
 rintro P_ IH ⟨l,x⟩ res h
 have IH:=Ok.mk' IH
 have iE:eR Tryz.f73 0 _ vS:=⟨trivial⟩
 refine lg I ?_
 exact Wk) _ _ h⟩
instance {l:(List Arr)}:Ok (pG l) λr=>aval X 73 [.d (.list 2 (List.map aX l))] [] (vS r):=⟨λh=>by
 unfold pG at h
 exact aB vS I Tryz.func73 I I I I I I λiE=>Wk⟩
abbrev AdR (r:(List (List aA))):aF:=(aF.ret (.d (.list 1 (List.map (jS 3 aD) r))) [])
abbrev AeW (a:Arr×Int×Int×(List (List aA))×Int) (res:(List (List aA))):Prop:=match a with|(a_,k,y2,l,x)=>cH X 149 (aO [1,1,1,1,0,1,0,0] (aQ Tryz.f149)) (aH (X.H 149 6) 10) (aK 0 (X.H 149 1000000) 10 (iP (λ(l3:(List (List aA)))=>(⟨[(3,.c (.own 1 (List.map (jS 3 aD) l3)))],[(0,[.d (lI a_.shape),.d (lC a_.cells)])],10,[],none⟩:St)) res)) ⟨[(1,.c (.ptr 0 0)),(3,.c (.own 1 (List.map (jS 3 aD) l))),(4,.d (iZ k)),(22,.d (iZ y2)),(23,.d (iZ x))],[(0,[.d (lI a_.shape),.d (lC a_.cells)])],10,[],none⟩
instance {a:Arr×Int×Int×(List (List aA))×Int}:Ok (lK a) (AeW a):=⟨λh=>lK.partial_correctness AeW (by
 rintro P_ IH ⟨a_,k,y2,l,x⟩ res h
 have IH:=Ok.mk' IH
 have iE:eR Tryz.f149 0 _ AdR:=⟨trivial⟩
 refine lg I ?_
 exact Wk) _ _ h⟩
instance {a_:Arr}:Ok (sS a_) λr=>aval X 149 [.d (aI a_)] [] (AdR r):=⟨λh=>by
 unfold sS at h
 exact aB AdR I Tryz.func149 I I I I I I λiE=>Wk⟩
abbrev zP (r:Bool):aF:=(aF.ret (.d (.bool r)) [])
abbrev AeX (a:(List aA)×Int) (res:Except (Bool) (Unit)):Prop:=match a with|(l,x)=>cH X 148 (aO [1,0,1,0,0] (aQ Tryz.f148)) (aH (X.H 148 2) 0) (aK 0 (X.H 148 1000000) 0 (kS X Tryz.f148 0 zP (λ(_:Unit)=>(⟨[],[],0,[],none⟩:St)) res)) ⟨[(0,.d (lC l)),(5,.d (lC l)),(6,.d (iZ (List.length l:Int))),(7,.d (iZ x))],[],0,[],none⟩
instance {a:(List aA)×Int}:Ok (lL a) (AeX a):=⟨λh=>lL.partial_correctness AeX (by
 rintro P_ IH ⟨l,x⟩ res h
 have IH:=Ok.mk' IH
 have iE:eR Tryz.f148 0 _ zP:=⟨trivial⟩
 refine lg I ?_
 exact Wk) _ _ h⟩
instance {l:(List aA)}:Ok (wP l) λr=>aval X 148 [.d (lC l)] [] (zP r):=⟨λh=>by
 unfold wP at h
 exact aB zP I Tryz.func148 I I I I I I λiE=>Wk⟩
abbrev AeD (r:Int):aF:=(aF.ret (.d (iZ r)) [])
instance {a_:Int} {b:Int}:Ok (p_arr_order_int a_ b) λr=>aval X 212 [.d (iZ a_),.d (iZ b)] [] (AeD r):=⟨λh=>by
 unfold p_arr_order_int at h
 exact aB AeD I Tryz.func212 I I I I I I λiE=>Wk⟩
abbrev AmA (a_:Arr) (a_1:Arr) (r:Int):aF:=(aF.ret (.d (iZ r)) [[.d (lI a_.shape),.d (lC a_.cells)],[.d (lI a_1.shape),.d (lC a_1.cells)]])
instance {i:Int} {a_:Arr} {a_1:Arr}:Ok (Ac1 i a_ a_1) λr=>aval X 232 [.d (iZ i),.ptr 0 0,.ptr 1 0] [[.d (lI a_.shape),.d (lC a_.cells)],[.d (lI a_1.shape),.d (lC a_1.cells)]] ((AmA a_ a_1) r):=⟨λh=>by
 unfold Ac1 at h
 exact aB (AmA a_ a_1) I Tryz.func232 I I I I I I λiE=>Wk⟩
abbrev lW (b:Arr) (b1:Arr) (r:Int):aF:=(aF.ret (.d (iZ r)) [[.d (lI b.shape),.d (lC b.cells)],[.d (lI b1.shape),.d (lC b1.cells)]])
abbrev sY (a:Int×Arr×Arr×Int) (res:Except (Int) (Unit)):Prop:=match a with|(n,b,b1,x)=>cH X 231 (aO [1,0,1,0,0] (aQ Tryz.f231)) (aH (X.H 231 2) 2) (aK 0 (X.H 231 1000000) 2 (kS X Tryz.f231 2 (lW b b1) (λ(_:Unit)=>(⟨[],[(0,[.d (lI b.shape),.d (lC b.cells)]),(1,[.d (lI b1.shape),.d (lC b1.cells)])],2,[],none⟩:St)) res)) ⟨[(1,.c (.fn 232 [0,1])),(7,.d (iZ n)),(8,.d (iZ x))],[(0,[.d (lI b.shape),.d (lC b.cells)]),(1,[.d (lI b1.shape),.d (lC b1.cells)])],2,[],none⟩
instance {a:Int×Arr×Arr×Int}:Ok (dK a) (sY a):=⟨λh=>dK.partial_correctness sY (by
 rintro P_ IH ⟨n,b,b1,x⟩ res h
 have IH:=Ok.mk' IH
 have iE:eR Tryz.f231 2 _ (lW b b1):=⟨trivial⟩
 refine lg I ?_
 exact Wk) _ _ h⟩
instance {n:Int} {b:Arr} {b1:Arr}:Ok (p_arr_Cmp_1__arr_Cmp_2 n b b1) λr=>aval X 231 [.d (iZ n),.fn 232 [0,1]] [[.d (lI b.shape),.d (lC b.cells)],[.d (lI b1.shape),.d (lC b1.cells)]] ((lW b b1) r):=⟨λh=>by
 unfold p_arr_Cmp_1__arr_Cmp_2 at h
 exact aB (lW b b1) I Tryz.func231 I I I I I I λiE=>Wk⟩
abbrev AbE (r:Int):aF:=(aF.ret (.d (iZ r)) [])
instance {a_:Int} {b:Int}:Ok (oD a_ b) λr=>aval X 213 [.d (iZ a_),.d (iZ b)] [] (AbE r):=⟨λh=>by
 unfold oD at h
 exact aB AbE I Tryz.func213 I I I I I I λiE=>Wk⟩
abbrev AoC (r:Int):aF:=(aF.ret (.d (iZ r)) [])
abbrev Ar8 (r:Int):aF:=(aF.ret (.d (iZ r)) [])
abbrev lX (b:Arr) (b1:Arr) (r:Int):aF:=(aF.ret (.d (iZ r)) [[.d (lI b.shape),.d (lC b.cells)],[.d (lI b1.shape),.d (lC b1.cells)]])
abbrev AmB (a_:Arr) (a_1:Arr) (r:Int):aF:=(aF.ret (.d (iZ r)) [[.d (lI a_.shape),.d (lC a_.cells)],[.d (lI a_1.shape),.d (lC a_1.cells)]])
abbrev AiV (a:aA×aA) (res:Int):Prop:=match a with|(a_,b)=>aval X 153 [.d (aD a_),.d (aD b)] [] (AoC res)
abbrev AlI (a:Arr×Arr) (res:Int):Prop:=match a with|(a_,b)=>aval X 214 [.d (aI a_),.d (aI b)] [] (Ar8 res)
abbrev nR (a:Int×Arr×Arr×Int) (res:Except (Int) (Unit)):Prop:=match a with|(n,b,b1,x)=>cH X 231 (aO [1,0,1,0,0] (aQ Tryz.f231)) (aH (X.H 231 2) 2) (aK 0 (X.H 231 1000000) 2 (kS X Tryz.f231 2 (lX b b1) (λ(_:Unit)=>(⟨[],[(0,[.d (lI b.shape),.d (lC b.cells)]),(1,[.d (lI b1.shape),.d (lC b1.cells)])],2,[],none⟩:St)) res)) ⟨[(1,.c (.fn 233 [0,1])),(7,.d (iZ n)),(8,.d (iZ x))],[(0,[.d (lI b.shape),.d (lC b.cells)]),(1,[.d (lI b1.shape),.d (lC b1.cells)])],2,[],none⟩
abbrev pT (a:Int×Arr×Arr) (res:Int):Prop:=match a with|(n,b,b1)=>aval X 231 [.d (iZ n),.fn 233 [0,1]] [[.d (lI b.shape),.d (lC b.cells)],[.d (lI b1.shape),.d (lC b1.cells)]] ((lX b b1) res)
abbrev AfX (a:Int×Arr×Arr) (res:Int):Prop:=match a with|(i,a_,a_1)=>aval X 233 [.d (iZ i),.ptr 0 0,.ptr 1 0] [[.d (lI a_.shape),.d (lC a_.cells)],[.d (lI a_1.shape),.d (lC a_1.cells)]] ((AmB a_ a_1) res)
theorem rR:(∀a res,mS a=some res->AiV a res)/\(∀a res,xM a=some res->AlI a res)/\(∀a res,p_arr_Cmp_1__arr_Cmp_3 a=some res->pT a res)/\(∀a res,dL a=some res->nR a res)/\(∀a res,Ac2 a=some res->AfX a res):=by
 refine mS.mutual_partial_correctness (motive_1:=AiV) (motive_2:=AlI) (motive_3:=pT) (motive_4:=nR) (motive_5:=AfX) ?_ ?_ ?_ ?_ ?_
 ·rintro P0 I0 ⟨a_,b⟩ res h
  have I0:=Ok.mk' I0
  exact aB AoC I Tryz.func153 I I I I I I λiE=>Wk
 ·rintro P0 I0 ⟨a_,b⟩ res h
  have I0:=Ok.mk' I0
  exact aB Ar8 I Tryz.func214 I I I I I I λiE=>Wk
 ·rintro P0 I0 ⟨n,b,b1⟩ res h
  have I0:=Ok.mk' I0
  exact aB (lX b b1) I Tryz.func231 I I I I I I λiE=>Wk
 ·rintro P0 P1 I0 I1 ⟨n,b,b1,x⟩ res h
  have I0:=Ok.mk' I0
  have I1:=Ok.mk' I1
  refine lg I ?_
  have iE:eR Tryz.f231 2 _ (lX b b1):=⟨trivial⟩
  exact Wk
 rintro P0 I0 ⟨i,a_,a_1⟩ res h
 have I0:=Ok.mk' I0
 exact aB (AmB a_ a_1) I Tryz.func233 I I I I I I λiE=>Wk
instance {a:aA×aA}:Ok (mS a) (AiV a):=⟨λh=>rR.1 a _ h⟩
instance {a:Arr×Arr}:Ok (xM a) (AlI a):=⟨λh=>rR.2.1 a _ h⟩
instance {a:Int×Arr×Arr}:Ok (p_arr_Cmp_1__arr_Cmp_3 a) (pT a):=⟨λh=>rR.2.2.1 a _ h⟩
instance {a:Int×Arr×Arr×Int}:Ok (dL a) (nR a):=⟨λh=>rR.2.2.2.1 a _ h⟩
instance {a:Int×Arr×Arr}:Ok (Ac2 a) (AfX a):=⟨λh=>rR.2.2.2.2 a _ h⟩
abbrev eM (r:Int):aF:=(aF.ret (.d (iZ r)) [])
abbrev kJ (a:(List aA)×(List aA)×Int) (res:Except (Int) (Unit)):Prop:=match a with|(s1,s2,x)=>cH X 152 (aO [1,0,1,0,0] (aQ Tryz.f152)) (aH (X.H 152 2) 0) (aK 0 (X.H 152 1000000) 0 (kS X Tryz.f152 0 eM (λ(_:Unit)=>(⟨[(0,.d (lC s1)),(1,.d (lC s2))],[],0,[],none⟩:St)) res)) ⟨[(0,.d (lC s1)),(1,.d (lC s2)),(2,.c (.fn 153 [])),(11,.d (lC s1)),(12,.d (iZ (List.length s1:Int))),(13,.d (iZ x))],[],0,[],none⟩
instance {a:(List aA)×(List aA)×Int}:Ok (bV a) (kJ a):=⟨λh=>bV.partial_correctness kJ (by
 rintro P_ IH ⟨s1,s2,x⟩ res h
 have IH:=Ok.mk' IH
 have iE:eR Tryz.f152 0 _ eM:=⟨trivial⟩
 refine lg I ?_
 exact Wk) _ _ h⟩
instance {s1:(List aA)} {s2:(List aA)}:Ok (cG s1 s2) λr=>aval X 152 [.d (lC s1),.d (lC s2),.fn 153 []] [] (eM r):=⟨λh=>by
 unfold cG at h
 exact aB eM I Tryz.func152 I I I I I I λiE=>Wk⟩
abbrev AfJ (a_:(List (List aA))) (a_1:Bool) (r:Int):aF:=(aF.ret (.d (iZ r)) [[.d (.list 1 (List.map (jS 3 aD) a_))],[.d (.bool a_1)]])
instance {i:Int} {k:Int} {a_:(List (List aA))} {a_1:Bool}:Ok (kO i k a_ a_1) λr=>aval X 151 [.d (iZ i),.d (iZ k),.ptr 0 0,.ptr 1 0] [[.d (.list 1 (List.map (jS 3 aD) a_))],[.d (.bool a_1)]] ((AfJ a_ a_1) r):=⟨λh=>by
 unfold kO at h
 exact aB (AfJ a_ a_1) I Tryz.func151 I I I I I I λiE=>Wk⟩
abbrev cL (b1:(List (List aA))) (b2:Bool) (r:LI):aF:=(aF.ret (.tuple []) [[.seq 1 (List.map (D.int .i64) r)],[.d (.list 1 (List.map (jS 3 aD) b1))],[.d (.bool b2)]])
abbrev fN (a:Nat×Int×Int×((List (List aA)))×Bool×Int×Int×LI) (res:LI):Prop:=match a with|(n,a_,b,b1,b2,i,j,data2)=>cH X 229 (aO [1,0,0,1,0,0,1,0,0] (aQ Tryz.f229)) (aH (X.H 229 4) 3) (aK 2 (X.H 229 1000002) 3 (iP (λ(data5:LI)=>(⟨[(0,.c (.arr 0 n 1)),(1,.d (iZ a_)),(2,.d (iZ b)),(3,.c (.fn 151 [1,2])),(8,.d (iZ i))],[(0,[.seq 1 (List.map (D.int .i64) data5)]),(1,[.d (.list 1 (List.map (jS 3 aD) b1))]),(2,[.d (.bool b2)])],3,[],none⟩:St)) res)) ⟨[(0,.c (.arr 0 n 1)),(1,.d (iZ a_)),(2,.d (iZ b)),(3,.c (.fn 151 [1,2])),(8,.d (iZ i)),(9,.d (iZ j))],[(0,[.seq 1 (List.map (D.int .i64) data2)]),(1,[.d (.list 1 (List.map (jS 3 aD) b1))]),(2,[.d (.bool b2)])],3,[],none⟩
instance {a:Nat×Int×Int×((List (List aA)))×Bool×Int×Int×LI}:Ok (aW a) (fN a):=⟨λh=>aW.partial_correctness fN (by
 rintro P_ IH ⟨n,a_,b,b1,b2,i,j,data2⟩ res h
 have IH:=Ok.mk' IH
 have iE:eR Tryz.f229 3 _ (cL b1 b2):=⟨trivial⟩
 refine lg I ?_
 exact Wk) _ _ h⟩
abbrev fM (a:Nat×Int×Int×((List (List aA)))×Bool×Int×LI) (res:LI):Prop:=match a with|(n,a_,b,b1,b2,i,data1)=>cH X 229 (aO [1,0,0] (aQ Tryz.f229)) (aH (X.H 229 1) 3) (aK 0 (X.H 229 1000000) 3 (iP (λ(c0:LI)=>(⟨[],[(0,[.seq 1 (List.map (D.int .i64) c0)]),(1,[.d (.list 1 (List.map (jS 3 aD) b1))]),(2,[.d (.bool b2)])],3,[],none⟩:St)) res)) ⟨[(0,.c (.arr 0 n 1)),(1,.d (iZ a_)),(2,.d (iZ b)),(3,.c (.fn 151 [1,2])),(8,.d (iZ i))],[(0,[.seq 1 (List.map (D.int .i64) data1)]),(1,[.d (.list 1 (List.map (jS 3 aD) b1))]),(2,[.d (.bool b2)])],3,[],none⟩
instance {a:Nat×Int×Int×((List (List aA)))×Bool×Int×LI}:Ok (aV a) (fM a):=⟨λh=>aV.partial_correctness fM (by
 rintro P_ IH ⟨n,a_,b,b1,b2,i,data1⟩ res h
 have IH:=Ok.mk' IH
 have iE:eR Tryz.f229 3 _ (cL b1 b2):=⟨trivial⟩
 refine lg I ?_
 exact Wk) _ _ h⟩
instance {n:Nat} {a_:Int} {b:Int} {data:LI} {b1:(List (List aA))} {b2:Bool}:Ok (bO n a_ b data b1 b2) λr=>aval X 229 [.arr 0 n 1,.d (iZ a_),.d (iZ b),.fn 151 [1,2]] [[.seq 1 (List.map (D.int .i64) data)],[.d (.list 1 (List.map (jS 3 aD) b1))],[.d (.bool b2)]] ((cL b1 b2) r):=⟨λh=>by
 unfold bO at h
 exact aB (cL b1 b2) I Tryz.func229 I I I I I I λiE=>Wk⟩
abbrev eO (b1:(List (List aA))) (b2:Bool) (r:LI):aF:=(aF.ret (.tuple []) [[.seq 1 (List.map (D.int .i64) r)],[.d (.list 1 (List.map (jS 3 aD) b1))],[.d (.bool b2)]])
abbrev gP (a:Nat×Int×Int×Int×((List (List aA)))×Bool×Int×LI) (res:LI):Prop:=match a with|(n,a_,b,n1,b1,b2,i,data1)=>cH X 244 (aO [1,0,0] (aQ Tryz.f244)) (aH (X.H 244 1) 3) (aK 0 (X.H 244 1000000) 3 (iP (λ(c0:LI)=>(⟨[],[(0,[.seq 1 (List.map (D.int .i64) c0)]),(1,[.d (.list 1 (List.map (jS 3 aD) b1))]),(2,[.d (.bool b2)])],3,[],none⟩:St)) res)) ⟨[(0,.c (.arr 0 n 1)),(1,.d (iZ a_)),(2,.d (iZ b)),(3,.d (iZ n1)),(10,.d (iZ i))],[(0,[.seq 1 (List.map (D.int .i64) data1)]),(1,[.d (.list 1 (List.map (jS 3 aD) b1))]),(2,[.d (.bool b2)])],3,[],none⟩
instance {a:Nat×Int×Int×Int×((List (List aA)))×Bool×Int×LI}:Ok (bB a) (gP a):=⟨λh=>bB.partial_correctness gP (by
 rintro P_ IH ⟨n,a_,b,n1,b1,b2,i,data1⟩ res h
 have IH:=Ok.mk' IH
 have iE:eR Tryz.f244 3 _ (eO b1 b2):=⟨trivial⟩
 refine lg I ?_
 exact Wk) _ _ h⟩
instance {n:Nat} {a_:Int} {b:Int} {n1:Int} {data:LI} {b1:(List (List aA))} {b2:Bool}:Ok (bK n a_ b n1 data b1 b2) λr=>aval X 244 [.arr 0 n 1,.d (iZ a_),.d (iZ b),.d (iZ n1),.fn 151 [1,2]] [[.seq 1 (List.map (D.int .i64) data)],[.d (.list 1 (List.map (jS 3 aD) b1))],[.d (.bool b2)]] ((eO b1 b2) r):=⟨λh=>by
 unfold bK at h
 exact aB (eO b1 b2) I Tryz.func244 I I I I I I λiE=>Wk⟩
abbrev fC (b1:(List (List aA))) (b2:Bool) (r:LI):aF:=(aF.ret (.tuple []) [[.seq 1 (List.map (D.int .i64) r)],[.d (.list 1 (List.map (jS 3 aD) b1))],[.d (.bool b2)]])
abbrev iQ (a:Nat×Int×((List (List aA)))×Bool×Int×LI×Int) (res:Int×LI):Prop:=match a with|(n,m,b1,b2,i,data1,j)=>cH X 242 (aO [1,1,0,0,0] (aQ Tryz.f242)) (aH (X.H 242 2) 3) (aK 0 (X.H 242 1000000) 3 (iP (λ((i1,data2):Int×LI)=>(⟨[(0,.c (.arr 0 n 1)),(2,.d (iZ m)),(4,.c (.fn 151 [1,2])),(10,.d (iZ i1))],[(0,[.seq 1 (List.map (D.int .i64) data2)]),(1,[.d (.list 1 (List.map (jS 3 aD) b1))]),(2,[.d (.bool b2)])],3,[],none⟩:St)) res)) ⟨[(0,.c (.arr 0 n 1)),(2,.d (iZ m)),(4,.c (.fn 151 [1,2])),(10,.d (iZ i)),(11,.d (iZ j))],[(0,[.seq 1 (List.map (D.int .i64) data1)]),(1,[.d (.list 1 (List.map (jS 3 aD) b1))]),(2,[.d (.bool b2)])],3,[],none⟩
instance {a:Nat×Int×((List (List aA)))×Bool×Int×LI×Int}:Ok (bF a) (iQ a):=⟨λh=>bF.partial_correctness iQ (by
 rintro P_ IH ⟨n,m,b1,b2,i,data1,j⟩ res h
 have IH:=Ok.mk' IH
 have iE:eR Tryz.f242 3 _ (fC b1 b2):=⟨trivial⟩
 refine lg I ?_
 exact Wk) _ _ h⟩
instance {n:Nat} {a_:Int} {m:Int} {b:Int} {data:LI} {b1:(List (List aA))} {b2:Bool}:Ok (cK n a_ m b data b1 b2) λr=>aval X 242 [.arr 0 n 1,.d (iZ a_),.d (iZ m),.d (iZ b),.fn 151 [1,2]] [[.seq 1 (List.map (D.int .i64) data)],[.d (.list 1 (List.map (jS 3 aD) b1))],[.d (.bool b2)]] ((fC b1 b2) r):=⟨λh=>by
 unfold cK at h
 exact aB (fC b1 b2) I Tryz.func242 I I I I I I λiE=>Wk⟩
abbrev bL (b1:(List (List aA))) (b2:Bool) (r:LI):aF:=(aF.ret (.tuple []) [[.seq 1 (List.map (D.int .i64) r)],[.d (.list 1 (List.map (jS 3 aD) b1))],[.d (.bool b2)]])
instance AcZ:Jn 230 1 140 (Int×Int):=⟨λy=>[(20,.d (iZ y.1)),(21,.d (iZ y.2))],λy=>[]⟩
instance Ad0:Jn 230 1 185 LI:=⟨λy=>[],λy=>[(0,[(0,.seq 1 (List.map (D.int .i64) y))])]⟩
instance Ad1:Jn 230 1 199 LI:=⟨λy=>[],λy=>[(0,[(0,.seq 1 (List.map (D.int .i64) y))])]⟩
abbrev eE (a:Nat×Int×LI×((List (List aA)))×Bool×Int×Int) (res:Int):Prop:=match a with|(n,a_,data,b1,b2,i,j)=>cH X 230 (aO [0,1,0,1,1,0,0,0] (aQ Tryz.f230)) (aH (X.H 230 3) 3) (aK 0 (X.H 230 1000000) 3 (iP (λ(i1:Int)=>(⟨[(0,.c (.arr 0 n 1)),(1,.d (iZ a_)),(10,.d (iZ i1))],[(0,[.seq 1 (List.map (D.int .i64) data)]),(1,[.d (.list 1 (List.map (jS 3 aD) b1))]),(2,[.d (.bool b2)])],3,[],none⟩:St)) res)) ⟨[(0,.c (.arr 0 n 1)),(1,.d (iZ a_)),(4,.c (.fn 151 [1,2])),(10,.d (iZ i)),(11,.d (iZ j))],[(0,[.seq 1 (List.map (D.int .i64) data)]),(1,[.d (.list 1 (List.map (jS 3 aD) b1))]),(2,[.d (.bool b2)])],3,[],none⟩
theorem nI:∀a res,aL a=some res->eE a res:=by
 refine aL.partial_correctness eE ?_
 rintro P_ IH ⟨n,a_,data,b1,b2,i,j⟩ res h
 have IH:=Ok.mk' IH
 refine lg I ?_
 have iE:eR Tryz.f230 3 _ (bL b1 b2):=⟨trivial⟩
 exact Wk
instance {a:Nat×Int×LI×((List (List aA)))×Bool×Int×Int}:Ok (aL a) (eE a):=⟨λh=>nI a _ h⟩
abbrev eF (a:Nat×((List (List aA)))×Bool×Int×Int×LI) (res:LI):Prop:=match a with|(n,b1,b2,i1,k,data1)=>cH X 230 (aO [0,1,0,1,1,1,0,1,0,0] (aQ Tryz.f230)) (aH (X.H 230 9) 3) (aK 2 (X.H 230 1000002) 3 (iP (λ(c0:LI)=>(⟨[],[(0,[.seq 1 (List.map (D.int .i64) c0)]),(1,[.d (.list 1 (List.map (jS 3 aD) b1))]),(2,[.d (.bool b2)])],3,[],none⟩:St)) res)) ⟨[(0,.c (.arr 0 n 1)),(10,.d (iZ i1)),(13,.d (iZ k))],[(0,[.seq 1 (List.map (D.int .i64) data1)]),(1,[.d (.list 1 (List.map (jS 3 aD) b1))]),(2,[.d (.bool b2)])],3,[],none⟩
theorem nJ:∀a res,aS a=some res->eF a res:=by
 refine aS.partial_correctness eF ?_
 rintro P_ IH ⟨n,b1,b2,i1,k,data1⟩ res h
 have IH:=Ok.mk' IH
 refine lg I ?_
 have iE:eR Tryz.f230 3 _ (bL b1 b2):=⟨trivial⟩
 exact Wk
instance {a:Nat×((List (List aA)))×Bool×Int×Int×LI}:Ok (aS a) (eF a):=⟨λh=>nJ a _ h⟩
abbrev eG (a:Nat×Int×LI×((List (List aA)))×Bool×Int×Int) (res:Int):Prop:=match a with|(n,m,data,b1,b2,i2,j7)=>cH X 230 (aO [1,0,1,0,1,1,0,0,0] (aQ Tryz.f230)) (aH (X.H 230 15) 3) (aK 4 (X.H 230 1000004) 3 (iP (λ(i3:Int)=>(⟨[(0,.c (.arr 0 n 1)),(2,.d (iZ m)),(14,.d (iZ i3))],[(0,[.seq 1 (List.map (D.int .i64) data)]),(1,[.d (.list 1 (List.map (jS 3 aD) b1))]),(2,[.d (.bool b2)])],3,[],none⟩:St)) res)) ⟨[(0,.c (.arr 0 n 1)),(2,.d (iZ m)),(4,.c (.fn 151 [1,2])),(14,.d (iZ i2)),(15,.d (iZ j7))],[(0,[.seq 1 (List.map (D.int .i64) data)]),(1,[.d (.list 1 (List.map (jS 3 aD) b1))]),(2,[.d (.bool b2)])],3,[],none⟩
theorem nK:∀a res,aM a=some res->eG a res:=by
 refine aM.partial_correctness eG ?_
 rintro P_ IH ⟨n,m,data,b1,b2,i2,j7⟩ res h
 have IH:=Ok.mk' IH
 refine lg I ?_
 have iE:eR Tryz.f230 3 _ (bL b1 b2):=⟨trivial⟩
 exact Wk
instance {a:Nat×Int×LI×((List (List aA)))×Bool×Int×Int}:Ok (aM a) (eG a):=⟨λh=>nK a _ h⟩
abbrev eH (a:Nat×((List (List aA)))×Bool×Int×Int×LI) (res:LI):Prop:=match a with|(n,b1,b2,i3,k1,data4)=>cH X 230 (aO [1,0,1,0,1,1,1,0,1,0,0] (aQ Tryz.f230)) (aH (X.H 230 21) 3) (aK 6 (X.H 230 1000006) 3 (iP (λ(c01:LI)=>(⟨[],[(0,[.seq 1 (List.map (D.int .i64) c01)]),(1,[.d (.list 1 (List.map (jS 3 aD) b1))]),(2,[.d (.bool b2)])],3,[],none⟩:St)) res)) ⟨[(0,.c (.arr 0 n 1)),(14,.d (iZ i3)),(17,.d (iZ k1))],[(0,[.seq 1 (List.map (D.int .i64) data4)]),(1,[.d (.list 1 (List.map (jS 3 aD) b1))]),(2,[.d (.bool b2)])],3,[],none⟩
theorem nM:∀a res,aT a=some res->eH a res:=by
 refine aT.partial_correctness eH ?_
 rintro P_ IH ⟨n,b1,b2,i3,k1,data4⟩ res h
 have IH:=Ok.mk' IH
 refine lg I ?_
 have iE:eR Tryz.f230 3 _ (bL b1 b2):=⟨trivial⟩
 exact Wk
instance {a:Nat×((List (List aA)))×Bool×Int×Int×LI}:Ok (aT a) (eH a):=⟨λh=>nM a _ h⟩
abbrev eI (a:Nat×Int×Int×Int×LI×((List (List aA)))×Bool×Int×Int) (res:Int):Prop:=match a with|(n,a_,m,b,data,b1,b2,start1,r_1)=>cH X 230 (aO [1,1,1,1,1,1,1,0,0,0] (aQ Tryz.f230)) (aH (X.H 230 33) 3) (aK 8 (X.H 230 1000008) 3 (iP (λ(start2:Int)=>(⟨[(0,.c (.arr 0 n 1)),(1,.d (iZ a_)),(2,.d (iZ m)),(3,.d (iZ b)),(4,.c (.fn 151 [1,2])),(18,.d (iZ (w64 (Int.fdiv (IntKind.u64.wrap (w64 (a_+b))) (2 ^ 1))))),(19,.d (iZ (w64 ((w64 (Int.fdiv (IntKind.u64.wrap (w64 (a_+b))) (2 ^ 1)))+m)))),(20,.d (iZ start2))],[(0,[.seq 1 (List.map (D.int .i64) data)]),(1,[.d (.list 1 (List.map (jS 3 aD) b1))]),(2,[.d (.bool b2)])],3,[],none⟩:St)) res)) ⟨[(0,.c (.arr 0 n 1)),(1,.d (iZ a_)),(2,.d (iZ m)),(3,.d (iZ b)),(4,.c (.fn 151 [1,2])),(18,.d (iZ (w64 (Int.fdiv (IntKind.u64.wrap (w64 (a_+b))) (2 ^ 1))))),(19,.d (iZ (w64 ((w64 (Int.fdiv (IntKind.u64.wrap (w64 (a_+b))) (2 ^ 1)))+m)))),(20,.d (iZ start1)),(21,.d (iZ r_1)),(22,.d (iZ (w64 ((w64 ((w64 (Int.fdiv (IntKind.u64.wrap (w64 (a_+b))) (2 ^ 1)))+m))-1))))],[(0,[.seq 1 (List.map (D.int .i64) data)]),(1,[.d (.list 1 (List.map (jS 3 aD) b1))]),(2,[.d (.bool b2)])],3,[],none⟩
theorem nN:∀a res,aN a=some res->eI a res:=by
 refine aN.partial_correctness eI ?_
 rintro P_ IH ⟨n,a_,m,b,data,b1,b2,start1,r_1⟩ res h
 have IH:=Ok.mk' IH
 refine lg I ?_
 have iE:eR Tryz.f230 3 _ (bL b1 b2):=⟨trivial⟩
 exact Wk
instance {a:Nat×Int×Int×Int×LI×((List (List aA)))×Bool×Int×Int}:Ok (aN a) (eI a):=⟨λh=>nN a _ h⟩
abbrev eS (a:Nat×Int×Int×Int×LI×(List (List aA))×Bool) (res:LI):Prop:=match a with|(n,a_,m,b,data,b1,b2)=>aval X 230 [.arr 0 n 1,.d (iZ a_),.d (iZ m),.d (iZ b),.fn 151 [1,2]] [[.seq 1 (List.map (D.int .i64) data)],[.d (.list 1 (List.map (jS 3 aD) b1))],[.d (.bool b2)]] ((bL b1 b2) res)
theorem oM:∀a res,aC a=some res->eS a res:=by
 refine aC.partial_correctness eS ?_
 rintro P_ IH ⟨n,a_,m,b,data,b1,b2⟩ res h
 have IH:=Ok.mk' IH
 exact aB (bL b1 b2) I Tryz.func230 I I I I I I λiE=>Wk
instance {a:Nat×Int×Int×Int×LI×(List (List aA))×Bool}:Ok (aC a) (eS a):=⟨λh=>oM a _ h⟩
abbrev cI (b:(List (List aA))) (b1:Bool) (r:LI):aF:=(aF.ret (.tuple []) [[.seq 1 (List.map (D.int .i64) r)],[.d (.list 1 (List.map (jS 3 aD) b))],[.d (.bool b1)]])
instance AdY:Jn 211 1 54 LI:=⟨λy=>[],λy=>[(0,[(0,.seq 1 (List.map (D.int .i64) y))])]⟩
abbrev iR (a:Nat×Int×((List (List aA)))×Bool×Int×Int×LI) (res:Int×LI):Prop:=match a with|(n,n1,b,b1,a_,b2,data1)=>cH X 211 (aO [1,1,0,0,0] (aQ Tryz.f211)) (aH (X.H 211 2) 3) (aK 0 (X.H 211 1000000) 3 (iP (λ((a_1,data2):Int×LI)=>(⟨[(0,.c (.arr 0 n 1)),(1,.d (iZ n1)),(2,.c (.fn 151 [1,2])),(6,.d (iZ 20)),(7,.d (iZ a_1))],[(0,[.seq 1 (List.map (D.int .i64) data2)]),(1,[.d (.list 1 (List.map (jS 3 aD) b))]),(2,[.d (.bool b1)])],3,[],none⟩:St)) res)) ⟨[(0,.c (.arr 0 n 1)),(1,.d (iZ n1)),(2,.c (.fn 151 [1,2])),(6,.d (iZ 20)),(7,.d (iZ a_)),(8,.d (iZ b2))],[(0,[.seq 1 (List.map (D.int .i64) data1)]),(1,[.d (.list 1 (List.map (jS 3 aD) b))]),(2,[.d (.bool b1)])],3,[],none⟩
instance {a:Nat×Int×((List (List aA)))×Bool×Int×Int×LI}:Ok (bG a) (iR a):=⟨λh=>bG.partial_correctness iR (by
 rintro P_ IH ⟨n,n1,b,b1,a_,b2,data1⟩ res h
 have IH:=Ok.mk' IH
 have iE:eR Tryz.f211 3 _ (cI b b1):=⟨trivial⟩
 refine lg I ?_
 exact Wk) _ _ h⟩
abbrev iT (a:Nat×Int×((List (List aA)))×Bool×Int×Int×Int×LI) (res:Int×LI):Prop:=match a with|(n,n1,b,b1,blockSize,a_2,b3,data4)=>cH X 211 (aO [1,1,1,1,0,0,1,0,1,0,0,0] (aQ Tryz.f211)) (aH (X.H 211 9) 3) (aK 4 (X.H 211 1000004) 3 (iP (λ((a_3,data5):Int×LI)=>(⟨[(0,.c (.arr 0 n 1)),(1,.d (iZ n1)),(2,.c (.fn 151 [1,2])),(6,.d (iZ blockSize)),(7,.d (iZ a_3))],[(0,[.seq 1 (List.map (D.int .i64) data5)]),(1,[.d (.list 1 (List.map (jS 3 aD) b))]),(2,[.d (.bool b1)])],3,[],none⟩:St)) res)) ⟨[(0,.c (.arr 0 n 1)),(1,.d (iZ n1)),(2,.c (.fn 151 [1,2])),(6,.d (iZ blockSize)),(7,.d (iZ a_2)),(8,.d (iZ b3))],[(0,[.seq 1 (List.map (D.int .i64) data4)]),(1,[.d (.list 1 (List.map (jS 3 aD) b))]),(2,[.d (.bool b1)])],3,[],none⟩
instance {a:Nat×Int×((List (List aA)))×Bool×Int×Int×Int×LI}:Ok (bI a) (iT a):=⟨λh=>bI.partial_correctness iT (by
 rintro P_ IH ⟨n,n1,b,b1,blockSize,a_2,b3,data4⟩ res h
 have IH:=Ok.mk' IH
 have iE:eR Tryz.f211 3 _ (cI b b1):=⟨trivial⟩
 refine lg I ?_
 exact Wk) _ _ h⟩
abbrev iS (a:Nat×Int×((List (List aA)))×Bool×Int×LI) (res:LI):Prop:=match a with|(n,n1,b,b1,blockSize,data3)=>cH X 211 (aO [1,1,1,1,0,0] (aQ Tryz.f211)) (aH (X.H 211 7) 3) (aK 2 (X.H 211 1000002) 3 (iP (λ(c0:LI)=>(⟨[],[(0,[.seq 1 (List.map (D.int .i64) c0)]),(1,[.d (.list 1 (List.map (jS 3 aD) b))]),(2,[.d (.bool b1)])],3,[],none⟩:St)) res)) ⟨[(0,.c (.arr 0 n 1)),(1,.d (iZ n1)),(2,.c (.fn 151 [1,2])),(6,.d (iZ blockSize))],[(0,[.seq 1 (List.map (D.int .i64) data3)]),(1,[.d (.list 1 (List.map (jS 3 aD) b))]),(2,[.d (.bool b1)])],3,[],none⟩
instance {a:Nat×Int×((List (List aA)))×Bool×Int×LI}:Ok (bH a) (iS a):=⟨λh=>bH.partial_correctness iS (by
 rintro P_ IH ⟨n,n1,b,b1,blockSize,data3⟩ res h
 have IH:=Ok.mk' IH
 have iE:eR Tryz.f211 3 _ (cI b b1):=⟨trivial⟩
 refine lg I ?_
 exact Wk) _ _ h⟩
instance {n:Nat} {n1:Int} {data:LI} {b:(List (List aA))} {b1:Bool}:Ok (p_slices_stableCmpFunc_int__seek_grade_1 n n1 data b b1) λr=>aval X 211 [.arr 0 n 1,.d (iZ n1),.fn 151 [1,2]] [[.seq 1 (List.map (D.int .i64) data)],[.d (.list 1 (List.map (jS 3 aD) b))],[.d (.bool b1)]] ((cI b b1) r):=⟨λh=>by
 unfold p_slices_stableCmpFunc_int__seek_grade_1 at h
 exact aB (cI b b1) I Tryz.func211 I I I I I I λiE=>Wk⟩
abbrev jJ (b:(List (List aA))) (b1:Bool) (r:LI):aF:=(aF.ret (.tuple []) [[.seq 1 (List.map (D.int .i64) r)],[.d (.list 1 (List.map (jS 3 aD) b))],[.d (.bool b1)]])
instance {n:Nat} {a_:LI} {b:(List (List aA))} {b1:Bool}:Ok (p_slices_SortStableFunc_int__seek_grade_1 n a_ b b1) λr=>aval X 150 [.arr 0 n 1,.fn 151 [1,2]] [[.seq 1 (List.map (D.int .i64) a_)],[.d (.list 1 (List.map (jS 3 aD) b))],[.d (.bool b1)]] ((jJ b b1) r):=⟨λh=>by
 unfold p_slices_SortStableFunc_int__seek_grade_1 at h
 exact aB (jJ b b1) I Tryz.func150 I I I I I I λiE=>Wk⟩
abbrev zO (r:Arr×Int):aF:=(aF.ret (.tuple [.d (aI r.1),.d (iZ r.2)]) [])
abbrev AeU (a:Arr×Bool×((List (List aA)))×Int×LI) (res:LI):Prop:=match a with|(a_,down,x1,x2,by_1)=>cH X 74 (aO [1,1,1,1,0,1,0,0] (aQ Tryz.f74)) (aH (X.H 74 8) 5) (aK 1 (X.H 74 1000001) 5 (iP (λ(by_3:LI)=>(⟨[(3,.c (.ptr 1 0)),(4,.c (.ptr 2 0)),(6,.c (.ptr 3 0)),(7,.c (.arr 4 (Int.toNat (List.length x1:Int)) 1))],[(4,[.seq 1 (List.map (D.int .i64) by_3)]),(3,[.d (.list 1 (List.map (jS 3 aD) x1))]),(2,[oI [],oC []]),(1,[.d (.bool down)]),(0,[.d (lI a_.shape),.d (lC a_.cells)])],5,[],none⟩:St)) res)) ⟨[(3,.c (.ptr 1 0)),(4,.c (.ptr 2 0)),(6,.c (.ptr 3 0)),(7,.c (.arr 4 (Int.toNat (List.length x1:Int)) 1)),(30,.d (iZ ((Int.toNat (List.length x1:Int)):Int))),(31,.d (iZ x2))],[(4,[.seq 1 (List.map (D.int .i64) by_1)]),(3,[.d (.list 1 (List.map (jS 3 aD) x1))]),(2,[oI [],oC []]),(1,[.d (.bool down)]),(0,[.d (lI a_.shape),.d (lC a_.cells)])],5,[],none⟩
instance {a:Arr×Bool×((List (List aA)))×Int×LI}:Ok (lH a) (AeU a):=⟨λh=>lH.partial_correctness AeU (by
 rintro P_ IH ⟨a_,down,x1,x2,by_1⟩ res h
 have IH:=Ok.mk' IH
 have iE:eR Tryz.f74 0 _ zO:=⟨trivial⟩
 refine lg I ?_
 exact Wk) _ _ h⟩
abbrev AeV (a:Arr×Bool×((List (List aA)))×LI×Int×(List aA)) (res:(List aA)):Prop:=match a with|(a_,down,x1,x3,x4,out1)=>cH X 74 (aO [1,1,1,1,1,1,1,0,1,0,0] (aQ Tryz.f74)) (aH (X.H 74 15) 6) (aK 3 (X.H 74 1000003) 6 (iP (λ(out11:(List aA))=>(⟨[(4,.c (.ptr 2 0)),(9,.c (.ptr 5 0))],[(5,[oI [((Int.toNat (List.length x1:Int)):Int)],oC out11]),(4,[.seq 1 (List.map (D.int .i64) x3)]),(3,[.d (.list 1 (List.map (jS 3 aD) x1))]),(2,[oI [],oC []]),(1,[.d (.bool down)]),(0,[.d (lI a_.shape),.d (lC a_.cells)])],6,[],none⟩:St)) res)) ⟨[(4,.c (.ptr 2 0)),(9,.c (.ptr 5 0)),(46,.c (.arr 4 (Int.toNat (List.length x1:Int)) 1)),(47,.d (iZ ((Int.toNat (List.length x1:Int)):Int))),(48,.d (iZ x4))],[(5,[oI [((Int.toNat (List.length x1:Int)):Int)],oC out1]),(4,[.seq 1 (List.map (D.int .i64) x3)]),(3,[.d (.list 1 (List.map (jS 3 aD) x1))]),(2,[oI [],oC []]),(1,[.d (.bool down)]),(0,[.d (lI a_.shape),.d (lC a_.cells)])],6,[],none⟩
instance {a:Arr×Bool×((List (List aA)))×LI×Int×(List aA)}:Ok (lJ a) (AeV a):=⟨λh=>lJ.partial_correctness AeV (by
 rintro P_ IH ⟨a_,down,x1,x3,x4,out1⟩ res h
 have IH:=Ok.mk' IH
 have iE:eR Tryz.f74 0 _ zO:=⟨trivial⟩
 refine lg I ?_
 exact Wk) _ _ h⟩
instance {a_:Arr} {down:Bool}:Ok (wN a_ down) λr=>aval X 74 [.d (aI a_),.d (.bool down)] [] (zO r):=⟨λh=>by
 unfold wN at h
 exact aB zO I Tryz.func74 I I I I I I λiE=>Wk⟩
abbrev AeG (a_:(List aA)) (r:Bool):aF:=(aF.ret (.d (.bool r)) [[.d (lC a_)]])
instance {y:(List aA)} {a_:(List aA)}:Ok (uG y a_) λr=>aval X 155 [.d (lC y),.ptr 0 0] [[.d (lC a_)]] ((AeG a_) r):=⟨λh=>by
 unfold uG at h
 exact aB (AeG a_) I Tryz.func155 I I I I I I λiE=>Wk⟩
abbrev dS (b:(List aA)) (r:Int):aF:=(aF.ret (.d (iZ r)) [[.d (lC b)]])
abbrev jL (a:((List (List aA)))×(List aA)×Int) (res:Except (Int) (Unit)):Prop:=match a with|(s,b,x)=>cH X 215 (aO [1,0,1,0,0] (aQ Tryz.f215)) (aH (X.H 215 2) 1) (aK 0 (X.H 215 1000000) 1 (kS X Tryz.f215 1 (dS b) (λ(_:Unit)=>(⟨[],[(0,[.d (lC b)])],1,[],none⟩:St)) res)) ⟨[(0,.d (.list 1 (List.map (jS 3 aD) s))),(1,.c (.fn 155 [0])),(7,.d (iZ (List.length s:Int))),(8,.d (iZ x))],[(0,[.d (lC b)])],1,[],none⟩
instance {a:((List (List aA)))×(List aA)×Int}:Ok (bP a) (jL a):=⟨λh=>bP.partial_correctness jL (by
 rintro P_ IH ⟨s,b,x⟩ res h
 have IH:=Ok.mk' IH
 have iE:eR Tryz.f215 1 _ (dS b):=⟨trivial⟩
 refine lg I ?_
 exact Wk) _ _ h⟩
instance {s:(List (List aA))} {b:(List aA)}:Ok (dU s b) λr=>aval X 215 [.d (.list 1 (List.map (jS 3 aD) s)),.fn 155 [0]] [[.d (lC b)]] ((dS b) r):=⟨λh=>by
 unfold dU at h
 exact aB (dS b) I Tryz.func215 I I I I I I λiE=>Wk⟩
abbrev jI (b:(List aA)) (r:Bool):aF:=(aF.ret (.d (.bool r)) [[.d (lC b)]])
instance {s:(List (List aA))} {b:(List aA)}:Ok (cE s b) λr=>aval X 154 [.d (.list 1 (List.map (jS 3 aD) s)),.fn 155 [0]] [[.d (lC b)]] ((jI b) r):=⟨λh=>by
 unfold cE at h
 exact aB (jI b) I Tryz.func154 I I I I I I λiE=>Wk⟩
abbrev Ad7 (a:Arr×LI×Nat×LI×((List (List aA)))×(List (List aA))×Int×(List aA)) (res:(List (List aA))×(List aA)):Prop:=match a with|(x,x0,x1,b,x2,kept,x3,out1)=>cH X 75 (aO [1,1,1,1,1,0,1,0,0] (aQ Tryz.f75)) (aH (X.H 75 7) 4) (aK 0 (X.H 75 1000000) 4 (iP (λ((kept3,out12):(List (List aA))×(List aA))=>(⟨[(2,.c (.ptr 1 0)),(3,.c (.own 1 (List.map (jS 3 aD) kept3))),(4,.c (.ptr 3 0))],[(3,[.arr 2 x1 1,oC out12]),(1,[oI [],oC []]),(0,[.d (lI x0),.d (lC x.cells)]),(2,[.seq 1 (List.map (D.int .i64) b)])],4,[],none⟩:St)) res)) ⟨[(2,.c (.ptr 1 0)),(3,.c (.own 1 (List.map (jS 3 aD) kept))),(4,.c (.ptr 3 0)),(20,.d (.list 1 (List.map (jS 3 aD) x2))),(21,.d (iZ (List.length x2:Int))),(22,.d (iZ x3))],[(3,[.arr 2 x1 1,oC out1]),(1,[oI [],oC []]),(0,[.d (lI x0),.d (lC x.cells)]),(2,[.seq 1 (List.map (D.int .i64) b)])],4,[],none⟩
instance {a:Arr×LI×Nat×LI×((List (List aA)))×(List (List aA))×Int×(List aA)}:Ok (jZ a) (Ad7 a):=⟨λh=>jZ.partial_correctness Ad7 (by
 rintro P_ IH ⟨x,x0,x1,b,x2,kept,x3,out1⟩ res h
 have IH:=Ok.mk' IH
 refine lg I (ra I (S_ ?_))
 rcases E_ h with ⟨hc,h⟩|⟨hc,h⟩
 ·refine ct I hc (K_ (cn I (N_ (S_ ?_))))
  obtain⟨⟨kept2,out11⟩,hs,h⟩:=B h
  refine gX (λ((kept2,out11):(List (List aA))×(List aA))=>(⟨[(2,.c (.ptr 1 0)),(3,.c (.own 1 (List.map (jS 3 aD) kept2))),(4,.c (.ptr 3 0)),(20,.d (.list 1 (List.map (jS 3 aD) x2))),(21,.d (iZ (List.length x2:Int))),(22,.d (iZ x3))],[(3,[.arr 2 x1 1,oC out11]),(1,[oI [],oC []]),(0,[.d (lI x0),.d (lC x.cells)]),(2,[.seq 1 (List.map (D.int .i64) b)])],4,[],none⟩:St)) (y:=(kept2,out11)) ?_ ?_
  ·replace h:=hs
   refine W_ (S_ (rn 0 I ?_))
   obtain⟨y,hk,h⟩:=B h
   refine po (mP (jS 3 aD) (λ_=>I) hk I I I I I) I I (on (nid':=5) 3 I (rz (S_ (rn 2 I ?_))))
   obtain⟨x4,hk,h⟩:=B h
   have hv:=Ok.ok hk
   refine po (AfM (nid':=5) (hv) I I I I I I I I I I I I) I I (on 1 I (rz ?_))
   rcases E_ h with ⟨hc,h⟩|⟨hc,h⟩
   ·refine ct I hc (S_ (rn 3 I ?_))
    obtain⟨kept1,hk,h⟩:=B h
    refine po (AzT hk I I I I I I I I I I I I I ) I I (on 1 I (rz (rn 3 I ?_)))
    obtain⟨l,hk,h⟩:=B h
    refine po (AfL hk I I I I I I I I I I I I I I ) I I (on 2 I (O_ (cn I (en I ?_))))
    cases h
    exact .ok I
   refine cf I hc (K_ (cn I (en I ?_)))
   cases h
   exact .ok I
  refine N_ (rn 2 I (O_ (cJ.normal ?_)))
  have hv:=Ok.ok h
  exact bX I I hv
 ·refine cf I hc (X_ (fL.exit (kQ.exit (cJ.exit (eh I ?_)))))
  cases h
  exact .ok I
 ) _ _ h⟩
instance {a_:Arr}:Ok (tT a_) λr=>aval X 75 [.d (aI a_)] [] (aF.ret (.d (aI r)) []):=⟨λ{r} h=>by
 unfold tT at h
 refine kW (tm:=[(0,.d (aI a_))]) (hp:=[]) (n:=0) I Tryz.func75 I I I I I I (ra (nid':=2) I (S_ (rn 1 I ?_)))
 obtain⟨x,hk,h⟩:=B h
 have hv:=Ok.ok hk
 refine po (nO (hv) I I I I I I I I I) I I (on 1 I (rz (S_ (S_ (rn 2 I (po (mQ I I I I I I I) I I (on 1 I (rz ?_))))))))
 obtain⟨x0,hs,h⟩:=B h
 refine gX (λ(x0:LI)=>(⟨[(1,.c (.ptr 0 0)),(2,.c (.ptr 1 0))],[(1,[oI [],oC []]),(0,[.d (lI x0),.d (lC x.cells)])],2,[],none⟩:St)) (y:=x0) ?_ ?_
 ·replace h:=hs
  rcases E_ h with ⟨hc,h⟩|⟨hc,h⟩
  ·refine ct I hc (rn 3 I (O_ (cn I ?_)))
   cases h
   exact .ok I
  refine cf I hc (K_ (cn I ?_))
  cases h
  exact .ok I
 ·refine N_ (ra I (S_ (rn 2 I ?_)))
  obtain⟨⟨x1,b⟩,hk,h⟩:=B h
  have hv:=Ok.ok hk
  refine po (AfM (nid':=3) (hv) I I I I I I I I I I I I) I I (on (nid':=4) 3 I (rz (S_ (S_ (rn 1 I ?_)))))
  obtain⟨x2,hk,h⟩:=B h
  have hv:=Ok.ok hk
  refine po (nO (hv) I I I I I I I I I) I I (po (mQ I I I I I I I) I I (on 1 I (rz ?_)))
  obtain⟨⟨kept3,out12⟩,hs,h⟩:=B h
  refine gX (λ((kept3,out12):(List (List aA))×(List aA))=>(⟨[(2,.c (.ptr 1 0)),(3,.c (.own 1 (List.map (jS 3 aD) kept3))),(4,.c (.ptr 3 0))],[(3,[.arr 2 x1 1,oC out12]),(1,[oI [],oC []]),(0,[.d (lI x0),.d (lC x.cells)]),(2,[.seq 1 (List.map (D.int .i64) b)])],4,[],none⟩:St)) (y:=(kept3,out12)) ?_ ?_
  ·replace h:=hs
   refine W_ (eC ?_)
   have hv:=Ok.ok h
   exact bX I I hv
  ·refine N_ (S_ (rn 3 I (po (mQ I I I I I I I) I I ?_)))
   obtain⟨j,hk,h⟩:=B h
   refine po (AcG hk I I I I I) I I ?_
   obtain⟨b1,hk,h⟩:=B h
   refine po (est (D.int .i64) (v:=(List.length kept3:Int)) hk I I (λ_=>⟨I,I,I⟩) I I I I) I I (rz (ra I (R_ ?_)))
   obtain⟨shape,hkFshape,h⟩:=B h
   cases h
   exact .retF I I (AbL I I I (lM I (lM (iH (D.int .i64) I hkFshape I I I) AbN)) AfN) I
 ⟩
abbrev ArI (r:Arr×Int):aF:=(aF.ret (.tuple [.d (aI r.1),.d (iZ r.2)]) [])
instance BhD:Jn 39 1 15 (Bool):=⟨λy=>[(15,.d (.bool y))],λy=>[]⟩
instance {op_:Int} {a_:Arr}:Ok (qX op_ a_) λr=>aval X 39 [.d (iZ op_),.d (aI a_)] [] (ArI r):=⟨λh=>by
 unfold qX at h
 exact aB ArI I Tryz.func39 I I I I I I λiE=>Wk⟩
abbrev ArG (r:Arr×Int):aF:=(aF.ret (.tuple [.d (aI r.1),.d (iZ r.2)]) [])
instance BhB:Jn 15 0 0 (Unit):=⟨λy=>[],λy=>[]⟩
instance {op_:Int} {a_:Arr}:Ok (Aa2 op_ a_) λr=>aval X 15 [.d (iZ op_),.d (aI a_)] [] (ArG r):=⟨λh=>by
 unfold Aa2 at h
 exact aB ArG I Tryz.func15 I I I I I I λiE=>Wk⟩
abbrev vO (r:LI×Int):aF:=(aF.ret (.tuple [.d (lI r.1),.d (iZ r.2)]) [])
abbrev AbT (a:LI×LI×Int) (res:Except (LI×Int) (Unit)):Prop:=match a with|(a_,b,x)=>cH X 107 (aO [1,1,0,1,0,0] (aQ Tryz.f107)) (aH (X.H 107 8) 0) (aK 1 (X.H 107 1000001) 0 (kS X Tryz.f107 0 vO (λ(_:Unit)=>(⟨[(0,.d (lI a_))],[],0,[],none⟩:St)) res)) ⟨[(0,.d (lI a_)),(1,.d (lI b)),(26,.d (iZ (List.length a_:Int))),(27,.d (iZ x))],[],0,[],none⟩
instance {a:LI×LI×Int}:Ok (iX a) (AbT a):=⟨λh=>iX.partial_correctness AbT (by
 rintro P_ IH ⟨a_,b,x⟩ res h
 have IH:=Ok.mk' IH
 have iE:eR Tryz.f107 0 _ vO:=⟨trivial⟩
 refine lg I ?_
 exact Wk) _ _ h⟩
instance {a_:LI} {b:LI}:Ok (rS a_ b) λr=>aval X 107 [.d (lI a_),.d (lI b)] [] (vO r):=⟨λh=>by
 unfold rS at h
 exact aB vO I Tryz.func107 I I I I I I λiE=>Wk⟩
abbrev pI (r:Arr×Int):aF:=(aF.ret (.tuple [.d (aI r.1),.d (iZ r.2)]) [])
instance Bf1:Jn 47 1 88 (Int×Int×(List Arr)):=⟨λy=>[],λy=>[(12,[(0,.d (iZ y.1)),(1,.d (iZ y.2.1)),(2,.d (.list 2 (List.map aX y.2.2)))])]⟩
instance Bf2:Jn 47 1 97 (Int×Int×(List Arr)):=⟨λy=>[],λy=>[(13,[(0,.d (iZ y.1)),(1,.d (iZ y.2.1)),(2,.d (.list 2 (List.map aX y.2.2)))])]⟩
instance Bf3:Jn 47 1 70 (Int):=⟨λy=>[(13,.d (iZ y))],λy=>[]⟩
abbrev AfZ (a:Int×Arr×Arr×Int) (res:Except (Arr×Int) (Unit)):Prop:=match a with|(op_,a_,b,x)=>cH X 47 (aO [1,0,1,0,0] (aQ Tryz.f47)) (aH (X.H 47 2) 3) (aK 0 (X.H 47 1000000) 3 (kS X Tryz.f47 0 pI (λ(_:Unit)=>(⟨[(0,.d (iZ op_)),(4,.c (.ptr 0 0)),(5,.c (.ptr 1 0)),(6,.c (.ptr 2 0))],[(2,[oI [],oC []]),(1,[.d (lI b.shape),.d (lC b.cells)]),(0,[.d (lI a_.shape),.d (lC a_.cells)])],3,[],none⟩:St)) res)) ⟨[(0,.d (iZ op_)),(4,.c (.ptr 0 0)),(5,.c (.ptr 1 0)),(6,.c (.ptr 2 0)),(22,.c (.full 2 (List.map aX [a_,b]))),(23,.d (iZ (List.length [a_,b]:Int))),(24,.d (iZ x))],[(2,[oI [],oC []]),(1,[.d (lI b.shape),.d (lC b.cells)]),(0,[.d (lI a_.shape),.d (lC a_.cells)])],3,[],none⟩
instance {a:Int×Arr×Arr×Int}:Ok (kK a) (AfZ a):=⟨λh=>kK.partial_correctness AfZ (by
 rintro P_ IH ⟨op_,a_,b,x⟩ res h
 have IH:=Ok.mk' IH
 have iE:eR Tryz.f47 0 _ pI:=⟨trivial⟩
 refine lg I ?_
 exact Wk) _ _ h⟩
abbrev Ag0 (a:Int×Arr×Arr×LI×Int×(List aA)) (res:Except (Arr×Int) (List aA)):Prop:=match a with|(op_,a_,b,shape,x2,out1)=>cH X 47 (aO [1,1,1,1,1,1,1,1,1,0,1,0,0] (aQ Tryz.f47)) (aH (X.H 47 20) 4) (aK 2 (X.H 47 1000002) 4 (kS X Tryz.f47 0 pI (λ(out11:(List aA))=>(⟨[(6,.c (.ptr 2 0)),(14,.c (.ptr 3 0))],[(3,[.d (lI shape),oC out11]),(2,[oI [],oC []]),(1,[.d (lI b.shape),.d (lC b.cells)]),(0,[.d (lI a_.shape),.d (lC a_.cells)])],4,[],none⟩:St)) res)) ⟨[(0,.d (iZ op_)),(4,.c (.ptr 0 0)),(5,.c (.ptr 1 0)),(6,.c (.ptr 2 0)),(14,.c (.ptr 3 0)),(73,.d (iZ 0)),(74,.d (iZ x2))],[(3,[.d (lI shape),oC out1]),(2,[oI [],oC []]),(1,[.d (lI b.shape),.d (lC b.cells)]),(0,[.d (lI a_.shape),.d (lC a_.cells)])],4,[],none⟩
instance {a:Int×Arr×Arr×LI×Int×(List aA)}:Ok (rT a) (Ag0 a):=⟨λh=>rT.partial_correctness Ag0 (by
 rintro P_ IH ⟨op_,a_,b,shape,x2,out1⟩ res h
 have IH:=Ok.mk' IH
 have iE:eR Tryz.f47 0 _ pI:=⟨trivial⟩
 refine lg I ?_
 exact Wk) _ _ h⟩
abbrev Ag1 (a:Int×Arr×Arr×LI×Int×Int×(List aA)) (res:Except (Arr×Int) (List aA)):Prop:=match a with|(op_,a_,b,shape,n,x4,out12)=>cH X 47 (aO [1,1,1,1,1,1,1,1,1,0,1,0,0] (aQ Tryz.f47)) (aH (X.H 47 20) 4) (aK 2 (X.H 47 1000002) 4 (kS X Tryz.f47 0 pI (λ(out13:(List aA))=>(⟨[(6,.c (.ptr 2 0)),(14,.c (.ptr 3 0))],[(3,[.d (lI shape),oC out13]),(2,[oI [],oC []]),(1,[.d (lI b.shape),.d (lC b.cells)]),(0,[.d (lI a_.shape),.d (lC a_.cells)])],4,[],none⟩:St)) res)) ⟨[(0,.d (iZ op_)),(4,.c (.ptr 0 0)),(5,.c (.ptr 1 0)),(6,.c (.ptr 2 0)),(14,.c (.ptr 3 0)),(73,.d (iZ n)),(74,.d (iZ x4))],[(3,[.d (lI shape),oC out12]),(2,[oI [],oC []]),(1,[.d (lI b.shape),.d (lC b.cells)]),(0,[.d (lI a_.shape),.d (lC a_.cells)])],4,[],none⟩
instance {a:Int×Arr×Arr×LI×Int×Int×(List aA)}:Ok (mT a) (Ag1 a):=⟨λh=>mT.partial_correctness Ag1 (by
 rintro P_ IH ⟨op_,a_,b,shape,n,x4,out12⟩ res h
 have IH:=Ok.mk' IH
 have iE:eR Tryz.f47 0 _ pI:=⟨trivial⟩
 refine lg I ?_
 exact Wk) _ _ h⟩
instance {op_:Int} {a_:Arr} {b:Arr}:Ok (yK op_ a_ b) λr=>aval X 47 [.d (iZ op_),.d (aI a_),.d (aI b)] [] (pI r):=⟨λh=>by
 unfold yK at h
 exact aB pI I Tryz.func47 I I I I I I λiE=>Wk⟩
abbrev xF (r:Int):aF:=(aF.ret (.d (iZ r)) [])
abbrev zH (a:LI×Int×Int) (res:Int):Prop:=match a with|(a_,m1,i)=>cH X 164 (aO [1,1,1,0,1,0,0] (aQ Tryz.f164)) (aH (X.H 164 5) 0) (aK 0 (X.H 164 1000000) 0 (iP (λ(m2:Int)=>(⟨[(3,.d (iZ m2))],[],0,[],none⟩:St)) res)) ⟨[(0,.d (lI a_)),(3,.d (iZ m1)),(4,.d (iZ i))],[],0,[],none⟩
instance {a:LI×Int×Int}:Ok (gG a) (zH a):=⟨λh=>gG.partial_correctness zH (by
 rintro P_ IH ⟨a_,m1,i⟩ res h
 have IH:=Ok.mk' IH
 have iE:eR Tryz.f164 0 _ xF:=⟨trivial⟩
 refine lg I ?_
 exact Wk) _ _ h⟩
instance {a_:LI}:Ok (pH a_) λr=>aval X 164 [.d (lI a_)] [] (xF r):=⟨λh=>by
 unfold pH at h
 exact aB xF I Tryz.func164 I I I I I I λiE=>Wk⟩
abbrev uE (r:LI×Int):aF:=(aF.ret (.tuple [.d (lI r.1),.d (iZ r.2)]) [])
abbrev AaW (a:Arr×LI×Int) (res:Except (LI×Int) LI):Prop:=match a with|(s,shape1,x)=>cH X 95 (aO [1,1,1,0,1,0,0] (aQ Tryz.f95)) (aH (X.H 95 5) 1) (aK 0 (X.H 95 1000000) 1 (kS X Tryz.f95 0 uE (λ(shape3:LI)=>(⟨[(4,.c (.own 1 (List.map (D.int .i64) shape3)))],[(0,[.d (lI s.shape),.d (lC s.cells)])],1,[],none⟩:St)) res)) ⟨[(4,.c (.own 1 (List.map (D.int .i64) shape1))),(16,.d (lC s.cells)),(17,.d (iZ (List.length s.cells:Int))),(18,.d (iZ x))],[(0,[.d (lI s.shape),.d (lC s.cells)])],1,[],none⟩
instance {a:Arr×LI×Int}:Ok (hU a) (AaW a):=⟨λh=>hU.partial_correctness AaW (by
 rintro P_ IH ⟨s,shape1,x⟩ res h
 have IH:=Ok.mk' IH
 have iE:eR Tryz.f95 0 _ uE:=⟨trivial⟩
 refine lg I ?_
 exact Wk) _ _ h⟩
instance {s:Arr}:Ok (qP s) λr=>aval X 95 [.d (aI s)] [] (uE r):=⟨λh=>by
 unfold qP at h
 exact aB uE I Tryz.func95 I I I I I I λiE=>Wk⟩
abbrev mL (r:Arr×Int):aF:=(aF.ret (.tuple [.d (aI r.1),.d (iZ r.2)]) [])
abbrev zB (a:Arr×Arr×Int) (res:Except (Arr×Int) (Unit)):Prop:=match a with|(s,a_,x)=>cH X 44 (aO [1,0,1,0,0] (aQ Tryz.f44)) (aH (X.H 44 2) 3) (aK 0 (X.H 44 1000000) 3 (kS X Tryz.f44 0 mL (λ(_:Unit)=>(⟨[(2,.c (.ptr 0 0)),(3,.c (.ptr 1 0)),(4,.c (.ptr 2 0))],[(2,[oI [],oC []]),(1,[.d (lI a_.shape),.d (lC a_.cells)]),(0,[.d (lI s.shape),.d (lC s.cells)])],3,[],none⟩:St)) res)) ⟨[(2,.c (.ptr 0 0)),(3,.c (.ptr 1 0)),(4,.c (.ptr 2 0)),(16,.c (.full 2 (List.map aX [s,a_]))),(17,.d (iZ (List.length [s,a_]:Int))),(18,.d (iZ x))],[(2,[oI [],oC []]),(1,[.d (lI a_.shape),.d (lC a_.cells)]),(0,[.d (lI s.shape),.d (lC s.cells)])],3,[],none⟩
instance {a:Arr×Arr×Int}:Ok (gD a) (zB a):=⟨λh=>gD.partial_correctness zB (by
 rintro P_ IH ⟨s,a_,x⟩ res h
 have IH:=Ok.mk' IH
 have iE:eR Tryz.f44 0 _ mL:=⟨trivial⟩
 refine lg I ?_
 exact Wk) _ _ h⟩
abbrev zC (a:Arr×Arr×LI×Int×Int×(List aA)) (res:(List aA)):Prop:=match a with|(s,a_,shape,n,x1,out1)=>cH X 44 (aO [1,1,1,1,1,1,1,1,0,1,0,0] (aQ Tryz.f44)) (aH (X.H 44 18) 4) (aK 2 (X.H 44 1000002) 4 (iP (λ(out11:(List aA))=>(⟨[(4,.c (.ptr 2 0)),(12,.c (.ptr 3 0))],[(3,[.d (lI shape),oC out11]),(2,[oI [],oC []]),(1,[.d (lI a_.shape),.d (lC a_.cells)]),(0,[.d (lI s.shape),.d (lC s.cells)])],4,[],none⟩:St)) res)) ⟨[(3,.c (.ptr 1 0)),(4,.c (.ptr 2 0)),(12,.c (.ptr 3 0)),(58,.d (iZ n)),(59,.d (iZ x1))],[(3,[.d (lI shape),oC out1]),(2,[oI [],oC []]),(1,[.d (lI a_.shape),.d (lC a_.cells)]),(0,[.d (lI s.shape),.d (lC s.cells)])],4,[],none⟩
instance {a:Arr×Arr×LI×Int×Int×(List aA)}:Ok (gE a) (zC a):=⟨λh=>gE.partial_correctness zC (by
 rintro P_ IH ⟨s,a_,shape,n,x1,out1⟩ res h
 have IH:=Ok.mk' IH
 have iE:eR Tryz.f44 0 _ mL:=⟨trivial⟩
 refine lg I ?_
 exact Wk) _ _ h⟩
abbrev zD (a:Arr×Arr×LI×Int×Int×(List aA)) (res:(List aA)):Prop:=match a with|(s,a_,shape,n,x3,out12)=>cH X 44 (aO [1,1,1,1,1,1,1,1,0,1,0,0] (aQ Tryz.f44)) (aH (X.H 44 18) 4) (aK 2 (X.H 44 1000002) 4 (iP (λ(out13:(List aA))=>(⟨[(4,.c (.ptr 2 0)),(12,.c (.ptr 3 0))],[(3,[.d (lI shape),oC out13]),(2,[oI [],oC []]),(1,[.d (lI a_.shape),.d (lC a_.cells)]),(0,[.d (lI s.shape),.d (lC s.cells)])],4,[],none⟩:St)) res)) ⟨[(3,.c (.ptr 1 0)),(4,.c (.ptr 2 0)),(12,.c (.ptr 3 0)),(58,.d (iZ n)),(59,.d (iZ x3))],[(3,[.d (lI shape),oC out12]),(2,[oI [],oC []]),(1,[.d (lI a_.shape),.d (lC a_.cells)]),(0,[.d (lI s.shape),.d (lC s.cells)])],4,[],none⟩
instance {a:Arr×Arr×LI×Int×Int×(List aA)}:Ok (lP a) (zD a):=⟨λh=>lP.partial_correctness zD (by
 rintro P_ IH ⟨s,a_,shape,n,x3,out12⟩ res h
 have IH:=Ok.mk' IH
 have iE:eR Tryz.f44 0 _ mL:=⟨trivial⟩
 refine lg I ?_
 exact Wk) _ _ h⟩
instance {s:Arr} {a_:Arr}:Ok (pC s a_) λr=>aval X 44 [.d (aI s),.d (aI a_)] [] (mL r):=⟨λh=>by
 unfold pC at h
 exact aB mL I Tryz.func44 I I I I I I λiE=>Wk⟩
abbrev AdQ (r:Int):aF:=(aF.ret (.d (iZ r)) [])
abbrev AeQ (a:Arr×LI×Int×Int) (res:Int):Prop:=match a with|(a_,l,n,x)=>cH X 168 (aO [1,1,0,1,0,0] (aQ Tryz.f168)) (aH (X.H 168 3) 1) (aK 0 (X.H 168 1000000) 1 (iP (λ(n1:Int)=>(⟨[(3,.d (iZ n1))],[(0,[.d (lI a_.shape),.d (lC a_.cells)])],1,[],none⟩:St)) res)) ⟨[(3,.d (iZ n)),(8,.d (lI l)),(9,.d (iZ (List.length l:Int))),(10,.d (iZ x))],[(0,[.d (lI a_.shape),.d (lC a_.cells)])],1,[],none⟩
instance {a:Arr×LI×Int×Int}:Ok (lD a) (AeQ a):=⟨λh=>lD.partial_correctness AeQ (by
 rintro P_ IH ⟨a_,l,n,x⟩ res h
 have IH:=Ok.mk' IH
 have iE:eR Tryz.f168 0 _ AdQ:=⟨trivial⟩
 refine lg I ?_
 exact Wk) _ _ h⟩
instance {a_:Arr}:Ok (qB a_) λr=>aval X 168 [.d (aI a_)] [] (AdQ r):=⟨λh=>by
 unfold qB at h
 exact aB AdQ I Tryz.func168 I I I I I I λiE=>Wk⟩
instance {a_:Arr} {from_:Int} {n:Int}:Ok (kF a_ from_ n) λr=>aval X 171 [.d (aI a_),.d (iZ from_),.d (iZ n)] [] (aF.ret (.d (aI r)) []):=⟨λ{r} h=>by
 unfold kF at h
 refine kW (tm:=[(0,.d (aI a_)),(1,.d (iZ from_)),(2,.d (iZ n))]) (hp:=[]) (n:=0) I Tryz.func171 I I I I I I (ra (nid':=2) I (S_ (rn 1 I ?_)))
 obtain⟨k,hk,h⟩:=B h
 have hv:=Ok.ok hk
 refine po (nO (hv) I I I I I I I I I) I I (on 1 I (rz (S_ (drn (m:=15) 4 I I ?_))))
 obtain⟨l,hk,h⟩:=B h
 refine pd (Al4 hk I I I I I I) I I I I I ?_
 obtain⟨l1,hk,h⟩:=B h
 refine pd (AvM hk I I I I I I I I I I I I ) I I I I I (don 3 I ?_)
 obtain⟨l2,hk,h⟩:=B h
 refine pdm aD (aA.mk 0 0 []) hk I I I I I I I I I I I I I I I (don 3 I (dz (by kernel_rfl) (S_ (drn (m:=29) 12 I I ?_))))
 obtain⟨l3,hk,h⟩:=B h
 refine pd (ArL hk I I I I I I I) I I I I I ?_
 obtain⟨l4,hk,h⟩:=B h
 refine pd (BgX aD hk I I I I I I I I I I ) I I I I I (dz (by kernel_rfl) (ra I (R_ ?_)))
 obtain⟨cells,hkFcells,h⟩:=B h
 cases h
 exact .retF I I (AbL I I I (lM (iH aD I hkFcells I I I) (lM I AbN)) AfN) I
 ⟩
abbrev AhT (r:Arr):aF:=(aF.ret (.d (aI r)) [])
instance BcD:Jn 169 1 6 LI:=⟨λy=>[],λy=>[(0,[(0,.d (lI y))])]⟩
instance {a_:Arr}:Ok (gU a_) λr=>aval X 169 [.d (aI a_)] [] (AhT r):=⟨λh=>by
 unfold gU at h
 exact aB AhT I Tryz.func169 I I I I I I λiE=>Wk⟩
abbrev AmG (r:Arr):aF:=(aF.ret (.d (aI r)) [])
instance {n:Int} {a_:Arr}:Ok (yM n a_) λr=>aval X 104 [.d (iZ n),.d (aI a_)] [] (AmG r):=⟨λh=>by
 unfold yM at h
 exact aB AmG I Tryz.func104 I I I I I I λiE=>Wk⟩
abbrev yB (r:Arr×Int):aF:=(aF.ret (.tuple [.d (aI r.1),.d (iZ r.2)]) [])
abbrev Ag9 (a:Arr×Arr×Int) (res:Except (Arr×Int) (Unit)):Prop:=match a with|(l,a_,x)=>cH X 100 (aO [1,1,0,1,0,0] (aQ Tryz.f100)) (aH (X.H 100 4) 3) (aK 0 (X.H 100 1000000) 3 (kS X Tryz.f100 0 yB (λ(_:Unit)=>(⟨[(2,.c (.ptr 0 0)),(3,.c (.ptr 1 0)),(4,.c (.ptr 2 0))],[(2,[oI [],oC []]),(1,[.d (lI a_.shape),.d (lC a_.cells)]),(0,[.d (lI l.shape),.d (lC l.cells)])],3,[],none⟩:St)) res)) ⟨[(2,.c (.ptr 0 0)),(3,.c (.ptr 1 0)),(4,.c (.ptr 2 0)),(31,.d (lC l.cells)),(32,.d (iZ (List.length l.cells:Int))),(33,.d (iZ x))],[(2,[oI [],oC []]),(1,[.d (lI a_.shape),.d (lC a_.cells)]),(0,[.d (lI l.shape),.d (lC l.cells)])],3,[],none⟩
instance {a:Arr×Arr×Int}:Ok (nB a) (Ag9 a):=⟨λh=>nB.partial_correctness Ag9 (by
 rintro P_ IH ⟨l,a_,x⟩ res h
 have IH:=Ok.mk' IH
 have iE:eR Tryz.f100 0 _ yB:=⟨trivial⟩
 refine lg I ?_
 exact Wk) _ _ h⟩
abbrev AgA (a:Arr×Arr×LI×Int×Int×(List aA)) (res:(List aA)):Prop:=match a with|(l,a_,l3,k,x2,out1)=>cH X 100 (aO [1,1,1,1,1,1,0,1,0,0] (aQ Tryz.f100)) (aH (X.H 100 17) 14) (aK 3 (X.H 100 1000003) 14 (iP (λ(out11:(List aA))=>(⟨[(4,.c (.ptr 2 0)),(8,.c (.ptr 12 0))],[(12,[.d (lI l3),oC out11]),(2,[oI [],oC []]),(1,[.d (lI a_.shape),.d (lC a_.cells)]),(0,[.d (lI l.shape),.d (lC l.cells)])],14,[],none⟩:St)) res)) ⟨[(3,.c (.ptr 1 0)),(4,.c (.ptr 2 0)),(8,.c (.ptr 12 0)),(11,.d (iZ k)),(79,.d (lC l.cells)),(80,.d (iZ (List.length l.cells:Int))),(81,.d (iZ x2))],[(12,[.d (lI l3),oC out1]),(2,[oI [],oC []]),(1,[.d (lI a_.shape),.d (lC a_.cells)]),(0,[.d (lI l.shape),.d (lC l.cells)])],14,[],none⟩
instance {a:Arr×Arr×LI×Int×Int×(List aA)}:Ok (kN a) (AgA a):=⟨λh=>kN.partial_correctness AgA (by
 rintro P_ IH ⟨l,a_,l3,k,x2,out1⟩ res h
 have IH:=Ok.mk' IH
 have iE:eR Tryz.f100 0 _ yB:=⟨trivial⟩
 refine lg I ?_
 exact Wk) _ _ h⟩
instance {l:Arr} {a_:Arr}:Ok (vH l a_) λr=>aval X 100 [.d (aI l),.d (aI a_)] [] (yB r):=⟨λh=>by
 unfold vH at h
 exact aB yB I Tryz.func100 I I I I I I λiE=>Wk⟩
abbrev AcF (r:Arr):aF:=(aF.ret (.d (aI r)) [])
abbrev Ad6 (a:Arr×LI×Int×Int×(List aA)) (res:(List aA)):Prop:=match a with|(a_,shape,n,x1,out1)=>cH X 217 (aO [1,1,1,0,1,0,0] (aQ Tryz.f217)) (aH (X.H 217 4) 3) (aK 0 (X.H 217 1000000) 3 (iP (λ(out11:(List aA))=>(⟨[(4,.c (.ptr 1 0)),(7,.c (.ptr 2 0))],[(2,[.d (lI shape),oC out11]),(1,[oI [],oC []]),(0,[.d (lI a_.shape),.d (lC a_.cells)])],3,[],none⟩:St)) res)) ⟨[(2,.c (.ptr 0 0)),(4,.c (.ptr 1 0)),(7,.c (.ptr 2 0)),(15,.d (iZ n)),(16,.d (iZ x1))],[(2,[.d (lI shape),oC out1]),(1,[oI [],oC []]),(0,[.d (lI a_.shape),.d (lC a_.cells)])],3,[],none⟩
instance {a:Arr×LI×Int×Int×(List aA)}:Ok (jY a) (Ad6 a):=⟨λh=>jY.partial_correctness Ad6 (by
 rintro P_ IH ⟨a_,shape,n,x1,out1⟩ res h
 have IH:=Ok.mk' IH
 have iE:eR Tryz.f217 0 _ AcF:=⟨trivial⟩
 refine lg I ?_
 exact Wk) _ _ h⟩
instance {a_:Arr} {shape:LI}:Ok (iU a_ shape) λr=>aval X 217 [.d (aI a_),.d (lI shape)] [] (AcF r):=⟨λh=>by
 unfold iU at h
 exact aB AcF I Tryz.func217 I I I I I I λiE=>Wk⟩
abbrev AmH (r:LI):aF:=(aF.ret (.d (lI r)) [])
instance {shape:LI} {axis:Int}:Ok (p_pick_with shape axis) λr=>aval X 218 [.d (lI shape),.d (iZ axis)] [] (AmH r):=⟨λh=>by
 unfold p_pick_with at h
 exact aB AmH I Tryz.func218 I I I I I I λiE=>Wk⟩
abbrev AfI (r:LI):aF:=(aF.ret (.d (lI r)) [])
instance {shape:LI} {axis:Int}:Ok (p_pick_without shape axis) λr=>aval X 219 [.d (lI shape),.d (iZ axis)] [] (AfI r):=⟨λh=>by
 unfold p_pick_without at h
 exact aB AfI I Tryz.func219 I I I I I I λiE=>Wk⟩
abbrev uX (r:Arr×Arr×Int×Int):aF:=(aF.ret (.tuple [.d (aI r.1),.d (aI r.2.1),.d (iZ r.2.2.1),.d (iZ r.2.2.2)]) [])
instance Bf7:Jn 167 1 29 (Int):=⟨λy=>[(10,.d (iZ y))],λy=>[]⟩
instance Bf8:Jn 167 0 0 (LI×(List aA)×LI×(List aA)):=⟨λy=>[],λy=>[(0,[(0,.d (lI y.2.2.1)),(1,.d (lC y.2.2.2))]),(1,[(0,.d (lI y.1)),(1,.d (lC y.2.1))])]⟩
abbrev AgB (a:Int×LI×(List aA)×LI×(List aA)×LI×LI×Int) (res:Except (Arr×Arr×Int×Int) (Unit)):Prop:=match a with|(axis,x0,x11,x01,x12,x10,y,x13)=>cH X 167 (aO [1,1,1,1,1,1,0,1,0,0] (aQ Tryz.f167)) (aH (X.H 167 19) 14) (aK 1 (X.H 167 1000001) 14 (kS X Tryz.f167 0 uX (λ(_:Unit)=>(⟨[(3,.c (.ptr 0 0)),(4,.c (.ptr 1 0)),(6,.c (.ptr 2 0)),(7,.c (.ptr 3 0)),(10,.d (iZ axis))],[(3,[oI [],oC []]),(2,[oI [],oC []]),(1,[.d (lI x0),.d (lC x11)]),(0,[.d (lI x01),.d (lC x12)])],14,[],none⟩:St)) res)) ⟨[(3,.c (.ptr 0 0)),(4,.c (.ptr 1 0)),(6,.c (.ptr 2 0)),(7,.c (.ptr 3 0)),(10,.d (iZ axis)),(12,.d (lI x10)),(13,.d (lI y)),(101,.d (iZ (List.length x10:Int))),(102,.d (iZ x13))],[(3,[oI [],oC []]),(2,[oI [],oC []]),(1,[.d (lI x0),.d (lC x11)]),(0,[.d (lI x01),.d (lC x12)])],14,[],none⟩
instance {a:Int×LI×(List aA)×LI×(List aA)×LI×LI×Int}:Ok (nC a) (AgB a):=⟨λh=>nC.partial_correctness AgB (by
 rintro P_ IH ⟨axis,x0,x11,x01,x12,x10,y,x13⟩ res h
 have IH:=Ok.mk' IH
 have iE:eR Tryz.f167 0 _ uX:=⟨trivial⟩
 refine lg I ?_
 exact Wk) _ _ h⟩
abbrev AgC (a:Int×LI×(List aA)×LI×(List aA)×LI×LI×Int) (res:Except (Arr×Arr×Int×Int) (Unit)):Prop:=match a with|(axis1,x02,x110,x03,x111,x22,y3,x23)=>cH X 167 (aO [1,1,1,1,1,1,0,1,0,0] (aQ Tryz.f167)) (aH (X.H 167 19) 14) (aK 1 (X.H 167 1000001) 14 (kS X Tryz.f167 0 uX (λ(_:Unit)=>(⟨[(3,.c (.ptr 0 0)),(4,.c (.ptr 1 0)),(6,.c (.ptr 2 0)),(7,.c (.ptr 3 0)),(10,.d (iZ axis1))],[(3,[oI [],oC []]),(2,[oI [],oC []]),(1,[.d (lI x02),.d (lC x110)]),(0,[.d (lI x03),.d (lC x111)])],14,[],none⟩:St)) res)) ⟨[(3,.c (.ptr 0 0)),(4,.c (.ptr 1 0)),(6,.c (.ptr 2 0)),(7,.c (.ptr 3 0)),(10,.d (iZ axis1)),(12,.d (lI x22)),(13,.d (lI y3)),(101,.d (iZ (List.length x22:Int))),(102,.d (iZ x23))],[(3,[oI [],oC []]),(2,[oI [],oC []]),(1,[.d (lI x02),.d (lC x110)]),(0,[.d (lI x03),.d (lC x111)])],14,[],none⟩
instance {a:Int×LI×(List aA)×LI×(List aA)×LI×LI×Int}:Ok (nD a) (AgC a):=⟨λh=>nD.partial_correctness AgC (by
 rintro P_ IH ⟨axis1,x02,x110,x03,x111,x22,y3,x23⟩ res h
 have IH:=Ok.mk' IH
 have iE:eR Tryz.f167 0 _ uX:=⟨trivial⟩
 refine lg I ?_
 exact Wk) _ _ h⟩
instance {a_:Arr} {b:Arr} {last:Bool}:Ok (yN a_ b last) λr=>aval X 167 [.d (aI a_),.d (aI b),.d (.bool last)] [] (uX r):=⟨λh=>by
 unfold yN at h
 exact aB uX I Tryz.func167 I I I I I I λiE=>Wk⟩
end Go.AM.Seat
