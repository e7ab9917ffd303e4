/- Part of a proof about the given program: the abstract machine, the printed functions, the plain laws. -/
import Derived.Test.YtbillkiljpkdfaaGreatRunBoundA4
set_option linter.all false
set_option maxRecDepth 100000
set_option maxHeartbeats 4000000
namespace Go.AM.Seat
open Go Go.AM
theorem AnA {l:List Arr} (hf:Few l):∀(r:List Arr) (k:Nat),l.drop k=r->(∀x∈l.take k,Val 0 x)->T (jO (l,(k:Int))) (λr=>match r with|.error e=>e≠0|.ok _=>∀x∈l,Val 0 x)
 | [],k,h,hv=>by
  rw[jO]
  simp only[bY (cC h),fJ,if_false]
  have:=List.drop_eq_nil_iff.1 h
  rw[List.take_of_length_le this] at hv
  exact T.ret hv
 |a::r,k,h,hv=>by
  have hk:=cD h
  rw[jO]
  simp only[cU hk,if_true,bC h,oJ,bJ,bP h hf,qV]
  refine T.ite (λhe=>T.ret (fP he)) (λhe=>?_)
  refine AnA hf r (k+1) (aS h) ?_
  intro x hx
  rw[List.take_add_one,List.mem_append] at hx
  rcases hx with hx|hx
  ·exact hv x hx
  have hd:l[k]?=some a:=by
   rw[List.drop_eq_getElem_cons (by omega)] at h
   obtain⟨h,_⟩:=List.cons.inj h
   rw[←h]; simp[show k<l.length by omega]
  rw[hd] at hx
  simp only[Option.toList_some,List.mem_singleton] at hx
  subst hx
  exact dW he
theorem Ay0 {l:List Arr} (hf:Few l):T (pW l) (λe=>e=0->∀x∈l,Val 0 x):=by
 unfold pW
 refine T.bind (AnA hf l 0 rfl (by simp)) (λv hv=>?_)
 match v,hv with
 |.error e,h=>exact T.ret λh'=>absurd h' h
 |.ok _,h=>exact T.ret λ_=>h
theorem ApY {l:List aA} (hf:Few l):∀(r:List aA) (k:Nat),l.drop k=r->T (lZ (l,(k:Int))) Any
 | [],k,h=>by
  rw[lZ]
  simp only[bY (cC h),fJ,if_false]
  exact T.any
 |c::r,k,h=>by
  have hk:=cD h
  rw[lZ]
  simp only[cU hk,if_true,bC h,oJ,bJ,bP h hf]
  refine T.ite (λ_=>T.any) (λ_=>?_)
  refine T.bind (T.lget (Q:=Any) (by omega) (by omega) λ_ _=>trivial) (λ_ _=>?_)
  exact T.ite (λ_=>T.any) (λ_=>ApY hf r (k+1) (aS h))
theorem Bh2 {l:List aA} (hf:Few l):T (xB l) Any:=by
 unfold xB
 refine T.bind (ApY hf l 0 rfl) (λv _=>?_)
 match v with
 |.error _=>exact T.any
 |.ok _=>exact T.any
structure AvA (a:Arr) (d k:Int) (l:List (List aA)):Prop where
 all:∀r∈l,(r.length:Int)=k/\∀c∈r,c∈a.cells
theorem ApP {a:Arr} {g k:Int} (hk:0<=k) (hk2:k<=16384) (hg:g<=16384) (hN:g*k=a.cells.length) (hle:(a.cells.length:Int)<=16384):∀(d:Nat) (x:Int) (l:List (List aA)),0<=x->x+d=g->(l.length:Int)=x->AvA a g k l ->
  T (lY (a,k,g,l,x)) (λr=>(r.length:Int)=g/\AvA a g k r)
 |0,x,l,h0,h,hl,hi=>by
  rw[lY]
  exact T.ite (λh'=>by simp at h'; omega) (λ_=>T.ret ⟨by omega,hi⟩)
 |d+1,x,l,h0,h,hl,hi=>by
  rw[lY]
  refine T.ite (λ_=>?_) (λh'=>by simp at h'; omega)
  have h1:0<=x*k:=Int.mul_nonneg h0 hk
  have h2:(x+1)*k<=g*k:=Int.mul_le_mul_of_nonneg_right (by omega) hk
  have h3:(x+1)*k=x*k+k:=by rw[Int.add_mul,Int.one_mul]
  rw[AeJ h0 (by omega),aF (x:=x*k) (by omega) (by omega),aF (x:=(x+1)*k) (by omega) (by omega)]
  refine T.bind (T.val (by unfold AfH; rw[if_pos ⟨h1,by omega,by omega⟩]) (Q:=λv=>v=(a.cells.take ((x+1)*k).toNat).drop (x*k).toNat) rfl) (λv hv=>?_)
  refine T.bind (dY (by simp; omega)) (λw hw=>?_)
  subst hw
  refine ApP hk hk2 hg hN hle d (x+1) _ (by omega) (by omega) (by simp; omega) ⟨?_⟩
  intro r hr
  rcases List.mem_append.1 hr with hr|hr
  ·exact hi.all r hr
  simp only[List.mem_singleton] at hr
  subst hr
  subst hv
  refine⟨by rw[List.length_drop,List.length_take]; omega,λc hc=>List.mem_of_mem_take (List.mem_of_mem_drop hc)⟩
theorem BaP {a:Arr} (hv:Val 0 a) (h:0<a.shape.length):T (tJ a) (λl=>∃k,(l.length:Int)=a.shape[0]/\(l≠[]->a.shape[0]*k=a.cells.length)/\AvA a a.shape[0] k l):=by
 unfold tJ
 have hz:=hv.i.sized
 have hd:=hv.i.dims _ (List.getElem_mem h)
 have hp:=hz.pos _ (List.getElem_mem h)
 have hg:lget a.shape 0=some a.shape[0]:=fZ (i:=0) h
 have hle:=hz.hi
 refine T.bind (T.val hg (Q:=λv=>v=a.shape[0]) rfl) (λy hy=>?_)
 subst hy
 refine T.ite (λh0=>T.ret ⟨0,?_,by simp,⟨by simp⟩⟩) (λh0=>?_)
 ·have:a.shape[0]=0:=by simpa using h0
  simp[this]
 have h0:a.shape[0]≠0:=by simpa using h0
 have hprod:=hz.prod
 have e0:a.shape=a.shape[0]::a.shape.drop 1:=by rw[←List.drop_eq_getElem_cons h]; rfl
 rw[e0] at hprod
 simp only[aL] at hprod
 have hq:(a.cells.length:Int) / a.shape[0]=aL (a.shape.drop 1):=by rw[←hprod]; exact Int.mul_ediv_cancel_left _ h0
 have hr0:0<=aL (a.shape.drop 1):=mQ λx hx=>hz.pos x (List.mem_of_mem_drop hx)
 have hr1:aL (a.shape.drop 1)<=a.cells.length:=by
  rw[←hprod]
  have:1*aL (a.shape.drop 1)<=a.shape[0]*aL (a.shape.drop 1):=Int.mul_le_mul_of_nonneg_right (by omega) hr0
  omega
 refine T.bind (T.val hg (Q:=λv=>v=a.shape[0]) rfl) (λy hy=>?_)
 subst hy
 refine T.bind (T.val (ApL (by omega) (by omega) (by omega)) (Q:=λv=>v=aL (a.shape.drop 1)) hq) (λk hk=>?_)
 subst hk
 refine T.bind (T.val hg (Q:=λv=>v=a.shape[0]) rfl) (λy hy=>?_)
 subst hy
 refine T.bind (ApP hr0 (by omega) hd hprod hle a.shape[0].toNat 0 [] (by omega) (by omega) (by simp) ⟨by simp⟩) (λl hl=>T.ret ⟨_,hl.1,λ_=>hprod,hl.2⟩)
theorem Bb1 {a:Arr} (hv:Val 0 a) {g k:Int} {l:List (List aA)} (h:AvA a g k l) (hk:l≠[]->k<=16384):∀r∈l,AnL r:=λr hr=>
 ⟨by have:=(h.all r hr).1; have:=hk (List.ne_nil_of_mem hr); omega,λc hc=>BjR (hv.i.cells c ((h.all r hr).2 c hc))⟩
theorem ApJ {a:Arr} {down:Bool} {rows:List (List aA)} (hn:rows.length<=16384):∀(d:Nat) (x:Nat) (l:List Int),x+d=rows.length->Dt rows.length rows.length l->T (lW (a,down,rows,(x:Int),l)) (Dt rows.length rows.length)
 |0,x,l,h,hl=>by
  rw[lW]
  exact T.ite (λh'=>by simp at h'; omega) (λ_=>T.ret hl)
 |d+1,x,l,h,hl=>by
  rw[lW]
  simp only[Int.toNat_natCast]
  refine T.ite (λ_=>?_) (λ_=>T.ret hl)
  refine T.bind (pG (by omega) (by omega)) (λj hj=>T.bind (hl.set hj.2 (v:=(x:Int)) (by omega)) (λl2 hl2=>?_))
  rw[aF (x:=(x:Int)+1) (by omega) (by omega)]
  exact ApJ hn d (x+1) l2 (by omega) hl2
theorem ApK {a:Arr} {down:Bool} {rows:List (List aA)} {l:List Int} (hn:rows.length<=16384) (hl:Dt rows.length rows.length l):∀(d:Nat) (x:Nat) (out:List aA),x+d=rows.length->out.length=x->(∀c∈out,uX c)->T (lX (a,down,rows,l,(x:Int),out)) (λr=>r.length=rows.length/\∀c∈r,uX c)
 |0,x,out,h,ho,hc=>by
  rw[lX]
  exact T.ite (λh'=>by simp at h'; omega) (λ_=>T.ret ⟨by omega,hc⟩)
 |d+1,x,out,h,ho,hc=>by
  rw[lX]
  simp only[Int.toNat_natCast]
  refine T.ite (λ_=>?_) (λh'=>by simp at h'; omega)
  refine T.bind (pG (by omega) (by omega)) (λj hj=>T.bind (hl.get hj.2) (λv hv=>?_))
  refine T.bind (dY (by simp; omega)) (λw hw=>?_)
  subst hw
  rw[aF (x:=(x:Int)+1) (by omega) (by omega)]
  refine ApK hn hl d (x+1) _ (by omega) (by simp[ho]) ?_
  intro y hy
  rcases List.mem_append.1 hy with hy|hy
  ·exact hc y hy
  simp only[List.mem_singleton] at hy; subst hy; exact .mk _
theorem AuD {a:Arr} {k:Int} {l:List (List aA)} {g:Int} (hz:(a.cells.length:Int)<=16384) (hl:(l.length:Int)=g) (hk:l≠[]->g*k=a.cells.length):l≠[]->k<=16384:=by
 intro hne
 have:=hk hne
 have hg:1<=g:=by have:=List.length_pos_iff.2 hne; omega
 rcases Int.lt_or_le k 0 with h|h
 ·omega
 have:1*k<=g*k:=Int.mul_le_mul_of_nonneg_right hg h
 omega
theorem BgM {a:Arr} {down:Bool} {m:Nat} (hv:Val 0 a):T (wZ a down) (Res m):=by
 unfold wZ
 refine T.ite (λ_=>T.ret (Res.err (by omega))) (λh=>?_)
 have hpos:0<a.shape.length:=by
   have:(a.shape.length:Int)≠0:=by simpa using h
   omega
 refine T.bind (Bh2 hv.fewc) (λx _=>T.ite (λ_=>T.ret (Res.err (by omega))) (λ_=>?_))
 refine T.bind (BaP hv hpos) (λrows hrows=>?_)
 obtain⟨k,h1,h2,h3⟩:=hrows
 have hd:=hv.i.dims _ (List.getElem_mem hpos)
 have hR:=Bb1 hv h3 (AuD hv.i.sized.hi h1 h2)
 have hn:rows.length<=16384:=by omega
 refine T.bind (T.val (by unfold mkarr; rw[if_pos (by omega)]) (Q:=Dt rows.length rows.length) ?_) (λby_ hby=>?_)
 ·refine⟨by simp,λv hv=>?_⟩
  have h0:=List.mem_replicate.1 hv
  simp only[Int.toNat_natCast] at h0
  omega
 refine T.bind (ApJ hn rows.length 0 by_ (by omega) hby) (λb3 hb3=>?_)
 simp only[Int.toNat_natCast]
 refine T.bind (BfB hn hR hb3) (λx3 hx3=>?_)
 refine T.bind (ApK hn hx3 rows.length 0 [] (by omega) rfl (by simp)) (λcs hcs=>?_)
 exact T.ret λ_=>AuR (by rw[hcs.1]; exact AdW (by omega) (by omega)) (by simp; omega) hcs.2
theorem At9 {s:List (List aA)} {b:List aA} (hb:AnL b) (hs:s.length<=16384):∀(d:Nat) (k:Nat),k+d=s.length->T (bR (s,b,(k:Int))) Any
 |0,k,h=>by
  rw[bR]
  exact T.ite (λh'=>by simp at h'; omega) (λ_=>T.any)
 |d+1,k,h=>by
  rw[bR]
  refine T.ite (λ_=>?_) (λ_=>T.any)
  refine T.bind (T.lget (Q:=Any) (by omega) (by omega) λ_ _=>trivial) (λy _=>?_)
  unfold uV
  refine T.bind (T.bind (AhZ hb) (λ_ _=>T.any)) (λx _=>T.ite (λ_=>T.any) (λ_=>?_))
  rw[aF (by omega) (by omega)]
  exact At9 hb hs d (k+1) (by omega)
theorem BhD {s:List (List aA)} {b:List aA} (hb:AnL b) (hs:s.length<=16384):T (cH s b) Any:=by
 unfold cH dZ
 refine T.bind (R:=Any) (T.bind (At9 hb hs s.length 0 (by omega)) (λv _=>?_)) (λ_ _=>T.any)
 match v with
 |.error _=>exact T.any
 |.ok _=>exact T.any
theorem AnI {x a:Arr} {x0:List Int} {n:Nat} {b:List Int} {rows:List (List aA)} {g k:Int} (hv:Val 0 a) (hi:AvA a g k rows) (hR:∀r∈rows,AnL r) (hg:(rows.length:Int)=g) (hgk:rows≠[]->g*k=a.cells.length) (hg2:g<=16384) (hk0:rows≠[]->0<=k) :
  ∀(d:Nat) (i:Nat) (kept:List (List aA)) (out:List aA),i+d=rows.length->kept.length<=i->(out.length:Int)=kept.length*k->(∀c∈out,c∈a.cells) ->
  T (kI (x,x0,n,b,rows,kept,(i:Int),out)) (λr=>r.1.length<=rows.length/\(r.2.length:Int)=r.1.length*k/\∀c∈r.2,c∈a.cells)
 |0,i,kept,out,h,hk,ho,hc=>by
  rw[kI]
  exact T.ite (λh'=>by simp at h'; omega) (λ_=>T.ret ⟨by simp only; omega,ho,hc⟩)
 |d+1,i,kept,out,h,hk,ho,hc=>by
  have hle:=hv.i.sized.hi
  rw[kI]
  refine T.ite (λ_=>?_) (λh'=>by simp at h'; omega)
  refine T.bind (R:=λr=>r.1.length<=i+1/\(r.2.length:Int)=r.1.length*k/\∀c∈r.2,c∈a.cells) ?_ (λr hr=>?_)
  ·refine T.bind (T.lget (Q:=λv=>v∈rows) (by omega) (by omega) λ_ h=>List.mem_of_getElem? h) (λy hy=>?_)
   have hne:=List.ne_nil_of_mem hy
   have k0:=hk0 hne
   refine T.bind (BhD (hR y hy) (by omega)) (λx4 _=>T.ite (λ_=>?_) (λ_=>T.ret ⟨by simp only; omega,ho,hc⟩))
   obtain⟨hy1,hy2⟩:=hi.all y hy
   have hkk:(kept.length:Int)*k<=g*k:=Int.mul_le_mul_of_nonneg_right (by omega) k0
   have hkg:=hgk hne
   have hk1:k<=16384:=AuD hle hg hgk hne
   refine T.bind (dY (by simp; omega)) (λw hw=>?_)
   subst hw
   refine T.bind (dY (by omega)) (λw hw=>?_)
   subst hw
   refine T.ret ⟨by simp; omega,?_,?_⟩
   ·simp only[List.length_append,List.length_singleton]
    rw[Int.natCast_add,Int.natCast_add,Int.add_mul,ho,hy1]; simp
   intro c hc'
   rcases List.mem_append.1 hc' with hc' | hc'
   ·exact hc c hc'
   exact hy2 c hc'
  obtain⟨r1,r2⟩:=r
  obtain⟨g1,g2,g3⟩:=hr
  simp only at g1 g2 g3 ⊢
  rw[aF (by omega) (by omega)]
  exact AnI hv hi hR hg hgk hg2 hk0 d (i+1) r1 r2 (by omega) g1 g2 g3
theorem AnX {a:Arr} (hv:Val 0 a) (h:a.shape=[]):Val 0 (Arr.mk [1] a.cells):=by
 obtain⟨c,hc⟩:=xP hv (by rw[h]; simp)
 refine AmB ?_ (by simp) hv.i.cells
 rw[hc]
 exact AdW (n:=1) (by omega) (by omega)
theorem AjF:∀{s:List Int} (h:0<s.length),aL s=s[0]*aL (s.drop 1)
 |d::r,_=>rfl
theorem Bf9:∀{s:List Int} {v:Int} (h:0<s.length),s.set 0 v=v::s.drop 1
 |d::r,_,_=>rfl
theorem BfG {a:Arr} {m:Nat} (hv:Val 0 a) (hm:Cw m a.cells):T (uJ a) (λr=>Val 0 r/\Cw m r.cells):=by
 unfold uJ
 refine T.bind (T.val (sV a 0 hv) (Q:=λv=>v=a) rfl) (λx hx=>?_)
 subst hx
 refine T.bind (R:=λs=>0<s.length/\Val 0 (Arr.mk s x.cells)) (T.ite (λh=>T.ret ?_) (λh=>T.ret ?_)) (λs hs=>?_)
 ·have:x.shape=[]:=List.length_eq_zero_iff.1 (by
    have:(x.shape.length:Int)=0:=by simpa using h
    omega)
  exact⟨by simp,AnX hv this⟩
 ·have:(x.shape.length:Int)≠0:=by simpa using h
  exact⟨by omega,by cases x; exact hv⟩
 obtain⟨hpos,hvs⟩:=hs
 have hz:=hvs.i.sized
 have hrk:s.length<=8:=hz.rank
 have hle:=hz.hi
 have hd0:s[0]<=16384:=hvs.i.dims _ (List.getElem_mem hpos)
 have hp0:0<=s[0]:=hz.pos _ (List.getElem_mem hpos)
 refine T.bind (Ah5 hrk) (λc hc=>?_)
 subst hc
 refine T.bind (BaP hvs hpos) (λrows hrows=>?_)
 obtain⟨k,h1,h2,h3⟩:=hrows
 have h1:(rows.length:Int)=s[0]:=h1
 have hR:=Bb1 hvs h3 (AuD hle h1 h2)
 have e0:s=s[0]::s.drop 1:=by rw[←List.drop_eq_getElem_cons hpos]; rfl
 have hprod:s[0]*aL (s.drop 1)=x.cells.length:=by
  have:=hz.prod
  have e1:aL s=s[0]*aL (s.drop 1):=AjF hpos
  rw[←e1]; exact this
 have hr0:0<=aL (s.drop 1):=mQ λd hd=>hz.pos d (List.mem_of_mem_drop hd)
 have hk:rows≠[]->k=aL (s.drop 1):=λhne=>by
  have hg:1<=s[0]:=by have:=List.length_pos_iff.2 hne; omega
  have:s[0]*k=s[0]*aL (s.drop 1):=by rw[hprod]; exact h2 hne
  exact Int.eq_of_mul_eq_mul_left (by omega) this
 refine T.bind (AnI hvs h3 hR h1 h2 hd0 (λhne=>by rw[hk hne]; exact hr0) rows.length 0 [] [] (by omega) (by simp) (by simp) (by simp)) (λr hr=>?_)
 obtain⟨kept,out⟩:=r
 obtain⟨g1,g2,g3⟩:=hr
 simp only at g1 g2 g3 ⊢
 refine T.bind (pG (n:=s.length) (by omega) (by omega)) (λj hj=>?_)
 obtain rfl:j=0:=by omega
 refine T.bind (T.val (by unfold aset; rw[if_pos hpos]) (Q:=λv=>v=(kept.length:Int)::s.drop 1) (Bf9 hpos)) (λb1 hb1=>?_)
 subst hb1
 refine T.bind (uY (by simp; omega)) (λsh hsh=>?_)
 subst hsh
 have hdim:∀d∈(kept.length:Int)::s.drop 1,0<=d/\d<=16384:=by
  intro d hd
  rcases List.mem_cons.1 hd with rfl|hd
  ·omega
  exact⟨hz.pos d (List.mem_of_mem_drop hd),hvs.i.dims d (List.mem_of_mem_drop hd)⟩
 have hlen:(out.length:Int)=kept.length*aL (s.drop 1):=by
  rcases Nat.eq_zero_or_pos kept.length with h0|h0
  ·rw[g2,h0]; simp
  rw[g2,hk (List.ne_nil_of_length_pos (by omega))]
 have hle2:(out.length:Int)<=x.cells.length:=by
  rw[hlen,←hprod]
  exact Int.mul_le_mul_of_nonneg_right (by omega) hr0
 refine T.ret (frv hvs hm ?_ (λd hd=>(hdim d hd).2) λc hc=>.inl (g3 c hc))
 have hle':(x.cells.length:Int)<=16384:=hle
 refine⟨by simp; omega,λd hd=>(hdim d hd).1,hlen.symm,by omega,by omega,λhne d hd=>⟨?_,(hdim d hd).2⟩⟩
 have hx:(x.cells.length:Int)≠0:=by omega
 rcases List.mem_cons.1 hd with rfl|hd
 ·rcases Nat.eq_zero_or_pos kept.length with h0|h0
  ·rw[hlen,h0] at hne; simp at hne
  ·omega
 exact (hz.dim hx d (List.mem_of_mem_drop hd)).1
theorem Bf7 {op:Int} {a:Arr} {m:Nat} (hm:Cw m a.cells):T (rM op a) (Res m):=by
 unfold rM
 refine T.bind (Ay0 (by unfold Few; simp)) (λe he=>?_)
 refine T.ite (λh=>T.ret (Res.err (fP h))) (λh=>?_)
 have hv:Val 0 a:=he (dW h) a (by simp)
 refine T.bind (R:=Any) (T.ite (λ_=>T.any) (λ_=>T.any)) (λx _=>?_)
 refine T.ite (λ_=>T.bind (BgM hv) (λr hr=>T.ret hr)) (λ_=>?_)
 refine T.ite (λ_=>T.bind (BfG hv hm) (λr hr=>T.ret λ_=>hr)) (λ_=>T.ret (Res.err (by omega)))
theorem AsT {s:List aA} {b:aA} (hs:AnL s):∀(d:Nat) (k:Nat),k+d=s.length->T (bV (s,b,(k:Int))) Any
 |0,k,h=>by
  rw[bV]
  exact T.ite (λh'=>by simp at h'; omega) (λ_=>T.any)
 |d+1,k,h=>by
  have:=hs.len
  rw[bV]
  refine T.ite (λ_=>?_) (λ_=>T.any)
  refine T.bind (T.lget (Q:=λv=>v∈s) (by omega) (by omega) λ_ h=>List.mem_of_getElem? h) (λy hy=>?_)
  unfold xA
  refine T.bind (T.bind (hs.all y hy b) (λ_ _=>T.any)) (λx _=>T.ite (λ_=>T.any) (λ_=>?_))
  rw[aF (by omega) (by omega)]
  exact AsT hs d (k+1) (by omega)
theorem BaX {s:List aA} {b:aA} (hs:AnL s):T (tK s b) Any:=by
 unfold tK eG
 refine T.bind (R:=Any) (T.bind (AsT hs s.length 0 (by omega)) (λv _=>?_)) (λ_ _=>T.ite (λ_=>T.any) (λ_=>T.any))
 match v with
 |.error _=>exact T.any
 |.ok _=>exact T.any
theorem Aq7 {a:Arr} (hv:Val 0 a):AnL a.cells:=⟨by have:=hv.i.sized.hi; omega,λc hc=>BjR (hv.i.cells c hc)⟩
theorem AxW {a b:Arr} {n:Nat} {b1:List Int} (hv:Val 0 a) (hb:Val 0 b):∀(d:Nat) (k:Nat) (out:List aA),k+d=b.cells.length->out.length=k->(∀c∈out,uX c)->T (qR (a,b,n,b1,(k:Int),out)) (λr=>r.length=b.cells.length/\∀c∈r,uX c)
 |0,k,out,h,ho,hc=>by
  rw[qR]
  exact T.ite (λh'=>by simp at h'; omega) (λ_=>T.ret ⟨by omega,hc⟩)
 |d+1,k,out,h,ho,hc=>by
  have hle:=hb.i.sized.hi
  rw[qR]
  refine T.ite (λ_=>?_) (λh'=>by simp at h'; omega)
  refine T.bind (T.lget (Q:=Any) (by omega) (by omega) λ_ _=>trivial) (λy _=>?_)
  refine T.bind (BaX (Aq7 hv)) (λx _=>?_)
  refine T.bind (dY (by simp; omega)) (λw hw=>?_)
  subst hw
  rw[aF (by omega) (by omega)]
  refine AxW hv hb d (k+1) _ (by omega) (by simp[ho]) ?_
  intro y hy
  rcases List.mem_append.1 hy with hy|hy
  ·exact hc y hy
  simp only[List.mem_singleton] at hy; subst hy; exact .mk _
theorem AxX {a b:Arr} {n:Nat} {b1:List Int} (hv:Val 0 a) (hb:Val 0 b):∀(d:Nat) (k:Nat) (out:List aA),k+d=a.cells.length->out.length=k->(∀c∈out,uX c)->T (qS (a,b,n,b1,(k:Int),out)) (λr=>r.length=a.cells.length/\∀c∈r,uX c)
 |0,k,out,h,ho,hc=>by
  rw[qS]
  exact T.ite (λh'=>by simp at h'; omega) (λ_=>T.ret ⟨by omega,hc⟩)
 |d+1,k,out,h,ho,hc=>by
  have hle:=hv.i.sized.hi
  rw[qS]
  refine T.ite (λ_=>?_) (λh'=>by simp at h'; omega)
  refine T.bind (T.lget (Q:=Any) (by omega) (by omega) λ_ _=>trivial) (λy _=>?_)
  refine T.bind (BaX (Aq7 hb)) (λx _=>?_)
  refine T.bind (R:=Any) (T.ite (λ_=>T.any) (λ_=>T.any)) (λv _=>?_)
  refine T.bind (dY (by simp; omega)) (λw hw=>?_)
  subst hw
  rw[aF (by omega) (by omega)]
  refine AxX hv hb d (k+1) _ (by omega) (by simp[ho]) ?_
  intro y hy
  rcases List.mem_append.1 hy with hy|hy
  ·exact hc y hy
  simp only[List.mem_singleton] at hy; subst hy; exact .mk _
theorem Bf6 {op:Int} {a b:Arr} {m:Nat}:T (AaL op a b) (Res m):=by
 unfold AaL
 refine T.bind (Ay0 (by unfold Few; simp)) (λe he=>?_)
 refine T.ite (λh=>T.ret (Res.err (fP h))) (λh=>?_)
 have hv:Val 0 a:=he (dW h) a (by simp)
 have hb:Val 0 b:=he (dW h) b (by simp)
 refine T.ite (λ_=>T.ite (λ_=>T.ret (Res.err (by omega))) (λ_=>?_)) (λ_=>T.ite (λ_=>?_) (λ_=>T.ret (Res.err (by omega))))
 ·refine T.bind (Ah5 hb.i.sized.rank) (λc hc=>?_)
  subst hc
  refine T.bind (AxW hv hb b.cells.length 0 [] (by omega) rfl (by simp)) (λcs hcs=>?_)
  refine T.bind (uY rfl) (λsh hsh=>?_)
  subst hsh
  exact T.ret λ_=>AuR (by rw[hcs.1]; exact hb.i.sized) hb.i.dims hcs.2
 refine T.bind (Ah5 hv.i.sized.rank) (λc hc=>?_)
 subst hc
 refine T.bind (AxX hv hb a.cells.length 0 [] (by omega) rfl (by simp)) (λcs hcs=>?_)
 refine T.bind (uY rfl) (λsh hsh=>?_)
 subst hsh
 exact T.ret λ_=>AuR (by rw[hcs.1]; exact hv.i.sized) hv.i.dims hcs.2
theorem sizeS_of {s:List Int} {n:Int} (h:mB s n):lJ s=(n,0):=Av5.sizeS_of h
theorem mB.of {s:List Int} {n:Int} (h8:s.length<=8) (h0:∀d∈s,0<=d/\d<=16384) (hp:aL s=n) (hn:n<=16384):mB s n:=by
 refine⟨h8,λd hd=>(h0 d hd).1,hp,by rw[←hp]; exact mQ λd hd=>(h0 d hd).1,hn,λhne d hd=>⟨?_,(h0 d hd).2⟩⟩
 have:=h0 d hd
 by_cases hz:d=0
 ·subst hz
  rw[AjG hd] at hp; omega
 omega
theorem ApT {a:Arr} (hv:Val 0 a):T (hC a) (λr=>Val 0 r/\0<r.shape.length/\r.cells=a.cells):=by
 unfold hC
 refine T.bind (R:=λs=>0<s.length/\Val 0 (Arr.mk s a.cells)) (T.ite (λh=>T.ret ?_) (λh=>T.ret ?_)) (λs hs=>T.ret ⟨hs.2,hs.1,rfl⟩)
 ·have:a.shape=[]:=List.length_eq_zero_iff.1 (by
   have:(a.shape.length:Int)=0:=by simpa using h
   omega)
  exact⟨by simp,AnX hv this⟩
 have:(a.shape.length:Int)≠0:=by simpa using h
 exact⟨by omega,by cases a; exact hv⟩
theorem BeQ {a:Arr} (hv:Val 0 a):T (uI a) Any:=by
 unfold uI
 refine T.ite (λ_=>T.any) (λh=>?_)
 obtain⟨c,hc⟩:=xP hv (by simpa using h)
 rw[hc]
 refine T.bind (jR (Q:=Any) trivial) (λ_ _=>T.ite (λ_=>T.any) (λ_=>?_))
 exact T.bind (jR (Q:=Any) trivial) (λ_ _=>T.any)
def AmF (c:aA):Prop:=uX c\/c=aA.mk 1 32 []
theorem AmF.chk {c:aA} (h:AmF c):Ae2 c 0=0:=by
 rcases h with h|rfl
 ·exact h.chk 0
 rfl
theorem AmF.w {c:aA} (h:AmF c):wC c=0:=by
 rcases h with h|rfl
 ·exact h.w
 rfl
theorem BeC {a:Arr}:T (uG a) (λr=>AmF r.1):=by
 unfold uG
 refine T.ite (λ_=>T.ret (.inl (.mk _))) (λh=>?_)
 cases hc:a.cells with
 |nil=>rw[hc] at h; simp at h
 |cons c r=>
  refine T.bind (jR (Q:=Any) trivial) (λ_ _=>T.ite (λ_=>T.ret (.inl (.mk _))) (λ_=>?_))
  exact T.bind (jR (Q:=Any) trivial) (λ_ _=>T.ite (λ_=>T.ret (.inr rfl)) (λ_=>T.ret (.inl (.mk _))))
theorem An1 {a:Arr} {l:List Int} (hf:Few l):∀(r:List Int) (k:Nat) (n:Int),l.drop k=r->lQ (a,l,n,(k:Int))=some (dS n r)
 | [],k,n,h=>by
  rw[lQ]; simp only[bY (cC h),fJ,if_false,dS]
 |d::r,k,n,h=>by
  have hk:=cD h
  rw[lQ]
  simp only[cU hk,if_true,bC h,oJ,bJ,bP h hf,dS]
  exact An1 hf r (k+1) _ (aS h)
theorem AuA {a:Arr} (h8:a.shape.length<=8) (h:0<a.shape.length):T (qQ a) (λk=>k=dS 1 (a.shape.drop 1)):=by
 unfold qQ
 refine T.bind (T.lfrom (Q:=λv=>v=a.shape.drop 1) (by omega) (by omega) rfl) (λl hl=>?_)
 subst hl
 exact T.bind (T.val (An1 (by unfold Few; simp; omega) (a.shape.drop 1) 0 1 rfl) (Q:=λv=>v=dS 1 (a.shape.drop 1)) rfl) (λv hv=>T.ret hv)
theorem AqC {a:Arr} (hv:Val 0 a) (h:0<a.shape.length) (hne:a.shape[0]≠0):mB (a.shape.drop 1) (aL (a.shape.drop 1))/\a.shape[0]*aL (a.shape.drop 1)=a.cells.length:=by
 have hz:=hv.i.sized
 have hp0:=hz.pos _ (List.getElem_mem h)
 have hprod:a.shape[0]*aL (a.shape.drop 1)=a.cells.length:=by rw[←AjF h]; exact hz.prod
 have hr0:0<=aL (a.shape.drop 1):=mQ λd hd=>hz.pos d (List.mem_of_mem_drop hd)
 have:1*aL (a.shape.drop 1)<=a.shape[0]*aL (a.shape.drop 1):=Int.mul_le_mul_of_nonneg_right (by omega) hr0
 have hle:=hz.hi
 have h8:=hz.rank
 exact⟨mB.of (by simp; omega) (λd hd=>⟨hz.pos d (List.mem_of_mem_drop hd),hv.i.dims d (List.mem_of_mem_drop hd)⟩) rfl (by omega),hprod⟩
theorem AdE {a:Arr} {f n:Int} {m:Nat} (hv:Val 0 a) (hm:Cw m a.cells) (h:0<a.shape.length) (h0:0<=f) (h1:0<=n) (h2:f+n<=a.shape[0]):T (kO a f n) (λr=>Val 0 r/\Cw m r.cells):=by
 unfold kO
 have hz:=hv.i.sized
 have h8:=hz.rank
 have hd0:=hv.i.dims _ (List.getElem_mem h)
 have hle:=hz.hi
 refine T.bind (AuA h8 h) (λk hk=>?_)
 refine T.bind (T.lfrom (Q:=λv=>v=a.shape.drop 1) (by omega) (by omega) rfl) (λl hl=>?_)
 subst hl
 refine T.bind (dY (by simp; omega)) (λl1 hl1=>?_)
 subst hl1
 have hdims:∀d∈[n]++a.shape.drop 1,0<=d/\d<=16384:=by
  intro d hd
  rcases List.mem_cons.1 hd with rfl|hd
  ·omega
  exact⟨hz.pos d (List.mem_of_mem_drop hd),hv.i.dims d (List.mem_of_mem_drop hd)⟩
 have key:∃p:Int,0<=p/\n*k=n*p/\f*k=f*p/\(f+n)*k=f*p+n*p/\0<=n*p/\0<=f*p/\f*p+n*p<=a.cells.length/\aL ([n]++a.shape.drop 1)=n*p:=by
  by_cases hne:a.shape[0]=0
  ·have hf:f=0:=by omega
   have hn:n=0:=by omega
   subst hf; subst hn
   refine⟨0,by omega,by simp,by simp,by simp,by simp,by simp,by simp,by simp[aL]⟩
  obtain⟨hs,hp⟩:=AqC hv h hne
  rw[jW hs] at hk
  subst hk
  have:(f+n)*aL (a.shape.drop 1)<=a.shape[0]*aL (a.shape.drop 1):=Int.mul_le_mul_of_nonneg_right h2 hs.lo
  rw[hp,Int.add_mul] at this
  exact⟨_,hs.lo,rfl,rfl,Int.add_mul ..,Int.mul_nonneg h1 hs.lo,Int.mul_nonneg h0 hs.lo,this,rfl⟩
 obtain⟨p,_,e1,e2,e3,g1,g2,g3,g4⟩:=key
 rw[aF (x:=f+n) (by omega) (by omega),e1,e2,e3,aF (x:=n*p) (by omega) (by omega),aF (x:=f*p) (by omega) (by omega),aF (x:=f*p+n*p) (by omega) (by omega)]
 refine T.bind (T.val (by unfold mkarr; rw[if_pos (by omega)]) (Q:=λv=>v.length=(n*p).toNat) (by simp)) (λl2 hl2=>?_)
 refine T.bind (T.val (by unfold AfH; rw[if_pos ⟨g2,by omega,by omega⟩]) (Q:=λv=>v=(a.cells.take (f*p+n*p).toNat).drop (f*p).toNat) rfl) (λl3 hl3=>?_)
 have h3:l3.length=(n*p).toNat:=by subst hl3; rw[List.length_drop,List.length_take]; omega
 refine T.bind (T.val (by unfold BaR; rw[if_pos ⟨hl2,by omega⟩]) (Q:=λv=>v=l3) (by rw[List.drop_of_length_le (by omega)]; simp)) (λl4 hl4=>?_)
 subst hl4
 refine T.bind (uY h3) (λcs hcs=>?_)
 subst hcs
 refine T.ret (frv hv hm ?_ (λd hd=>(hdims d hd).2) λc hc=>.inl ?_)
 ·refine mB.of (by simp; omega) hdims ?_ (by omega)
  rw[g4]; omega
 subst hl3
 exact List.mem_of_mem_take (List.mem_of_mem_drop hc)
theorem BiM {a:Arr} {n:Int} {m:Nat} (hv:Val 0 a) (hm:Cw m a.cells):T (zC n a) (λr=>Val 0 r/\Cw m r.cells):=by
 unfold zC
 refine T.bind (ApT hv) (λx hx=>?_)
 obtain⟨hvx,hpos,hc⟩:=hx
 have hmx:Cw m x.cells:=by rw[hc]; exact hm
 have hp0:=hvx.i.sized.pos _ (List.getElem_mem hpos)
 have hd0:=hvx.i.dims _ (List.getElem_mem hpos)
 refine T.bind (T.val (fZ (i:=0) hpos) (Q:=λv=>v=x.shape[0]) rfl) (λg hg=>?_)
 subst hg
 refine T.ite (λ_=>T.bind (AdE hvx hmx hpos (by omega) (by omega) (by omega)) (λr hr=>T.ret hr)) (λh1=>?_)
 rw[aF (x:=(0:Int)-x.shape[0]) (by omega) (by omega)]
 refine T.ite (λ_=>T.bind (AdE hvx hmx hpos (by omega) (by omega) (by omega)) (λr hr=>T.ret hr)) (λh2=>?_)
 have h1:n<x.shape[0]:=by simpa using h1
 have h2:(0:Int)-x.shape[0]<n:=by simpa using h2
 rw[aF (x:=x.shape[0]+n) (by omega) (by omega),aF (x:=x.shape[0]-n) (by omega) (by omega)]
 refine T.ite (λh3=>?_) (λh3=>?_)
 ·have h3:n<0:=by simpa using h3
  exact T.bind (AdE hvx hmx hpos (by omega) (by omega) (by omega)) (λr hr=>T.ret hr)
 have h3:0<=n:=by simpa using h3
 exact T.bind (AdE hvx hmx hpos (by omega) (by omega) (by omega)) (λr hr=>T.ret hr)
theorem At7 {n hv x5:Int} {x:Arr} {sh:List Int} {x4:aA} {N:Nat} (hN:N=Int.toNat (w64 ((w64 ((if n<(w64 (0-n)) then (w64 (0-n)) else n)-hv))*x5))) (hN2:N<=16384) (hf:AmF x4) :
  ∀(d:Nat) (i:Nat) (l:List aA),i+d=N->l.length=N->(∀c∈l,AmF c)->T (nR (n,x,hv,sh,x4,x5,(i:Int),l)) (λr=>r.length=N/\∀c∈r,AmF c)
 |0,i,l,h,hl,hc=>by
  rw[nR,←hN]
  exact T.ite (λh'=>by simp at h'; omega) (λ_=>T.ret ⟨hl,hc⟩)
 |d+1,i,l,h,hl,hc=>by
  rw[nR,←hN]
  refine T.ite (λ_=>?_) (λ_=>T.ret ⟨hl,hc⟩)
  refine T.bind (pG (n:=N) (by omega) (by omega)) (λj hj=>?_)
  refine T.bind (T.val (by unfold aset; rw[if_pos (by omega)]) (Q:=λv=>v=l.set j x4) rfl) (λl2 hl2=>?_)
  subst hl2
  rw[aF (x:=(i:Int)+1) (by omega) (by omega)]
  refine At7 hN hN2 hf d (i+1) _ (by omega) (by simp[hl]) ?_
  intro c hc'
  rcases List.mem_or_eq_of_mem_set hc' with hc' | rfl
  ·exact hc c hc'
  exact hf
theorem BjA {a:Arr} {n:Int} {m:Nat} (hv:Val 0 a) (hm:Cw m a.cells):T (zE n a) (Res m):=by
 unfold zE
 refine T.bind (ApT hv) (λx hx=>?_)
 obtain⟨hvx,hpos,hc⟩:=hx
 have hmx:Cw m x.cells:=by rw[hc]; exact hm
 have hzx:=hvx.i.sized
 have hp0:=hzx.pos _ (List.getElem_mem hpos)
 have hd0:=hvx.i.dims _ (List.getElem_mem hpos)
 have h8:=hzx.rank
 have hle:=hzx.hi
 refine T.ite (λ_=>T.ret (Res.err (by omega))) (λh1=>T.ite (λ_=>T.ret (Res.err (by omega))) (λh2=>?_))
 have h1:n<=16384:=by simpa using h1
 have h2:-16384<=n:=by simpa using h2
 refine T.bind (T.val (fZ (i:=0) hpos) (Q:=λv=>v=x.shape[0]) rfl) (λg hg=>?_)
 subst hg
 refine T.bind (T.lfrom (Q:=λv=>v=x.shape.drop 1) (by omega) (by omega) rfl) (λl hl=>?_)
 subst hl
 obtain⟨N,hN⟩:∃N,N=(if n<(w64 (0-n)) then (w64 (0-n)) else n):=⟨_,rfl⟩
 have hN':=hN
 rw[aF (x:=0-n) (by omega) (by omega)] at hN'
 have N0:0<=N:=by split at hN'<;>omega
 have N1:N<=16384:=by split at hN'<;>omega
 rw[←hN]
 refine T.bind (dY (by simp; omega)) (λsh hsh=>?_)
 subst hsh
 refine T.bind (T.val (Aa1 _) (Q:=λv=>v=lJ ([N]++x.shape.drop 1)) rfl) (λz hz=>?_)
 obtain⟨z1,z2⟩:=z
 refine T.ite (λhe=>T.ret (Res.err (fP he))) (λhe=>?_)
 have hS:mB ([N]++x.shape.drop 1) z1:=by
  have h':z2=0:=dW he
  have:=uO (s:=[N]++x.shape.drop 1) (by rw[←hz]; exact h')
  rw[←hz] at this; exact this
 have hdims:∀d∈[N]++x.shape.drop 1,d<=16384:=by
  intro d hd
  rcases List.mem_cons.1 hd with rfl|hd
  ·exact N1
  exact hvx.i.dims d (List.mem_of_mem_drop hd)
 refine T.ite (λh3=>?_) (λh3=>?_)
 ·have h3:N<=x.shape[0]:=by simpa using h3
  rw[aF (x:=x.shape[0]-N) (by omega) (by omega)]
  exact T.ite (λ_=>T.bind (AdE hvx hmx hpos (by omega) (by omega) (by omega)) (λr hr=>T.ret λ_=>hr)) (λ_=>T.bind (AdE hvx hmx hpos (by omega) (by omega) (by omega)) (λr hr=>T.ret λ_=>hr))
 have h3:x.shape[0]<N:=by simpa using h3
 refine T.bind BeC (λfc hfc=>?_)
 obtain⟨x4,e1⟩:=fc
 refine T.ite (λhe=>T.ret (Res.err (fP he))) (λ_=>?_)
 refine T.bind (AuA h8 hpos) (λk hk=>?_)
 have hp:aL (x.shape.drop 1)=k/\0<=k/\z1=N*k/\x.shape[0]*k=x.cells.length:=by
  have hr0:0<=aL (x.shape.drop 1):=mQ λd hd=>hzx.pos d (List.mem_of_mem_drop hd)
  have hz1:=hS.prod
  have hz2:=hS.hi
  simp only[List.singleton_append,aL] at hz1
  have:1*aL (x.shape.drop 1)<=N*aL (x.shape.drop 1):=Int.mul_le_mul_of_nonneg_right (by omega) hr0
  have hs:mB (x.shape.drop 1) (aL (x.shape.drop 1)):=mB.of (by simp; omega) (λd hd=>⟨hzx.pos d (List.mem_of_mem_drop hd),hvx.i.dims d (List.mem_of_mem_drop hd)⟩) rfl (by omega)
  rw[jW hs] at hk
  subst hk
  exact⟨rfl,hr0,hz1.symm,by rw[←AjF hpos]; exact hzx.prod⟩
 obtain⟨_,k0,hz1,hxc⟩:=hp
 have hz2:=hS.hi
 have hNk:(N-x.shape[0])*k=N*k-x.shape[0]*k:=Int.sub_mul ..
 have hx0:0<=x.shape[0]*k:=Int.mul_nonneg hp0 k0
 have hNk0:0<=(N-x.shape[0])*k:=Int.mul_nonneg (by omega) k0
 have eW:w64 ((w64 (N-x.shape[0]))*k)=(N-x.shape[0])*k:=by rw[aF (x:=N-x.shape[0]) (by omega) (by omega),aF (by omega) (by omega)]
 refine T.bind (T.val (by unfold mkarr; rw[eW,if_pos (by omega)]) (Q:=λv=>v=List.replicate ((N-x.shape[0])*k).toNat (aA.mk 0 0 [])) rfl) (λmore hmore=>?_)
 subst hmore
 refine T.bind (At7 (N:=((N-x.shape[0])*k).toNat) (by rw[←hN,eW]) (by omega) hfc ((N-x.shape[0])*k).toNat 0 _ (by omega) (by simp) (λc hc=>.inl (by rw[(List.mem_replicate.1 hc).2]; exact .mk _))) (λl3 hl3=>?_)
 rw[eW]
 have fin:∀cs:List aA,cs.length=l3.length+x.cells.length->(∀c∈cs,c∈l3\/c∈x.cells)->Val 0 (Arr.mk ([N]++x.shape.drop 1) cs)/\Cw m (Arr.mk ([N]++x.shape.drop 1) cs).cells:=by
  intro cs h1 h2
  refine⟨AmB ?_ hdims λc hc=>?_,λc hc=>?_⟩
  ·rw[show (cs.length:Int)=z1 by have:=hl3.1; omega]; exact hS
  ·rcases h2 c hc with h|h
   ·exact (hl3.2 c h).chk
   ·exact hvx.i.cells c h
  rcases h2 c hc with h|h
  ·rw[(hl3.2 c h).w]; omega
  exact hmx c h
 have hl31:=hl3.1
 refine T.ite (λ_=>?_) (λ_=>?_)
 ·refine T.bind (uY hl3.1) (λl1 hl1=>?_)
  subst hl1
  refine T.bind (dY (by omega)) (λl2 hl2=>?_)
  subst hl2
  exact T.ret λ_=>fin _ (by simp) (λc hc=>List.mem_append.1 hc)
 refine T.bind (uY hl3.1) (λl1 hl1=>?_)
 subst hl1
 refine T.bind (dY (by simp; omega)) (λl2 hl2=>?_)
 subst hl2
 refine T.bind (dY (by simp; omega)) (λl4 hl4=>?_)
 subst hl4
 exact T.ret λ_=>fin _ (by simp; omega) (λc hc=>(List.mem_append.1 hc).symm.imp id (λh=>by simpa using h))
theorem AiN {a:Arr} {n ax:Int} {l:List Int} (hf:Few l):∀(r:List Int) (k:Nat) (z:Int),l.drop k=r->jM (n,a,ax,l,z,(k:Int))=some (dS z r)
 | [],k,z,h=>by
  rw[jM]; simp only[bY (cC h),fJ,if_false,dS]
 |d::r,k,z,h=>by
  have hk:=cD h
  rw[jM]
  simp only[cU hk,if_true,bC h,oJ,bJ,bP h hf,dS]
  exact AiN hf r (k+1) _ (aS h)
theorem Al4 {a:Arr} {s g o j:Int} (hs:0<s) (hg:0<g) (hj:0<=j) (hj2:j<g) (hN:o*(g*s)=a.cells.length) (hle:(a.cells.length:Int)<=16384):∀(d:Nat) (x:Int) (out:List aA),0<=x->x+d=o->(out.length:Int)=x*(g*s)->(∀c∈out,c∈a.cells) ->
  T (jN (a,s,g,j,x*(g*s),out)) (λr=>r.length=a.cells.length/\∀c∈r,c∈a.cells)
 |0,x,out,h0,hd,hl,hc=>by
  rw[jN]
  have:x=o:=by omega
  subst this
  exact T.ite (λh'=>by simp at h'; omega) (λ_=>T.ret ⟨by omega,hc⟩)
 |d+1,x,out,h0,hd,hl,hc=>by
  have hgs:0<g*s:=Int.mul_pos hg hs
  have h1:0<=x*(g*s):=Int.mul_nonneg h0 (by omega)
  have h2:(x+1)*(g*s)<=o*(g*s):=Int.mul_le_mul_of_nonneg_right (by omega) (by omega)
  have h3:(x+1)*(g*s)=x*(g*s)+g*s:=by rw[Int.add_mul,Int.one_mul]
  have h4:0<=j*s:=Int.mul_nonneg hj (by omega)
  have h5:j*s<=g*s:=Int.mul_le_mul_of_nonneg_right (by omega) (by omega)
  rw[jN]
  refine T.ite (λ_=>?_) (λh'=>by simp at h'; omega)
  rw[aF (x:=g*s) (by omega) (by omega),aF (x:=x*(g*s)+g*s) (by omega) (by omega),aF (x:=j*s) (by omega) (by omega)]
  refine T.bind (T.val (by unfold AfH; rw[if_pos ⟨h1,by omega,by omega⟩]) (Q:=λv=>(v.length:Int)=g*s/\∀c∈v,c∈a.cells) ⟨by rw[List.length_drop,List.length_take]; omega,λc hc=>List.mem_of_mem_take (List.mem_of_mem_drop hc)⟩) (λblk hb=>?_)
  refine T.bind (T.lfrom (Q:=λv=>v=blk.drop (j*s).toNat) h4 (by omega) rfl) (λl1 hl1=>?_)
  subst hl1
  refine T.bind (dY (by simp; omega)) (λl2 hl2=>?_)
  subst hl2
  refine T.bind (T.val (by unfold lto; rw[if_pos ⟨h4,by omega⟩]) (Q:=λv=>v=blk.take (j*s).toNat) rfl) (λl3 hl3=>?_)
  subst hl3
  refine T.bind (dY (by simp; omega)) (λl4 hl4=>?_)
  subst hl4
  rw[←h3]
  refine Al4 hs hg hj hj2 hN hle d (x+1) _ (by omega) (by omega) (by rw[h3]; simp; omega) ?_
  intro c hc'
  rcases List.mem_append.1 hc' with hc' | hc'
  ·rcases List.mem_append.1 hc' with hc' |hc'
   ·exact hc c hc'
   ·exact hb.2 c (List.mem_of_mem_drop hc')
  exact hb.2 c (List.mem_of_mem_take hc')
theorem BfD {n g:Int} (hg:0<g):-g<n.tmod g/\n.tmod g<g:=by
 refine⟨?_,Int.tmod_lt_of_pos _ hg⟩
 have:=Int.tmod_lt_of_pos (-n) hg
 rw[Int.neg_tmod] at this; omega
theorem AsY {a:Arr} {n:Int} {k:Nat} {m:Nat} (hv:Val 0 a) (hm:Cw m a.cells) (hk:k<a.shape.length\/a.shape=[]):T (p_pick_rotated n a (k:Int)) (λr=>Val 0 r/\Cw m r.cells):=by
 unfold p_pick_rotated
 refine T.ite (λ_=>T.ret ⟨hv,hm⟩) (λhc=>T.ite (λ_=>T.ret ⟨hv,hm⟩) (λh0=>?_))
 have hc:(a.cells.length:Int)≠0:=by simpa using hc
 have h0:(a.shape.length:Int)≠0:=by simpa using h0
 have hk:k<a.shape.length:=by
  rcases hk with hk|hk
  ·exact hk
  rw[hk] at h0; simp at h0
 have hz:=hv.i.sized
 have hrk:=hz.rank
 have e0:a.shape=a.shape.take k++([a.shape[k]]++a.shape.drop (k+1)):=by
  rw[List.singleton_append,←List.drop_eq_getElem_cons hk,List.take_append_drop]
 have hz':=hz
 rw[e0] at hz'
 obtain⟨p1,p2,p3,p4⟩:=pE hz' hc
 obtain⟨q1,q2,q3,q4⟩:=pE p2 (by omega)
 have hp:=hz'.prod
 rw[fX,fX] at hp
 simp only[aL,Int.mul_one] at hp q1 q3
 rw[show w64 ((k:Int)+1)=((k+1:Nat):Int) from by rw[aF (by omega) (by omega)]; rfl]
 refine T.bind (T.val (v:=a.shape.drop (k+1)) (by unfold lfrom; rw[if_pos (by omega)]; simp) (Q:=λv=>v=a.shape.drop (k+1)) rfl) (λl hl=>?_)
 subst hl
 refine T.bind (T.val (AiN (by unfold Few; simp; omega) (a.shape.drop (k+1)) 0 1 rfl) (Q:=λv=>v=aL (a.shape.drop (k+1))) (jW q2)) (λs hs=>?_)
 subst hs
 refine T.bind (T.val (fZ hk) (Q:=λv=>v=a.shape[k]) rfl) (λg hg=>?_)
 subst hg
 have hd:=hv.i.dims _ (List.getElem_mem hk)
 have hlim:=BfD (n:=n) q3
 refine T.bind (T.val (by unfold irem; rw[if_neg (by omega)]) (Q:=λv=>v=n.tmod a.shape[k]) rfl) (λt ht=>?_)
 subst ht
 refine T.bind (R:=λj=>0<=j/\j<a.shape[k]) (T.ite (λh=>?_) (λh=>?_)) (λj hj=>?_)
 ·have h:n.tmod a.shape[k]<0:=by simpa using h
  rw[aF (by omega) (by omega)]
  exact T.ret (by omega)
 ·have h:0<=n.tmod a.shape[k]:=by simpa using h
  exact T.ret ⟨h,hlim.2⟩
 have t:=Al4 (a:=a) (s:=aL (a.shape.drop (k+1))) (g:=a.shape[k]) (o:=aL (a.shape.take k)) (j:=j) q4 q3 hj.1 hj.2 hp hz.hi (aL (a.shape.take k)).toNat 0 [] (by omega) (by omega) (by simp) (by simp)
 rw[Int.zero_mul] at t
 exact T.bind t (λr hr=>T.ret (frv hv hm (by rw[hr.1]; exact hz) hv.i.dims λc hc=>.inl (hr.2 c hc)))
theorem AsD {l a:Arr} (hl:Val 0 l) (h:0<a.shape.length):∀(r:List aA) (k:Nat),l.cells.drop k=r->(∀c∈l.cells.take k,0<=c.n/\c.n<a.shape[0])->T (nO (l,a,(k:Int))) (λr=>match r with|.error r=>r.2≠0|.ok _=>∀c∈l.cells,0<=c.n/\c.n<a.shape[0])
 | [],k,hd,hc=>by
  rw[nO]
  simp only[bY (cC hd),fJ,if_false]
  have:=List.drop_eq_nil_iff.1 hd
  rw[List.take_of_length_le this] at hc
  exact T.ret hc
 |c::r,k,hd,hc=>by
  have hk:=cD hd
  rw[nO]
  simp only[cU hk,if_true,bC hd,oJ,bJ,bP hd hl.fewc]
  refine T.ite (λ_=>T.ret (by simp)) (λ_=>T.ite (λ_=>T.ret (by simp)) (λh1=>?_))
  refine T.bind (T.val (fZ (i:=0) h) (Q:=λv=>v=a.shape[0]) rfl) (λg hg=>?_)
  subst hg
  refine T.ite (λ_=>T.ret (by simp)) (λh2=>?_)
  have h1:0<=c.n:=by simpa using h1
  have h2:c.n<a.shape[0]:=by simpa using h2
  refine AsD hl h r (k+1) (aS hd) ?_
  intro x hx
  rw[List.take_add_one,List.mem_append] at hx
  rcases hx with hx|hx
  ·exact hc x hx
  have hdk:l.cells[k]?=some c:=by
   rw[List.drop_eq_getElem_cons (by omega)] at hd
   obtain⟨hd,_⟩:=List.cons.inj hd
   rw[←hd]; simp[show k<l.cells.length by omega]
  rw[hdk] at hx
  simp only[Option.toList_some,List.mem_singleton] at hx
  subst hx
  exact⟨h1,h2⟩
theorem AsE {l a:Arr} {sh:List Int} {k:Int} (hl:Val 0 l) (ha:Val 0 a) (h:0<a.shape.length) (hc:∀c∈l.cells,0<=c.n/\c.n<a.shape[0]) (hk:0<=k) (hN:a.shape[0]*k=a.cells.length) (hT:l.cells.length*k<=16384) :
  ∀(r:List aA) (i:Nat) (out:List aA),l.cells.drop i=r->i<=l.cells.length->(out.length:Int)=i*k->(∀c∈out,c∈a.cells)->T (kW (l,a,sh,k,(i:Int),out)) (λr=>(r.length:Int)=l.cells.length*k/\∀c∈r,c∈a.cells)
 | [],i,out,hd,hi,ho,hm=>by
  rw[kW]
  simp only[bY (cC hd),fJ,if_false]
  have:=List.drop_eq_nil_iff.1 hd
  exact T.ret ⟨by rw[ho,show i=l.cells.length by omega],hm⟩
 |c::r,i,out,hd,hi,ho,hm=>by
  have hik:=cD hd
  have hle:=ha.i.sized.hi
  have hcm:=hc c (List.mem_of_mem_drop (i:=i) (by rw[hd]; simp))
  have hd0:=ha.i.dims _ (List.getElem_mem h)
  rw[kW]
  simp only[cU hik,if_true,bC hd,oJ,bJ,bP hd hl.fewc]
  have h1:0<=c.n*k:=Int.mul_nonneg hcm.1 hk
  have h2:(c.n+(1:Int))*k<=a.shape[0]*k:=Int.mul_le_mul_of_nonneg_right (by omega) hk
  have h3:(c.n+1)*k=c.n*k+k:=by rw[Int.add_mul,Int.one_mul]
  have h4:((i:Int)+1)*k<=l.cells.length*k:=Int.mul_le_mul_of_nonneg_right (by omega) hk
  have h5:((i:Int)+1)*k=i*k+k:=by rw[Int.add_mul,Int.one_mul]
  rw[aF (x:=c.n+1) (by omega) (by omega),aF (x:=c.n*k) (by omega) (by omega),aF (x:=(c.n+1)*k) (by omega) (by omega)]
  refine T.bind (T.val (by unfold AfH; rw[if_pos ⟨h1,by omega,by omega⟩]) (Q:=λv=>(v.length:Int)=k/\∀c∈v,c∈a.cells) ⟨by rw[List.length_drop,List.length_take]; omega,λc hc=>List.mem_of_mem_take (List.mem_of_mem_drop hc)⟩) (λblk hb=>?_)
  refine T.bind (dY (by omega)) (λl5 hl5=>?_)
  subst hl5
  refine AsE hl ha h hc hk hN hT r (i+1) _ (aS hd) (by omega) (by simp only[List.length_append,Int.natCast_add,Int.natCast_one]; omega) ?_
  intro x hx
  rcases List.mem_append.1 hx with hx|hx
  ·exact hm x hx
  exact hb.2 x hx
theorem BeE {l a:Arr} {m:Nat} (hl:Val 0 l) (ha:Val 0 a) (hm:Cw m a.cells):T (vV l a) (Res m):=by
 unfold vV
 refine T.ite (λ_=>T.ret (Res.err (by omega))) (λh0=>T.ite (λ_=>T.ret (Res.err (by omega))) (λ_=>?_))
 have hpos:0<a.shape.length:=by
     have:(a.shape.length:Int)≠0:=by simpa using h0
     omega
 have hzl:=hl.i.sized
 have hza:=ha.i.sized
 have hrl:=hzl.rank
 have hra:=hza.rank
 have hll:=hzl.hi
 refine T.bind (AsD hl hpos l.cells 0 rfl (by simp)) (λv hv=>?_)
 match v,hv with
 |.error r,h=>exact T.ret λh'=>absurd h' h
 |.ok _,hc=>
  refine T.bind (dY (by simp; omega)) (λl1 hl1=>?_)
  subst hl1
  refine T.bind (T.lfrom (Q:=λv=>v=a.shape.drop 1) (by omega) (by omega) rfl) (λl2 hl2=>?_)
  subst hl2
  refine T.bind (dY (by simp; omega)) (λl3 hl3=>?_)
  subst hl3
  rw[List.nil_append]
  refine T.bind (T.val (Aa1 _) (Q:=λv=>v=lJ (l.shape++a.shape.drop 1)) rfl) (λz hz=>?_)
  obtain⟨z1,z2⟩:=z
  refine T.ite (λhe=>T.ret (Res.err (fP he))) (λhe=>?_)
  have hS:mB (l.shape++a.shape.drop 1) z1:=by
   have h':z2=0:=dW he
   have:=uO (s:=l.shape++a.shape.drop 1) (by rw[←hz]; exact h')
   rw[←hz] at this; exact this
  have hdims:∀d∈l.shape++a.shape.drop 1,d<=16384:=by
   intro d hd
   rcases List.mem_append.1 hd with hd|hd
   ·exact hl.i.dims d hd
   exact ha.i.dims d (List.mem_of_mem_drop hd)
  refine T.bind (AuA hra hpos) (λk hk=>?_)
  have hzp:=hS.prod
  rw[fX,hzl.prod] at hzp
  have fin:∀cs:List aA,(cs.length:Int)=z1->(∀c∈cs,c∈a.cells)->Val 0 (Arr.mk (l.shape++a.shape.drop 1) cs)/\Cw m (Arr.mk (l.shape++a.shape.drop 1) cs).cells:=λcs h1 h2=>frv ha hm (by rw[h1]; exact hS) hdims λc hc=>.inl (h2 c hc)
  by_cases hne:l.cells=[]
  ·rw[kW]
   rw[if_neg (by rw[hne]; simp)]
   refine T.bind (T.ret (Q:=λv=>v=[]) rfl) (λv hv=>?_)
   subst hv
   exact T.ret λ_=>fin [] (by rw[←hzp,hne]; simp) (by simp)
  obtain⟨c,hcm⟩:=List.exists_mem_of_ne_nil _ hne
  have hg:=hc c hcm
  obtain⟨hs,hp⟩:=AqC ha hpos (by omega)
  rw[jW hs] at hk
  subst hk
  have hz2:=hS.hi
  refine T.bind (AsE hl ha hpos hc hs.lo hp (by omega) l.cells 0 [] rfl (by omega) (by simp) (by simp)) (λr hr=>?_)
  exact T.ret λ_=>fin r (by rw[hr.1,hzp]) hr.2
def rR:List Int->Int
 | []=>0
 |d::r=>d+rR r
theorem AyA:∀l m:List Int,rR (l++m)=rR l+rR m
 | [],m=>by simp[rR]
 |d::r,m=>by simp only[List.cons_append,rR,AyA r m]; omega
theorem sU:∀{l:List Int},(∀d∈l,0<=d)->0<=rR l
 | [],_=>by simp[rR]
 |d::r,h=>by have:=h d (by simp); have:=sU (l:=r) λx hx=>h x (by simp[hx]); simp only[rR]; omega
theorem AqF {m:Arr} {n:Int} (hm:Val 0 m):∀(r:List aA) (k:Nat),m.cells.drop k=r->(∀c∈m.cells.take k,0<=c.n)->T (lR (m,n,(k:Int))) (λr=>match r with|.error r=>r.2≠0|.ok _=>∀c∈m.cells,0<=c.n)
 | [],k,hd,hc=>by
  rw[lR]
  simp only[bY (cC hd),fJ,if_false]
  have:=List.drop_eq_nil_iff.1 hd
  rw[List.take_of_length_le this] at hc
  exact T.ret hc
 |c::r,k,hd,hc=>by
  have hk:=cD hd
  rw[lR]
  simp only[cU hk,if_true,bC hd,oJ,bJ,bP hd hm.fewc]
  refine T.ite (λ_=>T.ret (by simp)) (λ_=>T.ite (λ_=>T.ret (by simp)) (λh1=>?_))
  have h1:0<=c.n:=by simpa using h1
  refine AqF hm r (k+1) (aS hd) ?_
  intro x hx
  rw[List.take_add_one,List.mem_append] at hx
  rcases hx with hx|hx
  ·exact hc x hx
  have hdk:m.cells[k]?=some c:=by
   rw[List.drop_eq_getElem_cons (by omega)] at hd
   obtain⟨hd,_⟩:=List.cons.inj hd
   rw[←hd]; simp[show k<m.cells.length by omega]
  rw[hdk] at hx
  simp only[Option.toList_some,List.mem_singleton] at hx
  subst hx
  exact h1
structure Tm (N k:Nat) (all:Int) (l:List Int):Prop where
 len:l.length=N
 pos:∀v∈l.take k,0<=v
 sum:rR (l.take k)=all
 le:all<=16384
theorem Tm.next {N k:Nat} {all c:Int} {l:List Int} (h:Tm N k all l) (hk:k<N) (h0:0<=c) (h1:all+c<=16384):Tm N (k+1) (all+c) (l.set k c):=by
 have e:(l.set k c).take (k+1)=l.take k++[c]:=by
  rw[List.take_add_one,List.take_set_of_le (Nat.le_refl k),List.getElem?_set_self (by rw[h.len]; exact hk)]; rfl
 refine⟨by simp[h.len],?_,by rw[e,AyA,h.sum]; simp[rR],h1⟩
 rw[e]
 intro v hv
 rcases List.mem_append.1 hv with hv|hv
 ·exact h.pos v hv
 simp only[List.mem_singleton] at hv; subst hv; exact h0
theorem AqG {m:Arr} {N:Nat} (hN:N<=16384) (hc:∀c∈m.cells,0<=c.n) (hne:0<N->0<m.cells.length) (h1:m.shape.length=1->m.cells.length=N):∀(d:Nat) (k:Nat) (all:Int) (l:List Int),k+d=N->Tm N k all l ->
  T (lU (m,(N:Int),all,(k:Int),l)) (λr=>match r with|.error r=>r.2≠0|.ok l=>∃all,Tm N N all l)
 |0,k,all,l,h,hl=>by
  rw[lU]
  have:k=N:=by omega
  subst this
  exact T.ite (λh'=>by simp at h') (λ_=>T.ret ⟨all,hl⟩)
 |d+1,k,all,l,h,hl=>by
  rw[lU]
  have ha0:0<=all:=by rw[←hl.sum]; exact sU hl.pos
  have ha1:=hl.le
  have hp:=hne (by omega)
  refine T.ite (λ_=>?_) (λh'=>by simp at h'; omega)
  refine T.bind (T.lget (Q:=λv=>v∈m.cells) (by omega) (by omega) λ_ h=>List.mem_of_getElem? h) (λy hy=>?_)
  refine T.bind (R:=λr=>0<=r.2.1) (T.ite (λhs=>?_) (λ_=>T.ret (hc y hy))) (λc hcc=>?_)
  ·have hs:m.shape.length=1:=by
    have:(m.shape.length:Int)=1:=by simpa using hs
    omega
   have:=h1 hs
   exact T.bind (T.lget (Q:=λv=>v∈m.cells) (by omega) (by omega) λ_ h=>List.mem_of_getElem? h) (λz hz=>T.ret (hc z hz))
  obtain⟨c0,c1,c2⟩:=c
  have hcc:0<=c1:=hcc
  show T (if decide (c1>w64 (16384-all))=true then _ else _) _
  rw[aF (x:=16384-all) (by omega) (by omega)]
  refine T.ite (λ_=>T.ret (by simp)) (λhle=>?_)
  have hle:c1<=16384-all:=by simpa using hle
  simp only[Int.toNat_natCast]
  refine T.bind (T.val (uP (n:=N) (by omega) (by omega)) (Q:=λv=>v=k) (by omega)) (λj hj=>?_)
  subst hj
  refine T.bind (T.val (by unfold aset; rw[if_pos (by rw[hl.len]; omega)]) (Q:=λv=>v=l.set j c1) rfl) (λl2 hl2=>?_)
  subst hl2
  refine T.bind (T.val (uP (n:=N) (by omega) (by omega)) (Q:=λv=>v=j) (by omega)) (λj1 hj1=>?_)
  subst hj1
  refine T.bind (T.val (v:=c1) (by unfold qF; rw[List.getElem?_set_self (by rw[hl.len]; omega)]) (Q:=λv=>v=c1) rfl) (λy3 hy3=>?_)
  subst hy3
  rw[aF (x:=all+y3) (by omega) (by omega),aF (x:=(j1:Int)+1) (by omega) (by omega)]
  exact AqG hN hc hne h1 d (j1+1) (all+y3) _ (by omega) (hl.next (by omega) hcc (by omega))
theorem AqH {m:Arr} {N:Nat} (hN:N<=16384) (hc:∀c∈m.cells,0<=c.n) (hne:0<N->0<m.cells.length) (h1:m.shape.length=1->m.cells.length=N):∀(d:Nat) (k:Nat) (all:Int) (l:List Int),k+d=N->Tm N k all l ->
  T (lV (m,(N:Int),all,(k:Int),l)) (λr=>match r with|.error r=>r.2≠0|.ok l=>∃all,Tm N N all l)
 |0,k,all,l,h,hl=>by
  rw[lV]
  have:k=N:=by omega
  subst this
  exact T.ite (λh'=>by simp at h') (λ_=>T.ret ⟨all,hl⟩)
 |d+1,k,all,l,h,hl=>by
  rw[lV]
  have ha0:0<=all:=by rw[←hl.sum]; exact sU hl.pos
  have ha1:=hl.le
  have hp:=hne (by omega)
  refine T.ite (λ_=>?_) (λh'=>by simp at h'; omega)
  refine T.bind (T.lget (Q:=λv=>v∈m.cells) (by omega) (by omega) λ_ h=>List.mem_of_getElem? h) (λy hy=>?_)
  refine T.bind (R:=λr=>0<=r.2.1) (T.ite (λhs=>?_) (λ_=>T.ret (hc y hy))) (λc hcc=>?_)
  ·have hs:m.shape.length=1:=by
    have:(m.shape.length:Int)=1:=by simpa using hs
    omega
   have:=h1 hs
   exact T.bind (T.lget (Q:=λv=>v∈m.cells) (by omega) (by omega) λ_ h=>List.mem_of_getElem? h) (λz hz=>T.ret (hc z hz))
  obtain⟨c0,c1,c2⟩:=c
  have hcc:0<=c1:=hcc
  show T (if decide (c1>w64 (16384-all))=true then _ else _) _
  rw[aF (x:=16384-all) (by omega) (by omega)]
  refine T.ite (λ_=>T.ret (by simp)) (λhle=>?_)
  have hle:c1<=16384-all:=by simpa using hle
  simp only[Int.toNat_natCast]
  refine T.bind (T.val (uP (n:=N) (by omega) (by omega)) (Q:=λv=>v=k) (by omega)) (λj hj=>?_)
  subst hj
  refine T.bind (T.val (by unfold aset; rw[if_pos (by rw[hl.len]; omega)]) (Q:=λv=>v=l.set j c1) rfl) (λl2 hl2=>?_)
  subst hl2
  refine T.bind (T.val (uP (n:=N) (by omega) (by omega)) (Q:=λv=>v=j) (by omega)) (λj1 hj1=>?_)
  subst hj1
  refine T.bind (T.val (v:=c1) (by unfold qF; rw[List.getElem?_set_self (by rw[hl.len]; omega)]) (Q:=λv=>v=c1) rfl) (λy3 hy3=>?_)
  subst hy3
  rw[aF (x:=all+y3) (by omega) (by omega),aF (x:=(j1:Int)+1) (by omega) (by omega)]
  exact AqH hN hc hne h1 d (j1+1) (all+y3) _ (by omega) (hl.next (by omega) hcc (by omega))
theorem BhA {m:Arr} {N:Nat} (hm:Val 0 m) (hN:N<=16384):T (wY m (N:Int)) (λr=>r.2=0->∃all,Tm N N all r.1):=by
 unfold wY
 refine T.ite (λ_=>T.ret (λh=>by simp at h)) (λhr=>?_)
 have hr:m.shape.length<=1:=by simp at hr; omega
 refine T.bind (AqF hm m.cells 0 rfl (by simp)) (λv hv=>?_)
 have t0:Tm N 0 0 (List.replicate N 0):=⟨by simp,by simp,by simp[rR],by omega⟩
 match v,hv with
 |.error r,h=>exact T.ret λh'=>absurd h' h
 |.ok _,hc=>
  refine T.ite (λh1=>T.ite (λ_=>T.ret (λh=>by simp at h)) (λhn=>?_)) (λh1=>?_)
  ·have hn:(m.cells.length:Int)=N:=dW hn
   refine T.bind (T.val (by unfold mkarr; rw[if_pos (by omega)]) (Q:=λv=>v=List.replicate N 0) (by simp)) (λl hl=>?_)
   subst hl
   refine T.bind (AqG hN hc (λ_=>by omega) (λ_=>by omega) N 0 0 _ (by omega) t0) (λv hv=>?_)
   match v,hv with
   |.error r,h=>exact T.ret λh'=>absurd h' h
   |.ok l,⟨all,h⟩=>exact T.bind (uY (by rw[h.len]; simp)) (λl4 hl4=>by subst hl4; exact T.ret λ_=>⟨all,h⟩)
  have h1:(m.shape.length:Int)≠1:=by simpa using h1
  obtain⟨c,hcl⟩:=xP hm (by omega)
  refine T.bind (T.val (by unfold mkarr; rw[if_pos (by omega)]) (Q:=λv=>v=List.replicate N 0) (by simp)) (λl hl=>?_)
  subst hl
  refine T.bind (AqH hN hc (λ_=>by rw[hcl]; simp) (λh=>by omega) N 0 0 _ (by omega) t0) (λv hv=>?_)
  match v,hv with
  |.error r,h=>exact T.ret λh'=>absurd h' h
  |.ok l,⟨all,h⟩=>exact T.bind (uY (by rw[h.len]; simp)) (λl4 hl4=>by subst hl4; exact T.ret λ_=>⟨all,h⟩)
theorem AxQ {m x:Arr} {k:Nat} {l l1:List Int} (hk:k<l1.length) (hl:l.length<=16384) (hp:∀v∈l,0<=v) (hs:rR l<=16384):∀(r:List Int) (i:Nat) (S:Int),l.drop i=r->0<=S->S+rR r<=16384 ->
  T (iG (m,x,(k:Int),l,l1,(i:Int),l1.set k S)) (λv=>v=l1.set k (S+rR r))
 | [],i,S,hd,h0,h1=>by
  rw[iG]
  simp only[bY (cC hd),fJ,if_false,rR,Int.add_zero]
  exact T.ret rfl
 |d::r,i,S,hd,h0,h1=>by
  have hik:=cD hd
  have hd0:=hp d (List.mem_of_mem_drop (i:=i) (by rw[hd]; simp))
  have hr0:0<=rR r:=sU λv hv=>hp v (List.mem_of_mem_drop (i:=i) (by rw[hd]; simp[hv]))
  simp only[rR] at h1 ⊢
  rw[iG]
  simp only[cU hik,if_true,bC hd,oJ,bJ,bP hd (by unfold Few; omega)]
  refine T.bind (T.val (uP (n:=l1.length) (by omega) (by omega)) (Q:=λv=>v=k) (by omega)) (λj hj=>?_)
  subst hj
  refine T.bind (T.val (v:=S) (by unfold qF; rw[List.getElem?_set_self hk]) (Q:=λv=>v=S) rfl) (λy hy=>?_)
  subst hy
  refine T.bind (T.val (uP (n:=l1.length) (by omega) (by omega)) (Q:=λv=>v=j) (by omega)) (λj2 hj2=>?_)
  subst hj2
  rw[aF (x:=y+d) (by omega) (by omega)]
  refine T.bind (T.val (by unfold aset; rw[if_pos (by simpa using hk),List.set_set]) (Q:=λv=>v=l1.set j2 (y+d)) rfl) (λc hc=>?_)
  subst hc
  rw[←Int.add_assoc]
  exact AxQ hk hl hp hs r (i+1) (y+d) (aS hd) (by omega) (by omega)
theorem AsX {m x:Arr} {l l3 l4:List Int} (hf:Few l4):∀(r:List Int) (k:Nat) (z:Int),l4.drop k=r->iH (m,x,l,l3,l4,z,(k:Int))=some (dS z r)
 | [],k,z,h=>by
  rw[iH]; simp only[bY (cC h),fJ,if_false,dS]
 |d::r,k,z,h=>by
  have hk:=cD h
  rw[iH]
  simp only[cU hk,if_true,bC h,oJ,bJ,bP h hf,dS]
  exact AsX hf r (k+1) _ (aS h)
theorem AxT {m x:Arr} {l l3:List Int} {s at_ x4 k1:Int} (hx:(x.cells.length:Int)<=16384) (hs:0<s) (hat:0<=at_) (h4:0<=x4) (hle:at_+(x4*s+s)<=x.cells.length) (hk1:k1<=16384):∀(d:Nat) (i:Int) (out:List aA),0<=i->i+d=k1->out.length+d*s<=16384->(∀c∈out,c∈x.cells) ->
  T (iJ (m,x,l,l3,s,at_,x4,k1,i,out)) (λr=>(r.length:Int)=out.length+d*s/\∀c∈r,c∈x.cells)
 |0,i,out,h0,h,hb,hc=>by
  rw[iJ]
  exact T.ite (λh'=>by simp at h'; omega) (λ_=>T.ret ⟨by simp,hc⟩)
 |d+1,i,out,h0,h,hb,hc=>by
  have hxs:0<=x4*s:=Int.mul_nonneg h4 (by omega)
  have e1:(x4+1)*s=x4*s+s:=by rw[Int.add_mul,Int.one_mul]
  have e2:((d+1:Nat):Int)*s=d*s+s:=by rw[Int.natCast_add,Int.add_mul]; simp
  have hds:0<=(d:Int)*s:=Int.mul_nonneg (by omega) (by omega)
  have hx4:x4<=x4*s:=by
   have:x4*1<=x4*s:=Int.mul_le_mul_of_nonneg_left (by omega) h4
   omega
  have hd1:(d:Int)<=d*s:=by
   have:(d:Int)*1<=d*s:=Int.mul_le_mul_of_nonneg_left (by omega) (by omega)
   omega
  rw[e2] at hb ⊢
  rw[iJ]
  refine T.ite (λ_=>?_) (λh'=>by simp at h'; omega)
  rw[aF (x:=x4+1) (by omega) (by omega),e1,aF (x:=x4*s) (by omega) (by omega),aF (x:=x4*s+s) (by omega) (by omega),aF (x:=at_+x4*s) (by omega) (by omega),aF (x:=at_+(x4*s+s)) (by omega) (by omega)]
  refine T.bind (T.val (by unfold AfH; rw[if_pos ⟨by omega,by omega,by omega⟩]) (Q:=λv=>(v.length:Int)=s/\∀c∈v,c∈x.cells) ⟨by rw[List.length_drop,List.length_take]; omega,λc hc=>List.mem_of_mem_take (List.mem_of_mem_drop hc)⟩) (λblk hbk=>?_)
  refine T.bind (dY (by omega)) (λl6 hl6=>?_)
  subst hl6
  rw[aF (x:=i+1) (by omega) (by omega)]
  have hlen:((out++blk).length:Int)=out.length+s:=by rw[List.length_append,Int.natCast_add,hbk.1]
  refine T.imp (AxT hx hs hat h4 hle hk1 d (i+1) (out++blk) (by omega) (by omega) (by omega) ?_) (λr hr=>⟨by omega,hr.2⟩)
  intro c hc'
  rcases List.mem_append.1 hc' with hc' | hc'
  ·exact hc c hc'
  exact hbk.2 c hc'
theorem AxS {m x:Arr} {l l3:List Int} {s at_:Int} (hx:(x.cells.length:Int)<=16384) (hs:0<s) (hat:0<=at_) (hl:l.length<=16384) (hp:∀v∈l,0<=v) (hle:at_+l.length*s<=x.cells.length):∀(r:List Int) (i:Nat) (out:List aA),l.drop i=r->out.length+rR r*s<=16384->(∀c∈out,c∈x.cells) ->
  T (iI (m,x,l,l3,s,at_,(i:Int),out)) (λv=>(v.length:Int)=out.length+rR r*s/\∀c∈v,c∈x.cells)
 | [],i,out,hd,hb,hc=>by
  rw[iI]
  simp only[bY (cC hd),fJ,if_false,rR]
  exact T.ret ⟨by simp,hc⟩
 |d::r,i,out,hd,hb,hc=>by
  have hik:=cD hd
  have hd0:=hp d (List.mem_of_mem_drop (i:=i) (by rw[hd]; simp))
  have hr0:0<=rR r:=sU λv hv=>hp v (List.mem_of_mem_drop (i:=i) (by rw[hd]; simp[hv]))
  have hrs:0<=rR r*s:=Int.mul_nonneg hr0 (by omega)
  have h4:((i:Int)+1)*s<=l.length*s:=Int.mul_le_mul_of_nonneg_right (by omega) (by omega)
  have h5:((i:Int)+1)*s=i*s+s:=by rw[Int.add_mul,Int.one_mul]
  simp only[rR,Int.add_mul] at hb ⊢
  rw[iI]
  simp only[cU hik,if_true,bC hd,oJ,bJ,bP hd (by unfold Few; omega)]
  have hdle:d<=16384:=by
   have:d*1<=d*s:=Int.mul_le_mul_of_nonneg_left (by omega) hd0
   omega
  have t:=AxT (m:=m) (l:=l) (l3:=l3) (k1:=d) hx hs hat (x4:=(i:Int)) (by omega) (by omega) hdle d.toNat 0 out (by omega) (by omega) (by rw[Int.toNat_of_nonneg hd0]; omega) hc
  rw[Int.toNat_of_nonneg hd0] at t
  refine T.bind t (λv hv=>?_)
  exact T.imp (AxS hx hs hat hl hp hle r (i+1) v (aS hd) (by omega) hv.2) (λw hw=>⟨by omega,hw.2⟩)
theorem AxR {m x:Arr} {l l3:List Int} {s o:Int} (hx:(x.cells.length:Int)<=16384) (hs:0<s) (hg:0<l.length) (hp:∀v∈l,0<=v) (hN:o*(l.length*s)=x.cells.length) (hb:o*(rR l*s)<=16384):∀(d:Nat) (y:Int) (out:List aA),0<=y->y+d=o->(out.length:Int)=y*(rR l*s)->(∀c∈out,c∈x.cells) ->
  T (p_pick_repeated_l2 (m,x,l,l3,s,y*(l.length*s),out)) (λv=>(v.length:Int)=o*(rR l*s)/\∀c∈v,c∈x.cells)
 |0,y,out,h0,h,ho,hc=>by
  rw[p_pick_repeated_l2]
  have:y=o:=by omega
  subst this
  exact T.ite (λh'=>by simp at h'; omega) (λ_=>T.ret ⟨by omega,hc⟩)
 |d+1,y,out,h0,h,ho,hc=>by
  have hgs:0<(l.length:Int)*s:=Int.mul_pos (by omega) hs
  have hlg:(l.length:Int)<=l.length*s:=by
   have:(l.length:Int)*1<=l.length*s:=Int.mul_le_mul_of_nonneg_left (by omega) (by omega)
   omega
  have h1:0<=y*(l.length*s):=Int.mul_nonneg h0 (by omega)
  have h2:(y+1)*(l.length*s)<=o*(l.length*s):=Int.mul_le_mul_of_nonneg_right (by omega) (by omega)
  have h3:(y+1)*(l.length*s)=y*(l.length*s)+l.length*s:=by rw[Int.add_mul,Int.one_mul]
  have hss:0<=rR l*s:=Int.mul_nonneg (sU hp) (by omega)
  have h4:(y+1)*(rR l*s)<=o*(rR l*s):=Int.mul_le_mul_of_nonneg_right (by omega) hss
  have h5:(y+1)*(rR l*s)=y*(rR l*s)+rR l*s:=by rw[Int.add_mul,Int.one_mul]
  rw[p_pick_repeated_l2]
  refine T.ite (λ_=>?_) (λh'=>by simp at h'; omega)
  refine T.bind (AxS hx hs h1 (by omega) hp (by omega) l 0 out rfl (by omega) hc) (λv hv=>?_)
  rw[aF (x:=(l.length:Int)*s) (by omega) (by omega),aF (x:=y*(l.length*s)+l.length*s) (by omega) (by omega),←h3]
  exact AxR hx hs hg hp hN hb d (y+1) v (by omega) (by omega) (by rw[hv.1]; omega) hv.2
theorem At2 {s:List Int} {k:Nat} {v:Int} (hk:k<s.length):s.set k v=s.take k++([v]++s.drop (k+1)):=by
 rw[List.set_eq_take_append_cons_drop,if_pos hk]; rfl
theorem AhJ {s:List Int} {k:Nat} (hk:k<s.length):s=s.take k++([s[k]]++s.drop (k+1)):=by
 rw[List.singleton_append,←List.drop_eq_getElem_cons hk,List.take_append_drop]
theorem AzL {m a:Arr} {last:Bool} {w:Nat} (hm:Val 0 m) (ha:Val 0 a) (hw:Cw w a.cells):T (rG m a last) (Res w):=by
 unfold rG
 refine T.bind (ApT ha) (λx hx=>?_)
 obtain⟨hv,hpos,hc⟩:=hx
 have hmx:Cw w x.cells:=by rw[hc]; exact hw
 have hz:=hv.i.sized
 have h8:=hz.rank
 have hle:=hz.hi
 refine T.bind (R:=λv=>∃k:Nat,v=(k:Int)/\k<x.shape.length) (T.ite (λ_=>T.ret ⟨x.shape.length-1,by rw[aF (by omega) (by omega)]; omega,by omega⟩) (λ_=>T.ret ⟨0,rfl,hpos⟩)) (λax hax=>?_)
 obtain⟨k,rfl,hk⟩:=hax
 refine T.bind (T.val (fZ hk) (Q:=λv=>v=x.shape[k]) rfl) (λg hg=>?_)
 subst hg
 have hp0:=hz.pos _ (List.getElem_mem hk)
 have hd0:=hv.i.dims _ (List.getElem_mem hk)
 obtain⟨N,hN⟩:∃N:Nat,(N:Int)=x.shape[k]:=⟨x.shape[k].toNat,by omega⟩
 have ht:=BhA (N:=N) hm (by omega)
 rw[←hN]
 refine T.bind ht (λr hr=>?_)
 obtain⟨l,e⟩:=r
 refine T.ite (λhe=>T.ret (Res.err (fP he))) (λhe=>?_)
 obtain⟨all,t⟩:=hr (dW he)
 have t1:=t.len
 have hlt:l.take N=l:=List.take_of_length_le (by simp only at t1; omega)
 have t2:∀v∈l,0<=v:=by have:=t.pos; simp only at this; rw[hlt] at this; exact this
 have t3:rR l=all:=by have:=t.sum; simp only at this; rw[hlt] at this; exact this
 have t4:=t.le
 simp only at t1
 have hs0:0<=rR l:=sU t2
 refine T.bind (dY (by simp; omega)) (λl1 hl1=>?_)
 subst hl1
 rw[List.nil_append]
 refine T.bind (T.val (uP (n:=x.shape.length) (by omega) (by omega)) (Q:=λv=>v=k) (by omega)) (λj hj=>?_)
 subst hj
 refine T.bind (T.val (by unfold aset; rw[if_pos hk]) (Q:=λv=>v=x.shape.set j 0) rfl) (λl2 hl2=>?_)
 subst hl2
 refine T.bind (AxQ hk (by omega) t2 (by omega) l 0 0 rfl (by omega) (by omega)) (λc hcc=>?_)
 subst hcc
 rw[Int.zero_add]
 refine T.bind (uY (by simp)) (λl3 hl3=>?_)
 have hl3':l3=x.shape.take j++([rR l]++x.shape.drop (j+1)):=by rw[hl3,At2 hk]
 refine T.bind (T.val (Aa1 l3) (Q:=λv=>v=lJ l3) rfl) (λz hzz=>?_)
 obtain⟨z1,z2⟩:=z
 refine T.ite (λhe=>T.ret (Res.err (fP he))) (λhe=>?_)
 have hS:mB l3 z1:=by
  have h':z2=0:=dW he
  have:=uO (s:=l3) (by rw[←hzz]; exact h')
  rw[←hzz] at this; exact this
 have hdims:∀d∈l3,d<=16384:=by
  intro d hd
  rw[hl3'] at hd
  rcases List.mem_append.1 hd with hd|hd
  ·exact hv.i.dims d (List.mem_of_mem_take hd)
  rcases List.mem_cons.1 hd with rfl|hd
  ·omega
  exact hv.i.dims d (List.mem_of_mem_drop hd)
 have fin:∀cs:List aA,(cs.length:Int)=z1->(∀c∈cs,c∈x.cells)->Val 0 (Arr.mk l3 cs)/\Cw w (Arr.mk l3 cs).cells:=λcs h1 h2=>frv hv hmx (by rw[h1]; exact hS) hdims λc hc=>.inl (h2 c hc)
 have hzp:=hS.prod
 have hz2:=hS.hi
 rw[hl3',fX,fX] at hzp
 simp only[aL,Int.mul_one] at hzp
 have hxp:=hz.prod
 rw[AhJ hk,fX,fX,←hN] at hxp
 simp only[aL,Int.mul_one] at hxp
 rw[show w64 ((j:Int)+1)=((j+1:Nat):Int) from by rw[aF (by omega) (by omega)]; rfl]
 refine T.bind (T.val (v:=x.shape.drop (j+1)) (by unfold lfrom; rw[if_pos (by omega)]; simp) (Q:=λv=>v=x.shape.drop (j+1)) rfl) (λl4 hl4=>?_)
 subst hl4
 refine T.bind (T.val (AsX (by unfold Few; simp; omega) (x.shape.drop (j+1)) 0 1 rfl) (Q:=λv=>v=dS 1 (x.shape.drop (j+1))) rfl) (λs hs=>?_)
 by_cases hne:x.cells.length=0
 ·rw[p_pick_repeated_l2]
  rw[if_neg (by simp[hne])]
  refine T.bind (T.ret (Q:=λv=>v=[]) rfl) (λv hv'=>?_)
  subst hv'
  refine T.ret λ_=>fin [] ?_ (by simp)
  rw[hne] at hxp
  rw[←hzp]
  rcases Int.mul_eq_zero.1 hxp with h|h
  ·rw[h]; simp
  rcases Int.mul_eq_zero.1 h with h|h
  ·have:l=[]:=List.length_eq_zero_iff.1 (by omega)
   rw[this]; simp[rR]
  rw[h]; simp
 have hz':=hz
 rw[AhJ hk] at hz'
 obtain⟨p1,p2,p3,p4⟩:=pE hz' (by omega)
 obtain⟨q1,q2,q3,q4⟩:=pE p2 (by omega)
 simp only[aL,Int.mul_one] at q3
 rw[jW q2] at hs
 subst hs
 have t:=AxR (m:=m) (x:=x) (l:=l) (l3:=l3) (s:=aL (x.shape.drop (j+1))) (o:=aL (x.shape.take j)) hle q4 (by omega) t2 (by rw[t1]; exact hxp) (by omega) (aL (x.shape.take j)).toNat 0 [] (by omega) (by omega) (by simp) (by simp)
 rw[Int.zero_mul] at t
 exact T.bind t (λr hr=>T.ret λ_=>fin r (by rw[hr.1]; exact hzp) hr.2)
theorem BcQ {s:List Int} (h:(lJ s).2≠0):(lJ s).1=0:=by
 unfold lJ at h ⊢
 split
 ·rfl
 rename_i h8
 rw[if_neg h8] at h
 cases hn:zL false s with
 |error r=>
  have:∀{l:List Int} {b:Bool} {r},zL b l=.error r->r.1=0:=by
   intro l
   induction l with
   |nil=>intro b r h; simp[zL] at h
   |cons d t ih=>
    intro b r h
    simp only[zL] at h
    split at h
    ·cases h; rfl
    exact ih h
  exact this hn
 |ok b=>
  cases b with
  |true=>rfl
  |false=>
   simp only
   rw[hn] at h
   cases hs:vW 1 s with
   |error r=>
    have:∀{l:List Int} {n:Int} {r},vW n l=.error r->r.1=0:=by
     intro l
     induction l with
     |nil=>intro n r h; simp[vW] at h
     |cons d t ih=>
      intro n r h
      simp only[vW] at h
      split at h
      ·cases h; rfl
      exact ih h
    exact this hs
   |ok n=>rw[hs] at h; simp at h
theorem AdX {s:List Int} {k:Nat} (h8:s.length<=8) (hk:k<s.length):T (p_pick_without s (k:Int)) (λr=>r=s.take k++s.drop (k+1)):=by
 unfold p_pick_without
 refine T.bind (T.val (by unfold lto; rw[if_pos ⟨by omega,by omega⟩]) (Q:=λv=>v=s.take k) (by simp)) (λl hl=>?_)
 subst hl
 refine T.bind (dY (by simp; omega)) (λl1 hl1=>?_)
 subst hl1
 rw[show w64 ((k:Int)+1)=((k+1:Nat):Int) from by rw[aF (by omega) (by omega)]; rfl]
 refine T.bind (T.val (v:=s.drop (k+1)) (by unfold lfrom; rw[if_pos (by omega)]; simp) (Q:=λv=>v=s.drop (k+1)) rfl) (λl2 hl2=>?_)
 subst hl2
 refine T.bind (dY (by simp; omega)) (λl3 hl3=>?_)
 subst hl3
 exact T.ret (by simp)
theorem AzW {s:List Int} {k:Nat} (h8:s.length<=8) (hk:k<=s.length):T (p_pick_with s (k:Int)) (λr=>r=s.take k++([1]++s.drop k)):=by
 unfold p_pick_with
 refine T.bind (T.val (by unfold lto; rw[if_pos ⟨by omega,by omega⟩]) (Q:=λv=>v=s.take k) (by simp)) (λl hl=>?_)
 subst hl
 refine T.bind (dY (by simp; omega)) (λl1 hl1=>?_)
 subst hl1
 refine T.bind (dY (by simp; omega)) (λl2 hl2=>?_)
 subst hl2
 refine T.bind (T.val (v:=s.drop k) (by unfold lfrom; rw[if_pos (by omega)]; simp) (Q:=λv=>v=s.drop k) rfl) (λl3 hl3=>?_)
 subst hl3
 refine T.bind (dY (by simp; omega)) (λl4 hl4=>?_)
 subst hl4
 exact T.ret (by simp)
theorem AnC {a:Arr} {sh:List Int} {n:Int} (hn:n<=16384) (hne:0<a.cells.length):∀(d:Nat) (i:Int) (out:List aA),0<=i->i+d=max n i->(out.length:Int)=i->(∀c∈out,c∈a.cells)->T (kH (a,sh,n,i,out)) (λr=>(r.length:Int)=max n i/\∀c∈r,c∈a.cells)
 |0,i,out,h0,h,ho,hc=>by
  rw[kH]
  exact T.ite (λh'=>by simp at h'; omega) (λ_=>T.ret ⟨by omega,hc⟩)
 |d+1,i,out,h0,h,ho,hc=>by
  rw[kH]
  refine T.ite (λ_=>?_) (λh'=>by simp at h'; omega)
  refine T.bind (T.lget (Q:=λv=>v∈a.cells) (by omega) (by omega) λ_ h=>List.mem_of_getElem? h) (λc hcm=>?_)
  refine T.bind (dY (by simp; omega)) (λl hl=>?_)
  subst hl
  rw[AeJ h0 (by omega)]
  refine T.imp (AnC hn hne d (i+1) _ (by omega) (by omega) (by simp; omega) ?_) (λr hr=>⟨by omega,hr.2⟩)
  intro y hy
  rcases List.mem_append.1 hy with hy|hy
  ·exact hc y hy
  simp only[List.mem_singleton] at hy; subst hy; exact hcm
structure AqN (src:List aA) (k:Nat) (x:Arr):Prop where
 ax:k<x.shape.length
 rank:x.shape.length<=8
 dims:∀d∈x.shape,0<=d/\d<=16384
 len:(x.cells.length:Int)=(lJ x.shape).1
 mem:∀c∈x.cells,c∈src
theorem Ay7 {a:Arr} {sh:List Int} {k:Nat} (hne:0<a.cells.length) (h1:k<sh.length) (h2:sh.length<=8) (h3:∀d∈sh,0<=d/\d<=16384):T (jD a sh) (λr=>r.shape=sh/\AqN a.cells k r):=by
 unfold jD
 refine T.bind (T.val (Aa1 sh) (Q:=λv=>v=lJ sh) rfl) (λz hz=>?_)
 obtain⟨n,e⟩:=z
 have hn:0<=n/\n<=16384:=by
  by_cases h:(lJ sh).2=0
  ·have:=uO h
   rw[←hz] at this
   exact⟨this.lo,this.hi⟩
  have:=BcQ h
  rw[←hz] at this
  simp only at this; omega
 refine T.bind (AnC hn.2 hne n.toNat 0 [] (by omega) (by omega) (by simp) (by simp)) (λr hr=>?_)
 exact T.ret ⟨rfl,h1,h2,h3,by show (r.length:Int)=(lJ sh).1; rw[←hz]; simp only; omega,hr.2⟩
theorem yV {a:Arr} (hv:Val 0 a) {k:Nat} (hk:k<a.shape.length):AqN a.cells k a:=
 ⟨hk,hv.i.sized.rank,λd hd=>⟨hv.i.sized.pos d hd,hv.i.dims d hd⟩,by rw[sizeS_of hv.i.sized],λc hc=>hc⟩
theorem AsG {a:Arr} (hv:Val 0 a) {k:Nat} (hk:k<=a.shape.length) (h8:a.shape.length<8):AqN a.cells k (Arr.mk (a.shape.take k++([1]++a.shape.drop k)) a.cells):=by
 have hz:=hv.i.sized
 have hd:∀d∈a.shape.take k++([1]++a.shape.drop k),0<=d/\d<=16384:=by
  intro d hd
  rcases List.mem_append.1 hd with hd|hd
  ·exact⟨hz.pos d (List.mem_of_mem_take hd),hv.i.dims d (List.mem_of_mem_take hd)⟩
  rcases List.mem_cons.1 hd with rfl|hd
  ·omega
  exact⟨hz.pos d (List.mem_of_mem_drop hd),hv.i.dims d (List.mem_of_mem_drop hd)⟩
 have hl:(a.shape.take k++([1]++a.shape.drop k)).length=a.shape.length+1:=by simp; omega
 have hs:mB (a.shape.take k++([1]++a.shape.drop k)) a.cells.length:=by
  refine mB.of (by omega) hd ?_ hz.hi
  rw[fX,fX,←hz.prod]
  simp only[aL,Int.mul_one,Int.one_mul]
  rw[←fX,List.take_append_drop]
 refine⟨?_,?_,hd,?_,λc hc=>hc⟩
 ·show k<(a.shape.take k++([1]++a.shape.drop k)).length
  omega
 ·show (a.shape.take k++([1]++a.shape.drop k)).length<=8
  omega
 show (a.cells.length:Int)=(lJ (a.shape.take k++([1]++a.shape.drop k))).1
 rw[sizeS_of hs]
theorem Bb4 {a b:Arr} {k:Nat} (ha:Val 0 a) (hb:Val 0 b) (hk:k<a.shape.length\/k<b.shape.length) (hk2:(a.shape.length:Int)-b.shape.length=1->k<=b.shape.length) (hk3:(a.shape.length:Int)-b.shape.length=-1->k<=a.shape.length) :
  T ((if ((List.length a.shape:Int)==0) then
     p_pick_without b.shape (k:Int)>>=λx2=>
     p_pick_with x2 (k:Int)>>=λx3=>
     jD a x3>>=λx4=>
     some (.ok (b.shape,b.cells,x4.shape,x4.cells))
    else
     if ((List.length b.shape:Int)==0) then
      p_pick_without a.shape (k:Int)>>=λx5=>
      p_pick_with x5 (k:Int)>>=λx6=>
      jD b x6>>=λx7=>
      some (.ok (x7.shape,x7.cells,a.shape,a.cells))
     else
      if ((w64 ((List.length a.shape:Int)-(List.length b.shape:Int)))==1) then
       p_pick_with b.shape (k:Int)>>=λx8=>
       some (.ok (x8,b.cells,a.shape,a.cells))
      else
       if ((w64 ((List.length a.shape:Int)-(List.length b.shape:Int)))==(-1)) then
        p_pick_with a.shape (k:Int)>>=λx9=>
        some (.ok (b.shape,b.cells,x9,a.cells))
       else
        if ((w64 ((List.length a.shape:Int)-(List.length b.shape:Int))) != 0) then
         some (.error (a,b,(0:Int),(6:Int)))
        else
         some (.ok (b.shape,b.cells,a.shape,a.cells)):Option (Except (Arr×Arr×Int×Int) ((List Int)×(List aA)×(List Int)×(List aA)))))
   (λr=>match r with|.error r=>r.2.2.2≠0|.ok r=>AqN b.cells k (.mk r.1 r.2.1)/\AqN a.cells k (.mk r.2.2.1 r.2.2.2)/\r.1.length=r.2.2.1.length):=by
 have hra:=ha.i.sized.rank
 have hrb:=hb.i.sized.rank
 have E:∀{x:Arr},Arr.mk x.shape x.cells=x:=λ{x}=>by cases x; rfl
 have one:∀{c:Arr},Val 0 c->k<c.shape.length->T (p_pick_without c.shape (k:Int)>>=λx2=>p_pick_with x2 (k:Int)) (λr=>k<r.length/\r.length=c.shape.length/\∀d∈r,0<=d/\d<=16384):=by
  intro c hc hkc
  have hrc:=hc.i.sized.rank
  refine T.bind (AdX hrc hkc) (λx hx=>?_)
  subst hx
  refine T.imp (AzW (by simp; omega) (by simp; omega)) (λr hr=>?_)
  subst hr
  refine⟨by simp; omega,by simp; omega,?_⟩
  intro d hd
  have hm:∀d∈c.shape.take k++c.shape.drop (k+1),0<=d/\d<=16384:=by
   intro d hd
   rcases List.mem_append.1 hd with hd|hd
   ·exact⟨hc.i.sized.pos d (List.mem_of_mem_take hd),hc.i.dims d (List.mem_of_mem_take hd)⟩
   exact⟨hc.i.sized.pos d (List.mem_of_mem_drop hd),hc.i.dims d (List.mem_of_mem_drop hd)⟩
  rcases List.mem_append.1 hd with hd|hd
  ·exact hm d (List.mem_of_mem_take hd)
  rcases List.mem_cons.1 hd with rfl|hd
  ·omega
  exact hm d (List.mem_of_mem_drop hd)
 refine T.ite (λh1=>?_) (λh1=>T.ite (λh2=>?_) (λh2=>?_))
 ·have h1:a.shape.length=0:=by
          have:(a.shape.length:Int)=0:=dW (by simpa using h1)
          omega
  obtain⟨c,hc⟩:=xP ha (by omega)
  obtain⟨s,hs1,hs2⟩:=one hb (by omega)
  have hbind:∀{β:Type} (f:List Int->Option β),(p_pick_without b.shape (k:Int)>>=λx2=>p_pick_with x2 (k:Int)>>=f)=f s:=by
   intro β f
   cases hw:p_pick_without b.shape (k:Int) with
   |none=>rw[hw] at hs1; simp at hs1
   |some v=>
    rw[hw] at hs1
    simp only[oJ,bJ] at hs1 ⊢
    rw[hs1]; rfl
  rw[hbind]
  refine T.bind (Ay7 (a:=a) (by rw[hc]; simp) hs2.1 (by omega) hs2.2.2) (λr hr=>T.ret ⟨by rw[E]; exact yV hb (by omega),by rw[E]; exact hr.2,?_⟩)
  simp only; rw[hr.1]; omega
 ·have h1:a.shape.length≠0:=by
          have:(a.shape.length:Int)≠0:=by simpa using h1
          omega
  have h2:b.shape.length=0:=by
          have:(b.shape.length:Int)=0:=dW (by simpa using h2)
          omega
  obtain⟨c,hc⟩:=xP hb (by omega)
  obtain⟨s,hs1,hs2⟩:=one ha (by omega)
  have hbind:∀{β:Type} (f:List Int->Option β),(p_pick_without a.shape (k:Int)>>=λx2=>p_pick_with x2 (k:Int)>>=f)=f s:=by
   intro β f
   cases hw:p_pick_without a.shape (k:Int) with
   |none=>rw[hw] at hs1; simp at hs1
   |some v=>
    rw[hw] at hs1
    simp only[oJ,bJ] at hs1 ⊢
    rw[hs1]; rfl
  rw[hbind]
  refine T.bind (Ay7 (a:=b) (by rw[hc]; simp) hs2.1 (by omega) hs2.2.2) (λr hr=>T.ret ⟨by rw[E]; exact hr.2,by rw[E]; exact yV ha (by omega),?_⟩)
  simp only; rw[hr.1]; omega
 rw[aF (by omega) (by omega)]
 refine T.ite (λh3=>?_) (λh3=>T.ite (λh4=>?_) (λh4=>T.ite (λh5=>T.ret (by simp)) (λh5=>?_)))
 ·have h3:(a.shape.length:Int)-b.shape.length=1:=dW (by simpa using h3)
  have hk':=hk2 h3
  refine T.bind (AzW hrb hk') (λr hr=>?_)
  subst hr
  exact T.ret ⟨AsG hb hk' (by omega),by rw[E]; exact yV ha (by omega),by simp; omega⟩
 ·have h4:(a.shape.length:Int)-b.shape.length=-1:=dW (by simpa using h4)
  have hk':=hk3 h4
  refine T.bind (AzW hra hk') (λr hr=>?_)
  subst hr
  exact T.ret ⟨by rw[E]; exact yV hb (by omega),AsG ha hk' (by omega),by simp; omega⟩
 have h5:(a.shape.length:Int)-b.shape.length=0:=dW h5
 exact T.ret ⟨by rw[E]; exact yV hb (by omega),by rw[E]; exact yV ha (by omega),by simp only; omega⟩
theorem AsJ {ax:Int} {x0 x01:List Int} {x11 x12:List aA} {p q:List Int} (hp:p.length<=8) (hq:q.length=p.length):∀(d k:Nat),k+d=p.length->T (nP (ax,x0,x11,x01,x12,p,q,(k:Int))) (λr=>match r with|.error r=>r.2.2.2≠0|.ok _=>p.drop k=q.drop k)
 |0,k,h=>by
  rw[nP]
  exact T.ite (λh'=>by simp at h'; omega) (λ_=>T.ret (by rw[List.drop_eq_nil_of_le (by omega),List.drop_eq_nil_of_le (by omega)]))
 |d+1,k,h=>by
  rw[nP]
  refine T.ite (λ_=>?_) (λh'=>by simp at h'; omega)
  refine T.bind (T.val (fZ (i:=k) (by omega)) (Q:=λv=>v=p[k]'(by omega)) rfl) (λv hv=>?_)
  refine T.bind (T.val (fZ (i:=k) (by omega)) (Q:=λv=>v=q[k]'(by omega)) rfl) (λw hw=>?_)
  refine T.ite (λ_=>T.ret (by simp)) (λhe=>?_)
  have he:v=w:=dW he
  rw[aF (by omega) (by omega)]
  refine T.imp (AsJ hp hq d (k+1) (by omega)) (λr hr=>?_)
  match r,hr with
  |.error r,h=>exact h
  |.ok _,h=>
   simp only at h ⊢
   rw[List.drop_eq_getElem_cons (by omega),List.drop_eq_getElem_cons (l:=q) (by omega),h,←hv,←hw,he]
theorem AsK {ax:Int} {x0 x01:List Int} {x11 x12:List aA} {p q:List Int} (hp:p.length<=8) (hq:q.length=p.length):∀(d k:Nat),k+d=p.length->T (nQ (ax,x0,x11,x01,x12,p,q,(k:Int))) (λr=>match r with|.error r=>r.2.2.2≠0|.ok _=>p.drop k=q.drop k)
 |0,k,h=>by
  rw[nQ]
  exact T.ite (λh'=>by simp at h'; omega) (λ_=>T.ret (by rw[List.drop_eq_nil_of_le (by omega),List.drop_eq_nil_of_le (by omega)]))
 |d+1,k,h=>by
  rw[nQ]
  refine T.ite (λ_=>?_) (λh'=>by simp at h'; omega)
  refine T.bind (T.val (fZ (i:=k) (by omega)) (Q:=λv=>v=p[k]'(by omega)) rfl) (λv hv=>?_)
  refine T.bind (T.val (fZ (i:=k) (by omega)) (Q:=λv=>v=q[k]'(by omega)) rfl) (λw hw=>?_)
  refine T.ite (λ_=>T.ret (by simp)) (λhe=>?_)
  have he:v=w:=dW he
  rw[aF (by omega) (by omega)]
  refine T.imp (AsK hp hq d (k+1) (by omega)) (λr hr=>?_)
  match r,hr with
  |.error r,h=>exact h
  |.ok _,h=>
   simp only at h ⊢
   rw[List.drop_eq_getElem_cons (by omega),List.drop_eq_getElem_cons (l:=q) (by omega),h,←hv,←hw,he]
structure Alike (a b:Arr) (k:Nat) (x y:Arr):Prop where
 l:AqN a.cells k x
 r:AqN b.cells k y
 rank:x.shape.length=y.shape.length
 lo:x.shape.take k=y.shape.take k
 hi:x.shape.drop (k+1)=y.shape.drop (k+1)
def BjH (a b:Arr) (r:Arr×Arr×Int×Int):Prop:=r.2.2.2=0->∃k:Nat,r.2.2.1=k/\Alike a b k r.1 r.2.1
theorem AoB {a b:Arr} {k:Nat} {x y:Arr} (hl:AqN a.cells k x) (hr:AqN b.cells k y) (h:y.shape.length=x.shape.length) (he:x.shape.take k++x.shape.drop (k+1)=y.shape.take k++y.shape.drop (k+1)):Alike a b k x y:=by
 have h1:=hl.ax; have h2:=hr.ax
 obtain⟨e1,e2⟩:=List.append_inj he (by simp; omega)
 exact⟨hl,hr,h.symm,e1,e2⟩
theorem BaT {a:Arr} (h:a.shape.length=0):hC a=some (Arr.mk [1] a.cells):=by
 unfold hC
 rw[if_pos (by simp[h])]; rfl
theorem BdJ {a b:Nat} {last:Bool} (h:0<max a b) (h8:max a b<=8):T (if last then some (w64 ((if (a:Int)<(b:Int) then (b:Int) else (a:Int))-1)) else some 0) (λv=>∃k:Nat,v=(k:Int)/\(k<a\/k<b)/\((a:Int)-b=1->k<=b)/\((a:Int)-b=-1->k<=a)):=by
 refine T.ite (λ_=>T.ret ⟨max a b-1,?_,by omega,by omega,by omega⟩) (λ_=>T.ret ⟨0,rfl,by omega,by omega,by omega⟩)
 rw[aF (by split<;>omega) (by split<;>omega)]
 split<;>omega
theorem Bj0 {a b:Arr} {last:Bool} (ha:Val 0 a) (hb:Val 0 b):T (zD a b last) (BjH a b):=by
 unfold zD
 have hra:=ha.i.sized.rank
 have hrb:=hb.i.sized.rank
 refine T.ite (λh1=>T.ite (λh2=>?_) (λh2=>?_)) (λh1=>?_)
 ·have h1:a.shape.length=0:=by
    have:(a.shape.length:Int)=0:=by simpa using h1
    omega
  have h2:b.shape.length=0:=by
    have:(b.shape.length:Int)=0:=by simpa using h2
    omega
  refine T.bind (T.val (BaT h1) (Q:=λv=>v=Arr.mk [1] a.cells) rfl) (λx hx=>?_)
  refine T.bind (T.val (BaT h2) (Q:=λv=>v=Arr.mk [1] b.cells) rfl) (λy hy=>?_)
  refine T.ret λ_=>⟨0,rfl,?_⟩
  subst hx; subst hy
  exact AoB (yV (AnX ha (List.length_eq_zero_iff.1 h1)) Nat.zero_lt_one) (yV (AnX hb (List.length_eq_zero_iff.1 h2)) Nat.zero_lt_one) rfl rfl
 ·have h2:b.shape.length≠0:=by
    have:(b.shape.length:Int)≠0:=by simpa using h2
    omega
  refine T.bind (BdJ (by omega) (by omega)) (λv hv=>?_)
  obtain⟨k,rfl,g1,g2,g3⟩:=hv
  refine T.bind (Bb4 ha hb g1 g2 g3) (λr hr=>?_)
  match r,hr with
  |.error r,h=>exact T.ret λh'=>absurd h' h
  |.ok (x0,x11,x01,x12),⟨e1,e2,e3⟩=>
   have m1:k<x0.length:=e1.ax
   have m2:x0.length<=8:=e1.rank
   have m3:k<x01.length:=e2.ax
   have m4:x01.length<=8:=e2.rank
   have e3:x0.length=x01.length:=e3
   refine T.bind (AdX m4 m3) (λp hp=>?_)
   refine T.bind (AdX m2 m1) (λq hq=>?_)
   have lp:p.length<=8:=by subst hp; simp; omega
   have lq:q.length=p.length:=by subst hp; subst hq; simp; omega
   refine T.bind (AsJ lp lq p.length 0 (by omega)) (λv hv=>?_)
   match v,hv with
   |.error r,h=>exact T.ret λh'=>absurd h' h
   |.ok _,h=>exact T.ret λ_=>⟨k,rfl,AoB e2 e1 e3 (by simp only[List.drop_zero] at h; rw[hp,hq] at h; exact h)⟩
 have h1:a.shape.length≠0:=by
   have:(a.shape.length:Int)≠0:=by simpa using h1
   omega
 refine T.bind (BdJ (by omega) (by omega)) (λv hv=>?_)
 obtain⟨k,rfl,g1,g2,g3⟩:=hv
 refine T.bind (Bb4 ha hb g1 g2 g3) (λr hr=>?_)
 match r,hr with
 |.error r,h=>exact T.ret λh'=>absurd h' h
 |.ok (x0,x11,x01,x12),⟨e1,e2,e3⟩=>
  have m1:k<x0.length:=e1.ax
  have m2:x0.length<=8:=e1.rank
  have m3:k<x01.length:=e2.ax
  have m4:x01.length<=8:=e2.rank
  have e3:x0.length=x01.length:=e3
  refine T.bind (AdX m4 m3) (λp hp=>?_)
  refine T.bind (AdX m2 m1) (λq hq=>?_)
  have lp:p.length<=8:=by subst hp; simp; omega
  have lq:q.length=p.length:=by subst hp; subst hq; simp; omega
  refine T.bind (AsK lp lq p.length 0 (by omega)) (λv hv=>?_)
  match v,hv with
  |.error r,h=>exact T.ret λh'=>absurd h' h
  |.ok _,h=>exact T.ret λ_=>⟨k,rfl,AoB e2 e1 e3 (by simp only[List.drop_zero] at h; rw[hp,hq] at h; exact h)⟩
theorem AkS {x x1:Arr} {ax:Int} {l2 l:List Int} (hf:Few l):∀(r:List Int) (k:Nat) (z:Int),l.drop k=r->kF (x,x1,ax,l2,l,z,(k:Int))=some (dS z r)
 | [],k,z,h=>by
  rw[kF]; simp only[bY (cC h),fJ,if_false,dS]
 |d::r,k,z,h=>by
  have hk:=cD h
  rw[kF]
  simp only[cU hk,if_true,bC h,oJ,bJ,bP h hf,dS]
  exact AkS hf r (k+1) _ (aS h)
theorem AkT {x x1:Arr} {s y3 y4:Int} {l2 l:List Int} (hf:Few l):∀(r:List Int) (k:Nat) (z:Int),l.drop k=r->kG (x,x1,l2,s,y3,y4,l,z,(k:Int))=some (dS z r)
 | [],k,z,h=>by
  rw[kG]; simp only[bY (cC h),fJ,if_false,dS]
 |d::r,k,z,h=>by
  have hk:=cD h
  rw[kG]
  simp only[cU hk,if_true,bC h,oJ,bJ,bP h hf,dS]
  exact AkT hf r (k+1) _ (aS h)
theorem AgA {x x1:Arr} {s y3 y4 o c1 c2:Int} {l2:List Int} (e1:w64 (y3*s)=c1) (e2:w64 (y4*s)=c2) (h1:0<=c1) (h2:0<=c2) (hx:(x.cells.length:Int)<=16384) (hx1:(x1.cells.length:Int)<=16384) (g1:o*c1<=x.cells.length) (g2:o*c2<=x1.cells.length) (ho:o<9223372036854775808) :
  ∀(d:Nat) (i:Int) (out:List aA),0<=i->i+d=max o i->(out.length:Int)=i*(c1+c2)->(∀c∈out,c∈x.cells\/c∈x1.cells)->T (iT (x,x1,l2,s,y3,y4,o,i,out)) (λr=>(r.length:Int)=max o i*(c1+c2)/\∀c∈r,c∈x.cells\/c∈x1.cells)
 |0,i,out,h0,h,hl,hc=>by
  rw[iT]
  have:max o i=i:=by omega
  rw[this]
  exact T.ite (λh'=>by simp at h'; omega) (λ_=>T.ret ⟨hl,hc⟩)
 |d+1,i,out,h0,h,hl,hc=>by
  have hio:i<o:=by omega
  have k1:(i+1)*c1<=o*c1:=Int.mul_le_mul_of_nonneg_right (by omega) h1
  have k2:(i+1)*c2<=o*c2:=Int.mul_le_mul_of_nonneg_right (by omega) h2
  have k3:(i+1)*c1=i*c1+c1:=by rw[Int.add_mul,Int.one_mul]
  have k4:(i+1)*c2=i*c2+c2:=by rw[Int.add_mul,Int.one_mul]
  have k5:0<=i*c1:=Int.mul_nonneg h0 h1
  have k6:0<=i*c2:=Int.mul_nonneg h0 h2
  have k7:i*(c1+c2)=i*c1+i*c2:=Int.mul_add ..
  have k8:(i+1)*(c1+c2)=i*(c1+c2)+(c1+c2):=by rw[Int.add_mul,Int.one_mul]
  rw[iT]
  refine T.ite (λ_=>?_) (λh'=>by simp at h'; omega)
  rw[e1,e2,aF (x:=i+1) (by omega) (by omega),aF (x:=i*c1) (by omega) (by omega),aF (x:=i*c2) (by omega) (by omega),aF (x:=(i+1)*c1) (by omega) (by omega),aF (x:=(i+1)*c2) (by omega) (by omega)]
  refine T.bind (T.val (by unfold AfH; rw[if_pos ⟨k5,by omega,by omega⟩]) (Q:=λv=>(v.length:Int)=c1/\∀c∈v,c∈x.cells) ⟨by rw[List.length_drop,List.length_take]; omega,λc hc=>List.mem_of_mem_take (List.mem_of_mem_drop hc)⟩) (λb1 hb1=>?_)
  refine T.bind (dY (by omega)) (λl6 hl6=>?_)
  have n6:(l6.length:Int)=out.length+c1:=by rw[hl6,List.length_append,Int.natCast_add,hb1.1]
  refine T.bind (T.val (by unfold AfH; rw[if_pos ⟨k6,by omega,by omega⟩]) (Q:=λv=>(v.length:Int)=c2/\∀c∈v,c∈x1.cells) ⟨by rw[List.length_drop,List.length_take]; omega,λc hc=>List.mem_of_mem_take (List.mem_of_mem_drop hc)⟩) (λb2 hb2=>?_)
  refine T.bind (dY (by omega)) (λl8 hl8=>?_)
  have n8:(l8.length:Int)=l6.length+c2:=by rw[hl8,List.length_append,Int.natCast_add,hb2.1]
  rw[show max o i=max o (i+1) by omega]
  refine AgA e1 e2 h1 h2 hx hx1 g1 g2 ho d (i+1) l8 (by omega) (by omega) (by rw[n8,n6,hl,k8]; omega) ?_
  intro c hc'
  rw[hl8,hl6] at hc'
  rcases List.mem_append.1 hc' with hc' | hc'
  ·rcases List.mem_append.1 hc' with hc' |hc'
   ·exact hc c hc'
   ·exact .inl (hb1.2 c hc')
  exact .inr (hb2.2 c hc')
theorem AwW {src:List aA} {k:Nat} {x:Arr} (h:AqN src k x) {P Q y:Int} (hp:aL x.shape=P*(y*Q)) (hle:P*(y*Q)<=16384):(x.cells.length:Int)=P*(y*Q):=by
 rw[h.len,sizeS_of (mB.of h.rank h.dims hp hle)]
theorem BgX {s t:List Int} {v:Int} {k:Nat} (h:s.length=k) (hk:k<(s++([v]++t)).length):(s++([v]++t))[k]=v:=by
 subst h; simp
theorem BeP {a b:Arr} {last:Bool} {w:Nat} (ha:Val 0 a) (hb:Val 0 b) (hw:Cw w a.cells) (hw2:Cw w b.cells):T (uH a b last) (Res w):=by
 unfold uH
 refine T.bind (Bj0 ha hb) (λr hr=>?_)
 obtain⟨x,x1,ax,e⟩:=r
 refine T.ite (λhe=>T.ret (Res.err (fP he))) (λhe=>?_)
 obtain⟨k,hax,A0⟩:=hr (dW he)
 have hax:ax=(k:Int):=hax
 subst hax
 have A:Alike a b k x x1:=A0
 clear A0
 have hk:=A.l.ax
 have hk1:=A.r.ax
 have h8:=A.l.rank
 have hy:=A.l.dims _ (List.getElem_mem hk)
 have hy1:=A.r.dims _ (List.getElem_mem hk1)
 obtain⟨y,hyy⟩:∃y,y=x.shape[k]:=⟨_,rfl⟩
 obtain⟨y1,hyy1⟩:∃y,y=x1.shape[k]:=⟨_,rfl⟩
 have sx:=AhJ hk
 have sx1:=AhJ hk1
 rw[←A.lo,←A.hi,←hyy1] at sx1
 rw[←hyy] at sx hy
 rw[←hyy1] at hy1
 refine T.bind (dY (by simp; omega)) (λl hl=>?_)
 subst hl
 rw[List.nil_append]
 refine T.bind (T.val (uP (n:=x.shape.length) (by omega) (by omega)) (Q:=λv=>v=k) (by omega)) (λj hj=>?_)
 subst hj
 refine T.bind (T.val (v:=x.shape[j]) (by unfold qF; simp[hk]) (Q:=λv=>v=y) hyy.symm) (λv hv=>?_)
 subst hv
 refine T.bind (T.val (fZ hk1) (Q:=λv=>v=y1) hyy1.symm) (λv1 hv=>?_)
 subst hv
 refine T.bind (T.val (uP (n:=x.shape.length) (by omega) (by omega)) (Q:=λv=>v=j) (by omega)) (λj1 hj=>?_)
 subst hj
 rw[aF (x:=v+v1) (by omega) (by omega)]
 refine T.bind (T.val (by unfold aset; rw[if_pos hk]) (Q:=λu=>u=x.shape.take j1++([v+v1]++x.shape.drop (j1+1))) (At2 hk)) (λl1 hl1=>?_)
 refine T.bind (uY (by rw[hl1]; simp; omega)) (λl2 hl2=>?_)
 subst hl2
 refine T.bind (T.val (Aa1 l2) (Q:=λv=>v=lJ l2) rfl) (λz hzz=>?_)
 obtain⟨z1,z2⟩:=z
 refine T.ite (λhe=>T.ret (Res.err (by omega))) (λhe=>?_)
 have hS:mB l2 z1:=by
  have h':z2=0:=dW he
  have:=uO (s:=l2) (by rw[←hzz]; exact h')
  rw[←hzz] at this; exact this
 have hj2:j1<l2.length:=by rw[hl1]; simp; omega
 refine T.bind (T.val (fZ hj2) (Q:=λu=>u=v+v1) ?_) (λy2 hy2=>?_)
 ·subst hl1
  exact BgX (by simp; omega) _
 subst hy2
 refine T.ite (λ_=>T.ret (Res.err (by omega))) (λhlim=>?_)
 have hlim:v+v1<=16384:=by simpa using hlim
 rw[show w64 ((j1:Int)+1)=((j1+1:Nat):Int) from by rw[aF (by omega) (by omega)]; rfl]
 refine T.bind (T.val (v:=x.shape.drop (j1+1)) (by unfold lfrom; rw[if_pos (by omega)]; simp) (Q:=λv=>v=x.shape.drop (j1+1)) rfl) (λl3 hl3=>?_)
 subst hl3
 refine T.bind (T.val (AkS (by unfold Few; simp; omega) (x.shape.drop (j1+1)) 0 1 rfl) (Q:=λv=>v=dS 1 (x.shape.drop (j1+1))) rfl) (λS hSS=>?_)
 refine T.bind (T.val (fZ hk) (Q:=λu=>u=v) hyy.symm) (λy3 hy3=>?_)
 subst hy3
 refine T.bind (T.val (fZ hk1) (Q:=λu=>u=v1) hyy1.symm) (λy4 hy4=>?_)
 subst hy4
 refine T.bind (T.val (v:=x.shape.take j1) (by unfold lto; rw[if_pos ⟨by omega,by omega⟩]; simp) (Q:=λv=>v=x.shape.take j1) rfl) (λl4 hl4=>?_)
 subst hl4
 refine T.bind (T.val (AkT (by unfold Few; simp; omega) (x.shape.take j1) 0 1 rfl) (Q:=λv=>v=dS 1 (x.shape.take j1)) rfl) (λW hW=>?_)
 obtain⟨P,hP⟩:∃P,P=aL (x.shape.take j1):=⟨_,rfl⟩
 obtain⟨Q,hQ⟩:∃Q,Q=aL (x.shape.drop (j1+1)):=⟨_,rfl⟩
 have P0:0<=P:=by rw[hP]; exact mQ λd hd=>(A.l.dims d (List.mem_of_mem_take hd)).1
 have Q0:0<=Q:=by rw[hQ]; exact mQ λd hd=>(A.l.dims d (List.mem_of_mem_drop hd)).1
 have hz1:=hS.prod
 have hz2:=hS.hi
 rw[hl1,fX,fX,←hP,←hQ] at hz1
 simp only[aL,Int.mul_one] at hz1
 rw[Int.add_mul,Int.mul_add] at hz1
 have px:aL x.shape=P*(y3*Q):=by
  rw[sx,fX,fX,←hP,←hQ]; simp only[aL,Int.mul_one]
 have px1:aL x1.shape=P*(y4*Q):=by
  rw[sx1,fX,fX,←hP,←hQ]; simp only[aL,Int.mul_one]
 have a1:0<=y3*Q:=Int.mul_nonneg hy.1 Q0
 have a2:0<=y4*Q:=Int.mul_nonneg hy1.1 Q0
 have b1:0<=P*(y3*Q):=Int.mul_nonneg P0 a1
 have b2:0<=P*(y4*Q):=Int.mul_nonneg P0 a2
 have nx:=AwW A.l px (by omega)
 have nx1:=AwW A.r px1 (by omega)
 have hdims:∀d∈l2,d<=16384:=by
  intro d hd
  rw[hl1] at hd
  rcases List.mem_append.1 hd with hd|hd
  ·exact (A.l.dims d (List.mem_of_mem_take hd)).2
  rcases List.mem_cons.1 hd with rfl|hd
  ·exact hlim
  exact (A.l.dims d (List.mem_of_mem_drop hd)).2
 have fin:∀cs:List aA,(cs.length:Int)=z1->(∀c∈cs,c∈x.cells\/c∈x1.cells)->Val 0 (Arr.mk l2 cs)/\Cw w (Arr.mk l2 cs).cells:=by
  intro cs h1 h2
  refine⟨AmB (by rw[h1]; exact hS) hdims λc hc=>?_,λc hc=>?_⟩
  ·rcases h2 c hc with h|h
   ·exact ha.i.cells c (A.l.mem c h)
   ·exact hb.i.cells c (A.r.mem c h)
  rcases h2 c hc with h|h
  ·exact hw c (A.l.mem c h)
  exact hw2 c (A.r.mem c h)
 have hWlt:W<9223372036854775808:=by rw[hW]; exact AlC (by omega)
 by_cases hn:z1=0
 ·-- nothing in it
  by_cases hw0:W<=0
  ·rw[iT]
   rw[if_neg (by simp; omega)]
   exact T.bind (T.ret (Q:=λv=>v=[]) rfl) (λu hu=>by subst hu; exact T.ret λ_=>fin [] (by simp[hn]) (by simp))
  have hP0:P≠0:=by
   intro h
   rw[hP] at h
   rw[hW,AaP (AhQ h)] at hw0; omega
  have e0:y3*S=0/\y4*S=0:=by
   by_cases hq:Q=0
   ·rw[hQ] at hq
    rw[hSS,AaP (AhQ hq)]; simp
   have z0:P*(y3*Q)=0:=by omega
   have z0':P*(y4*Q)=0:=by omega
   have c1:y3=0:=by
    rcases Int.mul_eq_zero.1 z0 with h|h
    ·exact absurd h hP0
    exact (Int.mul_eq_zero.1 h).resolve_right hq
   have c2:y4=0:=by
    rcases Int.mul_eq_zero.1 z0' with h|h
    ·exact absurd h hP0
    exact (Int.mul_eq_zero.1 h).resolve_right hq
   rw[c1,c2]; simp
  refine T.bind (AgA (c1:=0) (c2:=0) (o:=W) (by rw[e0.1]; rfl) (by rw[e0.2]; rfl) (by omega) (by omega) (by omega) (by omega) (by rw[Int.mul_zero]; omega) (by rw[Int.mul_zero]; omega) hWlt (max W 0).toNat 0 [] (by omega) (by omega) (by simp) (by simp)) (λr hr=>?_)
  exact T.ret λ_=>fin r (by rw[hr.1,hn]; simp) hr.2
 have hS':=hS
 rw[hl1] at hS'
 obtain⟨p1,p2,p3,p4⟩:=pE hS' hn
 obtain⟨q1,q2,q3,q4⟩:=pE p2 (by omega)
 rw[jW q2,←hQ] at hSS
 rw[jW p1,←hP] at hW
 subst hSS; subst hW
 rw[←hP] at p3
 have m1:1*(y3*S)<=W*(y3*S):=Int.mul_le_mul_of_nonneg_right (by omega) a1
 have m2:1*(y4*S)<=W*(y4*S):=Int.mul_le_mul_of_nonneg_right (by omega) a2
 refine T.bind (AgA (c1:=y3*S) (c2:=y4*S) (o:=W) (aF (by omega) (by omega)) (aF (by omega) (by omega)) a1 a2 (by omega) (by omega) (by omega) (by omega) hWlt (max W 0).toNat 0 [] (by omega) (by omega) (by simp) (by simp)) (λr hr=>?_)
 refine T.ret λ_=>fin r ?_ hr.2
 rw[hr.1,show max W 0=W by omega,Int.mul_add]; exact hz1
theorem AzN {a:Arr} {n:Int} {m:Nat} (hv:Val 0 a) (hm:Cw m a.cells):T (p_pick_rotated n a (w64 ((a.shape.length:Int)-1))) (λr=>Val 0 r/\Cw m r.cells):=by
 have hr:=hv.i.sized.rank
 rcases Nat.eq_zero_or_pos a.shape.length with h0|h0
 ·unfold p_pick_rotated
  refine T.ite (λ_=>T.ret ⟨hv,hm⟩) (λ_=>T.ite (λ_=>T.ret ⟨hv,hm⟩) (λh=>?_))
  simp[h0] at h
 rw[show w64 ((a.shape.length:Int)-1)=((a.shape.length-1:Nat):Int) from by rw[aF (by omega) (by omega)]; omega]
 exact AsY hv hm (.inl (by omega))
theorem BeW {op:Int} {a b:Arr} {w:Nat} (hw:Cw w a.cells) (hw2:Cw w b.cells):T (AdS op a b) (Res w):=by
 unfold AdS
 refine T.bind (R:=λv=>match v with|.error r=>r.2≠0|.ok _=>Val 0 a/\Val 0 b) ?_ (λv hv=>?_)
 ·rw[qP]
  rw[if_pos (by simp)]
  refine T.bind (T.val (v:=a) rfl (Q:=λv=>v=a) rfl) (λy hy=>?_)
  subst hy
  refine T.bind (T.val (qV y) (Q:=λv=>v=AfG y 0) rfl) (λe he=>?_)
  subst he
  refine T.ite (λhe=>T.ret (fP he)) (λhe1=>?_)
  rw[show w64 ((0:Int)+1)=1 from by rw[aF (by omega) (by omega)]; rfl]
  rw[qP]
  rw[if_pos (by simp)]
  refine T.bind (T.val (v:=b) rfl (Q:=λv=>v=b) rfl) (λz hz=>?_)
  subst hz
  refine T.bind (T.val (qV z) (Q:=λv=>v=AfG z 0) rfl) (λe he=>?_)
  subst he
  refine T.ite (λhe=>T.ret (fP he)) (λhe2=>?_)
  rw[show w64 ((1:Int)+1)=2 from by rw[aF (by omega) (by omega)]; rfl]
  rw[qP]
  rw[if_neg (by simp)]
  exact T.ret ⟨dW he1,dW he2⟩
 match v,hv with
 |.error r,h=>exact T.ret λh'=>absurd h' h
 |.ok _,⟨ha,hb⟩=>
  refine T.bind (T.val (sV a 0 ha) (Q:=λv=>v=a) rfl) (λx hx=>?_)
  subst hx
  refine T.bind (T.val (sV b 0 hb) (Q:=λv=>v=b) rfl) (λy hy=>?_)
  subst hy
  refine T.bind (R:=Any) (T.ite (λ_=>T.any) (λ_=>T.any)) (λx3 _=>?_)
  refine T.ite (λ_=>T.bind (BeP ha hb hw hw2) (λr hr=>T.ret hr)) (λ_=>?_)
  refine T.ite (λ_=>T.bind (BeE ha hb hw2) (λr hr=>T.ret hr)) (λ_=>?_)
  refine T.ite (λ_=>T.bind (BeE hb ha hw) (λr hr=>T.ret hr)) (λ_=>?_)
  refine T.bind (R:=Any) (T.ite (λ_=>T.any) (λ_=>T.any)) (λx3 _=>?_)
  refine T.ite (λ_=>T.bind (AzL ha hb hw2) (λr hr=>T.ret hr)) (λ_=>?_)
  refine T.bind (R:=Any) (T.ite (λ_=>T.any) (λ_=>T.ite (λ_=>T.any) (λ_=>T.ite (λ_=>T.any) (λ_=>T.any)))) (λx3 _=>?_)
  refine T.ite (λ_=>?_) (λ_=>T.ret (Res.err (by omega)))
  refine T.bind (BeQ ha) (λn _=>?_)
  obtain⟨n,e⟩:=n
  refine T.ite (λhe=>T.ret (Res.err (fP he))) (λ_=>?_)
  refine T.ite (λ_=>T.bind (BjA hb hw2) (λr hr=>T.ret hr)) (λ_=>?_)
  refine T.ite (λ_=>T.bind (BiM hb hw2) (λr hr=>T.ret λ_=>hr)) (λ_=>?_)
  refine T.ite (λ_=>T.bind (AsY (k:=0) hb hw2 ?_) (λr hr=>T.ret λ_=>hr)) (λ_=>T.bind (AzN hb hw2) (λr hr=>T.ret λ_=>hr))
  cases hs:y.shape with
  |nil=>exact .inr rfl
  |cons d r=>exact .inl (by simp)
theorem BjK {op:Int} {a:Arr} {w:Nat} (hw:Cw w a.cells) (hwa:wA a<=w):T (AaJ op a) (Res w):=by
 unfold AaJ
 have E:∀{x:Option (Arr×Int)},T x (Res w)->T (x>>=λ(x,x1)=>some (Except.error (x,x1):Except (Arr×Int) Unit)) (λr=>match r with|.error r=>Res w r|.ok _=>True):=λh=>T.bind h (λr hr=>T.ret hr)
 refine T.bind (R:=λr=>match r with|.error r=>Res w r|.ok _=>True) ?_ (λv hv=>?_)
 ·repeat' (first|exact E AyO|exact E (Bf7 hw)|exact T.ret trivial|refine T.ite (λ_=>?_) (λ_=>?_))
 match v,hv with
 |.error r,h=>exact T.ret h
 |.ok _,_=>exact T.bind (AzA hw hwa) (λr hr=>T.ret hr)
theorem BjP {op:Int} {a b:Arr} {w:Nat} (hw:Cw w a.cells) (hw2:Cw w b.cells):T (AaK op a b) (Res w):=by
 unfold AaK
 have E:∀{x:Option (Arr×Int)},T x (Res w)->T (x>>=λ(x,x1)=>some (Except.error (x,x1):Except (Arr×Int) Unit)) (λr=>match r with|.error r=>Res w r|.ok _=>True):=λh=>T.bind h (λr hr=>T.ret hr)
 refine T.bind (R:=λr=>match r with|.error r=>Res w r|.ok _=>True) ?_ (λv hv=>?_)
 ·repeat' (first|exact E (BbG hw2)|exact E Bf6|exact E (BeW hw hw2)|exact T.ret trivial|refine T.ite (λ_=>?_) (λ_=>?_))
 match v,hv with
 |.error r,h=>exact T.ret h
 |.ok _,_=>exact T.bind AyN (λr hr=>T.ret hr)
theorem AnT {l u c:Int} (hl:0<=l) (hl2:l<4611686018427387904) (hu:0<=u) (hu2:u<4611686018427387904) :
  eY (.mk (.mk l u) c)=some (if l=0 then (11,0,u) else (0,l-1,u+1)):=by
 unfold eY mN
 rw[if_neg (by decide)]
 by_cases h:l=0
 ·subst h
  rw[if_pos (by simp),if_pos rfl]
  simp
 rw[if_neg (by simp; omega),if_neg h]
 simp only[aF (x:=l-1) (by omega) (by omega),aF (x:=u+1) (by omega) (by omega)]
 simp
def cA (a:Arr):Int:=(kN a).getD 0
theorem BhI {a:Arr} (h:Val 0 a):kN a=some (cA a)/\(wA a<big->cA a=wA a):=by
 obtain⟨n,hn,hn2⟩:=BfZ a 0 h
 unfold cA
 rw[hn]
 exact⟨rfl,hn2⟩
theorem BgN {a:Arr} {e:Int} {names:List Str} {vals:List Arr} {b:aG} (hv:e=0->Val 0 a) :
  aV a e names vals b=some (if e=0 then (if cA a>b.cells then (.mk [] [],12) else (a,0)) else (.mk [] [],e)):=by
 unfold aV
 by_cases he:e=0
 ·subst he
  unfold qN
  rw[(BhI (hv rfl)).1]
  by_cases hc:cA a>b.cells
  ·simp[hc]
  simp[hc]
 simp[he]
theorem AyR {n:Node} (h:WfB n):T (hJ n) Any:=by
 unfold hJ
 rcases h with ⟨h,_⟩|⟨h,b,hb,_⟩
 ·rw[h]; exact T.any
 rw[h,hb]
 rw[if_pos (by decide)]
 exact T.bind (jR (Q:=Any) trivial) (λ_ _=>T.any)
theorem AsR {s:Str} {names:List Str} {vals:List Arr} {b:aG} (hf:Few names):∀(r:List Str) (k:Nat),names.drop k=r->T (bU (s,names,vals,b,(k:Int))) (λr=>match r with|.error r=>r.2=0->Val 0 r.1/\r.1∈vals|.ok _=>True)
 | [],k,h=>by
  rw[bU]
  simp only[bY (cC h),fJ,if_false]
  exact T.ret trivial
 |n::r,k,h=>by
  have hk:=cD h
  rw[bU]
  simp only[cU hk,if_true,bC h,oJ,bJ,bP h hf]
  refine T.bind (R:=λr=>match r with|.error r=>r.2=0->Val 0 r.1/\r.1∈vals|.ok _=>True) ?_ (λv hv=>?_)
  ·refine T.ite (λ_=>T.ite (λhx=>?_) (λ_=>T.ret trivial)) (λ_=>T.ret trivial)
   have hx:(k:Int)<vals.length:=by simpa using hx
   have e1:lget vals (k:Int)=some (vals[k]'(by omega)):=fZ (by omega)
   rw[e1]
   simp only[bJ,qV]
   refine T.ite (λ_=>T.ret (λh=>by simp at h)) (λhe=>?_)
   have hv:Val 0 (vals[k]'(by omega)):=dW he
   rw[sV _ 0 hv]
   exact T.ret λ_=>⟨hv,List.getElem_mem _⟩
  match v,hv with
  |.error r,h=>exact T.ret h
  |.ok _,_=>exact AsR hf r (k+1) (aS h)
theorem Bj5 {s:Str} {names:List Str} {vals:List Arr} {b:aG} (hf:Few names):T (cX s names vals b) (λr=>r.2=0->Val 0 r.1/\r.1∈vals):=by
 unfold cX
 refine T.bind (AsR hf names 0 rfl) (λv hv=>?_)
 match v,hv with
 |.error r,h=>exact T.ret h
 |.ok _,_=>exact T.ret (λh=>by simp at h)
mutual
def fM:Node->List Str
 |.mk kd _ nm _ ks _=>(if kd=2 then [nm] else [])++AuN ks
def AuN:List Node->List Str
 | []=>[]
 |n::r=>fM n++AuN r
end
theorem ApV {k:Node}:∀{l:List Node},k∈l->∀s∈fM k,s∈AuN l
 |n::r,hk,s,hs=>by
  simp only[AuN,List.mem_append]
  rcases List.mem_cons.1 hk with rfl|hk
  ·exact .inl hs
  exact .inr (ApV hk s hs)
theorem oZ {n k:Node} (hk:k∈n.kids):∀s∈fM k,s∈fM n:=by
 cases n; intro s hs
 simp only[fM,List.mem_append]
 exact .inr (ApV hk s hs)
def Lk (N:List Str) (V:List Arr) (N2:List Str) (V2:List Arr) (s:Str):Prop:=∀b b2,cX s N V b=cX s N2 V2 b2
theorem AxF {s:Str} {N:List Str} {V:List Arr} {b b2:aG} (hf:Few N):∀(r:List Str) (k:Nat),N.drop k=r->bU (s,N,V,b,(k:Int))=bU (s,N,V,b2,(k:Int))
 | [],k,h=>by
  conv=>lhs; rw[bU]
  conv=>rhs; rw[bU]
  simp only[bY (cC h),fJ,if_false]
 |n::r,k,h=>by
  conv=>lhs; rw[bU]
  conv=>rhs; rw[bU]
  simp only[bP h hf,AxF (b:=b) (b2:=b2) hf r (k+1) (aS h)]
theorem Bi5 {s:Str} {N:List Str} {V:List Arr} (hf:Few N) (b b2:aG):cX s N V b=cX s N V b2:=by
 unfold cX
 rw[show bU (s,N,V,b,0)=bU (s,N,V,b2,0) from AxF hf N 0 rfl]
def dT (G:Prop) (S:List Str) (N:List Str) (V:List Arr) (l u c:Int) (X:List Str->List Arr->aG->Option (Arr×Int×Int×Int)):Prop:=
 ∃x e l',X N V (.mk (.mk l u) c)=some (x,e,l',u+(l-l'))/\0<=l'/\l'<=l/\(e=0->Val 0 x/\(G->(wA x:Int)<=c)) /\
  ∀k c2 N2 V2,0<=k->k<=1000000->c<=c2->c2<=1000000->(∀s∈S,Lk N V N2 V2 s)->((e≠11/\e≠12)\/(k=0/\c2=c))->X N2 V2 (.mk (.mk (l+k) u) c2)=some (x,e,l'+k,u+(l-l'))
theorem dT.sub {G S S' N V l u c X} (h:dT G S N V l u c X) (hs:∀s∈S,s∈S'):dT G S' N V l u c X:=by
 obtain⟨x,e,l',h1,h2,h3,h4,h5⟩:=h
 exact⟨x,e,l',h1,h2,h3,h4,λk c2 N2 V2 a b d f g=>h5 k c2 N2 V2 a b d f λs hs'=>g s (hs s hs')⟩
theorem dT.val {G S N V} {l u c:Int} {X:List Str->List Arr->aG->Option (Arr×Int×Int×Int)} {x:Arr} {e:Int} (hf:Few N) (h0:0<=l) (hv:e=0->Val 0 x/\(G->(wA x:Int)<=c))
  (h:∀N2 V2 l2 c2,(∀s∈S,Lk N V N2 V2 s)->c<=c2->((e≠11/\e≠12)\/c2=c)->X N2 V2 (.mk (.mk l2 u) c2)=some (x,e,l2,u)):dT G S N V l u c X:=by
 refine⟨x,e,l,?_,h0,Int.le_refl _,hv,λk c2 N2 V2 _ _ h2 _ hs hr=>?_⟩
 ·rw[h N V l c (λs _ b b2=>?_) (Int.le_refl _) (.inr rfl)]
  ·simp
  ·exact Bi5 hf b b2
 rw[h N2 V2 (l+k) c2 hs h2 (hr.imp id λh=>h.2)]
 simp
theorem dT.step {G S N V} {l u c:Int} {X Y:List Str->List Arr->aG->Option (Arr×Int×Int×Int)} (h0:0<=l) (h1:l<=2000) (h2:0<=u) (h3:u<=2000)
  (hX:∀N V l u c,X N V (.mk (.mk l u) c)=eY (.mk (.mk l u) c)>>=λ(e,left,used)=>if (e != 0) then some (.mk [] [],e,left,used) else Y N V (.mk (.mk left used) c))
  (h:0<l->dT G S N V (l-1) (u+1) c Y):dT G S N V l u c X:=by
 by_cases hl:l=0
 ·subst hl
  refine⟨.mk [] [],11,0,?_,Int.le_refl _,Int.le_refl _,λh=>by omega,λk c2 N2 V2 _ _ _ _ _ hr=>?_⟩
  ·rw[hX,AnT (by omega) (by omega) (by omega) (by omega)]; simp
  have hk:k=0:=by omega
  subst hk
  rw[hX,Int.zero_add,AnT (by omega) (by omega) (by omega) (by omega)]; simp
 obtain⟨x,e,l',g1,g2,g3,g4,g5⟩:=h (by omega)
 refine⟨x,e,l',?_,g2,by omega,g4,λk c2 N2 V2 a b d f g hr=>?_⟩
 ·rw[hX,AnT (by omega) (by omega) (by omega) (by omega),if_neg hl]
  simp only[oJ,bJ]
  rw[if_neg (by decide),g1]
  rw[show u+1+(l-1-l')=u+(l-l') by omega]
 rw[hX,AnT (by omega) (by omega) (by omega) (by omega),if_neg (by omega)]
 simp only[oJ,bJ]
 rw[if_neg (by decide),show l+k-1=l-1+k by omega,g5 k c2 N2 V2 a b d f g hr]
 rw[show u+1+(l-1-l')=u+(l-l') by omega]
end Go.AM.Seat
namespace Go.AM.Seat
open Go Go.AM
theorem dT.held {G S N V} {l u c:Int} {a:Arr} {e:Int} (h0:0<=l) (hv:e=0->Val 0 a/\(G->wA a<big)) :
  dT G S N V l u c (λN V m=>aV a e N V m>>=λ(x,x1)=>some (x,x1,m.fuel.left,m.fuel.used)):=by
 have H:∀N V m,aV a e N V m=some (if e=0 then (if cA a>m.cells then (.mk [] [],12) else (a,0)) else (.mk [] [],e)):=λN V m=>BgN λh=>(hv h).1
 by_cases he:e=0
 ·by_cases hc:cA a>c
  ·refine⟨.mk [] [],12,l,?_,h0,Int.le_refl _,λh=>by omega,λk c2 N2 V2 _ _ _ _ _ hr=>?_⟩
   ·simp only[H,if_pos he,if_pos hc,oJ,bJ,Int.sub_self,Int.add_zero]
   ·have hc2:c2=c:=by omega
    subst hc2
    simp only[H,if_pos he,if_pos hc,oJ,bJ,Int.sub_self,Int.add_zero]
  ·refine⟨a,0,l,?_,h0,Int.le_refl _,λh=>⟨(hv he).1,λg=>?_⟩,λk c2 N2 V2 _ _ h2 _ _ hr=>?_⟩
   ·simp only[H,if_pos he,if_neg hc,oJ,bJ,Int.sub_self,Int.add_zero]
   ·have:=(BhI (hv he).1).2 ((hv he).2 g)
    omega
   ·have hc2:¬cA a>c2:=by omega
    simp only[H,if_pos he,if_neg hc2,oJ,bJ,Int.sub_self,Int.add_zero]
 refine⟨.mk [] [],e,l,?_,h0,Int.le_refl _,λh=>absurd h he,λk c2 N2 V2 _ _ _ _ _ _=>?_⟩
 ·simp only[H,if_neg he,oJ,bJ,Int.sub_self,Int.add_zero]
 simp only[H,if_neg he,oJ,bJ,Int.sub_self,Int.add_zero]
theorem BjC {a:Arr} {w:Nat} (hv:Val 0 a) (hw:Cw w a.cells) (h:w<=1000000):wA a<big:=by
 rw[AqJ,AiQ]
 have h1:=BdK hw
 have h2:=hv.i.sized.hi
 have h3:a.cells.length*w<=16384*1000000:=Nat.mul_le_mul (by omega) h
 unfold big; omega
theorem dT.seq {G S N V} {l u c:Int} {X X1:List Str->List Arr->aG->Option (Arr×Int×Int×Int)} {K:Arr×Int×Int×Int->List Str->List Arr->Int->Option (Arr×Int×Int×Int)} {Y:Arr->List Str->List Arr->aG->Option (Arr×Int×Int×Int)}
  (h1:dT G S N V l u c X1) (hX:∀N V l u c,X N V (.mk (.mk l u) c)=X1 N V (.mk (.mk l u) c)>>=λr=>K r N V c) (he:∀x e l u N V c,e≠0->K (x,e,l,u) N V c=some (.mk [] [],e,l,u)) (hk:∀x l u N V c,K (x,0,l,u) N V c=Y x N V (.mk (.mk l u) c))
  (h2:∀x l',Val 0 x->(G->(wA x:Int)<=c)->0<=l'->l'<=l->dT G S N V l' (u+(l-l')) c (Y x)):dT G S N V l u c X:=by
 obtain⟨x,e,l',g1,g2,g3,g4,g5⟩:=h1
 by_cases hz:e=0
 ·subst hz
  obtain⟨v1,v2⟩:=g4 rfl
  obtain⟨y,f,l2,k1,k2,k3,k4,k5⟩:=h2 x l' v1 v2 g2 g3
  refine⟨y,f,l2,?_,k2,by omega,k4,λk c2 N2 V2 a b d f2 g hr=>?_⟩
  ·rw[hX,g1]
   simp only[oJ,bJ,hk]
   rw[k1,show u+(l-l')+(l'-l2)=u+(l-l2) by omega]
  rw[hX,g5 k c2 N2 V2 a b d f2 g (.inl (by omega))]
  simp only[oJ,bJ,hk]
  rw[k5 k c2 N2 V2 a b d f2 g hr,show u+(l-l')+(l'-l2)=u+(l-l2) by omega]
 refine⟨.mk [] [],e,l',?_,g2,g3,λh=>absurd h hz,λk c2 N2 V2 a b d f2 g hr=>?_⟩
 ·rw[hX,g1]
  simp only[oJ,bJ,he _ _ _ _ _ _ _ hz]
 rw[hX,g5 k c2 N2 V2 a b d f2 g hr]
 simp only[oJ,bJ,he _ _ _ _ _ _ _ hz]
theorem BeA {G:Prop} {n:Node} {ar:pK} {S N V} {l u c:Int} (hl0:0<=l) (hl:l<=2000) (hu0:0<=u) (hu:u<=2000) (hk:n.kind=1) (hv:Val 0 n.lit) (hw:G->wA n.lit<big):dT G S N V l u c (λN V m=>aJ (n,ar,N,V,m)):=by
 refine dT.step (Y:=λN V m=>aV n.lit 0 N V m>>=λ(x,x1)=>some (x,x1,m.fuel.left,m.fuel.used)) hl0 hl hu0 hu ?_ (λh=>dT.held (by omega) λ_=>⟨hv,hw⟩)
 intro N V l u c
 simp only[]
 rw[aJ]
 simp only[hk,beq_self_eq_true,if_true,sV _ 0 hv,oJ,bJ]
theorem dT.congr {G:Prop} {S N V} {l u c:Int} {X Y:List Str->List Arr->aG->Option (Arr×Int×Int×Int)} (h:dT G S N V l u c Y) (e:∀N2 V2 m,(∀s∈S,Lk N V N2 V2 s)->X N2 V2 m=Y N2 V2 m) (hf:Few N):dT G S N V l u c X:=by
 obtain⟨x,f,l',g1,g2,g3,g4,g5⟩:=h
 exact⟨x,f,l',by rw[e N V _ λs _ b b2=>Bi5 hf b b2,g1],g2,g3,g4,λk c2 N2 V2 a b d f2 g hr=>by rw[e N2 V2 _ g]; exact g5 k c2 N2 V2 a b d f2 g hr⟩
mutual
def Aj8:Node->Prop
 |.mk kd _ _ l ks _=>(kd=1->Val 0 l->wA l<big)/\BaU ks
def BaU:List Node->Prop
 | []=>True
 |n::r=>Aj8 n/\BaU r
end
theorem AsM:∀{l:List Node},BaU l->∀k∈l,Aj8 k
 |n::r,h,k,hk=>by
  rcases List.mem_cons.1 hk with rfl|hk
  ·exact h.1
  exact AsM h.2 k hk
theorem Aj8.kids {n:Node} (h:Aj8 n):∀k∈n.kids,Aj8 k:=by cases n; exact AsM h.2
theorem Aj8.lit {n:Node} (h:Aj8 n):n.kind=1->Val 0 n.lit->wA n.lit<big:=by cases n; exact h.1
def Arg (G:Prop) (c:Int) (a:Arr):Prop:=Val 0 a/\(G->(wA a:Int)<=c)
def Mt (l u c:Int):Prop:=0<=l/\0<=u/\l+u<=2000/\c<=1000000
theorem Mt.less {l u c l':Int} (h:Mt l u c) (h0:0<=l') (h1:l'<=l):Mt l' (u+(l-l')) c:=by
 obtain⟨h2,h3,h4,h5⟩:=h; exact⟨h0,by omega,by omega,h5⟩
theorem Mt.next {l u c:Int} (h:Mt l u c) (h0:0<l):Mt (l-1) (u+1) c:=by
 obtain⟨h2,h3,h4,h5⟩:=h; exact⟨by omega,by omega,by omega,h5⟩
theorem AjL {a:Arr}:Cw (wA a) a.cells:=by
 intro c hc
 rw[AqJ,AiQ]
 have:=AjX hc
 omega
theorem ob {α β:Type} {x:Option α} {f g:α->Option β} (h:∀a,f a=g a):(x>>=f)=(x>>=g):=by rw[funext h]
theorem BbY {α β γ δ:Type} (o:Option (α×β×γ×δ)):(o>>=λ(a,b,c,d)=>some (a,b,c,d))=o:=by cases o<;>rfl
theorem dT.eqv {G S N V} {l u c:Int} {X Y:List Str->List Arr->aG->Option (Arr×Int×Int×Int)} (h:dT G S N V l u c Y) (e:∀N V m,X N V m=Y N V m):dT G S N V l u c X:=by
 have:X=Y:=by funext N V m; exact e N V m
 rw[this]; exact h
theorem dT.prim {G:Prop} {S N V} {l u c:Int} {P:Option (Arr×Int)} {w:Nat} (hP:T P (Res w)) (h0:0<=l) (hc:c<=1000000) (hw:G->(w:Int)<=c) :
  dT G S N V l u c (λN V m=>P>>=λ(x,x1)=>aV x x1 N V m>>=λ(x2,x3)=>some (x2,x3,m.fuel.left,m.fuel.used)):=by
 obtain⟨⟨x,e⟩,hr,hq⟩:=hP
 subst hr
 refine dT.eqv (dT.held (a:=x) (e:=e) h0 λhe=>⟨(hq he).1,λg=>BjC (hq he).1 (hq he).2 ?_⟩) λ_ _ _=>rfl
 have:=hw g
 omega
theorem Az8 {f x:Node}:lget [f,x] (w64 ((List.length [f,x]:Int)-1))=some x:=by rfl
theorem Az9 {f x y:Node}:lget [f,x,y] (w64 ((List.length [f,x,y]:Int)-1))=some y:=by rfl
theorem dT.go {G S N V} {l u c:Int} {X Y:List Str->List Arr->aG->Option (Arr×Int×Int×Int)} (hm:Mt l u c)
  (hX:∀N V l u c,X N V (.mk (.mk l u) c)=eY (.mk (.mk l u) c)>>=λ(e,left,used)=>if (e != 0) then some (.mk [] [],e,left,used) else Y N V (.mk (.mk left used) c))
  (h:Mt (l-1) (u+1) c->dT G S N V (l-1) (u+1) c Y):dT G S N V l u c X:=
 dT.step hm.1 (by have:=hm; unfold Mt at this; omega) hm.2.1 (by have:=hm; unfold Mt at this; omega) hX λh0=>h (hm.next h0)
end Go.AM.Seat
namespace Go.AM.Seat
open Go Go.AM
def OkE (G:Prop) (N:List Str) (V:List Arr) (n:Node):Prop:=∀lt rt,WfE lt rt n->(G->Aj8 n)->∀(ar:pK) (l u c:Int),Mt l u c->(lt=true->Arg G c ar.left)->(rt=true->Arg G c ar.right) ->
 dT G (fM n) N V l u c (λN V m=>aJ (n,ar,N,V,m))
def OkM (G:Prop) (N:List Str) (V:List Arr) (n:Node):Prop:=WfM n->(G->Aj8 n)->∀(a:Arr) (l u c:Int),Mt l u c->Arg G c a->dT G (fM n) N V l u c (λN V m=>bA (n,a,N,V,m))
def OkT (G:Prop) (N:List Str) (V:List Arr) (n:Node):Prop:=WfT n->(G->Aj8 n)->∀(a b:Arr) (l u c:Int),Mt l u c->Arg G c a->Arg G c b->dT G (fM n) N V l u c (λN V m=>bF (n,a,b,N,V,m))
def OkD (G:Prop) (N:List Str) (V:List Arr) (n:Node):Prop:=WfD n->(G->Aj8 n)->∀(a b:Arr) (l u c:Int),Mt l u c->Arg G c a->Arg G c b->dT G (fM n) N V l u c (λN V m=>bF (n,a,b,N,V,m))
section
variable {G:Prop} {N:List Str} {V:List Arr} {n:Node}
theorem BeB {ar:pK} {l u c:Int} (hf:Few N) (hG:G->∀v∈V,Val 0 v->wA v<big) (hm:Mt l u c) (hk:n.kind=2):dT G (fM n) N V l u c (λN V m=>aJ (n,ar,N,V,m)):=by
 refine dT.go (Y:=λN V m=>cX n.name N V m>>=λ(x3,x4)=>aV x3 x4 N V m>>=λ(x5,x6)=>some (x5,x6,m.fuel.left,m.fuel.used)) hm ?_ (λh=>?_)
 ·intro N V l u c
  simp only[]
  rw[aJ]
  simp only[hk]
  rfl
 obtain⟨⟨x,e⟩,hr,hq⟩:=Bj5 (s:=n.name) (vals:=V) (b:=.mk (.mk l u) c) hf
 refine dT.congr (Y:=λN V m=>aV x e N V m>>=λ(x5,x6)=>some (x5,x6,m.fuel.left,m.fuel.used)) (dT.held h.1 λhe=>⟨(hq he).1,λg=>hG g _ (hq he).2 (hq he).1⟩) ?_ hf
 intro N2 V2 m hs
 have:cX n.name N2 V2 m=some (x,e):=by
  rw[←hs n.name (by obtain⟨k,o,nm,lt,ks,at_⟩:=n; simp only[Node.kind] at hk; subst hk; simp[fM,Node.name]) (.mk (.mk l u) c) m,hr]
 rw[this]
 rfl
theorem AwJ {ar:pK} {l u c:Int} {x:Arr} (hf:Few N) (hm:Mt l u c) (hx:Arg G c x) (hk:(n.kind=3/\ar.left=x)\/(n.kind=4/\ar.right=x)):dT G (fM n) N V l u c (λN V m=>aJ (n,ar,N,V,m)):=by
 refine dT.go (Y:=λN V m=>some (x,0,m.fuel.left,m.fuel.used)) hm ?_ (λh=>?_)
 ·intro N V l u c
  simp only[]
  rw[aJ]
  rcases hk with ⟨hk,rfl⟩|⟨hk,rfl⟩
  ·simp only[hk]; rfl
  simp only[hk]; rfl
 exact dT.val hf h.1 (λ_=>hx) λN2 V2 l2 c2 _ _ _=>rfl
theorem BgH {ar:pK} {l u c:Int} {f x:Node} (hm:Mt l u c) (hk:n.kind=5) (hks:n.kids=[f,x])
  (hx:Mt (l-1) (u+1) c->dT G (fM x) N V (l-1) (u+1) c (λN V m=>aJ (x,ar,N,V,m)))
  (hf:∀l u a,Mt l u c->Arg G c a->dT G (fM f) N V l u c (λN V m=>bA (f,a,N,V,m))):dT G (fM n) N V l u c (λN V m=>aJ (n,ar,N,V,m)):=by
 let K:Arr×Int×Int×Int->List Str->List Arr->Int->Option (Arr×Int×Int×Int):=λ(x7,e1,left1,used1) N V c=>
  if (e1 != 0) then some (.mk [] [],e1,left1,used1) else bA (f,x7,N,V,.mk (.mk left1 used1) c)>>=λ(x10,x11,left3,used3)=>some (x10,x11,left3,used3)
 refine dT.go (Y:=λN V m=>aJ (x,ar,N,V,m)>>=λr=>K r N V m.cells) hm ?_ (λh=>?_)
 ·intro N V l u c
  conv=>lhs; simp only[]; rw[aJ]
  refine ob λ⟨e,left,used⟩=>?_
  simp only[hk,hks,Az8,oJ,bJ]
  congr 1
  refine ob λ⟨x7,e1,left1,used1⟩=>?_
  simp only[K]
  by_cases he:e1=0
  ·subst he; rfl
  rw[if_pos (by simpa using he),if_pos (by simpa using he),if_pos (by simpa using he)]
 refine dT.seq (X1:=λN V m=>aJ (x,ar,N,V,m)) (K:=K) (Y:=λa N V m=>bA (f,a,N,V,m)) ((hx h).sub (oZ (by rw[hks]; simp))) (λ_ _ _ _ _=>rfl) ?_ ?_ ?_
 ·intro x e l u N V c he
  simp only[K]; rw[if_pos (by simpa using he)]
 ·intro x l u N V c
  exact BbY _
 intro a l' hv hw h0 h1
 exact (hf _ _ a (h.less h0 h1) ⟨hv,hw⟩).sub (oZ (by rw[hks]; simp))
theorem BgG {ar:pK} {l u c:Int} {f x y:Node} (hm:Mt l u c) (hk:n.kind=6) (hks:n.kids=[f,x,y])
  (hy:∀l u,Mt l u c->dT G (fM y) N V l u c (λN V m=>aJ (y,ar,N,V,m)))
  (hx:∀l u,Mt l u c->dT G (fM x) N V l u c (λN V m=>aJ (x,ar,N,V,m)))
  (hf:∀l u a b,Mt l u c->Arg G c a->Arg G c b->dT G (fM f) N V l u c (λN V m=>bF (f,a,b,N,V,m))):dT G (fM n) N V l u c (λN V m=>aJ (n,ar,N,V,m)):=by
 let K2:Arr->Arr×Int×Int×Int->List Str->List Arr->Int->Option (Arr×Int×Int×Int):=λx7 (x12,e2,left4,used4) N V c=>
  if (e2 != 0) then some (.mk [] [],e2,left4,used4) else bF (f,x12,x7,N,V,.mk (.mk left4 used4) c)>>=λ(x10,x11,left3,used3)=>some (x10,x11,left3,used3)
 let Y2:Arr->List Str->List Arr->aG->Option (Arr×Int×Int×Int):=λx7 N V m=>aJ (x,ar,N,V,m)>>=λr=>K2 x7 r N V m.cells
 let K:Arr×Int×Int×Int->List Str->List Arr->Int->Option (Arr×Int×Int×Int):=λ(x7,e1,left1,used1) N V c=>
  if (e1 != 0) then some (.mk [] [],e1,left1,used1) else Y2 x7 N V (.mk (.mk left1 used1) c)
 refine dT.go (Y:=λN V m=>aJ (y,ar,N,V,m)>>=λr=>K r N V m.cells) hm ?_ (λh=>?_)
 ·intro N V l u c
  conv=>lhs; simp only[]; rw[aJ]
  refine ob λ⟨e,left,used⟩=>?_
  simp only[hk,hks,Az9,oJ,bJ]
  congr 1
  refine ob λ⟨x7,e1,left1,used1⟩=>?_
  simp only[K,Y2,K2]
  by_cases he:e1=0
  ·subst he; rfl
  rw[if_pos (by simpa using he),if_pos (by simpa using he),if_pos (by simpa using he)]
 refine dT.seq (X1:=λN V m=>aJ (y,ar,N,V,m)) (K:=K) (Y:=Y2) ((hy _ _ h).sub (oZ (by rw[hks]; simp))) (λ_ _ _ _ _=>rfl) ?_ ?_ ?_
 ·intro x e l u N V c he
  simp only[K]; rw[if_pos (by simpa using he)]
 ·intro x l u N V c
  rfl
 intro a l' hv hw h0 h1
 have hm':=h.less h0 h1
 refine dT.seq (X1:=λN V m=>aJ (x,ar,N,V,m)) (K:=K2 a) (Y:=λb N V m=>bF (f,b,a,N,V,m)) ((hx _ _ hm').sub (oZ (by rw[hks]; simp))) (λ_ _ _ _ _=>rfl) ?_ ?_ ?_
 ·intro x e l u N V c he
  simp only[K2]; rw[if_pos (by simpa using he)]
 ·intro x l u N V c
  exact BbY _
 intro b l2 hv2 hw2 h2 h3
 exact (hf _ _ b a (hm'.less h2 h3) ⟨hv2,hw2⟩ ⟨hv,hw⟩).sub (oZ (by rw[hks]; simp))
end
end Go.AM.Seat
namespace Go.AM.Seat
open Go Go.AM
section
variable {G:Prop} {N:List Str} {V:List Arr} {n:Node}
theorem dT.fold {S N V} {l u c:Int} {P:Option (Arr×Int)} {b:Node} {w:Nat} (hb:WfB b) {R:cE->Option (Arr×Int)} (hP:∀f,T (R f) (Res w)) (h0:0<=l) (hc:c<=1000000) (hw:G->(w:Int)<=c) :
  dT G S N V l u c (λN V m=>hJ b>>=λx8=>R x8>>=λ(x,x1)=>aV x x1 N V m>>=λ(x2,x3)=>some (x2,x3,m.fuel.left,m.fuel.used)):=by
 obtain⟨f,hr,_⟩:=AyR hb
 rw[hr]
 exact dT.prim (hP f) h0 hc hw
theorem BeT {a:Arr} {l u c:Int} (hm:Mt l u c) (ha:Arg G c a) (hk:n.kind=21):dT G (fM n) N V l u c (λN V m=>bA (n,a,N,V,m)):=by
 refine dT.go (Y:=λN V m=>AaJ n.op_ a>>=λ(x,x1)=>aV x x1 N V m>>=λ(x2,x3)=>some (x2,x3,m.fuel.left,m.fuel.used)) hm ?_ (λh=>dT.prim (BjK AjL (Nat.le_refl _)) h.1 h.2.2.2 ha.2)
 intro N V l u c
 simp only[]
 rw[bA]
 simp only[hk]
 rfl
theorem BfF {a b:Arr} {l u c:Int} (hm:Mt l u c) (ha:Arg G c a) (hb:Arg G c b) (hk:n.kind=21):dT G (fM n) N V l u c (λN V m=>bF (n,a,b,N,V,m)):=by
 have hle:∀{w v:Nat} {l:List aA},Cw w l->w<=v->Cw v l:=λh h' c hc=>Nat.le_trans (h c hc) h'
 refine dT.go (Y:=λN V m=>AaK n.op_ a b>>=λ(x,x1)=>aV x x1 N V m>>=λ(x2,x3)=>some (x2,x3,m.fuel.left,m.fuel.used)) hm ?_
  (λh=>dT.prim (BjP (w:=max (wA a) (wA b)) (hle AjL (by omega)) (hle AjL (by omega))) h.1 h.2.2.2 λg=>by have:=ha.2 g; have:=hb.2 g; omega)
 intro N V l u c
 simp only[]
 rw[bF]
 simp only[hk]
 rfl
theorem BeS {a:Arr} {l u c:Int} {b:Node} (hm:Mt l u c) (ha:Arg G c a) (hk:n.kind=31\/n.kind=32\/n.kind=33\/n.kind=34) (hks:n.kids=[b]) (hb:WfB b):dT G (fM n) N V l u c (λN V m=>bA (n,a,N,V,m)):=by
 have g:n.kind=31\/n.kind=32\/n.kind=33\/n.kind=34:=hk
 by_cases h12:n.kind=31\/n.kind=32
 ·refine dT.go (Y:=λN V m=>hJ b>>=λx9=>yB x9 a (n.kind==32)>>=λ(x,x1)=>aV x x1 N V m>>=λ(x2,x3)=>some (x2,x3,m.fuel.left,m.fuel.used)) hm ?_
   (λh=>dT.fold (P:=none) hb (λf=>BjL AjL) h.1 h.2.2.2 ha.2)
  intro N V l u c
  simp only[]
  rw[bA]
  rcases h12 with hk|hk<;>simp only[hk,hks]<;>rfl
 refine dT.go (Y:=λN V m=>hJ b>>=λx9=>vT x9 a (n.kind==34)>>=λ(x,x1)=>aV x x1 N V m>>=λ(x2,x3)=>some (x2,x3,m.fuel.left,m.fuel.used)) hm ?_
  (λh=>dT.fold (P:=none) hb (λf=>BiH AjL) h.1 h.2.2.2 ha.2)
 intro N V l u c
 simp only[]
 rw[bA]
 have h34:n.kind=33\/n.kind=34:=by omega
 rcases h34 with hk|hk<;>simp only[hk,hks]<;>rfl
theorem BcV {a b:Arr} {l u c:Int} {k:Node} (hm:Mt l u c) (ha:Arg G c a) (hb':Arg G c b) (hk:n.kind=25) (hks:n.kids=[k]) (hb:WfB k):dT G (fM n) N V l u c (λN V m=>bF (n,a,b,N,V,m)):=by
 refine dT.go (Y:=λN V m=>hJ k>>=λx9=>tG x9 a b>>=λ(x,x1)=>aV x x1 N V m>>=λ(x2,x3)=>some (x2,x3,m.fuel.left,m.fuel.used)) hm ?_
  (λh=>dT.fold (P:=none) hb (λf=>Bg2 (m:=wA a)) h.1 h.2.2.2 ha.2)
 intro N V l u c
 simp only[]
 rw[bF]
 simp only[hk,hks]
 rfl
theorem BgY {a:Arr} {l u c:Int} {e:Node} (hm:Mt l u c) (hk:n.kind=22) (hks:n.kids=[e])
  (he:∀l u,Mt l u c->dT G (fM e) N V l u c (λN V m=>aJ (e,.mk (.mk [] []) a,N,V,m))):dT G (fM n) N V l u c (λN V m=>bA (n,a,N,V,m)):=by
 refine dT.go (Y:=λN V m=>aJ (e,.mk (.mk [] []) a,N,V,m)) hm ?_ (λh=>(he _ _ h).sub (oZ (by rw[hks]; simp)))
 intro N V l u c
 conv=>lhs; simp only[]; rw[bA]
 refine ob λ⟨e1,left,used⟩=>?_
 simp only[hk,hks]
 congr 1
 exact BbY _
theorem BeR {a:Arr} {l u c:Int} {f:Node} (hm:Mt l u c) (hk:n.kind=35) (hks:n.kids=[f])
  (he:∀l u,Mt l u c->dT G (fM f) N V l u c (λN V m=>bF (f,a,a,N,V,m))):dT G (fM n) N V l u c (λN V m=>bA (n,a,N,V,m)):=by
 refine dT.go (Y:=λN V m=>bF (f,a,a,N,V,m)) hm ?_ (λh=>(he _ _ h).sub (oZ (by rw[hks]; simp)))
 intro N V l u c
 conv=>lhs; simp only[]; rw[bA]
 refine ob λ⟨e1,left,used⟩=>?_
 simp only[hk,hks]
 congr 1
 exact BbY _
theorem BhC {a b:Arr} {l u c:Int} {e:Node} (hm:Mt l u c) (hk:n.kind=23) (hks:n.kids=[e])
  (he:∀l u,Mt l u c->dT G (fM e) N V l u c (λN V m=>aJ (e,.mk a b,N,V,m))):dT G (fM n) N V l u c (λN V m=>bF (n,a,b,N,V,m)):=by
 refine dT.go (Y:=λN V m=>aJ (e,.mk a b,N,V,m)) hm ?_ (λh=>(he _ _ h).sub (oZ (by rw[hks]; simp)))
 intro N V l u c
 conv=>lhs; simp only[]; rw[bF]
 refine ob λ⟨e1,left,used⟩=>?_
 simp only[hk,hks]
 congr 1
 exact BbY _
theorem BfE {a b:Arr} {l u c:Int} {f:Node} (hm:Mt l u c) (hk:n.kind=35) (hks:n.kids=[f])
  (he:∀l u,Mt l u c->dT G (fM f) N V l u c (λN V m=>bF (f,b,a,N,V,m))):dT G (fM n) N V l u c (λN V m=>bF (n,a,b,N,V,m)):=by
 refine dT.go (Y:=λN V m=>bF (f,b,a,N,V,m)) hm ?_ (λh=>(he _ _ h).sub (oZ (by rw[hks]; simp)))
 intro N V l u c
 conv=>lhs; simp only[]; rw[bF]
 refine ob λ⟨e1,left,used⟩=>?_
 simp only[hk,hks]
 congr 1
 exact BbY _
theorem BiZ {N:List Str} {V:List Arr} {l u c l2 u2:Int} (hn:n.op_<=4096):∀(k:Nat) (i:Int) (sh:List Int) (cs:List aA) (c0 c1:Int),0<=i->n.op_-i=k ->
  bS (n,N,V,.mk (.mk l u) c,i,sh,cs,c0,c1)=bS (n,N,V,.mk (.mk l2 u2) c,i,sh,cs,c0,c1)
 |0,i,sh,cs,c0,c1,hi,h=>by
  conv=>lhs; rw[bS]
  conv=>rhs; rw[bS]
  simp only[bY (show ¬i<n.op_ by omega),fJ,if_false]
 |k+1,i,sh,cs,c0,c1,hi,h=>by
  conv=>lhs; rw[bS]
  conv=>rhs; rw[bS]
  have e:w64 (i+1)=i+1:=aF (by omega) (by omega)
  simp only[e]
  congr 1
  refine ob λy=>ob λ⟨x21,e1,l3,u3⟩=>?_
  by_cases he:e1=0
  ·subst he
   exact BiZ hn k (i+1) _ _ _ _ (by omega) (by omega)
  rw[if_pos (by simpa using he),if_pos (by simpa using he)]
def Bh3 (r:Except (Arr×Int×Int×Int) (List Int×List aA×Int×Int)):Option (Arr×Int×Int×Int):=match r with|.error r=>some r|.ok (x01,x111,c01,c11)=>some (.mk x01 x111,0,c01,c11)
theorem AxL {f:Node} {c:Int} (hf0:Few N) (hks:n.kids=[f]) (hn:n.op_<=4096) (hf:∀l u a,Mt l u c->Arg G c a->dT G (fM f) N V l u c (λN V m=>bA (f,a,N,V,m))) :
  ∀(k:Nat) (i:Int) (a:Arr) (l u:Int),0<=i->n.op_-i=k->Mt l u c->Arg G c a->dT G (fM n) N V l u c (λN V m=>bS (n,N,V,m,i,a.shape,a.cells,m.fuel.left,m.fuel.used)>>=Bh3)
 |0,i,a,l,u,hi,h,hm,ha=>by
  refine dT.val hf0 hm.1 (x:=a) (e:=0) (λ_=>ha) λN2 V2 l2 c2 _ _ _=>?_
  rw[bS]
  simp only[bY (show ¬i<n.op_ by omega),fJ,if_false]
  cases a; rfl
 |k+1,i,a,l,u,hi,h,hm,ha=>by
  let Y:Arr->List Str->List Arr->aG->Option (Arr×Int×Int×Int):=λx N V m=>bS (n,N,V,m,i+1,x.shape,x.cells,m.fuel.left,m.fuel.used)>>=Bh3
  let K:Arr×Int×Int×Int->List Str->List Arr->Int->Option (Arr×Int×Int×Int):=λ(x7,e1,left1,used1) N V c=>
   if (e1 != 0) then some (.mk [] [],e1,left1,used1) else Y x7 N V (.mk (.mk left1 used1) c)
  refine dT.seq (X1:=λN V m=>bA (f,a,N,V,m)) (K:=K) (Y:=Y) ((hf _ _ a hm ha).sub (oZ (by rw[hks]; simp))) ?_ ?_ ?_ ?_
  ·intro N V l u c
   simp only[]
   rw[bS]
   have e:w64 (i+1)=i+1:=aF (by omega) (by omega)
   simp only[cU (show i<n.op_ by omega),if_true,hks,e]
   rw[show lget [f] 0=some f from rfl]
   have ea:Arr.mk a.shape a.cells=a:=by cases a; rfl
   simp only[oJ,bJ,Option.bind_assoc,ea]
   refine ob λ⟨x21,e1,l3,u3⟩=>?_
   by_cases he:e1=0
   ·subst he
    simp only[K,Y]
    have:=BiZ (n:=n) (N:=N) (V:=V) (l:=l) (u:=u) (c:=c) (l2:=l3) (u2:=u3) hn k (i+1) x21.shape x21.cells l3 u3 (by omega) (by omega)
    show (bS _>>=Bh3)=_
    rw[this]
    rfl
   simp only[K]
   rw[if_pos (by simpa using he),if_pos (by simpa using he)]
   rfl
  ·intro x e l u N V c he
   simp only[K]; rw[if_pos (by simpa using he)]
  ·intro x l u N V c
   rfl
  intro x l' hv hw h0 h1
  exact AxL hf0 hks hn hf k (i+1) x l' _ (by omega) (by omega) (hm.less h0 h1) ⟨hv,hw⟩
theorem BgZ {a:Arr} {l u c:Int} {f:Node} (hf0:Few N) (hm:Mt l u c) (ha:Arg G c a) (hk:n.kind=26) (ho:0<=n.op_) (hn:n.op_<=4096) (hks:n.kids=[f])
  (hf:∀l u a,Mt l u c->Arg G c a->dT G (fM f) N V l u c (λN V m=>bA (f,a,N,V,m))):dT G (fM n) N V l u c (λN V m=>bA (n,a,N,V,m)):=by
 refine dT.go (Y:=λN V m=>bS (n,N,V,m,0,a.shape,a.cells,m.fuel.left,m.fuel.used)>>=Bh3) hm ?_ (λh=>AxL hf0 hks hn hf (n.op_.toNat) 0 a _ _ (by omega) (by omega) h ha)
 intro N V l u c
 conv=>lhs; simp only[]; rw[bA]
 refine ob λ⟨e1,left,used⟩=>?_
 simp only[hk]
 congr 1
 rw[←BiZ (n:=n) (N:=N) (V:=V) (l:=l) (u:=u) (c:=c) (l2:=left) (u2:=used) hn (n.op_.toNat) 0 a.shape a.cells left used (by omega) (by omega)]
 rw[if_neg (by decide),if_neg (by decide),if_neg (by decide)]
 simp only[show ((26:Int)==31)=false from rfl,show ((26:Int)==32)=false from rfl,show ((26:Int)==33)=false from rfl,show ((26:Int)==34)=false from rfl,fJ,if_false,oJ,bJ]
 refine ob λr=>?_
 cases r<;>rfl
theorem BgW (hf:Few N) (hG:G->∀v∈V,Val 0 v->wA v<big) (n:Node):OkE G N V n/\OkM G N V n/\OkT G N V n/\OkD G N V n:=by
 refine Node.ind (P:=λn=>OkE G N V n/\OkM G N V n/\OkT G N V n/\OkD G N V n) ?_ n
 intro n ih
 have okT:OkT G N V n:=by
  intro h hl a b l u c hm ha hb
  cases h with
  |prim hk=>exact BfF hm ha hb hk
  | @lam _ e hk hks he=>
   exact BhC hm hk hks λl u hm=>(ih e (by rw[hks]; simp)).1 true true he (λg=>(hl g).kids e (by rw[hks]; simp)) _ l u c hm (λ_=>ha) (λ_=>hb)
 refine⟨?_,?_,okT,?_⟩
 ·intro lt rt h hl ar l u c hm h1 h2
  cases h with
  |lit hk hv=>exact BeA hm.1 (by have:=hm; unfold Mt at this; omega) hm.2.1 (by have:=hm; unfold Mt at this; omega) hk hv λg=>(hl g).lit hk hv
  |var hk=>exact BeB hf hG hm hk
  |left hk hlt=>exact AwJ hf hm (h1 hlt) (.inl ⟨hk,rfl⟩)
  |right hk hlt=>exact AwJ hf hm (h2 hlt) (.inr ⟨hk,rfl⟩)
  | @mo _ f x _ _ hk hks hF hX=>
   exact BgH hm hk hks (λhm=>(ih x (by rw[hks]; simp)).1 lt rt hX (λg=>(hl g).kids x (by rw[hks]; simp)) ar _ _ c hm h1 h2)
    (λl u a hm ha=>(ih f (by rw[hks]; simp)).2.1 hF (λg=>(hl g).kids f (by rw[hks]; simp)) a l u c hm ha)
  | @dy _ f x y _ _ hk hks hF hX hY=>
   exact BgG hm hk hks (λl u hm=>(ih y (by rw[hks]; simp)).1 lt rt hY (λg=>(hl g).kids y (by rw[hks]; simp)) ar _ _ c hm h1 h2)
    (λl u hm=>(ih x (by rw[hks]; simp)).1 lt rt hX (λg=>(hl g).kids x (by rw[hks]; simp)) ar _ _ c hm h1 h2)
    (λl u a b hm ha hb=>(ih f (by rw[hks]; simp)).2.2.2 hF (λg=>(hl g).kids f (by rw[hks]; simp)) a b l u c hm ha hb)
 ·intro h hl a l u c hm ha
  cases h with
  |prim hk=>exact BeT hm ha hk
  | @lam _ e hk hks he=>
   exact BgY hm hk hks λl u hm=>(ih e (by rw[hks]; simp)).1 false true he (λg=>(hl g).kids e (by rw[hks]; simp)) _ l u c hm (λh=>by cases h) (λ_=>ha)
  | @fold _ b hk hks hb=>exact BeS hm ha hk hks hb
  | @comm _ f hk hks hF=>
   exact BeR hm hk hks λl u hm=>(ih f (by rw[hks]; simp)).2.2.1 hF (λg=>(hl g).kids f (by rw[hks]; simp)) a a l u c hm ha ha
  | @pow _ f hk ho hn hks hF=>
   exact BgZ hf hm ha hk ho hn hks λl u a hm ha=>(ih f (by rw[hks]; simp)).2.1 hF (λg=>(hl g).kids f (by rw[hks]; simp)) a l u c hm ha
 intro h hl a b l u c hm ha hb
 cases h with
 | @outer _ k hk hks hb'=>exact BcV hm ha hb hk hks hb'
 | @comm _ f hk hks hF=>
  exact BfE hm hk hks λl u hm=>(ih f (by rw[hks]; simp)).2.2.1 hF (λg=>(hl g).kids f (by rw[hks]; simp)) b a l u c hm hb ha
 |two h=>exact okT h hl a b l u c hm ha hb
end
end Go.AM.Seat
namespace Go.AM.Seat
open Go Go.AM
def mx (x:Int):Int:=if x<0 then 0 else x
theorem BbE {G:Prop} {N:List Str} {V:List Arr} {n:Node} {fuel cells:Int} (hN:fitN n) (hf:Few N) (hG:G->∀v∈V,Val 0 v->wA v<big) (hl:G->Aj8 n) (h1:fuel<=2000) (h2:cells<=300) :
  ∃x i e,yE (.mk N V) n fuel cells=some (x,i,e)/\0<=i/\i<=mx fuel/\(e≠0->x=.mk [] [])/\(e=0->Val 0 x/\(G->(wA x:Int)<=mx cells)) /\
   ∀fuel2 cells2 N2 V2,mx fuel<=mx fuel2->mx fuel2<=5000->mx cells<=mx cells2->mx cells2<=5000->(∀s∈fM n,Lk N V N2 V2 s)->((e≠11/\e≠12)\/(mx fuel2=mx fuel/\mx cells2=mx cells)) ->
    yE (.mk N2 V2) n fuel2 cells2=some (x,i,e):=by
 have E:∀N V (fuel cells:Int),yE (.mk N V) n fuel cells=tE n>>=λx=>if (x != 0) then some (.mk [] [],0,1) else
   aJ (n,.mk (.mk [] []) (.mk [] []),N,V,.mk (.mk (mx fuel) 0) (mx cells))>>=λ(x1,e,left,used)=>if (e != 0) then some (.mk [] [],used,e) else fI x1>>=λx3=>some (x3,used,0):=by
  intro N V fuel cells
  rfl
 have m1:0<=mx fuel:=by unfold mx; split<;>omega
 have m2:mx fuel<=2000:=by unfold mx; split<;>omega
 have m3:mx cells<=300:=by unfold mx; split<;>omega
 obtain⟨ck,hck,hw⟩:=Bg0 hN
 by_cases hc:ck=0
 ·subst hc
  obtain⟨x,e,l',g1,g2,g3,g4,g5⟩:=(BgW (G:=G) hf hG n).1 false false (hw rfl) hl (.mk (.mk [] []) (.mk [] [])) (mx fuel) 0 (mx cells) ⟨m1,by omega,by omega,by omega⟩ (λh=>by cases h) (λh=>by cases h)
  simp only[] at g1 g5
  by_cases he:e=0
  ·subst he
   obtain⟨v1,v2⟩:=g4 rfl
   refine⟨x,0+(mx fuel-l'),0,?_,by omega,by omega,λh=>absurd rfl h,g4,λfuel2 cells2 N2 V2 a b c d s r=>?_⟩
   ·rw[E,hck]
    simp only[oJ,bJ]
    rw[if_neg (by decide),g1]
    simp only[bJ]
    rw[if_neg (by decide),sV x 0 v1]
    rfl
   rw[E,hck]
   simp only[oJ,bJ]
   have:=g5 (mx fuel2-mx fuel) (mx cells2) N2 V2 (by omega) (by omega) c (by omega) s (.inl (by omega))
   rw[show mx fuel+(mx fuel2-mx fuel)=mx fuel2 by omega] at this
   rw[if_neg (by decide),this]
   simp only[bJ]
   rw[if_neg (by decide),sV x 0 v1]
   rfl
  refine⟨.mk [] [],0+(mx fuel-l'),e,?_,by omega,by omega,λ_=>rfl,λh=>absurd h he,λfuel2 cells2 N2 V2 a b c d s r=>?_⟩
  ·rw[E,hck]
   simp only[oJ,bJ]
   rw[if_neg (by decide),g1]
   simp only[bJ]
   rw[if_pos (by simpa using he)]
  rw[E,hck]
  simp only[oJ,bJ]
  have:=g5 (mx fuel2-mx fuel) (mx cells2) N2 V2 (by omega) (by omega) c (by omega) s (r.imp id λh=>⟨by omega,h.2⟩)
  rw[show mx fuel+(mx fuel2-mx fuel)=mx fuel2 by omega] at this
  rw[if_neg (by decide),this]
  simp only[bJ]
  rw[if_pos (by simpa using he)]
 refine⟨.mk [] [],0,1,?_,by omega,by omega,λ_=>rfl,λh=>by omega,λfuel2 cells2 N2 V2 a b c d s r=>?_⟩
 ·rw[E,hck]
  simp only[oJ,bJ]
  rw[if_pos (by simpa using hc)]
 rw[E,hck]
 simp only[oJ,bJ]
 rw[if_pos (by simpa using hc)]
theorem AlX (a:Int):p_triglyphref03_ints a a=some 0:=by
 unfold p_triglyphref03_ints
 simp
theorem AmD {a:Arr} (hf:Few a.shape):∀(r:List Int) (k:Nat),a.shape.drop k=r->dE (a,a,0,(k:Int))=some 0
 | [],k,h=>by
  rw[dE]
  simp only[bY (cC h),fJ,if_false]
 |d::r,k,h=>by
  rw[dE]
  simp only[cU (cD h),if_true,bC h,oJ,bJ,AlX,bP h hf]
  exact AmD hf r (k+1) (aS h)
theorem AmE {a:Arr} (hf:Few a.cells) (hc:∀c∈a.cells,iU (c,c)=some 0):∀(r:List aA) (k:Nat),a.cells.drop k=r->dF (a,a,0,(k:Int))=some 0
 | [],k,h=>by
  rw[dF]
  simp only[bY (cC h),fJ,if_false]
 |c::r,k,h=>by
  rw[dF]
  have hm:c∈a.cells:=List.mem_of_mem_drop (i:=k) (by rw[h]; simp)
  simp only[cU (cD h),if_true,bC h,oJ,bJ,hc c hm,bP h hf]
  exact AmE hf hc r (k+1) (aS h)
theorem AhG:∀{l:List aA},BaL l->∀c∈l,Au6 c
 |n::r,h,k,hk=>by
  rcases List.mem_cons.1 hk with rfl|hk
  ·exact h.1
  exact AhG h.2 k hk
theorem AwM:∀{l:List Arr},BgJ l->∀c∈l,fitA c
 |n::r,h,k,hk=>by
  rcases List.mem_cons.1 hk with rfl|hk
  ·exact h.1
  exact AwM h.2 k hk
theorem Au6.box {c:aA} (h:Au6 c):∀b∈c.box,fitA b:=by cases c; exact AwM h.2
theorem Au6.few {c:aA} (h:Au6 c):Few c.box:=by cases c; exact h.1
theorem BbC {c:aA} (hb:∀b∈c.box,fF (b,b)=some 0):iU (c,c)=some 0:=by
 obtain⟨k,n,bx⟩:=c
 rw[iU]
 simp only[aA.kind,aA.n,aA.box,AlX,oJ,bJ,beq_self_eq_true,if_true] at hb ⊢
 cases bx with
 |nil=>rfl
 |cons b r=>
  have h0:lget (b::r) 0=some b:=rfl
  simp only[h0,bJ,hb b (by simp)]
  repeat' split
  all_goals rfl
theorem Bd1 (a:Arr):fitA a->fF (a,a)=some 0:=by
 refine Arr.ind (P:=λa=>fitA a->fF (a,a)=some 0) ?_ a
 intro sh cs ih hf
 obtain⟨f1,f2,f3⟩:=hf
 rw[fF]
 simp only[AlX,oJ,bJ]
 rw[show dE (Arr.mk sh cs,Arr.mk sh cs,0,0)=some 0 from AmD (a:=.mk sh cs) f1 sh 0 rfl]
 simp only[bJ]
 rw[show dF (Arr.mk sh cs,Arr.mk sh cs,0,0)=some 0 from AmE (a:=.mk sh cs) f2 (λc hc=>BbC λb hb=>ih c hc b hb ((AhG f3 c hc).box b hb)) cs 0 rfl]
 rfl
theorem Bd8:kY (.mk [] []) (.mk [] [])=some true:=by
 unfold kY
 rw[Bd1 (.mk [] []) (show fitA (.mk [] []) from ⟨by unfold Few; simp,by unfold Few; simp,trivial⟩)]
 rfl
theorem AjJ {s:List Int} (hf:Few s) (hp:∀d∈s,0<=d):∀(r:List Int) (k:Nat) (b:Bool),s.drop k=r->dL (s,b,(k:Int))=some (.ok (b||r.any (λd=>d==0)))
 | [],k,b,h=>by
  rw[dL]
  simp only[bY (cC h),fJ,if_false,List.any_nil,Bool.or_false]
 |d::r,k,b,h=>by
  rw[dL]
  have hm:d∈s:=List.mem_of_mem_drop (i:=k) (by rw[h]; simp)
  simp only[cU (cD h),if_true,bC h,oJ,bJ,bP h hf,bY (show ¬d<0 by have:=hp d hm; omega),fJ,if_false]
  by_cases h0:d=0
  ·subst h0
   simp only[beq_self_eq_true,if_true,bJ,AjJ hf hp r (k+1) true (aS h),List.any_cons,Bool.true_or,Bool.or_true]
  have e:(d==0)=false:=by simpa using h0
  simp only[e,fJ,if_false,bJ,AjJ hf hp r (k+1) b (aS h),List.any_cons,Bool.false_or]
theorem Aq4 {s:List Int} (hf:Few s) (hp:∀d∈s,0<d/\d<=16384):∀(r:List Int) (k:Nat) (n:Int),s.drop k=r->0<n->n*aL r<=16384->dM (s,n,(k:Int))=some (.ok (n*aL r))
 | [],k,n,h,h0,h1=>by
  rw[dM]
  simp only[bY (cC h),fJ,if_false,aL,Int.mul_one]
 |d::r,k,n,h,h0,h1=>by
  rw[dM]
  have hm:d∈s:=List.mem_of_mem_drop (i:=k) (by rw[h]; simp)
  obtain⟨d0,d1⟩:=hp d hm
  have hr:0<aL r:=by
   have:∀l:List Int,(∀x∈l,0<x)->0<aL l:=by
    intro l
    induction l with
    |nil=>intro _; decide
    |cons x l ih=>intro hx; simp only[aL]; exact Int.mul_pos (hx x (by simp)) (ih λy hy=>hx y (by simp[hy]))
   refine this r λx hx=>(hp x ?_).1
   exact List.mem_of_mem_drop (i:=k) (by rw[h]; simp[hx])
  simp only[aL] at h1
  have h2:n*(d*aL r)=n*d*aL r:=by rw[Int.mul_assoc]
  rw[h2] at h1
  have h3:0<n*d:=Int.mul_pos h0 d0
  have h4:n*d<=16384:=by
   have:=Int.mul_le_mul_of_nonneg_left (show (1:Int)<=aL r by omega) (Int.le_of_lt h3)
   omega
  have e:w64 (n*d)=n*d:=aF (by omega) (by omega)
  simp only[cU (cD h),if_true,bC h,oJ,bJ,bP h hf,e,bY (show ¬16384<d by omega),bY (show ¬16384<n*d by omega),gt_iff_lt,fJ,if_false,
   Aq4 hf hp r (k+1) (n*d) (aS h) h3 h1,aL,h2]
theorem AzK {s:List Int} {n:Int} (h:mB s n):kZ s=some (n,0):=by
 have hf:Few s:=by have:=h.rank; unfold Few; omega
 unfold kZ
 rw[if_neg (by have:=h.rank; simp; omega)]
 rw[show dL (s,false,0)=_ from AjJ hf h.pos s 0 false rfl]
 simp only[oJ,bJ,Bool.false_or]
 have hz:∀l:List Int,l.any (λd=>d==0)=true->aL l=0:=by
  intro l
  induction l with
  |nil=>simp
  |cons x l ih=>
   intro hx
   simp only[List.any_cons,Bool.or_eq_true,beq_iff_eq] at hx
   simp only[aL]
   rcases hx with rfl|hx
   ·exact Int.zero_mul _
   rw[ih hx,Int.mul_zero]
 by_cases h0:s.any (λd=>d==0)=true
 ·rw[if_pos h0]
  have:=h.prod
  rw[hz s h0] at this
  rw[this]
 rw[if_neg h0]
 have hn:n≠0:=by
  intro hn
  apply h0
  have hp:=h.prod
  rw[hn] at hp
  have:∀l:List Int,aL l=0->l.any (λd=>d==0)=true:=by
   intro l
   induction l with
   |nil=>intro h; simp[aL] at h
   |cons x l ih=>
    intro hx
    simp only[aL] at hx
    simp only[List.any_cons,Bool.or_eq_true,beq_iff_eq]
    rcases Int.mul_eq_zero.1 hx with h|h
    ·exact .inl h
    exact .inr (ih h)
  exact this s hp
 have hd:=h.dim hn
 rw[show dM (s,1,0)=_ from Aq4 hf hd s 0 1 rfl (by decide) (by rw[Int.one_mul,h.prod]; exact h.hi)]
 simp only[bJ,Int.one_mul,h.prod]
theorem AzJ (n:Int):fW n=some (ApI n):=by
 unfold fW ApI
 repeat' (first|rfl|split)
 all_goals simp_all
 all_goals omega
theorem An7 {a:Arr} {d:Int} (hf:Few a.shape) (hd:∀x∈a.shape,x<=16384):∀(r:List Int) (k:Nat),a.shape.drop k=r->cP (a,d,(k:Int))=some (.ok ())
 | [],k,h=>by
  rw[cP]
  simp only[bY (cC h),fJ,if_false]
 |x::r,k,h=>by
  rw[cP]
  have hm:x∈a.shape:=List.mem_of_mem_drop (i:=k) (by rw[h]; simp)
  simp only[cU (cD h),if_true,bC h,oJ,bJ,bP h hf,gt_iff_lt,bY (show ¬16384<x by have:=hd x hm; omega),fJ,if_false,An7 hf hd r (k+1) (aS h)]
theorem An8 {a:Arr} {d:Int} (hf:Few a.cells) (hc:∀c∈a.cells,lA (c,d)=some 0):∀(r:List aA) (k:Nat),a.cells.drop k=r->cQ (a,d,(k:Int))=some (.ok ())
 | [],k,h=>by
  rw[cQ]
  simp only[bY (cC h),fJ,if_false]
 |c::r,k,h=>by
  rw[cQ]
  have hm:c∈a.cells:=List.mem_of_mem_drop (i:=k) (by rw[h]; simp)
  simp only[cU (cD h),if_true,bC h,oJ,bJ,hc c hm,bP h hf,bne_self_eq_false,fJ,if_false,An8 hf hc r (k+1) (aS h)]
theorem AuW (a:Arr):∀d,0<=d->d<=8->Val d a->fK (a,d)=some 0:=by
 refine Arr.ind (P:=λa=>∀d,0<=d->d<=8->Val d a->fK (a,d)=some 0) ?_ a
 intro sh cs ih d h0 h8 hv
 have hi:=hv.i
 rw[fK]
 have hs:=AzK hi.sized
 simp only[show (Arr.mk sh cs).shape=sh from rfl,show (Arr.mk sh cs).cells=cs from rfl] at hs ⊢
 rw[hs]
 simp only[oJ,bJ,bne_self_eq_false,fJ,if_false]
 rw[show cP (Arr.mk sh cs,d,0)=some (.ok ()) from An7 (a:=.mk sh cs) hv.fews hi.dims sh 0 rfl]
 simp only[bJ]
 rw[show cQ (Arr.mk sh cs,d,0)=some (.ok ()) from An8 (a:=.mk sh cs) hv.fewc (λc hc=>?_) cs 0 rfl]
 ·simp only[bJ]
 rw[lA]
 rcases pM (hi.cells c hc) with ⟨h1,h2,h3,b,hb,hv⟩|⟨hb,hk⟩
 ·have e:(d==8)=false:=by simp; omega
  have e2:lget [b] 0=some b:=rfl
  simp only[h1,h2,hb,List.length_singleton,beq_self_eq_true,if_true,e,fJ,if_false,e2,oJ,bJ]
  simp only[aF (x:=d+1) (by omega) (by omega),ih c hc b (by rw[hb]; simp) (d+1) (by omega) (by omega) hv,bJ]
  rfl
 rcases hk with hk|⟨hk,hg⟩
 ·simp[hk,hb]
 simp[hk,hb,AzJ,hg]
theorem AuV {a:Arr} (h:Val 0 a):kB a=some 0:=by
 unfold kB
 rw[AuW a 0 (by omega) (by omega) h]
 rfl
theorem Bi9 {a b:Nat} (h:a+b<=9223372036854775807):w64 ((a:Int)+(b:Int))=((a+b:Nat):Int):=by
 rw[aF (by omega) (by omega)]; omega
theorem BfN {a:Arr} {most deep S:Int} {c:aA} {i:Int} (hl:lget a.cells i=some c) (hd:0<deep) (hd2:deep<=16) {n:Int} (h0:0<=n) (hS:S<=1000000) (hb:c.box=[]\/∃b,c.box=[b]/\∀most,T (bX (b,most,deep-1)) (λr=>0<=r/\r<=8+10*(wA b:Int)))
  (hn:n+9+10*(wC c:Int)<=S):T (bM (a,most,deep,i,n,0)) (λr=>match r with|.error _=>False|.ok m=>n<=m/\m<=n+9+10*(wC c:Int)):=by
 rw[bM]
 simp only[hl,oJ,bJ]
 rcases hb with hb|⟨b,hb,hw⟩
 ·rw[hb]
  exact T.ret ⟨by omega,by omega⟩
 rw[hb]
 have e1:wC c=wA b:=by rw[AqK,hb]; simp[wB]
 rw[if_pos (by rfl)]
 refine T.ite (λ_=>?_) (λ_=>T.ret ⟨by omega,by omega⟩)
 rw[if_neg (by simp; omega)]
 rw[show lget [b] 0=some b from rfl]
 simp only[bJ,aF (x:=deep-1) (by omega) (by omega)]
 refine T.bind (hw _) (λx hx=>?_)
 obtain⟨x0,x1⟩:=hx
 have e2:w64 (n+1)=n+1:=aF (by omega) (by omega)
 have e3:w64 (n+1+x)=n+1+x:=aF (by omega) (by omega)
 rw[e2,e3,show w64 (0+1)=1 from rfl,bM]
 simp only[hl,oJ,bJ]
 rw[hb,if_neg (by simp)]
 exact T.ret ⟨by omega,by omega⟩
theorem AyF {a:Arr} {most deep S:Int} (hf:Few a.cells) (hd:0<deep) (hd2:deep<=16) (hS:S<=1000000)
  (hb:∀c∈a.cells,c.box=[]\/∃b,c.box=[b]/\∀most,T (bX (b,most,deep-1)) (λr=>0<=r/\r<=8+10*(wA b:Int))) :
  ∀(r:List aA) (k:Nat) (n:Int),a.cells.drop k=r->0<=n->n+9*r.length+10*(bCs r:Int)<=S->T (p_triglyphref03_weight_l0 (a,most,deep,n,(k:Int))) (λr=>match r with|.error _=>False|.ok m=>0<=m/\m<=S)
 | [],k,n,h,h0,hn=>by
  rw[p_triglyphref03_weight_l0]
  simp only[bY (cC h),fJ,if_false]
  exact T.ret ⟨h0,by simp[bCs] at hn; omega⟩
 |c::r,k,n,h,h0,hn=>by
  have hm:c∈a.cells:=List.mem_of_mem_drop (i:=k) (by rw[h]; simp)
  have e1:bCs (c::r)=wC c+bCs r:=rfl
  rw[e1] at hn
  simp only[List.length_cons,Int.natCast_add,Int.natCast_one] at hn
  rw[p_triglyphref03_weight_l0]
  simp only[cU (cD h),if_true,bP h hf]
  refine T.ite (λ_=>?_) (λ_=>T.ret ⟨h0,by omega⟩)
  refine T.bind (BfN (bC h) hd hd2 h0 hS (hb c hm) (by omega)) (λv hv=>?_)
  match v,hv with
  |.ok m,hv=>exact AyF hf hd hd2 hS hb r (k+1) m (aS h) (by omega) (by omega)
theorem BcX (a:Arr):∀d deep:Int,0<=d->Val d a->9<=deep+d->deep<=16->(wA a:Int)<=2000->∀most,T (bX (a,most,deep)) (λr=>0<=r/\r<=a.shape.length+10*(wA a:Int)):=by
 refine Arr.ind (P:=λa=>∀d deep:Int,0<=d->Val d a->9<=deep+d->deep<=16->(wA a:Int)<=2000->∀most,T (bX (a,most,deep)) (λr=>0<=r/\r<=a.shape.length+10*(wA a:Int))) ?_ a
 intro sh cs ih d deep h0 hv h9 h16 hw most
 have hi:=hv.i
 have hr:=hi.sized.rank
 have hlo:=hi.sized.hi
 have ew:wA (.mk sh cs)=cs.length+bCs cs:=by rw[AqJ,AiQ]; rfl
 rw[bX]
 simp only[show (Arr.mk sh cs).shape=sh from rfl,show (Arr.mk sh cs).cells=cs from rfl] at hr hlo ⊢
 rw[Bi9 (by omega)]
 by_cases hd:0<deep
 ·refine T.bind (R:=λr=>match r with|.error _=>False|.ok m=>0<=m/\m<=(sh.length:Int)+10*(wA (.mk sh cs):Int)) ?_ (λv hv=>?_)
  ·refine AyF (a:=.mk sh cs) hv.fewc hd h16 (by omega) ?_ cs 0 _ rfl (by omega) (by rw[ew]; omega)
   intro c hc
   rcases pM (hi.cells c hc) with ⟨h1,h2,h3,b,hb,hv'⟩|⟨hb,_⟩
   ·refine .inr ⟨b,hb,λmost=>?_⟩
    have hr':=hv'.i.sized.rank
    have e1:wC c=wA b:=by rw[AqK,hb]; simp[wB]
    have:=AjX (l:=cs) hc
    refine T.imp (ih c hc b (by rw[hb]; simp) (d+1) (deep-1) (by omega) hv' (by omega) (by omega) (by omega) most) λr hr=>⟨hr.1,?_⟩
    omega
   exact .inl hb
  ·match v,hv with
   |.ok m,hv=>exact T.ret hv
 -- so deep that no box may be
 have nb:∀c∈cs,c.box=[]:=by
  intro c hc
  rcases pM (hi.cells c hc) with ⟨_,_,h3,_⟩|⟨hb,_⟩
  ·omega
  exact hb
 have hl:∀(r:List aA) (k:Nat) (n:Int),cs.drop k=r->p_triglyphref03_weight_l0 (.mk sh cs,most,deep,n,(k:Int))=some (.ok n):=by
  intro r
  induction r with
  |nil=>
   intro k n h
   rw[p_triglyphref03_weight_l0]
   simp only[show (Arr.mk sh cs).cells=cs from rfl,bY (cC h),fJ,if_false]
  |cons c r ihr=>
   intro k n h
   have hm:c∈cs:=List.mem_of_mem_drop (i:=k) (by rw[h]; simp)
   have e1:bM (.mk sh cs,most,deep,(k:Int),n,0)=some (.ok n):=by
    rw[bM]
    simp only[show (Arr.mk sh cs).cells=cs from rfl,bC h,oJ,bJ]
    rw[nb c hm]; rfl
   rw[p_triglyphref03_weight_l0]
   simp only[show (Arr.mk sh cs).cells=cs from rfl,cU (cD h),if_true,e1,oJ,bJ,bP h hv.fewc,ihr (k+1) n (aS h)]
   split<;>rfl
 rw[show p_triglyphref03_weight_l0 (.mk sh cs,most,deep,_,0)=_ from hl cs 0 _ rfl]
 exact T.ret ⟨by omega,by omega⟩
def Bd (deep:Int):Int:=(deep+1)*562949953421312
def Wt (a:Arr) (most deep r:Int):Prop:=0<=r/\r<=most+Bd deep/\(r<=most->(wA a:Int)<=r)
theorem BiC {a:Arr} {most deep:Int} {c:aA} {i:Int} (hl:lget a.cells i=some c) (hf:Few c.box) (h0:0<=most) (h1:most<=3000) (hd:0<=deep) (hd2:deep<=16)
  (hb:∀b∈c.box,∀most,0<=most->most<=3000->0<=deep-1->T (bX (b,most,deep-1)) (Wt b most (deep-1))) :
  ∀(r:List Arr) (k:Nat) (n:Int),c.box.drop k=r->0<=n->n<=most+Bd deep->T (bM (a,most,deep,i,n,(k:Int))) (λr'=>match r' with|.error e=>e=most+1|.ok m=>n<=m/\m<=most+Bd deep/\(m<=most->n+(wB r:Int)<=m))
 | [],k,n,h,hn,hn2=>by
  rw[bM]
  simp only[hl,oJ,bJ,bY (cC h),fJ,if_false]
  exact T.ret ⟨Int.le_refl _,hn2,λ_=>by simp[wB]⟩
 |b::r,k,n,h,hn,hn2=>by
  have hm:b∈c.box:=List.mem_of_mem_drop (i:=k) (by rw[h]; simp)
  rw[bM]
  simp only[hl,oJ,bJ,cU (cD h),if_true,bC h,bP h hf]
  refine T.ite (λhle=>?_) (λhle=>T.ret ⟨Int.le_refl _,hn2,λh=>absurd h (by simpa using hle)⟩)
  have hle:n<=most:=by simpa using hle
  refine T.ite (λ_=>T.ret (aF (by omega) (by omega))) (λhdd=>?_)
  have hdd:deep≠0:=by simpa using hdd
  rw[aF (x:=deep-1) (by omega) (by omega),aF (x:=most-n) (by omega) (by omega)]
  refine T.bind (hb b hm _ (by omega) (by omega) (by omega)) (λx hx=>?_)
  obtain⟨x0,x1,x2⟩:=hx
  have eB:Bd deep=Bd (deep-1)+562949953421312:=by unfold Bd; omega
  have lB:0<=Bd (deep-1)/\Bd (deep-1)<=9570149208162304:=by unfold Bd; omega
  have e2:w64 (n+1)=n+1:=aF (by omega) (by omega)
  have e3:w64 (n+1+x)=n+1+x:=aF (by omega) (by omega)
  rw[e2,e3]
  refine T.imp (BiC hl hf h0 h1 hd hd2 hb r (k+1) (n+1+x) (aS h) (by omega) (by omega)) (λv hv=>?_)
  match v,hv with
  |.error e,hv=>exact hv
  |.ok m,hv=>
   obtain⟨g1,g2,g3⟩:=hv
   refine⟨by omega,g2,λhm=>?_⟩
   have:=g3 hm
   have:=x2 (by omega)
   simp only[wB,Int.natCast_add]
   omega
theorem BiB {a:Arr} {most deep:Int} (hf:Few a.cells) (h0:0<=most) (h1:most<=3000) (hd:0<=deep) (hd2:deep<=16) (hfb:∀c∈a.cells,Few c.box)
  (hb:∀c∈a.cells,∀b∈c.box,∀most,0<=most->most<=3000->0<=deep-1->T (bX (b,most,deep-1)) (Wt b most (deep-1))) :
  ∀(r:List aA) (k:Nat) (n:Int),a.cells.drop k=r->0<=n->n<=most+Bd deep->T (p_triglyphref03_weight_l0 (a,most,deep,n,(k:Int))) (λr'=>match r' with|.error e=>e=most+1|.ok m=>n<=m/\m<=most+Bd deep/\(m<=most->n+(bCs r:Int)<=m))
 | [],k,n,h,hn,hn2=>by
  rw[p_triglyphref03_weight_l0]
  simp only[bY (cC h),fJ,if_false]
  exact T.ret ⟨Int.le_refl _,hn2,λ_=>by simp[bCs]⟩
 |c::r,k,n,h,hn,hn2=>by
  have hm:c∈a.cells:=List.mem_of_mem_drop (i:=k) (by rw[h]; simp)
  rw[p_triglyphref03_weight_l0]
  simp only[cU (cD h),if_true,bP h hf]
  refine T.ite (λhle=>?_) (λhle=>T.ret ⟨Int.le_refl _,hn2,λh=>absurd h (by simpa using hle)⟩)
  refine T.bind (BiC (bC h) (hfb c hm) h0 h1 hd hd2 (hb c hm) c.box 0 n rfl hn hn2) (λv hv=>?_)
  match v,hv with
  |.error e,hv=>exact T.ret hv
  |.ok m,hv=>
   obtain⟨g1,g2,g3⟩:=hv
   refine T.imp (BiB hf h0 h1 hd hd2 hfb hb r (k+1) m (aS h) (by omega) g2) (λv hv=>?_)
   match v,hv with
   |.error e,hv=>exact hv
   |.ok m2,hv=>
    obtain⟨k1,k2,k3⟩:=hv
    refine⟨by omega,k2,λhm2=>?_⟩
    have:=k3 hm2
    have:=g3 (by omega)
    have e1:bCs (c::r)=wC c+bCs r:=rfl
    rw[e1,AqK]
    omega
theorem BfK (a:Arr):fitA a->∀most deep:Int,0<=most->most<=3000->0<=deep->deep<=16->T (bX (a,most,deep)) (Wt a most deep):=by
 refine Arr.ind (P:=λa=>fitA a->∀most deep:Int,0<=most->most<=3000->0<=deep->deep<=16->T (bX (a,most,deep)) (Wt a most deep)) ?_ a
 intro sh cs ih hf most deep h0 h1 hd hd2
 obtain⟨f1,f2,f3⟩:=hf
 have l1:sh.length<=140737488355328:=f1
 have l2:cs.length<=140737488355328:=f2
 have ew:wA (.mk sh cs)=cs.length+bCs cs:=by rw[AqJ,AiQ]; rfl
 have lB:562949953421312<=Bd deep:=by unfold Bd; omega
 rw[bX]
 simp only[show (Arr.mk sh cs).shape=sh from rfl,show (Arr.mk sh cs).cells=cs from rfl]
 rw[Bi9 (by omega)]
 refine T.bind (BiB (a:=.mk sh cs) f2 h0 h1 hd hd2 (λc hc=>(AhG f3 c hc).few) (λc hc b hb most a1 a2 a3=>ih c hc b hb ((AhG f3 c hc).box b hb) most (deep-1) a1 a2 a3 (by omega)) cs 0 _ rfl (by omega) (by omega)) (λv hv=>?_)
 match v,hv with
 |.error e,hv=>exact T.ret ⟨by omega,by omega,λh=>by omega⟩
 |.ok m,hv=>
  obtain⟨g1,g2,g3⟩:=hv
  refine T.ret ⟨by omega,g2,λhm=>?_⟩
  have:=g3 hm
  rw[ew]
  omega
theorem AvF {a:Arr} {most:Int} (hf:fitA a) (h0:0<=most) (h1:most<=3000):T (dG a most) (λr=>0<=r/\r<=9570149208165304/\(r<=most->(wA a:Int)<=r)):=by
 unfold dG
 refine T.bind (BfK a hf most 16 h0 h1 (by omega) (by omega)) (λx hx=>T.ret ⟨hx.1,?_,hx.2.2⟩)
 have:=hx.2.1
 unfold Bd at this
 omega
def BdN (deep:Int):Int:=(deep+2)*18014398509481984
def WtN (n:Node) (most deep r:Int):Prop:=0<=r/\r<=most+BdN deep/\(r<=most->Aj8 n)
theorem fitN.lit {n:Node} (h:fitN n):fitA n.lit:=by cases n; exact h.2.1
theorem BiA {n:Node} {most deep:Int} (hf:Few n.kids) (h0:0<=most) (h1:most<=3000) (hd:0<=deep) (hd2:deep<=40)
  (hb:∀c∈n.kids,∀most,0<=most->most<=3000->0<=deep-1->T (eA (c,most,deep-1)) (WtN c most (deep-1))) :
  ∀(r:List Node) (i:Nat) (k:Int),n.kids.drop i=r->0<=k->k<=most+BdN deep->T (cZ (n,most,deep,k,(i:Int))) (λr'=>match r' with|.error e=>e=most+1|.ok m=>k<=m/\m<=most+BdN deep/\(m<=most->BaU r))
 | [],i,k,h,hk,hk2=>by
  rw[cZ]
  simp only[bY (cC h),fJ,if_false]
  exact T.ret ⟨Int.le_refl _,hk2,λ_=>trivial⟩
 |c::r,i,k,h,hk,hk2=>by
  have hm:c∈n.kids:=List.mem_of_mem_drop (i:=i) (by rw[h]; simp)
  rw[cZ]
  simp only[cU (cD h),if_true,bP h hf,bC h,oJ,bJ]
  refine T.ite (λhle=>?_) (λhle=>T.ret ⟨Int.le_refl _,hk2,λh=>absurd h (by simpa using hle)⟩)
  have hle:k<=most:=by simpa using hle
  refine T.ite (λ_=>T.ret (aF (by omega) (by omega))) (λhdd=>?_)
  have hdd:deep≠0:=by simpa using hdd
  rw[aF (x:=deep-1) (by omega) (by omega),aF (x:=most-k) (by omega) (by omega)]
  refine T.bind (hb c hm _ (by omega) (by omega) (by omega)) (λx hx=>?_)
  obtain⟨x0,x1,x2⟩:=hx
  have eB:BdN deep=BdN (deep-1)+18014398509481984:=by unfold BdN; omega
  have lB:0<=BdN (deep-1)/\BdN (deep-1)<=756604737398243328:=by unfold BdN; omega
  rw[aF (x:=k+x) (by omega) (by omega)]
  refine T.imp (BiA hf h0 h1 hd hd2 hb r (i+1) (k+x) (aS h) (by omega) (by omega)) (λv hv=>?_)
  match v,hv with
  |.error e,hv=>exact hv
  |.ok m,hv=>
   obtain⟨g1,g2,g3⟩:=hv
   exact⟨by omega,g2,λhm=>⟨x2 (by omega),g3 hm⟩⟩
theorem BcW (n:Node):fitN n->∀most deep:Int,0<=most->most<=3000->0<=deep->deep<=40->T (eA (n,most,deep)) (WtN n most deep):=by
 refine Node.ind (P:=λn=>fitN n->∀most deep:Int,0<=most->most<=3000->0<=deep->deep<=40->T (eA (n,most,deep)) (WtN n most deep)) ?_ n
 intro n ih hf most deep h0 h1 hd hd2
 rw[eA]
 have lB:36028797018963968<=BdN deep/\BdN deep<=756604737398243328:=by unfold BdN; omega
 refine T.bind (AvF hf.lit h0 h1) (λx hx=>?_)
 obtain⟨x0,x1,x2⟩:=hx
 rw[aF (x:=1+x) (by omega) (by omega)]
 refine T.bind (BiA hf.fewk h0 h1 hd hd2 (λc hc most a1 a2 a3=>ih c hc (hf.kids c hc) most (deep-1) a1 a2 a3 (by omega)) n.kids 0 (1+x) rfl (by omega) (by omega)) (λv hv=>?_)
 match v,hv with
 |.error e,hv=>exact T.ret ⟨by omega,by omega,λh=>by omega⟩
 |.ok m,hv=>
  obtain⟨g1,g2,g3⟩:=hv
  refine T.ret ⟨by omega,g2,λhm=>?_⟩
  have h3:=g3 hm
  have h4:=x2 (by omega)
  obtain⟨kd,o,nm,lt,ks,at_⟩:=n
  exact⟨λ_ _=>by simp only[Node.lit] at h4; unfold big; omega,h3⟩
def BiG (N:List Str) (V:List Arr) (n:Node) (fuel cells:Int):Prop:=fuel<=2000/\cells<=300/\N.length<=40/\V.length<=40/\Aj8 n/\∀v∈V,wA v<big
theorem Ax7 {N:List Str} {V:List Arr} {n:Node} (hV:V.length<=40) (hf:∀v∈V,fitA v):∀(r:List Arr) (i:Nat) (w:Int),V.drop i=r->0<=w->w<=3000+9570149208165304 ->
  T (eD (.mk N V,n,w,(i:Int))) (λm=>w<=m/\(m<=3000->∀v∈r,wA v<big))
 | [],i,w,h,h0,h1=>by
  rw[eD]
  simp only[bY (cC h),fJ,if_false]
  exact T.ret ⟨Int.le_refl _,λ_ v hv=>by simp at hv⟩
 |v::r,i,w,h,h0,h1=>by
  have hm:v∈V:=List.mem_of_mem_drop (i:=i) (by rw[h]; simp)
  have hfew:Few V:=by unfold Few; omega
  rw[eD]
  simp only[cU (cD h),if_true,bP h hfew,bC h,oJ,bJ]
  refine T.ite (λhle=>?_) (λhle=>T.ret ⟨Int.le_refl _,λh=>absurd h (by simpa using hle)⟩)
  have hle:w<=3000:=by simpa using hle
  refine T.bind (AvF (hf v hm) (by omega) (by omega)) (λx hx=>?_)
  obtain⟨x0,x1,x2⟩:=hx
  rw[aF (x:=w+x) (by omega) (by omega)]
  refine T.imp (Ax7 hV hf r (i+1) (w+x) (aS h) (by omega) (by omega)) (λm hm=>?_)
  refine⟨by omega,λh3 u hu=>?_⟩
  rcases List.mem_cons.1 hu with rfl|hu
  ·have:=x2 (by omega)
   unfold big; omega
  exact hm.2 h3 u hu
theorem Bg1 {N:List Str} {V:List Arr} {n:Node} {fuel cells:Int} (hn:fitN n) (hf:∀v∈V,fitA v):T (kA (.mk N V) n fuel cells) (λr=>¬r>0->BiG N V n fuel cells):=by
 unfold kA
 have no:∀{Q:Prop},(¬(1:Int)>0->Q):=λh=>absurd (by decide) h
 refine T.ite (λ_=>T.ret no) (λh1=>?_)
 refine T.ite (λ_=>T.ret no) (λh2=>?_)
 refine T.ite (λ_=>T.ret no) (λh3=>?_)
 refine T.ite (λ_=>T.ret no) (λh4=>?_)
 simp only[decide_eq_false_iff_not,Int.not_lt,gt_iff_lt] at h1 h2 h3 h4
 have h4':V.length<=40:=by omega
 have h3':N.length<=40:=by omega
 refine T.bind (R:=λr=>r<=3000->Aj8 n) ?_ (λx hx=>?_)
 ·unfold mP
  exact T.bind (BcW n hn 3000 40 (by omega) (by omega) (by omega) (by omega)) (λx hx=>T.ret hx.2.2)
 refine T.ite (λ_=>T.ret no) (λh5=>?_)
 simp only[decide_eq_false_iff_not,Int.not_lt,gt_iff_lt] at h5
 refine T.bind (Ax7 h4' hf V 0 0 rfl (by omega) (by omega)) (λw hw=>?_)
 refine T.ite (λ_=>T.ret no) (λh6=>T.ret λ_=>?_)
 simp only[decide_eq_false_iff_not,Int.not_lt,gt_iff_lt] at h6
 exact⟨h1,h2,h3',h4',hx h5,hw.2 h6⟩
theorem Bk3 {a b:Int} (h:0<=b):mx (mx a+b)=mx a+b/\0<=mx a/\(0<=a->mx a=a)/\(a<=2000->mx a<=2000)/\(a<=300->mx a<=300):=by
 unfold mx
 refine⟨?_,?_,?_,?_,?_⟩
 all_goals (repeat' split)
 all_goals omega
theorem BfL:AdD=some true:=rfl
theorem RunBound_true {N:List Str} {V:List Arr} {n:Node} {fuel cells:Int} (hn:fitN n) (hf:∀v∈V,fitA v):p_triglyphlaw11_RunBound (.mk N V) n fuel cells=some true:=by
 unfold p_triglyphlaw11_RunBound
 obtain⟨x,hx,hq⟩:=Bg1 (N:=N) (fuel:=fuel) (cells:=cells) hn hf
 rw[hx]
 simp only[oJ,bJ,BfL]
 by_cases hl:x>0
 ·rw[if_pos (by simpa using hl)]
 rw[if_neg (by simpa using hl)]
 obtain⟨l1,l2,l3,l4,l5,l6⟩:=hq hl
 have hN:Few N:=by unfold Few; omega
 obtain⟨a,i,e,r1,i0,i1,r2,r3,r4⟩:=BbE (G:=True) (N:=N) (V:=V) (n:=n) (fuel:=fuel) (cells:=cells) hn hN (λ_ v hv _=>l6 v hv) (λ_=>l5) l1 l2
 rw[r1]
 have em:(if fuel<0 then 0 else fuel)=mx fuel:=rfl
 have ec:(if cells<0 then 0 else cells)=mx cells:=rfl
 simp only[bJ,em,ec]
 obtain⟨c1,c2,_,_,c3⟩:=Bk3 (a:=cells) (b:=0) (by omega)
 have:=c3 l2
 rw[if_neg (by simp; omega),if_neg (by simp; omega)]
 by_cases he:e=0
 ·obtain⟨v1,v2⟩:=r3 he
  have v2:=v2 trivial
  rw[if_neg (by simpa using he),AuV v1]
  simp only[bJ,beq_self_eq_true,if_true]
  obtain⟨w,hw,w1,w2⟩:=BcX a 0 16 (by omega) v1 (by omega) (by omega) (by omega) 3000
  have hW:dG a 3000=some w:=by unfold dG; rw[hw]; rfl
  have hr:=v1.i.sized.rank
  rw[hW]
  simp only[bJ]
  rw[aF (x:=w-a.shape.length) (by omega) (by omega)]
  rw[if_pos (by simp; omega)]
  have ew:wA a=a.cells.length+bCs a.cells:=by rw[AqJ,AiQ]
  rw[if_pos (by simp; omega)]
 rw[if_pos (by simpa using he),r2 he,Bd8]
 rfl
end Go.AM.Seat
namespace Go.AM.Seat
open Go Go.AM Go.Proofs
abbrev Aj0 (r:Arr):aE:=(aE.ret (.d (aI r)) [])
abbrev Ak6 (r:aA):aE:=(aE.ret (.d (aD r)) [])
instance BeM:Jn 60 1 6 (List Arr):=⟨λy=>[],λy=>[(0,[(2,.d (.list 2 (List.map aY y)))])]⟩
abbrev Ad0 (a:Arr×LI×Int×(List aA)) (res:(List aA)):Prop:=match a with|(a_,l,x,out1)=>cG X 32 (aM [1,1,0,1,0,0] (aQ Tryz.f32)) (aH (X.H 32 3) 3) (aK 0 (X.H 32 1000000) 3 (iW (λ(out11:(List aA))=>(⟨[(2,.c (.ptr 1 0)),(3,.c (.ptr 2 0))],[(2,[.d (lI l),oC out11]),(1,[oI [],oC []]),(0,[.d (lI a_.shape),.d (lC a_.cells)])],3,[],none⟩:St)) res)) ⟨[(2,.c (.ptr 1 0)),(3,.c (.ptr 2 0)),(11,.d (lC a_.cells)),(12,.d (iZ (List.length a_.cells:Int))),(13,.d (iZ x))],[(2,[.d (lI l),oC out1]),(1,[oI [],oC []]),(0,[.d (lI a_.shape),.d (lC a_.cells)])],3,[],none⟩
abbrev AjB (a:Arr) (res:Arr):Prop:=match a with|a_=>aval X 32 [.d (aI a_)] [] (Aj0 res)
abbrev AeI (a:aA) (res:aA):Prop:=match a with|c=>aval X 60 [.d (aD c)] [] (Ak6 res)
theorem wW:(∀a res,kK a=some res->Ad0 a res)/\(∀a res,kM a=some res->AeI a res)/\(∀a res,fI a=some res->AjB a res):=by
 refine kK.mutual_partial_correctness (motive_1:=Ad0) (motive_2:=AeI) (motive_3:=AjB) ?_ ?_ ?_
 ·rintro P0 P1 I0 I1 ⟨a_,l,x,out1⟩ res h
  have I0:=Ok.mk' I0
  have I1:=Ok.mk' I1
  refine lg I ?_
  have iE:eP Tryz.f32 0 _ Aj0:=⟨trivial⟩
  exact Wk
 ·rintro P0 I0 c res h
  have I0:=Ok.mk' I0
  exact aB Ak6 I Tryz.func60 I I I I I I λiE=>Wk
 rintro P0 I0 a_ res h
 have I0:=Ok.mk' I0
 exact aB Aj0 I Tryz.func32 I I I I I I λiE=>Wk
instance {a:Arr×LI×Int×(List aA)}:Ok (kK a) (Ad0 a):=⟨λh=>wW.1 a _ h⟩
instance {a:aA}:Ok (kM a) (AeI a):=⟨λh=>wW.2.1 a _ h⟩
instance {a:Arr}:Ok (fI a) (AjB a):=⟨λh=>wW.2.2 a _ h⟩
abbrev xR (r:Int×Int):aE:=(aE.ret (.tuple [.d (iZ r.1),.d (iZ r.2)]) [])
instance BgP:Jn 96 0 1 (Bool):=⟨λy=>[(5,.d (.bool y))],λy=>[]⟩
abbrev AiH (a:LI×Bool×Int) (res:Except (Int×Int) (Bool)):Prop:=match a with|(shape,none_,x)=>cG X 96 (aM [1,1,1,0,1,0,0] (aQ Tryz.f96)) (aH (X.H 96 5) 0) (aK 0 (X.H 96 1000000) 0 (jY X Tryz.f96 0 xR (λ(none_2:Bool)=>(⟨[(0,.d (lI shape)),(4,.d (iZ 1)),(5,.d (.bool none_2))],[],0,[],none⟩:St)) res)) ⟨[(0,.d (lI shape)),(4,.d (iZ 1)),(5,.d (.bool none_)),(13,.d (lI shape)),(14,.d (iZ (List.length shape:Int))),(15,.d (iZ x))],[],0,[],none⟩
instance {a:LI×Bool×Int}:Ok (mS a) (AiH a):=⟨λh=>mS.partial_correctness AiH (by
 rintro P_ IH ⟨shape,none_,x⟩ res h
 have IH:=Ok.mk' IH
 have iE:eP Tryz.f96 0 _ xR:=⟨trivial⟩
 refine lg I ?_
 exact Wk) _ _ h⟩
abbrev AiI (a:LI×Int×Int) (res:Except (Int×Int) (Int)):Prop:=match a with|(shape,n,x1)=>cG X 96 (aM [1,1,1,1,1,0,1,0,0] (aQ Tryz.f96)) (aH (X.H 96 14) 0) (aK 2 (X.H 96 1000002) 0 (jY X Tryz.f96 0 xR (λ(n1:Int)=>(⟨[(4,.d (iZ n1))],[],0,[],none⟩:St)) res)) ⟨[(4,.d (iZ n)),(28,.d (lI shape)),(29,.d (iZ (List.length shape:Int))),(30,.d (iZ x1))],[],0,[],none⟩
instance {a:LI×Int×Int}:Ok (mT a) (AiI a):=⟨λh=>mT.partial_correctness AiI (by
 rintro P_ IH ⟨shape,n,x1⟩ res h
 have IH:=Ok.mk' IH
 have iE:eP Tryz.f96 0 _ xR:=⟨trivial⟩
 refine lg I ?_
 exact Wk) _ _ h⟩
instance {shape:LI}:Ok (kD shape) λr=>aval X 96 [.d (lI shape)] [] (xR r):=⟨λh=>by
 unfold kD at h
 exact aB xR I Tryz.func96 I I I I I I λiE=>Wk⟩
abbrev AoU (r:Bool):aE:=(aE.ret (.d (.bool r)) [])
instance {n:Int}:Ok (vE n) λr=>aval X 209 [.d (iZ n)] [] (AoU r):=⟨λh=>by
 unfold vE at h
 exact aB AoU I Tryz.func209 I I I I I I λiE=>Wk⟩
abbrev vI (r:Int):aE:=(aE.ret (.d (iZ r)) [])
instance BfO:Jn 144 0 3 (Unit):=⟨λy=>[],λy=>[]⟩
abbrev Ab7 (a:Arr×Int×Int) (res:Except (Int) (Unit)):Prop:=match a with|(a_,deep,x)=>cG X 144 (aM [1,1,1,1,0,1,0,0] (aQ Tryz.f144)) (aH (X.H 144 7) 1) (aK 0 (X.H 144 1000000) 1 (jY X Tryz.f144 0 vI (λ(_:Unit)=>(⟨[(1,.d (iZ deep)),(2,.c (.ptr 0 0))],[(0,[.d (lI a_.shape),.d (lC a_.cells)])],1,[],none⟩:St)) res)) ⟨[(1,.d (iZ deep)),(2,.c (.ptr 0 0)),(27,.d (lI a_.shape)),(28,.d (iZ (List.length a_.shape:Int))),(29,.d (iZ x))],[(0,[.d (lI a_.shape),.d (lC a_.cells)])],1,[],none⟩
theorem AjE:∀a res,jF a=some res->Ab7 a res:=by
 refine jF.partial_correctness Ab7 ?_
 rintro P_ IH ⟨a_,deep,x⟩ res h
 have IH:=Ok.mk' IH
 refine lg I ?_
 have iE:eP Tryz.f144 0 _ vI:=⟨trivial⟩
 exact Wk
instance {a:Arr×Int×Int}:Ok (jF a) (Ab7 a):=⟨λh=>AjE a _ h⟩
abbrev Ab8 (a:Arr×Int×Int) (res:Except (Int) (Unit)):Prop:=match a with|(a_,deep,x1)=>cG X 144 (aM [1,1,1,1,1,0,1,0,0] (aQ Tryz.f144)) (aH (X.H 144 13) 1) (aK 2 (X.H 144 1000002) 1 (jY X Tryz.f144 0 vI (λ(_:Unit)=>(⟨[],[(0,[.d (lI a_.shape),.d (lC a_.cells)])],1,[],none⟩:St)) res)) ⟨[(1,.d (iZ deep)),(37,.d (lC a_.cells)),(38,.d (iZ (List.length a_.cells:Int))),(39,.d (iZ x1))],[(0,[.d (lI a_.shape),.d (lC a_.cells)])],1,[],none⟩
abbrev AgE (a:Arr×Int) (res:Int):Prop:=match a with|(a_,deep)=>aval X 144 [.d (aI a_),.d (iZ deep)] [] (vI res)
theorem AbK:(∀a res,gY a=some res->Ab8 a res)/\(∀a res,qC a=some res->AgE a res):=by
 refine gY.mutual_partial_correctness (motive_1:=Ab8) (motive_2:=AgE) ?_ ?_
 ·rintro P0 P1 I0 I1 ⟨a_,deep,x1⟩ res h
  have I0:=Ok.mk' I0
  have I1:=Ok.mk' I1
  refine lg I ?_
  have iE:eP Tryz.f144 0 _ vI:=⟨trivial⟩
  exact Wk
 rintro P0 I0 ⟨a_,deep⟩ res h
 have I0:=Ok.mk' I0
 exact aB vI I Tryz.func144 I I I I I I λiE=>Wk
instance {a:Arr×Int×Int}:Ok (gY a) (Ab8 a):=⟨λh=>AbK.1 a _ h⟩
instance {a:Arr×Int}:Ok (qC a) (AgE a):=⟨λh=>AbK.2 a _ h⟩
abbrev AmQ (r:Int):aE:=(aE.ret (.d (iZ r)) [])
instance {a_:Arr}:Ok (iR a_) λr=>aval X 71 [.d (aI a_)] [] (AmQ r):=⟨λh=>by
 unfold iR at h
 exact aB AmQ I Tryz.func71 I I I I I I λiE=>Wk⟩
abbrev pO (r:Bool):aE:=(aE.ret (.d (.bool r)) [])
instance BcA:Jn 123 0 1 (Unit):=⟨λy=>[],λy=>[]⟩
abbrev AcA (a:Arr×Int) (res:Except (Bool) (Unit)):Prop:=match a with|(a_,x1)=>cG X 123 (aM [1,1,0,1,0,0] (aQ Tryz.f123)) (aH (X.H 123 4) 1) (aK 0 (X.H 123 1000000) 1 (jY X Tryz.f123 0 pO (λ(_:Unit)=>(⟨[],[(0,[.d (lI a_.shape),.d (lC a_.cells)])],1,[],none⟩:St)) res)) ⟨[(1,.c (.ptr 0 0)),(27,.d (lC a_.cells)),(28,.d (iZ (List.length a_.cells:Int))),(29,.d (iZ x1))],[(0,[.d (lI a_.shape),.d (lC a_.cells)])],1,[],none⟩
instance {a:Arr×Int}:Ok (jI a) (AcA a):=⟨λh=>jI.partial_correctness AcA (by
 rintro P_ IH ⟨a_,x1⟩ res h
 have IH:=Ok.mk' IH
 have iE:eP Tryz.f123 0 _ pO:=⟨trivial⟩
 refine lg I ?_
 exact Wk) _ _ h⟩
abbrev AcB (a:Arr×Int) (res:Except (Bool) (Unit)):Prop:=match a with|(a_,x2)=>cG X 123 (aM [1,1,0,1,0,0] (aQ Tryz.f123)) (aH (X.H 123 4) 1) (aK 0 (X.H 123 1000000) 1 (jY X Tryz.f123 0 pO (λ(_:Unit)=>(⟨[],[(0,[.d (lI a_.shape),.d (lC a_.cells)])],1,[],none⟩:St)) res)) ⟨[(1,.c (.ptr 0 0)),(27,.d (lC a_.cells)),(28,.d (iZ (List.length a_.cells:Int))),(29,.d (iZ x2))],[(0,[.d (lI a_.shape),.d (lC a_.cells)])],1,[],none⟩
instance {a:Arr×Int}:Ok (jJ a) (AcB a):=⟨λh=>jJ.partial_correctness AcB (by
 rintro P_ IH ⟨a_,x2⟩ res h
 have IH:=Ok.mk' IH
 have iE:eP Tryz.f123 0 _ pO:=⟨trivial⟩
 refine lg I ?_
 exact Wk) _ _ h⟩
instance {a_:Arr}:Ok (pR a_) λr=>aval X 123 [.d (aI a_)] [] (pO r):=⟨λh=>by
 unfold pR at h
 exact aB pO I Tryz.func123 I I I I I I λiE=>Wk⟩
abbrev AbW (r:Bool):aE:=(aE.ret (.d (.bool r)) [])
instance BfT:Jn 124 0 1 (Unit):=⟨λy=>[],λy=>[]⟩
abbrev AgJ (a:Str×Int) (res:Except (Bool) (Unit)):Prop:=match a with|(s,x)=>cG X 124 (aM [1,0,1,0,0] (aQ Tryz.f124)) (aH (X.H 124 2) 0) (aK 0 (X.H 124 1000000) 0 (jY X Tryz.f124 0 AbW (λ(_:Unit)=>(⟨[(0,.d (.str s))],[],0,[],none⟩:St)) res)) ⟨[(0,.d (.str s)),(6,.d (iZ (List.length s:Int))),(7,.d (iZ x))],[],0,[],none⟩
instance {a:Str×Int}:Ok (nI a) (AgJ a):=⟨λh=>nI.partial_correctness AgJ (by
 rintro P_ IH ⟨s,x⟩ res h
 have IH:=Ok.mk' IH
 have iE:eP Tryz.f124 0 _ AbW:=⟨trivial⟩
 refine lg I ?_
 exact Wk) _ _ h⟩
instance {s:Str}:Ok (vR s) λr=>aval X 124 [.d (.str s)] [] (AbW r):=⟨λh=>by
 unfold vR at h
 exact aB AbW I Tryz.func124 I I I I I I λiE=>Wk⟩
abbrev rV (r:Bool×Int):aE:=(aE.ret (.d (.bool r.1)) [[.d (iZ r.2),.nilmap]])
instance {deep:Int} {nodes:Int}:Ok (bW deep nodes) λr=>aval X 121 [.ptr 0 0,.d (iZ deep)] [[.d (iZ nodes),.nilmap]] (rV r):=⟨λh=>by
 unfold bW at h
 exact aB rV I Tryz.func121 I I I I I I λiE=>Wk⟩
abbrev Ai4 (r:Bool):aE:=(aE.ret (.d (.bool r)) [])
instance {op_:Int}:Ok (mU op_) λr=>aval X 224 [.d (iZ op_)] [] (Ai4 r):=⟨λh=>by
 unfold mU at h
 exact aB Ai4 I Tryz.func224 I I I I I I λiE=>Wk⟩
abbrev Ak9 (r:Bool):aE:=(aE.ret (.d (.bool r)) [])
instance {n:Node} {kids:Int} {op_:Bool} {name:Bool} {lit:Bool}:Ok (bO n kids op_ name lit) λr=>aval X 122 [.d (encNode n),.d (iZ kids),.d (.bool op_),.d (.bool name),.d (.bool lit)] [] (Ak9 r):=⟨λh=>by
 unfold bO at h
 exact aB Ak9 I Tryz.func122 I I I I I I λiE=>Wk⟩
abbrev pZ (r:Bool×Int):aE:=(aE.ret (.d (.bool r.1)) [[.d (iZ r.2),.nilmap]])
instance AlD:Jn 187 1 9 (Int×Int×Int×Str×LI×(List aA)×(List Node)×Int×Int):=⟨λy=>[(2,.d (iZ y.1))],λy=>[(0,[(0,.d (iZ y.2.2.2.2.2.2.2.2))]),(1,[(0,.d (iZ y.2.1)),(1,.d (iZ y.2.2.1)),(2,.d (.str y.2.2.2.1)),(3,.d (lI y.2.2.2.2.1)),(4,.d (lC y.2.2.2.2.2.1)),(5,.d (lN y.2.2.2.2.2.2.1)),(6,.d (iZ y.2.2.2.2.2.2.2.1))])]⟩
instance {n:Node} {deep:Int} {nodes:Int}:Ok (dK n deep nodes) λr=>aval X 187 [.ptr 0 0,.d (encNode n),.d (iZ deep)] [[.d (iZ nodes),.nilmap]] (pZ r):=⟨λh=>by
 unfold dK at h
 exact aB pZ I Tryz.func187 I I I I I I λiE=>Wk⟩
abbrev yO (b:(List (Int×Bool))) (r:Bool×Int):aE:=(aE.ret (.d (.bool r.1)) [[.d (iZ r.2),.mp 1],[.mdat (List.map (zJ .i64 D.bool) b)]])
instance {deep:Int} {nodes:Int} {b:(List (Int×Bool))}:Ok (cT deep nodes b) λr=>aval X 121 [.ptr 0 0,.d (iZ deep)] [[.d (iZ nodes),.mp 1],[.mdat (List.map (zJ .i64 D.bool) b)]] ((yO b) r):=⟨λh=>by
 unfold cT at h
 exact aB (yO b) I Tryz.func121 I I I I I I λiE=>Wk⟩
abbrev wE (b:(List (Int×Bool))) (r:Bool×Int):aE:=(aE.ret (.d (.bool r.1)) [[.d (iZ r.2),.mp 1],[.mdat (List.map (zJ .i64 D.bool) b)]])
instance Ar5:Jn 187 1 9 (Int×Int×Int×Str×LI×(List aA)×(List Node)×Int×Int):=⟨λy=>[(2,.d (iZ y.1))],λy=>[(0,[(0,.d (iZ y.2.2.2.2.2.2.2.2))]),(2,[(0,.d (iZ y.2.1)),(1,.d (iZ y.2.2.1)),(2,.d (.str y.2.2.2.1)),(3,.d (lI y.2.2.2.2.1)),(4,.d (lC y.2.2.2.2.2.1)),(5,.d (lN y.2.2.2.2.2.2.1)),(6,.d (iZ y.2.2.2.2.2.2.2.1))])]⟩
instance {n:Node} {deep:Int} {nodes:Int} {b:(List (Int×Bool))}:Ok (gD n deep nodes b) λr=>aval X 187 [.ptr 0 0,.d (encNode n),.d (iZ deep)] [[.d (iZ nodes),.mp 1],[.mdat (List.map (zJ .i64 D.bool) b)]] ((wE b) r):=⟨λh=>by
 unfold gD at h
 exact aB (wE b) I Tryz.func187 I I I I I I λiE=>Wk⟩
abbrev zQ (r:Bool×Int×(List (Int×Bool))):aE:=(aE.ret (.d (.bool r.1)) [[.d (iZ r.2.1),.mp 1],[.mdat (List.map (zJ .i64 D.bool) r.2.2)]])
instance Av6:Jn 54 1 31 (Bool):=⟨λy=>[(31,.d (.bool y))],λy=>[]⟩
abbrev AbY (b:(List (Int×Bool))) (r:Bool×Int):aE:=(aE.ret (.d (.bool r.1)) [[.d (iZ r.2),.mp 1],[.mdat (List.map (zJ .i64 D.bool) b)]])
instance AyG:Jn 125 1 33 (Bool):=⟨λy=>[(33,.d (.bool y))],λy=>[]⟩
abbrev AbX (b:(List (Int×Bool))) (r:Bool×Int):aE:=(aE.ret (.d (.bool r.1)) [[.d (iZ r.2),.mp 1],[.mdat (List.map (zJ .i64 D.bool) b)]])
abbrev xI (b:(List (Int×Bool))) (r:Bool×Int):aE:=(aE.ret (.d (.bool r.1)) [[.d (iZ r.2),.mp 1],[.mdat (List.map (zJ .i64 D.bool) b)]])
abbrev xJ (b:(List (Int×Bool))) (r:Bool×Int):aE:=(aE.ret (.d (.bool r.1)) [[.d (iZ r.2),.mp 1],[.mdat (List.map (zJ .i64 D.bool) b)]])
abbrev AaX (b:(List (Int×Bool))) (r:Bool×Int):aE:=(aE.ret (.d (.bool r.1)) [[.d (iZ r.2),.mp 1],[.mdat (List.map (zJ .i64 D.bool) b)]])
abbrev tT (a:Node×Int×Int×(List (Int×Bool))) (res:Bool×Int×(List (Int×Bool))):Prop:=match a with|(n,deep,nodes,b)=>aval X 54 [.ptr 0 0,.d (encNode n),.d (iZ deep)] [[.d (iZ nodes),.mp 1],[.mdat (List.map (zJ .i64 D.bool) b)]] (zQ res)
abbrev wQ (a:Node×Int×Int×(List (Int×Bool))) (res:Bool×Int):Prop:=match a with|(n,deep,nodes,b)=>aval X 125 [.ptr 0 0,.d (encNode n),.d (iZ deep)] [[.d (iZ nodes),.mp 1],[.mdat (List.map (zJ .i64 D.bool) b)]] ((AbY b) res)
abbrev wP (a:Node×Int×Int×(List (Int×Bool))) (res:Bool×Int):Prop:=match a with|(n,deep,nodes,b)=>aval X 126 [.ptr 0 0,.d (encNode n),.d (iZ deep)] [[.d (iZ nodes),.mp 1],[.mdat (List.map (zJ .i64 D.bool) b)]] ((AbX b) res)
abbrev rO (a:Node×Int×Int×(List (Int×Bool))) (res:Bool×Int):Prop:=match a with|(n,deep,nodes,b)=>aval X 186 [.ptr 0 0,.d (encNode n),.d (iZ deep)] [[.d (iZ nodes),.mp 1],[.mdat (List.map (zJ .i64 D.bool) b)]] ((xI b) res)
abbrev rP (a:Node×Int×Int×(List (Int×Bool))) (res:Bool×Int):Prop:=match a with|(n,deep,nodes,b)=>aval X 188 [.ptr 0 0,.d (encNode n),.d (iZ deep)] [[.d (iZ nodes),.mp 1],[.mdat (List.map (zJ .i64 D.bool) b)]] ((xJ b) res)
abbrev vB (a:Node×Int×Int×(List (Int×Bool))) (res:Bool×Int):Prop:=match a with|(n,deep,nodes,b)=>aval X 189 [.ptr 0 0,.d (encNode n),.d (iZ deep)] [[.d (iZ nodes),.mp 1],[.mdat (List.map (zJ .i64 D.bool) b)]] ((AaX b) res)
theorem fO:(∀a res,dN a=some res->tT a res)/\(∀a res,oV a=some res->wP a res)/\(∀a res,fT a=some res->vB a res)/\(∀a res,gP a=some res->rO a res)/\(∀a res,gQ a=some res->rP a res)/\(∀a res,lG a=some res->wQ a res):=by
 refine dN.mutual_partial_correctness (motive_1:=tT) (motive_2:=wP) (motive_3:=vB) (motive_4:=rO) (motive_5:=rP) (motive_6:=wQ) ?_ ?_ ?_ ?_ ?_ ?_
 ·rintro P0 P1 P2 I0 I1 I2 ⟨n,deep,nodes,b⟩ res h
  have I0:=Ok.mk' I0
  have I1:=Ok.mk' I1
  have I2:=Ok.mk' I2
  exact aB zQ I Tryz.func54 I I I I I I λiE=>Wk
 ·rintro P0 P1 I0 I1 ⟨n,deep,nodes,b⟩ res h
  have I0:=Ok.mk' I0
  have I1:=Ok.mk' I1
  exact aB (AbX b) I Tryz.func126 I I I I I I λiE=>Wk
 ·rintro P0 I0 ⟨n,deep,nodes,b⟩ res h
  have I0:=Ok.mk' I0
  exact aB (AaX b) I Tryz.func189 I I I I I I λiE=>Wk
 ·rintro P0 I0 ⟨n,deep,nodes,b⟩ res h
  have I0:=Ok.mk' I0
  exact aB (xI b) I Tryz.func186 I I I I I I λiE=>Wk
 ·rintro P0 I0 ⟨n,deep,nodes,b⟩ res h
  have I0:=Ok.mk' I0
  exact aB (xJ b) I Tryz.func188 I I I I I I λiE=>Wk
 rintro P0 P1 P2 I0 I1 I2 ⟨n,deep,nodes,b⟩ res h
 have I0:=Ok.mk' I0
 have I1:=Ok.mk' I1
 have I2:=Ok.mk' I2
 exact aB (AbY b) I Tryz.func125 I I I I I I λiE=>Wk
instance {a:Node×Int×Int×(List (Int×Bool))}:Ok (dN a) (tT a):=⟨λh=>fO.1 a _ h⟩
instance {a:Node×Int×Int×(List (Int×Bool))}:Ok (oV a) (wP a):=⟨λh=>fO.2.1 a _ h⟩
instance {a:Node×Int×Int×(List (Int×Bool))}:Ok (fT a) (vB a):=⟨λh=>fO.2.2.1 a _ h⟩
instance {a:Node×Int×Int×(List (Int×Bool))}:Ok (gP a) (rO a):=⟨λh=>fO.2.2.2.1 a _ h⟩
instance {a:Node×Int×Int×(List (Int×Bool))}:Ok (gQ a) (rP a):=⟨λh=>fO.2.2.2.2.1 a _ h⟩
instance {a:Node×Int×Int×(List (Int×Bool))}:Ok (lG a) (wQ a):=⟨λh=>fO.2.2.2.2.2 a _ h⟩
abbrev qY (r:Bool×Int):aE:=(aE.ret (.d (.bool r.1)) [[.d (iZ r.2),.nilmap]])
instance {n:Node} {deep:Int} {nodes:Int}:Ok (dU n deep nodes) λr=>aval X 186 [.ptr 0 0,.d (encNode n),.d (iZ deep)] [[.d (iZ nodes),.nilmap]] (qY r):=⟨λh=>by
 unfold dU at h
 exact aB qY I Tryz.func186 I I I I I I λiE=>Wk⟩
abbrev tO (r:Bool×Int):aE:=(aE.ret (.d (.bool r.1)) [[.d (iZ r.2),.nilmap]])
instance {n:Node} {deep:Int} {nodes:Int}:Ok (cY n deep nodes) λr=>aval X 189 [.ptr 0 0,.d (encNode n),.d (iZ deep)] [[.d (iZ nodes),.nilmap]] (tO r):=⟨λh=>by
 unfold cY at h
 exact aB tO I Tryz.func189 I I I I I I λiE=>Wk⟩
abbrev qZ (r:Bool×Int):aE:=(aE.ret (.d (.bool r.1)) [[.d (iZ r.2),.nilmap]])
instance {n:Node} {deep:Int} {nodes:Int}:Ok (dV n deep nodes) λr=>aval X 188 [.ptr 0 0,.d (encNode n),.d (iZ deep)] [[.d (iZ nodes),.nilmap]] (qZ r):=⟨λh=>by
 unfold dV at h
 exact aB qZ I Tryz.func188 I I I I I I λiE=>Wk⟩
abbrev tX (r:Bool×Int):aE:=(aE.ret (.d (.bool r.1)) [[.d (iZ r.2),.nilmap]])
instance {n:Node} {deep:Int} {nodes:Int}:Ok (gZ n deep nodes) λr=>aval X 126 [.ptr 0 0,.d (encNode n),.d (iZ deep)] [[.d (iZ nodes),.nilmap]] (tX r):=⟨λh=>by
 unfold gZ at h
 exact aB tX I Tryz.func126 I I I I I I λiE=>Wk⟩
abbrev tY (r:Bool×Int):aE:=(aE.ret (.d (.bool r.1)) [[.d (iZ r.2),.nilmap]])
instance ApR:Jn 125 1 33 (Bool):=⟨λy=>[(33,.d (.bool y))],λy=>[]⟩
abbrev oW (a:Node×Int×Int) (res:Bool×Int):Prop:=match a with|(n,deep,nodes)=>aval X 125 [.ptr 0 0,.d (encNode n),.d (iZ deep)] [[.d (iZ nodes),.nilmap]] (tY res)
theorem zM:∀a res,eC a=some res->oW a res:=by
 refine eC.partial_correctness oW ?_
 rintro P_ IH ⟨n,deep,nodes⟩ res h
 have IH:=Ok.mk' IH
 exact aB tY I Tryz.func125 I I I I I I λiE=>Wk
instance {a:Node×Int×Int}:Ok (eC a) (oW a):=⟨λh=>zM a _ h⟩
abbrev rZ (r:Bool×Int):aE:=(aE.ret (.d (.bool r.1)) [[.d (iZ r.2),.nilmap]])
instance AnQ:Jn 54 1 31 (Bool):=⟨λy=>[(31,.d (.bool y))],λy=>[]⟩
abbrev nD (a:Node×Int×Int) (res:Bool×Int):Prop:=match a with|(n,deep,nodes)=>aval X 54 [.ptr 0 0,.d (encNode n),.d (iZ deep)] [[.d (iZ nodes),.nilmap]] (rZ res)
theorem yA:∀a res,cF a=some res->nD a res:=by
 refine cF.partial_correctness nD ?_
 rintro P_ IH ⟨n,deep,nodes⟩ res h
 have IH:=Ok.mk' IH
 exact aB rZ I Tryz.func54 I I I I I I λiE=>Wk
instance {a:Node×Int×Int}:Ok (cF a) (nD a):=⟨λh=>yA a _ h⟩
abbrev Ak8 (r:Int):aE:=(aE.ret (.d (iZ r)) [])
instance {n:Node}:Ok (tE n) λr=>aval X 28 [.d (encNode n)] [] (Ak8 r):=⟨λh=>by
 unfold tE at h
 exact aB Ak8 I Tryz.func28 I I I I I I λiE=>Wk⟩
abbrev Ab1 (m:aG) (r:Int×Int):aE:=(aE.ret (.tuple [.d (iZ r.1),.d (iZ r.2)]) [[.d (iZ m.fuel.left),.d (iZ m.fuel.used),.d (iZ m.cells)]])
instance {m:aG}:Ok (vF m) λr=>aval X 31 [.ptr 0 0] [[.d (iZ m.fuel.left),.d (iZ m.fuel.used),.d (iZ m.cells)]] ((Ab1 m) r):=⟨λh=>by
 unfold vF at h
 exact aB (Ab1 m) I Tryz.func31 I I I I I I λiE=>Wk⟩
abbrev AmW (r:aG):aE:=(aE.ret (.c (.ptr 0 0)) [[.d (iZ r.fuel.left),.d (iZ r.fuel.used),.d (iZ r.cells)]])
instance {fuel:Int} {cells:Int}:Ok (AgV fuel cells) λr=>aval X 29 [.d (iZ fuel),.d (iZ cells)] [] (AmW r):=⟨λh=>by
 unfold AgV at h
 exact aB AmW I Tryz.func29 I I I I I I λiE=>Wk⟩
abbrev AmT (r:Bool):aE:=(aE.ret (.d (.bool r)) [])
instance {op_:Int}:Ok (qD op_) λr=>aval X 106 [.d (iZ op_)] [] (AmT r):=⟨λh=>by
 unfold qD at h
 exact aB AmT I Tryz.func106 I I I I I I λiE=>Wk⟩
abbrev sY (r:Int):aE:=(aE.ret (.d (iZ r)) [])
abbrev zR (a:cE×(List Arr)×Int) (res:Except (Int) (Unit)):Prop:=match a with|(f,l,x)=>cG X 191 (aM [1,0,1,0,0] (aQ Tryz.f191)) (aH (X.H 191 2) 1) (aK 0 (X.H 191 1000000) 1 (jY X Tryz.f191 0 sY (λ(_:Unit)=>(⟨[(2,.c (.ptr 0 0))],[(0,[.d (iZ f.op_),.d (.bool f.turned)])],1,[],none⟩:St)) res)) ⟨[(2,.c (.ptr 0 0)),(8,.d (.list 2 (List.map aY l))),(9,.d (iZ (List.length l:Int))),(10,.d (iZ x))],[(0,[.d (iZ f.op_),.d (.bool f.turned)])],1,[],none⟩
instance {a:cE×(List Arr)×Int}:Ok (gH a) (zR a):=⟨λh=>gH.partial_correctness zR (by
 rintro P_ IH ⟨f,l,x⟩ res h
 have IH:=Ok.mk' IH
 have iE:eP Tryz.f191 0 _ sY:=⟨trivial⟩
 refine lg I ?_
 exact Wk) _ _ h⟩
instance {f:cE} {l:(List Arr)}:Ok (kE f l) λr=>aval X 191 [.d (rK f),.d (.list 2 (List.map aY l))] [] (sY r):=⟨λh=>by
 unfold kE at h
 exact aB sY I Tryz.func191 I I I I I I λiE=>Wk⟩
abbrev ArV (r:Int×Int):aE:=(aE.ret (.tuple [.d (iZ r.1),.d (iZ r.2)]) [])
instance {a_:Int} {b:Int}:Ok (AdP a_ b) λr=>aval X 220 [.d (iZ a_),.d (iZ b)] [] (ArV r):=⟨λh=>by
 unfold AdP at h
 exact aB ArV I Tryz.func220 I I I I I I λiE=>Wk⟩
abbrev AkA (r:Int×Int):aE:=(aE.ret (.tuple [.d (iZ r.1),.d (iZ r.2)]) [])
instance BeO:Jn 241 0 0 (Unit):=⟨λy=>[],λy=>[]⟩
instance {n:Int} {below:Bool}:Ok (tI n below) λr=>aval X 241 [.d (.int .u64 n),.d (.bool below)] [] (AkA r):=⟨λh=>by
 unfold tI at h
 exact aB AkA I Tryz.func241 I I I I I I λiE=>Wk⟩
abbrev AoV (r:Int×Bool):aE:=(aE.ret (.tuple [.d (.int .u64 r.1),.d (.bool r.2)]) [])
instance {a_:Int}:Ok (yD a_) λr=>aval X 236 [.d (iZ a_)] [] (AoV r):=⟨λh=>by
 unfold yD at h
 exact aB AoV I Tryz.func236 I I I I I I λiE=>Wk⟩
abbrev Ae6 (r:Int×Int):aE:=(aE.ret (.tuple [.d (iZ r.1),.d (iZ r.2)]) [])
instance BgQ:Jn 227 0 1 (Int×Bool×Bool):=⟨λy=>[(4,.d (.int .u64 y.1)),(5,.d (.bool y.2.1)),(6,.d (.bool y.2.2))],λy=>[]⟩
abbrev AiL (a:LI×Int×Bool×Bool×Int) (res:Except (Int×Int) (Int×Bool×Bool)):Prop:=match a with|(l,n,below,over,x)=>cG X 227 (aM [1,1,1,0,1,0,0] (aQ Tryz.f227)) (aH (X.H 227 4) 0) (aK 0 (X.H 227 1000000) 0 (jY X Tryz.f227 0 Ae6 (λ((n2,below2,over2):Int×Bool×Bool)=>(⟨[(4,.d (.int .u64 n2)),(5,.d (.bool below2)),(6,.d (.bool over2))],[],0,[],none⟩:St)) res)) ⟨[(0,.d (lI l)),(4,.d (.int .u64 n)),(5,.d (.bool below)),(6,.d (.bool over)),(11,.d (iZ (List.length l:Int))),(12,.d (iZ x))],[],0,[],none⟩
instance {a:LI×Int×Bool×Bool×Int}:Ok (pC a) (AiL a):=⟨λh=>pC.partial_correctness AiL (by
 rintro P_ IH ⟨l,n,below,over,x⟩ res h
 have IH:=Ok.mk' IH
 have iE:eP Tryz.f227 0 _ Ae6:=⟨trivial⟩
 refine lg I ?_
 exact Wk) _ _ h⟩
instance {l:LI}:Ok (sS l) λr=>aval X 227 [.d (lI l)] [] (Ae6 r):=⟨λh=>by
 unfold sS at h
 exact aB Ae6 I Tryz.func227 I I I I I I λiE=>Wk⟩
abbrev ArW (r:Int×Int):aE:=(aE.ret (.tuple [.d (iZ r.1),.d (iZ r.2)]) [])
instance {a_:Int} {b:Int}:Ok (AdQ a_ b) λr=>aval X 221 [.d (iZ a_),.d (iZ b)] [] (ArW r):=⟨λh=>by
 unfold AdQ at h
 exact aB ArW I Tryz.func221 I I I I I I λiE=>Wk⟩
abbrev ArY (r:Int):aE:=(aE.ret (.d (iZ r)) [])
instance BhU:Jn 222 1 22 (Int):=⟨λy=>[(5,.d (iZ y))],λy=>[]⟩
instance {a_:Int} {b:Int}:Ok (AdR a_ b) λr=>aval X 222 [.d (iZ a_),.d (iZ b)] [] (ArY r):=⟨λh=>by
 unfold AdR at h
 exact aB ArY I Tryz.func222 I I I I I I λiE=>Wk⟩
abbrev As0 (r:Int×Int):aE:=(aE.ret (.tuple [.d (iZ r.1),.d (iZ r.2)]) [])
instance {a_:Int} {b:Int}:Ok (AaI a_ b) λr=>aval X 210 [.d (iZ a_),.d (iZ b)] [] (As0 r):=⟨λh=>by
 unfold AaI at h
 exact aB As0 I Tryz.func210 I I I I I I λiE=>Wk⟩
abbrev AeV (r:Int×Int):aE:=(aE.ret (.tuple [.d (iZ r.1),.d (iZ r.2)]) [])
instance {op_:Int} {a_:Int} {b:Int}:Ok (oL op_ a_ b) λr=>aval X 175 [.d (iZ op_),.d (iZ a_),.d (iZ b)] [] (AeV r):=⟨λh=>by
 unfold oL at h
 exact aB AeV I Tryz.func175 I I I I I I λiE=>Wk⟩
abbrev AfQ (r:Int):aE:=(aE.ret (.d (iZ r)) [])
instance {b:Bool}:Ok (nH b) λr=>aval X 173 [.d (.bool b)] [] (AfQ r):=⟨λh=>by
 unfold nH at h
 exact aB AfQ I Tryz.func173 I I I I I I λiE=>Wk⟩
abbrev Ai3 (r:aA×Int):aE:=(aE.ret (.tuple [.d (aD r.1),.d (iZ r.2)]) [])
instance BcZ:Jn 108 0 0 (Unit):=⟨λy=>[],λy=>[]⟩
instance {op_:Int} {a_:aA} {b:aA}:Ok (pA op_ a_ b) λr=>aval X 108 [.d (iZ op_),.d (aD a_),.d (aD b)] [] (Ai3 r):=⟨λh=>by
 unfold pA at h
 exact aB Ai3 I Tryz.func108 I I I I I I λiE=>Wk⟩
abbrev AmU (r:aA×Int):aE:=(aE.ret (.tuple [.d (aD r.1),.d (iZ r.2)]) [])
instance BfU:Jn 197 1 9 (Int×Int×(List Arr)×Int×Int×(List Arr)):=⟨λy=>[],λy=>[(1,[(0,.d (iZ y.2.2.2.1)),(1,.d (iZ y.2.2.2.2.1)),(2,.d (.list 2 (List.map aY y.2.2.2.2.2)))]),(2,[(0,.d (iZ y.1)),(1,.d (iZ y.2.1)),(2,.d (.list 2 (List.map aY y.2.2.1)))])]⟩
instance {f:cE} {a_:aA} {b:aA}:Ok (vS f a_ b) λr=>aval X 197 [.d (rK f),.d (aD a_),.d (aD b)] [] (AmU r):=⟨λh=>by
 unfold vS at h
 exact aB AmU I Tryz.func197 I I I I I I λiE=>Wk⟩
abbrev Aa4 (r:Arr×Int):aE:=(aE.ret (.tuple [.d (aI r.1),.d (iZ r.2)]) [])
abbrev Af4 (a:cE×Arr×Arr×LI×Int×aA×Int×(List aA)) (res:Except (Arr×Int) (List aA)):Prop:=match a with|(f,a_,b,l,x2,y,x3,out11)=>cG X 132 (aM [1,1,1,1,0,1,0,0,1,1,0,0,1,1,0,0] (aQ Tryz.f132)) (aH (X.H 132 12) 16) (aK 2 (X.H 132 1000002) 16 (jY X Tryz.f132 0 Aa4 (λ(out12:(List aA))=>(⟨[(3,.c (.ptr 0 0)),(5,.c (.ptr 2 0)),(6,.c (.ptr 3 0)),(9,.c (.ptr 11 0)),(45,.d (lC a_.cells)),(46,.d (iZ (List.length a_.cells:Int))),(47,.d (iZ x2))],[(15,[.d (iZ y.kind),.d (iZ y.n),.d (.list 2 (List.map aY y.box))]),(11,[.d (lI l),oC out12]),(3,[oI [],oC []]),(2,[.d (lI b.shape),.d (lC b.cells)]),(1,[.d (lI a_.shape),.d (lC a_.cells)]),(0,[.d (iZ f.op_),.d (.bool f.turned)])],16,[],none⟩:St)) res)) ⟨[(3,.c (.ptr 0 0)),(5,.c (.ptr 2 0)),(6,.c (.ptr 3 0)),(9,.c (.ptr 11 0)),(13,.c (.ptr 15 0)),(45,.d (lC a_.cells)),(46,.d (iZ (List.length a_.cells:Int))),(47,.d (iZ x2)),(52,.d (lC b.cells)),(53,.d (iZ (List.length b.cells:Int))),(54,.d (iZ x3))],[(15,[.d (iZ y.kind),.d (iZ y.n),.d (.list 2 (List.map aY y.box))]),(11,[.d (lI l),oC out11]),(3,[oI [],oC []]),(2,[.d (lI b.shape),.d (lC b.cells)]),(1,[.d (lI a_.shape),.d (lC a_.cells)]),(0,[.d (iZ f.op_),.d (.bool f.turned)])],16,[],none⟩
instance {a:cE×Arr×Arr×LI×Int×aA×Int×(List aA)}:Ok (lP a) (Af4 a):=⟨λh=>lP.partial_correctness Af4 (by
 rintro P_ IH ⟨f,a_,b,l,x2,y,x3,out11⟩ res h
 have IH:=Ok.mk' IH
 refine lg I (ra I (S_ ?_))
 rcases E_ h with ⟨hc,h⟩|⟨hc,h⟩
 ·refine ct I hc (K_ (cn I (N_ (S_ (W_ (S_ (rn 0 I ?_)))))))
  obtain⟨y1,hk,h⟩:=B h
  refine po (nB aD (λ_=>I) hk I I I I I) I I (on (nid':=17) 3 I (rz (S_ (rn 3 I ?_))))
  obtain⟨⟨x4,e2⟩,hk,h⟩:=B h
  have hv:=Ok.ok hk
  refine po (oA (hv) I I I I I I I I I) I I (on (nid':=18) 6 I (rz (S_ (ra I ?_))))
  rcases E_ h with ⟨hc,h⟩|⟨hc,h⟩
  ·refine ct I hc (ra I (R_ (C_ (Q_ (aK.ret (Q_ (cL.ret (aK.ret ?_))))))))
   cases h
   exact .err I (.ret I I)
  refine cf I hc (K_ (cn I (N_ (rn 4 I ?_))))
  obtain⟨l1,hk,h⟩:=B h
  refine po (Ag1 hk I I I I I I I I I I I I I I ) I I (on 2 I (O_ (en I (N_ (rn 2 I (O_ (cL.normal ?_)))))))
  have hv:=Ok.ok h
  exact cB I I hv
 ·refine cf I hc (X_ (fQ.exit (lE.exit (cL.exit (eh I ?_)))))
  cases h
  exact .ok I
 ) _ _ h⟩
abbrev Af3 (a:cE×Arr×Arr×LI×Int×(List aA)) (res:Except (Arr×Int) (List aA)):Prop:=match a with|(f,a_,b,l,x2,out1)=>cG X 132 (aM [1,1,1,1,0,1,0,0] (aQ Tryz.f132)) (aH (X.H 132 9) 15) (aK 0 (X.H 132 1000000) 15 (jY X Tryz.f132 0 Aa4 (λ(out13:(List aA))=>(⟨[(6,.c (.ptr 3 0)),(9,.c (.ptr 11 0))],[(11,[.d (lI l),oC out13]),(3,[oI [],oC []]),(2,[.d (lI b.shape),.d (lC b.cells)]),(1,[.d (lI a_.shape),.d (lC a_.cells)]),(0,[.d (iZ f.op_),.d (.bool f.turned)])],15,[],none⟩:St)) res)) ⟨[(3,.c (.ptr 0 0)),(5,.c (.ptr 2 0)),(6,.c (.ptr 3 0)),(9,.c (.ptr 11 0)),(45,.d (lC a_.cells)),(46,.d (iZ (List.length a_.cells:Int))),(47,.d (iZ x2))],[(11,[.d (lI l),oC out1]),(3,[oI [],oC []]),(2,[.d (lI b.shape),.d (lC b.cells)]),(1,[.d (lI a_.shape),.d (lC a_.cells)]),(0,[.d (iZ f.op_),.d (.bool f.turned)])],15,[],none⟩
instance {a:cE×Arr×Arr×LI×Int×(List aA)}:Ok (lO a) (Af3 a):=⟨λh=>lO.partial_correctness Af3 (by
 rintro P_ IH ⟨f,a_,b,l,x2,out1⟩ res h
 have IH:=Ok.mk' IH
 refine lg I (ra I (S_ ?_))
 rcases E_ h with ⟨hc,h⟩|⟨hc,h⟩
 ·refine ct I hc (K_ (cn I (N_ (S_ (W_ (S_ (rn 0 I ?_)))))))
  obtain⟨y,hk,h⟩:=B h
  refine po (nB aD (λ_=>I) hk I I I I I) I I (on (nid':=16) 3 I (rz (S_ (rn 2 I (po (nC I I I I I I I) I I (on 1 I (rz ?_)))))))
  obtain⟨res,hs,h⟩:=B h
  refine uQ Tryz.f132 0 Aa4 (λ(out12:(List aA))=>(⟨[(3,.c (.ptr 0 0)),(5,.c (.ptr 2 0)),(6,.c (.ptr 3 0)),(9,.c (.ptr 11 0)),(45,.d (lC a_.cells)),(46,.d (iZ (List.length a_.cells:Int))),(47,.d (iZ x2))],[(15,[.d (iZ y.kind),.d (iZ y.n),.d (.list 2 (List.map aY y.box))]),(11,[.d (lI l),oC out12]),(3,[oI [],oC []]),(2,[.d (lI b.shape),.d (lC b.cells)]),(1,[.d (lI a_.shape),.d (lC a_.cells)]),(0,[.d (iZ f.op_),.d (.bool f.turned)])],16,[],none⟩:St)) (res:=res) ?_ (λy hy=>?_) (λr x s' hr hx he=>?_)
  ·replace h:=hs
   refine W_ (eH ?_)
   have hv:=Ok.ok h
   exact cB I I hv
  ·subst hy
   obtain out12:=y
   refine en I (N_ (rn 2 I (O_ (cL.normal ?_))))
   have hv:=Ok.ok h
   exact cB I I hv
  subst hr
  refine aK.out hx (lE.out hx (cL.out hx (aK.out hx ?_)))
  cases h
  exact .err hx he
 ·refine cf I hc (X_ (fQ.exit (lE.exit (cL.exit (eh I ?_)))))
  cases h
  exact .ok I
 ) _ _ h⟩
instance {f:cE} {a_:Arr} {b:Arr}:Ok (tG f a_ b) λr=>aval X 132 [.d (rK f),.d (aI a_),.d (aI b)] [] (aE.ret (.tuple [.d (aI r.1),.d (iZ r.2)]) []):=⟨λ{r} h=>by
 unfold tG at h
 refine lK (tm:=[(0,.d (rK f)),(1,.d (aI a_)),(2,.d (aI b))]) (hp:=[]) (n:=0) I Tryz.func132 I I I I I I (ra (nid':=4) I (S_ (S_ (rn 3 I (po (BiO (show V.c (.full 2 [aI a_,aI b])=V.c (.full 2 (List.map aY [a_,b])) from by simp only[List.map_cons,List.map_nil,qH]) (zK I)) I I ?_)))))
 obtain⟨e,hk,h⟩:=B h
 have hv:=Ok.ok hk
 refine po (oA (hv) I I I I I I I I I) I I (on 1 I (rz (ra I ?_)))
 rcases E_ h with ⟨hc,h⟩|⟨hc,h⟩
 ·refine ct I hc (ra I (R_ (C_ (Q_ ?_))))
  cases h
  exact .ret I I
 ·refine cf I hc (K_ (cn I (N_ (S_ (drn (m:=13) 2 I I ?_)))))
  obtain⟨⟨x,b1⟩,hk,h⟩:=B h
  have hv:=Ok.ok hk
  refine pd (Ag2 (nid':=14) (hv) I I I I I I I I I I I I) I I I I I (don 2 I ?_)
  obtain⟨l,hk,h⟩:=B h
  obtain⟨_,hk1,hk⟩:=AvG hk
  refine pda (D.int .i64) hk (AtJ (D.int .i64) hk1 I) I I I I I I I I I I I I I I I I I I I I (don 3 I (dz (by kernel_rfl) (S_ (S_ (rnF 2 (tm0:=[(9,.c (.ptr 11 0)),(33,.vagg [.arr 14 (List.length l) 1,.nilsl 3]),(32,.c (.arr 14 (List.length l) 1)),(31,.d (lI b.shape)),(30,.c (.ptr 2 0)),(29,.c (.arr 13 x 1)),(28,.d (lI a_.shape)),(27,.c (.ptr 1 0)),(3,.c (.ptr 0 0)),(4,.c (.ptr 1 0)),(5,.c (.ptr 2 0)),(6,.c (.ptr 3 0))]) (hp0:=[(11,[.d (lI l),oC []]),(3,[oI [],oC []]),(2,[.d (lI b.shape),.d (lC b.cells)]),(1,[.d (lI a_.shape),.d (lC a_.cells)]),(0,[.d (iZ f.op_),.d (.bool f.turned)])]) (nid0:=15) (AiE I (gC (b0:=11) (off:=0) I (iO (D.int .i64) I (AvH _) I I I)) I) I ?_)))))
  obtain⟨⟨x1,e1⟩,hk,h⟩:=B h
  have hv:=Ok.ok hk
  refine po (oA (hv) I I I I I I I I I) I I (on 5 I (rz (ra I ?_)))
  rcases E_ h with ⟨hc,h⟩|⟨hc,h⟩
  ·refine ct I hc (ra I (R_ (C_ (Q_ ?_))))
   cases h
   exact .ret I I
  ·refine cf I hc (K_ (cn I (N_ (S_ (S_ (rn 2 I (po (nC I I I I I I I) I I (on 1 I (rz ?_)))))))))
   obtain⟨res,hs,h⟩:=B h
   refine uQ Tryz.f132 0 Aa4 (λ(out13:(List aA))=>(⟨[(6,.c (.ptr 3 0)),(9,.c (.ptr 11 0))],[(11,[.d (lI l),oC out13]),(3,[oI [],oC []]),(2,[.d (lI b.shape),.d (lC b.cells)]),(1,[.d (lI a_.shape),.d (lC a_.cells)]),(0,[.d (iZ f.op_),.d (.bool f.turned)])],15,[],none⟩:St)) (res:=res) ?_ (λy hy=>?_) (λr x s' hr hx he=>?_)
   ·replace h:=hs
    refine W_ (eH ?_)
    have hv:=Ok.ok h
    exact cB I I hv
   ·subst hy
    obtain out13:=y
    refine N_ (ra I (R_ ?_))
    cases h
    exact .ret I I
   ·subst hr
    refine lE.out hx ?_
    cases h
    exact he
 ⟩
abbrev AfS (r:LI×Int):aE:=(aE.ret (.tuple [.d (lI r.1),.d (iZ r.2)]) [])
abbrev AcC (a:(List aA)×Int×LI) (res:Except (LI×Int) LI):Prop:=match a with|(l,x,out1)=>cG X 225 (aM [1,1,0,1,0,0] (aQ Tryz.f225)) (aH (X.H 225 3) 1) (aK 0 (X.H 225 1000000) 1 (jY X Tryz.f225 0 AfS (λ(out3:LI)=>(⟨[(4,.c (.arr 0 (Int.toNat (List.length l:Int)) 1))],[(0,[.seq 1 (List.map (D.int .i64) out3)])],1,[],none⟩:St)) res)) ⟨[(4,.c (.arr 0 (Int.toNat (List.length l:Int)) 1)),(10,.d (lC l)),(11,.d (iZ (List.length l:Int))),(12,.d (iZ x))],[(0,[.seq 1 (List.map (D.int .i64) out1)])],1,[],none⟩
instance {a:(List aA)×Int×LI}:Ok (jK a) (AcC a):=⟨λh=>jK.partial_correctness AcC (by
 rintro P_ IH ⟨l,x,out1⟩ res h
 have IH:=Ok.mk' IH
 refine lg I (ra I (S_ ?_))
 rcases E_ h with ⟨hc,h⟩|⟨hc,h⟩
 ·refine ct I hc (K_ (cn I (N_ (S_ (W_ (S_ (rn 1 I ?_)))))))
  obtain⟨y,hk,h⟩:=B h
  refine po (nB aD (λ_=>I) hk I I I I I) I I (on (nid':=2) 4 I (rz (S_ (ra I ?_))))
  rcases E_ h with ⟨hc,h⟩|⟨hc,h⟩
  ·refine ct I hc (ra I (R_ (C_ (Q_ (aK.ret (Q_ (cL.ret (aK.ret ?_))))))))
   cases h
   exact .err I (.ret I I)
  refine cf I hc (K_ (cn I (N_ (rn 4 I ?_))))
  obtain⟨j,hk,h⟩:=B h
  refine po (AcW hk I I I I I) I I ?_
  obtain⟨out2,hk,h⟩:=B h
  refine po (est (D.int .i64) (v:=y.n) hk I I (λ_=>⟨I,I,I⟩) I I I I) I I (O_ (en I (N_ (rn 2 I (O_ (cL.normal ?_))))))
  have hv:=Ok.ok h
  exact cB I I hv
 ·refine cf I hc (X_ (fQ.exit (lE.exit (cL.exit (eh I ?_)))))
  cases h
  exact .ok I
 ) _ _ h⟩
instance {l:(List aA)}:Ok (nM l) λr=>aval X 225 [.d (lC l)] [] (aE.ret (.tuple [.d (lI r.1),.d (iZ r.2)]) []):=⟨λ{r} h=>by
 unfold nM at h
 refine lK (tm:=[(0,.d (lC l))]) (hp:=[]) (n:=0) I Tryz.func225 I I I I I I (ra I (S_ (rn 1 I (po (nC I I I I I I I) I I ?_))))
 obtain⟨out,hk,h⟩:=B h
 refine po (AlM (nid':=1) (D.int .i64) 0 hk I I I I I I I I I I I I ) I I (on (nid':=1) 1 I (rz (S_ (S_ (rn 1 I (po (nC I I I I I I I) I I (on 1 I (rz ?_))))))))
 obtain⟨res,hs,h⟩:=B h
 refine uQ Tryz.f225 0 AfS (λ(out3:LI)=>(⟨[(4,.c (.arr 0 (Int.toNat (List.length l:Int)) 1))],[(0,[.seq 1 (List.map (D.int .i64) out3)])],1,[],none⟩:St)) (res:=res) ?_ (λy hy=>?_) (λr x s' hr hx he=>?_)
 ·replace h:=hs
  refine W_ (eH ?_)
  have hv:=Ok.ok h
  exact cB I I hv
 ·subst hy
  obtain out3:=y
  refine N_ ?_
  obtain⟨out4,hkFout4,h⟩:=B h
  refine S_ (rnF 3 (tm0:=[(4,.d (lI out4)),(4,.c (.arr 0 (Int.toNat (List.length l:Int)) 1))]) (hp0:=[]) (nid0:=1) (AiE I (gT (t:=4) I I I (Au7 (Ag7 (D.int .i64) hkFout4 I)) I I) I) I (rz (R_ ?_)))
  cases h
  exact .ret I I
 ·subst hr
  refine lE.out hx ?_
  cases h
  exact he
 ⟩
abbrev AfW (r:Int×Int):aE:=(aE.ret (.tuple []) [[.d (.int .u64 r.1),.d (.int .u64 r.2)]])
instance {n:Int} {w:eQ}:Ok (pU n w) λr=>aval X 237 [.ptr 0 0,.d (.int .u64 n)] [[.d (.int .u64 w.hi),.d (.int .u64 w.lo)]] (AfW r):=⟨λh=>by
 unfold pU at h
 exact aB AfW I Tryz.func237 I I I I I I λiE=>Wk⟩
abbrev AeW (r:Bool):aE:=(aE.ret (.d (.bool r)) [])
instance {w:eQ} {a_:eQ}:Ok (rF w a_) λr=>aval X 238 [.d (Ac2 w),.d (Ac2 a_)] [] (AeW r):=⟨λh=>by
 unfold rF at h
 exact aB AeW I Tryz.func238 I I I I I I λiE=>Wk⟩
abbrev AbZ (r:Int×Int):aE:=(aE.ret (.tuple [.d (iZ r.1),.d (iZ r.2)]) [])
instance {w:eQ} {below:Bool}:Ok (lH w below) λr=>aval X 240 [.d (Ac2 w),.d (.bool below)] [] (AbZ r):=⟨λh=>by
 unfold lH at h
 exact aB AbZ I Tryz.func240 I I I I I I λiE=>Wk⟩
abbrev AfX (r:Int×Int):aE:=(aE.ret (.tuple []) [[.d (.int .u64 r.1),.d (.int .u64 r.2)]])
instance BcB:Jn 239 1 10 (Int):=⟨λy=>[],λy=>[(0,[(0,.d (.int .u64 y))])]⟩
instance {a_:eQ} {w:eQ}:Ok (pV a_ w) λr=>aval X 239 [.ptr 0 0,.d (Ac2 a_)] [[.d (.int .u64 w.hi),.d (.int .u64 w.lo)]] (AfX r):=⟨λh=>by
 unfold pV at h
 exact aB AfX I Tryz.func239 I I I I I I λiE=>Wk⟩
abbrev AlK (r:Int×Int):aE:=(aE.ret (.tuple [.d (iZ r.1),.d (iZ r.2)]) [])
instance BhV:Jn 226 0 1 (Int×Int×Int×Int):=⟨λy=>[],λy=>[(0,[(0,.d (.int .u64 y.2.2.1)),(1,.d (.int .u64 y.2.2.2))]),(1,[(0,.d (.int .u64 y.1)),(1,.d (.int .u64 y.2.1))])]⟩
abbrev AkV (a:LI×Int×Int×Int×Int×Int) (res:Int×Int×Int×Int):Prop:=match a with|(l,x,below0,below1,above0,above1)=>cG X 226 (aM [1,1,0,1,0,0] (aQ Tryz.f226)) (aH (X.H 226 3) 2) (aK 0 (X.H 226 1000000) 2 (iW (λ((below02,below12,above02,above12):Int×Int×Int×Int)=>(⟨[(4,.c (.ptr 0 0)),(5,.c (.ptr 1 0))],[(1,[.d (.int .u64 below02),.d (.int .u64 below12)]),(0,[.d (.int .u64 above02),.d (.int .u64 above12)])],2,[],none⟩:St)) res)) ⟨[(0,.d (lI l)),(4,.c (.ptr 0 0)),(5,.c (.ptr 1 0)),(10,.d (iZ (List.length l:Int))),(11,.d (iZ x))],[(1,[.d (.int .u64 below0),.d (.int .u64 below1)]),(0,[.d (.int .u64 above0),.d (.int .u64 above1)])],2,[],none⟩
instance {a:LI×Int×Int×Int×Int×Int}:Ok (qO a) (AkV a):=⟨λh=>qO.partial_correctness AkV (by
 rintro P_ IH ⟨l,x,below0,below1,above0,above1⟩ res h
 have IH:=Ok.mk' IH
 have iE:eP Tryz.f226 0 _ AlK:=⟨trivial⟩
 refine lg I ?_
 exact Wk) _ _ h⟩
instance {l:LI}:Ok (yC l) λr=>aval X 226 [.d (lI l)] [] (AlK r):=⟨λh=>by
 unfold yC at h
 exact aB AlK I Tryz.func226 I I I I I I λiE=>Wk⟩
abbrev Aa3 (r:aA×Int):aE:=(aE.ret (.tuple [.d (aD r.1),.d (iZ r.2)]) [])
instance BeN:Jn 195 0 0 (Unit):=⟨λy=>[],λy=>[]⟩
abbrev Af2 (a:cE×(List aA)×Int×Int×Int×(List Arr)) (res:Except (aA×Int) (Int×Int×(List Arr))):Prop:=match a with|(f,l,i,c0,c1,c2)=>cG X 195 (aM [1,1,1,1,1,0,1,0,0] (aQ Tryz.f195)) (aH (X.H 195 21) 3) (aK 1 (X.H 195 1000001) 3 (jY X Tryz.f195 0 Aa3 (λ((c01,c11,c21):Int×Int×(List Arr))=>(⟨[(4,.c (.ptr 1 0)),(11,.c (.ptr 2 0))],[(2,[.d (iZ c01),.d (iZ c11),.d (.list 2 (List.map aY c21))]),(1,[.d (iZ 0),.d (iZ 0),.own 2 (List.map aY [])]),(0,[.d (iZ f.op_),.d (.bool f.turned)])],3,[],none⟩:St)) res)) ⟨[(1,.d (lC l)),(4,.c (.ptr 1 0)),(10,.c (.bfn 197 (rK f))),(11,.c (.ptr 2 0)),(13,.d (iZ i))],[(2,[.d (iZ c0),.d (iZ c1),.d (.list 2 (List.map aY c2))]),(1,[.d (iZ 0),.d (iZ 0),.own 2 (List.map aY [])]),(0,[.d (iZ f.op_),.d (.bool f.turned)])],3,[],none⟩
instance {a:cE×(List aA)×Int×Int×Int×(List Arr)}:Ok (p_fold_F_row_l0 a) (Af2 a):=⟨λh=>p_fold_F_row_l0.partial_correctness Af2 (by
 rintro P_ IH ⟨f,l,i,c0,c1,c2⟩ res h
 have IH:=Ok.mk' IH
 have iE:eP Tryz.f195 0 _ Aa3:=⟨trivial⟩
 refine lg I ?_
 exact Wk) _ _ h⟩
instance {f:cE} {l:(List aA)}:Ok (tF f l) λr=>aval X 195 [.d (rK f),.d (lC l)] [] (Aa3 r):=⟨λh=>by
 unfold tF at h
 exact aB Aa3 I Tryz.func195 I I I I I I λiE=>Wk⟩
abbrev AmV (r:Int):aE:=(aE.ret (.d (iZ r)) [])
instance {a_:Arr} {last:Bool}:Ok (vU a_ last) λr=>aval X 192 [.d (aI a_),.d (.bool last)] [] (AmV r):=⟨λh=>by
 unfold vU at h
 exact aB AmV I Tryz.func192 I I I I I I λiE=>Wk⟩
abbrev AfR (r:(List aA)):aE:=(aE.ret (.d (lC r)) [])
abbrev AgN (a:(List aA)×Int×Int×Int×(List aA)×Int) (res:(List aA)):Prop:=match a with|(l,at_,step,long,out1,x)=>cG X 196 (aM [1,1,0,1,0,0] (aQ Tryz.f196)) (aH (X.H 196 3) 0) (aK 0 (X.H 196 1000000) 0 (iW (λ(out3:(List aA))=>(⟨[(9,.c (.own 3 (List.map aD out3)))],[],0,[],none⟩:St)) res)) ⟨[(0,.d (lC l)),(1,.d (iZ at_)),(2,.d (iZ step)),(9,.c (.own 3 (List.map aD out1))),(13,.d (iZ long)),(14,.d (iZ x))],[],0,[],none⟩
instance {a:(List aA)×Int×Int×Int×(List aA)×Int}:Ok (nK a) (AgN a):=⟨λh=>nK.partial_correctness AgN (by
 rintro P_ IH ⟨l,at_,step,long,out1,x⟩ res h
 have IH:=Ok.mk' IH
 have iE:eP Tryz.f196 0 _ AfR:=⟨trivial⟩
 refine lg I ?_
 exact Wk) _ _ h⟩
instance {l:(List aA)} {at_:Int} {step:Int} {long:Int}:Ok (sN l at_ step long) λr=>aval X 196 [.d (lC l),.d (iZ at_),.d (iZ step),.d (iZ long)] [] (AfR r):=⟨λh=>by
 unfold sN at h
 exact aB AfR I Tryz.func196 I I I I I I λiE=>Wk⟩
abbrev Aa5 (r:Int×Int×Int):aE:=(aE.ret (.tuple [.d (iZ r.1),.d (iZ r.2.1),.d (iZ r.2.2)]) [])
abbrev Af5 (a:LI×Int×LI×Int×Int) (res:Int):Prop:=match a with|(shape,axis,l,outer,x)=>cG X 194 (aM [1,1,0,1,0,0] (aQ Tryz.f194)) (aH (X.H 194 3) 0) (aK 0 (X.H 194 1000000) 0 (iW (λ(outer1:Int)=>(⟨[(0,.d (lI shape)),(1,.d (iZ axis)),(4,.d (iZ outer1)),(5,.d (iZ 1))],[],0,[],none⟩:St)) res)) ⟨[(0,.d (lI shape)),(1,.d (iZ axis)),(4,.d (iZ outer)),(5,.d (iZ 1)),(13,.d (lI l)),(14,.d (iZ (List.length l:Int))),(15,.d (iZ x))],[],0,[],none⟩
instance {a:LI×Int×LI×Int×Int}:Ok (jU a) (Af5 a):=⟨λh=>jU.partial_correctness Af5 (by
 rintro P_ IH ⟨shape,axis,l,outer,x⟩ res h
 have IH:=Ok.mk' IH
 have iE:eP Tryz.f194 0 _ Aa5:=⟨trivial⟩
 refine lg I ?_
 exact Wk) _ _ h⟩
abbrev Af6 (a:LI×Int×Int×LI×Int×Int) (res:Int):Prop:=match a with|(shape,axis,outer1,l1,step,x1)=>cG X 194 (aM [1,1,1,0,1,0,0] (aQ Tryz.f194)) (aH (X.H 194 8) 0) (aK 2 (X.H 194 1000002) 0 (iW (λ(step1:Int)=>(⟨[(0,.d (lI shape)),(1,.d (iZ axis)),(4,.d (iZ outer1)),(5,.d (iZ step1))],[],0,[],none⟩:St)) res)) ⟨[(0,.d (lI shape)),(1,.d (iZ axis)),(4,.d (iZ outer1)),(5,.d (iZ step)),(26,.d (lI l1)),(27,.d (iZ (List.length l1:Int))),(28,.d (iZ x1))],[],0,[],none⟩
instance {a:LI×Int×Int×LI×Int×Int}:Ok (jV a) (Af6 a):=⟨λh=>jV.partial_correctness Af6 (by
 rintro P_ IH ⟨shape,axis,outer1,l1,step,x1⟩ res h
 have IH:=Ok.mk' IH
 have iE:eP Tryz.f194 0 _ Aa5:=⟨trivial⟩
 refine lg I ?_
 exact Wk) _ _ h⟩
instance {shape:LI} {axis:Int}:Ok (tH shape axis) λr=>aval X 194 [.d (lI shape),.d (iZ axis)] [] (Aa5 r):=⟨λh=>by
 unfold tH at h
 exact aB Aa5 I Tryz.func194 I I I I I I λiE=>Wk⟩
abbrev xS (r:Arr×Int):aE:=(aE.ret (.tuple [.d (aI r.1),.d (iZ r.2)]) [])
abbrev AiK (a:cE×Arr×LI×LI×Int×Int×Int×Int×Int×(List aA)) (res:Except (Arr×Int) (List aA)):Prop:=match a with|(f,a_,x2,x3,outer,step,long,x5,x6,out11)=>cG X 129 (aM [1,1,1,1,1,1,1,0,1,0,0,1,1,0,0,1,1,0,0] (aQ Tryz.f129)) (aH (X.H 129 16) 5) (aK 2 (X.H 129 1000002) 5 (jY X Tryz.f129 0 xS (λ(out12:(List aA))=>(⟨[(3,.c (.ptr 0 0)),(4,.c (.ptr 1 0)),(6,.c (.ptr 2 0)),(10,.c (.ptr 4 0)),(14,.d (iZ step)),(15,.d (iZ long)),(63,.d (iZ outer)),(64,.d (iZ x5))],[(4,[.d (lI x2),oC out12]),(2,[oI [],oC []]),(1,[.d (lI a_.shape),.d (lC a_.cells)]),(0,[.d (iZ f.op_),.d (.bool f.turned)]),(3,[.seq 1 (List.map (D.int .i64) x3)])],5,[],none⟩:St)) res)) ⟨[(3,.c (.ptr 0 0)),(4,.c (.ptr 1 0)),(6,.c (.ptr 2 0)),(10,.c (.ptr 4 0)),(14,.d (iZ step)),(15,.d (iZ long)),(16,.d (iZ x5)),(63,.d (iZ outer)),(64,.d (iZ x5)),(67,.d (iZ step)),(68,.d (iZ x6))],[(4,[.d (lI x2),oC out11]),(2,[oI [],oC []]),(1,[.d (lI a_.shape),.d (lC a_.cells)]),(0,[.d (iZ f.op_),.d (.bool f.turned)]),(3,[.seq 1 (List.map (D.int .i64) x3)])],5,[],none⟩
instance {a:cE×Arr×LI×LI×Int×Int×Int×Int×Int×(List aA)}:Ok (pB a) (AiK a):=⟨λh=>pB.partial_correctness AiK (by
 rintro P_ IH ⟨f,a_,x2,x3,outer,step,long,x5,x6,out11⟩ res h
 have IH:=Ok.mk' IH
 have iE:eP Tryz.f129 0 _ xS:=⟨trivial⟩
 refine lg I ?_
 exact Wk) _ _ h⟩
abbrev AiJ (a:cE×Arr×LI×LI×Int×Int×Int×Int×(List aA)) (res:Except (Arr×Int) (List aA)):Prop:=match a with|(f,a_,x2,x3,outer,step,long,x5,out1)=>cG X 129 (aM [1,1,1,1,1,1,1,0,1,0,0] (aQ Tryz.f129)) (aH (X.H 129 13) 5) (aK 0 (X.H 129 1000000) 5 (jY X Tryz.f129 0 xS (λ(out13:(List aA))=>(⟨[(6,.c (.ptr 2 0)),(10,.c (.ptr 4 0))],[(4,[.d (lI x2),oC out13]),(2,[oI [],oC []]),(1,[.d (lI a_.shape),.d (lC a_.cells)]),(0,[.d (iZ f.op_),.d (.bool f.turned)]),(3,[.seq 1 (List.map (D.int .i64) x3)])],5,[],none⟩:St)) res)) ⟨[(3,.c (.ptr 0 0)),(4,.c (.ptr 1 0)),(6,.c (.ptr 2 0)),(10,.c (.ptr 4 0)),(14,.d (iZ step)),(15,.d (iZ long)),(63,.d (iZ outer)),(64,.d (iZ x5))],[(4,[.d (lI x2),oC out1]),(2,[oI [],oC []]),(1,[.d (lI a_.shape),.d (lC a_.cells)]),(0,[.d (iZ f.op_),.d (.bool f.turned)]),(3,[.seq 1 (List.map (D.int .i64) x3)])],5,[],none⟩
instance {a:cE×Arr×LI×LI×Int×Int×Int×Int×(List aA)}:Ok (mV a) (AiJ a):=⟨λh=>mV.partial_correctness AiJ (by
 rintro P_ IH ⟨f,a_,x2,x3,outer,step,long,x5,out1⟩ res h
 have IH:=Ok.mk' IH
 have iE:eP Tryz.f129 0 _ xS:=⟨trivial⟩
 refine lg I ?_
 exact Wk) _ _ h⟩
instance {f:cE} {a_:Arr} {last:Bool}:Ok (yB f a_ last) λr=>aval X 129 [.d (rK f),.d (aI a_),.d (.bool last)] [] (xS r):=⟨λh=>by
 unfold yB at h
 exact aB xS I Tryz.func129 I I I I I I λiE=>Wk⟩
abbrev Af1 (a:Arr×LI×Int×(List aA)) (res:(List aA)):Prop:=match a with|(a_,l,x,c0)=>cG X 1000032 (aM [1,1,0,1,0,0] (aQ Tryz.f32)) (aH (X.H 1000032 3) 5) (aK 0 (X.H 1000032 1000000) 5 (iW (λ(c01:(List aA))=>(⟨[(2,.c (.ptr 1 0)),(3,.c (.ptr 3 0))],[(5,[.seq 3 (List.map aD c01)]),(3,[.arr 2 (List.length l) 1,.arr 5 (List.length c01) 3]),(2,[.seq 1 (List.map (D.int .i64) l)]),(1,[oI [],oC []]),(0,[.d (lI a_.shape),.d (lC a_.cells)])],6,[],none⟩:St)) res)) ⟨[(2,.c (.ptr 1 0)),(3,.c (.ptr 3 0)),(11,.d (lC a_.cells)),(12,.d (iZ (List.length a_.cells:Int))),(13,.d (iZ x))],[(5,[.seq 3 (List.map aD c0)]),(3,[.arr 2 (List.length l) 1,.arr 5 (List.length c0) 3]),(2,[.seq 1 (List.map (D.int .i64) l)]),(1,[oI [],oC []]),(0,[.d (lI a_.shape),.d (lC a_.cells)])],6,[],none⟩
instance {a:Arr×LI×Int×(List aA)}:Ok (p_arr_Copy_V_l0 a) (Af1 a):=⟨λh=>p_arr_Copy_V_l0.partial_correctness Af1 (by
 rintro P_ IH ⟨a_,l,x,c0⟩ res h
 have IH:=Ok.mk' IH
 refine lgX (tm':=[(2,.c (.ptr 1 0)),(3,.c (.ptr 3 0)),(11,.d (lC a_.cells)),(12,.d (iZ (List.length a_.cells:Int))),(13,.d (iZ x))]) (hp':=[(5,[.seq 3 (List.map aD c0)]),(3,[.arr 2 (List.length l) 1,.arr 5 (List.length c0) 3]),(2,[.seq 1 (List.map (D.int .i64) l)]),(1,[oI [],oC []]),(0,[.d (lI a_.shape),.d (lC a_.cells)])]) (nid':=6) I (ra I (S_ ?_))
 rcases E_ h with ⟨hc,h⟩|⟨hc,h⟩
 ·refine ct I hc (K_ (cn I (N_ (S_ (W_ (S_ (rn 0 I ?_)))))))
  obtain⟨y,hk,h⟩:=B h
  refine po (nB aD (λ_=>I) hk I I I I I) I I (on (nid':=7) 3 I (rz (drn (m:=15) 3 I I ?_)))
  obtain⟨x1,hk,h⟩:=B h
  have hv:=Ok.ok hk
  refine pd (oA (hv) I I I I I I I I I) I I I I I (don 1 I ?_)
  obtain⟨l1,hk,h⟩:=B h
  refine pda aD hk (ArI aD I) I I I I I I I I I I I I I I I I I I I I (don 2 I (dz' (by kernel_rfl) (en I (N_ (rn 2 I (O_ (cL.normal ?_)))))))
  have hv:=Ok.ok h
  exact cB I I hv
 ·refine cf I hc (X_ (fQ.exit (lE.exit (cL.exit (ehX (tm':=[(2,.c (.ptr 1 0)),(3,.c (.ptr 3 0))]) (hp':=[(5,[.seq 3 (List.map aD c0)]),(3,[.arr 2 (List.length l) 1,.arr 5 (List.length c0) 3]),(2,[.seq 1 (List.map (D.int .i64) l)]),(1,[oI [],oC []]),(0,[.d (lI a_.shape),.d (lC a_.cells)])]) (nid':=6) I ?_)))))
  cases h
  exact .ok I
 ) _ _ h⟩
instance {a_:Arr}:Ok (wV a_) λr=>Ba4 X 32 [.d (aI a_)] [] (aE.ret (.vagg [.arr 0 r.1 1,.arr 1 r.2.1 3]) [[.seq 1 (List.map (D.int .i64) r.2.2.1)],[.seq 3 (List.map aD r.2.2.2)]]):=⟨λ{r} h=>by
 unfold wV at h
 refine AvN (g:=1000032) (tm:=[(0,.d (aI a_))]) (hp:=[]) (n:=0) I Tryz.func32 I I I I I I (ra (nid':=2) I (S_ (rnM (tm0:=[(2,.c (.ptr 1 0)),(1,.c (.ptr 0 0)),(0,.d (aI a_))]) (hp0:=[(1,[oI [],oC []]),(0,[.d (lI a_.shape),.d (lC a_.cells)])]) (nid0:=2) I I I (mo (.of λ_=>I) I (λ_=>I) (s2:=⟨[(6,.c (.ptr 0 0)),(1,.c (.ptr 0 0)),(2,.c (.ptr 1 0))],[(1,[oI [],oC []]),(0,[.d (lI a_.shape),.d (lC a_.cells)])],2,[],none⟩) I (mo (.of λ_=>I) I (λ_=>I) (s2:=⟨[(7,.d (lI a_.shape)),(6,.c (.ptr 0 0)),(1,.c (.ptr 0 0)),(2,.c (.ptr 1 0))],[(1,[oI [],oC []]),(0,[.d (lI a_.shape),.d (lC a_.cells)])],2,[],none⟩) I ?_)))))
 obtain⟨l,hk,h⟩:=B h
 refine ms (Bf5 (D.int .i64) hk I I I I I I (BbJ (D.int .i64)) I I I I I I I I I ) I (s2:=⟨[(8,.c (.arr 2 (List.length l) 1)),(7,.d (lI a_.shape)),(6,.c (.ptr 0 0)),(1,.c (.ptr 0 0)),(2,.c (.ptr 1 0))],[(2,[.seq 1 (List.map (D.int .i64) l)]),(1,[oI [],oC []]),(0,[.d (lI a_.shape),.d (lC a_.cells)])],3,[],none⟩) I (mo (.of λ_=>I) I (λ_=>I) (s2:=⟨[(9,.vagg [.arr 2 (List.length l) 1,.nilsl 3]),(8,.c (.arr 2 (List.length l) 1)),(7,.d (lI a_.shape)),(6,.c (.ptr 0 0)),(1,.c (.ptr 0 0)),(2,.c (.ptr 1 0))],[(2,[.seq 1 (List.map (D.int .i64) l)]),(1,[oI [],oC []]),(0,[.d (lI a_.shape),.d (lC a_.cells)])],3,[],none⟩) I (mo (.of λ_=>I) I (λ_=>I) (s2:=⟨[(3,.c (.ptr 3 0)),(9,.vagg [.arr 2 (List.length l) 1,.nilsl 3]),(8,.c (.arr 2 (List.length l) 1)),(7,.d (lI a_.shape)),(6,.c (.ptr 0 0)),(1,.c (.ptr 0 0)),(2,.c (.ptr 1 0))],[(3,[oI [],oC []]),(2,[.seq 1 (List.map (D.int .i64) l)]),(1,[oI [],oC []]),(0,[.d (lI a_.shape),.d (lC a_.cells)])],4,[],none⟩) I (ms I I (s2:=⟨[(3,.c (.ptr 3 0)),(9,.vagg [.arr 2 (List.length l) 1,.nilsl 3]),(8,.c (.arr 2 (List.length l) 1)),(7,.d (lI a_.shape)),(6,.c (.ptr 0 0)),(1,.c (.ptr 0 0)),(2,.c (.ptr 1 0))],[(3,[.arr 2 (List.length l) 1,.nilsl 3]),(2,[.seq 1 (List.map (D.int .i64) l)]),(1,[oI [],oC []]),(0,[.d (lI a_.shape),.d (lC a_.cells)])],4,[],none⟩) I (mz (N_ (S_ (S_ (rnF 2 (tm0:=[(3,.c (.ptr 3 0)),(9,.vagg [.arr 2 (List.length l) 1,.nilsl 3]),(8,.c (.arr 2 (List.length l) 1)),(7,.d (lI a_.shape)),(6,.c (.ptr 0 0)),(1,.c (.ptr 0 0)),(2,.c (.ptr 1 0))]) (hp0:=[(4,[.seq 3 (List.map aD ([]:List aA))]),(3,[.arr 2 (List.length l) 1,.arr 4 0 3]),(2,[.seq 1 (List.map (D.int .i64) l)]),(1,[oI [],oC []]),(0,[.d (lI a_.shape),.d (lC a_.cells)])]) (nid0:=5) (AiE I (I) I) I (po (nC I I I I I I I) I I (on 1 I (rz ?_)))))))))))
 obtain⟨c01,hs,h⟩:=B h
 refine hU (λ(c01:(List aA))=>(⟨[(2,.c (.ptr 1 0)),(3,.c (.ptr 3 0))],[(5,[.seq 3 (List.map aD c01)]),(3,[.arr 2 (List.length l) 1,.arr 5 (List.length c01) 3]),(2,[.seq 1 (List.map (D.int .i64) l)]),(1,[oI [],oC []]),(0,[.d (lI a_.shape),.d (lC a_.cells)])],6,[],none⟩:St)) (y:=c01) ?_ ?_
 ·replace h:=hs
  refine W_ (eH ?_)
  have hv:=Ok.ok h
  exact cB I I hv
 ·refine N_ (ra I (R_ ?_))
  cases h
  exact BkF I I
 ⟩
abbrev vJ (r:Arr×Int):aE:=(aE.ret (.tuple [.d (aI r.1),.d (iZ r.2)]) [])
abbrev AgM (a:cE×Arr×Nat×Nat×LI×Int×Int×Int×Int×Int×(List aA)×Int×(List aA)) (res:Except (Arr×Int) (List aA)):Prop:=match a with|(f,a_,n,n1,b,outer,step,long,x1,x2,l,n2,c02)=>cG X 131 (aM [1,1,1,1,1,0,1,0,0,1,1,0,0,1,1,0,0,1,1,0,0,1,1,1,1,0,0] (aQ Tryz.f131)) (aH (X.H 131 17) 19) (aK 4 (X.H 131 1000004) 19 (jY X Tryz.f131 0 vJ (λ(c03:(List aA))=>(⟨[(3,.c (.ptr 0 0)),(4,.c (.ptr 1 0)),(6,.c (.ptr 2 0)),(9,.c (.ptr 5 0)),(11,.d (iZ step)),(12,.d (iZ long)),(13,.d (iZ x1)),(45,.d (iZ outer)),(46,.d (iZ x1)),(49,.d (iZ step)),(50,.d (iZ x2))],[(5,[.arr 3 n 1,.arr 4 n1 3]),(2,[oI [],oC []]),(1,[.d (lI a_.shape),.d (lC a_.cells)]),(0,[.d (iZ f.op_),.d (.bool f.turned)]),(3,[.seq 1 (List.map (D.int .i64) b)]),(4,[.seq 3 (List.map aD c03)])],19,[],none⟩:St)) res)) ⟨[(3,.c (.ptr 0 0)),(4,.c (.ptr 1 0)),(6,.c (.ptr 2 0)),(9,.c (.ptr 5 0)),(11,.d (iZ step)),(12,.d (iZ long)),(13,.d (iZ x1)),(15,.d (iZ (w64 ((w64 ((w64 (x1*step))*long))+x2)))),(16,.d (lC l)),(17,.d (iZ n2)),(45,.d (iZ outer)),(46,.d (iZ x1)),(49,.d (iZ step)),(50,.d (iZ x2))],[(5,[.arr 3 n 1,.arr 4 n1 3]),(2,[oI [],oC []]),(1,[.d (lI a_.shape),.d (lC a_.cells)]),(0,[.d (iZ f.op_),.d (.bool f.turned)]),(3,[.seq 1 (List.map (D.int .i64) b)]),(4,[.seq 3 (List.map aD c02)])],19,[],none⟩
instance {a:cE×Arr×Nat×Nat×LI×Int×Int×Int×Int×Int×(List aA)×Int×(List aA)}:Ok (nJ a) (AgM a):=⟨λh=>nJ.partial_correctness AgM (by
 rintro P_ IH ⟨f,a_,n,n1,b,outer,step,long,x1,x2,l,n2,c02⟩ res h
 have IH:=Ok.mk' IH
 refine lg I (S_ (S_ (rn 2 I (po (nC I I I I I I I) I I (on 1 I (rz ?_))))))
 rcases E_ h with ⟨hc,h⟩|⟨hc,h⟩
 ·refine ct I hc (K_ (cn I (N_ (S_ (W_ (S_ (drn (m:=31) 4 I I ?_)))))))
  obtain⟨l1,hk,h⟩:=B h
  refine pd (Bg9 hk I I I I I I) I I I I I ?_
  obtain⟨⟨x3,e1⟩,hk,h⟩:=B h
  have hv:=Ok.ok hk
  refine pd (oA (hv) I I I I I I I I I) I I I I I (don 6 I (dz (by kernel_rfl) (S_ (ra I ?_))))
  rcases E_ h with ⟨hc,h⟩|⟨hc,h⟩
  ·refine ct I hc (ra I (R_ (C_ (Q_ (aK.ret (Q_ (cL.ret (aK.ret ?_))))))))
   cases h
   exact .err I (.ret I I)
  refine cf I hc (K_ (cn I (N_ (rn 8 I ?_))))
  obtain⟨j,hk,h⟩:=B h
  refine po (AcW hk I I I I I) I I ?_
  obtain⟨c,hk,h⟩:=B h
  refine po (est aD (v:=x3) hk I I (λ_=>⟨I,I,I⟩) I I I I) I I (O_ (en I (N_ (rn 3 I (O_ (cL.normal ?_))))))
  have hv:=Ok.ok h
  exact cB I I hv
 ·refine cf I hc (X_ (fQ.exit (lE.exit (cL.exit (eh I ?_)))))
  cases h
  exact .ok I
 ) _ _ h⟩
abbrev AgL (a:cE×Arr×Nat×Nat×LI×Int×Int×Int×Int×Int×(List aA)) (res:Except (Arr×Int) (List aA)):Prop:=match a with|(f,a_,n,n1,b,outer,step,long,x1,x2,c01)=>cG X 131 (aM [1,1,1,1,1,0,1,0,0,1,1,0,0,1,1,0,0] (aQ Tryz.f131)) (aH (X.H 131 12) 19) (aK 2 (X.H 131 1000002) 19 (jY X Tryz.f131 0 vJ (λ(c04:(List aA))=>(⟨[(3,.c (.ptr 0 0)),(4,.c (.ptr 1 0)),(6,.c (.ptr 2 0)),(9,.c (.ptr 5 0)),(11,.d (iZ step)),(12,.d (iZ long)),(45,.d (iZ outer)),(46,.d (iZ x1))],[(5,[.arr 3 n 1,.arr 4 n1 3]),(2,[oI [],oC []]),(1,[.d (lI a_.shape),.d (lC a_.cells)]),(0,[.d (iZ f.op_),.d (.bool f.turned)]),(3,[.seq 1 (List.map (D.int .i64) b)]),(4,[.seq 3 (List.map aD c04)])],19,[],none⟩:St)) res)) ⟨[(3,.c (.ptr 0 0)),(4,.c (.ptr 1 0)),(6,.c (.ptr 2 0)),(9,.c (.ptr 5 0)),(11,.d (iZ step)),(12,.d (iZ long)),(13,.d (iZ x1)),(45,.d (iZ outer)),(46,.d (iZ x1)),(49,.d (iZ step)),(50,.d (iZ x2))],[(5,[.arr 3 n 1,.arr 4 n1 3]),(2,[oI [],oC []]),(1,[.d (lI a_.shape),.d (lC a_.cells)]),(0,[.d (iZ f.op_),.d (.bool f.turned)]),(3,[.seq 1 (List.map (D.int .i64) b)]),(4,[.seq 3 (List.map aD c01)])],19,[],none⟩
instance {a:cE×Arr×Nat×Nat×LI×Int×Int×Int×Int×Int×(List aA)}:Ok (kV a) (AgL a):=⟨λh=>kV.partial_correctness AgL (by
 rintro P_ IH ⟨f,a_,n,n1,b,outer,step,long,x1,x2,c01⟩ res h
 have IH:=Ok.mk' IH
 refine lg I (ra I (S_ ?_))
 rcases E_ h with ⟨hc,h⟩|⟨hc,h⟩
 ·refine ct I hc (K_ (cn I (N_ (S_ (W_ (ra I (ra I (S_ (rn 5 I ?_)))))))))
  obtain⟨l,hk,h⟩:=B h
  have hv:=Ok.ok hk
  refine po (oA (hv) I I I I I I I I I) I I (on 1 I (rz (ra I ?_)))
  obtain⟨res,hs,h⟩:=B h
  refine uQ Tryz.f131 0 vJ (λ(c03:(List aA))=>(⟨[(3,.c (.ptr 0 0)),(4,.c (.ptr 1 0)),(6,.c (.ptr 2 0)),(9,.c (.ptr 5 0)),(11,.d (iZ step)),(12,.d (iZ long)),(13,.d (iZ x1)),(45,.d (iZ outer)),(46,.d (iZ x1)),(49,.d (iZ step)),(50,.d (iZ x2))],[(5,[.arr 3 n 1,.arr 4 n1 3]),(2,[oI [],oC []]),(1,[.d (lI a_.shape),.d (lC a_.cells)]),(0,[.d (iZ f.op_),.d (.bool f.turned)]),(3,[.seq 1 (List.map (D.int .i64) b)]),(4,[.seq 3 (List.map aD c03)])],19,[],none⟩:St)) (res:=res) ?_ (λy hy=>?_) (λr x s' hr hx he=>?_)
  ·replace h:=hs
   refine W_ (eH ?_)
   have hv:=Ok.ok h
   exact cB I I hv
  ·subst hy
   obtain c03:=y
   refine en I (N_ (rn 2 I (O_ (cL.normal ?_))))
   have hv:=Ok.ok h
   exact cB I I hv
  subst hr
  refine aK.out hx (lE.out hx (cL.out hx (aK.out hx ?_)))
  cases h
  exact .err hx he
 ·refine cf I hc (X_ (fQ.exit (lE.exit (cL.exit (eh I ?_)))))
  cases h
  exact .ok I
 ) _ _ h⟩
abbrev AgK (a:cE×Arr×Nat×Nat×LI×Int×Int×Int×Int×(List aA)) (res:Except (Arr×Int) (List aA)):Prop:=match a with|(f,a_,n,n1,b,outer,step,long,x1,c0)=>cG X 131 (aM [1,1,1,1,1,0,1,0,0] (aQ Tryz.f131)) (aH (X.H 131 9) 19) (aK 0 (X.H 131 1000000) 19 (jY X Tryz.f131 0 vJ (λ(c05:(List aA))=>(⟨[(6,.c (.ptr 2 0)),(9,.c (.ptr 5 0))],[(5,[.arr 3 n 1,.arr 4 n1 3]),(2,[oI [],oC []]),(1,[.d (lI a_.shape),.d (lC a_.cells)]),(0,[.d (iZ f.op_),.d (.bool f.turned)]),(3,[.seq 1 (List.map (D.int .i64) b)]),(4,[.seq 3 (List.map aD c05)])],19,[],none⟩:St)) res)) ⟨[(3,.c (.ptr 0 0)),(4,.c (.ptr 1 0)),(6,.c (.ptr 2 0)),(9,.c (.ptr 5 0)),(11,.d (iZ step)),(12,.d (iZ long)),(45,.d (iZ outer)),(46,.d (iZ x1))],[(5,[.arr 3 n 1,.arr 4 n1 3]),(2,[oI [],oC []]),(1,[.d (lI a_.shape),.d (lC a_.cells)]),(0,[.d (iZ f.op_),.d (.bool f.turned)]),(3,[.seq 1 (List.map (D.int .i64) b)]),(4,[.seq 3 (List.map aD c0)])],19,[],none⟩
instance {a:cE×Arr×Nat×Nat×LI×Int×Int×Int×Int×(List aA)}:Ok (kU a) (AgK a):=⟨λh=>kU.partial_correctness AgK (by
 rintro P_ IH ⟨f,a_,n,n1,b,outer,step,long,x1,c0⟩ res h
 have IH:=Ok.mk' IH
 refine lg I (ra I (S_ ?_))
 rcases E_ h with ⟨hc,h⟩|⟨hc,h⟩
 ·refine ct I hc (K_ (cn I (N_ (S_ (W_ (ra I (ra I ?_)))))))
  obtain⟨res,hs,h⟩:=B h
  refine uQ Tryz.f131 0 vJ (λ(c04:(List aA))=>(⟨[(3,.c (.ptr 0 0)),(4,.c (.ptr 1 0)),(6,.c (.ptr 2 0)),(9,.c (.ptr 5 0)),(11,.d (iZ step)),(12,.d (iZ long)),(45,.d (iZ outer)),(46,.d (iZ x1))],[(5,[.arr 3 n 1,.arr 4 n1 3]),(2,[oI [],oC []]),(1,[.d (lI a_.shape),.d (lC a_.cells)]),(0,[.d (iZ f.op_),.d (.bool f.turned)]),(3,[.seq 1 (List.map (D.int .i64) b)]),(4,[.seq 3 (List.map aD c04)])],19,[],none⟩:St)) (res:=res) ?_ (λy hy=>?_) (λr x s' hr hx he=>?_)
  ·replace h:=hs
   refine W_ (eH ?_)
   have hv:=Ok.ok h
   exact cB I I hv
  ·subst hy
   obtain c04:=y
   refine en I (N_ (rn 2 I (O_ (cL.normal ?_))))
   have hv:=Ok.ok h
   exact cB I I hv
  subst hr
  refine aK.out hx (lE.out hx (cL.out hx (aK.out hx ?_)))
  cases h
  exact .err hx he
 ·refine cf I hc (X_ (fQ.exit (lE.exit (cL.exit (eh I ?_)))))
  cases h
  exact .ok I
 ) _ _ h⟩
instance {f:cE} {a_:Arr} {last:Bool}:Ok (vT f a_ last) λr=>aval X 131 [.d (rK f),.d (aI a_),.d (.bool last)] [] (aE.ret (.tuple [.d (aI r.1),.d (iZ r.2)]) []):=⟨λ{r} h=>by
 unfold vT at h
 refine lK (tm:=[(0,.d (rK f)),(1,.d (aI a_)),(2,.d (.bool last))]) (hp:=[]) (n:=0) I Tryz.func131 I I I I I I (ra (nid':=3) I (S_ (S_ (rn 2 I (po (BiO (show V.c (.full 2 [aI a_])=V.c (.full 2 (List.map aY [a_])) from by simp only[List.map_cons,List.map_nil,qH]) (zK I)) I I ?_)))))
 obtain⟨e,hk,h⟩:=B h
 have hv:=Ok.ok hk
 refine po (oA (hv) I I I I I I I I I) I I (on 1 I (rz (ra I ?_)))
 rcases E_ h with ⟨hc,h⟩|⟨hc,h⟩
 ·refine ct I hc (ra I (R_ (C_ (Q_ ?_))))
  cases h
  exact .ret I I
 ·refine cf I hc (K_ (cn I (N_ (S_ (rnM (tm0:=[(25,.d (.bool (e != 0))),(24,.d (iZ e)),(2,.d (.bool last)),(3,.c (.ptr 0 0)),(4,.c (.ptr 1 0)),(6,.c (.ptr 2 0)),(8,.d (iZ e))]) (hp0:=[(2,[oI [],oC []]),(1,[.d (lI a_.shape),.d (lC a_.cells)]),(0,[.d (iZ f.op_),.d (.bool f.turned)])]) (nid0:=3) I I I (mo (.of λ_=>I) I (λ_=>I) (s2:=⟨[(28,.d (aI a_)),(2,.d (.bool last)),(3,.c (.ptr 0 0)),(4,.c (.ptr 1 0)),(6,.c (.ptr 2 0))],[(2,[oI [],oC []]),(1,[.d (lI a_.shape),.d (lC a_.cells)]),(0,[.d (iZ f.op_),.d (.bool f.turned)])],3,[],none⟩) I ?_))))))
  obtain⟨⟨n,n1,b,b1⟩,hk,h⟩:=B h
  have hv:=Ok.ok hk
  refine mv (nid':=5) (hv) I I I I I I I I I I I  (s2:=⟨[(29,.vagg [.arr 3 n 1,.arr 4 n1 3]),(28,.d (aI a_)),(2,.d (.bool last)),(3,.c (.ptr 0 0)),(4,.c (.ptr 1 0)),(6,.c (.ptr 2 0))],[(2,[oI [],oC []]),(1,[.d (lI a_.shape),.d (lC a_.cells)]),(0,[.d (iZ f.op_),.d (.bool f.turned)]),(3,[.seq 1 (List.map (D.int .i64) b)]),(4,[.seq 3 (List.map aD b1)])],5,[],none⟩) I (mo (.of λ_=>I) I (λ_=>I) (s2:=⟨[(9,.c (.ptr 5 0)),(29,.vagg [.arr 3 n 1,.arr 4 n1 3]),(28,.d (aI a_)),(2,.d (.bool last)),(3,.c (.ptr 0 0)),(4,.c (.ptr 1 0)),(6,.c (.ptr 2 0))],[(5,[oI [],oC []]),(2,[oI [],oC []]),(1,[.d (lI a_.shape),.d (lC a_.cells)]),(0,[.d (iZ f.op_),.d (.bool f.turned)]),(3,[.seq 1 (List.map (D.int .i64) b)]),(4,[.seq 3 (List.map aD b1)])],6,[],none⟩) I (mo (.of λ_=>I) I (λ_=>I) (s2:=⟨[(9,.c (.ptr 5 0)),(29,.vagg [.arr 3 n 1,.arr 4 n1 3]),(28,.d (aI a_)),(2,.d (.bool last)),(3,.c (.ptr 0 0)),(4,.c (.ptr 1 0)),(6,.c (.ptr 2 0))],[(5,[.arr 3 n 1,.arr 4 n1 3]),(2,[oI [],oC []]),(1,[.d (lI a_.shape),.d (lC a_.cells)]),(0,[.d (iZ f.op_),.d (.bool f.turned)]),(3,[.seq 1 (List.map (D.int .i64) b)]),(4,[.seq 3 (List.map aD b1)])],6,[],none⟩) I (mz (N_ (S_ (S_ (rn 2 I (po (nC I I I I I I I) I I (on 1 I (rz ?_))))))))))
  rcases E_ h with ⟨hc,h⟩|⟨hc,h⟩
  ·refine ct I hc (ra I (R_ (C_ (Q_ ?_))))
   obtain⟨cells,hkFcells,h⟩:=B h
   obtain⟨shape,hkFshape,h⟩:=B h
   cases h
   exact .retF I I (Ac1 I I I (mC (iO aD I hkFcells I I I) (mC (iO (D.int .i64) I hkFshape I I I) Ac3)) (AoX Ag3)) I
  ·refine cf I hc (K_ (cn I (N_ (S_ (drn (m:=19) 4 I I ?_)))))
   obtain⟨x,hk,h⟩:=B h
   have hv:=Ok.ok hk
   refine pd (oA (hv) I I I I I I I I I) I I I I I ?_
   obtain⟨⟨outer,step,long⟩,hk,h⟩:=B h
   have hv:=Ok.ok hk
   refine pd (oA (hv) I I I I I I I I I) I I I I I (don 7 I (dz (by kernel_rfl) (S_ (ra I ?_))))
   obtain⟨res,hs,h⟩:=B h
   refine uQ Tryz.f131 0 vJ (λ(c05:(List aA))=>(⟨[(6,.c (.ptr 2 0)),(9,.c (.ptr 5 0))],[(5,[.arr 3 n 1,.arr 4 n1 3]),(2,[oI [],oC []]),(1,[.d (lI a_.shape),.d (lC a_.cells)]),(0,[.d (iZ f.op_),.d (.bool f.turned)]),(3,[.seq 1 (List.map (D.int .i64) b)]),(4,[.seq 3 (List.map aD c05)])],19,[],none⟩:St)) (res:=res) ?_ (λy hy=>?_) (λr x s' hr hx he=>?_)
   ·replace h:=hs
    refine W_ (eH ?_)
    have hv:=Ok.ok h
    exact cB I I hv
   ·subst hy
    obtain c05:=y
    refine N_ (ra I (R_ ?_))
    obtain⟨cells1,hkFcells1,h⟩:=B h
    obtain⟨shape1,hkFshape1,h⟩:=B h
    cases h
    exact .retF I I (Ac1 I I I (mC (iO aD I hkFcells1 I I I) (mC (iO (D.int .i64) I hkFshape1 I I I) Ac3)) (AoX Ag3)) I
   ·subst hr
    refine lE.out hx ?_
    cases h
    exact he
 ⟩
abbrev wF (c:aG) (r:Bool×Int×Int):aE:=(aE.ret (.d (.bool r.1)) [[.d (iZ r.2.1),.d (iZ r.2.2),.d (iZ c.cells)]])
instance {n:Int} {c:aG}:Ok (mN n c) λr=>aval X 127 [.ptr 0 0,.d (iZ n)] [[.d (iZ c.fuel.left),.d (iZ c.fuel.used),.d (iZ c.cells)]] ((wF c) r):=⟨λh=>by
 unfold mN at h
 exact aB (wF c) I Tryz.func127 I I I I I I λiE=>Wk⟩
abbrev Ab0 (m:aG) (r:Int×Int×Int):aE:=(aE.ret (.d (iZ r.1)) [[.d (iZ r.2.1),.d (iZ r.2.2),.d (iZ m.cells)]])
instance {m:aG}:Ok (eY m) λr=>aval X 55 [.ptr 0 0] [[.d (iZ m.fuel.left),.d (iZ m.fuel.used),.d (iZ m.cells)]] ((Ab0 m) r):=⟨λh=>by
 unfold eY at h
 exact aB (Ab0 m) I Tryz.func55 I I I I I I λiE=>Wk⟩
abbrev ArX (r:Int×Int):aE:=(aE.ret (.tuple [.d (iZ r.1),.d (iZ r.2)]) [])
instance {a_:Int}:Ok (AaH a_) λr=>aval X 145 [.d (iZ a_)] [] (ArX r):=⟨λh=>by
 unfold AaH at h
 exact aB ArX I Tryz.func145 I I I I I I λiE=>Wk⟩
abbrev ArU (r:Int×Int):aE:=(aE.ret (.tuple [.d (iZ r.1),.d (iZ r.2)]) [])
instance {a_:Int}:Ok (AhO a_) λr=>aval X 147 [.d (iZ a_)] [] (ArU r):=⟨λh=>by
 unfold AhO at h
 exact aB ArU I Tryz.func147 I I I I I I λiE=>Wk⟩
abbrev ArZ (r:Int):aE:=(aE.ret (.d (iZ r)) [])
instance {a_:Int}:Ok (AhP a_) λr=>aval X 146 [.d (iZ a_)] [] (ArZ r):=⟨λh=>by
 unfold AhP at h
 exact aB ArZ I Tryz.func146 I I I I I I λiE=>Wk⟩
abbrev Ak7 (r:Int×Int):aE:=(aE.ret (.tuple [.d (iZ r.1),.d (iZ r.2)]) [])
instance {op_:Int} {n:Int}:Ok (wX op_ n) λr=>aval X 72 [.d (iZ op_),.d (iZ n)] [] (Ak7 r):=⟨λh=>by
 unfold wX at h
 exact aB Ak7 I Tryz.func72 I I I I I I λiE=>Wk⟩
abbrev AbV (r:Arr×Int):aE:=(aE.ret (.tuple [.d (aI r.1),.d (iZ r.2)]) [])
instance BfS:Jn 38 1 20 (Bool):=⟨λy=>[(20,.d (.bool y))],λy=>[]⟩
abbrev AgI (a:Int×Arr×LI×Int×(List aA)) (res:Except (Arr×Int) (List aA)):Prop:=match a with|(op_,a_,l,x1,out1)=>cG X 38 (aM [1,1,1,1,0,1,0,0] (aQ Tryz.f38)) (aH (X.H 38 14) 3) (aK 1 (X.H 38 1000001) 3 (jY X Tryz.f38 0 AbV (λ(out11:(List aA))=>(⟨[(4,.c (.ptr 1 0)),(7,.c (.ptr 2 0))],[(2,[.d (lI l),oC out11]),(1,[oI [],oC []]),(0,[.d (lI a_.shape),.d (lC a_.cells)])],3,[],none⟩:St)) res)) ⟨[(0,.d (iZ op_)),(4,.c (.ptr 1 0)),(7,.c (.ptr 2 0)),(33,.d (lC a_.cells)),(34,.d (iZ (List.length a_.cells:Int))),(35,.d (iZ x1))],[(2,[.d (lI l),oC out1]),(1,[oI [],oC []]),(0,[.d (lI a_.shape),.d (lC a_.cells)])],3,[],none⟩
instance {a:Int×Arr×LI×Int×(List aA)}:Ok (nG a) (AgI a):=⟨λh=>nG.partial_correctness AgI (by
 rintro P_ IH ⟨op_,a_,l,x1,out1⟩ res h
 have IH:=Ok.mk' IH
 have iE:eP Tryz.f38 0 _ AbV:=⟨trivial⟩
 refine lg I ?_
 exact Wk) _ _ h⟩
instance {op_:Int} {a_:Arr}:Ok (sM op_ a_) λr=>aval X 38 [.d (iZ op_),.d (aI a_)] [] (AbV r):=⟨λh=>by
 unfold sM at h
 exact aB AbV I Tryz.func38 I I I I I I λiE=>Wk⟩
abbrev AoS (r:Arr):aE:=(aE.ret (.d (aI r)) [])
instance {n:Int}:Ok (AeP n) λr=>aval X 77 [.d (iZ n)] [] (AoS r):=⟨λh=>by
 unfold AeP at h
 exact aB AoS I Tryz.func77 I I I I I I λiE=>Wk⟩
abbrev Aj1 (r:Int):aE:=(aE.ret (.d (iZ r)) [])
instance BgO:Jn 81 0 1 (Int):=⟨λy=>[(3,.d (iZ y))],λy=>[]⟩
abbrev Ad1 (a:Arr×Int×Int) (res:Int):Prop:=match a with|(a_,n,x)=>cG X 81 (aM [1,1,0,1,0,0] (aQ Tryz.f81)) (aH (X.H 81 3) 1) (aK 0 (X.H 81 1000000) 1 (iW (λ(n2:Int)=>(⟨[(3,.d (iZ n2))],[(0,[.d (lI a_.shape),.d (lC a_.cells)])],1,[],none⟩:St)) res)) ⟨[(3,.d (iZ n)),(7,.d (lC a_.cells)),(8,.d (iZ (List.length a_.cells:Int))),(9,.d (iZ x))],[(0,[.d (lI a_.shape),.d (lC a_.cells)])],1,[],none⟩
abbrev AjC (a:Arr) (res:Int):Prop:=match a with|a_=>aval X 81 [.d (aI a_)] [] (Aj1 res)
theorem AcJ:(∀a res,kL a=some res->Ad1 a res)/\(∀a res,vD a=some res->AjC a res):=by
 refine kL.mutual_partial_correctness (motive_1:=Ad1) (motive_2:=AjC) ?_ ?_
 ·rintro P0 P1 I0 I1 ⟨a_,n,x⟩ res h
  have I0:=Ok.mk' I0
  have I1:=Ok.mk' I1
  refine lg I ?_
  have iE:eP Tryz.f81 0 _ Aj1:=⟨trivial⟩
  exact Wk
 rintro P0 I0 a_ res h
 have I0:=Ok.mk' I0
 exact aB Aj1 I Tryz.func81 I I I I I I λiE=>Wk
instance {a:Arr×Int×Int}:Ok (kL a) (Ad1 a):=⟨λh=>AcJ.1 a _ h⟩
instance {a:Arr}:Ok (vD a) (AjC a):=⟨λh=>AcJ.2 a _ h⟩
abbrev AfU (r:Arr×Int):aE:=(aE.ret (.tuple [.d (aI r.1),.d (iZ r.2)]) [])
instance {a_:Arr}:Ok (sO a_) λr=>aval X 83 [.d (aI a_)] [] (AfU r):=⟨λh=>by
 unfold sO at h
 exact aB AfU I Tryz.func83 I I I I I I λiE=>Wk⟩
abbrev zX (a:Arr×Nat×LI×Int×LI×(List aA)×Int×Int) (res:Int):Prop:=match a with|(a_,x,x1,x2,at_1,out1,n,x3)=>cG X 80 (aM [1,0,1,1,1,1,0,1,0,0,1,1,0,0,1,0,1,0,0] (aQ Tryz.f80)) (aH (X.H 80 8) 5) (aK 2 (X.H 80 1000002) 5 (iW (λ(n1:Int)=>(⟨[(1,.c (.ptr 0 0)),(2,.c (.ptr 1 0)),(3,.c (.ptr 3 0)),(4,.c (.arr 4 (Int.toNat (x:Int)) 1)),(5,.d (iZ n1)),(21,.d (iZ (List.length a_.cells:Int))),(22,.d (iZ x2))],[(4,[.seq 1 (List.map (D.int .i64) at_1)]),(3,[.arr 2 x 1,oC out1]),(1,[oI [],oC []]),(0,[.d (lI a_.shape),.d (lC a_.cells)]),(2,[.seq 1 (List.map (D.int .i64) x1)])],5,[],none⟩:St)) res)) ⟨[(1,.c (.ptr 0 0)),(2,.c (.ptr 1 0)),(3,.c (.ptr 3 0)),(4,.c (.arr 4 (Int.toNat (x:Int)) 1)),(5,.d (iZ n)),(21,.d (iZ (List.length a_.cells:Int))),(22,.d (iZ x2)),(25,.d (iZ ((Int.toNat (x:Int)):Int))),(26,.d (iZ x3))],[(4,[.seq 1 (List.map (D.int .i64) at_1)]),(3,[.arr 2 x 1,oC out1]),(1,[oI [],oC []]),(0,[.d (lI a_.shape),.d (lC a_.cells)]),(2,[.seq 1 (List.map (D.int .i64) x1)])],5,[],none⟩
instance {a:Arr×Nat×LI×Int×LI×(List aA)×Int×Int}:Ok (gL a) (zX a):=⟨λh=>gL.partial_correctness zX (by
 rintro P_ IH ⟨a_,x,x1,x2,at_1,out1,n,x3⟩ res h
 have IH:=Ok.mk' IH
 refine lg I (ra I (S_ ?_))
 rcases E_ h with ⟨hc,h⟩|⟨hc,h⟩
 ·refine ct I hc (K_ (cn I (N_ (S_ (W_ (ra I (drn (m:=22) 4 I I ?_)))))))
  obtain⟨y,hk,h⟩:=B h
  refine pd (nB (D.int .i64) (λ_=>I) hk I I I I I) I I I I I (don 8 I ?_)
  obtain⟨j,hk,h⟩:=B h
  refine pd (AcW hk I I I I I) I I I I I ?_
  obtain⟨y1,hk,h⟩:=B h
  refine pd (AqY (D.int .i64) hk I I (λ_=>⟨I,I,I⟩) I I) I I I I I (don 2 I (dz' (by kernel_rfl) (en I (N_ (rn 2 I (O_ (cL.normal ?_)))))))
  have hv:=Ok.ok h
  exact cB I I hv
 ·refine cf I hc (X_ (fQ.exit (lE.exit (cL.exit (eh I ?_)))))
  cases h
  exact .ok I
 ) _ _ h⟩
abbrev zY (a:Arr×Nat×LI×Int×(List aA)×Int×LI) (res:Except LI LI):Prop:=match a with|(a_,x,x1,x2,l,i,at_2)=>cG X 80 (aM [1,0,1,1,1,1,0,1,0,0,1,1,0,0,1,1,1,1,0,0] (aQ Tryz.f80)) (aH (X.H 80 14) 16) (aK 4 (X.H 80 1000004) 16 (BbF 1 (X.H 80 1000001) 5 (λ(at_6:LI)=>(⟨[(1,.c (.ptr 0 0)),(2,.c (.ptr 1 0)),(3,.c (.ptr 3 0)),(4,.c (.arr 4 (Int.toNat (x:Int)) 1)),(21,.d (iZ (List.length a_.cells:Int))),(22,.d (iZ x2))],[(4,[.seq 1 (List.map (D.int .i64) at_6)]),(3,[.arr 2 x 1,oC l]),(1,[oI [],oC []]),(0,[.d (lI a_.shape),.d (lC a_.cells)]),(2,[.seq 1 (List.map (D.int .i64) x1)])],5,[],none⟩:St)) (λ(at_5:LI)=>(⟨[(1,.c (.ptr 0 0)),(2,.c (.ptr 1 0)),(3,.c (.ptr 3 0)),(4,.c (.arr 4 (Int.toNat (x:Int)) 1)),(21,.d (iZ (List.length a_.cells:Int))),(22,.d (iZ x2))],[(4,[.seq 1 (List.map (D.int .i64) at_5)]),(3,[.arr 2 x 1,oC l]),(1,[oI [],oC []]),(0,[.d (lI a_.shape),.d (lC a_.cells)]),(2,[.seq 1 (List.map (D.int .i64) x1)])],16,[],none⟩:St)) res)) ⟨[(1,.c (.ptr 0 0)),(2,.c (.ptr 1 0)),(3,.c (.ptr 3 0)),(4,.c (.arr 4 (Int.toNat (x:Int)) 1)),(7,.d (iZ i)),(21,.d (iZ (List.length a_.cells:Int))),(22,.d (iZ x2))],[(4,[.seq 1 (List.map (D.int .i64) at_2)]),(3,[.arr 2 x 1,oC l]),(1,[oI [],oC []]),(0,[.d (lI a_.shape),.d (lC a_.cells)]),(2,[.seq 1 (List.map (D.int .i64) x1)])],16,[],none⟩
instance {a:Arr×Nat×LI×Int×(List aA)×Int×LI}:Ok (p_layout_flipped_l2 a) (zY a):=⟨λh=>p_layout_flipped_l2.partial_correctness zY (by
 rintro P_ IH ⟨a_,x,x1,x2,l,i,at_2⟩ res h
 have IH:=Ok.mk' IH
 refine lg I (S_ (ra I ?_))
 rcases E_ h with ⟨hc,h⟩|⟨hc,h⟩
 ·refine ct I hc (K_ (cn I (N_ (S_ (W_ (S_ (S_ (rn 2 I ?_))))))))
  obtain⟨j1,hk,h⟩:=B h
  refine po (AcW hk I I I I I) I I ?_
  obtain⟨y3,hk,h⟩:=B h
  refine po (AqY (D.int .i64) hk I I (λ_=>⟨I,I,I⟩) I I) I I (on 1 I ?_)
  obtain⟨j2,hk,h⟩:=B h
  refine po (AcW hk I I I I I) I I ?_
  obtain⟨at_3,hk,h⟩:=B h
  refine po (est (D.int .i64) (v:=(w64 (y3+1))) hk I I (λ_=>⟨I,I,I⟩) I I I I) I I (rz (S_ (drn (m:=26) 2 I I ?_)))
  obtain⟨j3,hk,h⟩:=B h
  refine pd (AcW hk I I I I I) I I I I I ?_
  obtain⟨y4,hk,h⟩:=B h
  refine pd (AqY (D.int .i64) hk I I (λ_=>⟨I,I,I⟩) I I) I I I I I (don 3 I ?_)
  obtain⟨j4,hk,h⟩:=B h
  refine pd (AcW hk I I I I I) I I I I I ?_
  obtain⟨y5,hk,h⟩:=B h
  refine pd (AqY (D.int .i64) hk I I (λ_=>⟨I,I,I⟩) I I) I I I I I (don 1 I (dz (by kernel_rfl) ?_))
  rcases E_ h with ⟨hc,h⟩|⟨hc,h⟩
  ·refine ct I hc (X_ (fQ.exit (lE.exit (aK.there I (lE.exit (cL.exit (aK.there I ?_)))))))
   cases h
   exact ex1 I I
  refine cf I hc (K_ (cn I (N_ (rn 2 I ?_))))
  obtain⟨j5,hk,h⟩:=B h
  refine po (AcW hk I I I I I) I I ?_
  obtain⟨at_4,hk,h⟩:=B h
  refine po (est (D.int .i64) (v:=0) hk I I (λ_=>⟨I,I,I⟩) I I I I) I I (O_ (en I (N_ (rn 3 I (O_ (cL.normal ?_))))))
  have hv:=Ok.ok h
  exact cB I I hv
 ·refine cf I hc (X_ (fQ.exit (lE.exit (cL.exit (eh I ?_)))))
  cases h
  exact .ok I
 ) _ _ h⟩
abbrev zW (a:Arr×Nat×LI×Int×LI×(List aA)) (res:LI×(List aA)):Prop:=match a with|(a_,x,x1,x2,at_1,out1)=>cG X 80 (aM [1,0,1,1,1,1,0,1,0,0] (aQ Tryz.f80)) (aH (X.H 80 5) 5) (aK 0 (X.H 80 1000000) 5 (iW (λ((c0,out12):LI×(List aA))=>(⟨[(2,.c (.ptr 1 0)),(3,.c (.ptr 3 0))],[(4,[.seq 1 (List.map (D.int .i64) c0)]),(3,[.arr 2 x 1,oC out12]),(1,[oI [],oC []]),(0,[.d (lI a_.shape),.d (lC a_.cells)]),(2,[.seq 1 (List.map (D.int .i64) x1)])],5,[],none⟩:St)) res)) ⟨[(1,.c (.ptr 0 0)),(2,.c (.ptr 1 0)),(3,.c (.ptr 3 0)),(4,.c (.arr 4 (Int.toNat (x:Int)) 1)),(21,.d (iZ (List.length a_.cells:Int))),(22,.d (iZ x2))],[(4,[.seq 1 (List.map (D.int .i64) at_1)]),(3,[.arr 2 x 1,oC out1]),(1,[oI [],oC []]),(0,[.d (lI a_.shape),.d (lC a_.cells)]),(2,[.seq 1 (List.map (D.int .i64) x1)])],5,[],none⟩
instance {a:Arr×Nat×LI×Int×LI×(List aA)}:Ok (fE a) (zW a):=⟨λh=>fE.partial_correctness zW (by
 rintro P_ IH ⟨a_,x,x1,x2,at_1,out1⟩ res h
 have IH:=Ok.mk' IH
 refine lg I (ra I (S_ ?_))
 rcases E_ h with ⟨hc,h⟩|⟨hc,h⟩
 ·refine ct I hc (K_ (cn I (N_ (S_ ?_))))
  obtain⟨⟨at_7,out11⟩,hs,h⟩:=B h
  refine hU (λ((at_7,out11):LI×(List aA))=>(⟨[(1,.c (.ptr 0 0)),(2,.c (.ptr 1 0)),(3,.c (.ptr 3 0)),(4,.c (.arr 4 (Int.toNat (x:Int)) 1)),(21,.d (iZ (List.length a_.cells:Int))),(22,.d (iZ x2))],[(4,[.seq 1 (List.map (D.int .i64) at_7)]),(3,[.arr 2 x 1,oC out11]),(1,[oI [],oC []]),(0,[.d (lI a_.shape),.d (lC a_.cells)]),(2,[.seq 1 (List.map (D.int .i64) x1)])],5,[],none⟩:St)) (y:=(at_7,out11)) ?_ ?_
  ·replace h:=hs
   refine W_ (ra I (S_ (ra I ?_)))
   obtain⟨n1,hs,h⟩:=B h
   refine hU (λ(n1:Int)=>(⟨[(1,.c (.ptr 0 0)),(2,.c (.ptr 1 0)),(3,.c (.ptr 3 0)),(4,.c (.arr 4 (Int.toNat (x:Int)) 1)),(5,.d (iZ n1)),(21,.d (iZ (List.length a_.cells:Int))),(22,.d (iZ x2))],[(4,[.seq 1 (List.map (D.int .i64) at_1)]),(3,[.arr 2 x 1,oC out1]),(1,[oI [],oC []]),(0,[.d (lI a_.shape),.d (lC a_.cells)]),(2,[.seq 1 (List.map (D.int .i64) x1)])],5,[],none⟩:St)) (y:=n1) ?_ ?_
   ·replace h:=hs
    refine W_ (eH ?_)
    have hv:=Ok.ok h
    exact cB I I hv
   refine N_ (S_ (drn (m:=16) 5 I I ?_))
   obtain⟨y2,hk,h⟩:=B h
   refine pd (nB aD (λ_=>I) hk I I I I I) I I I I I (don 2 I ?_)
   obtain⟨l,hk,h⟩:=B h
   refine pd (Ag1 hk I I I I I I I I I I I I I I ) I I I I I (don 2 I (dz (by kernel_rfl) (ra I ?_)))
   obtain⟨res,hs,h⟩:=B h
   refine Ba6 1 (X.H 80 1000001) 5 (λ(at_6:LI)=>(⟨[(1,.c (.ptr 0 0)),(2,.c (.ptr 1 0)),(3,.c (.ptr 3 0)),(4,.c (.arr 4 (Int.toNat (x:Int)) 1)),(21,.d (iZ (List.length a_.cells:Int))),(22,.d (iZ x2))],[(4,[.seq 1 (List.map (D.int .i64) at_6)]),(3,[.arr 2 x 1,oC l]),(1,[oI [],oC []]),(0,[.d (lI a_.shape),.d (lC a_.cells)]),(2,[.seq 1 (List.map (D.int .i64) x1)])],5,[],none⟩:St)) (λ(at_5:LI)=>(⟨[(1,.c (.ptr 0 0)),(2,.c (.ptr 1 0)),(3,.c (.ptr 3 0)),(4,.c (.arr 4 (Int.toNat (x:Int)) 1)),(21,.d (iZ (List.length a_.cells:Int))),(22,.d (iZ x2))],[(4,[.seq 1 (List.map (D.int .i64) at_5)]),(3,[.arr 2 x 1,oC l]),(1,[oI [],oC []]),(0,[.d (lI a_.shape),.d (lC a_.cells)]),(2,[.seq 1 (List.map (D.int .i64) x1)])],16,[],none⟩:St)) (res:=res) ?_ (λy hy=>?_) (λy s' hy hS=>?_)
   ·replace h:=hs
    refine W_ (eH ?_)
    have hv:=Ok.ok h
    exact cB I I hv
   ·subst hy
    obtain at_5:=y
    refine en I ?_
    cases h
    exact .ok I
   subst hy
   obtain at_6:=y
   refine aK.here hS ?_
   cases h
   exact .ok I
  refine N_ (rn 2 I (O_ (cL.normal ?_)))
  have hv:=Ok.ok h
  exact cB I I hv
 ·refine cf I hc (X_ (fQ.exit (lE.exit (cL.exit (eh I ?_)))))
  cases h
  exact .ok I
 ) _ _ h⟩
instance {a_:Arr}:Ok (pT a_) λr=>aval X 80 [.d (aI a_)] [] (aE.ret (.d (aI r)) []):=⟨λ{r} h=>by
 unfold pT at h
 refine lK (tm:=[(0,.d (aI a_))]) (hp:=[]) (n:=0) I Tryz.func80 I I I I I I (ra (nid':=2) I (ArL (S_ (rn 2 I ?_))))
 obtain⟨⟨x,b⟩,hk,h⟩:=B h
 have hv:=Ok.ok hk
 refine po (Ag2 (nid':=3) (hv) I I I I I I I I I I I I) I I (on (nid':=4) 3 I (rz (S_ (rn 2 I ?_))))
 obtain⟨x1,hk,h⟩:=B h
 have hv:=Ok.ok hk
 refine po (Ag2 (nid':=4) (hv) I I I I I I I I I I I I) I I (rz (S_ (rn 3 I ?_)))
 obtain⟨at_,hk,h⟩:=B h
 refine po (AlM (nid':=5) (D.int .i64) 0 hk I I I I I I I I I I I I ) I I (on (nid':=5) 1 I (rz (S_ (ArK (N_ (S_ (S_ (rn 2 I (po (nC I I I I I I I) I I (on 1 I (rz ?_)))))))))))
 obtain⟨⟨c0,out12⟩,hs,h⟩:=B h
 refine hU (λ((c0,out12):LI×(List aA))=>(⟨[(2,.c (.ptr 1 0)),(3,.c (.ptr 3 0))],[(4,[.seq 1 (List.map (D.int .i64) c0)]),(3,[.arr 2 x 1,oC out12]),(1,[oI [],oC []]),(0,[.d (lI a_.shape),.d (lC a_.cells)]),(2,[.seq 1 (List.map (D.int .i64) x1)])],5,[],none⟩:St)) (y:=(c0,out12)) ?_ ?_
 ·replace h:=hs
  refine W_ (eH ?_)
  have hv:=Ok.ok h
  exact cB I I hv
 ·refine N_ (ra I (R_ ?_))
  obtain⟨shape,hkFshape,h⟩:=B h
  cases h
  exact .retF I I (Ac1 I I I (mC I (mC (iO (D.int .i64) I hkFshape I I I) Ac3)) Ag3) I
 ⟩
abbrev AaY (r:Arr×Int):aE:=(aE.ret (.tuple [.d (aI r.1),.d (iZ r.2)]) [])
abbrev AcD (a:Arr×aA×Int×Int×(List aA)) (res:(List aA)):Prop:=match a with|(a_,y3,y4,x,out1)=>cG X 76 (aM [1,1,1,0,1,0,0] (aQ Tryz.f76)) (aH (X.H 76 9) 3) (aK 1 (X.H 76 1000001) 3 (iW (λ(out11:(List aA))=>(⟨[(2,.c (.ptr 1 0)),(4,.c (.ptr 2 0))],[(2,[oI [y3.n],oC out11]),(1,[oI [],oC []]),(0,[.d (lI a_.shape),.d (lC a_.cells)])],3,[],none⟩:St)) res)) ⟨[(2,.c (.ptr 1 0)),(4,.c (.ptr 2 0)),(46,.d (iZ y4)),(47,.d (iZ x))],[(2,[oI [y3.n],oC out1]),(1,[oI [],oC []]),(0,[.d (lI a_.shape),.d (lC a_.cells)])],3,[],none⟩
instance {a:Arr×aA×Int×Int×(List aA)}:Ok (jL a) (AcD a):=⟨λh=>jL.partial_correctness AcD (by
 rintro P_ IH ⟨a_,y3,y4,x,out1⟩ res h
 have IH:=Ok.mk' IH
 have iE:eP Tryz.f76 0 _ AaY:=⟨trivial⟩
 refine lg I ?_
 exact Wk) _ _ h⟩
instance {a_:Arr}:Ok (sP a_) λr=>aval X 76 [.d (aI a_)] [] (AaY r):=⟨λh=>by
 unfold sP at h
 exact aB AaY I Tryz.func76 I I I I I I λiE=>Wk⟩
abbrev Ai5 (r:Arr×Int):aE:=(aE.ret (.tuple [.d (aI r.1),.d (iZ r.2)]) [])
instance {a_:Arr}:Ok (uF a_) λr=>aval X 82 [.d (aI a_)] [] (Ai5 r):=⟨λh=>by
 unfold uF at h
 exact aB Ai5 I Tryz.func82 I I I I I I λiE=>Wk⟩
abbrev AfV (r:Int):aE:=(aE.ret (.d (iZ r)) [])
instance {a_:Arr}:Ok (sQ a_) λr=>aval X 78 [.d (aI a_)] [] (AfV r):=⟨λh=>by
 unfold sQ at h
 exact aB AfV I Tryz.func78 I I I I I I λiE=>Wk⟩
abbrev rA (r:Arr):aE:=(aE.ret (.d (aI r)) [])
abbrev Ab9 (a:Arr×Int×LI×Int×Int) (res:Int):Prop:=match a with|(a_,axis,l,inner,x)=>cG X 79 (aM [1,1,1,0,1,0,0] (aQ Tryz.f79)) (aH (X.H 79 5) 2) (aK 0 (X.H 79 1000000) 2 (iW (λ(inner1:Int)=>(⟨[(1,.d (iZ axis)),(2,.c (.ptr 0 0)),(4,.c (.ptr 1 0)),(5,.d (iZ inner1))],[(1,[oI [],oC []]),(0,[.d (lI a_.shape),.d (lC a_.cells)])],2,[],none⟩:St)) res)) ⟨[(1,.d (iZ axis)),(2,.c (.ptr 0 0)),(4,.c (.ptr 1 0)),(5,.d (iZ inner)),(21,.d (lI l)),(22,.d (iZ (List.length l:Int))),(23,.d (iZ x))],[(1,[oI [],oC []]),(0,[.d (lI a_.shape),.d (lC a_.cells)])],2,[],none⟩
instance {a:Arr×Int×LI×Int×Int}:Ok (iC a) (Ab9 a):=⟨λh=>iC.partial_correctness Ab9 (by
 rintro P_ IH ⟨a_,axis,l,inner,x⟩ res h
 have IH:=Ok.mk' IH
 have iE:eP Tryz.f79 0 _ rA:=⟨trivial⟩
 refine lg I ?_
 exact Wk) _ _ h⟩
abbrev AbB (a:Arr×Int×Int×Int×(List aA)×Int) (res:(List aA)):Prop:=match a with|(a_,inner1,d1,at_,out1,i)=>cG X 79 (aM [1,1,1,1,1,1,0,1,0,0,1,0,0,1,0,0] (aQ Tryz.f79)) (aH (X.H 79 15) 2) (aK 4 (X.H 79 1000004) 2 (iW (λ(out3:(List aA))=>(⟨[(2,.c (.ptr 0 0)),(4,.c (.ptr 1 0)),(5,.d (iZ inner1)),(8,.d (iZ d1)),(9,.c (.own 3 (List.map aD out3))),(10,.d (iZ at_))],[(1,[oI [],oC []]),(0,[.d (lI a_.shape),.d (lC a_.cells)])],2,[],none⟩:St)) res)) ⟨[(2,.c (.ptr 0 0)),(4,.c (.ptr 1 0)),(5,.d (iZ inner1)),(8,.d (iZ d1)),(9,.c (.own 3 (List.map aD out1))),(10,.d (iZ at_)),(11,.d (iZ i))],[(1,[oI [],oC []]),(0,[.d (lI a_.shape),.d (lC a_.cells)])],2,[],none⟩
instance {a:Arr×Int×Int×Int×(List aA)×Int}:Ok (iD a) (AbB a):=⟨λh=>iD.partial_correctness AbB (by
 rintro P_ IH ⟨a_,inner1,d1,at_,out1,i⟩ res h
 have IH:=Ok.mk' IH
 have iE:eP Tryz.f79 0 _ rA:=⟨trivial⟩
 refine lg I ?_
 exact Wk) _ _ h⟩
abbrev AbA (a:Arr×Int×Int×(List aA)×Int) (res:(List aA)):Prop:=match a with|(a_,inner1,d1,out,at_)=>cG X 79 (aM [1,1,1,1,1,1,0,1,0,0] (aQ Tryz.f79)) (aH (X.H 79 12) 2) (aK 2 (X.H 79 1000002) 2 (iW (λ(out4:(List aA))=>(⟨[(2,.c (.ptr 0 0)),(4,.c (.ptr 1 0)),(9,.c (.own 3 (List.map aD out4)))],[(1,[oI [],oC []]),(0,[.d (lI a_.shape),.d (lC a_.cells)])],2,[],none⟩:St)) res)) ⟨[(2,.c (.ptr 0 0)),(4,.c (.ptr 1 0)),(5,.d (iZ inner1)),(8,.d (iZ d1)),(9,.c (.own 3 (List.map aD out))),(10,.d (iZ at_))],[(1,[oI [],oC []]),(0,[.d (lI a_.shape),.d (lC a_.cells)])],2,[],none⟩
instance {a:Arr×Int×Int×(List aA)×Int}:Ok (fV a) (AbA a):=⟨λh=>fV.partial_correctness AbA (by
 rintro P_ IH ⟨a_,inner1,d1,out,at_⟩ res h
 have IH:=Ok.mk' IH
 have iE:eP Tryz.f79 0 _ rA:=⟨trivial⟩
 refine lg I ?_
 exact Wk) _ _ h⟩
instance {a_:Arr} {axis:Int}:Ok (p_layout_turned a_ axis) λr=>aval X 79 [.d (aI a_),.d (iZ axis)] [] (rA r):=⟨λh=>by
 unfold p_layout_turned at h
 exact aB rA I Tryz.func79 I I I I I I λiE=>Wk⟩
abbrev AfT (r:Arr×Int):aE:=(aE.ret (.tuple [.d (aI r.1),.d (iZ r.2)]) [])
abbrev AgO (a:Arr×Int×(List aA)) (res:(List aA)):Prop:=match a with|(x,x3,out1)=>cG X 40 (aM [1,1,1,0,1,0,1,1,1,0,1,0,1,0,0] (aQ Tryz.f40)) (aH (X.H 40 11) 3) (aK 1 (X.H 40 1000001) 3 (iW (λ(out11:(List aA))=>(⟨[(4,.c (.ptr 1 0)),(7,.c (.ptr 2 0))],[(2,[oI [(List.length x.shape:Int)],oC out11]),(1,[oI [],oC []]),(0,[.d (lI x.shape),.d (lC x.cells)])],3,[],none⟩:St)) res)) ⟨[(4,.c (.ptr 1 0)),(7,.c (.ptr 2 0)),(33,.d (lI x.shape)),(34,.d (iZ (List.length x.shape:Int))),(35,.d (iZ x3))],[(2,[oI [(List.length x.shape:Int)],oC out1]),(1,[oI [],oC []]),(0,[.d (lI x.shape),.d (lC x.cells)])],3,[],none⟩
instance {a:Arr×Int×(List aA)}:Ok (nN a) (AgO a):=⟨λh=>nN.partial_correctness AgO (by
 rintro P_ IH ⟨x,x3,out1⟩ res h
 have IH:=Ok.mk' IH
 have iE:eP Tryz.f40 0 _ AfT:=⟨trivial⟩
 refine lg I ?_
 exact Wk) _ _ h⟩
instance {op_:Int} {a_:Arr}:Ok (zB op_ a_) λr=>aval X 40 [.d (iZ op_),.d (aI a_)] [] (AfT r):=⟨λh=>by
 unfold zB at h
 exact aB AfT I Tryz.func40 I I I I I I λiE=>Wk⟩
abbrev wH (r:Int):aE:=(aE.ret (.d (iZ r)) [])
abbrev AcG (a:(List Arr)×Int) (res:Except (Int) (Unit)):Prop:=match a with|(l,x)=>cG X 73 (aM [1,0,1,0,0] (aQ Tryz.f73)) (aH (X.H 73 2) 0) (aK 0 (X.H 73 1000000) 0 (jY X Tryz.f73 0 wH (λ(_:Unit)=>(⟨[],[],0,[],none⟩:St)) res)) ⟨[(6,.d (.list 2 (List.map aY l))),(7,.d (iZ (List.length l:Int))),(8,.d (iZ x))],[],0,[],none⟩
instance {a:(List Arr)×Int}:Ok (jO a) (AcG a):=⟨λh=>jO.partial_correctness AcG (by
 rintro P_ IH ⟨l,x⟩ res h
 have IH:=Ok.mk' IH
 have iE:eP Tryz.f73 0 _ wH:=⟨trivial⟩
 refine lg I ?_
 exact Wk) _ _ h⟩
instance {l:(List Arr)}:Ok (pW l) λr=>aval X 73 [.d (.list 2 (List.map aY l))] [] (wH r):=⟨λh=>by
 unfold pW at h
 exact aB wH I Tryz.func73 I I I I I I λiE=>Wk⟩
abbrev Ae8 (r:(List (List aA))):aE:=(aE.ret (.d (.list 1 (List.map (kC 3 aD) r))) [])
abbrev AfD (a:Arr×Int×Int×(List (List aA))×Int) (res:(List (List aA))):Prop:=match a with|(a_,k,y2,l,x)=>cG X 149 (aM [1,1,1,1,0,1,0,0] (aQ Tryz.f149)) (aH (X.H 149 6) 10) (aK 0 (X.H 149 1000000) 10 (iW (λ(l3:(List (List aA)))=>(⟨[(3,.c (.own 1 (List.map (kC 3 aD) l3)))],[(0,[.d (lI a_.shape),.d (lC a_.cells)])],10,[],none⟩:St)) res)) ⟨[(1,.c (.ptr 0 0)),(3,.c (.own 1 (List.map (kC 3 aD) l))),(4,.d (iZ k)),(22,.d (iZ y2)),(23,.d (iZ x))],[(0,[.d (lI a_.shape),.d (lC a_.cells)])],10,[],none⟩
instance {a:Arr×Int×Int×(List (List aA))×Int}:Ok (lY a) (AfD a):=⟨λh=>lY.partial_correctness AfD (by
 rintro P_ IH ⟨a_,k,y2,l,x⟩ res h
 have IH:=Ok.mk' IH
 have iE:eP Tryz.f149 0 _ Ae8:=⟨trivial⟩
 refine lg I ?_
 exact Wk) _ _ h⟩
instance {a_:Arr}:Ok (tJ a_) λr=>aval X 149 [.d (aI a_)] [] (Ae8 r):=⟨λh=>by
 unfold tJ at h
 exact aB Ae8 I Tryz.func149 I I I I I I λiE=>Wk⟩
abbrev Aa7 (r:Bool):aE:=(aE.ret (.d (.bool r)) [])
abbrev AfE (a:(List aA)×Int) (res:Except (Bool) (Unit)):Prop:=match a with|(l,x)=>cG X 148 (aM [1,0,1,0,0] (aQ Tryz.f148)) (aH (X.H 148 2) 0) (aK 0 (X.H 148 1000000) 0 (jY X Tryz.f148 0 Aa7 (λ(_:Unit)=>(⟨[],[],0,[],none⟩:St)) res)) ⟨[(0,.d (lC l)),(5,.d (lC l)),(6,.d (iZ (List.length l:Int))),(7,.d (iZ x))],[],0,[],none⟩
instance {a:(List aA)×Int}:Ok (lZ a) (AfE a):=⟨λh=>lZ.partial_correctness AfE (by
 rintro P_ IH ⟨l,x⟩ res h
 have IH:=Ok.mk' IH
 have iE:eP Tryz.f148 0 _ Aa7:=⟨trivial⟩
 refine lg I ?_
 exact Wk) _ _ h⟩
instance {l:(List aA)}:Ok (xB l) λr=>aval X 148 [.d (lC l)] [] (Aa7 r):=⟨λh=>by
 unfold xB at h
 exact aB Aa7 I Tryz.func148 I I I I I I λiE=>Wk⟩
abbrev AeU (r:Int):aE:=(aE.ret (.d (iZ r)) [])
instance {a_:Int} {b:Int}:Ok (p_arr_order_int a_ b) λr=>aval X 212 [.d (iZ a_),.d (iZ b)] [] (AeU r):=⟨λh=>by
 unfold p_arr_order_int at h
 exact aB AeU I Tryz.func212 I I I I I I λiE=>Wk⟩
abbrev AmR (a_:Arr) (a_1:Arr) (r:Int):aE:=(aE.ret (.d (iZ r)) [[.d (lI a_.shape),.d (lC a_.cells)],[.d (lI a_1.shape),.d (lC a_1.cells)]])
instance {i:Int} {a_:Arr} {a_1:Arr}:Ok (AcH i a_ a_1) λr=>aval X 232 [.d (iZ i),.ptr 0 0,.ptr 1 0] [[.d (lI a_.shape),.d (lC a_.cells)],[.d (lI a_1.shape),.d (lC a_1.cells)]] ((AmR a_ a_1) r):=⟨λh=>by
 unfold AcH at h
 exact aB (AmR a_ a_1) I Tryz.func232 I I I I I I λiE=>Wk⟩
abbrev mK (b:Arr) (b1:Arr) (r:Int):aE:=(aE.ret (.d (iZ r)) [[.d (lI b.shape),.d (lC b.cells)],[.d (lI b1.shape),.d (lC b1.cells)]])
abbrev tQ (a:Int×Arr×Arr×Int) (res:Except (Int) (Unit)):Prop:=match a with|(n,b,b1,x)=>cG X 231 (aM [1,0,1,0,0] (aQ Tryz.f231)) (aH (X.H 231 2) 2) (aK 0 (X.H 231 1000000) 2 (jY X Tryz.f231 2 (mK b b1) (λ(_:Unit)=>(⟨[],[(0,[.d (lI b.shape),.d (lC b.cells)]),(1,[.d (lI b1.shape),.d (lC b1.cells)])],2,[],none⟩:St)) res)) ⟨[(1,.c (.fn 232 [0,1])),(7,.d (iZ n)),(8,.d (iZ x))],[(0,[.d (lI b.shape),.d (lC b.cells)]),(1,[.d (lI b1.shape),.d (lC b1.cells)])],2,[],none⟩
instance {a:Int×Arr×Arr×Int}:Ok (dP a) (tQ a):=⟨λh=>dP.partial_correctness tQ (by
 rintro P_ IH ⟨n,b,b1,x⟩ res h
 have IH:=Ok.mk' IH
 have iE:eP Tryz.f231 2 _ (mK b b1):=⟨trivial⟩
 refine lg I ?_
 exact Wk) _ _ h⟩
instance {n:Int} {b:Arr} {b1:Arr}:Ok (p_arr_Cmp_1__arr_Cmp_2 n b b1) λr=>aval X 231 [.d (iZ n),.fn 232 [0,1]] [[.d (lI b.shape),.d (lC b.cells)],[.d (lI b1.shape),.d (lC b1.cells)]] ((mK b b1) r):=⟨λh=>by
 unfold p_arr_Cmp_1__arr_Cmp_2 at h
 exact aB (mK b b1) I Tryz.func231 I I I I I I λiE=>Wk⟩
abbrev AbU (r:Int):aE:=(aE.ret (.d (iZ r)) [])
instance {a_:Int} {b:Int}:Ok (oU a_ b) λr=>aval X 213 [.d (iZ a_),.d (iZ b)] [] (AbU r):=⟨λh=>by
 unfold oU at h
 exact aB AbU I Tryz.func213 I I I I I I λiE=>Wk⟩
abbrev AoT (r:Int):aE:=(aE.ret (.d (iZ r)) [])
abbrev ArT (r:Int):aE:=(aE.ret (.d (iZ r)) [])
abbrev mL (b:Arr) (b1:Arr) (r:Int):aE:=(aE.ret (.d (iZ r)) [[.d (lI b.shape),.d (lC b.cells)],[.d (lI b1.shape),.d (lC b1.cells)]])
abbrev AmS (a_:Arr) (a_1:Arr) (r:Int):aE:=(aE.ret (.d (iZ r)) [[.d (lI a_.shape),.d (lC a_.cells)],[.d (lI a_1.shape),.d (lC a_1.cells)]])
abbrev AjA (a:aA×aA) (res:Int):Prop:=match a with|(a_,b)=>aval X 153 [.d (aD a_),.d (aD b)] [] (AoT res)
abbrev AlZ (a:Arr×Arr) (res:Int):Prop:=match a with|(a_,b)=>aval X 214 [.d (aI a_),.d (aI b)] [] (ArT res)
abbrev oE (a:Int×Arr×Arr×Int) (res:Except (Int) (Unit)):Prop:=match a with|(n,b,b1,x)=>cG X 231 (aM [1,0,1,0,0] (aQ Tryz.f231)) (aH (X.H 231 2) 2) (aK 0 (X.H 231 1000000) 2 (jY X Tryz.f231 2 (mL b b1) (λ(_:Unit)=>(⟨[],[(0,[.d (lI b.shape),.d (lC b.cells)]),(1,[.d (lI b1.shape),.d (lC b1.cells)])],2,[],none⟩:St)) res)) ⟨[(1,.c (.fn 233 [0,1])),(7,.d (iZ n)),(8,.d (iZ x))],[(0,[.d (lI b.shape),.d (lC b.cells)]),(1,[.d (lI b1.shape),.d (lC b1.cells)])],2,[],none⟩
abbrev qI (a:Int×Arr×Arr) (res:Int):Prop:=match a with|(n,b,b1)=>aval X 231 [.d (iZ n),.fn 233 [0,1]] [[.d (lI b.shape),.d (lC b.cells)],[.d (lI b1.shape),.d (lC b1.cells)]] ((mL b b1) res)
abbrev AgD (a:Int×Arr×Arr) (res:Int):Prop:=match a with|(i,a_,a_1)=>aval X 233 [.d (iZ i),.ptr 0 0,.ptr 1 0] [[.d (lI a_.shape),.d (lC a_.cells)],[.d (lI a_1.shape),.d (lC a_1.cells)]] ((AmS a_ a_1) res)
theorem sH:(∀a res,nE a=some res->AjA a res)/\(∀a res,xZ a=some res->AlZ a res)/\(∀a res,p_arr_Cmp_1__arr_Cmp_3 a=some res->qI a res)/\(∀a res,dQ a=some res->oE a res)/\(∀a res,AcI a=some res->AgD a res):=by
 refine nE.mutual_partial_correctness (motive_1:=AjA) (motive_2:=AlZ) (motive_3:=qI) (motive_4:=oE) (motive_5:=AgD) ?_ ?_ ?_ ?_ ?_
 ·rintro P0 I0 ⟨a_,b⟩ res h
  have I0:=Ok.mk' I0
  exact aB AoT I Tryz.func153 I I I I I I λiE=>Wk
 ·rintro P0 I0 ⟨a_,b⟩ res h
  have I0:=Ok.mk' I0
  exact aB ArT I Tryz.func214 I I I I I I λiE=>Wk
 ·rintro P0 I0 ⟨n,b,b1⟩ res h
  have I0:=Ok.mk' I0
  exact aB (mL b b1) I Tryz.func231 I I I I I I λiE=>Wk
 ·rintro P0 P1 I0 I1 ⟨n,b,b1,x⟩ res h
  have I0:=Ok.mk' I0
  have I1:=Ok.mk' I1
  refine lg I ?_
  have iE:eP Tryz.f231 2 _ (mL b b1):=⟨trivial⟩
  exact Wk
 rintro P0 I0 ⟨i,a_,a_1⟩ res h
 have I0:=Ok.mk' I0
 exact aB (AmS a_ a_1) I Tryz.func233 I I I I I I λiE=>Wk
instance {a:aA×aA}:Ok (nE a) (AjA a):=⟨λh=>sH.1 a _ h⟩
instance {a:Arr×Arr}:Ok (xZ a) (AlZ a):=⟨λh=>sH.2.1 a _ h⟩
instance {a:Int×Arr×Arr}:Ok (p_arr_Cmp_1__arr_Cmp_3 a) (qI a):=⟨λh=>sH.2.2.1 a _ h⟩
instance {a:Int×Arr×Arr×Int}:Ok (dQ a) (oE a):=⟨λh=>sH.2.2.2.1 a _ h⟩
instance {a:Int×Arr×Arr}:Ok (AcI a) (AgD a):=⟨λh=>sH.2.2.2.2 a _ h⟩
abbrev eS (r:Int):aE:=(aE.ret (.d (iZ r)) [])
abbrev kS (a:(List aA)×(List aA)×Int) (res:Except (Int) (Unit)):Prop:=match a with|(s1,s2,x)=>cG X 152 (aM [1,0,1,0,0] (aQ Tryz.f152)) (aH (X.H 152 2) 0) (aK 0 (X.H 152 1000000) 0 (jY X Tryz.f152 0 eS (λ(_:Unit)=>(⟨[(0,.d (lC s1)),(1,.d (lC s2))],[],0,[],none⟩:St)) res)) ⟨[(0,.d (lC s1)),(1,.d (lC s2)),(2,.c (.fn 153 [])),(11,.d (lC s1)),(12,.d (iZ (List.length s1:Int))),(13,.d (iZ x))],[],0,[],none⟩
instance {a:(List aA)×(List aA)×Int}:Ok (bZ a) (kS a):=⟨λh=>bZ.partial_correctness kS (by
 rintro P_ IH ⟨s1,s2,x⟩ res h
 have IH:=Ok.mk' IH
 have iE:eP Tryz.f152 0 _ eS:=⟨trivial⟩
 refine lg I ?_
 exact Wk) _ _ h⟩
instance {s1:(List aA)} {s2:(List aA)}:Ok (cJ s1 s2) λr=>aval X 152 [.d (lC s1),.d (lC s2),.fn 153 []] [] (eS r):=⟨λh=>by
 unfold cJ at h
 exact aB eS I Tryz.func152 I I I I I I λiE=>Wk⟩
abbrev AfZ (a_:(List (List aA))) (a_1:Bool) (r:Int):aE:=(aE.ret (.d (iZ r)) [[.d (.list 1 (List.map (kC 3 aD) a_))],[.d (.bool a_1)]])
instance {i:Int} {k:Int} {a_:(List (List aA))} {a_1:Bool}:Ok (kX i k a_ a_1) λr=>aval X 151 [.d (iZ i),.d (iZ k),.ptr 0 0,.ptr 1 0] [[.d (.list 1 (List.map (kC 3 aD) a_))],[.d (.bool a_1)]] ((AfZ a_ a_1) r):=⟨λh=>by
 unfold kX at h
 exact aB (AfZ a_ a_1) I Tryz.func151 I I I I I I λiE=>Wk⟩
abbrev cN (b1:(List (List aA))) (b2:Bool) (r:LI):aE:=(aE.ret (.tuple []) [[.seq 1 (List.map (D.int .i64) r)],[.d (.list 1 (List.map (kC 3 aD) b1))],[.d (.bool b2)]])
abbrev fS (a:Nat×Int×Int×((List (List aA)))×Bool×Int×Int×LI) (res:LI):Prop:=match a with|(n,a_,b,b1,b2,i,j,data2)=>cG X 229 (aM [1,0,0,1,0,0,1,0,0] (aQ Tryz.f229)) (aH (X.H 229 4) 3) (aK 2 (X.H 229 1000002) 3 (iW (λ(data5:LI)=>(⟨[(0,.c (.arr 0 n 1)),(1,.d (iZ a_)),(2,.d (iZ b)),(3,.c (.fn 151 [1,2])),(8,.d (iZ i))],[(0,[.seq 1 (List.map (D.int .i64) data5)]),(1,[.d (.list 1 (List.map (kC 3 aD) b1))]),(2,[.d (.bool b2)])],3,[],none⟩:St)) res)) ⟨[(0,.c (.arr 0 n 1)),(1,.d (iZ a_)),(2,.d (iZ b)),(3,.c (.fn 151 [1,2])),(8,.d (iZ i)),(9,.d (iZ j))],[(0,[.seq 1 (List.map (D.int .i64) data2)]),(1,[.d (.list 1 (List.map (kC 3 aD) b1))]),(2,[.d (.bool b2)])],3,[],none⟩
instance {a:Nat×Int×Int×((List (List aA)))×Bool×Int×Int×LI}:Ok (aX a) (fS a):=⟨λh=>aX.partial_correctness fS (by
 rintro P_ IH ⟨n,a_,b,b1,b2,i,j,data2⟩ res h
 have IH:=Ok.mk' IH
 have iE:eP Tryz.f229 3 _ (cN b1 b2):=⟨trivial⟩
 refine lg I ?_
 exact Wk) _ _ h⟩
abbrev fR (a:Nat×Int×Int×((List (List aA)))×Bool×Int×LI) (res:LI):Prop:=match a with|(n,a_,b,b1,b2,i,data1)=>cG X 229 (aM [1,0,0] (aQ Tryz.f229)) (aH (X.H 229 1) 3) (aK 0 (X.H 229 1000000) 3 (iW (λ(c0:LI)=>(⟨[],[(0,[.seq 1 (List.map (D.int .i64) c0)]),(1,[.d (.list 1 (List.map (kC 3 aD) b1))]),(2,[.d (.bool b2)])],3,[],none⟩:St)) res)) ⟨[(0,.c (.arr 0 n 1)),(1,.d (iZ a_)),(2,.d (iZ b)),(3,.c (.fn 151 [1,2])),(8,.d (iZ i))],[(0,[.seq 1 (List.map (D.int .i64) data1)]),(1,[.d (.list 1 (List.map (kC 3 aD) b1))]),(2,[.d (.bool b2)])],3,[],none⟩
instance {a:Nat×Int×Int×((List (List aA)))×Bool×Int×LI}:Ok (aW a) (fR a):=⟨λh=>aW.partial_correctness fR (by
 rintro P_ IH ⟨n,a_,b,b1,b2,i,data1⟩ res h
 have IH:=Ok.mk' IH
 have iE:eP Tryz.f229 3 _ (cN b1 b2):=⟨trivial⟩
 refine lg I ?_
 exact Wk) _ _ h⟩
instance {n:Nat} {a_:Int} {b:Int} {data:LI} {b1:(List (List aA))} {b2:Bool}:Ok (bQ n a_ b data b1 b2) λr=>aval X 229 [.arr 0 n 1,.d (iZ a_),.d (iZ b),.fn 151 [1,2]] [[.seq 1 (List.map (D.int .i64) data)],[.d (.list 1 (List.map (kC 3 aD) b1))],[.d (.bool b2)]] ((cN b1 b2) r):=⟨λh=>by
 unfold bQ at h
 exact aB (cN b1 b2) I Tryz.func229 I I I I I I λiE=>Wk⟩
abbrev eU (b1:(List (List aA))) (b2:Bool) (r:LI):aE:=(aE.ret (.tuple []) [[.seq 1 (List.map (D.int .i64) r)],[.d (.list 1 (List.map (kC 3 aD) b1))],[.d (.bool b2)]])
abbrev gW (a:Nat×Int×Int×Int×((List (List aA)))×Bool×Int×LI) (res:LI):Prop:=match a with|(n,a_,b,n1,b1,b2,i,data1)=>cG X 244 (aM [1,0,0] (aQ Tryz.f244)) (aH (X.H 244 1) 3) (aK 0 (X.H 244 1000000) 3 (iW (λ(c0:LI)=>(⟨[],[(0,[.seq 1 (List.map (D.int .i64) c0)]),(1,[.d (.list 1 (List.map (kC 3 aD) b1))]),(2,[.d (.bool b2)])],3,[],none⟩:St)) res)) ⟨[(0,.c (.arr 0 n 1)),(1,.d (iZ a_)),(2,.d (iZ b)),(3,.d (iZ n1)),(10,.d (iZ i))],[(0,[.seq 1 (List.map (D.int .i64) data1)]),(1,[.d (.list 1 (List.map (kC 3 aD) b1))]),(2,[.d (.bool b2)])],3,[],none⟩
instance {a:Nat×Int×Int×Int×((List (List aA)))×Bool×Int×LI}:Ok (bD a) (gW a):=⟨λh=>bD.partial_correctness gW (by
 rintro P_ IH ⟨n,a_,b,n1,b1,b2,i,data1⟩ res h
 have IH:=Ok.mk' IH
 have iE:eP Tryz.f244 3 _ (eU b1 b2):=⟨trivial⟩
 refine lg I ?_
 exact Wk) _ _ h⟩
instance {n:Nat} {a_:Int} {b:Int} {n1:Int} {data:LI} {b1:(List (List aA))} {b2:Bool}:Ok (bL n a_ b n1 data b1 b2) λr=>aval X 244 [.arr 0 n 1,.d (iZ a_),.d (iZ b),.d (iZ n1),.fn 151 [1,2]] [[.seq 1 (List.map (D.int .i64) data)],[.d (.list 1 (List.map (kC 3 aD) b1))],[.d (.bool b2)]] ((eU b1 b2) r):=⟨λh=>by
 unfold bL at h
 exact aB (eU b1 b2) I Tryz.func244 I I I I I I λiE=>Wk⟩
abbrev fG (b1:(List (List aA))) (b2:Bool) (r:LI):aE:=(aE.ret (.tuple []) [[.seq 1 (List.map (D.int .i64) r)],[.d (.list 1 (List.map (kC 3 aD) b1))],[.d (.bool b2)]])
abbrev iX (a:Nat×Int×((List (List aA)))×Bool×Int×LI×Int) (res:Int×LI):Prop:=match a with|(n,m,b1,b2,i,data1,j)=>cG X 242 (aM [1,1,0,0,0] (aQ Tryz.f242)) (aH (X.H 242 2) 3) (aK 0 (X.H 242 1000000) 3 (iW (λ((i1,data2):Int×LI)=>(⟨[(0,.c (.arr 0 n 1)),(2,.d (iZ m)),(4,.c (.fn 151 [1,2])),(10,.d (iZ i1))],[(0,[.seq 1 (List.map (D.int .i64) data2)]),(1,[.d (.list 1 (List.map (kC 3 aD) b1))]),(2,[.d (.bool b2)])],3,[],none⟩:St)) res)) ⟨[(0,.c (.arr 0 n 1)),(2,.d (iZ m)),(4,.c (.fn 151 [1,2])),(10,.d (iZ i)),(11,.d (iZ j))],[(0,[.seq 1 (List.map (D.int .i64) data1)]),(1,[.d (.list 1 (List.map (kC 3 aD) b1))]),(2,[.d (.bool b2)])],3,[],none⟩
instance {a:Nat×Int×((List (List aA)))×Bool×Int×LI×Int}:Ok (bG a) (iX a):=⟨λh=>bG.partial_correctness iX (by
 rintro P_ IH ⟨n,m,b1,b2,i,data1,j⟩ res h
 have IH:=Ok.mk' IH
 have iE:eP Tryz.f242 3 _ (fG b1 b2):=⟨trivial⟩
 refine lg I ?_
 exact Wk) _ _ h⟩
instance {n:Nat} {a_:Int} {m:Int} {b:Int} {data:LI} {b1:(List (List aA))} {b2:Bool}:Ok (cM n a_ m b data b1 b2) λr=>aval X 242 [.arr 0 n 1,.d (iZ a_),.d (iZ m),.d (iZ b),.fn 151 [1,2]] [[.seq 1 (List.map (D.int .i64) data)],[.d (.list 1 (List.map (kC 3 aD) b1))],[.d (.bool b2)]] ((fG b1 b2) r):=⟨λh=>by
 unfold cM at h
 exact aB (fG b1 b2) I Tryz.func242 I I I I I I λiE=>Wk⟩
abbrev bN (b1:(List (List aA))) (b2:Bool) (r:LI):aE:=(aE.ret (.tuple []) [[.seq 1 (List.map (D.int .i64) r)],[.d (.list 1 (List.map (kC 3 aD) b1))],[.d (.bool b2)]])
instance AdF:Jn 230 1 140 (Int×Int):=⟨λy=>[(20,.d (iZ y.1)),(21,.d (iZ y.2))],λy=>[]⟩
instance AdG:Jn 230 1 185 LI:=⟨λy=>[],λy=>[(0,[(0,.seq 1 (List.map (D.int .i64) y))])]⟩
instance AdH:Jn 230 1 199 LI:=⟨λy=>[],λy=>[(0,[(0,.seq 1 (List.map (D.int .i64) y))])]⟩
abbrev eK (a:Nat×Int×LI×((List (List aA)))×Bool×Int×Int) (res:Int):Prop:=match a with|(n,a_,data,b1,b2,i,j)=>cG X 230 (aM [0,1,0,1,1,0,0,0] (aQ Tryz.f230)) (aH (X.H 230 3) 3) (aK 0 (X.H 230 1000000) 3 (iW (λ(i1:Int)=>(⟨[(0,.c (.arr 0 n 1)),(1,.d (iZ a_)),(10,.d (iZ i1))],[(0,[.seq 1 (List.map (D.int .i64) data)]),(1,[.d (.list 1 (List.map (kC 3 aD) b1))]),(2,[.d (.bool b2)])],3,[],none⟩:St)) res)) ⟨[(0,.c (.arr 0 n 1)),(1,.d (iZ a_)),(4,.c (.fn 151 [1,2])),(10,.d (iZ i)),(11,.d (iZ j))],[(0,[.seq 1 (List.map (D.int .i64) data)]),(1,[.d (.list 1 (List.map (kC 3 aD) b1))]),(2,[.d (.bool b2)])],3,[],none⟩
theorem nV:∀a res,aN a=some res->eK a res:=by
 refine aN.partial_correctness eK ?_
 rintro P_ IH ⟨n,a_,data,b1,b2,i,j⟩ res h
 have IH:=Ok.mk' IH
 refine lg I ?_
 have iE:eP Tryz.f230 3 _ (bN b1 b2):=⟨trivial⟩
 exact Wk
instance {a:Nat×Int×LI×((List (List aA)))×Bool×Int×Int}:Ok (aN a) (eK a):=⟨λh=>nV a _ h⟩
abbrev eL (a:Nat×((List (List aA)))×Bool×Int×Int×LI) (res:LI):Prop:=match a with|(n,b1,b2,i1,k,data1)=>cG X 230 (aM [0,1,0,1,1,1,0,1,0,0] (aQ Tryz.f230)) (aH (X.H 230 9) 3) (aK 2 (X.H 230 1000002) 3 (iW (λ(c0:LI)=>(⟨[],[(0,[.seq 1 (List.map (D.int .i64) c0)]),(1,[.d (.list 1 (List.map (kC 3 aD) b1))]),(2,[.d (.bool b2)])],3,[],none⟩:St)) res)) ⟨[(0,.c (.arr 0 n 1)),(10,.d (iZ i1)),(13,.d (iZ k))],[(0,[.seq 1 (List.map (D.int .i64) data1)]),(1,[.d (.list 1 (List.map (kC 3 aD) b1))]),(2,[.d (.bool b2)])],3,[],none⟩
theorem nW:∀a res,aT a=some res->eL a res:=by
 refine aT.partial_correctness eL ?_
 rintro P_ IH ⟨n,b1,b2,i1,k,data1⟩ res h
 have IH:=Ok.mk' IH
 refine lg I ?_
 have iE:eP Tryz.f230 3 _ (bN b1 b2):=⟨trivial⟩
 exact Wk
instance {a:Nat×((List (List aA)))×Bool×Int×Int×LI}:Ok (aT a) (eL a):=⟨λh=>nW a _ h⟩
abbrev eM (a:Nat×Int×LI×((List (List aA)))×Bool×Int×Int) (res:Int):Prop:=match a with|(n,m,data,b1,b2,i2,j7)=>cG X 230 (aM [1,0,1,0,1,1,0,0,0] (aQ Tryz.f230)) (aH (X.H 230 15) 3) (aK 4 (X.H 230 1000004) 3 (iW (λ(i3:Int)=>(⟨[(0,.c (.arr 0 n 1)),(2,.d (iZ m)),(14,.d (iZ i3))],[(0,[.seq 1 (List.map (D.int .i64) data)]),(1,[.d (.list 1 (List.map (kC 3 aD) b1))]),(2,[.d (.bool b2)])],3,[],none⟩:St)) res)) ⟨[(0,.c (.arr 0 n 1)),(2,.d (iZ m)),(4,.c (.fn 151 [1,2])),(14,.d (iZ i2)),(15,.d (iZ j7))],[(0,[.seq 1 (List.map (D.int .i64) data)]),(1,[.d (.list 1 (List.map (kC 3 aD) b1))]),(2,[.d (.bool b2)])],3,[],none⟩
theorem nX:∀a res,aO a=some res->eM a res:=by
 refine aO.partial_correctness eM ?_
 rintro P_ IH ⟨n,m,data,b1,b2,i2,j7⟩ res h
 have IH:=Ok.mk' IH
 refine lg I ?_
 have iE:eP Tryz.f230 3 _ (bN b1 b2):=⟨trivial⟩
 exact Wk
instance {a:Nat×Int×LI×((List (List aA)))×Bool×Int×Int}:Ok (aO a) (eM a):=⟨λh=>nX a _ h⟩
abbrev eN (a:Nat×((List (List aA)))×Bool×Int×Int×LI) (res:LI):Prop:=match a with|(n,b1,b2,i3,k1,data4)=>cG X 230 (aM [1,0,1,0,1,1,1,0,1,0,0] (aQ Tryz.f230)) (aH (X.H 230 21) 3) (aK 6 (X.H 230 1000006) 3 (iW (λ(c01:LI)=>(⟨[],[(0,[.seq 1 (List.map (D.int .i64) c01)]),(1,[.d (.list 1 (List.map (kC 3 aD) b1))]),(2,[.d (.bool b2)])],3,[],none⟩:St)) res)) ⟨[(0,.c (.arr 0 n 1)),(14,.d (iZ i3)),(17,.d (iZ k1))],[(0,[.seq 1 (List.map (D.int .i64) data4)]),(1,[.d (.list 1 (List.map (kC 3 aD) b1))]),(2,[.d (.bool b2)])],3,[],none⟩
theorem nY:∀a res,aU a=some res->eN a res:=by
 refine aU.partial_correctness eN ?_
 rintro P_ IH ⟨n,b1,b2,i3,k1,data4⟩ res h
 have IH:=Ok.mk' IH
 refine lg I ?_
 have iE:eP Tryz.f230 3 _ (bN b1 b2):=⟨trivial⟩
 exact Wk
instance {a:Nat×((List (List aA)))×Bool×Int×Int×LI}:Ok (aU a) (eN a):=⟨λh=>nY a _ h⟩
abbrev eO (a:Nat×Int×Int×Int×LI×((List (List aA)))×Bool×Int×Int) (res:Int):Prop:=match a with|(n,a_,m,b,data,b1,b2,start1,r_1)=>cG X 230 (aM [1,1,1,1,1,1,1,0,0,0] (aQ Tryz.f230)) (aH (X.H 230 33) 3) (aK 8 (X.H 230 1000008) 3 (iW (λ(start2:Int)=>(⟨[(0,.c (.arr 0 n 1)),(1,.d (iZ a_)),(2,.d (iZ m)),(3,.d (iZ b)),(4,.c (.fn 151 [1,2])),(18,.d (iZ (w64 (Int.fdiv (IntKind.u64.wrap (w64 (a_+b))) (2 ^ 1))))),(19,.d (iZ (w64 ((w64 (Int.fdiv (IntKind.u64.wrap (w64 (a_+b))) (2 ^ 1)))+m)))),(20,.d (iZ start2))],[(0,[.seq 1 (List.map (D.int .i64) data)]),(1,[.d (.list 1 (List.map (kC 3 aD) b1))]),(2,[.d (.bool b2)])],3,[],none⟩:St)) res)) ⟨[(0,.c (.arr 0 n 1)),(1,.d (iZ a_)),(2,.d (iZ m)),(3,.d (iZ b)),(4,.c (.fn 151 [1,2])),(18,.d (iZ (w64 (Int.fdiv (IntKind.u64.wrap (w64 (a_+b))) (2 ^ 1))))),(19,.d (iZ (w64 ((w64 (Int.fdiv (IntKind.u64.wrap (w64 (a_+b))) (2 ^ 1)))+m)))),(20,.d (iZ start1)),(21,.d (iZ r_1)),(22,.d (iZ (w64 ((w64 ((w64 (Int.fdiv (IntKind.u64.wrap (w64 (a_+b))) (2 ^ 1)))+m))-1))))],[(0,[.seq 1 (List.map (D.int .i64) data)]),(1,[.d (.list 1 (List.map (kC 3 aD) b1))]),(2,[.d (.bool b2)])],3,[],none⟩
theorem nZ:∀a res,aP a=some res->eO a res:=by
 refine aP.partial_correctness eO ?_
 rintro P_ IH ⟨n,a_,m,b,data,b1,b2,start1,r_1⟩ res h
 have IH:=Ok.mk' IH
 refine lg I ?_
 have iE:eP Tryz.f230 3 _ (bN b1 b2):=⟨trivial⟩
 exact Wk
instance {a:Nat×Int×Int×Int×LI×((List (List aA)))×Bool×Int×Int}:Ok (aP a) (eO a):=⟨λh=>nZ a _ h⟩
abbrev eX (a:Nat×Int×Int×Int×LI×(List (List aA))×Bool) (res:LI):Prop:=match a with|(n,a_,m,b,data,b1,b2)=>aval X 230 [.arr 0 n 1,.d (iZ a_),.d (iZ m),.d (iZ b),.fn 151 [1,2]] [[.seq 1 (List.map (D.int .i64) data)],[.d (.list 1 (List.map (kC 3 aD) b1))],[.d (.bool b2)]] ((bN b1 b2) res)
theorem pD:∀a res,aC a=some res->eX a res:=by
 refine aC.partial_correctness eX ?_
 rintro P_ IH ⟨n,a_,m,b,data,b1,b2⟩ res h
 have IH:=Ok.mk' IH
 exact aB (bN b1 b2) I Tryz.func230 I I I I I I λiE=>Wk
instance {a:Nat×Int×Int×Int×LI×(List (List aA))×Bool}:Ok (aC a) (eX a):=⟨λh=>pD a _ h⟩
abbrev cK (b:(List (List aA))) (b1:Bool) (r:LI):aE:=(aE.ret (.tuple []) [[.seq 1 (List.map (D.int .i64) r)],[.d (.list 1 (List.map (kC 3 aD) b))],[.d (.bool b1)]])
instance AeF:Jn 211 1 54 LI:=⟨λy=>[],λy=>[(0,[(0,.seq 1 (List.map (D.int .i64) y))])]⟩
abbrev iY (a:Nat×Int×((List (List aA)))×Bool×Int×Int×LI) (res:Int×LI):Prop:=match a with|(n,n1,b,b1,a_,b2,data1)=>cG X 211 (aM [1,1,0,0,0] (aQ Tryz.f211)) (aH (X.H 211 2) 3) (aK 0 (X.H 211 1000000) 3 (iW (λ((a_1,data2):Int×LI)=>(⟨[(0,.c (.arr 0 n 1)),(1,.d (iZ n1)),(2,.c (.fn 151 [1,2])),(6,.d (iZ 20)),(7,.d (iZ a_1))],[(0,[.seq 1 (List.map (D.int .i64) data2)]),(1,[.d (.list 1 (List.map (kC 3 aD) b))]),(2,[.d (.bool b1)])],3,[],none⟩:St)) res)) ⟨[(0,.c (.arr 0 n 1)),(1,.d (iZ n1)),(2,.c (.fn 151 [1,2])),(6,.d (iZ 20)),(7,.d (iZ a_)),(8,.d (iZ b2))],[(0,[.seq 1 (List.map (D.int .i64) data1)]),(1,[.d (.list 1 (List.map (kC 3 aD) b))]),(2,[.d (.bool b1)])],3,[],none⟩
instance {a:Nat×Int×((List (List aA)))×Bool×Int×Int×LI}:Ok (bH a) (iY a):=⟨λh=>bH.partial_correctness iY (by
 rintro P_ IH ⟨n,n1,b,b1,a_,b2,data1⟩ res h
 have IH:=Ok.mk' IH
 have iE:eP Tryz.f211 3 _ (cK b b1):=⟨trivial⟩
 refine lg I ?_
 exact Wk) _ _ h⟩
abbrev jB (a:Nat×Int×((List (List aA)))×Bool×Int×Int×Int×LI) (res:Int×LI):Prop:=match a with|(n,n1,b,b1,blockSize,a_2,b3,data4)=>cG X 211 (aM [1,1,1,1,0,0,1,0,1,0,0,0] (aQ Tryz.f211)) (aH (X.H 211 9) 3) (aK 4 (X.H 211 1000004) 3 (iW (λ((a_3,data5):Int×LI)=>(⟨[(0,.c (.arr 0 n 1)),(1,.d (iZ n1)),(2,.c (.fn 151 [1,2])),(6,.d (iZ blockSize)),(7,.d (iZ a_3))],[(0,[.seq 1 (List.map (D.int .i64) data5)]),(1,[.d (.list 1 (List.map (kC 3 aD) b))]),(2,[.d (.bool b1)])],3,[],none⟩:St)) res)) ⟨[(0,.c (.arr 0 n 1)),(1,.d (iZ n1)),(2,.c (.fn 151 [1,2])),(6,.d (iZ blockSize)),(7,.d (iZ a_2)),(8,.d (iZ b3))],[(0,[.seq 1 (List.map (D.int .i64) data4)]),(1,[.d (.list 1 (List.map (kC 3 aD) b))]),(2,[.d (.bool b1)])],3,[],none⟩
instance {a:Nat×Int×((List (List aA)))×Bool×Int×Int×Int×LI}:Ok (bK a) (jB a):=⟨λh=>bK.partial_correctness jB (by
 rintro P_ IH ⟨n,n1,b,b1,blockSize,a_2,b3,data4⟩ res h
 have IH:=Ok.mk' IH
 have iE:eP Tryz.f211 3 _ (cK b b1):=⟨trivial⟩
 refine lg I ?_
 exact Wk) _ _ h⟩
abbrev jA (a:Nat×Int×((List (List aA)))×Bool×Int×LI) (res:LI):Prop:=match a with|(n,n1,b,b1,blockSize,data3)=>cG X 211 (aM [1,1,1,1,0,0] (aQ Tryz.f211)) (aH (X.H 211 7) 3) (aK 2 (X.H 211 1000002) 3 (iW (λ(c0:LI)=>(⟨[],[(0,[.seq 1 (List.map (D.int .i64) c0)]),(1,[.d (.list 1 (List.map (kC 3 aD) b))]),(2,[.d (.bool b1)])],3,[],none⟩:St)) res)) ⟨[(0,.c (.arr 0 n 1)),(1,.d (iZ n1)),(2,.c (.fn 151 [1,2])),(6,.d (iZ blockSize))],[(0,[.seq 1 (List.map (D.int .i64) data3)]),(1,[.d (.list 1 (List.map (kC 3 aD) b))]),(2,[.d (.bool b1)])],3,[],none⟩
instance {a:Nat×Int×((List (List aA)))×Bool×Int×LI}:Ok (bI a) (jA a):=⟨λh=>bI.partial_correctness jA (by
 rintro P_ IH ⟨n,n1,b,b1,blockSize,data3⟩ res h
 have IH:=Ok.mk' IH
 have iE:eP Tryz.f211 3 _ (cK b b1):=⟨trivial⟩
 refine lg I ?_
 exact Wk) _ _ h⟩
instance {n:Nat} {n1:Int} {data:LI} {b:(List (List aA))} {b1:Bool}:Ok (p_slices_stableCmpFunc_int__seek_grade_1 n n1 data b b1) λr=>aval X 211 [.arr 0 n 1,.d (iZ n1),.fn 151 [1,2]] [[.seq 1 (List.map (D.int .i64) data)],[.d (.list 1 (List.map (kC 3 aD) b))],[.d (.bool b1)]] ((cK b b1) r):=⟨λh=>by
 unfold p_slices_stableCmpFunc_int__seek_grade_1 at h
 exact aB (cK b b1) I Tryz.func211 I I I I I I λiE=>Wk⟩
abbrev jQ (b:(List (List aA))) (b1:Bool) (r:LI):aE:=(aE.ret (.tuple []) [[.seq 1 (List.map (D.int .i64) r)],[.d (.list 1 (List.map (kC 3 aD) b))],[.d (.bool b1)]])
instance {n:Nat} {a_:LI} {b:(List (List aA))} {b1:Bool}:Ok (p_slices_SortStableFunc_int__seek_grade_1 n a_ b b1) λr=>aval X 150 [.arr 0 n 1,.fn 151 [1,2]] [[.seq 1 (List.map (D.int .i64) a_)],[.d (.list 1 (List.map (kC 3 aD) b))],[.d (.bool b1)]] ((jQ b b1) r):=⟨λh=>by
 unfold p_slices_SortStableFunc_int__seek_grade_1 at h
 exact aB (jQ b b1) I Tryz.func150 I I I I I I λiE=>Wk⟩
abbrev Aa6 (r:Arr×Int):aE:=(aE.ret (.tuple [.d (aI r.1),.d (iZ r.2)]) [])
abbrev AfB (a:Arr×Bool×((List (List aA)))×Int×LI) (res:LI):Prop:=match a with|(a_,down,x1,x2,by_1)=>cG X 74 (aM [1,1,1,1,0,1,0,0] (aQ Tryz.f74)) (aH (X.H 74 8) 5) (aK 1 (X.H 74 1000001) 5 (iW (λ(by_3:LI)=>(⟨[(3,.c (.ptr 1 0)),(4,.c (.ptr 2 0)),(6,.c (.ptr 3 0)),(7,.c (.arr 4 (Int.toNat (List.length x1:Int)) 1))],[(4,[.seq 1 (List.map (D.int .i64) by_3)]),(3,[.d (.list 1 (List.map (kC 3 aD) x1))]),(2,[oI [],oC []]),(1,[.d (.bool down)]),(0,[.d (lI a_.shape),.d (lC a_.cells)])],5,[],none⟩:St)) res)) ⟨[(3,.c (.ptr 1 0)),(4,.c (.ptr 2 0)),(6,.c (.ptr 3 0)),(7,.c (.arr 4 (Int.toNat (List.length x1:Int)) 1)),(30,.d (iZ ((Int.toNat (List.length x1:Int)):Int))),(31,.d (iZ x2))],[(4,[.seq 1 (List.map (D.int .i64) by_1)]),(3,[.d (.list 1 (List.map (kC 3 aD) x1))]),(2,[oI [],oC []]),(1,[.d (.bool down)]),(0,[.d (lI a_.shape),.d (lC a_.cells)])],5,[],none⟩
instance {a:Arr×Bool×((List (List aA)))×Int×LI}:Ok (lW a) (AfB a):=⟨λh=>lW.partial_correctness AfB (by
 rintro P_ IH ⟨a_,down,x1,x2,by_1⟩ res h
 have IH:=Ok.mk' IH
 have iE:eP Tryz.f74 0 _ Aa6:=⟨trivial⟩
 refine lg I ?_
 exact Wk) _ _ h⟩
abbrev AfC (a:Arr×Bool×((List (List aA)))×LI×Int×(List aA)) (res:(List aA)):Prop:=match a with|(a_,down,x1,x3,x4,out1)=>cG X 74 (aM [1,1,1,1,1,1,1,0,1,0,0] (aQ Tryz.f74)) (aH (X.H 74 15) 6) (aK 3 (X.H 74 1000003) 6 (iW (λ(out11:(List aA))=>(⟨[(4,.c (.ptr 2 0)),(9,.c (.ptr 5 0))],[(5,[oI [((Int.toNat (List.length x1:Int)):Int)],oC out11]),(4,[.seq 1 (List.map (D.int .i64) x3)]),(3,[.d (.list 1 (List.map (kC 3 aD) x1))]),(2,[oI [],oC []]),(1,[.d (.bool down)]),(0,[.d (lI a_.shape),.d (lC a_.cells)])],6,[],none⟩:St)) res)) ⟨[(4,.c (.ptr 2 0)),(9,.c (.ptr 5 0)),(46,.c (.arr 4 (Int.toNat (List.length x1:Int)) 1)),(47,.d (iZ ((Int.toNat (List.length x1:Int)):Int))),(48,.d (iZ x4))],[(5,[oI [((Int.toNat (List.length x1:Int)):Int)],oC out1]),(4,[.seq 1 (List.map (D.int .i64) x3)]),(3,[.d (.list 1 (List.map (kC 3 aD) x1))]),(2,[oI [],oC []]),(1,[.d (.bool down)]),(0,[.d (lI a_.shape),.d (lC a_.cells)])],6,[],none⟩
instance {a:Arr×Bool×((List (List aA)))×LI×Int×(List aA)}:Ok (lX a) (AfC a):=⟨λh=>lX.partial_correctness AfC (by
 rintro P_ IH ⟨a_,down,x1,x3,x4,out1⟩ res h
 have IH:=Ok.mk' IH
 have iE:eP Tryz.f74 0 _ Aa6:=⟨trivial⟩
 refine lg I ?_
 exact Wk) _ _ h⟩
instance {a_:Arr} {down:Bool}:Ok (wZ a_ down) λr=>aval X 74 [.d (aI a_),.d (.bool down)] [] (Aa6 r):=⟨λh=>by
 unfold wZ at h
 exact aB Aa6 I Tryz.func74 I I I I I I λiE=>Wk⟩
abbrev AeX (a_:(List aA)) (r:Bool):aE:=(aE.ret (.d (.bool r)) [[.d (lC a_)]])
instance {y:(List aA)} {a_:(List aA)}:Ok (uV y a_) λr=>aval X 155 [.d (lC y),.ptr 0 0] [[.d (lC a_)]] ((AeX a_) r):=⟨λh=>by
 unfold uV at h
 exact aB (AeX a_) I Tryz.func155 I I I I I I λiE=>Wk⟩
abbrev dX (b:(List aA)) (r:Int):aE:=(aE.ret (.d (iZ r)) [[.d (lC b)]])
abbrev jS (a:((List (List aA)))×(List aA)×Int) (res:Except (Int) (Unit)):Prop:=match a with|(s,b,x)=>cG X 215 (aM [1,0,1,0,0] (aQ Tryz.f215)) (aH (X.H 215 2) 1) (aK 0 (X.H 215 1000000) 1 (jY X Tryz.f215 1 (dX b) (λ(_:Unit)=>(⟨[],[(0,[.d (lC b)])],1,[],none⟩:St)) res)) ⟨[(0,.d (.list 1 (List.map (kC 3 aD) s))),(1,.c (.fn 155 [0])),(7,.d (iZ (List.length s:Int))),(8,.d (iZ x))],[(0,[.d (lC b)])],1,[],none⟩
instance {a:((List (List aA)))×(List aA)×Int}:Ok (bR a) (jS a):=⟨λh=>bR.partial_correctness jS (by
 rintro P_ IH ⟨s,b,x⟩ res h
 have IH:=Ok.mk' IH
 have iE:eP Tryz.f215 1 _ (dX b):=⟨trivial⟩
 refine lg I ?_
 exact Wk) _ _ h⟩
instance {s:(List (List aA))} {b:(List aA)}:Ok (dZ s b) λr=>aval X 215 [.d (.list 1 (List.map (kC 3 aD) s)),.fn 155 [0]] [[.d (lC b)]] ((dX b) r):=⟨λh=>by
 unfold dZ at h
 exact aB (dX b) I Tryz.func215 I I I I I I λiE=>Wk⟩
abbrev jP (b:(List aA)) (r:Bool):aE:=(aE.ret (.d (.bool r)) [[.d (lC b)]])
instance {s:(List (List aA))} {b:(List aA)}:Ok (cH s b) λr=>aval X 154 [.d (.list 1 (List.map (kC 3 aD) s)),.fn 155 [0]] [[.d (lC b)]] ((jP b) r):=⟨λh=>by
 unfold cH at h
 exact aB (jP b) I Tryz.func154 I I I I I I λiE=>Wk⟩
abbrev AdN (a:Arr×LI×Nat×LI×((List (List aA)))×(List (List aA))×Int×(List aA)) (res:(List (List aA))×(List aA)):Prop:=match a with|(x,x0,x1,b,x2,kept,x3,out1)=>cG X 75 (aM [1,1,1,1,1,0,1,0,0] (aQ Tryz.f75)) (aH (X.H 75 7) 4) (aK 0 (X.H 75 1000000) 4 (iW (λ((kept3,out12):(List (List aA))×(List aA))=>(⟨[(2,.c (.ptr 1 0)),(3,.c (.own 1 (List.map (kC 3 aD) kept3))),(4,.c (.ptr 3 0))],[(3,[.arr 2 x1 1,oC out12]),(1,[oI [],oC []]),(0,[.d (lI x0),.d (lC x.cells)]),(2,[.seq 1 (List.map (D.int .i64) b)])],4,[],none⟩:St)) res)) ⟨[(2,.c (.ptr 1 0)),(3,.c (.own 1 (List.map (kC 3 aD) kept))),(4,.c (.ptr 3 0)),(20,.d (.list 1 (List.map (kC 3 aD) x2))),(21,.d (iZ (List.length x2:Int))),(22,.d (iZ x3))],[(3,[.arr 2 x1 1,oC out1]),(1,[oI [],oC []]),(0,[.d (lI x0),.d (lC x.cells)]),(2,[.seq 1 (List.map (D.int .i64) b)])],4,[],none⟩
instance {a:Arr×LI×Nat×LI×((List (List aA)))×(List (List aA))×Int×(List aA)}:Ok (kI a) (AdN a):=⟨λh=>kI.partial_correctness AdN (by
 rintro P_ IH ⟨x,x0,x1,b,x2,kept,x3,out1⟩ res h
 have IH:=Ok.mk' IH
 refine lg I (ra I (S_ ?_))
 rcases E_ h with ⟨hc,h⟩|⟨hc,h⟩
 ·refine ct I hc (K_ (cn I (N_ (S_ ?_))))
  obtain⟨⟨kept2,out11⟩,hs,h⟩:=B h
  refine hU (λ((kept2,out11):(List (List aA))×(List aA))=>(⟨[(2,.c (.ptr 1 0)),(3,.c (.own 1 (List.map (kC 3 aD) kept2))),(4,.c (.ptr 3 0)),(20,.d (.list 1 (List.map (kC 3 aD) x2))),(21,.d (iZ (List.length x2:Int))),(22,.d (iZ x3))],[(3,[.arr 2 x1 1,oC out11]),(1,[oI [],oC []]),(0,[.d (lI x0),.d (lC x.cells)]),(2,[.seq 1 (List.map (D.int .i64) b)])],4,[],none⟩:St)) (y:=(kept2,out11)) ?_ ?_
  ·replace h:=hs
   refine W_ (S_ (rn 0 I ?_))
   obtain⟨y,hk,h⟩:=B h
   refine po (nB (kC 3 aD) (λ_=>I) hk I I I I I) I I (on (nid':=5) 3 I (rz (S_ (rn 2 I ?_))))
   obtain⟨x4,hk,h⟩:=B h
   have hv:=Ok.ok hk
   refine po (Ag2 (nid':=5) (hv) I I I I I I I I I I I I) I I (on 1 I (rz ?_))
   rcases E_ h with ⟨hc,h⟩|⟨hc,h⟩
   ·refine ct I hc (S_ (rn 3 I ?_))
    obtain⟨kept1,hk,h⟩:=B h
    refine po (BaF hk I I I I I I I I I I I I I ) I I (on 1 I (rz (rn 3 I ?_)))
    obtain⟨l,hk,h⟩:=B h
    refine po (Ag1 hk I I I I I I I I I I I I I I ) I I (on 2 I (O_ (cn I (en I ?_))))
    cases h
    exact .ok I
   refine cf I hc (K_ (cn I (en I ?_)))
   cases h
   exact .ok I
  refine N_ (rn 2 I (O_ (cL.normal ?_)))
  have hv:=Ok.ok h
  exact cB I I hv
 ·refine cf I hc (X_ (fQ.exit (lE.exit (cL.exit (eh I ?_)))))
  cases h
  exact .ok I
 ) _ _ h⟩
instance {a_:Arr}:Ok (uJ a_) λr=>aval X 75 [.d (aI a_)] [] (aE.ret (.d (aI r)) []):=⟨λ{r} h=>by
 unfold uJ at h
 refine lK (tm:=[(0,.d (aI a_))]) (hp:=[]) (n:=0) I Tryz.func75 I I I I I I (ra (nid':=2) I (S_ (rn 1 I ?_)))
 obtain⟨x,hk,h⟩:=B h
 have hv:=Ok.ok hk
 refine po (oA (hv) I I I I I I I I I) I I (on 1 I (rz (S_ (S_ (rn 2 I (po (nC I I I I I I I) I I (on 1 I (rz ?_))))))))
 obtain⟨x0,hs,h⟩:=B h
 refine hU (λ(x0:LI)=>(⟨[(1,.c (.ptr 0 0)),(2,.c (.ptr 1 0))],[(1,[oI [],oC []]),(0,[.d (lI x0),.d (lC x.cells)])],2,[],none⟩:St)) (y:=x0) ?_ ?_
 ·replace h:=hs
  rcases E_ h with ⟨hc,h⟩|⟨hc,h⟩
  ·refine ct I hc (rn 3 I (O_ (cn I ?_)))
   cases h
   exact .ok I
  refine cf I hc (K_ (cn I ?_))
  cases h
  exact .ok I
 ·refine N_ (ra I (S_ (rn 2 I ?_)))
  obtain⟨⟨x1,b⟩,hk,h⟩:=B h
  have hv:=Ok.ok hk
  refine po (Ag2 (nid':=3) (hv) I I I I I I I I I I I I) I I (on (nid':=4) 3 I (rz (S_ (S_ (rn 1 I ?_)))))
  obtain⟨x2,hk,h⟩:=B h
  have hv:=Ok.ok hk
  refine po (oA (hv) I I I I I I I I I) I I (po (nC I I I I I I I) I I (on 1 I (rz ?_)))
  obtain⟨⟨kept3,out12⟩,hs,h⟩:=B h
  refine hU (λ((kept3,out12):(List (List aA))×(List aA))=>(⟨[(2,.c (.ptr 1 0)),(3,.c (.own 1 (List.map (kC 3 aD) kept3))),(4,.c (.ptr 3 0))],[(3,[.arr 2 x1 1,oC out12]),(1,[oI [],oC []]),(0,[.d (lI x0),.d (lC x.cells)]),(2,[.seq 1 (List.map (D.int .i64) b)])],4,[],none⟩:St)) (y:=(kept3,out12)) ?_ ?_
  ·replace h:=hs
   refine W_ (eH ?_)
   have hv:=Ok.ok h
   exact cB I I hv
  ·refine N_ (S_ (rn 3 I (po (nC I I I I I I I) I I ?_)))
   obtain⟨j,hk,h⟩:=B h
   refine po (AcW hk I I I I I) I I ?_
   obtain⟨b1,hk,h⟩:=B h
   refine po (est (D.int .i64) (v:=(List.length kept3:Int)) hk I I (λ_=>⟨I,I,I⟩) I I I I) I I (rz (ra I (R_ ?_)))
   obtain⟨shape,hkFshape,h⟩:=B h
   cases h
   exact .retF I I (Ac1 I I I (mC I (mC (iO (D.int .i64) I hkFshape I I I) Ac3)) Ag3) I
 ⟩
abbrev As3 (r:Arr×Int):aE:=(aE.ret (.tuple [.d (aI r.1),.d (iZ r.2)]) [])
instance Bi1:Jn 39 1 15 (Bool):=⟨λy=>[(15,.d (.bool y))],λy=>[]⟩
instance {op_:Int} {a_:Arr}:Ok (rM op_ a_) λr=>aval X 39 [.d (iZ op_),.d (aI a_)] [] (As3 r):=⟨λh=>by
 unfold rM at h
 exact aB As3 I Tryz.func39 I I I I I I λiE=>Wk⟩
abbrev As1 (r:Arr×Int):aE:=(aE.ret (.tuple [.d (aI r.1),.d (iZ r.2)]) [])
instance BhZ:Jn 15 0 0 (Unit):=⟨λy=>[],λy=>[]⟩
instance {op_:Int} {a_:Arr}:Ok (AaJ op_ a_) λr=>aval X 15 [.d (iZ op_),.d (aI a_)] [] (As1 r):=⟨λh=>by
 unfold AaJ at h
 exact aB As1 I Tryz.func15 I I I I I I λiE=>Wk⟩
abbrev wD (r:LI×Int):aE:=(aE.ret (.tuple [.d (lI r.1),.d (iZ r.2)]) [])
abbrev Ac9 (a:LI×LI×Int) (res:Except (LI×Int) (Unit)):Prop:=match a with|(a_,b,x)=>cG X 107 (aM [1,1,0,1,0,0] (aQ Tryz.f107)) (aH (X.H 107 8) 0) (aK 1 (X.H 107 1000001) 0 (jY X Tryz.f107 0 wD (λ(_:Unit)=>(⟨[(0,.d (lI a_))],[],0,[],none⟩:St)) res)) ⟨[(0,.d (lI a_)),(1,.d (lI b)),(26,.d (iZ (List.length a_:Int))),(27,.d (iZ x))],[],0,[],none⟩
instance {a:LI×LI×Int}:Ok (jG a) (Ac9 a):=⟨λh=>jG.partial_correctness Ac9 (by
 rintro P_ IH ⟨a_,b,x⟩ res h
 have IH:=Ok.mk' IH
 have iE:eP Tryz.f107 0 _ wD:=⟨trivial⟩
 refine lg I ?_
 exact Wk) _ _ h⟩
instance {a_:LI} {b:LI}:Ok (sI a_ b) λr=>aval X 107 [.d (lI a_),.d (lI b)] [] (wD r):=⟨λh=>by
 unfold sI at h
 exact aB wD I Tryz.func107 I I I I I I λiE=>Wk⟩
abbrev pY (r:Arr×Int):aE:=(aE.ret (.tuple [.d (aI r.1),.d (iZ r.2)]) [])
instance BfP:Jn 47 1 88 (Int×Int×(List Arr)):=⟨λy=>[],λy=>[(12,[(0,.d (iZ y.1)),(1,.d (iZ y.2.1)),(2,.d (.list 2 (List.map aY y.2.2)))])]⟩
instance BfQ:Jn 47 1 97 (Int×Int×(List Arr)):=⟨λy=>[],λy=>[(13,[(0,.d (iZ y.1)),(1,.d (iZ y.2.1)),(2,.d (.list 2 (List.map aY y.2.2)))])]⟩
instance BfR:Jn 47 1 70 (Int):=⟨λy=>[(13,.d (iZ y))],λy=>[]⟩
abbrev AgF (a:Int×Arr×Arr×Int) (res:Except (Arr×Int) (Unit)):Prop:=match a with|(op_,a_,b,x)=>cG X 47 (aM [1,0,1,0,0] (aQ Tryz.f47)) (aH (X.H 47 2) 3) (aK 0 (X.H 47 1000000) 3 (jY X Tryz.f47 0 pY (λ(_:Unit)=>(⟨[(0,.d (iZ op_)),(4,.c (.ptr 0 0)),(5,.c (.ptr 1 0)),(6,.c (.ptr 2 0))],[(2,[oI [],oC []]),(1,[.d (lI b.shape),.d (lC b.cells)]),(0,[.d (lI a_.shape),.d (lC a_.cells)])],3,[],none⟩:St)) res)) ⟨[(0,.d (iZ op_)),(4,.c (.ptr 0 0)),(5,.c (.ptr 1 0)),(6,.c (.ptr 2 0)),(22,.c (.full 2 (List.map aY [a_,b]))),(23,.d (iZ (List.length [a_,b]:Int))),(24,.d (iZ x))],[(2,[oI [],oC []]),(1,[.d (lI b.shape),.d (lC b.cells)]),(0,[.d (lI a_.shape),.d (lC a_.cells)])],3,[],none⟩
instance {a:Int×Arr×Arr×Int}:Ok (kT a) (AgF a):=⟨λh=>kT.partial_correctness AgF (by
 rintro P_ IH ⟨op_,a_,b,x⟩ res h
 have IH:=Ok.mk' IH
 have iE:eP Tryz.f47 0 _ pY:=⟨trivial⟩
 refine lg I ?_
 exact Wk) _ _ h⟩
abbrev AgG (a:Int×Arr×Arr×LI×Int×(List aA)) (res:Except (Arr×Int) (List aA)):Prop:=match a with|(op_,a_,b,shape,x2,out1)=>cG X 47 (aM [1,1,1,1,1,1,1,1,1,0,1,0,0] (aQ Tryz.f47)) (aH (X.H 47 20) 4) (aK 2 (X.H 47 1000002) 4 (jY X Tryz.f47 0 pY (λ(out11:(List aA))=>(⟨[(6,.c (.ptr 2 0)),(14,.c (.ptr 3 0))],[(3,[.d (lI shape),oC out11]),(2,[oI [],oC []]),(1,[.d (lI b.shape),.d (lC b.cells)]),(0,[.d (lI a_.shape),.d (lC a_.cells)])],4,[],none⟩:St)) res)) ⟨[(0,.d (iZ op_)),(4,.c (.ptr 0 0)),(5,.c (.ptr 1 0)),(6,.c (.ptr 2 0)),(14,.c (.ptr 3 0)),(73,.d (iZ 0)),(74,.d (iZ x2))],[(3,[.d (lI shape),oC out1]),(2,[oI [],oC []]),(1,[.d (lI b.shape),.d (lC b.cells)]),(0,[.d (lI a_.shape),.d (lC a_.cells)])],4,[],none⟩
instance {a:Int×Arr×Arr×LI×Int×(List aA)}:Ok (sK a) (AgG a):=⟨λh=>sK.partial_correctness AgG (by
 rintro P_ IH ⟨op_,a_,b,shape,x2,out1⟩ res h
 have IH:=Ok.mk' IH
 have iE:eP Tryz.f47 0 _ pY:=⟨trivial⟩
 refine lg I ?_
 exact Wk) _ _ h⟩
abbrev AgH (a:Int×Arr×Arr×LI×Int×Int×(List aA)) (res:Except (Arr×Int) (List aA)):Prop:=match a with|(op_,a_,b,shape,n,x4,out12)=>cG X 47 (aM [1,1,1,1,1,1,1,1,1,0,1,0,0] (aQ Tryz.f47)) (aH (X.H 47 20) 4) (aK 2 (X.H 47 1000002) 4 (jY X Tryz.f47 0 pY (λ(out13:(List aA))=>(⟨[(6,.c (.ptr 2 0)),(14,.c (.ptr 3 0))],[(3,[.d (lI shape),oC out13]),(2,[oI [],oC []]),(1,[.d (lI b.shape),.d (lC b.cells)]),(0,[.d (lI a_.shape),.d (lC a_.cells)])],4,[],none⟩:St)) res)) ⟨[(0,.d (iZ op_)),(4,.c (.ptr 0 0)),(5,.c (.ptr 1 0)),(6,.c (.ptr 2 0)),(14,.c (.ptr 3 0)),(73,.d (iZ n)),(74,.d (iZ x4))],[(3,[.d (lI shape),oC out12]),(2,[oI [],oC []]),(1,[.d (lI b.shape),.d (lC b.cells)]),(0,[.d (lI a_.shape),.d (lC a_.cells)])],4,[],none⟩
instance {a:Int×Arr×Arr×LI×Int×Int×(List aA)}:Ok (nF a) (AgH a):=⟨λh=>nF.partial_correctness AgH (by
 rintro P_ IH ⟨op_,a_,b,shape,n,x4,out12⟩ res h
 have IH:=Ok.mk' IH
 have iE:eP Tryz.f47 0 _ pY:=⟨trivial⟩
 refine lg I ?_
 exact Wk) _ _ h⟩
instance {op_:Int} {a_:Arr} {b:Arr}:Ok (zA op_ a_ b) λr=>aval X 47 [.d (iZ op_),.d (aI a_),.d (aI b)] [] (pY r):=⟨λh=>by
 unfold zA at h
 exact aB pY I Tryz.func47 I I I I I I λiE=>Wk⟩
abbrev xT (r:Int):aE:=(aE.ret (.d (iZ r)) [])
abbrev zZ (a:LI×Int×Int) (res:Int):Prop:=match a with|(a_,m1,i)=>cG X 164 (aM [1,1,1,0,1,0,0] (aQ Tryz.f164)) (aH (X.H 164 5) 0) (aK 0 (X.H 164 1000000) 0 (iW (λ(m2:Int)=>(⟨[(3,.d (iZ m2))],[],0,[],none⟩:St)) res)) ⟨[(0,.d (lI a_)),(3,.d (iZ m1)),(4,.d (iZ i))],[],0,[],none⟩
instance {a:LI×Int×Int}:Ok (gM a) (zZ a):=⟨λh=>gM.partial_correctness zZ (by
 rintro P_ IH ⟨a_,m1,i⟩ res h
 have IH:=Ok.mk' IH
 have iE:eP Tryz.f164 0 _ xT:=⟨trivial⟩
 refine lg I ?_
 exact Wk) _ _ h⟩
instance {a_:LI}:Ok (pX a_) λr=>aval X 164 [.d (lI a_)] [] (xT r):=⟨λh=>by
 unfold pX at h
 exact aB xT I Tryz.func164 I I I I I I λiE=>Wk⟩
abbrev uT (r:LI×Int):aE:=(aE.ret (.tuple [.d (lI r.1),.d (iZ r.2)]) [])
abbrev AbC (a:Arr×LI×Int) (res:Except (LI×Int) LI):Prop:=match a with|(s,shape1,x)=>cG X 95 (aM [1,1,1,0,1,0,0] (aQ Tryz.f95)) (aH (X.H 95 5) 1) (aK 0 (X.H 95 1000000) 1 (jY X Tryz.f95 0 uT (λ(shape3:LI)=>(⟨[(4,.c (.own 1 (List.map (D.int .i64) shape3)))],[(0,[.d (lI s.shape),.d (lC s.cells)])],1,[],none⟩:St)) res)) ⟨[(4,.c (.own 1 (List.map (D.int .i64) shape1))),(16,.d (lC s.cells)),(17,.d (iZ (List.length s.cells:Int))),(18,.d (iZ x))],[(0,[.d (lI s.shape),.d (lC s.cells)])],1,[],none⟩
instance {a:Arr×LI×Int}:Ok (iF a) (AbC a):=⟨λh=>iF.partial_correctness AbC (by
 rintro P_ IH ⟨s,shape1,x⟩ res h
 have IH:=Ok.mk' IH
 have iE:eP Tryz.f95 0 _ uT:=⟨trivial⟩
 refine lg I ?_
 exact Wk) _ _ h⟩
instance {s:Arr}:Ok (rE s) λr=>aval X 95 [.d (aI s)] [] (uT r):=⟨λh=>by
 unfold rE at h
 exact aB uT I Tryz.func95 I I I I I I λiE=>Wk⟩
abbrev mX (r:Arr×Int):aE:=(aE.ret (.tuple [.d (aI r.1),.d (iZ r.2)]) [])
abbrev zS (a:Arr×Arr×Int) (res:Except (Arr×Int) (Unit)):Prop:=match a with|(s,a_,x)=>cG X 44 (aM [1,0,1,0,0] (aQ Tryz.f44)) (aH (X.H 44 2) 3) (aK 0 (X.H 44 1000000) 3 (jY X Tryz.f44 0 mX (λ(_:Unit)=>(⟨[(2,.c (.ptr 0 0)),(3,.c (.ptr 1 0)),(4,.c (.ptr 2 0))],[(2,[oI [],oC []]),(1,[.d (lI a_.shape),.d (lC a_.cells)]),(0,[.d (lI s.shape),.d (lC s.cells)])],3,[],none⟩:St)) res)) ⟨[(2,.c (.ptr 0 0)),(3,.c (.ptr 1 0)),(4,.c (.ptr 2 0)),(16,.c (.full 2 (List.map aY [s,a_]))),(17,.d (iZ (List.length [s,a_]:Int))),(18,.d (iZ x))],[(2,[oI [],oC []]),(1,[.d (lI a_.shape),.d (lC a_.cells)]),(0,[.d (lI s.shape),.d (lC s.cells)])],3,[],none⟩
instance {a:Arr×Arr×Int}:Ok (gI a) (zS a):=⟨λh=>gI.partial_correctness zS (by
 rintro P_ IH ⟨s,a_,x⟩ res h
 have IH:=Ok.mk' IH
 have iE:eP Tryz.f44 0 _ mX:=⟨trivial⟩
 refine lg I ?_
 exact Wk) _ _ h⟩
abbrev zT (a:Arr×Arr×LI×Int×Int×(List aA)) (res:(List aA)):Prop:=match a with|(s,a_,shape,n,x1,out1)=>cG X 44 (aM [1,1,1,1,1,1,1,1,0,1,0,0] (aQ Tryz.f44)) (aH (X.H 44 18) 4) (aK 2 (X.H 44 1000002) 4 (iW (λ(out11:(List aA))=>(⟨[(4,.c (.ptr 2 0)),(12,.c (.ptr 3 0))],[(3,[.d (lI shape),oC out11]),(2,[oI [],oC []]),(1,[.d (lI a_.shape),.d (lC a_.cells)]),(0,[.d (lI s.shape),.d (lC s.cells)])],4,[],none⟩:St)) res)) ⟨[(3,.c (.ptr 1 0)),(4,.c (.ptr 2 0)),(12,.c (.ptr 3 0)),(58,.d (iZ n)),(59,.d (iZ x1))],[(3,[.d (lI shape),oC out1]),(2,[oI [],oC []]),(1,[.d (lI a_.shape),.d (lC a_.cells)]),(0,[.d (lI s.shape),.d (lC s.cells)])],4,[],none⟩
instance {a:Arr×Arr×LI×Int×Int×(List aA)}:Ok (gK a) (zT a):=⟨λh=>gK.partial_correctness zT (by
 rintro P_ IH ⟨s,a_,shape,n,x1,out1⟩ res h
 have IH:=Ok.mk' IH
 have iE:eP Tryz.f44 0 _ mX:=⟨trivial⟩
 refine lg I ?_
 exact Wk) _ _ h⟩
abbrev zU (a:Arr×Arr×LI×Int×Int×(List aA)) (res:(List aA)):Prop:=match a with|(s,a_,shape,n,x3,out12)=>cG X 44 (aM [1,1,1,1,1,1,1,1,0,1,0,0] (aQ Tryz.f44)) (aH (X.H 44 18) 4) (aK 2 (X.H 44 1000002) 4 (iW (λ(out13:(List aA))=>(⟨[(4,.c (.ptr 2 0)),(12,.c (.ptr 3 0))],[(3,[.d (lI shape),oC out13]),(2,[oI [],oC []]),(1,[.d (lI a_.shape),.d (lC a_.cells)]),(0,[.d (lI s.shape),.d (lC s.cells)])],4,[],none⟩:St)) res)) ⟨[(3,.c (.ptr 1 0)),(4,.c (.ptr 2 0)),(12,.c (.ptr 3 0)),(58,.d (iZ n)),(59,.d (iZ x3))],[(3,[.d (lI shape),oC out12]),(2,[oI [],oC []]),(1,[.d (lI a_.shape),.d (lC a_.cells)]),(0,[.d (lI s.shape),.d (lC s.cells)])],4,[],none⟩
instance {a:Arr×Arr×LI×Int×Int×(List aA)}:Ok (mE a) (zU a):=⟨λh=>mE.partial_correctness zU (by
 rintro P_ IH ⟨s,a_,shape,n,x3,out12⟩ res h
 have IH:=Ok.mk' IH
 have iE:eP Tryz.f44 0 _ mX:=⟨trivial⟩
 refine lg I ?_
 exact Wk) _ _ h⟩
instance {s:Arr} {a_:Arr}:Ok (pS s a_) λr=>aval X 44 [.d (aI s),.d (aI a_)] [] (mX r):=⟨λh=>by
 unfold pS at h
 exact aB mX I Tryz.func44 I I I I I I λiE=>Wk⟩
abbrev Ae7 (r:Int):aE:=(aE.ret (.d (iZ r)) [])
abbrev Af7 (a:Arr×LI×Int×Int) (res:Int):Prop:=match a with|(a_,l,n,x)=>cG X 168 (aM [1,1,0,1,0,0] (aQ Tryz.f168)) (aH (X.H 168 3) 1) (aK 0 (X.H 168 1000000) 1 (iW (λ(n1:Int)=>(⟨[(3,.d (iZ n1))],[(0,[.d (lI a_.shape),.d (lC a_.cells)])],1,[],none⟩:St)) res)) ⟨[(3,.d (iZ n)),(8,.d (lI l)),(9,.d (iZ (List.length l:Int))),(10,.d (iZ x))],[(0,[.d (lI a_.shape),.d (lC a_.cells)])],1,[],none⟩
instance {a:Arr×LI×Int×Int}:Ok (lQ a) (Af7 a):=⟨λh=>lQ.partial_correctness Af7 (by
 rintro P_ IH ⟨a_,l,n,x⟩ res h
 have IH:=Ok.mk' IH
 have iE:eP Tryz.f168 0 _ Ae7:=⟨trivial⟩
 refine lg I ?_
 exact Wk) _ _ h⟩
instance {a_:Arr}:Ok (qQ a_) λr=>aval X 168 [.d (aI a_)] [] (Ae7 r):=⟨λh=>by
 unfold qQ at h
 exact aB Ae7 I Tryz.func168 I I I I I I λiE=>Wk⟩
instance {a_:Arr} {from_:Int} {n:Int}:Ok (kO a_ from_ n) λr=>aval X 171 [.d (aI a_),.d (iZ from_),.d (iZ n)] [] (aE.ret (.d (aI r)) []):=⟨λ{r} h=>by
 unfold kO at h
 refine lK (tm:=[(0,.d (aI a_)),(1,.d (iZ from_)),(2,.d (iZ n))]) (hp:=[]) (n:=0) I Tryz.func171 I I I I I I (ra (nid':=2) I (S_ (rn 1 I ?_)))
 obtain⟨k,hk,h⟩:=B h
 have hv:=Ok.ok hk
 refine po (oA (hv) I I I I I I I I I) I I (on 1 I (rz (S_ (drn (m:=15) 4 I I ?_))))
 obtain⟨l,hk,h⟩:=B h
 refine pd (AlL hk I I I I I I) I I I I I ?_
 obtain⟨l1,hk,h⟩:=B h
 refine pd (Aw9 hk I I I I I I I I I I I I ) I I I I I (don 3 I ?_)
 obtain⟨l2,hk,h⟩:=B h
 refine pdm aD (aA.mk 0 0 []) hk I I I I I I I I I I I I I I I (don 3 I (dz (by kernel_rfl) (S_ (drn (m:=29) 12 I I ?_))))
 obtain⟨l3,hk,h⟩:=B h
 refine pd (As6 hk I I I I I I I) I I I I I ?_
 obtain⟨l4,hk,h⟩:=B h
 refine pd (BhL aD hk I I I I I I I I I I ) I I I I I (dz (by kernel_rfl) (ra I (R_ ?_)))
 obtain⟨cells,hkFcells,h⟩:=B h
 cases h
 exact .retF I I (Ac1 I I I (mC (iO aD I hkFcells I I I) (mC I Ac3)) Ag3) I
 ⟩
abbrev Ai7 (r:Arr):aE:=(aE.ret (.d (aI r)) [])
instance Bd0:Jn 169 1 6 LI:=⟨λy=>[],λy=>[(0,[(0,.d (lI y))])]⟩
instance {a_:Arr}:Ok (hC a_) λr=>aval X 169 [.d (aI a_)] [] (Ai7 r):=⟨λh=>by
 unfold hC at h
 exact aB Ai7 I Tryz.func169 I I I I I I λiE=>Wk⟩
abbrev AmX (r:Arr):aE:=(aE.ret (.d (aI r)) [])
instance {n:Int} {a_:Arr}:Ok (zC n a_) λr=>aval X 104 [.d (iZ n),.d (aI a_)] [] (AmX r):=⟨λh=>by
 unfold zC at h
 exact aB AmX I Tryz.func104 I I I I I I λiE=>Wk⟩
abbrev yP (r:Arr×Int):aE:=(aE.ret (.tuple [.d (aI r.1),.d (iZ r.2)]) [])
abbrev AgP (a:Arr×Arr×Int) (res:Except (Arr×Int) (Unit)):Prop:=match a with|(l,a_,x)=>cG X 100 (aM [1,1,0,1,0,0] (aQ Tryz.f100)) (aH (X.H 100 4) 3) (aK 0 (X.H 100 1000000) 3 (jY X Tryz.f100 0 yP (λ(_:Unit)=>(⟨[(2,.c (.ptr 0 0)),(3,.c (.ptr 1 0)),(4,.c (.ptr 2 0))],[(2,[oI [],oC []]),(1,[.d (lI a_.shape),.d (lC a_.cells)]),(0,[.d (lI l.shape),.d (lC l.cells)])],3,[],none⟩:St)) res)) ⟨[(2,.c (.ptr 0 0)),(3,.c (.ptr 1 0)),(4,.c (.ptr 2 0)),(31,.d (lC l.cells)),(32,.d (iZ (List.length l.cells:Int))),(33,.d (iZ x))],[(2,[oI [],oC []]),(1,[.d (lI a_.shape),.d (lC a_.cells)]),(0,[.d (lI l.shape),.d (lC l.cells)])],3,[],none⟩
instance {a:Arr×Arr×Int}:Ok (nO a) (AgP a):=⟨λh=>nO.partial_correctness AgP (by
 rintro P_ IH ⟨l,a_,x⟩ res h
 have IH:=Ok.mk' IH
 have iE:eP Tryz.f100 0 _ yP:=⟨trivial⟩
 refine lg I ?_
 exact Wk) _ _ h⟩
abbrev AgQ (a:Arr×Arr×LI×Int×Int×(List aA)) (res:(List aA)):Prop:=match a with|(l,a_,l3,k,x2,out1)=>cG X 100 (aM [1,1,1,1,1,1,0,1,0,0] (aQ Tryz.f100)) (aH (X.H 100 17) 14) (aK 3 (X.H 100 1000003) 14 (iW (λ(out11:(List aA))=>(⟨[(4,.c (.ptr 2 0)),(8,.c (.ptr 12 0))],[(12,[.d (lI l3),oC out11]),(2,[oI [],oC []]),(1,[.d (lI a_.shape),.d (lC a_.cells)]),(0,[.d (lI l.shape),.d (lC l.cells)])],14,[],none⟩:St)) res)) ⟨[(3,.c (.ptr 1 0)),(4,.c (.ptr 2 0)),(8,.c (.ptr 12 0)),(11,.d (iZ k)),(79,.d (lC l.cells)),(80,.d (iZ (List.length l.cells:Int))),(81,.d (iZ x2))],[(12,[.d (lI l3),oC out1]),(2,[oI [],oC []]),(1,[.d (lI a_.shape),.d (lC a_.cells)]),(0,[.d (lI l.shape),.d (lC l.cells)])],14,[],none⟩
instance {a:Arr×Arr×LI×Int×Int×(List aA)}:Ok (kW a) (AgQ a):=⟨λh=>kW.partial_correctness AgQ (by
 rintro P_ IH ⟨l,a_,l3,k,x2,out1⟩ res h
 have IH:=Ok.mk' IH
 have iE:eP Tryz.f100 0 _ yP:=⟨trivial⟩
 refine lg I ?_
 exact Wk) _ _ h⟩
instance {l:Arr} {a_:Arr}:Ok (vV l a_) λr=>aval X 100 [.d (aI l),.d (aI a_)] [] (yP r):=⟨λh=>by
 unfold vV at h
 exact aB yP I Tryz.func100 I I I I I I λiE=>Wk⟩
abbrev AcV (r:Arr):aE:=(aE.ret (.d (aI r)) [])
abbrev AdM (a:Arr×LI×Int×Int×(List aA)) (res:(List aA)):Prop:=match a with|(a_,shape,n,x1,out1)=>cG X 217 (aM [1,1,1,0,1,0,0] (aQ Tryz.f217)) (aH (X.H 217 4) 3) (aK 0 (X.H 217 1000000) 3 (iW (λ(out11:(List aA))=>(⟨[(4,.c (.ptr 1 0)),(7,.c (.ptr 2 0))],[(2,[.d (lI shape),oC out11]),(1,[oI [],oC []]),(0,[.d (lI a_.shape),.d (lC a_.cells)])],3,[],none⟩:St)) res)) ⟨[(2,.c (.ptr 0 0)),(4,.c (.ptr 1 0)),(7,.c (.ptr 2 0)),(15,.d (iZ n)),(16,.d (iZ x1))],[(2,[.d (lI shape),oC out1]),(1,[oI [],oC []]),(0,[.d (lI a_.shape),.d (lC a_.cells)])],3,[],none⟩
instance {a:Arr×LI×Int×Int×(List aA)}:Ok (kH a) (AdM a):=⟨λh=>kH.partial_correctness AdM (by
 rintro P_ IH ⟨a_,shape,n,x1,out1⟩ res h
 have IH:=Ok.mk' IH
 have iE:eP Tryz.f217 0 _ AcV:=⟨trivial⟩
 refine lg I ?_
 exact Wk) _ _ h⟩
instance {a_:Arr} {shape:LI}:Ok (jD a_ shape) λr=>aval X 217 [.d (aI a_),.d (lI shape)] [] (AcV r):=⟨λh=>by
 unfold jD at h
 exact aB AcV I Tryz.func217 I I I I I I λiE=>Wk⟩
abbrev AmY (r:LI):aE:=(aE.ret (.d (lI r)) [])
instance {shape:LI} {axis:Int}:Ok (p_pick_with shape axis) λr=>aval X 218 [.d (lI shape),.d (iZ axis)] [] (AmY r):=⟨λh=>by
 unfold p_pick_with at h
 exact aB AmY I Tryz.func218 I I I I I I λiE=>Wk⟩
abbrev AfY (r:LI):aE:=(aE.ret (.d (lI r)) [])
instance {shape:LI} {axis:Int}:Ok (p_pick_without shape axis) λr=>aval X 219 [.d (lI shape),.d (iZ axis)] [] (AfY r):=⟨λh=>by
 unfold p_pick_without at h
 exact aB AfY I Tryz.func219 I I I I I I λiE=>Wk⟩
abbrev vK (r:Arr×Arr×Int×Int):aE:=(aE.ret (.tuple [.d (aI r.1),.d (aI r.2.1),.d (iZ r.2.2.1),.d (iZ r.2.2.2)]) [])
instance BfV:Jn 167 1 29 (Int):=⟨λy=>[(10,.d (iZ y))],λy=>[]⟩
instance BfW:Jn 167 0 0 (LI×(List aA)×LI×(List aA)):=⟨λy=>[],λy=>[(0,[(0,.d (lI y.2.2.1)),(1,.d (lC y.2.2.2))]),(1,[(0,.d (lI y.1)),(1,.d (lC y.2.1))])]⟩
abbrev AgR (a:Int×LI×(List aA)×LI×(List aA)×LI×LI×Int) (res:Except (Arr×Arr×Int×Int) (Unit)):Prop:=match a with|(axis,x0,x11,x01,x12,x10,y,x13)=>cG X 167 (aM [1,1,1,1,1,1,0,1,0,0] (aQ Tryz.f167)) (aH (X.H 167 19) 14) (aK 1 (X.H 167 1000001) 14 (jY X Tryz.f167 0 vK (λ(_:Unit)=>(⟨[(3,.c (.ptr 0 0)),(4,.c (.ptr 1 0)),(6,.c (.ptr 2 0)),(7,.c (.ptr 3 0)),(10,.d (iZ axis))],[(3,[oI [],oC []]),(2,[oI [],oC []]),(1,[.d (lI x0),.d (lC x11)]),(0,[.d (lI x01),.d (lC x12)])],14,[],none⟩:St)) res)) ⟨[(3,.c (.ptr 0 0)),(4,.c (.ptr 1 0)),(6,.c (.ptr 2 0)),(7,.c (.ptr 3 0)),(10,.d (iZ axis)),(12,.d (lI x10)),(13,.d (lI y)),(101,.d (iZ (List.length x10:Int))),(102,.d (iZ x13))],[(3,[oI [],oC []]),(2,[oI [],oC []]),(1,[.d (lI x0),.d (lC x11)]),(0,[.d (lI x01),.d (lC x12)])],14,[],none⟩
instance {a:Int×LI×(List aA)×LI×(List aA)×LI×LI×Int}:Ok (nP a) (AgR a):=⟨λh=>nP.partial_correctness AgR (by
 rintro P_ IH ⟨axis,x0,x11,x01,x12,x10,y,x13⟩ res h
 have IH:=Ok.mk' IH
 have iE:eP Tryz.f167 0 _ vK:=⟨trivial⟩
 refine lg I ?_
 exact Wk) _ _ h⟩
abbrev AgS (a:Int×LI×(List aA)×LI×(List aA)×LI×LI×Int) (res:Except (Arr×Arr×Int×Int) (Unit)):Prop:=match a with|(axis1,x02,x110,x03,x111,x22,y3,x23)=>cG X 167 (aM [1,1,1,1,1,1,0,1,0,0] (aQ Tryz.f167)) (aH (X.H 167 19) 14) (aK 1 (X.H 167 1000001) 14 (jY X Tryz.f167 0 vK (λ(_:Unit)=>(⟨[(3,.c (.ptr 0 0)),(4,.c (.ptr 1 0)),(6,.c (.ptr 2 0)),(7,.c (.ptr 3 0)),(10,.d (iZ axis1))],[(3,[oI [],oC []]),(2,[oI [],oC []]),(1,[.d (lI x02),.d (lC x110)]),(0,[.d (lI x03),.d (lC x111)])],14,[],none⟩:St)) res)) ⟨[(3,.c (.ptr 0 0)),(4,.c (.ptr 1 0)),(6,.c (.ptr 2 0)),(7,.c (.ptr 3 0)),(10,.d (iZ axis1)),(12,.d (lI x22)),(13,.d (lI y3)),(101,.d (iZ (List.length x22:Int))),(102,.d (iZ x23))],[(3,[oI [],oC []]),(2,[oI [],oC []]),(1,[.d (lI x02),.d (lC x110)]),(0,[.d (lI x03),.d (lC x111)])],14,[],none⟩
instance {a:Int×LI×(List aA)×LI×(List aA)×LI×LI×Int}:Ok (nQ a) (AgS a):=⟨λh=>nQ.partial_correctness AgS (by
 rintro P_ IH ⟨axis1,x02,x110,x03,x111,x22,y3,x23⟩ res h
 have IH:=Ok.mk' IH
 have iE:eP Tryz.f167 0 _ vK:=⟨trivial⟩
 refine lg I ?_
 exact Wk) _ _ h⟩
instance {a_:Arr} {b:Arr} {last:Bool}:Ok (zD a_ b last) λr=>aval X 167 [.d (aI a_),.d (aI b),.d (.bool last)] [] (vK r):=⟨λh=>by
 unfold zD at h
 exact aB vK I Tryz.func167 I I I I I I λiE=>Wk⟩
end Go.AM.Seat
