/- Part of a proof about the given program: the abstract machine, the printed functions, the plain laws. -/
import Derived.Test.YtbillkiljpkdfaaGreatRunNamesA4
set_option linter.all false
set_option maxRecDepth 100000
set_option maxHeartbeats 4000000
namespace Go.AM.Seat
open Go Go.AM
theorem AmW {l:List Arr} (hf:Few l):∀(r:List Arr) (k:Nat),l.drop k=r->(∀x∈l.take k,Val 0 x)->T (jJ (l,(k:Int))) (λr=>match r with|.error e=>e≠0|.ok _=>∀x∈l,Val 0 x)
 | [],k,h,hv=>by
  rw[jJ]
  simp only[bW (bX h),fJ,if_false]
  have:=List.drop_eq_nil_iff.1 h
  rw[List.take_of_length_le this] at hv
  exact T.ret hv
 |a::r,k,h,hv=>by
  have hk:=bY h
  rw[jJ]
  simp only[cU hk,if_true,bE h,oJ,bJ,bQ h hf,qL]
  refine T.ite (λhe=>T.ret (fM he)) (λhe=>?_)
  refine AmW hf r (k+1) (aX h) ?_
  intro x hx
  rw[List.take_add_one,List.mem_append] at hx
  rcases hx with hx|hx
  ·exact hv x hx
  have hd:l[k]?=some a:=by
   rw[List.drop_eq_getElem_cons (by omega)] at h
   obtain⟨h,_⟩:=List.cons.inj h
   rw[←h]; simp[show k<l.length by omega]
  rw[hd] at hx
  simp only[Option.toList_some,List.mem_singleton] at hx
  subst hx
  exact dQ he
theorem AxJ {l:List Arr} (hf:Few l):T (pM l) (λe=>e=0->∀x∈l,Val 0 x):=by
 unfold pM
 refine T.bind (AmW hf l 0 rfl (by simp)) (λv hv=>?_)
 match v,hv with
 |.error e,h=>exact T.ret λh'=>absurd h' h
 |.ok _,h=>exact T.ret λ_=>h
theorem ApN {l:List aA} (hf:Few l):∀(r:List aA) (k:Nat),l.drop k=r->T (lO (l,(k:Int))) Any
 | [],k,h=>by
  rw[lO]
  simp only[bW (bX h),fJ,if_false]
  exact T.any
 |c::r,k,h=>by
  have hk:=bY h
  rw[lO]
  simp only[cU hk,if_true,bE h,oJ,bJ,bQ h hf]
  refine T.ite (λ_=>T.any) (λ_=>?_)
  refine T.bind (T.lget (Q:=Any) (by omega) (by omega) λ_ _=>trivial) (λ_ _=>?_)
  exact T.ite (λ_=>T.any) (λ_=>ApN hf r (k+1) (aX h))
theorem BgL {l:List aA} (hf:Few l):T (wT l) Any:=by
 unfold wT
 refine T.bind (ApN hf l 0 rfl) (λv _=>?_)
 match v with
 |.error _=>exact T.any
 |.ok _=>exact T.any
structure AuS (a:Arr) (d k:Int) (l:List (List aA)):Prop where
 all:∀r∈l,(r.length:Int)=k/\∀c∈r,c∈a.cells
theorem ApD {a:Arr} {g k:Int} (hk:0<=k) (hk2:k<=16384) (hg:g<=16384) (hN:g*k=a.cells.length) (hle:(a.cells.length:Int)<=16384):∀(d:Nat) (x:Int) (l:List (List aA)),0<=x->x+d=g->(l.length:Int)=x->AuS a g k l ->
  T (lM (a,k,g,l,x)) (λr=>(r.length:Int)=g/\AuS a g k r)
 |0,x,l,h0,h,hl,hi=>by
  rw[lM]
  exact T.ite (λh'=>by simp at h'; omega) (λ_=>T.ret ⟨by omega,hi⟩)
 |d+1,x,l,h0,h,hl,hi=>by
  rw[lM]
  refine T.ite (λ_=>?_) (λh'=>by simp at h'; omega)
  have h1:0<=x*k:=Int.mul_nonneg h0 hk
  have h2:(x+1)*k<=g*k:=Int.mul_le_mul_of_nonneg_right (by omega) hk
  have h3:(x+1)*k=x*k+k:=by rw[Int.add_mul,Int.one_mul]
  rw[Ae6 h0 (by omega),aG (x:=x*k) (by omega) (by omega),aG (x:=(x+1)*k) (by omega) (by omega)]
  refine T.bind (T.val (by unfold Af4; rw[if_pos ⟨h1,by omega,by omega⟩]) (Q:=λv=>v=(a.cells.take ((x+1)*k).toNat).drop (x*k).toNat) rfl) (λv hv=>?_)
  refine T.bind (dS (by simp; omega)) (λw hw=>?_)
  subst hw
  refine ApD hk hk2 hg hN hle d (x+1) _ (by omega) (by omega) (by simp; omega) ⟨?_⟩
  intro r hr
  rcases List.mem_append.1 hr with hr|hr
  ·exact hi.all r hr
  simp only[List.mem_singleton] at hr
  subst hr
  subst hv
  refine⟨by rw[List.length_drop,List.length_take]; omega,λc hc=>List.mem_of_mem_take (List.mem_of_mem_drop hc)⟩
theorem Ba7 {a:Arr} (hv:Val 0 a) (h:0<a.shape.length):T (sY a) (λl=>∃k,(l.length:Int)=a.shape[0]/\(l≠[]->a.shape[0]*k=a.cells.length)/\AuS a a.shape[0] k l):=by
 unfold sY
 have hz:=hv.i.sized
 have hd:=hv.i.dims _ (List.getElem_mem h)
 have hp:=hz.pos _ (List.getElem_mem h)
 have hg:lget a.shape 0=some a.shape[0]:=fV (i:=0) h
 have hle:=hz.hi
 refine T.bind (T.val hg (Q:=λv=>v=a.shape[0]) rfl) (λy hy=>?_)
 subst hy
 refine T.ite (λh0=>T.ret ⟨0,?_,by simp,⟨by simp⟩⟩) (λh0=>?_)
 ·have:a.shape[0]=0:=by simpa using h0
  simp[this]
 have h0:a.shape[0]≠0:=by simpa using h0
 have hprod:=hz.prod
 have e0:a.shape=a.shape[0]::a.shape.drop 1:=by rw[←List.drop_eq_getElem_cons h]; rfl
 rw[e0] at hprod
 simp only[aQ] at hprod
 have hq:(a.cells.length:Int) / a.shape[0]=aQ (a.shape.drop 1):=by rw[←hprod]; exact Int.mul_ediv_cancel_left _ h0
 have hr0:0<=aQ (a.shape.drop 1):=mF λx hx=>hz.pos x (List.mem_of_mem_drop hx)
 have hr1:aQ (a.shape.drop 1)<=a.cells.length:=by
  rw[←hprod]
  have:1*aQ (a.shape.drop 1)<=a.shape[0]*aQ (a.shape.drop 1):=Int.mul_le_mul_of_nonneg_right (by omega) hr0
  omega
 refine T.bind (T.val hg (Q:=λv=>v=a.shape[0]) rfl) (λy hy=>?_)
 subst hy
 refine T.bind (T.val (Ap9 (by omega) (by omega) (by omega)) (Q:=λv=>v=aQ (a.shape.drop 1)) hq) (λk hk=>?_)
 subst hk
 refine T.bind (T.val hg (Q:=λv=>v=a.shape[0]) rfl) (λy hy=>?_)
 subst hy
 refine T.bind (ApD hr0 (by omega) hd hprod hle a.shape[0].toNat 0 [] (by omega) (by omega) (by simp) ⟨by simp⟩) (λl hl=>T.ret ⟨_,hl.1,λ_=>hprod,hl.2⟩)
theorem BaJ {a:Arr} (hv:Val 0 a) {g k:Int} {l:List (List aA)} (h:AuS a g k l) (hk:l≠[]->k<=16384):∀r∈l,An8 r:=λr hr=>
 ⟨by have:=(h.all r hr).1; have:=hk (List.ne_nil_of_mem hr); omega,λc hc=>Bj9 (hv.i.cells c ((h.all r hr).2 c hc))⟩
theorem Ap7 {a:Arr} {down:Bool} {rows:List (List aA)} (hn:rows.length<=16384):∀(d:Nat) (x:Nat) (l:List Int),x+d=rows.length->Dt rows.length rows.length l->T (lK (a,down,rows,(x:Int),l)) (Dt rows.length rows.length)
 |0,x,l,h,hl=>by
  rw[lK]
  exact T.ite (λh'=>by simp at h'; omega) (λ_=>T.ret hl)
 |d+1,x,l,h,hl=>by
  rw[lK]
  simp only[Int.toNat_natCast]
  refine T.ite (λ_=>?_) (λ_=>T.ret hl)
  refine T.bind (oX (by omega) (by omega)) (λj hj=>T.bind (hl.set hj.2 (v:=(x:Int)) (by omega)) (λl2 hl2=>?_))
  rw[aG (x:=(x:Int)+1) (by omega) (by omega)]
  exact Ap7 hn d (x+1) l2 (by omega) hl2
theorem Ap8 {a:Arr} {down:Bool} {rows:List (List aA)} {l:List Int} (hn:rows.length<=16384) (hl:Dt rows.length rows.length l):∀(d:Nat) (x:Nat) (out:List aA),x+d=rows.length->out.length=x->(∀c∈out,uO c)->T (lL (a,down,rows,l,(x:Int),out)) (λr=>r.length=rows.length/\∀c∈r,uO c)
 |0,x,out,h,ho,hc=>by
  rw[lL]
  exact T.ite (λh'=>by simp at h'; omega) (λ_=>T.ret ⟨by omega,hc⟩)
 |d+1,x,out,h,ho,hc=>by
  rw[lL]
  simp only[Int.toNat_natCast]
  refine T.ite (λ_=>?_) (λh'=>by simp at h'; omega)
  refine T.bind (oX (by omega) (by omega)) (λj hj=>T.bind (hl.get hj.2) (λv hv=>?_))
  refine T.bind (dS (by simp; omega)) (λw hw=>?_)
  subst hw
  rw[aG (x:=(x:Int)+1) (by omega) (by omega)]
  refine Ap8 hn hl d (x+1) _ (by omega) (by simp[ho]) ?_
  intro y hy
  rcases List.mem_append.1 hy with hy|hy
  ·exact hc y hy
  simp only[List.mem_singleton] at hy; subst hy; exact .mk _
theorem AtY {a:Arr} {k:Int} {l:List (List aA)} {g:Int} (hz:(a.cells.length:Int)<=16384) (hl:(l.length:Int)=g) (hk:l≠[]->g*k=a.cells.length):l≠[]->k<=16384:=by
 intro hne
 have:=hk hne
 have hg:1<=g:=by have:=List.length_pos_iff.2 hne; omega
 rcases Int.lt_or_le k 0 with h|h
 ·omega
 have:1*k<=g*k:=Int.mul_le_mul_of_nonneg_right hg h
 omega
theorem Bg4 {a:Arr} {down:Bool} {m:Nat} (hv:Val 0 a):T (wR a down) (Res m):=by
 unfold wR
 refine T.ite (λ_=>T.ret (Res.err (by omega))) (λh=>?_)
 have hpos:0<a.shape.length:=by
   have:(a.shape.length:Int)≠0:=by simpa using h
   omega
 refine T.bind (BgL hv.fewc) (λx _=>T.ite (λ_=>T.ret (Res.err (by omega))) (λ_=>?_))
 refine T.bind (Ba7 hv hpos) (λrows hrows=>?_)
 obtain⟨k,h1,h2,h3⟩:=hrows
 have hd:=hv.i.dims _ (List.getElem_mem hpos)
 have hR:=BaJ hv h3 (AtY hv.i.sized.hi h1 h2)
 have hn:rows.length<=16384:=by omega
 refine T.bind (T.val (by unfold mkarr; rw[if_pos (by omega)]) (Q:=Dt rows.length rows.length) ?_) (λby_ hby=>?_)
 ·refine⟨by simp,λv hv=>?_⟩
  have h0:=List.mem_replicate.1 hv
  simp only[Int.toNat_natCast] at h0
  omega
 refine T.bind (Ap7 hn rows.length 0 by_ (by omega) hby) (λb3 hb3=>?_)
 simp only[Int.toNat_natCast]
 refine T.bind (BeU hn hR hb3) (λx3 hx3=>?_)
 refine T.bind (Ap8 hn hx3 rows.length 0 [] (by omega) rfl (by simp)) (λcs hcs=>?_)
 exact T.ret λ_=>AuA (by rw[hcs.1]; exact AdK (by omega) (by omega)) (by simp; omega) hcs.2
theorem AsU {s:List (List aA)} {b:List aA} (hb:An8 b) (hs:s.length<=16384):∀(d:Nat) (k:Nat),k+d=s.length->T (bO (s,b,(k:Int))) Any
 |0,k,h=>by
  rw[bO]
  exact T.ite (λh'=>by simp at h'; omega) (λ_=>T.any)
 |d+1,k,h=>by
  rw[bO]
  refine T.ite (λ_=>?_) (λ_=>T.any)
  refine T.bind (T.lget (Q:=Any) (by omega) (by omega) λ_ _=>trivial) (λy _=>?_)
  unfold uL
  refine T.bind (T.bind (AhP hb) (λ_ _=>T.any)) (λx _=>T.ite (λ_=>T.any) (λ_=>?_))
  rw[aG (by omega) (by omega)]
  exact AsU hb hs d (k+1) (by omega)
theorem BgV {s:List (List aA)} {b:List aA} (hb:An8 b) (hs:s.length<=16384):T (cC s b) Any:=by
 unfold cC dT
 refine T.bind (R:=Any) (T.bind (AsU hb hs s.length 0 (by omega)) (λv _=>?_)) (λ_ _=>T.any)
 match v with
 |.error _=>exact T.any
 |.ok _=>exact T.any
theorem An4 {x a:Arr} {x0:List Int} {n:Nat} {b:List Int} {rows:List (List aA)} {g k:Int} (hv:Val 0 a) (hi:AuS a g k rows) (hR:∀r∈rows,An8 r) (hg:(rows.length:Int)=g) (hgk:rows≠[]->g*k=a.cells.length) (hg2:g<=16384) (hk0:rows≠[]->0<=k) :
  ∀(d:Nat) (i:Nat) (kept:List (List aA)) (out:List aA),i+d=rows.length->kept.length<=i->(out.length:Int)=kept.length*k->(∀c∈out,c∈a.cells) ->
  T (kB (x,x0,n,b,rows,kept,(i:Int),out)) (λr=>r.1.length<=rows.length/\(r.2.length:Int)=r.1.length*k/\∀c∈r.2,c∈a.cells)
 |0,i,kept,out,h,hk,ho,hc=>by
  rw[kB]
  exact T.ite (λh'=>by simp at h'; omega) (λ_=>T.ret ⟨by simp only; omega,ho,hc⟩)
 |d+1,i,kept,out,h,hk,ho,hc=>by
  have hle:=hv.i.sized.hi
  rw[kB]
  refine T.ite (λ_=>?_) (λh'=>by simp at h'; omega)
  refine T.bind (R:=λr=>r.1.length<=i+1/\(r.2.length:Int)=r.1.length*k/\∀c∈r.2,c∈a.cells) ?_ (λr hr=>?_)
  ·refine T.bind (T.lget (Q:=λv=>v∈rows) (by omega) (by omega) λ_ h=>List.mem_of_getElem? h) (λy hy=>?_)
   have hne:=List.ne_nil_of_mem hy
   have k0:=hk0 hne
   refine T.bind (BgV (hR y hy) (by omega)) (λx4 _=>T.ite (λ_=>?_) (λ_=>T.ret ⟨by simp only; omega,ho,hc⟩))
   obtain⟨hy1,hy2⟩:=hi.all y hy
   have hkk:(kept.length:Int)*k<=g*k:=Int.mul_le_mul_of_nonneg_right (by omega) k0
   have hkg:=hgk hne
   have hk1:k<=16384:=AtY hle hg hgk hne
   refine T.bind (dS (by simp; omega)) (λw hw=>?_)
   subst hw
   refine T.bind (dS (by omega)) (λw hw=>?_)
   subst hw
   refine T.ret ⟨by simp; omega,?_,?_⟩
   ·simp only[List.length_append,List.length_singleton]
    rw[Int.natCast_add,Int.natCast_add,Int.add_mul,ho,hy1]; simp
   intro c hc'
   rcases List.mem_append.1 hc' with hc' | hc'
   ·exact hc c hc'
   exact hy2 c hc'
  obtain⟨r1,r2⟩:=r
  obtain⟨g1,g2,g3⟩:=hr
  simp only at g1 g2 g3 ⊢
  rw[aG (by omega) (by omega)]
  exact An4 hv hi hR hg hgk hg2 hk0 d (i+1) r1 r2 (by omega) g1 g2 g3
theorem AnL {a:Arr} (hv:Val 0 a) (h:a.shape=[]):Val 0 (Arr.mk [1] a.cells):=by
 obtain⟨c,hc⟩:=xE hv (by rw[h]; simp)
 refine AlZ ?_ (by simp) hv.i.cells
 rw[hc]
 exact AdK (n:=1) (by omega) (by omega)
theorem Aj4:∀{s:List Int} (h:0<s.length),aQ s=s[0]*aQ (s.drop 1)
 |d::r,_=>rfl
theorem BeR:∀{s:List Int} {v:Int} (h:0<s.length),s.set 0 v=v::s.drop 1
 |d::r,_,_=>rfl
theorem BeZ {a:Arr} {m:Nat} (hv:Val 0 a) (hm:Cw m a.cells):T (uA a) (λr=>Val 0 r/\Cw m r.cells):=by
 unfold uA
 refine T.bind (T.val (sM a 0 hv) (Q:=λv=>v=a) rfl) (λx hx=>?_)
 subst hx
 refine T.bind (R:=λs=>0<s.length/\Val 0 (Arr.mk s x.cells)) (T.ite (λh=>T.ret ?_) (λh=>T.ret ?_)) (λs hs=>?_)
 ·have:x.shape=[]:=List.length_eq_zero_iff.1 (by
    have:(x.shape.length:Int)=0:=by simpa using h
    omega)
  exact⟨by simp,AnL hv this⟩
 ·have:(x.shape.length:Int)≠0:=by simpa using h
  exact⟨by omega,by cases x; exact hv⟩
 obtain⟨hpos,hvs⟩:=hs
 have hz:=hvs.i.sized
 have hrk:s.length<=8:=hz.rank
 have hle:=hz.hi
 have hd0:s[0]<=16384:=hvs.i.dims _ (List.getElem_mem hpos)
 have hp0:0<=s[0]:=hz.pos _ (List.getElem_mem hpos)
 refine T.bind (AgV hrk) (λc hc=>?_)
 subst hc
 refine T.bind (Ba7 hvs hpos) (λrows hrows=>?_)
 obtain⟨k,h1,h2,h3⟩:=hrows
 have h1:(rows.length:Int)=s[0]:=h1
 have hR:=BaJ hvs h3 (AtY hle h1 h2)
 have e0:s=s[0]::s.drop 1:=by rw[←List.drop_eq_getElem_cons hpos]; rfl
 have hprod:s[0]*aQ (s.drop 1)=x.cells.length:=by
  have:=hz.prod
  have e1:aQ s=s[0]*aQ (s.drop 1):=Aj4 hpos
  rw[←e1]; exact this
 have hr0:0<=aQ (s.drop 1):=mF λd hd=>hz.pos d (List.mem_of_mem_drop hd)
 have hk:rows≠[]->k=aQ (s.drop 1):=λhne=>by
  have hg:1<=s[0]:=by have:=List.length_pos_iff.2 hne; omega
  have:s[0]*k=s[0]*aQ (s.drop 1):=by rw[hprod]; exact h2 hne
  exact Int.eq_of_mul_eq_mul_left (by omega) this
 refine T.bind (An4 hvs h3 hR h1 h2 hd0 (λhne=>by rw[hk hne]; exact hr0) rows.length 0 [] [] (by omega) (by simp) (by simp) (by simp)) (λr hr=>?_)
 obtain⟨kept,out⟩:=r
 obtain⟨g1,g2,g3⟩:=hr
 simp only at g1 g2 g3 ⊢
 refine T.bind (oX (n:=s.length) (by omega) (by omega)) (λj hj=>?_)
 obtain rfl:j=0:=by omega
 refine T.bind (T.val (by unfold aset; rw[if_pos hpos]) (Q:=λv=>v=(kept.length:Int)::s.drop 1) (BeR hpos)) (λb1 hb1=>?_)
 subst hb1
 refine T.bind (uP (by simp; omega)) (λsh hsh=>?_)
 subst hsh
 have hdim:∀d∈(kept.length:Int)::s.drop 1,0<=d/\d<=16384:=by
  intro d hd
  rcases List.mem_cons.1 hd with rfl|hd
  ·omega
  exact⟨hz.pos d (List.mem_of_mem_drop hd),hvs.i.dims d (List.mem_of_mem_drop hd)⟩
 have hlen:(out.length:Int)=kept.length*aQ (s.drop 1):=by
  rcases Nat.eq_zero_or_pos kept.length with h0|h0
  ·rw[g2,h0]; simp
  rw[g2,hk (List.ne_nil_of_length_pos (by omega))]
 have hle2:(out.length:Int)<=x.cells.length:=by
  rw[hlen,←hprod]
  exact Int.mul_le_mul_of_nonneg_right (by omega) hr0
 refine T.ret (frv hvs hm ?_ (λd hd=>(hdim d hd).2) λc hc=>.inl (g3 c hc))
 have hle':(x.cells.length:Int)<=16384:=hle
 refine⟨by simp; omega,λd hd=>(hdim d hd).1,hlen.symm,by omega,by omega,λhne d hd=>⟨?_,(hdim d hd).2⟩⟩
 have hx:(x.cells.length:Int)≠0:=by omega
 rcases List.mem_cons.1 hd with rfl|hd
 ·rcases Nat.eq_zero_or_pos kept.length with h0|h0
  ·rw[hlen,h0] at hne; simp at hne
  ·omega
 exact (hz.dim hx d (List.mem_of_mem_drop hd)).1
theorem BeP {op:Int} {a:Arr} {m:Nat} (hm:Cw m a.cells):T (rC op a) (Res m):=by
 unfold rC
 refine T.bind (AxJ (by unfold Few; simp)) (λe he=>?_)
 refine T.ite (λh=>T.ret (Res.err (fM h))) (λh=>?_)
 have hv:Val 0 a:=he (dQ h) a (by simp)
 refine T.bind (R:=Any) (T.ite (λ_=>T.any) (λ_=>T.any)) (λx _=>?_)
 refine T.ite (λ_=>T.bind (Bg4 hv) (λr hr=>T.ret hr)) (λ_=>?_)
 refine T.ite (λ_=>T.bind (BeZ hv hm) (λr hr=>T.ret λ_=>hr)) (λ_=>T.ret (Res.err (by omega)))
theorem AsE {s:List aA} {b:aA} (hs:An8 s):∀(d:Nat) (k:Nat),k+d=s.length->T (bS (s,b,(k:Int))) Any
 |0,k,h=>by
  rw[bS]
  exact T.ite (λh'=>by simp at h'; omega) (λ_=>T.any)
 |d+1,k,h=>by
  have:=hs.len
  rw[bS]
  refine T.ite (λ_=>?_) (λ_=>T.any)
  refine T.bind (T.lget (Q:=λv=>v∈s) (by omega) (by omega) λ_ h=>List.mem_of_getElem? h) (λy hy=>?_)
  unfold wS
  refine T.bind (T.bind (hs.all y hy b) (λ_ _=>T.any)) (λx _=>T.ite (λ_=>T.any) (λ_=>?_))
  rw[aG (by omega) (by omega)]
  exact AsE hs d (k+1) (by omega)
theorem BaF {s:List aA} {b:aA} (hs:An8 s):T (sZ s b) Any:=by
 unfold sZ eA
 refine T.bind (R:=Any) (T.bind (AsE hs s.length 0 (by omega)) (λv _=>?_)) (λ_ _=>T.ite (λ_=>T.any) (λ_=>T.any))
 match v with
 |.error _=>exact T.any
 |.ok _=>exact T.any
theorem ApU {a:Arr} (hv:Val 0 a):An8 a.cells:=⟨by have:=hv.i.sized.hi; omega,λc hc=>Bj9 (hv.i.cells c hc)⟩
theorem AxF {a b:Arr} {n:Nat} {b1:List Int} (hv:Val 0 a) (hb:Val 0 b):∀(d:Nat) (k:Nat) (out:List aA),k+d=b.cells.length->out.length=k->(∀c∈out,uO c)->T (qH (a,b,n,b1,(k:Int),out)) (λr=>r.length=b.cells.length/\∀c∈r,uO c)
 |0,k,out,h,ho,hc=>by
  rw[qH]
  exact T.ite (λh'=>by simp at h'; omega) (λ_=>T.ret ⟨by omega,hc⟩)
 |d+1,k,out,h,ho,hc=>by
  have hle:=hb.i.sized.hi
  rw[qH]
  refine T.ite (λ_=>?_) (λh'=>by simp at h'; omega)
  refine T.bind (T.lget (Q:=Any) (by omega) (by omega) λ_ _=>trivial) (λy _=>?_)
  refine T.bind (BaF (ApU hv)) (λx _=>?_)
  refine T.bind (dS (by simp; omega)) (λw hw=>?_)
  subst hw
  rw[aG (by omega) (by omega)]
  refine AxF hv hb d (k+1) _ (by omega) (by simp[ho]) ?_
  intro y hy
  rcases List.mem_append.1 hy with hy|hy
  ·exact hc y hy
  simp only[List.mem_singleton] at hy; subst hy; exact .mk _
theorem AxG {a b:Arr} {n:Nat} {b1:List Int} (hv:Val 0 a) (hb:Val 0 b):∀(d:Nat) (k:Nat) (out:List aA),k+d=a.cells.length->out.length=k->(∀c∈out,uO c)->T (qI (a,b,n,b1,(k:Int),out)) (λr=>r.length=a.cells.length/\∀c∈r,uO c)
 |0,k,out,h,ho,hc=>by
  rw[qI]
  exact T.ite (λh'=>by simp at h'; omega) (λ_=>T.ret ⟨by omega,hc⟩)
 |d+1,k,out,h,ho,hc=>by
  have hle:=hv.i.sized.hi
  rw[qI]
  refine T.ite (λ_=>?_) (λh'=>by simp at h'; omega)
  refine T.bind (T.lget (Q:=Any) (by omega) (by omega) λ_ _=>trivial) (λy _=>?_)
  refine T.bind (BaF (ApU hb)) (λx _=>?_)
  refine T.bind (R:=Any) (T.ite (λ_=>T.any) (λ_=>T.any)) (λv _=>?_)
  refine T.bind (dS (by simp; omega)) (λw hw=>?_)
  subst hw
  rw[aG (by omega) (by omega)]
  refine AxG hv hb d (k+1) _ (by omega) (by simp[ho]) ?_
  intro y hy
  rcases List.mem_append.1 hy with hy|hy
  ·exact hc y hy
  simp only[List.mem_singleton] at hy; subst hy; exact .mk _
theorem BeO {op:Int} {a b:Arr} {m:Nat}:T (Aa8 op a b) (Res m):=by
 unfold Aa8
 refine T.bind (AxJ (by unfold Few; simp)) (λe he=>?_)
 refine T.ite (λh=>T.ret (Res.err (fM h))) (λh=>?_)
 have hv:Val 0 a:=he (dQ h) a (by simp)
 have hb:Val 0 b:=he (dQ h) b (by simp)
 refine T.ite (λ_=>T.ite (λ_=>T.ret (Res.err (by omega))) (λ_=>?_)) (λ_=>T.ite (λ_=>?_) (λ_=>T.ret (Res.err (by omega))))
 ·refine T.bind (AgV hb.i.sized.rank) (λc hc=>?_)
  subst hc
  refine T.bind (AxF hv hb b.cells.length 0 [] (by omega) rfl (by simp)) (λcs hcs=>?_)
  refine T.bind (uP rfl) (λsh hsh=>?_)
  subst hsh
  exact T.ret λ_=>AuA (by rw[hcs.1]; exact hb.i.sized) hb.i.dims hcs.2
 refine T.bind (AgV hv.i.sized.rank) (λc hc=>?_)
 subst hc
 refine T.bind (AxG hv hb a.cells.length 0 [] (by omega) rfl (by simp)) (λcs hcs=>?_)
 refine T.bind (uP rfl) (λsh hsh=>?_)
 subst hsh
 exact T.ret λ_=>AuA (by rw[hcs.1]; exact hv.i.sized) hv.i.dims hcs.2
theorem sizeS_of {s:List Int} {n:Int} (h:mG s n):kX s=(n,0):=AuM.sizeS_of h
theorem mG.of {s:List Int} {n:Int} (h8:s.length<=8) (h0:∀d∈s,0<=d/\d<=16384) (hp:aQ s=n) (hn:n<=16384):mG s n:=by
 refine⟨h8,λd hd=>(h0 d hd).1,hp,by rw[←hp]; exact mF λd hd=>(h0 d hd).1,hn,λhne d hd=>⟨?_,(h0 d hd).2⟩⟩
 have:=h0 d hd
 by_cases hz:d=0
 ·subst hz
  rw[Aj5 hd] at hp; omega
 omega
theorem ApH {a:Arr} (hv:Val 0 a):T (gW a) (λr=>Val 0 r/\0<r.shape.length/\r.cells=a.cells):=by
 unfold gW
 refine T.bind (R:=λs=>0<s.length/\Val 0 (Arr.mk s a.cells)) (T.ite (λh=>T.ret ?_) (λh=>T.ret ?_)) (λs hs=>T.ret ⟨hs.2,hs.1,rfl⟩)
 ·have:a.shape=[]:=List.length_eq_zero_iff.1 (by
   have:(a.shape.length:Int)=0:=by simpa using h
   omega)
  exact⟨by simp,AnL hv this⟩
 have:(a.shape.length:Int)≠0:=by simpa using h
 exact⟨by omega,by cases a; exact hv⟩
theorem Be8 {a:Arr} (hv:Val 0 a):T (tZ a) Any:=by
 unfold tZ
 refine T.ite (λ_=>T.any) (λh=>?_)
 obtain⟨c,hc⟩:=xE hv (by simpa using h)
 rw[hc]
 refine T.bind (jM (Q:=Any) trivial) (λ_ _=>T.ite (λ_=>T.any) (λ_=>?_))
 exact T.bind (jM (Q:=Any) trivial) (λ_ _=>T.any)
def Am3 (c:aA):Prop:=uO c\/c=aA.mk 1 32 []
theorem Am3.chk {c:aA} (h:Am3 c):AcZ c 0=0:=by
 rcases h with h|rfl
 ·exact h.chk 0
 rfl
theorem Am3.w {c:aA} (h:Am3 c):wC c=0:=by
 rcases h with h|rfl
 ·exact h.w
 rfl
theorem BdU {a:Arr}:T (tX a) (λr=>Am3 r.1):=by
 unfold tX
 refine T.ite (λ_=>T.ret (.inl (.mk _))) (λh=>?_)
 cases hc:a.cells with
 |nil=>rw[hc] at h; simp at h
 |cons c r=>
  refine T.bind (jM (Q:=Any) trivial) (λ_ _=>T.ite (λ_=>T.ret (.inl (.mk _))) (λ_=>?_))
  exact T.bind (jM (Q:=Any) trivial) (λ_ _=>T.ite (λ_=>T.ret (.inr rfl)) (λ_=>T.ret (.inl (.mk _))))
theorem AmP {a:Arr} {l:List Int} (hf:Few l):∀(r:List Int) (k:Nat) (n:Int),l.drop k=r->lF (a,l,n,(k:Int))=some (dM n r)
 | [],k,n,h=>by
  rw[lF]; simp only[bW (bX h),fJ,if_false,dM]
 |d::r,k,n,h=>by
  have hk:=bY h
  rw[lF]
  simp only[cU hk,if_true,bE h,oJ,bJ,bQ h hf,dM]
  exact AmP hf r (k+1) _ (aX h)
theorem AtV {a:Arr} (h8:a.shape.length<=8) (h:0<a.shape.length):T (qG a) (λk=>k=dM 1 (a.shape.drop 1)):=by
 unfold qG
 refine T.bind (T.lfrom (Q:=λv=>v=a.shape.drop 1) (by omega) (by omega) rfl) (λl hl=>?_)
 subst hl
 exact T.bind (T.val (AmP (by unfold Few; simp; omega) (a.shape.drop 1) 0 1 rfl) (Q:=λv=>v=dM 1 (a.shape.drop 1)) rfl) (λv hv=>T.ret hv)
theorem ApZ {a:Arr} (hv:Val 0 a) (h:0<a.shape.length) (hne:a.shape[0]≠0):mG (a.shape.drop 1) (aQ (a.shape.drop 1))/\a.shape[0]*aQ (a.shape.drop 1)=a.cells.length:=by
 have hz:=hv.i.sized
 have hp0:=hz.pos _ (List.getElem_mem h)
 have hprod:a.shape[0]*aQ (a.shape.drop 1)=a.cells.length:=by rw[←Aj4 h]; exact hz.prod
 have hr0:0<=aQ (a.shape.drop 1):=mF λd hd=>hz.pos d (List.mem_of_mem_drop hd)
 have:1*aQ (a.shape.drop 1)<=a.shape[0]*aQ (a.shape.drop 1):=Int.mul_le_mul_of_nonneg_right (by omega) hr0
 have hle:=hz.hi
 have h8:=hz.rank
 exact⟨mG.of (by simp; omega) (λd hd=>⟨hz.pos d (List.mem_of_mem_drop hd),hv.i.dims d (List.mem_of_mem_drop hd)⟩) rfl (by omega),hprod⟩
theorem Ad2 {a:Arr} {f n:Int} {m:Nat} (hv:Val 0 a) (hm:Cw m a.cells) (h:0<a.shape.length) (h0:0<=f) (h1:0<=n) (h2:f+n<=a.shape[0]):T (kI a f n) (λr=>Val 0 r/\Cw m r.cells):=by
 unfold kI
 have hz:=hv.i.sized
 have h8:=hz.rank
 have hd0:=hv.i.dims _ (List.getElem_mem h)
 have hle:=hz.hi
 refine T.bind (AtV h8 h) (λk hk=>?_)
 refine T.bind (T.lfrom (Q:=λv=>v=a.shape.drop 1) (by omega) (by omega) rfl) (λl hl=>?_)
 subst hl
 refine T.bind (dS (by simp; omega)) (λl1 hl1=>?_)
 subst hl1
 have hdims:∀d∈[n]++a.shape.drop 1,0<=d/\d<=16384:=by
  intro d hd
  rcases List.mem_cons.1 hd with rfl|hd
  ·omega
  exact⟨hz.pos d (List.mem_of_mem_drop hd),hv.i.dims d (List.mem_of_mem_drop hd)⟩
 have key:∃p:Int,0<=p/\n*k=n*p/\f*k=f*p/\(f+n)*k=f*p+n*p/\0<=n*p/\0<=f*p/\f*p+n*p<=a.cells.length/\aQ ([n]++a.shape.drop 1)=n*p:=by
  by_cases hne:a.shape[0]=0
  ·have hf:f=0:=by omega
   have hn:n=0:=by omega
   subst hf; subst hn
   refine⟨0,by omega,by simp,by simp,by simp,by simp,by simp,by simp,by simp[aQ]⟩
  obtain⟨hs,hp⟩:=ApZ hv h hne
  rw[jQ hs] at hk
  subst hk
  have:(f+n)*aQ (a.shape.drop 1)<=a.shape[0]*aQ (a.shape.drop 1):=Int.mul_le_mul_of_nonneg_right h2 hs.lo
  rw[hp,Int.add_mul] at this
  exact⟨_,hs.lo,rfl,rfl,Int.add_mul ..,Int.mul_nonneg h1 hs.lo,Int.mul_nonneg h0 hs.lo,this,rfl⟩
 obtain⟨p,_,e1,e2,e3,g1,g2,g3,g4⟩:=key
 rw[aG (x:=f+n) (by omega) (by omega),e1,e2,e3,aG (x:=n*p) (by omega) (by omega),aG (x:=f*p) (by omega) (by omega),aG (x:=f*p+n*p) (by omega) (by omega)]
 refine T.bind (T.val (by unfold mkarr; rw[if_pos (by omega)]) (Q:=λv=>v.length=(n*p).toNat) (by simp)) (λl2 hl2=>?_)
 refine T.bind (T.val (by unfold Af4; rw[if_pos ⟨g2,by omega,by omega⟩]) (Q:=λv=>v=(a.cells.take (f*p+n*p).toNat).drop (f*p).toNat) rfl) (λl3 hl3=>?_)
 have h3:l3.length=(n*p).toNat:=by subst hl3; rw[List.length_drop,List.length_take]; omega
 refine T.bind (T.val (by unfold Ba9; rw[if_pos ⟨hl2,by omega⟩]) (Q:=λv=>v=l3) (by rw[List.drop_of_length_le (by omega)]; simp)) (λl4 hl4=>?_)
 subst hl4
 refine T.bind (uP h3) (λcs hcs=>?_)
 subst hcs
 refine T.ret (frv hv hm ?_ (λd hd=>(hdims d hd).2) λc hc=>.inl ?_)
 ·refine mG.of (by simp; omega) hdims ?_ (by omega)
  rw[g4]; omega
 subst hl3
 exact List.mem_of_mem_take (List.mem_of_mem_drop hc)
theorem Bi4 {a:Arr} {n:Int} {m:Nat} (hv:Val 0 a) (hm:Cw m a.cells):T (yQ n a) (λr=>Val 0 r/\Cw m r.cells):=by
 unfold yQ
 refine T.bind (ApH hv) (λx hx=>?_)
 obtain⟨hvx,hpos,hc⟩:=hx
 have hmx:Cw m x.cells:=by rw[hc]; exact hm
 have hp0:=hvx.i.sized.pos _ (List.getElem_mem hpos)
 have hd0:=hvx.i.dims _ (List.getElem_mem hpos)
 refine T.bind (T.val (fV (i:=0) hpos) (Q:=λv=>v=x.shape[0]) rfl) (λg hg=>?_)
 subst hg
 refine T.ite (λ_=>T.bind (Ad2 hvx hmx hpos (by omega) (by omega) (by omega)) (λr hr=>T.ret hr)) (λh1=>?_)
 rw[aG (x:=(0:Int)-x.shape[0]) (by omega) (by omega)]
 refine T.ite (λ_=>T.bind (Ad2 hvx hmx hpos (by omega) (by omega) (by omega)) (λr hr=>T.ret hr)) (λh2=>?_)
 have h1:n<x.shape[0]:=by simpa using h1
 have h2:(0:Int)-x.shape[0]<n:=by simpa using h2
 rw[aG (x:=x.shape[0]+n) (by omega) (by omega),aG (x:=x.shape[0]-n) (by omega) (by omega)]
 refine T.ite (λh3=>?_) (λh3=>?_)
 ·have h3:n<0:=by simpa using h3
  exact T.bind (Ad2 hvx hmx hpos (by omega) (by omega) (by omega)) (λr hr=>T.ret hr)
 have h3:0<=n:=by simpa using h3
 exact T.bind (Ad2 hvx hmx hpos (by omega) (by omega) (by omega)) (λr hr=>T.ret hr)
theorem AsS {n hv x5:Int} {x:Arr} {sh:List Int} {x4:aA} {N:Nat} (hN:N=Int.toNat (w64 ((w64 ((if n<(w64 (0-n)) then (w64 (0-n)) else n)-hv))*x5))) (hN2:N<=16384) (hf:Am3 x4) :
  ∀(d:Nat) (i:Nat) (l:List aA),i+d=N->l.length=N->(∀c∈l,Am3 c)->T (nH (n,x,hv,sh,x4,x5,(i:Int),l)) (λr=>r.length=N/\∀c∈r,Am3 c)
 |0,i,l,h,hl,hc=>by
  rw[nH,←hN]
  exact T.ite (λh'=>by simp at h'; omega) (λ_=>T.ret ⟨hl,hc⟩)
 |d+1,i,l,h,hl,hc=>by
  rw[nH,←hN]
  refine T.ite (λ_=>?_) (λ_=>T.ret ⟨hl,hc⟩)
  refine T.bind (oX (n:=N) (by omega) (by omega)) (λj hj=>?_)
  refine T.bind (T.val (by unfold aset; rw[if_pos (by omega)]) (Q:=λv=>v=l.set j x4) rfl) (λl2 hl2=>?_)
  subst hl2
  rw[aG (x:=(i:Int)+1) (by omega) (by omega)]
  refine AsS hN hN2 hf d (i+1) _ (by omega) (by simp[hl]) ?_
  intro c hc'
  rcases List.mem_or_eq_of_mem_set hc' with hc' | rfl
  ·exact hc c hc'
  exact hf
theorem BiS {a:Arr} {n:Int} {m:Nat} (hv:Val 0 a) (hm:Cw m a.cells):T (yS n a) (Res m):=by
 unfold yS
 refine T.bind (ApH hv) (λx hx=>?_)
 obtain⟨hvx,hpos,hc⟩:=hx
 have hmx:Cw m x.cells:=by rw[hc]; exact hm
 have hzx:=hvx.i.sized
 have hp0:=hzx.pos _ (List.getElem_mem hpos)
 have hd0:=hvx.i.dims _ (List.getElem_mem hpos)
 have h8:=hzx.rank
 have hle:=hzx.hi
 refine T.ite (λ_=>T.ret (Res.err (by omega))) (λh1=>T.ite (λ_=>T.ret (Res.err (by omega))) (λh2=>?_))
 have h1:n<=16384:=by simpa using h1
 have h2:-16384<=n:=by simpa using h2
 refine T.bind (T.val (fV (i:=0) hpos) (Q:=λv=>v=x.shape[0]) rfl) (λg hg=>?_)
 subst hg
 refine T.bind (T.lfrom (Q:=λv=>v=x.shape.drop 1) (by omega) (by omega) rfl) (λl hl=>?_)
 subst hl
 obtain⟨N,hN⟩:∃N,N=(if n<(w64 (0-n)) then (w64 (0-n)) else n):=⟨_,rfl⟩
 have hN':=hN
 rw[aG (x:=0-n) (by omega) (by omega)] at hN'
 have N0:0<=N:=by split at hN'<;>omega
 have N1:N<=16384:=by split at hN'<;>omega
 rw[←hN]
 refine T.bind (dS (by simp; omega)) (λsh hsh=>?_)
 subst hsh
 refine T.bind (T.val (zN _) (Q:=λv=>v=kX ([N]++x.shape.drop 1)) rfl) (λz hz=>?_)
 obtain⟨z1,z2⟩:=z
 refine T.ite (λhe=>T.ret (Res.err (fM he))) (λhe=>?_)
 have hS:mG ([N]++x.shape.drop 1) z1:=by
  have h':z2=0:=dQ he
  have:=uE (s:=[N]++x.shape.drop 1) (by rw[←hz]; exact h')
  rw[←hz] at this; exact this
 have hdims:∀d∈[N]++x.shape.drop 1,d<=16384:=by
  intro d hd
  rcases List.mem_cons.1 hd with rfl|hd
  ·exact N1
  exact hvx.i.dims d (List.mem_of_mem_drop hd)
 refine T.ite (λh3=>?_) (λh3=>?_)
 ·have h3:N<=x.shape[0]:=by simpa using h3
  rw[aG (x:=x.shape[0]-N) (by omega) (by omega)]
  exact T.ite (λ_=>T.bind (Ad2 hvx hmx hpos (by omega) (by omega) (by omega)) (λr hr=>T.ret λ_=>hr)) (λ_=>T.bind (Ad2 hvx hmx hpos (by omega) (by omega) (by omega)) (λr hr=>T.ret λ_=>hr))
 have h3:x.shape[0]<N:=by simpa using h3
 refine T.bind BdU (λfc hfc=>?_)
 obtain⟨x4,e1⟩:=fc
 refine T.ite (λhe=>T.ret (Res.err (fM he))) (λ_=>?_)
 refine T.bind (AtV h8 hpos) (λk hk=>?_)
 have hp:aQ (x.shape.drop 1)=k/\0<=k/\z1=N*k/\x.shape[0]*k=x.cells.length:=by
  have hr0:0<=aQ (x.shape.drop 1):=mF λd hd=>hzx.pos d (List.mem_of_mem_drop hd)
  have hz1:=hS.prod
  have hz2:=hS.hi
  simp only[List.singleton_append,aQ] at hz1
  have:1*aQ (x.shape.drop 1)<=N*aQ (x.shape.drop 1):=Int.mul_le_mul_of_nonneg_right (by omega) hr0
  have hs:mG (x.shape.drop 1) (aQ (x.shape.drop 1)):=mG.of (by simp; omega) (λd hd=>⟨hzx.pos d (List.mem_of_mem_drop hd),hvx.i.dims d (List.mem_of_mem_drop hd)⟩) rfl (by omega)
  rw[jQ hs] at hk
  subst hk
  exact⟨rfl,hr0,hz1.symm,by rw[←Aj4 hpos]; exact hzx.prod⟩
 obtain⟨_,k0,hz1,hxc⟩:=hp
 have hz2:=hS.hi
 have hNk:(N-x.shape[0])*k=N*k-x.shape[0]*k:=Int.sub_mul ..
 have hx0:0<=x.shape[0]*k:=Int.mul_nonneg hp0 k0
 have hNk0:0<=(N-x.shape[0])*k:=Int.mul_nonneg (by omega) k0
 have eW:w64 ((w64 (N-x.shape[0]))*k)=(N-x.shape[0])*k:=by rw[aG (x:=N-x.shape[0]) (by omega) (by omega),aG (by omega) (by omega)]
 refine T.bind (T.val (by unfold mkarr; rw[eW,if_pos (by omega)]) (Q:=λv=>v=List.replicate ((N-x.shape[0])*k).toNat (aA.mk 0 0 [])) rfl) (λmore hmore=>?_)
 subst hmore
 refine T.bind (AsS (N:=((N-x.shape[0])*k).toNat) (by rw[←hN,eW]) (by omega) hfc ((N-x.shape[0])*k).toNat 0 _ (by omega) (by simp) (λc hc=>.inl (by rw[(List.mem_replicate.1 hc).2]; exact .mk _))) (λl3 hl3=>?_)
 rw[eW]
 have fin:∀cs:List aA,cs.length=l3.length+x.cells.length->(∀c∈cs,c∈l3\/c∈x.cells)->Val 0 (Arr.mk ([N]++x.shape.drop 1) cs)/\Cw m (Arr.mk ([N]++x.shape.drop 1) cs).cells:=by
  intro cs h1 h2
  refine⟨AlZ ?_ hdims λc hc=>?_,λc hc=>?_⟩
  ·rw[show (cs.length:Int)=z1 by have:=hl3.1; omega]; exact hS
  ·rcases h2 c hc with h|h
   ·exact (hl3.2 c h).chk
   ·exact hvx.i.cells c h
  rcases h2 c hc with h|h
  ·rw[(hl3.2 c h).w]; omega
  exact hmx c h
 have hl31:=hl3.1
 refine T.ite (λ_=>?_) (λ_=>?_)
 ·refine T.bind (uP hl3.1) (λl1 hl1=>?_)
  subst hl1
  refine T.bind (dS (by omega)) (λl2 hl2=>?_)
  subst hl2
  exact T.ret λ_=>fin _ (by simp) (λc hc=>List.mem_append.1 hc)
 refine T.bind (uP hl3.1) (λl1 hl1=>?_)
 subst hl1
 refine T.bind (dS (by simp; omega)) (λl2 hl2=>?_)
 subst hl2
 refine T.bind (dS (by simp; omega)) (λl4 hl4=>?_)
 subst hl4
 exact T.ret λ_=>fin _ (by simp; omega) (λc hc=>(List.mem_append.1 hc).symm.imp id (λh=>by simpa using h))
theorem AiD {a:Arr} {n ax:Int} {l:List Int} (hf:Few l):∀(r:List Int) (k:Nat) (z:Int),l.drop k=r->jG (n,a,ax,l,z,(k:Int))=some (dM z r)
 | [],k,z,h=>by
  rw[jG]; simp only[bW (bX h),fJ,if_false,dM]
 |d::r,k,z,h=>by
  have hk:=bY h
  rw[jG]
  simp only[cU hk,if_true,bE h,oJ,bJ,bQ h hf,dM]
  exact AiD hf r (k+1) _ (aX h)
theorem AkS {a:Arr} {s g o j:Int} (hs:0<s) (hg:0<g) (hj:0<=j) (hj2:j<g) (hN:o*(g*s)=a.cells.length) (hle:(a.cells.length:Int)<=16384):∀(d:Nat) (x:Int) (out:List aA),0<=x->x+d=o->(out.length:Int)=x*(g*s)->(∀c∈out,c∈a.cells) ->
  T (jI (a,s,g,j,x*(g*s),out)) (λr=>r.length=a.cells.length/\∀c∈r,c∈a.cells)
 |0,x,out,h0,hd,hl,hc=>by
  rw[jI]
  have:x=o:=by omega
  subst this
  exact T.ite (λh'=>by simp at h'; omega) (λ_=>T.ret ⟨by omega,hc⟩)
 |d+1,x,out,h0,hd,hl,hc=>by
  have hgs:0<g*s:=Int.mul_pos hg hs
  have h1:0<=x*(g*s):=Int.mul_nonneg h0 (by omega)
  have h2:(x+1)*(g*s)<=o*(g*s):=Int.mul_le_mul_of_nonneg_right (by omega) (by omega)
  have h3:(x+1)*(g*s)=x*(g*s)+g*s:=by rw[Int.add_mul,Int.one_mul]
  have h4:0<=j*s:=Int.mul_nonneg hj (by omega)
  have h5:j*s<=g*s:=Int.mul_le_mul_of_nonneg_right (by omega) (by omega)
  rw[jI]
  refine T.ite (λ_=>?_) (λh'=>by simp at h'; omega)
  rw[aG (x:=g*s) (by omega) (by omega),aG (x:=x*(g*s)+g*s) (by omega) (by omega),aG (x:=j*s) (by omega) (by omega)]
  refine T.bind (T.val (by unfold Af4; rw[if_pos ⟨h1,by omega,by omega⟩]) (Q:=λv=>(v.length:Int)=g*s/\∀c∈v,c∈a.cells) ⟨by rw[List.length_drop,List.length_take]; omega,λc hc=>List.mem_of_mem_take (List.mem_of_mem_drop hc)⟩) (λblk hb=>?_)
  refine T.bind (T.lfrom (Q:=λv=>v=blk.drop (j*s).toNat) h4 (by omega) rfl) (λl1 hl1=>?_)
  subst hl1
  refine T.bind (dS (by simp; omega)) (λl2 hl2=>?_)
  subst hl2
  refine T.bind (T.val (by unfold lto; rw[if_pos ⟨h4,by omega⟩]) (Q:=λv=>v=blk.take (j*s).toNat) rfl) (λl3 hl3=>?_)
  subst hl3
  refine T.bind (dS (by simp; omega)) (λl4 hl4=>?_)
  subst hl4
  rw[←h3]
  refine AkS hs hg hj hj2 hN hle d (x+1) _ (by omega) (by omega) (by rw[h3]; simp; omega) ?_
  intro c hc'
  rcases List.mem_append.1 hc' with hc' | hc'
  ·rcases List.mem_append.1 hc' with hc' |hc'
   ·exact hc c hc'
   ·exact hb.2 c (List.mem_of_mem_drop hc')
  exact hb.2 c (List.mem_of_mem_take hc')
theorem BeW {n g:Int} (hg:0<g):-g<n.tmod g/\n.tmod g<g:=by
 refine⟨?_,Int.tmod_lt_of_pos _ hg⟩
 have:=Int.tmod_lt_of_pos (-n) hg
 rw[Int.neg_tmod] at this; omega
theorem AsJ {a:Arr} {n:Int} {k:Nat} {m:Nat} (hv:Val 0 a) (hm:Cw m a.cells) (hk:k<a.shape.length\/a.shape=[]):T (p_pick_rotated n a (k:Int)) (λr=>Val 0 r/\Cw m r.cells):=by
 unfold p_pick_rotated
 refine T.ite (λ_=>T.ret ⟨hv,hm⟩) (λhc=>T.ite (λ_=>T.ret ⟨hv,hm⟩) (λh0=>?_))
 have hc:(a.cells.length:Int)≠0:=by simpa using hc
 have h0:(a.shape.length:Int)≠0:=by simpa using h0
 have hk:k<a.shape.length:=by
  rcases hk with hk|hk
  ·exact hk
  rw[hk] at h0; simp at h0
 have hz:=hv.i.sized
 have hrk:=hz.rank
 have e0:a.shape=a.shape.take k++([a.shape[k]]++a.shape.drop (k+1)):=by
  rw[List.singleton_append,←List.drop_eq_getElem_cons hk,List.take_append_drop]
 have hz':=hz
 rw[e0] at hz'
 obtain⟨p1,p2,p3,p4⟩:=oV hz' hc
 obtain⟨q1,q2,q3,q4⟩:=oV p2 (by omega)
 have hp:=hz'.prod
 rw[fS,fS] at hp
 simp only[aQ,Int.mul_one] at hp q1 q3
 rw[show w64 ((k:Int)+1)=((k+1:Nat):Int) from by rw[aG (by omega) (by omega)]; rfl]
 refine T.bind (T.val (v:=a.shape.drop (k+1)) (by unfold lfrom; rw[if_pos (by omega)]; simp) (Q:=λv=>v=a.shape.drop (k+1)) rfl) (λl hl=>?_)
 subst hl
 refine T.bind (T.val (AiD (by unfold Few; simp; omega) (a.shape.drop (k+1)) 0 1 rfl) (Q:=λv=>v=aQ (a.shape.drop (k+1))) (jQ q2)) (λs hs=>?_)
 subst hs
 refine T.bind (T.val (fV hk) (Q:=λv=>v=a.shape[k]) rfl) (λg hg=>?_)
 subst hg
 have hd:=hv.i.dims _ (List.getElem_mem hk)
 have hlim:=BeW (n:=n) q3
 refine T.bind (T.val (by unfold irem; rw[if_neg (by omega)]) (Q:=λv=>v=n.tmod a.shape[k]) rfl) (λt ht=>?_)
 subst ht
 refine T.bind (R:=λj=>0<=j/\j<a.shape[k]) (T.ite (λh=>?_) (λh=>?_)) (λj hj=>?_)
 ·have h:n.tmod a.shape[k]<0:=by simpa using h
  rw[aG (by omega) (by omega)]
  exact T.ret (by omega)
 ·have h:0<=n.tmod a.shape[k]:=by simpa using h
  exact T.ret ⟨h,hlim.2⟩
 have t:=AkS (a:=a) (s:=aQ (a.shape.drop (k+1))) (g:=a.shape[k]) (o:=aQ (a.shape.take k)) (j:=j) q4 q3 hj.1 hj.2 hp hz.hi (aQ (a.shape.take k)).toNat 0 [] (by omega) (by omega) (by simp) (by simp)
 rw[Int.zero_mul] at t
 exact T.bind t (λr hr=>T.ret (frv hv hm (by rw[hr.1]; exact hz) hv.i.dims λc hc=>.inl (hr.2 c hc)))
theorem ArY {l a:Arr} (hl:Val 0 l) (h:0<a.shape.length):∀(r:List aA) (k:Nat),l.cells.drop k=r->(∀c∈l.cells.take k,0<=c.n/\c.n<a.shape[0])->T (nE (l,a,(k:Int))) (λr=>match r with|.error r=>r.2≠0|.ok _=>∀c∈l.cells,0<=c.n/\c.n<a.shape[0])
 | [],k,hd,hc=>by
  rw[nE]
  simp only[bW (bX hd),fJ,if_false]
  have:=List.drop_eq_nil_iff.1 hd
  rw[List.take_of_length_le this] at hc
  exact T.ret hc
 |c::r,k,hd,hc=>by
  have hk:=bY hd
  rw[nE]
  simp only[cU hk,if_true,bE hd,oJ,bJ,bQ hd hl.fewc]
  refine T.ite (λ_=>T.ret (by simp)) (λ_=>T.ite (λ_=>T.ret (by simp)) (λh1=>?_))
  refine T.bind (T.val (fV (i:=0) h) (Q:=λv=>v=a.shape[0]) rfl) (λg hg=>?_)
  subst hg
  refine T.ite (λ_=>T.ret (by simp)) (λh2=>?_)
  have h1:0<=c.n:=by simpa using h1
  have h2:c.n<a.shape[0]:=by simpa using h2
  refine ArY hl h r (k+1) (aX hd) ?_
  intro x hx
  rw[List.take_add_one,List.mem_append] at hx
  rcases hx with hx|hx
  ·exact hc x hx
  have hdk:l.cells[k]?=some c:=by
   rw[List.drop_eq_getElem_cons (by omega)] at hd
   obtain⟨hd,_⟩:=List.cons.inj hd
   rw[←hd]; simp[show k<l.cells.length by omega]
  rw[hdk] at hx
  simp only[Option.toList_some,List.mem_singleton] at hx
  subst hx
  exact⟨h1,h2⟩
theorem ArZ {l a:Arr} {sh:List Int} {k:Int} (hl:Val 0 l) (ha:Val 0 a) (h:0<a.shape.length) (hc:∀c∈l.cells,0<=c.n/\c.n<a.shape[0]) (hk:0<=k) (hN:a.shape[0]*k=a.cells.length) (hT:l.cells.length*k<=16384) :
  ∀(r:List aA) (i:Nat) (out:List aA),l.cells.drop i=r->i<=l.cells.length->(out.length:Int)=i*k->(∀c∈out,c∈a.cells)->T (kQ (l,a,sh,k,(i:Int),out)) (λr=>(r.length:Int)=l.cells.length*k/\∀c∈r,c∈a.cells)
 | [],i,out,hd,hi,ho,hm=>by
  rw[kQ]
  simp only[bW (bX hd),fJ,if_false]
  have:=List.drop_eq_nil_iff.1 hd
  exact T.ret ⟨by rw[ho,show i=l.cells.length by omega],hm⟩
 |c::r,i,out,hd,hi,ho,hm=>by
  have hik:=bY hd
  have hle:=ha.i.sized.hi
  have hcm:=hc c (List.mem_of_mem_drop (i:=i) (by rw[hd]; simp))
  have hd0:=ha.i.dims _ (List.getElem_mem h)
  rw[kQ]
  simp only[cU hik,if_true,bE hd,oJ,bJ,bQ hd hl.fewc]
  have h1:0<=c.n*k:=Int.mul_nonneg hcm.1 hk
  have h2:(c.n+(1:Int))*k<=a.shape[0]*k:=Int.mul_le_mul_of_nonneg_right (by omega) hk
  have h3:(c.n+1)*k=c.n*k+k:=by rw[Int.add_mul,Int.one_mul]
  have h4:((i:Int)+1)*k<=l.cells.length*k:=Int.mul_le_mul_of_nonneg_right (by omega) hk
  have h5:((i:Int)+1)*k=i*k+k:=by rw[Int.add_mul,Int.one_mul]
  rw[aG (x:=c.n+1) (by omega) (by omega),aG (x:=c.n*k) (by omega) (by omega),aG (x:=(c.n+1)*k) (by omega) (by omega)]
  refine T.bind (T.val (by unfold Af4; rw[if_pos ⟨h1,by omega,by omega⟩]) (Q:=λv=>(v.length:Int)=k/\∀c∈v,c∈a.cells) ⟨by rw[List.length_drop,List.length_take]; omega,λc hc=>List.mem_of_mem_take (List.mem_of_mem_drop hc)⟩) (λblk hb=>?_)
  refine T.bind (dS (by omega)) (λl5 hl5=>?_)
  subst hl5
  refine ArZ hl ha h hc hk hN hT r (i+1) _ (aX hd) (by omega) (by simp only[List.length_append,Int.natCast_add,Int.natCast_one]; omega) ?_
  intro x hx
  rcases List.mem_append.1 hx with hx|hx
  ·exact hm x hx
  exact hb.2 x hx
theorem BdW {l a:Arr} {m:Nat} (hl:Val 0 l) (ha:Val 0 a) (hm:Cw m a.cells):T (vL l a) (Res m):=by
 unfold vL
 refine T.ite (λ_=>T.ret (Res.err (by omega))) (λh0=>T.ite (λ_=>T.ret (Res.err (by omega))) (λ_=>?_))
 have hpos:0<a.shape.length:=by
     have:(a.shape.length:Int)≠0:=by simpa using h0
     omega
 have hzl:=hl.i.sized
 have hza:=ha.i.sized
 have hrl:=hzl.rank
 have hra:=hza.rank
 have hll:=hzl.hi
 refine T.bind (ArY hl hpos l.cells 0 rfl (by simp)) (λv hv=>?_)
 match v,hv with
 |.error r,h=>exact T.ret λh'=>absurd h' h
 |.ok _,hc=>
  refine T.bind (dS (by simp; omega)) (λl1 hl1=>?_)
  subst hl1
  refine T.bind (T.lfrom (Q:=λv=>v=a.shape.drop 1) (by omega) (by omega) rfl) (λl2 hl2=>?_)
  subst hl2
  refine T.bind (dS (by simp; omega)) (λl3 hl3=>?_)
  subst hl3
  rw[List.nil_append]
  refine T.bind (T.val (zN _) (Q:=λv=>v=kX (l.shape++a.shape.drop 1)) rfl) (λz hz=>?_)
  obtain⟨z1,z2⟩:=z
  refine T.ite (λhe=>T.ret (Res.err (fM he))) (λhe=>?_)
  have hS:mG (l.shape++a.shape.drop 1) z1:=by
   have h':z2=0:=dQ he
   have:=uE (s:=l.shape++a.shape.drop 1) (by rw[←hz]; exact h')
   rw[←hz] at this; exact this
  have hdims:∀d∈l.shape++a.shape.drop 1,d<=16384:=by
   intro d hd
   rcases List.mem_append.1 hd with hd|hd
   ·exact hl.i.dims d hd
   exact ha.i.dims d (List.mem_of_mem_drop hd)
  refine T.bind (AtV hra hpos) (λk hk=>?_)
  have hzp:=hS.prod
  rw[fS,hzl.prod] at hzp
  have fin:∀cs:List aA,(cs.length:Int)=z1->(∀c∈cs,c∈a.cells)->Val 0 (Arr.mk (l.shape++a.shape.drop 1) cs)/\Cw m (Arr.mk (l.shape++a.shape.drop 1) cs).cells:=λcs h1 h2=>frv ha hm (by rw[h1]; exact hS) hdims λc hc=>.inl (h2 c hc)
  by_cases hne:l.cells=[]
  ·rw[kQ]
   rw[if_neg (by rw[hne]; simp)]
   refine T.bind (T.ret (Q:=λv=>v=[]) rfl) (λv hv=>?_)
   subst hv
   exact T.ret λ_=>fin [] (by rw[←hzp,hne]; simp) (by simp)
  obtain⟨c,hcm⟩:=List.exists_mem_of_ne_nil _ hne
  have hg:=hc c hcm
  obtain⟨hs,hp⟩:=ApZ ha hpos (by omega)
  rw[jQ hs] at hk
  subst hk
  have hz2:=hS.hi
  refine T.bind (ArZ hl ha hpos hc hs.lo hp (by omega) l.cells 0 [] rfl (by omega) (by simp) (by simp)) (λr hr=>?_)
  exact T.ret λ_=>fin r (by rw[hr.1,hzp]) hr.2
def rH:List Int->Int
 | []=>0
 |d::r=>d+rH r
theorem AxT:∀l m:List Int,rH (l++m)=rH l+rH m
 | [],m=>by simp[rH]
 |d::r,m=>by simp only[List.cons_append,rH,AxT r m]; omega
theorem sK:∀{l:List Int},(∀d∈l,0<=d)->0<=rH l
 | [],_=>by simp[rH]
 |d::r,h=>by have:=h d (by simp); have:=sK (l:=r) λx hx=>h x (by simp[hx]); simp only[rH]; omega
theorem Aq2 {m:Arr} {n:Int} (hm:Val 0 m):∀(r:List aA) (k:Nat),m.cells.drop k=r->(∀c∈m.cells.take k,0<=c.n)->T (lG (m,n,(k:Int))) (λr=>match r with|.error r=>r.2≠0|.ok _=>∀c∈m.cells,0<=c.n)
 | [],k,hd,hc=>by
  rw[lG]
  simp only[bW (bX hd),fJ,if_false]
  have:=List.drop_eq_nil_iff.1 hd
  rw[List.take_of_length_le this] at hc
  exact T.ret hc
 |c::r,k,hd,hc=>by
  have hk:=bY hd
  rw[lG]
  simp only[cU hk,if_true,bE hd,oJ,bJ,bQ hd hm.fewc]
  refine T.ite (λ_=>T.ret (by simp)) (λ_=>T.ite (λ_=>T.ret (by simp)) (λh1=>?_))
  have h1:0<=c.n:=by simpa using h1
  refine Aq2 hm r (k+1) (aX hd) ?_
  intro x hx
  rw[List.take_add_one,List.mem_append] at hx
  rcases hx with hx|hx
  ·exact hc x hx
  have hdk:m.cells[k]?=some c:=by
   rw[List.drop_eq_getElem_cons (by omega)] at hd
   obtain⟨hd,_⟩:=List.cons.inj hd
   rw[←hd]; simp[show k<m.cells.length by omega]
  rw[hdk] at hx
  simp only[Option.toList_some,List.mem_singleton] at hx
  subst hx
  exact h1
structure Tm (N k:Nat) (all:Int) (l:List Int):Prop where
 len:l.length=N
 pos:∀v∈l.take k,0<=v
 sum:rH (l.take k)=all
 le:all<=16384
theorem Tm.next {N k:Nat} {all c:Int} {l:List Int} (h:Tm N k all l) (hk:k<N) (h0:0<=c) (h1:all+c<=16384):Tm N (k+1) (all+c) (l.set k c):=by
 have e:(l.set k c).take (k+1)=l.take k++[c]:=by
  rw[List.take_add_one,List.take_set_of_le (Nat.le_refl k),List.getElem?_set_self (by rw[h.len]; exact hk)]; rfl
 refine⟨by simp[h.len],?_,by rw[e,AxT,h.sum]; simp[rH],h1⟩
 rw[e]
 intro v hv
 rcases List.mem_append.1 hv with hv|hv
 ·exact h.pos v hv
 simp only[List.mem_singleton] at hv; subst hv; exact h0
theorem Aq3 {m:Arr} {N:Nat} (hN:N<=16384) (hc:∀c∈m.cells,0<=c.n) (hne:0<N->0<m.cells.length) (h1:m.shape.length=1->m.cells.length=N):∀(d:Nat) (k:Nat) (all:Int) (l:List Int),k+d=N->Tm N k all l ->
  T (lH (m,(N:Int),all,(k:Int),l)) (λr=>match r with|.error r=>r.2≠0|.ok l=>∃all,Tm N N all l)
 |0,k,all,l,h,hl=>by
  rw[lH]
  have:k=N:=by omega
  subst this
  exact T.ite (λh'=>by simp at h') (λ_=>T.ret ⟨all,hl⟩)
 |d+1,k,all,l,h,hl=>by
  rw[lH]
  have ha0:0<=all:=by rw[←hl.sum]; exact sK hl.pos
  have ha1:=hl.le
  have hp:=hne (by omega)
  refine T.ite (λ_=>?_) (λh'=>by simp at h'; omega)
  refine T.bind (T.lget (Q:=λv=>v∈m.cells) (by omega) (by omega) λ_ h=>List.mem_of_getElem? h) (λy hy=>?_)
  refine T.bind (R:=λr=>0<=r.2.1) (T.ite (λhs=>?_) (λ_=>T.ret (hc y hy))) (λc hcc=>?_)
  ·have hs:m.shape.length=1:=by
    have:(m.shape.length:Int)=1:=by simpa using hs
    omega
   have:=h1 hs
   exact T.bind (T.lget (Q:=λv=>v∈m.cells) (by omega) (by omega) λ_ h=>List.mem_of_getElem? h) (λz hz=>T.ret (hc z hz))
  obtain⟨c0,c1,c2⟩:=c
  have hcc:0<=c1:=hcc
  show T (if decide (c1>w64 (16384-all))=true then _ else _) _
  rw[aG (x:=16384-all) (by omega) (by omega)]
  refine T.ite (λ_=>T.ret (by simp)) (λhle=>?_)
  have hle:c1<=16384-all:=by simpa using hle
  simp only[Int.toNat_natCast]
  refine T.bind (T.val (uF (n:=N) (by omega) (by omega)) (Q:=λv=>v=k) (by omega)) (λj hj=>?_)
  subst hj
  refine T.bind (T.val (by unfold aset; rw[if_pos (by rw[hl.len]; omega)]) (Q:=λv=>v=l.set j c1) rfl) (λl2 hl2=>?_)
  subst hl2
  refine T.bind (T.val (uF (n:=N) (by omega) (by omega)) (Q:=λv=>v=j) (by omega)) (λj1 hj1=>?_)
  subst hj1
  refine T.bind (T.val (v:=c1) (by unfold pV; rw[List.getElem?_set_self (by rw[hl.len]; omega)]) (Q:=λv=>v=c1) rfl) (λy3 hy3=>?_)
  subst hy3
  rw[aG (x:=all+y3) (by omega) (by omega),aG (x:=(j1:Int)+1) (by omega) (by omega)]
  exact Aq3 hN hc hne h1 d (j1+1) (all+y3) _ (by omega) (hl.next (by omega) hcc (by omega))
theorem Aq4 {m:Arr} {N:Nat} (hN:N<=16384) (hc:∀c∈m.cells,0<=c.n) (hne:0<N->0<m.cells.length) (h1:m.shape.length=1->m.cells.length=N):∀(d:Nat) (k:Nat) (all:Int) (l:List Int),k+d=N->Tm N k all l ->
  T (lJ (m,(N:Int),all,(k:Int),l)) (λr=>match r with|.error r=>r.2≠0|.ok l=>∃all,Tm N N all l)
 |0,k,all,l,h,hl=>by
  rw[lJ]
  have:k=N:=by omega
  subst this
  exact T.ite (λh'=>by simp at h') (λ_=>T.ret ⟨all,hl⟩)
 |d+1,k,all,l,h,hl=>by
  rw[lJ]
  have ha0:0<=all:=by rw[←hl.sum]; exact sK hl.pos
  have ha1:=hl.le
  have hp:=hne (by omega)
  refine T.ite (λ_=>?_) (λh'=>by simp at h'; omega)
  refine T.bind (T.lget (Q:=λv=>v∈m.cells) (by omega) (by omega) λ_ h=>List.mem_of_getElem? h) (λy hy=>?_)
  refine T.bind (R:=λr=>0<=r.2.1) (T.ite (λhs=>?_) (λ_=>T.ret (hc y hy))) (λc hcc=>?_)
  ·have hs:m.shape.length=1:=by
    have:(m.shape.length:Int)=1:=by simpa using hs
    omega
   have:=h1 hs
   exact T.bind (T.lget (Q:=λv=>v∈m.cells) (by omega) (by omega) λ_ h=>List.mem_of_getElem? h) (λz hz=>T.ret (hc z hz))
  obtain⟨c0,c1,c2⟩:=c
  have hcc:0<=c1:=hcc
  show T (if decide (c1>w64 (16384-all))=true then _ else _) _
  rw[aG (x:=16384-all) (by omega) (by omega)]
  refine T.ite (λ_=>T.ret (by simp)) (λhle=>?_)
  have hle:c1<=16384-all:=by simpa using hle
  simp only[Int.toNat_natCast]
  refine T.bind (T.val (uF (n:=N) (by omega) (by omega)) (Q:=λv=>v=k) (by omega)) (λj hj=>?_)
  subst hj
  refine T.bind (T.val (by unfold aset; rw[if_pos (by rw[hl.len]; omega)]) (Q:=λv=>v=l.set j c1) rfl) (λl2 hl2=>?_)
  subst hl2
  refine T.bind (T.val (uF (n:=N) (by omega) (by omega)) (Q:=λv=>v=j) (by omega)) (λj1 hj1=>?_)
  subst hj1
  refine T.bind (T.val (v:=c1) (by unfold pV; rw[List.getElem?_set_self (by rw[hl.len]; omega)]) (Q:=λv=>v=c1) rfl) (λy3 hy3=>?_)
  subst hy3
  rw[aG (x:=all+y3) (by omega) (by omega),aG (x:=(j1:Int)+1) (by omega) (by omega)]
  exact Aq4 hN hc hne h1 d (j1+1) (all+y3) _ (by omega) (hl.next (by omega) hcc (by omega))
theorem BgS {m:Arr} {N:Nat} (hm:Val 0 m) (hN:N<=16384):T (wQ m (N:Int)) (λr=>r.2=0->∃all,Tm N N all r.1):=by
 unfold wQ
 refine T.ite (λ_=>T.ret (λh=>by simp at h)) (λhr=>?_)
 have hr:m.shape.length<=1:=by simp at hr; omega
 refine T.bind (Aq2 hm m.cells 0 rfl (by simp)) (λv hv=>?_)
 have t0:Tm N 0 0 (List.replicate N 0):=⟨by simp,by simp,by simp[rH],by omega⟩
 match v,hv with
 |.error r,h=>exact T.ret λh'=>absurd h' h
 |.ok _,hc=>
  refine T.ite (λh1=>T.ite (λ_=>T.ret (λh=>by simp at h)) (λhn=>?_)) (λh1=>?_)
  ·have hn:(m.cells.length:Int)=N:=dQ hn
   refine T.bind (T.val (by unfold mkarr; rw[if_pos (by omega)]) (Q:=λv=>v=List.replicate N 0) (by simp)) (λl hl=>?_)
   subst hl
   refine T.bind (Aq3 hN hc (λ_=>by omega) (λ_=>by omega) N 0 0 _ (by omega) t0) (λv hv=>?_)
   match v,hv with
   |.error r,h=>exact T.ret λh'=>absurd h' h
   |.ok l,⟨all,h⟩=>exact T.bind (uP (by rw[h.len]; simp)) (λl4 hl4=>by subst hl4; exact T.ret λ_=>⟨all,h⟩)
  have h1:(m.shape.length:Int)≠1:=by simpa using h1
  obtain⟨c,hcl⟩:=xE hm (by omega)
  refine T.bind (T.val (by unfold mkarr; rw[if_pos (by omega)]) (Q:=λv=>v=List.replicate N 0) (by simp)) (λl hl=>?_)
  subst hl
  refine T.bind (Aq4 hN hc (λ_=>by rw[hcl]; simp) (λh=>by omega) N 0 0 _ (by omega) t0) (λv hv=>?_)
  match v,hv with
  |.error r,h=>exact T.ret λh'=>absurd h' h
  |.ok l,⟨all,h⟩=>exact T.bind (uP (by rw[h.len]; simp)) (λl4 hl4=>by subst hl4; exact T.ret λ_=>⟨all,h⟩)
theorem Ax9 {m x:Arr} {k:Nat} {l l1:List Int} (hk:k<l1.length) (hl:l.length<=16384) (hp:∀v∈l,0<=v) (hs:rH l<=16384):∀(r:List Int) (i:Nat) (S:Int),l.drop i=r->0<=S->S+rH r<=16384 ->
  T (iB (m,x,(k:Int),l,l1,(i:Int),l1.set k S)) (λv=>v=l1.set k (S+rH r))
 | [],i,S,hd,h0,h1=>by
  rw[iB]
  simp only[bW (bX hd),fJ,if_false,rH,Int.add_zero]
  exact T.ret rfl
 |d::r,i,S,hd,h0,h1=>by
  have hik:=bY hd
  have hd0:=hp d (List.mem_of_mem_drop (i:=i) (by rw[hd]; simp))
  have hr0:0<=rH r:=sK λv hv=>hp v (List.mem_of_mem_drop (i:=i) (by rw[hd]; simp[hv]))
  simp only[rH] at h1 ⊢
  rw[iB]
  simp only[cU hik,if_true,bE hd,oJ,bJ,bQ hd (by unfold Few; omega)]
  refine T.bind (T.val (uF (n:=l1.length) (by omega) (by omega)) (Q:=λv=>v=k) (by omega)) (λj hj=>?_)
  subst hj
  refine T.bind (T.val (v:=S) (by unfold pV; rw[List.getElem?_set_self hk]) (Q:=λv=>v=S) rfl) (λy hy=>?_)
  subst hy
  refine T.bind (T.val (uF (n:=l1.length) (by omega) (by omega)) (Q:=λv=>v=j) (by omega)) (λj2 hj2=>?_)
  subst hj2
  rw[aG (x:=y+d) (by omega) (by omega)]
  refine T.bind (T.val (by unfold aset; rw[if_pos (by simpa using hk),List.set_set]) (Q:=λv=>v=l1.set j2 (y+d)) rfl) (λc hc=>?_)
  subst hc
  rw[←Int.add_assoc]
  exact Ax9 hk hl hp hs r (i+1) (y+d) (aX hd) (by omega) (by omega)
theorem AsI {m x:Arr} {l l3 l4:List Int} (hf:Few l4):∀(r:List Int) (k:Nat) (z:Int),l4.drop k=r->iC (m,x,l,l3,l4,z,(k:Int))=some (dM z r)
 | [],k,z,h=>by
  rw[iC]; simp only[bW (bX h),fJ,if_false,dM]
 |d::r,k,z,h=>by
  have hk:=bY h
  rw[iC]
  simp only[cU hk,if_true,bE h,oJ,bJ,bQ h hf,dM]
  exact AsI hf r (k+1) _ (aX h)
theorem AxC {m x:Arr} {l l3:List Int} {s at_ x4 k1:Int} (hx:(x.cells.length:Int)<=16384) (hs:0<s) (hat:0<=at_) (h4:0<=x4) (hle:at_+(x4*s+s)<=x.cells.length) (hk1:k1<=16384):∀(d:Nat) (i:Int) (out:List aA),0<=i->i+d=k1->out.length+d*s<=16384->(∀c∈out,c∈x.cells) ->
  T (iF (m,x,l,l3,s,at_,x4,k1,i,out)) (λr=>(r.length:Int)=out.length+d*s/\∀c∈r,c∈x.cells)
 |0,i,out,h0,h,hb,hc=>by
  rw[iF]
  exact T.ite (λh'=>by simp at h'; omega) (λ_=>T.ret ⟨by simp,hc⟩)
 |d+1,i,out,h0,h,hb,hc=>by
  have hxs:0<=x4*s:=Int.mul_nonneg h4 (by omega)
  have e1:(x4+1)*s=x4*s+s:=by rw[Int.add_mul,Int.one_mul]
  have e2:((d+1:Nat):Int)*s=d*s+s:=by rw[Int.natCast_add,Int.add_mul]; simp
  have hds:0<=(d:Int)*s:=Int.mul_nonneg (by omega) (by omega)
  have hx4:x4<=x4*s:=by
   have:x4*1<=x4*s:=Int.mul_le_mul_of_nonneg_left (by omega) h4
   omega
  have hd1:(d:Int)<=d*s:=by
   have:(d:Int)*1<=d*s:=Int.mul_le_mul_of_nonneg_left (by omega) (by omega)
   omega
  rw[e2] at hb ⊢
  rw[iF]
  refine T.ite (λ_=>?_) (λh'=>by simp at h'; omega)
  rw[aG (x:=x4+1) (by omega) (by omega),e1,aG (x:=x4*s) (by omega) (by omega),aG (x:=x4*s+s) (by omega) (by omega),aG (x:=at_+x4*s) (by omega) (by omega),aG (x:=at_+(x4*s+s)) (by omega) (by omega)]
  refine T.bind (T.val (by unfold Af4; rw[if_pos ⟨by omega,by omega,by omega⟩]) (Q:=λv=>(v.length:Int)=s/\∀c∈v,c∈x.cells) ⟨by rw[List.length_drop,List.length_take]; omega,λc hc=>List.mem_of_mem_take (List.mem_of_mem_drop hc)⟩) (λblk hbk=>?_)
  refine T.bind (dS (by omega)) (λl6 hl6=>?_)
  subst hl6
  rw[aG (x:=i+1) (by omega) (by omega)]
  have hlen:((out++blk).length:Int)=out.length+s:=by rw[List.length_append,Int.natCast_add,hbk.1]
  refine T.imp (AxC hx hs hat h4 hle hk1 d (i+1) (out++blk) (by omega) (by omega) (by omega) ?_) (λr hr=>⟨by omega,hr.2⟩)
  intro c hc'
  rcases List.mem_append.1 hc' with hc' | hc'
  ·exact hc c hc'
  exact hbk.2 c hc'
theorem AxB {m x:Arr} {l l3:List Int} {s at_:Int} (hx:(x.cells.length:Int)<=16384) (hs:0<s) (hat:0<=at_) (hl:l.length<=16384) (hp:∀v∈l,0<=v) (hle:at_+l.length*s<=x.cells.length):∀(r:List Int) (i:Nat) (out:List aA),l.drop i=r->out.length+rH r*s<=16384->(∀c∈out,c∈x.cells) ->
  T (iD (m,x,l,l3,s,at_,(i:Int),out)) (λv=>(v.length:Int)=out.length+rH r*s/\∀c∈v,c∈x.cells)
 | [],i,out,hd,hb,hc=>by
  rw[iD]
  simp only[bW (bX hd),fJ,if_false,rH]
  exact T.ret ⟨by simp,hc⟩
 |d::r,i,out,hd,hb,hc=>by
  have hik:=bY hd
  have hd0:=hp d (List.mem_of_mem_drop (i:=i) (by rw[hd]; simp))
  have hr0:0<=rH r:=sK λv hv=>hp v (List.mem_of_mem_drop (i:=i) (by rw[hd]; simp[hv]))
  have hrs:0<=rH r*s:=Int.mul_nonneg hr0 (by omega)
  have h4:((i:Int)+1)*s<=l.length*s:=Int.mul_le_mul_of_nonneg_right (by omega) (by omega)
  have h5:((i:Int)+1)*s=i*s+s:=by rw[Int.add_mul,Int.one_mul]
  simp only[rH,Int.add_mul] at hb ⊢
  rw[iD]
  simp only[cU hik,if_true,bE hd,oJ,bJ,bQ hd (by unfold Few; omega)]
  have hdle:d<=16384:=by
   have:d*1<=d*s:=Int.mul_le_mul_of_nonneg_left (by omega) hd0
   omega
  have t:=AxC (m:=m) (l:=l) (l3:=l3) (k1:=d) hx hs hat (x4:=(i:Int)) (by omega) (by omega) hdle d.toNat 0 out (by omega) (by omega) (by rw[Int.toNat_of_nonneg hd0]; omega) hc
  rw[Int.toNat_of_nonneg hd0] at t
  refine T.bind t (λv hv=>?_)
  exact T.imp (AxB hx hs hat hl hp hle r (i+1) v (aX hd) (by omega) hv.2) (λw hw=>⟨by omega,hw.2⟩)
theorem AxA {m x:Arr} {l l3:List Int} {s o:Int} (hx:(x.cells.length:Int)<=16384) (hs:0<s) (hg:0<l.length) (hp:∀v∈l,0<=v) (hN:o*(l.length*s)=x.cells.length) (hb:o*(rH l*s)<=16384):∀(d:Nat) (y:Int) (out:List aA),0<=y->y+d=o->(out.length:Int)=y*(rH l*s)->(∀c∈out,c∈x.cells) ->
  T (p_pick_repeated_l2 (m,x,l,l3,s,y*(l.length*s),out)) (λv=>(v.length:Int)=o*(rH l*s)/\∀c∈v,c∈x.cells)
 |0,y,out,h0,h,ho,hc=>by
  rw[p_pick_repeated_l2]
  have:y=o:=by omega
  subst this
  exact T.ite (λh'=>by simp at h'; omega) (λ_=>T.ret ⟨by omega,hc⟩)
 |d+1,y,out,h0,h,ho,hc=>by
  have hgs:0<(l.length:Int)*s:=Int.mul_pos (by omega) hs
  have hlg:(l.length:Int)<=l.length*s:=by
   have:(l.length:Int)*1<=l.length*s:=Int.mul_le_mul_of_nonneg_left (by omega) (by omega)
   omega
  have h1:0<=y*(l.length*s):=Int.mul_nonneg h0 (by omega)
  have h2:(y+1)*(l.length*s)<=o*(l.length*s):=Int.mul_le_mul_of_nonneg_right (by omega) (by omega)
  have h3:(y+1)*(l.length*s)=y*(l.length*s)+l.length*s:=by rw[Int.add_mul,Int.one_mul]
  have hss:0<=rH l*s:=Int.mul_nonneg (sK hp) (by omega)
  have h4:(y+1)*(rH l*s)<=o*(rH l*s):=Int.mul_le_mul_of_nonneg_right (by omega) hss
  have h5:(y+1)*(rH l*s)=y*(rH l*s)+rH l*s:=by rw[Int.add_mul,Int.one_mul]
  rw[p_pick_repeated_l2]
  refine T.ite (λ_=>?_) (λh'=>by simp at h'; omega)
  refine T.bind (AxB hx hs h1 (by omega) hp (by omega) l 0 out rfl (by omega) hc) (λv hv=>?_)
  rw[aG (x:=(l.length:Int)*s) (by omega) (by omega),aG (x:=y*(l.length*s)+l.length*s) (by omega) (by omega),←h3]
  exact AxA hx hs hg hp hN hb d (y+1) v (by omega) (by omega) (by rw[hv.1]; omega) hv.2
theorem AsN {s:List Int} {k:Nat} {v:Int} (hk:k<s.length):s.set k v=s.take k++([v]++s.drop (k+1)):=by
 rw[List.set_eq_take_append_cons_drop,if_pos hk]; rfl
theorem Ah9 {s:List Int} {k:Nat} (hk:k<s.length):s=s.take k++([s[k]]++s.drop (k+1)):=by
 rw[List.singleton_append,←List.drop_eq_getElem_cons hk,List.take_append_drop]
theorem Az4 {m a:Arr} {last:Bool} {w:Nat} (hm:Val 0 m) (ha:Val 0 a) (hw:Cw w a.cells):T (qW m a last) (Res w):=by
 unfold qW
 refine T.bind (ApH ha) (λx hx=>?_)
 obtain⟨hv,hpos,hc⟩:=hx
 have hmx:Cw w x.cells:=by rw[hc]; exact hw
 have hz:=hv.i.sized
 have h8:=hz.rank
 have hle:=hz.hi
 refine T.bind (R:=λv=>∃k:Nat,v=(k:Int)/\k<x.shape.length) (T.ite (λ_=>T.ret ⟨x.shape.length-1,by rw[aG (by omega) (by omega)]; omega,by omega⟩) (λ_=>T.ret ⟨0,rfl,hpos⟩)) (λax hax=>?_)
 obtain⟨k,rfl,hk⟩:=hax
 refine T.bind (T.val (fV hk) (Q:=λv=>v=x.shape[k]) rfl) (λg hg=>?_)
 subst hg
 have hp0:=hz.pos _ (List.getElem_mem hk)
 have hd0:=hv.i.dims _ (List.getElem_mem hk)
 obtain⟨N,hN⟩:∃N:Nat,(N:Int)=x.shape[k]:=⟨x.shape[k].toNat,by omega⟩
 have ht:=BgS (N:=N) hm (by omega)
 rw[←hN]
 refine T.bind ht (λr hr=>?_)
 obtain⟨l,e⟩:=r
 refine T.ite (λhe=>T.ret (Res.err (fM he))) (λhe=>?_)
 obtain⟨all,t⟩:=hr (dQ he)
 have t1:=t.len
 have hlt:l.take N=l:=List.take_of_length_le (by simp only at t1; omega)
 have t2:∀v∈l,0<=v:=by have:=t.pos; simp only at this; rw[hlt] at this; exact this
 have t3:rH l=all:=by have:=t.sum; simp only at this; rw[hlt] at this; exact this
 have t4:=t.le
 simp only at t1
 have hs0:0<=rH l:=sK t2
 refine T.bind (dS (by simp; omega)) (λl1 hl1=>?_)
 subst hl1
 rw[List.nil_append]
 refine T.bind (T.val (uF (n:=x.shape.length) (by omega) (by omega)) (Q:=λv=>v=k) (by omega)) (λj hj=>?_)
 subst hj
 refine T.bind (T.val (by unfold aset; rw[if_pos hk]) (Q:=λv=>v=x.shape.set j 0) rfl) (λl2 hl2=>?_)
 subst hl2
 refine T.bind (Ax9 hk (by omega) t2 (by omega) l 0 0 rfl (by omega) (by omega)) (λc hcc=>?_)
 subst hcc
 rw[Int.zero_add]
 refine T.bind (uP (by simp)) (λl3 hl3=>?_)
 have hl3':l3=x.shape.take j++([rH l]++x.shape.drop (j+1)):=by rw[hl3,AsN hk]
 refine T.bind (T.val (zN l3) (Q:=λv=>v=kX l3) rfl) (λz hzz=>?_)
 obtain⟨z1,z2⟩:=z
 refine T.ite (λhe=>T.ret (Res.err (fM he))) (λhe=>?_)
 have hS:mG l3 z1:=by
  have h':z2=0:=dQ he
  have:=uE (s:=l3) (by rw[←hzz]; exact h')
  rw[←hzz] at this; exact this
 have hdims:∀d∈l3,d<=16384:=by
  intro d hd
  rw[hl3'] at hd
  rcases List.mem_append.1 hd with hd|hd
  ·exact hv.i.dims d (List.mem_of_mem_take hd)
  rcases List.mem_cons.1 hd with rfl|hd
  ·omega
  exact hv.i.dims d (List.mem_of_mem_drop hd)
 have fin:∀cs:List aA,(cs.length:Int)=z1->(∀c∈cs,c∈x.cells)->Val 0 (Arr.mk l3 cs)/\Cw w (Arr.mk l3 cs).cells:=λcs h1 h2=>frv hv hmx (by rw[h1]; exact hS) hdims λc hc=>.inl (h2 c hc)
 have hzp:=hS.prod
 have hz2:=hS.hi
 rw[hl3',fS,fS] at hzp
 simp only[aQ,Int.mul_one] at hzp
 have hxp:=hz.prod
 rw[Ah9 hk,fS,fS,←hN] at hxp
 simp only[aQ,Int.mul_one] at hxp
 rw[show w64 ((j:Int)+1)=((j+1:Nat):Int) from by rw[aG (by omega) (by omega)]; rfl]
 refine T.bind (T.val (v:=x.shape.drop (j+1)) (by unfold lfrom; rw[if_pos (by omega)]; simp) (Q:=λv=>v=x.shape.drop (j+1)) rfl) (λl4 hl4=>?_)
 subst hl4
 refine T.bind (T.val (AsI (by unfold Few; simp; omega) (x.shape.drop (j+1)) 0 1 rfl) (Q:=λv=>v=dM 1 (x.shape.drop (j+1))) rfl) (λs hs=>?_)
 by_cases hne:x.cells.length=0
 ·rw[p_pick_repeated_l2]
  rw[if_neg (by simp[hne])]
  refine T.bind (T.ret (Q:=λv=>v=[]) rfl) (λv hv'=>?_)
  subst hv'
  refine T.ret λ_=>fin [] ?_ (by simp)
  rw[hne] at hxp
  rw[←hzp]
  rcases Int.mul_eq_zero.1 hxp with h|h
  ·rw[h]; simp
  rcases Int.mul_eq_zero.1 h with h|h
  ·have:l=[]:=List.length_eq_zero_iff.1 (by omega)
   rw[this]; simp[rH]
  rw[h]; simp
 have hz':=hz
 rw[Ah9 hk] at hz'
 obtain⟨p1,p2,p3,p4⟩:=oV hz' (by omega)
 obtain⟨q1,q2,q3,q4⟩:=oV p2 (by omega)
 simp only[aQ,Int.mul_one] at q3
 rw[jQ q2] at hs
 subst hs
 have t:=AxA (m:=m) (x:=x) (l:=l) (l3:=l3) (s:=aQ (x.shape.drop (j+1))) (o:=aQ (x.shape.take j)) hle q4 (by omega) t2 (by rw[t1]; exact hxp) (by omega) (aQ (x.shape.take j)).toNat 0 [] (by omega) (by omega) (by simp) (by simp)
 rw[Int.zero_mul] at t
 exact T.bind t (λr hr=>T.ret λ_=>fin r (by rw[hr.1]; exact hzp) hr.2)
theorem BcA {s:List Int} (h:(kX s).2≠0):(kX s).1=0:=by
 unfold kX at h ⊢
 split
 ·rfl
 rename_i h8
 rw[if_neg h8] at h
 cases hn:yZ false s with
 |error r=>
  have:∀{l:List Int} {b:Bool} {r},yZ b l=.error r->r.1=0:=by
   intro l
   induction l with
   |nil=>intro b r h; simp[yZ] at h
   |cons d t ih=>
    intro b r h
    simp only[yZ] at h
    split at h
    ·cases h; rfl
    exact ih h
  exact this hn
 |ok b=>
  cases b with
  |true=>rfl
  |false=>
   simp only
   rw[hn] at h
   cases hs:vO 1 s with
   |error r=>
    have:∀{l:List Int} {n:Int} {r},vO n l=.error r->r.1=0:=by
     intro l
     induction l with
     |nil=>intro n r h; simp[vO] at h
     |cons d t ih=>
      intro n r h
      simp only[vO] at h
      split at h
      ·cases h; rfl
      exact ih h
    exact this hs
   |ok n=>rw[hs] at h; simp at h
theorem AdL {s:List Int} {k:Nat} (h8:s.length<=8) (hk:k<s.length):T (p_pick_without s (k:Int)) (λr=>r=s.take k++s.drop (k+1)):=by
 unfold p_pick_without
 refine T.bind (T.val (by unfold lto; rw[if_pos ⟨by omega,by omega⟩]) (Q:=λv=>v=s.take k) (by simp)) (λl hl=>?_)
 subst hl
 refine T.bind (dS (by simp; omega)) (λl1 hl1=>?_)
 subst hl1
 rw[show w64 ((k:Int)+1)=((k+1:Nat):Int) from by rw[aG (by omega) (by omega)]; rfl]
 refine T.bind (T.val (v:=s.drop (k+1)) (by unfold lfrom; rw[if_pos (by omega)]; simp) (Q:=λv=>v=s.drop (k+1)) rfl) (λl2 hl2=>?_)
 subst hl2
 refine T.bind (dS (by simp; omega)) (λl3 hl3=>?_)
 subst hl3
 exact T.ret (by simp)
theorem AzF {s:List Int} {k:Nat} (h8:s.length<=8) (hk:k<=s.length):T (p_pick_with s (k:Int)) (λr=>r=s.take k++([1]++s.drop k)):=by
 unfold p_pick_with
 refine T.bind (T.val (by unfold lto; rw[if_pos ⟨by omega,by omega⟩]) (Q:=λv=>v=s.take k) (by simp)) (λl hl=>?_)
 subst hl
 refine T.bind (dS (by simp; omega)) (λl1 hl1=>?_)
 subst hl1
 refine T.bind (dS (by simp; omega)) (λl2 hl2=>?_)
 subst hl2
 refine T.bind (T.val (v:=s.drop k) (by unfold lfrom; rw[if_pos (by omega)]; simp) (Q:=λv=>v=s.drop k) rfl) (λl3 hl3=>?_)
 subst hl3
 refine T.bind (dS (by simp; omega)) (λl4 hl4=>?_)
 subst hl4
 exact T.ret (by simp)
theorem AmY {a:Arr} {sh:List Int} {n:Int} (hn:n<=16384) (hne:0<a.cells.length):∀(d:Nat) (i:Int) (out:List aA),0<=i->i+d=max n i->(out.length:Int)=i->(∀c∈out,c∈a.cells)->T (kA (a,sh,n,i,out)) (λr=>(r.length:Int)=max n i/\∀c∈r,c∈a.cells)
 |0,i,out,h0,h,ho,hc=>by
  rw[kA]
  exact T.ite (λh'=>by simp at h'; omega) (λ_=>T.ret ⟨by omega,hc⟩)
 |d+1,i,out,h0,h,ho,hc=>by
  rw[kA]
  refine T.ite (λ_=>?_) (λh'=>by simp at h'; omega)
  refine T.bind (T.lget (Q:=λv=>v∈a.cells) (by omega) (by omega) λ_ h=>List.mem_of_getElem? h) (λc hcm=>?_)
  refine T.bind (dS (by simp; omega)) (λl hl=>?_)
  subst hl
  rw[Ae6 h0 (by omega)]
  refine T.imp (AmY hn hne d (i+1) _ (by omega) (by omega) (by simp; omega) ?_) (λr hr=>⟨by omega,hr.2⟩)
  intro y hy
  rcases List.mem_append.1 hy with hy|hy
  ·exact hc y hy
  simp only[List.mem_singleton] at hy; subst hy; exact hcm
structure Aq8 (src:List aA) (k:Nat) (x:Arr):Prop where
 ax:k<x.shape.length
 rank:x.shape.length<=8
 dims:∀d∈x.shape,0<=d/\d<=16384
 len:(x.cells.length:Int)=(kX x.shape).1
 mem:∀c∈x.cells,c∈src
theorem AxQ {a:Arr} {sh:List Int} {k:Nat} (hne:0<a.cells.length) (h1:k<sh.length) (h2:sh.length<=8) (h3:∀d∈sh,0<=d/\d<=16384):T (iW a sh) (λr=>r.shape=sh/\Aq8 a.cells k r):=by
 unfold iW
 refine T.bind (T.val (zN sh) (Q:=λv=>v=kX sh) rfl) (λz hz=>?_)
 obtain⟨n,e⟩:=z
 have hn:0<=n/\n<=16384:=by
  by_cases h:(kX sh).2=0
  ·have:=uE h
   rw[←hz] at this
   exact⟨this.lo,this.hi⟩
  have:=BcA h
  rw[←hz] at this
  simp only at this; omega
 refine T.bind (AmY hn.2 hne n.toNat 0 [] (by omega) (by omega) (by simp) (by simp)) (λr hr=>?_)
 exact T.ret ⟨rfl,h1,h2,h3,by show (r.length:Int)=(kX sh).1; rw[←hz]; simp only; omega,hr.2⟩
theorem yJ {a:Arr} (hv:Val 0 a) {k:Nat} (hk:k<a.shape.length):Aq8 a.cells k a:=
 ⟨hk,hv.i.sized.rank,λd hd=>⟨hv.i.sized.pos d hd,hv.i.dims d hd⟩,by rw[sizeS_of hv.i.sized],λc hc=>hc⟩
theorem As1 {a:Arr} (hv:Val 0 a) {k:Nat} (hk:k<=a.shape.length) (h8:a.shape.length<8):Aq8 a.cells k (Arr.mk (a.shape.take k++([1]++a.shape.drop k)) a.cells):=by
 have hz:=hv.i.sized
 have hd:∀d∈a.shape.take k++([1]++a.shape.drop k),0<=d/\d<=16384:=by
  intro d hd
  rcases List.mem_append.1 hd with hd|hd
  ·exact⟨hz.pos d (List.mem_of_mem_take hd),hv.i.dims d (List.mem_of_mem_take hd)⟩
  rcases List.mem_cons.1 hd with rfl|hd
  ·omega
  exact⟨hz.pos d (List.mem_of_mem_drop hd),hv.i.dims d (List.mem_of_mem_drop hd)⟩
 have hl:(a.shape.take k++([1]++a.shape.drop k)).length=a.shape.length+1:=by simp; omega
 have hs:mG (a.shape.take k++([1]++a.shape.drop k)) a.cells.length:=by
  refine mG.of (by omega) hd ?_ hz.hi
  rw[fS,fS,←hz.prod]
  simp only[aQ,Int.mul_one,Int.one_mul]
  rw[←fS,List.take_append_drop]
 refine⟨?_,?_,hd,?_,λc hc=>hc⟩
 ·show k<(a.shape.take k++([1]++a.shape.drop k)).length
  omega
 ·show (a.shape.take k++([1]++a.shape.drop k)).length<=8
  omega
 show (a.cells.length:Int)=(kX (a.shape.take k++([1]++a.shape.drop k))).1
 rw[sizeS_of hs]
theorem BaM {a b:Arr} {k:Nat} (ha:Val 0 a) (hb:Val 0 b) (hk:k<a.shape.length\/k<b.shape.length) (hk2:(a.shape.length:Int)-b.shape.length=1->k<=b.shape.length) (hk3:(a.shape.length:Int)-b.shape.length=-1->k<=a.shape.length) :
  T ((if ((List.length a.shape:Int)==0) then
     p_pick_without b.shape (k:Int)>>=λx2=>
     p_pick_with x2 (k:Int)>>=λx3=>
     iW a x3>>=λx4=>
     some (.ok (b.shape,b.cells,x4.shape,x4.cells))
    else
     if ((List.length b.shape:Int)==0) then
      p_pick_without a.shape (k:Int)>>=λx5=>
      p_pick_with x5 (k:Int)>>=λx6=>
      iW b x6>>=λx7=>
      some (.ok (x7.shape,x7.cells,a.shape,a.cells))
     else
      if ((w64 ((List.length a.shape:Int)-(List.length b.shape:Int)))==1) then
       p_pick_with b.shape (k:Int)>>=λx8=>
       some (.ok (x8,b.cells,a.shape,a.cells))
      else
       if ((w64 ((List.length a.shape:Int)-(List.length b.shape:Int)))==(-1)) then
        p_pick_with a.shape (k:Int)>>=λx9=>
        some (.ok (b.shape,b.cells,x9,a.cells))
       else
        if ((w64 ((List.length a.shape:Int)-(List.length b.shape:Int))) != 0) then
         some (.error (a,b,(0:Int),(6:Int)))
        else
         some (.ok (b.shape,b.cells,a.shape,a.cells)):Option (Except (Arr×Arr×Int×Int) ((List Int)×(List aA)×(List Int)×(List aA)))))
   (λr=>match r with|.error r=>r.2.2.2≠0|.ok r=>Aq8 b.cells k (.mk r.1 r.2.1)/\Aq8 a.cells k (.mk r.2.2.1 r.2.2.2)/\r.1.length=r.2.2.1.length):=by
 have hra:=ha.i.sized.rank
 have hrb:=hb.i.sized.rank
 have E:∀{x:Arr},Arr.mk x.shape x.cells=x:=λ{x}=>by cases x; rfl
 have one:∀{c:Arr},Val 0 c->k<c.shape.length->T (p_pick_without c.shape (k:Int)>>=λx2=>p_pick_with x2 (k:Int)) (λr=>k<r.length/\r.length=c.shape.length/\∀d∈r,0<=d/\d<=16384):=by
  intro c hc hkc
  have hrc:=hc.i.sized.rank
  refine T.bind (AdL hrc hkc) (λx hx=>?_)
  subst hx
  refine T.imp (AzF (by simp; omega) (by simp; omega)) (λr hr=>?_)
  subst hr
  refine⟨by simp; omega,by simp; omega,?_⟩
  intro d hd
  have hm:∀d∈c.shape.take k++c.shape.drop (k+1),0<=d/\d<=16384:=by
   intro d hd
   rcases List.mem_append.1 hd with hd|hd
   ·exact⟨hc.i.sized.pos d (List.mem_of_mem_take hd),hc.i.dims d (List.mem_of_mem_take hd)⟩
   exact⟨hc.i.sized.pos d (List.mem_of_mem_drop hd),hc.i.dims d (List.mem_of_mem_drop hd)⟩
  rcases List.mem_append.1 hd with hd|hd
  ·exact hm d (List.mem_of_mem_take hd)
  rcases List.mem_cons.1 hd with rfl|hd
  ·omega
  exact hm d (List.mem_of_mem_drop hd)
 refine T.ite (λh1=>?_) (λh1=>T.ite (λh2=>?_) (λh2=>?_))
 ·have h1:a.shape.length=0:=by
          have:(a.shape.length:Int)=0:=dQ (by simpa using h1)
          omega
  obtain⟨c,hc⟩:=xE ha (by omega)
  obtain⟨s,hs1,hs2⟩:=one hb (by omega)
  have hbind:∀{β:Type} (f:List Int->Option β),(p_pick_without b.shape (k:Int)>>=λx2=>p_pick_with x2 (k:Int)>>=f)=f s:=by
   intro β f
   cases hw:p_pick_without b.shape (k:Int) with
   |none=>rw[hw] at hs1; simp at hs1
   |some v=>
    rw[hw] at hs1
    simp only[oJ,bJ] at hs1 ⊢
    rw[hs1]; rfl
  rw[hbind]
  refine T.bind (AxQ (a:=a) (by rw[hc]; simp) hs2.1 (by omega) hs2.2.2) (λr hr=>T.ret ⟨by rw[E]; exact yJ hb (by omega),by rw[E]; exact hr.2,?_⟩)
  simp only; rw[hr.1]; omega
 ·have h1:a.shape.length≠0:=by
          have:(a.shape.length:Int)≠0:=by simpa using h1
          omega
  have h2:b.shape.length=0:=by
          have:(b.shape.length:Int)=0:=dQ (by simpa using h2)
          omega
  obtain⟨c,hc⟩:=xE hb (by omega)
  obtain⟨s,hs1,hs2⟩:=one ha (by omega)
  have hbind:∀{β:Type} (f:List Int->Option β),(p_pick_without a.shape (k:Int)>>=λx2=>p_pick_with x2 (k:Int)>>=f)=f s:=by
   intro β f
   cases hw:p_pick_without a.shape (k:Int) with
   |none=>rw[hw] at hs1; simp at hs1
   |some v=>
    rw[hw] at hs1
    simp only[oJ,bJ] at hs1 ⊢
    rw[hs1]; rfl
  rw[hbind]
  refine T.bind (AxQ (a:=b) (by rw[hc]; simp) hs2.1 (by omega) hs2.2.2) (λr hr=>T.ret ⟨by rw[E]; exact hr.2,by rw[E]; exact yJ ha (by omega),?_⟩)
  simp only; rw[hr.1]; omega
 rw[aG (by omega) (by omega)]
 refine T.ite (λh3=>?_) (λh3=>T.ite (λh4=>?_) (λh4=>T.ite (λh5=>T.ret (by simp)) (λh5=>?_)))
 ·have h3:(a.shape.length:Int)-b.shape.length=1:=dQ (by simpa using h3)
  have hk':=hk2 h3
  refine T.bind (AzF hrb hk') (λr hr=>?_)
  subst hr
  exact T.ret ⟨As1 hb hk' (by omega),by rw[E]; exact yJ ha (by omega),by simp; omega⟩
 ·have h4:(a.shape.length:Int)-b.shape.length=-1:=dQ (by simpa using h4)
  have hk':=hk3 h4
  refine T.bind (AzF hra hk') (λr hr=>?_)
  subst hr
  exact T.ret ⟨by rw[E]; exact yJ hb (by omega),As1 ha hk' (by omega),by simp; omega⟩
 have h5:(a.shape.length:Int)-b.shape.length=0:=dQ h5
 exact T.ret ⟨by rw[E]; exact yJ hb (by omega),by rw[E]; exact yJ ha (by omega),by simp only; omega⟩
theorem As4 {ax:Int} {x0 x01:List Int} {x11 x12:List aA} {p q:List Int} (hp:p.length<=8) (hq:q.length=p.length):∀(d k:Nat),k+d=p.length->T (nF (ax,x0,x11,x01,x12,p,q,(k:Int))) (λr=>match r with|.error r=>r.2.2.2≠0|.ok _=>p.drop k=q.drop k)
 |0,k,h=>by
  rw[nF]
  exact T.ite (λh'=>by simp at h'; omega) (λ_=>T.ret (by rw[List.drop_eq_nil_of_le (by omega),List.drop_eq_nil_of_le (by omega)]))
 |d+1,k,h=>by
  rw[nF]
  refine T.ite (λ_=>?_) (λh'=>by simp at h'; omega)
  refine T.bind (T.val (fV (i:=k) (by omega)) (Q:=λv=>v=p[k]'(by omega)) rfl) (λv hv=>?_)
  refine T.bind (T.val (fV (i:=k) (by omega)) (Q:=λv=>v=q[k]'(by omega)) rfl) (λw hw=>?_)
  refine T.ite (λ_=>T.ret (by simp)) (λhe=>?_)
  have he:v=w:=dQ he
  rw[aG (by omega) (by omega)]
  refine T.imp (As4 hp hq d (k+1) (by omega)) (λr hr=>?_)
  match r,hr with
  |.error r,h=>exact h
  |.ok _,h=>
   simp only at h ⊢
   rw[List.drop_eq_getElem_cons (by omega),List.drop_eq_getElem_cons (l:=q) (by omega),h,←hv,←hw,he]
theorem As5 {ax:Int} {x0 x01:List Int} {x11 x12:List aA} {p q:List Int} (hp:p.length<=8) (hq:q.length=p.length):∀(d k:Nat),k+d=p.length->T (nG (ax,x0,x11,x01,x12,p,q,(k:Int))) (λr=>match r with|.error r=>r.2.2.2≠0|.ok _=>p.drop k=q.drop k)
 |0,k,h=>by
  rw[nG]
  exact T.ite (λh'=>by simp at h'; omega) (λ_=>T.ret (by rw[List.drop_eq_nil_of_le (by omega),List.drop_eq_nil_of_le (by omega)]))
 |d+1,k,h=>by
  rw[nG]
  refine T.ite (λ_=>?_) (λh'=>by simp at h'; omega)
  refine T.bind (T.val (fV (i:=k) (by omega)) (Q:=λv=>v=p[k]'(by omega)) rfl) (λv hv=>?_)
  refine T.bind (T.val (fV (i:=k) (by omega)) (Q:=λv=>v=q[k]'(by omega)) rfl) (λw hw=>?_)
  refine T.ite (λ_=>T.ret (by simp)) (λhe=>?_)
  have he:v=w:=dQ he
  rw[aG (by omega) (by omega)]
  refine T.imp (As5 hp hq d (k+1) (by omega)) (λr hr=>?_)
  match r,hr with
  |.error r,h=>exact h
  |.ok _,h=>
   simp only at h ⊢
   rw[List.drop_eq_getElem_cons (by omega),List.drop_eq_getElem_cons (l:=q) (by omega),h,←hv,←hw,he]
structure Alike (a b:Arr) (k:Nat) (x y:Arr):Prop where
 l:Aq8 a.cells k x
 r:Aq8 b.cells k y
 rank:x.shape.length=y.shape.length
 lo:x.shape.take k=y.shape.take k
 hi:x.shape.drop (k+1)=y.shape.drop (k+1)
def BiZ (a b:Arr) (r:Arr×Arr×Int×Int):Prop:=r.2.2.2=0->∃k:Nat,r.2.2.1=k/\Alike a b k r.1 r.2.1
theorem Ao0 {a b:Arr} {k:Nat} {x y:Arr} (hl:Aq8 a.cells k x) (hr:Aq8 b.cells k y) (h:y.shape.length=x.shape.length) (he:x.shape.take k++x.shape.drop (k+1)=y.shape.take k++y.shape.drop (k+1)):Alike a b k x y:=by
 have h1:=hl.ax; have h2:=hr.ax
 obtain⟨e1,e2⟩:=List.append_inj he (by simp; omega)
 exact⟨hl,hr,h.symm,e1,e2⟩
theorem BaB {a:Arr} (h:a.shape.length=0):gW a=some (Arr.mk [1] a.cells):=by
 unfold gW
 rw[if_pos (by simp[h])]; rfl
theorem Bd1 {a b:Nat} {last:Bool} (h:0<max a b) (h8:max a b<=8):T (if last then some (w64 ((if (a:Int)<(b:Int) then (b:Int) else (a:Int))-1)) else some 0) (λv=>∃k:Nat,v=(k:Int)/\(k<a\/k<b)/\((a:Int)-b=1->k<=b)/\((a:Int)-b=-1->k<=a)):=by
 refine T.ite (λ_=>T.ret ⟨max a b-1,?_,by omega,by omega,by omega⟩) (λ_=>T.ret ⟨0,rfl,by omega,by omega,by omega⟩)
 rw[aG (by split<;>omega) (by split<;>omega)]
 split<;>omega
theorem BiI {a b:Arr} {last:Bool} (ha:Val 0 a) (hb:Val 0 b):T (yR a b last) (BiZ a b):=by
 unfold yR
 have hra:=ha.i.sized.rank
 have hrb:=hb.i.sized.rank
 refine T.ite (λh1=>T.ite (λh2=>?_) (λh2=>?_)) (λh1=>?_)
 ·have h1:a.shape.length=0:=by
    have:(a.shape.length:Int)=0:=by simpa using h1
    omega
  have h2:b.shape.length=0:=by
    have:(b.shape.length:Int)=0:=by simpa using h2
    omega
  refine T.bind (T.val (BaB h1) (Q:=λv=>v=Arr.mk [1] a.cells) rfl) (λx hx=>?_)
  refine T.bind (T.val (BaB h2) (Q:=λv=>v=Arr.mk [1] b.cells) rfl) (λy hy=>?_)
  refine T.ret λ_=>⟨0,rfl,?_⟩
  subst hx; subst hy
  exact Ao0 (yJ (AnL ha (List.length_eq_zero_iff.1 h1)) Nat.zero_lt_one) (yJ (AnL hb (List.length_eq_zero_iff.1 h2)) Nat.zero_lt_one) rfl rfl
 ·have h2:b.shape.length≠0:=by
    have:(b.shape.length:Int)≠0:=by simpa using h2
    omega
  refine T.bind (Bd1 (by omega) (by omega)) (λv hv=>?_)
  obtain⟨k,rfl,g1,g2,g3⟩:=hv
  refine T.bind (BaM ha hb g1 g2 g3) (λr hr=>?_)
  match r,hr with
  |.error r,h=>exact T.ret λh'=>absurd h' h
  |.ok (x0,x11,x01,x12),⟨e1,e2,e3⟩=>
   have m1:k<x0.length:=e1.ax
   have m2:x0.length<=8:=e1.rank
   have m3:k<x01.length:=e2.ax
   have m4:x01.length<=8:=e2.rank
   have e3:x0.length=x01.length:=e3
   refine T.bind (AdL m4 m3) (λp hp=>?_)
   refine T.bind (AdL m2 m1) (λq hq=>?_)
   have lp:p.length<=8:=by subst hp; simp; omega
   have lq:q.length=p.length:=by subst hp; subst hq; simp; omega
   refine T.bind (As4 lp lq p.length 0 (by omega)) (λv hv=>?_)
   match v,hv with
   |.error r,h=>exact T.ret λh'=>absurd h' h
   |.ok _,h=>exact T.ret λ_=>⟨k,rfl,Ao0 e2 e1 e3 (by simp only[List.drop_zero] at h; rw[hp,hq] at h; exact h)⟩
 have h1:a.shape.length≠0:=by
   have:(a.shape.length:Int)≠0:=by simpa using h1
   omega
 refine T.bind (Bd1 (by omega) (by omega)) (λv hv=>?_)
 obtain⟨k,rfl,g1,g2,g3⟩:=hv
 refine T.bind (BaM ha hb g1 g2 g3) (λr hr=>?_)
 match r,hr with
 |.error r,h=>exact T.ret λh'=>absurd h' h
 |.ok (x0,x11,x01,x12),⟨e1,e2,e3⟩=>
  have m1:k<x0.length:=e1.ax
  have m2:x0.length<=8:=e1.rank
  have m3:k<x01.length:=e2.ax
  have m4:x01.length<=8:=e2.rank
  have e3:x0.length=x01.length:=e3
  refine T.bind (AdL m4 m3) (λp hp=>?_)
  refine T.bind (AdL m2 m1) (λq hq=>?_)
  have lp:p.length<=8:=by subst hp; simp; omega
  have lq:q.length=p.length:=by subst hp; subst hq; simp; omega
  refine T.bind (As5 lp lq p.length 0 (by omega)) (λv hv=>?_)
  match v,hv with
  |.error r,h=>exact T.ret λh'=>absurd h' h
  |.ok _,h=>exact T.ret λ_=>⟨k,rfl,Ao0 e2 e1 e3 (by simp only[List.drop_zero] at h; rw[hp,hq] at h; exact h)⟩
theorem AkG {x x1:Arr} {ax:Int} {l2 l:List Int} (hf:Few l):∀(r:List Int) (k:Nat) (z:Int),l.drop k=r->jY (x,x1,ax,l2,l,z,(k:Int))=some (dM z r)
 | [],k,z,h=>by
  rw[jY]; simp only[bW (bX h),fJ,if_false,dM]
 |d::r,k,z,h=>by
  have hk:=bY h
  rw[jY]
  simp only[cU hk,if_true,bE h,oJ,bJ,bQ h hf,dM]
  exact AkG hf r (k+1) _ (aX h)
theorem AkH {x x1:Arr} {s y3 y4:Int} {l2 l:List Int} (hf:Few l):∀(r:List Int) (k:Nat) (z:Int),l.drop k=r->jZ (x,x1,l2,s,y3,y4,l,z,(k:Int))=some (dM z r)
 | [],k,z,h=>by
  rw[jZ]; simp only[bW (bX h),fJ,if_false,dM]
 |d::r,k,z,h=>by
  have hk:=bY h
  rw[jZ]
  simp only[cU hk,if_true,bE h,oJ,bJ,bQ h hf,dM]
  exact AkH hf r (k+1) _ (aX h)
theorem AfY {x x1:Arr} {s y3 y4 o c1 c2:Int} {l2:List Int} (e1:w64 (y3*s)=c1) (e2:w64 (y4*s)=c2) (h1:0<=c1) (h2:0<=c2) (hx:(x.cells.length:Int)<=16384) (hx1:(x1.cells.length:Int)<=16384) (g1:o*c1<=x.cells.length) (g2:o*c2<=x1.cells.length) (ho:o<9223372036854775808) :
  ∀(d:Nat) (i:Int) (out:List aA),0<=i->i+d=max o i->(out.length:Int)=i*(c1+c2)->(∀c∈out,c∈x.cells\/c∈x1.cells)->T (iO (x,x1,l2,s,y3,y4,o,i,out)) (λr=>(r.length:Int)=max o i*(c1+c2)/\∀c∈r,c∈x.cells\/c∈x1.cells)
 |0,i,out,h0,h,hl,hc=>by
  rw[iO]
  have:max o i=i:=by omega
  rw[this]
  exact T.ite (λh'=>by simp at h'; omega) (λ_=>T.ret ⟨hl,hc⟩)
 |d+1,i,out,h0,h,hl,hc=>by
  have hio:i<o:=by omega
  have k1:(i+1)*c1<=o*c1:=Int.mul_le_mul_of_nonneg_right (by omega) h1
  have k2:(i+1)*c2<=o*c2:=Int.mul_le_mul_of_nonneg_right (by omega) h2
  have k3:(i+1)*c1=i*c1+c1:=by rw[Int.add_mul,Int.one_mul]
  have k4:(i+1)*c2=i*c2+c2:=by rw[Int.add_mul,Int.one_mul]
  have k5:0<=i*c1:=Int.mul_nonneg h0 h1
  have k6:0<=i*c2:=Int.mul_nonneg h0 h2
  have k7:i*(c1+c2)=i*c1+i*c2:=Int.mul_add ..
  have k8:(i+1)*(c1+c2)=i*(c1+c2)+(c1+c2):=by rw[Int.add_mul,Int.one_mul]
  rw[iO]
  refine T.ite (λ_=>?_) (λh'=>by simp at h'; omega)
  rw[e1,e2,aG (x:=i+1) (by omega) (by omega),aG (x:=i*c1) (by omega) (by omega),aG (x:=i*c2) (by omega) (by omega),aG (x:=(i+1)*c1) (by omega) (by omega),aG (x:=(i+1)*c2) (by omega) (by omega)]
  refine T.bind (T.val (by unfold Af4; rw[if_pos ⟨k5,by omega,by omega⟩]) (Q:=λv=>(v.length:Int)=c1/\∀c∈v,c∈x.cells) ⟨by rw[List.length_drop,List.length_take]; omega,λc hc=>List.mem_of_mem_take (List.mem_of_mem_drop hc)⟩) (λb1 hb1=>?_)
  refine T.bind (dS (by omega)) (λl6 hl6=>?_)
  have n6:(l6.length:Int)=out.length+c1:=by rw[hl6,List.length_append,Int.natCast_add,hb1.1]
  refine T.bind (T.val (by unfold Af4; rw[if_pos ⟨k6,by omega,by omega⟩]) (Q:=λv=>(v.length:Int)=c2/\∀c∈v,c∈x1.cells) ⟨by rw[List.length_drop,List.length_take]; omega,λc hc=>List.mem_of_mem_take (List.mem_of_mem_drop hc)⟩) (λb2 hb2=>?_)
  refine T.bind (dS (by omega)) (λl8 hl8=>?_)
  have n8:(l8.length:Int)=l6.length+c2:=by rw[hl8,List.length_append,Int.natCast_add,hb2.1]
  rw[show max o i=max o (i+1) by omega]
  refine AfY e1 e2 h1 h2 hx hx1 g1 g2 ho d (i+1) l8 (by omega) (by omega) (by rw[n8,n6,hl,k8]; omega) ?_
  intro c hc'
  rw[hl8,hl6] at hc'
  rcases List.mem_append.1 hc' with hc' | hc'
  ·rcases List.mem_append.1 hc' with hc' |hc'
   ·exact hc c hc'
   ·exact .inl (hb1.2 c hc')
  exact .inr (hb2.2 c hc')
theorem AwF {src:List aA} {k:Nat} {x:Arr} (h:Aq8 src k x) {P Q y:Int} (hp:aQ x.shape=P*(y*Q)) (hle:P*(y*Q)<=16384):(x.cells.length:Int)=P*(y*Q):=by
 rw[h.len,sizeS_of (mG.of h.rank h.dims hp hle)]
theorem BgF {s t:List Int} {v:Int} {k:Nat} (h:s.length=k) (hk:k<(s++([v]++t)).length):(s++([v]++t))[k]=v:=by
 subst h; simp
theorem Be7 {a b:Arr} {last:Bool} {w:Nat} (ha:Val 0 a) (hb:Val 0 b) (hw:Cw w a.cells) (hw2:Cw w b.cells):T (tY a b last) (Res w):=by
 unfold tY
 refine T.bind (BiI ha hb) (λr hr=>?_)
 obtain⟨x,x1,ax,e⟩:=r
 refine T.ite (λhe=>T.ret (Res.err (fM he))) (λhe=>?_)
 obtain⟨k,hax,A0⟩:=hr (dQ he)
 have hax:ax=(k:Int):=hax
 subst hax
 have A:Alike a b k x x1:=A0
 clear A0
 have hk:=A.l.ax
 have hk1:=A.r.ax
 have h8:=A.l.rank
 have hy:=A.l.dims _ (List.getElem_mem hk)
 have hy1:=A.r.dims _ (List.getElem_mem hk1)
 obtain⟨y,hyy⟩:∃y,y=x.shape[k]:=⟨_,rfl⟩
 obtain⟨y1,hyy1⟩:∃y,y=x1.shape[k]:=⟨_,rfl⟩
 have sx:=Ah9 hk
 have sx1:=Ah9 hk1
 rw[←A.lo,←A.hi,←hyy1] at sx1
 rw[←hyy] at sx hy
 rw[←hyy1] at hy1
 refine T.bind (dS (by simp; omega)) (λl hl=>?_)
 subst hl
 rw[List.nil_append]
 refine T.bind (T.val (uF (n:=x.shape.length) (by omega) (by omega)) (Q:=λv=>v=k) (by omega)) (λj hj=>?_)
 subst hj
 refine T.bind (T.val (v:=x.shape[j]) (by unfold pV; simp[hk]) (Q:=λv=>v=y) hyy.symm) (λv hv=>?_)
 subst hv
 refine T.bind (T.val (fV hk1) (Q:=λv=>v=y1) hyy1.symm) (λv1 hv=>?_)
 subst hv
 refine T.bind (T.val (uF (n:=x.shape.length) (by omega) (by omega)) (Q:=λv=>v=j) (by omega)) (λj1 hj=>?_)
 subst hj
 rw[aG (x:=v+v1) (by omega) (by omega)]
 refine T.bind (T.val (by unfold aset; rw[if_pos hk]) (Q:=λu=>u=x.shape.take j1++([v+v1]++x.shape.drop (j1+1))) (AsN hk)) (λl1 hl1=>?_)
 refine T.bind (uP (by rw[hl1]; simp; omega)) (λl2 hl2=>?_)
 subst hl2
 refine T.bind (T.val (zN l2) (Q:=λv=>v=kX l2) rfl) (λz hzz=>?_)
 obtain⟨z1,z2⟩:=z
 refine T.ite (λhe=>T.ret (Res.err (by omega))) (λhe=>?_)
 have hS:mG l2 z1:=by
  have h':z2=0:=dQ he
  have:=uE (s:=l2) (by rw[←hzz]; exact h')
  rw[←hzz] at this; exact this
 have hj2:j1<l2.length:=by rw[hl1]; simp; omega
 refine T.bind (T.val (fV hj2) (Q:=λu=>u=v+v1) ?_) (λy2 hy2=>?_)
 ·subst hl1
  exact BgF (by simp; omega) _
 subst hy2
 refine T.ite (λ_=>T.ret (Res.err (by omega))) (λhlim=>?_)
 have hlim:v+v1<=16384:=by simpa using hlim
 rw[show w64 ((j1:Int)+1)=((j1+1:Nat):Int) from by rw[aG (by omega) (by omega)]; rfl]
 refine T.bind (T.val (v:=x.shape.drop (j1+1)) (by unfold lfrom; rw[if_pos (by omega)]; simp) (Q:=λv=>v=x.shape.drop (j1+1)) rfl) (λl3 hl3=>?_)
 subst hl3
 refine T.bind (T.val (AkG (by unfold Few; simp; omega) (x.shape.drop (j1+1)) 0 1 rfl) (Q:=λv=>v=dM 1 (x.shape.drop (j1+1))) rfl) (λS hSS=>?_)
 refine T.bind (T.val (fV hk) (Q:=λu=>u=v) hyy.symm) (λy3 hy3=>?_)
 subst hy3
 refine T.bind (T.val (fV hk1) (Q:=λu=>u=v1) hyy1.symm) (λy4 hy4=>?_)
 subst hy4
 refine T.bind (T.val (v:=x.shape.take j1) (by unfold lto; rw[if_pos ⟨by omega,by omega⟩]; simp) (Q:=λv=>v=x.shape.take j1) rfl) (λl4 hl4=>?_)
 subst hl4
 refine T.bind (T.val (AkH (by unfold Few; simp; omega) (x.shape.take j1) 0 1 rfl) (Q:=λv=>v=dM 1 (x.shape.take j1)) rfl) (λW hW=>?_)
 obtain⟨P,hP⟩:∃P,P=aQ (x.shape.take j1):=⟨_,rfl⟩
 obtain⟨Q,hQ⟩:∃Q,Q=aQ (x.shape.drop (j1+1)):=⟨_,rfl⟩
 have P0:0<=P:=by rw[hP]; exact mF λd hd=>(A.l.dims d (List.mem_of_mem_take hd)).1
 have Q0:0<=Q:=by rw[hQ]; exact mF λd hd=>(A.l.dims d (List.mem_of_mem_drop hd)).1
 have hz1:=hS.prod
 have hz2:=hS.hi
 rw[hl1,fS,fS,←hP,←hQ] at hz1
 simp only[aQ,Int.mul_one] at hz1
 rw[Int.add_mul,Int.mul_add] at hz1
 have px:aQ x.shape=P*(y3*Q):=by
  rw[sx,fS,fS,←hP,←hQ]; simp only[aQ,Int.mul_one]
 have px1:aQ x1.shape=P*(y4*Q):=by
  rw[sx1,fS,fS,←hP,←hQ]; simp only[aQ,Int.mul_one]
 have a1:0<=y3*Q:=Int.mul_nonneg hy.1 Q0
 have a2:0<=y4*Q:=Int.mul_nonneg hy1.1 Q0
 have b1:0<=P*(y3*Q):=Int.mul_nonneg P0 a1
 have b2:0<=P*(y4*Q):=Int.mul_nonneg P0 a2
 have nx:=AwF A.l px (by omega)
 have nx1:=AwF A.r px1 (by omega)
 have hdims:∀d∈l2,d<=16384:=by
  intro d hd
  rw[hl1] at hd
  rcases List.mem_append.1 hd with hd|hd
  ·exact (A.l.dims d (List.mem_of_mem_take hd)).2
  rcases List.mem_cons.1 hd with rfl|hd
  ·exact hlim
  exact (A.l.dims d (List.mem_of_mem_drop hd)).2
 have fin:∀cs:List aA,(cs.length:Int)=z1->(∀c∈cs,c∈x.cells\/c∈x1.cells)->Val 0 (Arr.mk l2 cs)/\Cw w (Arr.mk l2 cs).cells:=by
  intro cs h1 h2
  refine⟨AlZ (by rw[h1]; exact hS) hdims λc hc=>?_,λc hc=>?_⟩
  ·rcases h2 c hc with h|h
   ·exact ha.i.cells c (A.l.mem c h)
   ·exact hb.i.cells c (A.r.mem c h)
  rcases h2 c hc with h|h
  ·exact hw c (A.l.mem c h)
  exact hw2 c (A.r.mem c h)
 have hWlt:W<9223372036854775808:=by rw[hW]; exact Al0 (by omega)
 by_cases hn:z1=0
 ·-- nothing in it
  by_cases hw0:W<=0
  ·rw[iO]
   rw[if_neg (by simp; omega)]
   exact T.bind (T.ret (Q:=λv=>v=[]) rfl) (λu hu=>by subst hu; exact T.ret λ_=>fin [] (by simp[hn]) (by simp))
  have hP0:P≠0:=by
   intro h
   rw[hP] at h
   rw[hW,AaC (AhG h)] at hw0; omega
  have e0:y3*S=0/\y4*S=0:=by
   by_cases hq:Q=0
   ·rw[hQ] at hq
    rw[hSS,AaC (AhG hq)]; simp
   have z0:P*(y3*Q)=0:=by omega
   have z0':P*(y4*Q)=0:=by omega
   have c1:y3=0:=by
    rcases Int.mul_eq_zero.1 z0 with h|h
    ·exact absurd h hP0
    exact (Int.mul_eq_zero.1 h).resolve_right hq
   have c2:y4=0:=by
    rcases Int.mul_eq_zero.1 z0' with h|h
    ·exact absurd h hP0
    exact (Int.mul_eq_zero.1 h).resolve_right hq
   rw[c1,c2]; simp
  refine T.bind (AfY (c1:=0) (c2:=0) (o:=W) (by rw[e0.1]; rfl) (by rw[e0.2]; rfl) (by omega) (by omega) (by omega) (by omega) (by rw[Int.mul_zero]; omega) (by rw[Int.mul_zero]; omega) hWlt (max W 0).toNat 0 [] (by omega) (by omega) (by simp) (by simp)) (λr hr=>?_)
  exact T.ret λ_=>fin r (by rw[hr.1,hn]; simp) hr.2
 have hS':=hS
 rw[hl1] at hS'
 obtain⟨p1,p2,p3,p4⟩:=oV hS' hn
 obtain⟨q1,q2,q3,q4⟩:=oV p2 (by omega)
 rw[jQ q2,←hQ] at hSS
 rw[jQ p1,←hP] at hW
 subst hSS; subst hW
 rw[←hP] at p3
 have m1:1*(y3*S)<=W*(y3*S):=Int.mul_le_mul_of_nonneg_right (by omega) a1
 have m2:1*(y4*S)<=W*(y4*S):=Int.mul_le_mul_of_nonneg_right (by omega) a2
 refine T.bind (AfY (c1:=y3*S) (c2:=y4*S) (o:=W) (aG (by omega) (by omega)) (aG (by omega) (by omega)) a1 a2 (by omega) (by omega) (by omega) (by omega) hWlt (max W 0).toNat 0 [] (by omega) (by omega) (by simp) (by simp)) (λr hr=>?_)
 refine T.ret λ_=>fin r ?_ hr.2
 rw[hr.1,show max W 0=W by omega,Int.mul_add]; exact hz1
theorem Az6 {a:Arr} {n:Int} {m:Nat} (hv:Val 0 a) (hm:Cw m a.cells):T (p_pick_rotated n a (w64 ((a.shape.length:Int)-1))) (λr=>Val 0 r/\Cw m r.cells):=by
 have hr:=hv.i.sized.rank
 rcases Nat.eq_zero_or_pos a.shape.length with h0|h0
 ·unfold p_pick_rotated
  refine T.ite (λ_=>T.ret ⟨hv,hm⟩) (λ_=>T.ite (λ_=>T.ret ⟨hv,hm⟩) (λh=>?_))
  simp[h0] at h
 rw[show w64 ((a.shape.length:Int)-1)=((a.shape.length-1:Nat):Int) from by rw[aG (by omega) (by omega)]; omega]
 exact AsJ hv hm (.inl (by omega))
theorem BeE {op:Int} {a b:Arr} {w:Nat} (hw:Cw w a.cells) (hw2:Cw w b.cells):T (AdG op a b) (Res w):=by
 unfold AdG
 refine T.bind (R:=λv=>match v with|.error r=>r.2≠0|.ok _=>Val 0 a/\Val 0 b) ?_ (λv hv=>?_)
 ·rw[qF]
  rw[if_pos (by simp)]
  refine T.bind (T.val (v:=a) rfl (Q:=λv=>v=a) rfl) (λy hy=>?_)
  subst hy
  refine T.bind (T.val (qL y) (Q:=λv=>v=Af3 y 0) rfl) (λe he=>?_)
  subst he
  refine T.ite (λhe=>T.ret (fM he)) (λhe1=>?_)
  rw[show w64 ((0:Int)+1)=1 from by rw[aG (by omega) (by omega)]; rfl]
  rw[qF]
  rw[if_pos (by simp)]
  refine T.bind (T.val (v:=b) rfl (Q:=λv=>v=b) rfl) (λz hz=>?_)
  subst hz
  refine T.bind (T.val (qL z) (Q:=λv=>v=Af3 z 0) rfl) (λe he=>?_)
  subst he
  refine T.ite (λhe=>T.ret (fM he)) (λhe2=>?_)
  rw[show w64 ((1:Int)+1)=2 from by rw[aG (by omega) (by omega)]; rfl]
  rw[qF]
  rw[if_neg (by simp)]
  exact T.ret ⟨dQ he1,dQ he2⟩
 match v,hv with
 |.error r,h=>exact T.ret λh'=>absurd h' h
 |.ok _,⟨ha,hb⟩=>
  refine T.bind (T.val (sM a 0 ha) (Q:=λv=>v=a) rfl) (λx hx=>?_)
  subst hx
  refine T.bind (T.val (sM b 0 hb) (Q:=λv=>v=b) rfl) (λy hy=>?_)
  subst hy
  refine T.bind (R:=Any) (T.ite (λ_=>T.any) (λ_=>T.any)) (λx3 _=>?_)
  refine T.ite (λ_=>T.bind (Be7 ha hb hw hw2) (λr hr=>T.ret hr)) (λ_=>?_)
  refine T.ite (λ_=>T.bind (BdW ha hb hw2) (λr hr=>T.ret hr)) (λ_=>?_)
  refine T.ite (λ_=>T.bind (BdW hb ha hw) (λr hr=>T.ret hr)) (λ_=>?_)
  refine T.bind (R:=Any) (T.ite (λ_=>T.any) (λ_=>T.any)) (λx3 _=>?_)
  refine T.ite (λ_=>T.bind (Az4 ha hb hw2) (λr hr=>T.ret hr)) (λ_=>?_)
  refine T.bind (R:=Any) (T.ite (λ_=>T.any) (λ_=>T.ite (λ_=>T.any) (λ_=>T.ite (λ_=>T.any) (λ_=>T.any)))) (λx3 _=>?_)
  refine T.ite (λ_=>?_) (λ_=>T.ret (Res.err (by omega)))
  refine T.bind (Be8 ha) (λn _=>?_)
  obtain⟨n,e⟩:=n
  refine T.ite (λhe=>T.ret (Res.err (fM he))) (λ_=>?_)
  refine T.ite (λ_=>T.bind (BiS hb hw2) (λr hr=>T.ret hr)) (λ_=>?_)
  refine T.ite (λ_=>T.bind (Bi4 hb hw2) (λr hr=>T.ret λ_=>hr)) (λ_=>?_)
  refine T.ite (λ_=>T.bind (AsJ (k:=0) hb hw2 ?_) (λr hr=>T.ret λ_=>hr)) (λ_=>T.bind (Az6 hb hw2) (λr hr=>T.ret λ_=>hr))
  cases hs:y.shape with
  |nil=>exact .inr rfl
  |cons d r=>exact .inl (by simp)
theorem Bj2 {op:Int} {a:Arr} {w:Nat} (hw:Cw w a.cells) (hwa:wA a<=w):T (Aa6 op a) (Res w):=by
 unfold Aa6
 have E:∀{x:Option (Arr×Int)},T x (Res w)->T (x>>=λ(x,x1)=>some (Except.error (x,x1):Except (Arr×Int) Unit)) (λr=>match r with|.error r=>Res w r|.ok _=>True):=λh=>T.bind h (λr hr=>T.ret hr)
 refine T.bind (R:=λr=>match r with|.error r=>Res w r|.ok _=>True) ?_ (λv hv=>?_)
 ·repeat' (first|exact E Ay8|exact E (BeP hw)|exact T.ret trivial|refine T.ite (λ_=>?_) (λ_=>?_))
 match v,hv with
 |.error r,h=>exact T.ret h
 |.ok _,_=>exact T.bind (AyU hw hwa) (λr hr=>T.ret hr)
theorem Bj7 {op:Int} {a b:Arr} {w:Nat} (hw:Cw w a.cells) (hw2:Cw w b.cells):T (Aa7 op a b) (Res w):=by
 unfold Aa7
 have E:∀{x:Option (Arr×Int)},T x (Res w)->T (x>>=λ(x,x1)=>some (Except.error (x,x1):Except (Arr×Int) Unit)) (λr=>match r with|.error r=>Res w r|.ok _=>True):=λh=>T.bind h (λr hr=>T.ret hr)
 refine T.bind (R:=λr=>match r with|.error r=>Res w r|.ok _=>True) ?_ (λv hv=>?_)
 ·repeat' (first|exact E (BaY hw2)|exact E BeO|exact E (BeE hw hw2)|exact T.ret trivial|refine T.ite (λ_=>?_) (λ_=>?_))
 match v,hv with
 |.error r,h=>exact T.ret h
 |.ok _,_=>exact T.bind Ay7 (λr hr=>T.ret hr)
theorem AnG {l u c:Int} (hl:0<=l) (hl2:l<4611686018427387904) (hu:0<=u) (hu2:u<4611686018427387904) :
  eV (.mk (.mk l u) c)=some (if l=0 then (11,0,u) else (0,l-1,u+1)):=by
 unfold eV mC
 rw[if_neg (by decide)]
 by_cases h:l=0
 ·subst h
  rw[if_pos (by simp),if_pos rfl]
  simp
 rw[if_neg (by simp; omega),if_neg h]
 simp only[aG (x:=l-1) (by omega) (by omega),aG (x:=u+1) (by omega) (by omega)]
 simp
def cA (a:Arr):Int:=(kH a).getD 0
theorem Bh0 {a:Arr} (h:Val 0 a):kH a=some (cA a)/\(wA a<big->cA a=wA a):=by
 obtain⟨n,hn,hn2⟩:=BfH a 0 h
 unfold cA
 rw[hn]
 exact⟨rfl,hn2⟩
theorem Bg5 {a:Arr} {e:Int} {names:List Str} {vals:List Arr} {b:aF} (hv:e=0->Val 0 a) :
  aT a e names vals b=some (if e=0 then (if cA a>b.cells then (.mk [] [],12) else (a,0)) else (.mk [] [],e)):=by
 unfold aT
 by_cases he:e=0
 ·subst he
  unfold qD
  rw[(Bh0 (hv rfl)).1]
  by_cases hc:cA a>b.cells
  ·simp[hc]
  simp[hc]
 simp[he]
theorem AyB {n:Node} (h:WfB n):T (gX n) Any:=by
 unfold gX
 rcases h with ⟨h,_⟩|⟨h,b,hb,_⟩
 ·rw[h]; exact T.any
 rw[h,hb]
 rw[if_pos (by decide)]
 exact T.bind (jM (Q:=Any) trivial) (λ_ _=>T.any)
theorem AsC {s:Str} {names:List Str} {vals:List Arr} {b:aF} (hf:Few names):∀(r:List Str) (k:Nat),names.drop k=r->T (p_run_machine_name_l0 (s,names,vals,b,(k:Int))) (λr=>match r with|.error r=>r.2=0->Val 0 r.1/\r.1∈vals|.ok _=>True)
 | [],k,h=>by
  rw[p_run_machine_name_l0]
  simp only[bW (bX h),fJ,if_false]
  exact T.ret trivial
 |n::r,k,h=>by
  have hk:=bY h
  rw[p_run_machine_name_l0]
  simp only[cU hk,if_true,bE h,oJ,bJ,bQ h hf]
  refine T.bind (R:=λr=>match r with|.error r=>r.2=0->Val 0 r.1/\r.1∈vals|.ok _=>True) ?_ (λv hv=>?_)
  ·refine T.ite (λ_=>T.ite (λhx=>?_) (λ_=>T.ret trivial)) (λ_=>T.ret trivial)
   have hx:(k:Int)<vals.length:=by simpa using hx
   have e1:lget vals (k:Int)=some (vals[k]'(by omega)):=fV (by omega)
   rw[e1]
   simp only[bJ,qL]
   refine T.ite (λ_=>T.ret (λh=>by simp at h)) (λhe=>?_)
   have hv:Val 0 (vals[k]'(by omega)):=dQ he
   rw[sM _ 0 hv]
   exact T.ret λ_=>⟨hv,List.getElem_mem _⟩
  match v,hv with
  |.error r,h=>exact T.ret h
  |.ok _,_=>exact AsC hf r (k+1) (aX h)
theorem BiN {s:Str} {names:List Str} {vals:List Arr} {b:aF} (hf:Few names):T (cK s names vals b) (λr=>r.2=0->Val 0 r.1/\r.1∈vals):=by
 unfold cK
 refine T.bind (AsC hf names 0 rfl) (λv hv=>?_)
 match v,hv with
 |.error r,h=>exact T.ret h
 |.ok _,_=>exact T.ret (λh=>by simp at h)
mutual
def eU:Node->List Str
 |.mk kd _ nm _ ks _=>(if kd=2 then [nm] else [])++Ab6 ks
def Ab6:List Node->List Str
 | []=>[]
 |n::r=>eU n++Ab6 r
end
theorem ApK {k:Node}:∀{l:List Node},k∈l->∀s∈eU k,s∈Ab6 l
 |n::r,hk,s,hs=>by
  simp only[Ab6,List.mem_append]
  rcases List.mem_cons.1 hk with rfl|hk
  ·exact .inl hs
  exact .inr (ApK hk s hs)
theorem oO {n k:Node} (hk:k∈n.kids):∀s∈eU k,s∈eU n:=by
 cases n; intro s hs
 simp only[eU,List.mem_append]
 exact .inr (ApK hk s hs)
def Lk (N:List Str) (V:List Arr) (N2:List Str) (V2:List Arr) (s:Str):Prop:=∀b b2,cK s N V b=cK s N2 V2 b2
theorem AwY {s:Str} {N:List Str} {V:List Arr} {b b2:aF} (hf:Few N):∀(r:List Str) (k:Nat),N.drop k=r->p_run_machine_name_l0 (s,N,V,b,(k:Int))=p_run_machine_name_l0 (s,N,V,b2,(k:Int))
 | [],k,h=>by
  conv=>lhs; rw[p_run_machine_name_l0]
  conv=>rhs; rw[p_run_machine_name_l0]
  simp only[bW (bX h),fJ,if_false]
 |n::r,k,h=>by
  conv=>lhs; rw[p_run_machine_name_l0]
  conv=>rhs; rw[p_run_machine_name_l0]
  simp only[bQ h hf,AwY (b:=b) (b2:=b2) hf r (k+1) (aX h)]
theorem BhO {s:Str} {N:List Str} {V:List Arr} (hf:Few N) (b b2:aF):cK s N V b=cK s N V b2:=by
 unfold cK
 rw[show p_run_machine_name_l0 (s,N,V,b,0)=p_run_machine_name_l0 (s,N,V,b2,0) from AwY hf N 0 rfl]
def dN (G:Prop) (S:List Str) (N:List Str) (V:List Arr) (l u c:Int) (X:List Str->List Arr->aF->Option (Arr×Int×Int×Int)):Prop:=
 ∃x e l',X N V (.mk (.mk l u) c)=some (x,e,l',u+(l-l'))/\0<=l'/\l'<=l/\(e=0->Val 0 x/\(G->(wA x:Int)<=c)) /\
  ∀k c2 N2 V2,0<=k->k<=1000000->c<=c2->c2<=1000000->(∀s∈S,Lk N V N2 V2 s)->((e≠11/\e≠12)\/(k=0/\c2=c))->X N2 V2 (.mk (.mk (l+k) u) c2)=some (x,e,l'+k,u+(l-l'))
theorem dN.sub {G S S' N V l u c X} (h:dN G S N V l u c X) (hs:∀s∈S,s∈S'):dN G S' N V l u c X:=by
 obtain⟨x,e,l',h1,h2,h3,h4,h5⟩:=h
 exact⟨x,e,l',h1,h2,h3,h4,λk c2 N2 V2 a b d f g=>h5 k c2 N2 V2 a b d f λs hs'=>g s (hs s hs')⟩
theorem dN.val {G S N V} {l u c:Int} {X:List Str->List Arr->aF->Option (Arr×Int×Int×Int)} {x:Arr} {e:Int} (hf:Few N) (h0:0<=l) (hv:e=0->Val 0 x/\(G->(wA x:Int)<=c))
  (h:∀N2 V2 l2 c2,(∀s∈S,Lk N V N2 V2 s)->c<=c2->((e≠11/\e≠12)\/c2=c)->X N2 V2 (.mk (.mk l2 u) c2)=some (x,e,l2,u)):dN G S N V l u c X:=by
 refine⟨x,e,l,?_,h0,Int.le_refl _,hv,λk c2 N2 V2 _ _ h2 _ hs hr=>?_⟩
 ·rw[h N V l c (λs _ b b2=>?_) (Int.le_refl _) (.inr rfl)]
  ·simp
  ·exact BhO hf b b2
 rw[h N2 V2 (l+k) c2 hs h2 (hr.imp id λh=>h.2)]
 simp
theorem dN.step {G S N V} {l u c:Int} {X Y:List Str->List Arr->aF->Option (Arr×Int×Int×Int)} (h0:0<=l) (h1:l<=2000) (h2:0<=u) (h3:u<=2000)
  (hX:∀N V l u c,X N V (.mk (.mk l u) c)=eV (.mk (.mk l u) c)>>=λ(e,left,used)=>if (e != 0) then some (.mk [] [],e,left,used) else Y N V (.mk (.mk left used) c))
  (h:0<l->dN G S N V (l-1) (u+1) c Y):dN G S N V l u c X:=by
 by_cases hl:l=0
 ·subst hl
  refine⟨.mk [] [],11,0,?_,Int.le_refl _,Int.le_refl _,λh=>by omega,λk c2 N2 V2 _ _ _ _ _ hr=>?_⟩
  ·rw[hX,AnG (by omega) (by omega) (by omega) (by omega)]; simp
  have hk:k=0:=by omega
  subst hk
  rw[hX,Int.zero_add,AnG (by omega) (by omega) (by omega) (by omega)]; simp
 obtain⟨x,e,l',g1,g2,g3,g4,g5⟩:=h (by omega)
 refine⟨x,e,l',?_,g2,by omega,g4,λk c2 N2 V2 a b d f g hr=>?_⟩
 ·rw[hX,AnG (by omega) (by omega) (by omega) (by omega),if_neg hl]
  simp only[oJ,bJ]
  rw[if_neg (by decide),g1]
  rw[show u+1+(l-1-l')=u+(l-l') by omega]
 rw[hX,AnG (by omega) (by omega) (by omega) (by omega),if_neg (by omega)]
 simp only[oJ,bJ]
 rw[if_neg (by decide),show l+k-1=l-1+k by omega,g5 k c2 N2 V2 a b d f g hr]
 rw[show u+1+(l-1-l')=u+(l-l') by omega]
end Go.AM.Seat
namespace Go.AM.Seat
open Go Go.AM
theorem dN.held {G S N V} {l u c:Int} {a:Arr} {e:Int} (h0:0<=l) (hv:e=0->Val 0 a/\(G->wA a<big)) :
  dN G S N V l u c (λN V m=>aT a e N V m>>=λ(x,x1)=>some (x,x1,m.fuel.left,m.fuel.used)):=by
 have H:∀N V m,aT a e N V m=some (if e=0 then (if cA a>m.cells then (.mk [] [],12) else (a,0)) else (.mk [] [],e)):=λN V m=>Bg5 λh=>(hv h).1
 by_cases he:e=0
 ·by_cases hc:cA a>c
  ·refine⟨.mk [] [],12,l,?_,h0,Int.le_refl _,λh=>by omega,λk c2 N2 V2 _ _ _ _ _ hr=>?_⟩
   ·simp only[H,if_pos he,if_pos hc,oJ,bJ,Int.sub_self,Int.add_zero]
   ·have hc2:c2=c:=by omega
    subst hc2
    simp only[H,if_pos he,if_pos hc,oJ,bJ,Int.sub_self,Int.add_zero]
  ·refine⟨a,0,l,?_,h0,Int.le_refl _,λh=>⟨(hv he).1,λg=>?_⟩,λk c2 N2 V2 _ _ h2 _ _ hr=>?_⟩
   ·simp only[H,if_pos he,if_neg hc,oJ,bJ,Int.sub_self,Int.add_zero]
   ·have:=(Bh0 (hv he).1).2 ((hv he).2 g)
    omega
   ·have hc2:¬cA a>c2:=by omega
    simp only[H,if_pos he,if_neg hc2,oJ,bJ,Int.sub_self,Int.add_zero]
 refine⟨.mk [] [],e,l,?_,h0,Int.le_refl _,λh=>absurd h he,λk c2 N2 V2 _ _ _ _ _ _=>?_⟩
 ·simp only[H,if_neg he,oJ,bJ,Int.sub_self,Int.add_zero]
 simp only[H,if_neg he,oJ,bJ,Int.sub_self,Int.add_zero]
theorem BiU {a:Arr} {w:Nat} (hv:Val 0 a) (hw:Cw w a.cells) (h:w<=1000000):wA a<big:=by
 rw[AxY,An5]
 have h1:=Bd2 hw
 have h2:=hv.i.sized.hi
 have h3:a.cells.length*w<=16384*1000000:=Nat.mul_le_mul (by omega) h
 unfold big; omega
theorem dN.seq {G S N V} {l u c:Int} {X X1:List Str->List Arr->aF->Option (Arr×Int×Int×Int)} {K:Arr×Int×Int×Int->List Str->List Arr->Int->Option (Arr×Int×Int×Int)} {Y:Arr->List Str->List Arr->aF->Option (Arr×Int×Int×Int)}
  (h1:dN G S N V l u c X1) (hX:∀N V l u c,X N V (.mk (.mk l u) c)=X1 N V (.mk (.mk l u) c)>>=λr=>K r N V c) (he:∀x e l u N V c,e≠0->K (x,e,l,u) N V c=some (.mk [] [],e,l,u)) (hk:∀x l u N V c,K (x,0,l,u) N V c=Y x N V (.mk (.mk l u) c))
  (h2:∀x l',Val 0 x->(G->(wA x:Int)<=c)->0<=l'->l'<=l->dN G S N V l' (u+(l-l')) c (Y x)):dN G S N V l u c X:=by
 obtain⟨x,e,l',g1,g2,g3,g4,g5⟩:=h1
 by_cases hz:e=0
 ·subst hz
  obtain⟨v1,v2⟩:=g4 rfl
  obtain⟨y,f,l2,k1,k2,k3,k4,k5⟩:=h2 x l' v1 v2 g2 g3
  refine⟨y,f,l2,?_,k2,by omega,k4,λk c2 N2 V2 a b d f2 g hr=>?_⟩
  ·rw[hX,g1]
   simp only[oJ,bJ,hk]
   rw[k1,show u+(l-l')+(l'-l2)=u+(l-l2) by omega]
  rw[hX,g5 k c2 N2 V2 a b d f2 g (.inl (by omega))]
  simp only[oJ,bJ,hk]
  rw[k5 k c2 N2 V2 a b d f2 g hr,show u+(l-l')+(l'-l2)=u+(l-l2) by omega]
 refine⟨.mk [] [],e,l',?_,g2,g3,λh=>absurd h hz,λk c2 N2 V2 a b d f2 g hr=>?_⟩
 ·rw[hX,g1]
  simp only[oJ,bJ,he _ _ _ _ _ _ _ hz]
 rw[hX,g5 k c2 N2 V2 a b d f2 g hr]
 simp only[oJ,bJ,he _ _ _ _ _ _ _ hz]
theorem BdS {G:Prop} {n:Node} {ar:pA} {S N V} {l u c:Int} (hl0:0<=l) (hl:l<=2000) (hu0:0<=u) (hu:u<=2000) (hk:n.kind=1) (hv:Val 0 n.lit) (hw:G->wA n.lit<big):dN G S N V l u c (λN V m=>aI (n,ar,N,V,m)):=by
 refine dN.step (Y:=λN V m=>aT n.lit 0 N V m>>=λ(x,x1)=>some (x,x1,m.fuel.left,m.fuel.used)) hl0 hl hu0 hu ?_ (λh=>dN.held (by omega) λ_=>⟨hv,hw⟩)
 intro N V l u c
 simp only[]
 rw[aI]
 simp only[hk,beq_self_eq_true,if_true,sM _ 0 hv,oJ,bJ]
theorem dN.congr {G:Prop} {S N V} {l u c:Int} {X Y:List Str->List Arr->aF->Option (Arr×Int×Int×Int)} (h:dN G S N V l u c Y) (e:∀N2 V2 m,(∀s∈S,Lk N V N2 V2 s)->X N2 V2 m=Y N2 V2 m) (hf:Few N):dN G S N V l u c X:=by
 obtain⟨x,f,l',g1,g2,g3,g4,g5⟩:=h
 exact⟨x,f,l',by rw[e N V _ λs _ b b2=>BhO hf b b2,g1],g2,g3,g4,λk c2 N2 V2 a b d f2 g hr=>by rw[e N2 V2 _ g]; exact g5 k c2 N2 V2 a b d f2 g hr⟩
mutual
def AiX:Node->Prop
 |.mk kd _ _ l ks _=>(kd=1->Val 0 l->wA l<big)/\BaC ks
def BaC:List Node->Prop
 | []=>True
 |n::r=>AiX n/\BaC r
end
theorem As7:∀{l:List Node},BaC l->∀k∈l,AiX k
 |n::r,h,k,hk=>by
  rcases List.mem_cons.1 hk with rfl|hk
  ·exact h.1
  exact As7 h.2 k hk
theorem AiX.kids {n:Node} (h:AiX n):∀k∈n.kids,AiX k:=by cases n; exact As7 h.2
theorem AiX.lit {n:Node} (h:AiX n):n.kind=1->Val 0 n.lit->wA n.lit<big:=by cases n; exact h.1
def Arg (G:Prop) (c:Int) (a:Arr):Prop:=Val 0 a/\(G->(wA a:Int)<=c)
def Mt (l u c:Int):Prop:=0<=l/\0<=u/\l+u<=2000/\c<=1000000
theorem Mt.less {l u c l':Int} (h:Mt l u c) (h0:0<=l') (h1:l'<=l):Mt l' (u+(l-l')) c:=by
 obtain⟨h2,h3,h4,h5⟩:=h; exact⟨h0,by omega,by omega,h5⟩
theorem Mt.next {l u c:Int} (h:Mt l u c) (h0:0<l):Mt (l-1) (u+1) c:=by
 obtain⟨h2,h3,h4,h5⟩:=h; exact⟨by omega,by omega,by omega,h5⟩
theorem AjA {a:Arr}:Cw (wA a) a.cells:=by
 intro c hc
 rw[AxY,An5]
 have:=AnH hc
 omega
theorem ob {α β:Type} {x:Option α} {f g:α->Option β} (h:∀a,f a=g a):(x>>=f)=(x>>=g):=by rw[funext h]
theorem BbH {α β γ δ:Type} (o:Option (α×β×γ×δ)):(o>>=λ(a,b,c,d)=>some (a,b,c,d))=o:=by cases o<;>rfl
theorem dN.eqv {G S N V} {l u c:Int} {X Y:List Str->List Arr->aF->Option (Arr×Int×Int×Int)} (h:dN G S N V l u c Y) (e:∀N V m,X N V m=Y N V m):dN G S N V l u c X:=by
 have:X=Y:=by funext N V m; exact e N V m
 rw[this]; exact h
theorem dN.prim {G:Prop} {S N V} {l u c:Int} {P:Option (Arr×Int)} {w:Nat} (hP:T P (Res w)) (h0:0<=l) (hc:c<=1000000) (hw:G->(w:Int)<=c) :
  dN G S N V l u c (λN V m=>P>>=λ(x,x1)=>aT x x1 N V m>>=λ(x2,x3)=>some (x2,x3,m.fuel.left,m.fuel.used)):=by
 obtain⟨⟨x,e⟩,hr,hq⟩:=hP
 subst hr
 refine dN.eqv (dN.held (a:=x) (e:=e) h0 λhe=>⟨(hq he).1,λg=>BiU (hq he).1 (hq he).2 ?_⟩) λ_ _ _=>rfl
 have:=hw g
 omega
theorem AyS {f x:Node}:lget [f,x] (w64 ((List.length [f,x]:Int)-1))=some x:=by rfl
theorem AyT {f x y:Node}:lget [f,x,y] (w64 ((List.length [f,x,y]:Int)-1))=some y:=by rfl
theorem dN.go {G S N V} {l u c:Int} {X Y:List Str->List Arr->aF->Option (Arr×Int×Int×Int)} (hm:Mt l u c)
  (hX:∀N V l u c,X N V (.mk (.mk l u) c)=eV (.mk (.mk l u) c)>>=λ(e,left,used)=>if (e != 0) then some (.mk [] [],e,left,used) else Y N V (.mk (.mk left used) c))
  (h:Mt (l-1) (u+1) c->dN G S N V (l-1) (u+1) c Y):dN G S N V l u c X:=
 dN.step hm.1 (by have:=hm; unfold Mt at this; omega) hm.2.1 (by have:=hm; unfold Mt at this; omega) hX λh0=>h (hm.next h0)
end Go.AM.Seat
namespace Go.AM.Seat
open Go Go.AM
def OkE (G:Prop) (N:List Str) (V:List Arr) (n:Node):Prop:=∀lt rt,WfE lt rt n->(G->AiX n)->∀(ar:pA) (l u c:Int),Mt l u c->(lt=true->Arg G c ar.left)->(rt=true->Arg G c ar.right) ->
 dN G (eU n) N V l u c (λN V m=>aI (n,ar,N,V,m))
def OkM (G:Prop) (N:List Str) (V:List Arr) (n:Node):Prop:=WfM n->(G->AiX n)->∀(a:Arr) (l u c:Int),Mt l u c->Arg G c a->dN G (eU n) N V l u c (λN V m=>aZ (n,a,N,V,m))
def OkT (G:Prop) (N:List Str) (V:List Arr) (n:Node):Prop:=WfT n->(G->AiX n)->∀(a b:Arr) (l u c:Int),Mt l u c->Arg G c a->Arg G c b->dN G (eU n) N V l u c (λN V m=>bD (n,a,b,N,V,m))
def OkD (G:Prop) (N:List Str) (V:List Arr) (n:Node):Prop:=WfD n->(G->AiX n)->∀(a b:Arr) (l u c:Int),Mt l u c->Arg G c a->Arg G c b->dN G (eU n) N V l u c (λN V m=>bD (n,a,b,N,V,m))
section
variable {G:Prop} {N:List Str} {V:List Arr} {n:Node}
theorem BdT {ar:pA} {l u c:Int} (hf:Few N) (hG:G->∀v∈V,Val 0 v->wA v<big) (hm:Mt l u c) (hk:n.kind=2):dN G (eU n) N V l u c (λN V m=>aI (n,ar,N,V,m)):=by
 refine dN.go (Y:=λN V m=>cK n.name N V m>>=λ(x3,x4)=>aT x3 x4 N V m>>=λ(x5,x6)=>some (x5,x6,m.fuel.left,m.fuel.used)) hm ?_ (λh=>?_)
 ·intro N V l u c
  simp only[]
  rw[aI]
  simp only[hk]
  rfl
 obtain⟨⟨x,e⟩,hr,hq⟩:=BiN (s:=n.name) (vals:=V) (b:=.mk (.mk l u) c) hf
 refine dN.congr (Y:=λN V m=>aT x e N V m>>=λ(x5,x6)=>some (x5,x6,m.fuel.left,m.fuel.used)) (dN.held h.1 λhe=>⟨(hq he).1,λg=>hG g _ (hq he).2 (hq he).1⟩) ?_ hf
 intro N2 V2 m hs
 have:cK n.name N2 V2 m=some (x,e):=by
  rw[←hs n.name (by obtain⟨k,o,nm,lt,ks,at_⟩:=n; simp only[Node.kind] at hk; subst hk; simp[eU,Node.name]) (.mk (.mk l u) c) m,hr]
 rw[this]
 rfl
theorem Aw0 {ar:pA} {l u c:Int} {x:Arr} (hf:Few N) (hm:Mt l u c) (hx:Arg G c x) (hk:(n.kind=3/\ar.left=x)\/(n.kind=4/\ar.right=x)):dN G (eU n) N V l u c (λN V m=>aI (n,ar,N,V,m)):=by
 refine dN.go (Y:=λN V m=>some (x,0,m.fuel.left,m.fuel.used)) hm ?_ (λh=>?_)
 ·intro N V l u c
  simp only[]
  rw[aI]
  rcases hk with ⟨hk,rfl⟩|⟨hk,rfl⟩
  ·simp only[hk]; rfl
  simp only[hk]; rfl
 exact dN.val hf h.1 (λ_=>hx) λN2 V2 l2 c2 _ _ _=>rfl
theorem BfZ {ar:pA} {l u c:Int} {f x:Node} (hm:Mt l u c) (hk:n.kind=5) (hks:n.kids=[f,x])
  (hx:Mt (l-1) (u+1) c->dN G (eU x) N V (l-1) (u+1) c (λN V m=>aI (x,ar,N,V,m)))
  (hf:∀l u a,Mt l u c->Arg G c a->dN G (eU f) N V l u c (λN V m=>aZ (f,a,N,V,m))):dN G (eU n) N V l u c (λN V m=>aI (n,ar,N,V,m)):=by
 let K:Arr×Int×Int×Int->List Str->List Arr->Int->Option (Arr×Int×Int×Int):=λ(x7,e1,left1,used1) N V c=>
  if (e1 != 0) then some (.mk [] [],e1,left1,used1) else aZ (f,x7,N,V,.mk (.mk left1 used1) c)>>=λ(x10,x11,left3,used3)=>some (x10,x11,left3,used3)
 refine dN.go (Y:=λN V m=>aI (x,ar,N,V,m)>>=λr=>K r N V m.cells) hm ?_ (λh=>?_)
 ·intro N V l u c
  conv=>lhs; simp only[]; rw[aI]
  refine ob λ⟨e,left,used⟩=>?_
  simp only[hk,hks,AyS,oJ,bJ]
  congr 1
  refine ob λ⟨x7,e1,left1,used1⟩=>?_
  simp only[K]
  by_cases he:e1=0
  ·subst he; rfl
  rw[if_pos (by simpa using he),if_pos (by simpa using he),if_pos (by simpa using he)]
 refine dN.seq (X1:=λN V m=>aI (x,ar,N,V,m)) (K:=K) (Y:=λa N V m=>aZ (f,a,N,V,m)) ((hx h).sub (oO (by rw[hks]; simp))) (λ_ _ _ _ _=>rfl) ?_ ?_ ?_
 ·intro x e l u N V c he
  simp only[K]; rw[if_pos (by simpa using he)]
 ·intro x l u N V c
  exact BbH _
 intro a l' hv hw h0 h1
 exact (hf _ _ a (h.less h0 h1) ⟨hv,hw⟩).sub (oO (by rw[hks]; simp))
theorem BfY {ar:pA} {l u c:Int} {f x y:Node} (hm:Mt l u c) (hk:n.kind=6) (hks:n.kids=[f,x,y])
  (hy:∀l u,Mt l u c->dN G (eU y) N V l u c (λN V m=>aI (y,ar,N,V,m)))
  (hx:∀l u,Mt l u c->dN G (eU x) N V l u c (λN V m=>aI (x,ar,N,V,m)))
  (hf:∀l u a b,Mt l u c->Arg G c a->Arg G c b->dN G (eU f) N V l u c (λN V m=>bD (f,a,b,N,V,m))):dN G (eU n) N V l u c (λN V m=>aI (n,ar,N,V,m)):=by
 let K2:Arr->Arr×Int×Int×Int->List Str->List Arr->Int->Option (Arr×Int×Int×Int):=λx7 (x12,e2,left4,used4) N V c=>
  if (e2 != 0) then some (.mk [] [],e2,left4,used4) else bD (f,x12,x7,N,V,.mk (.mk left4 used4) c)>>=λ(x10,x11,left3,used3)=>some (x10,x11,left3,used3)
 let Y2:Arr->List Str->List Arr->aF->Option (Arr×Int×Int×Int):=λx7 N V m=>aI (x,ar,N,V,m)>>=λr=>K2 x7 r N V m.cells
 let K:Arr×Int×Int×Int->List Str->List Arr->Int->Option (Arr×Int×Int×Int):=λ(x7,e1,left1,used1) N V c=>
  if (e1 != 0) then some (.mk [] [],e1,left1,used1) else Y2 x7 N V (.mk (.mk left1 used1) c)
 refine dN.go (Y:=λN V m=>aI (y,ar,N,V,m)>>=λr=>K r N V m.cells) hm ?_ (λh=>?_)
 ·intro N V l u c
  conv=>lhs; simp only[]; rw[aI]
  refine ob λ⟨e,left,used⟩=>?_
  simp only[hk,hks,AyT,oJ,bJ]
  congr 1
  refine ob λ⟨x7,e1,left1,used1⟩=>?_
  simp only[K,Y2,K2]
  by_cases he:e1=0
  ·subst he; rfl
  rw[if_pos (by simpa using he),if_pos (by simpa using he),if_pos (by simpa using he)]
 refine dN.seq (X1:=λN V m=>aI (y,ar,N,V,m)) (K:=K) (Y:=Y2) ((hy _ _ h).sub (oO (by rw[hks]; simp))) (λ_ _ _ _ _=>rfl) ?_ ?_ ?_
 ·intro x e l u N V c he
  simp only[K]; rw[if_pos (by simpa using he)]
 ·intro x l u N V c
  rfl
 intro a l' hv hw h0 h1
 have hm':=h.less h0 h1
 refine dN.seq (X1:=λN V m=>aI (x,ar,N,V,m)) (K:=K2 a) (Y:=λb N V m=>bD (f,b,a,N,V,m)) ((hx _ _ hm').sub (oO (by rw[hks]; simp))) (λ_ _ _ _ _=>rfl) ?_ ?_ ?_
 ·intro x e l u N V c he
  simp only[K2]; rw[if_pos (by simpa using he)]
 ·intro x l u N V c
  exact BbH _
 intro b l2 hv2 hw2 h2 h3
 exact (hf _ _ b a (hm'.less h2 h3) ⟨hv2,hw2⟩ ⟨hv,hw⟩).sub (oO (by rw[hks]; simp))
end
end Go.AM.Seat
namespace Go.AM.Seat
open Go Go.AM
section
variable {G:Prop} {N:List Str} {V:List Arr} {n:Node}
theorem dN.fold {S N V} {l u c:Int} {P:Option (Arr×Int)} {b:Node} {w:Nat} (hb:WfB b) {R:bZ->Option (Arr×Int)} (hP:∀f,T (R f) (Res w)) (h0:0<=l) (hc:c<=1000000) (hw:G->(w:Int)<=c) :
  dN G S N V l u c (λN V m=>gX b>>=λx8=>R x8>>=λ(x,x1)=>aT x x1 N V m>>=λ(x2,x3)=>some (x2,x3,m.fuel.left,m.fuel.used)):=by
 obtain⟨f,hr,_⟩:=AyB hb
 rw[hr]
 exact dN.prim (hP f) h0 hc hw
theorem BeB {a:Arr} {l u c:Int} (hm:Mt l u c) (ha:Arg G c a) (hk:n.kind=21):dN G (eU n) N V l u c (λN V m=>aZ (n,a,N,V,m)):=by
 refine dN.go (Y:=λN V m=>Aa6 n.op_ a>>=λ(x,x1)=>aT x x1 N V m>>=λ(x2,x3)=>some (x2,x3,m.fuel.left,m.fuel.used)) hm ?_ (λh=>dN.prim (Bj2 AjA (Nat.le_refl _)) h.1 h.2.2.2 ha.2)
 intro N V l u c
 simp only[]
 rw[aZ]
 simp only[hk]
 rfl
theorem BeY {a b:Arr} {l u c:Int} (hm:Mt l u c) (ha:Arg G c a) (hb:Arg G c b) (hk:n.kind=21):dN G (eU n) N V l u c (λN V m=>bD (n,a,b,N,V,m)):=by
 have hle:∀{w v:Nat} {l:List aA},Cw w l->w<=v->Cw v l:=λh h' c hc=>Nat.le_trans (h c hc) h'
 refine dN.go (Y:=λN V m=>Aa7 n.op_ a b>>=λ(x,x1)=>aT x x1 N V m>>=λ(x2,x3)=>some (x2,x3,m.fuel.left,m.fuel.used)) hm ?_
  (λh=>dN.prim (Bj7 (w:=max (wA a) (wA b)) (hle AjA (by omega)) (hle AjA (by omega))) h.1 h.2.2.2 λg=>by have:=ha.2 g; have:=hb.2 g; omega)
 intro N V l u c
 simp only[]
 rw[bD]
 simp only[hk]
 rfl
theorem BeA {a:Arr} {l u c:Int} {b:Node} (hm:Mt l u c) (ha:Arg G c a) (hk:n.kind=31\/n.kind=32\/n.kind=33\/n.kind=34) (hks:n.kids=[b]) (hb:WfB b):dN G (eU n) N V l u c (λN V m=>aZ (n,a,N,V,m)):=by
 have g:n.kind=31\/n.kind=32\/n.kind=33\/n.kind=34:=hk
 by_cases h12:n.kind=31\/n.kind=32
 ·refine dN.go (Y:=λN V m=>gX b>>=λx9=>xR x9 a (n.kind==32)>>=λ(x,x1)=>aT x x1 N V m>>=λ(x2,x3)=>some (x2,x3,m.fuel.left,m.fuel.used)) hm ?_
   (λh=>dN.fold (P:=none) hb (λf=>Bj3 AjA) h.1 h.2.2.2 ha.2)
  intro N V l u c
  simp only[]
  rw[aZ]
  rcases h12 with hk|hk<;>simp only[hk,hks]<;>rfl
 refine dN.go (Y:=λN V m=>gX b>>=λx9=>vJ x9 a (n.kind==34)>>=λ(x,x1)=>aT x x1 N V m>>=λ(x2,x3)=>some (x2,x3,m.fuel.left,m.fuel.used)) hm ?_
  (λh=>dN.fold (P:=none) hb (λf=>BhZ AjA) h.1 h.2.2.2 ha.2)
 intro N V l u c
 simp only[]
 rw[aZ]
 have h34:n.kind=33\/n.kind=34:=by omega
 rcases h34 with hk|hk<;>simp only[hk,hks]<;>rfl
theorem BcF {a b:Arr} {l u c:Int} {k:Node} (hm:Mt l u c) (ha:Arg G c a) (hb':Arg G c b) (hk:n.kind=25) (hks:n.kids=[k]) (hb:WfB k):dN G (eU n) N V l u c (λN V m=>bD (n,a,b,N,V,m)):=by
 refine dN.go (Y:=λN V m=>gX k>>=λx9=>sV x9 a b>>=λ(x,x1)=>aT x x1 N V m>>=λ(x2,x3)=>some (x2,x3,m.fuel.left,m.fuel.used)) hm ?_
  (λh=>dN.fold (P:=none) hb (λf=>BfK (m:=wA a)) h.1 h.2.2.2 ha.2)
 intro N V l u c
 simp only[]
 rw[bD]
 simp only[hk,hks]
 rfl
theorem BgH {a:Arr} {l u c:Int} {e:Node} (hm:Mt l u c) (hk:n.kind=22) (hks:n.kids=[e])
  (he:∀l u,Mt l u c->dN G (eU e) N V l u c (λN V m=>aI (e,.mk (.mk [] []) a,N,V,m))):dN G (eU n) N V l u c (λN V m=>aZ (n,a,N,V,m)):=by
 refine dN.go (Y:=λN V m=>aI (e,.mk (.mk [] []) a,N,V,m)) hm ?_ (λh=>(he _ _ h).sub (oO (by rw[hks]; simp)))
 intro N V l u c
 conv=>lhs; simp only[]; rw[aZ]
 refine ob λ⟨e1,left,used⟩=>?_
 simp only[hk,hks]
 congr 1
 exact BbH _
theorem Be9 {a:Arr} {l u c:Int} {f:Node} (hm:Mt l u c) (hk:n.kind=35) (hks:n.kids=[f])
  (he:∀l u,Mt l u c->dN G (eU f) N V l u c (λN V m=>bD (f,a,a,N,V,m))):dN G (eU n) N V l u c (λN V m=>aZ (n,a,N,V,m)):=by
 refine dN.go (Y:=λN V m=>bD (f,a,a,N,V,m)) hm ?_ (λh=>(he _ _ h).sub (oO (by rw[hks]; simp)))
 intro N V l u c
 conv=>lhs; simp only[]; rw[aZ]
 refine ob λ⟨e1,left,used⟩=>?_
 simp only[hk,hks]
 congr 1
 exact BbH _
theorem BgU {a b:Arr} {l u c:Int} {e:Node} (hm:Mt l u c) (hk:n.kind=23) (hks:n.kids=[e])
  (he:∀l u,Mt l u c->dN G (eU e) N V l u c (λN V m=>aI (e,.mk a b,N,V,m))):dN G (eU n) N V l u c (λN V m=>bD (n,a,b,N,V,m)):=by
 refine dN.go (Y:=λN V m=>aI (e,.mk a b,N,V,m)) hm ?_ (λh=>(he _ _ h).sub (oO (by rw[hks]; simp)))
 intro N V l u c
 conv=>lhs; simp only[]; rw[bD]
 refine ob λ⟨e1,left,used⟩=>?_
 simp only[hk,hks]
 congr 1
 exact BbH _
theorem BeX {a b:Arr} {l u c:Int} {f:Node} (hm:Mt l u c) (hk:n.kind=35) (hks:n.kids=[f])
  (he:∀l u,Mt l u c->dN G (eU f) N V l u c (λN V m=>bD (f,b,a,N,V,m))):dN G (eU n) N V l u c (λN V m=>bD (n,a,b,N,V,m)):=by
 refine dN.go (Y:=λN V m=>bD (f,b,a,N,V,m)) hm ?_ (λh=>(he _ _ h).sub (oO (by rw[hks]; simp)))
 intro N V l u c
 conv=>lhs; simp only[]; rw[bD]
 refine ob λ⟨e1,left,used⟩=>?_
 simp only[hk,hks]
 congr 1
 exact BbH _
theorem BiH {N:List Str} {V:List Arr} {l u c l2 u2:Int} (hn:n.op_<=4096):∀(k:Nat) (i:Int) (sh:List Int) (cs:List aA) (c0 c1:Int),0<=i->n.op_-i=k ->
  bP (n,N,V,.mk (.mk l u) c,i,sh,cs,c0,c1)=bP (n,N,V,.mk (.mk l2 u2) c,i,sh,cs,c0,c1)
 |0,i,sh,cs,c0,c1,hi,h=>by
  conv=>lhs; rw[bP]
  conv=>rhs; rw[bP]
  simp only[bW (show ¬i<n.op_ by omega),fJ,if_false]
 |k+1,i,sh,cs,c0,c1,hi,h=>by
  conv=>lhs; rw[bP]
  conv=>rhs; rw[bP]
  have e:w64 (i+1)=i+1:=aG (by omega) (by omega)
  simp only[e]
  congr 1
  refine ob λy=>ob λ⟨x21,e1,l3,u3⟩=>?_
  by_cases he:e1=0
  ·subst he
   exact BiH hn k (i+1) _ _ _ _ (by omega) (by omega)
  rw[if_pos (by simpa using he),if_pos (by simpa using he)]
def BgM (r:Except (Arr×Int×Int×Int) (List Int×List aA×Int×Int)):Option (Arr×Int×Int×Int):=match r with|.error r=>some r|.ok (x01,x111,c01,c11)=>some (.mk x01 x111,0,c01,c11)
theorem Ax4 {f:Node} {c:Int} (hf0:Few N) (hks:n.kids=[f]) (hn:n.op_<=4096) (hf:∀l u a,Mt l u c->Arg G c a->dN G (eU f) N V l u c (λN V m=>aZ (f,a,N,V,m))) :
  ∀(k:Nat) (i:Int) (a:Arr) (l u:Int),0<=i->n.op_-i=k->Mt l u c->Arg G c a->dN G (eU n) N V l u c (λN V m=>bP (n,N,V,m,i,a.shape,a.cells,m.fuel.left,m.fuel.used)>>=BgM)
 |0,i,a,l,u,hi,h,hm,ha=>by
  refine dN.val hf0 hm.1 (x:=a) (e:=0) (λ_=>ha) λN2 V2 l2 c2 _ _ _=>?_
  rw[bP]
  simp only[bW (show ¬i<n.op_ by omega),fJ,if_false]
  cases a; rfl
 |k+1,i,a,l,u,hi,h,hm,ha=>by
  let Y:Arr->List Str->List Arr->aF->Option (Arr×Int×Int×Int):=λx N V m=>bP (n,N,V,m,i+1,x.shape,x.cells,m.fuel.left,m.fuel.used)>>=BgM
  let K:Arr×Int×Int×Int->List Str->List Arr->Int->Option (Arr×Int×Int×Int):=λ(x7,e1,left1,used1) N V c=>
   if (e1 != 0) then some (.mk [] [],e1,left1,used1) else Y x7 N V (.mk (.mk left1 used1) c)
  refine dN.seq (X1:=λN V m=>aZ (f,a,N,V,m)) (K:=K) (Y:=Y) ((hf _ _ a hm ha).sub (oO (by rw[hks]; simp))) ?_ ?_ ?_ ?_
  ·intro N V l u c
   simp only[]
   rw[bP]
   have e:w64 (i+1)=i+1:=aG (by omega) (by omega)
   simp only[cU (show i<n.op_ by omega),if_true,hks,e]
   rw[show lget [f] 0=some f from rfl]
   have ea:Arr.mk a.shape a.cells=a:=by cases a; rfl
   simp only[oJ,bJ,Option.bind_assoc,ea]
   refine ob λ⟨x21,e1,l3,u3⟩=>?_
   by_cases he:e1=0
   ·subst he
    simp only[K,Y]
    have:=BiH (n:=n) (N:=N) (V:=V) (l:=l) (u:=u) (c:=c) (l2:=l3) (u2:=u3) hn k (i+1) x21.shape x21.cells l3 u3 (by omega) (by omega)
    show (bP _>>=BgM)=_
    rw[this]
    rfl
   simp only[K]
   rw[if_pos (by simpa using he),if_pos (by simpa using he)]
   rfl
  ·intro x e l u N V c he
   simp only[K]; rw[if_pos (by simpa using he)]
  ·intro x l u N V c
   rfl
  intro x l' hv hw h0 h1
  exact Ax4 hf0 hks hn hf k (i+1) x l' _ (by omega) (by omega) (hm.less h0 h1) ⟨hv,hw⟩
theorem BgI {a:Arr} {l u c:Int} {f:Node} (hf0:Few N) (hm:Mt l u c) (ha:Arg G c a) (hk:n.kind=26) (ho:0<=n.op_) (hn:n.op_<=4096) (hks:n.kids=[f])
  (hf:∀l u a,Mt l u c->Arg G c a->dN G (eU f) N V l u c (λN V m=>aZ (f,a,N,V,m))):dN G (eU n) N V l u c (λN V m=>aZ (n,a,N,V,m)):=by
 refine dN.go (Y:=λN V m=>bP (n,N,V,m,0,a.shape,a.cells,m.fuel.left,m.fuel.used)>>=BgM) hm ?_ (λh=>Ax4 hf0 hks hn hf (n.op_.toNat) 0 a _ _ (by omega) (by omega) h ha)
 intro N V l u c
 conv=>lhs; simp only[]; rw[aZ]
 refine ob λ⟨e1,left,used⟩=>?_
 simp only[hk]
 congr 1
 rw[←BiH (n:=n) (N:=N) (V:=V) (l:=l) (u:=u) (c:=c) (l2:=left) (u2:=used) hn (n.op_.toNat) 0 a.shape a.cells left used (by omega) (by omega)]
 rw[if_neg (by decide),if_neg (by decide),if_neg (by decide)]
 simp only[show ((26:Int)==31)=false from rfl,show ((26:Int)==32)=false from rfl,show ((26:Int)==33)=false from rfl,show ((26:Int)==34)=false from rfl,fJ,if_false,oJ,bJ]
 refine ob λr=>?_
 cases r<;>rfl
theorem BgE (hf:Few N) (hG:G->∀v∈V,Val 0 v->wA v<big) (n:Node):OkE G N V n/\OkM G N V n/\OkT G N V n/\OkD G N V n:=by
 refine Node.ind (P:=λn=>OkE G N V n/\OkM G N V n/\OkT G N V n/\OkD G N V n) ?_ n
 intro n ih
 have okT:OkT G N V n:=by
  intro h hl a b l u c hm ha hb
  cases h with
  |prim hk=>exact BeY hm ha hb hk
  | @lam _ e hk hks he=>
   exact BgU hm hk hks λl u hm=>(ih e (by rw[hks]; simp)).1 true true he (λg=>(hl g).kids e (by rw[hks]; simp)) _ l u c hm (λ_=>ha) (λ_=>hb)
 refine⟨?_,?_,okT,?_⟩
 ·intro lt rt h hl ar l u c hm h1 h2
  cases h with
  |lit hk hv=>exact BdS hm.1 (by have:=hm; unfold Mt at this; omega) hm.2.1 (by have:=hm; unfold Mt at this; omega) hk hv λg=>(hl g).lit hk hv
  |var hk=>exact BdT hf hG hm hk
  |left hk hlt=>exact Aw0 hf hm (h1 hlt) (.inl ⟨hk,rfl⟩)
  |right hk hlt=>exact Aw0 hf hm (h2 hlt) (.inr ⟨hk,rfl⟩)
  | @mo _ f x _ _ hk hks hF hX=>
   exact BfZ hm hk hks (λhm=>(ih x (by rw[hks]; simp)).1 lt rt hX (λg=>(hl g).kids x (by rw[hks]; simp)) ar _ _ c hm h1 h2)
    (λl u a hm ha=>(ih f (by rw[hks]; simp)).2.1 hF (λg=>(hl g).kids f (by rw[hks]; simp)) a l u c hm ha)
  | @dy _ f x y _ _ hk hks hF hX hY=>
   exact BfY hm hk hks (λl u hm=>(ih y (by rw[hks]; simp)).1 lt rt hY (λg=>(hl g).kids y (by rw[hks]; simp)) ar _ _ c hm h1 h2)
    (λl u hm=>(ih x (by rw[hks]; simp)).1 lt rt hX (λg=>(hl g).kids x (by rw[hks]; simp)) ar _ _ c hm h1 h2)
    (λl u a b hm ha hb=>(ih f (by rw[hks]; simp)).2.2.2 hF (λg=>(hl g).kids f (by rw[hks]; simp)) a b l u c hm ha hb)
 ·intro h hl a l u c hm ha
  cases h with
  |prim hk=>exact BeB hm ha hk
  | @lam _ e hk hks he=>
   exact BgH hm hk hks λl u hm=>(ih e (by rw[hks]; simp)).1 false true he (λg=>(hl g).kids e (by rw[hks]; simp)) _ l u c hm (λh=>by cases h) (λ_=>ha)
  | @fold _ b hk hks hb=>exact BeA hm ha hk hks hb
  | @comm _ f hk hks hF=>
   exact Be9 hm hk hks λl u hm=>(ih f (by rw[hks]; simp)).2.2.1 hF (λg=>(hl g).kids f (by rw[hks]; simp)) a a l u c hm ha ha
  | @pow _ f hk ho hn hks hF=>
   exact BgI hf hm ha hk ho hn hks λl u a hm ha=>(ih f (by rw[hks]; simp)).2.1 hF (λg=>(hl g).kids f (by rw[hks]; simp)) a l u c hm ha
 intro h hl a b l u c hm ha hb
 cases h with
 | @outer _ k hk hks hb'=>exact BcF hm ha hb hk hks hb'
 | @comm _ f hk hks hF=>
  exact BeX hm hk hks λl u hm=>(ih f (by rw[hks]; simp)).2.2.1 hF (λg=>(hl g).kids f (by rw[hks]; simp)) b a l u c hm hb ha
 |two h=>exact okT h hl a b l u c hm ha hb
end
end Go.AM.Seat
namespace Go.AM.Seat
open Go Go.AM
def mx (x:Int):Int:=if x<0 then 0 else x
theorem BaW {G:Prop} {N:List Str} {V:List Arr} {n:Node} {fuel cells:Int} (hN:fitN n) (hf:Few N) (hG:G->∀v∈V,Val 0 v->wA v<big) (hl:G->AiX n) (h1:fuel<=2000) (h2:cells<=300) :
  ∃x i e,uX (.mk N V) n fuel cells=some (x,i,e)/\0<=i/\i<=mx fuel/\(e≠0->x=.mk [] [])/\(e=0->Val 0 x/\(G->(wA x:Int)<=mx cells)) /\
   ∀fuel2 cells2 N2 V2,mx fuel<=mx fuel2->mx fuel2<=5000->mx cells<=mx cells2->mx cells2<=5000->(∀s∈eU n,Lk N V N2 V2 s)->((e≠11/\e≠12)\/(mx fuel2=mx fuel/\mx cells2=mx cells)) ->
    uX (.mk N2 V2) n fuel2 cells2=some (x,i,e):=by
 have E:∀N V (fuel cells:Int),uX (.mk N V) n fuel cells=sT n>>=λx=>if (x != 0) then some (.mk [] [],0,1) else
   aI (n,.mk (.mk [] []) (.mk [] []),N,V,.mk (.mk (mx fuel) 0) (mx cells))>>=λ(x1,e,left,used)=>if (e != 0) then some (.mk [] [],used,e) else fH x1>>=λx3=>some (x3,used,0):=by
  intro N V fuel cells
  rfl
 have m1:0<=mx fuel:=by unfold mx; split<;>omega
 have m2:mx fuel<=2000:=by unfold mx; split<;>omega
 have m3:mx cells<=300:=by unfold mx; split<;>omega
 obtain⟨ck,hck,hw⟩:=BfI hN
 by_cases hc:ck=0
 ·subst hc
  obtain⟨x,e,l',g1,g2,g3,g4,g5⟩:=(BgE (G:=G) hf hG n).1 false false (hw rfl) hl (.mk (.mk [] []) (.mk [] [])) (mx fuel) 0 (mx cells) ⟨m1,by omega,by omega,by omega⟩ (λh=>by cases h) (λh=>by cases h)
  simp only[] at g1 g5
  by_cases he:e=0
  ·subst he
   obtain⟨v1,v2⟩:=g4 rfl
   refine⟨x,0+(mx fuel-l'),0,?_,by omega,by omega,λh=>absurd rfl h,g4,λfuel2 cells2 N2 V2 a b c d s r=>?_⟩
   ·rw[E,hck]
    simp only[oJ,bJ]
    rw[if_neg (by decide),g1]
    simp only[bJ]
    rw[if_neg (by decide),sM x 0 v1]
    rfl
   rw[E,hck]
   simp only[oJ,bJ]
   have:=g5 (mx fuel2-mx fuel) (mx cells2) N2 V2 (by omega) (by omega) c (by omega) s (.inl (by omega))
   rw[show mx fuel+(mx fuel2-mx fuel)=mx fuel2 by omega] at this
   rw[if_neg (by decide),this]
   simp only[bJ]
   rw[if_neg (by decide),sM x 0 v1]
   rfl
  refine⟨.mk [] [],0+(mx fuel-l'),e,?_,by omega,by omega,λ_=>rfl,λh=>absurd h he,λfuel2 cells2 N2 V2 a b c d s r=>?_⟩
  ·rw[E,hck]
   simp only[oJ,bJ]
   rw[if_neg (by decide),g1]
   simp only[bJ]
   rw[if_pos (by simpa using he)]
  rw[E,hck]
  simp only[oJ,bJ]
  have:=g5 (mx fuel2-mx fuel) (mx cells2) N2 V2 (by omega) (by omega) c (by omega) s (r.imp id λh=>⟨by omega,h.2⟩)
  rw[show mx fuel+(mx fuel2-mx fuel)=mx fuel2 by omega] at this
  rw[if_neg (by decide),this]
  simp only[bJ]
  rw[if_pos (by simpa using he)]
 refine⟨.mk [] [],0,1,?_,by omega,by omega,λ_=>rfl,λh=>by omega,λfuel2 cells2 N2 V2 a b c d s r=>?_⟩
 ·rw[E,hck]
  simp only[oJ,bJ]
  rw[if_pos (by simpa using hc)]
 rw[E,hck]
 simp only[oJ,bJ]
 rw[if_pos (by simpa using hc)]
theorem AlL (a:Int):p_triglyphref03_ints a a=some 0:=by
 unfold p_triglyphref03_ints
 simp
theorem Am1 {a:Arr} (hf:Few a.shape):∀(r:List Int) (k:Nat),a.shape.drop k=r->cW (a,a,0,(k:Int))=some 0
 | [],k,h=>by
  rw[cW]
  simp only[bW (bX h),fJ,if_false]
 |d::r,k,h=>by
  rw[cW]
  simp only[cU (bY h),if_true,bE h,oJ,bJ,AlL,bQ h hf]
  exact Am1 hf r (k+1) (aX h)
theorem Am2 {a:Arr} (hf:Few a.cells) (hc:∀c∈a.cells,iP (c,c)=some 0):∀(r:List aA) (k:Nat),a.cells.drop k=r->cX (a,a,0,(k:Int))=some 0
 | [],k,h=>by
  rw[cX]
  simp only[bW (bX h),fJ,if_false]
 |c::r,k,h=>by
  rw[cX]
  have hm:c∈a.cells:=List.mem_of_mem_drop (i:=k) (by rw[h]; simp)
  simp only[cU (bY h),if_true,bE h,oJ,bJ,hc c hm,bQ h hf]
  exact Am2 hf hc r (k+1) (aX h)
theorem Ah6:∀{l:List aA},Aw4 l->∀c∈l,AtR c
 |n::r,h,k,hk=>by
  rcases List.mem_cons.1 hk with rfl|hk
  ·exact h.1
  exact Ah6 h.2 k hk
theorem Aw3:∀{l:List Arr},Bg1 l->∀c∈l,fitA c
 |n::r,h,k,hk=>by
  rcases List.mem_cons.1 hk with rfl|hk
  ·exact h.1
  exact Aw3 h.2 k hk
theorem AtR.box {c:aA} (h:AtR c):∀b∈c.box,fitA b:=by cases c; exact Aw3 h.2
theorem AtR.few {c:aA} (h:AtR c):Few c.box:=by cases c; exact h.1
theorem BaU {c:aA} (hb:∀b∈c.box,fE (b,b)=some 0):iP (c,c)=some 0:=by
 obtain⟨k,n,bx⟩:=c
 rw[iP]
 simp only[aA.kind,aA.n,aA.box,AlL,oJ,bJ,beq_self_eq_true,if_true] at hb ⊢
 cases bx with
 |nil=>rfl
 |cons b r=>
  have h0:lget (b::r) 0=some b:=rfl
  simp only[h0,bJ,hb b (by simp)]
  repeat' split
  all_goals rfl
theorem AuP (a:Arr):fitA a->fE (a,a)=some 0:=by
 refine Arr.ind (P:=λa=>fitA a->fE (a,a)=some 0) ?_ a
 intro sh cs ih hf
 obtain⟨f1,f2,f3⟩:=hf
 rw[fE]
 simp only[AlL,oJ,bJ]
 rw[show cW (Arr.mk sh cs,Arr.mk sh cs,0,0)=some 0 from Am1 (a:=.mk sh cs) f1 sh 0 rfl]
 simp only[bJ]
 rw[show cX (Arr.mk sh cs,Arr.mk sh cs,0,0)=some 0 from Am2 (a:=.mk sh cs) f2 (λc hc=>BaU λb hb=>ih c hc b hb ((Ah6 f3 c hc).box b hb)) cs 0 rfl]
 rfl
theorem Val.fit (a:Arr):∀d,Val d a->fitA a:=by
 refine Arr.ind (P:=λa=>∀d,Val d a->fitA a) ?_ a
 intro sh cs ih d h
 have hi:=h.i
 have hcs:∀(l:List aA),(∀c∈l,AcZ c d=0/\∀b∈c.box,∀d,Val d b->fitA b)->Aw4 l:=by
  intro l
  induction l with
  |nil=>intro _; trivial
  |cons c r ihl=>
   intro hh
   refine⟨?_,ihl λc hc=>hh c (by simp[hc])⟩
   obtain⟨h1,h2⟩:=hh c (by simp)
   rcases rP h1 with ⟨_,_,_,b,hb,hv⟩|⟨hb,_⟩
   ·obtain⟨k,n,bx⟩:=c
    simp only[aA.box] at hb h2
    subst hb
    exact⟨by unfold Few; simp,h2 b (by simp) _ hv,trivial⟩
   obtain⟨k,n,bx⟩:=c
   simp only[aA.box] at hb
   subst hb
   exact⟨by unfold Few; simp,trivial⟩
 exact⟨h.fews,h.fewc,hcs cs λc hc=>⟨hi.cells c hc,ih c hc⟩⟩
theorem BaZ {a:Arr} (h:Val 0 a):eS a a=some true:=by
 unfold eS
 rw[AuP a (Val.fit a 0 h)]
 rfl
theorem BcQ:eS (.mk [] []) (.mk [] [])=some true:=by
 unfold eS
 rw[AuP (.mk [] []) (show fitA (.mk [] []) from ⟨by unfold Few; simp,by unfold Few; simp,trivial⟩)]
 rfl
theorem BjO {a b:Nat} (h:a+b<=9223372036854775807):w64 ((a:Int)+(b:Int))=((a+b:Nat):Int):=by
 rw[aG (by omega) (by omega)]; omega
def Bd (deep:Int):Int:=(deep+1)*562949953421312
def Wt (a:Arr) (most deep r:Int):Prop:=0<=r/\r<=most+Bd deep/\(r<=most->(wA a:Int)<=r)
theorem BhU {a:Arr} {most deep:Int} {c:aA} {i:Int} (hl:lget a.cells i=some c) (hf:Few c.box) (h0:0<=most) (h1:most<=3000) (hd:0<=deep) (hd2:deep<=16)
  (hb:∀b∈c.box,∀most,0<=most->most<=3000->0<=deep-1->T (cY (b,most,deep-1)) (Wt b most (deep-1))) :
  ∀(r:List Arr) (k:Nat) (n:Int),c.box.drop k=r->0<=n->n<=most+Bd deep->T (cS (a,most,deep,i,n,(k:Int))) (λr'=>match r' with|.error e=>e=most+1|.ok m=>n<=m/\m<=most+Bd deep/\(m<=most->n+(wB r:Int)<=m))
 | [],k,n,h,hn,hn2=>by
  rw[cS]
  simp only[hl,oJ,bJ,bW (bX h),fJ,if_false]
  exact T.ret ⟨Int.le_refl _,hn2,λ_=>by simp[wB]⟩
 |b::r,k,n,h,hn,hn2=>by
  have hm:b∈c.box:=List.mem_of_mem_drop (i:=k) (by rw[h]; simp)
  rw[cS]
  simp only[hl,oJ,bJ,cU (bY h),if_true,bE h,bQ h hf]
  refine T.ite (λhle=>?_) (λhle=>T.ret ⟨Int.le_refl _,hn2,λh=>absurd h (by simpa using hle)⟩)
  have hle:n<=most:=by simpa using hle
  refine T.ite (λ_=>T.ret (aG (by omega) (by omega))) (λhdd=>?_)
  have hdd:deep≠0:=by simpa using hdd
  rw[aG (x:=deep-1) (by omega) (by omega),aG (x:=most-n) (by omega) (by omega)]
  refine T.bind (hb b hm _ (by omega) (by omega) (by omega)) (λx hx=>?_)
  obtain⟨x0,x1,x2⟩:=hx
  have eB:Bd deep=Bd (deep-1)+562949953421312:=by unfold Bd; omega
  have lB:0<=Bd (deep-1)/\Bd (deep-1)<=9570149208162304:=by unfold Bd; omega
  have e2:w64 (n+1)=n+1:=aG (by omega) (by omega)
  have e3:w64 (n+1+x)=n+1+x:=aG (by omega) (by omega)
  rw[e2,e3]
  refine T.imp (BhU hl hf h0 h1 hd hd2 hb r (k+1) (n+1+x) (aX h) (by omega) (by omega)) (λv hv=>?_)
  match v,hv with
  |.error e,hv=>exact hv
  |.ok m,hv=>
   obtain⟨g1,g2,g3⟩:=hv
   refine⟨by omega,g2,λhm=>?_⟩
   have:=g3 hm
   have:=x2 (by omega)
   simp only[wB,Int.natCast_add]
   omega
theorem BhT {a:Arr} {most deep:Int} (hf:Few a.cells) (h0:0<=most) (h1:most<=3000) (hd:0<=deep) (hd2:deep<=16) (hfb:∀c∈a.cells,Few c.box)
  (hb:∀c∈a.cells,∀b∈c.box,∀most,0<=most->most<=3000->0<=deep-1->T (cY (b,most,deep-1)) (Wt b most (deep-1))) :
  ∀(r:List aA) (k:Nat) (n:Int),a.cells.drop k=r->0<=n->n<=most+Bd deep->T (p_triglyphref03_weight_l0 (a,most,deep,n,(k:Int))) (λr'=>match r' with|.error e=>e=most+1|.ok m=>n<=m/\m<=most+Bd deep/\(m<=most->n+(bCs r:Int)<=m))
 | [],k,n,h,hn,hn2=>by
  rw[p_triglyphref03_weight_l0]
  simp only[bW (bX h),fJ,if_false]
  exact T.ret ⟨Int.le_refl _,hn2,λ_=>by simp[bCs]⟩
 |c::r,k,n,h,hn,hn2=>by
  have hm:c∈a.cells:=List.mem_of_mem_drop (i:=k) (by rw[h]; simp)
  rw[p_triglyphref03_weight_l0]
  simp only[cU (bY h),if_true,bQ h hf]
  refine T.ite (λhle=>?_) (λhle=>T.ret ⟨Int.le_refl _,hn2,λh=>absurd h (by simpa using hle)⟩)
  refine T.bind (BhU (bE h) (hfb c hm) h0 h1 hd hd2 (hb c hm) c.box 0 n rfl hn hn2) (λv hv=>?_)
  match v,hv with
  |.error e,hv=>exact T.ret hv
  |.ok m,hv=>
   obtain⟨g1,g2,g3⟩:=hv
   refine T.imp (BhT hf h0 h1 hd hd2 hfb hb r (k+1) m (aX h) (by omega) g2) (λv hv=>?_)
   match v,hv with
   |.error e,hv=>exact hv
   |.ok m2,hv=>
    obtain⟨k1,k2,k3⟩:=hv
    refine⟨by omega,k2,λhm2=>?_⟩
    have:=k3 hm2
    have:=g3 (by omega)
    have e1:bCs (c::r)=wC c+bCs r:=rfl
    rw[e1,AxZ]
    omega
theorem Bf3 (a:Arr):fitA a->∀most deep:Int,0<=most->most<=3000->0<=deep->deep<=16->T (cY (a,most,deep)) (Wt a most deep):=by
 refine Arr.ind (P:=λa=>fitA a->∀most deep:Int,0<=most->most<=3000->0<=deep->deep<=16->T (cY (a,most,deep)) (Wt a most deep)) ?_ a
 intro sh cs ih hf most deep h0 h1 hd hd2
 obtain⟨f1,f2,f3⟩:=hf
 have l1:sh.length<=140737488355328:=f1
 have l2:cs.length<=140737488355328:=f2
 have ew:wA (.mk sh cs)=cs.length+bCs cs:=by rw[AxY,An5]; rfl
 have lB:562949953421312<=Bd deep:=by unfold Bd; omega
 rw[cY]
 simp only[show (Arr.mk sh cs).shape=sh from rfl,show (Arr.mk sh cs).cells=cs from rfl]
 rw[BjO (by omega)]
 refine T.bind (BhT (a:=.mk sh cs) f2 h0 h1 hd hd2 (λc hc=>(Ah6 f3 c hc).few) (λc hc b hb most a1 a2 a3=>ih c hc b hb ((Ah6 f3 c hc).box b hb) most (deep-1) a1 a2 a3 (by omega)) cs 0 _ rfl (by omega) (by omega)) (λv hv=>?_)
 match v,hv with
 |.error e,hv=>exact T.ret ⟨by omega,by omega,λh=>by omega⟩
 |.ok m,hv=>
  obtain⟨g1,g2,g3⟩:=hv
  refine T.ret ⟨by omega,g2,λhm=>?_⟩
  have:=g3 hm
  rw[ew]
  omega
theorem AnV {a:Arr} {most:Int} (hf:fitA a) (h0:0<=most) (h1:most<=3000):T (eX a most) (λr=>0<=r/\r<=9570149208165304/\(r<=most->(wA a:Int)<=r)):=by
 unfold eX
 refine T.bind (Bf3 a hf most 16 h0 h1 (by omega) (by omega)) (λx hx=>T.ret ⟨hx.1,?_,hx.2.2⟩)
 have:=hx.2.1
 unfold Bd at this
 omega
def BdN (deep:Int):Int:=(deep+2)*18014398509481984
def WtN (n:Node) (most deep r:Int):Prop:=0<=r/\r<=most+BdN deep/\(r<=most->AiX n)
theorem fitN.lit {n:Node} (h:fitN n):fitA n.lit:=by cases n; exact h.2.1
theorem BhS {n:Node} {most deep:Int} (hf:Few n.kids) (h0:0<=most) (h1:most<=3000) (hd:0<=deep) (hd2:deep<=40)
  (hb:∀c∈n.kids,∀most,0<=most->most<=3000->0<=deep-1->T (dU (c,most,deep-1)) (WtN c most (deep-1))) :
  ∀(r:List Node) (i:Nat) (k:Int),n.kids.drop i=r->0<=k->k<=most+BdN deep->T (cT (n,most,deep,k,(i:Int))) (λr'=>match r' with|.error e=>e=most+1|.ok m=>k<=m/\m<=most+BdN deep/\(m<=most->BaC r))
 | [],i,k,h,hk,hk2=>by
  rw[cT]
  simp only[bW (bX h),fJ,if_false]
  exact T.ret ⟨Int.le_refl _,hk2,λ_=>trivial⟩
 |c::r,i,k,h,hk,hk2=>by
  have hm:c∈n.kids:=List.mem_of_mem_drop (i:=i) (by rw[h]; simp)
  rw[cT]
  simp only[cU (bY h),if_true,bQ h hf,bE h,oJ,bJ]
  refine T.ite (λhle=>?_) (λhle=>T.ret ⟨Int.le_refl _,hk2,λh=>absurd h (by simpa using hle)⟩)
  have hle:k<=most:=by simpa using hle
  refine T.ite (λ_=>T.ret (aG (by omega) (by omega))) (λhdd=>?_)
  have hdd:deep≠0:=by simpa using hdd
  rw[aG (x:=deep-1) (by omega) (by omega),aG (x:=most-k) (by omega) (by omega)]
  refine T.bind (hb c hm _ (by omega) (by omega) (by omega)) (λx hx=>?_)
  obtain⟨x0,x1,x2⟩:=hx
  have eB:BdN deep=BdN (deep-1)+18014398509481984:=by unfold BdN; omega
  have lB:0<=BdN (deep-1)/\BdN (deep-1)<=756604737398243328:=by unfold BdN; omega
  rw[aG (x:=k+x) (by omega) (by omega)]
  refine T.imp (BhS hf h0 h1 hd hd2 hb r (i+1) (k+x) (aX h) (by omega) (by omega)) (λv hv=>?_)
  match v,hv with
  |.error e,hv=>exact hv
  |.ok m,hv=>
   obtain⟨g1,g2,g3⟩:=hv
   exact⟨by omega,g2,λhm=>⟨x2 (by omega),g3 hm⟩⟩
theorem BcG (n:Node):fitN n->∀most deep:Int,0<=most->most<=3000->0<=deep->deep<=40->T (dU (n,most,deep)) (WtN n most deep):=by
 refine Node.ind (P:=λn=>fitN n->∀most deep:Int,0<=most->most<=3000->0<=deep->deep<=40->T (dU (n,most,deep)) (WtN n most deep)) ?_ n
 intro n ih hf most deep h0 h1 hd hd2
 rw[dU]
 have lB:36028797018963968<=BdN deep/\BdN deep<=756604737398243328:=by unfold BdN; omega
 refine T.bind (AnV hf.lit h0 h1) (λx hx=>?_)
 obtain⟨x0,x1,x2⟩:=hx
 rw[aG (x:=1+x) (by omega) (by omega)]
 refine T.bind (BhS hf.fewk h0 h1 hd hd2 (λc hc most a1 a2 a3=>ih c hc (hf.kids c hc) most (deep-1) a1 a2 a3 (by omega)) n.kids 0 (1+x) rfl (by omega) (by omega)) (λv hv=>?_)
 match v,hv with
 |.error e,hv=>exact T.ret ⟨by omega,by omega,λh=>by omega⟩
 |.ok m,hv=>
  obtain⟨g1,g2,g3⟩:=hv
  refine T.ret ⟨by omega,g2,λhm=>?_⟩
  have h3:=g3 hm
  have h4:=x2 (by omega)
  obtain⟨kd,o,nm,lt,ks,at_⟩:=n
  exact⟨λ_ _=>by simp only[Node.lit] at h4; unfold big; omega,h3⟩
def BhY (N:List Str) (V:List Arr) (n:Node) (fuel cells:Int):Prop:=fuel<=2000/\cells<=300/\N.length<=40/\V.length<=40/\AiX n/\∀v∈V,wA v<big
theorem AwQ {N:List Str} {V:List Arr} {n:Node} (hV:V.length<=40) (hf:∀v∈V,fitA v):∀(r:List Arr) (i:Nat) (w:Int),V.drop i=r->0<=w->w<=3000+9570149208165304 ->
  T (dW (.mk N V,n,w,(i:Int))) (λm=>w<=m/\(m<=3000->∀v∈r,wA v<big))
 | [],i,w,h,h0,h1=>by
  rw[dW]
  simp only[bW (bX h),fJ,if_false]
  exact T.ret ⟨Int.le_refl _,λ_ v hv=>by simp at hv⟩
 |v::r,i,w,h,h0,h1=>by
  have hm:v∈V:=List.mem_of_mem_drop (i:=i) (by rw[h]; simp)
  have hfew:Few V:=by unfold Few; omega
  rw[dW]
  simp only[cU (bY h),if_true,bQ h hfew,bE h,oJ,bJ]
  refine T.ite (λhle=>?_) (λhle=>T.ret ⟨Int.le_refl _,λh=>absurd h (by simpa using hle)⟩)
  have hle:w<=3000:=by simpa using hle
  refine T.bind (AnV (hf v hm) (by omega) (by omega)) (λx hx=>?_)
  obtain⟨x0,x1,x2⟩:=hx
  rw[aG (x:=w+x) (by omega) (by omega)]
  refine T.imp (AwQ hV hf r (i+1) (w+x) (aX h) (by omega) (by omega)) (λm hm=>?_)
  refine⟨by omega,λh3 u hu=>?_⟩
  rcases List.mem_cons.1 hu with rfl|hu
  ·have:=x2 (by omega)
   unfold big; omega
  exact hm.2 h3 u hu
theorem BfJ {N:List Str} {V:List Arr} {n:Node} {fuel cells:Int} (hn:fitN n) (hf:∀v∈V,fitA v):T (jU (.mk N V) n fuel cells) (λr=>¬r>0->BhY N V n fuel cells):=by
 unfold jU
 have no:∀{Q:Prop},(¬(1:Int)>0->Q):=λh=>absurd (by decide) h
 refine T.ite (λ_=>T.ret no) (λh1=>?_)
 refine T.ite (λ_=>T.ret no) (λh2=>?_)
 refine T.ite (λ_=>T.ret no) (λh3=>?_)
 refine T.ite (λ_=>T.ret no) (λh4=>?_)
 simp only[decide_eq_false_iff_not,Int.not_lt,gt_iff_lt] at h1 h2 h3 h4
 have h4':V.length<=40:=by omega
 have h3':N.length<=40:=by omega
 refine T.bind (R:=λr=>r<=3000->AiX n) ?_ (λx hx=>?_)
 ·unfold mE
  exact T.bind (BcG n hn 3000 40 (by omega) (by omega) (by omega) (by omega)) (λx hx=>T.ret hx.2.2)
 refine T.ite (λ_=>T.ret no) (λh5=>?_)
 simp only[decide_eq_false_iff_not,Int.not_lt,gt_iff_lt] at h5
 refine T.bind (AwQ h4' hf V 0 0 rfl (by omega) (by omega)) (λw hw=>?_)
 refine T.ite (λ_=>T.ret no) (λh6=>T.ret λ_=>?_)
 simp only[decide_eq_false_iff_not,Int.not_lt,gt_iff_lt] at h6
 exact⟨h1,h2,h3',h4',hx h5,hw.2 h6⟩
theorem BhN {a b:Int} (h:0<=b):mx (mx a+b)=mx a+b/\0<=mx a/\(0<=a->mx a=a)/\(a<=2000->mx a<=2000)/\(a<=300->mx a<=300):=by
 unfold mx
 refine⟨?_,?_,?_,?_,?_⟩
 all_goals (repeat' split)
 all_goals omega
theorem Bf4:yI=some true:=rfl
theorem BgG (n:Node) (s:Str):fitN n->T (eK (n,s)) (λr=>r=false->s∉eU n):=by
 refine Node.ind (P:=λn=>fitN n->T (eK (n,s)) (λr=>r=false->s∉eU n)) ?_ n
 intro n ih hf
 have l0:∀(r:List Node) (i:Nat),n.kids.drop i=r->T (dD (n,s,(i:Int))) (λr'=>match r' with|.error e=>e=true|.ok _=>s∉Ab6 r):=by
  intro r
  induction r with
  |nil=>
   intro i h
   rw[dD]
   simp only[bW (bX h),fJ,if_false]
   exact T.ret (by simp[Ab6])
  |cons c r ihr=>
   intro i h
   have hm:c∈n.kids:=List.mem_of_mem_drop (i:=i) (by rw[h]; simp)
   rw[dD]
   simp only[cU (bY h),if_true,bE h,oJ,bJ,bQ h hf.fewk]
   refine T.bind (ih c hm (hf.kids c hm)) (λx hx=>?_)
   refine T.ite (λ_=>T.ret rfl) (λhx'=>?_)
   refine T.imp (ihr (i+1) (aX h)) (λv hv=>?_)
   match v,hv with
   |.error e,hv=>exact hv
   |.ok _,hv=>simp only[Ab6,List.mem_append,not_or]; exact⟨hx hx',hv⟩
 have l1:∀(r:List Node) (i:Nat),n.kids.drop i=r->T (dX (n,s,(i:Int))) (λr'=>match r' with|.error e=>e=true|.ok _=>s∉Ab6 r):=by
  intro r
  induction r with
  |nil=>
   intro i h
   rw[dX]
   simp only[bW (bX h),fJ,if_false]
   exact T.ret (by simp[Ab6])
  |cons c r ihr=>
   intro i h
   have hm:c∈n.kids:=List.mem_of_mem_drop (i:=i) (by rw[h]; simp)
   rw[dX]
   simp only[cU (bY h),if_true,bE h,oJ,bJ,bQ h hf.fewk]
   refine T.bind (ih c hm (hf.kids c hm)) (λx hx=>?_)
   refine T.ite (λ_=>T.ret rfl) (λhx'=>?_)
   refine T.imp (ihr (i+1) (aX h)) (λv hv=>?_)
   match v,hv with
   |.error e,hv=>exact hv
   |.ok _,hv=>simp only[Ab6,List.mem_append,not_or]; exact⟨hx hx',hv⟩
 have en:eU n=(if n.kind=2 then [n.name] else [])++Ab6 n.kids:=by cases n; rfl
 rw[eK]
 refine T.ite (λhk=>?_) (λhk=>?_)
 ·have hk:n.kind=2:=by simpa using hk
  refine T.ite (λ_=>T.ret (λh=>by cases h)) (λhs=>?_)
  refine T.bind (l0 n.kids 0 rfl) (λv hv=>?_)
  match v,hv with
  |.error e,hv=>exact T.ret (λh=>by rw[hv] at h; cases h)
  |.ok _,hv=>
   refine T.ret λ_=>?_
   rw[en,if_pos hk]
   simp only[List.singleton_append,List.mem_cons,not_or]
   exact⟨λe=>by rw[e] at hs; simp at hs,hv⟩
 have hk:¬n.kind=2:=by simpa using hk
 refine T.bind (l1 n.kids 0 rfl) (λv hv=>?_)
 match v,hv with
 |.error e,hv=>exact T.ret (λh=>by rw[hv] at h; cases h)
 |.ok _,hv=>
  refine T.ret λ_=>?_
  rw[en,if_neg hk]
  simpa using hv
theorem BbW {α:Type} {a:α} {l:List α} {k:Nat}:lget (a::l) (((k+1:Nat)):Int)=lget l (k:Int):=by
 unfold AM.lget
 rw[if_pos (by omega),if_pos (by omega)]
 simp
theorem ApJ {s o:Str} {v:Arr} {N:List Str} {V:List Arr} {b b2:aF} (hf:Few (o::N)) (hV:V.length<=40):∀(r:List Str) (k:Nat),N.drop k=r ->
  p_run_machine_name_l0 (s,o::N,v::V,b2,((k+1:Nat):Int))=p_run_machine_name_l0 (s,N,V,b,(k:Int))
 | [],k,h=>by
  have h':(o::N).drop (k+1)=[]:=by simpa using h
  conv=>lhs; rw[p_run_machine_name_l0]
  conv=>rhs; rw[p_run_machine_name_l0]
  simp only[bW (bX h),bW (bX h'),fJ,if_false]
 |x::r,k,h=>by
  have h':(o::N).drop (k+1)=x::r:=by simpa using h
  have hf':Few N:=by unfold Few at hf ⊢; simp at hf; omega
  conv=>lhs; rw[p_run_machine_name_l0]
  conv=>rhs; rw[p_run_machine_name_l0]
  have e:decide (((k+1:Nat):Int)<(List.length (v::V):Int))=decide ((k:Int)<(List.length V:Int)):=by
   simp only[List.length_cons,Int.natCast_add,Int.natCast_one]
   congr 1
   simp
  simp only[cU (bY h),cU (bY h'),if_true,bE h,bE h',oJ,bJ,bQ h hf',bQ h' hf,BbW,e]
  refine ob λres=>?_
  cases res with
  |error r=>rfl
  |ok u=>exact ApJ hf hV r (k+1) (aX h)
theorem Az0 {s o:Str} {v:Arr} {N:List Str} {V:List Arr} (hf:Few (o::N)) (hV:V.length<=40) (hs:s≠o):Lk N V (o::N) (v::V) s:=by
 intro b b2
 unfold cK
 have:p_run_machine_name_l0 (s,o::N,v::V,b2,0)=p_run_machine_name_l0 (s,N,V,b,0):=by
  have h0:lget (o::N) 0=some o:=rfl
  have hlt:decide ((0:Int)<(List.length (o::N):Int))=true:=by simp
  have hne:(o==s)=false:=by simpa using λe=>hs e.symm
  conv=>lhs; rw[p_run_machine_name_l0]
  simp only[hlt,if_true,h0,oJ,bJ,hne,fJ,if_false]
  exact ApJ hf hV N 0 rfl
 rw[this]
theorem RunNames_true {N:List Str} {V:List Arr} {n:Node} {fuel cells:Int} {o:Str} {v:Arr} (hn:fitN n) (hf:∀v∈V,fitA v) (hv:fitA v):p_triglyphlaw11_RunNames (.mk N V) n fuel cells o v=some true:=by
 unfold p_triglyphlaw11_RunNames
 obtain⟨x,hx,hq⟩:=BfJ (N:=N) (fuel:=fuel) (cells:=cells) hn hf
 rw[hx]
 simp only[oJ,bJ,Bf4]
 by_cases hl:x>0
 ·rw[if_pos (by simpa using hl)]
 rw[if_neg (by simpa using hl)]
 obtain⟨l1,l2,l3,l4,_⟩:=hq hl
 have hN:Few N:=by unfold Few; omega
 obtain⟨w,hw,_⟩:=AnV (most:=300) hv (by omega) (by omega)
 rw[hw]
 simp only[bJ]
 by_cases h2:w>300
 ·rw[if_pos (by simpa using h2)]
 rw[if_neg (by simpa using h2)]
 obtain⟨t,ht,hs⟩:=BgG n o hn
 rw[ht]
 simp only[bJ]
 cases t with
 |true=>rfl
 |false=>
 rw[if_neg (by decide)]
 split
 ·rfl
 have a1:lapp ([]:List Str) [o]=some [o]:=rfl
 have a2:lapp ([]:List Arr) [v]=some [v]:=rfl
 have a3:lapp [o] N=some (o::N):=by unfold AM.lapp; rw[if_pos (by simp; omega)]; rfl
 have a4:lapp [v] V=some (v::V):=by unfold AM.lapp; rw[if_pos (by simp; omega)]; rfl
 simp only[show (Env.mk N V).names=N from rfl,show (Env.mk N V).vals=V from rfl,a1,a2,a3,a4,bJ]
 obtain⟨a,i,e,r1,_,_,r2,r3,r4⟩:=BaW (G:=False) (N:=N) (V:=V) (n:=n) (fuel:=fuel) (cells:=cells) hn hN (λh=>h.elim) (λh=>h.elim) l1 l2
 obtain⟨_,_,_,m3,_⟩:=BhN (a:=fuel) (b:=0) (by omega)
 obtain⟨_,_,_,_,c3⟩:=BhN (a:=cells) (b:=0) (by omega)
 have:=m3 l1
 have:=c3 l2
 have hN':Few (o::N):=by unfold Few; simp; omega
 rw[r1,r4 fuel cells (o::N) (v::V) (by omega) (by omega) (by omega) (by omega) (λs hs'=>Az0 hN' l4 λe=>hs rfl (e▸hs')) (.inr ⟨rfl,rfl⟩)]
 simp only[bJ,beq_self_eq_true,if_true]
 have hs:eS a a=some true:=by
  by_cases he:e=0
  ·exact BaZ (r3 he).1
  rw[r2 he]; exact BcQ
 rw[hs]
 rfl
end Go.AM.Seat
namespace Go.AM.Seat
open Go Go.AM Go.Proofs
abbrev AiP (r:Arr):aE:=(aE.ret (.d (encArr r)) [])
abbrev AjU (r:aA):aE:=(aE.ret (.d (aD r)) [])
instance Be4:Jn 60 1 6 (List Arr):=⟨λy=>[],λy=>[(0,[(2,.d (.list 2 (List.map aW y)))])]⟩
abbrev AcO (a:Arr×LI×Int×(List aA)) (res:(List aA)):Prop:=match a with|(a_,l,x,out1)=>cD X 32 (aN [1,1,0,1,0,0] (aO Tryz.f32)) (aH (X.H 32 3) 3) (aJ 0 (X.H 32 1000000) 3 (iR (λ(out11:(List aA))=>(⟨[(2,.c (.ptr 1 0)),(3,.c (.ptr 2 0))],[(2,[.d (lI l),oC out11]),(1,[oI [],oC []]),(0,[.d (lI a_.shape),.d (lC a_.cells)])],3,[],none⟩:St)) res)) ⟨[(2,.c (.ptr 1 0)),(3,.c (.ptr 2 0)),(11,.d (lC a_.cells)),(12,.d (iZ (List.length a_.cells:Int))),(13,.d (iZ x))],[(2,[.d (lI l),oC out1]),(1,[oI [],oC []]),(0,[.d (lI a_.shape),.d (lC a_.cells)])],3,[],none⟩
abbrev Aj0 (a:Arr) (res:Arr):Prop:=match a with|a_=>aval X 32 [.d (encArr a_)] [] (AiP res)
abbrev Ae5 (a:aA) (res:aA):Prop:=match a with|c=>aval X 60 [.d (aD c)] [] (AjU res)
theorem wO:(∀a res,kE a=some res->AcO a res)/\(∀a res,kG a=some res->Ae5 a res)/\(∀a res,fH a=some res->Aj0 a res):=by
 refine kE.mutual_partial_correctness (motive_1:=AcO) (motive_2:=Ae5) (motive_3:=Aj0) ?_ ?_ ?_
 ·rintro P0 P1 I0 I1 ⟨a_,l,x,out1⟩ res h
  have I0:=Ok.mk' I0
  have I1:=Ok.mk' I1
  refine lg I ?_
  have iE:eP Tryz.f32 0 _ AiP:=⟨trivial⟩
  exact Wk
 ·rintro P0 I0 c res h
  have I0:=Ok.mk' I0
  exact aB AjU I Tryz.func60 I I I I I I λiE=>Wk
 rintro P0 I0 a_ res h
 have I0:=Ok.mk' I0
 exact aB AiP I Tryz.func32 I I I I I I λiE=>Wk
instance {a:Arr×LI×Int×(List aA)}:Ok (kE a) (AcO a):=⟨λh=>wO.1 a _ h⟩
instance {a:aA}:Ok (kG a) (Ae5 a):=⟨λh=>wO.2.1 a _ h⟩
instance {a:Arr}:Ok (fH a) (Aj0 a):=⟨λh=>wO.2.2 a _ h⟩
abbrev xG (r:Int×Int):aE:=(aE.ret (.tuple [.d (iZ r.1),.d (iZ r.2)]) [])
instance Bg7:Jn 96 0 1 (Bool):=⟨λy=>[(5,.d (.bool y))],λy=>[]⟩
abbrev Ai7 (a:LI×Bool×Int) (res:Except (Int×Int) (Bool)):Prop:=match a with|(shape,none_,x)=>cD X 96 (aN [1,1,1,0,1,0,0] (aO Tryz.f96)) (aH (X.H 96 5) 0) (aJ 0 (X.H 96 1000000) 0 (kD X Tryz.f96 0 xG (λ(none_2:Bool)=>(⟨[(0,.d (lI shape)),(4,.d (iZ 1)),(5,.d (.bool none_2))],[],0,[],none⟩:St)) res)) ⟨[(0,.d (lI shape)),(4,.d (iZ 1)),(5,.d (.bool none_)),(13,.d (lI shape)),(14,.d (iZ (List.length shape:Int))),(15,.d (iZ x))],[],0,[],none⟩
instance {a:LI×Bool×Int}:Ok (mI a) (Ai7 a):=⟨λh=>mI.partial_correctness Ai7 (by
 rintro P_ IH ⟨shape,none_,x⟩ res h
 have IH:=Ok.mk' IH
 have iE:eP Tryz.f96 0 _ xG:=⟨trivial⟩
 refine lg I ?_
 exact Wk) _ _ h⟩
abbrev Ai8 (a:LI×Int×Int) (res:Except (Int×Int) (Int)):Prop:=match a with|(shape,n,x1)=>cD X 96 (aN [1,1,1,1,1,0,1,0,0] (aO Tryz.f96)) (aH (X.H 96 14) 0) (aJ 2 (X.H 96 1000002) 0 (kD X Tryz.f96 0 xG (λ(n1:Int)=>(⟨[(4,.d (iZ n1))],[],0,[],none⟩:St)) res)) ⟨[(4,.d (iZ n)),(28,.d (lI shape)),(29,.d (iZ (List.length shape:Int))),(30,.d (iZ x1))],[],0,[],none⟩
instance {a:LI×Int×Int}:Ok (mK a) (Ai8 a):=⟨λh=>mK.partial_correctness Ai8 (by
 rintro P_ IH ⟨shape,n,x1⟩ res h
 have IH:=Ok.mk' IH
 have iE:eP Tryz.f96 0 _ xG:=⟨trivial⟩
 refine lg I ?_
 exact Wk) _ _ h⟩
instance {shape:LI}:Ok (jW shape) λr=>aval X 96 [.d (lI shape)] [] (xG r):=⟨λh=>by
 unfold jW at h
 exact aB xG I Tryz.func96 I I I I I I λiE=>Wk⟩
abbrev AoJ (r:Bool):aE:=(aE.ret (.d (.bool r)) [])
instance {n:Int}:Ok (uV n) λr=>aval X 209 [.d (iZ n)] [] (AoJ r):=⟨λh=>by
 unfold uV at h
 exact aB AoJ I Tryz.func209 I I I I I I λiE=>Wk⟩
abbrev vA (r:Int):aE:=(aE.ret (.d (iZ r)) [])
instance Bf6:Jn 144 0 3 (Unit):=⟨λy=>[],λy=>[]⟩
abbrev AaU (a:Arr×Int×Int) (res:Except (Int) (Unit)):Prop:=match a with|(a_,deep,x)=>cD X 144 (aN [1,1,1,1,0,1,0,0] (aO Tryz.f144)) (aH (X.H 144 7) 1) (aJ 0 (X.H 144 1000000) 1 (kD X Tryz.f144 0 vA (λ(_:Unit)=>(⟨[(1,.d (iZ deep)),(2,.c (.ptr 0 0))],[(0,[.d (lI a_.shape),.d (lC a_.cells)])],1,[],none⟩:St)) res)) ⟨[(1,.d (iZ deep)),(2,.c (.ptr 0 0)),(27,.d (lI a_.shape)),(28,.d (iZ (List.length a_.shape:Int))),(29,.d (iZ x))],[(0,[.d (lI a_.shape),.d (lC a_.cells)])],1,[],none⟩
theorem Aj3:∀a res,iY a=some res->AaU a res:=by
 refine iY.partial_correctness AaU ?_
 rintro P_ IH ⟨a_,deep,x⟩ res h
 have IH:=Ok.mk' IH
 refine lg I ?_
 have iE:eP Tryz.f144 0 _ vA:=⟨trivial⟩
 exact Wk
instance {a:Arr×Int×Int}:Ok (iY a) (AaU a):=⟨λh=>Aj3 a _ h⟩
abbrev AaV (a:Arr×Int×Int) (res:Except (Int) (Unit)):Prop:=match a with|(a_,deep,x1)=>cD X 144 (aN [1,1,1,1,1,0,1,0,0] (aO Tryz.f144)) (aH (X.H 144 13) 1) (aJ 2 (X.H 144 1000002) 1 (kD X Tryz.f144 0 vA (λ(_:Unit)=>(⟨[],[(0,[.d (lI a_.shape),.d (lC a_.cells)])],1,[],none⟩:St)) res)) ⟨[(1,.d (iZ deep)),(37,.d (lC a_.cells)),(38,.d (iZ (List.length a_.cells:Int))),(39,.d (iZ x1))],[(0,[.d (lI a_.shape),.d (lC a_.cells)])],1,[],none⟩
abbrev Ag2 (a:Arr×Int) (res:Int):Prop:=match a with|(a_,deep)=>aval X 144 [.d (encArr a_),.d (iZ deep)] [] (vA res)
theorem Ab8:(∀a res,gU a=some res->AaV a res)/\(∀a res,pS a=some res->Ag2 a res):=by
 refine gU.mutual_partial_correctness (motive_1:=AaV) (motive_2:=Ag2) ?_ ?_
 ·rintro P0 P1 I0 I1 ⟨a_,deep,x1⟩ res h
  have I0:=Ok.mk' I0
  have I1:=Ok.mk' I1
  refine lg I ?_
  have iE:eP Tryz.f144 0 _ vA:=⟨trivial⟩
  exact Wk
 rintro P0 I0 ⟨a_,deep⟩ res h
 have I0:=Ok.mk' I0
 exact aB vA I Tryz.func144 I I I I I I λiE=>Wk
instance {a:Arr×Int×Int}:Ok (gU a) (AaV a):=⟨λh=>Ab8.1 a _ h⟩
instance {a:Arr×Int}:Ok (pS a) (Ag2 a):=⟨λh=>Ab8.2 a _ h⟩
abbrev AmE (r:Int):aE:=(aE.ret (.d (iZ r)) [])
instance {a_:Arr}:Ok (iM a_) λr=>aval X 71 [.d (encArr a_)] [] (AmE r):=⟨λh=>by
 unfold iM at h
 exact aB AmE I Tryz.func71 I I I I I I λiE=>Wk⟩
abbrev pD (r:Bool):aE:=(aE.ret (.d (.bool r)) [])
instance BbT:Jn 123 0 1 (Unit):=⟨λy=>[],λy=>[]⟩
abbrev AbY (a:Arr×Int) (res:Except (Bool) (Unit)):Prop:=match a with|(a_,x1)=>cD X 123 (aN [1,1,0,1,0,0] (aO Tryz.f123)) (aH (X.H 123 4) 1) (aJ 0 (X.H 123 1000000) 1 (kD X Tryz.f123 0 pD (λ(_:Unit)=>(⟨[],[(0,[.d (lI a_.shape),.d (lC a_.cells)])],1,[],none⟩:St)) res)) ⟨[(1,.c (.ptr 0 0)),(27,.d (lC a_.cells)),(28,.d (iZ (List.length a_.cells:Int))),(29,.d (iZ x1))],[(0,[.d (lI a_.shape),.d (lC a_.cells)])],1,[],none⟩
instance {a:Arr×Int}:Ok (jB a) (AbY a):=⟨λh=>jB.partial_correctness AbY (by
 rintro P_ IH ⟨a_,x1⟩ res h
 have IH:=Ok.mk' IH
 have iE:eP Tryz.f123 0 _ pD:=⟨trivial⟩
 refine lg I ?_
 exact Wk) _ _ h⟩
abbrev AbZ (a:Arr×Int) (res:Except (Bool) (Unit)):Prop:=match a with|(a_,x2)=>cD X 123 (aN [1,1,0,1,0,0] (aO Tryz.f123)) (aH (X.H 123 4) 1) (aJ 0 (X.H 123 1000000) 1 (kD X Tryz.f123 0 pD (λ(_:Unit)=>(⟨[],[(0,[.d (lI a_.shape),.d (lC a_.cells)])],1,[],none⟩:St)) res)) ⟨[(1,.c (.ptr 0 0)),(27,.d (lC a_.cells)),(28,.d (iZ (List.length a_.cells:Int))),(29,.d (iZ x2))],[(0,[.d (lI a_.shape),.d (lC a_.cells)])],1,[],none⟩
instance {a:Arr×Int}:Ok (jD a) (AbZ a):=⟨λh=>jD.partial_correctness AbZ (by
 rintro P_ IH ⟨a_,x2⟩ res h
 have IH:=Ok.mk' IH
 have iE:eP Tryz.f123 0 _ pD:=⟨trivial⟩
 refine lg I ?_
 exact Wk) _ _ h⟩
instance {a_:Arr}:Ok (pG a_) λr=>aval X 123 [.d (encArr a_)] [] (pD r):=⟨λh=>by
 unfold pG at h
 exact aB pD I Tryz.func123 I I I I I I λiE=>Wk⟩
abbrev AbK (r:Bool):aE:=(aE.ret (.d (.bool r)) [])
instance BfB:Jn 124 0 1 (Unit):=⟨λy=>[],λy=>[]⟩
abbrev Ag7 (a:Str×Int) (res:Except (Bool) (Unit)):Prop:=match a with|(s,x)=>cD X 124 (aN [1,0,1,0,0] (aO Tryz.f124)) (aH (X.H 124 2) 0) (aJ 0 (X.H 124 1000000) 0 (kD X Tryz.f124 0 AbK (λ(_:Unit)=>(⟨[(0,.d (.str s))],[],0,[],none⟩:St)) res)) ⟨[(0,.d (.str s)),(6,.d (iZ (List.length s:Int))),(7,.d (iZ x))],[],0,[],none⟩
instance {a:Str×Int}:Ok (mZ a) (Ag7 a):=⟨λh=>mZ.partial_correctness Ag7 (by
 rintro P_ IH ⟨s,x⟩ res h
 have IH:=Ok.mk' IH
 have iE:eP Tryz.f124 0 _ AbK:=⟨trivial⟩
 refine lg I ?_
 exact Wk) _ _ h⟩
instance {s:Str}:Ok (vH s) λr=>aval X 124 [.d (.str s)] [] (AbK r):=⟨λh=>by
 unfold vH at h
 exact aB AbK I Tryz.func124 I I I I I I λiE=>Wk⟩
abbrev rL (r:Bool×Int):aE:=(aE.ret (.d (.bool r.1)) [[.d (iZ r.2),.nilmap]])
instance {deep:Int} {nodes:Int}:Ok (bT deep nodes) λr=>aval X 121 [.ptr 0 0,.d (iZ deep)] [[.d (iZ nodes),.nilmap]] (rL r):=⟨λh=>by
 unfold bT at h
 exact aB rL I Tryz.func121 I I I I I I λiE=>Wk⟩
abbrev AhU (r:Bool):aE:=(aE.ret (.d (.bool r)) [])
instance {op_:Int}:Ok (mL op_) λr=>aval X 224 [.d (iZ op_)] [] (AhU r):=⟨λh=>by
 unfold mL at h
 exact aB AhU I Tryz.func224 I I I I I I λiE=>Wk⟩
abbrev AjX (r:Bool):aE:=(aE.ret (.d (.bool r)) [])
instance {n:Node} {kids:Int} {op_:Bool} {name:Bool} {lit:Bool}:Ok (bM n kids op_ name lit) λr=>aval X 122 [.d (encNode n),.d (iZ kids),.d (.bool op_),.d (.bool name),.d (.bool lit)] [] (AjX r):=⟨λh=>by
 unfold bM at h
 exact aB AjX I Tryz.func122 I I I I I I λiE=>Wk⟩
abbrev pP (r:Bool×Int):aE:=(aE.ret (.d (.bool r.1)) [[.d (iZ r.2),.nilmap]])
instance Al1:Jn 187 1 9 (Int×Int×Int×Str×LI×(List aA)×(List Node)×Int×Int):=⟨λy=>[(2,.d (iZ y.1))],λy=>[(0,[(0,.d (iZ y.2.2.2.2.2.2.2.2))]),(1,[(0,.d (iZ y.2.1)),(1,.d (iZ y.2.2.1)),(2,.d (.str y.2.2.2.1)),(3,.d (lI y.2.2.2.2.1)),(4,.d (lC y.2.2.2.2.2.1)),(5,.d (lN y.2.2.2.2.2.2.1)),(6,.d (iZ y.2.2.2.2.2.2.2.1))])]⟩
instance {n:Node} {deep:Int} {nodes:Int}:Ok (dG n deep nodes) λr=>aval X 187 [.ptr 0 0,.d (encNode n),.d (iZ deep)] [[.d (iZ nodes),.nilmap]] (pP r):=⟨λh=>by
 unfold dG at h
 exact aB pP I Tryz.func187 I I I I I I λiE=>Wk⟩
abbrev yD (b:(List (Int×Bool))) (r:Bool×Int):aE:=(aE.ret (.d (.bool r.1)) [[.d (iZ r.2),.mp 1],[.mdat (List.map (yX .i64 D.bool) b)]])
instance {deep:Int} {nodes:Int} {b:(List (Int×Bool))}:Ok (cO deep nodes b) λr=>aval X 121 [.ptr 0 0,.d (iZ deep)] [[.d (iZ nodes),.mp 1],[.mdat (List.map (yX .i64 D.bool) b)]] ((yD b) r):=⟨λh=>by
 unfold cO at h
 exact aB (yD b) I Tryz.func121 I I I I I I λiE=>Wk⟩
abbrev vT (b:(List (Int×Bool))) (r:Bool×Int):aE:=(aE.ret (.d (.bool r.1)) [[.d (iZ r.2),.mp 1],[.mdat (List.map (yX .i64 D.bool) b)]])
instance AqQ:Jn 187 1 9 (Int×Int×Int×Str×LI×(List aA)×(List Node)×Int×Int):=⟨λy=>[(2,.d (iZ y.1))],λy=>[(0,[(0,.d (iZ y.2.2.2.2.2.2.2.2))]),(2,[(0,.d (iZ y.2.1)),(1,.d (iZ y.2.2.1)),(2,.d (.str y.2.2.2.1)),(3,.d (lI y.2.2.2.2.1)),(4,.d (lC y.2.2.2.2.2.1)),(5,.d (lN y.2.2.2.2.2.2.1)),(6,.d (iZ y.2.2.2.2.2.2.2.1))])]⟩
instance {n:Node} {deep:Int} {nodes:Int} {b:(List (Int×Bool))}:Ok (fY n deep nodes b) λr=>aval X 187 [.ptr 0 0,.d (encNode n),.d (iZ deep)] [[.d (iZ nodes),.mp 1],[.mdat (List.map (yX .i64 D.bool) b)]] ((vT b) r):=⟨λh=>by
 unfold fY at h
 exact aB (vT b) I Tryz.func187 I I I I I I λiE=>Wk⟩
abbrev zD (r:Bool×Int×(List (Int×Bool))):aE:=(aE.ret (.d (.bool r.1)) [[.d (iZ r.2.1),.mp 1],[.mdat (List.map (yX .i64 D.bool) r.2.2)]])
instance AuN:Jn 54 1 31 (Bool):=⟨λy=>[(31,.d (.bool y))],λy=>[]⟩
abbrev AbM (b:(List (Int×Bool))) (r:Bool×Int):aE:=(aE.ret (.d (.bool r.1)) [[.d (iZ r.2),.mp 1],[.mdat (List.map (yX .i64 D.bool) b)]])
instance Ay0:Jn 125 1 33 (Bool):=⟨λy=>[(33,.d (.bool y))],λy=>[]⟩
abbrev AbL (b:(List (Int×Bool))) (r:Bool×Int):aE:=(aE.ret (.d (.bool r.1)) [[.d (iZ r.2),.mp 1],[.mdat (List.map (yX .i64 D.bool) b)]])
abbrev xA (b:(List (Int×Bool))) (r:Bool×Int):aE:=(aE.ret (.d (.bool r.1)) [[.d (iZ r.2),.mp 1],[.mdat (List.map (yX .i64 D.bool) b)]])
abbrev xB (b:(List (Int×Bool))) (r:Bool×Int):aE:=(aE.ret (.d (.bool r.1)) [[.d (iZ r.2),.mp 1],[.mdat (List.map (yX .i64 D.bool) b)]])
abbrev AaK (b:(List (Int×Bool))) (r:Bool×Int):aE:=(aE.ret (.d (.bool r.1)) [[.d (iZ r.2),.mp 1],[.mdat (List.map (yX .i64 D.bool) b)]])
abbrev tJ (a:Node×Int×Int×(List (Int×Bool))) (res:Bool×Int×(List (Int×Bool))):Prop:=match a with|(n,deep,nodes,b)=>aval X 54 [.ptr 0 0,.d (encNode n),.d (iZ deep)] [[.d (iZ nodes),.mp 1],[.mdat (List.map (yX .i64 D.bool) b)]] (zD res)
abbrev wI (a:Node×Int×Int×(List (Int×Bool))) (res:Bool×Int):Prop:=match a with|(n,deep,nodes,b)=>aval X 125 [.ptr 0 0,.d (encNode n),.d (iZ deep)] [[.d (iZ nodes),.mp 1],[.mdat (List.map (yX .i64 D.bool) b)]] ((AbM b) res)
abbrev wH (a:Node×Int×Int×(List (Int×Bool))) (res:Bool×Int):Prop:=match a with|(n,deep,nodes,b)=>aval X 126 [.ptr 0 0,.d (encNode n),.d (iZ deep)] [[.d (iZ nodes),.mp 1],[.mdat (List.map (yX .i64 D.bool) b)]] ((AbL b) res)
abbrev rE (a:Node×Int×Int×(List (Int×Bool))) (res:Bool×Int):Prop:=match a with|(n,deep,nodes,b)=>aval X 186 [.ptr 0 0,.d (encNode n),.d (iZ deep)] [[.d (iZ nodes),.mp 1],[.mdat (List.map (yX .i64 D.bool) b)]] ((xA b) res)
abbrev rF (a:Node×Int×Int×(List (Int×Bool))) (res:Bool×Int):Prop:=match a with|(n,deep,nodes,b)=>aval X 188 [.ptr 0 0,.d (encNode n),.d (iZ deep)] [[.d (iZ nodes),.mp 1],[.mdat (List.map (yX .i64 D.bool) b)]] ((xB b) res)
abbrev uS (a:Node×Int×Int×(List (Int×Bool))) (res:Bool×Int):Prop:=match a with|(n,deep,nodes,b)=>aval X 189 [.ptr 0 0,.d (encNode n),.d (iZ deep)] [[.d (iZ nodes),.mp 1],[.mdat (List.map (yX .i64 D.bool) b)]] ((AaK b) res)
theorem fL:(∀a res,dH a=some res->tJ a res)/\(∀a res,oH a=some res->wH a res)/\(∀a res,fQ a=some res->uS a res)/\(∀a res,gL a=some res->rE a res)/\(∀a res,gM a=some res->rF a res)/\(∀a res,kV a=some res->wI a res):=by
 refine dH.mutual_partial_correctness (motive_1:=tJ) (motive_2:=wH) (motive_3:=uS) (motive_4:=rE) (motive_5:=rF) (motive_6:=wI) ?_ ?_ ?_ ?_ ?_ ?_
 ·rintro P0 P1 P2 I0 I1 I2 ⟨n,deep,nodes,b⟩ res h
  have I0:=Ok.mk' I0
  have I1:=Ok.mk' I1
  have I2:=Ok.mk' I2
  exact aB zD I Tryz.func54 I I I I I I λiE=>Wk
 ·rintro P0 P1 I0 I1 ⟨n,deep,nodes,b⟩ res h
  have I0:=Ok.mk' I0
  have I1:=Ok.mk' I1
  exact aB (AbL b) I Tryz.func126 I I I I I I λiE=>Wk
 ·rintro P0 I0 ⟨n,deep,nodes,b⟩ res h
  have I0:=Ok.mk' I0
  exact aB (AaK b) I Tryz.func189 I I I I I I λiE=>Wk
 ·rintro P0 I0 ⟨n,deep,nodes,b⟩ res h
  have I0:=Ok.mk' I0
  exact aB (xA b) I Tryz.func186 I I I I I I λiE=>Wk
 ·rintro P0 I0 ⟨n,deep,nodes,b⟩ res h
  have I0:=Ok.mk' I0
  exact aB (xB b) I Tryz.func188 I I I I I I λiE=>Wk
 rintro P0 P1 P2 I0 I1 I2 ⟨n,deep,nodes,b⟩ res h
 have I0:=Ok.mk' I0
 have I1:=Ok.mk' I1
 have I2:=Ok.mk' I2
 exact aB (AbM b) I Tryz.func125 I I I I I I λiE=>Wk
instance {a:Node×Int×Int×(List (Int×Bool))}:Ok (dH a) (tJ a):=⟨λh=>fL.1 a _ h⟩
instance {a:Node×Int×Int×(List (Int×Bool))}:Ok (oH a) (wH a):=⟨λh=>fL.2.1 a _ h⟩
instance {a:Node×Int×Int×(List (Int×Bool))}:Ok (fQ a) (uS a):=⟨λh=>fL.2.2.1 a _ h⟩
instance {a:Node×Int×Int×(List (Int×Bool))}:Ok (gL a) (rE a):=⟨λh=>fL.2.2.2.1 a _ h⟩
instance {a:Node×Int×Int×(List (Int×Bool))}:Ok (gM a) (rF a):=⟨λh=>fL.2.2.2.2.1 a _ h⟩
instance {a:Node×Int×Int×(List (Int×Bool))}:Ok (kV a) (wI a):=⟨λh=>fL.2.2.2.2.2 a _ h⟩
abbrev qO (r:Bool×Int):aE:=(aE.ret (.d (.bool r.1)) [[.d (iZ r.2),.nilmap]])
instance {n:Node} {deep:Int} {nodes:Int}:Ok (dO n deep nodes) λr=>aval X 186 [.ptr 0 0,.d (encNode n),.d (iZ deep)] [[.d (iZ nodes),.nilmap]] (qO r):=⟨λh=>by
 unfold dO at h
 exact aB qO I Tryz.func186 I I I I I I λiE=>Wk⟩
abbrev tE (r:Bool×Int):aE:=(aE.ret (.d (.bool r.1)) [[.d (iZ r.2),.nilmap]])
instance {n:Node} {deep:Int} {nodes:Int}:Ok (cR n deep nodes) λr=>aval X 189 [.ptr 0 0,.d (encNode n),.d (iZ deep)] [[.d (iZ nodes),.nilmap]] (tE r):=⟨λh=>by
 unfold cR at h
 exact aB tE I Tryz.func189 I I I I I I λiE=>Wk⟩
abbrev qP (r:Bool×Int):aE:=(aE.ret (.d (.bool r.1)) [[.d (iZ r.2),.nilmap]])
instance {n:Node} {deep:Int} {nodes:Int}:Ok (dP n deep nodes) λr=>aval X 188 [.ptr 0 0,.d (encNode n),.d (iZ deep)] [[.d (iZ nodes),.nilmap]] (qP r):=⟨λh=>by
 unfold dP at h
 exact aB qP I Tryz.func188 I I I I I I λiE=>Wk⟩
abbrev tO (r:Bool×Int):aE:=(aE.ret (.d (.bool r.1)) [[.d (iZ r.2),.nilmap]])
instance {n:Node} {deep:Int} {nodes:Int}:Ok (gV n deep nodes) λr=>aval X 126 [.ptr 0 0,.d (encNode n),.d (iZ deep)] [[.d (iZ nodes),.nilmap]] (tO r):=⟨λh=>by
 unfold gV at h
 exact aB tO I Tryz.func126 I I I I I I λiE=>Wk⟩
abbrev tP (r:Bool×Int):aE:=(aE.ret (.d (.bool r.1)) [[.d (iZ r.2),.nilmap]])
instance ApF:Jn 125 1 33 (Bool):=⟨λy=>[(33,.d (.bool y))],λy=>[]⟩
abbrev oK (a:Node×Int×Int) (res:Bool×Int):Prop:=match a with|(n,deep,nodes)=>aval X 125 [.ptr 0 0,.d (encNode n),.d (iZ deep)] [[.d (iZ nodes),.nilmap]] (tP res)
theorem zA:∀a res,dV a=some res->oK a res:=by
 refine dV.partial_correctness oK ?_
 rintro P_ IH ⟨n,deep,nodes⟩ res h
 have IH:=Ok.mk' IH
 exact aB tP I Tryz.func125 I I I I I I λiE=>Wk
instance {a:Node×Int×Int}:Ok (dV a) (oK a):=⟨λh=>zA a _ h⟩
abbrev rQ (r:Bool×Int):aE:=(aE.ret (.d (.bool r.1)) [[.d (iZ r.2),.nilmap]])
instance AnD:Jn 54 1 31 (Bool):=⟨λy=>[(31,.d (.bool y))],λy=>[]⟩
abbrev mU (a:Node×Int×Int) (res:Bool×Int):Prop:=match a with|(n,deep,nodes)=>aval X 54 [.ptr 0 0,.d (encNode n),.d (iZ deep)] [[.d (iZ nodes),.nilmap]] (rQ res)
theorem xQ:∀a res,cB a=some res->mU a res:=by
 refine cB.partial_correctness mU ?_
 rintro P_ IH ⟨n,deep,nodes⟩ res h
 have IH:=Ok.mk' IH
 exact aB rQ I Tryz.func54 I I I I I I λiE=>Wk
instance {a:Node×Int×Int}:Ok (cB a) (mU a):=⟨λh=>xQ a _ h⟩
abbrev AjW (r:Int):aE:=(aE.ret (.d (iZ r)) [])
instance {n:Node}:Ok (sT n) λr=>aval X 28 [.d (encNode n)] [] (AjW r):=⟨λh=>by
 unfold sT at h
 exact aB AjW I Tryz.func28 I I I I I I λiE=>Wk⟩
abbrev AaO (m:aF) (r:Int×Int):aE:=(aE.ret (.tuple [.d (iZ r.1),.d (iZ r.2)]) [[.d (iZ m.fuel.left),.d (iZ m.fuel.used),.d (iZ m.cells)]])
instance {m:aF}:Ok (uW m) λr=>aval X 31 [.ptr 0 0] [[.d (iZ m.fuel.left),.d (iZ m.fuel.used),.d (iZ m.cells)]] ((AaO m) r):=⟨λh=>by
 unfold uW at h
 exact aB (AaO m) I Tryz.func31 I I I I I I λiE=>Wk⟩
abbrev AmK (r:aF):aE:=(aE.ret (.c (.ptr 0 0)) [[.d (iZ r.fuel.left),.d (iZ r.fuel.used),.d (iZ r.cells)]])
instance {fuel:Int} {cells:Int}:Ok (AgJ fuel cells) λr=>aval X 29 [.d (iZ fuel),.d (iZ cells)] [] (AmK r):=⟨λh=>by
 unfold AgJ at h
 exact aB AmK I Tryz.func29 I I I I I I λiE=>Wk⟩
abbrev AmH (r:Bool):aE:=(aE.ret (.d (.bool r)) [])
instance {op_:Int}:Ok (pT op_) λr=>aval X 106 [.d (iZ op_)] [] (AmH r):=⟨λh=>by
 unfold pT at h
 exact aB AmH I Tryz.func106 I I I I I I λiE=>Wk⟩
abbrev sP (r:Int):aE:=(aE.ret (.d (iZ r)) [])
abbrev zE (a:bZ×(List Arr)×Int) (res:Except (Int) (Unit)):Prop:=match a with|(f,l,x)=>cD X 191 (aN [1,0,1,0,0] (aO Tryz.f191)) (aH (X.H 191 2) 1) (aJ 0 (X.H 191 1000000) 1 (kD X Tryz.f191 0 sP (λ(_:Unit)=>(⟨[(2,.c (.ptr 0 0))],[(0,[.d (iZ f.op_),.d (.bool f.turned)])],1,[],none⟩:St)) res)) ⟨[(2,.c (.ptr 0 0)),(8,.d (.list 2 (List.map aW l))),(9,.d (iZ (List.length l:Int))),(10,.d (iZ x))],[(0,[.d (iZ f.op_),.d (.bool f.turned)])],1,[],none⟩
instance {a:bZ×(List Arr)×Int}:Ok (gD a) (zE a):=⟨λh=>gD.partial_correctness zE (by
 rintro P_ IH ⟨f,l,x⟩ res h
 have IH:=Ok.mk' IH
 have iE:eP Tryz.f191 0 _ sP:=⟨trivial⟩
 refine lg I ?_
 exact Wk) _ _ h⟩
instance {f:bZ} {l:(List Arr)}:Ok (jX f l) λr=>aval X 191 [.d (rA f),.d (.list 2 (List.map aW l))] [] (sP r):=⟨λh=>by
 unfold jX at h
 exact aB sP I Tryz.func191 I I I I I I λiE=>Wk⟩
abbrev ArG (r:Int×Int):aE:=(aE.ret (.tuple [.d (iZ r.1),.d (iZ r.2)]) [])
instance {a_:Int} {b:Int}:Ok (AdD a_ b) λr=>aval X 220 [.d (iZ a_),.d (iZ b)] [] (ArG r):=⟨λh=>by
 unfold AdD at h
 exact aB ArG I Tryz.func220 I I I I I I λiE=>Wk⟩
abbrev AjY (r:Int×Int):aE:=(aE.ret (.tuple [.d (iZ r.1),.d (iZ r.2)]) [])
instance Be6:Jn 241 0 0 (Unit):=⟨λy=>[],λy=>[]⟩
instance {n:Int} {below:Bool}:Ok (sX n below) λr=>aval X 241 [.d (.int .u64 n),.d (.bool below)] [] (AjY r):=⟨λh=>by
 unfold sX at h
 exact aB AjY I Tryz.func241 I I I I I I λiE=>Wk⟩
abbrev AoK (r:Int×Bool):aE:=(aE.ret (.tuple [.d (.int .u64 r.1),.d (.bool r.2)]) [])
instance {a_:Int}:Ok (xT a_) λr=>aval X 236 [.d (iZ a_)] [] (AoK r):=⟨λh=>by
 unfold xT at h
 exact aB AoK I Tryz.func236 I I I I I I λiE=>Wk⟩
abbrev AdT (r:Int×Int):aE:=(aE.ret (.tuple [.d (iZ r.1),.d (iZ r.2)]) [])
instance Bg8:Jn 227 0 1 (Int×Bool×Bool):=⟨λy=>[(4,.d (.int .u64 y.1)),(5,.d (.bool y.2.1)),(6,.d (.bool y.2.2))],λy=>[]⟩
abbrev AiB (a:LI×Int×Bool×Bool×Int) (res:Except (Int×Int) (Int×Bool×Bool)):Prop:=match a with|(l,n,below,over,x)=>cD X 227 (aN [1,1,1,0,1,0,0] (aO Tryz.f227)) (aH (X.H 227 4) 0) (aJ 0 (X.H 227 1000000) 0 (kD X Tryz.f227 0 AdT (λ((n2,below2,over2):Int×Bool×Bool)=>(⟨[(4,.d (.int .u64 n2)),(5,.d (.bool below2)),(6,.d (.bool over2))],[],0,[],none⟩:St)) res)) ⟨[(0,.d (lI l)),(4,.d (.int .u64 n)),(5,.d (.bool below)),(6,.d (.bool over)),(11,.d (iZ (List.length l:Int))),(12,.d (iZ x))],[],0,[],none⟩
instance {a:LI×Int×Bool×Bool×Int}:Ok (oR a) (AiB a):=⟨λh=>oR.partial_correctness AiB (by
 rintro P_ IH ⟨l,n,below,over,x⟩ res h
 have IH:=Ok.mk' IH
 have iE:eP Tryz.f227 0 _ AdT:=⟨trivial⟩
 refine lg I ?_
 exact Wk) _ _ h⟩
instance {l:LI}:Ok (sG l) λr=>aval X 227 [.d (lI l)] [] (AdT r):=⟨λh=>by
 unfold sG at h
 exact aB AdT I Tryz.func227 I I I I I I λiE=>Wk⟩
abbrev ArH (r:Int×Int):aE:=(aE.ret (.tuple [.d (iZ r.1),.d (iZ r.2)]) [])
instance {a_:Int} {b:Int}:Ok (AdE a_ b) λr=>aval X 221 [.d (iZ a_),.d (iZ b)] [] (ArH r):=⟨λh=>by
 unfold AdE at h
 exact aB ArH I Tryz.func221 I I I I I I λiE=>Wk⟩
abbrev ArJ (r:Int):aE:=(aE.ret (.d (iZ r)) [])
instance BhC:Jn 222 1 22 (Int):=⟨λy=>[(5,.d (iZ y))],λy=>[]⟩
instance {a_:Int} {b:Int}:Ok (AdF a_ b) λr=>aval X 222 [.d (iZ a_),.d (iZ b)] [] (ArJ r):=⟨λh=>by
 unfold AdF at h
 exact aB ArJ I Tryz.func222 I I I I I I λiE=>Wk⟩
abbrev ArL (r:Int×Int):aE:=(aE.ret (.tuple [.d (iZ r.1),.d (iZ r.2)]) [])
instance {a_:Int} {b:Int}:Ok (Aa5 a_ b) λr=>aval X 210 [.d (iZ a_),.d (iZ b)] [] (ArL r):=⟨λh=>by
 unfold Aa5 at h
 exact aB ArL I Tryz.func210 I I I I I I λiE=>Wk⟩
abbrev AeI (r:Int×Int):aE:=(aE.ret (.tuple [.d (iZ r.1),.d (iZ r.2)]) [])
instance {op_:Int} {a_:Int} {b:Int}:Ok (nZ op_ a_ b) λr=>aval X 175 [.d (iZ op_),.d (iZ a_),.d (iZ b)] [] (AeI r):=⟨λh=>by
 unfold nZ at h
 exact aB AeI I Tryz.func175 I I I I I I λiE=>Wk⟩
abbrev AfE (r:Int):aE:=(aE.ret (.d (iZ r)) [])
instance {b:Bool}:Ok (mY b) λr=>aval X 173 [.d (.bool b)] [] (AfE r):=⟨λh=>by
 unfold mY at h
 exact aB AfE I Tryz.func173 I I I I I I λiE=>Wk⟩
abbrev AhT (r:aA×Int):aE:=(aE.ret (.tuple [.d (aD r.1),.d (iZ r.2)]) [])
instance BcI:Jn 108 0 0 (Unit):=⟨λy=>[],λy=>[]⟩
instance {op_:Int} {a_:aA} {b:aA}:Ok (oP op_ a_ b) λr=>aval X 108 [.d (iZ op_),.d (aD a_),.d (aD b)] [] (AhT r):=⟨λh=>by
 unfold oP at h
 exact aB AhT I Tryz.func108 I I I I I I λiE=>Wk⟩
abbrev AmI (r:aA×Int):aE:=(aE.ret (.tuple [.d (aD r.1),.d (iZ r.2)]) [])
instance BfC:Jn 197 1 9 (Int×Int×(List Arr)×Int×Int×(List Arr)):=⟨λy=>[],λy=>[(1,[(0,.d (iZ y.2.2.2.1)),(1,.d (iZ y.2.2.2.2.1)),(2,.d (.list 2 (List.map aW y.2.2.2.2.2)))]),(2,[(0,.d (iZ y.1)),(1,.d (iZ y.2.1)),(2,.d (.list 2 (List.map aW y.2.2.1)))])]⟩
instance {f:bZ} {a_:aA} {b:aA}:Ok (vI f a_ b) λr=>aval X 197 [.d (rA f),.d (aD a_),.d (aD b)] [] (AmI r):=⟨λh=>by
 unfold vI at h
 exact aB AmI I Tryz.func197 I I I I I I λiE=>Wk⟩
abbrev zQ (r:Arr×Int):aE:=(aE.ret (.tuple [.d (encArr r.1),.d (iZ r.2)]) [])
abbrev AeR (a:bZ×Arr×Arr×LI×Int×aA×Int×(List aA)) (res:Except (Arr×Int) (List aA)):Prop:=match a with|(f,a_,b,l,x2,y,x3,out11)=>cD X 132 (aN [1,1,1,1,0,1,0,0,1,1,0,0,1,1,0,0] (aO Tryz.f132)) (aH (X.H 132 12) 16) (aJ 2 (X.H 132 1000002) 16 (kD X Tryz.f132 0 zQ (λ(out12:(List aA))=>(⟨[(3,.c (.ptr 0 0)),(5,.c (.ptr 2 0)),(6,.c (.ptr 3 0)),(9,.c (.ptr 11 0)),(45,.d (lC a_.cells)),(46,.d (iZ (List.length a_.cells:Int))),(47,.d (iZ x2))],[(15,[.d (iZ y.kind),.d (iZ y.n),.d (.list 2 (List.map aW y.box))]),(11,[.d (lI l),oC out12]),(3,[oI [],oC []]),(2,[.d (lI b.shape),.d (lC b.cells)]),(1,[.d (lI a_.shape),.d (lC a_.cells)]),(0,[.d (iZ f.op_),.d (.bool f.turned)])],16,[],none⟩:St)) res)) ⟨[(3,.c (.ptr 0 0)),(5,.c (.ptr 2 0)),(6,.c (.ptr 3 0)),(9,.c (.ptr 11 0)),(13,.c (.ptr 15 0)),(45,.d (lC a_.cells)),(46,.d (iZ (List.length a_.cells:Int))),(47,.d (iZ x2)),(52,.d (lC b.cells)),(53,.d (iZ (List.length b.cells:Int))),(54,.d (iZ x3))],[(15,[.d (iZ y.kind),.d (iZ y.n),.d (.list 2 (List.map aW y.box))]),(11,[.d (lI l),oC out11]),(3,[oI [],oC []]),(2,[.d (lI b.shape),.d (lC b.cells)]),(1,[.d (lI a_.shape),.d (lC a_.cells)]),(0,[.d (iZ f.op_),.d (.bool f.turned)])],16,[],none⟩
instance {a:bZ×Arr×Arr×LI×Int×aA×Int×(List aA)}:Ok (lE a) (AeR a):=⟨λh=>lE.partial_correctness AeR (by
 rintro P_ IH ⟨f,a_,b,l,x2,y,x3,out11⟩ res h
 have IH:=Ok.mk' IH
 refine lg I (ra I (S_ ?_))
 rcases E_ h with ⟨hc,h⟩|⟨hc,h⟩
 ·refine ct I hc (K_ (cn I (N_ (S_ (W_ (S_ (rn 0 I ?_)))))))
  obtain⟨y1,hk,h⟩:=B h
  refine po (mS aD (λ_=>I) hk I I I I I) I I (on (nid':=17) 3 I (rz (S_ (rn 3 I ?_))))
  obtain⟨⟨x4,e2⟩,hk,h⟩:=B h
  have hv:=Ok.ok hk
  refine po (nR (hv) I I I I I I I I I) I I (on (nid':=18) 6 I (rz (S_ (ra I ?_))))
  rcases E_ h with ⟨hc,h⟩|⟨hc,h⟩
  ·refine ct I hc (ra I (R_ (C_ (Q_ (aJ.ret (Q_ (cH.ret (aJ.ret ?_))))))))
   cases h
   exact .err I (.ret I I)
  refine cf I hc (K_ (cn I (N_ (rn 4 I ?_))))
  obtain⟨l1,hk,h⟩:=B h
  refine po (AfP hk I I I I I I I I I I I I I I ) I I (on 2 I (O_ (en I (N_ (rn 2 I (O_ (cH.normal ?_)))))))
  have hv:=Ok.ok h
  exact bV I I hv
 ·refine cf I hc (X_ (fN.exit (kT.exit (cH.exit (eh I ?_)))))
  cases h
  exact .ok I
 ) _ _ h⟩
abbrev AeQ (a:bZ×Arr×Arr×LI×Int×(List aA)) (res:Except (Arr×Int) (List aA)):Prop:=match a with|(f,a_,b,l,x2,out1)=>cD X 132 (aN [1,1,1,1,0,1,0,0] (aO Tryz.f132)) (aH (X.H 132 9) 15) (aJ 0 (X.H 132 1000000) 15 (kD X Tryz.f132 0 zQ (λ(out13:(List aA))=>(⟨[(6,.c (.ptr 3 0)),(9,.c (.ptr 11 0))],[(11,[.d (lI l),oC out13]),(3,[oI [],oC []]),(2,[.d (lI b.shape),.d (lC b.cells)]),(1,[.d (lI a_.shape),.d (lC a_.cells)]),(0,[.d (iZ f.op_),.d (.bool f.turned)])],15,[],none⟩:St)) res)) ⟨[(3,.c (.ptr 0 0)),(5,.c (.ptr 2 0)),(6,.c (.ptr 3 0)),(9,.c (.ptr 11 0)),(45,.d (lC a_.cells)),(46,.d (iZ (List.length a_.cells:Int))),(47,.d (iZ x2))],[(11,[.d (lI l),oC out1]),(3,[oI [],oC []]),(2,[.d (lI b.shape),.d (lC b.cells)]),(1,[.d (lI a_.shape),.d (lC a_.cells)]),(0,[.d (iZ f.op_),.d (.bool f.turned)])],15,[],none⟩
instance {a:bZ×Arr×Arr×LI×Int×(List aA)}:Ok (lD a) (AeQ a):=⟨λh=>lD.partial_correctness AeQ (by
 rintro P_ IH ⟨f,a_,b,l,x2,out1⟩ res h
 have IH:=Ok.mk' IH
 refine lg I (ra I (S_ ?_))
 rcases E_ h with ⟨hc,h⟩|⟨hc,h⟩
 ·refine ct I hc (K_ (cn I (N_ (S_ (W_ (S_ (rn 0 I ?_)))))))
  obtain⟨y,hk,h⟩:=B h
  refine po (mS aD (λ_=>I) hk I I I I I) I I (on (nid':=16) 3 I (rz (S_ (rn 2 I (po (mT I I I I I I I) I I (on 1 I (rz ?_)))))))
  obtain⟨res,hs,h⟩:=B h
  refine uG Tryz.f132 0 zQ (λ(out12:(List aA))=>(⟨[(3,.c (.ptr 0 0)),(5,.c (.ptr 2 0)),(6,.c (.ptr 3 0)),(9,.c (.ptr 11 0)),(45,.d (lC a_.cells)),(46,.d (iZ (List.length a_.cells:Int))),(47,.d (iZ x2))],[(15,[.d (iZ y.kind),.d (iZ y.n),.d (.list 2 (List.map aW y.box))]),(11,[.d (lI l),oC out12]),(3,[oI [],oC []]),(2,[.d (lI b.shape),.d (lC b.cells)]),(1,[.d (lI a_.shape),.d (lC a_.cells)]),(0,[.d (iZ f.op_),.d (.bool f.turned)])],16,[],none⟩:St)) (res:=res) ?_ (λy hy=>?_) (λr x s' hr hx he=>?_)
  ·replace h:=hs
   refine W_ (eC ?_)
   have hv:=Ok.ok h
   exact bV I I hv
  ·subst hy
   obtain out12:=y
   refine en I (N_ (rn 2 I (O_ (cH.normal ?_))))
   have hv:=Ok.ok h
   exact bV I I hv
  subst hr
  refine aJ.out hx (kT.out hx (cH.out hx (aJ.out hx ?_)))
  cases h
  exact .err hx he
 ·refine cf I hc (X_ (fN.exit (kT.exit (cH.exit (eh I ?_)))))
  cases h
  exact .ok I
 ) _ _ h⟩
instance {f:bZ} {a_:Arr} {b:Arr}:Ok (sV f a_ b) λr=>aval X 132 [.d (rA f),.d (encArr a_),.d (encArr b)] [] (aE.ret (.tuple [.d (encArr r.1),.d (iZ r.2)]) []):=⟨λ{r} h=>by
 unfold sV at h
 refine kY (tm:=[(0,.d (rA f)),(1,.d (encArr a_)),(2,.d (encArr b))]) (hp:=[]) (n:=0) I Tryz.func132 I I I I I I (ra (nid':=4) I (S_ (S_ (rn 3 I (po (Bi6 (show V.c (.full 2 [encArr a_,encArr b])=V.c (.full 2 (List.map aW [a_,b])) from by simp only[List.map_cons,List.map_nil,pX]) (yY I)) I I ?_)))))
 obtain⟨e,hk,h⟩:=B h
 have hv:=Ok.ok hk
 refine po (nR (hv) I I I I I I I I I) I I (on 1 I (rz (ra I ?_)))
 rcases E_ h with ⟨hc,h⟩|⟨hc,h⟩
 ·refine ct I hc (ra I (R_ (C_ (Q_ ?_))))
  cases h
  exact .ret I I
 ·refine cf I hc (K_ (cn I (N_ (S_ (drn (m:=13) 2 I I ?_)))))
  obtain⟨⟨x,b1⟩,hk,h⟩:=B h
  have hv:=Ok.ok hk
  refine pd (AfQ (nid':=14) (hv) I I I I I I I I I I I I) I I I I I (don 2 I ?_)
  obtain⟨l,hk,h⟩:=B h
  obtain⟨_,hk1,hk⟩:=AuX hk
  refine pda (D.int .i64) hk (At4 (D.int .i64) hk1 I) I I I I I I I I I I I I I I I I I I I I (don 3 I (dz (by kernel_rfl) (S_ (S_ (rnF 2 (tm0:=[(9,.c (.ptr 11 0)),(33,.vagg [.arr 14 (List.length l) 1,.nilsl 3]),(32,.c (.arr 14 (List.length l) 1)),(31,.d (lI b.shape)),(30,.c (.ptr 2 0)),(29,.c (.arr 13 x 1)),(28,.d (lI a_.shape)),(27,.c (.ptr 1 0)),(3,.c (.ptr 0 0)),(4,.c (.ptr 1 0)),(5,.c (.ptr 2 0)),(6,.c (.ptr 3 0))]) (hp0:=[(11,[.d (lI l),oC []]),(3,[oI [],oC []]),(2,[.d (lI b.shape),.d (lC b.cells)]),(1,[.d (lI a_.shape),.d (lC a_.cells)]),(0,[.d (iZ f.op_),.d (.bool f.turned)])]) (nid0:=15) (Ai4 I (gC (b0:=11) (off:=0) I (iJ (D.int .i64) I (AuY _) I I I)) I) I ?_)))))
  obtain⟨⟨x1,e1⟩,hk,h⟩:=B h
  have hv:=Ok.ok hk
  refine po (nR (hv) I I I I I I I I I) I I (on 5 I (rz (ra I ?_)))
  rcases E_ h with ⟨hc,h⟩|⟨hc,h⟩
  ·refine ct I hc (ra I (R_ (C_ (Q_ ?_))))
   cases h
   exact .ret I I
  ·refine cf I hc (K_ (cn I (N_ (S_ (S_ (rn 2 I (po (mT I I I I I I I) I I (on 1 I (rz ?_)))))))))
   obtain⟨res,hs,h⟩:=B h
   refine uG Tryz.f132 0 zQ (λ(out13:(List aA))=>(⟨[(6,.c (.ptr 3 0)),(9,.c (.ptr 11 0))],[(11,[.d (lI l),oC out13]),(3,[oI [],oC []]),(2,[.d (lI b.shape),.d (lC b.cells)]),(1,[.d (lI a_.shape),.d (lC a_.cells)]),(0,[.d (iZ f.op_),.d (.bool f.turned)])],15,[],none⟩:St)) (res:=res) ?_ (λy hy=>?_) (λr x s' hr hx he=>?_)
   ·replace h:=hs
    refine W_ (eC ?_)
    have hv:=Ok.ok h
    exact bV I I hv
   ·subst hy
    obtain out13:=y
    refine N_ (ra I (R_ ?_))
    cases h
    exact .ret I I
   ·subst hr
    refine kT.out hx ?_
    cases h
    exact he
 ⟩
abbrev AfG (r:LI×Int):aE:=(aE.ret (.tuple [.d (lI r.1),.d (iZ r.2)]) [])
abbrev Ac0 (a:(List aA)×Int×LI) (res:Except (LI×Int) LI):Prop:=match a with|(l,x,out1)=>cD X 225 (aN [1,1,0,1,0,0] (aO Tryz.f225)) (aH (X.H 225 3) 1) (aJ 0 (X.H 225 1000000) 1 (kD X Tryz.f225 0 AfG (λ(out3:LI)=>(⟨[(4,.c (.arr 0 (Int.toNat (List.length l:Int)) 1))],[(0,[.seq 1 (List.map (D.int .i64) out3)])],1,[],none⟩:St)) res)) ⟨[(4,.c (.arr 0 (Int.toNat (List.length l:Int)) 1)),(10,.d (lC l)),(11,.d (iZ (List.length l:Int))),(12,.d (iZ x))],[(0,[.seq 1 (List.map (D.int .i64) out1)])],1,[],none⟩
instance {a:(List aA)×Int×LI}:Ok (jE a) (Ac0 a):=⟨λh=>jE.partial_correctness Ac0 (by
 rintro P_ IH ⟨l,x,out1⟩ res h
 have IH:=Ok.mk' IH
 refine lg I (ra I (S_ ?_))
 rcases E_ h with ⟨hc,h⟩|⟨hc,h⟩
 ·refine ct I hc (K_ (cn I (N_ (S_ (W_ (S_ (rn 1 I ?_)))))))
  obtain⟨y,hk,h⟩:=B h
  refine po (mS aD (λ_=>I) hk I I I I I) I I (on (nid':=2) 4 I (rz (S_ (ra I ?_))))
  rcases E_ h with ⟨hc,h⟩|⟨hc,h⟩
  ·refine ct I hc (ra I (R_ (C_ (Q_ (aJ.ret (Q_ (cH.ret (aJ.ret ?_))))))))
   cases h
   exact .err I (.ret I I)
  refine cf I hc (K_ (cn I (N_ (rn 4 I ?_))))
  obtain⟨j,hk,h⟩:=B h
  refine po (AcK hk I I I I I) I I ?_
  obtain⟨out2,hk,h⟩:=B h
  refine po (est (D.int .i64) (v:=y.n) hk I I (λ_=>⟨I,I,I⟩) I I I I) I I (O_ (en I (N_ (rn 2 I (O_ (cH.normal ?_))))))
  have hv:=Ok.ok h
  exact bV I I hv
 ·refine cf I hc (X_ (fN.exit (kT.exit (cH.exit (eh I ?_)))))
  cases h
  exact .ok I
 ) _ _ h⟩
instance {l:(List aA)}:Ok (nC l) λr=>aval X 225 [.d (lC l)] [] (aE.ret (.tuple [.d (lI r.1),.d (iZ r.2)]) []):=⟨λ{r} h=>by
 unfold nC at h
 refine kY (tm:=[(0,.d (lC l))]) (hp:=[]) (n:=0) I Tryz.func225 I I I I I I (ra I (S_ (rn 1 I (po (mT I I I I I I I) I I ?_))))
 obtain⟨out,hk,h⟩:=B h
 refine po (AlA (nid':=1) (D.int .i64) 0 hk I I I I I I I I I I I I ) I I (on (nid':=1) 1 I (rz (S_ (S_ (rn 1 I (po (mT I I I I I I I) I I (on 1 I (rz ?_))))))))
 obtain⟨res,hs,h⟩:=B h
 refine uG Tryz.f225 0 AfG (λ(out3:LI)=>(⟨[(4,.c (.arr 0 (Int.toNat (List.length l:Int)) 1))],[(0,[.seq 1 (List.map (D.int .i64) out3)])],1,[],none⟩:St)) (res:=res) ?_ (λy hy=>?_) (λr x s' hr hx he=>?_)
 ·replace h:=hs
  refine W_ (eC ?_)
  have hv:=Ok.ok h
  exact bV I I hv
 ·subst hy
  obtain out3:=y
  refine N_ ?_
  obtain⟨out4,hkFout4,h⟩:=B h
  refine S_ (rnF 3 (tm0:=[(4,.d (lI out4)),(4,.c (.arr 0 (Int.toNat (List.length l:Int)) 1))]) (hp0:=[]) (nid0:=1) (Ai4 I (gT (t:=4) I I I (AtS (AfV (D.int .i64) hkFout4 I)) I I) I) I (rz (R_ ?_)))
  cases h
  exact .ret I I
 ·subst hr
  refine kT.out hx ?_
  cases h
  exact he
 ⟩
abbrev AfK (r:Int×Int):aE:=(aE.ret (.tuple []) [[.d (.int .u64 r.1),.d (.int .u64 r.2)]])
instance {n:Int} {w:eL}:Ok (pK n w) λr=>aval X 237 [.ptr 0 0,.d (.int .u64 n)] [[.d (.int .u64 w.hi),.d (.int .u64 w.lo)]] (AfK r):=⟨λh=>by
 unfold pK at h
 exact aB AfK I Tryz.func237 I I I I I I λiE=>Wk⟩
abbrev AeJ (r:Bool):aE:=(aE.ret (.d (.bool r)) [])
instance {w:eL} {a_:eL}:Ok (qV w a_) λr=>aval X 238 [.d (AbQ w),.d (AbQ a_)] [] (AeJ r):=⟨λh=>by
 unfold qV at h
 exact aB AeJ I Tryz.func238 I I I I I I λiE=>Wk⟩
abbrev AbN (r:Int×Int):aE:=(aE.ret (.tuple [.d (iZ r.1),.d (iZ r.2)]) [])
instance {w:eL} {below:Bool}:Ok (kW w below) λr=>aval X 240 [.d (AbQ w),.d (.bool below)] [] (AbN r):=⟨λh=>by
 unfold kW at h
 exact aB AbN I Tryz.func240 I I I I I I λiE=>Wk⟩
abbrev AfL (r:Int×Int):aE:=(aE.ret (.tuple []) [[.d (.int .u64 r.1),.d (.int .u64 r.2)]])
instance BbU:Jn 239 1 10 (Int):=⟨λy=>[],λy=>[(0,[(0,.d (.int .u64 y))])]⟩
instance {a_:eL} {w:eL}:Ok (pL a_ w) λr=>aval X 239 [.ptr 0 0,.d (AbQ a_)] [[.d (.int .u64 w.hi),.d (.int .u64 w.lo)]] (AfL r):=⟨λh=>by
 unfold pL at h
 exact aB AfL I Tryz.func239 I I I I I I λiE=>Wk⟩
abbrev Al8 (r:Int×Int):aE:=(aE.ret (.tuple [.d (iZ r.1),.d (iZ r.2)]) [])
instance BhD:Jn 226 0 1 (Int×Int×Int×Int):=⟨λy=>[],λy=>[(0,[(0,.d (.int .u64 y.2.2.1)),(1,.d (.int .u64 y.2.2.2))]),(1,[(0,.d (.int .u64 y.1)),(1,.d (.int .u64 y.2.1))])]⟩
abbrev AkJ (a:LI×Int×Int×Int×Int×Int) (res:Int×Int×Int×Int):Prop:=match a with|(l,x,below0,below1,above0,above1)=>cD X 226 (aN [1,1,0,1,0,0] (aO Tryz.f226)) (aH (X.H 226 3) 2) (aJ 0 (X.H 226 1000000) 2 (iR (λ((below02,below12,above02,above12):Int×Int×Int×Int)=>(⟨[(4,.c (.ptr 0 0)),(5,.c (.ptr 1 0))],[(1,[.d (.int .u64 below02),.d (.int .u64 below12)]),(0,[.d (.int .u64 above02),.d (.int .u64 above12)])],2,[],none⟩:St)) res)) ⟨[(0,.d (lI l)),(4,.c (.ptr 0 0)),(5,.c (.ptr 1 0)),(10,.d (iZ (List.length l:Int))),(11,.d (iZ x))],[(1,[.d (.int .u64 below0),.d (.int .u64 below1)]),(0,[.d (.int .u64 above0),.d (.int .u64 above1)])],2,[],none⟩
instance {a:LI×Int×Int×Int×Int×Int}:Ok (qE a) (AkJ a):=⟨λh=>qE.partial_correctness AkJ (by
 rintro P_ IH ⟨l,x,below0,below1,above0,above1⟩ res h
 have IH:=Ok.mk' IH
 have iE:eP Tryz.f226 0 _ Al8:=⟨trivial⟩
 refine lg I ?_
 exact Wk) _ _ h⟩
instance {l:LI}:Ok (xS l) λr=>aval X 226 [.d (lI l)] [] (Al8 r):=⟨λh=>by
 unfold xS at h
 exact aB Al8 I Tryz.func226 I I I I I I λiE=>Wk⟩
abbrev zP (r:aA×Int):aE:=(aE.ret (.tuple [.d (aD r.1),.d (iZ r.2)]) [])
instance Be5:Jn 195 0 0 (Unit):=⟨λy=>[],λy=>[]⟩
abbrev AeP (a:bZ×(List aA)×Int×Int×Int×(List Arr)) (res:Except (aA×Int) (Int×Int×(List Arr))):Prop:=match a with|(f,l,i,c0,c1,c2)=>cD X 195 (aN [1,1,1,1,1,0,1,0,0] (aO Tryz.f195)) (aH (X.H 195 21) 3) (aJ 1 (X.H 195 1000001) 3 (kD X Tryz.f195 0 zP (λ((c01,c11,c21):Int×Int×(List Arr))=>(⟨[(4,.c (.ptr 1 0)),(11,.c (.ptr 2 0))],[(2,[.d (iZ c01),.d (iZ c11),.d (.list 2 (List.map aW c21))]),(1,[.d (iZ 0),.d (iZ 0),.own 2 (List.map aW [])]),(0,[.d (iZ f.op_),.d (.bool f.turned)])],3,[],none⟩:St)) res)) ⟨[(1,.d (lC l)),(4,.c (.ptr 1 0)),(10,.c (.bfn 197 (rA f))),(11,.c (.ptr 2 0)),(13,.d (iZ i))],[(2,[.d (iZ c0),.d (iZ c1),.d (.list 2 (List.map aW c2))]),(1,[.d (iZ 0),.d (iZ 0),.own 2 (List.map aW [])]),(0,[.d (iZ f.op_),.d (.bool f.turned)])],3,[],none⟩
instance {a:bZ×(List aA)×Int×Int×Int×(List Arr)}:Ok (p_fold_F_row_l0 a) (AeP a):=⟨λh=>p_fold_F_row_l0.partial_correctness AeP (by
 rintro P_ IH ⟨f,l,i,c0,c1,c2⟩ res h
 have IH:=Ok.mk' IH
 have iE:eP Tryz.f195 0 _ zP:=⟨trivial⟩
 refine lg I ?_
 exact Wk) _ _ h⟩
instance {f:bZ} {l:(List aA)}:Ok (sU f l) λr=>aval X 195 [.d (rA f),.d (lC l)] [] (zP r):=⟨λh=>by
 unfold sU at h
 exact aB zP I Tryz.func195 I I I I I I λiE=>Wk⟩
abbrev AmJ (r:Int):aE:=(aE.ret (.d (iZ r)) [])
instance {a_:Arr} {last:Bool}:Ok (vK a_ last) λr=>aval X 192 [.d (encArr a_),.d (.bool last)] [] (AmJ r):=⟨λh=>by
 unfold vK at h
 exact aB AmJ I Tryz.func192 I I I I I I λiE=>Wk⟩
abbrev AfF (r:(List aA)):aE:=(aE.ret (.d (lC r)) [])
abbrev AgB (a:(List aA)×Int×Int×Int×(List aA)×Int) (res:(List aA)):Prop:=match a with|(l,at_,step,long,out1,x)=>cD X 196 (aN [1,1,0,1,0,0] (aO Tryz.f196)) (aH (X.H 196 3) 0) (aJ 0 (X.H 196 1000000) 0 (iR (λ(out3:(List aA))=>(⟨[(9,.c (.own 3 (List.map aD out3)))],[],0,[],none⟩:St)) res)) ⟨[(0,.d (lC l)),(1,.d (iZ at_)),(2,.d (iZ step)),(9,.c (.own 3 (List.map aD out1))),(13,.d (iZ long)),(14,.d (iZ x))],[],0,[],none⟩
instance {a:(List aA)×Int×Int×Int×(List aA)×Int}:Ok (nB a) (AgB a):=⟨λh=>nB.partial_correctness AgB (by
 rintro P_ IH ⟨l,at_,step,long,out1,x⟩ res h
 have IH:=Ok.mk' IH
 have iE:eP Tryz.f196 0 _ AfF:=⟨trivial⟩
 refine lg I ?_
 exact Wk) _ _ h⟩
instance {l:(List aA)} {at_:Int} {step:Int} {long:Int}:Ok (sB l at_ step long) λr=>aval X 196 [.d (lC l),.d (iZ at_),.d (iZ step),.d (iZ long)] [] (AfF r):=⟨λh=>by
 unfold sB at h
 exact aB AfF I Tryz.func196 I I I I I I λiE=>Wk⟩
abbrev zR (r:Int×Int×Int):aE:=(aE.ret (.tuple [.d (iZ r.1),.d (iZ r.2.1),.d (iZ r.2.2)]) [])
abbrev AeS (a:LI×Int×LI×Int×Int) (res:Int):Prop:=match a with|(shape,axis,l,outer,x)=>cD X 194 (aN [1,1,0,1,0,0] (aO Tryz.f194)) (aH (X.H 194 3) 0) (aJ 0 (X.H 194 1000000) 0 (iR (λ(outer1:Int)=>(⟨[(0,.d (lI shape)),(1,.d (iZ axis)),(4,.d (iZ outer1)),(5,.d (iZ 1))],[],0,[],none⟩:St)) res)) ⟨[(0,.d (lI shape)),(1,.d (iZ axis)),(4,.d (iZ outer)),(5,.d (iZ 1)),(13,.d (lI l)),(14,.d (iZ (List.length l:Int))),(15,.d (iZ x))],[],0,[],none⟩
instance {a:LI×Int×LI×Int×Int}:Ok (jO a) (AeS a):=⟨λh=>jO.partial_correctness AeS (by
 rintro P_ IH ⟨shape,axis,l,outer,x⟩ res h
 have IH:=Ok.mk' IH
 have iE:eP Tryz.f194 0 _ zR:=⟨trivial⟩
 refine lg I ?_
 exact Wk) _ _ h⟩
abbrev AeT (a:LI×Int×Int×LI×Int×Int) (res:Int):Prop:=match a with|(shape,axis,outer1,l1,step,x1)=>cD X 194 (aN [1,1,1,0,1,0,0] (aO Tryz.f194)) (aH (X.H 194 8) 0) (aJ 2 (X.H 194 1000002) 0 (iR (λ(step1:Int)=>(⟨[(0,.d (lI shape)),(1,.d (iZ axis)),(4,.d (iZ outer1)),(5,.d (iZ step1))],[],0,[],none⟩:St)) res)) ⟨[(0,.d (lI shape)),(1,.d (iZ axis)),(4,.d (iZ outer1)),(5,.d (iZ step)),(26,.d (lI l1)),(27,.d (iZ (List.length l1:Int))),(28,.d (iZ x1))],[],0,[],none⟩
instance {a:LI×Int×Int×LI×Int×Int}:Ok (jP a) (AeT a):=⟨λh=>jP.partial_correctness AeT (by
 rintro P_ IH ⟨shape,axis,outer1,l1,step,x1⟩ res h
 have IH:=Ok.mk' IH
 have iE:eP Tryz.f194 0 _ zR:=⟨trivial⟩
 refine lg I ?_
 exact Wk) _ _ h⟩
instance {shape:LI} {axis:Int}:Ok (sW shape axis) λr=>aval X 194 [.d (lI shape),.d (iZ axis)] [] (zR r):=⟨λh=>by
 unfold sW at h
 exact aB zR I Tryz.func194 I I I I I I λiE=>Wk⟩
abbrev xH (r:Arr×Int):aE:=(aE.ret (.tuple [.d (encArr r.1),.d (iZ r.2)]) [])
abbrev AiA (a:bZ×Arr×LI×LI×Int×Int×Int×Int×Int×(List aA)) (res:Except (Arr×Int) (List aA)):Prop:=match a with|(f,a_,x2,x3,outer,step,long,x5,x6,out11)=>cD X 129 (aN [1,1,1,1,1,1,1,0,1,0,0,1,1,0,0,1,1,0,0] (aO Tryz.f129)) (aH (X.H 129 16) 5) (aJ 2 (X.H 129 1000002) 5 (kD X Tryz.f129 0 xH (λ(out12:(List aA))=>(⟨[(3,.c (.ptr 0 0)),(4,.c (.ptr 1 0)),(6,.c (.ptr 2 0)),(10,.c (.ptr 4 0)),(14,.d (iZ step)),(15,.d (iZ long)),(63,.d (iZ outer)),(64,.d (iZ x5))],[(4,[.d (lI x2),oC out12]),(2,[oI [],oC []]),(1,[.d (lI a_.shape),.d (lC a_.cells)]),(0,[.d (iZ f.op_),.d (.bool f.turned)]),(3,[.seq 1 (List.map (D.int .i64) x3)])],5,[],none⟩:St)) res)) ⟨[(3,.c (.ptr 0 0)),(4,.c (.ptr 1 0)),(6,.c (.ptr 2 0)),(10,.c (.ptr 4 0)),(14,.d (iZ step)),(15,.d (iZ long)),(16,.d (iZ x5)),(63,.d (iZ outer)),(64,.d (iZ x5)),(67,.d (iZ step)),(68,.d (iZ x6))],[(4,[.d (lI x2),oC out11]),(2,[oI [],oC []]),(1,[.d (lI a_.shape),.d (lC a_.cells)]),(0,[.d (iZ f.op_),.d (.bool f.turned)]),(3,[.seq 1 (List.map (D.int .i64) x3)])],5,[],none⟩
instance {a:bZ×Arr×LI×LI×Int×Int×Int×Int×Int×(List aA)}:Ok (oQ a) (AiA a):=⟨λh=>oQ.partial_correctness AiA (by
 rintro P_ IH ⟨f,a_,x2,x3,outer,step,long,x5,x6,out11⟩ res h
 have IH:=Ok.mk' IH
 have iE:eP Tryz.f129 0 _ xH:=⟨trivial⟩
 refine lg I ?_
 exact Wk) _ _ h⟩
abbrev Ai9 (a:bZ×Arr×LI×LI×Int×Int×Int×Int×(List aA)) (res:Except (Arr×Int) (List aA)):Prop:=match a with|(f,a_,x2,x3,outer,step,long,x5,out1)=>cD X 129 (aN [1,1,1,1,1,1,1,0,1,0,0] (aO Tryz.f129)) (aH (X.H 129 13) 5) (aJ 0 (X.H 129 1000000) 5 (kD X Tryz.f129 0 xH (λ(out13:(List aA))=>(⟨[(6,.c (.ptr 2 0)),(10,.c (.ptr 4 0))],[(4,[.d (lI x2),oC out13]),(2,[oI [],oC []]),(1,[.d (lI a_.shape),.d (lC a_.cells)]),(0,[.d (iZ f.op_),.d (.bool f.turned)]),(3,[.seq 1 (List.map (D.int .i64) x3)])],5,[],none⟩:St)) res)) ⟨[(3,.c (.ptr 0 0)),(4,.c (.ptr 1 0)),(6,.c (.ptr 2 0)),(10,.c (.ptr 4 0)),(14,.d (iZ step)),(15,.d (iZ long)),(63,.d (iZ outer)),(64,.d (iZ x5))],[(4,[.d (lI x2),oC out1]),(2,[oI [],oC []]),(1,[.d (lI a_.shape),.d (lC a_.cells)]),(0,[.d (iZ f.op_),.d (.bool f.turned)]),(3,[.seq 1 (List.map (D.int .i64) x3)])],5,[],none⟩
instance {a:bZ×Arr×LI×LI×Int×Int×Int×Int×(List aA)}:Ok (mM a) (Ai9 a):=⟨λh=>mM.partial_correctness Ai9 (by
 rintro P_ IH ⟨f,a_,x2,x3,outer,step,long,x5,out1⟩ res h
 have IH:=Ok.mk' IH
 have iE:eP Tryz.f129 0 _ xH:=⟨trivial⟩
 refine lg I ?_
 exact Wk) _ _ h⟩
instance {f:bZ} {a_:Arr} {last:Bool}:Ok (xR f a_ last) λr=>aval X 129 [.d (rA f),.d (encArr a_),.d (.bool last)] [] (xH r):=⟨λh=>by
 unfold xR at h
 exact aB xH I Tryz.func129 I I I I I I λiE=>Wk⟩
abbrev AeO (a:Arr×LI×Int×(List aA)) (res:(List aA)):Prop:=match a with|(a_,l,x,c0)=>cD X 1000032 (aN [1,1,0,1,0,0] (aO Tryz.f32)) (aH (X.H 1000032 3) 5) (aJ 0 (X.H 1000032 1000000) 5 (iR (λ(c01:(List aA))=>(⟨[(2,.c (.ptr 1 0)),(3,.c (.ptr 3 0))],[(5,[.seq 3 (List.map aD c01)]),(3,[.arr 2 (List.length l) 1,.arr 5 (List.length c01) 3]),(2,[.seq 1 (List.map (D.int .i64) l)]),(1,[oI [],oC []]),(0,[.d (lI a_.shape),.d (lC a_.cells)])],6,[],none⟩:St)) res)) ⟨[(2,.c (.ptr 1 0)),(3,.c (.ptr 3 0)),(11,.d (lC a_.cells)),(12,.d (iZ (List.length a_.cells:Int))),(13,.d (iZ x))],[(5,[.seq 3 (List.map aD c0)]),(3,[.arr 2 (List.length l) 1,.arr 5 (List.length c0) 3]),(2,[.seq 1 (List.map (D.int .i64) l)]),(1,[oI [],oC []]),(0,[.d (lI a_.shape),.d (lC a_.cells)])],6,[],none⟩
instance {a:Arr×LI×Int×(List aA)}:Ok (p_arr_Copy_V_l0 a) (AeO a):=⟨λh=>p_arr_Copy_V_l0.partial_correctness AeO (by
 rintro P_ IH ⟨a_,l,x,c0⟩ res h
 have IH:=Ok.mk' IH
 refine lgX (tm':=[(2,.c (.ptr 1 0)),(3,.c (.ptr 3 0)),(11,.d (lC a_.cells)),(12,.d (iZ (List.length a_.cells:Int))),(13,.d (iZ x))]) (hp':=[(5,[.seq 3 (List.map aD c0)]),(3,[.arr 2 (List.length l) 1,.arr 5 (List.length c0) 3]),(2,[.seq 1 (List.map (D.int .i64) l)]),(1,[oI [],oC []]),(0,[.d (lI a_.shape),.d (lC a_.cells)])]) (nid':=6) I (ra I (S_ ?_))
 rcases E_ h with ⟨hc,h⟩|⟨hc,h⟩
 ·refine ct I hc (K_ (cn I (N_ (S_ (W_ (S_ (rn 0 I ?_)))))))
  obtain⟨y,hk,h⟩:=B h
  refine po (mS aD (λ_=>I) hk I I I I I) I I (on (nid':=7) 3 I (rz (drn (m:=15) 3 I I ?_)))
  obtain⟨x1,hk,h⟩:=B h
  have hv:=Ok.ok hk
  refine pd (nR (hv) I I I I I I I I I) I I I I I (don 1 I ?_)
  obtain⟨l1,hk,h⟩:=B h
  refine pda aD hk (Ar3 aD I) I I I I I I I I I I I I I I I I I I I I (don 2 I (dz' (by kernel_rfl) (en I (N_ (rn 2 I (O_ (cH.normal ?_)))))))
  have hv:=Ok.ok h
  exact bV I I hv
 ·refine cf I hc (X_ (fN.exit (kT.exit (cH.exit (ehX (tm':=[(2,.c (.ptr 1 0)),(3,.c (.ptr 3 0))]) (hp':=[(5,[.seq 3 (List.map aD c0)]),(3,[.arr 2 (List.length l) 1,.arr 5 (List.length c0) 3]),(2,[.seq 1 (List.map (D.int .i64) l)]),(1,[oI [],oC []]),(0,[.d (lI a_.shape),.d (lC a_.cells)])]) (nid':=6) I ?_)))))
  cases h
  exact .ok I
 ) _ _ h⟩
instance {a_:Arr}:Ok (wN a_) λr=>AzN X 32 [.d (encArr a_)] [] (aE.ret (.vagg [.arr 0 r.1 1,.arr 1 r.2.1 3]) [[.seq 1 (List.map (D.int .i64) r.2.2.1)],[.seq 3 (List.map aD r.2.2.2)]]):=⟨λ{r} h=>by
 unfold wN at h
 refine Av4 (g:=1000032) (tm:=[(0,.d (encArr a_))]) (hp:=[]) (n:=0) I Tryz.func32 I I I I I I (ra (nid':=2) I (S_ (rnM (tm0:=[(2,.c (.ptr 1 0)),(1,.c (.ptr 0 0)),(0,.d (encArr a_))]) (hp0:=[(1,[oI [],oC []]),(0,[.d (lI a_.shape),.d (lC a_.cells)])]) (nid0:=2) I I I (mo (.of λ_=>I) I (λ_=>I) (s2:=⟨[(6,.c (.ptr 0 0)),(1,.c (.ptr 0 0)),(2,.c (.ptr 1 0))],[(1,[oI [],oC []]),(0,[.d (lI a_.shape),.d (lC a_.cells)])],2,[],none⟩) I (mo (.of λ_=>I) I (λ_=>I) (s2:=⟨[(7,.d (lI a_.shape)),(6,.c (.ptr 0 0)),(1,.c (.ptr 0 0)),(2,.c (.ptr 1 0))],[(1,[oI [],oC []]),(0,[.d (lI a_.shape),.d (lC a_.cells)])],2,[],none⟩) I ?_)))))
 obtain⟨l,hk,h⟩:=B h
 refine ms (BeN (D.int .i64) hk I I I I I I (Bb2 (D.int .i64)) I I I I I I I I I ) I (s2:=⟨[(8,.c (.arr 2 (List.length l) 1)),(7,.d (lI a_.shape)),(6,.c (.ptr 0 0)),(1,.c (.ptr 0 0)),(2,.c (.ptr 1 0))],[(2,[.seq 1 (List.map (D.int .i64) l)]),(1,[oI [],oC []]),(0,[.d (lI a_.shape),.d (lC a_.cells)])],3,[],none⟩) I (mo (.of λ_=>I) I (λ_=>I) (s2:=⟨[(9,.vagg [.arr 2 (List.length l) 1,.nilsl 3]),(8,.c (.arr 2 (List.length l) 1)),(7,.d (lI a_.shape)),(6,.c (.ptr 0 0)),(1,.c (.ptr 0 0)),(2,.c (.ptr 1 0))],[(2,[.seq 1 (List.map (D.int .i64) l)]),(1,[oI [],oC []]),(0,[.d (lI a_.shape),.d (lC a_.cells)])],3,[],none⟩) I (mo (.of λ_=>I) I (λ_=>I) (s2:=⟨[(3,.c (.ptr 3 0)),(9,.vagg [.arr 2 (List.length l) 1,.nilsl 3]),(8,.c (.arr 2 (List.length l) 1)),(7,.d (lI a_.shape)),(6,.c (.ptr 0 0)),(1,.c (.ptr 0 0)),(2,.c (.ptr 1 0))],[(3,[oI [],oC []]),(2,[.seq 1 (List.map (D.int .i64) l)]),(1,[oI [],oC []]),(0,[.d (lI a_.shape),.d (lC a_.cells)])],4,[],none⟩) I (ms I I (s2:=⟨[(3,.c (.ptr 3 0)),(9,.vagg [.arr 2 (List.length l) 1,.nilsl 3]),(8,.c (.arr 2 (List.length l) 1)),(7,.d (lI a_.shape)),(6,.c (.ptr 0 0)),(1,.c (.ptr 0 0)),(2,.c (.ptr 1 0))],[(3,[.arr 2 (List.length l) 1,.nilsl 3]),(2,[.seq 1 (List.map (D.int .i64) l)]),(1,[oI [],oC []]),(0,[.d (lI a_.shape),.d (lC a_.cells)])],4,[],none⟩) I (mz (N_ (S_ (S_ (rnF 2 (tm0:=[(3,.c (.ptr 3 0)),(9,.vagg [.arr 2 (List.length l) 1,.nilsl 3]),(8,.c (.arr 2 (List.length l) 1)),(7,.d (lI a_.shape)),(6,.c (.ptr 0 0)),(1,.c (.ptr 0 0)),(2,.c (.ptr 1 0))]) (hp0:=[(4,[.seq 3 (List.map aD ([]:List aA))]),(3,[.arr 2 (List.length l) 1,.arr 4 0 3]),(2,[.seq 1 (List.map (D.int .i64) l)]),(1,[oI [],oC []]),(0,[.d (lI a_.shape),.d (lC a_.cells)])]) (nid0:=5) (Ai4 I (I) I) I (po (mT I I I I I I I) I I (on 1 I (rz ?_)))))))))))
 obtain⟨c01,hs,h⟩:=B h
 refine gZ (λ(c01:(List aA))=>(⟨[(2,.c (.ptr 1 0)),(3,.c (.ptr 3 0))],[(5,[.seq 3 (List.map aD c01)]),(3,[.arr 2 (List.length l) 1,.arr 5 (List.length c01) 3]),(2,[.seq 1 (List.map (D.int .i64) l)]),(1,[oI [],oC []]),(0,[.d (lI a_.shape),.d (lC a_.cells)])],6,[],none⟩:St)) (y:=c01) ?_ ?_
 ·replace h:=hs
  refine W_ (eC ?_)
  have hv:=Ok.ok h
  exact bV I I hv
 ·refine N_ (ra I (R_ ?_))
  cases h
  exact BjX I I
 ⟩
abbrev vB (r:Arr×Int):aE:=(aE.ret (.tuple [.d (encArr r.1),.d (iZ r.2)]) [])
abbrev AgA (a:bZ×Arr×Nat×Nat×LI×Int×Int×Int×Int×Int×(List aA)×Int×(List aA)) (res:Except (Arr×Int) (List aA)):Prop:=match a with|(f,a_,n,n1,b,outer,step,long,x1,x2,l,n2,c02)=>cD X 131 (aN [1,1,1,1,1,0,1,0,0,1,1,0,0,1,1,0,0,1,1,0,0,1,1,1,1,0,0] (aO Tryz.f131)) (aH (X.H 131 17) 19) (aJ 4 (X.H 131 1000004) 19 (kD X Tryz.f131 0 vB (λ(c03:(List aA))=>(⟨[(3,.c (.ptr 0 0)),(4,.c (.ptr 1 0)),(6,.c (.ptr 2 0)),(9,.c (.ptr 5 0)),(11,.d (iZ step)),(12,.d (iZ long)),(13,.d (iZ x1)),(45,.d (iZ outer)),(46,.d (iZ x1)),(49,.d (iZ step)),(50,.d (iZ x2))],[(5,[.arr 3 n 1,.arr 4 n1 3]),(2,[oI [],oC []]),(1,[.d (lI a_.shape),.d (lC a_.cells)]),(0,[.d (iZ f.op_),.d (.bool f.turned)]),(3,[.seq 1 (List.map (D.int .i64) b)]),(4,[.seq 3 (List.map aD c03)])],19,[],none⟩:St)) res)) ⟨[(3,.c (.ptr 0 0)),(4,.c (.ptr 1 0)),(6,.c (.ptr 2 0)),(9,.c (.ptr 5 0)),(11,.d (iZ step)),(12,.d (iZ long)),(13,.d (iZ x1)),(15,.d (iZ (w64 ((w64 ((w64 (x1*step))*long))+x2)))),(16,.d (lC l)),(17,.d (iZ n2)),(45,.d (iZ outer)),(46,.d (iZ x1)),(49,.d (iZ step)),(50,.d (iZ x2))],[(5,[.arr 3 n 1,.arr 4 n1 3]),(2,[oI [],oC []]),(1,[.d (lI a_.shape),.d (lC a_.cells)]),(0,[.d (iZ f.op_),.d (.bool f.turned)]),(3,[.seq 1 (List.map (D.int .i64) b)]),(4,[.seq 3 (List.map aD c02)])],19,[],none⟩
instance {a:bZ×Arr×Nat×Nat×LI×Int×Int×Int×Int×Int×(List aA)×Int×(List aA)}:Ok (nA a) (AgA a):=⟨λh=>nA.partial_correctness AgA (by
 rintro P_ IH ⟨f,a_,n,n1,b,outer,step,long,x1,x2,l,n2,c02⟩ res h
 have IH:=Ok.mk' IH
 refine lg I (S_ (S_ (rn 2 I (po (mT I I I I I I I) I I (on 1 I (rz ?_))))))
 rcases E_ h with ⟨hc,h⟩|⟨hc,h⟩
 ·refine ct I hc (K_ (cn I (N_ (S_ (W_ (S_ (drn (m:=31) 4 I I ?_)))))))
  obtain⟨l1,hk,h⟩:=B h
  refine pd (BfR hk I I I I I I) I I I I I ?_
  obtain⟨⟨x3,e1⟩,hk,h⟩:=B h
  have hv:=Ok.ok hk
  refine pd (nR (hv) I I I I I I I I I) I I I I I (don 6 I (dz (by kernel_rfl) (S_ (ra I ?_))))
  rcases E_ h with ⟨hc,h⟩|⟨hc,h⟩
  ·refine ct I hc (ra I (R_ (C_ (Q_ (aJ.ret (Q_ (cH.ret (aJ.ret ?_))))))))
   cases h
   exact .err I (.ret I I)
  refine cf I hc (K_ (cn I (N_ (rn 8 I ?_))))
  obtain⟨j,hk,h⟩:=B h
  refine po (AcK hk I I I I I) I I ?_
  obtain⟨c,hk,h⟩:=B h
  refine po (est aD (v:=x3) hk I I (λ_=>⟨I,I,I⟩) I I I I) I I (O_ (en I (N_ (rn 3 I (O_ (cH.normal ?_))))))
  have hv:=Ok.ok h
  exact bV I I hv
 ·refine cf I hc (X_ (fN.exit (kT.exit (cH.exit (eh I ?_)))))
  cases h
  exact .ok I
 ) _ _ h⟩
abbrev Ag9 (a:bZ×Arr×Nat×Nat×LI×Int×Int×Int×Int×Int×(List aA)) (res:Except (Arr×Int) (List aA)):Prop:=match a with|(f,a_,n,n1,b,outer,step,long,x1,x2,c01)=>cD X 131 (aN [1,1,1,1,1,0,1,0,0,1,1,0,0,1,1,0,0] (aO Tryz.f131)) (aH (X.H 131 12) 19) (aJ 2 (X.H 131 1000002) 19 (kD X Tryz.f131 0 vB (λ(c04:(List aA))=>(⟨[(3,.c (.ptr 0 0)),(4,.c (.ptr 1 0)),(6,.c (.ptr 2 0)),(9,.c (.ptr 5 0)),(11,.d (iZ step)),(12,.d (iZ long)),(45,.d (iZ outer)),(46,.d (iZ x1))],[(5,[.arr 3 n 1,.arr 4 n1 3]),(2,[oI [],oC []]),(1,[.d (lI a_.shape),.d (lC a_.cells)]),(0,[.d (iZ f.op_),.d (.bool f.turned)]),(3,[.seq 1 (List.map (D.int .i64) b)]),(4,[.seq 3 (List.map aD c04)])],19,[],none⟩:St)) res)) ⟨[(3,.c (.ptr 0 0)),(4,.c (.ptr 1 0)),(6,.c (.ptr 2 0)),(9,.c (.ptr 5 0)),(11,.d (iZ step)),(12,.d (iZ long)),(13,.d (iZ x1)),(45,.d (iZ outer)),(46,.d (iZ x1)),(49,.d (iZ step)),(50,.d (iZ x2))],[(5,[.arr 3 n 1,.arr 4 n1 3]),(2,[oI [],oC []]),(1,[.d (lI a_.shape),.d (lC a_.cells)]),(0,[.d (iZ f.op_),.d (.bool f.turned)]),(3,[.seq 1 (List.map (D.int .i64) b)]),(4,[.seq 3 (List.map aD c01)])],19,[],none⟩
instance {a:bZ×Arr×Nat×Nat×LI×Int×Int×Int×Int×Int×(List aA)}:Ok (kP a) (Ag9 a):=⟨λh=>kP.partial_correctness Ag9 (by
 rintro P_ IH ⟨f,a_,n,n1,b,outer,step,long,x1,x2,c01⟩ res h
 have IH:=Ok.mk' IH
 refine lg I (ra I (S_ ?_))
 rcases E_ h with ⟨hc,h⟩|⟨hc,h⟩
 ·refine ct I hc (K_ (cn I (N_ (S_ (W_ (ra I (ra I (S_ (rn 5 I ?_)))))))))
  obtain⟨l,hk,h⟩:=B h
  have hv:=Ok.ok hk
  refine po (nR (hv) I I I I I I I I I) I I (on 1 I (rz (ra I ?_)))
  obtain⟨res,hs,h⟩:=B h
  refine uG Tryz.f131 0 vB (λ(c03:(List aA))=>(⟨[(3,.c (.ptr 0 0)),(4,.c (.ptr 1 0)),(6,.c (.ptr 2 0)),(9,.c (.ptr 5 0)),(11,.d (iZ step)),(12,.d (iZ long)),(13,.d (iZ x1)),(45,.d (iZ outer)),(46,.d (iZ x1)),(49,.d (iZ step)),(50,.d (iZ x2))],[(5,[.arr 3 n 1,.arr 4 n1 3]),(2,[oI [],oC []]),(1,[.d (lI a_.shape),.d (lC a_.cells)]),(0,[.d (iZ f.op_),.d (.bool f.turned)]),(3,[.seq 1 (List.map (D.int .i64) b)]),(4,[.seq 3 (List.map aD c03)])],19,[],none⟩:St)) (res:=res) ?_ (λy hy=>?_) (λr x s' hr hx he=>?_)
  ·replace h:=hs
   refine W_ (eC ?_)
   have hv:=Ok.ok h
   exact bV I I hv
  ·subst hy
   obtain c03:=y
   refine en I (N_ (rn 2 I (O_ (cH.normal ?_))))
   have hv:=Ok.ok h
   exact bV I I hv
  subst hr
  refine aJ.out hx (kT.out hx (cH.out hx (aJ.out hx ?_)))
  cases h
  exact .err hx he
 ·refine cf I hc (X_ (fN.exit (kT.exit (cH.exit (eh I ?_)))))
  cases h
  exact .ok I
 ) _ _ h⟩
abbrev Ag8 (a:bZ×Arr×Nat×Nat×LI×Int×Int×Int×Int×(List aA)) (res:Except (Arr×Int) (List aA)):Prop:=match a with|(f,a_,n,n1,b,outer,step,long,x1,c0)=>cD X 131 (aN [1,1,1,1,1,0,1,0,0] (aO Tryz.f131)) (aH (X.H 131 9) 19) (aJ 0 (X.H 131 1000000) 19 (kD X Tryz.f131 0 vB (λ(c05:(List aA))=>(⟨[(6,.c (.ptr 2 0)),(9,.c (.ptr 5 0))],[(5,[.arr 3 n 1,.arr 4 n1 3]),(2,[oI [],oC []]),(1,[.d (lI a_.shape),.d (lC a_.cells)]),(0,[.d (iZ f.op_),.d (.bool f.turned)]),(3,[.seq 1 (List.map (D.int .i64) b)]),(4,[.seq 3 (List.map aD c05)])],19,[],none⟩:St)) res)) ⟨[(3,.c (.ptr 0 0)),(4,.c (.ptr 1 0)),(6,.c (.ptr 2 0)),(9,.c (.ptr 5 0)),(11,.d (iZ step)),(12,.d (iZ long)),(45,.d (iZ outer)),(46,.d (iZ x1))],[(5,[.arr 3 n 1,.arr 4 n1 3]),(2,[oI [],oC []]),(1,[.d (lI a_.shape),.d (lC a_.cells)]),(0,[.d (iZ f.op_),.d (.bool f.turned)]),(3,[.seq 1 (List.map (D.int .i64) b)]),(4,[.seq 3 (List.map aD c0)])],19,[],none⟩
instance {a:bZ×Arr×Nat×Nat×LI×Int×Int×Int×Int×(List aA)}:Ok (kO a) (Ag8 a):=⟨λh=>kO.partial_correctness Ag8 (by
 rintro P_ IH ⟨f,a_,n,n1,b,outer,step,long,x1,c0⟩ res h
 have IH:=Ok.mk' IH
 refine lg I (ra I (S_ ?_))
 rcases E_ h with ⟨hc,h⟩|⟨hc,h⟩
 ·refine ct I hc (K_ (cn I (N_ (S_ (W_ (ra I (ra I ?_)))))))
  obtain⟨res,hs,h⟩:=B h
  refine uG Tryz.f131 0 vB (λ(c04:(List aA))=>(⟨[(3,.c (.ptr 0 0)),(4,.c (.ptr 1 0)),(6,.c (.ptr 2 0)),(9,.c (.ptr 5 0)),(11,.d (iZ step)),(12,.d (iZ long)),(45,.d (iZ outer)),(46,.d (iZ x1))],[(5,[.arr 3 n 1,.arr 4 n1 3]),(2,[oI [],oC []]),(1,[.d (lI a_.shape),.d (lC a_.cells)]),(0,[.d (iZ f.op_),.d (.bool f.turned)]),(3,[.seq 1 (List.map (D.int .i64) b)]),(4,[.seq 3 (List.map aD c04)])],19,[],none⟩:St)) (res:=res) ?_ (λy hy=>?_) (λr x s' hr hx he=>?_)
  ·replace h:=hs
   refine W_ (eC ?_)
   have hv:=Ok.ok h
   exact bV I I hv
  ·subst hy
   obtain c04:=y
   refine en I (N_ (rn 2 I (O_ (cH.normal ?_))))
   have hv:=Ok.ok h
   exact bV I I hv
  subst hr
  refine aJ.out hx (kT.out hx (cH.out hx (aJ.out hx ?_)))
  cases h
  exact .err hx he
 ·refine cf I hc (X_ (fN.exit (kT.exit (cH.exit (eh I ?_)))))
  cases h
  exact .ok I
 ) _ _ h⟩
instance {f:bZ} {a_:Arr} {last:Bool}:Ok (vJ f a_ last) λr=>aval X 131 [.d (rA f),.d (encArr a_),.d (.bool last)] [] (aE.ret (.tuple [.d (encArr r.1),.d (iZ r.2)]) []):=⟨λ{r} h=>by
 unfold vJ at h
 refine kY (tm:=[(0,.d (rA f)),(1,.d (encArr a_)),(2,.d (.bool last))]) (hp:=[]) (n:=0) I Tryz.func131 I I I I I I (ra (nid':=3) I (S_ (S_ (rn 2 I (po (Bi6 (show V.c (.full 2 [encArr a_])=V.c (.full 2 (List.map aW [a_])) from by simp only[List.map_cons,List.map_nil,pX]) (yY I)) I I ?_)))))
 obtain⟨e,hk,h⟩:=B h
 have hv:=Ok.ok hk
 refine po (nR (hv) I I I I I I I I I) I I (on 1 I (rz (ra I ?_)))
 rcases E_ h with ⟨hc,h⟩|⟨hc,h⟩
 ·refine ct I hc (ra I (R_ (C_ (Q_ ?_))))
  cases h
  exact .ret I I
 ·refine cf I hc (K_ (cn I (N_ (S_ (rnM (tm0:=[(25,.d (.bool (e != 0))),(24,.d (iZ e)),(2,.d (.bool last)),(3,.c (.ptr 0 0)),(4,.c (.ptr 1 0)),(6,.c (.ptr 2 0)),(8,.d (iZ e))]) (hp0:=[(2,[oI [],oC []]),(1,[.d (lI a_.shape),.d (lC a_.cells)]),(0,[.d (iZ f.op_),.d (.bool f.turned)])]) (nid0:=3) I I I (mo (.of λ_=>I) I (λ_=>I) (s2:=⟨[(28,.d (encArr a_)),(2,.d (.bool last)),(3,.c (.ptr 0 0)),(4,.c (.ptr 1 0)),(6,.c (.ptr 2 0))],[(2,[oI [],oC []]),(1,[.d (lI a_.shape),.d (lC a_.cells)]),(0,[.d (iZ f.op_),.d (.bool f.turned)])],3,[],none⟩) I ?_))))))
  obtain⟨⟨n,n1,b,b1⟩,hk,h⟩:=B h
  have hv:=Ok.ok hk
  refine mv (nid':=5) (hv) I I I I I I I I I I I  (s2:=⟨[(29,.vagg [.arr 3 n 1,.arr 4 n1 3]),(28,.d (encArr a_)),(2,.d (.bool last)),(3,.c (.ptr 0 0)),(4,.c (.ptr 1 0)),(6,.c (.ptr 2 0))],[(2,[oI [],oC []]),(1,[.d (lI a_.shape),.d (lC a_.cells)]),(0,[.d (iZ f.op_),.d (.bool f.turned)]),(3,[.seq 1 (List.map (D.int .i64) b)]),(4,[.seq 3 (List.map aD b1)])],5,[],none⟩) I (mo (.of λ_=>I) I (λ_=>I) (s2:=⟨[(9,.c (.ptr 5 0)),(29,.vagg [.arr 3 n 1,.arr 4 n1 3]),(28,.d (encArr a_)),(2,.d (.bool last)),(3,.c (.ptr 0 0)),(4,.c (.ptr 1 0)),(6,.c (.ptr 2 0))],[(5,[oI [],oC []]),(2,[oI [],oC []]),(1,[.d (lI a_.shape),.d (lC a_.cells)]),(0,[.d (iZ f.op_),.d (.bool f.turned)]),(3,[.seq 1 (List.map (D.int .i64) b)]),(4,[.seq 3 (List.map aD b1)])],6,[],none⟩) I (mo (.of λ_=>I) I (λ_=>I) (s2:=⟨[(9,.c (.ptr 5 0)),(29,.vagg [.arr 3 n 1,.arr 4 n1 3]),(28,.d (encArr a_)),(2,.d (.bool last)),(3,.c (.ptr 0 0)),(4,.c (.ptr 1 0)),(6,.c (.ptr 2 0))],[(5,[.arr 3 n 1,.arr 4 n1 3]),(2,[oI [],oC []]),(1,[.d (lI a_.shape),.d (lC a_.cells)]),(0,[.d (iZ f.op_),.d (.bool f.turned)]),(3,[.seq 1 (List.map (D.int .i64) b)]),(4,[.seq 3 (List.map aD b1)])],6,[],none⟩) I (mz (N_ (S_ (S_ (rn 2 I (po (mT I I I I I I I) I I (on 1 I (rz ?_))))))))))
  rcases E_ h with ⟨hc,h⟩|⟨hc,h⟩
  ·refine ct I hc (ra I (R_ (C_ (Q_ ?_))))
   obtain⟨cells,hkFcells,h⟩:=B h
   obtain⟨shape,hkFshape,h⟩:=B h
   cases h
   exact .retF I I (AbP I I I (lQ (iJ aD I hkFcells I I I) (lQ (iJ (D.int .i64) I hkFshape I I I) AbR)) (AoM AfR)) I
  ·refine cf I hc (K_ (cn I (N_ (S_ (drn (m:=19) 4 I I ?_)))))
   obtain⟨x,hk,h⟩:=B h
   have hv:=Ok.ok hk
   refine pd (nR (hv) I I I I I I I I I) I I I I I ?_
   obtain⟨⟨outer,step,long⟩,hk,h⟩:=B h
   have hv:=Ok.ok hk
   refine pd (nR (hv) I I I I I I I I I) I I I I I (don 7 I (dz (by kernel_rfl) (S_ (ra I ?_))))
   obtain⟨res,hs,h⟩:=B h
   refine uG Tryz.f131 0 vB (λ(c05:(List aA))=>(⟨[(6,.c (.ptr 2 0)),(9,.c (.ptr 5 0))],[(5,[.arr 3 n 1,.arr 4 n1 3]),(2,[oI [],oC []]),(1,[.d (lI a_.shape),.d (lC a_.cells)]),(0,[.d (iZ f.op_),.d (.bool f.turned)]),(3,[.seq 1 (List.map (D.int .i64) b)]),(4,[.seq 3 (List.map aD c05)])],19,[],none⟩:St)) (res:=res) ?_ (λy hy=>?_) (λr x s' hr hx he=>?_)
   ·replace h:=hs
    refine W_ (eC ?_)
    have hv:=Ok.ok h
    exact bV I I hv
   ·subst hy
    obtain c05:=y
    refine N_ (ra I (R_ ?_))
    obtain⟨cells1,hkFcells1,h⟩:=B h
    obtain⟨shape1,hkFshape1,h⟩:=B h
    cases h
    exact .retF I I (AbP I I I (lQ (iJ aD I hkFcells1 I I I) (lQ (iJ (D.int .i64) I hkFshape1 I I I) AbR)) (AoM AfR)) I
   ·subst hr
    refine kT.out hx ?_
    cases h
    exact he
 ⟩
abbrev vU (c:aF) (r:Bool×Int×Int):aE:=(aE.ret (.d (.bool r.1)) [[.d (iZ r.2.1),.d (iZ r.2.2),.d (iZ c.cells)]])
instance {n:Int} {c:aF}:Ok (mC n c) λr=>aval X 127 [.ptr 0 0,.d (iZ n)] [[.d (iZ c.fuel.left),.d (iZ c.fuel.used),.d (iZ c.cells)]] ((vU c) r):=⟨λh=>by
 unfold mC at h
 exact aB (vU c) I Tryz.func127 I I I I I I λiE=>Wk⟩
abbrev AaN (m:aF) (r:Int×Int×Int):aE:=(aE.ret (.d (iZ r.1)) [[.d (iZ r.2.1),.d (iZ r.2.2),.d (iZ m.cells)]])
instance {m:aF}:Ok (eV m) λr=>aval X 55 [.ptr 0 0] [[.d (iZ m.fuel.left),.d (iZ m.fuel.used),.d (iZ m.cells)]] ((AaN m) r):=⟨λh=>by
 unfold eV at h
 exact aB (AaN m) I Tryz.func55 I I I I I I λiE=>Wk⟩
abbrev ArI (r:Int×Int):aE:=(aE.ret (.tuple [.d (iZ r.1),.d (iZ r.2)]) [])
instance {a_:Int}:Ok (Aa4 a_) λr=>aval X 145 [.d (iZ a_)] [] (ArI r):=⟨λh=>by
 unfold Aa4 at h
 exact aB ArI I Tryz.func145 I I I I I I λiE=>Wk⟩
abbrev ArF (r:Int×Int):aE:=(aE.ret (.tuple [.d (iZ r.1),.d (iZ r.2)]) [])
instance {a_:Int}:Ok (AhE a_) λr=>aval X 147 [.d (iZ a_)] [] (ArF r):=⟨λh=>by
 unfold AhE at h
 exact aB ArF I Tryz.func147 I I I I I I λiE=>Wk⟩
abbrev ArK (r:Int):aE:=(aE.ret (.d (iZ r)) [])
instance {a_:Int}:Ok (AhF a_) λr=>aval X 146 [.d (iZ a_)] [] (ArK r):=⟨λh=>by
 unfold AhF at h
 exact aB ArK I Tryz.func146 I I I I I I λiE=>Wk⟩
abbrev AjV (r:Int×Int):aE:=(aE.ret (.tuple [.d (iZ r.1),.d (iZ r.2)]) [])
instance {op_:Int} {n:Int}:Ok (wP op_ n) λr=>aval X 72 [.d (iZ op_),.d (iZ n)] [] (AjV r):=⟨λh=>by
 unfold wP at h
 exact aB AjV I Tryz.func72 I I I I I I λiE=>Wk⟩
abbrev AbJ (r:Arr×Int):aE:=(aE.ret (.tuple [.d (encArr r.1),.d (iZ r.2)]) [])
instance BfA:Jn 38 1 20 (Bool):=⟨λy=>[(20,.d (.bool y))],λy=>[]⟩
abbrev Ag6 (a:Int×Arr×LI×Int×(List aA)) (res:Except (Arr×Int) (List aA)):Prop:=match a with|(op_,a_,l,x1,out1)=>cD X 38 (aN [1,1,1,1,0,1,0,0] (aO Tryz.f38)) (aH (X.H 38 14) 3) (aJ 1 (X.H 38 1000001) 3 (kD X Tryz.f38 0 AbJ (λ(out11:(List aA))=>(⟨[(4,.c (.ptr 1 0)),(7,.c (.ptr 2 0))],[(2,[.d (lI l),oC out11]),(1,[oI [],oC []]),(0,[.d (lI a_.shape),.d (lC a_.cells)])],3,[],none⟩:St)) res)) ⟨[(0,.d (iZ op_)),(4,.c (.ptr 1 0)),(7,.c (.ptr 2 0)),(33,.d (lC a_.cells)),(34,.d (iZ (List.length a_.cells:Int))),(35,.d (iZ x1))],[(2,[.d (lI l),oC out1]),(1,[oI [],oC []]),(0,[.d (lI a_.shape),.d (lC a_.cells)])],3,[],none⟩
instance {a:Int×Arr×LI×Int×(List aA)}:Ok (mX a) (Ag6 a):=⟨λh=>mX.partial_correctness Ag6 (by
 rintro P_ IH ⟨op_,a_,l,x1,out1⟩ res h
 have IH:=Ok.mk' IH
 have iE:eP Tryz.f38 0 _ AbJ:=⟨trivial⟩
 refine lg I ?_
 exact Wk) _ _ h⟩
instance {op_:Int} {a_:Arr}:Ok (sA op_ a_) λr=>aval X 38 [.d (iZ op_),.d (encArr a_)] [] (AbJ r):=⟨λh=>by
 unfold sA at h
 exact aB AbJ I Tryz.func38 I I I I I I λiE=>Wk⟩
abbrev AoH (r:Arr):aE:=(aE.ret (.d (encArr r)) [])
instance {n:Int}:Ok (AeC n) λr=>aval X 77 [.d (iZ n)] [] (AoH r):=⟨λh=>by
 unfold AeC at h
 exact aB AoH I Tryz.func77 I I I I I I λiE=>Wk⟩
abbrev AiQ (r:Int):aE:=(aE.ret (.d (iZ r)) [])
instance Bg6:Jn 81 0 1 (Int):=⟨λy=>[(3,.d (iZ y))],λy=>[]⟩
abbrev AcP (a:Arr×Int×Int) (res:Int):Prop:=match a with|(a_,n,x)=>cD X 81 (aN [1,1,0,1,0,0] (aO Tryz.f81)) (aH (X.H 81 3) 1) (aJ 0 (X.H 81 1000000) 1 (iR (λ(n2:Int)=>(⟨[(3,.d (iZ n2))],[(0,[.d (lI a_.shape),.d (lC a_.cells)])],1,[],none⟩:St)) res)) ⟨[(3,.d (iZ n)),(7,.d (lC a_.cells)),(8,.d (iZ (List.length a_.cells:Int))),(9,.d (iZ x))],[(0,[.d (lI a_.shape),.d (lC a_.cells)])],1,[],none⟩
abbrev Aj1 (a:Arr) (res:Int):Prop:=match a with|a_=>aval X 81 [.d (encArr a_)] [] (AiQ res)
theorem Ac7:(∀a res,kF a=some res->AcP a res)/\(∀a res,uU a=some res->Aj1 a res):=by
 refine kF.mutual_partial_correctness (motive_1:=AcP) (motive_2:=Aj1) ?_ ?_
 ·rintro P0 P1 I0 I1 ⟨a_,n,x⟩ res h
  have I0:=Ok.mk' I0
  have I1:=Ok.mk' I1
  refine lg I ?_
  have iE:eP Tryz.f81 0 _ AiQ:=⟨trivial⟩
  exact Wk
 rintro P0 I0 a_ res h
 have I0:=Ok.mk' I0
 exact aB AiQ I Tryz.func81 I I I I I I λiE=>Wk
instance {a:Arr×Int×Int}:Ok (kF a) (AcP a):=⟨λh=>Ac7.1 a _ h⟩
instance {a:Arr}:Ok (uU a) (Aj1 a):=⟨λh=>Ac7.2 a _ h⟩
abbrev AfI (r:Arr×Int):aE:=(aE.ret (.tuple [.d (encArr r.1),.d (iZ r.2)]) [])
instance {a_:Arr}:Ok (sC a_) λr=>aval X 83 [.d (encArr a_)] [] (AfI r):=⟨λh=>by
 unfold sC at h
 exact aB AfI I Tryz.func83 I I I I I I λiE=>Wk⟩
abbrev zJ (a:Arr×Nat×LI×Int×LI×(List aA)×Int×Int) (res:Int):Prop:=match a with|(a_,x,x1,x2,at_1,out1,n,x3)=>cD X 80 (aN [1,0,1,1,1,1,0,1,0,0,1,1,0,0,1,0,1,0,0] (aO Tryz.f80)) (aH (X.H 80 8) 5) (aJ 2 (X.H 80 1000002) 5 (iR (λ(n1:Int)=>(⟨[(1,.c (.ptr 0 0)),(2,.c (.ptr 1 0)),(3,.c (.ptr 3 0)),(4,.c (.arr 4 (Int.toNat (x:Int)) 1)),(5,.d (iZ n1)),(21,.d (iZ (List.length a_.cells:Int))),(22,.d (iZ x2))],[(4,[.seq 1 (List.map (D.int .i64) at_1)]),(3,[.arr 2 x 1,oC out1]),(1,[oI [],oC []]),(0,[.d (lI a_.shape),.d (lC a_.cells)]),(2,[.seq 1 (List.map (D.int .i64) x1)])],5,[],none⟩:St)) res)) ⟨[(1,.c (.ptr 0 0)),(2,.c (.ptr 1 0)),(3,.c (.ptr 3 0)),(4,.c (.arr 4 (Int.toNat (x:Int)) 1)),(5,.d (iZ n)),(21,.d (iZ (List.length a_.cells:Int))),(22,.d (iZ x2)),(25,.d (iZ ((Int.toNat (x:Int)):Int))),(26,.d (iZ x3))],[(4,[.seq 1 (List.map (D.int .i64) at_1)]),(3,[.arr 2 x 1,oC out1]),(1,[oI [],oC []]),(0,[.d (lI a_.shape),.d (lC a_.cells)]),(2,[.seq 1 (List.map (D.int .i64) x1)])],5,[],none⟩
instance {a:Arr×Nat×LI×Int×LI×(List aA)×Int×Int}:Ok (gG a) (zJ a):=⟨λh=>gG.partial_correctness zJ (by
 rintro P_ IH ⟨a_,x,x1,x2,at_1,out1,n,x3⟩ res h
 have IH:=Ok.mk' IH
 refine lg I (ra I (S_ ?_))
 rcases E_ h with ⟨hc,h⟩|⟨hc,h⟩
 ·refine ct I hc (K_ (cn I (N_ (S_ (W_ (ra I (drn (m:=22) 4 I I ?_)))))))
  obtain⟨y,hk,h⟩:=B h
  refine pd (mS (D.int .i64) (λ_=>I) hk I I I I I) I I I I I (don 8 I ?_)
  obtain⟨j,hk,h⟩:=B h
  refine pd (AcK hk I I I I I) I I I I I ?_
  obtain⟨y1,hk,h⟩:=B h
  refine pd (AqJ (D.int .i64) hk I I (λ_=>⟨I,I,I⟩) I I) I I I I I (don 2 I (dz' (by kernel_rfl) (en I (N_ (rn 2 I (O_ (cH.normal ?_)))))))
  have hv:=Ok.ok h
  exact bV I I hv
 ·refine cf I hc (X_ (fN.exit (kT.exit (cH.exit (eh I ?_)))))
  cases h
  exact .ok I
 ) _ _ h⟩
abbrev zK (a:Arr×Nat×LI×Int×(List aA)×Int×LI) (res:Except LI LI):Prop:=match a with|(a_,x,x1,x2,l,i,at_2)=>cD X 80 (aN [1,0,1,1,1,1,0,1,0,0,1,1,0,0,1,1,1,1,0,0] (aO Tryz.f80)) (aH (X.H 80 14) 16) (aJ 4 (X.H 80 1000004) 16 (BaX 1 (X.H 80 1000001) 5 (λ(at_6:LI)=>(⟨[(1,.c (.ptr 0 0)),(2,.c (.ptr 1 0)),(3,.c (.ptr 3 0)),(4,.c (.arr 4 (Int.toNat (x:Int)) 1)),(21,.d (iZ (List.length a_.cells:Int))),(22,.d (iZ x2))],[(4,[.seq 1 (List.map (D.int .i64) at_6)]),(3,[.arr 2 x 1,oC l]),(1,[oI [],oC []]),(0,[.d (lI a_.shape),.d (lC a_.cells)]),(2,[.seq 1 (List.map (D.int .i64) x1)])],5,[],none⟩:St)) (λ(at_5:LI)=>(⟨[(1,.c (.ptr 0 0)),(2,.c (.ptr 1 0)),(3,.c (.ptr 3 0)),(4,.c (.arr 4 (Int.toNat (x:Int)) 1)),(21,.d (iZ (List.length a_.cells:Int))),(22,.d (iZ x2))],[(4,[.seq 1 (List.map (D.int .i64) at_5)]),(3,[.arr 2 x 1,oC l]),(1,[oI [],oC []]),(0,[.d (lI a_.shape),.d (lC a_.cells)]),(2,[.seq 1 (List.map (D.int .i64) x1)])],16,[],none⟩:St)) res)) ⟨[(1,.c (.ptr 0 0)),(2,.c (.ptr 1 0)),(3,.c (.ptr 3 0)),(4,.c (.arr 4 (Int.toNat (x:Int)) 1)),(7,.d (iZ i)),(21,.d (iZ (List.length a_.cells:Int))),(22,.d (iZ x2))],[(4,[.seq 1 (List.map (D.int .i64) at_2)]),(3,[.arr 2 x 1,oC l]),(1,[oI [],oC []]),(0,[.d (lI a_.shape),.d (lC a_.cells)]),(2,[.seq 1 (List.map (D.int .i64) x1)])],16,[],none⟩
instance {a:Arr×Nat×LI×Int×(List aA)×Int×LI}:Ok (p_layout_flipped_l2 a) (zK a):=⟨λh=>p_layout_flipped_l2.partial_correctness zK (by
 rintro P_ IH ⟨a_,x,x1,x2,l,i,at_2⟩ res h
 have IH:=Ok.mk' IH
 refine lg I (S_ (ra I ?_))
 rcases E_ h with ⟨hc,h⟩|⟨hc,h⟩
 ·refine ct I hc (K_ (cn I (N_ (S_ (W_ (S_ (S_ (rn 2 I ?_))))))))
  obtain⟨j1,hk,h⟩:=B h
  refine po (AcK hk I I I I I) I I ?_
  obtain⟨y3,hk,h⟩:=B h
  refine po (AqJ (D.int .i64) hk I I (λ_=>⟨I,I,I⟩) I I) I I (on 1 I ?_)
  obtain⟨j2,hk,h⟩:=B h
  refine po (AcK hk I I I I I) I I ?_
  obtain⟨at_3,hk,h⟩:=B h
  refine po (est (D.int .i64) (v:=(w64 (y3+1))) hk I I (λ_=>⟨I,I,I⟩) I I I I) I I (rz (S_ (drn (m:=26) 2 I I ?_)))
  obtain⟨j3,hk,h⟩:=B h
  refine pd (AcK hk I I I I I) I I I I I ?_
  obtain⟨y4,hk,h⟩:=B h
  refine pd (AqJ (D.int .i64) hk I I (λ_=>⟨I,I,I⟩) I I) I I I I I (don 3 I ?_)
  obtain⟨j4,hk,h⟩:=B h
  refine pd (AcK hk I I I I I) I I I I I ?_
  obtain⟨y5,hk,h⟩:=B h
  refine pd (AqJ (D.int .i64) hk I I (λ_=>⟨I,I,I⟩) I I) I I I I I (don 1 I (dz (by kernel_rfl) ?_))
  rcases E_ h with ⟨hc,h⟩|⟨hc,h⟩
  ·refine ct I hc (X_ (fN.exit (kT.exit (aJ.there I (kT.exit (cH.exit (aJ.there I ?_)))))))
   cases h
   exact ex1 I I
  refine cf I hc (K_ (cn I (N_ (rn 2 I ?_))))
  obtain⟨j5,hk,h⟩:=B h
  refine po (AcK hk I I I I I) I I ?_
  obtain⟨at_4,hk,h⟩:=B h
  refine po (est (D.int .i64) (v:=0) hk I I (λ_=>⟨I,I,I⟩) I I I I) I I (O_ (en I (N_ (rn 3 I (O_ (cH.normal ?_))))))
  have hv:=Ok.ok h
  exact bV I I hv
 ·refine cf I hc (X_ (fN.exit (kT.exit (cH.exit (eh I ?_)))))
  cases h
  exact .ok I
 ) _ _ h⟩
abbrev zI (a:Arr×Nat×LI×Int×LI×(List aA)) (res:LI×(List aA)):Prop:=match a with|(a_,x,x1,x2,at_1,out1)=>cD X 80 (aN [1,0,1,1,1,1,0,1,0,0] (aO Tryz.f80)) (aH (X.H 80 5) 5) (aJ 0 (X.H 80 1000000) 5 (iR (λ((c0,out12):LI×(List aA))=>(⟨[(2,.c (.ptr 1 0)),(3,.c (.ptr 3 0))],[(4,[.seq 1 (List.map (D.int .i64) c0)]),(3,[.arr 2 x 1,oC out12]),(1,[oI [],oC []]),(0,[.d (lI a_.shape),.d (lC a_.cells)]),(2,[.seq 1 (List.map (D.int .i64) x1)])],5,[],none⟩:St)) res)) ⟨[(1,.c (.ptr 0 0)),(2,.c (.ptr 1 0)),(3,.c (.ptr 3 0)),(4,.c (.arr 4 (Int.toNat (x:Int)) 1)),(21,.d (iZ (List.length a_.cells:Int))),(22,.d (iZ x2))],[(4,[.seq 1 (List.map (D.int .i64) at_1)]),(3,[.arr 2 x 1,oC out1]),(1,[oI [],oC []]),(0,[.d (lI a_.shape),.d (lC a_.cells)]),(2,[.seq 1 (List.map (D.int .i64) x1)])],5,[],none⟩
instance {a:Arr×Nat×LI×Int×LI×(List aA)}:Ok (fD a) (zI a):=⟨λh=>fD.partial_correctness zI (by
 rintro P_ IH ⟨a_,x,x1,x2,at_1,out1⟩ res h
 have IH:=Ok.mk' IH
 refine lg I (ra I (S_ ?_))
 rcases E_ h with ⟨hc,h⟩|⟨hc,h⟩
 ·refine ct I hc (K_ (cn I (N_ (S_ ?_))))
  obtain⟨⟨at_7,out11⟩,hs,h⟩:=B h
  refine gZ (λ((at_7,out11):LI×(List aA))=>(⟨[(1,.c (.ptr 0 0)),(2,.c (.ptr 1 0)),(3,.c (.ptr 3 0)),(4,.c (.arr 4 (Int.toNat (x:Int)) 1)),(21,.d (iZ (List.length a_.cells:Int))),(22,.d (iZ x2))],[(4,[.seq 1 (List.map (D.int .i64) at_7)]),(3,[.arr 2 x 1,oC out11]),(1,[oI [],oC []]),(0,[.d (lI a_.shape),.d (lC a_.cells)]),(2,[.seq 1 (List.map (D.int .i64) x1)])],5,[],none⟩:St)) (y:=(at_7,out11)) ?_ ?_
  ·replace h:=hs
   refine W_ (ra I (S_ (ra I ?_)))
   obtain⟨n1,hs,h⟩:=B h
   refine gZ (λ(n1:Int)=>(⟨[(1,.c (.ptr 0 0)),(2,.c (.ptr 1 0)),(3,.c (.ptr 3 0)),(4,.c (.arr 4 (Int.toNat (x:Int)) 1)),(5,.d (iZ n1)),(21,.d (iZ (List.length a_.cells:Int))),(22,.d (iZ x2))],[(4,[.seq 1 (List.map (D.int .i64) at_1)]),(3,[.arr 2 x 1,oC out1]),(1,[oI [],oC []]),(0,[.d (lI a_.shape),.d (lC a_.cells)]),(2,[.seq 1 (List.map (D.int .i64) x1)])],5,[],none⟩:St)) (y:=n1) ?_ ?_
   ·replace h:=hs
    refine W_ (eC ?_)
    have hv:=Ok.ok h
    exact bV I I hv
   refine N_ (S_ (drn (m:=16) 5 I I ?_))
   obtain⟨y2,hk,h⟩:=B h
   refine pd (mS aD (λ_=>I) hk I I I I I) I I I I I (don 2 I ?_)
   obtain⟨l,hk,h⟩:=B h
   refine pd (AfP hk I I I I I I I I I I I I I I ) I I I I I (don 2 I (dz (by kernel_rfl) (ra I ?_)))
   obtain⟨res,hs,h⟩:=B h
   refine AzP 1 (X.H 80 1000001) 5 (λ(at_6:LI)=>(⟨[(1,.c (.ptr 0 0)),(2,.c (.ptr 1 0)),(3,.c (.ptr 3 0)),(4,.c (.arr 4 (Int.toNat (x:Int)) 1)),(21,.d (iZ (List.length a_.cells:Int))),(22,.d (iZ x2))],[(4,[.seq 1 (List.map (D.int .i64) at_6)]),(3,[.arr 2 x 1,oC l]),(1,[oI [],oC []]),(0,[.d (lI a_.shape),.d (lC a_.cells)]),(2,[.seq 1 (List.map (D.int .i64) x1)])],5,[],none⟩:St)) (λ(at_5:LI)=>(⟨[(1,.c (.ptr 0 0)),(2,.c (.ptr 1 0)),(3,.c (.ptr 3 0)),(4,.c (.arr 4 (Int.toNat (x:Int)) 1)),(21,.d (iZ (List.length a_.cells:Int))),(22,.d (iZ x2))],[(4,[.seq 1 (List.map (D.int .i64) at_5)]),(3,[.arr 2 x 1,oC l]),(1,[oI [],oC []]),(0,[.d (lI a_.shape),.d (lC a_.cells)]),(2,[.seq 1 (List.map (D.int .i64) x1)])],16,[],none⟩:St)) (res:=res) ?_ (λy hy=>?_) (λy s' hy hS=>?_)
   ·replace h:=hs
    refine W_ (eC ?_)
    have hv:=Ok.ok h
    exact bV I I hv
   ·subst hy
    obtain at_5:=y
    refine en I ?_
    cases h
    exact .ok I
   subst hy
   obtain at_6:=y
   refine aJ.here hS ?_
   cases h
   exact .ok I
  refine N_ (rn 2 I (O_ (cH.normal ?_)))
  have hv:=Ok.ok h
  exact bV I I hv
 ·refine cf I hc (X_ (fN.exit (kT.exit (cH.exit (eh I ?_)))))
  cases h
  exact .ok I
 ) _ _ h⟩
instance {a_:Arr}:Ok (pI a_) λr=>aval X 80 [.d (encArr a_)] [] (aE.ret (.d (encArr r)) []):=⟨λ{r} h=>by
 unfold pI at h
 refine kY (tm:=[(0,.d (encArr a_))]) (hp:=[]) (n:=0) I Tryz.func80 I I I I I I (ra (nid':=2) I (Ar6 (S_ (rn 2 I ?_))))
 obtain⟨⟨x,b⟩,hk,h⟩:=B h
 have hv:=Ok.ok hk
 refine po (AfQ (nid':=3) (hv) I I I I I I I I I I I I) I I (on (nid':=4) 3 I (rz (S_ (rn 2 I ?_))))
 obtain⟨x1,hk,h⟩:=B h
 have hv:=Ok.ok hk
 refine po (AfQ (nid':=4) (hv) I I I I I I I I I I I I) I I (rz (S_ (rn 3 I ?_)))
 obtain⟨at_,hk,h⟩:=B h
 refine po (AlA (nid':=5) (D.int .i64) 0 hk I I I I I I I I I I I I ) I I (on (nid':=5) 1 I (rz (S_ (Ar5 (N_ (S_ (S_ (rn 2 I (po (mT I I I I I I I) I I (on 1 I (rz ?_)))))))))))
 obtain⟨⟨c0,out12⟩,hs,h⟩:=B h
 refine gZ (λ((c0,out12):LI×(List aA))=>(⟨[(2,.c (.ptr 1 0)),(3,.c (.ptr 3 0))],[(4,[.seq 1 (List.map (D.int .i64) c0)]),(3,[.arr 2 x 1,oC out12]),(1,[oI [],oC []]),(0,[.d (lI a_.shape),.d (lC a_.cells)]),(2,[.seq 1 (List.map (D.int .i64) x1)])],5,[],none⟩:St)) (y:=(c0,out12)) ?_ ?_
 ·replace h:=hs
  refine W_ (eC ?_)
  have hv:=Ok.ok h
  exact bV I I hv
 ·refine N_ (ra I (R_ ?_))
  obtain⟨shape,hkFshape,h⟩:=B h
  cases h
  exact .retF I I (AbP I I I (lQ I (lQ (iJ (D.int .i64) I hkFshape I I I) AbR)) AfR) I
 ⟩
abbrev AaL (r:Arr×Int):aE:=(aE.ret (.tuple [.d (encArr r.1),.d (iZ r.2)]) [])
abbrev Ac1 (a:Arr×aA×Int×Int×(List aA)) (res:(List aA)):Prop:=match a with|(a_,y3,y4,x,out1)=>cD X 76 (aN [1,1,1,0,1,0,0] (aO Tryz.f76)) (aH (X.H 76 9) 3) (aJ 1 (X.H 76 1000001) 3 (iR (λ(out11:(List aA))=>(⟨[(2,.c (.ptr 1 0)),(4,.c (.ptr 2 0))],[(2,[oI [y3.n],oC out11]),(1,[oI [],oC []]),(0,[.d (lI a_.shape),.d (lC a_.cells)])],3,[],none⟩:St)) res)) ⟨[(2,.c (.ptr 1 0)),(4,.c (.ptr 2 0)),(46,.d (iZ y4)),(47,.d (iZ x))],[(2,[oI [y3.n],oC out1]),(1,[oI [],oC []]),(0,[.d (lI a_.shape),.d (lC a_.cells)])],3,[],none⟩
instance {a:Arr×aA×Int×Int×(List aA)}:Ok (jF a) (Ac1 a):=⟨λh=>jF.partial_correctness Ac1 (by
 rintro P_ IH ⟨a_,y3,y4,x,out1⟩ res h
 have IH:=Ok.mk' IH
 have iE:eP Tryz.f76 0 _ AaL:=⟨trivial⟩
 refine lg I ?_
 exact Wk) _ _ h⟩
instance {a_:Arr}:Ok (sD a_) λr=>aval X 76 [.d (encArr a_)] [] (AaL r):=⟨λh=>by
 unfold sD at h
 exact aB AaL I Tryz.func76 I I I I I I λiE=>Wk⟩
abbrev AhV (r:Arr×Int):aE:=(aE.ret (.tuple [.d (encArr r.1),.d (iZ r.2)]) [])
instance {a_:Arr}:Ok (tW a_) λr=>aval X 82 [.d (encArr a_)] [] (AhV r):=⟨λh=>by
 unfold tW at h
 exact aB AhV I Tryz.func82 I I I I I I λiE=>Wk⟩
abbrev AfJ (r:Int):aE:=(aE.ret (.d (iZ r)) [])
instance {a_:Arr}:Ok (sE a_) λr=>aval X 78 [.d (encArr a_)] [] (AfJ r):=⟨λh=>by
 unfold sE at h
 exact aB AfJ I Tryz.func78 I I I I I I λiE=>Wk⟩
abbrev qQ (r:Arr):aE:=(aE.ret (.d (encArr r)) [])
abbrev AaW (a:Arr×Int×LI×Int×Int) (res:Int):Prop:=match a with|(a_,axis,l,inner,x)=>cD X 79 (aN [1,1,1,0,1,0,0] (aO Tryz.f79)) (aH (X.H 79 5) 2) (aJ 0 (X.H 79 1000000) 2 (iR (λ(inner1:Int)=>(⟨[(1,.d (iZ axis)),(2,.c (.ptr 0 0)),(4,.c (.ptr 1 0)),(5,.d (iZ inner1))],[(1,[oI [],oC []]),(0,[.d (lI a_.shape),.d (lC a_.cells)])],2,[],none⟩:St)) res)) ⟨[(1,.d (iZ axis)),(2,.c (.ptr 0 0)),(4,.c (.ptr 1 0)),(5,.d (iZ inner)),(21,.d (lI l)),(22,.d (iZ (List.length l:Int))),(23,.d (iZ x))],[(1,[oI [],oC []]),(0,[.d (lI a_.shape),.d (lC a_.cells)])],2,[],none⟩
instance {a:Arr×Int×LI×Int×Int}:Ok (hU a) (AaW a):=⟨λh=>hU.partial_correctness AaW (by
 rintro P_ IH ⟨a_,axis,l,inner,x⟩ res h
 have IH:=Ok.mk' IH
 have iE:eP Tryz.f79 0 _ qQ:=⟨trivial⟩
 refine lg I ?_
 exact Wk) _ _ h⟩
abbrev AaY (a:Arr×Int×Int×Int×(List aA)×Int) (res:(List aA)):Prop:=match a with|(a_,inner1,d1,at_,out1,i)=>cD X 79 (aN [1,1,1,1,1,1,0,1,0,0,1,0,0,1,0,0] (aO Tryz.f79)) (aH (X.H 79 15) 2) (aJ 4 (X.H 79 1000004) 2 (iR (λ(out3:(List aA))=>(⟨[(2,.c (.ptr 0 0)),(4,.c (.ptr 1 0)),(5,.d (iZ inner1)),(8,.d (iZ d1)),(9,.c (.own 3 (List.map aD out3))),(10,.d (iZ at_))],[(1,[oI [],oC []]),(0,[.d (lI a_.shape),.d (lC a_.cells)])],2,[],none⟩:St)) res)) ⟨[(2,.c (.ptr 0 0)),(4,.c (.ptr 1 0)),(5,.d (iZ inner1)),(8,.d (iZ d1)),(9,.c (.own 3 (List.map aD out1))),(10,.d (iZ at_)),(11,.d (iZ i))],[(1,[oI [],oC []]),(0,[.d (lI a_.shape),.d (lC a_.cells)])],2,[],none⟩
instance {a:Arr×Int×Int×Int×(List aA)×Int}:Ok (hZ a) (AaY a):=⟨λh=>hZ.partial_correctness AaY (by
 rintro P_ IH ⟨a_,inner1,d1,at_,out1,i⟩ res h
 have IH:=Ok.mk' IH
 have iE:eP Tryz.f79 0 _ qQ:=⟨trivial⟩
 refine lg I ?_
 exact Wk) _ _ h⟩
abbrev AaX (a:Arr×Int×Int×(List aA)×Int) (res:(List aA)):Prop:=match a with|(a_,inner1,d1,out,at_)=>cD X 79 (aN [1,1,1,1,1,1,0,1,0,0] (aO Tryz.f79)) (aH (X.H 79 12) 2) (aJ 2 (X.H 79 1000002) 2 (iR (λ(out4:(List aA))=>(⟨[(2,.c (.ptr 0 0)),(4,.c (.ptr 1 0)),(9,.c (.own 3 (List.map aD out4)))],[(1,[oI [],oC []]),(0,[.d (lI a_.shape),.d (lC a_.cells)])],2,[],none⟩:St)) res)) ⟨[(2,.c (.ptr 0 0)),(4,.c (.ptr 1 0)),(5,.d (iZ inner1)),(8,.d (iZ d1)),(9,.c (.own 3 (List.map aD out))),(10,.d (iZ at_))],[(1,[oI [],oC []]),(0,[.d (lI a_.shape),.d (lC a_.cells)])],2,[],none⟩
instance {a:Arr×Int×Int×(List aA)×Int}:Ok (fR a) (AaX a):=⟨λh=>fR.partial_correctness AaX (by
 rintro P_ IH ⟨a_,inner1,d1,out,at_⟩ res h
 have IH:=Ok.mk' IH
 have iE:eP Tryz.f79 0 _ qQ:=⟨trivial⟩
 refine lg I ?_
 exact Wk) _ _ h⟩
instance {a_:Arr} {axis:Int}:Ok (p_layout_turned a_ axis) λr=>aval X 79 [.d (encArr a_),.d (iZ axis)] [] (qQ r):=⟨λh=>by
 unfold p_layout_turned at h
 exact aB qQ I Tryz.func79 I I I I I I λiE=>Wk⟩
abbrev AfH (r:Arr×Int):aE:=(aE.ret (.tuple [.d (encArr r.1),.d (iZ r.2)]) [])
abbrev AgC (a:Arr×Int×(List aA)) (res:(List aA)):Prop:=match a with|(x,x3,out1)=>cD X 40 (aN [1,1,1,0,1,0,1,1,1,0,1,0,1,0,0] (aO Tryz.f40)) (aH (X.H 40 11) 3) (aJ 1 (X.H 40 1000001) 3 (iR (λ(out11:(List aA))=>(⟨[(4,.c (.ptr 1 0)),(7,.c (.ptr 2 0))],[(2,[oI [(List.length x.shape:Int)],oC out11]),(1,[oI [],oC []]),(0,[.d (lI x.shape),.d (lC x.cells)])],3,[],none⟩:St)) res)) ⟨[(4,.c (.ptr 1 0)),(7,.c (.ptr 2 0)),(33,.d (lI x.shape)),(34,.d (iZ (List.length x.shape:Int))),(35,.d (iZ x3))],[(2,[oI [(List.length x.shape:Int)],oC out1]),(1,[oI [],oC []]),(0,[.d (lI x.shape),.d (lC x.cells)])],3,[],none⟩
instance {a:Arr×Int×(List aA)}:Ok (nD a) (AgC a):=⟨λh=>nD.partial_correctness AgC (by
 rintro P_ IH ⟨x,x3,out1⟩ res h
 have IH:=Ok.mk' IH
 have iE:eP Tryz.f40 0 _ AfH:=⟨trivial⟩
 refine lg I ?_
 exact Wk) _ _ h⟩
instance {op_:Int} {a_:Arr}:Ok (yP op_ a_) λr=>aval X 40 [.d (iZ op_),.d (encArr a_)] [] (AfH r):=⟨λh=>by
 unfold yP at h
 exact aB AfH I Tryz.func40 I I I I I I λiE=>Wk⟩
abbrev vW (r:Int):aE:=(aE.ret (.d (iZ r)) [])
abbrev Ac4 (a:(List Arr)×Int) (res:Except (Int) (Unit)):Prop:=match a with|(l,x)=>cD X 73 (aN [1,0,1,0,0] (aO Tryz.f73)) (aH (X.H 73 2) 0) (aJ 0 (X.H 73 1000000) 0 (kD X Tryz.f73 0 vW (λ(_:Unit)=>(⟨[],[],0,[],none⟩:St)) res)) ⟨[(6,.d (.list 2 (List.map aW l))),(7,.d (iZ (List.length l:Int))),(8,.d (iZ x))],[],0,[],none⟩
instance {a:(List Arr)×Int}:Ok (jJ a) (Ac4 a):=⟨λh=>jJ.partial_correctness Ac4 (by
 rintro P_ IH ⟨l,x⟩ res h
 have IH:=Ok.mk' IH
 have iE:eP Tryz.f73 0 _ vW:=⟨trivial⟩
 refine lg I ?_
 exact Wk) _ _ h⟩
instance {l:(List Arr)}:Ok (pM l) λr=>aval X 73 [.d (.list 2 (List.map aW l))] [] (vW r):=⟨λh=>by
 unfold pM at h
 exact aB vW I Tryz.func73 I I I I I I λiE=>Wk⟩
abbrev AdV (r:(List (List aA))):aE:=(aE.ret (.d (.list 1 (List.map (jV 3 aD) r))) [])
abbrev Af0 (a:Arr×Int×Int×(List (List aA))×Int) (res:(List (List aA))):Prop:=match a with|(a_,k,y2,l,x)=>cD X 149 (aN [1,1,1,1,0,1,0,0] (aO Tryz.f149)) (aH (X.H 149 6) 10) (aJ 0 (X.H 149 1000000) 10 (iR (λ(l3:(List (List aA)))=>(⟨[(3,.c (.own 1 (List.map (jV 3 aD) l3)))],[(0,[.d (lI a_.shape),.d (lC a_.cells)])],10,[],none⟩:St)) res)) ⟨[(1,.c (.ptr 0 0)),(3,.c (.own 1 (List.map (jV 3 aD) l))),(4,.d (iZ k)),(22,.d (iZ y2)),(23,.d (iZ x))],[(0,[.d (lI a_.shape),.d (lC a_.cells)])],10,[],none⟩
instance {a:Arr×Int×Int×(List (List aA))×Int}:Ok (lM a) (Af0 a):=⟨λh=>lM.partial_correctness Af0 (by
 rintro P_ IH ⟨a_,k,y2,l,x⟩ res h
 have IH:=Ok.mk' IH
 have iE:eP Tryz.f149 0 _ AdV:=⟨trivial⟩
 refine lg I ?_
 exact Wk) _ _ h⟩
instance {a_:Arr}:Ok (sY a_) λr=>aval X 149 [.d (encArr a_)] [] (AdV r):=⟨λh=>by
 unfold sY at h
 exact aB AdV I Tryz.func149 I I I I I I λiE=>Wk⟩
abbrev zT (r:Bool):aE:=(aE.ret (.d (.bool r)) [])
abbrev Af1 (a:(List aA)×Int) (res:Except (Bool) (Unit)):Prop:=match a with|(l,x)=>cD X 148 (aN [1,0,1,0,0] (aO Tryz.f148)) (aH (X.H 148 2) 0) (aJ 0 (X.H 148 1000000) 0 (kD X Tryz.f148 0 zT (λ(_:Unit)=>(⟨[],[],0,[],none⟩:St)) res)) ⟨[(0,.d (lC l)),(5,.d (lC l)),(6,.d (iZ (List.length l:Int))),(7,.d (iZ x))],[],0,[],none⟩
instance {a:(List aA)×Int}:Ok (lO a) (Af1 a):=⟨λh=>lO.partial_correctness Af1 (by
 rintro P_ IH ⟨l,x⟩ res h
 have IH:=Ok.mk' IH
 have iE:eP Tryz.f148 0 _ zT:=⟨trivial⟩
 refine lg I ?_
 exact Wk) _ _ h⟩
instance {l:(List aA)}:Ok (wT l) λr=>aval X 148 [.d (lC l)] [] (zT r):=⟨λh=>by
 unfold wT at h
 exact aB zT I Tryz.func148 I I I I I I λiE=>Wk⟩
abbrev AeH (r:Int):aE:=(aE.ret (.d (iZ r)) [])
instance {a_:Int} {b:Int}:Ok (p_arr_order_int a_ b) λr=>aval X 212 [.d (iZ a_),.d (iZ b)] [] (AeH r):=⟨λh=>by
 unfold p_arr_order_int at h
 exact aB AeH I Tryz.func212 I I I I I I λiE=>Wk⟩
abbrev AmF (a_:Arr) (a_1:Arr) (r:Int):aE:=(aE.ret (.d (iZ r)) [[.d (lI a_.shape),.d (lC a_.cells)],[.d (lI a_1.shape),.d (lC a_1.cells)]])
instance {i:Int} {a_:Arr} {a_1:Arr}:Ok (Ac5 i a_ a_1) λr=>aval X 232 [.d (iZ i),.ptr 0 0,.ptr 1 0] [[.d (lI a_.shape),.d (lC a_.cells)],[.d (lI a_1.shape),.d (lC a_1.cells)]] ((AmF a_ a_1) r):=⟨λh=>by
 unfold Ac5 at h
 exact aB (AmF a_ a_1) I Tryz.func232 I I I I I I λiE=>Wk⟩
abbrev lZ (b:Arr) (b1:Arr) (r:Int):aE:=(aE.ret (.d (iZ r)) [[.d (lI b.shape),.d (lC b.cells)],[.d (lI b1.shape),.d (lC b1.cells)]])
abbrev tG (a:Int×Arr×Arr×Int) (res:Except (Int) (Unit)):Prop:=match a with|(n,b,b1,x)=>cD X 231 (aN [1,0,1,0,0] (aO Tryz.f231)) (aH (X.H 231 2) 2) (aJ 0 (X.H 231 1000000) 2 (kD X Tryz.f231 2 (lZ b b1) (λ(_:Unit)=>(⟨[],[(0,[.d (lI b.shape),.d (lC b.cells)]),(1,[.d (lI b1.shape),.d (lC b1.cells)])],2,[],none⟩:St)) res)) ⟨[(1,.c (.fn 232 [0,1])),(7,.d (iZ n)),(8,.d (iZ x))],[(0,[.d (lI b.shape),.d (lC b.cells)]),(1,[.d (lI b1.shape),.d (lC b1.cells)])],2,[],none⟩
instance {a:Int×Arr×Arr×Int}:Ok (dJ a) (tG a):=⟨λh=>dJ.partial_correctness tG (by
 rintro P_ IH ⟨n,b,b1,x⟩ res h
 have IH:=Ok.mk' IH
 have iE:eP Tryz.f231 2 _ (lZ b b1):=⟨trivial⟩
 refine lg I ?_
 exact Wk) _ _ h⟩
instance {n:Int} {b:Arr} {b1:Arr}:Ok (p_arr_Cmp_1__arr_Cmp_2 n b b1) λr=>aval X 231 [.d (iZ n),.fn 232 [0,1]] [[.d (lI b.shape),.d (lC b.cells)],[.d (lI b1.shape),.d (lC b1.cells)]] ((lZ b b1) r):=⟨λh=>by
 unfold p_arr_Cmp_1__arr_Cmp_2 at h
 exact aB (lZ b b1) I Tryz.func231 I I I I I I λiE=>Wk⟩
abbrev AbI (r:Int):aE:=(aE.ret (.d (iZ r)) [])
instance {a_:Int} {b:Int}:Ok (oG a_ b) λr=>aval X 213 [.d (iZ a_),.d (iZ b)] [] (AbI r):=⟨λh=>by
 unfold oG at h
 exact aB AbI I Tryz.func213 I I I I I I λiE=>Wk⟩
abbrev AoI (r:Int):aE:=(aE.ret (.d (iZ r)) [])
abbrev ArE (r:Int):aE:=(aE.ret (.d (iZ r)) [])
abbrev mA (b:Arr) (b1:Arr) (r:Int):aE:=(aE.ret (.d (iZ r)) [[.d (lI b.shape),.d (lC b.cells)],[.d (lI b1.shape),.d (lC b1.cells)]])
abbrev AmG (a_:Arr) (a_1:Arr) (r:Int):aE:=(aE.ret (.d (iZ r)) [[.d (lI a_.shape),.d (lC a_.cells)],[.d (lI a_1.shape),.d (lC a_1.cells)]])
abbrev AiZ (a:aA×aA) (res:Int):Prop:=match a with|(a_,b)=>aval X 153 [.d (aD a_),.d (aD b)] [] (AoI res)
abbrev AlN (a:Arr×Arr) (res:Int):Prop:=match a with|(a_,b)=>aval X 214 [.d (encArr a_),.d (encArr b)] [] (ArE res)
abbrev nU (a:Int×Arr×Arr×Int) (res:Except (Int) (Unit)):Prop:=match a with|(n,b,b1,x)=>cD X 231 (aN [1,0,1,0,0] (aO Tryz.f231)) (aH (X.H 231 2) 2) (aJ 0 (X.H 231 1000000) 2 (kD X Tryz.f231 2 (mA b b1) (λ(_:Unit)=>(⟨[],[(0,[.d (lI b.shape),.d (lC b.cells)]),(1,[.d (lI b1.shape),.d (lC b1.cells)])],2,[],none⟩:St)) res)) ⟨[(1,.c (.fn 233 [0,1])),(7,.d (iZ n)),(8,.d (iZ x))],[(0,[.d (lI b.shape),.d (lC b.cells)]),(1,[.d (lI b1.shape),.d (lC b1.cells)])],2,[],none⟩
abbrev pY (a:Int×Arr×Arr) (res:Int):Prop:=match a with|(n,b,b1)=>aval X 231 [.d (iZ n),.fn 233 [0,1]] [[.d (lI b.shape),.d (lC b.cells)],[.d (lI b1.shape),.d (lC b1.cells)]] ((mA b b1) res)
abbrev Ag1 (a:Int×Arr×Arr) (res:Int):Prop:=match a with|(i,a_,a_1)=>aval X 233 [.d (iZ i),.ptr 0 0,.ptr 1 0] [[.d (lI a_.shape),.d (lC a_.cells)],[.d (lI a_1.shape),.d (lC a_1.cells)]] ((AmG a_ a_1) res)
theorem rX:(∀a res,mV a=some res->AiZ a res)/\(∀a res,xP a=some res->AlN a res)/\(∀a res,p_arr_Cmp_1__arr_Cmp_3 a=some res->pY a res)/\(∀a res,dK a=some res->nU a res)/\(∀a res,Ac6 a=some res->Ag1 a res):=by
 refine mV.mutual_partial_correctness (motive_1:=AiZ) (motive_2:=AlN) (motive_3:=pY) (motive_4:=nU) (motive_5:=Ag1) ?_ ?_ ?_ ?_ ?_
 ·rintro P0 I0 ⟨a_,b⟩ res h
  have I0:=Ok.mk' I0
  exact aB AoI I Tryz.func153 I I I I I I λiE=>Wk
 ·rintro P0 I0 ⟨a_,b⟩ res h
  have I0:=Ok.mk' I0
  exact aB ArE I Tryz.func214 I I I I I I λiE=>Wk
 ·rintro P0 I0 ⟨n,b,b1⟩ res h
  have I0:=Ok.mk' I0
  exact aB (mA b b1) I Tryz.func231 I I I I I I λiE=>Wk
 ·rintro P0 P1 I0 I1 ⟨n,b,b1,x⟩ res h
  have I0:=Ok.mk' I0
  have I1:=Ok.mk' I1
  refine lg I ?_
  have iE:eP Tryz.f231 2 _ (mA b b1):=⟨trivial⟩
  exact Wk
 rintro P0 I0 ⟨i,a_,a_1⟩ res h
 have I0:=Ok.mk' I0
 exact aB (AmG a_ a_1) I Tryz.func233 I I I I I I λiE=>Wk
instance {a:aA×aA}:Ok (mV a) (AiZ a):=⟨λh=>rX.1 a _ h⟩
instance {a:Arr×Arr}:Ok (xP a) (AlN a):=⟨λh=>rX.2.1 a _ h⟩
instance {a:Int×Arr×Arr}:Ok (p_arr_Cmp_1__arr_Cmp_3 a) (pY a):=⟨λh=>rX.2.2.1 a _ h⟩
instance {a:Int×Arr×Arr×Int}:Ok (dK a) (nU a):=⟨λh=>rX.2.2.2.1 a _ h⟩
instance {a:Int×Arr×Arr}:Ok (Ac6 a) (Ag1 a):=⟨λh=>rX.2.2.2.2 a _ h⟩
abbrev eN (r:Int):aE:=(aE.ret (.d (iZ r)) [])
abbrev kM (a:(List aA)×(List aA)×Int) (res:Except (Int) (Unit)):Prop:=match a with|(s1,s2,x)=>cD X 152 (aN [1,0,1,0,0] (aO Tryz.f152)) (aH (X.H 152 2) 0) (aJ 0 (X.H 152 1000000) 0 (kD X Tryz.f152 0 eN (λ(_:Unit)=>(⟨[(0,.d (lC s1)),(1,.d (lC s2))],[],0,[],none⟩:St)) res)) ⟨[(0,.d (lC s1)),(1,.d (lC s2)),(2,.c (.fn 153 [])),(11,.d (lC s1)),(12,.d (iZ (List.length s1:Int))),(13,.d (iZ x))],[],0,[],none⟩
instance {a:(List aA)×(List aA)×Int}:Ok (bU a) (kM a):=⟨λh=>bU.partial_correctness kM (by
 rintro P_ IH ⟨s1,s2,x⟩ res h
 have IH:=Ok.mk' IH
 have iE:eP Tryz.f152 0 _ eN:=⟨trivial⟩
 refine lg I ?_
 exact Wk) _ _ h⟩
instance {s1:(List aA)} {s2:(List aA)}:Ok (cF s1 s2) λr=>aval X 152 [.d (lC s1),.d (lC s2),.fn 153 []] [] (eN r):=⟨λh=>by
 unfold cF at h
 exact aB eN I Tryz.func152 I I I I I I λiE=>Wk⟩
abbrev AfN (a_:(List (List aA))) (a_1:Bool) (r:Int):aE:=(aE.ret (.d (iZ r)) [[.d (.list 1 (List.map (jV 3 aD) a_))],[.d (.bool a_1)]])
instance {i:Int} {k:Int} {a_:(List (List aA))} {a_1:Bool}:Ok (kR i k a_ a_1) λr=>aval X 151 [.d (iZ i),.d (iZ k),.ptr 0 0,.ptr 1 0] [[.d (.list 1 (List.map (jV 3 aD) a_))],[.d (.bool a_1)]] ((AfN a_ a_1) r):=⟨λh=>by
 unfold kR at h
 exact aB (AfN a_ a_1) I Tryz.func151 I I I I I I λiE=>Wk⟩
abbrev cJ (b1:(List (List aA))) (b2:Bool) (r:LI):aE:=(aE.ret (.tuple []) [[.seq 1 (List.map (D.int .i64) r)],[.d (.list 1 (List.map (jV 3 aD) b1))],[.d (.bool b2)]])
abbrev fP (a:Nat×Int×Int×((List (List aA)))×Bool×Int×Int×LI) (res:LI):Prop:=match a with|(n,a_,b,b1,b2,i,j,data2)=>cD X 229 (aN [1,0,0,1,0,0,1,0,0] (aO Tryz.f229)) (aH (X.H 229 4) 3) (aJ 2 (X.H 229 1000002) 3 (iR (λ(data5:LI)=>(⟨[(0,.c (.arr 0 n 1)),(1,.d (iZ a_)),(2,.d (iZ b)),(3,.c (.fn 151 [1,2])),(8,.d (iZ i))],[(0,[.seq 1 (List.map (D.int .i64) data5)]),(1,[.d (.list 1 (List.map (jV 3 aD) b1))]),(2,[.d (.bool b2)])],3,[],none⟩:St)) res)) ⟨[(0,.c (.arr 0 n 1)),(1,.d (iZ a_)),(2,.d (iZ b)),(3,.c (.fn 151 [1,2])),(8,.d (iZ i)),(9,.d (iZ j))],[(0,[.seq 1 (List.map (D.int .i64) data2)]),(1,[.d (.list 1 (List.map (jV 3 aD) b1))]),(2,[.d (.bool b2)])],3,[],none⟩
instance {a:Nat×Int×Int×((List (List aA)))×Bool×Int×Int×LI}:Ok (aV a) (fP a):=⟨λh=>aV.partial_correctness fP (by
 rintro P_ IH ⟨n,a_,b,b1,b2,i,j,data2⟩ res h
 have IH:=Ok.mk' IH
 have iE:eP Tryz.f229 3 _ (cJ b1 b2):=⟨trivial⟩
 refine lg I ?_
 exact Wk) _ _ h⟩
abbrev fO (a:Nat×Int×Int×((List (List aA)))×Bool×Int×LI) (res:LI):Prop:=match a with|(n,a_,b,b1,b2,i,data1)=>cD X 229 (aN [1,0,0] (aO Tryz.f229)) (aH (X.H 229 1) 3) (aJ 0 (X.H 229 1000000) 3 (iR (λ(c0:LI)=>(⟨[],[(0,[.seq 1 (List.map (D.int .i64) c0)]),(1,[.d (.list 1 (List.map (jV 3 aD) b1))]),(2,[.d (.bool b2)])],3,[],none⟩:St)) res)) ⟨[(0,.c (.arr 0 n 1)),(1,.d (iZ a_)),(2,.d (iZ b)),(3,.c (.fn 151 [1,2])),(8,.d (iZ i))],[(0,[.seq 1 (List.map (D.int .i64) data1)]),(1,[.d (.list 1 (List.map (jV 3 aD) b1))]),(2,[.d (.bool b2)])],3,[],none⟩
instance {a:Nat×Int×Int×((List (List aA)))×Bool×Int×LI}:Ok (aU a) (fO a):=⟨λh=>aU.partial_correctness fO (by
 rintro P_ IH ⟨n,a_,b,b1,b2,i,data1⟩ res h
 have IH:=Ok.mk' IH
 have iE:eP Tryz.f229 3 _ (cJ b1 b2):=⟨trivial⟩
 refine lg I ?_
 exact Wk) _ _ h⟩
instance {n:Nat} {a_:Int} {b:Int} {data:LI} {b1:(List (List aA))} {b2:Bool}:Ok (bN n a_ b data b1 b2) λr=>aval X 229 [.arr 0 n 1,.d (iZ a_),.d (iZ b),.fn 151 [1,2]] [[.seq 1 (List.map (D.int .i64) data)],[.d (.list 1 (List.map (jV 3 aD) b1))],[.d (.bool b2)]] ((cJ b1 b2) r):=⟨λh=>by
 unfold bN at h
 exact aB (cJ b1 b2) I Tryz.func229 I I I I I I λiE=>Wk⟩
abbrev eQ (b1:(List (List aA))) (b2:Bool) (r:LI):aE:=(aE.ret (.tuple []) [[.seq 1 (List.map (D.int .i64) r)],[.d (.list 1 (List.map (jV 3 aD) b1))],[.d (.bool b2)]])
abbrev gR (a:Nat×Int×Int×Int×((List (List aA)))×Bool×Int×LI) (res:LI):Prop:=match a with|(n,a_,b,n1,b1,b2,i,data1)=>cD X 244 (aN [1,0,0] (aO Tryz.f244)) (aH (X.H 244 1) 3) (aJ 0 (X.H 244 1000000) 3 (iR (λ(c0:LI)=>(⟨[],[(0,[.seq 1 (List.map (D.int .i64) c0)]),(1,[.d (.list 1 (List.map (jV 3 aD) b1))]),(2,[.d (.bool b2)])],3,[],none⟩:St)) res)) ⟨[(0,.c (.arr 0 n 1)),(1,.d (iZ a_)),(2,.d (iZ b)),(3,.d (iZ n1)),(10,.d (iZ i))],[(0,[.seq 1 (List.map (D.int .i64) data1)]),(1,[.d (.list 1 (List.map (jV 3 aD) b1))]),(2,[.d (.bool b2)])],3,[],none⟩
instance {a:Nat×Int×Int×Int×((List (List aA)))×Bool×Int×LI}:Ok (bB a) (gR a):=⟨λh=>bB.partial_correctness gR (by
 rintro P_ IH ⟨n,a_,b,n1,b1,b2,i,data1⟩ res h
 have IH:=Ok.mk' IH
 have iE:eP Tryz.f244 3 _ (eQ b1 b2):=⟨trivial⟩
 refine lg I ?_
 exact Wk) _ _ h⟩
instance {n:Nat} {a_:Int} {b:Int} {n1:Int} {data:LI} {b1:(List (List aA))} {b2:Bool}:Ok (bK n a_ b n1 data b1 b2) λr=>aval X 244 [.arr 0 n 1,.d (iZ a_),.d (iZ b),.d (iZ n1),.fn 151 [1,2]] [[.seq 1 (List.map (D.int .i64) data)],[.d (.list 1 (List.map (jV 3 aD) b1))],[.d (.bool b2)]] ((eQ b1 b2) r):=⟨λh=>by
 unfold bK at h
 exact aB (eQ b1 b2) I Tryz.func244 I I I I I I λiE=>Wk⟩
abbrev fF (b1:(List (List aA))) (b2:Bool) (r:LI):aE:=(aE.ret (.tuple []) [[.seq 1 (List.map (D.int .i64) r)],[.d (.list 1 (List.map (jV 3 aD) b1))],[.d (.bool b2)]])
abbrev iS (a:Nat×Int×((List (List aA)))×Bool×Int×LI×Int) (res:Int×LI):Prop:=match a with|(n,m,b1,b2,i,data1,j)=>cD X 242 (aN [1,1,0,0,0] (aO Tryz.f242)) (aH (X.H 242 2) 3) (aJ 0 (X.H 242 1000000) 3 (iR (λ((i1,data2):Int×LI)=>(⟨[(0,.c (.arr 0 n 1)),(2,.d (iZ m)),(4,.c (.fn 151 [1,2])),(10,.d (iZ i1))],[(0,[.seq 1 (List.map (D.int .i64) data2)]),(1,[.d (.list 1 (List.map (jV 3 aD) b1))]),(2,[.d (.bool b2)])],3,[],none⟩:St)) res)) ⟨[(0,.c (.arr 0 n 1)),(2,.d (iZ m)),(4,.c (.fn 151 [1,2])),(10,.d (iZ i)),(11,.d (iZ j))],[(0,[.seq 1 (List.map (D.int .i64) data1)]),(1,[.d (.list 1 (List.map (jV 3 aD) b1))]),(2,[.d (.bool b2)])],3,[],none⟩
instance {a:Nat×Int×((List (List aA)))×Bool×Int×LI×Int}:Ok (bF a) (iS a):=⟨λh=>bF.partial_correctness iS (by
 rintro P_ IH ⟨n,m,b1,b2,i,data1,j⟩ res h
 have IH:=Ok.mk' IH
 have iE:eP Tryz.f242 3 _ (fF b1 b2):=⟨trivial⟩
 refine lg I ?_
 exact Wk) _ _ h⟩
instance {n:Nat} {a_:Int} {m:Int} {b:Int} {data:LI} {b1:(List (List aA))} {b2:Bool}:Ok (cI n a_ m b data b1 b2) λr=>aval X 242 [.arr 0 n 1,.d (iZ a_),.d (iZ m),.d (iZ b),.fn 151 [1,2]] [[.seq 1 (List.map (D.int .i64) data)],[.d (.list 1 (List.map (jV 3 aD) b1))],[.d (.bool b2)]] ((fF b1 b2) r):=⟨λh=>by
 unfold cI at h
 exact aB (fF b1 b2) I Tryz.func242 I I I I I I λiE=>Wk⟩
abbrev bL (b1:(List (List aA))) (b2:Bool) (r:LI):aE:=(aE.ret (.tuple []) [[.seq 1 (List.map (D.int .i64) r)],[.d (.list 1 (List.map (jV 3 aD) b1))],[.d (.bool b2)]])
instance Ad3:Jn 230 1 140 (Int×Int):=⟨λy=>[(20,.d (iZ y.1)),(21,.d (iZ y.2))],λy=>[]⟩
instance Ad4:Jn 230 1 185 LI:=⟨λy=>[],λy=>[(0,[(0,.seq 1 (List.map (D.int .i64) y))])]⟩
instance Ad5:Jn 230 1 199 LI:=⟨λy=>[],λy=>[(0,[(0,.seq 1 (List.map (D.int .i64) y))])]⟩
abbrev eE (a:Nat×Int×LI×((List (List aA)))×Bool×Int×Int) (res:Int):Prop:=match a with|(n,a_,data,b1,b2,i,j)=>cD X 230 (aN [0,1,0,1,1,0,0,0] (aO Tryz.f230)) (aH (X.H 230 3) 3) (aJ 0 (X.H 230 1000000) 3 (iR (λ(i1:Int)=>(⟨[(0,.c (.arr 0 n 1)),(1,.d (iZ a_)),(10,.d (iZ i1))],[(0,[.seq 1 (List.map (D.int .i64) data)]),(1,[.d (.list 1 (List.map (jV 3 aD) b1))]),(2,[.d (.bool b2)])],3,[],none⟩:St)) res)) ⟨[(0,.c (.arr 0 n 1)),(1,.d (iZ a_)),(4,.c (.fn 151 [1,2])),(10,.d (iZ i)),(11,.d (iZ j))],[(0,[.seq 1 (List.map (D.int .i64) data)]),(1,[.d (.list 1 (List.map (jV 3 aD) b1))]),(2,[.d (.bool b2)])],3,[],none⟩
theorem nM:∀a res,aK a=some res->eE a res:=by
 refine aK.partial_correctness eE ?_
 rintro P_ IH ⟨n,a_,data,b1,b2,i,j⟩ res h
 have IH:=Ok.mk' IH
 refine lg I ?_
 have iE:eP Tryz.f230 3 _ (bL b1 b2):=⟨trivial⟩
 exact Wk
instance {a:Nat×Int×LI×((List (List aA)))×Bool×Int×Int}:Ok (aK a) (eE a):=⟨λh=>nM a _ h⟩
abbrev eF (a:Nat×((List (List aA)))×Bool×Int×Int×LI) (res:LI):Prop:=match a with|(n,b1,b2,i1,k,data1)=>cD X 230 (aN [0,1,0,1,1,1,0,1,0,0] (aO Tryz.f230)) (aH (X.H 230 9) 3) (aJ 2 (X.H 230 1000002) 3 (iR (λ(c0:LI)=>(⟨[],[(0,[.seq 1 (List.map (D.int .i64) c0)]),(1,[.d (.list 1 (List.map (jV 3 aD) b1))]),(2,[.d (.bool b2)])],3,[],none⟩:St)) res)) ⟨[(0,.c (.arr 0 n 1)),(10,.d (iZ i1)),(13,.d (iZ k))],[(0,[.seq 1 (List.map (D.int .i64) data1)]),(1,[.d (.list 1 (List.map (jV 3 aD) b1))]),(2,[.d (.bool b2)])],3,[],none⟩
theorem nN:∀a res,aR a=some res->eF a res:=by
 refine aR.partial_correctness eF ?_
 rintro P_ IH ⟨n,b1,b2,i1,k,data1⟩ res h
 have IH:=Ok.mk' IH
 refine lg I ?_
 have iE:eP Tryz.f230 3 _ (bL b1 b2):=⟨trivial⟩
 exact Wk
instance {a:Nat×((List (List aA)))×Bool×Int×Int×LI}:Ok (aR a) (eF a):=⟨λh=>nN a _ h⟩
abbrev eG (a:Nat×Int×LI×((List (List aA)))×Bool×Int×Int) (res:Int):Prop:=match a with|(n,m,data,b1,b2,i2,j7)=>cD X 230 (aN [1,0,1,0,1,1,0,0,0] (aO Tryz.f230)) (aH (X.H 230 15) 3) (aJ 4 (X.H 230 1000004) 3 (iR (λ(i3:Int)=>(⟨[(0,.c (.arr 0 n 1)),(2,.d (iZ m)),(14,.d (iZ i3))],[(0,[.seq 1 (List.map (D.int .i64) data)]),(1,[.d (.list 1 (List.map (jV 3 aD) b1))]),(2,[.d (.bool b2)])],3,[],none⟩:St)) res)) ⟨[(0,.c (.arr 0 n 1)),(2,.d (iZ m)),(4,.c (.fn 151 [1,2])),(14,.d (iZ i2)),(15,.d (iZ j7))],[(0,[.seq 1 (List.map (D.int .i64) data)]),(1,[.d (.list 1 (List.map (jV 3 aD) b1))]),(2,[.d (.bool b2)])],3,[],none⟩
theorem nO:∀a res,aL a=some res->eG a res:=by
 refine aL.partial_correctness eG ?_
 rintro P_ IH ⟨n,m,data,b1,b2,i2,j7⟩ res h
 have IH:=Ok.mk' IH
 refine lg I ?_
 have iE:eP Tryz.f230 3 _ (bL b1 b2):=⟨trivial⟩
 exact Wk
instance {a:Nat×Int×LI×((List (List aA)))×Bool×Int×Int}:Ok (aL a) (eG a):=⟨λh=>nO a _ h⟩
abbrev eH (a:Nat×((List (List aA)))×Bool×Int×Int×LI) (res:LI):Prop:=match a with|(n,b1,b2,i3,k1,data4)=>cD X 230 (aN [1,0,1,0,1,1,1,0,1,0,0] (aO Tryz.f230)) (aH (X.H 230 21) 3) (aJ 6 (X.H 230 1000006) 3 (iR (λ(c01:LI)=>(⟨[],[(0,[.seq 1 (List.map (D.int .i64) c01)]),(1,[.d (.list 1 (List.map (jV 3 aD) b1))]),(2,[.d (.bool b2)])],3,[],none⟩:St)) res)) ⟨[(0,.c (.arr 0 n 1)),(14,.d (iZ i3)),(17,.d (iZ k1))],[(0,[.seq 1 (List.map (D.int .i64) data4)]),(1,[.d (.list 1 (List.map (jV 3 aD) b1))]),(2,[.d (.bool b2)])],3,[],none⟩
theorem nP:∀a res,aS a=some res->eH a res:=by
 refine aS.partial_correctness eH ?_
 rintro P_ IH ⟨n,b1,b2,i3,k1,data4⟩ res h
 have IH:=Ok.mk' IH
 refine lg I ?_
 have iE:eP Tryz.f230 3 _ (bL b1 b2):=⟨trivial⟩
 exact Wk
instance {a:Nat×((List (List aA)))×Bool×Int×Int×LI}:Ok (aS a) (eH a):=⟨λh=>nP a _ h⟩
abbrev eI (a:Nat×Int×Int×Int×LI×((List (List aA)))×Bool×Int×Int) (res:Int):Prop:=match a with|(n,a_,m,b,data,b1,b2,start1,r_1)=>cD X 230 (aN [1,1,1,1,1,1,1,0,0,0] (aO Tryz.f230)) (aH (X.H 230 33) 3) (aJ 8 (X.H 230 1000008) 3 (iR (λ(start2:Int)=>(⟨[(0,.c (.arr 0 n 1)),(1,.d (iZ a_)),(2,.d (iZ m)),(3,.d (iZ b)),(4,.c (.fn 151 [1,2])),(18,.d (iZ (w64 (Int.fdiv (IntKind.u64.wrap (w64 (a_+b))) (2 ^ 1))))),(19,.d (iZ (w64 ((w64 (Int.fdiv (IntKind.u64.wrap (w64 (a_+b))) (2 ^ 1)))+m)))),(20,.d (iZ start2))],[(0,[.seq 1 (List.map (D.int .i64) data)]),(1,[.d (.list 1 (List.map (jV 3 aD) b1))]),(2,[.d (.bool b2)])],3,[],none⟩:St)) res)) ⟨[(0,.c (.arr 0 n 1)),(1,.d (iZ a_)),(2,.d (iZ m)),(3,.d (iZ b)),(4,.c (.fn 151 [1,2])),(18,.d (iZ (w64 (Int.fdiv (IntKind.u64.wrap (w64 (a_+b))) (2 ^ 1))))),(19,.d (iZ (w64 ((w64 (Int.fdiv (IntKind.u64.wrap (w64 (a_+b))) (2 ^ 1)))+m)))),(20,.d (iZ start1)),(21,.d (iZ r_1)),(22,.d (iZ (w64 ((w64 ((w64 (Int.fdiv (IntKind.u64.wrap (w64 (a_+b))) (2 ^ 1)))+m))-1))))],[(0,[.seq 1 (List.map (D.int .i64) data)]),(1,[.d (.list 1 (List.map (jV 3 aD) b1))]),(2,[.d (.bool b2)])],3,[],none⟩
theorem nQ:∀a res,aM a=some res->eI a res:=by
 refine aM.partial_correctness eI ?_
 rintro P_ IH ⟨n,a_,m,b,data,b1,b2,start1,r_1⟩ res h
 have IH:=Ok.mk' IH
 refine lg I ?_
 have iE:eP Tryz.f230 3 _ (bL b1 b2):=⟨trivial⟩
 exact Wk
instance {a:Nat×Int×Int×Int×LI×((List (List aA)))×Bool×Int×Int}:Ok (aM a) (eI a):=⟨λh=>nQ a _ h⟩
abbrev eT (a:Nat×Int×Int×Int×LI×(List (List aA))×Bool) (res:LI):Prop:=match a with|(n,a_,m,b,data,b1,b2)=>aval X 230 [.arr 0 n 1,.d (iZ a_),.d (iZ m),.d (iZ b),.fn 151 [1,2]] [[.seq 1 (List.map (D.int .i64) data)],[.d (.list 1 (List.map (jV 3 aD) b1))],[.d (.bool b2)]] ((bL b1 b2) res)
theorem oU:∀a res,aC a=some res->eT a res:=by
 refine aC.partial_correctness eT ?_
 rintro P_ IH ⟨n,a_,m,b,data,b1,b2⟩ res h
 have IH:=Ok.mk' IH
 exact aB (bL b1 b2) I Tryz.func230 I I I I I I λiE=>Wk
instance {a:Nat×Int×Int×Int×LI×(List (List aA))×Bool}:Ok (aC a) (eT a):=⟨λh=>oU a _ h⟩
abbrev cG (b:(List (List aA))) (b1:Bool) (r:LI):aE:=(aE.ret (.tuple []) [[.seq 1 (List.map (D.int .i64) r)],[.d (.list 1 (List.map (jV 3 aD) b))],[.d (.bool b1)]])
instance Ae2:Jn 211 1 54 LI:=⟨λy=>[],λy=>[(0,[(0,.seq 1 (List.map (D.int .i64) y))])]⟩
abbrev iT (a:Nat×Int×((List (List aA)))×Bool×Int×Int×LI) (res:Int×LI):Prop:=match a with|(n,n1,b,b1,a_,b2,data1)=>cD X 211 (aN [1,1,0,0,0] (aO Tryz.f211)) (aH (X.H 211 2) 3) (aJ 0 (X.H 211 1000000) 3 (iR (λ((a_1,data2):Int×LI)=>(⟨[(0,.c (.arr 0 n 1)),(1,.d (iZ n1)),(2,.c (.fn 151 [1,2])),(6,.d (iZ 20)),(7,.d (iZ a_1))],[(0,[.seq 1 (List.map (D.int .i64) data2)]),(1,[.d (.list 1 (List.map (jV 3 aD) b))]),(2,[.d (.bool b1)])],3,[],none⟩:St)) res)) ⟨[(0,.c (.arr 0 n 1)),(1,.d (iZ n1)),(2,.c (.fn 151 [1,2])),(6,.d (iZ 20)),(7,.d (iZ a_)),(8,.d (iZ b2))],[(0,[.seq 1 (List.map (D.int .i64) data1)]),(1,[.d (.list 1 (List.map (jV 3 aD) b))]),(2,[.d (.bool b1)])],3,[],none⟩
instance {a:Nat×Int×((List (List aA)))×Bool×Int×Int×LI}:Ok (bG a) (iT a):=⟨λh=>bG.partial_correctness iT (by
 rintro P_ IH ⟨n,n1,b,b1,a_,b2,data1⟩ res h
 have IH:=Ok.mk' IH
 have iE:eP Tryz.f211 3 _ (cG b b1):=⟨trivial⟩
 refine lg I ?_
 exact Wk) _ _ h⟩
abbrev iV (a:Nat×Int×((List (List aA)))×Bool×Int×Int×Int×LI) (res:Int×LI):Prop:=match a with|(n,n1,b,b1,blockSize,a_2,b3,data4)=>cD X 211 (aN [1,1,1,1,0,0,1,0,1,0,0,0] (aO Tryz.f211)) (aH (X.H 211 9) 3) (aJ 4 (X.H 211 1000004) 3 (iR (λ((a_3,data5):Int×LI)=>(⟨[(0,.c (.arr 0 n 1)),(1,.d (iZ n1)),(2,.c (.fn 151 [1,2])),(6,.d (iZ blockSize)),(7,.d (iZ a_3))],[(0,[.seq 1 (List.map (D.int .i64) data5)]),(1,[.d (.list 1 (List.map (jV 3 aD) b))]),(2,[.d (.bool b1)])],3,[],none⟩:St)) res)) ⟨[(0,.c (.arr 0 n 1)),(1,.d (iZ n1)),(2,.c (.fn 151 [1,2])),(6,.d (iZ blockSize)),(7,.d (iZ a_2)),(8,.d (iZ b3))],[(0,[.seq 1 (List.map (D.int .i64) data4)]),(1,[.d (.list 1 (List.map (jV 3 aD) b))]),(2,[.d (.bool b1)])],3,[],none⟩
instance {a:Nat×Int×((List (List aA)))×Bool×Int×Int×Int×LI}:Ok (bI a) (iV a):=⟨λh=>bI.partial_correctness iV (by
 rintro P_ IH ⟨n,n1,b,b1,blockSize,a_2,b3,data4⟩ res h
 have IH:=Ok.mk' IH
 have iE:eP Tryz.f211 3 _ (cG b b1):=⟨trivial⟩
 refine lg I ?_
 exact Wk) _ _ h⟩
abbrev iU (a:Nat×Int×((List (List aA)))×Bool×Int×LI) (res:LI):Prop:=match a with|(n,n1,b,b1,blockSize,data3)=>cD X 211 (aN [1,1,1,1,0,0] (aO Tryz.f211)) (aH (X.H 211 7) 3) (aJ 2 (X.H 211 1000002) 3 (iR (λ(c0:LI)=>(⟨[],[(0,[.seq 1 (List.map (D.int .i64) c0)]),(1,[.d (.list 1 (List.map (jV 3 aD) b))]),(2,[.d (.bool b1)])],3,[],none⟩:St)) res)) ⟨[(0,.c (.arr 0 n 1)),(1,.d (iZ n1)),(2,.c (.fn 151 [1,2])),(6,.d (iZ blockSize))],[(0,[.seq 1 (List.map (D.int .i64) data3)]),(1,[.d (.list 1 (List.map (jV 3 aD) b))]),(2,[.d (.bool b1)])],3,[],none⟩
instance {a:Nat×Int×((List (List aA)))×Bool×Int×LI}:Ok (bH a) (iU a):=⟨λh=>bH.partial_correctness iU (by
 rintro P_ IH ⟨n,n1,b,b1,blockSize,data3⟩ res h
 have IH:=Ok.mk' IH
 have iE:eP Tryz.f211 3 _ (cG b b1):=⟨trivial⟩
 refine lg I ?_
 exact Wk) _ _ h⟩
instance {n:Nat} {n1:Int} {data:LI} {b:(List (List aA))} {b1:Bool}:Ok (p_slices_stableCmpFunc_int__seek_grade_1 n n1 data b b1) λr=>aval X 211 [.arr 0 n 1,.d (iZ n1),.fn 151 [1,2]] [[.seq 1 (List.map (D.int .i64) data)],[.d (.list 1 (List.map (jV 3 aD) b))],[.d (.bool b1)]] ((cG b b1) r):=⟨λh=>by
 unfold p_slices_stableCmpFunc_int__seek_grade_1 at h
 exact aB (cG b b1) I Tryz.func211 I I I I I I λiE=>Wk⟩
abbrev jL (b:(List (List aA))) (b1:Bool) (r:LI):aE:=(aE.ret (.tuple []) [[.seq 1 (List.map (D.int .i64) r)],[.d (.list 1 (List.map (jV 3 aD) b))],[.d (.bool b1)]])
instance {n:Nat} {a_:LI} {b:(List (List aA))} {b1:Bool}:Ok (p_slices_SortStableFunc_int__seek_grade_1 n a_ b b1) λr=>aval X 150 [.arr 0 n 1,.fn 151 [1,2]] [[.seq 1 (List.map (D.int .i64) a_)],[.d (.list 1 (List.map (jV 3 aD) b))],[.d (.bool b1)]] ((jL b b1) r):=⟨λh=>by
 unfold p_slices_SortStableFunc_int__seek_grade_1 at h
 exact aB (jL b b1) I Tryz.func150 I I I I I I λiE=>Wk⟩
abbrev zS (r:Arr×Int):aE:=(aE.ret (.tuple [.d (encArr r.1),.d (iZ r.2)]) [])
abbrev AeY (a:Arr×Bool×((List (List aA)))×Int×LI) (res:LI):Prop:=match a with|(a_,down,x1,x2,by_1)=>cD X 74 (aN [1,1,1,1,0,1,0,0] (aO Tryz.f74)) (aH (X.H 74 8) 5) (aJ 1 (X.H 74 1000001) 5 (iR (λ(by_3:LI)=>(⟨[(3,.c (.ptr 1 0)),(4,.c (.ptr 2 0)),(6,.c (.ptr 3 0)),(7,.c (.arr 4 (Int.toNat (List.length x1:Int)) 1))],[(4,[.seq 1 (List.map (D.int .i64) by_3)]),(3,[.d (.list 1 (List.map (jV 3 aD) x1))]),(2,[oI [],oC []]),(1,[.d (.bool down)]),(0,[.d (lI a_.shape),.d (lC a_.cells)])],5,[],none⟩:St)) res)) ⟨[(3,.c (.ptr 1 0)),(4,.c (.ptr 2 0)),(6,.c (.ptr 3 0)),(7,.c (.arr 4 (Int.toNat (List.length x1:Int)) 1)),(30,.d (iZ ((Int.toNat (List.length x1:Int)):Int))),(31,.d (iZ x2))],[(4,[.seq 1 (List.map (D.int .i64) by_1)]),(3,[.d (.list 1 (List.map (jV 3 aD) x1))]),(2,[oI [],oC []]),(1,[.d (.bool down)]),(0,[.d (lI a_.shape),.d (lC a_.cells)])],5,[],none⟩
instance {a:Arr×Bool×((List (List aA)))×Int×LI}:Ok (lK a) (AeY a):=⟨λh=>lK.partial_correctness AeY (by
 rintro P_ IH ⟨a_,down,x1,x2,by_1⟩ res h
 have IH:=Ok.mk' IH
 have iE:eP Tryz.f74 0 _ zS:=⟨trivial⟩
 refine lg I ?_
 exact Wk) _ _ h⟩
abbrev AeZ (a:Arr×Bool×((List (List aA)))×LI×Int×(List aA)) (res:(List aA)):Prop:=match a with|(a_,down,x1,x3,x4,out1)=>cD X 74 (aN [1,1,1,1,1,1,1,0,1,0,0] (aO Tryz.f74)) (aH (X.H 74 15) 6) (aJ 3 (X.H 74 1000003) 6 (iR (λ(out11:(List aA))=>(⟨[(4,.c (.ptr 2 0)),(9,.c (.ptr 5 0))],[(5,[oI [((Int.toNat (List.length x1:Int)):Int)],oC out11]),(4,[.seq 1 (List.map (D.int .i64) x3)]),(3,[.d (.list 1 (List.map (jV 3 aD) x1))]),(2,[oI [],oC []]),(1,[.d (.bool down)]),(0,[.d (lI a_.shape),.d (lC a_.cells)])],6,[],none⟩:St)) res)) ⟨[(4,.c (.ptr 2 0)),(9,.c (.ptr 5 0)),(46,.c (.arr 4 (Int.toNat (List.length x1:Int)) 1)),(47,.d (iZ ((Int.toNat (List.length x1:Int)):Int))),(48,.d (iZ x4))],[(5,[oI [((Int.toNat (List.length x1:Int)):Int)],oC out1]),(4,[.seq 1 (List.map (D.int .i64) x3)]),(3,[.d (.list 1 (List.map (jV 3 aD) x1))]),(2,[oI [],oC []]),(1,[.d (.bool down)]),(0,[.d (lI a_.shape),.d (lC a_.cells)])],6,[],none⟩
instance {a:Arr×Bool×((List (List aA)))×LI×Int×(List aA)}:Ok (lL a) (AeZ a):=⟨λh=>lL.partial_correctness AeZ (by
 rintro P_ IH ⟨a_,down,x1,x3,x4,out1⟩ res h
 have IH:=Ok.mk' IH
 have iE:eP Tryz.f74 0 _ zS:=⟨trivial⟩
 refine lg I ?_
 exact Wk) _ _ h⟩
instance {a_:Arr} {down:Bool}:Ok (wR a_ down) λr=>aval X 74 [.d (encArr a_),.d (.bool down)] [] (zS r):=⟨λh=>by
 unfold wR at h
 exact aB zS I Tryz.func74 I I I I I I λiE=>Wk⟩
abbrev AeK (a_:(List aA)) (r:Bool):aE:=(aE.ret (.d (.bool r)) [[.d (lC a_)]])
instance {y:(List aA)} {a_:(List aA)}:Ok (uL y a_) λr=>aval X 155 [.d (lC y),.ptr 0 0] [[.d (lC a_)]] ((AeK a_) r):=⟨λh=>by
 unfold uL at h
 exact aB (AeK a_) I Tryz.func155 I I I I I I λiE=>Wk⟩
abbrev dR (b:(List aA)) (r:Int):aE:=(aE.ret (.d (iZ r)) [[.d (lC b)]])
abbrev jN (a:((List (List aA)))×(List aA)×Int) (res:Except (Int) (Unit)):Prop:=match a with|(s,b,x)=>cD X 215 (aN [1,0,1,0,0] (aO Tryz.f215)) (aH (X.H 215 2) 1) (aJ 0 (X.H 215 1000000) 1 (kD X Tryz.f215 1 (dR b) (λ(_:Unit)=>(⟨[],[(0,[.d (lC b)])],1,[],none⟩:St)) res)) ⟨[(0,.d (.list 1 (List.map (jV 3 aD) s))),(1,.c (.fn 155 [0])),(7,.d (iZ (List.length s:Int))),(8,.d (iZ x))],[(0,[.d (lC b)])],1,[],none⟩
instance {a:((List (List aA)))×(List aA)×Int}:Ok (bO a) (jN a):=⟨λh=>bO.partial_correctness jN (by
 rintro P_ IH ⟨s,b,x⟩ res h
 have IH:=Ok.mk' IH
 have iE:eP Tryz.f215 1 _ (dR b):=⟨trivial⟩
 refine lg I ?_
 exact Wk) _ _ h⟩
instance {s:(List (List aA))} {b:(List aA)}:Ok (dT s b) λr=>aval X 215 [.d (.list 1 (List.map (jV 3 aD) s)),.fn 155 [0]] [[.d (lC b)]] ((dR b) r):=⟨λh=>by
 unfold dT at h
 exact aB (dR b) I Tryz.func215 I I I I I I λiE=>Wk⟩
abbrev jK (b:(List aA)) (r:Bool):aE:=(aE.ret (.d (.bool r)) [[.d (lC b)]])
instance {s:(List (List aA))} {b:(List aA)}:Ok (cC s b) λr=>aval X 154 [.d (.list 1 (List.map (jV 3 aD) s)),.fn 155 [0]] [[.d (lC b)]] ((jK b) r):=⟨λh=>by
 unfold cC at h
 exact aB (jK b) I Tryz.func154 I I I I I I λiE=>Wk⟩
abbrev AdB (a:Arr×LI×Nat×LI×((List (List aA)))×(List (List aA))×Int×(List aA)) (res:(List (List aA))×(List aA)):Prop:=match a with|(x,x0,x1,b,x2,kept,x3,out1)=>cD X 75 (aN [1,1,1,1,1,0,1,0,0] (aO Tryz.f75)) (aH (X.H 75 7) 4) (aJ 0 (X.H 75 1000000) 4 (iR (λ((kept3,out12):(List (List aA))×(List aA))=>(⟨[(2,.c (.ptr 1 0)),(3,.c (.own 1 (List.map (jV 3 aD) kept3))),(4,.c (.ptr 3 0))],[(3,[.arr 2 x1 1,oC out12]),(1,[oI [],oC []]),(0,[.d (lI x0),.d (lC x.cells)]),(2,[.seq 1 (List.map (D.int .i64) b)])],4,[],none⟩:St)) res)) ⟨[(2,.c (.ptr 1 0)),(3,.c (.own 1 (List.map (jV 3 aD) kept))),(4,.c (.ptr 3 0)),(20,.d (.list 1 (List.map (jV 3 aD) x2))),(21,.d (iZ (List.length x2:Int))),(22,.d (iZ x3))],[(3,[.arr 2 x1 1,oC out1]),(1,[oI [],oC []]),(0,[.d (lI x0),.d (lC x.cells)]),(2,[.seq 1 (List.map (D.int .i64) b)])],4,[],none⟩
instance {a:Arr×LI×Nat×LI×((List (List aA)))×(List (List aA))×Int×(List aA)}:Ok (kB a) (AdB a):=⟨λh=>kB.partial_correctness AdB (by
 rintro P_ IH ⟨x,x0,x1,b,x2,kept,x3,out1⟩ res h
 have IH:=Ok.mk' IH
 refine lg I (ra I (S_ ?_))
 rcases E_ h with ⟨hc,h⟩|⟨hc,h⟩
 ·refine ct I hc (K_ (cn I (N_ (S_ ?_))))
  obtain⟨⟨kept2,out11⟩,hs,h⟩:=B h
  refine gZ (λ((kept2,out11):(List (List aA))×(List aA))=>(⟨[(2,.c (.ptr 1 0)),(3,.c (.own 1 (List.map (jV 3 aD) kept2))),(4,.c (.ptr 3 0)),(20,.d (.list 1 (List.map (jV 3 aD) x2))),(21,.d (iZ (List.length x2:Int))),(22,.d (iZ x3))],[(3,[.arr 2 x1 1,oC out11]),(1,[oI [],oC []]),(0,[.d (lI x0),.d (lC x.cells)]),(2,[.seq 1 (List.map (D.int .i64) b)])],4,[],none⟩:St)) (y:=(kept2,out11)) ?_ ?_
  ·replace h:=hs
   refine W_ (S_ (rn 0 I ?_))
   obtain⟨y,hk,h⟩:=B h
   refine po (mS (jV 3 aD) (λ_=>I) hk I I I I I) I I (on (nid':=5) 3 I (rz (S_ (rn 2 I ?_))))
   obtain⟨x4,hk,h⟩:=B h
   have hv:=Ok.ok hk
   refine po (AfQ (nid':=5) (hv) I I I I I I I I I I I I) I I (on 1 I (rz ?_))
   rcases E_ h with ⟨hc,h⟩|⟨hc,h⟩
   ·refine ct I hc (S_ (rn 3 I ?_))
    obtain⟨kept1,hk,h⟩:=B h
    refine po (AzY hk I I I I I I I I I I I I I ) I I (on 1 I (rz (rn 3 I ?_)))
    obtain⟨l,hk,h⟩:=B h
    refine po (AfP hk I I I I I I I I I I I I I I ) I I (on 2 I (O_ (cn I (en I ?_))))
    cases h
    exact .ok I
   refine cf I hc (K_ (cn I (en I ?_)))
   cases h
   exact .ok I
  refine N_ (rn 2 I (O_ (cH.normal ?_)))
  have hv:=Ok.ok h
  exact bV I I hv
 ·refine cf I hc (X_ (fN.exit (kT.exit (cH.exit (eh I ?_)))))
  cases h
  exact .ok I
 ) _ _ h⟩
instance {a_:Arr}:Ok (uA a_) λr=>aval X 75 [.d (encArr a_)] [] (aE.ret (.d (encArr r)) []):=⟨λ{r} h=>by
 unfold uA at h
 refine kY (tm:=[(0,.d (encArr a_))]) (hp:=[]) (n:=0) I Tryz.func75 I I I I I I (ra (nid':=2) I (S_ (rn 1 I ?_)))
 obtain⟨x,hk,h⟩:=B h
 have hv:=Ok.ok hk
 refine po (nR (hv) I I I I I I I I I) I I (on 1 I (rz (S_ (S_ (rn 2 I (po (mT I I I I I I I) I I (on 1 I (rz ?_))))))))
 obtain⟨x0,hs,h⟩:=B h
 refine gZ (λ(x0:LI)=>(⟨[(1,.c (.ptr 0 0)),(2,.c (.ptr 1 0))],[(1,[oI [],oC []]),(0,[.d (lI x0),.d (lC x.cells)])],2,[],none⟩:St)) (y:=x0) ?_ ?_
 ·replace h:=hs
  rcases E_ h with ⟨hc,h⟩|⟨hc,h⟩
  ·refine ct I hc (rn 3 I (O_ (cn I ?_)))
   cases h
   exact .ok I
  refine cf I hc (K_ (cn I ?_))
  cases h
  exact .ok I
 ·refine N_ (ra I (S_ (rn 2 I ?_)))
  obtain⟨⟨x1,b⟩,hk,h⟩:=B h
  have hv:=Ok.ok hk
  refine po (AfQ (nid':=3) (hv) I I I I I I I I I I I I) I I (on (nid':=4) 3 I (rz (S_ (S_ (rn 1 I ?_)))))
  obtain⟨x2,hk,h⟩:=B h
  have hv:=Ok.ok hk
  refine po (nR (hv) I I I I I I I I I) I I (po (mT I I I I I I I) I I (on 1 I (rz ?_)))
  obtain⟨⟨kept3,out12⟩,hs,h⟩:=B h
  refine gZ (λ((kept3,out12):(List (List aA))×(List aA))=>(⟨[(2,.c (.ptr 1 0)),(3,.c (.own 1 (List.map (jV 3 aD) kept3))),(4,.c (.ptr 3 0))],[(3,[.arr 2 x1 1,oC out12]),(1,[oI [],oC []]),(0,[.d (lI x0),.d (lC x.cells)]),(2,[.seq 1 (List.map (D.int .i64) b)])],4,[],none⟩:St)) (y:=(kept3,out12)) ?_ ?_
  ·replace h:=hs
   refine W_ (eC ?_)
   have hv:=Ok.ok h
   exact bV I I hv
  ·refine N_ (S_ (rn 3 I (po (mT I I I I I I I) I I ?_)))
   obtain⟨j,hk,h⟩:=B h
   refine po (AcK hk I I I I I) I I ?_
   obtain⟨b1,hk,h⟩:=B h
   refine po (est (D.int .i64) (v:=(List.length kept3:Int)) hk I I (λ_=>⟨I,I,I⟩) I I I I) I I (rz (ra I (R_ ?_)))
   obtain⟨shape,hkFshape,h⟩:=B h
   cases h
   exact .retF I I (AbP I I I (lQ I (lQ (iJ (D.int .i64) I hkFshape I I I) AbR)) AfR) I
 ⟩
abbrev ArO (r:Arr×Int):aE:=(aE.ret (.tuple [.d (encArr r.1),.d (iZ r.2)]) [])
instance BhJ:Jn 39 1 15 (Bool):=⟨λy=>[(15,.d (.bool y))],λy=>[]⟩
instance {op_:Int} {a_:Arr}:Ok (rC op_ a_) λr=>aval X 39 [.d (iZ op_),.d (encArr a_)] [] (ArO r):=⟨λh=>by
 unfold rC at h
 exact aB ArO I Tryz.func39 I I I I I I λiE=>Wk⟩
abbrev ArM (r:Arr×Int):aE:=(aE.ret (.tuple [.d (encArr r.1),.d (iZ r.2)]) [])
instance BhH:Jn 15 0 0 (Unit):=⟨λy=>[],λy=>[]⟩
instance {op_:Int} {a_:Arr}:Ok (Aa6 op_ a_) λr=>aval X 15 [.d (iZ op_),.d (encArr a_)] [] (ArM r):=⟨λh=>by
 unfold Aa6 at h
 exact aB ArM I Tryz.func15 I I I I I I λiE=>Wk⟩
abbrev vS (r:LI×Int):aE:=(aE.ret (.tuple [.d (lI r.1),.d (iZ r.2)]) [])
abbrev AbX (a:LI×LI×Int) (res:Except (LI×Int) (Unit)):Prop:=match a with|(a_,b,x)=>cD X 107 (aN [1,1,0,1,0,0] (aO Tryz.f107)) (aH (X.H 107 8) 0) (aJ 1 (X.H 107 1000001) 0 (kD X Tryz.f107 0 vS (λ(_:Unit)=>(⟨[(0,.d (lI a_))],[],0,[],none⟩:St)) res)) ⟨[(0,.d (lI a_)),(1,.d (lI b)),(26,.d (iZ (List.length a_:Int))),(27,.d (iZ x))],[],0,[],none⟩
instance {a:LI×LI×Int}:Ok (jA a) (AbX a):=⟨λh=>jA.partial_correctness AbX (by
 rintro P_ IH ⟨a_,b,x⟩ res h
 have IH:=Ok.mk' IH
 have iE:eP Tryz.f107 0 _ vS:=⟨trivial⟩
 refine lg I ?_
 exact Wk) _ _ h⟩
instance {a_:LI} {b:LI}:Ok (rY a_ b) λr=>aval X 107 [.d (lI a_),.d (lI b)] [] (vS r):=⟨λh=>by
 unfold rY at h
 exact aB vS I Tryz.func107 I I I I I I λiE=>Wk⟩
abbrev pO (r:Arr×Int):aE:=(aE.ret (.tuple [.d (encArr r.1),.d (iZ r.2)]) [])
instance Bf7:Jn 47 1 88 (Int×Int×(List Arr)):=⟨λy=>[],λy=>[(12,[(0,.d (iZ y.1)),(1,.d (iZ y.2.1)),(2,.d (.list 2 (List.map aW y.2.2)))])]⟩
instance Bf8:Jn 47 1 97 (Int×Int×(List Arr)):=⟨λy=>[],λy=>[(13,[(0,.d (iZ y.1)),(1,.d (iZ y.2.1)),(2,.d (.list 2 (List.map aW y.2.2)))])]⟩
instance Bf9:Jn 47 1 70 (Int):=⟨λy=>[(13,.d (iZ y))],λy=>[]⟩
abbrev Ag3 (a:Int×Arr×Arr×Int) (res:Except (Arr×Int) (Unit)):Prop:=match a with|(op_,a_,b,x)=>cD X 47 (aN [1,0,1,0,0] (aO Tryz.f47)) (aH (X.H 47 2) 3) (aJ 0 (X.H 47 1000000) 3 (kD X Tryz.f47 0 pO (λ(_:Unit)=>(⟨[(0,.d (iZ op_)),(4,.c (.ptr 0 0)),(5,.c (.ptr 1 0)),(6,.c (.ptr 2 0))],[(2,[oI [],oC []]),(1,[.d (lI b.shape),.d (lC b.cells)]),(0,[.d (lI a_.shape),.d (lC a_.cells)])],3,[],none⟩:St)) res)) ⟨[(0,.d (iZ op_)),(4,.c (.ptr 0 0)),(5,.c (.ptr 1 0)),(6,.c (.ptr 2 0)),(22,.c (.full 2 (List.map aW [a_,b]))),(23,.d (iZ (List.length [a_,b]:Int))),(24,.d (iZ x))],[(2,[oI [],oC []]),(1,[.d (lI b.shape),.d (lC b.cells)]),(0,[.d (lI a_.shape),.d (lC a_.cells)])],3,[],none⟩
instance {a:Int×Arr×Arr×Int}:Ok (kN a) (Ag3 a):=⟨λh=>kN.partial_correctness Ag3 (by
 rintro P_ IH ⟨op_,a_,b,x⟩ res h
 have IH:=Ok.mk' IH
 have iE:eP Tryz.f47 0 _ pO:=⟨trivial⟩
 refine lg I ?_
 exact Wk) _ _ h⟩
abbrev Ag4 (a:Int×Arr×Arr×LI×Int×(List aA)) (res:Except (Arr×Int) (List aA)):Prop:=match a with|(op_,a_,b,shape,x2,out1)=>cD X 47 (aN [1,1,1,1,1,1,1,1,1,0,1,0,0] (aO Tryz.f47)) (aH (X.H 47 20) 4) (aJ 2 (X.H 47 1000002) 4 (kD X Tryz.f47 0 pO (λ(out11:(List aA))=>(⟨[(6,.c (.ptr 2 0)),(14,.c (.ptr 3 0))],[(3,[.d (lI shape),oC out11]),(2,[oI [],oC []]),(1,[.d (lI b.shape),.d (lC b.cells)]),(0,[.d (lI a_.shape),.d (lC a_.cells)])],4,[],none⟩:St)) res)) ⟨[(0,.d (iZ op_)),(4,.c (.ptr 0 0)),(5,.c (.ptr 1 0)),(6,.c (.ptr 2 0)),(14,.c (.ptr 3 0)),(73,.d (iZ 0)),(74,.d (iZ x2))],[(3,[.d (lI shape),oC out1]),(2,[oI [],oC []]),(1,[.d (lI b.shape),.d (lC b.cells)]),(0,[.d (lI a_.shape),.d (lC a_.cells)])],4,[],none⟩
instance {a:Int×Arr×Arr×LI×Int×(List aA)}:Ok (rZ a) (Ag4 a):=⟨λh=>rZ.partial_correctness Ag4 (by
 rintro P_ IH ⟨op_,a_,b,shape,x2,out1⟩ res h
 have IH:=Ok.mk' IH
 have iE:eP Tryz.f47 0 _ pO:=⟨trivial⟩
 refine lg I ?_
 exact Wk) _ _ h⟩
abbrev Ag5 (a:Int×Arr×Arr×LI×Int×Int×(List aA)) (res:Except (Arr×Int) (List aA)):Prop:=match a with|(op_,a_,b,shape,n,x4,out12)=>cD X 47 (aN [1,1,1,1,1,1,1,1,1,0,1,0,0] (aO Tryz.f47)) (aH (X.H 47 20) 4) (aJ 2 (X.H 47 1000002) 4 (kD X Tryz.f47 0 pO (λ(out13:(List aA))=>(⟨[(6,.c (.ptr 2 0)),(14,.c (.ptr 3 0))],[(3,[.d (lI shape),oC out13]),(2,[oI [],oC []]),(1,[.d (lI b.shape),.d (lC b.cells)]),(0,[.d (lI a_.shape),.d (lC a_.cells)])],4,[],none⟩:St)) res)) ⟨[(0,.d (iZ op_)),(4,.c (.ptr 0 0)),(5,.c (.ptr 1 0)),(6,.c (.ptr 2 0)),(14,.c (.ptr 3 0)),(73,.d (iZ n)),(74,.d (iZ x4))],[(3,[.d (lI shape),oC out12]),(2,[oI [],oC []]),(1,[.d (lI b.shape),.d (lC b.cells)]),(0,[.d (lI a_.shape),.d (lC a_.cells)])],4,[],none⟩
instance {a:Int×Arr×Arr×LI×Int×Int×(List aA)}:Ok (mW a) (Ag5 a):=⟨λh=>mW.partial_correctness Ag5 (by
 rintro P_ IH ⟨op_,a_,b,shape,n,x4,out12⟩ res h
 have IH:=Ok.mk' IH
 have iE:eP Tryz.f47 0 _ pO:=⟨trivial⟩
 refine lg I ?_
 exact Wk) _ _ h⟩
instance {op_:Int} {a_:Arr} {b:Arr}:Ok (yO op_ a_ b) λr=>aval X 47 [.d (iZ op_),.d (encArr a_),.d (encArr b)] [] (pO r):=⟨λh=>by
 unfold yO at h
 exact aB pO I Tryz.func47 I I I I I I λiE=>Wk⟩
abbrev xI (r:Int):aE:=(aE.ret (.d (iZ r)) [])
abbrev zL (a:LI×Int×Int) (res:Int):Prop:=match a with|(a_,m1,i)=>cD X 164 (aN [1,1,1,0,1,0,0] (aO Tryz.f164)) (aH (X.H 164 5) 0) (aJ 0 (X.H 164 1000000) 0 (iR (λ(m2:Int)=>(⟨[(3,.d (iZ m2))],[],0,[],none⟩:St)) res)) ⟨[(0,.d (lI a_)),(3,.d (iZ m1)),(4,.d (iZ i))],[],0,[],none⟩
instance {a:LI×Int×Int}:Ok (gH a) (zL a):=⟨λh=>gH.partial_correctness zL (by
 rintro P_ IH ⟨a_,m1,i⟩ res h
 have IH:=Ok.mk' IH
 have iE:eP Tryz.f164 0 _ xI:=⟨trivial⟩
 refine lg I ?_
 exact Wk) _ _ h⟩
instance {a_:LI}:Ok (pN a_) λr=>aval X 164 [.d (lI a_)] [] (xI r):=⟨λh=>by
 unfold pN at h
 exact aB xI I Tryz.func164 I I I I I I λiE=>Wk⟩
abbrev uJ (r:LI×Int):aE:=(aE.ret (.tuple [.d (lI r.1),.d (iZ r.2)]) [])
abbrev AaZ (a:Arr×LI×Int) (res:Except (LI×Int) LI):Prop:=match a with|(s,shape1,x)=>cD X 95 (aN [1,1,1,0,1,0,0] (aO Tryz.f95)) (aH (X.H 95 5) 1) (aJ 0 (X.H 95 1000000) 1 (kD X Tryz.f95 0 uJ (λ(shape3:LI)=>(⟨[(4,.c (.own 1 (List.map (D.int .i64) shape3)))],[(0,[.d (lI s.shape),.d (lC s.cells)])],1,[],none⟩:St)) res)) ⟨[(4,.c (.own 1 (List.map (D.int .i64) shape1))),(16,.d (lC s.cells)),(17,.d (iZ (List.length s.cells:Int))),(18,.d (iZ x))],[(0,[.d (lI s.shape),.d (lC s.cells)])],1,[],none⟩
instance {a:Arr×LI×Int}:Ok (iA a) (AaZ a):=⟨λh=>iA.partial_correctness AaZ (by
 rintro P_ IH ⟨s,shape1,x⟩ res h
 have IH:=Ok.mk' IH
 have iE:eP Tryz.f95 0 _ uJ:=⟨trivial⟩
 refine lg I ?_
 exact Wk) _ _ h⟩
instance {s:Arr}:Ok (qU s) λr=>aval X 95 [.d (encArr s)] [] (uJ r):=⟨λh=>by
 unfold qU at h
 exact aB uJ I Tryz.func95 I I I I I I λiE=>Wk⟩
abbrev mO (r:Arr×Int):aE:=(aE.ret (.tuple [.d (encArr r.1),.d (iZ r.2)]) [])
abbrev zF (a:Arr×Arr×Int) (res:Except (Arr×Int) (Unit)):Prop:=match a with|(s,a_,x)=>cD X 44 (aN [1,0,1,0,0] (aO Tryz.f44)) (aH (X.H 44 2) 3) (aJ 0 (X.H 44 1000000) 3 (kD X Tryz.f44 0 mO (λ(_:Unit)=>(⟨[(2,.c (.ptr 0 0)),(3,.c (.ptr 1 0)),(4,.c (.ptr 2 0))],[(2,[oI [],oC []]),(1,[.d (lI a_.shape),.d (lC a_.cells)]),(0,[.d (lI s.shape),.d (lC s.cells)])],3,[],none⟩:St)) res)) ⟨[(2,.c (.ptr 0 0)),(3,.c (.ptr 1 0)),(4,.c (.ptr 2 0)),(16,.c (.full 2 (List.map aW [s,a_]))),(17,.d (iZ (List.length [s,a_]:Int))),(18,.d (iZ x))],[(2,[oI [],oC []]),(1,[.d (lI a_.shape),.d (lC a_.cells)]),(0,[.d (lI s.shape),.d (lC s.cells)])],3,[],none⟩
instance {a:Arr×Arr×Int}:Ok (gE a) (zF a):=⟨λh=>gE.partial_correctness zF (by
 rintro P_ IH ⟨s,a_,x⟩ res h
 have IH:=Ok.mk' IH
 have iE:eP Tryz.f44 0 _ mO:=⟨trivial⟩
 refine lg I ?_
 exact Wk) _ _ h⟩
abbrev zG (a:Arr×Arr×LI×Int×Int×(List aA)) (res:(List aA)):Prop:=match a with|(s,a_,shape,n,x1,out1)=>cD X 44 (aN [1,1,1,1,1,1,1,1,0,1,0,0] (aO Tryz.f44)) (aH (X.H 44 18) 4) (aJ 2 (X.H 44 1000002) 4 (iR (λ(out11:(List aA))=>(⟨[(4,.c (.ptr 2 0)),(12,.c (.ptr 3 0))],[(3,[.d (lI shape),oC out11]),(2,[oI [],oC []]),(1,[.d (lI a_.shape),.d (lC a_.cells)]),(0,[.d (lI s.shape),.d (lC s.cells)])],4,[],none⟩:St)) res)) ⟨[(3,.c (.ptr 1 0)),(4,.c (.ptr 2 0)),(12,.c (.ptr 3 0)),(58,.d (iZ n)),(59,.d (iZ x1))],[(3,[.d (lI shape),oC out1]),(2,[oI [],oC []]),(1,[.d (lI a_.shape),.d (lC a_.cells)]),(0,[.d (lI s.shape),.d (lC s.cells)])],4,[],none⟩
instance {a:Arr×Arr×LI×Int×Int×(List aA)}:Ok (gF a) (zG a):=⟨λh=>gF.partial_correctness zG (by
 rintro P_ IH ⟨s,a_,shape,n,x1,out1⟩ res h
 have IH:=Ok.mk' IH
 have iE:eP Tryz.f44 0 _ mO:=⟨trivial⟩
 refine lg I ?_
 exact Wk) _ _ h⟩
abbrev zH (a:Arr×Arr×LI×Int×Int×(List aA)) (res:(List aA)):Prop:=match a with|(s,a_,shape,n,x3,out12)=>cD X 44 (aN [1,1,1,1,1,1,1,1,0,1,0,0] (aO Tryz.f44)) (aH (X.H 44 18) 4) (aJ 2 (X.H 44 1000002) 4 (iR (λ(out13:(List aA))=>(⟨[(4,.c (.ptr 2 0)),(12,.c (.ptr 3 0))],[(3,[.d (lI shape),oC out13]),(2,[oI [],oC []]),(1,[.d (lI a_.shape),.d (lC a_.cells)]),(0,[.d (lI s.shape),.d (lC s.cells)])],4,[],none⟩:St)) res)) ⟨[(3,.c (.ptr 1 0)),(4,.c (.ptr 2 0)),(12,.c (.ptr 3 0)),(58,.d (iZ n)),(59,.d (iZ x3))],[(3,[.d (lI shape),oC out12]),(2,[oI [],oC []]),(1,[.d (lI a_.shape),.d (lC a_.cells)]),(0,[.d (lI s.shape),.d (lC s.cells)])],4,[],none⟩
instance {a:Arr×Arr×LI×Int×Int×(List aA)}:Ok (lU a) (zH a):=⟨λh=>lU.partial_correctness zH (by
 rintro P_ IH ⟨s,a_,shape,n,x3,out12⟩ res h
 have IH:=Ok.mk' IH
 have iE:eP Tryz.f44 0 _ mO:=⟨trivial⟩
 refine lg I ?_
 exact Wk) _ _ h⟩
instance {s:Arr} {a_:Arr}:Ok (pH s a_) λr=>aval X 44 [.d (encArr s),.d (encArr a_)] [] (mO r):=⟨λh=>by
 unfold pH at h
 exact aB mO I Tryz.func44 I I I I I I λiE=>Wk⟩
abbrev AdU (r:Int):aE:=(aE.ret (.d (iZ r)) [])
abbrev AeU (a:Arr×LI×Int×Int) (res:Int):Prop:=match a with|(a_,l,n,x)=>cD X 168 (aN [1,1,0,1,0,0] (aO Tryz.f168)) (aH (X.H 168 3) 1) (aJ 0 (X.H 168 1000000) 1 (iR (λ(n1:Int)=>(⟨[(3,.d (iZ n1))],[(0,[.d (lI a_.shape),.d (lC a_.cells)])],1,[],none⟩:St)) res)) ⟨[(3,.d (iZ n)),(8,.d (lI l)),(9,.d (iZ (List.length l:Int))),(10,.d (iZ x))],[(0,[.d (lI a_.shape),.d (lC a_.cells)])],1,[],none⟩
instance {a:Arr×LI×Int×Int}:Ok (lF a) (AeU a):=⟨λh=>lF.partial_correctness AeU (by
 rintro P_ IH ⟨a_,l,n,x⟩ res h
 have IH:=Ok.mk' IH
 have iE:eP Tryz.f168 0 _ AdU:=⟨trivial⟩
 refine lg I ?_
 exact Wk) _ _ h⟩
instance {a_:Arr}:Ok (qG a_) λr=>aval X 168 [.d (encArr a_)] [] (AdU r):=⟨λh=>by
 unfold qG at h
 exact aB AdU I Tryz.func168 I I I I I I λiE=>Wk⟩
instance {a_:Arr} {from_:Int} {n:Int}:Ok (kI a_ from_ n) λr=>aval X 171 [.d (encArr a_),.d (iZ from_),.d (iZ n)] [] (aE.ret (.d (encArr r)) []):=⟨λ{r} h=>by
 unfold kI at h
 refine kY (tm:=[(0,.d (encArr a_)),(1,.d (iZ from_)),(2,.d (iZ n))]) (hp:=[]) (n:=0) I Tryz.func171 I I I I I I (ra (nid':=2) I (S_ (rn 1 I ?_)))
 obtain⟨k,hk,h⟩:=B h
 have hv:=Ok.ok hk
 refine po (nR (hv) I I I I I I I I I) I I (on 1 I (rz (S_ (drn (m:=15) 4 I I ?_))))
 obtain⟨l,hk,h⟩:=B h
 refine pd (Al9 hk I I I I I I) I I I I I ?_
 obtain⟨l1,hk,h⟩:=B h
 refine pd (AvQ hk I I I I I I I I I I I I ) I I I I I (don 3 I ?_)
 obtain⟨l2,hk,h⟩:=B h
 refine pdm aD (aA.mk 0 0 []) hk I I I I I I I I I I I I I I I (don 3 I (dz (by kernel_rfl) (S_ (drn (m:=29) 12 I I ?_))))
 obtain⟨l3,hk,h⟩:=B h
 refine pd (ArR hk I I I I I I I) I I I I I ?_
 obtain⟨l4,hk,h⟩:=B h
 refine pd (Bh3 aD hk I I I I I I I I I I ) I I I I I (dz (by kernel_rfl) (ra I (R_ ?_)))
 obtain⟨cells,hkFcells,h⟩:=B h
 cases h
 exact .retF I I (AbP I I I (lQ (iJ aD I hkFcells I I I) (lQ I AbR)) AfR) I
 ⟩
abbrev AhX (r:Arr):aE:=(aE.ret (.d (encArr r)) [])
instance BcJ:Jn 169 1 6 LI:=⟨λy=>[],λy=>[(0,[(0,.d (lI y))])]⟩
instance {a_:Arr}:Ok (gW a_) λr=>aval X 169 [.d (encArr a_)] [] (AhX r):=⟨λh=>by
 unfold gW at h
 exact aB AhX I Tryz.func169 I I I I I I λiE=>Wk⟩
abbrev AmL (r:Arr):aE:=(aE.ret (.d (encArr r)) [])
instance {n:Int} {a_:Arr}:Ok (yQ n a_) λr=>aval X 104 [.d (iZ n),.d (encArr a_)] [] (AmL r):=⟨λh=>by
 unfold yQ at h
 exact aB AmL I Tryz.func104 I I I I I I λiE=>Wk⟩
abbrev yE (r:Arr×Int):aE:=(aE.ret (.tuple [.d (encArr r.1),.d (iZ r.2)]) [])
abbrev AgD (a:Arr×Arr×Int) (res:Except (Arr×Int) (Unit)):Prop:=match a with|(l,a_,x)=>cD X 100 (aN [1,1,0,1,0,0] (aO Tryz.f100)) (aH (X.H 100 4) 3) (aJ 0 (X.H 100 1000000) 3 (kD X Tryz.f100 0 yE (λ(_:Unit)=>(⟨[(2,.c (.ptr 0 0)),(3,.c (.ptr 1 0)),(4,.c (.ptr 2 0))],[(2,[oI [],oC []]),(1,[.d (lI a_.shape),.d (lC a_.cells)]),(0,[.d (lI l.shape),.d (lC l.cells)])],3,[],none⟩:St)) res)) ⟨[(2,.c (.ptr 0 0)),(3,.c (.ptr 1 0)),(4,.c (.ptr 2 0)),(31,.d (lC l.cells)),(32,.d (iZ (List.length l.cells:Int))),(33,.d (iZ x))],[(2,[oI [],oC []]),(1,[.d (lI a_.shape),.d (lC a_.cells)]),(0,[.d (lI l.shape),.d (lC l.cells)])],3,[],none⟩
instance {a:Arr×Arr×Int}:Ok (nE a) (AgD a):=⟨λh=>nE.partial_correctness AgD (by
 rintro P_ IH ⟨l,a_,x⟩ res h
 have IH:=Ok.mk' IH
 have iE:eP Tryz.f100 0 _ yE:=⟨trivial⟩
 refine lg I ?_
 exact Wk) _ _ h⟩
abbrev AgE (a:Arr×Arr×LI×Int×Int×(List aA)) (res:(List aA)):Prop:=match a with|(l,a_,l3,k,x2,out1)=>cD X 100 (aN [1,1,1,1,1,1,0,1,0,0] (aO Tryz.f100)) (aH (X.H 100 17) 14) (aJ 3 (X.H 100 1000003) 14 (iR (λ(out11:(List aA))=>(⟨[(4,.c (.ptr 2 0)),(8,.c (.ptr 12 0))],[(12,[.d (lI l3),oC out11]),(2,[oI [],oC []]),(1,[.d (lI a_.shape),.d (lC a_.cells)]),(0,[.d (lI l.shape),.d (lC l.cells)])],14,[],none⟩:St)) res)) ⟨[(3,.c (.ptr 1 0)),(4,.c (.ptr 2 0)),(8,.c (.ptr 12 0)),(11,.d (iZ k)),(79,.d (lC l.cells)),(80,.d (iZ (List.length l.cells:Int))),(81,.d (iZ x2))],[(12,[.d (lI l3),oC out1]),(2,[oI [],oC []]),(1,[.d (lI a_.shape),.d (lC a_.cells)]),(0,[.d (lI l.shape),.d (lC l.cells)])],14,[],none⟩
instance {a:Arr×Arr×LI×Int×Int×(List aA)}:Ok (kQ a) (AgE a):=⟨λh=>kQ.partial_correctness AgE (by
 rintro P_ IH ⟨l,a_,l3,k,x2,out1⟩ res h
 have IH:=Ok.mk' IH
 have iE:eP Tryz.f100 0 _ yE:=⟨trivial⟩
 refine lg I ?_
 exact Wk) _ _ h⟩
instance {l:Arr} {a_:Arr}:Ok (vL l a_) λr=>aval X 100 [.d (encArr l),.d (encArr a_)] [] (yE r):=⟨λh=>by
 unfold vL at h
 exact aB yE I Tryz.func100 I I I I I I λiE=>Wk⟩
abbrev AcJ (r:Arr):aE:=(aE.ret (.d (encArr r)) [])
abbrev AdA (a:Arr×LI×Int×Int×(List aA)) (res:(List aA)):Prop:=match a with|(a_,shape,n,x1,out1)=>cD X 217 (aN [1,1,1,0,1,0,0] (aO Tryz.f217)) (aH (X.H 217 4) 3) (aJ 0 (X.H 217 1000000) 3 (iR (λ(out11:(List aA))=>(⟨[(4,.c (.ptr 1 0)),(7,.c (.ptr 2 0))],[(2,[.d (lI shape),oC out11]),(1,[oI [],oC []]),(0,[.d (lI a_.shape),.d (lC a_.cells)])],3,[],none⟩:St)) res)) ⟨[(2,.c (.ptr 0 0)),(4,.c (.ptr 1 0)),(7,.c (.ptr 2 0)),(15,.d (iZ n)),(16,.d (iZ x1))],[(2,[.d (lI shape),oC out1]),(1,[oI [],oC []]),(0,[.d (lI a_.shape),.d (lC a_.cells)])],3,[],none⟩
instance {a:Arr×LI×Int×Int×(List aA)}:Ok (kA a) (AdA a):=⟨λh=>kA.partial_correctness AdA (by
 rintro P_ IH ⟨a_,shape,n,x1,out1⟩ res h
 have IH:=Ok.mk' IH
 have iE:eP Tryz.f217 0 _ AcJ:=⟨trivial⟩
 refine lg I ?_
 exact Wk) _ _ h⟩
instance {a_:Arr} {shape:LI}:Ok (iW a_ shape) λr=>aval X 217 [.d (encArr a_),.d (lI shape)] [] (AcJ r):=⟨λh=>by
 unfold iW at h
 exact aB AcJ I Tryz.func217 I I I I I I λiE=>Wk⟩
abbrev AmM (r:LI):aE:=(aE.ret (.d (lI r)) [])
instance {shape:LI} {axis:Int}:Ok (p_pick_with shape axis) λr=>aval X 218 [.d (lI shape),.d (iZ axis)] [] (AmM r):=⟨λh=>by
 unfold p_pick_with at h
 exact aB AmM I Tryz.func218 I I I I I I λiE=>Wk⟩
abbrev AfM (r:LI):aE:=(aE.ret (.d (lI r)) [])
instance {shape:LI} {axis:Int}:Ok (p_pick_without shape axis) λr=>aval X 219 [.d (lI shape),.d (iZ axis)] [] (AfM r):=⟨λh=>by
 unfold p_pick_without at h
 exact aB AfM I Tryz.func219 I I I I I I λiE=>Wk⟩
abbrev vC (r:Arr×Arr×Int×Int):aE:=(aE.ret (.tuple [.d (encArr r.1),.d (encArr r.2.1),.d (iZ r.2.2.1),.d (iZ r.2.2.2)]) [])
instance BfD:Jn 167 1 29 (Int):=⟨λy=>[(10,.d (iZ y))],λy=>[]⟩
instance BfE:Jn 167 0 0 (LI×(List aA)×LI×(List aA)):=⟨λy=>[],λy=>[(0,[(0,.d (lI y.2.2.1)),(1,.d (lC y.2.2.2))]),(1,[(0,.d (lI y.1)),(1,.d (lC y.2.1))])]⟩
abbrev AgF (a:Int×LI×(List aA)×LI×(List aA)×LI×LI×Int) (res:Except (Arr×Arr×Int×Int) (Unit)):Prop:=match a with|(axis,x0,x11,x01,x12,x10,y,x13)=>cD X 167 (aN [1,1,1,1,1,1,0,1,0,0] (aO Tryz.f167)) (aH (X.H 167 19) 14) (aJ 1 (X.H 167 1000001) 14 (kD X Tryz.f167 0 vC (λ(_:Unit)=>(⟨[(3,.c (.ptr 0 0)),(4,.c (.ptr 1 0)),(6,.c (.ptr 2 0)),(7,.c (.ptr 3 0)),(10,.d (iZ axis))],[(3,[oI [],oC []]),(2,[oI [],oC []]),(1,[.d (lI x0),.d (lC x11)]),(0,[.d (lI x01),.d (lC x12)])],14,[],none⟩:St)) res)) ⟨[(3,.c (.ptr 0 0)),(4,.c (.ptr 1 0)),(6,.c (.ptr 2 0)),(7,.c (.ptr 3 0)),(10,.d (iZ axis)),(12,.d (lI x10)),(13,.d (lI y)),(101,.d (iZ (List.length x10:Int))),(102,.d (iZ x13))],[(3,[oI [],oC []]),(2,[oI [],oC []]),(1,[.d (lI x0),.d (lC x11)]),(0,[.d (lI x01),.d (lC x12)])],14,[],none⟩
instance {a:Int×LI×(List aA)×LI×(List aA)×LI×LI×Int}:Ok (nF a) (AgF a):=⟨λh=>nF.partial_correctness AgF (by
 rintro P_ IH ⟨axis,x0,x11,x01,x12,x10,y,x13⟩ res h
 have IH:=Ok.mk' IH
 have iE:eP Tryz.f167 0 _ vC:=⟨trivial⟩
 refine lg I ?_
 exact Wk) _ _ h⟩
abbrev AgG (a:Int×LI×(List aA)×LI×(List aA)×LI×LI×Int) (res:Except (Arr×Arr×Int×Int) (Unit)):Prop:=match a with|(axis1,x02,x110,x03,x111,x22,y3,x23)=>cD X 167 (aN [1,1,1,1,1,1,0,1,0,0] (aO Tryz.f167)) (aH (X.H 167 19) 14) (aJ 1 (X.H 167 1000001) 14 (kD X Tryz.f167 0 vC (λ(_:Unit)=>(⟨[(3,.c (.ptr 0 0)),(4,.c (.ptr 1 0)),(6,.c (.ptr 2 0)),(7,.c (.ptr 3 0)),(10,.d (iZ axis1))],[(3,[oI [],oC []]),(2,[oI [],oC []]),(1,[.d (lI x02),.d (lC x110)]),(0,[.d (lI x03),.d (lC x111)])],14,[],none⟩:St)) res)) ⟨[(3,.c (.ptr 0 0)),(4,.c (.ptr 1 0)),(6,.c (.ptr 2 0)),(7,.c (.ptr 3 0)),(10,.d (iZ axis1)),(12,.d (lI x22)),(13,.d (lI y3)),(101,.d (iZ (List.length x22:Int))),(102,.d (iZ x23))],[(3,[oI [],oC []]),(2,[oI [],oC []]),(1,[.d (lI x02),.d (lC x110)]),(0,[.d (lI x03),.d (lC x111)])],14,[],none⟩
instance {a:Int×LI×(List aA)×LI×(List aA)×LI×LI×Int}:Ok (nG a) (AgG a):=⟨λh=>nG.partial_correctness AgG (by
 rintro P_ IH ⟨axis1,x02,x110,x03,x111,x22,y3,x23⟩ res h
 have IH:=Ok.mk' IH
 have iE:eP Tryz.f167 0 _ vC:=⟨trivial⟩
 refine lg I ?_
 exact Wk) _ _ h⟩
instance {a_:Arr} {b:Arr} {last:Bool}:Ok (yR a_ b last) λr=>aval X 167 [.d (encArr a_),.d (encArr b),.d (.bool last)] [] (vC r):=⟨λh=>by
 unfold yR at h
 exact aB vC I Tryz.func167 I I I I I I λiE=>Wk⟩
end Go.AM.Seat
