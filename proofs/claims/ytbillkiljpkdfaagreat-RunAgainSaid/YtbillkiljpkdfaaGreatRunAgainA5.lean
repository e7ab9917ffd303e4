/- Part of a proof about the given program: the abstract machine, the printed functions, the plain laws. -/
import Derived.Test.YtbillkiljpkdfaaGreatRunAgainA4
set_option linter.all false
set_option maxRecDepth 100000
set_option maxHeartbeats 4000000
namespace Go.AM.Seat
open Go Go.AM
theorem AtS {s:List (List aA)} {b:List aA} (hb:Ao6 b) (hs:s.length<=16384):∀(d:Nat) (k:Nat),k+d=s.length->T (bQ (s,b,(k:Int))) Any
 |0,k,h=>by
  rw[bQ]
  exact T.ite (λh'=>by simp at h'; omega) (λ_=>T.any)
 |d+1,k,h=>by
  rw[bQ]
  refine T.ite (λ_=>?_) (λ_=>T.any)
  refine T.bind (T.lget (Q:=Any) oM oM λ_ _=>trivial) (λy _=>?_)
  unfold vN
  refine T.bind (T.bind (AiM hb) (λ_ _=>T.any)) (λx _=>T.ite (λ_=>T.any) (λ_=>?_))
  rw[aE oM oM]
  exact AtS hb hs d (k+1) oM
theorem BhY {s:List (List aA)} {b:List aA} (hb:Ao6 b) (hs:s.length<=16384):T (cI s b) Any:=by
 unfold cI eH
 refine T.bind (R:=Any) (T.bind (AtS hb hs s.length 0 oM) (λv _=>?_)) (λ_ _=>T.any)
 match v with
 |.error _=>exact T.any
 |.ok _=>exact T.any
theorem Ao2 {x a:Arr} {x0:List Int} {n:Nat} {b:List Int} {rows:List (List aA)} {g k:Int} (hv:Val 0 a) (hi:AvT a g k rows) (hR:∀r∈rows,Ao6 r) (hg:(rows.length:Int)=g) (hgk:rows≠[]->g*k=a.cells.length) (hg2:g<=16384) (hk0:rows≠[]->0<=k) :
  ∀(d:Nat) (i:Nat) (kept:List (List aA)) (out:List aA),i+d=rows.length->kept.length<=i->(out.length:Int)=kept.length*k->(∀c∈out,c∈a.cells) ->
  T (kV (x,x0,n,b,rows,kept,(i:Int),out)) (λr=>r.1.length<=rows.length/\(r.2.length:Int)=r.1.length*k/\∀c∈r.2,c∈a.cells)
 |0,i,kept,out,h,hk,ho,hc=>by
  rw[kV]
  exact T.ite (λh'=>by simp at h'; omega) (λ_=>T.ret ⟨by simp only; omega,ho,hc⟩)
 |d+1,i,kept,out,h,hk,ho,hc=>by
  have hle:=hv.i.sized.hi
  rw[kV]
  refine T.ite (λ_=>?_) (λh'=>by simp at h'; omega)
  refine T.bind (R:=λr=>r.1.length<=i+1/\(r.2.length:Int)=r.1.length*k/\∀c∈r.2,c∈a.cells) ?_ (λr hr=>?_)
  ·refine T.bind (T.lget (Q:=λv=>v∈rows) oM oM λ_ h=>List.mem_of_getElem? h) (λy hy=>?_)
   have hne:=List.ne_nil_of_mem hy
   have k0:=hk0 hne
   refine T.bind (BhY (hR y hy) oM) (λx4 _=>T.ite (λ_=>?_) (λ_=>T.ret ⟨by simp only; omega,ho,hc⟩))
   obtain⟨hy1,hy2⟩:=hi.all y hy
   have hkk:(kept.length:Int)*k<=g*k:=Int.mul_le_mul_of_nonneg_right oM k0
   have hkg:=hgk hne
   have hk1:k<=16384:=AuW hle hg hgk hne
   refine T.bind (eF (by simp; omega)) (λw hw=>?_)
   subst hw
   refine T.bind (eF oM) (λw hw=>?_)
   subst hw
   refine T.ret ⟨by simp; omega,?_,?_⟩
   ·simp only[List.length_append,List.length_singleton]
    rw[Int.natCast_add,Int.natCast_add,Int.add_mul,ho,hy1]; simp
   intro c hc'
   rcases List.mem_append.1 hc' with hc' | hc'
   ·exact hc c hc'
   exact hy2 c hc'
  obtain⟨r1,r2⟩:=r
  obtain⟨g1,g2,g3⟩:=hr
  simp only at g1 g2 g3 ⊢
  rw[aE oM oM]
  exact Ao2 hv hi hR hg hgk hg2 hk0 d (i+1) r1 r2 oM g1 g2 g3
theorem AoJ {a:Arr} (hv:Val 0 a) (h:a.shape=[]):Val 0 (Arr.mk [1] a.cells):=by
 obtain⟨c,hc⟩:=yJ hv (by rw[h]; simp)
 refine AmV ?_ sM hv.i.cells
 rw[hc]
 exact AeF (n:=1) oM oM
theorem Ak2:∀{s:List Int} (h:0<s.length),aS s=s[0]*aS (s.drop 1)
 |d::r,_=>rfl
theorem BfU:∀{s:List Int} {v:Int} (h:0<s.length),s.set 0 v=v::s.drop 1
 |d::r,_,_=>rfl
theorem Bg1 {a:Arr} {m:Nat} (hv:Val 0 a) (hm:Cw m a.cells):T (vA a) (λr=>Val 0 r/\Cw m r.cells):=by
 unfold vA
 refine T.bind (T.val (tQ a 0 hv) (Q:=λv=>v=a) rfl) (λx hx=>?_)
 subst hx
 refine T.bind (R:=λs=>0<s.length/\Val 0 (Arr.mk s x.cells)) (T.ite (λh=>T.ret ?_) (λh=>T.ret ?_)) (λs hs=>?_)
 ·have:x.shape=[]:=List.length_eq_zero_iff.1 (by
    have:(x.shape.length:Int)=0:=by simpa using h
    omega)
  exact⟨sM,AoJ hv this⟩
 ·have:(x.shape.length:Int)≠0:=by simpa using h
  exact⟨oM,by cases x; exact hv⟩
 obtain⟨hpos,hvs⟩:=hs
 have hz:=hvs.i.sized
 have hrk:s.length<=8:=hz.rank
 have hle:=hz.hi
 have hd0:s[0]<=16384:=hvs.i.dims _ (List.getElem_mem hpos)
 have hp0:0<=s[0]:=hz.pos _ (List.getElem_mem hpos)
 refine T.bind (AhU hrk) (λc hc=>?_)
 subst hc
 refine T.bind (BbB hvs hpos) (λrows hrows=>?_)
 obtain⟨k,h1,h2,h3⟩:=hrows
 have h1:(rows.length:Int)=s[0]:=h1
 have hR:=BbO hvs h3 (AuW hle h1 h2)
 have e0:s=s[0]::s.drop 1:=by rw[←List.drop_eq_getElem_cons hpos]; rfl
 have hprod:s[0]*aS (s.drop 1)=x.cells.length:=by
  have:=hz.prod
  have e1:aS s=s[0]*aS (s.drop 1):=Ak2 hpos
  rw[←e1]; exact this
 have hr0:0<=aS (s.drop 1):=nD λd hd=>hz.pos d (List.mem_of_mem_drop hd)
 have hk:rows≠[]->k=aS (s.drop 1):=λhne=>by
  have hg:1<=s[0]:=by have:=List.length_pos_iff.2 hne; omega
  have:s[0]*k=s[0]*aS (s.drop 1):=by rw[hprod]; exact h2 hne
  exact Int.eq_of_mul_eq_mul_left oM this
 refine T.bind (Ao2 hvs h3 hR h1 h2 hd0 (λhne=>by rw[hk hne]; exact hr0) rows.length 0 [] [] oM sM sM sM) (λr hr=>?_)
 obtain⟨kept,out⟩:=r
 obtain⟨g1,g2,g3⟩:=hr
 simp only at g1 g2 g3 ⊢
 refine T.bind (pX (n:=s.length) oM oM) (λj hj=>?_)
 obtain rfl:j=0:=oM
 refine T.bind (T.val (by unfold oL; rw[if_pos hpos]) (Q:=λv=>v=(kept.length:Int)::s.drop 1) (BfU hpos)) (λb1 hb1=>?_)
 subst hb1
 refine T.bind (vQ (by simp; omega)) (λsh hsh=>?_)
 subst hsh
 have hdim:∀d∈(kept.length:Int)::s.drop 1,0<=d/\d<=16384:=by
  intro d hd
  rcases List.mem_cons.1 hd with rfl|hd
  ·omega
  exact⟨hz.pos d (List.mem_of_mem_drop hd),hvs.i.dims d (List.mem_of_mem_drop hd)⟩
 have hlen:(out.length:Int)=kept.length*aS (s.drop 1):=by
  rcases Nat.eq_zero_or_pos kept.length with h0|h0
  ·rw[g2,h0]; simp
  rw[g2,hk (List.ne_nil_of_length_pos oM)]
 have hle2:(out.length:Int)<=x.cells.length:=by
  rw[hlen,←hprod]
  exact Int.mul_le_mul_of_nonneg_right oM hr0
 refine T.ret (frv hvs hm ?_ (λd hd=>(hdim d hd).2) λc hc=>.inl (g3 c hc))
 have hle':(x.cells.length:Int)<=16384:=hle
 refine⟨by simp; omega,λd hd=>(hdim d hd).1,hlen.symm,oM,oM,λhne d hd=>⟨?_,(hdim d hd).2⟩⟩
 have hx:(x.cells.length:Int)≠0:=oM
 rcases List.mem_cons.1 hd with rfl|hd
 ·rcases Nat.eq_zero_or_pos kept.length with h0|h0
  ·rw[hlen,h0] at hne; simp at hne
  ·omega
 exact (hz.dim hx d (List.mem_of_mem_drop hd)).1
theorem BfS {op:Int} {a:Arr} {m:Nat} (hm:Cw m a.cells):T (sB op a) (Res m):=by
 unfold sB
 refine T.bind (AyN (by unfold Few; simp)) (λe he=>?_)
 refine T.ite (λh=>T.ret (Res.err (gA h))) (λh=>?_)
 have hv:Val 0 a:=he (eD h) a sM
 refine T.bind (R:=Any) (T.ite (λ_=>T.any) (λ_=>T.any)) (λx _=>?_)
 refine T.ite (λ_=>T.bind (Bh7 hv) (λr hr=>T.ret hr)) (λ_=>?_)
 refine T.ite (λ_=>T.bind (Bg1 hv hm) (λr hr=>T.ret λ_=>hr)) (λ_=>T.ret (Res.err oM))
theorem AtB {s:List aA} {b:aA} (hs:Ao6 s):∀(d:Nat) (k:Nat),k+d=s.length->T (bU (s,b,(k:Int))) Any
 |0,k,h=>by
  rw[bU]
  exact T.ite (λh'=>by simp at h'; omega) (λ_=>T.any)
 |d+1,k,h=>by
  have:=hs.len
  rw[bU]
  refine T.ite (λ_=>?_) (λ_=>T.any)
  refine T.bind (T.lget (Q:=λv=>v∈s) oM oM λ_ h=>List.mem_of_getElem? h) (λy hy=>?_)
  unfold xW
  refine T.bind (T.bind (hs.all y hy b) (λ_ _=>T.any)) (λx _=>T.ite (λ_=>T.any) (λ_=>?_))
  rw[aE oM oM]
  exact AtB hs d (k+1) oM
theorem BbK {s:List aA} {b:aA} (hs:Ao6 s):T (uC s b) Any:=by
 unfold uC eO
 refine T.bind (R:=Any) (T.bind (AtB hs s.length 0 oM) (λv _=>?_)) (λ_ _=>T.ite (λ_=>T.any) (λ_=>T.any))
 match v with
 |.error _=>exact T.any
 |.ok _=>exact T.any
theorem AqS {a:Arr} (hv:Val 0 a):Ao6 a.cells:=⟨by have:=hv.i.sized.hi; omega,λc hc=>BkB (hv.i.cells c hc)⟩
theorem AyJ {a b:Arr} {n:Nat} {b1:List Int} (hv:Val 0 a) (hb:Val 0 b):∀(d:Nat) (k:Nat) (out:List aA),k+d=b.cells.length->out.length=k->(∀c∈out,vP c)->T (rG (a,b,n,b1,(k:Int),out)) (λr=>r.length=b.cells.length/\∀c∈r,vP c)
 |0,k,out,h,ho,hc=>by
  rw[rG]
  exact T.ite (λh'=>by simp at h'; omega) (λ_=>T.ret ⟨oM,hc⟩)
 |d+1,k,out,h,ho,hc=>by
  have hle:=hb.i.sized.hi
  rw[rG]
  refine T.ite (λ_=>?_) (λh'=>by simp at h'; omega)
  refine T.bind (T.lget (Q:=Any) oM oM λ_ _=>trivial) (λy _=>?_)
  refine T.bind (BbK (AqS hv)) (λx _=>?_)
  refine T.bind (eF (by simp; omega)) (λw hw=>?_)
  subst hw
  rw[aE oM oM]
  refine AyJ hv hb d (k+1) _ oM (by simp[ho]) ?_
  intro y hy
  rcases List.mem_append.1 hy with hy|hy
  ·exact hc y hy
  simp only[List.mem_singleton] at hy; subst hy; exact .mk _
theorem AyK {a b:Arr} {n:Nat} {b1:List Int} (hv:Val 0 a) (hb:Val 0 b):∀(d:Nat) (k:Nat) (out:List aA),k+d=a.cells.length->out.length=k->(∀c∈out,vP c)->T (rH (a,b,n,b1,(k:Int),out)) (λr=>r.length=a.cells.length/\∀c∈r,vP c)
 |0,k,out,h,ho,hc=>by
  rw[rH]
  exact T.ite (λh'=>by simp at h'; omega) (λ_=>T.ret ⟨oM,hc⟩)
 |d+1,k,out,h,ho,hc=>by
  have hle:=hv.i.sized.hi
  rw[rH]
  refine T.ite (λ_=>?_) (λh'=>by simp at h'; omega)
  refine T.bind (T.lget (Q:=Any) oM oM λ_ _=>trivial) (λy _=>?_)
  refine T.bind (BbK (AqS hb)) (λx _=>?_)
  refine T.bind (R:=Any) (T.ite (λ_=>T.any) (λ_=>T.any)) (λv _=>?_)
  refine T.bind (eF (by simp; omega)) (λw hw=>?_)
  subst hw
  rw[aE oM oM]
  refine AyK hv hb d (k+1) _ oM (by simp[ho]) ?_
  intro y hy
  rcases List.mem_append.1 hy with hy|hy
  ·exact hc y hy
  simp only[List.mem_singleton] at hy; subst hy; exact .mk _
theorem BfR {op:Int} {a b:Arr} {m:Nat}:T (Ab4 op a b) (Res m):=by
 unfold Ab4
 refine T.bind (AyN (by unfold Few; simp)) (λe he=>?_)
 refine T.ite (λh=>T.ret (Res.err (gA h))) (λh=>?_)
 have hv:Val 0 a:=he (eD h) a sM
 have hb:Val 0 b:=he (eD h) b sM
 refine T.ite (λ_=>T.ite (λ_=>T.ret (Res.err oM)) (λ_=>?_)) (λ_=>T.ite (λ_=>?_) (λ_=>T.ret (Res.err oM)))
 ·refine T.bind (AhU hb.i.sized.rank) (λc hc=>?_)
  subst hc
  refine T.bind (AyJ hv hb b.cells.length 0 [] oM rfl sM) (λcs hcs=>?_)
  refine T.bind (vQ rfl) (λsh hsh=>?_)
  subst hsh
  exact T.ret λ_=>Av9 (by rw[hcs.1]; exact hb.i.sized) hb.i.dims hcs.2
 refine T.bind (AhU hv.i.sized.rank) (λc hc=>?_)
 subst hc
 refine T.bind (AyK hv hb a.cells.length 0 [] oM rfl sM) (λcs hcs=>?_)
 refine T.bind (vQ rfl) (λsh hsh=>?_)
 subst hsh
 exact T.ret λ_=>Av9 (by rw[hcs.1]; exact hv.i.sized) hv.i.dims hcs.2
theorem sizeS_of {s:List Int} {n:Int} (h:nE s n):lZ s=(n,0):=AvL.sizeS_of h
theorem nE.of {s:List Int} {n:Int} (h8:s.length<=8) (h0:∀d∈s,0<=d/\d<=16384) (hp:aS s=n) (hn:n<=16384):nE s n:=by
 refine⟨h8,λd hd=>(h0 d hd).1,hp,by rw[←hp]; exact nD λd hd=>(h0 d hd).1,hn,λhne d hd=>⟨?_,(h0 d hd).2⟩⟩
 have:=h0 d hd
 by_cases hz:d=0
 ·subst hz
  rw[Ak3 hd] at hp; omega
 omega
theorem AqG {a:Arr} (hv:Val 0 a):T (iI a) (λr=>Val 0 r/\0<r.shape.length/\r.cells=a.cells):=by
 unfold iI
 refine T.bind (R:=λs=>0<s.length/\Val 0 (Arr.mk s a.cells)) (T.ite (λh=>T.ret ?_) (λh=>T.ret ?_)) (λs hs=>T.ret ⟨hs.2,hs.1,rfl⟩)
 ·have:a.shape=[]:=List.length_eq_zero_iff.1 (by
   have:(a.shape.length:Int)=0:=by simpa using h
   omega)
  exact⟨sM,AoJ hv this⟩
 have:(a.shape.length:Int)≠0:=by simpa using h
 exact⟨oM,by cases a; exact hv⟩
theorem BfC {a:Arr} (hv:Val 0 a):T (uZ a) Any:=by
 unfold uZ
 refine T.ite (λ_=>T.any) (λh=>?_)
 obtain⟨c,hc⟩:=yJ hv (by simpa using h)
 rw[hc]
 refine T.bind (kC (Q:=Any) trivial) (λ_ _=>T.ite (λ_=>T.any) (λ_=>?_))
 exact T.bind (kC (Q:=Any) trivial) (λ_ _=>T.any)
def AmZ (c:aA):Prop:=vP c\/c=aA.mk 1 32 []
theorem AmZ.chk {c:aA} (h:AmZ c):AdU c 0=0:=by
 rcases h with h|rfl
 ·exact h.chk 0
 rfl
theorem AmZ.w {c:aA} (h:AmZ c):wC c=0:=by
 rcases h with h|rfl
 ·exact h.w
 rfl
theorem BeX {a:Arr}:T (uX a) (λr=>AmZ r.1):=by
 unfold uX
 refine T.ite (λ_=>T.ret (.inl (.mk _))) (λh=>?_)
 cases hc:a.cells with
 |nil=>rw[hc] at h; simp at h
 |cons c r=>
  refine T.bind (kC (Q:=Any) trivial) (λ_ _=>T.ite (λ_=>T.ret (.inl (.mk _))) (λ_=>?_))
  exact T.bind (kC (Q:=Any) trivial) (λ_ _=>T.ite (λ_=>T.ret (.inr rfl)) (λ_=>T.ret (.inl (.mk _))))
theorem AnN {a:Arr} {l:List Int} (hf:Few l):∀(r:List Int) (k:Nat) (n:Int),l.drop k=r->mF (a,l,n,(k:Int))=some (dY n r)
 | [],k,n,h=>by
  rw[mF]; simp only[cB (cG h),fJ,if_false,dY]
 |d::r,k,n,h=>by
  have hk:=cH h
  rw[mF]
  simp only[dL hk,if_true,bO h,oJ,bJ,bZ h hf,dY]
  exact AnN hf r (k+1) _ (bC h)
theorem AuT {a:Arr} (h8:a.shape.length<=8) (h:0<a.shape.length):T (rF a) (λk=>k=dY 1 (a.shape.drop 1)):=by
 unfold rF
 refine T.bind (T.lfrom (Q:=λv=>v=a.shape.drop 1) oM oM rfl) (λl hl=>?_)
 subst hl
 exact T.bind (T.val (AnN (by unfold Few; simp; omega) (a.shape.drop 1) 0 1 rfl) (Q:=λv=>v=dY 1 (a.shape.drop 1)) rfl) (λv hv=>T.ret hv)
theorem AqX {a:Arr} (hv:Val 0 a) (h:0<a.shape.length) (hne:a.shape[0]≠0):nE (a.shape.drop 1) (aS (a.shape.drop 1))/\a.shape[0]*aS (a.shape.drop 1)=a.cells.length:=by
 have hz:=hv.i.sized
 have hp0:=hz.pos _ (List.getElem_mem h)
 have hprod:a.shape[0]*aS (a.shape.drop 1)=a.cells.length:=by rw[←Ak2 h]; exact hz.prod
 have hr0:0<=aS (a.shape.drop 1):=nD λd hd=>hz.pos d (List.mem_of_mem_drop hd)
 have:1*aS (a.shape.drop 1)<=a.shape[0]*aS (a.shape.drop 1):=Int.mul_le_mul_of_nonneg_right oM hr0
 have hle:=hz.hi
 have h8:=hz.rank
 exact⟨nE.of (by simp; omega) (λd hd=>⟨hz.pos d (List.mem_of_mem_drop hd),hv.i.dims d (List.mem_of_mem_drop hd)⟩) rfl oM,hprod⟩
theorem AdX {a:Arr} {f n:Int} {m:Nat} (hv:Val 0 a) (hm:Cw m a.cells) (h:0<a.shape.length) (h0:0<=f) (h1:0<=n) (h2:f+n<=a.shape[0]):T (lE a f n) (λr=>Val 0 r/\Cw m r.cells):=by
 unfold lE
 have hz:=hv.i.sized
 have h8:=hz.rank
 have hd0:=hv.i.dims _ (List.getElem_mem h)
 have hle:=hz.hi
 refine T.bind (AuT h8 h) (λk hk=>?_)
 refine T.bind (T.lfrom (Q:=λv=>v=a.shape.drop 1) oM oM rfl) (λl hl=>?_)
 subst hl
 refine T.bind (eF (by simp; omega)) (λl1 hl1=>?_)
 subst hl1
 have hdims:∀d∈[n]++a.shape.drop 1,0<=d/\d<=16384:=by
  intro d hd
  rcases List.mem_cons.1 hd with rfl|hd
  ·omega
  exact⟨hz.pos d (List.mem_of_mem_drop hd),hv.i.dims d (List.mem_of_mem_drop hd)⟩
 have key:∃p:Int,0<=p/\n*k=n*p/\f*k=f*p/\(f+n)*k=f*p+n*p/\0<=n*p/\0<=f*p/\f*p+n*p<=a.cells.length/\aS ([n]++a.shape.drop 1)=n*p:=by
  by_cases hne:a.shape[0]=0
  ·have hf:f=0:=oM
   have hn:n=0:=oM
   subst hf; subst hn
   refine⟨0,oM,sM,sM,sM,sM,sM,sM,by simp[aS]⟩
  obtain⟨hs,hp⟩:=AqX hv h hne
  rw[kH hs] at hk
  subst hk
  have:(f+n)*aS (a.shape.drop 1)<=a.shape[0]*aS (a.shape.drop 1):=Int.mul_le_mul_of_nonneg_right h2 hs.lo
  rw[hp,Int.add_mul] at this
  exact⟨_,hs.lo,rfl,rfl,Int.add_mul ..,Int.mul_nonneg h1 hs.lo,Int.mul_nonneg h0 hs.lo,this,rfl⟩
 obtain⟨p,_,e1,e2,e3,g1,g2,g3,g4⟩:=key
 rw[aE (x:=f+n) oM oM,e1,e2,e3,aE (x:=n*p) oM oM,aE (x:=f*p) oM oM,aE (x:=f*p+n*p) oM oM]
 refine T.bind (T.val (by unfold xP; rw[if_pos oM]) (Q:=λv=>v.length=(n*p).toNat) sM) (λl2 hl2=>?_)
 refine T.bind (T.val (by unfold Ag0; rw[if_pos ⟨g2,oM,oM⟩]) (Q:=λv=>v=(a.cells.take (f*p+n*p).toNat).drop (f*p).toNat) rfl) (λl3 hl3=>?_)
 have h3:l3.length=(n*p).toNat:=by subst hl3; rw[List.length_drop,List.length_take]; omega
 refine T.bind (T.val (by unfold BbD; rw[if_pos ⟨hl2,oM⟩]) (Q:=λv=>v=l3) (by rw[List.drop_of_length_le oM]; simp)) (λl4 hl4=>?_)
 subst hl4
 refine T.bind (vQ h3) (λcs hcs=>?_)
 subst hcs
 refine T.ret (frv hv hm ?_ (λd hd=>(hdims d hd).2) λc hc=>.inl ?_)
 ·refine nE.of (by simp; omega) hdims ?_ oM
  rw[g4]; omega
 subst hl3
 exact List.mem_of_mem_take (List.mem_of_mem_drop hc)
theorem Bj6 {a:Arr} {n:Int} {m:Nat} (hv:Val 0 a) (hm:Cw m a.cells):T (zT n a) (λr=>Val 0 r/\Cw m r.cells):=by
 unfold zT
 refine T.bind (AqG hv) (λx hx=>?_)
 obtain⟨hvx,hpos,hc⟩:=hx
 have hmx:Cw m x.cells:=by rw[hc]; exact hm
 have hp0:=hvx.i.sized.pos _ (List.getElem_mem hpos)
 have hd0:=hvx.i.dims _ (List.getElem_mem hpos)
 refine T.bind (T.val (gL (i:=0) hpos) (Q:=λv=>v=x.shape[0]) rfl) (λg hg=>?_)
 subst hg
 refine T.ite (λ_=>T.bind (AdX hvx hmx hpos oM oM oM) (λr hr=>T.ret hr)) (λh1=>?_)
 rw[aE (x:=(0:Int)-x.shape[0]) oM oM]
 refine T.ite (λ_=>T.bind (AdX hvx hmx hpos oM oM oM) (λr hr=>T.ret hr)) (λh2=>?_)
 have h1:n<x.shape[0]:=by simpa using h1
 have h2:(0:Int)-x.shape[0]<n:=by simpa using h2
 rw[aE (x:=x.shape[0]+n) oM oM,aE (x:=x.shape[0]-n) oM oM]
 refine T.ite (λh3=>?_) (λh3=>?_)
 ·have h3:n<0:=by simpa using h3
  exact T.bind (AdX hvx hmx hpos oM oM oM) (λr hr=>T.ret hr)
 have h3:0<=n:=by simpa using h3
 exact T.bind (AdX hvx hmx hpos oM oM oM) (λr hr=>T.ret hr)
theorem AtQ {n hv x5:Int} {x:Arr} {sh:List Int} {x4:aA} {N:Nat} (hN:N=Int.toNat (w64 ((w64 ((if n<(w64 (0-n)) then (w64 (0-n)) else n)-hv))*x5))) (hN2:N<=16384) (hf:AmZ x4) :
  ∀(d:Nat) (i:Nat) (l:List aA),i+d=N->l.length=N->(∀c∈l,AmZ c)->T (oG (n,x,hv,sh,x4,x5,(i:Int),l)) (λr=>r.length=N/\∀c∈r,AmZ c)
 |0,i,l,h,hl,hc=>by
  rw[oG,←hN]
  exact T.ite (λh'=>by simp at h'; omega) (λ_=>T.ret ⟨hl,hc⟩)
 |d+1,i,l,h,hl,hc=>by
  rw[oG,←hN]
  refine T.ite (λ_=>?_) (λ_=>T.ret ⟨hl,hc⟩)
  refine T.bind (pX (n:=N) oM oM) (λj hj=>?_)
  refine T.bind (T.val (by unfold oL; rw[if_pos oM]) (Q:=λv=>v=l.set j x4) rfl) (λl2 hl2=>?_)
  subst hl2
  rw[aE (x:=(i:Int)+1) oM oM]
  refine AtQ hN hN2 hf d (i+1) _ oM (by simp[hl]) ?_
  intro c hc'
  rcases List.mem_or_eq_of_mem_set hc' with hc' | rfl
  ·exact hc c hc'
  exact hf
theorem BjU {a:Arr} {n:Int} {m:Nat} (hv:Val 0 a) (hm:Cw m a.cells):T (zW n a) (Res m):=by
 unfold zW
 refine T.bind (AqG hv) (λx hx=>?_)
 obtain⟨hvx,hpos,hc⟩:=hx
 have hmx:Cw m x.cells:=by rw[hc]; exact hm
 have hzx:=hvx.i.sized
 have hp0:=hzx.pos _ (List.getElem_mem hpos)
 have hd0:=hvx.i.dims _ (List.getElem_mem hpos)
 have h8:=hzx.rank
 have hle:=hzx.hi
 refine T.ite (λ_=>T.ret (Res.err oM)) (λh1=>T.ite (λ_=>T.ret (Res.err oM)) (λh2=>?_))
 have h1:n<=16384:=by simpa using h1
 have h2:-16384<=n:=by simpa using h2
 refine T.bind (T.val (gL (i:=0) hpos) (Q:=λv=>v=x.shape[0]) rfl) (λg hg=>?_)
 subst hg
 refine T.bind (T.lfrom (Q:=λv=>v=x.shape.drop 1) oM oM rfl) (λl hl=>?_)
 subst hl
 obtain⟨N,hN⟩:∃N,N=(if n<(w64 (0-n)) then (w64 (0-n)) else n):=⟨_,rfl⟩
 have hN':=hN
 rw[aE (x:=0-n) oM oM] at hN'
 have N0:0<=N:=by split at hN'<;>omega
 have N1:N<=16384:=by split at hN'<;>omega
 rw[←hN]
 refine T.bind (eF (by simp; omega)) (λsh hsh=>?_)
 subst hsh
 refine T.bind (T.val (AaJ _) (Q:=λv=>v=lZ ([N]++x.shape.drop 1)) rfl) (λz hz=>?_)
 obtain⟨z1,z2⟩:=z
 refine T.ite (λhe=>T.ret (Res.err (gA he))) (λhe=>?_)
 have hS:nE ([N]++x.shape.drop 1) z1:=by
  have h':z2=0:=eD he
  have:=vG (s:=[N]++x.shape.drop 1) (by rw[←hz]; exact h')
  rw[←hz] at this; exact this
 have hdims:∀d∈[N]++x.shape.drop 1,d<=16384:=by
  intro d hd
  rcases List.mem_cons.1 hd with rfl|hd
  ·exact N1
  exact hvx.i.dims d (List.mem_of_mem_drop hd)
 refine T.ite (λh3=>?_) (λh3=>?_)
 ·have h3:N<=x.shape[0]:=by simpa using h3
  rw[aE (x:=x.shape[0]-N) oM oM]
  exact T.ite (λ_=>T.bind (AdX hvx hmx hpos oM oM oM) (λr hr=>T.ret λ_=>hr)) (λ_=>T.bind (AdX hvx hmx hpos oM oM oM) (λr hr=>T.ret λ_=>hr))
 have h3:x.shape[0]<N:=by simpa using h3
 refine T.bind BeX (λfc hfc=>?_)
 obtain⟨x4,e1⟩:=fc
 refine T.ite (λhe=>T.ret (Res.err (gA he))) (λ_=>?_)
 refine T.bind (AuT h8 hpos) (λk hk=>?_)
 have hp:aS (x.shape.drop 1)=k/\0<=k/\z1=N*k/\x.shape[0]*k=x.cells.length:=by
  have hr0:0<=aS (x.shape.drop 1):=nD λd hd=>hzx.pos d (List.mem_of_mem_drop hd)
  have hz1:=hS.prod
  have hz2:=hS.hi
  simp only[List.singleton_append,aS] at hz1
  have:1*aS (x.shape.drop 1)<=N*aS (x.shape.drop 1):=Int.mul_le_mul_of_nonneg_right oM hr0
  have hs:nE (x.shape.drop 1) (aS (x.shape.drop 1)):=nE.of (by simp; omega) (λd hd=>⟨hzx.pos d (List.mem_of_mem_drop hd),hvx.i.dims d (List.mem_of_mem_drop hd)⟩) rfl oM
  rw[kH hs] at hk
  subst hk
  exact⟨rfl,hr0,hz1.symm,by rw[←Ak2 hpos]; exact hzx.prod⟩
 obtain⟨_,k0,hz1,hxc⟩:=hp
 have hz2:=hS.hi
 have hNk:(N-x.shape[0])*k=N*k-x.shape[0]*k:=Int.sub_mul ..
 have hx0:0<=x.shape[0]*k:=Int.mul_nonneg hp0 k0
 have hNk0:0<=(N-x.shape[0])*k:=Int.mul_nonneg oM k0
 have eW:w64 ((w64 (N-x.shape[0]))*k)=(N-x.shape[0])*k:=by rw[aE (x:=N-x.shape[0]) oM oM,aE oM oM]
 refine T.bind (T.val (by unfold xP; rw[eW,if_pos oM]) (Q:=λv=>v=List.replicate ((N-x.shape[0])*k).toNat (aA.mk 0 0 [])) rfl) (λmore hmore=>?_)
 subst hmore
 refine T.bind (AtQ (N:=((N-x.shape[0])*k).toNat) (by rw[←hN,eW]) oM hfc ((N-x.shape[0])*k).toNat 0 _ oM sM (λc hc=>.inl (by rw[(List.mem_replicate.1 hc).2]; exact .mk _))) (λl3 hl3=>?_)
 rw[eW]
 have fin:∀cs:List aA,cs.length=l3.length+x.cells.length->(∀c∈cs,c∈l3\/c∈x.cells)->Val 0 (Arr.mk ([N]++x.shape.drop 1) cs)/\Cw m (Arr.mk ([N]++x.shape.drop 1) cs).cells:=by
  intro cs h1 h2
  refine⟨AmV ?_ hdims λc hc=>?_,λc hc=>?_⟩
  ·rw[show (cs.length:Int)=z1 by have:=hl3.1; omega]; exact hS
  ·rcases h2 c hc with h|h
   ·exact (hl3.2 c h).chk
   ·exact hvx.i.cells c h
  rcases h2 c hc with h|h
  ·rw[(hl3.2 c h).w]; omega
  exact hmx c h
 have hl31:=hl3.1
 refine T.ite (λ_=>?_) (λ_=>?_)
 ·refine T.bind (vQ hl3.1) (λl1 hl1=>?_)
  subst hl1
  refine T.bind (eF oM) (λl2 hl2=>?_)
  subst hl2
  exact T.ret λ_=>fin _ sM (λc hc=>List.mem_append.1 hc)
 refine T.bind (vQ hl3.1) (λl1 hl1=>?_)
 subst hl1
 refine T.bind (eF (by simp; omega)) (λl2 hl2=>?_)
 subst hl2
 refine T.bind (eF (by simp; omega)) (λl4 hl4=>?_)
 subst hl4
 exact T.ret λ_=>fin _ (by simp; omega) (λc hc=>(List.mem_append.1 hc).symm.imp id (λh=>by simpa using h))
theorem AjB {a:Arr} {n ax:Int} {l:List Int} (hf:Few l):∀(r:List Int) (k:Nat) (z:Int),l.drop k=r->jX (n,a,ax,l,z,(k:Int))=some (dY z r)
 | [],k,z,h=>by
  rw[jX]; simp only[cB (cG h),fJ,if_false,dY]
 |d::r,k,z,h=>by
  have hk:=cH h
  rw[jX]
  simp only[dL hk,if_true,bO h,oJ,bJ,bZ h hf,dY]
  exact AjB hf r (k+1) _ (bC h)
theorem AlP {a:Arr} {s g o j:Int} (hs:0<s) (hg:0<g) (hj:0<=j) (hj2:j<g) (hN:o*(g*s)=a.cells.length) (hle:(a.cells.length:Int)<=16384):∀(d:Nat) (x:Int) (out:List aA),0<=x->x+d=o->(out.length:Int)=x*(g*s)->(∀c∈out,c∈a.cells) ->
  T (jY (a,s,g,j,x*(g*s),out)) (λr=>r.length=a.cells.length/\∀c∈r,c∈a.cells)
 |0,x,out,h0,hd,hl,hc=>by
  rw[jY]
  have:x=o:=oM
  subst this
  exact T.ite (λh'=>by simp at h'; omega) (λ_=>T.ret ⟨oM,hc⟩)
 |d+1,x,out,h0,hd,hl,hc=>by
  have hgs:0<g*s:=Int.mul_pos hg hs
  have h1:0<=x*(g*s):=Int.mul_nonneg h0 oM
  have h2:(x+1)*(g*s)<=o*(g*s):=Int.mul_le_mul_of_nonneg_right oM oM
  have h3:(x+1)*(g*s)=x*(g*s)+g*s:=by rw[Int.add_mul,Int.one_mul]
  have h4:0<=j*s:=Int.mul_nonneg hj oM
  have h5:j*s<=g*s:=Int.mul_le_mul_of_nonneg_right oM oM
  rw[jY]
  refine T.ite (λ_=>?_) (λh'=>by simp at h'; omega)
  rw[aE (x:=g*s) oM oM,aE (x:=x*(g*s)+g*s) oM oM,aE (x:=j*s) oM oM]
  refine T.bind (T.val (by unfold Ag0; rw[if_pos ⟨h1,oM,oM⟩]) (Q:=λv=>(v.length:Int)=g*s/\∀c∈v,c∈a.cells) ⟨by rw[List.length_drop,List.length_take]; omega,λc hc=>List.mem_of_mem_take (List.mem_of_mem_drop hc)⟩) (λblk hb=>?_)
  refine T.bind (T.lfrom (Q:=λv=>v=blk.drop (j*s).toNat) h4 oM rfl) (λl1 hl1=>?_)
  subst hl1
  refine T.bind (eF (by simp; omega)) (λl2 hl2=>?_)
  subst hl2
  refine T.bind (T.val (by unfold lto; rw[if_pos ⟨h4,oM⟩]) (Q:=λv=>v=blk.take (j*s).toNat) rfl) (λl3 hl3=>?_)
  subst hl3
  refine T.bind (eF (by simp; omega)) (λl4 hl4=>?_)
  subst hl4
  rw[←h3]
  refine AlP hs hg hj hj2 hN hle d (x+1) _ oM oM (by rw[h3]; simp; omega) ?_
  intro c hc'
  rcases List.mem_append.1 hc' with hc' | hc'
  ·rcases List.mem_append.1 hc' with hc' |hc'
   ·exact hc c hc'
   ·exact hb.2 c (List.mem_of_mem_drop hc')
  exact hb.2 c (List.mem_of_mem_take hc')
theorem BfY {n g:Int} (hg:0<g):-g<n.tmod g/\n.tmod g<g:=by
 refine⟨?_,Int.tmod_lt_of_pos _ hg⟩
 have:=Int.tmod_lt_of_pos (-n) hg
 rw[Int.neg_tmod] at this; omega
theorem AtG {a:Arr} {n:Int} {k:Nat} {m:Nat} (hv:Val 0 a) (hm:Cw m a.cells) (hk:k<a.shape.length\/a.shape=[]):T (lQ n a (k:Int)) (λr=>Val 0 r/\Cw m r.cells):=by
 unfold lQ
 refine T.ite (λ_=>T.ret ⟨hv,hm⟩) (λhc=>T.ite (λ_=>T.ret ⟨hv,hm⟩) (λh0=>?_))
 have hc:(a.cells.length:Int)≠0:=by simpa using hc
 have h0:(a.shape.length:Int)≠0:=by simpa using h0
 have hk:k<a.shape.length:=by
  rcases hk with hk|hk
  ·exact hk
  rw[hk] at h0; simp at h0
 have hz:=hv.i.sized
 have hrk:=hz.rank
 have e0:a.shape=a.shape.take k++([a.shape[k]]++a.shape.drop (k+1)):=by
  rw[List.singleton_append,←List.drop_eq_getElem_cons hk,List.take_append_drop]
 have hz':=hz
 rw[e0] at hz'
 obtain⟨p1,p2,p3,p4⟩:=pV hz' hc
 obtain⟨q1,q2,q3,q4⟩:=pV p2 oM
 have hp:=hz'.prod
 rw[gH,gH] at hp
 simp only[aS,Int.mul_one] at hp q1 q3
 rw[show w64 ((k:Int)+1)=((k+1:Nat):Int) from by rw[aE oM oM]; rfl]
 refine T.bind (T.val (v:=a.shape.drop (k+1)) (by unfold lfrom; rw[if_pos oM]; simp) (Q:=λv=>v=a.shape.drop (k+1)) rfl) (λl hl=>?_)
 subst hl
 refine T.bind (T.val (AjB (by unfold Few; simp; omega) (a.shape.drop (k+1)) 0 1 rfl) (Q:=λv=>v=aS (a.shape.drop (k+1))) (kH q2)) (λs hs=>?_)
 subst hs
 refine T.bind (T.val (gL hk) (Q:=λv=>v=a.shape[k]) rfl) (λg hg=>?_)
 subst hg
 have hd:=hv.i.dims _ (List.getElem_mem hk)
 have hlim:=BfY (n:=n) q3
 refine T.bind (T.val (by unfold irem; rw[if_neg oM]) (Q:=λv=>v=n.tmod a.shape[k]) rfl) (λt ht=>?_)
 subst ht
 refine T.bind (R:=λj=>0<=j/\j<a.shape[k]) (T.ite (λh=>?_) (λh=>?_)) (λj hj=>?_)
 ·have h:n.tmod a.shape[k]<0:=by simpa using h
  rw[aE oM oM]
  exact T.ret oM
 ·have h:0<=n.tmod a.shape[k]:=by simpa using h
  exact T.ret ⟨h,hlim.2⟩
 have t:=AlP (a:=a) (s:=aS (a.shape.drop (k+1))) (g:=a.shape[k]) (o:=aS (a.shape.take k)) (j:=j) q4 q3 hj.1 hj.2 hp hz.hi (aS (a.shape.take k)).toNat 0 [] oM oM sM sM
 rw[Int.zero_mul] at t
 exact T.bind t (λr hr=>T.ret (frv hv hm (by rw[hr.1]; exact hz) hv.i.dims λc hc=>.inl (hr.2 c hc)))
theorem AsW {l a:Arr} (hl:Val 0 l) (h:0<a.shape.length):∀(r:List aA) (k:Nat),l.cells.drop k=r->(∀c∈l.cells.take k,0<=c.n/\c.n<a.shape[0])->T (oD (l,a,(k:Int))) (λr=>match r with|.error r=>r.2≠0|.ok _=>∀c∈l.cells,0<=c.n/\c.n<a.shape[0])
 | [],k,hd,hc=>by
  rw[oD]
  simp only[cB (cG hd),fJ,if_false]
  have:=List.drop_eq_nil_iff.1 hd
  rw[List.take_of_length_le this] at hc
  exact T.ret hc
 |c::r,k,hd,hc=>by
  have hk:=cH hd
  rw[oD]
  simp only[dL hk,if_true,bO hd,oJ,bJ,bZ hd hl.fewc]
  refine T.ite (λ_=>T.ret sM) (λ_=>T.ite (λ_=>T.ret sM) (λh1=>?_))
  refine T.bind (T.val (gL (i:=0) h) (Q:=λv=>v=a.shape[0]) rfl) (λg hg=>?_)
  subst hg
  refine T.ite (λ_=>T.ret sM) (λh2=>?_)
  have h1:0<=c.n:=by simpa using h1
  have h2:c.n<a.shape[0]:=by simpa using h2
  refine AsW hl h r (k+1) (bC hd) ?_
  intro x hx
  rw[List.take_add_one,List.mem_append] at hx
  rcases hx with hx|hx
  ·exact hc x hx
  have hdk:l.cells[k]?=some c:=by
   rw[List.drop_eq_getElem_cons oM] at hd
   obtain⟨hd,_⟩:=List.cons.inj hd
   rw[←hd]; simp[show k<l.cells.length by omega]
  rw[hdk] at hx
  simp only[Option.toList_some,List.mem_singleton] at hx
  subst hx
  exact⟨h1,h2⟩
theorem AsX {l a:Arr} {sh:List Int} {k:Int} (hl:Val 0 l) (ha:Val 0 a) (h:0<a.shape.length) (hc:∀c∈l.cells,0<=c.n/\c.n<a.shape[0]) (hk:0<=k) (hN:a.shape[0]*k=a.cells.length) (hT:l.cells.length*k<=16384) :
  ∀(r:List aA) (i:Nat) (out:List aA),l.cells.drop i=r->i<=l.cells.length->(out.length:Int)=i*k->(∀c∈out,c∈a.cells)->T (lP (l,a,sh,k,(i:Int),out)) (λr=>(r.length:Int)=l.cells.length*k/\∀c∈r,c∈a.cells)
 | [],i,out,hd,hi,ho,hm=>by
  rw[lP]
  simp only[cB (cG hd),fJ,if_false]
  have:=List.drop_eq_nil_iff.1 hd
  exact T.ret ⟨by rw[ho,show i=l.cells.length by omega],hm⟩
 |c::r,i,out,hd,hi,ho,hm=>by
  have hik:=cH hd
  have hle:=ha.i.sized.hi
  have hcm:=hc c (List.mem_of_mem_drop (i:=i) (by rw[hd]; simp))
  have hd0:=ha.i.dims _ (List.getElem_mem h)
  rw[lP]
  simp only[dL hik,if_true,bO hd,oJ,bJ,bZ hd hl.fewc]
  have h1:0<=c.n*k:=Int.mul_nonneg hcm.1 hk
  have h2:(c.n+(1:Int))*k<=a.shape[0]*k:=Int.mul_le_mul_of_nonneg_right oM hk
  have h3:(c.n+1)*k=c.n*k+k:=by rw[Int.add_mul,Int.one_mul]
  have h4:((i:Int)+1)*k<=l.cells.length*k:=Int.mul_le_mul_of_nonneg_right oM hk
  have h5:((i:Int)+1)*k=i*k+k:=by rw[Int.add_mul,Int.one_mul]
  rw[aE (x:=c.n+1) oM oM,aE (x:=c.n*k) oM oM,aE (x:=(c.n+1)*k) oM oM]
  refine T.bind (T.val (by unfold Ag0; rw[if_pos ⟨h1,oM,oM⟩]) (Q:=λv=>(v.length:Int)=k/\∀c∈v,c∈a.cells) ⟨by rw[List.length_drop,List.length_take]; omega,λc hc=>List.mem_of_mem_take (List.mem_of_mem_drop hc)⟩) (λblk hb=>?_)
  refine T.bind (eF oM) (λl5 hl5=>?_)
  subst hl5
  refine AsX hl ha h hc hk hN hT r (i+1) _ (bC hd) oM (by simp only[List.length_append,Int.natCast_add,Int.natCast_one]; omega) ?_
  intro x hx
  rcases List.mem_append.1 hx with hx|hx
  ·exact hm x hx
  exact hb.2 x hx
theorem BeZ {l a:Arr} {m:Nat} (hl:Val 0 l) (ha:Val 0 a) (hm:Cw m a.cells):T (wP l a) (Res m):=by
 unfold wP
 refine T.ite (λ_=>T.ret (Res.err oM)) (λh0=>T.ite (λ_=>T.ret (Res.err oM)) (λ_=>?_))
 have hpos:0<a.shape.length:=by
     have:(a.shape.length:Int)≠0:=by simpa using h0
     omega
 have hzl:=hl.i.sized
 have hza:=ha.i.sized
 have hrl:=hzl.rank
 have hra:=hza.rank
 have hll:=hzl.hi
 refine T.bind (AsW hl hpos l.cells 0 rfl sM) (λv hv=>?_)
 match v,hv with
 |.error r,h=>exact T.ret λh'=>absurd h' h
 |.ok _,hc=>
  refine T.bind (eF (by simp; omega)) (λl1 hl1=>?_)
  subst hl1
  refine T.bind (T.lfrom (Q:=λv=>v=a.shape.drop 1) oM oM rfl) (λl2 hl2=>?_)
  subst hl2
  refine T.bind (eF (by simp; omega)) (λl3 hl3=>?_)
  subst hl3
  rw[List.nil_append]
  refine T.bind (T.val (AaJ _) (Q:=λv=>v=lZ (l.shape++a.shape.drop 1)) rfl) (λz hz=>?_)
  obtain⟨z1,z2⟩:=z
  refine T.ite (λhe=>T.ret (Res.err (gA he))) (λhe=>?_)
  have hS:nE (l.shape++a.shape.drop 1) z1:=by
   have h':z2=0:=eD he
   have:=vG (s:=l.shape++a.shape.drop 1) (by rw[←hz]; exact h')
   rw[←hz] at this; exact this
  have hdims:∀d∈l.shape++a.shape.drop 1,d<=16384:=by
   intro d hd
   rcases List.mem_append.1 hd with hd|hd
   ·exact hl.i.dims d hd
   exact ha.i.dims d (List.mem_of_mem_drop hd)
  refine T.bind (AuT hra hpos) (λk hk=>?_)
  have hzp:=hS.prod
  rw[gH,hzl.prod] at hzp
  have fin:∀cs:List aA,(cs.length:Int)=z1->(∀c∈cs,c∈a.cells)->Val 0 (Arr.mk (l.shape++a.shape.drop 1) cs)/\Cw m (Arr.mk (l.shape++a.shape.drop 1) cs).cells:=λcs h1 h2=>frv ha hm (by rw[h1]; exact hS) hdims λc hc=>.inl (h2 c hc)
  by_cases hne:l.cells=[]
  ·rw[lP]
   rw[if_neg (by rw[hne]; simp)]
   refine T.bind (T.ret (Q:=λv=>v=[]) rfl) (λv hv=>?_)
   subst hv
   exact T.ret λ_=>fin [] (by rw[←hzp,hne]; simp) sM
  obtain⟨c,hcm⟩:=List.exists_mem_of_ne_nil _ hne
  have hg:=hc c hcm
  obtain⟨hs,hp⟩:=AqX ha hpos oM
  rw[kH hs] at hk
  subst hk
  have hz2:=hS.hi
  refine T.bind (AsX hl ha hpos hc hs.lo hp oM l.cells 0 [] rfl oM sM sM) (λr hr=>?_)
  exact T.ret λ_=>fin r (by rw[hr.1,hzp]) hr.2
def sF:List Int->Int
 | []=>0
 |d::r=>d+sF r
theorem AyX:∀l m:List Int,sF (l++m)=sF l+sF m
 | [],m=>by simp[sF]
 |d::r,m=>by simp only[List.cons_append,sF,AyX r m]; omega
theorem tP:∀{l:List Int},(∀d∈l,0<=d)->0<=sF l
 | [],_=>by simp[sF]
 |d::r,h=>by have:=h d sM; have:=tP (l:=r) λx hx=>h x (by simp[hx]); simp only[sF]; omega
theorem Ar0 {m:Arr} {n:Int} (hm:Val 0 m):∀(r:List aA) (k:Nat),m.cells.drop k=r->(∀c∈m.cells.take k,0<=c.n)->T (mG (m,n,(k:Int))) (λr=>match r with|.error r=>r.2≠0|.ok _=>∀c∈m.cells,0<=c.n)
 | [],k,hd,hc=>by
  rw[mG]
  simp only[cB (cG hd),fJ,if_false]
  have:=List.drop_eq_nil_iff.1 hd
  rw[List.take_of_length_le this] at hc
  exact T.ret hc
 |c::r,k,hd,hc=>by
  have hk:=cH hd
  rw[mG]
  simp only[dL hk,if_true,bO hd,oJ,bJ,bZ hd hm.fewc]
  refine T.ite (λ_=>T.ret sM) (λ_=>T.ite (λ_=>T.ret sM) (λh1=>?_))
  have h1:0<=c.n:=by simpa using h1
  refine Ar0 hm r (k+1) (bC hd) ?_
  intro x hx
  rw[List.take_add_one,List.mem_append] at hx
  rcases hx with hx|hx
  ·exact hc x hx
  have hdk:m.cells[k]?=some c:=by
   rw[List.drop_eq_getElem_cons oM] at hd
   obtain⟨hd,_⟩:=List.cons.inj hd
   rw[←hd]; simp[show k<m.cells.length by omega]
  rw[hdk] at hx
  simp only[Option.toList_some,List.mem_singleton] at hx
  subst hx
  exact h1
structure Tm (N k:Nat) (all:Int) (l:List Int):Prop where
 len:l.length=N
 pos:∀v∈l.take k,0<=v
 sum:sF (l.take k)=all
 le:all<=16384
theorem Tm.next {N k:Nat} {all c:Int} {l:List Int} (h:Tm N k all l) (hk:k<N) (h0:0<=c) (h1:all+c<=16384):Tm N (k+1) (all+c) (l.set k c):=by
 have e:(l.set k c).take (k+1)=l.take k++[c]:=by
  rw[List.take_add_one,List.take_set_of_le (Nat.le_refl k),List.getElem?_set_self (by rw[h.len]; exact hk)]; rfl
 refine⟨by simp[h.len],?_,by rw[e,AyX,h.sum]; simp[sF],h1⟩
 rw[e]
 intro v hv
 rcases List.mem_append.1 hv with hv|hv
 ·exact h.pos v hv
 simp only[List.mem_singleton] at hv; subst hv; exact h0
theorem Ar1 {m:Arr} {N:Nat} (hN:N<=16384) (hc:∀c∈m.cells,0<=c.n) (hne:0<N->0<m.cells.length) (h1:m.shape.length=1->m.cells.length=N):∀(d:Nat) (k:Nat) (all:Int) (l:List Int),k+d=N->Tm N k all l ->
  T (mH (m,(N:Int),all,(k:Int),l)) (λr=>match r with|.error r=>r.2≠0|.ok l=>∃all,Tm N N all l)
 |0,k,all,l,h,hl=>by
  rw[mH]
  have:k=N:=oM
  subst this
  exact T.ite (λh'=>by simp at h') (λ_=>T.ret ⟨all,hl⟩)
 |d+1,k,all,l,h,hl=>by
  rw[mH]
  have ha0:0<=all:=by rw[←hl.sum]; exact tP hl.pos
  have ha1:=hl.le
  have hp:=hne oM
  refine T.ite (λ_=>?_) (λh'=>by simp at h'; omega)
  refine T.bind (T.lget (Q:=λv=>v∈m.cells) oM oM λ_ h=>List.mem_of_getElem? h) (λy hy=>?_)
  refine T.bind (R:=λr=>0<=r.2.1) (T.ite (λhs=>?_) (λ_=>T.ret (hc y hy))) (λc hcc=>?_)
  ·have hs:m.shape.length=1:=by
    have:(m.shape.length:Int)=1:=by simpa using hs
    omega
   have:=h1 hs
   exact T.bind (T.lget (Q:=λv=>v∈m.cells) oM oM λ_ h=>List.mem_of_getElem? h) (λz hz=>T.ret (hc z hz))
  obtain⟨c0,c1,c2⟩:=c
  have hcc:0<=c1:=hcc
  show T (if decide (c1>w64 (16384-all))=true then _ else _) _
  rw[aE (x:=16384-all) oM oM]
  refine T.ite (λ_=>T.ret sM) (λhle=>?_)
  have hle:c1<=16384-all:=by simpa using hle
  simp only[Int.toNat_natCast]
  refine T.bind (T.val (vH (n:=N) oM oM) (Q:=λv=>v=k) oM) (λj hj=>?_)
  subst hj
  refine T.bind (T.val (by unfold oL; rw[if_pos (by rw[hl.len]; omega)]) (Q:=λv=>v=l.set j c1) rfl) (λl2 hl2=>?_)
  subst hl2
  refine T.bind (T.val (vH (n:=N) oM oM) (Q:=λv=>v=j) oM) (λj1 hj1=>?_)
  subst hj1
  refine T.bind (T.val (v:=c1) (by unfold nM; rw[List.getElem?_set_self (by rw[hl.len]; omega)]) (Q:=λv=>v=c1) rfl) (λy3 hy3=>?_)
  subst hy3
  rw[aE (x:=all+y3) oM oM,aE (x:=(j1:Int)+1) oM oM]
  exact Ar1 hN hc hne h1 d (j1+1) (all+y3) _ oM (hl.next oM hcc oM)
theorem Ar2 {m:Arr} {N:Nat} (hN:N<=16384) (hc:∀c∈m.cells,0<=c.n) (hne:0<N->0<m.cells.length) (h1:m.shape.length=1->m.cells.length=N):∀(d:Nat) (k:Nat) (all:Int) (l:List Int),k+d=N->Tm N k all l ->
  T (mI (m,(N:Int),all,(k:Int),l)) (λr=>match r with|.error r=>r.2≠0|.ok l=>∃all,Tm N N all l)
 |0,k,all,l,h,hl=>by
  rw[mI]
  have:k=N:=oM
  subst this
  exact T.ite (λh'=>by simp at h') (λ_=>T.ret ⟨all,hl⟩)
 |d+1,k,all,l,h,hl=>by
  rw[mI]
  have ha0:0<=all:=by rw[←hl.sum]; exact tP hl.pos
  have ha1:=hl.le
  have hp:=hne oM
  refine T.ite (λ_=>?_) (λh'=>by simp at h'; omega)
  refine T.bind (T.lget (Q:=λv=>v∈m.cells) oM oM λ_ h=>List.mem_of_getElem? h) (λy hy=>?_)
  refine T.bind (R:=λr=>0<=r.2.1) (T.ite (λhs=>?_) (λ_=>T.ret (hc y hy))) (λc hcc=>?_)
  ·have hs:m.shape.length=1:=by
    have:(m.shape.length:Int)=1:=by simpa using hs
    omega
   have:=h1 hs
   exact T.bind (T.lget (Q:=λv=>v∈m.cells) oM oM λ_ h=>List.mem_of_getElem? h) (λz hz=>T.ret (hc z hz))
  obtain⟨c0,c1,c2⟩:=c
  have hcc:0<=c1:=hcc
  show T (if decide (c1>w64 (16384-all))=true then _ else _) _
  rw[aE (x:=16384-all) oM oM]
  refine T.ite (λ_=>T.ret sM) (λhle=>?_)
  have hle:c1<=16384-all:=by simpa using hle
  simp only[Int.toNat_natCast]
  refine T.bind (T.val (vH (n:=N) oM oM) (Q:=λv=>v=k) oM) (λj hj=>?_)
  subst hj
  refine T.bind (T.val (by unfold oL; rw[if_pos (by rw[hl.len]; omega)]) (Q:=λv=>v=l.set j c1) rfl) (λl2 hl2=>?_)
  subst hl2
  refine T.bind (T.val (vH (n:=N) oM oM) (Q:=λv=>v=j) oM) (λj1 hj1=>?_)
  subst hj1
  refine T.bind (T.val (v:=c1) (by unfold nM; rw[List.getElem?_set_self (by rw[hl.len]; omega)]) (Q:=λv=>v=c1) rfl) (λy3 hy3=>?_)
  subst hy3
  rw[aE (x:=all+y3) oM oM,aE (x:=(j1:Int)+1) oM oM]
  exact Ar2 hN hc hne h1 d (j1+1) (all+y3) _ oM (hl.next oM hcc oM)
theorem BhV {m:Arr} {N:Nat} (hm:Val 0 m) (hN:N<=16384):T (xT m (N:Int)) (λr=>r.2=0->∃all,Tm N N all r.1):=by
 unfold xT
 refine T.ite (λ_=>T.ret (λh=>by simp at h)) (λhr=>?_)
 have hr:m.shape.length<=1:=by simp at hr; omega
 refine T.bind (Ar0 hm m.cells 0 rfl sM) (λv hv=>?_)
 have t0:Tm N 0 0 (List.replicate N 0):=⟨sM,sM,by simp[sF],oM⟩
 match v,hv with
 |.error r,h=>exact T.ret λh'=>absurd h' h
 |.ok _,hc=>
  refine T.ite (λh1=>T.ite (λ_=>T.ret (λh=>by simp at h)) (λhn=>?_)) (λh1=>?_)
  ·have hn:(m.cells.length:Int)=N:=eD hn
   refine T.bind (T.val (by unfold xP; rw[if_pos oM]) (Q:=λv=>v=List.replicate N 0) sM) (λl hl=>?_)
   subst hl
   refine T.bind (Ar1 hN hc (λ_=>oM) (λ_=>oM) N 0 0 _ oM t0) (λv hv=>?_)
   match v,hv with
   |.error r,h=>exact T.ret λh'=>absurd h' h
   |.ok l,⟨all,h⟩=>exact T.bind (vQ (by rw[h.len]; simp)) (λl4 hl4=>by subst hl4; exact T.ret λ_=>⟨all,h⟩)
  have h1:(m.shape.length:Int)≠1:=by simpa using h1
  obtain⟨c,hcl⟩:=yJ hm oM
  refine T.bind (T.val (by unfold xP; rw[if_pos oM]) (Q:=λv=>v=List.replicate N 0) sM) (λl hl=>?_)
  subst hl
  refine T.bind (Ar2 hN hc (λ_=>by rw[hcl]; simp) (λh=>oM) N 0 0 _ oM t0) (λv hv=>?_)
  match v,hv with
  |.error r,h=>exact T.ret λh'=>absurd h' h
  |.ok l,⟨all,h⟩=>exact T.bind (vQ (by rw[h.len]; simp)) (λl4 hl4=>by subst hl4; exact T.ret λ_=>⟨all,h⟩)
theorem AyC {m x:Arr} {k:Nat} {l l1:List Int} (hk:k<l1.length) (hl:l.length<=16384) (hp:∀v∈l,0<=v) (hs:sF l<=16384):∀(r:List Int) (i:Nat) (S:Int),l.drop i=r->0<=S->S+sF r<=16384 ->
  T (iS (m,x,(k:Int),l,l1,(i:Int),l1.set k S)) (λv=>v=l1.set k (S+sF r))
 | [],i,S,hd,h0,h1=>by
  rw[iS]
  simp only[cB (cG hd),fJ,if_false,sF,Int.add_zero]
  exact T.ret rfl
 |d::r,i,S,hd,h0,h1=>by
  have hik:=cH hd
  have hd0:=hp d (List.mem_of_mem_drop (i:=i) (by rw[hd]; simp))
  have hr0:0<=sF r:=tP λv hv=>hp v (List.mem_of_mem_drop (i:=i) (by rw[hd]; simp[hv]))
  simp only[sF] at h1 ⊢
  rw[iS]
  simp only[dL hik,if_true,bO hd,oJ,bJ,bZ hd (by unfold Few; omega)]
  refine T.bind (T.val (vH (n:=l1.length) oM oM) (Q:=λv=>v=k) oM) (λj hj=>?_)
  subst hj
  refine T.bind (T.val (v:=S) (by unfold nM; rw[List.getElem?_set_self hk]) (Q:=λv=>v=S) rfl) (λy hy=>?_)
  subst hy
  refine T.bind (T.val (vH (n:=l1.length) oM oM) (Q:=λv=>v=j) oM) (λj2 hj2=>?_)
  subst hj2
  rw[aE (x:=y+d) oM oM]
  refine T.bind (T.val (by unfold oL; rw[if_pos (by simpa using hk),List.set_set]) (Q:=λv=>v=l1.set j2 (y+d)) rfl) (λc hc=>?_)
  subst hc
  rw[←Int.add_assoc]
  exact AyC hk hl hp hs r (i+1) (y+d) (bC hd) oM oM
theorem AtF {m x:Arr} {l l3 l4:List Int} (hf:Few l4):∀(r:List Int) (k:Nat) (z:Int),l4.drop k=r->iT (m,x,l,l3,l4,z,(k:Int))=some (dY z r)
 | [],k,z,h=>by
  rw[iT]; simp only[cB (cG h),fJ,if_false,dY]
 |d::r,k,z,h=>by
  have hk:=cH h
  rw[iT]
  simp only[dL hk,if_true,bO h,oJ,bJ,bZ h hf,dY]
  exact AtF hf r (k+1) _ (bC h)
theorem AyF {m x:Arr} {l l3:List Int} {s at_ x4 k1:Int} (hx:(x.cells.length:Int)<=16384) (hs:0<s) (hat:0<=at_) (h4:0<=x4) (hle:at_+(x4*s+s)<=x.cells.length) (hk1:k1<=16384):∀(d:Nat) (i:Int) (out:List aA),0<=i->i+d=k1->out.length+d*s<=16384->(∀c∈out,c∈x.cells) ->
  T (iV (m,x,l,l3,s,at_,x4,k1,i,out)) (λr=>(r.length:Int)=out.length+d*s/\∀c∈r,c∈x.cells)
 |0,i,out,h0,h,hb,hc=>by
  rw[iV]
  exact T.ite (λh'=>by simp at h'; omega) (λ_=>T.ret ⟨sM,hc⟩)
 |d+1,i,out,h0,h,hb,hc=>by
  have hxs:0<=x4*s:=Int.mul_nonneg h4 oM
  have e1:(x4+1)*s=x4*s+s:=by rw[Int.add_mul,Int.one_mul]
  have e2:((d+1:Nat):Int)*s=d*s+s:=by rw[Int.natCast_add,Int.add_mul]; simp
  have hds:0<=(d:Int)*s:=Int.mul_nonneg oM oM
  have hx4:x4<=x4*s:=by
   have:x4*1<=x4*s:=Int.mul_le_mul_of_nonneg_left oM h4
   omega
  have hd1:(d:Int)<=d*s:=by
   have:(d:Int)*1<=d*s:=Int.mul_le_mul_of_nonneg_left oM oM
   omega
  rw[e2] at hb ⊢
  rw[iV]
  refine T.ite (λ_=>?_) (λh'=>by simp at h'; omega)
  rw[aE (x:=x4+1) oM oM,e1,aE (x:=x4*s) oM oM,aE (x:=x4*s+s) oM oM,aE (x:=at_+x4*s) oM oM,aE (x:=at_+(x4*s+s)) oM oM]
  refine T.bind (T.val (by unfold Ag0; rw[if_pos ⟨oM,oM,oM⟩]) (Q:=λv=>(v.length:Int)=s/\∀c∈v,c∈x.cells) ⟨by rw[List.length_drop,List.length_take]; omega,λc hc=>List.mem_of_mem_take (List.mem_of_mem_drop hc)⟩) (λblk hbk=>?_)
  refine T.bind (eF oM) (λl6 hl6=>?_)
  subst hl6
  rw[aE (x:=i+1) oM oM]
  have hlen:((out++blk).length:Int)=out.length+s:=by rw[List.length_append,Int.natCast_add,hbk.1]
  refine T.imp (AyF hx hs hat h4 hle hk1 d (i+1) (out++blk) oM oM oM ?_) (λr hr=>⟨oM,hr.2⟩)
  intro c hc'
  rcases List.mem_append.1 hc' with hc' | hc'
  ·exact hc c hc'
  exact hbk.2 c hc'
theorem AyE {m x:Arr} {l l3:List Int} {s at_:Int} (hx:(x.cells.length:Int)<=16384) (hs:0<s) (hat:0<=at_) (hl:l.length<=16384) (hp:∀v∈l,0<=v) (hle:at_+l.length*s<=x.cells.length):∀(r:List Int) (i:Nat) (out:List aA),l.drop i=r->out.length+sF r*s<=16384->(∀c∈out,c∈x.cells) ->
  T (iU (m,x,l,l3,s,at_,(i:Int),out)) (λv=>(v.length:Int)=out.length+sF r*s/\∀c∈v,c∈x.cells)
 | [],i,out,hd,hb,hc=>by
  rw[iU]
  simp only[cB (cG hd),fJ,if_false,sF]
  exact T.ret ⟨sM,hc⟩
 |d::r,i,out,hd,hb,hc=>by
  have hik:=cH hd
  have hd0:=hp d (List.mem_of_mem_drop (i:=i) (by rw[hd]; simp))
  have hr0:0<=sF r:=tP λv hv=>hp v (List.mem_of_mem_drop (i:=i) (by rw[hd]; simp[hv]))
  have hrs:0<=sF r*s:=Int.mul_nonneg hr0 oM
  have h4:((i:Int)+1)*s<=l.length*s:=Int.mul_le_mul_of_nonneg_right oM oM
  have h5:((i:Int)+1)*s=i*s+s:=by rw[Int.add_mul,Int.one_mul]
  simp only[sF,Int.add_mul] at hb ⊢
  rw[iU]
  simp only[dL hik,if_true,bO hd,oJ,bJ,bZ hd (by unfold Few; omega)]
  have hdle:d<=16384:=by
   have:d*1<=d*s:=Int.mul_le_mul_of_nonneg_left oM hd0
   omega
  have t:=AyF (m:=m) (l:=l) (l3:=l3) (k1:=d) hx hs hat (x4:=(i:Int)) oM oM hdle d.toNat 0 out oM oM (by rw[Int.toNat_of_nonneg hd0]; omega) hc
  rw[Int.toNat_of_nonneg hd0] at t
  refine T.bind t (λv hv=>?_)
  exact T.imp (AyE hx hs hat hl hp hle r (i+1) v (bC hd) oM hv.2) (λw hw=>⟨oM,hw.2⟩)
theorem AyD {m x:Arr} {l l3:List Int} {s o:Int} (hx:(x.cells.length:Int)<=16384) (hs:0<s) (hg:0<l.length) (hp:∀v∈l,0<=v) (hN:o*(l.length*s)=x.cells.length) (hb:o*(sF l*s)<=16384):∀(d:Nat) (y:Int) (out:List aA),0<=y->y+d=o->(out.length:Int)=y*(sF l*s)->(∀c∈out,c∈x.cells) ->
  T (gG (m,x,l,l3,s,y*(l.length*s),out)) (λv=>(v.length:Int)=o*(sF l*s)/\∀c∈v,c∈x.cells)
 |0,y,out,h0,h,ho,hc=>by
  rw[gG]
  have:y=o:=oM
  subst this
  exact T.ite (λh'=>by simp at h'; omega) (λ_=>T.ret ⟨oM,hc⟩)
 |d+1,y,out,h0,h,ho,hc=>by
  have hgs:0<(l.length:Int)*s:=Int.mul_pos oM hs
  have hlg:(l.length:Int)<=l.length*s:=by
   have:(l.length:Int)*1<=l.length*s:=Int.mul_le_mul_of_nonneg_left oM oM
   omega
  have h1:0<=y*(l.length*s):=Int.mul_nonneg h0 oM
  have h2:(y+1)*(l.length*s)<=o*(l.length*s):=Int.mul_le_mul_of_nonneg_right oM oM
  have h3:(y+1)*(l.length*s)=y*(l.length*s)+l.length*s:=by rw[Int.add_mul,Int.one_mul]
  have hss:0<=sF l*s:=Int.mul_nonneg (tP hp) oM
  have h4:(y+1)*(sF l*s)<=o*(sF l*s):=Int.mul_le_mul_of_nonneg_right oM hss
  have h5:(y+1)*(sF l*s)=y*(sF l*s)+sF l*s:=by rw[Int.add_mul,Int.one_mul]
  rw[gG]
  refine T.ite (λ_=>?_) (λh'=>by simp at h'; omega)
  refine T.bind (AyE hx hs h1 oM hp oM l 0 out rfl oM hc) (λv hv=>?_)
  rw[aE (x:=(l.length:Int)*s) oM oM,aE (x:=y*(l.length*s)+l.length*s) oM oM,←h3]
  exact AyD hx hs hg hp hN hb d (y+1) v oM oM (by rw[hv.1]; omega) hv.2
theorem AtL {s:List Int} {k:Nat} {v:Int} (hk:k<s.length):s.set k v=s.take k++([v]++s.drop (k+1)):=by
 rw[List.set_eq_take_append_cons_drop,if_pos hk]; rfl
theorem Ai8 {s:List Int} {k:Nat} (hk:k<s.length):s=s.take k++([s[k]]++s.drop (k+1)):=by
 rw[List.singleton_append,←List.drop_eq_getElem_cons hk,List.take_append_drop]
theorem Ba7 {m a:Arr} {last:Bool} {w:Nat} (hm:Val 0 m) (ha:Val 0 a) (hw:Cw w a.cells):T (rV m a last) (Res w):=by
 unfold rV
 refine T.bind (AqG ha) (λx hx=>?_)
 obtain⟨hv,hpos,hc⟩:=hx
 have hmx:Cw w x.cells:=by rw[hc]; exact hw
 have hz:=hv.i.sized
 have h8:=hz.rank
 have hle:=hz.hi
 refine T.bind (R:=λv=>∃k:Nat,v=(k:Int)/\k<x.shape.length) (T.ite (λ_=>T.ret ⟨x.shape.length-1,by rw[aE oM oM]; omega,oM⟩) (λ_=>T.ret ⟨0,rfl,hpos⟩)) (λax hax=>?_)
 obtain⟨k,rfl,hk⟩:=hax
 refine T.bind (T.val (gL hk) (Q:=λv=>v=x.shape[k]) rfl) (λg hg=>?_)
 subst hg
 have hp0:=hz.pos _ (List.getElem_mem hk)
 have hd0:=hv.i.dims _ (List.getElem_mem hk)
 obtain⟨N,hN⟩:∃N:Nat,(N:Int)=x.shape[k]:=⟨x.shape[k].toNat,oM⟩
 have ht:=BhV (N:=N) hm oM
 rw[←hN]
 refine T.bind ht (λr hr=>?_)
 obtain⟨l,e⟩:=r
 refine T.ite (λhe=>T.ret (Res.err (gA he))) (λhe=>?_)
 obtain⟨all,t⟩:=hr (eD he)
 have t1:=t.len
 have hlt:l.take N=l:=List.take_of_length_le (by simp only at t1; omega)
 have t2:∀v∈l,0<=v:=by have:=t.pos; simp only at this; rw[hlt] at this; exact this
 have t3:sF l=all:=by have:=t.sum; simp only at this; rw[hlt] at this; exact this
 have t4:=t.le
 simp only at t1
 have hs0:0<=sF l:=tP t2
 refine T.bind (eF (by simp; omega)) (λl1 hl1=>?_)
 subst hl1
 rw[List.nil_append]
 refine T.bind (T.val (vH (n:=x.shape.length) oM oM) (Q:=λv=>v=k) oM) (λj hj=>?_)
 subst hj
 refine T.bind (T.val (by unfold oL; rw[if_pos hk]) (Q:=λv=>v=x.shape.set j 0) rfl) (λl2 hl2=>?_)
 subst hl2
 refine T.bind (AyC hk oM t2 oM l 0 0 rfl oM oM) (λc hcc=>?_)
 subst hcc
 rw[Int.zero_add]
 refine T.bind (vQ sM) (λl3 hl3=>?_)
 have hl3':l3=x.shape.take j++([sF l]++x.shape.drop (j+1)):=by rw[hl3,AtL hk]
 refine T.bind (T.val (AaJ l3) (Q:=λv=>v=lZ l3) rfl) (λz hzz=>?_)
 obtain⟨z1,z2⟩:=z
 refine T.ite (λhe=>T.ret (Res.err (gA he))) (λhe=>?_)
 have hS:nE l3 z1:=by
  have h':z2=0:=eD he
  have:=vG (s:=l3) (by rw[←hzz]; exact h')
  rw[←hzz] at this; exact this
 have hdims:∀d∈l3,d<=16384:=by
  intro d hd
  rw[hl3'] at hd
  rcases List.mem_append.1 hd with hd|hd
  ·exact hv.i.dims d (List.mem_of_mem_take hd)
  rcases List.mem_cons.1 hd with rfl|hd
  ·omega
  exact hv.i.dims d (List.mem_of_mem_drop hd)
 have fin:∀cs:List aA,(cs.length:Int)=z1->(∀c∈cs,c∈x.cells)->Val 0 (Arr.mk l3 cs)/\Cw w (Arr.mk l3 cs).cells:=λcs h1 h2=>frv hv hmx (by rw[h1]; exact hS) hdims λc hc=>.inl (h2 c hc)
 have hzp:=hS.prod
 have hz2:=hS.hi
 rw[hl3',gH,gH] at hzp
 simp only[aS,Int.mul_one] at hzp
 have hxp:=hz.prod
 rw[Ai8 hk,gH,gH,←hN] at hxp
 simp only[aS,Int.mul_one] at hxp
 rw[show w64 ((j:Int)+1)=((j+1:Nat):Int) from by rw[aE oM oM]; rfl]
 refine T.bind (T.val (v:=x.shape.drop (j+1)) (by unfold lfrom; rw[if_pos oM]; simp) (Q:=λv=>v=x.shape.drop (j+1)) rfl) (λl4 hl4=>?_)
 subst hl4
 refine T.bind (T.val (AtF (by unfold Few; simp; omega) (x.shape.drop (j+1)) 0 1 rfl) (Q:=λv=>v=dY 1 (x.shape.drop (j+1))) rfl) (λs hs=>?_)
 by_cases hne:x.cells.length=0
 ·rw[gG]
  rw[if_neg (by simp[hne])]
  refine T.bind (T.ret (Q:=λv=>v=[]) rfl) (λv hv'=>?_)
  subst hv'
  refine T.ret λ_=>fin [] ?_ sM
  rw[hne] at hxp
  rw[←hzp]
  rcases Int.mul_eq_zero.1 hxp with h|h
  ·rw[h]; simp
  rcases Int.mul_eq_zero.1 h with h|h
  ·have:l=[]:=List.length_eq_zero_iff.1 oM
   rw[this]; simp[sF]
  rw[h]; simp
 have hz':=hz
 rw[Ai8 hk] at hz'
 obtain⟨p1,p2,p3,p4⟩:=pV hz' oM
 obtain⟨q1,q2,q3,q4⟩:=pV p2 oM
 simp only[aS,Int.mul_one] at q3
 rw[kH q2] at hs
 subst hs
 have t:=AyD (m:=m) (x:=x) (l:=l) (l3:=l3) (s:=aS (x.shape.drop (j+1))) (o:=aS (x.shape.take j)) hle q4 oM t2 (by rw[t1]; exact hxp) oM (aS (x.shape.take j)).toNat 0 [] oM oM sM sM
 rw[Int.zero_mul] at t
 exact T.bind t (λr hr=>T.ret λ_=>fin r (by rw[hr.1]; exact hzp) hr.2)
theorem BdE {s:List Int} (h:(lZ s).2≠0):(lZ s).1=0:=by
 unfold lZ at h ⊢
 split
 ·rfl
 rename_i h8
 rw[if_neg h8] at h
 cases hn:Aa5 false s with
 |error r=>
  have:∀{l:List Int} {b:Bool} {r},Aa5 b l=.error r->r.1=0:=by
   intro l
   induction l with
   |nil=>intro b r h; simp[Aa5] at h
   |cons d t ih=>
    intro b r h
    simp only[Aa5] at h
    split at h
    ·cases h; rfl
    exact ih h
  exact this hn
 |ok b=>
  cases b with
  |true=>rfl
  |false=>
   simp only
   rw[hn] at h
   cases hs:wS 1 s with
   |error r=>
    have:∀{l:List Int} {n:Int} {r},wS n l=.error r->r.1=0:=by
     intro l
     induction l with
     |nil=>intro n r h; simp[wS] at h
     |cons d t ih=>
      intro n r h
      simp only[wS] at h
      split at h
      ·cases h; rfl
      exact ih h
    exact this hs
   |ok n=>rw[hs] at h; simp at h
theorem AeG {s:List Int} {k:Nat} (h8:s.length<=8) (hk:k<s.length):T (cF s (k:Int)) (λr=>r=s.take k++s.drop (k+1)):=by
 unfold cF
 refine T.bind (T.val (by unfold lto; rw[if_pos ⟨oM,oM⟩]) (Q:=λv=>v=s.take k) sM) (λl hl=>?_)
 subst hl
 refine T.bind (eF (by simp; omega)) (λl1 hl1=>?_)
 subst hl1
 rw[show w64 ((k:Int)+1)=((k+1:Nat):Int) from by rw[aE oM oM]; rfl]
 refine T.bind (T.val (v:=s.drop (k+1)) (by unfold lfrom; rw[if_pos oM]; simp) (Q:=λv=>v=s.drop (k+1)) rfl) (λl2 hl2=>?_)
 subst hl2
 refine T.bind (eF (by simp; omega)) (λl3 hl3=>?_)
 subst hl3
 exact T.ret sM
theorem BaI {s:List Int} {k:Nat} (h8:s.length<=8) (hk:k<=s.length):T (eG s (k:Int)) (λr=>r=s.take k++([1]++s.drop k)):=by
 unfold eG
 refine T.bind (T.val (by unfold lto; rw[if_pos ⟨oM,oM⟩]) (Q:=λv=>v=s.take k) sM) (λl hl=>?_)
 subst hl
 refine T.bind (eF (by simp; omega)) (λl1 hl1=>?_)
 subst hl1
 refine T.bind (eF (by simp; omega)) (λl2 hl2=>?_)
 subst hl2
 refine T.bind (T.val (v:=s.drop k) (by unfold lfrom; rw[if_pos oM]; simp) (Q:=λv=>v=s.drop k) rfl) (λl3 hl3=>?_)
 subst hl3
 refine T.bind (eF (by simp; omega)) (λl4 hl4=>?_)
 subst hl4
 exact T.ret sM
theorem AnW {a:Arr} {sh:List Int} {n:Int} (hn:n<=16384) (hne:0<a.cells.length):∀(d:Nat) (i:Int) (out:List aA),0<=i->i+d=max n i->(out.length:Int)=i->(∀c∈out,c∈a.cells)->T (kU (a,sh,n,i,out)) (λr=>(r.length:Int)=max n i/\∀c∈r,c∈a.cells)
 |0,i,out,h0,h,ho,hc=>by
  rw[kU]
  exact T.ite (λh'=>by simp at h'; omega) (λ_=>T.ret ⟨oM,hc⟩)
 |d+1,i,out,h0,h,ho,hc=>by
  rw[kU]
  refine T.ite (λ_=>?_) (λh'=>by simp at h'; omega)
  refine T.bind (T.lget (Q:=λv=>v∈a.cells) oM oM λ_ h=>List.mem_of_getElem? h) (λc hcm=>?_)
  refine T.bind (eF (by simp; omega)) (λl hl=>?_)
  subst hl
  rw[Af2 h0 oM]
  refine T.imp (AnW hn hne d (i+1) _ oM oM (by simp; omega) ?_) (λr hr=>⟨oM,hr.2⟩)
  intro y hy
  rcases List.mem_append.1 hy with hy|hy
  ·exact hc y hy
  simp only[List.mem_singleton] at hy; subst hy; exact hcm
structure Ar6 (src:List aA) (k:Nat) (x:Arr):Prop where
 ax:k<x.shape.length
 rank:x.shape.length<=8
 dims:∀d∈x.shape,0<=d/\d<=16384
 len:(x.cells.length:Int)=(lZ x.shape).1
 mem:∀c∈x.cells,c∈src
theorem AyU {a:Arr} {sh:List Int} {k:Nat} (hne:0<a.cells.length) (h1:k<sh.length) (h2:sh.length<=8) (h3:∀d∈sh,0<=d/\d<=16384):T (jN a sh) (λr=>r.shape=sh/\Ar6 a.cells k r):=by
 unfold jN
 refine T.bind (T.val (AaJ sh) (Q:=λv=>v=lZ sh) rfl) (λz hz=>?_)
 obtain⟨n,e⟩:=z
 have hn:0<=n/\n<=16384:=by
  by_cases h:(lZ sh).2=0
  ·have:=vG h
   rw[←hz] at this
   exact⟨this.lo,this.hi⟩
  have:=BdE h
  rw[←hz] at this
  simp only at this; omega
 refine T.bind (AnW hn.2 hne n.toNat 0 [] oM oM sM sM) (λr hr=>?_)
 exact T.ret ⟨rfl,h1,h2,h3,by show (r.length:Int)=(lZ sh).1; rw[←hz]; simp only; omega,hr.2⟩
theorem zM {a:Arr} (hv:Val 0 a) {k:Nat} (hk:k<a.shape.length):Ar6 a.cells k a:=
 ⟨hk,hv.i.sized.rank,λd hd=>⟨hv.i.sized.pos d hd,hv.i.dims d hd⟩,by rw[sizeS_of hv.i.sized],λc hc=>hc⟩
theorem AsZ {a:Arr} (hv:Val 0 a) {k:Nat} (hk:k<=a.shape.length) (h8:a.shape.length<8):Ar6 a.cells k (Arr.mk (a.shape.take k++([1]++a.shape.drop k)) a.cells):=by
 have hz:=hv.i.sized
 have hd:∀d∈a.shape.take k++([1]++a.shape.drop k),0<=d/\d<=16384:=by
  intro d hd
  rcases List.mem_append.1 hd with hd|hd
  ·exact⟨hz.pos d (List.mem_of_mem_take hd),hv.i.dims d (List.mem_of_mem_take hd)⟩
  rcases List.mem_cons.1 hd with rfl|hd
  ·omega
  exact⟨hz.pos d (List.mem_of_mem_drop hd),hv.i.dims d (List.mem_of_mem_drop hd)⟩
 have hl:(a.shape.take k++([1]++a.shape.drop k)).length=a.shape.length+1:=by simp; omega
 have hs:nE (a.shape.take k++([1]++a.shape.drop k)) a.cells.length:=by
  refine nE.of oM hd ?_ hz.hi
  rw[gH,gH,←hz.prod]
  simp only[aS,Int.mul_one,Int.one_mul]
  rw[←gH,List.take_append_drop]
 refine⟨?_,?_,hd,?_,λc hc=>hc⟩
 ·show k<(a.shape.take k++([1]++a.shape.drop k)).length
  omega
 ·show (a.shape.take k++([1]++a.shape.drop k)).length<=8
  omega
 show (a.cells.length:Int)=(lZ (a.shape.take k++([1]++a.shape.drop k))).1
 rw[sizeS_of hs]
theorem BbR {a b:Arr} {k:Nat} (ha:Val 0 a) (hb:Val 0 b) (hk:k<a.shape.length\/k<b.shape.length) (hk2:(a.shape.length:Int)-b.shape.length=1->k<=b.shape.length) (hk3:(a.shape.length:Int)-b.shape.length=-1->k<=a.shape.length) :
  T ((if ((List.length a.shape:Int)==0) then
     cF b.shape (k:Int)>>=λx2=>
     eG x2 (k:Int)>>=λx3=>
     jN a x3>>=λx4=>
     some (.ok (b.shape,b.cells,x4.shape,x4.cells))
    else
     if ((List.length b.shape:Int)==0) then
      cF a.shape (k:Int)>>=λx5=>
      eG x5 (k:Int)>>=λx6=>
      jN b x6>>=λx7=>
      some (.ok (x7.shape,x7.cells,a.shape,a.cells))
     else
      if ((w64 ((List.length a.shape:Int)-(List.length b.shape:Int)))==1) then
       eG b.shape (k:Int)>>=λx8=>
       some (.ok (x8,b.cells,a.shape,a.cells))
      else
       if ((w64 ((List.length a.shape:Int)-(List.length b.shape:Int)))==(-1)) then
        eG a.shape (k:Int)>>=λx9=>
        some (.ok (b.shape,b.cells,x9,a.cells))
       else
        if ((w64 ((List.length a.shape:Int)-(List.length b.shape:Int))) != 0) then
         some (.error (a,b,(0:Int),(6:Int)))
        else
         some (.ok (b.shape,b.cells,a.shape,a.cells)):Option (Except (Arr×Arr×Int×Int) ((List Int)×(List aA)×(List Int)×(List aA)))))
   (λr=>match r with|.error r=>r.2.2.2≠0|.ok r=>Ar6 b.cells k (.mk r.1 r.2.1)/\Ar6 a.cells k (.mk r.2.2.1 r.2.2.2)/\r.1.length=r.2.2.1.length):=by
 have hra:=ha.i.sized.rank
 have hrb:=hb.i.sized.rank
 have E:∀{x:Arr},Arr.mk x.shape x.cells=x:=λ{x}=>by cases x; rfl
 have one:∀{c:Arr},Val 0 c->k<c.shape.length->T (cF c.shape (k:Int)>>=λx2=>eG x2 (k:Int)) (λr=>k<r.length/\r.length=c.shape.length/\∀d∈r,0<=d/\d<=16384):=by
  intro c hc hkc
  have hrc:=hc.i.sized.rank
  refine T.bind (AeG hrc hkc) (λx hx=>?_)
  subst hx
  refine T.imp (BaI (by simp; omega) (by simp; omega)) (λr hr=>?_)
  subst hr
  refine⟨by simp; omega,by simp; omega,?_⟩
  intro d hd
  have hm:∀d∈c.shape.take k++c.shape.drop (k+1),0<=d/\d<=16384:=by
   intro d hd
   rcases List.mem_append.1 hd with hd|hd
   ·exact⟨hc.i.sized.pos d (List.mem_of_mem_take hd),hc.i.dims d (List.mem_of_mem_take hd)⟩
   exact⟨hc.i.sized.pos d (List.mem_of_mem_drop hd),hc.i.dims d (List.mem_of_mem_drop hd)⟩
  rcases List.mem_append.1 hd with hd|hd
  ·exact hm d (List.mem_of_mem_take hd)
  rcases List.mem_cons.1 hd with rfl|hd
  ·omega
  exact hm d (List.mem_of_mem_drop hd)
 refine T.ite (λh1=>?_) (λh1=>T.ite (λh2=>?_) (λh2=>?_))
 ·have h1:a.shape.length=0:=by
          have:(a.shape.length:Int)=0:=eD (by simpa using h1)
          omega
  obtain⟨c,hc⟩:=yJ ha oM
  obtain⟨s,hs1,hs2⟩:=one hb oM
  have hbind:∀{β:Type} (f:List Int->Option β),(cF b.shape (k:Int)>>=λx2=>eG x2 (k:Int)>>=f)=f s:=by
   intro β f
   cases hw:cF b.shape (k:Int) with
   |none=>rw[hw] at hs1; simp at hs1
   |some v=>
    rw[hw] at hs1
    simp only[oJ,bJ] at hs1 ⊢
    rw[hs1]; rfl
  rw[hbind]
  refine T.bind (AyU (a:=a) (by rw[hc]; simp) hs2.1 oM hs2.2.2) (λr hr=>T.ret ⟨by rw[E]; exact zM hb oM,by rw[E]; exact hr.2,?_⟩)
  simp only; rw[hr.1]; omega
 ·have h1:a.shape.length≠0:=by
          have:(a.shape.length:Int)≠0:=by simpa using h1
          omega
  have h2:b.shape.length=0:=by
          have:(b.shape.length:Int)=0:=eD (by simpa using h2)
          omega
  obtain⟨c,hc⟩:=yJ hb oM
  obtain⟨s,hs1,hs2⟩:=one ha oM
  have hbind:∀{β:Type} (f:List Int->Option β),(cF a.shape (k:Int)>>=λx2=>eG x2 (k:Int)>>=f)=f s:=by
   intro β f
   cases hw:cF a.shape (k:Int) with
   |none=>rw[hw] at hs1; simp at hs1
   |some v=>
    rw[hw] at hs1
    simp only[oJ,bJ] at hs1 ⊢
    rw[hs1]; rfl
  rw[hbind]
  refine T.bind (AyU (a:=b) (by rw[hc]; simp) hs2.1 oM hs2.2.2) (λr hr=>T.ret ⟨by rw[E]; exact hr.2,by rw[E]; exact zM ha oM,?_⟩)
  simp only; rw[hr.1]; omega
 rw[aE oM oM]
 refine T.ite (λh3=>?_) (λh3=>T.ite (λh4=>?_) (λh4=>T.ite (λh5=>T.ret sM) (λh5=>?_)))
 ·have h3:(a.shape.length:Int)-b.shape.length=1:=eD (by simpa using h3)
  have hk':=hk2 h3
  refine T.bind (BaI hrb hk') (λr hr=>?_)
  subst hr
  exact T.ret ⟨AsZ hb hk' oM,by rw[E]; exact zM ha oM,by simp; omega⟩
 ·have h4:(a.shape.length:Int)-b.shape.length=-1:=eD (by simpa using h4)
  have hk':=hk3 h4
  refine T.bind (BaI hra hk') (λr hr=>?_)
  subst hr
  exact T.ret ⟨by rw[E]; exact zM hb oM,AsZ ha hk' oM,by simp; omega⟩
 have h5:(a.shape.length:Int)-b.shape.length=0:=eD h5
 exact T.ret ⟨by rw[E]; exact zM hb oM,by rw[E]; exact zM ha oM,by simp only; omega⟩
theorem At2 {ax:Int} {x0 x01:List Int} {x11 x12:List aA} {p q:List Int} (hp:p.length<=8) (hq:q.length=p.length):∀(d k:Nat),k+d=p.length->T (oE (ax,x0,x11,x01,x12,p,q,(k:Int))) (λr=>match r with|.error r=>r.2.2.2≠0|.ok _=>p.drop k=q.drop k)
 |0,k,h=>by
  rw[oE]
  exact T.ite (λh'=>by simp at h'; omega) (λ_=>T.ret (by rw[List.drop_eq_nil_of_le oM,List.drop_eq_nil_of_le oM]))
 |d+1,k,h=>by
  rw[oE]
  refine T.ite (λ_=>?_) (λh'=>by simp at h'; omega)
  refine T.bind (T.val (gL (i:=k) oM) (Q:=λv=>v=p[k]'oM) rfl) (λv hv=>?_)
  refine T.bind (T.val (gL (i:=k) oM) (Q:=λv=>v=q[k]'oM) rfl) (λw hw=>?_)
  refine T.ite (λ_=>T.ret sM) (λhe=>?_)
  have he:v=w:=eD he
  rw[aE oM oM]
  refine T.imp (At2 hp hq d (k+1) oM) (λr hr=>?_)
  match r,hr with
  |.error r,h=>exact h
  |.ok _,h=>
   simp only at h ⊢
   rw[List.drop_eq_getElem_cons oM,List.drop_eq_getElem_cons (l:=q) oM,h,←hv,←hw,he]
theorem At3 {ax:Int} {x0 x01:List Int} {x11 x12:List aA} {p q:List Int} (hp:p.length<=8) (hq:q.length=p.length):∀(d k:Nat),k+d=p.length->T (oF (ax,x0,x11,x01,x12,p,q,(k:Int))) (λr=>match r with|.error r=>r.2.2.2≠0|.ok _=>p.drop k=q.drop k)
 |0,k,h=>by
  rw[oF]
  exact T.ite (λh'=>by simp at h'; omega) (λ_=>T.ret (by rw[List.drop_eq_nil_of_le oM,List.drop_eq_nil_of_le oM]))
 |d+1,k,h=>by
  rw[oF]
  refine T.ite (λ_=>?_) (λh'=>by simp at h'; omega)
  refine T.bind (T.val (gL (i:=k) oM) (Q:=λv=>v=p[k]'oM) rfl) (λv hv=>?_)
  refine T.bind (T.val (gL (i:=k) oM) (Q:=λv=>v=q[k]'oM) rfl) (λw hw=>?_)
  refine T.ite (λ_=>T.ret sM) (λhe=>?_)
  have he:v=w:=eD he
  rw[aE oM oM]
  refine T.imp (At3 hp hq d (k+1) oM) (λr hr=>?_)
  match r,hr with
  |.error r,h=>exact h
  |.ok _,h=>
   simp only at h ⊢
   rw[List.drop_eq_getElem_cons oM,List.drop_eq_getElem_cons (l:=q) oM,h,←hv,←hw,he]
structure Alike (a b:Arr) (k:Nat) (x y:Arr):Prop where
 l:Ar6 a.cells k x
 r:Ar6 b.cells k y
 rank:x.shape.length=y.shape.length
 lo:x.shape.take k=y.shape.take k
 hi:x.shape.drop (k+1)=y.shape.drop (k+1)
def Bk1 (a b:Arr) (r:Arr×Arr×Int×Int):Prop:=r.2.2.2=0->∃k:Nat,r.2.2.1=k/\Alike a b k r.1 r.2.1
theorem AoX {a b:Arr} {k:Nat} {x y:Arr} (hl:Ar6 a.cells k x) (hr:Ar6 b.cells k y) (h:y.shape.length=x.shape.length) (he:x.shape.take k++x.shape.drop (k+1)=y.shape.take k++y.shape.drop (k+1)):Alike a b k x y:=by
 have h1:=hl.ax; have h2:=hr.ax
 obtain⟨e1,e2⟩:=List.append_inj he (by simp; omega)
 exact⟨hl,hr,h.symm,e1,e2⟩
theorem BbF {a:Arr} (h:a.shape.length=0):iI a=some (Arr.mk [1] a.cells):=by
 unfold iI
 rw[if_pos (by simp[h])]; rfl
theorem Be5 {a b:Nat} {last:Bool} (h:0<max a b) (h8:max a b<=8):T (if last then some (w64 ((if (a:Int)<(b:Int) then (b:Int) else (a:Int))-1)) else some 0) (λv=>∃k:Nat,v=(k:Int)/\(k<a\/k<b)/\((a:Int)-b=1->k<=b)/\((a:Int)-b=-1->k<=a)):=by
 refine T.ite (λ_=>T.ret ⟨max a b-1,?_,oM,oM,oM⟩) (λ_=>T.ret ⟨0,rfl,oM,oM,oM⟩)
 rw[aE (by split<;>omega) (by split<;>omega)]
 split<;>omega
theorem BjK {a b:Arr} {last:Bool} (ha:Val 0 a) (hb:Val 0 b):T (zU a b last) (Bk1 a b):=by
 unfold zU
 have hra:=ha.i.sized.rank
 have hrb:=hb.i.sized.rank
 refine T.ite (λh1=>T.ite (λh2=>?_) (λh2=>?_)) (λh1=>?_)
 ·have h1:a.shape.length=0:=by
    have:(a.shape.length:Int)=0:=by simpa using h1
    omega
  have h2:b.shape.length=0:=by
    have:(b.shape.length:Int)=0:=by simpa using h2
    omega
  refine T.bind (T.val (BbF h1) (Q:=λv=>v=Arr.mk [1] a.cells) rfl) (λx hx=>?_)
  refine T.bind (T.val (BbF h2) (Q:=λv=>v=Arr.mk [1] b.cells) rfl) (λy hy=>?_)
  refine T.ret λ_=>⟨0,rfl,?_⟩
  subst hx; subst hy
  exact AoX (zM (AoJ ha (List.length_eq_zero_iff.1 h1)) Nat.zero_lt_one) (zM (AoJ hb (List.length_eq_zero_iff.1 h2)) Nat.zero_lt_one) rfl rfl
 ·have h2:b.shape.length≠0:=by
    have:(b.shape.length:Int)≠0:=by simpa using h2
    omega
  refine T.bind (Be5 oM oM) (λv hv=>?_)
  obtain⟨k,rfl,g1,g2,g3⟩:=hv
  refine T.bind (BbR ha hb g1 g2 g3) (λr hr=>?_)
  match r,hr with
  |.error r,h=>exact T.ret λh'=>absurd h' h
  |.ok (x0,x11,x01,x12),⟨e1,e2,e3⟩=>
   have m1:k<x0.length:=e1.ax
   have m2:x0.length<=8:=e1.rank
   have m3:k<x01.length:=e2.ax
   have m4:x01.length<=8:=e2.rank
   have e3:x0.length=x01.length:=e3
   refine T.bind (AeG m4 m3) (λp hp=>?_)
   refine T.bind (AeG m2 m1) (λq hq=>?_)
   have lp:p.length<=8:=by subst hp; simp; omega
   have lq:q.length=p.length:=by subst hp; subst hq; simp; omega
   refine T.bind (At2 lp lq p.length 0 oM) (λv hv=>?_)
   match v,hv with
   |.error r,h=>exact T.ret λh'=>absurd h' h
   |.ok _,h=>exact T.ret λ_=>⟨k,rfl,AoX e2 e1 e3 (by simp only[List.drop_zero] at h; rw[hp,hq] at h; exact h)⟩
 have h1:a.shape.length≠0:=by
   have:(a.shape.length:Int)≠0:=by simpa using h1
   omega
 refine T.bind (Be5 oM oM) (λv hv=>?_)
 obtain⟨k,rfl,g1,g2,g3⟩:=hv
 refine T.bind (BbR ha hb g1 g2 g3) (λr hr=>?_)
 match r,hr with
 |.error r,h=>exact T.ret λh'=>absurd h' h
 |.ok (x0,x11,x01,x12),⟨e1,e2,e3⟩=>
  have m1:k<x0.length:=e1.ax
  have m2:x0.length<=8:=e1.rank
  have m3:k<x01.length:=e2.ax
  have m4:x01.length<=8:=e2.rank
  have e3:x0.length=x01.length:=e3
  refine T.bind (AeG m4 m3) (λp hp=>?_)
  refine T.bind (AeG m2 m1) (λq hq=>?_)
  have lp:p.length<=8:=by subst hp; simp; omega
  have lq:q.length=p.length:=by subst hp; subst hq; simp; omega
  refine T.bind (At3 lp lq p.length 0 oM) (λv hv=>?_)
  match v,hv with
  |.error r,h=>exact T.ret λh'=>absurd h' h
  |.ok _,h=>exact T.ret λ_=>⟨k,rfl,AoX e2 e1 e3 (by simp only[List.drop_zero] at h; rw[hp,hq] at h; exact h)⟩
theorem AlD {x x1:Arr} {ax:Int} {l2 l:List Int} (hf:Few l):∀(r:List Int) (k:Nat) (z:Int),l.drop k=r->kS (x,x1,ax,l2,l,z,(k:Int))=some (dY z r)
 | [],k,z,h=>by
  rw[kS]; simp only[cB (cG h),fJ,if_false,dY]
 |d::r,k,z,h=>by
  have hk:=cH h
  rw[kS]
  simp only[dL hk,if_true,bO h,oJ,bJ,bZ h hf,dY]
  exact AlD hf r (k+1) _ (bC h)
theorem AlE {x x1:Arr} {s y3 y4:Int} {l2 l:List Int} (hf:Few l):∀(r:List Int) (k:Nat) (z:Int),l.drop k=r->kT (x,x1,l2,s,y3,y4,l,z,(k:Int))=some (dY z r)
 | [],k,z,h=>by
  rw[kT]; simp only[cB (cG h),fJ,if_false,dY]
 |d::r,k,z,h=>by
  have hk:=cH h
  rw[kT]
  simp only[dL hk,if_true,bO h,oJ,bJ,bZ h hf,dY]
  exact AlE hf r (k+1) _ (bC h)
theorem AgX {x x1:Arr} {s y3 y4 o c1 c2:Int} {l2:List Int} (e1:w64 (y3*s)=c1) (e2:w64 (y4*s)=c2) (h1:0<=c1) (h2:0<=c2) (hx:(x.cells.length:Int)<=16384) (hx1:(x1.cells.length:Int)<=16384) (g1:o*c1<=x.cells.length) (g2:o*c2<=x1.cells.length) (ho:o<9223372036854775808) :
  ∀(d:Nat) (i:Int) (out:List aA),0<=i->i+d=max o i->(out.length:Int)=i*(c1+c2)->(∀c∈out,c∈x.cells\/c∈x1.cells)->T (jF (x,x1,l2,s,y3,y4,o,i,out)) (λr=>(r.length:Int)=max o i*(c1+c2)/\∀c∈r,c∈x.cells\/c∈x1.cells)
 |0,i,out,h0,h,hl,hc=>by
  rw[jF]
  have:max o i=i:=oM
  rw[this]
  exact T.ite (λh'=>by simp at h'; omega) (λ_=>T.ret ⟨hl,hc⟩)
 |d+1,i,out,h0,h,hl,hc=>by
  have hio:i<o:=oM
  have k1:(i+1)*c1<=o*c1:=Int.mul_le_mul_of_nonneg_right oM h1
  have k2:(i+1)*c2<=o*c2:=Int.mul_le_mul_of_nonneg_right oM h2
  have k3:(i+1)*c1=i*c1+c1:=by rw[Int.add_mul,Int.one_mul]
  have k4:(i+1)*c2=i*c2+c2:=by rw[Int.add_mul,Int.one_mul]
  have k5:0<=i*c1:=Int.mul_nonneg h0 h1
  have k6:0<=i*c2:=Int.mul_nonneg h0 h2
  have k7:i*(c1+c2)=i*c1+i*c2:=Int.mul_add ..
  have k8:(i+1)*(c1+c2)=i*(c1+c2)+(c1+c2):=by rw[Int.add_mul,Int.one_mul]
  rw[jF]
  refine T.ite (λ_=>?_) (λh'=>by simp at h'; omega)
  rw[e1,e2,aE (x:=i+1) oM oM,aE (x:=i*c1) oM oM,aE (x:=i*c2) oM oM,aE (x:=(i+1)*c1) oM oM,aE (x:=(i+1)*c2) oM oM]
  refine T.bind (T.val (by unfold Ag0; rw[if_pos ⟨k5,oM,oM⟩]) (Q:=λv=>(v.length:Int)=c1/\∀c∈v,c∈x.cells) ⟨by rw[List.length_drop,List.length_take]; omega,λc hc=>List.mem_of_mem_take (List.mem_of_mem_drop hc)⟩) (λb1 hb1=>?_)
  refine T.bind (eF oM) (λl6 hl6=>?_)
  have n6:(l6.length:Int)=out.length+c1:=by rw[hl6,List.length_append,Int.natCast_add,hb1.1]
  refine T.bind (T.val (by unfold Ag0; rw[if_pos ⟨k6,oM,oM⟩]) (Q:=λv=>(v.length:Int)=c2/\∀c∈v,c∈x1.cells) ⟨by rw[List.length_drop,List.length_take]; omega,λc hc=>List.mem_of_mem_take (List.mem_of_mem_drop hc)⟩) (λb2 hb2=>?_)
  refine T.bind (eF oM) (λl8 hl8=>?_)
  have n8:(l8.length:Int)=l6.length+c2:=by rw[hl8,List.length_append,Int.natCast_add,hb2.1]
  rw[show max o i=max o (i+1) by omega]
  refine AgX e1 e2 h1 h2 hx hx1 g1 g2 ho d (i+1) l8 oM oM (by rw[n8,n6,hl,k8]; omega) ?_
  intro c hc'
  rw[hl8,hl6] at hc'
  rcases List.mem_append.1 hc' with hc' | hc'
  ·rcases List.mem_append.1 hc' with hc' |hc'
   ·exact hc c hc'
   ·exact .inl (hb1.2 c hc')
  exact .inr (hb2.2 c hc')
theorem AxI {src:List aA} {k:Nat} {x:Arr} (h:Ar6 src k x) {P Q y:Int} (hp:aS x.shape=P*(y*Q)) (hle:P*(y*Q)<=16384):(x.cells.length:Int)=P*(y*Q):=by
 rw[h.len,sizeS_of (nE.of h.rank h.dims hp hle)]
theorem BhH {s t:List Int} {v:Int} {k:Nat} (h:s.length=k) (hk:k<(s++([v]++t)).length):(s++([v]++t))[k]=v:=by
 subst h; simp
theorem BfB {a b:Arr} {last:Bool} {w:Nat} (ha:Val 0 a) (hb:Val 0 b) (hw:Cw w a.cells) (hw2:Cw w b.cells):T (uY a b last) (Res w):=by
 unfold uY
 refine T.bind (BjK ha hb) (λr hr=>?_)
 obtain⟨x,x1,ax,e⟩:=r
 refine T.ite (λhe=>T.ret (Res.err (gA he))) (λhe=>?_)
 obtain⟨k,hax,A0⟩:=hr (eD he)
 have hax:ax=(k:Int):=hax
 subst hax
 have A:Alike a b k x x1:=A0
 clear A0
 have hk:=A.l.ax
 have hk1:=A.r.ax
 have h8:=A.l.rank
 have hy:=A.l.dims _ (List.getElem_mem hk)
 have hy1:=A.r.dims _ (List.getElem_mem hk1)
 obtain⟨y,hyy⟩:∃y,y=x.shape[k]:=⟨_,rfl⟩
 obtain⟨y1,hyy1⟩:∃y,y=x1.shape[k]:=⟨_,rfl⟩
 have sx:=Ai8 hk
 have sx1:=Ai8 hk1
 rw[←A.lo,←A.hi,←hyy1] at sx1
 rw[←hyy] at sx hy
 rw[←hyy1] at hy1
 refine T.bind (eF (by simp; omega)) (λl hl=>?_)
 subst hl
 rw[List.nil_append]
 refine T.bind (T.val (vH (n:=x.shape.length) oM oM) (Q:=λv=>v=k) oM) (λj hj=>?_)
 subst hj
 refine T.bind (T.val (v:=x.shape[j]) (by unfold nM; simp[hk]) (Q:=λv=>v=y) hyy.symm) (λv hv=>?_)
 subst hv
 refine T.bind (T.val (gL hk1) (Q:=λv=>v=y1) hyy1.symm) (λv1 hv=>?_)
 subst hv
 refine T.bind (T.val (vH (n:=x.shape.length) oM oM) (Q:=λv=>v=j) oM) (λj1 hj=>?_)
 subst hj
 rw[aE (x:=v+v1) oM oM]
 refine T.bind (T.val (by unfold oL; rw[if_pos hk]) (Q:=λu=>u=x.shape.take j1++([v+v1]++x.shape.drop (j1+1))) (AtL hk)) (λl1 hl1=>?_)
 refine T.bind (vQ (by rw[hl1]; simp; omega)) (λl2 hl2=>?_)
 subst hl2
 refine T.bind (T.val (AaJ l2) (Q:=λv=>v=lZ l2) rfl) (λz hzz=>?_)
 obtain⟨z1,z2⟩:=z
 refine T.ite (λhe=>T.ret (Res.err oM)) (λhe=>?_)
 have hS:nE l2 z1:=by
  have h':z2=0:=eD he
  have:=vG (s:=l2) (by rw[←hzz]; exact h')
  rw[←hzz] at this; exact this
 have hj2:j1<l2.length:=by rw[hl1]; simp; omega
 refine T.bind (T.val (gL hj2) (Q:=λu=>u=v+v1) ?_) (λy2 hy2=>?_)
 ·subst hl1
  exact BhH (by simp; omega) _
 subst hy2
 refine T.ite (λ_=>T.ret (Res.err oM)) (λhlim=>?_)
 have hlim:v+v1<=16384:=by simpa using hlim
 rw[show w64 ((j1:Int)+1)=((j1+1:Nat):Int) from by rw[aE oM oM]; rfl]
 refine T.bind (T.val (v:=x.shape.drop (j1+1)) (by unfold lfrom; rw[if_pos oM]; simp) (Q:=λv=>v=x.shape.drop (j1+1)) rfl) (λl3 hl3=>?_)
 subst hl3
 refine T.bind (T.val (AlD (by unfold Few; simp; omega) (x.shape.drop (j1+1)) 0 1 rfl) (Q:=λv=>v=dY 1 (x.shape.drop (j1+1))) rfl) (λS hSS=>?_)
 refine T.bind (T.val (gL hk) (Q:=λu=>u=v) hyy.symm) (λy3 hy3=>?_)
 subst hy3
 refine T.bind (T.val (gL hk1) (Q:=λu=>u=v1) hyy1.symm) (λy4 hy4=>?_)
 subst hy4
 refine T.bind (T.val (v:=x.shape.take j1) (by unfold lto; rw[if_pos ⟨oM,oM⟩]; simp) (Q:=λv=>v=x.shape.take j1) rfl) (λl4 hl4=>?_)
 subst hl4
 refine T.bind (T.val (AlE (by unfold Few; simp; omega) (x.shape.take j1) 0 1 rfl) (Q:=λv=>v=dY 1 (x.shape.take j1)) rfl) (λW hW=>?_)
 obtain⟨P,hP⟩:∃P,P=aS (x.shape.take j1):=⟨_,rfl⟩
 obtain⟨Q,hQ⟩:∃Q,Q=aS (x.shape.drop (j1+1)):=⟨_,rfl⟩
 have P0:0<=P:=by rw[hP]; exact nD λd hd=>(A.l.dims d (List.mem_of_mem_take hd)).1
 have Q0:0<=Q:=by rw[hQ]; exact nD λd hd=>(A.l.dims d (List.mem_of_mem_drop hd)).1
 have hz1:=hS.prod
 have hz2:=hS.hi
 rw[hl1,gH,gH,←hP,←hQ] at hz1
 simp only[aS,Int.mul_one] at hz1
 rw[Int.add_mul,Int.mul_add] at hz1
 have px:aS x.shape=P*(y3*Q):=by
  rw[sx,gH,gH,←hP,←hQ]; simp only[aS,Int.mul_one]
 have px1:aS x1.shape=P*(y4*Q):=by
  rw[sx1,gH,gH,←hP,←hQ]; simp only[aS,Int.mul_one]
 have a1:0<=y3*Q:=Int.mul_nonneg hy.1 Q0
 have a2:0<=y4*Q:=Int.mul_nonneg hy1.1 Q0
 have b1:0<=P*(y3*Q):=Int.mul_nonneg P0 a1
 have b2:0<=P*(y4*Q):=Int.mul_nonneg P0 a2
 have nx:=AxI A.l px oM
 have nx1:=AxI A.r px1 oM
 have hdims:∀d∈l2,d<=16384:=by
  intro d hd
  rw[hl1] at hd
  rcases List.mem_append.1 hd with hd|hd
  ·exact (A.l.dims d (List.mem_of_mem_take hd)).2
  rcases List.mem_cons.1 hd with rfl|hd
  ·exact hlim
  exact (A.l.dims d (List.mem_of_mem_drop hd)).2
 have fin:∀cs:List aA,(cs.length:Int)=z1->(∀c∈cs,c∈x.cells\/c∈x1.cells)->Val 0 (Arr.mk l2 cs)/\Cw w (Arr.mk l2 cs).cells:=by
  intro cs h1 h2
  refine⟨AmV (by rw[h1]; exact hS) hdims λc hc=>?_,λc hc=>?_⟩
  ·rcases h2 c hc with h|h
   ·exact ha.i.cells c (A.l.mem c h)
   ·exact hb.i.cells c (A.r.mem c h)
  rcases h2 c hc with h|h
  ·exact hw c (A.l.mem c h)
  exact hw2 c (A.r.mem c h)
 have hWlt:W<9223372036854775808:=by rw[hW]; exact AlX oM
 by_cases hn:z1=0
 ·-- nothing in it
  by_cases hw0:W<=0
  ·rw[jF]
   rw[if_neg (by simp; omega)]
   exact T.bind (T.ret (Q:=λv=>v=[]) rfl) (λu hu=>by subst hu; exact T.ret λ_=>fin [] (by simp[hn]) sM)
  have hP0:P≠0:=by
   intro h
   rw[hP] at h
   rw[hW,Ab8 (AiF h)] at hw0; omega
  have e0:y3*S=0/\y4*S=0:=by
   by_cases hq:Q=0
   ·rw[hQ] at hq
    rw[hSS,Ab8 (AiF hq)]; simp
   have z0:P*(y3*Q)=0:=oM
   have z0':P*(y4*Q)=0:=oM
   have c1:y3=0:=by
    rcases Int.mul_eq_zero.1 z0 with h|h
    ·exact absurd h hP0
    exact (Int.mul_eq_zero.1 h).resolve_right hq
   have c2:y4=0:=by
    rcases Int.mul_eq_zero.1 z0' with h|h
    ·exact absurd h hP0
    exact (Int.mul_eq_zero.1 h).resolve_right hq
   rw[c1,c2]; simp
  refine T.bind (AgX (c1:=0) (c2:=0) (o:=W) (by rw[e0.1]; rfl) (by rw[e0.2]; rfl) oM oM oM oM (by rw[Int.mul_zero]; omega) (by rw[Int.mul_zero]; omega) hWlt (max W 0).toNat 0 [] oM oM sM sM) (λr hr=>?_)
  exact T.ret λ_=>fin r (by rw[hr.1,hn]; simp) hr.2
 have hS':=hS
 rw[hl1] at hS'
 obtain⟨p1,p2,p3,p4⟩:=pV hS' hn
 obtain⟨q1,q2,q3,q4⟩:=pV p2 oM
 rw[kH q2,←hQ] at hSS
 rw[kH p1,←hP] at hW
 subst hSS; subst hW
 rw[←hP] at p3
 have m1:1*(y3*S)<=W*(y3*S):=Int.mul_le_mul_of_nonneg_right oM a1
 have m2:1*(y4*S)<=W*(y4*S):=Int.mul_le_mul_of_nonneg_right oM a2
 refine T.bind (AgX (c1:=y3*S) (c2:=y4*S) (o:=W) (aE oM oM) (aE oM oM) a1 a2 oM oM oM oM hWlt (max W 0).toNat 0 [] oM oM sM sM) (λr hr=>?_)
 refine T.ret λ_=>fin r ?_ hr.2
 rw[hr.1,show max W 0=W by omega,Int.mul_add]; exact hz1
theorem Ba9 {a:Arr} {n:Int} {m:Nat} (hv:Val 0 a) (hm:Cw m a.cells):T (lQ n a (w64 ((a.shape.length:Int)-1))) (λr=>Val 0 r/\Cw m r.cells):=by
 have hr:=hv.i.sized.rank
 rcases Nat.eq_zero_or_pos a.shape.length with h0|h0
 ·unfold lQ
  refine T.ite (λ_=>T.ret ⟨hv,hm⟩) (λ_=>T.ite (λ_=>T.ret ⟨hv,hm⟩) (λh=>?_))
  simp[h0] at h
 rw[show w64 ((a.shape.length:Int)-1)=((a.shape.length-1:Nat):Int) from by rw[aE oM oM]; omega]
 exact AtG hv hm (.inl oM)
theorem BfI {op:Int} {a b:Arr} {w:Nat} (hw:Cw w a.cells) (hw2:Cw w b.cells):T (AeB op a b) (Res w):=by
 unfold AeB
 refine T.bind (R:=λv=>match v with|.error r=>r.2≠0|.ok _=>Val 0 a/\Val 0 b) ?_ (λv hv=>?_)
 ·rw[rE]
  rw[if_pos sM]
  refine T.bind (T.val (v:=a) rfl (Q:=λv=>v=a) rfl) (λy hy=>?_)
  subst hy
  refine T.bind (T.val (rK y) (Q:=λv=>v=AfZ y 0) rfl) (λe he=>?_)
  subst he
  refine T.ite (λhe=>T.ret (gA he)) (λhe1=>?_)
  rw[show w64 ((0:Int)+1)=1 from by rw[aE oM oM]; rfl]
  rw[rE]
  rw[if_pos sM]
  refine T.bind (T.val (v:=b) rfl (Q:=λv=>v=b) rfl) (λz hz=>?_)
  subst hz
  refine T.bind (T.val (rK z) (Q:=λv=>v=AfZ z 0) rfl) (λe he=>?_)
  subst he
  refine T.ite (λhe=>T.ret (gA he)) (λhe2=>?_)
  rw[show w64 ((1:Int)+1)=2 from by rw[aE oM oM]; rfl]
  rw[rE]
  rw[if_neg sM]
  exact T.ret ⟨eD he1,eD he2⟩
 match v,hv with
 |.error r,h=>exact T.ret λh'=>absurd h' h
 |.ok _,⟨ha,hb⟩=>
  refine T.bind (T.val (tQ a 0 ha) (Q:=λv=>v=a) rfl) (λx hx=>?_)
  subst hx
  refine T.bind (T.val (tQ b 0 hb) (Q:=λv=>v=b) rfl) (λy hy=>?_)
  subst hy
  refine T.bind (R:=Any) (T.ite (λ_=>T.any) (λ_=>T.any)) (λx3 _=>?_)
  refine T.ite (λ_=>T.bind (BfB ha hb hw hw2) (λr hr=>T.ret hr)) (λ_=>?_)
  refine T.ite (λ_=>T.bind (BeZ ha hb hw2) (λr hr=>T.ret hr)) (λ_=>?_)
  refine T.ite (λ_=>T.bind (BeZ hb ha hw) (λr hr=>T.ret hr)) (λ_=>?_)
  refine T.bind (R:=Any) (T.ite (λ_=>T.any) (λ_=>T.any)) (λx3 _=>?_)
  refine T.ite (λ_=>T.bind (Ba7 ha hb hw2) (λr hr=>T.ret hr)) (λ_=>?_)
  refine T.bind (R:=Any) (T.ite (λ_=>T.any) (λ_=>T.ite (λ_=>T.any) (λ_=>T.ite (λ_=>T.any) (λ_=>T.any)))) (λx3 _=>?_)
  refine T.ite (λ_=>?_) (λ_=>T.ret (Res.err oM))
  refine T.bind (BfC ha) (λn _=>?_)
  obtain⟨n,e⟩:=n
  refine T.ite (λhe=>T.ret (Res.err (gA he))) (λ_=>?_)
  refine T.ite (λ_=>T.bind (BjU hb hw2) (λr hr=>T.ret hr)) (λ_=>?_)
  refine T.ite (λ_=>T.bind (Bj6 hb hw2) (λr hr=>T.ret λ_=>hr)) (λ_=>?_)
  refine T.ite (λ_=>T.bind (AtG (k:=0) hb hw2 ?_) (λr hr=>T.ret λ_=>hr)) (λ_=>T.bind (Ba9 hb hw2) (λr hr=>T.ret λ_=>hr))
  cases hs:y.shape with
  |nil=>exact .inr rfl
  |cons d r=>exact .inl sM
theorem Bk4 {op:Int} {a:Arr} {w:Nat} (hw:Cw w a.cells) (hwa:wA a<=w):T (Ab2 op a) (Res w):=by
 unfold Ab2
 have E:∀{x:Option (Arr×Int)},T x (Res w)->T (x>>=λ(x,x1)=>some (Except.error (x,x1):Except (Arr×Int) Unit)) (λr=>match r with|.error r=>Res w r|.ok _=>True):=λh=>T.bind h (λr hr=>T.ret hr)
 refine T.bind (R:=λr=>match r with|.error r=>Res w r|.ok _=>True) ?_ (λv hv=>?_)
 ·repeat' (first|exact E AzC|exact E (BfS hw)|exact T.ret trivial|refine T.ite (λ_=>?_) (λ_=>?_))
 match v,hv with
 |.error r,h=>exact T.ret h
 |.ok _,_=>exact T.bind (AzY hw hwa) (λr hr=>T.ret hr)
theorem Bk9 {op:Int} {a b:Arr} {w:Nat} (hw:Cw w a.cells) (hw2:Cw w b.cells):T (Ab3 op a b) (Res w):=by
 unfold Ab3
 have E:∀{x:Option (Arr×Int)},T x (Res w)->T (x>>=λ(x,x1)=>some (Except.error (x,x1):Except (Arr×Int) Unit)) (λr=>match r with|.error r=>Res w r|.ok _=>True):=λh=>T.bind h (λr hr=>T.ret hr)
 refine T.bind (R:=λr=>match r with|.error r=>Res w r|.ok _=>True) ?_ (λv hv=>?_)
 ·repeat' (first|exact E (Bc2 hw2)|exact E BfR|exact E (BfI hw hw2)|exact T.ret trivial|refine T.ite (λ_=>?_) (λ_=>?_))
 match v,hv with
 |.error r,h=>exact T.ret h
 |.ok _,_=>exact T.bind AzB (λr hr=>T.ret hr)
theorem AoE {l u c:Int} (hl:0<=l) (hl2:l<4611686018427387904) (hu:0<=u) (hu2:u<4611686018427387904) :
  fH (.mk (.mk l u) c)=some (if l=0 then (11,0,u) else (0,l-1,u+1)):=by
 unfold fH nA
 rw[if_neg dM]
 by_cases h:l=0
 ·subst h
  rw[if_pos sM,if_pos rfl]
  simp
 rw[if_neg (by simp; omega),if_neg h]
 simp only[aE (x:=l-1) oM oM,aE (x:=u+1) oM oM]
 simp
def cA (a:Arr):Int:=(lD a).getD 0
theorem Bi3 {a:Arr} (h:Val 0 a):lD a=some (cA a)/\(wA a<big->cA a=wA a):=by
 obtain⟨n,hn,hn2⟩:=BgJ a 0 h
 unfold cA
 rw[hn]
 exact⟨rfl,hn2⟩
theorem Bh8 {a:Arr} {e:Int} {names:List Str} {vals:List Arr} {b:aG} (hv:e=0->Val 0 a) :
  aV a e names vals b=some (if e=0 then (if cA a>b.cells then (.mk [] [],12) else (a,0)) else (.mk [] [],e)):=by
 unfold aV
 by_cases he:e=0
 ·subst he
  unfold rB
  rw[(Bi3 (hv rfl)).1]
  by_cases hc:cA a>b.cells
  ·simp[hc]
  simp[hc]
 simp[he]
theorem AzF {n:Node} (h:WfB n):T (iJ n) Any:=by
 unfold iJ
 rcases h with ⟨h,_⟩|⟨h,b,hb,_⟩
 ·rw[h]; exact T.any
 rw[h,hb]
 rw[if_pos dM]
 exact T.bind (kC (Q:=Any) trivial) (λ_ _=>T.any)
theorem At9 {s:Str} {names:List Str} {vals:List Arr} {b:aG} (hf:Few names):∀(r:List Str) (k:Nat),names.drop k=r->T (bT (s,names,vals,b,(k:Int))) (λr=>match r with|.error r=>r.2=0->Val 0 r.1/\r.1∈vals|.ok _=>True)
 | [],k,h=>by
  rw[bT]
  simp only[cB (cG h),fJ,if_false]
  exact T.ret trivial
 |n::r,k,h=>by
  have hk:=cH h
  rw[bT]
  simp only[dL hk,if_true,bO h,oJ,bJ,bZ h hf]
  refine T.bind (R:=λr=>match r with|.error r=>r.2=0->Val 0 r.1/\r.1∈vals|.ok _=>True) ?_ (λv hv=>?_)
  ·refine T.ite (λ_=>T.ite (λhx=>?_) (λ_=>T.ret trivial)) (λ_=>T.ret trivial)
   have hx:(k:Int)<vals.length:=by simpa using hx
   have e1:lget vals (k:Int)=some (vals[k]'oM):=gL oM
   rw[e1]
   simp only[bJ,rK]
   refine T.ite (λ_=>T.ret (λh=>by simp at h)) (λhe=>?_)
   have hv:Val 0 (vals[k]'oM):=eD he
   rw[tQ _ 0 hv]
   exact T.ret λ_=>⟨hv,List.getElem_mem _⟩
  match v,hv with
  |.error r,h=>exact T.ret h
  |.ok _,_=>exact At9 hf r (k+1) (bC h)
theorem BjP {s:Str} {names:List Str} {vals:List Arr} {b:aG} (hf:Few names):T (cZ s names vals b) (λr=>r.2=0->Val 0 r.1/\r.1∈vals):=by
 unfold cZ
 refine T.bind (At9 hf names 0 rfl) (λv hv=>?_)
 match v,hv with
 |.error r,h=>exact T.ret h
 |.ok _,_=>exact T.ret (λh=>by simp at h)
mutual
def fX:Node->List Str
 |.mk kd _ nm _ ks _=>(if kd=2 then [nm] else [])++Av5 ks
def Av5:List Node->List Str
 | []=>[]
 |n::r=>fX n++Av5 r
end
theorem AqI {k:Node}:∀{l:List Node},k∈l->∀s∈fX k,s∈Av5 l
 |n::r,hk,s,hs=>by
  simp only[Av5,List.mem_append]
  rcases List.mem_cons.1 hk with rfl|hk
  ·exact .inl hs
  exact .inr (AqI hk s hs)
theorem pQ {n k:Node} (hk:k∈n.kids):∀s∈fX k,s∈fX n:=by
 cases n; intro s hs
 simp only[fX,List.mem_append]
 exact .inr (AqI hk s hs)
def Lk (N:List Str) (V:List Arr) (N2:List Str) (V2:List Arr) (s:Str):Prop:=∀b b2,cZ s N V b=cZ s N2 V2 b2
theorem Ay1 {s:Str} {N:List Str} {V:List Arr} {b b2:aG} (hf:Few N):∀(r:List Str) (k:Nat),N.drop k=r->bT (s,N,V,b,(k:Int))=bT (s,N,V,b2,(k:Int))
 | [],k,h=>by
  conv=>lhs; rw[bT]
  conv=>rhs; rw[bT]
  simp only[cB (cG h),fJ,if_false]
 |n::r,k,h=>by
  conv=>lhs; rw[bT]
  conv=>rhs; rw[bT]
  simp only[bZ h hf,Ay1 (b:=b) (b2:=b2) hf r (k+1) (bC h)]
theorem BiQ {s:Str} {N:List Str} {V:List Arr} (hf:Few N) (b b2:aG):cZ s N V b=cZ s N V b2:=by
 unfold cZ
 rw[show bT (s,N,V,b,0)=bT (s,N,V,b2,0) from Ay1 hf N 0 rfl]
def dZ (G:Prop) (S:List Str) (N:List Str) (V:List Arr) (l u c:Int) (X:List Str->List Arr->aG->Option (Arr×Int×Int×Int)):Prop:=
 ∃x e l',X N V (.mk (.mk l u) c)=some (x,e,l',u+(l-l'))/\0<=l'/\l'<=l/\(e=0->Val 0 x/\(G->(wA x:Int)<=c)) /\
  ∀k c2 N2 V2,0<=k->k<=1000000->c<=c2->c2<=1000000->(∀s∈S,Lk N V N2 V2 s)->((e≠11/\e≠12)\/(k=0/\c2=c))->X N2 V2 (.mk (.mk (l+k) u) c2)=some (x,e,l'+k,u+(l-l'))
theorem dZ.sub {G S S' N V l u c X} (h:dZ G S N V l u c X) (hs:∀s∈S,s∈S'):dZ G S' N V l u c X:=by
 obtain⟨x,e,l',h1,h2,h3,h4,h5⟩:=h
 exact⟨x,e,l',h1,h2,h3,h4,λk c2 N2 V2 a b d f g=>h5 k c2 N2 V2 a b d f λs hs'=>g s (hs s hs')⟩
theorem dZ.val {G S N V} {l u c:Int} {X:List Str->List Arr->aG->Option (Arr×Int×Int×Int)} {x:Arr} {e:Int} (hf:Few N) (h0:0<=l) (hv:e=0->Val 0 x/\(G->(wA x:Int)<=c))
  (h:∀N2 V2 l2 c2,(∀s∈S,Lk N V N2 V2 s)->c<=c2->((e≠11/\e≠12)\/c2=c)->X N2 V2 (.mk (.mk l2 u) c2)=some (x,e,l2,u)):dZ G S N V l u c X:=by
 refine⟨x,e,l,?_,h0,Int.le_refl _,hv,λk c2 N2 V2 _ _ h2 _ hs hr=>?_⟩
 ·rw[h N V l c (λs _ b b2=>?_) (Int.le_refl _) (.inr rfl)]
  ·simp
  ·exact BiQ hf b b2
 rw[h N2 V2 (l+k) c2 hs h2 (hr.imp id λh=>h.2)]
 simp
theorem dZ.step {G S N V} {l u c:Int} {X Y:List Str->List Arr->aG->Option (Arr×Int×Int×Int)} (h0:0<=l) (h1:l<=2000) (h2:0<=u) (h3:u<=2000)
  (hX:∀N V l u c,X N V (.mk (.mk l u) c)=fH (.mk (.mk l u) c)>>=λ(e,left,used)=>if (e != 0) then some (.mk [] [],e,left,used) else Y N V (.mk (.mk left used) c))
  (h:0<l->dZ G S N V (l-1) (u+1) c Y):dZ G S N V l u c X:=by
 by_cases hl:l=0
 ·subst hl
  refine⟨.mk [] [],11,0,?_,Int.le_refl _,Int.le_refl _,λh=>oM,λk c2 N2 V2 _ _ _ _ _ hr=>?_⟩
  ·rw[hX,AoE oM oM oM oM]; simp
  have hk:k=0:=oM
  subst hk
  rw[hX,Int.zero_add,AoE oM oM oM oM]; simp
 obtain⟨x,e,l',g1,g2,g3,g4,g5⟩:=h oM
 refine⟨x,e,l',?_,g2,oM,g4,λk c2 N2 V2 a b d f g hr=>?_⟩
 ·rw[hX,AoE oM oM oM oM,if_neg hl]
  simp only[oJ,bJ]
  rw[if_neg dM,g1]
  rw[show u+1+(l-1-l')=u+(l-l') by omega]
 rw[hX,AoE oM oM oM oM,if_neg oM]
 simp only[oJ,bJ]
 rw[if_neg dM,show l+k-1=l-1+k by omega,g5 k c2 N2 V2 a b d f g hr]
 rw[show u+1+(l-1-l')=u+(l-l') by omega]
end Go.AM.Seat
namespace Go.AM.Seat
open Go Go.AM
theorem dZ.held {G S N V} {l u c:Int} {a:Arr} {e:Int} (h0:0<=l) (hv:e=0->Val 0 a/\(G->wA a<big)) :
  dZ G S N V l u c (λN V m=>aV a e N V m>>=λ(x,x1)=>some (x,x1,m.fuel.left,m.fuel.used)):=by
 have H:∀N V m,aV a e N V m=some (if e=0 then (if cA a>m.cells then (.mk [] [],12) else (a,0)) else (.mk [] [],e)):=λN V m=>Bh8 λh=>(hv h).1
 by_cases he:e=0
 ·by_cases hc:cA a>c
  ·refine⟨.mk [] [],12,l,?_,h0,Int.le_refl _,λh=>oM,λk c2 N2 V2 _ _ _ _ _ hr=>?_⟩
   ·simp only[H,if_pos he,if_pos hc,oJ,bJ,Int.sub_self,Int.add_zero]
   ·have hc2:c2=c:=oM
    subst hc2
    simp only[H,if_pos he,if_pos hc,oJ,bJ,Int.sub_self,Int.add_zero]
  ·refine⟨a,0,l,?_,h0,Int.le_refl _,λh=>⟨(hv he).1,λg=>?_⟩,λk c2 N2 V2 _ _ h2 _ _ hr=>?_⟩
   ·simp only[H,if_pos he,if_neg hc,oJ,bJ,Int.sub_self,Int.add_zero]
   ·have:=(Bi3 (hv he).1).2 ((hv he).2 g)
    omega
   ·have hc2:¬cA a>c2:=oM
    simp only[H,if_pos he,if_neg hc2,oJ,bJ,Int.sub_self,Int.add_zero]
 refine⟨.mk [] [],e,l,?_,h0,Int.le_refl _,λh=>absurd h he,λk c2 N2 V2 _ _ _ _ _ _=>?_⟩
 ·simp only[H,if_neg he,oJ,bJ,Int.sub_self,Int.add_zero]
 simp only[H,if_neg he,oJ,bJ,Int.sub_self,Int.add_zero]
theorem BjW {a:Arr} {w:Nat} (hv:Val 0 a) (hw:Cw w a.cells) (h:w<=1000000):wA a<big:=by
 rw[Az2,Ao3]
 have h1:=Be6 hw
 have h2:=hv.i.sized.hi
 have h3:a.cells.length*w<=16384*1000000:=Nat.mul_le_mul oM h
 unfold big; omega
theorem dZ.seq {G S N V} {l u c:Int} {X X1:List Str->List Arr->aG->Option (Arr×Int×Int×Int)} {K:Arr×Int×Int×Int->List Str->List Arr->Int->Option (Arr×Int×Int×Int)} {Y:Arr->List Str->List Arr->aG->Option (Arr×Int×Int×Int)}
  (h1:dZ G S N V l u c X1) (hX:∀N V l u c,X N V (.mk (.mk l u) c)=X1 N V (.mk (.mk l u) c)>>=λr=>K r N V c) (he:∀x e l u N V c,e≠0->K (x,e,l,u) N V c=some (.mk [] [],e,l,u)) (hk:∀x l u N V c,K (x,0,l,u) N V c=Y x N V (.mk (.mk l u) c))
  (h2:∀x l',Val 0 x->(G->(wA x:Int)<=c)->0<=l'->l'<=l->dZ G S N V l' (u+(l-l')) c (Y x)):dZ G S N V l u c X:=by
 obtain⟨x,e,l',g1,g2,g3,g4,g5⟩:=h1
 by_cases hz:e=0
 ·subst hz
  obtain⟨v1,v2⟩:=g4 rfl
  obtain⟨y,f,l2,k1,k2,k3,k4,k5⟩:=h2 x l' v1 v2 g2 g3
  refine⟨y,f,l2,?_,k2,oM,k4,λk c2 N2 V2 a b d f2 g hr=>?_⟩
  ·rw[hX,g1]
   simp only[oJ,bJ,hk]
   rw[k1,show u+(l-l')+(l'-l2)=u+(l-l2) by omega]
  rw[hX,g5 k c2 N2 V2 a b d f2 g (.inl oM)]
  simp only[oJ,bJ,hk]
  rw[k5 k c2 N2 V2 a b d f2 g hr,show u+(l-l')+(l'-l2)=u+(l-l2) by omega]
 refine⟨.mk [] [],e,l',?_,g2,g3,λh=>absurd h hz,λk c2 N2 V2 a b d f2 g hr=>?_⟩
 ·rw[hX,g1]
  simp only[oJ,bJ,he _ _ _ _ _ _ _ hz]
 rw[hX,g5 k c2 N2 V2 a b d f2 g hr]
 simp only[oJ,bJ,he _ _ _ _ _ _ _ hz]
theorem BeV {G:Prop} {n:Node} {ar:pE} {S N V} {l u c:Int} (hl0:0<=l) (hl:l<=2000) (hu0:0<=u) (hu:u<=2000) (hk:n.kind=1) (hv:Val 0 n.lit) (hw:G->wA n.lit<big):dZ G S N V l u c (λN V m=>aK (n,ar,N,V,m)):=by
 refine dZ.step (Y:=λN V m=>aV n.lit 0 N V m>>=λ(x,x1)=>some (x,x1,m.fuel.left,m.fuel.used)) hl0 hl hu0 hu ?_ (λh=>dZ.held oM λ_=>⟨hv,hw⟩)
 intro N V l u c
 simp only[]
 rw[aK]
 simp only[hk,beq_self_eq_true,if_true,tQ _ 0 hv,oJ,bJ]
theorem dZ.congr {G:Prop} {S N V} {l u c:Int} {X Y:List Str->List Arr->aG->Option (Arr×Int×Int×Int)} (h:dZ G S N V l u c Y) (e:∀N2 V2 m,(∀s∈S,Lk N V N2 V2 s)->X N2 V2 m=Y N2 V2 m) (hf:Few N):dZ G S N V l u c X:=by
 obtain⟨x,f,l',g1,g2,g3,g4,g5⟩:=h
 exact⟨x,f,l',by rw[e N V _ λs _ b b2=>BiQ hf b b2,g1],g2,g3,g4,λk c2 N2 V2 a b d f2 g hr=>by rw[e N2 V2 _ g]; exact g5 k c2 N2 V2 a b d f2 g hr⟩
mutual
def AjV:Node->Prop
 |.mk kd _ _ l ks _=>(kd=1->Val 0 l->wA l<big)/\BbG ks
def BbG:List Node->Prop
 | []=>True
 |n::r=>AjV n/\BbG r
end
theorem At5:∀{l:List Node},BbG l->∀k∈l,AjV k
 |n::r,h,k,hk=>by
  rcases List.mem_cons.1 hk with rfl|hk
  ·exact h.1
  exact At5 h.2 k hk
theorem AjV.kids {n:Node} (h:AjV n):∀k∈n.kids,AjV k:=by cases n; exact At5 h.2
theorem AjV.lit {n:Node} (h:AjV n):n.kind=1->Val 0 n.lit->wA n.lit<big:=by cases n; exact h.1
def Arg (G:Prop) (c:Int) (a:Arr):Prop:=Val 0 a/\(G->(wA a:Int)<=c)
def Mt (l u c:Int):Prop:=0<=l/\0<=u/\l+u<=2000/\c<=1000000
theorem Mt.less {l u c l':Int} (h:Mt l u c) (h0:0<=l') (h1:l'<=l):Mt l' (u+(l-l')) c:=by
 obtain⟨h2,h3,h4,h5⟩:=h; exact⟨h0,oM,oM,h5⟩
theorem Mt.next {l u c:Int} (h:Mt l u c) (h0:0<l):Mt (l-1) (u+1) c:=by
 obtain⟨h2,h3,h4,h5⟩:=h; exact⟨oM,oM,oM,h5⟩
theorem Ak8 {a:Arr}:Cw (wA a) a.cells:=by
 intro c hc
 rw[Az2,Ao3]
 have:=AoF hc
 omega
theorem ob {α β:Type} {x:Option α} {f g:α->Option β} (h:∀a,f a=g a):(x>>=f)=(x>>=g):=by rw[funext h]
theorem BcL {α β γ δ:Type} (o:Option (α×β×γ×δ)):(o>>=λ(a,b,c,d)=>some (a,b,c,d))=o:=by cases o<;>rfl
theorem dZ.eqv {G S N V} {l u c:Int} {X Y:List Str->List Arr->aG->Option (Arr×Int×Int×Int)} (h:dZ G S N V l u c Y) (e:∀N V m,X N V m=Y N V m):dZ G S N V l u c X:=by
 have:X=Y:=by funext N V m; exact e N V m
 rw[this]; exact h
theorem dZ.prim {G:Prop} {S N V} {l u c:Int} {P:Option (Arr×Int)} {w:Nat} (hP:T P (Res w)) (h0:0<=l) (hc:c<=1000000) (hw:G->(w:Int)<=c) :
  dZ G S N V l u c (λN V m=>P>>=λ(x,x1)=>aV x x1 N V m>>=λ(x2,x3)=>some (x2,x3,m.fuel.left,m.fuel.used)):=by
 obtain⟨⟨x,e⟩,hr,hq⟩:=hP
 subst hr
 refine dZ.eqv (dZ.held (a:=x) (e:=e) h0 λhe=>⟨(hq he).1,λg=>BjW (hq he).1 (hq he).2 ?_⟩) λ_ _ _=>rfl
 have:=hw g
 omega
theorem AzW {f x:Node}:lget [f,x] (w64 ((List.length [f,x]:Int)-1))=some x:=by rfl
theorem AzX {f x y:Node}:lget [f,x,y] (w64 ((List.length [f,x,y]:Int)-1))=some y:=by rfl
theorem dZ.go {G S N V} {l u c:Int} {X Y:List Str->List Arr->aG->Option (Arr×Int×Int×Int)} (hm:Mt l u c)
  (hX:∀N V l u c,X N V (.mk (.mk l u) c)=fH (.mk (.mk l u) c)>>=λ(e,left,used)=>if (e != 0) then some (.mk [] [],e,left,used) else Y N V (.mk (.mk left used) c))
  (h:Mt (l-1) (u+1) c->dZ G S N V (l-1) (u+1) c Y):dZ G S N V l u c X:=
 dZ.step hm.1 (by have:=hm; unfold Mt at this; omega) hm.2.1 (by have:=hm; unfold Mt at this; omega) hX λh0=>h (hm.next h0)
end Go.AM.Seat
namespace Go.AM.Seat
open Go Go.AM
def OkE (G:Prop) (N:List Str) (V:List Arr) (n:Node):Prop:=∀lt rt,WfE lt rt n->(G->AjV n)->∀(ar:pE) (l u c:Int),Mt l u c->(lt=true->Arg G c ar.left)->(rt=true->Arg G c ar.right) ->
 dZ G (fX n) N V l u c (λN V m=>aK (n,ar,N,V,m))
def OkM (G:Prop) (N:List Str) (V:List Arr) (n:Node):Prop:=WfM n->(G->AjV n)->∀(a:Arr) (l u c:Int),Mt l u c->Arg G c a->dZ G (fX n) N V l u c (λN V m=>bA (n,a,N,V,m))
def OkT (G:Prop) (N:List Str) (V:List Arr) (n:Node):Prop:=WfT n->(G->AjV n)->∀(a b:Arr) (l u c:Int),Mt l u c->Arg G c a->Arg G c b->dZ G (fX n) N V l u c (λN V m=>bE (n,a,b,N,V,m))
def OkD (G:Prop) (N:List Str) (V:List Arr) (n:Node):Prop:=WfD n->(G->AjV n)->∀(a b:Arr) (l u c:Int),Mt l u c->Arg G c a->Arg G c b->dZ G (fX n) N V l u c (λN V m=>bE (n,a,b,N,V,m))
section
variable {G:Prop} {N:List Str} {V:List Arr} {n:Node}
theorem BeW {ar:pE} {l u c:Int} (hf:Few N) (hG:G->∀v∈V,Val 0 v->wA v<big) (hm:Mt l u c) (hk:n.kind=2):dZ G (fX n) N V l u c (λN V m=>aK (n,ar,N,V,m)):=by
 refine dZ.go (Y:=λN V m=>cZ n.name N V m>>=λ(x3,x4)=>aV x3 x4 N V m>>=λ(x5,x6)=>some (x5,x6,m.fuel.left,m.fuel.used)) hm ?_ (λh=>?_)
 ·intro N V l u c
  simp only[]
  rw[aK]
  simp only[hk]
  rfl
 obtain⟨⟨x,e⟩,hr,hq⟩:=BjP (s:=n.name) (vals:=V) (b:=.mk (.mk l u) c) hf
 refine dZ.congr (Y:=λN V m=>aV x e N V m>>=λ(x5,x6)=>some (x5,x6,m.fuel.left,m.fuel.used)) (dZ.held h.1 λhe=>⟨(hq he).1,λg=>hG g _ (hq he).2 (hq he).1⟩) ?_ hf
 intro N2 V2 m hs
 have:cZ n.name N2 V2 m=some (x,e):=by
  rw[←hs n.name (by obtain⟨k,o,nm,lt,ks,at_⟩:=n; simp only[Node.kind] at hk; subst hk; simp[fX,Node.name]) (.mk (.mk l u) c) m,hr]
 rw[this]
 rfl
theorem Ax5 {ar:pE} {l u c:Int} {x:Arr} (hf:Few N) (hm:Mt l u c) (hx:Arg G c x) (hk:(n.kind=3/\ar.left=x)\/(n.kind=4/\ar.right=x)):dZ G (fX n) N V l u c (λN V m=>aK (n,ar,N,V,m)):=by
 refine dZ.go (Y:=λN V m=>some (x,0,m.fuel.left,m.fuel.used)) hm ?_ (λh=>?_)
 ·intro N V l u c
  simp only[]
  rw[aK]
  rcases hk with ⟨hk,rfl⟩|⟨hk,rfl⟩
  ·simp only[hk]; rfl
  simp only[hk]; rfl
 exact dZ.val hf h.1 (λ_=>hx) λN2 V2 l2 c2 _ _ _=>rfl
theorem Bh2 {ar:pE} {l u c:Int} {f x:Node} (hm:Mt l u c) (hk:n.kind=5) (hks:n.kids=[f,x])
  (hx:Mt (l-1) (u+1) c->dZ G (fX x) N V (l-1) (u+1) c (λN V m=>aK (x,ar,N,V,m)))
  (hf:∀l u a,Mt l u c->Arg G c a->dZ G (fX f) N V l u c (λN V m=>bA (f,a,N,V,m))):dZ G (fX n) N V l u c (λN V m=>aK (n,ar,N,V,m)):=by
 let K:Arr×Int×Int×Int->List Str->List Arr->Int->Option (Arr×Int×Int×Int):=λ(x7,e1,left1,used1) N V c=>
  if (e1 != 0) then some (.mk [] [],e1,left1,used1) else bA (f,x7,N,V,.mk (.mk left1 used1) c)>>=λ(x10,x11,left3,used3)=>some (x10,x11,left3,used3)
 refine dZ.go (Y:=λN V m=>aK (x,ar,N,V,m)>>=λr=>K r N V m.cells) hm ?_ (λh=>?_)
 ·intro N V l u c
  conv=>lhs; simp only[]; rw[aK]
  refine ob λ⟨e,left,used⟩=>?_
  simp only[hk,hks,AzW,oJ,bJ]
  congr 1
  refine ob λ⟨x7,e1,left1,used1⟩=>?_
  simp only[K]
  by_cases he:e1=0
  ·subst he; rfl
  rw[if_pos (by simpa using he),if_pos (by simpa using he),if_pos (by simpa using he)]
 refine dZ.seq (X1:=λN V m=>aK (x,ar,N,V,m)) (K:=K) (Y:=λa N V m=>bA (f,a,N,V,m)) ((hx h).sub (pQ (by rw[hks]; simp))) (λ_ _ _ _ _=>rfl) ?_ ?_ ?_
 ·intro x e l u N V c he
  simp only[K]; rw[if_pos (by simpa using he)]
 ·intro x l u N V c
  exact BcL _
 intro a l' hv hw h0 h1
 exact (hf _ _ a (h.less h0 h1) ⟨hv,hw⟩).sub (pQ (by rw[hks]; simp))
theorem Bh1 {ar:pE} {l u c:Int} {f x y:Node} (hm:Mt l u c) (hk:n.kind=6) (hks:n.kids=[f,x,y])
  (hy:∀l u,Mt l u c->dZ G (fX y) N V l u c (λN V m=>aK (y,ar,N,V,m)))
  (hx:∀l u,Mt l u c->dZ G (fX x) N V l u c (λN V m=>aK (x,ar,N,V,m)))
  (hf:∀l u a b,Mt l u c->Arg G c a->Arg G c b->dZ G (fX f) N V l u c (λN V m=>bE (f,a,b,N,V,m))):dZ G (fX n) N V l u c (λN V m=>aK (n,ar,N,V,m)):=by
 let K2:Arr->Arr×Int×Int×Int->List Str->List Arr->Int->Option (Arr×Int×Int×Int):=λx7 (x12,e2,left4,used4) N V c=>
  if (e2 != 0) then some (.mk [] [],e2,left4,used4) else bE (f,x12,x7,N,V,.mk (.mk left4 used4) c)>>=λ(x10,x11,left3,used3)=>some (x10,x11,left3,used3)
 let Y2:Arr->List Str->List Arr->aG->Option (Arr×Int×Int×Int):=λx7 N V m=>aK (x,ar,N,V,m)>>=λr=>K2 x7 r N V m.cells
 let K:Arr×Int×Int×Int->List Str->List Arr->Int->Option (Arr×Int×Int×Int):=λ(x7,e1,left1,used1) N V c=>
  if (e1 != 0) then some (.mk [] [],e1,left1,used1) else Y2 x7 N V (.mk (.mk left1 used1) c)
 refine dZ.go (Y:=λN V m=>aK (y,ar,N,V,m)>>=λr=>K r N V m.cells) hm ?_ (λh=>?_)
 ·intro N V l u c
  conv=>lhs; simp only[]; rw[aK]
  refine ob λ⟨e,left,used⟩=>?_
  simp only[hk,hks,AzX,oJ,bJ]
  congr 1
  refine ob λ⟨x7,e1,left1,used1⟩=>?_
  simp only[K,Y2,K2]
  by_cases he:e1=0
  ·subst he; rfl
  rw[if_pos (by simpa using he),if_pos (by simpa using he),if_pos (by simpa using he)]
 refine dZ.seq (X1:=λN V m=>aK (y,ar,N,V,m)) (K:=K) (Y:=Y2) ((hy _ _ h).sub (pQ (by rw[hks]; simp))) (λ_ _ _ _ _=>rfl) ?_ ?_ ?_
 ·intro x e l u N V c he
  simp only[K]; rw[if_pos (by simpa using he)]
 ·intro x l u N V c
  rfl
 intro a l' hv hw h0 h1
 have hm':=h.less h0 h1
 refine dZ.seq (X1:=λN V m=>aK (x,ar,N,V,m)) (K:=K2 a) (Y:=λb N V m=>bE (f,b,a,N,V,m)) ((hx _ _ hm').sub (pQ (by rw[hks]; simp))) (λ_ _ _ _ _=>rfl) ?_ ?_ ?_
 ·intro x e l u N V c he
  simp only[K2]; rw[if_pos (by simpa using he)]
 ·intro x l u N V c
  exact BcL _
 intro b l2 hv2 hw2 h2 h3
 exact (hf _ _ b a (hm'.less h2 h3) ⟨hv2,hw2⟩ ⟨hv,hw⟩).sub (pQ (by rw[hks]; simp))
end
end Go.AM.Seat
namespace Go.AM.Seat
open Go Go.AM
section
variable {G:Prop} {N:List Str} {V:List Arr} {n:Node}
theorem dZ.fold {S N V} {l u c:Int} {P:Option (Arr×Int)} {b:Node} {w:Nat} (hb:WfB b) {R:cC->Option (Arr×Int)} (hP:∀f,T (R f) (Res w)) (h0:0<=l) (hc:c<=1000000) (hw:G->(w:Int)<=c) :
  dZ G S N V l u c (λN V m=>iJ b>>=λx8=>R x8>>=λ(x,x1)=>aV x x1 N V m>>=λ(x2,x3)=>some (x2,x3,m.fuel.left,m.fuel.used)):=by
 obtain⟨f,hr,_⟩:=AzF hb
 rw[hr]
 exact dZ.prim (hP f) h0 hc hw
theorem BfF {a:Arr} {l u c:Int} (hm:Mt l u c) (ha:Arg G c a) (hk:n.kind=21):dZ G (fX n) N V l u c (λN V m=>bA (n,a,N,V,m)):=by
 refine dZ.go (Y:=λN V m=>Ab2 n.op_ a>>=λ(x,x1)=>aV x x1 N V m>>=λ(x2,x3)=>some (x2,x3,m.fuel.left,m.fuel.used)) hm ?_ (λh=>dZ.prim (Bk4 Ak8 (Nat.le_refl _)) h.1 h.2.2.2 ha.2)
 intro N V l u c
 simp only[]
 rw[bA]
 simp only[hk]
 rfl
theorem Bg0 {a b:Arr} {l u c:Int} (hm:Mt l u c) (ha:Arg G c a) (hb:Arg G c b) (hk:n.kind=21):dZ G (fX n) N V l u c (λN V m=>bE (n,a,b,N,V,m)):=by
 have hle:∀{w v:Nat} {l:List aA},Cw w l->w<=v->Cw v l:=λh h' c hc=>Nat.le_trans (h c hc) h'
 refine dZ.go (Y:=λN V m=>Ab3 n.op_ a b>>=λ(x,x1)=>aV x x1 N V m>>=λ(x2,x3)=>some (x2,x3,m.fuel.left,m.fuel.used)) hm ?_
  (λh=>dZ.prim (Bk9 (w:=max (wA a) (wA b)) (hle Ak8 oM) (hle Ak8 oM)) h.1 h.2.2.2 λg=>by have:=ha.2 g; have:=hb.2 g; omega)
 intro N V l u c
 simp only[]
 rw[bE]
 simp only[hk]
 rfl
theorem BfE {a:Arr} {l u c:Int} {b:Node} (hm:Mt l u c) (ha:Arg G c a) (hk:n.kind=31\/n.kind=32\/n.kind=33\/n.kind=34) (hks:n.kids=[b]) (hb:WfB b):dZ G (fX n) N V l u c (λN V m=>bA (n,a,N,V,m)):=by
 have g:n.kind=31\/n.kind=32\/n.kind=33\/n.kind=34:=hk
 by_cases h12:n.kind=31\/n.kind=32
 ·refine dZ.go (Y:=λN V m=>iJ b>>=λx9=>yV x9 a (n.kind==32)>>=λ(x,x1)=>aV x x1 N V m>>=λ(x2,x3)=>some (x2,x3,m.fuel.left,m.fuel.used)) hm ?_
   (λh=>dZ.fold (P:=none) hb (λf=>Bk5 Ak8) h.1 h.2.2.2 ha.2)
  intro N V l u c
  simp only[]
  rw[bA]
  rcases h12 with hk|hk<;>simp only[hk,hks]<;>rfl
 refine dZ.go (Y:=λN V m=>iJ b>>=λx9=>wN x9 a (n.kind==34)>>=λ(x,x1)=>aV x x1 N V m>>=λ(x2,x3)=>some (x2,x3,m.fuel.left,m.fuel.used)) hm ?_
  (λh=>dZ.fold (P:=none) hb (λf=>Bj1 Ak8) h.1 h.2.2.2 ha.2)
 intro N V l u c
 simp only[]
 rw[bA]
 have h34:n.kind=33\/n.kind=34:=oM
 rcases h34 with hk|hk<;>simp only[hk,hks]<;>rfl
theorem BdJ {a b:Arr} {l u c:Int} {k:Node} (hm:Mt l u c) (ha:Arg G c a) (hb':Arg G c b) (hk:n.kind=25) (hks:n.kids=[k]) (hb:WfB k):dZ G (fX n) N V l u c (λN V m=>bE (n,a,b,N,V,m)):=by
 refine dZ.go (Y:=λN V m=>iJ k>>=λx9=>tY x9 a b>>=λ(x,x1)=>aV x x1 N V m>>=λ(x2,x3)=>some (x2,x3,m.fuel.left,m.fuel.used)) hm ?_
  (λh=>dZ.fold (P:=none) hb (λf=>BgM (m:=wA a)) h.1 h.2.2.2 ha.2)
 intro N V l u c
 simp only[]
 rw[bE]
 simp only[hk,hks]
 rfl
theorem BhI {a:Arr} {l u c:Int} {e:Node} (hm:Mt l u c) (hk:n.kind=22) (hks:n.kids=[e])
  (he:∀l u,Mt l u c->dZ G (fX e) N V l u c (λN V m=>aK (e,.mk (.mk [] []) a,N,V,m))):dZ G (fX n) N V l u c (λN V m=>bA (n,a,N,V,m)):=by
 refine dZ.go (Y:=λN V m=>aK (e,.mk (.mk [] []) a,N,V,m)) hm ?_ (λh=>(he _ _ h).sub (pQ (by rw[hks]; simp)))
 intro N V l u c
 conv=>lhs; simp only[]; rw[bA]
 refine ob λ⟨e1,left,used⟩=>?_
 simp only[hk,hks]
 congr 1
 exact BcL _
theorem BfD {a:Arr} {l u c:Int} {f:Node} (hm:Mt l u c) (hk:n.kind=35) (hks:n.kids=[f])
  (he:∀l u,Mt l u c->dZ G (fX f) N V l u c (λN V m=>bE (f,a,a,N,V,m))):dZ G (fX n) N V l u c (λN V m=>bA (n,a,N,V,m)):=by
 refine dZ.go (Y:=λN V m=>bE (f,a,a,N,V,m)) hm ?_ (λh=>(he _ _ h).sub (pQ (by rw[hks]; simp)))
 intro N V l u c
 conv=>lhs; simp only[]; rw[bA]
 refine ob λ⟨e1,left,used⟩=>?_
 simp only[hk,hks]
 congr 1
 exact BcL _
theorem BhX {a b:Arr} {l u c:Int} {e:Node} (hm:Mt l u c) (hk:n.kind=23) (hks:n.kids=[e])
  (he:∀l u,Mt l u c->dZ G (fX e) N V l u c (λN V m=>aK (e,.mk a b,N,V,m))):dZ G (fX n) N V l u c (λN V m=>bE (n,a,b,N,V,m)):=by
 refine dZ.go (Y:=λN V m=>aK (e,.mk a b,N,V,m)) hm ?_ (λh=>(he _ _ h).sub (pQ (by rw[hks]; simp)))
 intro N V l u c
 conv=>lhs; simp only[]; rw[bE]
 refine ob λ⟨e1,left,used⟩=>?_
 simp only[hk,hks]
 congr 1
 exact BcL _
theorem BfZ {a b:Arr} {l u c:Int} {f:Node} (hm:Mt l u c) (hk:n.kind=35) (hks:n.kids=[f])
  (he:∀l u,Mt l u c->dZ G (fX f) N V l u c (λN V m=>bE (f,b,a,N,V,m))):dZ G (fX n) N V l u c (λN V m=>bE (n,a,b,N,V,m)):=by
 refine dZ.go (Y:=λN V m=>bE (f,b,a,N,V,m)) hm ?_ (λh=>(he _ _ h).sub (pQ (by rw[hks]; simp)))
 intro N V l u c
 conv=>lhs; simp only[]; rw[bE]
 refine ob λ⟨e1,left,used⟩=>?_
 simp only[hk,hks]
 congr 1
 exact BcL _
theorem BjJ {N:List Str} {V:List Arr} {l u c l2 u2:Int} (hn:n.op_<=4096):∀(k:Nat) (i:Int) (sh:List Int) (cs:List aA) (c0 c1:Int),0<=i->n.op_-i=k ->
  bR (n,N,V,.mk (.mk l u) c,i,sh,cs,c0,c1)=bR (n,N,V,.mk (.mk l2 u2) c,i,sh,cs,c0,c1)
 |0,i,sh,cs,c0,c1,hi,h=>by
  conv=>lhs; rw[bR]
  conv=>rhs; rw[bR]
  simp only[cB (show ¬i<n.op_ by omega),fJ,if_false]
 |k+1,i,sh,cs,c0,c1,hi,h=>by
  conv=>lhs; rw[bR]
  conv=>rhs; rw[bR]
  have e:w64 (i+1)=i+1:=aE oM oM
  simp only[e]
  congr 1
  refine ob λy=>ob λ⟨x21,e1,l3,u3⟩=>?_
  by_cases he:e1=0
  ·subst he
   exact BjJ hn k (i+1) _ _ _ _ oM oM
  rw[if_pos (by simpa using he),if_pos (by simpa using he)]
def BhN (r:Except (Arr×Int×Int×Int) (List Int×List aA×Int×Int)):Option (Arr×Int×Int×Int):=match r with|.error r=>some r|.ok (x01,x111,c01,c11)=>some (.mk x01 x111,0,c01,c11)
theorem Ay7 {f:Node} {c:Int} (hf0:Few N) (hks:n.kids=[f]) (hn:n.op_<=4096) (hf:∀l u a,Mt l u c->Arg G c a->dZ G (fX f) N V l u c (λN V m=>bA (f,a,N,V,m))) :
  ∀(k:Nat) (i:Int) (a:Arr) (l u:Int),0<=i->n.op_-i=k->Mt l u c->Arg G c a->dZ G (fX n) N V l u c (λN V m=>bR (n,N,V,m,i,a.shape,a.cells,m.fuel.left,m.fuel.used)>>=BhN)
 |0,i,a,l,u,hi,h,hm,ha=>by
  refine dZ.val hf0 hm.1 (x:=a) (e:=0) (λ_=>ha) λN2 V2 l2 c2 _ _ _=>?_
  rw[bR]
  simp only[cB (show ¬i<n.op_ by omega),fJ,if_false]
  cases a; rfl
 |k+1,i,a,l,u,hi,h,hm,ha=>by
  let Y:Arr->List Str->List Arr->aG->Option (Arr×Int×Int×Int):=λx N V m=>bR (n,N,V,m,i+1,x.shape,x.cells,m.fuel.left,m.fuel.used)>>=BhN
  let K:Arr×Int×Int×Int->List Str->List Arr->Int->Option (Arr×Int×Int×Int):=λ(x7,e1,left1,used1) N V c=>
   if (e1 != 0) then some (.mk [] [],e1,left1,used1) else Y x7 N V (.mk (.mk left1 used1) c)
  refine dZ.seq (X1:=λN V m=>bA (f,a,N,V,m)) (K:=K) (Y:=Y) ((hf _ _ a hm ha).sub (pQ (by rw[hks]; simp))) ?_ ?_ ?_ ?_
  ·intro N V l u c
   simp only[]
   rw[bR]
   have e:w64 (i+1)=i+1:=aE oM oM
   simp only[dL (show i<n.op_ by omega),if_true,hks,e]
   rw[show lget [f] 0=some f from rfl]
   have ea:Arr.mk a.shape a.cells=a:=by cases a; rfl
   simp only[oJ,bJ,Option.bind_assoc,ea]
   refine ob λ⟨x21,e1,l3,u3⟩=>?_
   by_cases he:e1=0
   ·subst he
    simp only[K,Y]
    have:=BjJ (n:=n) (N:=N) (V:=V) (l:=l) (u:=u) (c:=c) (l2:=l3) (u2:=u3) hn k (i+1) x21.shape x21.cells l3 u3 oM oM
    show (bR _>>=BhN)=_
    rw[this]
    rfl
   simp only[K]
   rw[if_pos (by simpa using he),if_pos (by simpa using he)]
   rfl
  ·intro x e l u N V c he
   simp only[K]; rw[if_pos (by simpa using he)]
  ·intro x l u N V c
   rfl
  intro x l' hv hw h0 h1
  exact Ay7 hf0 hks hn hf k (i+1) x l' _ oM oM (hm.less h0 h1) ⟨hv,hw⟩
theorem BhJ {a:Arr} {l u c:Int} {f:Node} (hf0:Few N) (hm:Mt l u c) (ha:Arg G c a) (hk:n.kind=26) (ho:0<=n.op_) (hn:n.op_<=4096) (hks:n.kids=[f])
  (hf:∀l u a,Mt l u c->Arg G c a->dZ G (fX f) N V l u c (λN V m=>bA (f,a,N,V,m))):dZ G (fX n) N V l u c (λN V m=>bA (n,a,N,V,m)):=by
 refine dZ.go (Y:=λN V m=>bR (n,N,V,m,0,a.shape,a.cells,m.fuel.left,m.fuel.used)>>=BhN) hm ?_ (λh=>Ay7 hf0 hks hn hf (n.op_.toNat) 0 a _ _ oM oM h ha)
 intro N V l u c
 conv=>lhs; simp only[]; rw[bA]
 refine ob λ⟨e1,left,used⟩=>?_
 simp only[hk]
 congr 1
 rw[←BjJ (n:=n) (N:=N) (V:=V) (l:=l) (u:=u) (c:=c) (l2:=left) (u2:=used) hn (n.op_.toNat) 0 a.shape a.cells left used oM oM]
 rw[if_neg dM,if_neg dM,if_neg dM]
 simp only[show ((26:Int)==31)=false from rfl,show ((26:Int)==32)=false from rfl,show ((26:Int)==33)=false from rfl,show ((26:Int)==34)=false from rfl,fJ,if_false,oJ,bJ]
 refine ob λr=>?_
 cases r<;>rfl
theorem BbH (hf:Few N) (hG:G->∀v∈V,Val 0 v->wA v<big) (n:Node):OkE G N V n/\OkM G N V n/\OkT G N V n/\OkD G N V n:=by
 refine Node.ind (P:=λn=>OkE G N V n/\OkM G N V n/\OkT G N V n/\OkD G N V n) ?_ n
 intro n ih
 have okT:OkT G N V n:=by
  intro h hl a b l u c hm ha hb
  cases h with
  |prim hk=>exact Bg0 hm ha hb hk
  | @lam _ e hk hks he=>
   exact BhX hm hk hks λl u hm=>(ih e (by rw[hks]; simp)).1 true true he (λg=>(hl g).kids e (by rw[hks]; simp)) _ l u c hm (λ_=>ha) (λ_=>hb)
 refine⟨?_,?_,okT,?_⟩
 ·intro lt rt h hl ar l u c hm h1 h2
  cases h with
  |lit hk hv=>exact BeV hm.1 (by have:=hm; unfold Mt at this; omega) hm.2.1 (by have:=hm; unfold Mt at this; omega) hk hv λg=>(hl g).lit hk hv
  |var hk=>exact BeW hf hG hm hk
  |left hk hlt=>exact Ax5 hf hm (h1 hlt) (.inl ⟨hk,rfl⟩)
  |right hk hlt=>exact Ax5 hf hm (h2 hlt) (.inr ⟨hk,rfl⟩)
  | @mo _ f x _ _ hk hks hF hX=>
   exact Bh2 hm hk hks (λhm=>(ih x (by rw[hks]; simp)).1 lt rt hX (λg=>(hl g).kids x (by rw[hks]; simp)) ar _ _ c hm h1 h2)
    (λl u a hm ha=>(ih f (by rw[hks]; simp)).2.1 hF (λg=>(hl g).kids f (by rw[hks]; simp)) a l u c hm ha)
  | @dy _ f x y _ _ hk hks hF hX hY=>
   exact Bh1 hm hk hks (λl u hm=>(ih y (by rw[hks]; simp)).1 lt rt hY (λg=>(hl g).kids y (by rw[hks]; simp)) ar _ _ c hm h1 h2)
    (λl u hm=>(ih x (by rw[hks]; simp)).1 lt rt hX (λg=>(hl g).kids x (by rw[hks]; simp)) ar _ _ c hm h1 h2)
    (λl u a b hm ha hb=>(ih f (by rw[hks]; simp)).2.2.2 hF (λg=>(hl g).kids f (by rw[hks]; simp)) a b l u c hm ha hb)
 ·intro h hl a l u c hm ha
  cases h with
  |prim hk=>exact BfF hm ha hk
  | @lam _ e hk hks he=>
   exact BhI hm hk hks λl u hm=>(ih e (by rw[hks]; simp)).1 false true he (λg=>(hl g).kids e (by rw[hks]; simp)) _ l u c hm (λh=>by cases h) (λ_=>ha)
  | @fold _ b hk hks hb=>exact BfE hm ha hk hks hb
  | @comm _ f hk hks hF=>
   exact BfD hm hk hks λl u hm=>(ih f (by rw[hks]; simp)).2.2.1 hF (λg=>(hl g).kids f (by rw[hks]; simp)) a a l u c hm ha ha
  | @pow _ f hk ho hn hks hF=>
   exact BhJ hf hm ha hk ho hn hks λl u a hm ha=>(ih f (by rw[hks]; simp)).2.1 hF (λg=>(hl g).kids f (by rw[hks]; simp)) a l u c hm ha
 intro h hl a b l u c hm ha hb
 cases h with
 | @outer _ k hk hks hb'=>exact BdJ hm ha hb hk hks hb'
 | @comm _ f hk hks hF=>
  exact BfZ hm hk hks λl u hm=>(ih f (by rw[hks]; simp)).2.2.1 hF (λg=>(hl g).kids f (by rw[hks]; simp)) b a l u c hm hb ha
 |two h=>exact okT h hl a b l u c hm ha hb
end
end Go.AM.Seat
namespace Go.AM.Seat
open Go Go.AM
def mx (x:Int):Int:=if x<0 then 0 else x
theorem Bc0 {G:Prop} {N:List Str} {V:List Arr} {n:Node} {fuel cells:Int} (hN:fitN n) (hf:Few N) (hG:G->∀v∈V,Val 0 v->wA v<big) (hl:G->AjV n) (h1:fuel<=2000) (h2:cells<=300) :
  ∃x i e,vY (.mk N V) n fuel cells=some (x,i,e)/\0<=i/\i<=mx fuel/\(e≠0->x=.mk [] [])/\(e=0->Val 0 x/\(G->(wA x:Int)<=mx cells)) /\
   ∀fuel2 cells2 N2 V2,mx fuel<=mx fuel2->mx fuel2<=5000->mx cells<=mx cells2->mx cells2<=5000->(∀s∈fX n,Lk N V N2 V2 s)->((e≠11/\e≠12)\/(mx fuel2=mx fuel/\mx cells2=mx cells)) ->
    vY (.mk N2 V2) n fuel2 cells2=some (x,i,e):=by
 have E:∀N V (fuel cells:Int),vY (.mk N V) n fuel cells=pM n>>=λx=>if (x != 0) then some (.mk [] [],0,1) else
   aK (n,.mk (.mk [] []) (.mk [] []),N,V,.mk (.mk (mx fuel) 0) (mx cells))>>=λ(x1,e,left,used)=>if (e != 0) then some (.mk [] [],used,e) else fS x1>>=λx3=>some (x3,used,0):=by
  intro N V fuel cells
  rfl
 have m1:0<=mx fuel:=by unfold mx; split<;>omega
 have m2:mx fuel<=2000:=by unfold mx; split<;>omega
 have m3:mx cells<=300:=by unfold mx; split<;>omega
 obtain⟨ck,hck,hw⟩:=BaJ hN
 by_cases hc:ck=0
 ·subst hc
  obtain⟨x,e,l',g1,g2,g3,g4,g5⟩:=(BbH (G:=G) hf hG n).1 false false (hw rfl) hl (.mk (.mk [] []) (.mk [] [])) (mx fuel) 0 (mx cells) ⟨m1,oM,oM,oM⟩ (λh=>by cases h) (λh=>by cases h)
  simp only[] at g1 g5
  by_cases he:e=0
  ·subst he
   obtain⟨v1,v2⟩:=g4 rfl
   refine⟨x,0+(mx fuel-l'),0,?_,oM,oM,λh=>absurd rfl h,g4,λfuel2 cells2 N2 V2 a b c d s r=>?_⟩
   ·rw[E,hck]
    simp only[oJ,bJ]
    rw[if_neg dM,g1]
    simp only[bJ]
    rw[if_neg dM,tQ x 0 v1]
    rfl
   rw[E,hck]
   simp only[oJ,bJ]
   have:=g5 (mx fuel2-mx fuel) (mx cells2) N2 V2 oM oM c oM s (.inl oM)
   rw[show mx fuel+(mx fuel2-mx fuel)=mx fuel2 by omega] at this
   rw[if_neg dM,this]
   simp only[bJ]
   rw[if_neg dM,tQ x 0 v1]
   rfl
  refine⟨.mk [] [],0+(mx fuel-l'),e,?_,oM,oM,λ_=>rfl,λh=>absurd h he,λfuel2 cells2 N2 V2 a b c d s r=>?_⟩
  ·rw[E,hck]
   simp only[oJ,bJ]
   rw[if_neg dM,g1]
   simp only[bJ]
   rw[if_pos (by simpa using he)]
  rw[E,hck]
  simp only[oJ,bJ]
  have:=g5 (mx fuel2-mx fuel) (mx cells2) N2 V2 oM oM c oM s (r.imp id λh=>⟨oM,h.2⟩)
  rw[show mx fuel+(mx fuel2-mx fuel)=mx fuel2 by omega] at this
  rw[if_neg dM,this]
  simp only[bJ]
  rw[if_pos (by simpa using he)]
 refine⟨.mk [] [],0,1,?_,oM,oM,λ_=>rfl,λh=>oM,λfuel2 cells2 N2 V2 a b c d s r=>?_⟩
 ·rw[E,hck]
  simp only[oJ,bJ]
  rw[if_pos (by simpa using hc)]
 rw[E,hck]
 simp only[oJ,bJ]
 rw[if_pos (by simpa using hc)]
theorem AmI (a:Int):cK a a=some 0:=by
 unfold cK
 simp
theorem AmX {a:Arr} (hf:Few a.shape):∀(r:List Int) (k:Nat),a.shape.drop k=r->dI (a,a,0,(k:Int))=some 0
 | [],k,h=>by
  rw[dI]
  simp only[cB (cG h),fJ,if_false]
 |d::r,k,h=>by
  rw[dI]
  simp only[dL (cH h),if_true,bO h,oJ,bJ,AmI,bZ h hf]
  exact AmX hf r (k+1) (bC h)
theorem AmY {a:Arr} (hf:Few a.cells) (hc:∀c∈a.cells,jG (c,c)=some 0):∀(r:List aA) (k:Nat),a.cells.drop k=r->dJ (a,a,0,(k:Int))=some 0
 | [],k,h=>by
  rw[dJ]
  simp only[cB (cG h),fJ,if_false]
 |c::r,k,h=>by
  rw[dJ]
  have hm:c∈a.cells:=List.mem_of_mem_drop (i:=k) (by rw[h]; simp)
  simp only[dL (cH h),if_true,bO h,oJ,bJ,hc c hm,bZ h hf]
  exact AmY hf hc r (k+1) (bC h)
theorem Ai5:∀{l:List aA},Ax9 l->∀c∈l,AuP c
 |n::r,h,k,hk=>by
  rcases List.mem_cons.1 hk with rfl|hk
  ·exact h.1
  exact Ai5 h.2 k hk
theorem Ax8:∀{l:List Arr},Bh4 l->∀c∈l,fitA c
 |n::r,h,k,hk=>by
  rcases List.mem_cons.1 hk with rfl|hk
  ·exact h.1
  exact Ax8 h.2 k hk
theorem AuP.box {c:aA} (h:AuP c):∀b∈c.box,fitA b:=by cases c; exact Ax8 h.2
theorem AuP.few {c:aA} (h:AuP c):Few c.box:=by cases c; exact h.1
theorem BbZ {c:aA} (hb:∀b∈c.box,fP (b,b)=some 0):jG (c,c)=some 0:=by
 obtain⟨k,n,bx⟩:=c
 rw[jG]
 simp only[aA.kind,aA.n,aA.box,AmI,oJ,bJ,beq_self_eq_true,if_true] at hb ⊢
 cases bx with
 |nil=>rfl
 |cons b r=>
  have h0:lget (b::r) 0=some b:=rfl
  simp only[h0,bJ,hb b sM]
  repeat' split
  all_goals rfl
theorem AvO (a:Arr):fitA a->fP (a,a)=some 0:=by
 refine Arr.ind (P:=λa=>fitA a->fP (a,a)=some 0) ?_ a
 intro sh cs ih hf
 obtain⟨f1,f2,f3⟩:=hf
 rw[fP]
 simp only[AmI,oJ,bJ]
 rw[show dI (Arr.mk sh cs,Arr.mk sh cs,0,0)=some 0 from AmX (a:=.mk sh cs) f1 sh 0 rfl]
 simp only[bJ]
 rw[show dJ (Arr.mk sh cs,Arr.mk sh cs,0,0)=some 0 from AmY (a:=.mk sh cs) f2 (λc hc=>BbZ λb hb=>ih c hc b hb ((Ai5 f3 c hc).box b hb)) cs 0 rfl]
 rfl
theorem Val.fit (a:Arr):∀d,Val d a->fitA a:=by
 refine Arr.ind (P:=λa=>∀d,Val d a->fitA a) ?_ a
 intro sh cs ih d h
 have hi:=h.i
 have hcs:∀(l:List aA),(∀c∈l,AdU c d=0/\∀b∈c.box,∀d,Val d b->fitA b)->Ax9 l:=by
  intro l
  induction l with
  |nil=>intro _; trivial
  |cons c r ihl=>
   intro hh
   refine⟨?_,ihl λc hc=>hh c (by simp[hc])⟩
   obtain⟨h1,h2⟩:=hh c sM
   rcases sS h1 with ⟨_,_,_,b,hb,hv⟩|⟨hb,_⟩
   ·obtain⟨k,n,bx⟩:=c
    simp only[aA.box] at hb h2
    subst hb
    exact⟨by unfold Few; simp,h2 b sM _ hv,trivial⟩
   obtain⟨k,n,bx⟩:=c
   simp only[aA.box] at hb
   subst hb
   exact⟨by unfold Few; simp,trivial⟩
 exact⟨h.fews,h.fewc,hcs cs λc hc=>⟨hi.cells c hc,ih c hc⟩⟩
theorem Bc3 {a:Arr} (h:Val 0 a):fE a a=some true:=by
 unfold fE
 rw[AvO a (Val.fit a 0 h)]
 rfl
theorem BdU:fE (.mk [] []) (.mk [] [])=some true:=by
 unfold fE
 rw[AvO (.mk [] []) (show fitA (.mk [] []) from ⟨by unfold Few; simp,by unfold Few; simp,trivial⟩)]
 rfl
theorem BkQ {a b:Nat} (h:a+b<=9223372036854775807):w64 ((a:Int)+(b:Int))=((a+b:Nat):Int):=by
 rw[aE oM oM]; omega
def Bd (deep:Int):Int:=(deep+1)*562949953421312
def Wt (a:Arr) (most deep r:Int):Prop:=0<=r/\r<=most+Bd deep/\(r<=most->(wA a:Int)<=r)
theorem BiW {a:Arr} {most deep:Int} {c:aA} {i:Int} (hl:lget a.cells i=some c) (hf:Few c.box) (h0:0<=most) (h1:most<=3000) (hd:0<=deep) (hd2:deep<=16)
  (hb:∀b∈c.box,∀most,0<=most->most<=3000->0<=deep-1->T (dK (b,most,deep-1)) (Wt b most (deep-1))) :
  ∀(r:List Arr) (k:Nat) (n:Int),c.box.drop k=r->0<=n->n<=most+Bd deep->T (dF (a,most,deep,i,n,(k:Int))) (λr'=>match r' with|.error e=>e=most+1|.ok m=>n<=m/\m<=most+Bd deep/\(m<=most->n+(wB r:Int)<=m))
 | [],k,n,h,hn,hn2=>by
  rw[dF]
  simp only[hl,oJ,bJ,cB (cG h),fJ,if_false]
  exact T.ret ⟨Int.le_refl _,hn2,λ_=>by simp[wB]⟩
 |b::r,k,n,h,hn,hn2=>by
  have hm:b∈c.box:=List.mem_of_mem_drop (i:=k) (by rw[h]; simp)
  rw[dF]
  simp only[hl,oJ,bJ,dL (cH h),if_true,bO h,bZ h hf]
  refine T.ite (λhle=>?_) (λhle=>T.ret ⟨Int.le_refl _,hn2,λh=>absurd h (by simpa using hle)⟩)
  have hle:n<=most:=by simpa using hle
  refine T.ite (λ_=>T.ret (aE oM oM)) (λhdd=>?_)
  have hdd:deep≠0:=by simpa using hdd
  rw[aE (x:=deep-1) oM oM,aE (x:=most-n) oM oM]
  refine T.bind (hb b hm _ oM oM oM) (λx hx=>?_)
  obtain⟨x0,x1,x2⟩:=hx
  have eB:Bd deep=Bd (deep-1)+562949953421312:=by unfold Bd; omega
  have lB:0<=Bd (deep-1)/\Bd (deep-1)<=9570149208162304:=by unfold Bd; omega
  have e2:w64 (n+1)=n+1:=aE oM oM
  have e3:w64 (n+1+x)=n+1+x:=aE oM oM
  rw[e2,e3]
  refine T.imp (BiW hl hf h0 h1 hd hd2 hb r (k+1) (n+1+x) (bC h) oM oM) (λv hv=>?_)
  match v,hv with
  |.error e,hv=>exact hv
  |.ok m,hv=>
   obtain⟨g1,g2,g3⟩:=hv
   refine⟨oM,g2,λhm=>?_⟩
   have:=g3 hm
   have:=x2 oM
   simp only[wB,Int.natCast_add]
   omega
theorem BiV {a:Arr} {most deep:Int} (hf:Few a.cells) (h0:0<=most) (h1:most<=3000) (hd:0<=deep) (hd2:deep<=16) (hfb:∀c∈a.cells,Few c.box)
  (hb:∀c∈a.cells,∀b∈c.box,∀most,0<=most->most<=3000->0<=deep-1->T (dK (b,most,deep-1)) (Wt b most (deep-1))) :
  ∀(r:List aA) (k:Nat) (n:Int),a.cells.drop k=r->0<=n->n<=most+Bd deep->T (dW (a,most,deep,n,(k:Int))) (λr'=>match r' with|.error e=>e=most+1|.ok m=>n<=m/\m<=most+Bd deep/\(m<=most->n+(bCs r:Int)<=m))
 | [],k,n,h,hn,hn2=>by
  rw[dW]
  simp only[cB (cG h),fJ,if_false]
  exact T.ret ⟨Int.le_refl _,hn2,λ_=>by simp[bCs]⟩
 |c::r,k,n,h,hn,hn2=>by
  have hm:c∈a.cells:=List.mem_of_mem_drop (i:=k) (by rw[h]; simp)
  rw[dW]
  simp only[dL (cH h),if_true,bZ h hf]
  refine T.ite (λhle=>?_) (λhle=>T.ret ⟨Int.le_refl _,hn2,λh=>absurd h (by simpa using hle)⟩)
  refine T.bind (BiW (bO h) (hfb c hm) h0 h1 hd hd2 (hb c hm) c.box 0 n rfl hn hn2) (λv hv=>?_)
  match v,hv with
  |.error e,hv=>exact T.ret hv
  |.ok m,hv=>
   obtain⟨g1,g2,g3⟩:=hv
   refine T.imp (BiV hf h0 h1 hd hd2 hfb hb r (k+1) m (bC h) oM g2) (λv hv=>?_)
   match v,hv with
   |.error e,hv=>exact hv
   |.ok m2,hv=>
    obtain⟨k1,k2,k3⟩:=hv
    refine⟨oM,k2,λhm2=>?_⟩
    have:=k3 hm2
    have:=g3 oM
    have e1:bCs (c::r)=wC c+bCs r:=rfl
    rw[e1,Az3]
    omega
theorem Bg5 (a:Arr):fitA a->∀most deep:Int,0<=most->most<=3000->0<=deep->deep<=16->T (dK (a,most,deep)) (Wt a most deep):=by
 refine Arr.ind (P:=λa=>fitA a->∀most deep:Int,0<=most->most<=3000->0<=deep->deep<=16->T (dK (a,most,deep)) (Wt a most deep)) ?_ a
 intro sh cs ih hf most deep h0 h1 hd hd2
 obtain⟨f1,f2,f3⟩:=hf
 have l1:sh.length<=140737488355328:=f1
 have l2:cs.length<=140737488355328:=f2
 have ew:wA (.mk sh cs)=cs.length+bCs cs:=by rw[Az2,Ao3]; rfl
 have lB:562949953421312<=Bd deep:=by unfold Bd; omega
 rw[dK]
 simp only[show (Arr.mk sh cs).shape=sh from rfl,show (Arr.mk sh cs).cells=cs from rfl]
 rw[BkQ oM]
 refine T.bind (BiV (a:=.mk sh cs) f2 h0 h1 hd hd2 (λc hc=>(Ai5 f3 c hc).few) (λc hc b hb most a1 a2 a3=>ih c hc b hb ((Ai5 f3 c hc).box b hb) most (deep-1) a1 a2 a3 oM) cs 0 _ rfl oM oM) (λv hv=>?_)
 match v,hv with
 |.error e,hv=>exact T.ret ⟨oM,oM,λh=>oM⟩
 |.ok m,hv=>
  obtain⟨g1,g2,g3⟩:=hv
  refine T.ret ⟨oM,g2,λhm=>?_⟩
  have:=g3 hm
  rw[ew]
  omega
theorem AvY {a:Arr} {most:Int} (hf:fitA a) (h0:0<=most) (h1:most<=3000):T (gP a most) (λr=>0<=r/\r<=9570149208165304/\(r<=most->(wA a:Int)<=r)):=by
 unfold gP
 refine T.bind (Bg5 a hf most 16 h0 h1 oM oM) (λx hx=>T.ret ⟨hx.1,?_,hx.2.2⟩)
 have:=hx.2.1
 unfold Bd at this
 omega
def BdN (deep:Int):Int:=(deep+2)*18014398509481984
def WtN (n:Node) (most deep r:Int):Prop:=0<=r/\r<=most+BdN deep/\(r<=most->AjV n)
theorem fitN.lit {n:Node} (h:fitN n):fitA n.lit:=by cases n; exact h.2.1
theorem BiU {n:Node} {most deep:Int} (hf:Few n.kids) (h0:0<=most) (h1:most<=3000) (hd:0<=deep) (hd2:deep<=40)
  (hb:∀c∈n.kids,∀most,0<=most->most<=3000->0<=deep-1->T (eI (c,most,deep-1)) (WtN c most (deep-1))) :
  ∀(r:List Node) (i:Nat) (k:Int),n.kids.drop i=r->0<=k->k<=most+BdN deep->T (dG (n,most,deep,k,(i:Int))) (λr'=>match r' with|.error e=>e=most+1|.ok m=>k<=m/\m<=most+BdN deep/\(m<=most->BbG r))
 | [],i,k,h,hk,hk2=>by
  rw[dG]
  simp only[cB (cG h),fJ,if_false]
  exact T.ret ⟨Int.le_refl _,hk2,λ_=>trivial⟩
 |c::r,i,k,h,hk,hk2=>by
  have hm:c∈n.kids:=List.mem_of_mem_drop (i:=i) (by rw[h]; simp)
  rw[dG]
  simp only[dL (cH h),if_true,bZ h hf,bO h,oJ,bJ]
  refine T.ite (λhle=>?_) (λhle=>T.ret ⟨Int.le_refl _,hk2,λh=>absurd h (by simpa using hle)⟩)
  have hle:k<=most:=by simpa using hle
  refine T.ite (λ_=>T.ret (aE oM oM)) (λhdd=>?_)
  have hdd:deep≠0:=by simpa using hdd
  rw[aE (x:=deep-1) oM oM,aE (x:=most-k) oM oM]
  refine T.bind (hb c hm _ oM oM oM) (λx hx=>?_)
  obtain⟨x0,x1,x2⟩:=hx
  have eB:BdN deep=BdN (deep-1)+18014398509481984:=by unfold BdN; omega
  have lB:0<=BdN (deep-1)/\BdN (deep-1)<=756604737398243328:=by unfold BdN; omega
  rw[aE (x:=k+x) oM oM]
  refine T.imp (BiU hf h0 h1 hd hd2 hb r (i+1) (k+x) (bC h) oM oM) (λv hv=>?_)
  match v,hv with
  |.error e,hv=>exact hv
  |.ok m,hv=>
   obtain⟨g1,g2,g3⟩:=hv
   exact⟨oM,g2,λhm=>⟨x2 oM,g3 hm⟩⟩
theorem BdK (n:Node):fitN n->∀most deep:Int,0<=most->most<=3000->0<=deep->deep<=40->T (eI (n,most,deep)) (WtN n most deep):=by
 refine Node.ind (P:=λn=>fitN n->∀most deep:Int,0<=most->most<=3000->0<=deep->deep<=40->T (eI (n,most,deep)) (WtN n most deep)) ?_ n
 intro n ih hf most deep h0 h1 hd hd2
 rw[eI]
 have lB:36028797018963968<=BdN deep/\BdN deep<=756604737398243328:=by unfold BdN; omega
 refine T.bind (AvY hf.lit h0 h1) (λx hx=>?_)
 obtain⟨x0,x1,x2⟩:=hx
 rw[aE (x:=1+x) oM oM]
 refine T.bind (BiU hf.fewk h0 h1 hd hd2 (λc hc most a1 a2 a3=>ih c hc (hf.kids c hc) most (deep-1) a1 a2 a3 oM) n.kids 0 (1+x) rfl oM oM) (λv hv=>?_)
 match v,hv with
 |.error e,hv=>exact T.ret ⟨oM,oM,λh=>oM⟩
 |.ok m,hv=>
  obtain⟨g1,g2,g3⟩:=hv
  refine T.ret ⟨oM,g2,λhm=>?_⟩
  have h3:=g3 hm
  have h4:=x2 oM
  obtain⟨kd,o,nm,lt,ks,at_⟩:=n
  exact⟨λ_ _=>by simp only[Node.lit] at h4; unfold big; omega,h3⟩
def Bj0 (N:List Str) (V:List Arr) (n:Node) (fuel cells:Int):Prop:=fuel<=2000/\cells<=300/\N.length<=40/\V.length<=40/\AjV n/\∀v∈V,wA v<big
theorem AxT {N:List Str} {V:List Arr} {n:Node} (hV:V.length<=40) (hf:∀v∈V,fitA v):∀(r:List Arr) (i:Nat) (w:Int),V.drop i=r->0<=w->w<=3000+9570149208165304 ->
  T (eL (.mk N V,n,w,(i:Int))) (λm=>w<=m/\(m<=3000->∀v∈r,wA v<big))
 | [],i,w,h,h0,h1=>by
  rw[eL]
  simp only[cB (cG h),fJ,if_false]
  exact T.ret ⟨Int.le_refl _,λ_ v hv=>by simp at hv⟩
 |v::r,i,w,h,h0,h1=>by
  have hm:v∈V:=List.mem_of_mem_drop (i:=i) (by rw[h]; simp)
  have hfew:Few V:=by unfold Few; omega
  rw[eL]
  simp only[dL (cH h),if_true,bZ h hfew,bO h,oJ,bJ]
  refine T.ite (λhle=>?_) (λhle=>T.ret ⟨Int.le_refl _,λh=>absurd h (by simpa using hle)⟩)
  have hle:w<=3000:=by simpa using hle
  refine T.bind (AvY (hf v hm) oM oM) (λx hx=>?_)
  obtain⟨x0,x1,x2⟩:=hx
  rw[aE (x:=w+x) oM oM]
  refine T.imp (AxT hV hf r (i+1) (w+x) (bC h) oM oM) (λm hm=>?_)
  refine⟨oM,λh3 u hu=>?_⟩
  rcases List.mem_cons.1 hu with rfl|hu
  ·have:=x2 oM
   unfold big; omega
  exact hm.2 h3 u hu
theorem BgL {N:List Str} {V:List Arr} {n:Node} {fuel cells:Int} (hn:fitN n) (hf:∀v∈V,fitA v):T (kL (.mk N V) n fuel cells) (λr=>¬r>0->Bj0 N V n fuel cells):=by
 unfold kL
 have no:∀{Q:Prop},(¬(1:Int)>0->Q):=λh=>absurd dM h
 refine T.ite (λ_=>T.ret no) (λh1=>?_)
 refine T.ite (λ_=>T.ret no) (λh2=>?_)
 refine T.ite (λ_=>T.ret no) (λh3=>?_)
 refine T.ite (λ_=>T.ret no) (λh4=>?_)
 simp only[decide_eq_false_iff_not,Int.not_lt,gt_iff_lt] at h1 h2 h3 h4
 have h4':V.length<=40:=oM
 have h3':N.length<=40:=oM
 refine T.bind (R:=λr=>r<=3000->AjV n) ?_ (λx hx=>?_)
 ·unfold nC
  exact T.bind (BdK n hn 3000 40 oM oM oM oM) (λx hx=>T.ret hx.2.2)
 refine T.ite (λ_=>T.ret no) (λh5=>?_)
 simp only[decide_eq_false_iff_not,Int.not_lt,gt_iff_lt] at h5
 refine T.bind (AxT h4' hf V 0 0 rfl oM oM) (λw hw=>?_)
 refine T.ite (λ_=>T.ret no) (λh6=>T.ret λ_=>?_)
 simp only[decide_eq_false_iff_not,Int.not_lt,gt_iff_lt] at h6
 exact⟨h1,h2,h3',h4',hx h5,hw.2 h6⟩
theorem Bg6:AgW=some true:=rfl
theorem BgK {N:List Str} {V:List Arr} {n:Node} {fuel cells:Int} (hN:fitN n) (hf:Few N) (h1:fuel<=2000) (h2:cells<=300) :
  ∃u e sh cs,xU (.mk N V) n fuel cells=some (sh.length,cs.length,u,e,sh,cs)/\sh.length<=16384/\cs.length<=16384:=by
 have E:xU (.mk N V) n fuel cells=pM n>>=λx=>if (x != 0) then some (0,0,0,1,[],[]) else
   aK (n,.mk (.mk [] []) (.mk [] []),N,V,.mk (.mk (mx fuel) 0) (mx cells))>>=λ(x1,e,left,used)=>if (e != 0) then some (0,0,used,e,[],[]) else rA x1>>=λ(n1,n2,b1,b2)=>some (n1,n2,used,0,b1,b2):=rfl
 have m1:0<=mx fuel:=by unfold mx; split<;>omega
 have m2:mx fuel<=2000:=by unfold mx; split<;>omega
 have m3:mx cells<=300:=by unfold mx; split<;>omega
 obtain⟨ck,hck,hw⟩:=BaJ hN
 rw[E,hck]
 simp only[oJ,bJ]
 by_cases hc:ck=0
 ·subst hc
  obtain⟨x,e,l',g1,g2,g3,g4,g5⟩:=(BbH (G:=False) (V:=V) hf (λh=>h.elim) n).1 false false (hw rfl) (λh=>h.elim) (.mk (.mk [] []) (.mk [] [])) (mx fuel) 0 (mx cells) ⟨m1,oM,oM,oM⟩ (λh=>by cases h) (λh=>by cases h)
  simp only[] at g1
  rw[if_neg dM,g1]
  simp only[bJ]
  by_cases he:e=0
  ·subst he
   have hv:=(g4 rfl).1
   rw[if_neg dM,AvP hv]
   have hr:=hv.i.sized.rank
   have hl:=hv.i.sized.hi
   exact⟨_,_,x.shape,x.cells,rfl,oM,oM⟩
  rw[if_pos (by simpa using he)]
  exact⟨_,_,[],[],rfl,sM,sM⟩
 rw[if_pos (by simpa using hc)]
 exact⟨_,_,[],[],rfl,sM,sM⟩
theorem ArZ {k n:Nat} (h:k<n):jO (k:Int) n=some k:=by
 unfold jO
 rw[if_pos ⟨oM,oM⟩]
 simp
theorem Aw1 {env:Env} {n:Node} {fuel cells i e:Int} {x2:Arr} {n1 n2:Nat} {b:List Int} (hn:n2<=16384):∀(m k:Nat) (c:List aA),n2-k=m->c.length=n2->∃c',cS (env,n,fuel,cells,x2,i,e,n1,n2,b,(k:Int),c)=some c'
 |0,k,c,h,hc=>by
  rw[cS]
  simp only[cB (show ¬(k:Int)<(n2:Int) by omega),fJ,if_false]
  exact⟨c,rfl⟩
 |m+1,k,c,h,hc=>by
  rw[cS]
  have hk:k<c.length:=oM
  have e1:nM c k=some (c[k]):=by unfold nM; simp[hk]
  have e2:∀v,oL c k v=some (c.set k v):=λv=>by unfold oL; rw[if_pos hk]
  have e3:w64 ((k:Int)+1)=((k+1:Nat):Int):=by rw[aE oM oM]; omega
  simp only[dL (show (k:Int)<(n2:Int) by omega),if_true,ArZ (show k<n2 by omega),oJ,bJ,e1,e2,e3]
  exact Aw1 hn m (k+1) _ oM (by simp[hc])
theorem Aw2 {env:Env} {n:Node} {fuel cells i e:Int} {x2:Arr} {n1 n2:Nat} {b:List aA} (hn:n1<=16384):∀(m k:Nat) (c:List Int),n1-k=m->c.length=n1->∃c',cT (env,n,fuel,cells,x2,i,e,n1,n2,b,(k:Int),c)=some c'
 |0,k,c,h,hc=>by
  rw[cT]
  simp only[cB (show ¬(k:Int)<(n1:Int) by omega),fJ,if_false]
  exact⟨c,rfl⟩
 |m+1,k,c,h,hc=>by
  rw[cT]
  have hk:k<c.length:=oM
  have e1:nM c k=some (c[k]):=by unfold nM; simp[hk]
  have e2:∀v,oL c k v=some (c.set k v):=λv=>by unfold oL; rw[if_pos hk]
  have e3:w64 ((k:Int)+1)=((k+1:Nat):Int):=by rw[aE oM oM]; omega
  simp only[dL (show (k:Int)<(n1:Int) by omega),if_true,ArZ (show k<n1 by omega),oJ,bJ,e1,e2,e3]
  exact Aw2 hn m (k+1) _ oM (by simp[hc])
theorem RunAgain_true {N:List Str} {V:List Arr} {n:Node} {fuel cells:Int} (hn:fitN n) (hf:∀v∈V,fitA v):p_triglyphlaw11_RunAgain (.mk N V) n fuel cells=some true:=by
 unfold p_triglyphlaw11_RunAgain
 obtain⟨x,hx,hq⟩:=BgL (N:=N) (fuel:=fuel) (cells:=cells) hn hf
 rw[hx]
 simp only[oJ,bJ,Bg6]
 by_cases hl:x>0
 ·rw[if_pos (by simpa using hl)]
 rw[if_neg (by simpa using hl)]
 obtain⟨l1,l2,l3,l4,_⟩:=hq hl
 have hN:Few N:=by unfold Few; omega
 obtain⟨a,i,e,r1,_,_,r2,r3,_⟩:=Bc0 (G:=False) (N:=N) (V:=V) (n:=n) (fuel:=fuel) (cells:=cells) hn hN (λh=>h.elim) (λh=>h.elim) l1 l2
 obtain⟨u,f,sh,cs,v1,v2,v3⟩:=BgK (N:=N) (V:=V) (n:=n) (fuel:=fuel) (cells:=cells) hn hN l1 l2
 rw[r1,v1]
 simp only[bJ]
 obtain⟨c1,hc1⟩:=Aw1 (env:=.mk N V) (n:=n) (fuel:=fuel) (cells:=cells) (i:=i) (e:=e) (x2:=a) (n1:=sh.length) (b:=sh) v3 cs.length 0 cs rfl rfl
 rw[show cS (.mk N V,n,fuel,cells,a,i,e,sh.length,cs.length,sh,0,cs)=some c1 from hc1]
 simp only[bJ]
 obtain⟨c2,hc2⟩:=Aw2 (env:=.mk N V) (n:=n) (fuel:=fuel) (cells:=cells) (i:=i) (e:=e) (x2:=a) (n2:=cs.length) (b:=c1) v2 sh.length 0 sh rfl rfl
 rw[show cT (.mk N V,n,fuel,cells,a,i,e,sh.length,cs.length,c1,0,sh)=some c2 from hc2]
 simp only[bJ,beq_self_eq_true,if_true]
 have hs:fE a a=some true:=by
  by_cases he:e=0
  ·exact Bc3 (r3 he).1
  rw[r2 he]; exact BdU
 rw[hs]
 rfl
end Go.AM.Seat
namespace Go.AM.Seat
open Go Go.AM Go.Proofs
abbrev AjN (r:Arr):aF:=(aF.ret (.d (aI r)) [])
abbrev AkS (r:aA):aF:=(aF.ret (.d (aC r)) [])
instance Bf8:Jn 60 1 6 (List Arr):=⟨λy=>[],λy=>[(0,[(2,.d (.list 2 (List.map aH y)))])]⟩
abbrev AdK (a:Arr×LI×Int×(List aA)) (res:(List aA)):Prop:=match a with|(a_,l,x,out1)=>cL X 32 (aP [1,1,0,1,0,0] (aQ Tryz.f32)) (aJ (X.H 32 3) 3) (aL 0 (X.H 32 1000000) 3 (iL (λ(out11:(List aA))=>(⟨[(2,.c (.ptr 1 0)),(3,.c (.ptr 2 0))],[(2,[.d (lI l),oC out11]),(1,[oI [],oC []]),(0,[.d (lI a_.shape),.d (lC a_.cells)])],3,[],none⟩:St)) res)) ⟨[(2,.c (.ptr 1 0)),(3,.c (.ptr 2 0)),(11,.d (lC a_.cells)),(12,.d (iZ (List.length a_.cells:Int))),(13,.d (iZ x))],[(2,[.d (lI l),oC out1]),(1,[oI [],oC []]),(0,[.d (lI a_.shape),.d (lC a_.cells)])],3,[],none⟩
abbrev AjY (a:Arr) (res:Arr):Prop:=match a with|a_=>bF X 32 [.d (aI a_)] [] (AjN res)
abbrev Af1 (a:aA) (res:aA):Prop:=match a with|c=>bF X 60 [.d (aC c)] [] (AkS res)
theorem xR:(∀a res,kY a=some res->AdK a res)/\(∀a res,lA a=some res->Af1 a res)/\(∀a res,fS a=some res->AjY a res):=by
 refine kY.mutual_partial_correctness (motive_1:=AdK) (motive_2:=Af1) (motive_3:=AjY) ?_ ?_ ?_
 ·rintro P0 P1 I0 I1 ⟨a_,l,x,out1⟩ res h
  have I0:=Ok.mk' I0
  have I1:=Ok.mk' I1
  refine lg I ?_
  have iE:fF Tryz.f32 0 _ AjN:=⟨trivial⟩
  exact Wk
 ·rintro P0 I0 c res h
  have I0:=Ok.mk' I0
  exact aB AkS I Tryz.func60 I I I I I I λiE=>Wk
 rintro P0 I0 a_ res h
 have I0:=Ok.mk' I0
 exact aB AjN I Tryz.func32 I I I I I I λiE=>Wk
instance {a:Arr×LI×Int×(List aA)}:Ok (kY a) (AdK a):=⟨λh=>xR.1 a _ h⟩
instance {a:aA}:Ok (lA a) (Af1 a):=⟨λh=>xR.2.1 a _ h⟩
instance {a:Arr}:Ok (fS a) (AjY a):=⟨λh=>xR.2.2 a _ h⟩
abbrev yL (r:Int×Int):aF:=(aF.ret (.tuple [.d (iZ r.1),.d (iZ r.2)]) [])
instance BhA:Jn 96 0 1 (Bool):=⟨λy=>[(5,.d (.bool y))],λy=>[]⟩
abbrev Aj5 (a:LI×Bool×Int) (res:Except (Int×Int) (Bool)):Prop:=match a with|(shape,none_,x)=>cL X 96 (aP [1,1,1,0,1,0,0] (aQ Tryz.f96)) (aJ (X.H 96 5) 0) (aL 0 (X.H 96 1000000) 0 (lW X Tryz.f96 0 yL (λ(none_2:Bool)=>(⟨[(0,.d (lI shape)),(4,.d (iZ 1)),(5,.d (.bool none_2))],[],0,[],none⟩:St)) res)) ⟨[(0,.d (lI shape)),(4,.d (iZ 1)),(5,.d (.bool none_)),(13,.d (lI shape)),(14,.d (iZ (List.length shape:Int))),(15,.d (iZ x))],[],0,[],none⟩
instance {a:LI×Bool×Int}:Ok (nG a) (Aj5 a):=⟨λh=>nG.partial_correctness Aj5 (by
 rintro P_ IH ⟨shape,none_,x⟩ res h
 have IH:=Ok.mk' IH
 have iE:fF Tryz.f96 0 _ yL:=⟨trivial⟩
 refine lg I ?_
 exact Wk) _ _ h⟩
abbrev Aj6 (a:LI×Int×Int) (res:Except (Int×Int) (Int)):Prop:=match a with|(shape,n,x1)=>cL X 96 (aP [1,1,1,1,1,0,1,0,0] (aQ Tryz.f96)) (aJ (X.H 96 14) 0) (aL 2 (X.H 96 1000002) 0 (lW X Tryz.f96 0 yL (λ(n1:Int)=>(⟨[(4,.d (iZ n1))],[],0,[],none⟩:St)) res)) ⟨[(4,.d (iZ n)),(28,.d (lI shape)),(29,.d (iZ (List.length shape:Int))),(30,.d (iZ x1))],[],0,[],none⟩
instance {a:LI×Int×Int}:Ok (nH a) (Aj6 a):=⟨λh=>nH.partial_correctness Aj6 (by
 rintro P_ IH ⟨shape,n,x1⟩ res h
 have IH:=Ok.mk' IH
 have iE:fF Tryz.f96 0 _ yL:=⟨trivial⟩
 refine lg I ?_
 exact Wk) _ _ h⟩
instance {shape:LI}:Ok (kP shape) λr=>bF X 96 [.d (lI shape)] [] (yL r):=⟨λh=>by
 unfold kP at h
 exact aB yL I Tryz.func96 I I I I I I λiE=>Wk⟩
abbrev ApG (r:Bool):aF:=(aF.ret (.d (.bool r)) [])
instance {n:Int}:Ok (vX n) λr=>bF X 209 [.d (iZ n)] [] (ApG r):=⟨λh=>by
 unfold vX at h
 exact aB ApG I Tryz.func209 I I I I I I λiE=>Wk⟩
abbrev wE (r:Int):aF:=(aF.ret (.d (iZ r)) [])
instance Bg8:Jn 144 0 3 (Unit):=⟨λy=>[],λy=>[]⟩
abbrev AbR (a:Arr×Int×Int) (res:Except (Int) (Unit)):Prop:=match a with|(a_,deep,x)=>cL X 144 (aP [1,1,1,1,0,1,0,0] (aQ Tryz.f144)) (aJ (X.H 144 7) 1) (aL 0 (X.H 144 1000000) 1 (lW X Tryz.f144 0 wE (λ(_:Unit)=>(⟨[(1,.d (iZ deep)),(2,.c (.ptr 0 0))],[(0,[.d (lI a_.shape),.d (lC a_.cells)])],1,[],none⟩:St)) res)) ⟨[(1,.d (iZ deep)),(2,.c (.ptr 0 0)),(27,.d (lI a_.shape)),(28,.d (iZ (List.length a_.shape:Int))),(29,.d (iZ x))],[(0,[.d (lI a_.shape),.d (lC a_.cells)])],1,[],none⟩
theorem Ak1:∀a res,jQ a=some res->AbR a res:=by
 refine jQ.partial_correctness AbR ?_
 rintro P_ IH ⟨a_,deep,x⟩ res h
 have IH:=Ok.mk' IH
 refine lg I ?_
 have iE:fF Tryz.f144 0 _ wE:=⟨trivial⟩
 exact Wk
instance {a:Arr×Int×Int}:Ok (jQ a) (AbR a):=⟨λh=>Ak1 a _ h⟩
abbrev AbS (a:Arr×Int×Int) (res:Except (Int) (Unit)):Prop:=match a with|(a_,deep,x1)=>cL X 144 (aP [1,1,1,1,1,0,1,0,0] (aQ Tryz.f144)) (aJ (X.H 144 13) 1) (aL 2 (X.H 144 1000002) 1 (lW X Tryz.f144 0 wE (λ(_:Unit)=>(⟨[],[(0,[.d (lI a_.shape),.d (lC a_.cells)])],1,[],none⟩:St)) res)) ⟨[(1,.d (iZ deep)),(37,.d (lC a_.cells)),(38,.d (iZ (List.length a_.cells:Int))),(39,.d (iZ x1))],[(0,[.d (lI a_.shape),.d (lC a_.cells)])],1,[],none⟩
abbrev Ah1 (a:Arr×Int) (res:Int):Prop:=match a with|(a_,deep)=>bF X 144 [.d (aI a_),.d (iZ deep)] [] (wE res)
theorem Ac4:(∀a res,iG a=some res->AbS a res)/\(∀a res,qQ a=some res->Ah1 a res):=by
 refine iG.mutual_partial_correctness (motive_1:=AbS) (motive_2:=Ah1) ?_ ?_
 ·rintro P0 P1 I0 I1 ⟨a_,deep,x1⟩ res h
  have I0:=Ok.mk' I0
  have I1:=Ok.mk' I1
  refine lg I ?_
  have iE:fF Tryz.f144 0 _ wE:=⟨trivial⟩
  exact Wk
 rintro P0 I0 ⟨a_,deep⟩ res h
 have I0:=Ok.mk' I0
 exact aB wE I Tryz.func144 I I I I I I λiE=>Wk
instance {a:Arr×Int×Int}:Ok (iG a) (AbS a):=⟨λh=>Ac4.1 a _ h⟩
instance {a:Arr×Int}:Ok (qQ a) (Ah1 a):=⟨λh=>Ac4.2 a _ h⟩
abbrev AnB (r:Int):aF:=(aF.ret (.d (iZ r)) [])
instance {a_:Arr}:Ok (jD a_) λr=>bF X 71 [.d (aI a_)] [] (AnB r):=⟨λh=>by
 unfold jD at h
 exact aB AnB I Tryz.func71 I I I I I I λiE=>Wk⟩
abbrev qC (r:Bool):aF:=(aF.ret (.d (.bool r)) [])
instance BcX:Jn 123 0 1 (Unit):=⟨λy=>[],λy=>[]⟩
abbrev AcV (a:Arr×Int) (res:Except (Bool) (Unit)):Prop:=match a with|(a_,x1)=>cL X 123 (aP [1,1,0,1,0,0] (aQ Tryz.f123)) (aJ (X.H 123 4) 1) (aL 0 (X.H 123 1000000) 1 (lW X Tryz.f123 0 qC (λ(_:Unit)=>(⟨[],[(0,[.d (lI a_.shape),.d (lC a_.cells)])],1,[],none⟩:St)) res)) ⟨[(1,.c (.ptr 0 0)),(27,.d (lC a_.cells)),(28,.d (iZ (List.length a_.cells:Int))),(29,.d (iZ x1))],[(0,[.d (lI a_.shape),.d (lC a_.cells)])],1,[],none⟩
instance {a:Arr×Int}:Ok (jS a) (AcV a):=⟨λh=>jS.partial_correctness AcV (by
 rintro P_ IH ⟨a_,x1⟩ res h
 have IH:=Ok.mk' IH
 have iE:fF Tryz.f123 0 _ qC:=⟨trivial⟩
 refine lg I ?_
 exact Wk) _ _ h⟩
abbrev AcW (a:Arr×Int) (res:Except (Bool) (Unit)):Prop:=match a with|(a_,x2)=>cL X 123 (aP [1,1,0,1,0,0] (aQ Tryz.f123)) (aJ (X.H 123 4) 1) (aL 0 (X.H 123 1000000) 1 (lW X Tryz.f123 0 qC (λ(_:Unit)=>(⟨[],[(0,[.d (lI a_.shape),.d (lC a_.cells)])],1,[],none⟩:St)) res)) ⟨[(1,.c (.ptr 0 0)),(27,.d (lC a_.cells)),(28,.d (iZ (List.length a_.cells:Int))),(29,.d (iZ x2))],[(0,[.d (lI a_.shape),.d (lC a_.cells)])],1,[],none⟩
instance {a:Arr×Int}:Ok (jU a) (AcW a):=⟨λh=>jU.partial_correctness AcW (by
 rintro P_ IH ⟨a_,x2⟩ res h
 have IH:=Ok.mk' IH
 have iE:fF Tryz.f123 0 _ qC:=⟨trivial⟩
 refine lg I ?_
 exact Wk) _ _ h⟩
instance {a_:Arr}:Ok (qF a_) λr=>bF X 123 [.d (aI a_)] [] (qC r):=⟨λh=>by
 unfold qF at h
 exact aB qC I Tryz.func123 I I I I I I λiE=>Wk⟩
abbrev AcH (r:Bool):aF:=(aF.ret (.d (.bool r)) [])
instance BgD:Jn 124 0 1 (Unit):=⟨λy=>[],λy=>[]⟩
abbrev Ah6 (a:Str×Int) (res:Except (Bool) (Unit)):Prop:=match a with|(s,x)=>cL X 124 (aP [1,0,1,0,0] (aQ Tryz.f124)) (aJ (X.H 124 2) 0) (aL 0 (X.H 124 1000000) 0 (lW X Tryz.f124 0 AcH (λ(_:Unit)=>(⟨[(0,.d (.str s))],[],0,[],none⟩:St)) res)) ⟨[(0,.d (.str s)),(6,.d (iZ (List.length s:Int))),(7,.d (iZ x))],[],0,[],none⟩
instance {a:Str×Int}:Ok (nX a) (Ah6 a):=⟨λh=>nX.partial_correctness Ah6 (by
 rintro P_ IH ⟨s,x⟩ res h
 have IH:=Ok.mk' IH
 have iE:fF Tryz.f124 0 _ AcH:=⟨trivial⟩
 refine lg I ?_
 exact Wk) _ _ h⟩
instance {s:Str}:Ok (wL s) λr=>bF X 124 [.d (.str s)] [] (AcH r):=⟨λh=>by
 unfold wL at h
 exact aB AcH I Tryz.func124 I I I I I I λiE=>Wk⟩
abbrev sK (r:Bool×Int):aF:=(aF.ret (.d (.bool r.1)) [[.d (iZ r.2),.nilmap]])
instance {deep:Int} {nodes:Int}:Ok (bV deep nodes) λr=>bF X 121 [.ptr 0 0,.d (iZ deep)] [[.d (iZ nodes),.nilmap]] (sK r):=⟨λh=>by
 unfold bV at h
 exact aB sK I Tryz.func121 I I I I I I λiE=>Wk⟩
abbrev AiR (r:Bool):aF:=(aF.ret (.d (.bool r)) [])
instance {op_:Int}:Ok (nI op_) λr=>bF X 224 [.d (iZ op_)] [] (AiR r):=⟨λh=>by
 unfold nI at h
 exact aB AiR I Tryz.func224 I I I I I I λiE=>Wk⟩
abbrev AkV (r:Bool):aF:=(aF.ret (.d (.bool r)) [])
instance {n:Node} {kids:Int} {op_:Bool} {name:Bool} {lit:Bool}:Ok (bN n kids op_ name lit) λr=>bF X 122 [.d (encNode n),.d (iZ kids),.d (.bool op_),.d (.bool name),.d (.bool lit)] [] (AkV r):=⟨λh=>by
 unfold bN at h
 exact aB AkV I Tryz.func122 I I I I I I λiE=>Wk⟩
abbrev qN (r:Bool×Int):aF:=(aF.ret (.d (.bool r.1)) [[.d (iZ r.2),.nilmap]])
instance AlY:Jn 187 1 9 (Int×Int×Int×Str×LI×(List aA)×(List Node)×Int×Int):=⟨λy=>[(2,.d (iZ y.1))],λy=>[(0,[(0,.d (iZ y.2.2.2.2.2.2.2.2))]),(1,[(0,.d (iZ y.2.1)),(1,.d (iZ y.2.2.1)),(2,.d (.str y.2.2.2.1)),(3,.d (lI y.2.2.2.2.1)),(4,.d (lC y.2.2.2.2.2.1)),(5,.d (lN y.2.2.2.2.2.2.1)),(6,.d (iZ y.2.2.2.2.2.2.2.1))])]⟩
instance {n:Node} {deep:Int} {nodes:Int}:Ok (dQ n deep nodes) λr=>bF X 187 [.ptr 0 0,.d (encNode n),.d (iZ deep)] [[.d (iZ nodes),.nilmap]] (qN r):=⟨λh=>by
 unfold dQ at h
 exact aB qN I Tryz.func187 I I I I I I λiE=>Wk⟩
abbrev zH (b:(List (Int×Bool))) (r:Bool×Int):aF:=(aF.ret (.d (.bool r.1)) [[.d (iZ r.2),.mp 1],[.mdat (List.map (Aa2 .i64 D.bool) b)]])
instance {deep:Int} {nodes:Int} {b:(List (Int×Bool))}:Ok (cX deep nodes b) λr=>bF X 121 [.ptr 0 0,.d (iZ deep)] [[.d (iZ nodes),.mp 1],[.mdat (List.map (Aa2 .i64 D.bool) b)]] ((zH b) r):=⟨λh=>by
 unfold cX at h
 exact aB (zH b) I Tryz.func121 I I I I I I λiE=>Wk⟩
abbrev wY (b:(List (Int×Bool))) (r:Bool×Int):aF:=(aF.ret (.d (.bool r.1)) [[.d (iZ r.2),.mp 1],[.mdat (List.map (Aa2 .i64 D.bool) b)]])
instance ArN:Jn 187 1 9 (Int×Int×Int×Str×LI×(List aA)×(List Node)×Int×Int):=⟨λy=>[(2,.d (iZ y.1))],λy=>[(0,[(0,.d (iZ y.2.2.2.2.2.2.2.2))]),(2,[(0,.d (iZ y.2.1)),(1,.d (iZ y.2.2.1)),(2,.d (.str y.2.2.2.1)),(3,.d (lI y.2.2.2.2.1)),(4,.d (lC y.2.2.2.2.2.1)),(5,.d (lN y.2.2.2.2.2.2.1)),(6,.d (iZ y.2.2.2.2.2.2.2.1))])]⟩
instance {n:Node} {deep:Int} {nodes:Int} {b:(List (Int×Bool))}:Ok (gO n deep nodes b) λr=>bF X 187 [.ptr 0 0,.d (encNode n),.d (iZ deep)] [[.d (iZ nodes),.mp 1],[.mdat (List.map (Aa2 .i64 D.bool) b)]] ((wY b) r):=⟨λh=>by
 unfold gO at h
 exact aB (wY b) I Tryz.func187 I I I I I I λiE=>Wk⟩
abbrev Aa9 (r:Bool×Int×(List (Int×Bool))):aF:=(aF.ret (.d (.bool r.1)) [[.d (iZ r.2.1),.mp 1],[.mdat (List.map (Aa2 .i64 D.bool) r.2.2)]])
instance AvM:Jn 54 1 31 (Bool):=⟨λy=>[(31,.d (.bool y))],λy=>[]⟩
abbrev AcJ (b:(List (Int×Bool))) (r:Bool×Int):aF:=(aF.ret (.d (.bool r.1)) [[.d (iZ r.2),.mp 1],[.mdat (List.map (Aa2 .i64 D.bool) b)]])
instance Az4:Jn 125 1 33 (Bool):=⟨λy=>[(33,.d (.bool y))],λy=>[]⟩
abbrev AcI (b:(List (Int×Bool))) (r:Bool×Int):aF:=(aF.ret (.d (.bool r.1)) [[.d (iZ r.2),.mp 1],[.mdat (List.map (Aa2 .i64 D.bool) b)]])
abbrev yE (b:(List (Int×Bool))) (r:Bool×Int):aF:=(aF.ret (.d (.bool r.1)) [[.d (iZ r.2),.mp 1],[.mdat (List.map (Aa2 .i64 D.bool) b)]])
abbrev yF (b:(List (Int×Bool))) (r:Bool×Int):aF:=(aF.ret (.d (.bool r.1)) [[.d (iZ r.2),.mp 1],[.mdat (List.map (Aa2 .i64 D.bool) b)]])
abbrev AbG (b:(List (Int×Bool))) (r:Bool×Int):aF:=(aF.ret (.d (.bool r.1)) [[.d (iZ r.2),.mp 1],[.mdat (List.map (Aa2 .i64 D.bool) b)]])
abbrev uK (a:Node×Int×Int×(List (Int×Bool))) (res:Bool×Int×(List (Int×Bool))):Prop:=match a with|(n,deep,nodes,b)=>bF X 54 [.ptr 0 0,.d (encNode n),.d (iZ deep)] [[.d (iZ nodes),.mp 1],[.mdat (List.map (Aa2 .i64 D.bool) b)]] (Aa9 res)
abbrev xK (a:Node×Int×Int×(List (Int×Bool))) (res:Bool×Int):Prop:=match a with|(n,deep,nodes,b)=>bF X 125 [.ptr 0 0,.d (encNode n),.d (iZ deep)] [[.d (iZ nodes),.mp 1],[.mdat (List.map (Aa2 .i64 D.bool) b)]] ((AcJ b) res)
abbrev xJ (a:Node×Int×Int×(List (Int×Bool))) (res:Bool×Int):Prop:=match a with|(n,deep,nodes,b)=>bF X 126 [.ptr 0 0,.d (encNode n),.d (iZ deep)] [[.d (iZ nodes),.mp 1],[.mdat (List.map (Aa2 .i64 D.bool) b)]] ((AcI b) res)
abbrev sD (a:Node×Int×Int×(List (Int×Bool))) (res:Bool×Int):Prop:=match a with|(n,deep,nodes,b)=>bF X 186 [.ptr 0 0,.d (encNode n),.d (iZ deep)] [[.d (iZ nodes),.mp 1],[.mdat (List.map (Aa2 .i64 D.bool) b)]] ((yE b) res)
abbrev sE (a:Node×Int×Int×(List (Int×Bool))) (res:Bool×Int):Prop:=match a with|(n,deep,nodes,b)=>bF X 188 [.ptr 0 0,.d (encNode n),.d (iZ deep)] [[.d (iZ nodes),.mp 1],[.mdat (List.map (Aa2 .i64 D.bool) b)]] ((yF b) res)
abbrev vU (a:Node×Int×Int×(List (Int×Bool))) (res:Bool×Int):Prop:=match a with|(n,deep,nodes,b)=>bF X 189 [.ptr 0 0,.d (encNode n),.d (iZ deep)] [[.d (iZ nodes),.mp 1],[.mdat (List.map (Aa2 .i64 D.bool) b)]] ((AbG b) res)
theorem fZ:(∀a res,dR a=some res->uK a res)/\(∀a res,pN a=some res->xJ a res)/\(∀a res,gE a=some res->vU a res)/\(∀a res,hJ a=some res->sD a res)/\(∀a res,hO a=some res->sE a res)/\(∀a res,lX a=some res->xK a res):=by
 refine dR.mutual_partial_correctness (motive_1:=uK) (motive_2:=xJ) (motive_3:=vU) (motive_4:=sD) (motive_5:=sE) (motive_6:=xK) ?_ ?_ ?_ ?_ ?_ ?_
 ·rintro P0 P1 P2 I0 I1 I2 ⟨n,deep,nodes,b⟩ res h
  have I0:=Ok.mk' I0
  have I1:=Ok.mk' I1
  have I2:=Ok.mk' I2
  exact aB Aa9 I Tryz.func54 I I I I I I λiE=>Wk
 ·rintro P0 P1 I0 I1 ⟨n,deep,nodes,b⟩ res h
  have I0:=Ok.mk' I0
  have I1:=Ok.mk' I1
  exact aB (AcI b) I Tryz.func126 I I I I I I λiE=>Wk
 ·rintro P0 I0 ⟨n,deep,nodes,b⟩ res h
  have I0:=Ok.mk' I0
  exact aB (AbG b) I Tryz.func189 I I I I I I λiE=>Wk
 ·rintro P0 I0 ⟨n,deep,nodes,b⟩ res h
  have I0:=Ok.mk' I0
  exact aB (yE b) I Tryz.func186 I I I I I I λiE=>Wk
 ·rintro P0 I0 ⟨n,deep,nodes,b⟩ res h
  have I0:=Ok.mk' I0
  exact aB (yF b) I Tryz.func188 I I I I I I λiE=>Wk
 rintro P0 P1 P2 I0 I1 I2 ⟨n,deep,nodes,b⟩ res h
 have I0:=Ok.mk' I0
 have I1:=Ok.mk' I1
 have I2:=Ok.mk' I2
 exact aB (AcJ b) I Tryz.func125 I I I I I I λiE=>Wk
instance {a:Node×Int×Int×(List (Int×Bool))}:Ok (dR a) (uK a):=⟨λh=>fZ.1 a _ h⟩
instance {a:Node×Int×Int×(List (Int×Bool))}:Ok (pN a) (xJ a):=⟨λh=>fZ.2.1 a _ h⟩
instance {a:Node×Int×Int×(List (Int×Bool))}:Ok (gE a) (vU a):=⟨λh=>fZ.2.2.1 a _ h⟩
instance {a:Node×Int×Int×(List (Int×Bool))}:Ok (hJ a) (sD a):=⟨λh=>fZ.2.2.2.1 a _ h⟩
instance {a:Node×Int×Int×(List (Int×Bool))}:Ok (hO a) (sE a):=⟨λh=>fZ.2.2.2.2.1 a _ h⟩
instance {a:Node×Int×Int×(List (Int×Bool))}:Ok (lX a) (xK a):=⟨λh=>fZ.2.2.2.2.2 a _ h⟩
abbrev rN (r:Bool×Int):aF:=(aF.ret (.d (.bool r.1)) [[.d (iZ r.2),.nilmap]])
instance {n:Node} {deep:Int} {nodes:Int}:Ok (eA n deep nodes) λr=>bF X 186 [.ptr 0 0,.d (encNode n),.d (iZ deep)] [[.d (iZ nodes),.nilmap]] (rN r):=⟨λh=>by
 unfold eA at h
 exact aB rN I Tryz.func186 I I I I I I λiE=>Wk⟩
abbrev uF (r:Bool×Int):aF:=(aF.ret (.d (.bool r.1)) [[.d (iZ r.2),.nilmap]])
instance {n:Node} {deep:Int} {nodes:Int}:Ok (dE n deep nodes) λr=>bF X 189 [.ptr 0 0,.d (encNode n),.d (iZ deep)] [[.d (iZ nodes),.nilmap]] (uF r):=⟨λh=>by
 unfold dE at h
 exact aB uF I Tryz.func189 I I I I I I λiE=>Wk⟩
abbrev rO (r:Bool×Int):aF:=(aF.ret (.d (.bool r.1)) [[.d (iZ r.2),.nilmap]])
instance {n:Node} {deep:Int} {nodes:Int}:Ok (eC n deep nodes) λr=>bF X 188 [.ptr 0 0,.d (encNode n),.d (iZ deep)] [[.d (iZ nodes),.nilmap]] (rO r):=⟨λh=>by
 unfold eC at h
 exact aB rO I Tryz.func188 I I I I I I λiE=>Wk⟩
abbrev uP (r:Bool×Int):aF:=(aF.ret (.d (.bool r.1)) [[.d (iZ r.2),.nilmap]])
instance {n:Node} {deep:Int} {nodes:Int}:Ok (iH n deep nodes) λr=>bF X 126 [.ptr 0 0,.d (encNode n),.d (iZ deep)] [[.d (iZ nodes),.nilmap]] (uP r):=⟨λh=>by
 unfold iH at h
 exact aB uP I Tryz.func126 I I I I I I λiE=>Wk⟩
abbrev uQ (r:Bool×Int):aF:=(aF.ret (.d (.bool r.1)) [[.d (iZ r.2),.nilmap]])
instance AqE:Jn 125 1 33 (Bool):=⟨λy=>[(33,.d (.bool y))],λy=>[]⟩
abbrev pP (a:Node×Int×Int) (res:Bool×Int):Prop:=match a with|(n,deep,nodes)=>bF X 125 [.ptr 0 0,.d (encNode n),.d (iZ deep)] [[.d (iZ nodes),.nilmap]] (uQ res)
theorem Aa6:∀a res,eK a=some res->pP a res:=by
 refine eK.partial_correctness pP ?_
 rintro P_ IH ⟨n,deep,nodes⟩ res h
 have IH:=Ok.mk' IH
 exact aB uQ I Tryz.func125 I I I I I I λiE=>Wk
instance {a:Node×Int×Int}:Ok (eK a) (pP a):=⟨λh=>Aa6 a _ h⟩
abbrev sT (r:Bool×Int):aF:=(aF.ret (.d (.bool r.1)) [[.d (iZ r.2),.nilmap]])
instance AoB:Jn 54 1 31 (Bool):=⟨λy=>[(31,.d (.bool y))],λy=>[]⟩
abbrev nS (a:Node×Int×Int) (res:Bool×Int):Prop:=match a with|(n,deep,nodes)=>bF X 54 [.ptr 0 0,.d (encNode n),.d (iZ deep)] [[.d (iZ nodes),.nilmap]] (sT res)
theorem yU:∀a res,cE a=some res->nS a res:=by
 refine cE.partial_correctness nS ?_
 rintro P_ IH ⟨n,deep,nodes⟩ res h
 have IH:=Ok.mk' IH
 exact aB sT I Tryz.func54 I I I I I I λiE=>Wk
instance {a:Node×Int×Int}:Ok (cE a) (nS a):=⟨λh=>yU a _ h⟩
abbrev AkU (r:Int):aF:=(aF.ret (.d (iZ r)) [])
instance {n:Node}:Ok (pM n) λr=>bF X 28 [.d (encNode n)] [] (AkU r):=⟨λh=>by
 unfold pM at h
 exact aB AkU I Tryz.func28 I I I I I I λiE=>Wk⟩
abbrev AbK (m:aG) (r:Int×Int):aF:=(aF.ret (.tuple [.d (iZ r.1),.d (iZ r.2)]) [[.d (iZ m.fuel.left),.d (iZ m.fuel.used),.d (iZ m.cells)]])
instance {m:aG}:Ok (rC m) λr=>bF X 31 [.ptr 0 0] [[.d (iZ m.fuel.left),.d (iZ m.fuel.used),.d (iZ m.cells)]] ((AbK m) r):=⟨λh=>by
 unfold rC at h
 exact aB (AbK m) I Tryz.func31 I I I I I I λiE=>Wk⟩
abbrev AnH (r:aG):aF:=(aF.ret (.c (.ptr 0 0)) [[.d (iZ r.fuel.left),.d (iZ r.fuel.used),.d (iZ r.cells)]])
instance {fuel:Int} {cells:Int}:Ok (Ad5 fuel cells) λr=>bF X 29 [.d (iZ fuel),.d (iZ cells)] [] (AnH r):=⟨λh=>by
 unfold Ad5 at h
 exact aB AnH I Tryz.func29 I I I I I I λiE=>Wk⟩
abbrev AnE (r:Bool):aF:=(aF.ret (.d (.bool r)) [])
instance {op_:Int}:Ok (qR op_) λr=>bF X 106 [.d (iZ op_)] [] (AnE r):=⟨λh=>by
 unfold qR at h
 exact aB AnE I Tryz.func106 I I I I I I λiE=>Wk⟩
abbrev tT (r:Int):aF:=(aF.ret (.d (iZ r)) [])
abbrev AaA (a:cC×(List Arr)×Int) (res:Except (Int) (Unit)):Prop:=match a with|(f,l,x)=>cL X 191 (aP [1,0,1,0,0] (aQ Tryz.f191)) (aJ (X.H 191 2) 1) (aL 0 (X.H 191 1000000) 1 (lW X Tryz.f191 0 tT (λ(_:Unit)=>(⟨[(2,.c (.ptr 0 0))],[(0,[.d (iZ f.op_),.d (.bool f.turned)])],1,[],none⟩:St)) res)) ⟨[(2,.c (.ptr 0 0)),(8,.d (.list 2 (List.map aH l))),(9,.d (iZ (List.length l:Int))),(10,.d (iZ x))],[(0,[.d (iZ f.op_),.d (.bool f.turned)])],1,[],none⟩
instance {a:cC×(List Arr)×Int}:Ok (gU a) (AaA a):=⟨λh=>gU.partial_correctness AaA (by
 rintro P_ IH ⟨f,l,x⟩ res h
 have IH:=Ok.mk' IH
 have iE:fF Tryz.f191 0 _ tT:=⟨trivial⟩
 refine lg I ?_
 exact Wk) _ _ h⟩
instance {f:cC} {l:(List Arr)}:Ok (kQ f l) λr=>bF X 191 [.d (rZ f),.d (.list 2 (List.map aH l))] [] (tT r):=⟨λh=>by
 unfold kQ at h
 exact aB tT I Tryz.func191 I I I I I I λiE=>Wk⟩
abbrev AsE (r:Int×Int):aF:=(aF.ret (.tuple [.d (iZ r.1),.d (iZ r.2)]) [])
instance {a_:Int} {b:Int}:Ok (Ae8 a_ b) λr=>bF X 220 [.d (iZ a_),.d (iZ b)] [] (AsE r):=⟨λh=>by
 unfold Ae8 at h
 exact aB AsE I Tryz.func220 I I I I I I λiE=>Wk⟩
abbrev AkW (r:Int×Int):aF:=(aF.ret (.tuple [.d (iZ r.1),.d (iZ r.2)]) [])
instance BfA:Jn 241 0 0 (Unit):=⟨λy=>[],λy=>[]⟩
instance {n:Int} {below:Bool}:Ok (uA n below) λr=>bF X 241 [.d (.int .u64 n),.d (.bool below)] [] (AkW r):=⟨λh=>by
 unfold uA at h
 exact aB AkW I Tryz.func241 I I I I I I λiE=>Wk⟩
abbrev ApH (r:Int×Bool):aF:=(aF.ret (.tuple [.d (.int .u64 r.1),.d (.bool r.2)]) [])
instance {a_:Int}:Ok (yX a_) λr=>bF X 236 [.d (iZ a_)] [] (ApH r):=⟨λh=>by
 unfold yX at h
 exact aB ApH I Tryz.func236 I I I I I I λiE=>Wk⟩
abbrev AeO (r:Int×Int):aF:=(aF.ret (.tuple [.d (iZ r.1),.d (iZ r.2)]) [])
instance BhB:Jn 227 0 1 (Int×Bool×Bool):=⟨λy=>[(4,.d (.int .u64 y.1)),(5,.d (.bool y.2.1)),(6,.d (.bool y.2.2))],λy=>[]⟩
abbrev Aj9 (a:LI×Int×Bool×Bool×Int) (res:Except (Int×Int) (Int×Bool×Bool)):Prop:=match a with|(l,n,below,over,x)=>cL X 227 (aP [1,1,1,0,1,0,0] (aQ Tryz.f227)) (aJ (X.H 227 4) 0) (aL 0 (X.H 227 1000000) 0 (lW X Tryz.f227 0 AeO (λ((n2,below2,over2):Int×Bool×Bool)=>(⟨[(4,.d (.int .u64 n2)),(5,.d (.bool below2)),(6,.d (.bool over2))],[],0,[],none⟩:St)) res)) ⟨[(0,.d (lI l)),(4,.d (.int .u64 n)),(5,.d (.bool below)),(6,.d (.bool over)),(11,.d (iZ (List.length l:Int))),(12,.d (iZ x))],[],0,[],none⟩
instance {a:LI×Int×Bool×Bool×Int}:Ok (pT a) (Aj9 a):=⟨λh=>pT.partial_correctness Aj9 (by
 rintro P_ IH ⟨l,n,below,over,x⟩ res h
 have IH:=Ok.mk' IH
 have iE:fF Tryz.f227 0 _ AeO:=⟨trivial⟩
 refine lg I ?_
 exact Wk) _ _ h⟩
instance {l:LI}:Ok (tL l) λr=>bF X 227 [.d (lI l)] [] (AeO r):=⟨λh=>by
 unfold tL at h
 exact aB AeO I Tryz.func227 I I I I I I λiE=>Wk⟩
abbrev AsF (r:Int×Int):aF:=(aF.ret (.tuple [.d (iZ r.1),.d (iZ r.2)]) [])
instance {a_:Int} {b:Int}:Ok (Ae9 a_ b) λr=>bF X 221 [.d (iZ a_),.d (iZ b)] [] (AsF r):=⟨λh=>by
 unfold Ae9 at h
 exact aB AsF I Tryz.func221 I I I I I I λiE=>Wk⟩
abbrev AsH (r:Int):aF:=(aF.ret (.d (iZ r)) [])
instance BiF:Jn 222 1 22 (Int):=⟨λy=>[(5,.d (iZ y))],λy=>[]⟩
instance {a_:Int} {b:Int}:Ok (AeA a_ b) λr=>bF X 222 [.d (iZ a_),.d (iZ b)] [] (AsH r):=⟨λh=>by
 unfold AeA at h
 exact aB AsH I Tryz.func222 I I I I I I λiE=>Wk⟩
abbrev AsJ (r:Int×Int):aF:=(aF.ret (.tuple [.d (iZ r.1),.d (iZ r.2)]) [])
instance {a_:Int} {b:Int}:Ok (Ab1 a_ b) λr=>bF X 210 [.d (iZ a_),.d (iZ b)] [] (AsJ r):=⟨λh=>by
 unfold Ab1 at h
 exact aB AsJ I Tryz.func210 I I I I I I λiE=>Wk⟩
abbrev AfD (r:Int×Int):aF:=(aF.ret (.tuple [.d (iZ r.1),.d (iZ r.2)]) [])
instance {op_:Int} {a_:Int} {b:Int}:Ok (pD op_ a_ b) λr=>bF X 175 [.d (iZ op_),.d (iZ a_),.d (iZ b)] [] (AfD r):=⟨λh=>by
 unfold pD at h
 exact aB AfD I Tryz.func175 I I I I I I λiE=>Wk⟩
abbrev AgD (r:Int):aF:=(aF.ret (.d (iZ r)) [])
instance {b:Bool}:Ok (nW b) λr=>bF X 173 [.d (.bool b)] [] (AgD r):=⟨λh=>by
 unfold nW at h
 exact aB AgD I Tryz.func173 I I I I I I λiE=>Wk⟩
abbrev AiQ (r:aA×Int):aF:=(aF.ret (.tuple [.d (aC r.1),.d (iZ r.2)]) [])
instance BdM:Jn 108 0 0 (Unit):=⟨λy=>[],λy=>[]⟩
instance {op_:Int} {a_:aA} {b:aA}:Ok (pR op_ a_ b) λr=>bF X 108 [.d (iZ op_),.d (aC a_),.d (aC b)] [] (AiQ r):=⟨λh=>by
 unfold pR at h
 exact aB AiQ I Tryz.func108 I I I I I I λiE=>Wk⟩
abbrev AnF (r:aA×Int):aF:=(aF.ret (.tuple [.d (aC r.1),.d (iZ r.2)]) [])
instance BgE:Jn 197 1 9 (Int×Int×(List Arr)×Int×Int×(List Arr)):=⟨λy=>[],λy=>[(1,[(0,.d (iZ y.2.2.2.1)),(1,.d (iZ y.2.2.2.2.1)),(2,.d (.list 2 (List.map aH y.2.2.2.2.2)))]),(2,[(0,.d (iZ y.1)),(1,.d (iZ y.2.1)),(2,.d (.list 2 (List.map aH y.2.2.1)))])]⟩
instance {f:cC} {a_:aA} {b:aA}:Ok (wM f a_ b) λr=>bF X 197 [.d (rZ f),.d (aC a_),.d (aC b)] [] (AnF r):=⟨λh=>by
 unfold wM at h
 exact aB AnF I Tryz.func197 I I I I I I λiE=>Wk⟩
abbrev AaM (r:Arr×Int):aF:=(aF.ret (.tuple [.d (aI r.1),.d (iZ r.2)]) [])
abbrev AfM (a:cC×Arr×Arr×LI×Int×aA×Int×(List aA)) (res:Except (Arr×Int) (List aA)):Prop:=match a with|(f,a_,b,l,x2,y,x3,out11)=>cL X 132 (aP [1,1,1,1,0,1,0,0,1,1,0,0,1,1,0,0] (aQ Tryz.f132)) (aJ (X.H 132 12) 16) (aL 2 (X.H 132 1000002) 16 (lW X Tryz.f132 0 AaM (λ(out12:(List aA))=>(⟨[(3,.c (.ptr 0 0)),(5,.c (.ptr 2 0)),(6,.c (.ptr 3 0)),(9,.c (.ptr 11 0)),(45,.d (lC a_.cells)),(46,.d (iZ (List.length a_.cells:Int))),(47,.d (iZ x2))],[(15,[.d (iZ y.kind),.d (iZ y.n),.d (.list 2 (List.map aH y.box))]),(11,[.d (lI l),oC out12]),(3,[oI [],oC []]),(2,[.d (lI b.shape),.d (lC b.cells)]),(1,[.d (lI a_.shape),.d (lC a_.cells)]),(0,[.d (iZ f.op_),.d (.bool f.turned)])],16,[],none⟩:St)) res)) ⟨[(3,.c (.ptr 0 0)),(5,.c (.ptr 2 0)),(6,.c (.ptr 3 0)),(9,.c (.ptr 11 0)),(13,.c (.ptr 15 0)),(45,.d (lC a_.cells)),(46,.d (iZ (List.length a_.cells:Int))),(47,.d (iZ x2)),(52,.d (lC b.cells)),(53,.d (iZ (List.length b.cells:Int))),(54,.d (iZ x3))],[(15,[.d (iZ y.kind),.d (iZ y.n),.d (.list 2 (List.map aH y.box))]),(11,[.d (lI l),oC out11]),(3,[oI [],oC []]),(2,[.d (lI b.shape),.d (lC b.cells)]),(1,[.d (lI a_.shape),.d (lC a_.cells)]),(0,[.d (iZ f.op_),.d (.bool f.turned)])],16,[],none⟩
instance {a:cC×Arr×Arr×LI×Int×aA×Int×(List aA)}:Ok (mD a) (AfM a):=⟨λh=>mD.partial_correctness AfM (by
 rintro P_ IH ⟨f,a_,b,l,x2,y,x3,out11⟩ res h
 have IH:=Ok.mk' IH
 refine lg I (ra I (S_ ?_))
 rcases E_ h with ⟨hc,h⟩|⟨hc,h⟩
 ·refine ct I hc (K_ (cn I (N_ (S_ (W_ (S_ (rn 0 I ?_)))))))
  obtain⟨y1,hk,h⟩:=B h
  refine po (nQ aC (λ_=>I) hk I I I I I) I I (on (nid':=17) 3 I (rz (S_ (rn 3 I ?_))))
  obtain⟨⟨x4,e2⟩,hk,h⟩:=B h
  have hv:=Ok.ok hk
  refine po (kJ (hv) I I I I I I I I I) I I (on (nid':=18) 6 I (rz (S_ (ra I ?_))))
  rcases E_ h with ⟨hc,h⟩|⟨hc,h⟩
  ·refine ct I hc (ra I (R_ (C_ (Q_ (aL.ret (Q_ (cD.ret (aL.ret ?_))))))))
   cases h
   exact .err I (.ret I I)
  refine cf I hc (K_ (cn I (N_ (rn 4 I ?_))))
  obtain⟨l1,hk,h⟩:=B h
  refine po (AgO hk I I I I I I I I I I I I I I ) I I (on 2 I (O_ (en I (N_ (rn 2 I (O_ (cD.normal ?_)))))))
  have hv:=Ok.ok h
  exact bW I I hv
 ·refine cf I hc (X_ (fW.exit (kW.exit (cD.exit (eh I ?_)))))
  cases h
  exact .ok I
 ) _ _ h⟩
abbrev AfL (a:cC×Arr×Arr×LI×Int×(List aA)) (res:Except (Arr×Int) (List aA)):Prop:=match a with|(f,a_,b,l,x2,out1)=>cL X 132 (aP [1,1,1,1,0,1,0,0] (aQ Tryz.f132)) (aJ (X.H 132 9) 15) (aL 0 (X.H 132 1000000) 15 (lW X Tryz.f132 0 AaM (λ(out13:(List aA))=>(⟨[(6,.c (.ptr 3 0)),(9,.c (.ptr 11 0))],[(11,[.d (lI l),oC out13]),(3,[oI [],oC []]),(2,[.d (lI b.shape),.d (lC b.cells)]),(1,[.d (lI a_.shape),.d (lC a_.cells)]),(0,[.d (iZ f.op_),.d (.bool f.turned)])],15,[],none⟩:St)) res)) ⟨[(3,.c (.ptr 0 0)),(5,.c (.ptr 2 0)),(6,.c (.ptr 3 0)),(9,.c (.ptr 11 0)),(45,.d (lC a_.cells)),(46,.d (iZ (List.length a_.cells:Int))),(47,.d (iZ x2))],[(11,[.d (lI l),oC out1]),(3,[oI [],oC []]),(2,[.d (lI b.shape),.d (lC b.cells)]),(1,[.d (lI a_.shape),.d (lC a_.cells)]),(0,[.d (iZ f.op_),.d (.bool f.turned)])],15,[],none⟩
instance {a:cC×Arr×Arr×LI×Int×(List aA)}:Ok (mC a) (AfL a):=⟨λh=>mC.partial_correctness AfL (by
 rintro P_ IH ⟨f,a_,b,l,x2,out1⟩ res h
 have IH:=Ok.mk' IH
 refine lg I (ra I (S_ ?_))
 rcases E_ h with ⟨hc,h⟩|⟨hc,h⟩
 ·refine ct I hc (K_ (cn I (N_ (S_ (W_ (S_ (rn 0 I ?_)))))))
  obtain⟨y,hk,h⟩:=B h
  refine po (nQ aC (λ_=>I) hk I I I I I) I I (on (nid':=16) 3 I (rz (S_ (rn 2 I (po (nR I I I I I I I) I I (on 1 I (rz ?_)))))))
  obtain⟨res,hs,h⟩:=B h
  refine vI Tryz.f132 0 AaM (λ(out12:(List aA))=>(⟨[(3,.c (.ptr 0 0)),(5,.c (.ptr 2 0)),(6,.c (.ptr 3 0)),(9,.c (.ptr 11 0)),(45,.d (lC a_.cells)),(46,.d (iZ (List.length a_.cells:Int))),(47,.d (iZ x2))],[(15,[.d (iZ y.kind),.d (iZ y.n),.d (.list 2 (List.map aH y.box))]),(11,[.d (lI l),oC out12]),(3,[oI [],oC []]),(2,[.d (lI b.shape),.d (lC b.cells)]),(1,[.d (lI a_.shape),.d (lC a_.cells)]),(0,[.d (iZ f.op_),.d (.bool f.turned)])],16,[],none⟩:St)) (res:=res) ?_ (λy hy=>?_) (λr x s' hr hx he=>?_)
  ·replace h:=hs
   refine W_ (dS ?_)
   have hv:=Ok.ok h
   exact bW I I hv
  ·subst hy
   obtain out12:=y
   refine en I (N_ (rn 2 I (O_ (cD.normal ?_))))
   have hv:=Ok.ok h
   exact bW I I hv
  subst hr
  refine aL.out hx (kW.out hx (cD.out hx (aL.out hx ?_)))
  cases h
  exact .err hx he
 ·refine cf I hc (X_ (fW.exit (kW.exit (cD.exit (eh I ?_)))))
  cases h
  exact .ok I
 ) _ _ h⟩
instance {f:cC} {a_:Arr} {b:Arr}:Ok (tY f a_ b) λr=>bF X 132 [.d (rZ f),.d (aI a_),.d (aI b)] [] (aF.ret (.tuple [.d (aI r.1),.d (iZ r.2)]) []):=⟨λ{r} h=>by
 unfold tY at h
 refine kM (tm:=[(0,.d (rZ f)),(1,.d (aI a_)),(2,.d (aI b))]) (hp:=[]) (n:=0) I Tryz.func132 I I I I I I (ra (nid':=4) I (S_ (S_ (rn 3 I (po (Bj8 (show V.c (.full 2 [aI a_,aI b])=V.c (.full 2 (List.map aH [a_,b])) from by simp only[List.map_cons,List.map_nil,qU]) (Aa3 I)) I I ?_)))))
 obtain⟨e,hk,h⟩:=B h
 have hv:=Ok.ok hk
 refine po (kJ (hv) I I I I I I I I I) I I (on 1 I (rz (ra I ?_)))
 rcases E_ h with ⟨hc,h⟩|⟨hc,h⟩
 ·refine ct I hc (ra I (R_ (C_ (Q_ ?_))))
  cases h
  exact .ret I I
 ·refine cf I hc (K_ (cn I (N_ (S_ (drn (m:=13) 2 I I ?_)))))
  obtain⟨⟨x,b1⟩,hk,h⟩:=B h
  have hv:=Ok.ok hk
  refine pd (AbN (nid':=14) (hv) I I I I I I I I I I I I) I I I I I (don 2 I ?_)
  obtain⟨l,hk,h⟩:=B h
  obtain⟨_,hk1,hk⟩:=AvZ hk
  refine pda (D.int .i64) hk (Au2 (D.int .i64) hk1 I) I I I I I I I I I I I I I I I I I I I I (don 3 I (dz (by kernel_rfl) (S_ (S_ (rnF 2 (tm0:=[(9,.c (.ptr 11 0)),(33,.vagg [.arr 14 (List.length l) 1,.nilsl 3]),(32,.c (.arr 14 (List.length l) 1)),(31,.d (lI b.shape)),(30,.c (.ptr 2 0)),(29,.c (.arr 13 x 1)),(28,.d (lI a_.shape)),(27,.c (.ptr 1 0)),(3,.c (.ptr 0 0)),(4,.c (.ptr 1 0)),(5,.c (.ptr 2 0)),(6,.c (.ptr 3 0))]) (hp0:=[(11,[.d (lI l),oC []]),(3,[oI [],oC []]),(2,[.d (lI b.shape),.d (lC b.cells)]),(1,[.d (lI a_.shape),.d (lC a_.cells)]),(0,[.d (iZ f.op_),.d (.bool f.turned)])]) (nid0:=15) (Aj1 I (gC (b0:=11) (off:=0) I (jA (D.int .i64) I (Aw0 _) I I I)) I) I ?_)))))
  obtain⟨⟨x1,e1⟩,hk,h⟩:=B h
  have hv:=Ok.ok hk
  refine po (kJ (hv) I I I I I I I I I) I I (on 5 I (rz (ra I ?_)))
  rcases E_ h with ⟨hc,h⟩|⟨hc,h⟩
  ·refine ct I hc (ra I (R_ (C_ (Q_ ?_))))
   cases h
   exact .ret I I
  ·refine cf I hc (K_ (cn I (N_ (S_ (S_ (rn 2 I (po (nR I I I I I I I) I I (on 1 I (rz ?_)))))))))
   obtain⟨res,hs,h⟩:=B h
   refine vI Tryz.f132 0 AaM (λ(out13:(List aA))=>(⟨[(6,.c (.ptr 3 0)),(9,.c (.ptr 11 0))],[(11,[.d (lI l),oC out13]),(3,[oI [],oC []]),(2,[.d (lI b.shape),.d (lC b.cells)]),(1,[.d (lI a_.shape),.d (lC a_.cells)]),(0,[.d (iZ f.op_),.d (.bool f.turned)])],15,[],none⟩:St)) (res:=res) ?_ (λy hy=>?_) (λr x s' hr hx he=>?_)
   ·replace h:=hs
    refine W_ (dS ?_)
    have hv:=Ok.ok h
    exact bW I I hv
   ·subst hy
    obtain out13:=y
    refine N_ (ra I (R_ ?_))
    cases h
    exact .ret I I
   ·subst hr
    refine kW.out hx ?_
    cases h
    exact he
 ⟩
abbrev AgF (r:LI×Int):aF:=(aF.ret (.tuple [.d (lI r.1),.d (iZ r.2)]) [])
abbrev AcX (a:(List aA)×Int×LI) (res:Except (LI×Int) LI):Prop:=match a with|(l,x,out1)=>cL X 225 (aP [1,1,0,1,0,0] (aQ Tryz.f225)) (aJ (X.H 225 3) 1) (aL 0 (X.H 225 1000000) 1 (lW X Tryz.f225 0 AgF (λ(out3:LI)=>(⟨[(4,.c (.arr 0 (Int.toNat (List.length l:Int)) 1))],[(0,[.seq 1 (List.map (D.int .i64) out3)])],1,[],none⟩:St)) res)) ⟨[(4,.c (.arr 0 (Int.toNat (List.length l:Int)) 1)),(10,.d (lC l)),(11,.d (iZ (List.length l:Int))),(12,.d (iZ x))],[(0,[.seq 1 (List.map (D.int .i64) out1)])],1,[],none⟩
instance {a:(List aA)×Int×LI}:Ok (jV a) (AcX a):=⟨λh=>jV.partial_correctness AcX (by
 rintro P_ IH ⟨l,x,out1⟩ res h
 have IH:=Ok.mk' IH
 refine lg I (ra I (S_ ?_))
 rcases E_ h with ⟨hc,h⟩|⟨hc,h⟩
 ·refine ct I hc (K_ (cn I (N_ (S_ (W_ (S_ (rn 1 I ?_)))))))
  obtain⟨y,hk,h⟩:=B h
  refine po (nQ aC (λ_=>I) hk I I I I I) I I (on (nid':=2) 4 I (rz (S_ (ra I ?_))))
  rcases E_ h with ⟨hc,h⟩|⟨hc,h⟩
  ·refine ct I hc (ra I (R_ (C_ (Q_ (aL.ret (Q_ (cD.ret (aL.ret ?_))))))))
   cases h
   exact .err I (.ret I I)
  refine cf I hc (K_ (cn I (N_ (rn 4 I ?_))))
  obtain⟨j,hk,h⟩:=B h
  refine po (Aa1 hk I I I I I) I I ?_
  obtain⟨out2,hk,h⟩:=B h
  refine po (est (D.int .i64) (v:=y.n) hk I I (λ_=>⟨I,I,I⟩) I I I I) I I (O_ (en I (N_ (rn 2 I (O_ (cD.normal ?_))))))
  have hv:=Ok.ok h
  exact bW I I hv
 ·refine cf I hc (X_ (fW.exit (kW.exit (cD.exit (eh I ?_)))))
  cases h
  exact .ok I
 ) _ _ h⟩
instance {l:(List aA)}:Ok (oA l) λr=>bF X 225 [.d (lC l)] [] (aF.ret (.tuple [.d (lI r.1),.d (iZ r.2)]) []):=⟨λ{r} h=>by
 unfold oA at h
 refine kM (tm:=[(0,.d (lC l))]) (hp:=[]) (n:=0) I Tryz.func225 I I I I I I (ra I (S_ (rn 1 I (po (nR I I I I I I I) I I ?_))))
 obtain⟨out,hk,h⟩:=B h
 refine po (Am7 (nid':=1) (D.int .i64) 0 hk I I I I I I I I I I I I ) I I (on (nid':=1) 1 I (rz (S_ (S_ (rn 1 I (po (nR I I I I I I I) I I (on 1 I (rz ?_))))))))
 obtain⟨res,hs,h⟩:=B h
 refine vI Tryz.f225 0 AgF (λ(out3:LI)=>(⟨[(4,.c (.arr 0 (Int.toNat (List.length l:Int)) 1))],[(0,[.seq 1 (List.map (D.int .i64) out3)])],1,[],none⟩:St)) (res:=res) ?_ (λy hy=>?_) (λr x s' hr hx he=>?_)
 ·replace h:=hs
  refine W_ (dS ?_)
  have hv:=Ok.ok h
  exact bW I I hv
 ·subst hy
  obtain out3:=y
  refine N_ ?_
  obtain⟨out4,hkFout4,h⟩:=B h
  refine S_ (rnF 3 (tm0:=[(4,.d (lI out4)),(4,.c (.arr 0 (Int.toNat (List.length l:Int)) 1))]) (hp0:=[]) (nid0:=1) (Aj1 I (gT (t:=4) I I I (AuQ (AgT (D.int .i64) hkFout4 I)) I I) I) I (rz (R_ ?_)))
  cases h
  exact .ret I I
 ·subst hr
  refine kW.out hx ?_
  cases h
  exact he
 ⟩
abbrev AgJ (r:Int×Int):aF:=(aF.ret (.tuple []) [[.d (.int .u64 r.1),.d (.int .u64 r.2)]])
instance {n:Int} {w:eV}:Ok (qI n w) λr=>bF X 237 [.ptr 0 0,.d (.int .u64 n)] [[.d (.int .u64 w.hi),.d (.int .u64 w.lo)]] (AgJ r):=⟨λh=>by
 unfold qI at h
 exact aB AgJ I Tryz.func237 I I I I I I λiE=>Wk⟩
abbrev AfE (r:Bool):aF:=(aF.ret (.d (.bool r)) [])
instance {w:eV} {a_:eV}:Ok (rU w a_) λr=>bF X 238 [.d (AcN w),.d (AcN a_)] [] (AfE r):=⟨λh=>by
 unfold rU at h
 exact aB AfE I Tryz.func238 I I I I I I λiE=>Wk⟩
abbrev AcK (r:Int×Int):aF:=(aF.ret (.tuple [.d (iZ r.1),.d (iZ r.2)]) [])
instance {w:eV} {below:Bool}:Ok (lY w below) λr=>bF X 240 [.d (AcN w),.d (.bool below)] [] (AcK r):=⟨λh=>by
 unfold lY at h
 exact aB AcK I Tryz.func240 I I I I I I λiE=>Wk⟩
abbrev AgK (r:Int×Int):aF:=(aF.ret (.tuple []) [[.d (.int .u64 r.1),.d (.int .u64 r.2)]])
instance BcY:Jn 239 1 10 (Int):=⟨λy=>[],λy=>[(0,[(0,.d (.int .u64 y))])]⟩
instance {a_:eV} {w:eV}:Ok (qJ a_ w) λr=>bF X 239 [.ptr 0 0,.d (AcN a_)] [[.d (.int .u64 w.hi),.d (.int .u64 w.lo)]] (AgK r):=⟨λh=>by
 unfold qJ at h
 exact aB AgK I Tryz.func239 I I I I I I λiE=>Wk⟩
abbrev Am5 (r:Int×Int):aF:=(aF.ret (.tuple [.d (iZ r.1),.d (iZ r.2)]) [])
instance BiG:Jn 226 0 1 (Int×Int×Int×Int):=⟨λy=>[],λy=>[(0,[(0,.d (.int .u64 y.2.2.1)),(1,.d (.int .u64 y.2.2.2))]),(1,[(0,.d (.int .u64 y.1)),(1,.d (.int .u64 y.2.1))])]⟩
abbrev AlG (a:LI×Int×Int×Int×Int×Int) (res:Int×Int×Int×Int):Prop:=match a with|(l,x,below0,below1,above0,above1)=>cL X 226 (aP [1,1,0,1,0,0] (aQ Tryz.f226)) (aJ (X.H 226 3) 2) (aL 0 (X.H 226 1000000) 2 (iL (λ((below02,below12,above02,above12):Int×Int×Int×Int)=>(⟨[(4,.c (.ptr 0 0)),(5,.c (.ptr 1 0))],[(1,[.d (.int .u64 below02),.d (.int .u64 below12)]),(0,[.d (.int .u64 above02),.d (.int .u64 above12)])],2,[],none⟩:St)) res)) ⟨[(0,.d (lI l)),(4,.c (.ptr 0 0)),(5,.c (.ptr 1 0)),(10,.d (iZ (List.length l:Int))),(11,.d (iZ x))],[(1,[.d (.int .u64 below0),.d (.int .u64 below1)]),(0,[.d (.int .u64 above0),.d (.int .u64 above1)])],2,[],none⟩
instance {a:LI×Int×Int×Int×Int×Int}:Ok (rD a) (AlG a):=⟨λh=>rD.partial_correctness AlG (by
 rintro P_ IH ⟨l,x,below0,below1,above0,above1⟩ res h
 have IH:=Ok.mk' IH
 have iE:fF Tryz.f226 0 _ Am5:=⟨trivial⟩
 refine lg I ?_
 exact Wk) _ _ h⟩
instance {l:LI}:Ok (yW l) λr=>bF X 226 [.d (lI l)] [] (Am5 r):=⟨λh=>by
 unfold yW at h
 exact aB Am5 I Tryz.func226 I I I I I I λiE=>Wk⟩
abbrev AaL (r:aA×Int):aF:=(aF.ret (.tuple [.d (aC r.1),.d (iZ r.2)]) [])
instance Bf9:Jn 195 0 0 (Unit):=⟨λy=>[],λy=>[]⟩
abbrev AfK (a:cC×(List aA)×Int×Int×Int×(List Arr)) (res:Except (aA×Int) (Int×Int×(List Arr))):Prop:=match a with|(f,l,i,c0,c1,c2)=>cL X 195 (aP [1,1,1,1,1,0,1,0,0] (aQ Tryz.f195)) (aJ (X.H 195 21) 3) (aL 1 (X.H 195 1000001) 3 (lW X Tryz.f195 0 AaL (λ((c01,c11,c21):Int×Int×(List Arr))=>(⟨[(4,.c (.ptr 1 0)),(11,.c (.ptr 2 0))],[(2,[.d (iZ c01),.d (iZ c11),.d (.list 2 (List.map aH c21))]),(1,[.d (iZ 0),.d (iZ 0),.own 2 (List.map aH [])]),(0,[.d (iZ f.op_),.d (.bool f.turned)])],3,[],none⟩:St)) res)) ⟨[(1,.d (lC l)),(4,.c (.ptr 1 0)),(10,.c (.bfn 197 (rZ f))),(11,.c (.ptr 2 0)),(13,.d (iZ i))],[(2,[.d (iZ c0),.d (iZ c1),.d (.list 2 (List.map aH c2))]),(1,[.d (iZ 0),.d (iZ 0),.own 2 (List.map aH [])]),(0,[.d (iZ f.op_),.d (.bool f.turned)])],3,[],none⟩
instance {a:cC×(List aA)×Int×Int×Int×(List Arr)}:Ok (mB a) (AfK a):=⟨λh=>mB.partial_correctness AfK (by
 rintro P_ IH ⟨f,l,i,c0,c1,c2⟩ res h
 have IH:=Ok.mk' IH
 have iE:fF Tryz.f195 0 _ AaL:=⟨trivial⟩
 refine lg I ?_
 exact Wk) _ _ h⟩
instance {f:cC} {l:(List aA)}:Ok (tX f l) λr=>bF X 195 [.d (rZ f),.d (lC l)] [] (AaL r):=⟨λh=>by
 unfold tX at h
 exact aB AaL I Tryz.func195 I I I I I I λiE=>Wk⟩
abbrev AnG (r:Int):aF:=(aF.ret (.d (iZ r)) [])
instance {a_:Arr} {last:Bool}:Ok (wO a_ last) λr=>bF X 192 [.d (aI a_),.d (.bool last)] [] (AnG r):=⟨λh=>by
 unfold wO at h
 exact aB AnG I Tryz.func192 I I I I I I λiE=>Wk⟩
abbrev AgE (r:(List aA)):aF:=(aF.ret (.d (lC r)) [])
abbrev AhA (a:(List aA)×Int×Int×Int×(List aA)×Int) (res:(List aA)):Prop:=match a with|(l,at_,step,long,out1,x)=>cL X 196 (aP [1,1,0,1,0,0] (aQ Tryz.f196)) (aJ (X.H 196 3) 0) (aL 0 (X.H 196 1000000) 0 (iL (λ(out3:(List aA))=>(⟨[(9,.c (.own 3 (List.map aC out3)))],[],0,[],none⟩:St)) res)) ⟨[(0,.d (lC l)),(1,.d (iZ at_)),(2,.d (iZ step)),(9,.c (.own 3 (List.map aC out1))),(13,.d (iZ long)),(14,.d (iZ x))],[],0,[],none⟩
instance {a:(List aA)×Int×Int×Int×(List aA)×Int}:Ok (nZ a) (AhA a):=⟨λh=>nZ.partial_correctness AhA (by
 rintro P_ IH ⟨l,at_,step,long,out1,x⟩ res h
 have IH:=Ok.mk' IH
 have iE:fF Tryz.f196 0 _ AgE:=⟨trivial⟩
 refine lg I ?_
 exact Wk) _ _ h⟩
instance {l:(List aA)} {at_:Int} {step:Int} {long:Int}:Ok (tG l at_ step long) λr=>bF X 196 [.d (lC l),.d (iZ at_),.d (iZ step),.d (iZ long)] [] (AgE r):=⟨λh=>by
 unfold tG at h
 exact aB AgE I Tryz.func196 I I I I I I λiE=>Wk⟩
abbrev AaN (r:Int×Int×Int):aF:=(aF.ret (.tuple [.d (iZ r.1),.d (iZ r.2.1),.d (iZ r.2.2)]) [])
abbrev AfN (a:LI×Int×LI×Int×Int) (res:Int):Prop:=match a with|(shape,axis,l,outer,x)=>cL X 194 (aP [1,1,0,1,0,0] (aQ Tryz.f194)) (aJ (X.H 194 3) 0) (aL 0 (X.H 194 1000000) 0 (iL (λ(outer1:Int)=>(⟨[(0,.d (lI shape)),(1,.d (iZ axis)),(4,.d (iZ outer1)),(5,.d (iZ 1))],[],0,[],none⟩:St)) res)) ⟨[(0,.d (lI shape)),(1,.d (iZ axis)),(4,.d (iZ outer)),(5,.d (iZ 1)),(13,.d (lI l)),(14,.d (iZ (List.length l:Int))),(15,.d (iZ x))],[],0,[],none⟩
instance {a:LI×Int×LI×Int×Int}:Ok (kF a) (AfN a):=⟨λh=>kF.partial_correctness AfN (by
 rintro P_ IH ⟨shape,axis,l,outer,x⟩ res h
 have IH:=Ok.mk' IH
 have iE:fF Tryz.f194 0 _ AaN:=⟨trivial⟩
 refine lg I ?_
 exact Wk) _ _ h⟩
abbrev AfO (a:LI×Int×Int×LI×Int×Int) (res:Int):Prop:=match a with|(shape,axis,outer1,l1,step,x1)=>cL X 194 (aP [1,1,1,0,1,0,0] (aQ Tryz.f194)) (aJ (X.H 194 8) 0) (aL 2 (X.H 194 1000002) 0 (iL (λ(step1:Int)=>(⟨[(0,.d (lI shape)),(1,.d (iZ axis)),(4,.d (iZ outer1)),(5,.d (iZ step1))],[],0,[],none⟩:St)) res)) ⟨[(0,.d (lI shape)),(1,.d (iZ axis)),(4,.d (iZ outer1)),(5,.d (iZ step)),(26,.d (lI l1)),(27,.d (iZ (List.length l1:Int))),(28,.d (iZ x1))],[],0,[],none⟩
instance {a:LI×Int×Int×LI×Int×Int}:Ok (kG a) (AfO a):=⟨λh=>kG.partial_correctness AfO (by
 rintro P_ IH ⟨shape,axis,outer1,l1,step,x1⟩ res h
 have IH:=Ok.mk' IH
 have iE:fF Tryz.f194 0 _ AaN:=⟨trivial⟩
 refine lg I ?_
 exact Wk) _ _ h⟩
instance {shape:LI} {axis:Int}:Ok (tZ shape axis) λr=>bF X 194 [.d (lI shape),.d (iZ axis)] [] (AaN r):=⟨λh=>by
 unfold tZ at h
 exact aB AaN I Tryz.func194 I I I I I I λiE=>Wk⟩
abbrev yM (r:Arr×Int):aF:=(aF.ret (.tuple [.d (aI r.1),.d (iZ r.2)]) [])
abbrev Aj8 (a:cC×Arr×LI×LI×Int×Int×Int×Int×Int×(List aA)) (res:Except (Arr×Int) (List aA)):Prop:=match a with|(f,a_,x2,x3,outer,step,long,x5,x6,out11)=>cL X 129 (aP [1,1,1,1,1,1,1,0,1,0,0,1,1,0,0,1,1,0,0] (aQ Tryz.f129)) (aJ (X.H 129 16) 5) (aL 2 (X.H 129 1000002) 5 (lW X Tryz.f129 0 yM (λ(out12:(List aA))=>(⟨[(3,.c (.ptr 0 0)),(4,.c (.ptr 1 0)),(6,.c (.ptr 2 0)),(10,.c (.ptr 4 0)),(14,.d (iZ step)),(15,.d (iZ long)),(63,.d (iZ outer)),(64,.d (iZ x5))],[(4,[.d (lI x2),oC out12]),(2,[oI [],oC []]),(1,[.d (lI a_.shape),.d (lC a_.cells)]),(0,[.d (iZ f.op_),.d (.bool f.turned)]),(3,[.seq 1 (List.map (D.int .i64) x3)])],5,[],none⟩:St)) res)) ⟨[(3,.c (.ptr 0 0)),(4,.c (.ptr 1 0)),(6,.c (.ptr 2 0)),(10,.c (.ptr 4 0)),(14,.d (iZ step)),(15,.d (iZ long)),(16,.d (iZ x5)),(63,.d (iZ outer)),(64,.d (iZ x5)),(67,.d (iZ step)),(68,.d (iZ x6))],[(4,[.d (lI x2),oC out11]),(2,[oI [],oC []]),(1,[.d (lI a_.shape),.d (lC a_.cells)]),(0,[.d (iZ f.op_),.d (.bool f.turned)]),(3,[.seq 1 (List.map (D.int .i64) x3)])],5,[],none⟩
instance {a:cC×Arr×LI×LI×Int×Int×Int×Int×Int×(List aA)}:Ok (pS a) (Aj8 a):=⟨λh=>pS.partial_correctness Aj8 (by
 rintro P_ IH ⟨f,a_,x2,x3,outer,step,long,x5,x6,out11⟩ res h
 have IH:=Ok.mk' IH
 have iE:fF Tryz.f129 0 _ yM:=⟨trivial⟩
 refine lg I ?_
 exact Wk) _ _ h⟩
abbrev Aj7 (a:cC×Arr×LI×LI×Int×Int×Int×Int×(List aA)) (res:Except (Arr×Int) (List aA)):Prop:=match a with|(f,a_,x2,x3,outer,step,long,x5,out1)=>cL X 129 (aP [1,1,1,1,1,1,1,0,1,0,0] (aQ Tryz.f129)) (aJ (X.H 129 13) 5) (aL 0 (X.H 129 1000000) 5 (lW X Tryz.f129 0 yM (λ(out13:(List aA))=>(⟨[(6,.c (.ptr 2 0)),(10,.c (.ptr 4 0))],[(4,[.d (lI x2),oC out13]),(2,[oI [],oC []]),(1,[.d (lI a_.shape),.d (lC a_.cells)]),(0,[.d (iZ f.op_),.d (.bool f.turned)]),(3,[.seq 1 (List.map (D.int .i64) x3)])],5,[],none⟩:St)) res)) ⟨[(3,.c (.ptr 0 0)),(4,.c (.ptr 1 0)),(6,.c (.ptr 2 0)),(10,.c (.ptr 4 0)),(14,.d (iZ step)),(15,.d (iZ long)),(63,.d (iZ outer)),(64,.d (iZ x5))],[(4,[.d (lI x2),oC out1]),(2,[oI [],oC []]),(1,[.d (lI a_.shape),.d (lC a_.cells)]),(0,[.d (iZ f.op_),.d (.bool f.turned)]),(3,[.seq 1 (List.map (D.int .i64) x3)])],5,[],none⟩
instance {a:cC×Arr×LI×LI×Int×Int×Int×Int×(List aA)}:Ok (nJ a) (Aj7 a):=⟨λh=>nJ.partial_correctness Aj7 (by
 rintro P_ IH ⟨f,a_,x2,x3,outer,step,long,x5,out1⟩ res h
 have IH:=Ok.mk' IH
 have iE:fF Tryz.f129 0 _ yM:=⟨trivial⟩
 refine lg I ?_
 exact Wk) _ _ h⟩
instance {f:cC} {a_:Arr} {last:Bool}:Ok (yV f a_ last) λr=>bF X 129 [.d (rZ f),.d (aI a_),.d (.bool last)] [] (yM r):=⟨λh=>by
 unfold yV at h
 exact aB yM I Tryz.func129 I I I I I I λiE=>Wk⟩
abbrev AfJ (a:Arr×LI×Int×(List aA)) (res:(List aA)):Prop:=match a with|(a_,l,x,c0)=>cL X 1000032 (aP [1,1,0,1,0,0] (aQ Tryz.f32)) (aJ (X.H 1000032 3) 5) (aL 0 (X.H 1000032 1000000) 5 (iL (λ(c01:(List aA))=>(⟨[(2,.c (.ptr 1 0)),(3,.c (.ptr 3 0))],[(5,[.seq 3 (List.map aC c01)]),(3,[.arr 2 (List.length l) 1,.arr 5 (List.length c01) 3]),(2,[.seq 1 (List.map (D.int .i64) l)]),(1,[oI [],oC []]),(0,[.d (lI a_.shape),.d (lC a_.cells)])],6,[],none⟩:St)) res)) ⟨[(2,.c (.ptr 1 0)),(3,.c (.ptr 3 0)),(11,.d (lC a_.cells)),(12,.d (iZ (List.length a_.cells:Int))),(13,.d (iZ x))],[(5,[.seq 3 (List.map aC c0)]),(3,[.arr 2 (List.length l) 1,.arr 5 (List.length c0) 3]),(2,[.seq 1 (List.map (D.int .i64) l)]),(1,[oI [],oC []]),(0,[.d (lI a_.shape),.d (lC a_.cells)])],6,[],none⟩
instance {a:Arr×LI×Int×(List aA)}:Ok (kE a) (AfJ a):=⟨λh=>kE.partial_correctness AfJ (by
 rintro P_ IH ⟨a_,l,x,c0⟩ res h
 have IH:=Ok.mk' IH
 refine lgX (tm':=[(2,.c (.ptr 1 0)),(3,.c (.ptr 3 0)),(11,.d (lC a_.cells)),(12,.d (iZ (List.length a_.cells:Int))),(13,.d (iZ x))]) (hp':=[(5,[.seq 3 (List.map aC c0)]),(3,[.arr 2 (List.length l) 1,.arr 5 (List.length c0) 3]),(2,[.seq 1 (List.map (D.int .i64) l)]),(1,[oI [],oC []]),(0,[.d (lI a_.shape),.d (lC a_.cells)])]) (nid':=6) I (ra I (S_ ?_))
 rcases E_ h with ⟨hc,h⟩|⟨hc,h⟩
 ·refine ct I hc (K_ (cn I (N_ (S_ (W_ (S_ (rn 0 I ?_)))))))
  obtain⟨y,hk,h⟩:=B h
  refine po (nQ aC (λ_=>I) hk I I I I I) I I (on (nid':=7) 3 I (rz (drn (m:=15) 3 I I ?_)))
  obtain⟨x1,hk,h⟩:=B h
  have hv:=Ok.ok hk
  refine pd (kJ (hv) I I I I I I I I I) I I I I I (don 1 I ?_)
  obtain⟨l1,hk,h⟩:=B h
  refine pda aC hk (As1 aC I) I I I I I I I I I I I I I I I I I I I I (don 2 I (dz' (by kernel_rfl) (en I (N_ (rn 2 I (O_ (cD.normal ?_)))))))
  have hv:=Ok.ok h
  exact bW I I hv
 ·refine cf I hc (X_ (fW.exit (kW.exit (cD.exit (ehX (tm':=[(2,.c (.ptr 1 0)),(3,.c (.ptr 3 0))]) (hp':=[(5,[.seq 3 (List.map aC c0)]),(3,[.arr 2 (List.length l) 1,.arr 5 (List.length c0) 3]),(2,[.seq 1 (List.map (D.int .i64) l)]),(1,[oI [],oC []]),(0,[.d (lI a_.shape),.d (lC a_.cells)])]) (nid':=6) I ?_)))))
  cases h
  exact .ok I
 ) _ _ h⟩
instance {a_:Arr}:Ok (rA a_) λr=>Aw8 X 32 [.d (aI a_)] [] (aF.ret (.vagg [.arr 0 r.1 1,.arr 1 r.2.1 3]) [[.seq 1 (List.map (D.int .i64) r.2.2.1)],[.seq 3 (List.map aC r.2.2.2)]]):=⟨λ{r} h=>by
 unfold rA at h
 refine An1 (g:=1000032) (tm:=[(0,.d (aI a_))]) (hp:=[]) (n:=0) I Tryz.func32 I I I I I I (ra (nid':=2) I (S_ (rnM (tm0:=[(2,.c (.ptr 1 0)),(1,.c (.ptr 0 0)),(0,.d (aI a_))]) (hp0:=[(1,[oI [],oC []]),(0,[.d (lI a_.shape),.d (lC a_.cells)])]) (nid0:=2) I I I (mo (.of λ_=>I) I (λ_=>I) (s2:=⟨[(6,.c (.ptr 0 0)),(1,.c (.ptr 0 0)),(2,.c (.ptr 1 0))],[(1,[oI [],oC []]),(0,[.d (lI a_.shape),.d (lC a_.cells)])],2,[],none⟩) I (mo (.of λ_=>I) I (λ_=>I) (s2:=⟨[(7,.d (lI a_.shape)),(6,.c (.ptr 0 0)),(1,.c (.ptr 0 0)),(2,.c (.ptr 1 0))],[(1,[oI [],oC []]),(0,[.d (lI a_.shape),.d (lC a_.cells)])],2,[],none⟩) I ?_)))))
 obtain⟨l,hk,h⟩:=B h
 refine ms (BfQ (D.int .i64) hk I I I I I I (Bc6 (D.int .i64)) I I I I I I I I I ) I (s2:=⟨[(8,.c (.arr 2 (List.length l) 1)),(7,.d (lI a_.shape)),(6,.c (.ptr 0 0)),(1,.c (.ptr 0 0)),(2,.c (.ptr 1 0))],[(2,[.seq 1 (List.map (D.int .i64) l)]),(1,[oI [],oC []]),(0,[.d (lI a_.shape),.d (lC a_.cells)])],3,[],none⟩) I (mo (.of λ_=>I) I (λ_=>I) (s2:=⟨[(9,.vagg [.arr 2 (List.length l) 1,.nilsl 3]),(8,.c (.arr 2 (List.length l) 1)),(7,.d (lI a_.shape)),(6,.c (.ptr 0 0)),(1,.c (.ptr 0 0)),(2,.c (.ptr 1 0))],[(2,[.seq 1 (List.map (D.int .i64) l)]),(1,[oI [],oC []]),(0,[.d (lI a_.shape),.d (lC a_.cells)])],3,[],none⟩) I (mo (.of λ_=>I) I (λ_=>I) (s2:=⟨[(3,.c (.ptr 3 0)),(9,.vagg [.arr 2 (List.length l) 1,.nilsl 3]),(8,.c (.arr 2 (List.length l) 1)),(7,.d (lI a_.shape)),(6,.c (.ptr 0 0)),(1,.c (.ptr 0 0)),(2,.c (.ptr 1 0))],[(3,[oI [],oC []]),(2,[.seq 1 (List.map (D.int .i64) l)]),(1,[oI [],oC []]),(0,[.d (lI a_.shape),.d (lC a_.cells)])],4,[],none⟩) I (ms I I (s2:=⟨[(3,.c (.ptr 3 0)),(9,.vagg [.arr 2 (List.length l) 1,.nilsl 3]),(8,.c (.arr 2 (List.length l) 1)),(7,.d (lI a_.shape)),(6,.c (.ptr 0 0)),(1,.c (.ptr 0 0)),(2,.c (.ptr 1 0))],[(3,[.arr 2 (List.length l) 1,.nilsl 3]),(2,[.seq 1 (List.map (D.int .i64) l)]),(1,[oI [],oC []]),(0,[.d (lI a_.shape),.d (lC a_.cells)])],4,[],none⟩) I (mz (N_ (S_ (S_ (rnF 2 (tm0:=[(3,.c (.ptr 3 0)),(9,.vagg [.arr 2 (List.length l) 1,.nilsl 3]),(8,.c (.arr 2 (List.length l) 1)),(7,.d (lI a_.shape)),(6,.c (.ptr 0 0)),(1,.c (.ptr 0 0)),(2,.c (.ptr 1 0))]) (hp0:=[(4,[.seq 3 (List.map aC ([]:List aA))]),(3,[.arr 2 (List.length l) 1,.arr 4 0 3]),(2,[.seq 1 (List.map (D.int .i64) l)]),(1,[oI [],oC []]),(0,[.d (lI a_.shape),.d (lC a_.cells)])]) (nid0:=5) (Aj1 I (I) I) I (po (nR I I I I I I I) I I (on 1 I (rz ?_)))))))))))
 obtain⟨c01,hs,h⟩:=B h
 refine gI (λ(c01:(List aA))=>(⟨[(2,.c (.ptr 1 0)),(3,.c (.ptr 3 0))],[(5,[.seq 3 (List.map aC c01)]),(3,[.arr 2 (List.length l) 1,.arr 5 (List.length c01) 3]),(2,[.seq 1 (List.map (D.int .i64) l)]),(1,[oI [],oC []]),(0,[.d (lI a_.shape),.d (lC a_.cells)])],6,[],none⟩:St)) (y:=c01) ?_ ?_
 ·replace h:=hs
  refine W_ (dS ?_)
  have hv:=Ok.ok h
  exact bW I I hv
 ·refine N_ (ra I (R_ ?_))
  cases h
  exact BgX I I
 ⟩
abbrev wF (r:Arr×Int):aF:=(aF.ret (.tuple [.d (aI r.1),.d (iZ r.2)]) [])
abbrev Ah9 (a:cC×Arr×Nat×Nat×LI×Int×Int×Int×Int×Int×(List aA)×Int×(List aA)) (res:Except (Arr×Int) (List aA)):Prop:=match a with|(f,a_,n,n1,b,outer,step,long,x1,x2,l,n2,c02)=>cL X 131 (aP [1,1,1,1,1,0,1,0,0,1,1,0,0,1,1,0,0,1,1,0,0,1,1,1,1,0,0] (aQ Tryz.f131)) (aJ (X.H 131 17) 19) (aL 4 (X.H 131 1000004) 19 (lW X Tryz.f131 0 wF (λ(c03:(List aA))=>(⟨[(3,.c (.ptr 0 0)),(4,.c (.ptr 1 0)),(6,.c (.ptr 2 0)),(9,.c (.ptr 5 0)),(11,.d (iZ step)),(12,.d (iZ long)),(13,.d (iZ x1)),(45,.d (iZ outer)),(46,.d (iZ x1)),(49,.d (iZ step)),(50,.d (iZ x2))],[(5,[.arr 3 n 1,.arr 4 n1 3]),(2,[oI [],oC []]),(1,[.d (lI a_.shape),.d (lC a_.cells)]),(0,[.d (iZ f.op_),.d (.bool f.turned)]),(3,[.seq 1 (List.map (D.int .i64) b)]),(4,[.seq 3 (List.map aC c03)])],19,[],none⟩:St)) res)) ⟨[(3,.c (.ptr 0 0)),(4,.c (.ptr 1 0)),(6,.c (.ptr 2 0)),(9,.c (.ptr 5 0)),(11,.d (iZ step)),(12,.d (iZ long)),(13,.d (iZ x1)),(15,.d (iZ (w64 ((w64 ((w64 (x1*step))*long))+x2)))),(16,.d (lC l)),(17,.d (iZ n2)),(45,.d (iZ outer)),(46,.d (iZ x1)),(49,.d (iZ step)),(50,.d (iZ x2))],[(5,[.arr 3 n 1,.arr 4 n1 3]),(2,[oI [],oC []]),(1,[.d (lI a_.shape),.d (lC a_.cells)]),(0,[.d (iZ f.op_),.d (.bool f.turned)]),(3,[.seq 1 (List.map (D.int .i64) b)]),(4,[.seq 3 (List.map aC c02)])],19,[],none⟩
instance {a:cC×Arr×Nat×Nat×LI×Int×Int×Int×Int×Int×(List aA)×Int×(List aA)}:Ok (nY a) (Ah9 a):=⟨λh=>nY.partial_correctness Ah9 (by
 rintro P_ IH ⟨f,a_,n,n1,b,outer,step,long,x1,x2,l,n2,c02⟩ res h
 have IH:=Ok.mk' IH
 refine lg I (S_ (S_ (rn 2 I (po (nR I I I I I I I) I I (on 1 I (rz ?_))))))
 rcases E_ h with ⟨hc,h⟩|⟨hc,h⟩
 ·refine ct I hc (K_ (cn I (N_ (S_ (W_ (S_ (drn (m:=31) 4 I I ?_)))))))
  obtain⟨l1,hk,h⟩:=B h
  refine pd (BgT hk I I I I I I) I I I I I ?_
  obtain⟨⟨x3,e1⟩,hk,h⟩:=B h
  have hv:=Ok.ok hk
  refine pd (kJ (hv) I I I I I I I I I) I I I I I (don 6 I (dz (by kernel_rfl) (S_ (ra I ?_))))
  rcases E_ h with ⟨hc,h⟩|⟨hc,h⟩
  ·refine ct I hc (ra I (R_ (C_ (Q_ (aL.ret (Q_ (cD.ret (aL.ret ?_))))))))
   cases h
   exact .err I (.ret I I)
  refine cf I hc (K_ (cn I (N_ (rn 8 I ?_))))
  obtain⟨j,hk,h⟩:=B h
  refine po (Aa1 hk I I I I I) I I ?_
  obtain⟨c,hk,h⟩:=B h
  refine po (est aC (v:=x3) hk I I (λ_=>⟨I,I,I⟩) I I I I) I I (O_ (en I (N_ (rn 3 I (O_ (cD.normal ?_))))))
  have hv:=Ok.ok h
  exact bW I I hv
 ·refine cf I hc (X_ (fW.exit (kW.exit (cD.exit (eh I ?_)))))
  cases h
  exact .ok I
 ) _ _ h⟩
abbrev Ah8 (a:cC×Arr×Nat×Nat×LI×Int×Int×Int×Int×Int×(List aA)) (res:Except (Arr×Int) (List aA)):Prop:=match a with|(f,a_,n,n1,b,outer,step,long,x1,x2,c01)=>cL X 131 (aP [1,1,1,1,1,0,1,0,0,1,1,0,0,1,1,0,0] (aQ Tryz.f131)) (aJ (X.H 131 12) 19) (aL 2 (X.H 131 1000002) 19 (lW X Tryz.f131 0 wF (λ(c04:(List aA))=>(⟨[(3,.c (.ptr 0 0)),(4,.c (.ptr 1 0)),(6,.c (.ptr 2 0)),(9,.c (.ptr 5 0)),(11,.d (iZ step)),(12,.d (iZ long)),(45,.d (iZ outer)),(46,.d (iZ x1))],[(5,[.arr 3 n 1,.arr 4 n1 3]),(2,[oI [],oC []]),(1,[.d (lI a_.shape),.d (lC a_.cells)]),(0,[.d (iZ f.op_),.d (.bool f.turned)]),(3,[.seq 1 (List.map (D.int .i64) b)]),(4,[.seq 3 (List.map aC c04)])],19,[],none⟩:St)) res)) ⟨[(3,.c (.ptr 0 0)),(4,.c (.ptr 1 0)),(6,.c (.ptr 2 0)),(9,.c (.ptr 5 0)),(11,.d (iZ step)),(12,.d (iZ long)),(13,.d (iZ x1)),(45,.d (iZ outer)),(46,.d (iZ x1)),(49,.d (iZ step)),(50,.d (iZ x2))],[(5,[.arr 3 n 1,.arr 4 n1 3]),(2,[oI [],oC []]),(1,[.d (lI a_.shape),.d (lC a_.cells)]),(0,[.d (iZ f.op_),.d (.bool f.turned)]),(3,[.seq 1 (List.map (D.int .i64) b)]),(4,[.seq 3 (List.map aC c01)])],19,[],none⟩
instance {a:cC×Arr×Nat×Nat×LI×Int×Int×Int×Int×Int×(List aA)}:Ok (lO a) (Ah8 a):=⟨λh=>lO.partial_correctness Ah8 (by
 rintro P_ IH ⟨f,a_,n,n1,b,outer,step,long,x1,x2,c01⟩ res h
 have IH:=Ok.mk' IH
 refine lg I (ra I (S_ ?_))
 rcases E_ h with ⟨hc,h⟩|⟨hc,h⟩
 ·refine ct I hc (K_ (cn I (N_ (S_ (W_ (ra I (ra I (S_ (rn 5 I ?_)))))))))
  obtain⟨l,hk,h⟩:=B h
  have hv:=Ok.ok hk
  refine po (kJ (hv) I I I I I I I I I) I I (on 1 I (rz (ra I ?_)))
  obtain⟨res,hs,h⟩:=B h
  refine vI Tryz.f131 0 wF (λ(c03:(List aA))=>(⟨[(3,.c (.ptr 0 0)),(4,.c (.ptr 1 0)),(6,.c (.ptr 2 0)),(9,.c (.ptr 5 0)),(11,.d (iZ step)),(12,.d (iZ long)),(13,.d (iZ x1)),(45,.d (iZ outer)),(46,.d (iZ x1)),(49,.d (iZ step)),(50,.d (iZ x2))],[(5,[.arr 3 n 1,.arr 4 n1 3]),(2,[oI [],oC []]),(1,[.d (lI a_.shape),.d (lC a_.cells)]),(0,[.d (iZ f.op_),.d (.bool f.turned)]),(3,[.seq 1 (List.map (D.int .i64) b)]),(4,[.seq 3 (List.map aC c03)])],19,[],none⟩:St)) (res:=res) ?_ (λy hy=>?_) (λr x s' hr hx he=>?_)
  ·replace h:=hs
   refine W_ (dS ?_)
   have hv:=Ok.ok h
   exact bW I I hv
  ·subst hy
   obtain c03:=y
   refine en I (N_ (rn 2 I (O_ (cD.normal ?_))))
   have hv:=Ok.ok h
   exact bW I I hv
  subst hr
  refine aL.out hx (kW.out hx (cD.out hx (aL.out hx ?_)))
  cases h
  exact .err hx he
 ·refine cf I hc (X_ (fW.exit (kW.exit (cD.exit (eh I ?_)))))
  cases h
  exact .ok I
 ) _ _ h⟩
abbrev Ah7 (a:cC×Arr×Nat×Nat×LI×Int×Int×Int×Int×(List aA)) (res:Except (Arr×Int) (List aA)):Prop:=match a with|(f,a_,n,n1,b,outer,step,long,x1,c0)=>cL X 131 (aP [1,1,1,1,1,0,1,0,0] (aQ Tryz.f131)) (aJ (X.H 131 9) 19) (aL 0 (X.H 131 1000000) 19 (lW X Tryz.f131 0 wF (λ(c05:(List aA))=>(⟨[(6,.c (.ptr 2 0)),(9,.c (.ptr 5 0))],[(5,[.arr 3 n 1,.arr 4 n1 3]),(2,[oI [],oC []]),(1,[.d (lI a_.shape),.d (lC a_.cells)]),(0,[.d (iZ f.op_),.d (.bool f.turned)]),(3,[.seq 1 (List.map (D.int .i64) b)]),(4,[.seq 3 (List.map aC c05)])],19,[],none⟩:St)) res)) ⟨[(3,.c (.ptr 0 0)),(4,.c (.ptr 1 0)),(6,.c (.ptr 2 0)),(9,.c (.ptr 5 0)),(11,.d (iZ step)),(12,.d (iZ long)),(45,.d (iZ outer)),(46,.d (iZ x1))],[(5,[.arr 3 n 1,.arr 4 n1 3]),(2,[oI [],oC []]),(1,[.d (lI a_.shape),.d (lC a_.cells)]),(0,[.d (iZ f.op_),.d (.bool f.turned)]),(3,[.seq 1 (List.map (D.int .i64) b)]),(4,[.seq 3 (List.map aC c0)])],19,[],none⟩
instance {a:cC×Arr×Nat×Nat×LI×Int×Int×Int×Int×(List aA)}:Ok (lM a) (Ah7 a):=⟨λh=>lM.partial_correctness Ah7 (by
 rintro P_ IH ⟨f,a_,n,n1,b,outer,step,long,x1,c0⟩ res h
 have IH:=Ok.mk' IH
 refine lg I (ra I (S_ ?_))
 rcases E_ h with ⟨hc,h⟩|⟨hc,h⟩
 ·refine ct I hc (K_ (cn I (N_ (S_ (W_ (ra I (ra I ?_)))))))
  obtain⟨res,hs,h⟩:=B h
  refine vI Tryz.f131 0 wF (λ(c04:(List aA))=>(⟨[(3,.c (.ptr 0 0)),(4,.c (.ptr 1 0)),(6,.c (.ptr 2 0)),(9,.c (.ptr 5 0)),(11,.d (iZ step)),(12,.d (iZ long)),(45,.d (iZ outer)),(46,.d (iZ x1))],[(5,[.arr 3 n 1,.arr 4 n1 3]),(2,[oI [],oC []]),(1,[.d (lI a_.shape),.d (lC a_.cells)]),(0,[.d (iZ f.op_),.d (.bool f.turned)]),(3,[.seq 1 (List.map (D.int .i64) b)]),(4,[.seq 3 (List.map aC c04)])],19,[],none⟩:St)) (res:=res) ?_ (λy hy=>?_) (λr x s' hr hx he=>?_)
  ·replace h:=hs
   refine W_ (dS ?_)
   have hv:=Ok.ok h
   exact bW I I hv
  ·subst hy
   obtain c04:=y
   refine en I (N_ (rn 2 I (O_ (cD.normal ?_))))
   have hv:=Ok.ok h
   exact bW I I hv
  subst hr
  refine aL.out hx (kW.out hx (cD.out hx (aL.out hx ?_)))
  cases h
  exact .err hx he
 ·refine cf I hc (X_ (fW.exit (kW.exit (cD.exit (eh I ?_)))))
  cases h
  exact .ok I
 ) _ _ h⟩
instance {f:cC} {a_:Arr} {last:Bool}:Ok (wN f a_ last) λr=>bF X 131 [.d (rZ f),.d (aI a_),.d (.bool last)] [] (aF.ret (.tuple [.d (aI r.1),.d (iZ r.2)]) []):=⟨λ{r} h=>by
 unfold wN at h
 refine kM (tm:=[(0,.d (rZ f)),(1,.d (aI a_)),(2,.d (.bool last))]) (hp:=[]) (n:=0) I Tryz.func131 I I I I I I (ra (nid':=3) I (S_ (S_ (rn 2 I (po (Bj8 (show V.c (.full 2 [aI a_])=V.c (.full 2 (List.map aH [a_])) from by simp only[List.map_cons,List.map_nil,qU]) (Aa3 I)) I I ?_)))))
 obtain⟨e,hk,h⟩:=B h
 have hv:=Ok.ok hk
 refine po (kJ (hv) I I I I I I I I I) I I (on 1 I (rz (ra I ?_)))
 rcases E_ h with ⟨hc,h⟩|⟨hc,h⟩
 ·refine ct I hc (ra I (R_ (C_ (Q_ ?_))))
  cases h
  exact .ret I I
 ·refine cf I hc (K_ (cn I (N_ (S_ (rnM (tm0:=[(25,.d (.bool (e != 0))),(24,.d (iZ e)),(2,.d (.bool last)),(3,.c (.ptr 0 0)),(4,.c (.ptr 1 0)),(6,.c (.ptr 2 0)),(8,.d (iZ e))]) (hp0:=[(2,[oI [],oC []]),(1,[.d (lI a_.shape),.d (lC a_.cells)]),(0,[.d (iZ f.op_),.d (.bool f.turned)])]) (nid0:=3) I I I (mo (.of λ_=>I) I (λ_=>I) (s2:=⟨[(28,.d (aI a_)),(2,.d (.bool last)),(3,.c (.ptr 0 0)),(4,.c (.ptr 1 0)),(6,.c (.ptr 2 0))],[(2,[oI [],oC []]),(1,[.d (lI a_.shape),.d (lC a_.cells)]),(0,[.d (iZ f.op_),.d (.bool f.turned)])],3,[],none⟩) I ?_))))))
  obtain⟨⟨n,n1,b,b1⟩,hk,h⟩:=B h
  have hv:=Ok.ok hk
  refine mv (nid':=5) (hv) I I I I I I I I I I I  (s2:=⟨[(29,.vagg [.arr 3 n 1,.arr 4 n1 3]),(28,.d (aI a_)),(2,.d (.bool last)),(3,.c (.ptr 0 0)),(4,.c (.ptr 1 0)),(6,.c (.ptr 2 0))],[(2,[oI [],oC []]),(1,[.d (lI a_.shape),.d (lC a_.cells)]),(0,[.d (iZ f.op_),.d (.bool f.turned)]),(3,[.seq 1 (List.map (D.int .i64) b)]),(4,[.seq 3 (List.map aC b1)])],5,[],none⟩) I (mo (.of λ_=>I) I (λ_=>I) (s2:=⟨[(9,.c (.ptr 5 0)),(29,.vagg [.arr 3 n 1,.arr 4 n1 3]),(28,.d (aI a_)),(2,.d (.bool last)),(3,.c (.ptr 0 0)),(4,.c (.ptr 1 0)),(6,.c (.ptr 2 0))],[(5,[oI [],oC []]),(2,[oI [],oC []]),(1,[.d (lI a_.shape),.d (lC a_.cells)]),(0,[.d (iZ f.op_),.d (.bool f.turned)]),(3,[.seq 1 (List.map (D.int .i64) b)]),(4,[.seq 3 (List.map aC b1)])],6,[],none⟩) I (mo (.of λ_=>I) I (λ_=>I) (s2:=⟨[(9,.c (.ptr 5 0)),(29,.vagg [.arr 3 n 1,.arr 4 n1 3]),(28,.d (aI a_)),(2,.d (.bool last)),(3,.c (.ptr 0 0)),(4,.c (.ptr 1 0)),(6,.c (.ptr 2 0))],[(5,[.arr 3 n 1,.arr 4 n1 3]),(2,[oI [],oC []]),(1,[.d (lI a_.shape),.d (lC a_.cells)]),(0,[.d (iZ f.op_),.d (.bool f.turned)]),(3,[.seq 1 (List.map (D.int .i64) b)]),(4,[.seq 3 (List.map aC b1)])],6,[],none⟩) I (mz (N_ (S_ (S_ (rn 2 I (po (nR I I I I I I I) I I (on 1 I (rz ?_))))))))))
  rcases E_ h with ⟨hc,h⟩|⟨hc,h⟩
  ·refine ct I hc (ra I (R_ (C_ (Q_ ?_))))
   obtain⟨cells,hkFcells,h⟩:=B h
   obtain⟨shape,hkFshape,h⟩:=B h
   cases h
   exact .retF I I (AcM I I I (mO (jA aC I hkFcells I I I) (mO (jA (D.int .i64) I hkFshape I I I) AcO)) (ApJ AgP)) I
  ·refine cf I hc (K_ (cn I (N_ (S_ (drn (m:=19) 4 I I ?_)))))
   obtain⟨x,hk,h⟩:=B h
   have hv:=Ok.ok hk
   refine pd (kJ (hv) I I I I I I I I I) I I I I I ?_
   obtain⟨⟨outer,step,long⟩,hk,h⟩:=B h
   have hv:=Ok.ok hk
   refine pd (kJ (hv) I I I I I I I I I) I I I I I (don 7 I (dz (by kernel_rfl) (S_ (ra I ?_))))
   obtain⟨res,hs,h⟩:=B h
   refine vI Tryz.f131 0 wF (λ(c05:(List aA))=>(⟨[(6,.c (.ptr 2 0)),(9,.c (.ptr 5 0))],[(5,[.arr 3 n 1,.arr 4 n1 3]),(2,[oI [],oC []]),(1,[.d (lI a_.shape),.d (lC a_.cells)]),(0,[.d (iZ f.op_),.d (.bool f.turned)]),(3,[.seq 1 (List.map (D.int .i64) b)]),(4,[.seq 3 (List.map aC c05)])],19,[],none⟩:St)) (res:=res) ?_ (λy hy=>?_) (λr x s' hr hx he=>?_)
   ·replace h:=hs
    refine W_ (dS ?_)
    have hv:=Ok.ok h
    exact bW I I hv
   ·subst hy
    obtain c05:=y
    refine N_ (ra I (R_ ?_))
    obtain⟨cells1,hkFcells1,h⟩:=B h
    obtain⟨shape1,hkFshape1,h⟩:=B h
    cases h
    exact .retF I I (AcM I I I (mO (jA aC I hkFcells1 I I I) (mO (jA (D.int .i64) I hkFshape1 I I I) AcO)) (ApJ AgP)) I
   ·subst hr
    refine kW.out hx ?_
    cases h
    exact he
 ⟩
abbrev wZ (c:aG) (r:Bool×Int×Int):aF:=(aF.ret (.d (.bool r.1)) [[.d (iZ r.2.1),.d (iZ r.2.2),.d (iZ c.cells)]])
instance {n:Int} {c:aG}:Ok (nA n c) λr=>bF X 127 [.ptr 0 0,.d (iZ n)] [[.d (iZ c.fuel.left),.d (iZ c.fuel.used),.d (iZ c.cells)]] ((wZ c) r):=⟨λh=>by
 unfold nA at h
 exact aB (wZ c) I Tryz.func127 I I I I I I λiE=>Wk⟩
abbrev AbJ (m:aG) (r:Int×Int×Int):aF:=(aF.ret (.d (iZ r.1)) [[.d (iZ r.2.1),.d (iZ r.2.2),.d (iZ m.cells)]])
instance {m:aG}:Ok (fH m) λr=>bF X 55 [.ptr 0 0] [[.d (iZ m.fuel.left),.d (iZ m.fuel.used),.d (iZ m.cells)]] ((AbJ m) r):=⟨λh=>by
 unfold fH at h
 exact aB (AbJ m) I Tryz.func55 I I I I I I λiE=>Wk⟩
abbrev AsG (r:Int×Int):aF:=(aF.ret (.tuple [.d (iZ r.1),.d (iZ r.2)]) [])
instance {a_:Int}:Ok (Ab0 a_) λr=>bF X 145 [.d (iZ a_)] [] (AsG r):=⟨λh=>by
 unfold Ab0 at h
 exact aB AsG I Tryz.func145 I I I I I I λiE=>Wk⟩
abbrev AsD (r:Int×Int):aF:=(aF.ret (.tuple [.d (iZ r.1),.d (iZ r.2)]) [])
instance {a_:Int}:Ok (AiD a_) λr=>bF X 147 [.d (iZ a_)] [] (AsD r):=⟨λh=>by
 unfold AiD at h
 exact aB AsD I Tryz.func147 I I I I I I λiE=>Wk⟩
abbrev AsI (r:Int):aF:=(aF.ret (.d (iZ r)) [])
instance {a_:Int}:Ok (AiE a_) λr=>bF X 146 [.d (iZ a_)] [] (AsI r):=⟨λh=>by
 unfold AiE at h
 exact aB AsI I Tryz.func146 I I I I I I λiE=>Wk⟩
abbrev AkT (r:Int×Int):aF:=(aF.ret (.tuple [.d (iZ r.1),.d (iZ r.2)]) [])
instance {op_:Int} {n:Int}:Ok (xS op_ n) λr=>bF X 72 [.d (iZ op_),.d (iZ n)] [] (AkT r):=⟨λh=>by
 unfold xS at h
 exact aB AkT I Tryz.func72 I I I I I I λiE=>Wk⟩
abbrev AcG (r:Arr×Int):aF:=(aF.ret (.tuple [.d (aI r.1),.d (iZ r.2)]) [])
instance BgC:Jn 38 1 20 (Bool):=⟨λy=>[(20,.d (.bool y))],λy=>[]⟩
abbrev Ah5 (a:Int×Arr×LI×Int×(List aA)) (res:Except (Arr×Int) (List aA)):Prop:=match a with|(op_,a_,l,x1,out1)=>cL X 38 (aP [1,1,1,1,0,1,0,0] (aQ Tryz.f38)) (aJ (X.H 38 14) 3) (aL 1 (X.H 38 1000001) 3 (lW X Tryz.f38 0 AcG (λ(out11:(List aA))=>(⟨[(4,.c (.ptr 1 0)),(7,.c (.ptr 2 0))],[(2,[.d (lI l),oC out11]),(1,[oI [],oC []]),(0,[.d (lI a_.shape),.d (lC a_.cells)])],3,[],none⟩:St)) res)) ⟨[(0,.d (iZ op_)),(4,.c (.ptr 1 0)),(7,.c (.ptr 2 0)),(33,.d (lC a_.cells)),(34,.d (iZ (List.length a_.cells:Int))),(35,.d (iZ x1))],[(2,[.d (lI l),oC out1]),(1,[oI [],oC []]),(0,[.d (lI a_.shape),.d (lC a_.cells)])],3,[],none⟩
instance {a:Int×Arr×LI×Int×(List aA)}:Ok (nV a) (Ah5 a):=⟨λh=>nV.partial_correctness Ah5 (by
 rintro P_ IH ⟨op_,a_,l,x1,out1⟩ res h
 have IH:=Ok.mk' IH
 have iE:fF Tryz.f38 0 _ AcG:=⟨trivial⟩
 refine lg I ?_
 exact Wk) _ _ h⟩
instance {op_:Int} {a_:Arr}:Ok (tF op_ a_) λr=>bF X 38 [.d (iZ op_),.d (aI a_)] [] (AcG r):=⟨λh=>by
 unfold tF at h
 exact aB AcG I Tryz.func38 I I I I I I λiE=>Wk⟩
abbrev ApE (r:Arr):aF:=(aF.ret (.d (aI r)) [])
instance {n:Int}:Ok (Af8 n) λr=>bF X 77 [.d (iZ n)] [] (ApE r):=⟨λh=>by
 unfold Af8 at h
 exact aB ApE I Tryz.func77 I I I I I I λiE=>Wk⟩
abbrev AjO (r:Int):aF:=(aF.ret (.d (iZ r)) [])
instance Bh9:Jn 81 0 1 (Int):=⟨λy=>[(3,.d (iZ y))],λy=>[]⟩
abbrev AdL (a:Arr×Int×Int) (res:Int):Prop:=match a with|(a_,n,x)=>cL X 81 (aP [1,1,0,1,0,0] (aQ Tryz.f81)) (aJ (X.H 81 3) 1) (aL 0 (X.H 81 1000000) 1 (iL (λ(n2:Int)=>(⟨[(3,.d (iZ n2))],[(0,[.d (lI a_.shape),.d (lC a_.cells)])],1,[],none⟩:St)) res)) ⟨[(3,.d (iZ n)),(7,.d (lC a_.cells)),(8,.d (iZ (List.length a_.cells:Int))),(9,.d (iZ x))],[(0,[.d (lI a_.shape),.d (lC a_.cells)])],1,[],none⟩
abbrev AjZ (a:Arr) (res:Int):Prop:=match a with|a_=>bF X 81 [.d (aI a_)] [] (AjO res)
theorem Ad4:(∀a res,kZ a=some res->AdL a res)/\(∀a res,vW a=some res->AjZ a res):=by
 refine kZ.mutual_partial_correctness (motive_1:=AdL) (motive_2:=AjZ) ?_ ?_
 ·rintro P0 P1 I0 I1 ⟨a_,n,x⟩ res h
  have I0:=Ok.mk' I0
  have I1:=Ok.mk' I1
  refine lg I ?_
  have iE:fF Tryz.f81 0 _ AjO:=⟨trivial⟩
  exact Wk
 rintro P0 I0 a_ res h
 have I0:=Ok.mk' I0
 exact aB AjO I Tryz.func81 I I I I I I λiE=>Wk
instance {a:Arr×Int×Int}:Ok (kZ a) (AdL a):=⟨λh=>Ad4.1 a _ h⟩
instance {a:Arr}:Ok (vW a) (AjZ a):=⟨λh=>Ad4.2 a _ h⟩
abbrev AgH (r:Arr×Int):aF:=(aF.ret (.tuple [.d (aI r.1),.d (iZ r.2)]) [])
instance {a_:Arr}:Ok (tH a_) λr=>bF X 83 [.d (aI a_)] [] (AgH r):=⟨λh=>by
 unfold tH at h
 exact aB AgH I Tryz.func83 I I I I I I λiE=>Wk⟩
abbrev AaF (a:Arr×Nat×LI×Int×LI×(List aA)×Int×Int) (res:Int):Prop:=match a with|(a_,x,x1,x2,at_1,out1,n,x3)=>cL X 80 (aP [1,0,1,1,1,1,0,1,0,0,1,1,0,0,1,0,1,0,0] (aQ Tryz.f80)) (aJ (X.H 80 8) 5) (aL 2 (X.H 80 1000002) 5 (iL (λ(n1:Int)=>(⟨[(1,.c (.ptr 0 0)),(2,.c (.ptr 1 0)),(3,.c (.ptr 3 0)),(4,.c (.arr 4 (Int.toNat (x:Int)) 1)),(5,.d (iZ n1)),(21,.d (iZ (List.length a_.cells:Int))),(22,.d (iZ x2))],[(4,[.seq 1 (List.map (D.int .i64) at_1)]),(3,[.arr 2 x 1,oC out1]),(1,[oI [],oC []]),(0,[.d (lI a_.shape),.d (lC a_.cells)]),(2,[.seq 1 (List.map (D.int .i64) x1)])],5,[],none⟩:St)) res)) ⟨[(1,.c (.ptr 0 0)),(2,.c (.ptr 1 0)),(3,.c (.ptr 3 0)),(4,.c (.arr 4 (Int.toNat (x:Int)) 1)),(5,.d (iZ n)),(21,.d (iZ (List.length a_.cells:Int))),(22,.d (iZ x2)),(25,.d (iZ ((Int.toNat (x:Int)):Int))),(26,.d (iZ x3))],[(4,[.seq 1 (List.map (D.int .i64) at_1)]),(3,[.arr 2 x 1,oC out1]),(1,[oI [],oC []]),(0,[.d (lI a_.shape),.d (lC a_.cells)]),(2,[.seq 1 (List.map (D.int .i64) x1)])],5,[],none⟩
instance {a:Arr×Nat×LI×Int×LI×(List aA)×Int×Int}:Ok (gX a) (AaF a):=⟨λh=>gX.partial_correctness AaF (by
 rintro P_ IH ⟨a_,x,x1,x2,at_1,out1,n,x3⟩ res h
 have IH:=Ok.mk' IH
 refine lg I (ra I (S_ ?_))
 rcases E_ h with ⟨hc,h⟩|⟨hc,h⟩
 ·refine ct I hc (K_ (cn I (N_ (S_ (W_ (ra I (drn (m:=22) 4 I I ?_)))))))
  obtain⟨y,hk,h⟩:=B h
  refine pd (nQ (D.int .i64) (λ_=>I) hk I I I I I) I I I I I (don 8 I ?_)
  obtain⟨j,hk,h⟩:=B h
  refine pd (Aa1 hk I I I I I) I I I I I ?_
  obtain⟨y1,hk,h⟩:=B h
  refine pd (ApK (D.int .i64) hk I I (λ_=>⟨I,I,I⟩) I I) I I I I I (don 2 I (dz' (by kernel_rfl) (en I (N_ (rn 2 I (O_ (cD.normal ?_)))))))
  have hv:=Ok.ok h
  exact bW I I hv
 ·refine cf I hc (X_ (fW.exit (kW.exit (cD.exit (eh I ?_)))))
  cases h
  exact .ok I
 ) _ _ h⟩
abbrev AaG (a:Arr×Nat×LI×Int×(List aA)×Int×LI) (res:Except LI LI):Prop:=match a with|(a_,x,x1,x2,l,i,at_2)=>cL X 80 (aP [1,0,1,1,1,1,0,1,0,0,1,1,0,0,1,1,1,1,0,0] (aQ Tryz.f80)) (aJ (X.H 80 14) 16) (aL 4 (X.H 80 1000004) 16 (Bc1 1 (X.H 80 1000001) 5 (λ(at_6:LI)=>(⟨[(1,.c (.ptr 0 0)),(2,.c (.ptr 1 0)),(3,.c (.ptr 3 0)),(4,.c (.arr 4 (Int.toNat (x:Int)) 1)),(21,.d (iZ (List.length a_.cells:Int))),(22,.d (iZ x2))],[(4,[.seq 1 (List.map (D.int .i64) at_6)]),(3,[.arr 2 x 1,oC l]),(1,[oI [],oC []]),(0,[.d (lI a_.shape),.d (lC a_.cells)]),(2,[.seq 1 (List.map (D.int .i64) x1)])],5,[],none⟩:St)) (λ(at_5:LI)=>(⟨[(1,.c (.ptr 0 0)),(2,.c (.ptr 1 0)),(3,.c (.ptr 3 0)),(4,.c (.arr 4 (Int.toNat (x:Int)) 1)),(21,.d (iZ (List.length a_.cells:Int))),(22,.d (iZ x2))],[(4,[.seq 1 (List.map (D.int .i64) at_5)]),(3,[.arr 2 x 1,oC l]),(1,[oI [],oC []]),(0,[.d (lI a_.shape),.d (lC a_.cells)]),(2,[.seq 1 (List.map (D.int .i64) x1)])],16,[],none⟩:St)) res)) ⟨[(1,.c (.ptr 0 0)),(2,.c (.ptr 1 0)),(3,.c (.ptr 3 0)),(4,.c (.arr 4 (Int.toNat (x:Int)) 1)),(7,.d (iZ i)),(21,.d (iZ (List.length a_.cells:Int))),(22,.d (iZ x2))],[(4,[.seq 1 (List.map (D.int .i64) at_2)]),(3,[.arr 2 x 1,oC l]),(1,[oI [],oC []]),(0,[.d (lI a_.shape),.d (lC a_.cells)]),(2,[.seq 1 (List.map (D.int .i64) x1)])],16,[],none⟩
instance {a:Arr×Nat×LI×Int×(List aA)×Int×LI}:Ok (gY a) (AaG a):=⟨λh=>gY.partial_correctness AaG (by
 rintro P_ IH ⟨a_,x,x1,x2,l,i,at_2⟩ res h
 have IH:=Ok.mk' IH
 refine lg I (S_ (ra I ?_))
 rcases E_ h with ⟨hc,h⟩|⟨hc,h⟩
 ·refine ct I hc (K_ (cn I (N_ (S_ (W_ (S_ (S_ (rn 2 I ?_))))))))
  obtain⟨j1,hk,h⟩:=B h
  refine po (Aa1 hk I I I I I) I I ?_
  obtain⟨y3,hk,h⟩:=B h
  refine po (ApK (D.int .i64) hk I I (λ_=>⟨I,I,I⟩) I I) I I (on 1 I ?_)
  obtain⟨j2,hk,h⟩:=B h
  refine po (Aa1 hk I I I I I) I I ?_
  obtain⟨at_3,hk,h⟩:=B h
  refine po (est (D.int .i64) (v:=(w64 (y3+1))) hk I I (λ_=>⟨I,I,I⟩) I I I I) I I (rz (S_ (drn (m:=26) 2 I I ?_)))
  obtain⟨j3,hk,h⟩:=B h
  refine pd (Aa1 hk I I I I I) I I I I I ?_
  obtain⟨y4,hk,h⟩:=B h
  refine pd (ApK (D.int .i64) hk I I (λ_=>⟨I,I,I⟩) I I) I I I I I (don 3 I ?_)
  obtain⟨j4,hk,h⟩:=B h
  refine pd (Aa1 hk I I I I I) I I I I I ?_
  obtain⟨y5,hk,h⟩:=B h
  refine pd (ApK (D.int .i64) hk I I (λ_=>⟨I,I,I⟩) I I) I I I I I (don 1 I (dz (by kernel_rfl) ?_))
  rcases E_ h with ⟨hc,h⟩|⟨hc,h⟩
  ·refine ct I hc (X_ (fW.exit (kW.exit (aL.there I (kW.exit (cD.exit (aL.there I ?_)))))))
   cases h
   exact ex1 I I
  refine cf I hc (K_ (cn I (N_ (rn 2 I ?_))))
  obtain⟨j5,hk,h⟩:=B h
  refine po (Aa1 hk I I I I I) I I ?_
  obtain⟨at_4,hk,h⟩:=B h
  refine po (est (D.int .i64) (v:=0) hk I I (λ_=>⟨I,I,I⟩) I I I I) I I (O_ (en I (N_ (rn 3 I (O_ (cD.normal ?_))))))
  have hv:=Ok.ok h
  exact bW I I hv
 ·refine cf I hc (X_ (fW.exit (kW.exit (cD.exit (eh I ?_)))))
  cases h
  exact .ok I
 ) _ _ h⟩
abbrev AaE (a:Arr×Nat×LI×Int×LI×(List aA)) (res:LI×(List aA)):Prop:=match a with|(a_,x,x1,x2,at_1,out1)=>cL X 80 (aP [1,0,1,1,1,1,0,1,0,0] (aQ Tryz.f80)) (aJ (X.H 80 5) 5) (aL 0 (X.H 80 1000000) 5 (iL (λ((c0,out12):LI×(List aA))=>(⟨[(2,.c (.ptr 1 0)),(3,.c (.ptr 3 0))],[(4,[.seq 1 (List.map (D.int .i64) c0)]),(3,[.arr 2 x 1,oC out12]),(1,[oI [],oC []]),(0,[.d (lI a_.shape),.d (lC a_.cells)]),(2,[.seq 1 (List.map (D.int .i64) x1)])],5,[],none⟩:St)) res)) ⟨[(1,.c (.ptr 0 0)),(2,.c (.ptr 1 0)),(3,.c (.ptr 3 0)),(4,.c (.arr 4 (Int.toNat (x:Int)) 1)),(21,.d (iZ (List.length a_.cells:Int))),(22,.d (iZ x2))],[(4,[.seq 1 (List.map (D.int .i64) at_1)]),(3,[.arr 2 x 1,oC out1]),(1,[oI [],oC []]),(0,[.d (lI a_.shape),.d (lC a_.cells)]),(2,[.seq 1 (List.map (D.int .i64) x1)])],5,[],none⟩
instance {a:Arr×Nat×LI×Int×LI×(List aA)}:Ok (fO a) (AaE a):=⟨λh=>fO.partial_correctness AaE (by
 rintro P_ IH ⟨a_,x,x1,x2,at_1,out1⟩ res h
 have IH:=Ok.mk' IH
 refine lg I (ra I (S_ ?_))
 rcases E_ h with ⟨hc,h⟩|⟨hc,h⟩
 ·refine ct I hc (K_ (cn I (N_ (S_ ?_))))
  obtain⟨⟨at_7,out11⟩,hs,h⟩:=B h
  refine gI (λ((at_7,out11):LI×(List aA))=>(⟨[(1,.c (.ptr 0 0)),(2,.c (.ptr 1 0)),(3,.c (.ptr 3 0)),(4,.c (.arr 4 (Int.toNat (x:Int)) 1)),(21,.d (iZ (List.length a_.cells:Int))),(22,.d (iZ x2))],[(4,[.seq 1 (List.map (D.int .i64) at_7)]),(3,[.arr 2 x 1,oC out11]),(1,[oI [],oC []]),(0,[.d (lI a_.shape),.d (lC a_.cells)]),(2,[.seq 1 (List.map (D.int .i64) x1)])],5,[],none⟩:St)) (y:=(at_7,out11)) ?_ ?_
  ·replace h:=hs
   refine W_ (ra I (S_ (ra I ?_)))
   obtain⟨n1,hs,h⟩:=B h
   refine gI (λ(n1:Int)=>(⟨[(1,.c (.ptr 0 0)),(2,.c (.ptr 1 0)),(3,.c (.ptr 3 0)),(4,.c (.arr 4 (Int.toNat (x:Int)) 1)),(5,.d (iZ n1)),(21,.d (iZ (List.length a_.cells:Int))),(22,.d (iZ x2))],[(4,[.seq 1 (List.map (D.int .i64) at_1)]),(3,[.arr 2 x 1,oC out1]),(1,[oI [],oC []]),(0,[.d (lI a_.shape),.d (lC a_.cells)]),(2,[.seq 1 (List.map (D.int .i64) x1)])],5,[],none⟩:St)) (y:=n1) ?_ ?_
   ·replace h:=hs
    refine W_ (dS ?_)
    have hv:=Ok.ok h
    exact bW I I hv
   refine N_ (S_ (drn (m:=16) 5 I I ?_))
   obtain⟨y2,hk,h⟩:=B h
   refine pd (nQ aC (λ_=>I) hk I I I I I) I I I I I (don 2 I ?_)
   obtain⟨l,hk,h⟩:=B h
   refine pd (AgO hk I I I I I I I I I I I I I I ) I I I I I (don 2 I (dz (by kernel_rfl) (ra I ?_)))
   obtain⟨res,hs,h⟩:=B h
   refine BaT 1 (X.H 80 1000001) 5 (λ(at_6:LI)=>(⟨[(1,.c (.ptr 0 0)),(2,.c (.ptr 1 0)),(3,.c (.ptr 3 0)),(4,.c (.arr 4 (Int.toNat (x:Int)) 1)),(21,.d (iZ (List.length a_.cells:Int))),(22,.d (iZ x2))],[(4,[.seq 1 (List.map (D.int .i64) at_6)]),(3,[.arr 2 x 1,oC l]),(1,[oI [],oC []]),(0,[.d (lI a_.shape),.d (lC a_.cells)]),(2,[.seq 1 (List.map (D.int .i64) x1)])],5,[],none⟩:St)) (λ(at_5:LI)=>(⟨[(1,.c (.ptr 0 0)),(2,.c (.ptr 1 0)),(3,.c (.ptr 3 0)),(4,.c (.arr 4 (Int.toNat (x:Int)) 1)),(21,.d (iZ (List.length a_.cells:Int))),(22,.d (iZ x2))],[(4,[.seq 1 (List.map (D.int .i64) at_5)]),(3,[.arr 2 x 1,oC l]),(1,[oI [],oC []]),(0,[.d (lI a_.shape),.d (lC a_.cells)]),(2,[.seq 1 (List.map (D.int .i64) x1)])],16,[],none⟩:St)) (res:=res) ?_ (λy hy=>?_) (λy s' hy hS=>?_)
   ·replace h:=hs
    refine W_ (dS ?_)
    have hv:=Ok.ok h
    exact bW I I hv
   ·subst hy
    obtain at_5:=y
    refine en I ?_
    cases h
    exact .ok I
   subst hy
   obtain at_6:=y
   refine aL.here hS ?_
   cases h
   exact .ok I
  refine N_ (rn 2 I (O_ (cD.normal ?_)))
  have hv:=Ok.ok h
  exact bW I I hv
 ·refine cf I hc (X_ (fW.exit (kW.exit (cD.exit (eh I ?_)))))
  cases h
  exact .ok I
 ) _ _ h⟩
instance {a_:Arr}:Ok (qH a_) λr=>bF X 80 [.d (aI a_)] [] (aF.ret (.d (aI r)) []):=⟨λ{r} h=>by
 unfold qH at h
 refine kM (tm:=[(0,.d (aI a_))]) (hp:=[]) (n:=0) I Tryz.func80 I I I I I I (ra (nid':=2) I (As4 (S_ (rn 2 I ?_))))
 obtain⟨⟨x,b⟩,hk,h⟩:=B h
 have hv:=Ok.ok hk
 refine po (AbN (nid':=3) (hv) I I I I I I I I I I I I) I I (on (nid':=4) 3 I (rz (S_ (rn 2 I ?_))))
 obtain⟨x1,hk,h⟩:=B h
 have hv:=Ok.ok hk
 refine po (AbN (nid':=4) (hv) I I I I I I I I I I I I) I I (rz (S_ (rn 3 I ?_)))
 obtain⟨at_,hk,h⟩:=B h
 refine po (Am7 (nid':=5) (D.int .i64) 0 hk I I I I I I I I I I I I ) I I (on (nid':=5) 1 I (rz (S_ (As3 (N_ (S_ (S_ (rn 2 I (po (nR I I I I I I I) I I (on 1 I (rz ?_)))))))))))
 obtain⟨⟨c0,out12⟩,hs,h⟩:=B h
 refine gI (λ((c0,out12):LI×(List aA))=>(⟨[(2,.c (.ptr 1 0)),(3,.c (.ptr 3 0))],[(4,[.seq 1 (List.map (D.int .i64) c0)]),(3,[.arr 2 x 1,oC out12]),(1,[oI [],oC []]),(0,[.d (lI a_.shape),.d (lC a_.cells)]),(2,[.seq 1 (List.map (D.int .i64) x1)])],5,[],none⟩:St)) (y:=(c0,out12)) ?_ ?_
 ·replace h:=hs
  refine W_ (dS ?_)
  have hv:=Ok.ok h
  exact bW I I hv
 ·refine N_ (ra I (R_ ?_))
  obtain⟨shape,hkFshape,h⟩:=B h
  cases h
  exact .retF I I (AcM I I I (mO I (mO (jA (D.int .i64) I hkFshape I I I) AcO)) AgP) I
 ⟩
abbrev AbH (r:Arr×Int):aF:=(aF.ret (.tuple [.d (aI r.1),.d (iZ r.2)]) [])
abbrev AcY (a:Arr×aA×Int×Int×(List aA)) (res:(List aA)):Prop:=match a with|(a_,y3,y4,x,out1)=>cL X 76 (aP [1,1,1,0,1,0,0] (aQ Tryz.f76)) (aJ (X.H 76 9) 3) (aL 1 (X.H 76 1000001) 3 (iL (λ(out11:(List aA))=>(⟨[(2,.c (.ptr 1 0)),(4,.c (.ptr 2 0))],[(2,[oI [y3.n],oC out11]),(1,[oI [],oC []]),(0,[.d (lI a_.shape),.d (lC a_.cells)])],3,[],none⟩:St)) res)) ⟨[(2,.c (.ptr 1 0)),(4,.c (.ptr 2 0)),(46,.d (iZ y4)),(47,.d (iZ x))],[(2,[oI [y3.n],oC out1]),(1,[oI [],oC []]),(0,[.d (lI a_.shape),.d (lC a_.cells)])],3,[],none⟩
instance {a:Arr×aA×Int×Int×(List aA)}:Ok (jW a) (AcY a):=⟨λh=>jW.partial_correctness AcY (by
 rintro P_ IH ⟨a_,y3,y4,x,out1⟩ res h
 have IH:=Ok.mk' IH
 have iE:fF Tryz.f76 0 _ AbH:=⟨trivial⟩
 refine lg I ?_
 exact Wk) _ _ h⟩
instance {a_:Arr}:Ok (tI a_) λr=>bF X 76 [.d (aI a_)] [] (AbH r):=⟨λh=>by
 unfold tI at h
 exact aB AbH I Tryz.func76 I I I I I I λiE=>Wk⟩
abbrev AiS (r:Arr×Int):aF:=(aF.ret (.tuple [.d (aI r.1),.d (iZ r.2)]) [])
instance {a_:Arr}:Ok (uW a_) λr=>bF X 82 [.d (aI a_)] [] (AiS r):=⟨λh=>by
 unfold uW at h
 exact aB AiS I Tryz.func82 I I I I I I λiE=>Wk⟩
abbrev AgI (r:Int):aF:=(aF.ret (.d (iZ r)) [])
instance {a_:Arr}:Ok (tJ a_) λr=>bF X 78 [.d (aI a_)] [] (AgI r):=⟨λh=>by
 unfold tJ at h
 exact aB AgI I Tryz.func78 I I I I I I λiE=>Wk⟩
abbrev rP (r:Arr):aF:=(aF.ret (.d (aI r)) [])
abbrev AbT (a:Arr×Int×LI×Int×Int) (res:Int):Prop:=match a with|(a_,axis,l,inner,x)=>cL X 79 (aP [1,1,1,0,1,0,0] (aQ Tryz.f79)) (aJ (X.H 79 5) 2) (aL 0 (X.H 79 1000000) 2 (iL (λ(inner1:Int)=>(⟨[(1,.d (iZ axis)),(2,.c (.ptr 0 0)),(4,.c (.ptr 1 0)),(5,.d (iZ inner1))],[(1,[oI [],oC []]),(0,[.d (lI a_.shape),.d (lC a_.cells)])],2,[],none⟩:St)) res)) ⟨[(1,.d (iZ axis)),(2,.c (.ptr 0 0)),(4,.c (.ptr 1 0)),(5,.d (iZ inner)),(21,.d (lI l)),(22,.d (iZ (List.length l:Int))),(23,.d (iZ x))],[(1,[oI [],oC []]),(0,[.d (lI a_.shape),.d (lC a_.cells)])],2,[],none⟩
instance {a:Arr×Int×LI×Int×Int}:Ok (iP a) (AbT a):=⟨λh=>iP.partial_correctness AbT (by
 rintro P_ IH ⟨a_,axis,l,inner,x⟩ res h
 have IH:=Ok.mk' IH
 have iE:fF Tryz.f79 0 _ rP:=⟨trivial⟩
 refine lg I ?_
 exact Wk) _ _ h⟩
abbrev AbV (a:Arr×Int×Int×Int×(List aA)×Int) (res:(List aA)):Prop:=match a with|(a_,inner1,d1,at_,out1,i)=>cL X 79 (aP [1,1,1,1,1,1,0,1,0,0,1,0,0,1,0,0] (aQ Tryz.f79)) (aJ (X.H 79 15) 2) (aL 4 (X.H 79 1000004) 2 (iL (λ(out3:(List aA))=>(⟨[(2,.c (.ptr 0 0)),(4,.c (.ptr 1 0)),(5,.d (iZ inner1)),(8,.d (iZ d1)),(9,.c (.own 3 (List.map aC out3))),(10,.d (iZ at_))],[(1,[oI [],oC []]),(0,[.d (lI a_.shape),.d (lC a_.cells)])],2,[],none⟩:St)) res)) ⟨[(2,.c (.ptr 0 0)),(4,.c (.ptr 1 0)),(5,.d (iZ inner1)),(8,.d (iZ d1)),(9,.c (.own 3 (List.map aC out1))),(10,.d (iZ at_)),(11,.d (iZ i))],[(1,[oI [],oC []]),(0,[.d (lI a_.shape),.d (lC a_.cells)])],2,[],none⟩
instance {a:Arr×Int×Int×Int×(List aA)×Int}:Ok (iQ a) (AbV a):=⟨λh=>iQ.partial_correctness AbV (by
 rintro P_ IH ⟨a_,inner1,d1,at_,out1,i⟩ res h
 have IH:=Ok.mk' IH
 have iE:fF Tryz.f79 0 _ rP:=⟨trivial⟩
 refine lg I ?_
 exact Wk) _ _ h⟩
abbrev AbU (a:Arr×Int×Int×(List aA)×Int) (res:(List aA)):Prop:=match a with|(a_,inner1,d1,out,at_)=>cL X 79 (aP [1,1,1,1,1,1,0,1,0,0] (aQ Tryz.f79)) (aJ (X.H 79 12) 2) (aL 2 (X.H 79 1000002) 2 (iL (λ(out4:(List aA))=>(⟨[(2,.c (.ptr 0 0)),(4,.c (.ptr 1 0)),(9,.c (.own 3 (List.map aC out4)))],[(1,[oI [],oC []]),(0,[.d (lI a_.shape),.d (lC a_.cells)])],2,[],none⟩:St)) res)) ⟨[(2,.c (.ptr 0 0)),(4,.c (.ptr 1 0)),(5,.d (iZ inner1)),(8,.d (iZ d1)),(9,.c (.own 3 (List.map aC out))),(10,.d (iZ at_))],[(1,[oI [],oC []]),(0,[.d (lI a_.shape),.d (lC a_.cells)])],2,[],none⟩
instance {a:Arr×Int×Int×(List aA)×Int}:Ok (gF a) (AbU a):=⟨λh=>gF.partial_correctness AbU (by
 rintro P_ IH ⟨a_,inner1,d1,out,at_⟩ res h
 have IH:=Ok.mk' IH
 have iE:fF Tryz.f79 0 _ rP:=⟨trivial⟩
 refine lg I ?_
 exact Wk) _ _ h⟩
instance {a_:Arr} {axis:Int}:Ok (mE a_ axis) λr=>bF X 79 [.d (aI a_),.d (iZ axis)] [] (rP r):=⟨λh=>by
 unfold mE at h
 exact aB rP I Tryz.func79 I I I I I I λiE=>Wk⟩
abbrev AgG (r:Arr×Int):aF:=(aF.ret (.tuple [.d (aI r.1),.d (iZ r.2)]) [])
abbrev AhB (a:Arr×Int×(List aA)) (res:(List aA)):Prop:=match a with|(x,x3,out1)=>cL X 40 (aP [1,1,1,0,1,0,1,1,1,0,1,0,1,0,0] (aQ Tryz.f40)) (aJ (X.H 40 11) 3) (aL 1 (X.H 40 1000001) 3 (iL (λ(out11:(List aA))=>(⟨[(4,.c (.ptr 1 0)),(7,.c (.ptr 2 0))],[(2,[oI [(List.length x.shape:Int)],oC out11]),(1,[oI [],oC []]),(0,[.d (lI x.shape),.d (lC x.cells)])],3,[],none⟩:St)) res)) ⟨[(4,.c (.ptr 1 0)),(7,.c (.ptr 2 0)),(33,.d (lI x.shape)),(34,.d (iZ (List.length x.shape:Int))),(35,.d (iZ x3))],[(2,[oI [(List.length x.shape:Int)],oC out1]),(1,[oI [],oC []]),(0,[.d (lI x.shape),.d (lC x.cells)])],3,[],none⟩
instance {a:Arr×Int×(List aA)}:Ok (oB a) (AhB a):=⟨λh=>oB.partial_correctness AhB (by
 rintro P_ IH ⟨x,x3,out1⟩ res h
 have IH:=Ok.mk' IH
 have iE:fF Tryz.f40 0 _ AgG:=⟨trivial⟩
 refine lg I ?_
 exact Wk) _ _ h⟩
instance {op_:Int} {a_:Arr}:Ok (zS op_ a_) λr=>bF X 40 [.d (iZ op_),.d (aI a_)] [] (AgG r):=⟨λh=>by
 unfold zS at h
 exact aB AgG I Tryz.func40 I I I I I I λiE=>Wk⟩
abbrev xB (r:Int):aF:=(aF.ret (.d (iZ r)) [])
abbrev Ad1 (a:(List Arr)×Int) (res:Except (Int) (Unit)):Prop:=match a with|(l,x)=>cL X 73 (aP [1,0,1,0,0] (aQ Tryz.f73)) (aJ (X.H 73 2) 0) (aL 0 (X.H 73 1000000) 0 (lW X Tryz.f73 0 xB (λ(_:Unit)=>(⟨[],[],0,[],none⟩:St)) res)) ⟨[(6,.d (.list 2 (List.map aH l))),(7,.d (iZ (List.length l:Int))),(8,.d (iZ x))],[],0,[],none⟩
instance {a:(List Arr)×Int}:Ok (jZ a) (Ad1 a):=⟨λh=>jZ.partial_correctness Ad1 (by
 rintro P_ IH ⟨l,x⟩ res h
 have IH:=Ok.mk' IH
 have iE:fF Tryz.f73 0 _ xB:=⟨trivial⟩
 refine lg I ?_
 exact Wk) _ _ h⟩
instance {l:(List Arr)}:Ok (qK l) λr=>bF X 73 [.d (.list 2 (List.map aH l))] [] (xB r):=⟨λh=>by
 unfold qK at h
 exact aB xB I Tryz.func73 I I I I I I λiE=>Wk⟩
abbrev AeQ (r:(List (List aA))):aF:=(aF.ret (.d (.list 1 (List.map (kN 3 aC) r))) [])
abbrev AfV (a:Arr×Int×Int×(List (List aA))×Int) (res:(List (List aA))):Prop:=match a with|(a_,k,y2,l,x)=>cL X 149 (aP [1,1,1,1,0,1,0,0] (aQ Tryz.f149)) (aJ (X.H 149 6) 10) (aL 0 (X.H 149 1000000) 10 (iL (λ(l3:(List (List aA)))=>(⟨[(3,.c (.own 1 (List.map (kN 3 aC) l3)))],[(0,[.d (lI a_.shape),.d (lC a_.cells)])],10,[],none⟩:St)) res)) ⟨[(1,.c (.ptr 0 0)),(3,.c (.own 1 (List.map (kN 3 aC) l))),(4,.d (iZ k)),(22,.d (iZ y2)),(23,.d (iZ x))],[(0,[.d (lI a_.shape),.d (lC a_.cells)])],10,[],none⟩
instance {a:Arr×Int×Int×(List (List aA))×Int}:Ok (mM a) (AfV a):=⟨λh=>mM.partial_correctness AfV (by
 rintro P_ IH ⟨a_,k,y2,l,x⟩ res h
 have IH:=Ok.mk' IH
 have iE:fF Tryz.f149 0 _ AeQ:=⟨trivial⟩
 refine lg I ?_
 exact Wk) _ _ h⟩
instance {a_:Arr}:Ok (uB a_) λr=>bF X 149 [.d (aI a_)] [] (AeQ r):=⟨λh=>by
 unfold uB at h
 exact aB AeQ I Tryz.func149 I I I I I I λiE=>Wk⟩
abbrev AaP (r:Bool):aF:=(aF.ret (.d (.bool r)) [])
abbrev AfW (a:(List aA)×Int) (res:Except (Bool) (Unit)):Prop:=match a with|(l,x)=>cL X 148 (aP [1,0,1,0,0] (aQ Tryz.f148)) (aJ (X.H 148 2) 0) (aL 0 (X.H 148 1000000) 0 (lW X Tryz.f148 0 AaP (λ(_:Unit)=>(⟨[],[],0,[],none⟩:St)) res)) ⟨[(0,.d (lC l)),(5,.d (lC l)),(6,.d (iZ (List.length l:Int))),(7,.d (iZ x))],[],0,[],none⟩
instance {a:(List aA)×Int}:Ok (mN a) (AfW a):=⟨λh=>mN.partial_correctness AfW (by
 rintro P_ IH ⟨l,x⟩ res h
 have IH:=Ok.mk' IH
 have iE:fF Tryz.f148 0 _ AaP:=⟨trivial⟩
 refine lg I ?_
 exact Wk) _ _ h⟩
instance {l:(List aA)}:Ok (xX l) λr=>bF X 148 [.d (lC l)] [] (AaP r):=⟨λh=>by
 unfold xX at h
 exact aB AaP I Tryz.func148 I I I I I I λiE=>Wk⟩
abbrev AfC (r:Int):aF:=(aF.ret (.d (iZ r)) [])
instance {a_:Int} {b:Int}:Ok (fM a_ b) λr=>bF X 212 [.d (iZ a_),.d (iZ b)] [] (AfC r):=⟨λh=>by
 unfold fM at h
 exact aB AfC I Tryz.func212 I I I I I I λiE=>Wk⟩
abbrev AnC (a_:Arr) (a_1:Arr) (r:Int):aF:=(aF.ret (.d (iZ r)) [[.d (lI a_.shape),.d (lC a_.cells)],[.d (lI a_1.shape),.d (lC a_1.cells)]])
instance {i:Int} {a_:Arr} {a_1:Arr}:Ok (Ad2 i a_ a_1) λr=>bF X 232 [.d (iZ i),.ptr 0 0,.ptr 1 0] [[.d (lI a_.shape),.d (lC a_.cells)],[.d (lI a_1.shape),.d (lC a_1.cells)]] ((AnC a_ a_1) r):=⟨λh=>by
 unfold Ad2 at h
 exact aB (AnC a_ a_1) I Tryz.func232 I I I I I I λiE=>Wk⟩
abbrev mV (b:Arr) (b1:Arr) (r:Int):aF:=(aF.ret (.d (iZ r)) [[.d (lI b.shape),.d (lC b.cells)],[.d (lI b1.shape),.d (lC b1.cells)]])
abbrev uH (a:Int×Arr×Arr×Int) (res:Except (Int) (Unit)):Prop:=match a with|(n,b,b1,x)=>cL X 231 (aP [1,0,1,0,0] (aQ Tryz.f231)) (aJ (X.H 231 2) 2) (aL 0 (X.H 231 1000000) 2 (lW X Tryz.f231 2 (mV b b1) (λ(_:Unit)=>(⟨[],[(0,[.d (lI b.shape),.d (lC b.cells)]),(1,[.d (lI b1.shape),.d (lC b1.cells)])],2,[],none⟩:St)) res)) ⟨[(1,.c (.fn 232 [0,1])),(7,.d (iZ n)),(8,.d (iZ x))],[(0,[.d (lI b.shape),.d (lC b.cells)]),(1,[.d (lI b1.shape),.d (lC b1.cells)])],2,[],none⟩
instance {a:Int×Arr×Arr×Int}:Ok (dU a) (uH a):=⟨λh=>dU.partial_correctness uH (by
 rintro P_ IH ⟨n,b,b1,x⟩ res h
 have IH:=Ok.mk' IH
 have iE:fF Tryz.f231 2 _ (mV b b1):=⟨trivial⟩
 refine lg I ?_
 exact Wk) _ _ h⟩
instance {n:Int} {b:Arr} {b1:Arr}:Ok (mY n b b1) λr=>bF X 231 [.d (iZ n),.fn 232 [0,1]] [[.d (lI b.shape),.d (lC b.cells)],[.d (lI b1.shape),.d (lC b1.cells)]] ((mV b b1) r):=⟨λh=>by
 unfold mY at h
 exact aB (mV b b1) I Tryz.func231 I I I I I I λiE=>Wk⟩
abbrev AcF (r:Int):aF:=(aF.ret (.d (iZ r)) [])
instance {a_:Int} {b:Int}:Ok (pL a_ b) λr=>bF X 213 [.d (iZ a_),.d (iZ b)] [] (AcF r):=⟨λh=>by
 unfold pL at h
 exact aB AcF I Tryz.func213 I I I I I I λiE=>Wk⟩
abbrev ApF (r:Int):aF:=(aF.ret (.d (iZ r)) [])
abbrev AsC (r:Int):aF:=(aF.ret (.d (iZ r)) [])
abbrev mW (b:Arr) (b1:Arr) (r:Int):aF:=(aF.ret (.d (iZ r)) [[.d (lI b.shape),.d (lC b.cells)],[.d (lI b1.shape),.d (lC b1.cells)]])
abbrev AnD (a_:Arr) (a_1:Arr) (r:Int):aF:=(aF.ret (.d (iZ r)) [[.d (lI a_.shape),.d (lC a_.cells)],[.d (lI a_1.shape),.d (lC a_1.cells)]])
abbrev AjX (a:aA×aA) (res:Int):Prop:=match a with|(a_,b)=>bF X 153 [.d (aC a_),.d (aC b)] [] (ApF res)
abbrev AmL (a:Arr×Arr) (res:Int):Prop:=match a with|(a_,b)=>bF X 214 [.d (aI a_),.d (aI b)] [] (AsC res)
abbrev oY (a:Int×Arr×Arr×Int) (res:Except (Int) (Unit)):Prop:=match a with|(n,b,b1,x)=>cL X 231 (aP [1,0,1,0,0] (aQ Tryz.f231)) (aJ (X.H 231 2) 2) (aL 0 (X.H 231 1000000) 2 (lW X Tryz.f231 2 (mW b b1) (λ(_:Unit)=>(⟨[],[(0,[.d (lI b.shape),.d (lC b.cells)]),(1,[.d (lI b1.shape),.d (lC b1.cells)])],2,[],none⟩:St)) res)) ⟨[(1,.c (.fn 233 [0,1])),(7,.d (iZ n)),(8,.d (iZ x))],[(0,[.d (lI b.shape),.d (lC b.cells)]),(1,[.d (lI b1.shape),.d (lC b1.cells)])],2,[],none⟩
abbrev qV (a:Int×Arr×Arr) (res:Int):Prop:=match a with|(n,b,b1)=>bF X 231 [.d (iZ n),.fn 233 [0,1]] [[.d (lI b.shape),.d (lC b.cells)],[.d (lI b1.shape),.d (lC b1.cells)]] ((mW b b1) res)
abbrev Ah0 (a:Int×Arr×Arr) (res:Int):Prop:=match a with|(i,a_,a_1)=>bF X 233 [.d (iZ i),.ptr 0 0,.ptr 1 0] [[.d (lI a_.shape),.d (lC a_.cells)],[.d (lI a_1.shape),.d (lC a_1.cells)]] ((AnD a_ a_1) res)
theorem tB:(∀a res,nT a=some res->AjX a res)/\(∀a res,yT a=some res->AmL a res)/\(∀a res,mZ a=some res->qV a res)/\(∀a res,dV a=some res->oY a res)/\(∀a res,Ad3 a=some res->Ah0 a res):=by
 refine nT.mutual_partial_correctness (motive_1:=AjX) (motive_2:=AmL) (motive_3:=qV) (motive_4:=oY) (motive_5:=Ah0) ?_ ?_ ?_ ?_ ?_
 ·rintro P0 I0 ⟨a_,b⟩ res h
  have I0:=Ok.mk' I0
  exact aB ApF I Tryz.func153 I I I I I I λiE=>Wk
 ·rintro P0 I0 ⟨a_,b⟩ res h
  have I0:=Ok.mk' I0
  exact aB AsC I Tryz.func214 I I I I I I λiE=>Wk
 ·rintro P0 I0 ⟨n,b,b1⟩ res h
  have I0:=Ok.mk' I0
  exact aB (mW b b1) I Tryz.func231 I I I I I I λiE=>Wk
 ·rintro P0 P1 I0 I1 ⟨n,b,b1,x⟩ res h
  have I0:=Ok.mk' I0
  have I1:=Ok.mk' I1
  refine lg I ?_
  have iE:fF Tryz.f231 2 _ (mW b b1):=⟨trivial⟩
  exact Wk
 rintro P0 I0 ⟨i,a_,a_1⟩ res h
 have I0:=Ok.mk' I0
 exact aB (AnD a_ a_1) I Tryz.func233 I I I I I I λiE=>Wk
instance {a:aA×aA}:Ok (nT a) (AjX a):=⟨λh=>tB.1 a _ h⟩
instance {a:Arr×Arr}:Ok (yT a) (AmL a):=⟨λh=>tB.2.1 a _ h⟩
instance {a:Int×Arr×Arr}:Ok (mZ a) (qV a):=⟨λh=>tB.2.2.1 a _ h⟩
instance {a:Int×Arr×Arr×Int}:Ok (dV a) (oY a):=⟨λh=>tB.2.2.2.1 a _ h⟩
instance {a:Int×Arr×Arr}:Ok (Ad3 a) (Ah0 a):=⟨λh=>tB.2.2.2.2 a _ h⟩
abbrev eY (r:Int):aF:=(aF.ret (.d (iZ r)) [])
abbrev lK (a:(List aA)×(List aA)×Int) (res:Except (Int) (Unit)):Prop:=match a with|(s1,s2,x)=>cL X 152 (aP [1,0,1,0,0] (aQ Tryz.f152)) (aJ (X.H 152 2) 0) (aL 0 (X.H 152 1000000) 0 (lW X Tryz.f152 0 eY (λ(_:Unit)=>(⟨[(0,.d (lC s1)),(1,.d (lC s2))],[],0,[],none⟩:St)) res)) ⟨[(0,.d (lC s1)),(1,.d (lC s2)),(2,.c (.fn 153 [])),(11,.d (lC s1)),(12,.d (iZ (List.length s1:Int))),(13,.d (iZ x))],[],0,[],none⟩
instance {a:(List aA)×(List aA)×Int}:Ok (bX a) (lK a):=⟨λh=>bX.partial_correctness lK (by
 rintro P_ IH ⟨s1,s2,x⟩ res h
 have IH:=Ok.mk' IH
 have iE:fF Tryz.f152 0 _ eY:=⟨trivial⟩
 refine lg I ?_
 exact Wk) _ _ h⟩
instance {s1:(List aA)} {s2:(List aA)}:Ok (cN s1 s2) λr=>bF X 152 [.d (lC s1),.d (lC s2),.fn 153 []] [] (eY r):=⟨λh=>by
 unfold cN at h
 exact aB eY I Tryz.func152 I I I I I I λiE=>Wk⟩
abbrev AgM (a_:(List (List aA))) (a_1:Bool) (r:Int):aF:=(aF.ret (.d (iZ r)) [[.d (.list 1 (List.map (kN 3 aC) a_))],[.d (.bool a_1)]])
instance {i:Int} {k:Int} {a_:(List (List aA))} {a_1:Bool}:Ok (lR i k a_ a_1) λr=>bF X 151 [.d (iZ i),.d (iZ k),.ptr 0 0,.ptr 1 0] [[.d (.list 1 (List.map (kN 3 aC) a_))],[.d (.bool a_1)]] ((AgM a_ a_1) r):=⟨λh=>by
 unfold lR at h
 exact aB (AgM a_ a_1) I Tryz.func151 I I I I I I λiE=>Wk⟩
abbrev cR (b1:(List (List aA))) (b2:Bool) (r:LI):aF:=(aF.ret (.tuple []) [[.seq 1 (List.map (D.int .i64) r)],[.d (.list 1 (List.map (kN 3 aC) b1))],[.d (.bool b2)]])
abbrev gD (a:Nat×Int×Int×((List (List aA)))×Bool×Int×Int×LI) (res:LI):Prop:=match a with|(n,a_,b,b1,b2,i,j,data2)=>cL X 229 (aP [1,0,0,1,0,0,1,0,0] (aQ Tryz.f229)) (aJ (X.H 229 4) 3) (aL 2 (X.H 229 1000002) 3 (iL (λ(data5:LI)=>(⟨[(0,.c (.arr 0 n 1)),(1,.d (iZ a_)),(2,.d (iZ b)),(3,.c (.fn 151 [1,2])),(8,.d (iZ i))],[(0,[.seq 1 (List.map (D.int .i64) data5)]),(1,[.d (.list 1 (List.map (kN 3 aC) b1))]),(2,[.d (.bool b2)])],3,[],none⟩:St)) res)) ⟨[(0,.c (.arr 0 n 1)),(1,.d (iZ a_)),(2,.d (iZ b)),(3,.c (.fn 151 [1,2])),(8,.d (iZ i)),(9,.d (iZ j))],[(0,[.seq 1 (List.map (D.int .i64) data2)]),(1,[.d (.list 1 (List.map (kN 3 aC) b1))]),(2,[.d (.bool b2)])],3,[],none⟩
instance {a:Nat×Int×Int×((List (List aA)))×Bool×Int×Int×LI}:Ok (aX a) (gD a):=⟨λh=>aX.partial_correctness gD (by
 rintro P_ IH ⟨n,a_,b,b1,b2,i,j,data2⟩ res h
 have IH:=Ok.mk' IH
 have iE:fF Tryz.f229 3 _ (cR b1 b2):=⟨trivial⟩
 refine lg I ?_
 exact Wk) _ _ h⟩
abbrev gB (a:Nat×Int×Int×((List (List aA)))×Bool×Int×LI) (res:LI):Prop:=match a with|(n,a_,b,b1,b2,i,data1)=>cL X 229 (aP [1,0,0] (aQ Tryz.f229)) (aJ (X.H 229 1) 3) (aL 0 (X.H 229 1000000) 3 (iL (λ(c0:LI)=>(⟨[],[(0,[.seq 1 (List.map (D.int .i64) c0)]),(1,[.d (.list 1 (List.map (kN 3 aC) b1))]),(2,[.d (.bool b2)])],3,[],none⟩:St)) res)) ⟨[(0,.c (.arr 0 n 1)),(1,.d (iZ a_)),(2,.d (iZ b)),(3,.c (.fn 151 [1,2])),(8,.d (iZ i))],[(0,[.seq 1 (List.map (D.int .i64) data1)]),(1,[.d (.list 1 (List.map (kN 3 aC) b1))]),(2,[.d (.bool b2)])],3,[],none⟩
instance {a:Nat×Int×Int×((List (List aA)))×Bool×Int×LI}:Ok (aW a) (gB a):=⟨λh=>aW.partial_correctness gB (by
 rintro P_ IH ⟨n,a_,b,b1,b2,i,data1⟩ res h
 have IH:=Ok.mk' IH
 have iE:fF Tryz.f229 3 _ (cR b1 b2):=⟨trivial⟩
 refine lg I ?_
 exact Wk) _ _ h⟩
instance {n:Nat} {a_:Int} {b:Int} {data:LI} {b1:(List (List aA))} {b2:Bool}:Ok (bP n a_ b data b1 b2) λr=>bF X 229 [.arr 0 n 1,.d (iZ a_),.d (iZ b),.fn 151 [1,2]] [[.seq 1 (List.map (D.int .i64) data)],[.d (.list 1 (List.map (kN 3 aC) b1))],[.d (.bool b2)]] ((cR b1 b2) r):=⟨λh=>by
 unfold bP at h
 exact aB (cR b1 b2) I Tryz.func229 I I I I I I λiE=>Wk⟩
abbrev fC (b1:(List (List aA))) (b2:Bool) (r:LI):aF:=(aF.ret (.tuple []) [[.seq 1 (List.map (D.int .i64) r)],[.d (.list 1 (List.map (kN 3 aC) b1))],[.d (.bool b2)]])
abbrev iC (a:Nat×Int×Int×Int×((List (List aA)))×Bool×Int×LI) (res:LI):Prop:=match a with|(n,a_,b,n1,b1,b2,i,data1)=>cL X 244 (aP [1,0,0] (aQ Tryz.f244)) (aJ (X.H 244 1) 3) (aL 0 (X.H 244 1000000) 3 (iL (λ(c0:LI)=>(⟨[],[(0,[.seq 1 (List.map (D.int .i64) c0)]),(1,[.d (.list 1 (List.map (kN 3 aC) b1))]),(2,[.d (.bool b2)])],3,[],none⟩:St)) res)) ⟨[(0,.c (.arr 0 n 1)),(1,.d (iZ a_)),(2,.d (iZ b)),(3,.d (iZ n1)),(10,.d (iZ i))],[(0,[.seq 1 (List.map (D.int .i64) data1)]),(1,[.d (.list 1 (List.map (kN 3 aC) b1))]),(2,[.d (.bool b2)])],3,[],none⟩
instance {a:Nat×Int×Int×Int×((List (List aA)))×Bool×Int×LI}:Ok (bB a) (iC a):=⟨λh=>bB.partial_correctness iC (by
 rintro P_ IH ⟨n,a_,b,n1,b1,b2,i,data1⟩ res h
 have IH:=Ok.mk' IH
 have iE:fF Tryz.f244 3 _ (fC b1 b2):=⟨trivial⟩
 refine lg I ?_
 exact Wk) _ _ h⟩
instance {n:Nat} {a_:Int} {b:Int} {n1:Int} {data:LI} {b1:(List (List aA))} {b2:Bool}:Ok (bL n a_ b n1 data b1 b2) λr=>bF X 244 [.arr 0 n 1,.d (iZ a_),.d (iZ b),.d (iZ n1),.fn 151 [1,2]] [[.seq 1 (List.map (D.int .i64) data)],[.d (.list 1 (List.map (kN 3 aC) b1))],[.d (.bool b2)]] ((fC b1 b2) r):=⟨λh=>by
 unfold bL at h
 exact aB (fC b1 b2) I Tryz.func244 I I I I I I λiE=>Wk⟩
abbrev fQ (b1:(List (List aA))) (b2:Bool) (r:LI):aF:=(aF.ret (.tuple []) [[.seq 1 (List.map (D.int .i64) r)],[.d (.list 1 (List.map (kN 3 aC) b1))],[.d (.bool b2)]])
abbrev jJ (a:Nat×Int×((List (List aA)))×Bool×Int×LI×Int) (res:Int×LI):Prop:=match a with|(n,m,b1,b2,i,data1,j)=>cL X 242 (aP [1,1,0,0,0] (aQ Tryz.f242)) (aJ (X.H 242 2) 3) (aL 0 (X.H 242 1000000) 3 (iL (λ((i1,data2):Int×LI)=>(⟨[(0,.c (.arr 0 n 1)),(2,.d (iZ m)),(4,.c (.fn 151 [1,2])),(10,.d (iZ i1))],[(0,[.seq 1 (List.map (D.int .i64) data2)]),(1,[.d (.list 1 (List.map (kN 3 aC) b1))]),(2,[.d (.bool b2)])],3,[],none⟩:St)) res)) ⟨[(0,.c (.arr 0 n 1)),(2,.d (iZ m)),(4,.c (.fn 151 [1,2])),(10,.d (iZ i)),(11,.d (iZ j))],[(0,[.seq 1 (List.map (D.int .i64) data1)]),(1,[.d (.list 1 (List.map (kN 3 aC) b1))]),(2,[.d (.bool b2)])],3,[],none⟩
instance {a:Nat×Int×((List (List aA)))×Bool×Int×LI×Int}:Ok (bG a) (jJ a):=⟨λh=>bG.partial_correctness jJ (by
 rintro P_ IH ⟨n,m,b1,b2,i,data1,j⟩ res h
 have IH:=Ok.mk' IH
 have iE:fF Tryz.f242 3 _ (fQ b1 b2):=⟨trivial⟩
 refine lg I ?_
 exact Wk) _ _ h⟩
instance {n:Nat} {a_:Int} {m:Int} {b:Int} {data:LI} {b1:(List (List aA))} {b2:Bool}:Ok (cP n a_ m b data b1 b2) λr=>bF X 242 [.arr 0 n 1,.d (iZ a_),.d (iZ m),.d (iZ b),.fn 151 [1,2]] [[.seq 1 (List.map (D.int .i64) data)],[.d (.list 1 (List.map (kN 3 aC) b1))],[.d (.bool b2)]] ((fQ b1 b2) r):=⟨λh=>by
 unfold cP at h
 exact aB (fQ b1 b2) I Tryz.func242 I I I I I I λiE=>Wk⟩
abbrev bM (b1:(List (List aA))) (b2:Bool) (r:LI):aF:=(aF.ret (.tuple []) [[.seq 1 (List.map (D.int .i64) r)],[.d (.list 1 (List.map (kN 3 aC) b1))],[.d (.bool b2)]])
instance AdY:Jn 230 1 140 (Int×Int):=⟨λy=>[(20,.d (iZ y.1)),(21,.d (iZ y.2))],λy=>[]⟩
instance AdZ:Jn 230 1 185 LI:=⟨λy=>[],λy=>[(0,[(0,.seq 1 (List.map (D.int .i64) y))])]⟩
instance Ae0:Jn 230 1 199 LI:=⟨λy=>[],λy=>[(0,[(0,.seq 1 (List.map (D.int .i64) y))])]⟩
abbrev eQ (a:Nat×Int×LI×((List (List aA)))×Bool×Int×Int) (res:Int):Prop:=match a with|(n,a_,data,b1,b2,i,j)=>cL X 230 (aP [0,1,0,1,1,0,0,0] (aQ Tryz.f230)) (aJ (X.H 230 3) 3) (aL 0 (X.H 230 1000000) 3 (iL (λ(i1:Int)=>(⟨[(0,.c (.arr 0 n 1)),(1,.d (iZ a_)),(10,.d (iZ i1))],[(0,[.seq 1 (List.map (D.int .i64) data)]),(1,[.d (.list 1 (List.map (kN 3 aC) b1))]),(2,[.d (.bool b2)])],3,[],none⟩:St)) res)) ⟨[(0,.c (.arr 0 n 1)),(1,.d (iZ a_)),(4,.c (.fn 151 [1,2])),(10,.d (iZ i)),(11,.d (iZ j))],[(0,[.seq 1 (List.map (D.int .i64) data)]),(1,[.d (.list 1 (List.map (kN 3 aC) b1))]),(2,[.d (.bool b2)])],3,[],none⟩
theorem oP:∀a res,aM a=some res->eQ a res:=by
 refine aM.partial_correctness eQ ?_
 rintro P_ IH ⟨n,a_,data,b1,b2,i,j⟩ res h
 have IH:=Ok.mk' IH
 refine lg I ?_
 have iE:fF Tryz.f230 3 _ (bM b1 b2):=⟨trivial⟩
 exact Wk
instance {a:Nat×Int×LI×((List (List aA)))×Bool×Int×Int}:Ok (aM a) (eQ a):=⟨λh=>oP a _ h⟩
abbrev eR (a:Nat×((List (List aA)))×Bool×Int×Int×LI) (res:LI):Prop:=match a with|(n,b1,b2,i1,k,data1)=>cL X 230 (aP [0,1,0,1,1,1,0,1,0,0] (aQ Tryz.f230)) (aJ (X.H 230 9) 3) (aL 2 (X.H 230 1000002) 3 (iL (λ(c0:LI)=>(⟨[],[(0,[.seq 1 (List.map (D.int .i64) c0)]),(1,[.d (.list 1 (List.map (kN 3 aC) b1))]),(2,[.d (.bool b2)])],3,[],none⟩:St)) res)) ⟨[(0,.c (.arr 0 n 1)),(10,.d (iZ i1)),(13,.d (iZ k))],[(0,[.seq 1 (List.map (D.int .i64) data1)]),(1,[.d (.list 1 (List.map (kN 3 aC) b1))]),(2,[.d (.bool b2)])],3,[],none⟩
theorem oQ:∀a res,aT a=some res->eR a res:=by
 refine aT.partial_correctness eR ?_
 rintro P_ IH ⟨n,b1,b2,i1,k,data1⟩ res h
 have IH:=Ok.mk' IH
 refine lg I ?_
 have iE:fF Tryz.f230 3 _ (bM b1 b2):=⟨trivial⟩
 exact Wk
instance {a:Nat×((List (List aA)))×Bool×Int×Int×LI}:Ok (aT a) (eR a):=⟨λh=>oQ a _ h⟩
abbrev eS (a:Nat×Int×LI×((List (List aA)))×Bool×Int×Int) (res:Int):Prop:=match a with|(n,m,data,b1,b2,i2,j7)=>cL X 230 (aP [1,0,1,0,1,1,0,0,0] (aQ Tryz.f230)) (aJ (X.H 230 15) 3) (aL 4 (X.H 230 1000004) 3 (iL (λ(i3:Int)=>(⟨[(0,.c (.arr 0 n 1)),(2,.d (iZ m)),(14,.d (iZ i3))],[(0,[.seq 1 (List.map (D.int .i64) data)]),(1,[.d (.list 1 (List.map (kN 3 aC) b1))]),(2,[.d (.bool b2)])],3,[],none⟩:St)) res)) ⟨[(0,.c (.arr 0 n 1)),(2,.d (iZ m)),(4,.c (.fn 151 [1,2])),(14,.d (iZ i2)),(15,.d (iZ j7))],[(0,[.seq 1 (List.map (D.int .i64) data)]),(1,[.d (.list 1 (List.map (kN 3 aC) b1))]),(2,[.d (.bool b2)])],3,[],none⟩
theorem oR:∀a res,aN a=some res->eS a res:=by
 refine aN.partial_correctness eS ?_
 rintro P_ IH ⟨n,m,data,b1,b2,i2,j7⟩ res h
 have IH:=Ok.mk' IH
 refine lg I ?_
 have iE:fF Tryz.f230 3 _ (bM b1 b2):=⟨trivial⟩
 exact Wk
instance {a:Nat×Int×LI×((List (List aA)))×Bool×Int×Int}:Ok (aN a) (eS a):=⟨λh=>oR a _ h⟩
abbrev eT (a:Nat×((List (List aA)))×Bool×Int×Int×LI) (res:LI):Prop:=match a with|(n,b1,b2,i3,k1,data4)=>cL X 230 (aP [1,0,1,0,1,1,1,0,1,0,0] (aQ Tryz.f230)) (aJ (X.H 230 21) 3) (aL 6 (X.H 230 1000006) 3 (iL (λ(c01:LI)=>(⟨[],[(0,[.seq 1 (List.map (D.int .i64) c01)]),(1,[.d (.list 1 (List.map (kN 3 aC) b1))]),(2,[.d (.bool b2)])],3,[],none⟩:St)) res)) ⟨[(0,.c (.arr 0 n 1)),(14,.d (iZ i3)),(17,.d (iZ k1))],[(0,[.seq 1 (List.map (D.int .i64) data4)]),(1,[.d (.list 1 (List.map (kN 3 aC) b1))]),(2,[.d (.bool b2)])],3,[],none⟩
theorem oU:∀a res,aU a=some res->eT a res:=by
 refine aU.partial_correctness eT ?_
 rintro P_ IH ⟨n,b1,b2,i3,k1,data4⟩ res h
 have IH:=Ok.mk' IH
 refine lg I ?_
 have iE:fF Tryz.f230 3 _ (bM b1 b2):=⟨trivial⟩
 exact Wk
instance {a:Nat×((List (List aA)))×Bool×Int×Int×LI}:Ok (aU a) (eT a):=⟨λh=>oU a _ h⟩
abbrev eU (a:Nat×Int×Int×Int×LI×((List (List aA)))×Bool×Int×Int) (res:Int):Prop:=match a with|(n,a_,m,b,data,b1,b2,start1,r_1)=>cL X 230 (aP [1,1,1,1,1,1,1,0,0,0] (aQ Tryz.f230)) (aJ (X.H 230 33) 3) (aL 8 (X.H 230 1000008) 3 (iL (λ(start2:Int)=>(⟨[(0,.c (.arr 0 n 1)),(1,.d (iZ a_)),(2,.d (iZ m)),(3,.d (iZ b)),(4,.c (.fn 151 [1,2])),(18,.d (iZ (w64 (Int.fdiv (IntKind.u64.wrap (w64 (a_+b))) (2 ^ 1))))),(19,.d (iZ (w64 ((w64 (Int.fdiv (IntKind.u64.wrap (w64 (a_+b))) (2 ^ 1)))+m)))),(20,.d (iZ start2))],[(0,[.seq 1 (List.map (D.int .i64) data)]),(1,[.d (.list 1 (List.map (kN 3 aC) b1))]),(2,[.d (.bool b2)])],3,[],none⟩:St)) res)) ⟨[(0,.c (.arr 0 n 1)),(1,.d (iZ a_)),(2,.d (iZ m)),(3,.d (iZ b)),(4,.c (.fn 151 [1,2])),(18,.d (iZ (w64 (Int.fdiv (IntKind.u64.wrap (w64 (a_+b))) (2 ^ 1))))),(19,.d (iZ (w64 ((w64 (Int.fdiv (IntKind.u64.wrap (w64 (a_+b))) (2 ^ 1)))+m)))),(20,.d (iZ start1)),(21,.d (iZ r_1)),(22,.d (iZ (w64 ((w64 ((w64 (Int.fdiv (IntKind.u64.wrap (w64 (a_+b))) (2 ^ 1)))+m))-1))))],[(0,[.seq 1 (List.map (D.int .i64) data)]),(1,[.d (.list 1 (List.map (kN 3 aC) b1))]),(2,[.d (.bool b2)])],3,[],none⟩
theorem oV:∀a res,aO a=some res->eU a res:=by
 refine aO.partial_correctness eU ?_
 rintro P_ IH ⟨n,a_,m,b,data,b1,b2,start1,r_1⟩ res h
 have IH:=Ok.mk' IH
 refine lg I ?_
 have iE:fF Tryz.f230 3 _ (bM b1 b2):=⟨trivial⟩
 exact Wk
instance {a:Nat×Int×Int×Int×LI×((List (List aA)))×Bool×Int×Int}:Ok (aO a) (eU a):=⟨λh=>oV a _ h⟩
abbrev fG (a:Nat×Int×Int×Int×LI×(List (List aA))×Bool) (res:LI):Prop:=match a with|(n,a_,m,b,data,b1,b2)=>bF X 230 [.arr 0 n 1,.d (iZ a_),.d (iZ m),.d (iZ b),.fn 151 [1,2]] [[.seq 1 (List.map (D.int .i64) data)],[.d (.list 1 (List.map (kN 3 aC) b1))],[.d (.bool b2)]] ((bM b1 b2) res)
theorem pU:∀a res,aD a=some res->fG a res:=by
 refine aD.partial_correctness fG ?_
 rintro P_ IH ⟨n,a_,m,b,data,b1,b2⟩ res h
 have IH:=Ok.mk' IH
 exact aB (bM b1 b2) I Tryz.func230 I I I I I I λiE=>Wk
instance {a:Nat×Int×Int×Int×LI×(List (List aA))×Bool}:Ok (aD a) (fG a):=⟨λh=>pU a _ h⟩
abbrev cO (b:(List (List aA))) (b1:Bool) (r:LI):aF:=(aF.ret (.tuple []) [[.seq 1 (List.map (D.int .i64) r)],[.d (.list 1 (List.map (kN 3 aC) b))],[.d (.bool b1)]])
instance AeY:Jn 211 1 54 LI:=⟨λy=>[],λy=>[(0,[(0,.seq 1 (List.map (D.int .i64) y))])]⟩
abbrev jK (a:Nat×Int×((List (List aA)))×Bool×Int×Int×LI) (res:Int×LI):Prop:=match a with|(n,n1,b,b1,a_,b2,data1)=>cL X 211 (aP [1,1,0,0,0] (aQ Tryz.f211)) (aJ (X.H 211 2) 3) (aL 0 (X.H 211 1000000) 3 (iL (λ((a_1,data2):Int×LI)=>(⟨[(0,.c (.arr 0 n 1)),(1,.d (iZ n1)),(2,.c (.fn 151 [1,2])),(6,.d (iZ 20)),(7,.d (iZ a_1))],[(0,[.seq 1 (List.map (D.int .i64) data2)]),(1,[.d (.list 1 (List.map (kN 3 aC) b))]),(2,[.d (.bool b1)])],3,[],none⟩:St)) res)) ⟨[(0,.c (.arr 0 n 1)),(1,.d (iZ n1)),(2,.c (.fn 151 [1,2])),(6,.d (iZ 20)),(7,.d (iZ a_)),(8,.d (iZ b2))],[(0,[.seq 1 (List.map (D.int .i64) data1)]),(1,[.d (.list 1 (List.map (kN 3 aC) b))]),(2,[.d (.bool b1)])],3,[],none⟩
instance {a:Nat×Int×((List (List aA)))×Bool×Int×Int×LI}:Ok (bH a) (jK a):=⟨λh=>bH.partial_correctness jK (by
 rintro P_ IH ⟨n,n1,b,b1,a_,b2,data1⟩ res h
 have IH:=Ok.mk' IH
 have iE:fF Tryz.f211 3 _ (cO b b1):=⟨trivial⟩
 refine lg I ?_
 exact Wk) _ _ h⟩
abbrev jM (a:Nat×Int×((List (List aA)))×Bool×Int×Int×Int×LI) (res:Int×LI):Prop:=match a with|(n,n1,b,b1,blockSize,a_2,b3,data4)=>cL X 211 (aP [1,1,1,1,0,0,1,0,1,0,0,0] (aQ Tryz.f211)) (aJ (X.H 211 9) 3) (aL 4 (X.H 211 1000004) 3 (iL (λ((a_3,data5):Int×LI)=>(⟨[(0,.c (.arr 0 n 1)),(1,.d (iZ n1)),(2,.c (.fn 151 [1,2])),(6,.d (iZ blockSize)),(7,.d (iZ a_3))],[(0,[.seq 1 (List.map (D.int .i64) data5)]),(1,[.d (.list 1 (List.map (kN 3 aC) b))]),(2,[.d (.bool b1)])],3,[],none⟩:St)) res)) ⟨[(0,.c (.arr 0 n 1)),(1,.d (iZ n1)),(2,.c (.fn 151 [1,2])),(6,.d (iZ blockSize)),(7,.d (iZ a_2)),(8,.d (iZ b3))],[(0,[.seq 1 (List.map (D.int .i64) data4)]),(1,[.d (.list 1 (List.map (kN 3 aC) b))]),(2,[.d (.bool b1)])],3,[],none⟩
instance {a:Nat×Int×((List (List aA)))×Bool×Int×Int×Int×LI}:Ok (bK a) (jM a):=⟨λh=>bK.partial_correctness jM (by
 rintro P_ IH ⟨n,n1,b,b1,blockSize,a_2,b3,data4⟩ res h
 have IH:=Ok.mk' IH
 have iE:fF Tryz.f211 3 _ (cO b b1):=⟨trivial⟩
 refine lg I ?_
 exact Wk) _ _ h⟩
abbrev jL (a:Nat×Int×((List (List aA)))×Bool×Int×LI) (res:LI):Prop:=match a with|(n,n1,b,b1,blockSize,data3)=>cL X 211 (aP [1,1,1,1,0,0] (aQ Tryz.f211)) (aJ (X.H 211 7) 3) (aL 2 (X.H 211 1000002) 3 (iL (λ(c0:LI)=>(⟨[],[(0,[.seq 1 (List.map (D.int .i64) c0)]),(1,[.d (.list 1 (List.map (kN 3 aC) b))]),(2,[.d (.bool b1)])],3,[],none⟩:St)) res)) ⟨[(0,.c (.arr 0 n 1)),(1,.d (iZ n1)),(2,.c (.fn 151 [1,2])),(6,.d (iZ blockSize))],[(0,[.seq 1 (List.map (D.int .i64) data3)]),(1,[.d (.list 1 (List.map (kN 3 aC) b))]),(2,[.d (.bool b1)])],3,[],none⟩
instance {a:Nat×Int×((List (List aA)))×Bool×Int×LI}:Ok (bI a) (jL a):=⟨λh=>bI.partial_correctness jL (by
 rintro P_ IH ⟨n,n1,b,b1,blockSize,data3⟩ res h
 have IH:=Ok.mk' IH
 have iE:fF Tryz.f211 3 _ (cO b b1):=⟨trivial⟩
 refine lg I ?_
 exact Wk) _ _ h⟩
instance {n:Nat} {n1:Int} {data:LI} {b:(List (List aA))} {b1:Bool}:Ok (dO n n1 data b b1) λr=>bF X 211 [.arr 0 n 1,.d (iZ n1),.fn 151 [1,2]] [[.seq 1 (List.map (D.int .i64) data)],[.d (.list 1 (List.map (kN 3 aC) b))],[.d (.bool b1)]] ((cO b b1) r):=⟨λh=>by
 unfold dO at h
 exact aB (cO b b1) I Tryz.func211 I I I I I I λiE=>Wk⟩
abbrev kB (b:(List (List aA))) (b1:Bool) (r:LI):aF:=(aF.ret (.tuple []) [[.seq 1 (List.map (D.int .i64) r)],[.d (.list 1 (List.map (kN 3 aC) b))],[.d (.bool b1)]])
instance {n:Nat} {a_:LI} {b:(List (List aA))} {b1:Bool}:Ok (cJ n a_ b b1) λr=>bF X 150 [.arr 0 n 1,.fn 151 [1,2]] [[.seq 1 (List.map (D.int .i64) a_)],[.d (.list 1 (List.map (kN 3 aC) b))],[.d (.bool b1)]] ((kB b b1) r):=⟨λh=>by
 unfold cJ at h
 exact aB (kB b b1) I Tryz.func150 I I I I I I λiE=>Wk⟩
abbrev AaO (r:Arr×Int):aF:=(aF.ret (.tuple [.d (aI r.1),.d (iZ r.2)]) [])
abbrev AfT (a:Arr×Bool×((List (List aA)))×Int×LI) (res:LI):Prop:=match a with|(a_,down,x1,x2,by_1)=>cL X 74 (aP [1,1,1,1,0,1,0,0] (aQ Tryz.f74)) (aJ (X.H 74 8) 5) (aL 1 (X.H 74 1000001) 5 (iL (λ(by_3:LI)=>(⟨[(3,.c (.ptr 1 0)),(4,.c (.ptr 2 0)),(6,.c (.ptr 3 0)),(7,.c (.arr 4 (Int.toNat (List.length x1:Int)) 1))],[(4,[.seq 1 (List.map (D.int .i64) by_3)]),(3,[.d (.list 1 (List.map (kN 3 aC) x1))]),(2,[oI [],oC []]),(1,[.d (.bool down)]),(0,[.d (lI a_.shape),.d (lC a_.cells)])],5,[],none⟩:St)) res)) ⟨[(3,.c (.ptr 1 0)),(4,.c (.ptr 2 0)),(6,.c (.ptr 3 0)),(7,.c (.arr 4 (Int.toNat (List.length x1:Int)) 1)),(30,.d (iZ ((Int.toNat (List.length x1:Int)):Int))),(31,.d (iZ x2))],[(4,[.seq 1 (List.map (D.int .i64) by_1)]),(3,[.d (.list 1 (List.map (kN 3 aC) x1))]),(2,[oI [],oC []]),(1,[.d (.bool down)]),(0,[.d (lI a_.shape),.d (lC a_.cells)])],5,[],none⟩
instance {a:Arr×Bool×((List (List aA)))×Int×LI}:Ok (mK a) (AfT a):=⟨λh=>mK.partial_correctness AfT (by
 rintro P_ IH ⟨a_,down,x1,x2,by_1⟩ res h
 have IH:=Ok.mk' IH
 have iE:fF Tryz.f74 0 _ AaO:=⟨trivial⟩
 refine lg I ?_
 exact Wk) _ _ h⟩
abbrev AfU (a:Arr×Bool×((List (List aA)))×LI×Int×(List aA)) (res:(List aA)):Prop:=match a with|(a_,down,x1,x3,x4,out1)=>cL X 74 (aP [1,1,1,1,1,1,1,0,1,0,0] (aQ Tryz.f74)) (aJ (X.H 74 15) 6) (aL 3 (X.H 74 1000003) 6 (iL (λ(out11:(List aA))=>(⟨[(4,.c (.ptr 2 0)),(9,.c (.ptr 5 0))],[(5,[oI [((Int.toNat (List.length x1:Int)):Int)],oC out11]),(4,[.seq 1 (List.map (D.int .i64) x3)]),(3,[.d (.list 1 (List.map (kN 3 aC) x1))]),(2,[oI [],oC []]),(1,[.d (.bool down)]),(0,[.d (lI a_.shape),.d (lC a_.cells)])],6,[],none⟩:St)) res)) ⟨[(4,.c (.ptr 2 0)),(9,.c (.ptr 5 0)),(46,.c (.arr 4 (Int.toNat (List.length x1:Int)) 1)),(47,.d (iZ ((Int.toNat (List.length x1:Int)):Int))),(48,.d (iZ x4))],[(5,[oI [((Int.toNat (List.length x1:Int)):Int)],oC out1]),(4,[.seq 1 (List.map (D.int .i64) x3)]),(3,[.d (.list 1 (List.map (kN 3 aC) x1))]),(2,[oI [],oC []]),(1,[.d (.bool down)]),(0,[.d (lI a_.shape),.d (lC a_.cells)])],6,[],none⟩
instance {a:Arr×Bool×((List (List aA)))×LI×Int×(List aA)}:Ok (mL a) (AfU a):=⟨λh=>mL.partial_correctness AfU (by
 rintro P_ IH ⟨a_,down,x1,x3,x4,out1⟩ res h
 have IH:=Ok.mk' IH
 have iE:fF Tryz.f74 0 _ AaO:=⟨trivial⟩
 refine lg I ?_
 exact Wk) _ _ h⟩
instance {a_:Arr} {down:Bool}:Ok (xV a_ down) λr=>bF X 74 [.d (aI a_),.d (.bool down)] [] (AaO r):=⟨λh=>by
 unfold xV at h
 exact aB AaO I Tryz.func74 I I I I I I λiE=>Wk⟩
abbrev AfF (a_:(List aA)) (r:Bool):aF:=(aF.ret (.d (.bool r)) [[.d (lC a_)]])
instance {y:(List aA)} {a_:(List aA)}:Ok (vN y a_) λr=>bF X 155 [.d (lC y),.ptr 0 0] [[.d (lC a_)]] ((AfF a_) r):=⟨λh=>by
 unfold vN at h
 exact aB (AfF a_) I Tryz.func155 I I I I I I λiE=>Wk⟩
abbrev eE (b:(List aA)) (r:Int):aF:=(aF.ret (.d (iZ r)) [[.d (lC b)]])
abbrev kD (a:((List (List aA)))×(List aA)×Int) (res:Except (Int) (Unit)):Prop:=match a with|(s,b,x)=>cL X 215 (aP [1,0,1,0,0] (aQ Tryz.f215)) (aJ (X.H 215 2) 1) (aL 0 (X.H 215 1000000) 1 (lW X Tryz.f215 1 (eE b) (λ(_:Unit)=>(⟨[],[(0,[.d (lC b)])],1,[],none⟩:St)) res)) ⟨[(0,.d (.list 1 (List.map (kN 3 aC) s))),(1,.c (.fn 155 [0])),(7,.d (iZ (List.length s:Int))),(8,.d (iZ x))],[(0,[.d (lC b)])],1,[],none⟩
instance {a:((List (List aA)))×(List aA)×Int}:Ok (bQ a) (kD a):=⟨λh=>bQ.partial_correctness kD (by
 rintro P_ IH ⟨s,b,x⟩ res h
 have IH:=Ok.mk' IH
 have iE:fF Tryz.f215 1 _ (eE b):=⟨trivial⟩
 refine lg I ?_
 exact Wk) _ _ h⟩
instance {s:(List (List aA))} {b:(List aA)}:Ok (eH s b) λr=>bF X 215 [.d (.list 1 (List.map (kN 3 aC) s)),.fn 155 [0]] [[.d (lC b)]] ((eE b) r):=⟨λh=>by
 unfold eH at h
 exact aB (eE b) I Tryz.func215 I I I I I I λiE=>Wk⟩
abbrev kA (b:(List aA)) (r:Bool):aF:=(aF.ret (.d (.bool r)) [[.d (lC b)]])
instance {s:(List (List aA))} {b:(List aA)}:Ok (cI s b) λr=>bF X 154 [.d (.list 1 (List.map (kN 3 aC) s)),.fn 155 [0]] [[.d (lC b)]] ((kA b) r):=⟨λh=>by
 unfold cI at h
 exact aB (kA b) I Tryz.func154 I I I I I I λiE=>Wk⟩
abbrev Ae6 (a:Arr×LI×Nat×LI×((List (List aA)))×(List (List aA))×Int×(List aA)) (res:(List (List aA))×(List aA)):Prop:=match a with|(x,x0,x1,b,x2,kept,x3,out1)=>cL X 75 (aP [1,1,1,1,1,0,1,0,0] (aQ Tryz.f75)) (aJ (X.H 75 7) 4) (aL 0 (X.H 75 1000000) 4 (iL (λ((kept3,out12):(List (List aA))×(List aA))=>(⟨[(2,.c (.ptr 1 0)),(3,.c (.own 1 (List.map (kN 3 aC) kept3))),(4,.c (.ptr 3 0))],[(3,[.arr 2 x1 1,oC out12]),(1,[oI [],oC []]),(0,[.d (lI x0),.d (lC x.cells)]),(2,[.seq 1 (List.map (D.int .i64) b)])],4,[],none⟩:St)) res)) ⟨[(2,.c (.ptr 1 0)),(3,.c (.own 1 (List.map (kN 3 aC) kept))),(4,.c (.ptr 3 0)),(20,.d (.list 1 (List.map (kN 3 aC) x2))),(21,.d (iZ (List.length x2:Int))),(22,.d (iZ x3))],[(3,[.arr 2 x1 1,oC out1]),(1,[oI [],oC []]),(0,[.d (lI x0),.d (lC x.cells)]),(2,[.seq 1 (List.map (D.int .i64) b)])],4,[],none⟩
instance {a:Arr×LI×Nat×LI×((List (List aA)))×(List (List aA))×Int×(List aA)}:Ok (kV a) (Ae6 a):=⟨λh=>kV.partial_correctness Ae6 (by
 rintro P_ IH ⟨x,x0,x1,b,x2,kept,x3,out1⟩ res h
 have IH:=Ok.mk' IH
 refine lg I (ra I (S_ ?_))
 rcases E_ h with ⟨hc,h⟩|⟨hc,h⟩
 ·refine ct I hc (K_ (cn I (N_ (S_ ?_))))
  obtain⟨⟨kept2,out11⟩,hs,h⟩:=B h
  refine gI (λ((kept2,out11):(List (List aA))×(List aA))=>(⟨[(2,.c (.ptr 1 0)),(3,.c (.own 1 (List.map (kN 3 aC) kept2))),(4,.c (.ptr 3 0)),(20,.d (.list 1 (List.map (kN 3 aC) x2))),(21,.d (iZ (List.length x2:Int))),(22,.d (iZ x3))],[(3,[.arr 2 x1 1,oC out11]),(1,[oI [],oC []]),(0,[.d (lI x0),.d (lC x.cells)]),(2,[.seq 1 (List.map (D.int .i64) b)])],4,[],none⟩:St)) (y:=(kept2,out11)) ?_ ?_
  ·replace h:=hs
   refine W_ (S_ (rn 0 I ?_))
   obtain⟨y,hk,h⟩:=B h
   refine po (nQ (kN 3 aC) (λ_=>I) hk I I I I I) I I (on (nid':=5) 3 I (rz (S_ (rn 2 I ?_))))
   obtain⟨x4,hk,h⟩:=B h
   have hv:=Ok.ok hk
   refine po (AbN (nid':=5) (hv) I I I I I I I I I I I I) I I (on 1 I (rz ?_))
   rcases E_ h with ⟨hc,h⟩|⟨hc,h⟩
   ·refine ct I hc (S_ (rn 3 I ?_))
    obtain⟨kept1,hk,h⟩:=B h
    refine po (Bb2 hk I I I I I I I I I I I I I ) I I (on 1 I (rz (rn 3 I ?_)))
    obtain⟨l,hk,h⟩:=B h
    refine po (AgO hk I I I I I I I I I I I I I I ) I I (on 2 I (O_ (cn I (en I ?_))))
    cases h
    exact .ok I
   refine cf I hc (K_ (cn I (en I ?_)))
   cases h
   exact .ok I
  refine N_ (rn 2 I (O_ (cD.normal ?_)))
  have hv:=Ok.ok h
  exact bW I I hv
 ·refine cf I hc (X_ (fW.exit (kW.exit (cD.exit (eh I ?_)))))
  cases h
  exact .ok I
 ) _ _ h⟩
instance {a_:Arr}:Ok (vA a_) λr=>bF X 75 [.d (aI a_)] [] (aF.ret (.d (aI r)) []):=⟨λ{r} h=>by
 unfold vA at h
 refine kM (tm:=[(0,.d (aI a_))]) (hp:=[]) (n:=0) I Tryz.func75 I I I I I I (ra (nid':=2) I (S_ (rn 1 I ?_)))
 obtain⟨x,hk,h⟩:=B h
 have hv:=Ok.ok hk
 refine po (kJ (hv) I I I I I I I I I) I I (on 1 I (rz (S_ (S_ (rn 2 I (po (nR I I I I I I I) I I (on 1 I (rz ?_))))))))
 obtain⟨x0,hs,h⟩:=B h
 refine gI (λ(x0:LI)=>(⟨[(1,.c (.ptr 0 0)),(2,.c (.ptr 1 0))],[(1,[oI [],oC []]),(0,[.d (lI x0),.d (lC x.cells)])],2,[],none⟩:St)) (y:=x0) ?_ ?_
 ·replace h:=hs
  rcases E_ h with ⟨hc,h⟩|⟨hc,h⟩
  ·refine ct I hc (rn 3 I (O_ (cn I ?_)))
   cases h
   exact .ok I
  refine cf I hc (K_ (cn I ?_))
  cases h
  exact .ok I
 ·refine N_ (ra I (S_ (rn 2 I ?_)))
  obtain⟨⟨x1,b⟩,hk,h⟩:=B h
  have hv:=Ok.ok hk
  refine po (AbN (nid':=3) (hv) I I I I I I I I I I I I) I I (on (nid':=4) 3 I (rz (S_ (S_ (rn 1 I ?_)))))
  obtain⟨x2,hk,h⟩:=B h
  have hv:=Ok.ok hk
  refine po (kJ (hv) I I I I I I I I I) I I (po (nR I I I I I I I) I I (on 1 I (rz ?_)))
  obtain⟨⟨kept3,out12⟩,hs,h⟩:=B h
  refine gI (λ((kept3,out12):(List (List aA))×(List aA))=>(⟨[(2,.c (.ptr 1 0)),(3,.c (.own 1 (List.map (kN 3 aC) kept3))),(4,.c (.ptr 3 0))],[(3,[.arr 2 x1 1,oC out12]),(1,[oI [],oC []]),(0,[.d (lI x0),.d (lC x.cells)]),(2,[.seq 1 (List.map (D.int .i64) b)])],4,[],none⟩:St)) (y:=(kept3,out12)) ?_ ?_
  ·replace h:=hs
   refine W_ (dS ?_)
   have hv:=Ok.ok h
   exact bW I I hv
  ·refine N_ (S_ (rn 3 I (po (nR I I I I I I I) I I ?_)))
   obtain⟨j,hk,h⟩:=B h
   refine po (Aa1 hk I I I I I) I I ?_
   obtain⟨b1,hk,h⟩:=B h
   refine po (est (D.int .i64) (v:=(List.length kept3:Int)) hk I I (λ_=>⟨I,I,I⟩) I I I I) I I (rz (ra I (R_ ?_)))
   obtain⟨shape,hkFshape,h⟩:=B h
   cases h
   exact .retF I I (AcM I I I (mO I (mO (jA (D.int .i64) I hkFshape I I I) AcO)) AgP) I
 ⟩
abbrev AsM (r:Arr×Int):aF:=(aF.ret (.tuple [.d (aI r.1),.d (iZ r.2)]) [])
instance BiM:Jn 39 1 15 (Bool):=⟨λy=>[(15,.d (.bool y))],λy=>[]⟩
instance {op_:Int} {a_:Arr}:Ok (sB op_ a_) λr=>bF X 39 [.d (iZ op_),.d (aI a_)] [] (AsM r):=⟨λh=>by
 unfold sB at h
 exact aB AsM I Tryz.func39 I I I I I I λiE=>Wk⟩
abbrev AsK (r:Arr×Int):aF:=(aF.ret (.tuple [.d (aI r.1),.d (iZ r.2)]) [])
instance BiK:Jn 15 0 0 (Unit):=⟨λy=>[],λy=>[]⟩
instance {op_:Int} {a_:Arr}:Ok (Ab2 op_ a_) λr=>bF X 15 [.d (iZ op_),.d (aI a_)] [] (AsK r):=⟨λh=>by
 unfold Ab2 at h
 exact aB AsK I Tryz.func15 I I I I I I λiE=>Wk⟩
abbrev wX (r:LI×Int):aF:=(aF.ret (.tuple [.d (lI r.1),.d (iZ r.2)]) [])
abbrev AcU (a:LI×LI×Int) (res:Except (LI×Int) (Unit)):Prop:=match a with|(a_,b,x)=>cL X 107 (aP [1,1,0,1,0,0] (aQ Tryz.f107)) (aJ (X.H 107 8) 0) (aL 1 (X.H 107 1000001) 0 (lW X Tryz.f107 0 wX (λ(_:Unit)=>(⟨[(0,.d (lI a_))],[],0,[],none⟩:St)) res)) ⟨[(0,.d (lI a_)),(1,.d (lI b)),(26,.d (iZ (List.length a_:Int))),(27,.d (iZ x))],[],0,[],none⟩
instance {a:LI×LI×Int}:Ok (jR a) (AcU a):=⟨λh=>jR.partial_correctness AcU (by
 rintro P_ IH ⟨a_,b,x⟩ res h
 have IH:=Ok.mk' IH
 have iE:fF Tryz.f107 0 _ wX:=⟨trivial⟩
 refine lg I ?_
 exact Wk) _ _ h⟩
instance {a_:LI} {b:LI}:Ok (tD a_ b) λr=>bF X 107 [.d (lI a_),.d (lI b)] [] (wX r):=⟨λh=>by
 unfold tD at h
 exact aB wX I Tryz.func107 I I I I I I λiE=>Wk⟩
abbrev qM (r:Arr×Int):aF:=(aF.ret (.tuple [.d (aI r.1),.d (iZ r.2)]) [])
instance Bg9:Jn 47 1 88 (Int×Int×(List Arr)):=⟨λy=>[],λy=>[(12,[(0,.d (iZ y.1)),(1,.d (iZ y.2.1)),(2,.d (.list 2 (List.map aH y.2.2)))])]⟩
instance BgA:Jn 47 1 97 (Int×Int×(List Arr)):=⟨λy=>[],λy=>[(13,[(0,.d (iZ y.1)),(1,.d (iZ y.2.1)),(2,.d (.list 2 (List.map aH y.2.2)))])]⟩
instance BgB:Jn 47 1 70 (Int):=⟨λy=>[(13,.d (iZ y))],λy=>[]⟩
abbrev Ah2 (a:Int×Arr×Arr×Int) (res:Except (Arr×Int) (Unit)):Prop:=match a with|(op_,a_,b,x)=>cL X 47 (aP [1,0,1,0,0] (aQ Tryz.f47)) (aJ (X.H 47 2) 3) (aL 0 (X.H 47 1000000) 3 (lW X Tryz.f47 0 qM (λ(_:Unit)=>(⟨[(0,.d (iZ op_)),(4,.c (.ptr 0 0)),(5,.c (.ptr 1 0)),(6,.c (.ptr 2 0))],[(2,[oI [],oC []]),(1,[.d (lI b.shape),.d (lC b.cells)]),(0,[.d (lI a_.shape),.d (lC a_.cells)])],3,[],none⟩:St)) res)) ⟨[(0,.d (iZ op_)),(4,.c (.ptr 0 0)),(5,.c (.ptr 1 0)),(6,.c (.ptr 2 0)),(22,.c (.full 2 (List.map aH [a_,b]))),(23,.d (iZ (List.length [a_,b]:Int))),(24,.d (iZ x))],[(2,[oI [],oC []]),(1,[.d (lI b.shape),.d (lC b.cells)]),(0,[.d (lI a_.shape),.d (lC a_.cells)])],3,[],none⟩
instance {a:Int×Arr×Arr×Int}:Ok (lL a) (Ah2 a):=⟨λh=>lL.partial_correctness Ah2 (by
 rintro P_ IH ⟨op_,a_,b,x⟩ res h
 have IH:=Ok.mk' IH
 have iE:fF Tryz.f47 0 _ qM:=⟨trivial⟩
 refine lg I ?_
 exact Wk) _ _ h⟩
abbrev Ah3 (a:Int×Arr×Arr×LI×Int×(List aA)) (res:Except (Arr×Int) (List aA)):Prop:=match a with|(op_,a_,b,shape,x2,out1)=>cL X 47 (aP [1,1,1,1,1,1,1,1,1,0,1,0,0] (aQ Tryz.f47)) (aJ (X.H 47 20) 4) (aL 2 (X.H 47 1000002) 4 (lW X Tryz.f47 0 qM (λ(out11:(List aA))=>(⟨[(6,.c (.ptr 2 0)),(14,.c (.ptr 3 0))],[(3,[.d (lI shape),oC out11]),(2,[oI [],oC []]),(1,[.d (lI b.shape),.d (lC b.cells)]),(0,[.d (lI a_.shape),.d (lC a_.cells)])],4,[],none⟩:St)) res)) ⟨[(0,.d (iZ op_)),(4,.c (.ptr 0 0)),(5,.c (.ptr 1 0)),(6,.c (.ptr 2 0)),(14,.c (.ptr 3 0)),(73,.d (iZ 0)),(74,.d (iZ x2))],[(3,[.d (lI shape),oC out1]),(2,[oI [],oC []]),(1,[.d (lI b.shape),.d (lC b.cells)]),(0,[.d (lI a_.shape),.d (lC a_.cells)])],4,[],none⟩
instance {a:Int×Arr×Arr×LI×Int×(List aA)}:Ok (tE a) (Ah3 a):=⟨λh=>tE.partial_correctness Ah3 (by
 rintro P_ IH ⟨op_,a_,b,shape,x2,out1⟩ res h
 have IH:=Ok.mk' IH
 have iE:fF Tryz.f47 0 _ qM:=⟨trivial⟩
 refine lg I ?_
 exact Wk) _ _ h⟩
abbrev Ah4 (a:Int×Arr×Arr×LI×Int×Int×(List aA)) (res:Except (Arr×Int) (List aA)):Prop:=match a with|(op_,a_,b,shape,n,x4,out12)=>cL X 47 (aP [1,1,1,1,1,1,1,1,1,0,1,0,0] (aQ Tryz.f47)) (aJ (X.H 47 20) 4) (aL 2 (X.H 47 1000002) 4 (lW X Tryz.f47 0 qM (λ(out13:(List aA))=>(⟨[(6,.c (.ptr 2 0)),(14,.c (.ptr 3 0))],[(3,[.d (lI shape),oC out13]),(2,[oI [],oC []]),(1,[.d (lI b.shape),.d (lC b.cells)]),(0,[.d (lI a_.shape),.d (lC a_.cells)])],4,[],none⟩:St)) res)) ⟨[(0,.d (iZ op_)),(4,.c (.ptr 0 0)),(5,.c (.ptr 1 0)),(6,.c (.ptr 2 0)),(14,.c (.ptr 3 0)),(73,.d (iZ n)),(74,.d (iZ x4))],[(3,[.d (lI shape),oC out12]),(2,[oI [],oC []]),(1,[.d (lI b.shape),.d (lC b.cells)]),(0,[.d (lI a_.shape),.d (lC a_.cells)])],4,[],none⟩
instance {a:Int×Arr×Arr×LI×Int×Int×(List aA)}:Ok (nU a) (Ah4 a):=⟨λh=>nU.partial_correctness Ah4 (by
 rintro P_ IH ⟨op_,a_,b,shape,n,x4,out12⟩ res h
 have IH:=Ok.mk' IH
 have iE:fF Tryz.f47 0 _ qM:=⟨trivial⟩
 refine lg I ?_
 exact Wk) _ _ h⟩
instance {op_:Int} {a_:Arr} {b:Arr}:Ok (zR op_ a_ b) λr=>bF X 47 [.d (iZ op_),.d (aI a_),.d (aI b)] [] (qM r):=⟨λh=>by
 unfold zR at h
 exact aB qM I Tryz.func47 I I I I I I λiE=>Wk⟩
abbrev yN (r:Int):aF:=(aF.ret (.d (iZ r)) [])
abbrev AaH (a:LI×Int×Int) (res:Int):Prop:=match a with|(a_,m1,i)=>cL X 164 (aP [1,1,1,0,1,0,0] (aQ Tryz.f164)) (aJ (X.H 164 5) 0) (aL 0 (X.H 164 1000000) 0 (iL (λ(m2:Int)=>(⟨[(3,.d (iZ m2))],[],0,[],none⟩:St)) res)) ⟨[(0,.d (lI a_)),(3,.d (iZ m1)),(4,.d (iZ i))],[],0,[],none⟩
instance {a:LI×Int×Int}:Ok (gZ a) (AaH a):=⟨λh=>gZ.partial_correctness AaH (by
 rintro P_ IH ⟨a_,m1,i⟩ res h
 have IH:=Ok.mk' IH
 have iE:fF Tryz.f164 0 _ yN:=⟨trivial⟩
 refine lg I ?_
 exact Wk) _ _ h⟩
instance {a_:LI}:Ok (qL a_) λr=>bF X 164 [.d (lI a_)] [] (yN r):=⟨λh=>by
 unfold qL at h
 exact aB yN I Tryz.func164 I I I I I I λiE=>Wk⟩
abbrev vL (r:LI×Int):aF:=(aF.ret (.tuple [.d (lI r.1),.d (iZ r.2)]) [])
abbrev AbW (a:Arr×LI×Int) (res:Except (LI×Int) LI):Prop:=match a with|(s,shape1,x)=>cL X 95 (aP [1,1,1,0,1,0,0] (aQ Tryz.f95)) (aJ (X.H 95 5) 1) (aL 0 (X.H 95 1000000) 1 (lW X Tryz.f95 0 vL (λ(shape3:LI)=>(⟨[(4,.c (.own 1 (List.map (D.int .i64) shape3)))],[(0,[.d (lI s.shape),.d (lC s.cells)])],1,[],none⟩:St)) res)) ⟨[(4,.c (.own 1 (List.map (D.int .i64) shape1))),(16,.d (lC s.cells)),(17,.d (iZ (List.length s.cells:Int))),(18,.d (iZ x))],[(0,[.d (lI s.shape),.d (lC s.cells)])],1,[],none⟩
instance {a:Arr×LI×Int}:Ok (iR a) (AbW a):=⟨λh=>iR.partial_correctness AbW (by
 rintro P_ IH ⟨s,shape1,x⟩ res h
 have IH:=Ok.mk' IH
 have iE:fF Tryz.f95 0 _ vL:=⟨trivial⟩
 refine lg I ?_
 exact Wk) _ _ h⟩
instance {s:Arr}:Ok (rT s) λr=>bF X 95 [.d (aI s)] [] (vL r):=⟨λh=>by
 unfold rT at h
 exact aB vL I Tryz.func95 I I I I I I λiE=>Wk⟩
abbrev nN (r:Arr×Int):aF:=(aF.ret (.tuple [.d (aI r.1),.d (iZ r.2)]) [])
abbrev AaB (a:Arr×Arr×Int) (res:Except (Arr×Int) (Unit)):Prop:=match a with|(s,a_,x)=>cL X 44 (aP [1,0,1,0,0] (aQ Tryz.f44)) (aJ (X.H 44 2) 3) (aL 0 (X.H 44 1000000) 3 (lW X Tryz.f44 0 nN (λ(_:Unit)=>(⟨[(2,.c (.ptr 0 0)),(3,.c (.ptr 1 0)),(4,.c (.ptr 2 0))],[(2,[oI [],oC []]),(1,[.d (lI a_.shape),.d (lC a_.cells)]),(0,[.d (lI s.shape),.d (lC s.cells)])],3,[],none⟩:St)) res)) ⟨[(2,.c (.ptr 0 0)),(3,.c (.ptr 1 0)),(4,.c (.ptr 2 0)),(16,.c (.full 2 (List.map aH [s,a_]))),(17,.d (iZ (List.length [s,a_]:Int))),(18,.d (iZ x))],[(2,[oI [],oC []]),(1,[.d (lI a_.shape),.d (lC a_.cells)]),(0,[.d (lI s.shape),.d (lC s.cells)])],3,[],none⟩
instance {a:Arr×Arr×Int}:Ok (gV a) (AaB a):=⟨λh=>gV.partial_correctness AaB (by
 rintro P_ IH ⟨s,a_,x⟩ res h
 have IH:=Ok.mk' IH
 have iE:fF Tryz.f44 0 _ nN:=⟨trivial⟩
 refine lg I ?_
 exact Wk) _ _ h⟩
abbrev AaC (a:Arr×Arr×LI×Int×Int×(List aA)) (res:(List aA)):Prop:=match a with|(s,a_,shape,n,x1,out1)=>cL X 44 (aP [1,1,1,1,1,1,1,1,0,1,0,0] (aQ Tryz.f44)) (aJ (X.H 44 18) 4) (aL 2 (X.H 44 1000002) 4 (iL (λ(out11:(List aA))=>(⟨[(4,.c (.ptr 2 0)),(12,.c (.ptr 3 0))],[(3,[.d (lI shape),oC out11]),(2,[oI [],oC []]),(1,[.d (lI a_.shape),.d (lC a_.cells)]),(0,[.d (lI s.shape),.d (lC s.cells)])],4,[],none⟩:St)) res)) ⟨[(3,.c (.ptr 1 0)),(4,.c (.ptr 2 0)),(12,.c (.ptr 3 0)),(58,.d (iZ n)),(59,.d (iZ x1))],[(3,[.d (lI shape),oC out1]),(2,[oI [],oC []]),(1,[.d (lI a_.shape),.d (lC a_.cells)]),(0,[.d (lI s.shape),.d (lC s.cells)])],4,[],none⟩
instance {a:Arr×Arr×LI×Int×Int×(List aA)}:Ok (gW a) (AaC a):=⟨λh=>gW.partial_correctness AaC (by
 rintro P_ IH ⟨s,a_,shape,n,x1,out1⟩ res h
 have IH:=Ok.mk' IH
 have iE:fF Tryz.f44 0 _ nN:=⟨trivial⟩
 refine lg I ?_
 exact Wk) _ _ h⟩
abbrev AaD (a:Arr×Arr×LI×Int×Int×(List aA)) (res:(List aA)):Prop:=match a with|(s,a_,shape,n,x3,out12)=>cL X 44 (aP [1,1,1,1,1,1,1,1,0,1,0,0] (aQ Tryz.f44)) (aJ (X.H 44 18) 4) (aL 2 (X.H 44 1000002) 4 (iL (λ(out13:(List aA))=>(⟨[(4,.c (.ptr 2 0)),(12,.c (.ptr 3 0))],[(3,[.d (lI shape),oC out13]),(2,[oI [],oC []]),(1,[.d (lI a_.shape),.d (lC a_.cells)]),(0,[.d (lI s.shape),.d (lC s.cells)])],4,[],none⟩:St)) res)) ⟨[(3,.c (.ptr 1 0)),(4,.c (.ptr 2 0)),(12,.c (.ptr 3 0)),(58,.d (iZ n)),(59,.d (iZ x3))],[(3,[.d (lI shape),oC out12]),(2,[oI [],oC []]),(1,[.d (lI a_.shape),.d (lC a_.cells)]),(0,[.d (lI s.shape),.d (lC s.cells)])],4,[],none⟩
instance {a:Arr×Arr×LI×Int×Int×(List aA)}:Ok (mQ a) (AaD a):=⟨λh=>mQ.partial_correctness AaD (by
 rintro P_ IH ⟨s,a_,shape,n,x3,out12⟩ res h
 have IH:=Ok.mk' IH
 have iE:fF Tryz.f44 0 _ nN:=⟨trivial⟩
 refine lg I ?_
 exact Wk) _ _ h⟩
instance {s:Arr} {a_:Arr}:Ok (qG s a_) λr=>bF X 44 [.d (aI s),.d (aI a_)] [] (nN r):=⟨λh=>by
 unfold qG at h
 exact aB nN I Tryz.func44 I I I I I I λiE=>Wk⟩
abbrev AeP (r:Int):aF:=(aF.ret (.d (iZ r)) [])
abbrev AfP (a:Arr×LI×Int×Int) (res:Int):Prop:=match a with|(a_,l,n,x)=>cL X 168 (aP [1,1,0,1,0,0] (aQ Tryz.f168)) (aJ (X.H 168 3) 1) (aL 0 (X.H 168 1000000) 1 (iL (λ(n1:Int)=>(⟨[(3,.d (iZ n1))],[(0,[.d (lI a_.shape),.d (lC a_.cells)])],1,[],none⟩:St)) res)) ⟨[(3,.d (iZ n)),(8,.d (lI l)),(9,.d (iZ (List.length l:Int))),(10,.d (iZ x))],[(0,[.d (lI a_.shape),.d (lC a_.cells)])],1,[],none⟩
instance {a:Arr×LI×Int×Int}:Ok (mF a) (AfP a):=⟨λh=>mF.partial_correctness AfP (by
 rintro P_ IH ⟨a_,l,n,x⟩ res h
 have IH:=Ok.mk' IH
 have iE:fF Tryz.f168 0 _ AeP:=⟨trivial⟩
 refine lg I ?_
 exact Wk) _ _ h⟩
instance {a_:Arr}:Ok (rF a_) λr=>bF X 168 [.d (aI a_)] [] (AeP r):=⟨λh=>by
 unfold rF at h
 exact aB AeP I Tryz.func168 I I I I I I λiE=>Wk⟩
instance {a_:Arr} {from_:Int} {n:Int}:Ok (lE a_ from_ n) λr=>bF X 171 [.d (aI a_),.d (iZ from_),.d (iZ n)] [] (aF.ret (.d (aI r)) []):=⟨λ{r} h=>by
 unfold lE at h
 refine kM (tm:=[(0,.d (aI a_)),(1,.d (iZ from_)),(2,.d (iZ n))]) (hp:=[]) (n:=0) I Tryz.func171 I I I I I I (ra (nid':=2) I (S_ (rn 1 I ?_)))
 obtain⟨k,hk,h⟩:=B h
 have hv:=Ok.ok hk
 refine po (kJ (hv) I I I I I I I I I) I I (on 1 I (rz (S_ (drn (m:=15) 4 I I ?_))))
 obtain⟨l,hk,h⟩:=B h
 refine pd (Am6 hk I I I I I I) I I I I I ?_
 obtain⟨l1,hk,h⟩:=B h
 refine pd (AwV hk I I I I I I I I I I I I ) I I I I I (don 3 I ?_)
 obtain⟨l2,hk,h⟩:=B h
 refine pdm aC (aA.mk 0 0 []) hk I I I I I I I I I I I I I I I (don 3 I (dz (by kernel_rfl) (S_ (drn (m:=29) 12 I I ?_))))
 obtain⟨l3,hk,h⟩:=B h
 refine pd (AsP hk I I I I I I I) I I I I I ?_
 obtain⟨l4,hk,h⟩:=B h
 refine pd (Bi6 aC hk I I I I I I I I I I ) I I I I I (dz (by kernel_rfl) (ra I (R_ ?_)))
 obtain⟨cells,hkFcells,h⟩:=B h
 cases h
 exact .retF I I (AcM I I I (mO (jA aC I hkFcells I I I) (mO I AcO)) AgP) I
 ⟩
abbrev AiU (r:Arr):aF:=(aF.ret (.d (aI r)) [])
instance BdO:Jn 169 1 6 LI:=⟨λy=>[],λy=>[(0,[(0,.d (lI y))])]⟩
instance {a_:Arr}:Ok (iI a_) λr=>bF X 169 [.d (aI a_)] [] (AiU r):=⟨λh=>by
 unfold iI at h
 exact aB AiU I Tryz.func169 I I I I I I λiE=>Wk⟩
abbrev AnI (r:Arr):aF:=(aF.ret (.d (aI r)) [])
instance {n:Int} {a_:Arr}:Ok (zT n a_) λr=>bF X 104 [.d (iZ n),.d (aI a_)] [] (AnI r):=⟨λh=>by
 unfold zT at h
 exact aB AnI I Tryz.func104 I I I I I I λiE=>Wk⟩
abbrev zI (r:Arr×Int):aF:=(aF.ret (.tuple [.d (aI r.1),.d (iZ r.2)]) [])
abbrev AhC (a:Arr×Arr×Int) (res:Except (Arr×Int) (Unit)):Prop:=match a with|(l,a_,x)=>cL X 100 (aP [1,1,0,1,0,0] (aQ Tryz.f100)) (aJ (X.H 100 4) 3) (aL 0 (X.H 100 1000000) 3 (lW X Tryz.f100 0 zI (λ(_:Unit)=>(⟨[(2,.c (.ptr 0 0)),(3,.c (.ptr 1 0)),(4,.c (.ptr 2 0))],[(2,[oI [],oC []]),(1,[.d (lI a_.shape),.d (lC a_.cells)]),(0,[.d (lI l.shape),.d (lC l.cells)])],3,[],none⟩:St)) res)) ⟨[(2,.c (.ptr 0 0)),(3,.c (.ptr 1 0)),(4,.c (.ptr 2 0)),(31,.d (lC l.cells)),(32,.d (iZ (List.length l.cells:Int))),(33,.d (iZ x))],[(2,[oI [],oC []]),(1,[.d (lI a_.shape),.d (lC a_.cells)]),(0,[.d (lI l.shape),.d (lC l.cells)])],3,[],none⟩
instance {a:Arr×Arr×Int}:Ok (oD a) (AhC a):=⟨λh=>oD.partial_correctness AhC (by
 rintro P_ IH ⟨l,a_,x⟩ res h
 have IH:=Ok.mk' IH
 have iE:fF Tryz.f100 0 _ zI:=⟨trivial⟩
 refine lg I ?_
 exact Wk) _ _ h⟩
abbrev AhD (a:Arr×Arr×LI×Int×Int×(List aA)) (res:(List aA)):Prop:=match a with|(l,a_,l3,k,x2,out1)=>cL X 100 (aP [1,1,1,1,1,1,0,1,0,0] (aQ Tryz.f100)) (aJ (X.H 100 17) 14) (aL 3 (X.H 100 1000003) 14 (iL (λ(out11:(List aA))=>(⟨[(4,.c (.ptr 2 0)),(8,.c (.ptr 12 0))],[(12,[.d (lI l3),oC out11]),(2,[oI [],oC []]),(1,[.d (lI a_.shape),.d (lC a_.cells)]),(0,[.d (lI l.shape),.d (lC l.cells)])],14,[],none⟩:St)) res)) ⟨[(3,.c (.ptr 1 0)),(4,.c (.ptr 2 0)),(8,.c (.ptr 12 0)),(11,.d (iZ k)),(79,.d (lC l.cells)),(80,.d (iZ (List.length l.cells:Int))),(81,.d (iZ x2))],[(12,[.d (lI l3),oC out1]),(2,[oI [],oC []]),(1,[.d (lI a_.shape),.d (lC a_.cells)]),(0,[.d (lI l.shape),.d (lC l.cells)])],14,[],none⟩
instance {a:Arr×Arr×LI×Int×Int×(List aA)}:Ok (lP a) (AhD a):=⟨λh=>lP.partial_correctness AhD (by
 rintro P_ IH ⟨l,a_,l3,k,x2,out1⟩ res h
 have IH:=Ok.mk' IH
 have iE:fF Tryz.f100 0 _ zI:=⟨trivial⟩
 refine lg I ?_
 exact Wk) _ _ h⟩
instance {l:Arr} {a_:Arr}:Ok (wP l a_) λr=>bF X 100 [.d (aI l),.d (aI a_)] [] (zI r):=⟨λh=>by
 unfold wP at h
 exact aB zI I Tryz.func100 I I I I I I λiE=>Wk⟩
abbrev AdH (r:Arr):aF:=(aF.ret (.d (aI r)) [])
abbrev Ae5 (a:Arr×LI×Int×Int×(List aA)) (res:(List aA)):Prop:=match a with|(a_,shape,n,x1,out1)=>cL X 217 (aP [1,1,1,0,1,0,0] (aQ Tryz.f217)) (aJ (X.H 217 4) 3) (aL 0 (X.H 217 1000000) 3 (iL (λ(out11:(List aA))=>(⟨[(4,.c (.ptr 1 0)),(7,.c (.ptr 2 0))],[(2,[.d (lI shape),oC out11]),(1,[oI [],oC []]),(0,[.d (lI a_.shape),.d (lC a_.cells)])],3,[],none⟩:St)) res)) ⟨[(2,.c (.ptr 0 0)),(4,.c (.ptr 1 0)),(7,.c (.ptr 2 0)),(15,.d (iZ n)),(16,.d (iZ x1))],[(2,[.d (lI shape),oC out1]),(1,[oI [],oC []]),(0,[.d (lI a_.shape),.d (lC a_.cells)])],3,[],none⟩
instance {a:Arr×LI×Int×Int×(List aA)}:Ok (kU a) (Ae5 a):=⟨λh=>kU.partial_correctness Ae5 (by
 rintro P_ IH ⟨a_,shape,n,x1,out1⟩ res h
 have IH:=Ok.mk' IH
 have iE:fF Tryz.f217 0 _ AdH:=⟨trivial⟩
 refine lg I ?_
 exact Wk) _ _ h⟩
instance {a_:Arr} {shape:LI}:Ok (jN a_ shape) λr=>bF X 217 [.d (aI a_),.d (lI shape)] [] (AdH r):=⟨λh=>by
 unfold jN at h
 exact aB AdH I Tryz.func217 I I I I I I λiE=>Wk⟩
abbrev AnJ (r:LI):aF:=(aF.ret (.d (lI r)) [])
instance {shape:LI} {axis:Int}:Ok (eG shape axis) λr=>bF X 218 [.d (lI shape),.d (iZ axis)] [] (AnJ r):=⟨λh=>by
 unfold eG at h
 exact aB AnJ I Tryz.func218 I I I I I I λiE=>Wk⟩
abbrev AgL (r:LI):aF:=(aF.ret (.d (lI r)) [])
instance {shape:LI} {axis:Int}:Ok (cF shape axis) λr=>bF X 219 [.d (lI shape),.d (iZ axis)] [] (AgL r):=⟨λh=>by
 unfold cF at h
 exact aB AgL I Tryz.func219 I I I I I I λiE=>Wk⟩
abbrev wG (r:Arr×Arr×Int×Int):aF:=(aF.ret (.tuple [.d (aI r.1),.d (aI r.2.1),.d (iZ r.2.2.1),.d (iZ r.2.2.2)]) [])
instance BgF:Jn 167 1 29 (Int):=⟨λy=>[(10,.d (iZ y))],λy=>[]⟩
instance BgG:Jn 167 0 0 (LI×(List aA)×LI×(List aA)):=⟨λy=>[],λy=>[(0,[(0,.d (lI y.2.2.1)),(1,.d (lC y.2.2.2))]),(1,[(0,.d (lI y.1)),(1,.d (lC y.2.1))])]⟩
abbrev AhE (a:Int×LI×(List aA)×LI×(List aA)×LI×LI×Int) (res:Except (Arr×Arr×Int×Int) (Unit)):Prop:=match a with|(axis,x0,x11,x01,x12,x10,y,x13)=>cL X 167 (aP [1,1,1,1,1,1,0,1,0,0] (aQ Tryz.f167)) (aJ (X.H 167 19) 14) (aL 1 (X.H 167 1000001) 14 (lW X Tryz.f167 0 wG (λ(_:Unit)=>(⟨[(3,.c (.ptr 0 0)),(4,.c (.ptr 1 0)),(6,.c (.ptr 2 0)),(7,.c (.ptr 3 0)),(10,.d (iZ axis))],[(3,[oI [],oC []]),(2,[oI [],oC []]),(1,[.d (lI x0),.d (lC x11)]),(0,[.d (lI x01),.d (lC x12)])],14,[],none⟩:St)) res)) ⟨[(3,.c (.ptr 0 0)),(4,.c (.ptr 1 0)),(6,.c (.ptr 2 0)),(7,.c (.ptr 3 0)),(10,.d (iZ axis)),(12,.d (lI x10)),(13,.d (lI y)),(101,.d (iZ (List.length x10:Int))),(102,.d (iZ x13))],[(3,[oI [],oC []]),(2,[oI [],oC []]),(1,[.d (lI x0),.d (lC x11)]),(0,[.d (lI x01),.d (lC x12)])],14,[],none⟩
instance {a:Int×LI×(List aA)×LI×(List aA)×LI×LI×Int}:Ok (oE a) (AhE a):=⟨λh=>oE.partial_correctness AhE (by
 rintro P_ IH ⟨axis,x0,x11,x01,x12,x10,y,x13⟩ res h
 have IH:=Ok.mk' IH
 have iE:fF Tryz.f167 0 _ wG:=⟨trivial⟩
 refine lg I ?_
 exact Wk) _ _ h⟩
abbrev AhF (a:Int×LI×(List aA)×LI×(List aA)×LI×LI×Int) (res:Except (Arr×Arr×Int×Int) (Unit)):Prop:=match a with|(axis1,x02,x110,x03,x111,x22,y3,x23)=>cL X 167 (aP [1,1,1,1,1,1,0,1,0,0] (aQ Tryz.f167)) (aJ (X.H 167 19) 14) (aL 1 (X.H 167 1000001) 14 (lW X Tryz.f167 0 wG (λ(_:Unit)=>(⟨[(3,.c (.ptr 0 0)),(4,.c (.ptr 1 0)),(6,.c (.ptr 2 0)),(7,.c (.ptr 3 0)),(10,.d (iZ axis1))],[(3,[oI [],oC []]),(2,[oI [],oC []]),(1,[.d (lI x02),.d (lC x110)]),(0,[.d (lI x03),.d (lC x111)])],14,[],none⟩:St)) res)) ⟨[(3,.c (.ptr 0 0)),(4,.c (.ptr 1 0)),(6,.c (.ptr 2 0)),(7,.c (.ptr 3 0)),(10,.d (iZ axis1)),(12,.d (lI x22)),(13,.d (lI y3)),(101,.d (iZ (List.length x22:Int))),(102,.d (iZ x23))],[(3,[oI [],oC []]),(2,[oI [],oC []]),(1,[.d (lI x02),.d (lC x110)]),(0,[.d (lI x03),.d (lC x111)])],14,[],none⟩
instance {a:Int×LI×(List aA)×LI×(List aA)×LI×LI×Int}:Ok (oF a) (AhF a):=⟨λh=>oF.partial_correctness AhF (by
 rintro P_ IH ⟨axis1,x02,x110,x03,x111,x22,y3,x23⟩ res h
 have IH:=Ok.mk' IH
 have iE:fF Tryz.f167 0 _ wG:=⟨trivial⟩
 refine lg I ?_
 exact Wk) _ _ h⟩
instance {a_:Arr} {b:Arr} {last:Bool}:Ok (zU a_ b last) λr=>bF X 167 [.d (aI a_),.d (aI b),.d (.bool last)] [] (wG r):=⟨λh=>by
 unfold zU at h
 exact aB wG I Tryz.func167 I I I I I I λiE=>Wk⟩
abbrev Ae2 (a:Arr×Arr×Int×LI×LI×Int×Int) (res:Int):Prop:=match a with|(x,x1,axis,l2,l3,size,x3)=>cL X 99 (aP [1,1,1,1,1,1,1,0,1,0,0] (aQ Tryz.f99)) (aJ (X.H 99 11) 18) (aL 0 (X.H 99 1000000) 18 (iL (λ(size1:Int)=>(⟨[(3,.c (.ptr 0 0)),(4,.c (.ptr 1 0)),(6,.c (.ptr 2 0)),(8,.d (iZ axis)),(10,.c (.ptr 4 0)),(13,.d (iZ size1))],[(4,[.d (lI l2),oC []]),(2,[oI [],oC []]),(1,[.d (lI x1.shape),.d (lC x1.cells)]),(0,[.d (lI x.shape),.d (lC x.cells)])],18,[],none⟩:St)) res)) ⟨[(3,.c (.ptr 0 0)),(4,.c (.ptr 1 0)),(6,.c (.ptr 2 0)),(8,.d (iZ axis)),(10,.c (.ptr 4 0)),(13,.d (iZ size)),(73,.d (lI l3)),(74,.d (iZ (List.length l3:Int))),(75,.d (iZ x3))],[(4,[.d (lI l2),oC []]),(2,[oI [],oC []]),(1,[.d (lI x1.shape),.d (lC x1.cells)]),(0,[.d (lI x.shape),.d (lC x.cells)])],18,[],none⟩
instance {a:Arr×Arr×Int×LI×LI×Int×Int}:Ok (kS a) (Ae2 a):=⟨λh=>kS.partial_correctness Ae2 (by
 rintro P_ IH ⟨x,x1,axis,l2,l3,size,x3⟩ res h
 have IH:=Ok.mk' IH
 refine lg I (ra I (S_ ?_))
 rcases E_ h with ⟨hc,h⟩|⟨hc,h⟩
 ·refine ct I hc (K_ (cn I (N_ (S_ (W_ (S_ (rn 0 I ?_)))))))
  obtain⟨d,hk,h⟩:=B h
  refine po (nQ (D.int .i64) (λ_=>I) hk I I I I I) I I (on 2 I (rz (rn 4 I (O_ (en I (N_ (rn 2 I (O_ (cD.normal ?_)))))))))
  have hv:=Ok.ok h
  exact bW I I hv
 ·refine cf I hc (X_ (fW.exit (kW.exit (cD.exit (eh I ?_)))))
  cases h
  exact .ok I
 ) _ _ h⟩
abbrev Ae3 (a:Arr×Arr×LI×Int×Int×Int×LI×Int×Int) (res:Int):Prop:=match a with|(x,x1,l2,size1,y3,y4,l4,outer,x4)=>cL X 99 (aP [1,1,1,1,1,1,1,1,1,1,0,1,0,0] (aQ Tryz.f99)) (aJ (X.H 99 18) 34) (aL 2 (X.H 99 1000002) 34 (iL (λ(outer1:Int)=>(⟨[(3,.c (.ptr 0 0)),(4,.c (.ptr 1 0)),(6,.c (.ptr 2 0)),(10,.c (.ptr 4 0)),(16,.d (iZ (w64 (y3*size1)))),(17,.d (iZ (w64 (y4*size1)))),(18,.d (iZ outer1))],[(4,[.d (lI l2),oC []]),(2,[oI [],oC []]),(1,[.d (lI x1.shape),.d (lC x1.cells)]),(0,[.d (lI x.shape),.d (lC x.cells)])],34,[],none⟩:St)) res)) ⟨[(3,.c (.ptr 0 0)),(4,.c (.ptr 1 0)),(6,.c (.ptr 2 0)),(10,.c (.ptr 4 0)),(16,.d (iZ (w64 (y3*size1)))),(17,.d (iZ (w64 (y4*size1)))),(18,.d (iZ outer)),(100,.d (lI l4)),(101,.d (iZ (List.length l4:Int))),(102,.d (iZ x4))],[(4,[.d (lI l2),oC []]),(2,[oI [],oC []]),(1,[.d (lI x1.shape),.d (lC x1.cells)]),(0,[.d (lI x.shape),.d (lC x.cells)])],34,[],none⟩
instance {a:Arr×Arr×LI×Int×Int×Int×LI×Int×Int}:Ok (kT a) (Ae3 a):=⟨λh=>kT.partial_correctness Ae3 (by
 rintro P_ IH ⟨x,x1,l2,size1,y3,y4,l4,outer,x4⟩ res h
 have IH:=Ok.mk' IH
 refine lg I (ra I (S_ ?_))
 rcases E_ h with ⟨hc,h⟩|⟨hc,h⟩
 ·refine ct I hc (K_ (cn I (N_ (S_ (W_ (S_ (rn 0 I ?_)))))))
  obtain⟨d1,hk,h⟩:=B h
  refine po (nQ (D.int .i64) (λ_=>I) hk I I I I I) I I (on 2 I (rz (rn 4 I (O_ (en I (N_ (rn 2 I (O_ (cD.normal ?_)))))))))
  have hv:=Ok.ok h
  exact bW I I hv
 ·refine cf I hc (X_ (fW.exit (kW.exit (cD.exit (eh I ?_)))))
  cases h
  exact .ok I
 ) _ _ h⟩
abbrev Ae4 (a:Arr×Arr×LI×Int×Int×Int×Int×Int×(List aA)) (res:(List aA)):Prop:=match a with|(x,x1,l2,size1,y3,y4,outer1,x5,out1)=>cL X 99 (aP [1,1,1,1,1,1,1,1,1,1,1,0,1,0,0] (aQ Tryz.f99)) (aJ (X.H 99 23) 34) (aL 4 (X.H 99 1000004) 34 (iL (λ(out11:(List aA))=>(⟨[(6,.c (.ptr 2 0)),(10,.c (.ptr 4 0))],[(4,[.d (lI l2),oC out11]),(2,[oI [],oC []]),(1,[.d (lI x1.shape),.d (lC x1.cells)]),(0,[.d (lI x.shape),.d (lC x.cells)])],34,[],none⟩:St)) res)) ⟨[(3,.c (.ptr 0 0)),(4,.c (.ptr 1 0)),(6,.c (.ptr 2 0)),(10,.c (.ptr 4 0)),(16,.d (iZ (w64 (y3*size1)))),(17,.d (iZ (w64 (y4*size1)))),(110,.d (iZ outer1)),(111,.d (iZ x5))],[(4,[.d (lI l2),oC out1]),(2,[oI [],oC []]),(1,[.d (lI x1.shape),.d (lC x1.cells)]),(0,[.d (lI x.shape),.d (lC x.cells)])],34,[],none⟩
instance {a:Arr×Arr×LI×Int×Int×Int×Int×Int×(List aA)}:Ok (jF a) (Ae4 a):=⟨λh=>jF.partial_correctness Ae4 (by
 rintro P_ IH ⟨x,x1,l2,size1,y3,y4,outer1,x5,out1⟩ res h
 have IH:=Ok.mk' IH
 refine lg I (ra I (S_ ?_))
 rcases E_ h with ⟨hc,h⟩|⟨hc,h⟩
 ·refine ct I hc (K_ (cn I (N_ (S_ (W_ (ra I (drn (m:=60) 11 I I ?_)))))))
  obtain⟨l5,hk,h⟩:=B h
  refine pd (AsP hk I I I I I I I) I I I I I ?_
  obtain⟨l6,hk,h⟩:=B h
  refine pd (AgO hk I I I I I I I I I I I I I I ) I I I I I (don 9 I ?_)
  obtain⟨l7,hk,h⟩:=B h
  refine pd (AsP hk I I I I I I I) I I I I I ?_
  obtain⟨l8,hk,h⟩:=B h
  refine pd (AwW hk I I I I I I I I I I I I ) I I I I I (don 2 I (dz' (by kernel_rfl) (en I (N_ (rn 2 I (O_ (cD.normal ?_)))))))
  have hv:=Ok.ok h
  exact bW I I hv
 ·refine cf I hc (X_ (fW.exit (kW.exit (cD.exit (eh I ?_)))))
  cases h
  exact .ok I
 ) _ _ h⟩
instance {a_:Arr} {b:Arr} {last:Bool}:Ok (uY a_ b last) λr=>bF X 99 [.d (aI a_),.d (aI b),.d (.bool last)] [] (aF.ret (.tuple [.d (aI r.1),.d (iZ r.2)]) []):=⟨λ{r} h=>by
 unfold uY at h
 refine kM (tm:=[(0,.d (aI a_)),(1,.d (aI b)),(2,.d (.bool last))]) (hp:=[]) (n:=0) I Tryz.func99 I I I I I I (ra (nid':=3) I (S_ (rn 3 I ?_)))
 obtain⟨⟨x,x1,axis,e⟩,hk,h⟩:=B h
 have hv:=Ok.ok hk
 refine po (kJ (hv) I I I I I I I I I) I I (on 9 I (rz (S_ (ra I ?_))))
 rcases E_ h with ⟨hc,h⟩|⟨hc,h⟩
 ·refine ct I hc (ra I (R_ (C_ (Q_ ?_))))
  cases h
  exact .ret I I
 ·refine cf I hc (K_ (cn I (N_ (S_ (rnM (tm0:=[(32,.d (.bool (e != 0))),(31,.d (iZ e)),(3,.c (.ptr 0 0)),(4,.c (.ptr 1 0)),(6,.c (.ptr 2 0)),(8,.d (iZ axis)),(9,.d (iZ e))]) (hp0:=[(2,[oI [],oC []]),(1,[.d (lI x1.shape),.d (lC x1.cells)]),(0,[.d (lI x.shape),.d (lC x.cells)])]) (nid0:=3) I I I (mo (.of λ_=>I) I (λ_=>I) (s2:=⟨[(35,.c (.full 1 (List.map (D.int .i64) ([]:LI)))),(3,.c (.ptr 0 0)),(4,.c (.ptr 1 0)),(6,.c (.ptr 2 0)),(8,.d (iZ axis))],[(2,[oI [],oC []]),(1,[.d (lI x1.shape),.d (lC x1.cells)]),(0,[.d (lI x.shape),.d (lC x.cells)])],3,[],none⟩) I (mo (.of λ_=>I) I (λ_=>I) (s2:=⟨[(36,.c (.ptr 0 0)),(35,.c (.full 1 (List.map (D.int .i64) ([]:LI)))),(3,.c (.ptr 0 0)),(4,.c (.ptr 1 0)),(6,.c (.ptr 2 0)),(8,.d (iZ axis))],[(2,[oI [],oC []]),(1,[.d (lI x1.shape),.d (lC x1.cells)]),(0,[.d (lI x.shape),.d (lC x.cells)])],3,[],none⟩) I (mo (.of λ_=>I) I (λ_=>I) (s2:=⟨[(37,.d (lI x.shape)),(36,.c (.ptr 0 0)),(35,.c (.full 1 (List.map (D.int .i64) ([]:LI)))),(3,.c (.ptr 0 0)),(4,.c (.ptr 1 0)),(6,.c (.ptr 2 0)),(8,.d (iZ axis))],[(2,[oI [],oC []]),(1,[.d (lI x1.shape),.d (lC x1.cells)]),(0,[.d (lI x.shape),.d (lC x.cells)])],3,[],none⟩) I ?_))))))))
  obtain⟨l,hk,h⟩:=B h
  refine ms (BfQ (D.int .i64) hk I I I I I I (Ap1 (D.int .i64)) I I I I I I I I I ) I (s2:=⟨[(38,.c (.arr 3 (List.length l) 1)),(37,.d (lI x.shape)),(36,.c (.ptr 0 0)),(35,.c (.full 1 (List.map (D.int .i64) ([]:LI)))),(3,.c (.ptr 0 0)),(4,.c (.ptr 1 0)),(6,.c (.ptr 2 0)),(8,.d (iZ axis))],[(3,[.seq 1 (List.map (D.int .i64) l)]),(2,[oI [],oC []]),(1,[.d (lI x1.shape),.d (lC x1.cells)]),(0,[.d (lI x.shape),.d (lC x.cells)])],4,[],none⟩) I (mo (.of λ_=>I) I (λ_=>I) (s2:=⟨[(39,.vagg [.arr 3 (List.length l) 1,.nilsl 3]),(38,.c (.arr 3 (List.length l) 1)),(37,.d (lI x.shape)),(36,.c (.ptr 0 0)),(35,.c (.full 1 (List.map (D.int .i64) ([]:LI)))),(3,.c (.ptr 0 0)),(4,.c (.ptr 1 0)),(6,.c (.ptr 2 0)),(8,.d (iZ axis))],[(3,[.seq 1 (List.map (D.int .i64) l)]),(2,[oI [],oC []]),(1,[.d (lI x1.shape),.d (lC x1.cells)]),(0,[.d (lI x.shape),.d (lC x.cells)])],4,[],none⟩) I (mo (.of λ_=>I) I (λ_=>I) (s2:=⟨[(10,.c (.ptr 4 0)),(39,.vagg [.arr 3 (List.length l) 1,.nilsl 3]),(38,.c (.arr 3 (List.length l) 1)),(37,.d (lI x.shape)),(36,.c (.ptr 0 0)),(35,.c (.full 1 (List.map (D.int .i64) ([]:LI)))),(3,.c (.ptr 0 0)),(4,.c (.ptr 1 0)),(6,.c (.ptr 2 0)),(8,.d (iZ axis))],[(4,[oI [],oC []]),(3,[.seq 1 (List.map (D.int .i64) l)]),(2,[oI [],oC []]),(1,[.d (lI x1.shape),.d (lC x1.cells)]),(0,[.d (lI x.shape),.d (lC x.cells)])],5,[],none⟩) I (ms I I (s2:=⟨[(10,.c (.ptr 4 0)),(39,.vagg [.arr 3 (List.length l) 1,.nilsl 3]),(38,.c (.arr 3 (List.length l) 1)),(37,.d (lI x.shape)),(36,.c (.ptr 0 0)),(35,.c (.full 1 (List.map (D.int .i64) ([]:LI)))),(3,.c (.ptr 0 0)),(4,.c (.ptr 1 0)),(6,.c (.ptr 2 0)),(8,.d (iZ axis))],[(4,[.arr 3 (List.length l) 1,.nilsl 3]),(3,[.seq 1 (List.map (D.int .i64) l)]),(2,[oI [],oC []]),(1,[.d (lI x1.shape),.d (lC x1.cells)]),(0,[.d (lI x.shape),.d (lC x.cells)])],5,[],none⟩) I (mz (N_ (S_ (BkW (m:=18) 3 (tm0:=[(10,.c (.ptr 4 0)),(39,.vagg [.arr 3 (List.length l) 1,.nilsl 3]),(38,.c (.arr 3 (List.length l) 1)),(37,.d (lI x.shape)),(36,.c (.ptr 0 0)),(35,.c (.full 1 (List.map (D.int .i64) ([]:LI)))),(3,.c (.ptr 0 0)),(4,.c (.ptr 1 0)),(6,.c (.ptr 2 0)),(8,.d (iZ axis))]) (hp0:=[(4,[.arr 3 (List.length l) 1,oC []]),(3,[.seq 1 (List.map (D.int .i64) l)]),(2,[oI [],oC []]),(1,[.d (lI x1.shape),.d (lC x1.cells)]),(0,[.d (lI x.shape),.d (lC x.cells)])]) (nid0:=5) (Aj1 I (I) I) I I ?_)))))))
  obtain⟨j,hk,h⟩:=B h
  refine pd (Aa1 hk I I I I I) I I I I I ?_
  obtain⟨y,hk,h⟩:=B h
  refine pd (ApK (D.int .i64) hk I I (λ_=>⟨I,I,I⟩) I I) I I I I I (don 3 I ?_)
  obtain⟨y1,hk,h⟩:=B h
  refine pd (nQ (D.int .i64) (λ_=>I) hk I I I I I) I I I I I (don 2 I ?_)
  obtain⟨j1,hk,h⟩:=B h
  refine pd (Aa1 hk I I I I I) I I I I I ?_
  obtain⟨l1,hk,h⟩:=B h
  refine pd (est (D.int .i64) (v:=(w64 (y+y1))) hk I I (λ_=>⟨I,I,I⟩) I I I I) I I I I I (dz (by kernel_rfl) (S_ ?_))
  obtain⟨l2,hkFl2,h⟩:=B h
  refine S_ (rnF 2 (tm0:=[(51,.c (.ptr 3 (j1*1))),(50,.d (iZ (w64 (y+y1)))),(49,.d (iZ y1)),(48,.rptr (D.cells (iZ y1))),(47,.d (iZ axis)),(46,.d (lI x1.shape)),(45,.c (.ptr 1 0)),(44,.d (iZ y)),(43,.c (.ptr 3 (j*1))),(42,.d (iZ axis)),(41,.c (.arr 3 (List.length l) 1)),(40,.c (.ptr 4 0)),(3,.c (.ptr 0 0)),(4,.c (.ptr 1 0)),(6,.c (.ptr 2 0)),(8,.d (iZ axis)),(10,.c (.ptr 4 0))]) (hp0:=[(4,[.d (lI l2),oC []]),(2,[oI [],oC []]),(1,[.d (lI x1.shape),.d (lC x1.cells)]),(0,[.d (lI x.shape),.d (lC x.cells)])]) (nid0:=18) (Aj1 I (gC (b0:=4) (off:=0) I (jA (D.int .i64) I hkFl2 I I I)) I) I ?_)
  obtain⟨⟨x2,e1⟩,hk,h⟩:=B h
  have hv:=Ok.ok hk
  refine po (kJ (hv) I I I I I I I I I) I I (on 5 I (rz (S_ (rn 3 I ?_))))
  rcases E_ h with ⟨hc,h⟩|⟨hc,h⟩
  ·refine gt I I I I hc I (on 7 I (rz (ct I I (ra I (R_ (C_ (Q_ ?_)))))))
   cases h
   exact .ret I I
  ·refine gf I I I I hc I (on 3 I ?_)
   obtain⟨y2,hk,h⟩:=B h
   refine po (nQ (D.int .i64) (λ_=>I) hk I I I I I) I I (on 3 I (rz ?_))
   rcases E_ h with ⟨hc,h⟩|⟨hc,h⟩
   ·refine ct I hc (ra I (R_ (C_ (Q_ ?_))))
    cases h
    exact .ret I I
   ·refine cf I hc (K_ (cn I (N_ (ra I (S_ (S_ (rn 4 I ?_)))))))
    obtain⟨l3,hk,h⟩:=B h
    refine po (Am6 hk I I I I I I) I I (po (nR I I I I I I I) I I (on 1 I (rz ?_)))
    obtain⟨size1,hs,h⟩:=B h
    refine gI (λ(size1:Int)=>(⟨[(3,.c (.ptr 0 0)),(4,.c (.ptr 1 0)),(6,.c (.ptr 2 0)),(8,.d (iZ axis)),(10,.c (.ptr 4 0)),(13,.d (iZ size1))],[(4,[.d (lI l2),oC []]),(2,[oI [],oC []]),(1,[.d (lI x1.shape),.d (lC x1.cells)]),(0,[.d (lI x.shape),.d (lC x.cells)])],18,[],none⟩:St)) (y:=size1) ?_ ?_
    ·replace h:=hs
     refine W_ (dS ?_)
     have hv:=Ok.ok h
     exact bW I I hv
    ·refine N_ (S_ (drn (m:=34) 3 I I ?_))
     obtain⟨y3,hk,h⟩:=B h
     refine pd (nQ (D.int .i64) (λ_=>I) hk I I I I I) I I I I I (don 6 I ?_)
     obtain⟨y4,hk,h⟩:=B h
     refine pd (nQ (D.int .i64) (λ_=>I) hk I I I I I) I I I I I (don 5 I (dz (by kernel_rfl) (ra I (S_ (S_ (rn 3 I ?_))))))
     obtain⟨l4,hk,h⟩:=B h
     refine po (BgT hk I I I I I I) I I (po (nR I I I I I I I) I I (on 1 I (rz ?_)))
     obtain⟨outer1,hs,h⟩:=B h
     refine gI (λ(outer1:Int)=>(⟨[(3,.c (.ptr 0 0)),(4,.c (.ptr 1 0)),(6,.c (.ptr 2 0)),(10,.c (.ptr 4 0)),(16,.d (iZ (w64 (y3*size1)))),(17,.d (iZ (w64 (y4*size1)))),(18,.d (iZ outer1))],[(4,[.d (lI l2),oC []]),(2,[oI [],oC []]),(1,[.d (lI x1.shape),.d (lC x1.cells)]),(0,[.d (lI x.shape),.d (lC x.cells)])],34,[],none⟩:St)) (y:=outer1) ?_ ?_
     ·replace h:=hs
      refine W_ (dS ?_)
      have hv:=Ok.ok h
      exact bW I I hv
     ·refine N_ (S_ (ra I ?_))
      obtain⟨out11,hs,h⟩:=B h
      refine gI (λ(out11:(List aA))=>(⟨[(6,.c (.ptr 2 0)),(10,.c (.ptr 4 0))],[(4,[.d (lI l2),oC out11]),(2,[oI [],oC []]),(1,[.d (lI x1.shape),.d (lC x1.cells)]),(0,[.d (lI x.shape),.d (lC x.cells)])],34,[],none⟩:St)) (y:=out11) ?_ ?_
      ·replace h:=hs
       refine W_ (dS ?_)
       have hv:=Ok.ok h
       exact bW I I hv
      ·refine N_ (ra I (R_ ?_))
       cases h
       exact .ret I I
 ⟩
abbrev AiV (r:Int×Int):aF:=(aF.ret (.tuple [.d (iZ r.1),.d (iZ r.2)]) [])
instance {a_:Arr}:Ok (uZ a_) λr=>bF X 102 [.d (aI a_)] [] (AiV r):=⟨λh=>by
 unfold uZ at h
 exact aB AiV I Tryz.func102 I I I I I I λiE=>Wk⟩
abbrev tU (r:LI×Int):aF:=(aF.ret (.tuple [.d (lI r.1),.d (iZ r.2)]) [])
abbrev AfQ (a:Arr×Int×Int) (res:Except (LI×Int) (Unit)):Prop:=match a with|(m,n,x)=>cL X 170 (aP [1,1,0,1,0,0] (aQ Tryz.f170)) (aJ (X.H 170 4) 1) (aL 0 (X.H 170 1000000) 1 (lW X Tryz.f170 0 tU (λ(_:Unit)=>(⟨[(1,.d (iZ n)),(2,.c (.ptr 0 0))],[(0,[.d (lI m.shape),.d (lC m.cells)])],1,[],none⟩:St)) res)) ⟨[(1,.d (iZ n)),(2,.c (.ptr 0 0)),(17,.d (lC m.cells)),(18,.d (iZ (List.length m.cells:Int))),(19,.d (iZ x))],[(0,[.d (lI m.shape),.d (lC m.cells)])],1,[],none⟩
instance {a:Arr×Int×Int}:Ok (mG a) (AfQ a):=⟨λh=>mG.partial_correctness AfQ (by
 rintro P_ IH ⟨m,n,x⟩ res h
 have IH:=Ok.mk' IH
 refine lg I (ra I (S_ ?_))
 rcases E_ h with ⟨hc,h⟩|⟨hc,h⟩
 ·refine ct I hc (K_ (cn I (N_ (S_ (W_ (S_ (rn 0 I ?_)))))))
  obtain⟨y,hk,h⟩:=B h
  refine po (nQ aC (λ_=>I) hk I I I I I) I I (on (nid':=2) 3 I (rz (S_ (rn 4 I ?_))))
  rcases E_ h with ⟨hc,h⟩|⟨hc,h⟩
  ·refine gt I I I I hc I (on 4 I (rz (ct I I (ra I (R_ (C_ (aL.ret (Q_ (cD.ret (aL.ret ?_))))))))))
   cases h
   exact .err I (.ret I I)
  refine gf I I I I hc I (on 4 I (rz ?_))
  rcases E_ h with ⟨hc,h⟩|⟨hc,h⟩
  ·refine ct I hc (ra I (R_ (C_ (aL.ret (Q_ (cD.ret (aL.ret ?_)))))))
   cases h
   exact .err I (.ret I I)
  refine cf I hc (K_ (cn I (en I (N_ (rn 2 I (O_ (cD.normal ?_)))))))
  have hv:=Ok.ok h
  exact bW I I hv
 ·refine cf I hc (X_ (fW.exit (kW.exit (cD.exit (eh I ?_)))))
  cases h
  exact .ok I
 ) _ _ h⟩
abbrev AfR (a:Arr×Int×Int×Int×LI) (res:Except (LI×Int) LI):Prop:=match a with|(m,n,all,x1,l1)=>cL X 170 (aP [1,1,1,1,1,0,1,0,0] (aQ Tryz.f170)) (aJ (X.H 170 13) 2) (aL 2 (X.H 170 1000002) 2 (lW X Tryz.f170 0 tU (λ(l3:LI)=>(⟨[(8,.c (.arr 1 (Int.toNat n) 1))],[(1,[.seq 1 (List.map (D.int .i64) l3)]),(0,[.d (lI m.shape),.d (lC m.cells)])],2,[],none⟩:St)) res)) ⟨[(2,.c (.ptr 0 0)),(8,.c (.arr 1 (Int.toNat n) 1)),(9,.d (iZ all)),(46,.d (iZ ((Int.toNat n):Int))),(47,.d (iZ x1))],[(1,[.seq 1 (List.map (D.int .i64) l1)]),(0,[.d (lI m.shape),.d (lC m.cells)])],2,[],none⟩
instance {a:Arr×Int×Int×Int×LI}:Ok (mH a) (AfR a):=⟨λh=>mH.partial_correctness AfR (by
 rintro P_ IH ⟨m,n,all,x1,l1⟩ res h
 have IH:=Ok.mk' IH
 refine lg I (ra I (S_ ?_))
 rcases E_ h with ⟨hc,h⟩|⟨hc,h⟩
 ·refine ct I hc (K_ (cn I (N_ (S_ (W_ (ra I (S_ (rn 2 I ?_))))))))
  obtain⟨y1,hk,h⟩:=B h
  refine po (nQ aC (λ_=>I) hk I I I I I) I I (on (nid':=3) 3 I (rz (S_ (S_ (rn 2 I (po (nR I I I I I I I) I I (on 1 I (rz ?_))))))))
  obtain⟨⟨c0,c1,c2⟩,hs,h⟩:=B h
  refine gI (λ((c0,c1,c2):Int×Int×(List Arr))=>(⟨[(2,.c (.ptr 0 0)),(8,.c (.arr 1 (Int.toNat n) 1)),(9,.d (iZ all)),(10,.d (iZ x1)),(11,.c (.ptr 2 0)),(46,.d (iZ ((Int.toNat n):Int))),(47,.d (iZ x1))],[(2,[.d (iZ c0),.d (iZ c1),.d (.list 2 (List.map aH c2))]),(1,[.seq 1 (List.map (D.int .i64) l1)]),(0,[.d (lI m.shape),.d (lC m.cells)])],3,[],none⟩:St)) (y:=(c0,c1,c2)) ?_ ?_
  ·replace h:=hs
   rcases E_ h with ⟨hc,h⟩|⟨hc,h⟩
   ·refine ct I hc (rn 3 I ?_)
    obtain⟨y2,hk,h⟩:=B h
    refine po (nQ aC (λ_=>I) hk I I I I I) I I (on 2 I (O_ (cn I ?_)))
    cases h
    exact .ok I
   refine cf I hc (K_ (cn I ?_))
   cases h
   exact .ok I
  refine N_ (S_ (ra I ?_))
  rcases E_ h with ⟨hc,h⟩|⟨hc,h⟩
  ·refine ct I hc (ra I (R_ (C_ (Q_ (aL.ret (Q_ (cD.ret (aL.ret ?_))))))))
   cases h
   exact .err I (.ret I I)
  refine cf I hc (K_ (cn I (N_ (S_ (rn 4 I ?_)))))
  obtain⟨j,hk,h⟩:=B h
  refine po (Aa1 hk I I I I I) I I ?_
  obtain⟨l2,hk,h⟩:=B h
  refine po (est (D.int .i64) (v:=c1) hk I I (λ_=>⟨I,I,I⟩) I I I I) I I (rz (rn 3 I ?_))
  obtain⟨j1,hk,h⟩:=B h
  refine po (Aa1 hk I I I I I) I I ?_
  obtain⟨y3,hk,h⟩:=B h
  refine po (ApK (D.int .i64) hk I I (λ_=>⟨I,I,I⟩) I I) I I (on 2 I (O_ (en I (N_ (rn 2 I (O_ (cD.normal ?_)))))))
  have hv:=Ok.ok h
  exact bW I I hv
 ·refine cf I hc (X_ (fW.exit (kW.exit (cD.exit (eh I ?_)))))
  cases h
  exact .ok I
 ) _ _ h⟩
abbrev AfS (a:Arr×Int×Int×Int×LI) (res:Except (LI×Int) LI):Prop:=match a with|(m,n,all1,x2,l6)=>cL X 170 (aP [1,1,1,1,1,0,1,0,0] (aQ Tryz.f170)) (aJ (X.H 170 13) 2) (aL 2 (X.H 170 1000002) 2 (lW X Tryz.f170 0 tU (λ(l8:LI)=>(⟨[(8,.c (.arr 1 (Int.toNat n) 1))],[(1,[.seq 1 (List.map (D.int .i64) l8)]),(0,[.d (lI m.shape),.d (lC m.cells)])],2,[],none⟩:St)) res)) ⟨[(2,.c (.ptr 0 0)),(8,.c (.arr 1 (Int.toNat n) 1)),(9,.d (iZ all1)),(46,.d (iZ ((Int.toNat n):Int))),(47,.d (iZ x2))],[(1,[.seq 1 (List.map (D.int .i64) l6)]),(0,[.d (lI m.shape),.d (lC m.cells)])],2,[],none⟩
instance {a:Arr×Int×Int×Int×LI}:Ok (mI a) (AfS a):=⟨λh=>mI.partial_correctness AfS (by
 rintro P_ IH ⟨m,n,all1,x2,l6⟩ res h
 have IH:=Ok.mk' IH
 refine lg I (ra I (S_ ?_))
 rcases E_ h with ⟨hc,h⟩|⟨hc,h⟩
 ·refine ct I hc (K_ (cn I (N_ (S_ (W_ (ra I (S_ (rn 2 I ?_))))))))
  obtain⟨y4,hk,h⟩:=B h
  refine po (nQ aC (λ_=>I) hk I I I I I) I I (on (nid':=3) 3 I (rz (S_ (S_ (rn 2 I (po (nR I I I I I I I) I I (on 1 I (rz ?_))))))))
  obtain⟨⟨c01,c11,c21⟩,hs,h⟩:=B h
  refine gI (λ((c01,c11,c21):Int×Int×(List Arr))=>(⟨[(2,.c (.ptr 0 0)),(8,.c (.arr 1 (Int.toNat n) 1)),(9,.d (iZ all1)),(10,.d (iZ x2)),(11,.c (.ptr 2 0)),(46,.d (iZ ((Int.toNat n):Int))),(47,.d (iZ x2))],[(2,[.d (iZ c01),.d (iZ c11),.d (.list 2 (List.map aH c21))]),(1,[.seq 1 (List.map (D.int .i64) l6)]),(0,[.d (lI m.shape),.d (lC m.cells)])],3,[],none⟩:St)) (y:=(c01,c11,c21)) ?_ ?_
  ·replace h:=hs
   rcases E_ h with ⟨hc,h⟩|⟨hc,h⟩
   ·refine ct I hc (rn 3 I ?_)
    obtain⟨y5,hk,h⟩:=B h
    refine po (nQ aC (λ_=>I) hk I I I I I) I I (on 2 I (O_ (cn I ?_)))
    cases h
    exact .ok I
   refine cf I hc (K_ (cn I ?_))
   cases h
   exact .ok I
  refine N_ (S_ (ra I ?_))
  rcases E_ h with ⟨hc,h⟩|⟨hc,h⟩
  ·refine ct I hc (ra I (R_ (C_ (Q_ (aL.ret (Q_ (cD.ret (aL.ret ?_))))))))
   cases h
   exact .err I (.ret I I)
  refine cf I hc (K_ (cn I (N_ (S_ (rn 4 I ?_)))))
  obtain⟨j2,hk,h⟩:=B h
  refine po (Aa1 hk I I I I I) I I ?_
  obtain⟨l7,hk,h⟩:=B h
  refine po (est (D.int .i64) (v:=c11) hk I I (λ_=>⟨I,I,I⟩) I I I I) I I (rz (rn 3 I ?_))
  obtain⟨j3,hk,h⟩:=B h
  refine po (Aa1 hk I I I I I) I I ?_
  obtain⟨y6,hk,h⟩:=B h
  refine po (ApK (D.int .i64) hk I I (λ_=>⟨I,I,I⟩) I I) I I (on 2 I (O_ (en I (N_ (rn 2 I (O_ (cD.normal ?_)))))))
  have hv:=Ok.ok h
  exact bW I I hv
 ·refine cf I hc (X_ (fW.exit (kW.exit (cD.exit (eh I ?_)))))
  cases h
  exact .ok I
 ) _ _ h⟩
instance {m:Arr} {n:Int}:Ok (xT m n) λr=>bF X 170 [.d (aI m),.d (iZ n)] [] (aF.ret (.tuple [.d (lI r.1),.d (iZ r.2)]) []):=⟨λ{r} h=>by
 unfold xT at h
 refine kM (tm:=[(0,.d (aI m)),(1,.d (iZ n))]) (hp:=[]) (n:=0) I Tryz.func170 I I I I I I (ra (nid':=1) I (S_ (S_ (rn 2 I (po (nR I I I I I I I) I I (on 1 I (rz ?_)))))))
 rcases E_ h with ⟨hc,h⟩|⟨hc,h⟩
 ·refine ct I hc (ra I (R_ (C_ (Q_ ?_))))
  cases h
  exact .ret I I
 ·refine cf I hc (K_ (cn I (N_ (S_ (S_ (rn 2 I (po (nR I I I I I I I) I I (on 1 I (rz ?_)))))))))
  obtain⟨res,hs,h⟩:=B h
  refine vI Tryz.f170 0 tU (λ(_:Unit)=>(⟨[(1,.d (iZ n)),(2,.c (.ptr 0 0))],[(0,[.d (lI m.shape),.d (lC m.cells)])],1,[],none⟩:St)) (res:=res) ?_ (λy hy=>?_) (λr x s' hr hx he=>?_)
  ·replace h:=hs
   refine W_ (dS ?_)
   have hv:=Ok.ok h
   exact bW I I hv
  ·subst hy
   refine N_ (S_ (S_ (rn 2 I (po (nR I I I I I I I) I I (on 2 I ?_)))))
   rcases E_ h with ⟨hc,h⟩|⟨hc,h⟩
   ·refine gt I I I I hc I (on 2 I (po (nR I I I I I I I) I I (on 3 I (rz ?_))))
    rcases E_ h with ⟨hc,h⟩|⟨hc,h⟩
    ·refine ct I hc (ra I (R_ (C_ (Q_ ?_))))
     cases h
     exact .ret I I
    refine cf I hc (K_ (cn I (N_ (S_ (rn 1 I ?_)))))
    obtain⟨l,hk,h⟩:=B h
    refine po (Am7 (nid':=2) (D.int .i64) 0 hk I I I I I I I I I I I I ) I I (on (nid':=2) 2 I (rz (S_ (ra I ?_))))
    obtain⟨res,hs,h⟩:=B h
    refine vI Tryz.f170 0 tU (λ(l3:LI)=>(⟨[(8,.c (.arr 1 (Int.toNat n) 1))],[(1,[.seq 1 (List.map (D.int .i64) l3)]),(0,[.d (lI m.shape),.d (lC m.cells)])],2,[],none⟩:St)) (res:=res) ?_ (λy hy=>?_) (λr x s' hr hx he=>?_)
    ·replace h:=hs
     refine W_ (dS ?_)
     have hv:=Ok.ok h
     exact bW I I hv
    ·subst hy
     obtain l3:=y
     refine N_ ?_
     obtain⟨l4,hkFl4,h⟩:=B h
     refine S_ (rnF 3 (tm0:=[(8,.d (lI l4)),(8,.c (.arr 1 (Int.toNat n) 1))]) (hp0:=[(0,[.d (lI m.shape),.d (lC m.cells)])]) (nid0:=2) (Aj1 I (gT (t:=8) I I I (AuQ (AgT (D.int .i64) hkFl4 I)) I I) I) I (rz (R_ ?_)))
     cases h
     exact .ret I I
    subst hr
    refine kW.out hx ?_
    cases h
    exact he
   refine gf I I I I hc I (on 6 I (rz (cf I I (K_ (cn I (N_ (S_ (rn 1 I ?_))))))))
   obtain⟨l5,hk,h⟩:=B h
   refine po (Am7 (nid':=2) (D.int .i64) 0 hk I I I I I I I I I I I I ) I I (on (nid':=2) 2 I (rz (S_ (ra I ?_))))
   obtain⟨res,hs,h⟩:=B h
   refine vI Tryz.f170 0 tU (λ(l8:LI)=>(⟨[(8,.c (.arr 1 (Int.toNat n) 1))],[(1,[.seq 1 (List.map (D.int .i64) l8)]),(0,[.d (lI m.shape),.d (lC m.cells)])],2,[],none⟩:St)) (res:=res) ?_ (λy hy=>?_) (λr x s' hr hx he=>?_)
   ·replace h:=hs
    refine W_ (dS ?_)
    have hv:=Ok.ok h
    exact bW I I hv
   ·subst hy
    obtain l8:=y
    refine N_ ?_
    obtain⟨l9,hkFl9,h⟩:=B h
    refine S_ (rnF 3 (tm0:=[(8,.d (lI l9)),(8,.c (.arr 1 (Int.toNat n) 1))]) (hp0:=[(0,[.d (lI m.shape),.d (lC m.cells)])]) (nid0:=2) (Aj1 I (gT (t:=8) I I I (AuQ (AgT (D.int .i64) hkFl9 I)) I I) I) I (rz (R_ ?_)))
    cases h
    exact .ret I I
   subst hr
   refine kW.out hx ?_
   cases h
   exact he
  ·subst hr
   refine kW.out hx ?_
   cases h
   exact he
 ⟩
end Go.AM.Seat
