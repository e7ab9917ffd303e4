/- Part of a proof about the given program: the abstract machine, the printed functions, the plain laws. -/
import Derived.Test.YtbillkiljpkdfaaGreatRunBoundA5
set_option linter.all false
set_option maxRecDepth 100000
set_option maxHeartbeats 4000000
namespace Go.AM.Seat
open Go Go.AM Go.Proofs
abbrev AdJ (a:Arr×Arr×Int×LI×LI×Int×Int) (res:Int):Prop:=match a with|(x,x1,axis,l2,l3,size,x3)=>cG X 99 (aM [1,1,1,1,1,1,1,0,1,0,0] (aQ Tryz.f99)) (aH (X.H 99 11) 18) (aK 0 (X.H 99 1000000) 18 (iW (λ(size1:Int)=>(⟨[(3,.c (.ptr 0 0)),(4,.c (.ptr 1 0)),(6,.c (.ptr 2 0)),(8,.d (iZ axis)),(10,.c (.ptr 4 0)),(13,.d (iZ size1))],[(4,[.d (lI l2),oC []]),(2,[oI [],oC []]),(1,[.d (lI x1.shape),.d (lC x1.cells)]),(0,[.d (lI x.shape),.d (lC x.cells)])],18,[],none⟩:St)) res)) ⟨[(3,.c (.ptr 0 0)),(4,.c (.ptr 1 0)),(6,.c (.ptr 2 0)),(8,.d (iZ axis)),(10,.c (.ptr 4 0)),(13,.d (iZ size)),(73,.d (lI l3)),(74,.d (iZ (List.length l3:Int))),(75,.d (iZ x3))],[(4,[.d (lI l2),oC []]),(2,[oI [],oC []]),(1,[.d (lI x1.shape),.d (lC x1.cells)]),(0,[.d (lI x.shape),.d (lC x.cells)])],18,[],none⟩
instance {a:Arr×Arr×Int×LI×LI×Int×Int}:Ok (kF a) (AdJ a):=⟨λh=>kF.partial_correctness AdJ (by
 rintro P_ IH ⟨x,x1,axis,l2,l3,size,x3⟩ res h
 have IH:=Ok.mk' IH
 refine lg I (ra I (S_ ?_))
 rcases E_ h with ⟨hc,h⟩|⟨hc,h⟩
 ·refine ct I hc (K_ (cn I (N_ (S_ (W_ (S_ (rn 0 I ?_)))))))
  obtain⟨d,hk,h⟩:=B h
  refine po (nB (D.int .i64) (λ_=>I) hk I I I I I) I I (on 2 I (rz (rn 4 I (O_ (en I (N_ (rn 2 I (O_ (cL.normal ?_)))))))))
  have hv:=Ok.ok h
  exact cB I I hv
 ·refine cf I hc (X_ (fQ.exit (lE.exit (cL.exit (eh I ?_)))))
  cases h
  exact .ok I
 ) _ _ h⟩
abbrev AdK (a:Arr×Arr×LI×Int×Int×Int×LI×Int×Int) (res:Int):Prop:=match a with|(x,x1,l2,size1,y3,y4,l4,outer,x4)=>cG X 99 (aM [1,1,1,1,1,1,1,1,1,1,0,1,0,0] (aQ Tryz.f99)) (aH (X.H 99 18) 34) (aK 2 (X.H 99 1000002) 34 (iW (λ(outer1:Int)=>(⟨[(3,.c (.ptr 0 0)),(4,.c (.ptr 1 0)),(6,.c (.ptr 2 0)),(10,.c (.ptr 4 0)),(16,.d (iZ (w64 (y3*size1)))),(17,.d (iZ (w64 (y4*size1)))),(18,.d (iZ outer1))],[(4,[.d (lI l2),oC []]),(2,[oI [],oC []]),(1,[.d (lI x1.shape),.d (lC x1.cells)]),(0,[.d (lI x.shape),.d (lC x.cells)])],34,[],none⟩:St)) res)) ⟨[(3,.c (.ptr 0 0)),(4,.c (.ptr 1 0)),(6,.c (.ptr 2 0)),(10,.c (.ptr 4 0)),(16,.d (iZ (w64 (y3*size1)))),(17,.d (iZ (w64 (y4*size1)))),(18,.d (iZ outer)),(100,.d (lI l4)),(101,.d (iZ (List.length l4:Int))),(102,.d (iZ x4))],[(4,[.d (lI l2),oC []]),(2,[oI [],oC []]),(1,[.d (lI x1.shape),.d (lC x1.cells)]),(0,[.d (lI x.shape),.d (lC x.cells)])],34,[],none⟩
instance {a:Arr×Arr×LI×Int×Int×Int×LI×Int×Int}:Ok (kG a) (AdK a):=⟨λh=>kG.partial_correctness AdK (by
 rintro P_ IH ⟨x,x1,l2,size1,y3,y4,l4,outer,x4⟩ res h
 have IH:=Ok.mk' IH
 refine lg I (ra I (S_ ?_))
 rcases E_ h with ⟨hc,h⟩|⟨hc,h⟩
 ·refine ct I hc (K_ (cn I (N_ (S_ (W_ (S_ (rn 0 I ?_)))))))
  obtain⟨d1,hk,h⟩:=B h
  refine po (nB (D.int .i64) (λ_=>I) hk I I I I I) I I (on 2 I (rz (rn 4 I (O_ (en I (N_ (rn 2 I (O_ (cL.normal ?_)))))))))
  have hv:=Ok.ok h
  exact cB I I hv
 ·refine cf I hc (X_ (fQ.exit (lE.exit (cL.exit (eh I ?_)))))
  cases h
  exact .ok I
 ) _ _ h⟩
abbrev AdL (a:Arr×Arr×LI×Int×Int×Int×Int×Int×(List aA)) (res:(List aA)):Prop:=match a with|(x,x1,l2,size1,y3,y4,outer1,x5,out1)=>cG X 99 (aM [1,1,1,1,1,1,1,1,1,1,1,0,1,0,0] (aQ Tryz.f99)) (aH (X.H 99 23) 34) (aK 4 (X.H 99 1000004) 34 (iW (λ(out11:(List aA))=>(⟨[(6,.c (.ptr 2 0)),(10,.c (.ptr 4 0))],[(4,[.d (lI l2),oC out11]),(2,[oI [],oC []]),(1,[.d (lI x1.shape),.d (lC x1.cells)]),(0,[.d (lI x.shape),.d (lC x.cells)])],34,[],none⟩:St)) res)) ⟨[(3,.c (.ptr 0 0)),(4,.c (.ptr 1 0)),(6,.c (.ptr 2 0)),(10,.c (.ptr 4 0)),(16,.d (iZ (w64 (y3*size1)))),(17,.d (iZ (w64 (y4*size1)))),(110,.d (iZ outer1)),(111,.d (iZ x5))],[(4,[.d (lI l2),oC out1]),(2,[oI [],oC []]),(1,[.d (lI x1.shape),.d (lC x1.cells)]),(0,[.d (lI x.shape),.d (lC x.cells)])],34,[],none⟩
instance {a:Arr×Arr×LI×Int×Int×Int×Int×Int×(List aA)}:Ok (iT a) (AdL a):=⟨λh=>iT.partial_correctness AdL (by
 rintro P_ IH ⟨x,x1,l2,size1,y3,y4,outer1,x5,out1⟩ res h
 have IH:=Ok.mk' IH
 refine lg I (ra I (S_ ?_))
 rcases E_ h with ⟨hc,h⟩|⟨hc,h⟩
 ·refine ct I hc (K_ (cn I (N_ (S_ (W_ (ra I (drn (m:=60) 11 I I ?_)))))))
  obtain⟨l5,hk,h⟩:=B h
  refine pd (As6 hk I I I I I I I) I I I I I ?_
  obtain⟨l6,hk,h⟩:=B h
  refine pd (Ag1 hk I I I I I I I I I I I I I I ) I I I I I (don 9 I ?_)
  obtain⟨l7,hk,h⟩:=B h
  refine pd (As6 hk I I I I I I I) I I I I I ?_
  obtain⟨l8,hk,h⟩:=B h
  refine pd (AwA hk I I I I I I I I I I I I ) I I I I I (don 2 I (dz' (by kernel_rfl) (en I (N_ (rn 2 I (O_ (cL.normal ?_)))))))
  have hv:=Ok.ok h
  exact cB I I hv
 ·refine cf I hc (X_ (fQ.exit (lE.exit (cL.exit (eh I ?_)))))
  cases h
  exact .ok I
 ) _ _ h⟩
instance {a_:Arr} {b:Arr} {last:Bool}:Ok (uH a_ b last) λr=>aval X 99 [.d (aI a_),.d (aI b),.d (.bool last)] [] (aE.ret (.tuple [.d (aI r.1),.d (iZ r.2)]) []):=⟨λ{r} h=>by
 unfold uH at h
 refine lK (tm:=[(0,.d (aI a_)),(1,.d (aI b)),(2,.d (.bool last))]) (hp:=[]) (n:=0) I Tryz.func99 I I I I I I (ra (nid':=3) I (S_ (rn 3 I ?_)))
 obtain⟨⟨x,x1,axis,e⟩,hk,h⟩:=B h
 have hv:=Ok.ok hk
 refine po (oA (hv) I I I I I I I I I) I I (on 9 I (rz (S_ (ra I ?_))))
 rcases E_ h with ⟨hc,h⟩|⟨hc,h⟩
 ·refine ct I hc (ra I (R_ (C_ (Q_ ?_))))
  cases h
  exact .ret I I
 ·refine cf I hc (K_ (cn I (N_ (S_ (rnM (tm0:=[(32,.d (.bool (e != 0))),(31,.d (iZ e)),(3,.c (.ptr 0 0)),(4,.c (.ptr 1 0)),(6,.c (.ptr 2 0)),(8,.d (iZ axis)),(9,.d (iZ e))]) (hp0:=[(2,[oI [],oC []]),(1,[.d (lI x1.shape),.d (lC x1.cells)]),(0,[.d (lI x.shape),.d (lC x.cells)])]) (nid0:=3) I I I (mo (.of λ_=>I) I (λ_=>I) (s2:=⟨[(35,.c (.full 1 (List.map (D.int .i64) ([]:LI)))),(3,.c (.ptr 0 0)),(4,.c (.ptr 1 0)),(6,.c (.ptr 2 0)),(8,.d (iZ axis))],[(2,[oI [],oC []]),(1,[.d (lI x1.shape),.d (lC x1.cells)]),(0,[.d (lI x.shape),.d (lC x.cells)])],3,[],none⟩) I (mo (.of λ_=>I) I (λ_=>I) (s2:=⟨[(36,.c (.ptr 0 0)),(35,.c (.full 1 (List.map (D.int .i64) ([]:LI)))),(3,.c (.ptr 0 0)),(4,.c (.ptr 1 0)),(6,.c (.ptr 2 0)),(8,.d (iZ axis))],[(2,[oI [],oC []]),(1,[.d (lI x1.shape),.d (lC x1.cells)]),(0,[.d (lI x.shape),.d (lC x.cells)])],3,[],none⟩) I (mo (.of λ_=>I) I (λ_=>I) (s2:=⟨[(37,.d (lI x.shape)),(36,.c (.ptr 0 0)),(35,.c (.full 1 (List.map (D.int .i64) ([]:LI)))),(3,.c (.ptr 0 0)),(4,.c (.ptr 1 0)),(6,.c (.ptr 2 0)),(8,.d (iZ axis))],[(2,[oI [],oC []]),(1,[.d (lI x1.shape),.d (lC x1.cells)]),(0,[.d (lI x.shape),.d (lC x.cells)])],3,[],none⟩) I ?_))))))))
  obtain⟨l,hk,h⟩:=B h
  refine ms (Bf5 (D.int .i64) hk I I I I I I (AoF (D.int .i64)) I I I I I I I I I ) I (s2:=⟨[(38,.c (.arr 3 (List.length l) 1)),(37,.d (lI x.shape)),(36,.c (.ptr 0 0)),(35,.c (.full 1 (List.map (D.int .i64) ([]:LI)))),(3,.c (.ptr 0 0)),(4,.c (.ptr 1 0)),(6,.c (.ptr 2 0)),(8,.d (iZ axis))],[(3,[.seq 1 (List.map (D.int .i64) l)]),(2,[oI [],oC []]),(1,[.d (lI x1.shape),.d (lC x1.cells)]),(0,[.d (lI x.shape),.d (lC x.cells)])],4,[],none⟩) I (mo (.of λ_=>I) I (λ_=>I) (s2:=⟨[(39,.vagg [.arr 3 (List.length l) 1,.nilsl 3]),(38,.c (.arr 3 (List.length l) 1)),(37,.d (lI x.shape)),(36,.c (.ptr 0 0)),(35,.c (.full 1 (List.map (D.int .i64) ([]:LI)))),(3,.c (.ptr 0 0)),(4,.c (.ptr 1 0)),(6,.c (.ptr 2 0)),(8,.d (iZ axis))],[(3,[.seq 1 (List.map (D.int .i64) l)]),(2,[oI [],oC []]),(1,[.d (lI x1.shape),.d (lC x1.cells)]),(0,[.d (lI x.shape),.d (lC x.cells)])],4,[],none⟩) I (mo (.of λ_=>I) I (λ_=>I) (s2:=⟨[(10,.c (.ptr 4 0)),(39,.vagg [.arr 3 (List.length l) 1,.nilsl 3]),(38,.c (.arr 3 (List.length l) 1)),(37,.d (lI x.shape)),(36,.c (.ptr 0 0)),(35,.c (.full 1 (List.map (D.int .i64) ([]:LI)))),(3,.c (.ptr 0 0)),(4,.c (.ptr 1 0)),(6,.c (.ptr 2 0)),(8,.d (iZ axis))],[(4,[oI [],oC []]),(3,[.seq 1 (List.map (D.int .i64) l)]),(2,[oI [],oC []]),(1,[.d (lI x1.shape),.d (lC x1.cells)]),(0,[.d (lI x.shape),.d (lC x.cells)])],5,[],none⟩) I (ms I I (s2:=⟨[(10,.c (.ptr 4 0)),(39,.vagg [.arr 3 (List.length l) 1,.nilsl 3]),(38,.c (.arr 3 (List.length l) 1)),(37,.d (lI x.shape)),(36,.c (.ptr 0 0)),(35,.c (.full 1 (List.map (D.int .i64) ([]:LI)))),(3,.c (.ptr 0 0)),(4,.c (.ptr 1 0)),(6,.c (.ptr 2 0)),(8,.d (iZ axis))],[(4,[.arr 3 (List.length l) 1,.nilsl 3]),(3,[.seq 1 (List.map (D.int .i64) l)]),(2,[oI [],oC []]),(1,[.d (lI x1.shape),.d (lC x1.cells)]),(0,[.d (lI x.shape),.d (lC x.cells)])],5,[],none⟩) I (mz (N_ (S_ (BkC (m:=18) 3 (tm0:=[(10,.c (.ptr 4 0)),(39,.vagg [.arr 3 (List.length l) 1,.nilsl 3]),(38,.c (.arr 3 (List.length l) 1)),(37,.d (lI x.shape)),(36,.c (.ptr 0 0)),(35,.c (.full 1 (List.map (D.int .i64) ([]:LI)))),(3,.c (.ptr 0 0)),(4,.c (.ptr 1 0)),(6,.c (.ptr 2 0)),(8,.d (iZ axis))]) (hp0:=[(4,[.arr 3 (List.length l) 1,oC []]),(3,[.seq 1 (List.map (D.int .i64) l)]),(2,[oI [],oC []]),(1,[.d (lI x1.shape),.d (lC x1.cells)]),(0,[.d (lI x.shape),.d (lC x.cells)])]) (nid0:=5) (AiE I (I) I) I I ?_)))))))
  obtain⟨j,hk,h⟩:=B h
  refine pd (AcW hk I I I I I) I I I I I ?_
  obtain⟨y,hk,h⟩:=B h
  refine pd (AqY (D.int .i64) hk I I (λ_=>⟨I,I,I⟩) I I) I I I I I (don 3 I ?_)
  obtain⟨y1,hk,h⟩:=B h
  refine pd (nB (D.int .i64) (λ_=>I) hk I I I I I) I I I I I (don 2 I ?_)
  obtain⟨j1,hk,h⟩:=B h
  refine pd (AcW hk I I I I I) I I I I I ?_
  obtain⟨l1,hk,h⟩:=B h
  refine pd (est (D.int .i64) (v:=(w64 (y+y1))) hk I I (λ_=>⟨I,I,I⟩) I I I I) I I I I I (dz (by kernel_rfl) (S_ ?_))
  obtain⟨l2,hkFl2,h⟩:=B h
  refine S_ (rnF 2 (tm0:=[(51,.c (.ptr 3 (j1*1))),(50,.d (iZ (w64 (y+y1)))),(49,.d (iZ y1)),(48,.rptr (D.cells (iZ y1))),(47,.d (iZ axis)),(46,.d (lI x1.shape)),(45,.c (.ptr 1 0)),(44,.d (iZ y)),(43,.c (.ptr 3 (j*1))),(42,.d (iZ axis)),(41,.c (.arr 3 (List.length l) 1)),(40,.c (.ptr 4 0)),(3,.c (.ptr 0 0)),(4,.c (.ptr 1 0)),(6,.c (.ptr 2 0)),(8,.d (iZ axis)),(10,.c (.ptr 4 0))]) (hp0:=[(4,[.d (lI l2),oC []]),(2,[oI [],oC []]),(1,[.d (lI x1.shape),.d (lC x1.cells)]),(0,[.d (lI x.shape),.d (lC x.cells)])]) (nid0:=18) (AiE I (gC (b0:=4) (off:=0) I (iO (D.int .i64) I hkFl2 I I I)) I) I ?_)
  obtain⟨⟨x2,e1⟩,hk,h⟩:=B h
  have hv:=Ok.ok hk
  refine po (oA (hv) I I I I I I I I I) I I (on 5 I (rz (S_ (rn 3 I ?_))))
  rcases E_ h with ⟨hc,h⟩|⟨hc,h⟩
  ·refine gt I I I I hc I (on 7 I (rz (ct I I (ra I (R_ (C_ (Q_ ?_)))))))
   cases h
   exact .ret I I
  ·refine gf I I I I hc I (on 3 I ?_)
   obtain⟨y2,hk,h⟩:=B h
   refine po (nB (D.int .i64) (λ_=>I) hk I I I I I) I I (on 3 I (rz ?_))
   rcases E_ h with ⟨hc,h⟩|⟨hc,h⟩
   ·refine ct I hc (ra I (R_ (C_ (Q_ ?_))))
    cases h
    exact .ret I I
   ·refine cf I hc (K_ (cn I (N_ (ra I (S_ (S_ (rn 4 I ?_)))))))
    obtain⟨l3,hk,h⟩:=B h
    refine po (AlL hk I I I I I I) I I (po (nC I I I I I I I) I I (on 1 I (rz ?_)))
    obtain⟨size1,hs,h⟩:=B h
    refine hU (λ(size1:Int)=>(⟨[(3,.c (.ptr 0 0)),(4,.c (.ptr 1 0)),(6,.c (.ptr 2 0)),(8,.d (iZ axis)),(10,.c (.ptr 4 0)),(13,.d (iZ size1))],[(4,[.d (lI l2),oC []]),(2,[oI [],oC []]),(1,[.d (lI x1.shape),.d (lC x1.cells)]),(0,[.d (lI x.shape),.d (lC x.cells)])],18,[],none⟩:St)) (y:=size1) ?_ ?_
    ·replace h:=hs
     refine W_ (eH ?_)
     have hv:=Ok.ok h
     exact cB I I hv
    ·refine N_ (S_ (drn (m:=34) 3 I I ?_))
     obtain⟨y3,hk,h⟩:=B h
     refine pd (nB (D.int .i64) (λ_=>I) hk I I I I I) I I I I I (don 6 I ?_)
     obtain⟨y4,hk,h⟩:=B h
     refine pd (nB (D.int .i64) (λ_=>I) hk I I I I I) I I I I I (don 5 I (dz (by kernel_rfl) (ra I (S_ (S_ (rn 3 I ?_))))))
     obtain⟨l4,hk,h⟩:=B h
     refine po (Bg9 hk I I I I I I) I I (po (nC I I I I I I I) I I (on 1 I (rz ?_)))
     obtain⟨outer1,hs,h⟩:=B h
     refine hU (λ(outer1:Int)=>(⟨[(3,.c (.ptr 0 0)),(4,.c (.ptr 1 0)),(6,.c (.ptr 2 0)),(10,.c (.ptr 4 0)),(16,.d (iZ (w64 (y3*size1)))),(17,.d (iZ (w64 (y4*size1)))),(18,.d (iZ outer1))],[(4,[.d (lI l2),oC []]),(2,[oI [],oC []]),(1,[.d (lI x1.shape),.d (lC x1.cells)]),(0,[.d (lI x.shape),.d (lC x.cells)])],34,[],none⟩:St)) (y:=outer1) ?_ ?_
     ·replace h:=hs
      refine W_ (eH ?_)
      have hv:=Ok.ok h
      exact cB I I hv
     ·refine N_ (S_ (ra I ?_))
      obtain⟨out11,hs,h⟩:=B h
      refine hU (λ(out11:(List aA))=>(⟨[(6,.c (.ptr 2 0)),(10,.c (.ptr 4 0))],[(4,[.d (lI l2),oC out11]),(2,[oI [],oC []]),(1,[.d (lI x1.shape),.d (lC x1.cells)]),(0,[.d (lI x.shape),.d (lC x.cells)])],34,[],none⟩:St)) (y:=out11) ?_ ?_
      ·replace h:=hs
       refine W_ (eH ?_)
       have hv:=Ok.ok h
       exact cB I I hv
      ·refine N_ (ra I (R_ ?_))
       cases h
       exact .ret I I
 ⟩
abbrev Ai8 (r:Int×Int):aE:=(aE.ret (.tuple [.d (iZ r.1),.d (iZ r.2)]) [])
instance {a_:Arr}:Ok (uI a_) λr=>aval X 102 [.d (aI a_)] [] (Ai8 r):=⟨λh=>by
 unfold uI at h
 exact aB Ai8 I Tryz.func102 I I I I I I λiE=>Wk⟩
abbrev sZ (r:LI×Int):aE:=(aE.ret (.tuple [.d (lI r.1),.d (iZ r.2)]) [])
abbrev Af8 (a:Arr×Int×Int) (res:Except (LI×Int) (Unit)):Prop:=match a with|(m,n,x)=>cG X 170 (aM [1,1,0,1,0,0] (aQ Tryz.f170)) (aH (X.H 170 4) 1) (aK 0 (X.H 170 1000000) 1 (jY X Tryz.f170 0 sZ (λ(_:Unit)=>(⟨[(1,.d (iZ n)),(2,.c (.ptr 0 0))],[(0,[.d (lI m.shape),.d (lC m.cells)])],1,[],none⟩:St)) res)) ⟨[(1,.d (iZ n)),(2,.c (.ptr 0 0)),(17,.d (lC m.cells)),(18,.d (iZ (List.length m.cells:Int))),(19,.d (iZ x))],[(0,[.d (lI m.shape),.d (lC m.cells)])],1,[],none⟩
instance {a:Arr×Int×Int}:Ok (lR a) (Af8 a):=⟨λh=>lR.partial_correctness Af8 (by
 rintro P_ IH ⟨m,n,x⟩ res h
 have IH:=Ok.mk' IH
 refine lg I (ra I (S_ ?_))
 rcases E_ h with ⟨hc,h⟩|⟨hc,h⟩
 ·refine ct I hc (K_ (cn I (N_ (S_ (W_ (S_ (rn 0 I ?_)))))))
  obtain⟨y,hk,h⟩:=B h
  refine po (nB aD (λ_=>I) hk I I I I I) I I (on (nid':=2) 3 I (rz (S_ (rn 4 I ?_))))
  rcases E_ h with ⟨hc,h⟩|⟨hc,h⟩
  ·refine gt I I I I hc I (on 4 I (rz (ct I I (ra I (R_ (C_ (aK.ret (Q_ (cL.ret (aK.ret ?_))))))))))
   cases h
   exact .err I (.ret I I)
  refine gf I I I I hc I (on 4 I (rz ?_))
  rcases E_ h with ⟨hc,h⟩|⟨hc,h⟩
  ·refine ct I hc (ra I (R_ (C_ (aK.ret (Q_ (cL.ret (aK.ret ?_)))))))
   cases h
   exact .err I (.ret I I)
  refine cf I hc (K_ (cn I (en I (N_ (rn 2 I (O_ (cL.normal ?_)))))))
  have hv:=Ok.ok h
  exact cB I I hv
 ·refine cf I hc (X_ (fQ.exit (lE.exit (cL.exit (eh I ?_)))))
  cases h
  exact .ok I
 ) _ _ h⟩
abbrev Af9 (a:Arr×Int×Int×Int×LI) (res:Except (LI×Int) LI):Prop:=match a with|(m,n,all,x1,l1)=>cG X 170 (aM [1,1,1,1,1,0,1,0,0] (aQ Tryz.f170)) (aH (X.H 170 13) 2) (aK 2 (X.H 170 1000002) 2 (jY X Tryz.f170 0 sZ (λ(l3:LI)=>(⟨[(8,.c (.arr 1 (Int.toNat n) 1))],[(1,[.seq 1 (List.map (D.int .i64) l3)]),(0,[.d (lI m.shape),.d (lC m.cells)])],2,[],none⟩:St)) res)) ⟨[(2,.c (.ptr 0 0)),(8,.c (.arr 1 (Int.toNat n) 1)),(9,.d (iZ all)),(46,.d (iZ ((Int.toNat n):Int))),(47,.d (iZ x1))],[(1,[.seq 1 (List.map (D.int .i64) l1)]),(0,[.d (lI m.shape),.d (lC m.cells)])],2,[],none⟩
instance {a:Arr×Int×Int×Int×LI}:Ok (lU a) (Af9 a):=⟨λh=>lU.partial_correctness Af9 (by
 rintro P_ IH ⟨m,n,all,x1,l1⟩ res h
 have IH:=Ok.mk' IH
 refine lg I (ra I (S_ ?_))
 rcases E_ h with ⟨hc,h⟩|⟨hc,h⟩
 ·refine ct I hc (K_ (cn I (N_ (S_ (W_ (ra I (S_ (rn 2 I ?_))))))))
  obtain⟨y1,hk,h⟩:=B h
  refine po (nB aD (λ_=>I) hk I I I I I) I I (on (nid':=3) 3 I (rz (S_ (S_ (rn 2 I (po (nC I I I I I I I) I I (on 1 I (rz ?_))))))))
  obtain⟨⟨c0,c1,c2⟩,hs,h⟩:=B h
  refine hU (λ((c0,c1,c2):Int×Int×(List Arr))=>(⟨[(2,.c (.ptr 0 0)),(8,.c (.arr 1 (Int.toNat n) 1)),(9,.d (iZ all)),(10,.d (iZ x1)),(11,.c (.ptr 2 0)),(46,.d (iZ ((Int.toNat n):Int))),(47,.d (iZ x1))],[(2,[.d (iZ c0),.d (iZ c1),.d (.list 2 (List.map aY c2))]),(1,[.seq 1 (List.map (D.int .i64) l1)]),(0,[.d (lI m.shape),.d (lC m.cells)])],3,[],none⟩:St)) (y:=(c0,c1,c2)) ?_ ?_
  ·replace h:=hs
   rcases E_ h with ⟨hc,h⟩|⟨hc,h⟩
   ·refine ct I hc (rn 3 I ?_)
    obtain⟨y2,hk,h⟩:=B h
    refine po (nB aD (λ_=>I) hk I I I I I) I I (on 2 I (O_ (cn I ?_)))
    cases h
    exact .ok I
   refine cf I hc (K_ (cn I ?_))
   cases h
   exact .ok I
  refine N_ (S_ (ra I ?_))
  rcases E_ h with ⟨hc,h⟩|⟨hc,h⟩
  ·refine ct I hc (ra I (R_ (C_ (Q_ (aK.ret (Q_ (cL.ret (aK.ret ?_))))))))
   cases h
   exact .err I (.ret I I)
  refine cf I hc (K_ (cn I (N_ (S_ (rn 4 I ?_)))))
  obtain⟨j,hk,h⟩:=B h
  refine po (AcW hk I I I I I) I I ?_
  obtain⟨l2,hk,h⟩:=B h
  refine po (est (D.int .i64) (v:=c1) hk I I (λ_=>⟨I,I,I⟩) I I I I) I I (rz (rn 3 I ?_))
  obtain⟨j1,hk,h⟩:=B h
  refine po (AcW hk I I I I I) I I ?_
  obtain⟨y3,hk,h⟩:=B h
  refine po (AqY (D.int .i64) hk I I (λ_=>⟨I,I,I⟩) I I) I I (on 2 I (O_ (en I (N_ (rn 2 I (O_ (cL.normal ?_)))))))
  have hv:=Ok.ok h
  exact cB I I hv
 ·refine cf I hc (X_ (fQ.exit (lE.exit (cL.exit (eh I ?_)))))
  cases h
  exact .ok I
 ) _ _ h⟩
abbrev AfA (a:Arr×Int×Int×Int×LI) (res:Except (LI×Int) LI):Prop:=match a with|(m,n,all1,x2,l6)=>cG X 170 (aM [1,1,1,1,1,0,1,0,0] (aQ Tryz.f170)) (aH (X.H 170 13) 2) (aK 2 (X.H 170 1000002) 2 (jY X Tryz.f170 0 sZ (λ(l8:LI)=>(⟨[(8,.c (.arr 1 (Int.toNat n) 1))],[(1,[.seq 1 (List.map (D.int .i64) l8)]),(0,[.d (lI m.shape),.d (lC m.cells)])],2,[],none⟩:St)) res)) ⟨[(2,.c (.ptr 0 0)),(8,.c (.arr 1 (Int.toNat n) 1)),(9,.d (iZ all1)),(46,.d (iZ ((Int.toNat n):Int))),(47,.d (iZ x2))],[(1,[.seq 1 (List.map (D.int .i64) l6)]),(0,[.d (lI m.shape),.d (lC m.cells)])],2,[],none⟩
instance {a:Arr×Int×Int×Int×LI}:Ok (lV a) (AfA a):=⟨λh=>lV.partial_correctness AfA (by
 rintro P_ IH ⟨m,n,all1,x2,l6⟩ res h
 have IH:=Ok.mk' IH
 refine lg I (ra I (S_ ?_))
 rcases E_ h with ⟨hc,h⟩|⟨hc,h⟩
 ·refine ct I hc (K_ (cn I (N_ (S_ (W_ (ra I (S_ (rn 2 I ?_))))))))
  obtain⟨y4,hk,h⟩:=B h
  refine po (nB aD (λ_=>I) hk I I I I I) I I (on (nid':=3) 3 I (rz (S_ (S_ (rn 2 I (po (nC I I I I I I I) I I (on 1 I (rz ?_))))))))
  obtain⟨⟨c01,c11,c21⟩,hs,h⟩:=B h
  refine hU (λ((c01,c11,c21):Int×Int×(List Arr))=>(⟨[(2,.c (.ptr 0 0)),(8,.c (.arr 1 (Int.toNat n) 1)),(9,.d (iZ all1)),(10,.d (iZ x2)),(11,.c (.ptr 2 0)),(46,.d (iZ ((Int.toNat n):Int))),(47,.d (iZ x2))],[(2,[.d (iZ c01),.d (iZ c11),.d (.list 2 (List.map aY c21))]),(1,[.seq 1 (List.map (D.int .i64) l6)]),(0,[.d (lI m.shape),.d (lC m.cells)])],3,[],none⟩:St)) (y:=(c01,c11,c21)) ?_ ?_
  ·replace h:=hs
   rcases E_ h with ⟨hc,h⟩|⟨hc,h⟩
   ·refine ct I hc (rn 3 I ?_)
    obtain⟨y5,hk,h⟩:=B h
    refine po (nB aD (λ_=>I) hk I I I I I) I I (on 2 I (O_ (cn I ?_)))
    cases h
    exact .ok I
   refine cf I hc (K_ (cn I ?_))
   cases h
   exact .ok I
  refine N_ (S_ (ra I ?_))
  rcases E_ h with ⟨hc,h⟩|⟨hc,h⟩
  ·refine ct I hc (ra I (R_ (C_ (Q_ (aK.ret (Q_ (cL.ret (aK.ret ?_))))))))
   cases h
   exact .err I (.ret I I)
  refine cf I hc (K_ (cn I (N_ (S_ (rn 4 I ?_)))))
  obtain⟨j2,hk,h⟩:=B h
  refine po (AcW hk I I I I I) I I ?_
  obtain⟨l7,hk,h⟩:=B h
  refine po (est (D.int .i64) (v:=c11) hk I I (λ_=>⟨I,I,I⟩) I I I I) I I (rz (rn 3 I ?_))
  obtain⟨j3,hk,h⟩:=B h
  refine po (AcW hk I I I I I) I I ?_
  obtain⟨y6,hk,h⟩:=B h
  refine po (AqY (D.int .i64) hk I I (λ_=>⟨I,I,I⟩) I I) I I (on 2 I (O_ (en I (N_ (rn 2 I (O_ (cL.normal ?_)))))))
  have hv:=Ok.ok h
  exact cB I I hv
 ·refine cf I hc (X_ (fQ.exit (lE.exit (cL.exit (eh I ?_)))))
  cases h
  exact .ok I
 ) _ _ h⟩
instance {m:Arr} {n:Int}:Ok (wY m n) λr=>aval X 170 [.d (aI m),.d (iZ n)] [] (aE.ret (.tuple [.d (lI r.1),.d (iZ r.2)]) []):=⟨λ{r} h=>by
 unfold wY at h
 refine lK (tm:=[(0,.d (aI m)),(1,.d (iZ n))]) (hp:=[]) (n:=0) I Tryz.func170 I I I I I I (ra (nid':=1) I (S_ (S_ (rn 2 I (po (nC I I I I I I I) I I (on 1 I (rz ?_)))))))
 rcases E_ h with ⟨hc,h⟩|⟨hc,h⟩
 ·refine ct I hc (ra I (R_ (C_ (Q_ ?_))))
  cases h
  exact .ret I I
 ·refine cf I hc (K_ (cn I (N_ (S_ (S_ (rn 2 I (po (nC I I I I I I I) I I (on 1 I (rz ?_)))))))))
  obtain⟨res,hs,h⟩:=B h
  refine uQ Tryz.f170 0 sZ (λ(_:Unit)=>(⟨[(1,.d (iZ n)),(2,.c (.ptr 0 0))],[(0,[.d (lI m.shape),.d (lC m.cells)])],1,[],none⟩:St)) (res:=res) ?_ (λy hy=>?_) (λr x s' hr hx he=>?_)
  ·replace h:=hs
   refine W_ (eH ?_)
   have hv:=Ok.ok h
   exact cB I I hv
  ·subst hy
   refine N_ (S_ (S_ (rn 2 I (po (nC I I I I I I I) I I (on 2 I ?_)))))
   rcases E_ h with ⟨hc,h⟩|⟨hc,h⟩
   ·refine gt I I I I hc I (on 2 I (po (nC I I I I I I I) I I (on 3 I (rz ?_))))
    rcases E_ h with ⟨hc,h⟩|⟨hc,h⟩
    ·refine ct I hc (ra I (R_ (C_ (Q_ ?_))))
     cases h
     exact .ret I I
    refine cf I hc (K_ (cn I (N_ (S_ (rn 1 I ?_)))))
    obtain⟨l,hk,h⟩:=B h
    refine po (AlM (nid':=2) (D.int .i64) 0 hk I I I I I I I I I I I I ) I I (on (nid':=2) 2 I (rz (S_ (ra I ?_))))
    obtain⟨res,hs,h⟩:=B h
    refine uQ Tryz.f170 0 sZ (λ(l3:LI)=>(⟨[(8,.c (.arr 1 (Int.toNat n) 1))],[(1,[.seq 1 (List.map (D.int .i64) l3)]),(0,[.d (lI m.shape),.d (lC m.cells)])],2,[],none⟩:St)) (res:=res) ?_ (λy hy=>?_) (λr x s' hr hx he=>?_)
    ·replace h:=hs
     refine W_ (eH ?_)
     have hv:=Ok.ok h
     exact cB I I hv
    ·subst hy
     obtain l3:=y
     refine N_ ?_
     obtain⟨l4,hkFl4,h⟩:=B h
     refine S_ (rnF 3 (tm0:=[(8,.d (lI l4)),(8,.c (.arr 1 (Int.toNat n) 1))]) (hp0:=[(0,[.d (lI m.shape),.d (lC m.cells)])]) (nid0:=2) (AiE I (gT (t:=8) I I I (Au7 (Ag7 (D.int .i64) hkFl4 I)) I I) I) I (rz (R_ ?_)))
     cases h
     exact .ret I I
    subst hr
    refine lE.out hx ?_
    cases h
    exact he
   refine gf I I I I hc I (on 6 I (rz (cf I I (K_ (cn I (N_ (S_ (rn 1 I ?_))))))))
   obtain⟨l5,hk,h⟩:=B h
   refine po (AlM (nid':=2) (D.int .i64) 0 hk I I I I I I I I I I I I ) I I (on (nid':=2) 2 I (rz (S_ (ra I ?_))))
   obtain⟨res,hs,h⟩:=B h
   refine uQ Tryz.f170 0 sZ (λ(l8:LI)=>(⟨[(8,.c (.arr 1 (Int.toNat n) 1))],[(1,[.seq 1 (List.map (D.int .i64) l8)]),(0,[.d (lI m.shape),.d (lC m.cells)])],2,[],none⟩:St)) (res:=res) ?_ (λy hy=>?_) (λr x s' hr hx he=>?_)
   ·replace h:=hs
    refine W_ (eH ?_)
    have hv:=Ok.ok h
    exact cB I I hv
   ·subst hy
    obtain l8:=y
    refine N_ ?_
    obtain⟨l9,hkFl9,h⟩:=B h
    refine S_ (rnF 3 (tm0:=[(8,.d (lI l9)),(8,.c (.arr 1 (Int.toNat n) 1))]) (hp0:=[(0,[.d (lI m.shape),.d (lC m.cells)])]) (nid0:=2) (AiE I (gT (t:=8) I I I (Au7 (Ag7 (D.int .i64) hkFl9 I)) I I) I) I (rz (R_ ?_)))
    cases h
    exact .ret I I
   subst hr
   refine lE.out hx ?_
   cases h
   exact he
  ·subst hr
   refine lE.out hx ?_
   cases h
   exact he
 ⟩
abbrev AbD (a:Arr×Arr×Int×LI×LI×Int×LI) (res:LI):Prop:=match a with|(m,x,axis,l,l1,x1,c0)=>cG X 101 (aM [1,1,1,1,1,1,1,1,0,1,0,0] (aQ Tryz.f101)) (aH (X.H 101 11) 17) (aK 0 (X.H 101 1000000) 17 (iW (λ(c01:LI)=>(⟨[(4,.c (.ptr 1 0)),(6,.c (.ptr 2 0)),(8,.d (iZ axis)),(9,.d (lI l)),(11,.c (.ptr 16 0))],[(16,[.arr 15 (List.length l1) 1,oC []]),(15,[.seq 1 (List.map (D.int .i64) c01)]),(2,[oI [],oC []]),(1,[.d (lI x.shape),.d (lC x.cells)]),(0,[.d (lI m.shape),.d (lC m.cells)])],17,[],none⟩:St)) res)) ⟨[(4,.c (.ptr 1 0)),(6,.c (.ptr 2 0)),(8,.d (iZ axis)),(9,.d (lI l)),(11,.c (.ptr 16 0)),(52,.d (lI l)),(53,.d (iZ (List.length l:Int))),(54,.d (iZ x1))],[(16,[.arr 15 (List.length l1) 1,oC []]),(15,[.seq 1 (List.map (D.int .i64) c0)]),(2,[oI [],oC []]),(1,[.d (lI x.shape),.d (lC x.cells)]),(0,[.d (lI m.shape),.d (lC m.cells)])],17,[],none⟩
instance {a:Arr×Arr×Int×LI×LI×Int×LI}:Ok (iG a) (AbD a):=⟨λh=>iG.partial_correctness AbD (by
 rintro P_ IH ⟨m,x,axis,l,l1,x1,c0⟩ res h
 have IH:=Ok.mk' IH
 refine lg I (ra I (S_ ?_))
 rcases E_ h with ⟨hc,h⟩|⟨hc,h⟩
 ·refine ct I hc (K_ (cn I (N_ (S_ (W_ (S_ (rn 0 I ?_)))))))
  obtain⟨k,hk,h⟩:=B h
  refine po (nB (D.int .i64) (λ_=>I) hk I I I I I) I I (on 2 I (rz (rn 3 I ?_)))
  obtain⟨j1,hk,h⟩:=B h
  refine po (AcW hk I I I I I) I I ?_
  obtain⟨y1,hk,h⟩:=B h
  refine po (AqY (D.int .i64) hk I I (λ_=>⟨I,I,I⟩) I I) I I (on 2 I ?_)
  obtain⟨j2,hk,h⟩:=B h
  refine po (AcW hk I I I I I) I I ?_
  obtain⟨c,hk,h⟩:=B h
  refine po (est (D.int .i64) (v:=(w64 (y1+k))) hk I I (λ_=>⟨I,I,I⟩) I I I I) I I (O_ (en I (N_ (rn 2 I (O_ (cL.normal ?_))))))
  have hv:=Ok.ok h
  exact cB I I hv
 ·refine cf I hc (X_ (fQ.exit (lE.exit (cL.exit (eh I ?_)))))
  cases h
  exact .ok I
 ) _ _ h⟩
abbrev AbE (a:Arr×Arr×LI×LI×LI×Int×Int) (res:Int):Prop:=match a with|(m,x,l,l3,l4,size,x3)=>cG X 101 (aM [1,1,1,1,1,1,1,1,1,1,1,0,1,0,0] (aQ Tryz.f101)) (aH (X.H 101 20) 17) (aK 2 (X.H 101 1000002) 17 (iW (λ(size1:Int)=>(⟨[(4,.c (.ptr 1 0)),(6,.c (.ptr 2 0)),(9,.d (lI l)),(11,.c (.ptr 16 0)),(16,.d (iZ size1))],[(16,[.d (lI l3),oC []]),(2,[oI [],oC []]),(1,[.d (lI x.shape),.d (lC x.cells)]),(0,[.d (lI m.shape),.d (lC m.cells)])],17,[],none⟩:St)) res)) ⟨[(4,.c (.ptr 1 0)),(6,.c (.ptr 2 0)),(9,.d (lI l)),(11,.c (.ptr 16 0)),(16,.d (iZ size)),(81,.d (lI l4)),(82,.d (iZ (List.length l4:Int))),(83,.d (iZ x3))],[(16,[.d (lI l3),oC []]),(2,[oI [],oC []]),(1,[.d (lI x.shape),.d (lC x.cells)]),(0,[.d (lI m.shape),.d (lC m.cells)])],17,[],none⟩
instance {a:Arr×Arr×LI×LI×LI×Int×Int}:Ok (iH a) (AbE a):=⟨λh=>iH.partial_correctness AbE (by
 rintro P_ IH ⟨m,x,l,l3,l4,size,x3⟩ res h
 have IH:=Ok.mk' IH
 refine lg I (ra I (S_ ?_))
 rcases E_ h with ⟨hc,h⟩|⟨hc,h⟩
 ·refine ct I hc (K_ (cn I (N_ (S_ (W_ (S_ (rn 0 I ?_)))))))
  obtain⟨d,hk,h⟩:=B h
  refine po (nB (D.int .i64) (λ_=>I) hk I I I I I) I I (on 2 I (rz (rn 4 I (O_ (en I (N_ (rn 2 I (O_ (cL.normal ?_)))))))))
  have hv:=Ok.ok h
  exact cB I I hv
 ·refine cf I hc (X_ (fQ.exit (lE.exit (cL.exit (eh I ?_)))))
  cases h
  exact .ok I
 ) _ _ h⟩
abbrev AbH (a:Arr×Arr×LI×LI×Int×Int×Int×Int×Int×(List aA)) (res:(List aA)):Prop:=match a with|(m,x,l,l3,size1,at_,x4,k1,x5,out12)=>cG X 101 (aM [1,1,1,1,1,1,1,1,1,1,1,1,0,1,0,0,1,0,0,1,0,0,1,1,0,0,1,1,0,0] (aQ Tryz.f101)) (aH (X.H 101 31) 17) (aK 8 (X.H 101 1000008) 17 (iW (λ(out13:(List aA))=>(⟨[(4,.c (.ptr 1 0)),(6,.c (.ptr 2 0)),(9,.d (lI l)),(11,.c (.ptr 16 0)),(16,.d (iZ size1)),(19,.d (iZ at_)),(102,.d (lI l)),(103,.d (iZ (List.length l:Int))),(104,.d (iZ x4))],[(16,[.d (lI l3),oC out13]),(2,[oI [],oC []]),(1,[.d (lI x.shape),.d (lC x.cells)]),(0,[.d (lI m.shape),.d (lC m.cells)])],17,[],none⟩:St)) res)) ⟨[(4,.c (.ptr 1 0)),(6,.c (.ptr 2 0)),(9,.d (lI l)),(11,.c (.ptr 16 0)),(16,.d (iZ size1)),(19,.d (iZ at_)),(20,.d (iZ x4)),(102,.d (lI l)),(103,.d (iZ (List.length l:Int))),(104,.d (iZ x4)),(109,.d (iZ k1)),(110,.d (iZ x5))],[(16,[.d (lI l3),oC out12]),(2,[oI [],oC []]),(1,[.d (lI x.shape),.d (lC x.cells)]),(0,[.d (lI m.shape),.d (lC m.cells)])],17,[],none⟩
instance {a:Arr×Arr×LI×LI×Int×Int×Int×Int×Int×(List aA)}:Ok (iJ a) (AbH a):=⟨λh=>iJ.partial_correctness AbH (by
 rintro P_ IH ⟨m,x,l,l3,size1,at_,x4,k1,x5,out12⟩ res h
 have IH:=Ok.mk' IH
 refine lg I (ra I (S_ ?_))
 rcases E_ h with ⟨hc,h⟩|⟨hc,h⟩
 ·refine ct I hc (K_ (cn I (N_ (S_ (W_ (drn (m:=36) 15 I I ?_))))))
  obtain⟨l5,hk,h⟩:=B h
  refine pd (As6 hk I I I I I I I) I I I I I ?_
  obtain⟨l6,hk,h⟩:=B h
  refine pd (Ag1 hk I I I I I I I I I I I I I I ) I I I I I (don 2 I (dz' (by kernel_rfl) (en I (N_ (rn 2 I (O_ (cL.normal ?_)))))))
  have hv:=Ok.ok h
  exact cB I I hv
 ·refine cf I hc (X_ (fQ.exit (lE.exit (cL.exit (eh I ?_)))))
  cases h
  exact .ok I
 ) _ _ h⟩
abbrev AbG (a:Arr×Arr×LI×LI×Int×Int×Int×(List aA)) (res:(List aA)):Prop:=match a with|(m,x,l,l3,size1,at_,x4,out11)=>cG X 101 (aM [1,1,1,1,1,1,1,1,1,1,1,1,0,1,0,0,1,0,0,1,0,0] (aQ Tryz.f101)) (aH (X.H 101 28) 17) (aK 6 (X.H 101 1000006) 17 (iW (λ(out14:(List aA))=>(⟨[(4,.c (.ptr 1 0)),(6,.c (.ptr 2 0)),(9,.d (lI l)),(11,.c (.ptr 16 0)),(16,.d (iZ size1)),(19,.d (iZ at_))],[(16,[.d (lI l3),oC out14]),(2,[oI [],oC []]),(1,[.d (lI x.shape),.d (lC x.cells)]),(0,[.d (lI m.shape),.d (lC m.cells)])],17,[],none⟩:St)) res)) ⟨[(4,.c (.ptr 1 0)),(6,.c (.ptr 2 0)),(9,.d (lI l)),(11,.c (.ptr 16 0)),(16,.d (iZ size1)),(19,.d (iZ at_)),(102,.d (lI l)),(103,.d (iZ (List.length l:Int))),(104,.d (iZ x4))],[(16,[.d (lI l3),oC out11]),(2,[oI [],oC []]),(1,[.d (lI x.shape),.d (lC x.cells)]),(0,[.d (lI m.shape),.d (lC m.cells)])],17,[],none⟩
instance {a:Arr×Arr×LI×LI×Int×Int×Int×(List aA)}:Ok (iI a) (AbG a):=⟨λh=>iI.partial_correctness AbG (by
 rintro P_ IH ⟨m,x,l,l3,size1,at_,x4,out11⟩ res h
 have IH:=Ok.mk' IH
 refine lg I (ra I (S_ ?_))
 rcases E_ h with ⟨hc,h⟩|⟨hc,h⟩
 ·refine ct I hc (K_ (cn I (N_ (S_ (W_ (S_ (rn 1 I ?_)))))))
  obtain⟨k1,hk,h⟩:=B h
  refine po (nB (D.int .i64) (λ_=>I) hk I I I I I) I I (on 3 I (rz (ra I ?_)))
  obtain⟨out13,hs,h⟩:=B h
  refine hU (λ(out13:(List aA))=>(⟨[(4,.c (.ptr 1 0)),(6,.c (.ptr 2 0)),(9,.d (lI l)),(11,.c (.ptr 16 0)),(16,.d (iZ size1)),(19,.d (iZ at_)),(102,.d (lI l)),(103,.d (iZ (List.length l:Int))),(104,.d (iZ x4))],[(16,[.d (lI l3),oC out13]),(2,[oI [],oC []]),(1,[.d (lI x.shape),.d (lC x.cells)]),(0,[.d (lI m.shape),.d (lC m.cells)])],17,[],none⟩:St)) (y:=out13) ?_ ?_
  ·replace h:=hs
   refine W_ (eH ?_)
   have hv:=Ok.ok h
   exact cB I I hv
  refine en I (N_ (rn 2 I (O_ (cL.normal ?_))))
  have hv:=Ok.ok h
  exact cB I I hv
 ·refine cf I hc (X_ (fQ.exit (lE.exit (cL.exit (eh I ?_)))))
  cases h
  exact .ok I
 ) _ _ h⟩
abbrev AbF (a:Arr×Arr×LI×LI×Int×Int×(List aA)) (res:(List aA)):Prop:=match a with|(m,x,l,l3,size1,at_,out1)=>cG X 101 (aM [1,1,1,1,1,1,1,1,1,1,1,1,0,1,0,0] (aQ Tryz.f101)) (aH (X.H 101 25) 17) (aK 4 (X.H 101 1000004) 17 (iW (λ(out15:(List aA))=>(⟨[(6,.c (.ptr 2 0)),(11,.c (.ptr 16 0))],[(16,[.d (lI l3),oC out15]),(2,[oI [],oC []]),(1,[.d (lI x.shape),.d (lC x.cells)]),(0,[.d (lI m.shape),.d (lC m.cells)])],17,[],none⟩:St)) res)) ⟨[(4,.c (.ptr 1 0)),(6,.c (.ptr 2 0)),(9,.d (lI l)),(11,.c (.ptr 16 0)),(16,.d (iZ size1)),(19,.d (iZ at_))],[(16,[.d (lI l3),oC out1]),(2,[oI [],oC []]),(1,[.d (lI x.shape),.d (lC x.cells)]),(0,[.d (lI m.shape),.d (lC m.cells)])],17,[],none⟩
instance {a:Arr×Arr×LI×LI×Int×Int×(List aA)}:Ok (p_pick_repeated_l2 a) (AbF a):=⟨λh=>p_pick_repeated_l2.partial_correctness AbF (by
 rintro P_ IH ⟨m,x,l,l3,size1,at_,out1⟩ res h
 have IH:=Ok.mk' IH
 refine lg I (S_ (S_ (rn 3 I (po (nC I I I I I I I) I I (on 1 I (rz ?_))))))
 rcases E_ h with ⟨hc,h⟩|⟨hc,h⟩
 ·refine ct I hc (K_ (cn I (N_ (S_ (W_ (S_ (rn 1 I (po (nC I I I I I I I) I I (on 1 I (rz ?_))))))))))
  obtain⟨out14,hs,h⟩:=B h
  refine hU (λ(out14:(List aA))=>(⟨[(4,.c (.ptr 1 0)),(6,.c (.ptr 2 0)),(9,.d (lI l)),(11,.c (.ptr 16 0)),(16,.d (iZ size1)),(19,.d (iZ at_))],[(16,[.d (lI l3),oC out14]),(2,[oI [],oC []]),(1,[.d (lI x.shape),.d (lC x.cells)]),(0,[.d (lI m.shape),.d (lC m.cells)])],17,[],none⟩:St)) (y:=out14) ?_ ?_
  ·replace h:=hs
   refine W_ (eH ?_)
   have hv:=Ok.ok h
   exact cB I I hv
  refine en I (N_ (rn 2 I (po (nC I I I I I I I) I I (on 4 I (O_ (cL.normal ?_))))))
  have hv:=Ok.ok h
  exact cB I I hv
 ·refine cf I hc (X_ (fQ.exit (lE.exit (cL.exit (eh I ?_)))))
  cases h
  exact .ok I
 ) _ _ h⟩
instance {m:Arr} {a_:Arr} {last:Bool}:Ok (rG m a_ last) λr=>aval X 101 [.d (aI m),.d (aI a_),.d (.bool last)] [] (aE.ret (.tuple [.d (aI r.1),.d (iZ r.2)]) []):=⟨λ{r} h=>by
 unfold rG at h
 refine lK (tm:=[(0,.d (aI m)),(1,.d (aI a_)),(2,.d (.bool last))]) (hp:=[]) (n:=0) I Tryz.func101 I I I I I I (ra (nid':=3) I (S_ (rn 1 I ?_)))
 obtain⟨x,hk,h⟩:=B h
 have hv:=Ok.ok hk
 refine po (oA (hv) I I I I I I I I I) I I (on 1 I (rz (ra I (S_ (ra I ?_)))))
 obtain⟨axis,hs,h⟩:=B h
 refine hU (λ(axis:Int)=>(⟨[(3,.c (.ptr 0 0)),(4,.c (.ptr 1 0)),(6,.c (.ptr 2 0)),(8,.d (iZ axis))],[(2,[oI [],oC []]),(1,[.d (lI x.shape),.d (lC x.cells)]),(0,[.d (lI m.shape),.d (lC m.cells)])],3,[],none⟩:St)) (y:=axis) ?_ ?_
 ·replace h:=hs
  rcases E_ h with ⟨hc,h⟩|⟨hc,h⟩
  ·refine ct I hc (rn 2 I (po (nC I I I I I I I) I I (on 2 I (O_ (cn I ?_)))))
   cases h
   exact .ok I
  refine cf I hc (K_ (cn I ?_))
  cases h
  exact .ok I
 ·refine N_ (S_ (drn (m:=15) 4 I I ?_))
  obtain⟨y,hk,h⟩:=B h
  refine pd (nB (D.int .i64) (λ_=>I) hk I I I I I) I I I I I (don 1 I ?_)
  obtain⟨⟨l,e⟩,hk,h⟩:=B h
  have hv:=Ok.ok hk
  refine pd (oA (hv) I I I I I I I I I) I I I I I (don 5 I (dz (by kernel_rfl) (S_ (ra I ?_))))
  rcases E_ h with ⟨hc,h⟩|⟨hc,h⟩
  ·refine ct I hc (ra I (R_ (C_ (Q_ ?_))))
   cases h
   exact .ret I I
  ·refine cf I hc (K_ (cn I (N_ (S_ (rnM (tm0:=[(40,.d (.bool (e != 0))),(39,.d (iZ e)),(4,.c (.ptr 1 0)),(6,.c (.ptr 2 0)),(8,.d (iZ axis)),(9,.d (lI l)),(10,.d (iZ e))]) (hp0:=[(2,[oI [],oC []]),(1,[.d (lI x.shape),.d (lC x.cells)]),(0,[.d (lI m.shape),.d (lC m.cells)])]) (nid0:=15) I I I (mo (.of λ_=>I) I (λ_=>I) (s2:=⟨[(43,.c (.full 1 (List.map (D.int .i64) ([]:LI)))),(4,.c (.ptr 1 0)),(6,.c (.ptr 2 0)),(8,.d (iZ axis)),(9,.d (lI l))],[(2,[oI [],oC []]),(1,[.d (lI x.shape),.d (lC x.cells)]),(0,[.d (lI m.shape),.d (lC m.cells)])],15,[],none⟩) I (mo (.of λ_=>I) I (λ_=>I) (s2:=⟨[(44,.c (.ptr 1 0)),(43,.c (.full 1 (List.map (D.int .i64) ([]:LI)))),(4,.c (.ptr 1 0)),(6,.c (.ptr 2 0)),(8,.d (iZ axis)),(9,.d (lI l))],[(2,[oI [],oC []]),(1,[.d (lI x.shape),.d (lC x.cells)]),(0,[.d (lI m.shape),.d (lC m.cells)])],15,[],none⟩) I (mo (.of λ_=>I) I (λ_=>I) (s2:=⟨[(45,.d (lI x.shape)),(44,.c (.ptr 1 0)),(43,.c (.full 1 (List.map (D.int .i64) ([]:LI)))),(4,.c (.ptr 1 0)),(6,.c (.ptr 2 0)),(8,.d (iZ axis)),(9,.d (lI l))],[(2,[oI [],oC []]),(1,[.d (lI x.shape),.d (lC x.cells)]),(0,[.d (lI m.shape),.d (lC m.cells)])],15,[],none⟩) I ?_))))))))
   obtain⟨l1,hk,h⟩:=B h
   refine ms (Bf5 (D.int .i64) hk I I I I I I (AoF (D.int .i64)) I I I I I I I I I ) I (s2:=⟨[(46,.c (.arr 15 (List.length l1) 1)),(45,.d (lI x.shape)),(44,.c (.ptr 1 0)),(43,.c (.full 1 (List.map (D.int .i64) ([]:LI)))),(4,.c (.ptr 1 0)),(6,.c (.ptr 2 0)),(8,.d (iZ axis)),(9,.d (lI l))],[(15,[.seq 1 (List.map (D.int .i64) l1)]),(2,[oI [],oC []]),(1,[.d (lI x.shape),.d (lC x.cells)]),(0,[.d (lI m.shape),.d (lC m.cells)])],16,[],none⟩) I (mo (.of λ_=>I) I (λ_=>I) (s2:=⟨[(47,.vagg [.arr 15 (List.length l1) 1,.nilsl 3]),(46,.c (.arr 15 (List.length l1) 1)),(45,.d (lI x.shape)),(44,.c (.ptr 1 0)),(43,.c (.full 1 (List.map (D.int .i64) ([]:LI)))),(4,.c (.ptr 1 0)),(6,.c (.ptr 2 0)),(8,.d (iZ axis)),(9,.d (lI l))],[(15,[.seq 1 (List.map (D.int .i64) l1)]),(2,[oI [],oC []]),(1,[.d (lI x.shape),.d (lC x.cells)]),(0,[.d (lI m.shape),.d (lC m.cells)])],16,[],none⟩) I (mo (.of λ_=>I) I (λ_=>I) (s2:=⟨[(11,.c (.ptr 16 0)),(47,.vagg [.arr 15 (List.length l1) 1,.nilsl 3]),(46,.c (.arr 15 (List.length l1) 1)),(45,.d (lI x.shape)),(44,.c (.ptr 1 0)),(43,.c (.full 1 (List.map (D.int .i64) ([]:LI)))),(4,.c (.ptr 1 0)),(6,.c (.ptr 2 0)),(8,.d (iZ axis)),(9,.d (lI l))],[(16,[oI [],oC []]),(15,[.seq 1 (List.map (D.int .i64) l1)]),(2,[oI [],oC []]),(1,[.d (lI x.shape),.d (lC x.cells)]),(0,[.d (lI m.shape),.d (lC m.cells)])],17,[],none⟩) I (ms I I (s2:=⟨[(11,.c (.ptr 16 0)),(47,.vagg [.arr 15 (List.length l1) 1,.nilsl 3]),(46,.c (.arr 15 (List.length l1) 1)),(45,.d (lI x.shape)),(44,.c (.ptr 1 0)),(43,.c (.full 1 (List.map (D.int .i64) ([]:LI)))),(4,.c (.ptr 1 0)),(6,.c (.ptr 2 0)),(8,.d (iZ axis)),(9,.d (lI l))],[(16,[.arr 15 (List.length l1) 1,.nilsl 3]),(15,[.seq 1 (List.map (D.int .i64) l1)]),(2,[oI [],oC []]),(1,[.d (lI x.shape),.d (lC x.cells)]),(0,[.d (lI m.shape),.d (lC m.cells)])],17,[],none⟩) I (mz (N_ (S_ (rnF 3 (tm0:=[(11,.c (.ptr 16 0)),(47,.vagg [.arr 15 (List.length l1) 1,.nilsl 3]),(46,.c (.arr 15 (List.length l1) 1)),(45,.d (lI x.shape)),(44,.c (.ptr 1 0)),(43,.c (.full 1 (List.map (D.int .i64) ([]:LI)))),(4,.c (.ptr 1 0)),(6,.c (.ptr 2 0)),(8,.d (iZ axis)),(9,.d (lI l))]) (hp0:=[(16,[.arr 15 (List.length l1) 1,oC []]),(15,[.seq 1 (List.map (D.int .i64) l1)]),(2,[oI [],oC []]),(1,[.d (lI x.shape),.d (lC x.cells)]),(0,[.d (lI m.shape),.d (lC m.cells)])]) (nid0:=17) (AiE I (I) I) I ?_)))))))
   obtain⟨j,hk,h⟩:=B h
   refine po (AcW hk I I I I I) I I ?_
   obtain⟨l2,hk,h⟩:=B h
   refine po (est (D.int .i64) (v:=0) hk I I (λ_=>⟨I,I,I⟩) I I I I) I I (rz (S_ (S_ (rn 1 I (po (nC I I I I I I I) I I (on 1 I (rz ?_)))))))
   obtain⟨c01,hs,h⟩:=B h
   refine hU (λ(c01:LI)=>(⟨[(4,.c (.ptr 1 0)),(6,.c (.ptr 2 0)),(8,.d (iZ axis)),(9,.d (lI l)),(11,.c (.ptr 16 0))],[(16,[.arr 15 (List.length l1) 1,oC []]),(15,[.seq 1 (List.map (D.int .i64) c01)]),(2,[oI [],oC []]),(1,[.d (lI x.shape),.d (lC x.cells)]),(0,[.d (lI m.shape),.d (lC m.cells)])],17,[],none⟩:St)) (y:=c01) ?_ ?_
   ·replace h:=hs
    refine W_ (eH ?_)
    have hv:=Ok.ok h
    exact cB I I hv
   ·refine N_ (S_ ?_)
    obtain⟨l3,hkFl3,h⟩:=B h
    refine S_ (rnF 2 (tm0:=[(4,.c (.ptr 1 0)),(6,.c (.ptr 2 0)),(8,.d (iZ axis)),(9,.d (lI l)),(11,.c (.ptr 16 0))]) (hp0:=[(16,[.d (lI l3),oC []]),(2,[oI [],oC []]),(1,[.d (lI x.shape),.d (lC x.cells)]),(0,[.d (lI m.shape),.d (lC m.cells)])]) (nid0:=17) (AiE I (gC (b0:=16) (off:=0) I (iO (D.int .i64) I hkFl3 I I I)) I) I ?_)
    obtain⟨⟨x2,e1⟩,hk,h⟩:=B h
    have hv:=Ok.ok hk
    refine po (oA (hv) I I I I I I I I I) I I (on 5 I (rz (ra I ?_)))
    rcases E_ h with ⟨hc,h⟩|⟨hc,h⟩
    ·refine ct I hc (ra I (R_ (C_ (Q_ ?_))))
     cases h
     exact .ret I I
    ·refine cf I hc (K_ (cn I (N_ (ra I (S_ (S_ (rn 4 I ?_)))))))
     obtain⟨l4,hk,h⟩:=B h
     refine po (AlL hk I I I I I I) I I (po (nC I I I I I I I) I I (on 1 I (rz ?_)))
     obtain⟨size1,hs,h⟩:=B h
     refine hU (λ(size1:Int)=>(⟨[(4,.c (.ptr 1 0)),(6,.c (.ptr 2 0)),(9,.d (lI l)),(11,.c (.ptr 16 0)),(16,.d (iZ size1))],[(16,[.d (lI l3),oC []]),(2,[oI [],oC []]),(1,[.d (lI x.shape),.d (lC x.cells)]),(0,[.d (lI m.shape),.d (lC m.cells)])],17,[],none⟩:St)) (y:=size1) ?_ ?_
     ·replace h:=hs
      refine W_ (eH ?_)
      have hv:=Ok.ok h
      exact cB I I hv
     ·refine N_ (S_ (ra I ?_))
      obtain⟨out15,hs,h⟩:=B h
      refine hU (λ(out15:(List aA))=>(⟨[(6,.c (.ptr 2 0)),(11,.c (.ptr 16 0))],[(16,[.d (lI l3),oC out15]),(2,[oI [],oC []]),(1,[.d (lI x.shape),.d (lC x.cells)]),(0,[.d (lI m.shape),.d (lC m.cells)])],17,[],none⟩:St)) (y:=out15) ?_ ?_
      ·replace h:=hs
       refine W_ (eH ?_)
       have hv:=Ok.ok h
       exact cB I I hv
      ·refine N_ (ra I (R_ ?_))
       cases h
       exact .ret I I
 ⟩
abbrev wG (r:Arr):aE:=(aE.ret (.d (aI r)) [])
instance BcC:Jn 105 1 49 (Int):=⟨λy=>[(11,.d (iZ y))],λy=>[]⟩
abbrev AcE (a:Int×Arr×Int×LI×Int×Int) (res:Int):Prop:=match a with|(n,a_,axis,l,size,x)=>cG X 105 (aM [1,1,1,0,1,0,0] (aQ Tryz.f105)) (aH (X.H 105 5) 2) (aK 0 (X.H 105 1000000) 2 (iW (λ(size1:Int)=>(⟨[(0,.d (iZ n)),(2,.d (iZ axis)),(4,.c (.ptr 0 0)),(6,.c (.ptr 1 0)),(7,.d (iZ size1))],[(1,[oI [],oC []]),(0,[.d (lI a_.shape),.d (lC a_.cells)])],2,[],none⟩:St)) res)) ⟨[(0,.d (iZ n)),(2,.d (iZ axis)),(4,.c (.ptr 0 0)),(6,.c (.ptr 1 0)),(7,.d (iZ size)),(30,.d (lI l)),(31,.d (iZ (List.length l:Int))),(32,.d (iZ x))],[(1,[oI [],oC []]),(0,[.d (lI a_.shape),.d (lC a_.cells)])],2,[],none⟩
instance {a:Int×Arr×Int×LI×Int×Int}:Ok (jM a) (AcE a):=⟨λh=>jM.partial_correctness AcE (by
 rintro P_ IH ⟨n,a_,axis,l,size,x⟩ res h
 have IH:=Ok.mk' IH
 have iE:eP Tryz.f105 0 _ wG:=⟨trivial⟩
 refine lg I ?_
 exact Wk) _ _ h⟩
abbrev AcF (a:Arr×Int×Int×Int×Int×(List aA)) (res:(List aA)):Prop:=match a with|(a_,size1,d1,k1,at_,out1)=>cG X 105 (aM [1,1,1,1,1,1,1,1,0,1,0,0] (aQ Tryz.f105)) (aH (X.H 105 15) 3) (aK 2 (X.H 105 1000002) 3 (iW (λ(out11:(List aA))=>(⟨[(6,.c (.ptr 1 0)),(12,.c (.ptr 2 0))],[(2,[.d (lI a_.shape),oC out11]),(1,[oI [],oC []]),(0,[.d (lI a_.shape),.d (lC a_.cells)])],3,[],none⟩:St)) res)) ⟨[(4,.c (.ptr 0 0)),(6,.c (.ptr 1 0)),(7,.d (iZ size1)),(10,.d (iZ d1)),(11,.d (iZ k1)),(12,.c (.ptr 2 0)),(13,.d (iZ at_))],[(2,[.d (lI a_.shape),oC out1]),(1,[oI [],oC []]),(0,[.d (lI a_.shape),.d (lC a_.cells)])],3,[],none⟩
instance {a:Arr×Int×Int×Int×Int×(List aA)}:Ok (jN a) (AcF a):=⟨λh=>jN.partial_correctness AcF (by
 rintro P_ IH ⟨a_,size1,d1,k1,at_,out1⟩ res h
 have IH:=Ok.mk' IH
 have iE:eP Tryz.f105 0 _ wG:=⟨trivial⟩
 refine lg I ?_
 exact Wk) _ _ h⟩
instance {n:Int} {a_:Arr} {axis:Int}:Ok (p_pick_rotated n a_ axis) λr=>aval X 105 [.d (iZ n),.d (aI a_),.d (iZ axis)] [] (wG r):=⟨λh=>by
 unfold p_pick_rotated at h
 exact aB wG I Tryz.func105 I I I I I I λiE=>Wk⟩
abbrev Ai6 (r:aA×Int):aE:=(aE.ret (.tuple [.d (aD r.1),.d (iZ r.2)]) [])
instance {a_:Arr}:Ok (uG a_) λr=>aval X 172 [.d (aI a_)] [] (Ai6 r):=⟨λh=>by
 unfold uG at h
 exact aB Ai6 I Tryz.func172 I I I I I I λiE=>Wk⟩
abbrev AgT (a:Int×Arr×Int×LI×aA×Int×Int×(List aA)) (res:(List aA)):Prop:=match a with|(n,x,have_,shape,x4,x5,x6,more1)=>cG X 103 (aM [1,1,1,1,1,1,1,1,1,1,0,1,0,0] (aQ Tryz.f103)) (aH (X.H 103 18) 14) (aK 0 (X.H 103 1000000) 14 (iW (λ(more3:(List aA))=>(⟨[(0,.d (iZ n)),(3,.c (.ptr 0 0)),(4,.c (.ptr 1 0)),(8,.c (.own 1 (List.map (D.int .i64) shape))),(13,.c (.arr 13 (Int.toNat (w64 ((w64 ((if n<(w64 (0-n)) then (w64 (0-n)) else n)-have_))*x5))) 3))],[(13,[.seq 3 (List.map aD more3)]),(12,[.d (iZ x4.kind),.d (iZ x4.n),.d (.list 2 (List.map aY x4.box))]),(1,[oI [],oC []]),(0,[.d (lI x.shape),.d (lC x.cells)])],14,[],none⟩:St)) res)) ⟨[(0,.d (iZ n)),(3,.c (.ptr 0 0)),(4,.c (.ptr 1 0)),(8,.c (.own 1 (List.map (D.int .i64) shape))),(11,.c (.ptr 12 0)),(13,.c (.arr 13 (Int.toNat (w64 ((w64 ((if n<(w64 (0-n)) then (w64 (0-n)) else n)-have_))*x5))) 3)),(78,.d (iZ ((Int.toNat (w64 ((w64 ((if n<(w64 (0-n)) then (w64 (0-n)) else n)-have_))*x5))):Int))),(79,.d (iZ x6))],[(13,[.seq 3 (List.map aD more1)]),(12,[.d (iZ x4.kind),.d (iZ x4.n),.d (.list 2 (List.map aY x4.box))]),(1,[oI [],oC []]),(0,[.d (lI x.shape),.d (lC x.cells)])],14,[],none⟩
instance {a:Int×Arr×Int×LI×aA×Int×Int×(List aA)}:Ok (nR a) (AgT a):=⟨λh=>nR.partial_correctness AgT (by
 rintro P_ IH ⟨n,x,have_,shape,x4,x5,x6,more1⟩ res h
 have IH:=Ok.mk' IH
 refine lg I (ra I (S_ ?_))
 rcases E_ h with ⟨hc,h⟩|⟨hc,h⟩
 ·refine ct I hc (K_ (cn I (N_ (S_ (W_ (ra I (rn 3 I ?_)))))))
  obtain⟨j,hk,h⟩:=B h
  refine po (AcW hk I I I I I) I I ?_
  obtain⟨more2,hk,h⟩:=B h
  refine po (est aD (v:=x4) hk I I (λ_=>⟨I,I,I⟩) I I I I) I I (O_ (en I (N_ (rn 2 I (O_ (cL.normal ?_))))))
  have hv:=Ok.ok h
  exact cB I I hv
 ·refine cf I hc (X_ (fQ.exit (lE.exit (cL.exit (eh I ?_)))))
  cases h
  exact .ok I
 ) _ _ h⟩
instance {n:Int} {a_:Arr}:Ok (zE n a_) λr=>aval X 103 [.d (iZ n),.d (aI a_)] [] (aE.ret (.tuple [.d (aI r.1),.d (iZ r.2)]) []):=⟨λ{r} h=>by
 unfold zE at h
 refine lK (tm:=[(0,.d (iZ n)),(1,.d (aI a_))]) (hp:=[]) (n:=0) I Tryz.func103 I I I I I I (ra (nid':=2) I (S_ (rn 1 I ?_)))
 obtain⟨x,hk,h⟩:=B h
 have hv:=Ok.ok hk
 refine po (oA (hv) I I I I I I I I I) I I (on 1 I (rz (S_ (S_ (rn 3 I ?_)))))
 rcases E_ h with ⟨hc,h⟩|⟨hc,h⟩
 ·refine gt I I I I hc I (on 3 I (rz (ct I I (ra I (R_ (C_ (Q_ ?_)))))))
  cases h
  exact .ret I I
 ·refine gf I I I I hc I (on 3 I (rz ?_))
  rcases E_ h with ⟨hc,h⟩|⟨hc,h⟩
  ·refine ct I hc (ra I (R_ (C_ (Q_ ?_))))
   cases h
   exact .ret I I
  ·refine cf I hc (K_ (cn I (N_ (S_ (drn (m:=12) 6 I I ?_)))))
   obtain⟨have_,hk,h⟩:=B h
   refine pd (nB (D.int .i64) (λ_=>I) hk I I I I I) I I I I I (don 3 I (dz (by kernel_rfl) (S_ (rn 4 I ?_))))
   obtain⟨l,hk,h⟩:=B h
   refine po (AlL hk I I I I I I) I I ?_
   obtain⟨shape,hk,h⟩:=B h
   refine po (Aw9 hk I I I I I I I I I I I I ) I I (on 1 I (rz (S_ (S_ (rn 1 I ?_)))))
   obtain⟨⟨x1,e⟩,hk,h⟩:=B h
   have hv:=Ok.ok hk
   refine po (oA (hv) I I I I I I I I I) I I (on 5 I (rz (ra I ?_)))
   rcases E_ h with ⟨hc,h⟩|⟨hc,h⟩
   ·refine ct I hc (ra I (R_ (C_ (Q_ ?_))))
    cases h
    exact .ret I I
   ·refine cf I hc (K_ (cn I (N_ (S_ (ra I ?_)))))
    rcases E_ h with ⟨hc,h⟩|⟨hc,h⟩
    ·refine ct I hc (S_ (ra I ?_))
     rcases E_ h with ⟨hc,h⟩|⟨hc,h⟩
     ·refine ct I hc (S_ (rn 5 I ?_))
      obtain⟨x2,hk,h⟩:=B h
      have hv:=Ok.ok hk
      refine po (oA (hv) I I I I I I I I I) I I (on 2 I (rz (R_ (C_ (Q_ (C_ (Q_ ?_)))))))
      cases h
      exact .ret I I
     refine cf I hc (K_ (cn I (N_ (S_ (rn 2 I ?_)))))
     obtain⟨x3,hk,h⟩:=B h
     have hv:=Ok.ok hk
     refine po (oA (hv) I I I I I I I I I) I I (on 2 I (rz (R_ (C_ (Q_ ?_)))))
     cases h
     exact .ret I I
    ·refine cf I hc (K_ (cn I (N_ (S_ (rn 1 I ?_)))))
     obtain⟨⟨x4,e1⟩,hk,h⟩:=B h
     have hv:=Ok.ok hk
     refine po (oA (hv) I I I I I I I I I) I I (on (nid':=13) 6 I (rz (S_ (ra I ?_))))
     rcases E_ h with ⟨hc,h⟩|⟨hc,h⟩
     ·refine ct I hc (ra I (R_ (C_ (Q_ ?_))))
      cases h
      exact .ret I I
     ·refine cf I hc (K_ (cn I (N_ (S_ (rn 4 I ?_)))))
      obtain⟨x5,hk,h⟩:=B h
      have hv:=Ok.ok hk
      refine po (oA (hv) I I I I I I I I I) I I (on 1 I ?_)
      obtain⟨more,hk,h⟩:=B h
      refine po (AlM (nid':=14) aD (aA.mk 0 0 []) hk I I I I I I I I I I I I ) I I (on (nid':=14) 1 I (rz (S_ (ra I ?_))))
      obtain⟨more3,hs,h⟩:=B h
      refine hU (λ(more3:(List aA))=>(⟨[(0,.d (iZ n)),(3,.c (.ptr 0 0)),(4,.c (.ptr 1 0)),(8,.c (.own 1 (List.map (D.int .i64) shape))),(13,.c (.arr 13 (Int.toNat (w64 ((w64 ((if n<(w64 (0-n)) then (w64 (0-n)) else n)-have_))*x5))) 3))],[(13,[.seq 3 (List.map aD more3)]),(12,[.d (iZ x4.kind),.d (iZ x4.n),.d (.list 2 (List.map aY x4.box))]),(1,[oI [],oC []]),(0,[.d (lI x.shape),.d (lC x.cells)])],14,[],none⟩:St)) (y:=more3) ?_ ?_
      ·replace h:=hs
       refine W_ (eH ?_)
       have hv:=Ok.ok h
       exact cB I I hv
      ·refine N_ (S_ (ra I ?_))
       rcases E_ h with ⟨hc,h⟩|⟨hc,h⟩
       ·refine ct I hc (S_ (rnM (tm0:=[(88,.d (.bool (decide (n<0)))),(87,.d (iZ n)),(0,.d (iZ n)),(3,.c (.ptr 0 0)),(4,.c (.ptr 1 0)),(8,.c (.own 1 (List.map (D.int .i64) shape))),(13,.c (.arr 13 (Int.toNat (w64 ((w64 ((if n<(w64 (0-n)) then (w64 (0-n)) else n)-have_))*x5))) 3))]) (hp0:=[(13,[.seq 3 (List.map aD more3)]),(12,[.d (iZ x4.kind),.d (iZ x4.n),.d (.list 2 (List.map aY x4.box))]),(1,[oI [],oC []]),(0,[.d (lI x.shape),.d (lC x.cells)])]) (nid0:=14) I I I (mo (.of λ_=>I) I (λ_=>I) (s2:=⟨[(89,.view (.tmp 8) 1 (List.map (D.int .i64) shape)),(3,.c (.ptr 0 0)),(4,.c (.ptr 1 0)),(8,.c (.own 1 (List.map (D.int .i64) shape))),(13,.c (.arr 13 (Int.toNat (w64 ((w64 ((if n<(w64 (0-n)) then (w64 (0-n)) else n)-have_))*x5))) 3))],[(13,[.seq 3 (List.map aD more3)]),(12,[.d (iZ x4.kind),.d (iZ x4.n),.d (.list 2 (List.map aY x4.box))]),(1,[oI [],oC []]),(0,[.d (lI x.shape),.d (lC x.cells)])],14,[],none⟩) I (mo (.of λ_=>I) I (λ_=>I) (s2:=⟨[(90,.c (.arr 13 (Int.toNat (w64 ((w64 ((if n<(w64 (0-n)) then (w64 (0-n)) else n)-have_))*x5))) 3)),(89,.view (.tmp 8) 1 (List.map (D.int .i64) shape)),(3,.c (.ptr 0 0)),(4,.c (.ptr 1 0)),(8,.c (.own 1 (List.map (D.int .i64) shape))),(13,.c (.arr 13 (Int.toNat (w64 ((w64 ((if n<(w64 (0-n)) then (w64 (0-n)) else n)-have_))*x5))) 3))],[(13,[.seq 3 (List.map aD more3)]),(12,[.d (iZ x4.kind),.d (iZ x4.n),.d (.list 2 (List.map aY x4.box))]),(1,[oI [],oC []]),(0,[.d (lI x.shape),.d (lC x.cells)])],14,[],none⟩) I (mo (.of λ_=>I) I (λ_=>I) (s2:=⟨[(91,.c (.ptr 0 1)),(90,.c (.arr 13 (Int.toNat (w64 ((w64 ((if n<(w64 (0-n)) then (w64 (0-n)) else n)-have_))*x5))) 3)),(89,.view (.tmp 8) 1 (List.map (D.int .i64) shape)),(3,.c (.ptr 0 0)),(4,.c (.ptr 1 0)),(8,.c (.own 1 (List.map (D.int .i64) shape))),(13,.c (.arr 13 (Int.toNat (w64 ((w64 ((if n<(w64 (0-n)) then (w64 (0-n)) else n)-have_))*x5))) 3))],[(13,[.seq 3 (List.map aD more3)]),(12,[.d (iZ x4.kind),.d (iZ x4.n),.d (.list 2 (List.map aY x4.box))]),(1,[oI [],oC []]),(0,[.d (lI x.shape),.d (lC x.cells)])],14,[],none⟩) I (mo (.of λ_=>I) I (λ_=>I) (s2:=⟨[(92,.d (lC x.cells)),(91,.c (.ptr 0 1)),(90,.c (.arr 13 (Int.toNat (w64 ((w64 ((if n<(w64 (0-n)) then (w64 (0-n)) else n)-have_))*x5))) 3)),(89,.view (.tmp 8) 1 (List.map (D.int .i64) shape)),(3,.c (.ptr 0 0)),(4,.c (.ptr 1 0)),(8,.c (.own 1 (List.map (D.int .i64) shape))),(13,.c (.arr 13 (Int.toNat (w64 ((w64 ((if n<(w64 (0-n)) then (w64 (0-n)) else n)-have_))*x5))) 3))],[(13,[.seq 3 (List.map aD more3)]),(12,[.d (iZ x4.kind),.d (iZ x4.n),.d (.list 2 (List.map aY x4.box))]),(1,[oI [],oC []]),(0,[.d (lI x.shape),.d (lC x.cells)])],14,[],none⟩) I ?_))))))
        obtain⟨l1,hkFl1,h⟩:=B h
        obtain⟨l2,hk,h⟩:=B h
        refine ms (Bf5 aD hk I I I I I I (AtJ aD hkFl1 I) I I I I I I I I I ) I (s2:=⟨[(93,.c (.arr 14 (List.length l2) 3)),(92,.d (lC x.cells)),(91,.c (.ptr 0 1)),(90,.c (.arr 13 (Int.toNat (w64 ((w64 ((if n<(w64 (0-n)) then (w64 (0-n)) else n)-have_))*x5))) 3)),(89,.view (.tmp 8) 1 (List.map (D.int .i64) shape)),(3,.c (.ptr 0 0)),(4,.c (.ptr 1 0)),(8,.c (.own 1 (List.map (D.int .i64) shape))),(13,.c (.arr 13 (Int.toNat (w64 ((w64 ((if n<(w64 (0-n)) then (w64 (0-n)) else n)-have_))*x5))) 3))],[(14,[.seq 3 (List.map aD l2)]),(12,[.d (iZ x4.kind),.d (iZ x4.n),.d (.list 2 (List.map aY x4.box))]),(1,[oI [],oC []]),(0,[.d (lI x.shape),.d (lC x.cells)])],15,[],none⟩) I (mo (.of λ_=>I) I (λ_=>I) (s2:=⟨[(94,.vagg [.d (lI shape),.arr 14 (List.length l2) 3]),(93,.c (.arr 14 (List.length l2) 3)),(92,.d (lC x.cells)),(91,.c (.ptr 0 1)),(90,.c (.arr 13 (Int.toNat (w64 ((w64 ((if n<(w64 (0-n)) then (w64 (0-n)) else n)-have_))*x5))) 3)),(89,.view (.tmp 8) 1 (List.map (D.int .i64) shape)),(3,.c (.ptr 0 0)),(4,.c (.ptr 1 0)),(8,.c (.own 1 (List.map (D.int .i64) shape))),(13,.c (.arr 13 (Int.toNat (w64 ((w64 ((if n<(w64 (0-n)) then (w64 (0-n)) else n)-have_))*x5))) 3))],[(14,[.seq 3 (List.map aD l2)]),(12,[.d (iZ x4.kind),.d (iZ x4.n),.d (.list 2 (List.map aY x4.box))]),(1,[oI [],oC []]),(0,[.d (lI x.shape),.d (lC x.cells)])],15,[],none⟩) I (mo (.of λ_=>I) I (λ_=>I) (s2:=⟨[(94,.vagg [.d (lI shape),.arr 14 (List.length l2) 3]),(93,.c (.arr 14 (List.length l2) 3)),(92,.d (lC x.cells)),(91,.c (.ptr 0 1)),(90,.c (.arr 13 (Int.toNat (w64 ((w64 ((if n<(w64 (0-n)) then (w64 (0-n)) else n)-have_))*x5))) 3)),(89,.view (.tmp 8) 1 (List.map (D.int .i64) shape)),(3,.c (.ptr 0 0)),(4,.c (.ptr 1 0)),(8,.c (.own 1 (List.map (D.int .i64) shape))),(13,.c (.arr 13 (Int.toNat (w64 ((w64 ((if n<(w64 (0-n)) then (w64 (0-n)) else n)-have_))*x5))) 3))],[(14,[.seq 3 (List.map aD l2)]),(12,[.d (iZ x4.kind),.d (iZ x4.n),.d (.list 2 (List.map aY x4.box))]),(1,[.d (lI shape),.arr 14 (List.length l2) 3]),(0,[.d (lI x.shape),.d (lC x.cells)])],15,[],none⟩) I (mo (.of λ_=>I) I (λ_=>I) (s2:=⟨[(5,.d (iZ 0)),(94,.vagg [.d (lI shape),.arr 14 (List.length l2) 3]),(93,.c (.arr 14 (List.length l2) 3)),(92,.d (lC x.cells)),(91,.c (.ptr 0 1)),(90,.c (.arr 13 (Int.toNat (w64 ((w64 ((if n<(w64 (0-n)) then (w64 (0-n)) else n)-have_))*x5))) 3)),(89,.view (.tmp 8) 1 (List.map (D.int .i64) shape)),(3,.c (.ptr 0 0)),(4,.c (.ptr 1 0)),(8,.c (.own 1 (List.map (D.int .i64) shape))),(13,.c (.arr 13 (Int.toNat (w64 ((w64 ((if n<(w64 (0-n)) then (w64 (0-n)) else n)-have_))*x5))) 3))],[(14,[.seq 3 (List.map aD l2)]),(12,[.d (iZ x4.kind),.d (iZ x4.n),.d (.list 2 (List.map aY x4.box))]),(1,[.d (lI shape),.arr 14 (List.length l2) 3]),(0,[.d (lI x.shape),.d (lC x.cells)])],15,[],none⟩) I (mz (N_ (R_ (C_ (Q_ ?_))))))))
        cases h
        exact .retF I I (Ac1 I I I (mC (iO aD I (AvH _) I I I) (mC I Ac3)) (AoX Ag3)) I
       ·refine cf I hc (K_ (cn I (N_ ?_)))
        obtain⟨more4,hkFmore4,h⟩:=B h
        refine S_ (rnF 4 (tm0:=[(13,.d (lC more4)),(88,.d (.bool (decide (n<0)))),(87,.d (iZ n)),(0,.d (iZ n)),(3,.c (.ptr 0 0)),(4,.c (.ptr 1 0)),(8,.c (.own 1 (List.map (D.int .i64) shape))),(13,.c (.arr 13 (Int.toNat (w64 ((w64 ((if n<(w64 (0-n)) then (w64 (0-n)) else n)-have_))*x5))) 3))]) (hp0:=[(12,[.d (iZ x4.kind),.d (iZ x4.n),.d (.list 2 (List.map aY x4.box))]),(1,[oI [],oC []]),(0,[.d (lI x.shape),.d (lC x.cells)])]) (nid0:=14) (AiE I (gT (t:=13) I I I (Au7 (Ag7 aD hkFmore4 I)) I I) I) I ?_)
        obtain⟨l3,hk,h⟩:=B h
        refine po (Aw9 hk I I I I I I I I I I I I ) I I (on 1 I ?_)
        obtain⟨l4,hk,h⟩:=B h
        refine po (AwA hk I I I I I I I I I I I I ) I I (on 3 I (rz (R_ ?_)))
        cases h
        exact .ret I I
 ⟩
abbrev AhA (r:Arr×Int):aE:=(aE.ret (.tuple [.d (aI r.1),.d (iZ r.2)]) [])
instance BhW:Jn 46 1 34 (Bool):=⟨λy=>[(34,.d (.bool y))],λy=>[]⟩
instance BhX:Jn 46 1 58 (Bool):=⟨λy=>[(58,.d (.bool y))],λy=>[]⟩
instance BhY:Jn 46 1 68 (Bool):=⟨λy=>[(68,.d (.bool y))],λy=>[]⟩
abbrev AkW (a:Int×Arr×Arr×Int) (res:Except (Arr×Int) (Unit)):Prop:=match a with|(op_,a_,b,x)=>cG X 46 (aM [1,0,1,0,0] (aQ Tryz.f46)) (aH (X.H 46 2) 3) (aK 0 (X.H 46 1000000) 3 (jY X Tryz.f46 0 AhA (λ(_:Unit)=>(⟨[(0,.d (iZ op_)),(4,.c (.ptr 0 0)),(5,.c (.ptr 1 0)),(6,.c (.ptr 2 0))],[(2,[oI [],oC []]),(1,[.d (lI b.shape),.d (lC b.cells)]),(0,[.d (lI a_.shape),.d (lC a_.cells)])],3,[],none⟩:St)) res)) ⟨[(0,.d (iZ op_)),(4,.c (.ptr 0 0)),(5,.c (.ptr 1 0)),(6,.c (.ptr 2 0)),(15,.c (.full 2 (List.map aY [a_,b]))),(16,.d (iZ (List.length [a_,b]:Int))),(17,.d (iZ x))],[(2,[oI [],oC []]),(1,[.d (lI b.shape),.d (lC b.cells)]),(0,[.d (lI a_.shape),.d (lC a_.cells)])],3,[],none⟩
instance {a:Int×Arr×Arr×Int}:Ok (qP a) (AkW a):=⟨λh=>qP.partial_correctness AkW (by
 rintro P_ IH ⟨op_,a_,b,x⟩ res h
 have IH:=Ok.mk' IH
 have iE:eP Tryz.f46 0 _ AhA:=⟨trivial⟩
 refine lg I ?_
 exact Wk) _ _ h⟩
instance {op_:Int} {a_:Arr} {b:Arr}:Ok (AdS op_ a_ b) λr=>aval X 46 [.d (iZ op_),.d (aI a_),.d (aI b)] [] (AhA r):=⟨λh=>by
 unfold AdS at h
 exact aB AhA I Tryz.func46 I I I I I I λiE=>Wk⟩
abbrev Ag0 (a_1:aA) (r:Bool):aE:=(aE.ret (.d (.bool r)) [[.d (iZ a_1.kind),.d (iZ a_1.n),.d (.list 2 (List.map aY a_1.box))]])
instance {a_:aA} {a_1:aA}:Ok (xA a_ a_1) λr=>aval X 166 [.d (aD a_),.ptr 0 0] [[.d (iZ a_1.kind),.d (iZ a_1.n),.d (.list 2 (List.map aY a_1.box))]] ((Ag0 a_1) r):=⟨λh=>by
 unfold xA at h
 exact aB (Ag0 a_1) I Tryz.func166 I I I I I I λiE=>Wk⟩
abbrev eF (b:aA) (r:Int):aE:=(aE.ret (.d (iZ r)) [[.d (iZ b.kind),.d (iZ b.n),.d (.list 2 (List.map aY b.box))]])
abbrev jZ (a:(List aA)×aA×Int) (res:Except (Int) (Unit)):Prop:=match a with|(s,b,x)=>cG X 165 (aM [1,0,1,0,0] (aQ Tryz.f165)) (aH (X.H 165 2) 1) (aK 0 (X.H 165 1000000) 1 (jY X Tryz.f165 1 (eF b) (λ(_:Unit)=>(⟨[],[(0,[.d (iZ b.kind),.d (iZ b.n),.d (.list 2 (List.map aY b.box))])],1,[],none⟩:St)) res)) ⟨[(0,.d (lC s)),(1,.c (.fn 166 [0])),(7,.d (iZ (List.length s:Int))),(8,.d (iZ x))],[(0,[.d (iZ b.kind),.d (iZ b.n),.d (.list 2 (List.map aY b.box))])],1,[],none⟩
instance {a:(List aA)×aA×Int}:Ok (bV a) (jZ a):=⟨λh=>bV.partial_correctness jZ (by
 rintro P_ IH ⟨s,b,x⟩ res h
 have IH:=Ok.mk' IH
 have iE:eP Tryz.f165 1 _ (eF b):=⟨trivial⟩
 refine lg I ?_
 exact Wk) _ _ h⟩
instance {s:(List aA)} {b:aA}:Ok (eG s b) λr=>aval X 165 [.d (lC s),.fn 166 [0]] [[.d (iZ b.kind),.d (iZ b.n),.d (.list 2 (List.map aY b.box))]] ((eF b) r):=⟨λh=>by
 unfold eG at h
 exact aB (eF b) I Tryz.func165 I I I I I I λiE=>Wk⟩
abbrev AkB (r:Int):aE:=(aE.ret (.d (iZ r)) [])
instance {l:(List aA)} {c:aA}:Ok (tK l c) λr=>aval X 98 [.d (lC l),.d (aD c)] [] (AkB r):=⟨λh=>by
 unfold tK at h
 exact aB AkB I Tryz.func98 I I I I I I λiE=>Wk⟩
abbrev AkX (a:Arr×Arr×Nat×LI×Int×(List aA)) (res:(List aA)):Prop:=match a with|(a_,b,x,b1,x1,out1)=>cG X 45 (aM [1,1,1,0,1,0,1,0,1,1,0,1,0,0] (aQ Tryz.f45)) (aH (X.H 45 11) 5) (aK 1 (X.H 45 1000001) 5 (iW (λ(out11:(List aA))=>(⟨[(6,.c (.ptr 2 0)),(9,.c (.ptr 3 0))],[(3,[.arr 4 x 1,oC out11]),(2,[oI [],oC []]),(1,[.d (lI b.shape),.d (lC b.cells)]),(0,[.d (lI a_.shape),.d (lC a_.cells)]),(4,[.seq 1 (List.map (D.int .i64) b1)])],5,[],none⟩:St)) res)) ⟨[(4,.c (.ptr 0 0)),(6,.c (.ptr 2 0)),(9,.c (.ptr 3 0)),(37,.d (lC b.cells)),(38,.d (iZ (List.length b.cells:Int))),(39,.d (iZ x1))],[(3,[.arr 4 x 1,oC out1]),(2,[oI [],oC []]),(1,[.d (lI b.shape),.d (lC b.cells)]),(0,[.d (lI a_.shape),.d (lC a_.cells)]),(4,[.seq 1 (List.map (D.int .i64) b1)])],5,[],none⟩
instance {a:Arr×Arr×Nat×LI×Int×(List aA)}:Ok (qR a) (AkX a):=⟨λh=>qR.partial_correctness AkX (by
 rintro P_ IH ⟨a_,b,x,b1,x1,out1⟩ res h
 have IH:=Ok.mk' IH
 refine lg I (ra I (S_ ?_))
 rcases E_ h with ⟨hc,h⟩|⟨hc,h⟩
 ·refine ct I hc (K_ (cn I (N_ (S_ (W_ (S_ (rn 0 I ?_)))))))
  obtain⟨y,hk,h⟩:=B h
  refine po (nB aD (λ_=>I) hk I I I I I) I I (on (nid':=6) 3 I (rz (drn (m:=17) 5 I I ?_)))
  obtain⟨x2,hk,h⟩:=B h
  have hv:=Ok.ok hk
  refine pd (oA (hv) I I I I I I I I I) I I I I I (don 2 I ?_)
  obtain⟨l,hk,h⟩:=B h
  refine pd (Ag1 hk I I I I I I I I I I I I I I ) I I I I I (don 2 I (dz' (by kernel_rfl) (en I (N_ (rn 2 I (O_ (cL.normal ?_)))))))
  have hv:=Ok.ok h
  exact cB I I hv
 ·refine cf I hc (X_ (fQ.exit (lE.exit (cL.exit (eh I ?_)))))
  cases h
  exact .ok I
 ) _ _ h⟩
abbrev AkY (a:Arr×Arr×Nat×LI×Int×(List aA)) (res:(List aA)):Prop:=match a with|(a_,b,x3,b2,x4,out12)=>cG X 45 (aM [1,1,1,0,1,0,1,1,1,0,1,0,1,0,0] (aQ Tryz.f45)) (aH (X.H 45 19) 5) (aK 3 (X.H 45 1000003) 5 (iW (λ(out13:(List aA))=>(⟨[(6,.c (.ptr 2 0)),(9,.c (.ptr 3 0))],[(3,[.arr 4 x3 1,oC out13]),(2,[oI [],oC []]),(1,[.d (lI b.shape),.d (lC b.cells)]),(0,[.d (lI a_.shape),.d (lC a_.cells)]),(4,[.seq 1 (List.map (D.int .i64) b2)])],5,[],none⟩:St)) res)) ⟨[(5,.c (.ptr 1 0)),(6,.c (.ptr 2 0)),(9,.c (.ptr 3 0)),(62,.d (lC a_.cells)),(63,.d (iZ (List.length a_.cells:Int))),(64,.d (iZ x4))],[(3,[.arr 4 x3 1,oC out12]),(2,[oI [],oC []]),(1,[.d (lI b.shape),.d (lC b.cells)]),(0,[.d (lI a_.shape),.d (lC a_.cells)]),(4,[.seq 1 (List.map (D.int .i64) b2)])],5,[],none⟩
instance {a:Arr×Arr×Nat×LI×Int×(List aA)}:Ok (qS a) (AkY a):=⟨λh=>qS.partial_correctness AkY (by
 rintro P_ IH ⟨a_,b,x3,b2,x4,out12⟩ res h
 have IH:=Ok.mk' IH
 refine lg I (ra I (S_ ?_))
 rcases E_ h with ⟨hc,h⟩|⟨hc,h⟩
 ·refine ct I hc (K_ (cn I (N_ (S_ (W_ (S_ (rn 0 I ?_)))))))
  obtain⟨y1,hk,h⟩:=B h
  refine po (nB aD (λ_=>I) hk I I I I I) I I (on (nid':=6) 3 I (rz (ra I (S_ (S_ (drn (m:=14) 3 I I ?_))))))
  obtain⟨x5,hk,h⟩:=B h
  have hv:=Ok.ok hk
  refine pd (oA (hv) I I I I I I I I I) I I I I I (don 2 I (pd (nC I I I I I I I) I I I I I (don 1 I (dz (by kernel_rfl) ?_))))
  obtain⟨n,hs,h⟩:=B h
  refine hU (λ(n:Int)=>(⟨[(5,.c (.ptr 1 0)),(6,.c (.ptr 2 0)),(9,.c (.ptr 3 0)),(14,.d (iZ n)),(62,.d (lC a_.cells)),(63,.d (iZ (List.length a_.cells:Int))),(64,.d (iZ x4))],[(5,[.d (iZ y1.kind),.d (iZ y1.n),.d (.list 2 (List.map aY y1.box))]),(3,[.arr 4 x3 1,oC out12]),(2,[oI [],oC []]),(1,[.d (lI b.shape),.d (lC b.cells)]),(0,[.d (lI a_.shape),.d (lC a_.cells)]),(4,[.seq 1 (List.map (D.int .i64) b2)])],14,[],none⟩:St)) (y:=n) ?_ ?_
  ·replace h:=hs
   rcases E_ h with ⟨hc,h⟩|⟨hc,h⟩
   ·refine ct I hc (rn 1 I (O_ (cn I ?_)))
    cases h
    exact .ok I
   refine cf I hc (K_ (cn I ?_))
   cases h
   exact .ok I
  refine N_ (rn 5 I ?_)
  obtain⟨l1,hk,h⟩:=B h
  refine po (Ag1 hk I I I I I I I I I I I I I I ) I I (on 2 I (O_ (en I (N_ (rn 2 I (O_ (cL.normal ?_)))))))
  have hv:=Ok.ok h
  exact cB I I hv
 ·refine cf I hc (X_ (fQ.exit (lE.exit (cL.exit (eh I ?_)))))
  cases h
  exact .ok I
 ) _ _ h⟩
instance {op_:Int} {a_:Arr} {b:Arr}:Ok (AaL op_ a_ b) λr=>aval X 45 [.d (iZ op_),.d (aI a_),.d (aI b)] [] (aE.ret (.tuple [.d (aI r.1),.d (iZ r.2)]) []):=⟨λ{r} h=>by
 unfold AaL at h
 refine lK (tm:=[(0,.d (iZ op_)),(1,.d (aI a_)),(2,.d (aI b))]) (hp:=[]) (n:=0) I Tryz.func45 I I I I I I (ra (nid':=3) I (S_ (S_ (rn 2 I (po (BiO (show V.c (.full 2 [aI a_,aI b])=V.c (.full 2 (List.map aY [a_,b])) from by simp only[List.map_cons,List.map_nil,qH]) (zK I)) I I ?_)))))
 obtain⟨e,hk,h⟩:=B h
 have hv:=Ok.ok hk
 refine po (oA (hv) I I I I I I I I I) I I (on 1 I (rz (ra I ?_)))
 rcases E_ h with ⟨hc,h⟩|⟨hc,h⟩
 ·refine ct I hc (ra I (R_ (C_ (Q_ ?_))))
  cases h
  exact .ret I I
 ·refine cf I hc (K_ (cn I (N_ (ra (nid':=4) I (S_ (ra I (W_ (ra I ?_))))))))
  rcases E_ h with ⟨hc,h⟩|⟨hc,h⟩
  ·refine ct I hc (S_ (S_ (rn 2 I (po (nC I I I I I I I) I I (on 1 I (rz ?_))))))
   rcases E_ h with ⟨hc,h⟩|⟨hc,h⟩
   ·refine ct I hc (ra I (R_ (C_ (Q_ (C_ (aK.ret (Q_ ?_)))))))
    cases h
    exact .ret I I
   refine cf I hc (K_ (cn I (N_ (S_ (rn 2 I ?_)))))
   obtain⟨⟨x,b1⟩,hk,h⟩:=B h
   have hv:=Ok.ok hk
   refine po (Ag2 (nid':=5) (hv) I I I I I I I I I I I I) I I (on (nid':=5) 2 I (rz (S_ (S_ (rn 2 I (po (nC I I I I I I I) I I (on 1 I (rz ?_))))))))
   obtain⟨out11,hs,h⟩:=B h
   refine hU (λ(out11:(List aA))=>(⟨[(6,.c (.ptr 2 0)),(9,.c (.ptr 3 0))],[(3,[.arr 4 x 1,oC out11]),(2,[oI [],oC []]),(1,[.d (lI b.shape),.d (lC b.cells)]),(0,[.d (lI a_.shape),.d (lC a_.cells)]),(4,[.seq 1 (List.map (D.int .i64) b1)])],5,[],none⟩:St)) (y:=out11) ?_ ?_
   ·replace h:=hs
    refine W_ (eH ?_)
    have hv:=Ok.ok h
    exact cB I I hv
   refine N_ (ra I (R_ (C_ (aK.ret (Q_ ?_)))))
   obtain⟨shape,hkFshape,h⟩:=B h
   cases h
   exact .retF I I (Ac1 I I I (mC I (mC (iO (D.int .i64) I hkFshape I I I) Ac3)) (AoX Ag3)) I
  ·refine cf I hc (ra I ?_)
   rcases E_ h with ⟨hc,h⟩|⟨hc,h⟩
   ·refine ct I hc (S_ (rn 2 I ?_))
    obtain⟨⟨x3,b2⟩,hk,h⟩:=B h
    have hv:=Ok.ok hk
    refine po (Ag2 (nid':=5) (hv) I I I I I I I I I I I I) I I (on (nid':=5) 2 I (rz (S_ (S_ (rn 2 I (po (nC I I I I I I I) I I (on 1 I (rz ?_))))))))
    obtain⟨out13,hs,h⟩:=B h
    refine hU (λ(out13:(List aA))=>(⟨[(6,.c (.ptr 2 0)),(9,.c (.ptr 3 0))],[(3,[.arr 4 x3 1,oC out13]),(2,[oI [],oC []]),(1,[.d (lI b.shape),.d (lC b.cells)]),(0,[.d (lI a_.shape),.d (lC a_.cells)]),(4,[.seq 1 (List.map (D.int .i64) b2)])],5,[],none⟩:St)) (y:=out13) ?_ ?_
    ·replace h:=hs
     refine W_ (eH ?_)
     have hv:=Ok.ok h
     exact cB I I hv
    refine N_ (ra I (R_ (C_ (C_ (aK.ret (Q_ ?_))))))
    obtain⟨shape1,hkFshape1,h⟩:=B h
    cases h
    exact .retF I I (Ac1 I I I (mC I (mC (iO (D.int .i64) I hkFshape1 I I I) Ac3)) (AoX Ag3)) I
   ·refine cf I hc (K_ (cn I (cn I (en I (N_ (ra I (R_ ?_)))))))
    cases h
    exact .ret I I
 ⟩
abbrev As2 (r:Arr×Int):aE:=(aE.ret (.tuple [.d (aI r.1),.d (iZ r.2)]) [])
instance Bi0:Jn 17 0 0 (Unit):=⟨λy=>[],λy=>[]⟩
instance {op_:Int} {a_:Arr} {y:Arr}:Ok (AaK op_ a_ y) λr=>aval X 17 [.d (iZ op_),.d (aI a_),.d (aI y)] [] (As2 r):=⟨λh=>by
 unfold AaK at h
 exact aB As2 I Tryz.func17 I I I I I I λiE=>Wk⟩
abbrev Ai9 (r:cE):aE:=(aE.ret (.d (rK r)) [])
instance {n:Node}:Ok (hJ n) λr=>aval X 130 [.d (encNode n)] [] (Ai9 r):=⟨λh=>by
 unfold hJ at h
 exact aB Ai9 I Tryz.func130 I I I I I I λiE=>Wk⟩
abbrev yJ (r:Int):aE:=(aE.ret (.d (iZ r)) [])
abbrev xX (a:Arr×Int×aA×Int×Int) (res:Int):Prop:=match a with|(a_,x,y,n1,x1)=>cG X 190 (aM [1,1,0,1,0,0,1,1,0,0,1,1,0,0] (aQ Tryz.f190)) (aH (X.H 190 6) 2) (aK 2 (X.H 190 1000002) 2 (iW (λ(n2:Int)=>(⟨[(3,.d (iZ n2)),(12,.d (lC a_.cells)),(13,.d (iZ (List.length a_.cells:Int))),(14,.d (iZ x))],[(1,[.d (iZ y.kind),.d (iZ y.n),.d (.list 2 (List.map aY y.box))]),(0,[.d (lI a_.shape),.d (lC a_.cells)])],2,[],none⟩:St)) res)) ⟨[(3,.d (iZ n1)),(12,.d (lC a_.cells)),(13,.d (iZ (List.length a_.cells:Int))),(14,.d (iZ x)),(19,.d (.list 2 (List.map aY y.box))),(20,.d (iZ (List.length y.box:Int))),(21,.d (iZ x1))],[(1,[.d (iZ y.kind),.d (iZ y.n),.d (.list 2 (List.map aY y.box))]),(0,[.d (lI a_.shape),.d (lC a_.cells)])],2,[],none⟩
abbrev xW (a:Arr×Int×Int) (res:Int):Prop:=match a with|(a_,n,x)=>cG X 190 (aM [1,1,0,1,0,0] (aQ Tryz.f190)) (aH (X.H 190 3) 1) (aK 0 (X.H 190 1000000) 1 (iW (λ(n3:Int)=>(⟨[(3,.d (iZ n3))],[(0,[.d (lI a_.shape),.d (lC a_.cells)])],1,[],none⟩:St)) res)) ⟨[(3,.d (iZ n)),(12,.d (lC a_.cells)),(13,.d (iZ (List.length a_.cells:Int))),(14,.d (iZ x))],[(0,[.d (lI a_.shape),.d (lC a_.cells)])],1,[],none⟩
abbrev Ad2 (a:Arr) (res:Int):Prop:=match a with|a_=>aval X 190 [.d (aI a_)] [] (yJ res)
theorem sR:(∀a res,iS a=some res->xX a res)/\(∀a res,kN a=some res->Ad2 a res)/\(∀a res,p_meter_Cells_l0 a=some res->xW a res):=by
 refine iS.mutual_partial_correctness (motive_1:=xX) (motive_2:=Ad2) (motive_3:=xW) ?_ ?_ ?_
 ·rintro P0 P1 I0 I1 ⟨a_,x,y,n1,x1⟩ res h
  have I0:=Ok.mk' I0
  have I1:=Ok.mk' I1
  refine lg I ?_
  have iE:eP Tryz.f190 0 _ yJ:=⟨trivial⟩
  exact Wk
 ·rintro P0 I0 a_ res h
  have I0:=Ok.mk' I0
  exact aB yJ I Tryz.func190 I I I I I I λiE=>Wk
 rintro P0 P1 I0 I1 ⟨a_,n,x⟩ res h
 have I0:=Ok.mk' I0
 have I1:=Ok.mk' I1
 refine lg I ?_
 have iE:eP Tryz.f190 0 _ yJ:=⟨trivial⟩
 exact Wk
instance {a:Arr×Int×aA×Int×Int}:Ok (iS a) (xX a):=⟨λh=>sR.1 a _ h⟩
instance {a:Arr}:Ok (kN a) (Ad2 a):=⟨λh=>sR.2.1 a _ h⟩
instance {a:Arr×Int×Int}:Ok (p_meter_Cells_l0 a) (xW a):=⟨λh=>sR.2.2 a _ h⟩
abbrev AaZ (m:aG) (r:Int):aE:=(aE.ret (.d (iZ r)) [[.d (iZ m.fuel.left),.d (iZ m.fuel.used),.d (iZ m.cells)]])
instance {a_:Arr} {m:aG}:Ok (qN a_ m) λr=>aval X 128 [.ptr 0 0,.d (aI a_)] [[.d (iZ m.fuel.left),.d (iZ m.fuel.used),.d (iZ m.cells)]] ((AaZ m) r):=⟨λh=>by
 unfold qN at h
 exact aB (AaZ m) I Tryz.func128 I I I I I I λiE=>Wk⟩
abbrev Ab3 (names:(List Str)) (vals:(List Arr)) (b:aG) (r:Arr×Int):aE:=(aE.ret (.tuple [.d (aI r.1),.d (iZ r.2)]) [[.ptr 1 0,.d (lS names),.d (.list 2 (List.map aY vals))],[.d (iZ b.fuel.left),.d (iZ b.fuel.used),.d (iZ b.cells)]])
instance Ax1:Jn 56 1 9 (Int):=⟨λy=>[(2,.d (iZ y))],λy=>[]⟩
instance {a_:Arr} {e:Int} {names:(List Str)} {vals:(List Arr)} {b:aG}:Ok (aV a_ e names vals b) λr=>aval X 56 [.ptr 0 0,.d (aI a_),.d (iZ e)] [[.ptr 1 0,.d (lS names),.d (.list 2 (List.map aY vals))],[.d (iZ b.fuel.left),.d (iZ b.fuel.used),.d (iZ b.cells)]] ((Ab3 names vals b) r):=⟨λh=>by
 unfold aV at h
 exact aB (Ab3 names vals b) I Tryz.func56 I I I I I I λiE=>Wk⟩
abbrev qG (names:(List Str)) (vals:(List Arr)) (b:aG) (r:Arr×Int):aE:=(aE.ret (.tuple [.d (aI r.1),.d (iZ r.2)]) [[.ptr 1 0,.d (lS names),.d (.list 2 (List.map aY vals))],[.d (iZ b.fuel.left),.d (iZ b.fuel.used),.d (iZ b.cells)]])
instance Ax2:Jn 57 0 1 (Unit):=⟨λy=>[],λy=>[]⟩
abbrev xN (a:Str×(List Str)×(List Arr)×aG×Int) (res:Except (Arr×Int) (Unit)):Prop:=match a with|(s,names,vals,b,x)=>cG X 57 (aM [1,0,1,0,0] (aQ Tryz.f57)) (aH (X.H 57 2) 3) (aK 0 (X.H 57 1000000) 3 (jY X Tryz.f57 2 (qG names vals b) (λ(_:Unit)=>(⟨[(4,.c (.ptr 2 0))],[(2,[oI [],oC []]),(0,[.ptr 1 0,.d (lS names),.d (.list 2 (List.map aY vals))]),(1,[.d (iZ b.fuel.left),.d (iZ b.fuel.used),.d (iZ b.cells)])],3,[],none⟩:St)) res)) ⟨[(0,.c (.ptr 0 0)),(1,.d (.str s)),(4,.c (.ptr 2 0)),(12,.d (lS names)),(13,.d (iZ (List.length names:Int))),(14,.d (iZ x))],[(2,[oI [],oC []]),(0,[.ptr 1 0,.d (lS names),.d (.list 2 (List.map aY vals))]),(1,[.d (iZ b.fuel.left),.d (iZ b.fuel.used),.d (iZ b.cells)])],3,[],none⟩
instance {a:Str×(List Str)×(List Arr)×aG×Int}:Ok (bU a) (xN a):=⟨λh=>bU.partial_correctness xN (by
 rintro P_ IH ⟨s,names,vals,b,x⟩ res h
 have IH:=Ok.mk' IH
 have iE:eP Tryz.f57 2 _ (qG names vals b):=⟨trivial⟩
 refine lg I ?_
 exact Wk) _ _ h⟩
instance {s:Str} {names:(List Str)} {vals:(List Arr)} {b:aG}:Ok (cX s names vals b) λr=>aval X 57 [.ptr 0 0,.d (.str s)] [[.ptr 1 0,.d (lS names),.d (.list 2 (List.map aY vals))],[.d (iZ b.fuel.left),.d (iZ b.fuel.used),.d (iZ b.cells)]] ((qG names vals b) r):=⟨λh=>by
 unfold cX at h
 exact aB (qG names vals b) I Tryz.func57 I I I I I I λiE=>Wk⟩
abbrev Ab2 (names:(List Str)) (vals:(List Arr)) (b:aG) (r:Arr×Int×Int×Int):aE:=(aE.ret (.tuple [.d (aI r.1),.d (iZ r.2.1)]) [[.ptr 1 0,.d (lS names),.d (.list 2 (List.map aY vals))],[.d (iZ r.2.2.1),.d (iZ r.2.2.2),.d (iZ b.cells)]])
abbrev rW (names:(List Str)) (vals:(List Arr)) (b:aG) (r:Arr×Int×Int×Int):aE:=(aE.ret (.tuple [.d (aI r.1),.d (iZ r.2.1)]) [[.ptr 1 0,.d (lS names),.d (.list 2 (List.map aY vals))],[.d (iZ r.2.2.1),.d (iZ r.2.2.2),.d (iZ b.cells)]])
instance AyH:Jn 58 1 58 (Bool):=⟨λy=>[(58,.d (.bool y))],λy=>[]⟩
instance AyI:Jn 58 1 77 (Bool):=⟨λy=>[(77,.d (.bool y))],λy=>[]⟩
abbrev Ac0 (names:(List Str)) (vals:(List Arr)) (b:aG) (r:Arr×Int×Int×Int):aE:=(aE.ret (.tuple [.d (aI r.1),.d (iZ r.2.1)]) [[.ptr 1 0,.d (lS names),.d (.list 2 (List.map aY vals))],[.d (iZ r.2.2.1),.d (iZ r.2.2.2),.d (iZ b.cells)]])
abbrev vC (a:Node×pK×(List Str)×(List Arr)×aG) (res:Arr×Int×Int×Int):Prop:=match a with|(n,a_,names,vals,b)=>aval X 30 [.ptr 0 0,.d (encNode n),.d (AwE a_)] [[.ptr 1 0,.d (lS names),.d (.list 2 (List.map aY vals))],[.d (iZ b.fuel.left),.d (iZ b.fuel.used),.d (iZ b.cells)]] ((Ab2 names vals b) res)
abbrev sD (a:Node×(List Str)×(List Arr)×aG×Int×LI×(List aA)×Int×Int) (res:Except (Arr×Int×Int×Int) (LI×(List aA)×Int×Int)):Prop:=match a with|(f,names,vals,b,x20,x0,x110,c0,c1)=>cG X 58 (aM [1,1,1,0,1,0,0] (aQ Tryz.f58)) (aH (X.H 58 18) 5) (aK 1 (X.H 58 1000001) 5 (jY X Tryz.f58 2 (rW names vals b) (λ((x01,x111,c01,c11):LI×(List aA)×Int×Int)=>(⟨[(5,.c (.ptr 3 0)),(6,.c (.ptr 4 0))],[(4,[oI [],oC []]),(3,[.d (lI x01),.d (lC x111)]),(2,[.d (iZ f.kind),.d (iZ f.op_),.d (.str f.name),.d (lI f.lit.shape),.d (lC f.lit.cells),.d (lN f.kids),.d (iZ f.at_)]),(0,[.ptr 1 0,.d (lS names),.d (.list 2 (List.map aY vals))]),(1,[.d (iZ c01),.d (iZ c11),.d (iZ b.cells)])],5,[],none⟩:St)) res)) ⟨[(0,.c (.ptr 0 0)),(4,.c (.ptr 2 0)),(5,.c (.ptr 3 0)),(6,.c (.ptr 4 0)),(97,.d (iZ f.op_)),(98,.d (iZ x20))],[(4,[oI [],oC []]),(3,[.d (lI x0),.d (lC x110)]),(2,[.d (iZ f.kind),.d (iZ f.op_),.d (.str f.name),.d (lI f.lit.shape),.d (lC f.lit.cells),.d (lN f.kids),.d (iZ f.at_)]),(0,[.ptr 1 0,.d (lS names),.d (.list 2 (List.map aY vals))]),(1,[.d (iZ c0),.d (iZ c1),.d (iZ b.cells)])],5,[],none⟩
abbrev wR (a:Node×Arr×(List Str)×(List Arr)×aG) (res:Arr×Int×Int×Int):Prop:=match a with|(f,a_,names,vals,b)=>aval X 58 [.ptr 0 0,.d (encNode f),.d (aI a_)] [[.ptr 1 0,.d (lS names),.d (.list 2 (List.map aY vals))],[.d (iZ b.fuel.left),.d (iZ b.fuel.used),.d (iZ b.cells)]] ((rW names vals b) res)
abbrev wS (a:Node×Arr×Arr×(List Str)×(List Arr)×aG) (res:Arr×Int×Int×Int):Prop:=match a with|(f,a_,y,names,vals,b)=>aval X 59 [.ptr 0 0,.d (encNode f),.d (aI a_),.d (aI y)] [[.ptr 1 0,.d (lS names),.d (.list 2 (List.map aY vals))],[.d (iZ b.fuel.left),.d (iZ b.fuel.used),.d (iZ b.cells)]] ((Ac0 names vals b) res)
theorem mO:(∀a res,aJ a=some res->vC a res)/\(∀a res,bF a=some res->wS a res)/\(∀a res,bA a=some res->wR a res)/\(∀a res,bS a=some res->sD a res):=by
 refine aJ.mutual_partial_correctness (motive_1:=vC) (motive_2:=wS) (motive_3:=wR) (motive_4:=sD) ?_ ?_ ?_ ?_
 ·rintro P0 P1 P2 I0 I1 I2 ⟨n,a_,names,vals,b⟩ res h
  have I0:=Ok.mk' I0
  have I1:=Ok.mk' I1
  have I2:=Ok.mk' I2
  exact aB (Ab2 names vals b) I Tryz.func30 I I I I I I λiE=>Wk
 ·rintro P0 P1 I0 I1 ⟨f,a_,y,names,vals,b⟩ res h
  have I0:=Ok.mk' I0
  have I1:=Ok.mk' I1
  exact aB (Ac0 names vals b) I Tryz.func59 I I I I I I λiE=>Wk
 ·rintro P0 P1 P2 I0 I1 I2 ⟨f,a_,names,vals,b⟩ res h
  have I0:=Ok.mk' I0
  have I1:=Ok.mk' I1
  have I2:=Ok.mk' I2
  exact aB (rW names vals b) I Tryz.func58 I I I I I I λiE=>Wk
 rintro P0 P1 I0 I1 ⟨f,names,vals,b,x20,x0,x110,c0,c1⟩ res h
 have I0:=Ok.mk' I0
 have I1:=Ok.mk' I1
 refine lg I ?_
 have iE:eP Tryz.f58 2 _ (rW names vals b):=⟨trivial⟩
 exact Wk
instance {a:Node×pK×(List Str)×(List Arr)×aG}:Ok (aJ a) (vC a):=⟨λh=>mO.1 a _ h⟩
instance {a:Node×Arr×Arr×(List Str)×(List Arr)×aG}:Ok (bF a) (wS a):=⟨λh=>mO.2.1 a _ h⟩
instance {a:Node×Arr×(List Str)×(List Arr)×aG}:Ok (bA a) (wR a):=⟨λh=>mO.2.2.1 a _ h⟩
instance {a:Node×(List Str)×(List Arr)×aG×Int×LI×(List aA)×Int×Int}:Ok (bS a) (sD a):=⟨λh=>mO.2.2.2 a _ h⟩
abbrev AoW (r:Arr×Int×Int):aE:=(aE.ret (.tuple [.d (aI r.1),.d (iZ r.2.1),.d (iZ r.2.2)]) [])
instance {env:Env} {n:Node} {fuel:Int} {cells:Int}:Ok (yE env n fuel cells) λr=>aval X 11 [.d (encEnv env),.d (encNode n),.d (iZ fuel),.d (iZ cells)] [] (AoW r):=⟨λh=>by
 unfold yE at h
 exact aB AoW I Tryz.func11 I I I I I I λiE=>Wk⟩
abbrev fY (r:Int):aE:=(aE.ret (.d (iZ r)) [])
abbrev oG (a:Arr×Int×Int×Int×Int×Int) (res:Except (Int) (Int)):Prop:=match a with|(a_,most,deep,i,n1,k)=>cG X 37 (aM [1,1,0,1,0,0,1,0,0,1,0,0] (aQ Tryz.f37)) (aH (X.H 37 6) 1) (aK 2 (X.H 37 1000002) 1 (jY X Tryz.f37 0 fY (λ(n2:Int)=>(⟨[(1,.d (iZ most)),(2,.d (iZ deep)),(3,.c (.ptr 0 0)),(7,.d (iZ n2)),(8,.d (iZ i))],[(0,[.d (lI a_.shape),.d (lC a_.cells)])],1,[],none⟩:St)) res)) ⟨[(1,.d (iZ most)),(2,.d (iZ deep)),(3,.c (.ptr 0 0)),(7,.d (iZ n1)),(8,.d (iZ i)),(9,.d (iZ k))],[(0,[.d (lI a_.shape),.d (lC a_.cells)])],1,[],none⟩
abbrev oF (a:Arr×Int×Int×Int×Int) (res:Except (Int) (Int)):Prop:=match a with|(a_,most,deep,n,i)=>cG X 37 (aM [1,1,0,1,0,0] (aQ Tryz.f37)) (aH (X.H 37 3) 1) (aK 0 (X.H 37 1000000) 1 (jY X Tryz.f37 0 fY (λ(n3:Int)=>(⟨[(7,.d (iZ n3))],[(0,[.d (lI a_.shape),.d (lC a_.cells)])],1,[],none⟩:St)) res)) ⟨[(1,.d (iZ most)),(2,.d (iZ deep)),(3,.c (.ptr 0 0)),(7,.d (iZ n)),(8,.d (iZ i))],[(0,[.d (lI a_.shape),.d (lC a_.cells)])],1,[],none⟩
abbrev qL (a:Arr×Int×Int) (res:Int):Prop:=match a with|(a_,most,deep)=>aval X 37 [.d (aI a_),.d (iZ most),.d (iZ deep)] [] (fY res)
theorem lD:(∀a res,bM a=some res->oG a res)/\(∀a res,bX a=some res->qL a res)/\(∀a res,p_triglyphref03_weight_l0 a=some res->oF a res):=by
 refine bM.mutual_partial_correctness (motive_1:=oG) (motive_2:=qL) (motive_3:=oF) ?_ ?_ ?_
 ·rintro P0 P1 I0 I1 ⟨a_,most,deep,i,n1,k⟩ res h
  have I0:=Ok.mk' I0
  have I1:=Ok.mk' I1
  refine lg I ?_
  have iE:eP Tryz.f37 0 _ fY:=⟨trivial⟩
  exact Wk
 ·rintro P0 I0 ⟨a_,most,deep⟩ res h
  have I0:=Ok.mk' I0
  exact aB fY I Tryz.func37 I I I I I I λiE=>Wk
 rintro P0 P1 I0 I1 ⟨a_,most,deep,n,i⟩ res h
 have I0:=Ok.mk' I0
 have I1:=Ok.mk' I1
 refine lg I ?_
 have iE:eP Tryz.f37 0 _ fY:=⟨trivial⟩
 exact Wk
instance {a:Arr×Int×Int×Int×Int×Int}:Ok (bM a) (oG a):=⟨λh=>lD.1 a _ h⟩
instance {a:Arr×Int×Int}:Ok (bX a) (qL a):=⟨λh=>lD.2.1 a _ h⟩
instance {a:Arr×Int×Int×Int×Int}:Ok (p_triglyphref03_weight_l0 a) (oF a):=⟨λh=>lD.2.2 a _ h⟩
abbrev wI (r:Int):aE:=(aE.ret (.d (iZ r)) [])
instance {a_:Arr} {most:Int}:Ok (dG a_ most) λr=>aval X 14 [.d (aI a_),.d (iZ most)] [] (wI r):=⟨λh=>by
 unfold dG at h
 exact aB wI I Tryz.func14 I I I I I I λiE=>Wk⟩
abbrev mM (r:Int):aE:=(aE.ret (.d (iZ r)) [])
abbrev oH (a:Node×Int×Int×Int×Int) (res:Except (Int) (Int)):Prop:=match a with|(n,most,deep,k,i)=>cG X 53 (aM [1,1,0,1,0,0] (aQ Tryz.f53)) (aH (X.H 53 3) 1) (aK 0 (X.H 53 1000000) 1 (jY X Tryz.f53 0 mM (λ(k1:Int)=>(⟨[(7,.d (iZ k1))],[(0,[.d (iZ n.kind),.d (iZ n.op_),.d (.str n.name),.d (lI n.lit.shape),.d (lC n.lit.cells),.d (lN n.kids),.d (iZ n.at_)])],1,[],none⟩:St)) res)) ⟨[(1,.d (iZ most)),(2,.d (iZ deep)),(3,.c (.ptr 0 0)),(7,.d (iZ k)),(8,.d (iZ i))],[(0,[.d (iZ n.kind),.d (iZ n.op_),.d (.str n.name),.d (lI n.lit.shape),.d (lC n.lit.cells),.d (lN n.kids),.d (iZ n.at_)])],1,[],none⟩
abbrev qM (a:Node×Int×Int) (res:Int):Prop:=match a with|(n,most,deep)=>aval X 53 [.d (encNode n),.d (iZ most),.d (iZ deep)] [] (mM res)
theorem qE:(∀a res,cZ a=some res->oH a res)/\(∀a res,eA a=some res->qM a res):=by
 refine cZ.mutual_partial_correctness (motive_1:=oH) (motive_2:=qM) ?_ ?_
 ·rintro P0 P1 I0 I1 ⟨n,most,deep,k,i⟩ res h
  have I0:=Ok.mk' I0
  have I1:=Ok.mk' I1
  refine lg I ?_
  have iE:eP Tryz.f53 0 _ mM:=⟨trivial⟩
  exact Wk
 rintro P0 I0 ⟨n,most,deep⟩ res h
 have I0:=Ok.mk' I0
 exact aB mM I Tryz.func53 I I I I I I λiE=>Wk
instance {a:Node×Int×Int×Int×Int}:Ok (cZ a) (oH a):=⟨λh=>qE.1 a _ h⟩
instance {a:Node×Int×Int}:Ok (eA a) (qM a):=⟨λh=>qE.2 a _ h⟩
abbrev wJ (r:Int):aE:=(aE.ret (.d (iZ r)) [])
instance {n:Node} {most:Int}:Ok (mP n most) λr=>aval X 21 [.d (encNode n),.d (iZ most)] [] (wJ r):=⟨λh=>by
 unfold mP at h
 exact aB wJ I Tryz.func21 I I I I I I λiE=>Wk⟩
abbrev rN (r:Int):aE:=(aE.ret (.d (iZ r)) [])
abbrev uD (a:Env×Node×Int×Int) (res:Int):Prop:=match a with|(env,n,w,i)=>cG X 9 (aM [1,1,1,0,1,0,0] (aQ Tryz.f9)) (aH (X.H 9 5) 2) (aK 0 (X.H 9 1000000) 2 (iW (λ(w1:Int)=>(⟨[(9,.d (iZ w1))],[(1,[.d (iZ n.kind),.d (iZ n.op_),.d (.str n.name),.d (lI n.lit.shape),.d (lC n.lit.cells),.d (lN n.kids),.d (iZ n.at_)]),(0,[.d (lS env.names),.d (.list 2 (List.map aY env.vals))])],2,[],none⟩:St)) res)) ⟨[(4,.c (.ptr 0 0)),(9,.d (iZ w)),(10,.d (iZ i))],[(1,[.d (iZ n.kind),.d (iZ n.op_),.d (.str n.name),.d (lI n.lit.shape),.d (lC n.lit.cells),.d (lN n.kids),.d (iZ n.at_)]),(0,[.d (lS env.names),.d (.list 2 (List.map aY env.vals))])],2,[],none⟩
instance {a:Env×Node×Int×Int}:Ok (eD a) (uD a):=⟨λh=>eD.partial_correctness uD (by
 rintro P_ IH ⟨env,n,w,i⟩ res h
 have IH:=Ok.mk' IH
 have iE:eP Tryz.f9 0 _ rN:=⟨trivial⟩
 refine lg I ?_
 exact Wk) _ _ h⟩
instance {env:Env} {n:Node} {fuel:Int} {cells:Int}:Ok (kA env n fuel cells) λr=>aval X 9 [.d (encEnv env),.d (encNode n),.d (iZ fuel),.d (iZ cells)] [] (rN r):=⟨λh=>by
 unfold kA at h
 exact aB rN I Tryz.func9 I I I I I I λiE=>Wk⟩
abbrev yQ (r:Bool):aE:=(aE.ret (.d (.bool r)) [])
instance {n:Int}:Ok (fW n) λr=>aval X 185 [.d (iZ n)] [] (yQ r):=⟨λh=>by
 unfold fW at h
 exact aB yQ I Tryz.func185 I I I I I I λiE=>Wk⟩
abbrev iN (r:Int×Int):aE:=(aE.ret (.tuple [.d (iZ r.1),.d (iZ r.2)]) [])
instance AuG:Jn 109 0 1 (Bool):=⟨λy=>[(4,.d (.bool y))],λy=>[]⟩
abbrev vP (a:LI×Bool×Int) (res:Except (Int×Int) (Bool)):Prop:=match a with|(shape,none_,i)=>cG X 109 (aM [1,1,1,0,1,0,0] (aQ Tryz.f109)) (aH (X.H 109 5) 0) (aK 0 (X.H 109 1000000) 0 (jY X Tryz.f109 0 iN (λ(none_2:Bool)=>(⟨[(0,.d (lI shape)),(4,.d (.bool none_2))],[],0,[],none⟩:St)) res)) ⟨[(0,.d (lI shape)),(4,.d (.bool none_)),(5,.d (iZ i))],[],0,[],none⟩
instance {a:LI×Bool×Int}:Ok (dL a) (vP a):=⟨λh=>dL.partial_correctness vP (by
 rintro P_ IH ⟨shape,none_,i⟩ res h
 have IH:=Ok.mk' IH
 have iE:eP Tryz.f109 0 _ iN:=⟨trivial⟩
 refine lg I ?_
 exact Wk) _ _ h⟩
abbrev vQ (a:LI×Int×Int) (res:Except (Int×Int) (Int)):Prop:=match a with|(shape,n,i1)=>cG X 109 (aM [1,1,1,1,1,1,0,1,0,0] (aQ Tryz.f109)) (aH (X.H 109 15) 0) (aK 2 (X.H 109 1000002) 0 (jY X Tryz.f109 0 iN (λ(n1:Int)=>(⟨[(6,.d (iZ n1))],[],0,[],none⟩:St)) res)) ⟨[(0,.d (lI shape)),(6,.d (iZ n)),(7,.d (iZ i1))],[],0,[],none⟩
instance {a:LI×Int×Int}:Ok (dM a) (vQ a):=⟨λh=>dM.partial_correctness vQ (by
 rintro P_ IH ⟨shape,n,i1⟩ res h
 have IH:=Ok.mk' IH
 have iE:eP Tryz.f109 0 _ iN:=⟨trivial⟩
 refine lg I ?_
 exact Wk) _ _ h⟩
instance {shape:LI}:Ok (kZ shape) λr=>aval X 109 [.d (lI shape)] [] (iN r):=⟨λh=>by
 unfold kZ at h
 exact aB iN I Tryz.func109 I I I I I I λiE=>Wk⟩
abbrev gN (r:Int):aE:=(aE.ret (.d (iZ r)) [])
abbrev yT (r:Int):aE:=(aE.ret (.d (iZ r)) [])
abbrev oX (a:Arr×Int×Int) (res:Except (Int) (Unit)):Prop:=match a with|(a_,deep,i)=>cG X 52 (aM [1,1,1,1,0,1,0,0] (aQ Tryz.f52)) (aH (X.H 52 7) 1) (aK 0 (X.H 52 1000000) 1 (jY X Tryz.f52 0 gN (λ(_:Unit)=>(⟨[(1,.d (iZ deep)),(2,.c (.ptr 0 0))],[(0,[.d (lI a_.shape),.d (lC a_.cells)])],1,[],none⟩:St)) res)) ⟨[(1,.d (iZ deep)),(2,.c (.ptr 0 0)),(7,.d (iZ i))],[(0,[.d (lI a_.shape),.d (lC a_.cells)])],1,[],none⟩
theorem zN:∀a res,cP a=some res->oX a res:=by
 refine cP.partial_correctness oX ?_
 rintro P_ IH ⟨a_,deep,i⟩ res h
 have IH:=Ok.mk' IH
 refine lg I ?_
 have iE:eP Tryz.f52 0 _ gN:=⟨trivial⟩
 exact Wk
instance {a:Arr×Int×Int}:Ok (cP a) (oX a):=⟨λh=>zN a _ h⟩
abbrev oY (a:Arr×Int×Int) (res:Except (Int) (Unit)):Prop:=match a with|(a_,deep,i1)=>cG X 52 (aM [1,1,1,1,1,0,1,0,0] (aQ Tryz.f52)) (aH (X.H 52 12) 1) (aK 2 (X.H 52 1000002) 1 (jY X Tryz.f52 0 gN (λ(_:Unit)=>(⟨[],[(0,[.d (lI a_.shape),.d (lC a_.cells)])],1,[],none⟩:St)) res)) ⟨[(1,.d (iZ deep)),(2,.c (.ptr 0 0)),(8,.d (iZ i1))],[(0,[.d (lI a_.shape),.d (lC a_.cells)])],1,[],none⟩
abbrev rQ (a:Arr×Int) (res:Int):Prop:=match a with|(a_,deep)=>aval X 52 [.d (aI a_),.d (iZ deep)] [] (gN res)
abbrev sF (a:aA×Int) (res:Int):Prop:=match a with|(c,deep)=>aval X 120 [.d (aD c),.d (iZ deep)] [] (yT res)
theorem mA:(∀a res,cQ a=some res->oY a res)/\(∀a res,lA a=some res->sF a res)/\(∀a res,fK a=some res->rQ a res):=by
 refine cQ.mutual_partial_correctness (motive_1:=oY) (motive_2:=sF) (motive_3:=rQ) ?_ ?_ ?_
 ·rintro P0 P1 I0 I1 ⟨a_,deep,i1⟩ res h
  have I0:=Ok.mk' I0
  have I1:=Ok.mk' I1
  refine lg I ?_
  have iE:eP Tryz.f52 0 _ gN:=⟨trivial⟩
  exact Wk
 ·rintro P0 I0 ⟨c,deep⟩ res h
  have I0:=Ok.mk' I0
  exact aB yT I Tryz.func120 I I I I I I λiE=>Wk
 rintro P0 I0 ⟨a_,deep⟩ res h
 have I0:=Ok.mk' I0
 exact aB gN I Tryz.func52 I I I I I I λiE=>Wk
instance {a:Arr×Int×Int}:Ok (cQ a) (oY a):=⟨λh=>mA.1 a _ h⟩
instance {a:aA×Int}:Ok (lA a) (sF a):=⟨λh=>mA.2.1 a _ h⟩
instance {a:Arr×Int}:Ok (fK a) (rQ a):=⟨λh=>mA.2.2 a _ h⟩
abbrev xK (r:Int):aE:=(aE.ret (.d (iZ r)) [])
instance {a_:Arr}:Ok (kB a_) λr=>aval X 19 [.d (aI a_)] [] (xK r):=⟨λh=>by
 unfold kB at h
 exact aB xK I Tryz.func19 I I I I I I λiE=>Wk⟩
abbrev yU (r:Int):aE:=(aE.ret (.d (iZ r)) [])
instance {a_:Int} {b:Int}:Ok (p_triglyphref03_ints a_ b) λr=>aval X 69 [.d (iZ a_),.d (iZ b)] [] (yU r):=⟨λh=>by
 unfold p_triglyphref03_ints at h
 exact aB yU I Tryz.func69 I I I I I I λiE=>Wk⟩
abbrev pI (r:Int):aE:=(aE.ret (.d (iZ r)) [])
instance Av7:Jn 36 1 67 (Int):=⟨λy=>[(5,.d (iZ y))],λy=>[]⟩
abbrev yR (r:Int):aE:=(aE.ret (.d (iZ r)) [])
instance AuE:Jn 70 1 12 (Int):=⟨λy=>[(5,.d (iZ y))],λy=>[]⟩
instance AuF:Jn 70 1 42 (Int):=⟨λy=>[(5,.d (iZ y))],λy=>[]⟩
abbrev qJ (a:Arr×Arr×Int×Int) (res:Int):Prop:=match a with|(a_,b,o1,i)=>cG X 36 (aM [1,1,0,1,0,0] (aQ Tryz.f36)) (aH (X.H 36 3) 2) (aK 0 (X.H 36 1000000) 2 (iW (λ(o3:Int)=>(⟨[(2,.c (.ptr 0 0)),(3,.c (.ptr 1 0)),(5,.d (iZ o3))],[(1,[.d (lI b.shape),.d (lC b.cells)]),(0,[.d (lI a_.shape),.d (lC a_.cells)])],2,[],none⟩:St)) res)) ⟨[(2,.c (.ptr 0 0)),(3,.c (.ptr 1 0)),(5,.d (iZ o1)),(6,.d (iZ i))],[(1,[.d (lI b.shape),.d (lC b.cells)]),(0,[.d (lI a_.shape),.d (lC a_.cells)])],2,[],none⟩
theorem AbL:∀a res,dE a=some res->qJ a res:=by
 refine dE.partial_correctness qJ ?_
 rintro P_ IH ⟨a_,b,o1,i⟩ res h
 have IH:=Ok.mk' IH
 refine lg I ?_
 have iE:eP Tryz.f36 0 _ pI:=⟨trivial⟩
 exact Wk
instance {a:Arr×Arr×Int×Int}:Ok (dE a) (qJ a):=⟨λh=>AbL a _ h⟩
abbrev qK (a:Arr×Arr×Int×Int) (res:Int):Prop:=match a with|(a_,b,o4,i1)=>cG X 36 (aM [1,1,1,0,1,0,0] (aQ Tryz.f36)) (aH (X.H 36 7) 2) (aK 2 (X.H 36 1000002) 2 (iW (λ(o6:Int)=>(⟨[(2,.c (.ptr 0 0)),(3,.c (.ptr 1 0)),(5,.d (iZ o6))],[(1,[.d (lI b.shape),.d (lC b.cells)]),(0,[.d (lI a_.shape),.d (lC a_.cells)])],2,[],none⟩:St)) res)) ⟨[(2,.c (.ptr 0 0)),(3,.c (.ptr 1 0)),(5,.d (iZ o4)),(7,.d (iZ i1))],[(1,[.d (lI b.shape),.d (lC b.cells)]),(0,[.d (lI a_.shape),.d (lC a_.cells)])],2,[],none⟩
abbrev tU (a:Arr×Arr) (res:Int):Prop:=match a with|(a_,b)=>aval X 36 [.d (aI a_),.d (aI b)] [] (pI res)
abbrev sE (a:aA×aA) (res:Int):Prop:=match a with|(a_,b)=>aval X 70 [.d (aD a_),.d (aD b)] [] (yR res)
theorem nS:(∀a res,dF a=some res->qK a res)/\(∀a res,iU a=some res->sE a res)/\(∀a res,fF a=some res->tU a res):=by
 refine dF.mutual_partial_correctness (motive_1:=qK) (motive_2:=sE) (motive_3:=tU) ?_ ?_ ?_
 ·rintro P0 P1 I0 I1 ⟨a_,b,o4,i1⟩ res h
  have I0:=Ok.mk' I0
  have I1:=Ok.mk' I1
  refine lg I ?_
  have iE:eP Tryz.f36 0 _ pI:=⟨trivial⟩
  exact Wk
 ·rintro P0 I0 ⟨a_,b⟩ res h
  have I0:=Ok.mk' I0
  exact aB yR I Tryz.func70 I I I I I I λiE=>Wk
 rintro P0 I0 ⟨a_,b⟩ res h
 have I0:=Ok.mk' I0
 exact aB pI I Tryz.func36 I I I I I I λiE=>Wk
instance {a:Arr×Arr×Int×Int}:Ok (dF a) (qK a):=⟨λh=>nS.1 a _ h⟩
instance {a:aA×aA}:Ok (iU a) (sE a):=⟨λh=>nS.2.1 a _ h⟩
instance {a:Arr×Arr}:Ok (fF a) (tU a):=⟨λh=>nS.2.2 a _ h⟩
abbrev yS (r:Bool):aE:=(aE.ret (.d (.bool r)) [])
instance {a_:Arr} {b:Arr}:Ok (kY a_ b) λr=>aval X 13 [.d (aI a_),.d (aI b)] [] (yS r):=⟨λh=>by
 unfold kY at h
 exact aB yS I Tryz.func13 I I I I I I λiE=>Wk⟩
abbrev tZ (r:Bool):aE:=(aE.ret (.d (.bool r)) [])
instance {env:Env} {n:Node} {fuel:Int} {cells:Int}:Ok (p_triglyphlaw11_RunBound env n fuel cells) λr=>aval X 6 [.d (encEnv env),.d (encNode n),.d (iZ fuel),.d (iZ cells)] [] (tZ r):=⟨λh=>by
 unfold p_triglyphlaw11_RunBound at h
 exact aB tZ I Tryz.func6 I I I I I I λiE=>Wk⟩
end Go.AM.Seat
