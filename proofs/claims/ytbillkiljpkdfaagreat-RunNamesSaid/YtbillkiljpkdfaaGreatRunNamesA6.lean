/- Part of a proof about the given program: the abstract machine, the printed functions, the plain laws. -/
import Derived.Test.YtbillkiljpkdfaaGreatRunNamesA5
set_option linter.all false
set_option maxRecDepth 100000
set_option maxHeartbeats 4000000
namespace Go.AM.Seat
open Go Go.AM Go.Proofs
abbrev Ad7 (a:Arr×Arr×Int×LI×LI×Int×Int) (res:Int):Prop:=match a with|(x,x1,axis,l2,l3,size,x3)=>cD X 99 (aN [1,1,1,1,1,1,1,0,1,0,0] (aO Tryz.f99)) (aH (X.H 99 11) 18) (aJ 0 (X.H 99 1000000) 18 (iR (λ(size1:Int)=>(⟨[(3,.c (.ptr 0 0)),(4,.c (.ptr 1 0)),(6,.c (.ptr 2 0)),(8,.d (iZ axis)),(10,.c (.ptr 4 0)),(13,.d (iZ size1))],[(4,[.d (lI l2),oC []]),(2,[oI [],oC []]),(1,[.d (lI x1.shape),.d (lC x1.cells)]),(0,[.d (lI x.shape),.d (lC x.cells)])],18,[],none⟩:St)) res)) ⟨[(3,.c (.ptr 0 0)),(4,.c (.ptr 1 0)),(6,.c (.ptr 2 0)),(8,.d (iZ axis)),(10,.c (.ptr 4 0)),(13,.d (iZ size)),(73,.d (lI l3)),(74,.d (iZ (List.length l3:Int))),(75,.d (iZ x3))],[(4,[.d (lI l2),oC []]),(2,[oI [],oC []]),(1,[.d (lI x1.shape),.d (lC x1.cells)]),(0,[.d (lI x.shape),.d (lC x.cells)])],18,[],none⟩
instance {a:Arr×Arr×Int×LI×LI×Int×Int}:Ok (jY a) (Ad7 a):=⟨λh=>jY.partial_correctness Ad7 (by
 rintro P_ IH ⟨x,x1,axis,l2,l3,size,x3⟩ res h
 have IH:=Ok.mk' IH
 refine lg I (ra I (S_ ?_))
 rcases E_ h with ⟨hc,h⟩|⟨hc,h⟩
 ·refine ct I hc (K_ (cn I (N_ (S_ (W_ (S_ (rn 0 I ?_)))))))
  obtain⟨d,hk,h⟩:=B h
  refine po (mS (D.int .i64) (λ_=>I) hk I I I I I) I I (on 2 I (rz (rn 4 I (O_ (en I (N_ (rn 2 I (O_ (cH.normal ?_)))))))))
  have hv:=Ok.ok h
  exact bV I I hv
 ·refine cf I hc (X_ (fN.exit (kT.exit (cH.exit (eh I ?_)))))
  cases h
  exact .ok I
 ) _ _ h⟩
abbrev Ad8 (a:Arr×Arr×LI×Int×Int×Int×LI×Int×Int) (res:Int):Prop:=match a with|(x,x1,l2,size1,y3,y4,l4,outer,x4)=>cD X 99 (aN [1,1,1,1,1,1,1,1,1,1,0,1,0,0] (aO Tryz.f99)) (aH (X.H 99 18) 34) (aJ 2 (X.H 99 1000002) 34 (iR (λ(outer1:Int)=>(⟨[(3,.c (.ptr 0 0)),(4,.c (.ptr 1 0)),(6,.c (.ptr 2 0)),(10,.c (.ptr 4 0)),(16,.d (iZ (w64 (y3*size1)))),(17,.d (iZ (w64 (y4*size1)))),(18,.d (iZ outer1))],[(4,[.d (lI l2),oC []]),(2,[oI [],oC []]),(1,[.d (lI x1.shape),.d (lC x1.cells)]),(0,[.d (lI x.shape),.d (lC x.cells)])],34,[],none⟩:St)) res)) ⟨[(3,.c (.ptr 0 0)),(4,.c (.ptr 1 0)),(6,.c (.ptr 2 0)),(10,.c (.ptr 4 0)),(16,.d (iZ (w64 (y3*size1)))),(17,.d (iZ (w64 (y4*size1)))),(18,.d (iZ outer)),(100,.d (lI l4)),(101,.d (iZ (List.length l4:Int))),(102,.d (iZ x4))],[(4,[.d (lI l2),oC []]),(2,[oI [],oC []]),(1,[.d (lI x1.shape),.d (lC x1.cells)]),(0,[.d (lI x.shape),.d (lC x.cells)])],34,[],none⟩
instance {a:Arr×Arr×LI×Int×Int×Int×LI×Int×Int}:Ok (jZ a) (Ad8 a):=⟨λh=>jZ.partial_correctness Ad8 (by
 rintro P_ IH ⟨x,x1,l2,size1,y3,y4,l4,outer,x4⟩ res h
 have IH:=Ok.mk' IH
 refine lg I (ra I (S_ ?_))
 rcases E_ h with ⟨hc,h⟩|⟨hc,h⟩
 ·refine ct I hc (K_ (cn I (N_ (S_ (W_ (S_ (rn 0 I ?_)))))))
  obtain⟨d1,hk,h⟩:=B h
  refine po (mS (D.int .i64) (λ_=>I) hk I I I I I) I I (on 2 I (rz (rn 4 I (O_ (en I (N_ (rn 2 I (O_ (cH.normal ?_)))))))))
  have hv:=Ok.ok h
  exact bV I I hv
 ·refine cf I hc (X_ (fN.exit (kT.exit (cH.exit (eh I ?_)))))
  cases h
  exact .ok I
 ) _ _ h⟩
abbrev Ad9 (a:Arr×Arr×LI×Int×Int×Int×Int×Int×(List aA)) (res:(List aA)):Prop:=match a with|(x,x1,l2,size1,y3,y4,outer1,x5,out1)=>cD X 99 (aN [1,1,1,1,1,1,1,1,1,1,1,0,1,0,0] (aO Tryz.f99)) (aH (X.H 99 23) 34) (aJ 4 (X.H 99 1000004) 34 (iR (λ(out11:(List aA))=>(⟨[(6,.c (.ptr 2 0)),(10,.c (.ptr 4 0))],[(4,[.d (lI l2),oC out11]),(2,[oI [],oC []]),(1,[.d (lI x1.shape),.d (lC x1.cells)]),(0,[.d (lI x.shape),.d (lC x.cells)])],34,[],none⟩:St)) res)) ⟨[(3,.c (.ptr 0 0)),(4,.c (.ptr 1 0)),(6,.c (.ptr 2 0)),(10,.c (.ptr 4 0)),(16,.d (iZ (w64 (y3*size1)))),(17,.d (iZ (w64 (y4*size1)))),(110,.d (iZ outer1)),(111,.d (iZ x5))],[(4,[.d (lI l2),oC out1]),(2,[oI [],oC []]),(1,[.d (lI x1.shape),.d (lC x1.cells)]),(0,[.d (lI x.shape),.d (lC x.cells)])],34,[],none⟩
instance {a:Arr×Arr×LI×Int×Int×Int×Int×Int×(List aA)}:Ok (iO a) (Ad9 a):=⟨λh=>iO.partial_correctness Ad9 (by
 rintro P_ IH ⟨x,x1,l2,size1,y3,y4,outer1,x5,out1⟩ res h
 have IH:=Ok.mk' IH
 refine lg I (ra I (S_ ?_))
 rcases E_ h with ⟨hc,h⟩|⟨hc,h⟩
 ·refine ct I hc (K_ (cn I (N_ (S_ (W_ (ra I (drn (m:=60) 11 I I ?_)))))))
  obtain⟨l5,hk,h⟩:=B h
  refine pd (ArR hk I I I I I I I) I I I I I ?_
  obtain⟨l6,hk,h⟩:=B h
  refine pd (AfP hk I I I I I I I I I I I I I I ) I I I I I (don 9 I ?_)
  obtain⟨l7,hk,h⟩:=B h
  refine pd (ArR hk I I I I I I I) I I I I I ?_
  obtain⟨l8,hk,h⟩:=B h
  refine pd (AvR hk I I I I I I I I I I I I ) I I I I I (don 2 I (dz' (by kernel_rfl) (en I (N_ (rn 2 I (O_ (cH.normal ?_)))))))
  have hv:=Ok.ok h
  exact bV I I hv
 ·refine cf I hc (X_ (fN.exit (kT.exit (cH.exit (eh I ?_)))))
  cases h
  exact .ok I
 ) _ _ h⟩
instance {a_:Arr} {b:Arr} {last:Bool}:Ok (tY a_ b last) λr=>aval X 99 [.d (encArr a_),.d (encArr b),.d (.bool last)] [] (aE.ret (.tuple [.d (encArr r.1),.d (iZ r.2)]) []):=⟨λ{r} h=>by
 unfold tY at h
 refine kY (tm:=[(0,.d (encArr a_)),(1,.d (encArr b)),(2,.d (.bool last))]) (hp:=[]) (n:=0) I Tryz.func99 I I I I I I (ra (nid':=3) I (S_ (rn 3 I ?_)))
 obtain⟨⟨x,x1,axis,e⟩,hk,h⟩:=B h
 have hv:=Ok.ok hk
 refine po (nR (hv) I I I I I I I I I) I I (on 9 I (rz (S_ (ra I ?_))))
 rcases E_ h with ⟨hc,h⟩|⟨hc,h⟩
 ·refine ct I hc (ra I (R_ (C_ (Q_ ?_))))
  cases h
  exact .ret I I
 ·refine cf I hc (K_ (cn I (N_ (S_ (rnM (tm0:=[(32,.d (.bool (e != 0))),(31,.d (iZ e)),(3,.c (.ptr 0 0)),(4,.c (.ptr 1 0)),(6,.c (.ptr 2 0)),(8,.d (iZ axis)),(9,.d (iZ e))]) (hp0:=[(2,[oI [],oC []]),(1,[.d (lI x1.shape),.d (lC x1.cells)]),(0,[.d (lI x.shape),.d (lC x.cells)])]) (nid0:=3) I I I (mo (.of λ_=>I) I (λ_=>I) (s2:=⟨[(35,.c (.full 1 (List.map (D.int .i64) ([]:LI)))),(3,.c (.ptr 0 0)),(4,.c (.ptr 1 0)),(6,.c (.ptr 2 0)),(8,.d (iZ axis))],[(2,[oI [],oC []]),(1,[.d (lI x1.shape),.d (lC x1.cells)]),(0,[.d (lI x.shape),.d (lC x.cells)])],3,[],none⟩) I (mo (.of λ_=>I) I (λ_=>I) (s2:=⟨[(36,.c (.ptr 0 0)),(35,.c (.full 1 (List.map (D.int .i64) ([]:LI)))),(3,.c (.ptr 0 0)),(4,.c (.ptr 1 0)),(6,.c (.ptr 2 0)),(8,.d (iZ axis))],[(2,[oI [],oC []]),(1,[.d (lI x1.shape),.d (lC x1.cells)]),(0,[.d (lI x.shape),.d (lC x.cells)])],3,[],none⟩) I (mo (.of λ_=>I) I (λ_=>I) (s2:=⟨[(37,.d (lI x.shape)),(36,.c (.ptr 0 0)),(35,.c (.full 1 (List.map (D.int .i64) ([]:LI)))),(3,.c (.ptr 0 0)),(4,.c (.ptr 1 0)),(6,.c (.ptr 2 0)),(8,.d (iZ axis))],[(2,[oI [],oC []]),(1,[.d (lI x1.shape),.d (lC x1.cells)]),(0,[.d (lI x.shape),.d (lC x.cells)])],3,[],none⟩) I ?_))))))))
  obtain⟨l,hk,h⟩:=B h
  refine ms (BeN (D.int .i64) hk I I I I I I (Ao4 (D.int .i64)) I I I I I I I I I ) I (s2:=⟨[(38,.c (.arr 3 (List.length l) 1)),(37,.d (lI x.shape)),(36,.c (.ptr 0 0)),(35,.c (.full 1 (List.map (D.int .i64) ([]:LI)))),(3,.c (.ptr 0 0)),(4,.c (.ptr 1 0)),(6,.c (.ptr 2 0)),(8,.d (iZ axis))],[(3,[.seq 1 (List.map (D.int .i64) l)]),(2,[oI [],oC []]),(1,[.d (lI x1.shape),.d (lC x1.cells)]),(0,[.d (lI x.shape),.d (lC x.cells)])],4,[],none⟩) I (mo (.of λ_=>I) I (λ_=>I) (s2:=⟨[(39,.vagg [.arr 3 (List.length l) 1,.nilsl 3]),(38,.c (.arr 3 (List.length l) 1)),(37,.d (lI x.shape)),(36,.c (.ptr 0 0)),(35,.c (.full 1 (List.map (D.int .i64) ([]:LI)))),(3,.c (.ptr 0 0)),(4,.c (.ptr 1 0)),(6,.c (.ptr 2 0)),(8,.d (iZ axis))],[(3,[.seq 1 (List.map (D.int .i64) l)]),(2,[oI [],oC []]),(1,[.d (lI x1.shape),.d (lC x1.cells)]),(0,[.d (lI x.shape),.d (lC x.cells)])],4,[],none⟩) I (mo (.of λ_=>I) I (λ_=>I) (s2:=⟨[(10,.c (.ptr 4 0)),(39,.vagg [.arr 3 (List.length l) 1,.nilsl 3]),(38,.c (.arr 3 (List.length l) 1)),(37,.d (lI x.shape)),(36,.c (.ptr 0 0)),(35,.c (.full 1 (List.map (D.int .i64) ([]:LI)))),(3,.c (.ptr 0 0)),(4,.c (.ptr 1 0)),(6,.c (.ptr 2 0)),(8,.d (iZ axis))],[(4,[oI [],oC []]),(3,[.seq 1 (List.map (D.int .i64) l)]),(2,[oI [],oC []]),(1,[.d (lI x1.shape),.d (lC x1.cells)]),(0,[.d (lI x.shape),.d (lC x.cells)])],5,[],none⟩) I (ms I I (s2:=⟨[(10,.c (.ptr 4 0)),(39,.vagg [.arr 3 (List.length l) 1,.nilsl 3]),(38,.c (.arr 3 (List.length l) 1)),(37,.d (lI x.shape)),(36,.c (.ptr 0 0)),(35,.c (.full 1 (List.map (D.int .i64) ([]:LI)))),(3,.c (.ptr 0 0)),(4,.c (.ptr 1 0)),(6,.c (.ptr 2 0)),(8,.d (iZ axis))],[(4,[.arr 3 (List.length l) 1,.nilsl 3]),(3,[.seq 1 (List.map (D.int .i64) l)]),(2,[oI [],oC []]),(1,[.d (lI x1.shape),.d (lC x1.cells)]),(0,[.d (lI x.shape),.d (lC x.cells)])],5,[],none⟩) I (mz (N_ (S_ (BjU (m:=18) 3 (tm0:=[(10,.c (.ptr 4 0)),(39,.vagg [.arr 3 (List.length l) 1,.nilsl 3]),(38,.c (.arr 3 (List.length l) 1)),(37,.d (lI x.shape)),(36,.c (.ptr 0 0)),(35,.c (.full 1 (List.map (D.int .i64) ([]:LI)))),(3,.c (.ptr 0 0)),(4,.c (.ptr 1 0)),(6,.c (.ptr 2 0)),(8,.d (iZ axis))]) (hp0:=[(4,[.arr 3 (List.length l) 1,oC []]),(3,[.seq 1 (List.map (D.int .i64) l)]),(2,[oI [],oC []]),(1,[.d (lI x1.shape),.d (lC x1.cells)]),(0,[.d (lI x.shape),.d (lC x.cells)])]) (nid0:=5) (Ai4 I (I) I) I I ?_)))))))
  obtain⟨j,hk,h⟩:=B h
  refine pd (AcK hk I I I I I) I I I I I ?_
  obtain⟨y,hk,h⟩:=B h
  refine pd (AqJ (D.int .i64) hk I I (λ_=>⟨I,I,I⟩) I I) I I I I I (don 3 I ?_)
  obtain⟨y1,hk,h⟩:=B h
  refine pd (mS (D.int .i64) (λ_=>I) hk I I I I I) I I I I I (don 2 I ?_)
  obtain⟨j1,hk,h⟩:=B h
  refine pd (AcK hk I I I I I) I I I I I ?_
  obtain⟨l1,hk,h⟩:=B h
  refine pd (est (D.int .i64) (v:=(w64 (y+y1))) hk I I (λ_=>⟨I,I,I⟩) I I I I) I I I I I (dz (by kernel_rfl) (S_ ?_))
  obtain⟨l2,hkFl2,h⟩:=B h
  refine S_ (rnF 2 (tm0:=[(51,.c (.ptr 3 (j1*1))),(50,.d (iZ (w64 (y+y1)))),(49,.d (iZ y1)),(48,.rptr (D.cells (iZ y1))),(47,.d (iZ axis)),(46,.d (lI x1.shape)),(45,.c (.ptr 1 0)),(44,.d (iZ y)),(43,.c (.ptr 3 (j*1))),(42,.d (iZ axis)),(41,.c (.arr 3 (List.length l) 1)),(40,.c (.ptr 4 0)),(3,.c (.ptr 0 0)),(4,.c (.ptr 1 0)),(6,.c (.ptr 2 0)),(8,.d (iZ axis)),(10,.c (.ptr 4 0))]) (hp0:=[(4,[.d (lI l2),oC []]),(2,[oI [],oC []]),(1,[.d (lI x1.shape),.d (lC x1.cells)]),(0,[.d (lI x.shape),.d (lC x.cells)])]) (nid0:=18) (Ai4 I (gC (b0:=4) (off:=0) I (iJ (D.int .i64) I hkFl2 I I I)) I) I ?_)
  obtain⟨⟨x2,e1⟩,hk,h⟩:=B h
  have hv:=Ok.ok hk
  refine po (nR (hv) I I I I I I I I I) I I (on 5 I (rz (S_ (rn 3 I ?_))))
  rcases E_ h with ⟨hc,h⟩|⟨hc,h⟩
  ·refine gt I I I I hc I (on 7 I (rz (ct I I (ra I (R_ (C_ (Q_ ?_)))))))
   cases h
   exact .ret I I
  ·refine gf I I I I hc I (on 3 I ?_)
   obtain⟨y2,hk,h⟩:=B h
   refine po (mS (D.int .i64) (λ_=>I) hk I I I I I) I I (on 3 I (rz ?_))
   rcases E_ h with ⟨hc,h⟩|⟨hc,h⟩
   ·refine ct I hc (ra I (R_ (C_ (Q_ ?_))))
    cases h
    exact .ret I I
   ·refine cf I hc (K_ (cn I (N_ (ra I (S_ (S_ (rn 4 I ?_)))))))
    obtain⟨l3,hk,h⟩:=B h
    refine po (Al9 hk I I I I I I) I I (po (mT I I I I I I I) I I (on 1 I (rz ?_)))
    obtain⟨size1,hs,h⟩:=B h
    refine gZ (λ(size1:Int)=>(⟨[(3,.c (.ptr 0 0)),(4,.c (.ptr 1 0)),(6,.c (.ptr 2 0)),(8,.d (iZ axis)),(10,.c (.ptr 4 0)),(13,.d (iZ size1))],[(4,[.d (lI l2),oC []]),(2,[oI [],oC []]),(1,[.d (lI x1.shape),.d (lC x1.cells)]),(0,[.d (lI x.shape),.d (lC x.cells)])],18,[],none⟩:St)) (y:=size1) ?_ ?_
    ·replace h:=hs
     refine W_ (eC ?_)
     have hv:=Ok.ok h
     exact bV I I hv
    ·refine N_ (S_ (drn (m:=34) 3 I I ?_))
     obtain⟨y3,hk,h⟩:=B h
     refine pd (mS (D.int .i64) (λ_=>I) hk I I I I I) I I I I I (don 6 I ?_)
     obtain⟨y4,hk,h⟩:=B h
     refine pd (mS (D.int .i64) (λ_=>I) hk I I I I I) I I I I I (don 5 I (dz (by kernel_rfl) (ra I (S_ (S_ (rn 3 I ?_))))))
     obtain⟨l4,hk,h⟩:=B h
     refine po (BfR hk I I I I I I) I I (po (mT I I I I I I I) I I (on 1 I (rz ?_)))
     obtain⟨outer1,hs,h⟩:=B h
     refine gZ (λ(outer1:Int)=>(⟨[(3,.c (.ptr 0 0)),(4,.c (.ptr 1 0)),(6,.c (.ptr 2 0)),(10,.c (.ptr 4 0)),(16,.d (iZ (w64 (y3*size1)))),(17,.d (iZ (w64 (y4*size1)))),(18,.d (iZ outer1))],[(4,[.d (lI l2),oC []]),(2,[oI [],oC []]),(1,[.d (lI x1.shape),.d (lC x1.cells)]),(0,[.d (lI x.shape),.d (lC x.cells)])],34,[],none⟩:St)) (y:=outer1) ?_ ?_
     ·replace h:=hs
      refine W_ (eC ?_)
      have hv:=Ok.ok h
      exact bV I I hv
     ·refine N_ (S_ (ra I ?_))
      obtain⟨out11,hs,h⟩:=B h
      refine gZ (λ(out11:(List aA))=>(⟨[(6,.c (.ptr 2 0)),(10,.c (.ptr 4 0))],[(4,[.d (lI l2),oC out11]),(2,[oI [],oC []]),(1,[.d (lI x1.shape),.d (lC x1.cells)]),(0,[.d (lI x.shape),.d (lC x.cells)])],34,[],none⟩:St)) (y:=out11) ?_ ?_
      ·replace h:=hs
       refine W_ (eC ?_)
       have hv:=Ok.ok h
       exact bV I I hv
      ·refine N_ (ra I (R_ ?_))
       cases h
       exact .ret I I
 ⟩
abbrev AhY (r:Int×Int):aE:=(aE.ret (.tuple [.d (iZ r.1),.d (iZ r.2)]) [])
instance {a_:Arr}:Ok (tZ a_) λr=>aval X 102 [.d (encArr a_)] [] (AhY r):=⟨λh=>by
 unfold tZ at h
 exact aB AhY I Tryz.func102 I I I I I I λiE=>Wk⟩
abbrev sQ (r:LI×Int):aE:=(aE.ret (.tuple [.d (lI r.1),.d (iZ r.2)]) [])
abbrev AeV (a:Arr×Int×Int) (res:Except (LI×Int) (Unit)):Prop:=match a with|(m,n,x)=>cD X 170 (aN [1,1,0,1,0,0] (aO Tryz.f170)) (aH (X.H 170 4) 1) (aJ 0 (X.H 170 1000000) 1 (kD X Tryz.f170 0 sQ (λ(_:Unit)=>(⟨[(1,.d (iZ n)),(2,.c (.ptr 0 0))],[(0,[.d (lI m.shape),.d (lC m.cells)])],1,[],none⟩:St)) res)) ⟨[(1,.d (iZ n)),(2,.c (.ptr 0 0)),(17,.d (lC m.cells)),(18,.d (iZ (List.length m.cells:Int))),(19,.d (iZ x))],[(0,[.d (lI m.shape),.d (lC m.cells)])],1,[],none⟩
instance {a:Arr×Int×Int}:Ok (lG a) (AeV a):=⟨λh=>lG.partial_correctness AeV (by
 rintro P_ IH ⟨m,n,x⟩ res h
 have IH:=Ok.mk' IH
 refine lg I (ra I (S_ ?_))
 rcases E_ h with ⟨hc,h⟩|⟨hc,h⟩
 ·refine ct I hc (K_ (cn I (N_ (S_ (W_ (S_ (rn 0 I ?_)))))))
  obtain⟨y,hk,h⟩:=B h
  refine po (mS aD (λ_=>I) hk I I I I I) I I (on (nid':=2) 3 I (rz (S_ (rn 4 I ?_))))
  rcases E_ h with ⟨hc,h⟩|⟨hc,h⟩
  ·refine gt I I I I hc I (on 4 I (rz (ct I I (ra I (R_ (C_ (aJ.ret (Q_ (cH.ret (aJ.ret ?_))))))))))
   cases h
   exact .err I (.ret I I)
  refine gf I I I I hc I (on 4 I (rz ?_))
  rcases E_ h with ⟨hc,h⟩|⟨hc,h⟩
  ·refine ct I hc (ra I (R_ (C_ (aJ.ret (Q_ (cH.ret (aJ.ret ?_)))))))
   cases h
   exact .err I (.ret I I)
  refine cf I hc (K_ (cn I (en I (N_ (rn 2 I (O_ (cH.normal ?_)))))))
  have hv:=Ok.ok h
  exact bV I I hv
 ·refine cf I hc (X_ (fN.exit (kT.exit (cH.exit (eh I ?_)))))
  cases h
  exact .ok I
 ) _ _ h⟩
abbrev AeW (a:Arr×Int×Int×Int×LI) (res:Except (LI×Int) LI):Prop:=match a with|(m,n,all,x1,l1)=>cD X 170 (aN [1,1,1,1,1,0,1,0,0] (aO Tryz.f170)) (aH (X.H 170 13) 2) (aJ 2 (X.H 170 1000002) 2 (kD X Tryz.f170 0 sQ (λ(l3:LI)=>(⟨[(8,.c (.arr 1 (Int.toNat n) 1))],[(1,[.seq 1 (List.map (D.int .i64) l3)]),(0,[.d (lI m.shape),.d (lC m.cells)])],2,[],none⟩:St)) res)) ⟨[(2,.c (.ptr 0 0)),(8,.c (.arr 1 (Int.toNat n) 1)),(9,.d (iZ all)),(46,.d (iZ ((Int.toNat n):Int))),(47,.d (iZ x1))],[(1,[.seq 1 (List.map (D.int .i64) l1)]),(0,[.d (lI m.shape),.d (lC m.cells)])],2,[],none⟩
instance {a:Arr×Int×Int×Int×LI}:Ok (lH a) (AeW a):=⟨λh=>lH.partial_correctness AeW (by
 rintro P_ IH ⟨m,n,all,x1,l1⟩ res h
 have IH:=Ok.mk' IH
 refine lg I (ra I (S_ ?_))
 rcases E_ h with ⟨hc,h⟩|⟨hc,h⟩
 ·refine ct I hc (K_ (cn I (N_ (S_ (W_ (ra I (S_ (rn 2 I ?_))))))))
  obtain⟨y1,hk,h⟩:=B h
  refine po (mS aD (λ_=>I) hk I I I I I) I I (on (nid':=3) 3 I (rz (S_ (S_ (rn 2 I (po (mT I I I I I I I) I I (on 1 I (rz ?_))))))))
  obtain⟨⟨c0,c1,c2⟩,hs,h⟩:=B h
  refine gZ (λ((c0,c1,c2):Int×Int×(List Arr))=>(⟨[(2,.c (.ptr 0 0)),(8,.c (.arr 1 (Int.toNat n) 1)),(9,.d (iZ all)),(10,.d (iZ x1)),(11,.c (.ptr 2 0)),(46,.d (iZ ((Int.toNat n):Int))),(47,.d (iZ x1))],[(2,[.d (iZ c0),.d (iZ c1),.d (.list 2 (List.map aW c2))]),(1,[.seq 1 (List.map (D.int .i64) l1)]),(0,[.d (lI m.shape),.d (lC m.cells)])],3,[],none⟩:St)) (y:=(c0,c1,c2)) ?_ ?_
  ·replace h:=hs
   rcases E_ h with ⟨hc,h⟩|⟨hc,h⟩
   ·refine ct I hc (rn 3 I ?_)
    obtain⟨y2,hk,h⟩:=B h
    refine po (mS aD (λ_=>I) hk I I I I I) I I (on 2 I (O_ (cn I ?_)))
    cases h
    exact .ok I
   refine cf I hc (K_ (cn I ?_))
   cases h
   exact .ok I
  refine N_ (S_ (ra I ?_))
  rcases E_ h with ⟨hc,h⟩|⟨hc,h⟩
  ·refine ct I hc (ra I (R_ (C_ (Q_ (aJ.ret (Q_ (cH.ret (aJ.ret ?_))))))))
   cases h
   exact .err I (.ret I I)
  refine cf I hc (K_ (cn I (N_ (S_ (rn 4 I ?_)))))
  obtain⟨j,hk,h⟩:=B h
  refine po (AcK hk I I I I I) I I ?_
  obtain⟨l2,hk,h⟩:=B h
  refine po (est (D.int .i64) (v:=c1) hk I I (λ_=>⟨I,I,I⟩) I I I I) I I (rz (rn 3 I ?_))
  obtain⟨j1,hk,h⟩:=B h
  refine po (AcK hk I I I I I) I I ?_
  obtain⟨y3,hk,h⟩:=B h
  refine po (AqJ (D.int .i64) hk I I (λ_=>⟨I,I,I⟩) I I) I I (on 2 I (O_ (en I (N_ (rn 2 I (O_ (cH.normal ?_)))))))
  have hv:=Ok.ok h
  exact bV I I hv
 ·refine cf I hc (X_ (fN.exit (kT.exit (cH.exit (eh I ?_)))))
  cases h
  exact .ok I
 ) _ _ h⟩
abbrev AeX (a:Arr×Int×Int×Int×LI) (res:Except (LI×Int) LI):Prop:=match a with|(m,n,all1,x2,l6)=>cD X 170 (aN [1,1,1,1,1,0,1,0,0] (aO Tryz.f170)) (aH (X.H 170 13) 2) (aJ 2 (X.H 170 1000002) 2 (kD X Tryz.f170 0 sQ (λ(l8:LI)=>(⟨[(8,.c (.arr 1 (Int.toNat n) 1))],[(1,[.seq 1 (List.map (D.int .i64) l8)]),(0,[.d (lI m.shape),.d (lC m.cells)])],2,[],none⟩:St)) res)) ⟨[(2,.c (.ptr 0 0)),(8,.c (.arr 1 (Int.toNat n) 1)),(9,.d (iZ all1)),(46,.d (iZ ((Int.toNat n):Int))),(47,.d (iZ x2))],[(1,[.seq 1 (List.map (D.int .i64) l6)]),(0,[.d (lI m.shape),.d (lC m.cells)])],2,[],none⟩
instance {a:Arr×Int×Int×Int×LI}:Ok (lJ a) (AeX a):=⟨λh=>lJ.partial_correctness AeX (by
 rintro P_ IH ⟨m,n,all1,x2,l6⟩ res h
 have IH:=Ok.mk' IH
 refine lg I (ra I (S_ ?_))
 rcases E_ h with ⟨hc,h⟩|⟨hc,h⟩
 ·refine ct I hc (K_ (cn I (N_ (S_ (W_ (ra I (S_ (rn 2 I ?_))))))))
  obtain⟨y4,hk,h⟩:=B h
  refine po (mS aD (λ_=>I) hk I I I I I) I I (on (nid':=3) 3 I (rz (S_ (S_ (rn 2 I (po (mT I I I I I I I) I I (on 1 I (rz ?_))))))))
  obtain⟨⟨c01,c11,c21⟩,hs,h⟩:=B h
  refine gZ (λ((c01,c11,c21):Int×Int×(List Arr))=>(⟨[(2,.c (.ptr 0 0)),(8,.c (.arr 1 (Int.toNat n) 1)),(9,.d (iZ all1)),(10,.d (iZ x2)),(11,.c (.ptr 2 0)),(46,.d (iZ ((Int.toNat n):Int))),(47,.d (iZ x2))],[(2,[.d (iZ c01),.d (iZ c11),.d (.list 2 (List.map aW c21))]),(1,[.seq 1 (List.map (D.int .i64) l6)]),(0,[.d (lI m.shape),.d (lC m.cells)])],3,[],none⟩:St)) (y:=(c01,c11,c21)) ?_ ?_
  ·replace h:=hs
   rcases E_ h with ⟨hc,h⟩|⟨hc,h⟩
   ·refine ct I hc (rn 3 I ?_)
    obtain⟨y5,hk,h⟩:=B h
    refine po (mS aD (λ_=>I) hk I I I I I) I I (on 2 I (O_ (cn I ?_)))
    cases h
    exact .ok I
   refine cf I hc (K_ (cn I ?_))
   cases h
   exact .ok I
  refine N_ (S_ (ra I ?_))
  rcases E_ h with ⟨hc,h⟩|⟨hc,h⟩
  ·refine ct I hc (ra I (R_ (C_ (Q_ (aJ.ret (Q_ (cH.ret (aJ.ret ?_))))))))
   cases h
   exact .err I (.ret I I)
  refine cf I hc (K_ (cn I (N_ (S_ (rn 4 I ?_)))))
  obtain⟨j2,hk,h⟩:=B h
  refine po (AcK hk I I I I I) I I ?_
  obtain⟨l7,hk,h⟩:=B h
  refine po (est (D.int .i64) (v:=c11) hk I I (λ_=>⟨I,I,I⟩) I I I I) I I (rz (rn 3 I ?_))
  obtain⟨j3,hk,h⟩:=B h
  refine po (AcK hk I I I I I) I I ?_
  obtain⟨y6,hk,h⟩:=B h
  refine po (AqJ (D.int .i64) hk I I (λ_=>⟨I,I,I⟩) I I) I I (on 2 I (O_ (en I (N_ (rn 2 I (O_ (cH.normal ?_)))))))
  have hv:=Ok.ok h
  exact bV I I hv
 ·refine cf I hc (X_ (fN.exit (kT.exit (cH.exit (eh I ?_)))))
  cases h
  exact .ok I
 ) _ _ h⟩
instance {m:Arr} {n:Int}:Ok (wQ m n) λr=>aval X 170 [.d (encArr m),.d (iZ n)] [] (aE.ret (.tuple [.d (lI r.1),.d (iZ r.2)]) []):=⟨λ{r} h=>by
 unfold wQ at h
 refine kY (tm:=[(0,.d (encArr m)),(1,.d (iZ n))]) (hp:=[]) (n:=0) I Tryz.func170 I I I I I I (ra (nid':=1) I (S_ (S_ (rn 2 I (po (mT I I I I I I I) I I (on 1 I (rz ?_)))))))
 rcases E_ h with ⟨hc,h⟩|⟨hc,h⟩
 ·refine ct I hc (ra I (R_ (C_ (Q_ ?_))))
  cases h
  exact .ret I I
 ·refine cf I hc (K_ (cn I (N_ (S_ (S_ (rn 2 I (po (mT I I I I I I I) I I (on 1 I (rz ?_)))))))))
  obtain⟨res,hs,h⟩:=B h
  refine uG Tryz.f170 0 sQ (λ(_:Unit)=>(⟨[(1,.d (iZ n)),(2,.c (.ptr 0 0))],[(0,[.d (lI m.shape),.d (lC m.cells)])],1,[],none⟩:St)) (res:=res) ?_ (λy hy=>?_) (λr x s' hr hx he=>?_)
  ·replace h:=hs
   refine W_ (eC ?_)
   have hv:=Ok.ok h
   exact bV I I hv
  ·subst hy
   refine N_ (S_ (S_ (rn 2 I (po (mT I I I I I I I) I I (on 2 I ?_)))))
   rcases E_ h with ⟨hc,h⟩|⟨hc,h⟩
   ·refine gt I I I I hc I (on 2 I (po (mT I I I I I I I) I I (on 3 I (rz ?_))))
    rcases E_ h with ⟨hc,h⟩|⟨hc,h⟩
    ·refine ct I hc (ra I (R_ (C_ (Q_ ?_))))
     cases h
     exact .ret I I
    refine cf I hc (K_ (cn I (N_ (S_ (rn 1 I ?_)))))
    obtain⟨l,hk,h⟩:=B h
    refine po (AlA (nid':=2) (D.int .i64) 0 hk I I I I I I I I I I I I ) I I (on (nid':=2) 2 I (rz (S_ (ra I ?_))))
    obtain⟨res,hs,h⟩:=B h
    refine uG Tryz.f170 0 sQ (λ(l3:LI)=>(⟨[(8,.c (.arr 1 (Int.toNat n) 1))],[(1,[.seq 1 (List.map (D.int .i64) l3)]),(0,[.d (lI m.shape),.d (lC m.cells)])],2,[],none⟩:St)) (res:=res) ?_ (λy hy=>?_) (λr x s' hr hx he=>?_)
    ·replace h:=hs
     refine W_ (eC ?_)
     have hv:=Ok.ok h
     exact bV I I hv
    ·subst hy
     obtain l3:=y
     refine N_ ?_
     obtain⟨l4,hkFl4,h⟩:=B h
     refine S_ (rnF 3 (tm0:=[(8,.d (lI l4)),(8,.c (.arr 1 (Int.toNat n) 1))]) (hp0:=[(0,[.d (lI m.shape),.d (lC m.cells)])]) (nid0:=2) (Ai4 I (gT (t:=8) I I I (AtS (AfV (D.int .i64) hkFl4 I)) I I) I) I (rz (R_ ?_)))
     cases h
     exact .ret I I
    subst hr
    refine kT.out hx ?_
    cases h
    exact he
   refine gf I I I I hc I (on 6 I (rz (cf I I (K_ (cn I (N_ (S_ (rn 1 I ?_))))))))
   obtain⟨l5,hk,h⟩:=B h
   refine po (AlA (nid':=2) (D.int .i64) 0 hk I I I I I I I I I I I I ) I I (on (nid':=2) 2 I (rz (S_ (ra I ?_))))
   obtain⟨res,hs,h⟩:=B h
   refine uG Tryz.f170 0 sQ (λ(l8:LI)=>(⟨[(8,.c (.arr 1 (Int.toNat n) 1))],[(1,[.seq 1 (List.map (D.int .i64) l8)]),(0,[.d (lI m.shape),.d (lC m.cells)])],2,[],none⟩:St)) (res:=res) ?_ (λy hy=>?_) (λr x s' hr hx he=>?_)
   ·replace h:=hs
    refine W_ (eC ?_)
    have hv:=Ok.ok h
    exact bV I I hv
   ·subst hy
    obtain l8:=y
    refine N_ ?_
    obtain⟨l9,hkFl9,h⟩:=B h
    refine S_ (rnF 3 (tm0:=[(8,.d (lI l9)),(8,.c (.arr 1 (Int.toNat n) 1))]) (hp0:=[(0,[.d (lI m.shape),.d (lC m.cells)])]) (nid0:=2) (Ai4 I (gT (t:=8) I I I (AtS (AfV (D.int .i64) hkFl9 I)) I I) I) I (rz (R_ ?_)))
    cases h
    exact .ret I I
   subst hr
   refine kT.out hx ?_
   cases h
   exact he
  ·subst hr
   refine kT.out hx ?_
   cases h
   exact he
 ⟩
abbrev Ab0 (a:Arr×Arr×Int×LI×LI×Int×LI) (res:LI):Prop:=match a with|(m,x,axis,l,l1,x1,c0)=>cD X 101 (aN [1,1,1,1,1,1,1,1,0,1,0,0] (aO Tryz.f101)) (aH (X.H 101 11) 17) (aJ 0 (X.H 101 1000000) 17 (iR (λ(c01:LI)=>(⟨[(4,.c (.ptr 1 0)),(6,.c (.ptr 2 0)),(8,.d (iZ axis)),(9,.d (lI l)),(11,.c (.ptr 16 0))],[(16,[.arr 15 (List.length l1) 1,oC []]),(15,[.seq 1 (List.map (D.int .i64) c01)]),(2,[oI [],oC []]),(1,[.d (lI x.shape),.d (lC x.cells)]),(0,[.d (lI m.shape),.d (lC m.cells)])],17,[],none⟩:St)) res)) ⟨[(4,.c (.ptr 1 0)),(6,.c (.ptr 2 0)),(8,.d (iZ axis)),(9,.d (lI l)),(11,.c (.ptr 16 0)),(52,.d (lI l)),(53,.d (iZ (List.length l:Int))),(54,.d (iZ x1))],[(16,[.arr 15 (List.length l1) 1,oC []]),(15,[.seq 1 (List.map (D.int .i64) c0)]),(2,[oI [],oC []]),(1,[.d (lI x.shape),.d (lC x.cells)]),(0,[.d (lI m.shape),.d (lC m.cells)])],17,[],none⟩
instance {a:Arr×Arr×Int×LI×LI×Int×LI}:Ok (iB a) (Ab0 a):=⟨λh=>iB.partial_correctness Ab0 (by
 rintro P_ IH ⟨m,x,axis,l,l1,x1,c0⟩ res h
 have IH:=Ok.mk' IH
 refine lg I (ra I (S_ ?_))
 rcases E_ h with ⟨hc,h⟩|⟨hc,h⟩
 ·refine ct I hc (K_ (cn I (N_ (S_ (W_ (S_ (rn 0 I ?_)))))))
  obtain⟨k,hk,h⟩:=B h
  refine po (mS (D.int .i64) (λ_=>I) hk I I I I I) I I (on 2 I (rz (rn 3 I ?_)))
  obtain⟨j1,hk,h⟩:=B h
  refine po (AcK hk I I I I I) I I ?_
  obtain⟨y1,hk,h⟩:=B h
  refine po (AqJ (D.int .i64) hk I I (λ_=>⟨I,I,I⟩) I I) I I (on 2 I ?_)
  obtain⟨j2,hk,h⟩:=B h
  refine po (AcK hk I I I I I) I I ?_
  obtain⟨c,hk,h⟩:=B h
  refine po (est (D.int .i64) (v:=(w64 (y1+k))) hk I I (λ_=>⟨I,I,I⟩) I I I I) I I (O_ (en I (N_ (rn 2 I (O_ (cH.normal ?_))))))
  have hv:=Ok.ok h
  exact bV I I hv
 ·refine cf I hc (X_ (fN.exit (kT.exit (cH.exit (eh I ?_)))))
  cases h
  exact .ok I
 ) _ _ h⟩
abbrev Ab1 (a:Arr×Arr×LI×LI×LI×Int×Int) (res:Int):Prop:=match a with|(m,x,l,l3,l4,size,x3)=>cD X 101 (aN [1,1,1,1,1,1,1,1,1,1,1,0,1,0,0] (aO Tryz.f101)) (aH (X.H 101 20) 17) (aJ 2 (X.H 101 1000002) 17 (iR (λ(size1:Int)=>(⟨[(4,.c (.ptr 1 0)),(6,.c (.ptr 2 0)),(9,.d (lI l)),(11,.c (.ptr 16 0)),(16,.d (iZ size1))],[(16,[.d (lI l3),oC []]),(2,[oI [],oC []]),(1,[.d (lI x.shape),.d (lC x.cells)]),(0,[.d (lI m.shape),.d (lC m.cells)])],17,[],none⟩:St)) res)) ⟨[(4,.c (.ptr 1 0)),(6,.c (.ptr 2 0)),(9,.d (lI l)),(11,.c (.ptr 16 0)),(16,.d (iZ size)),(81,.d (lI l4)),(82,.d (iZ (List.length l4:Int))),(83,.d (iZ x3))],[(16,[.d (lI l3),oC []]),(2,[oI [],oC []]),(1,[.d (lI x.shape),.d (lC x.cells)]),(0,[.d (lI m.shape),.d (lC m.cells)])],17,[],none⟩
instance {a:Arr×Arr×LI×LI×LI×Int×Int}:Ok (iC a) (Ab1 a):=⟨λh=>iC.partial_correctness Ab1 (by
 rintro P_ IH ⟨m,x,l,l3,l4,size,x3⟩ res h
 have IH:=Ok.mk' IH
 refine lg I (ra I (S_ ?_))
 rcases E_ h with ⟨hc,h⟩|⟨hc,h⟩
 ·refine ct I hc (K_ (cn I (N_ (S_ (W_ (S_ (rn 0 I ?_)))))))
  obtain⟨d,hk,h⟩:=B h
  refine po (mS (D.int .i64) (λ_=>I) hk I I I I I) I I (on 2 I (rz (rn 4 I (O_ (en I (N_ (rn 2 I (O_ (cH.normal ?_)))))))))
  have hv:=Ok.ok h
  exact bV I I hv
 ·refine cf I hc (X_ (fN.exit (kT.exit (cH.exit (eh I ?_)))))
  cases h
  exact .ok I
 ) _ _ h⟩
abbrev Ab4 (a:Arr×Arr×LI×LI×Int×Int×Int×Int×Int×(List aA)) (res:(List aA)):Prop:=match a with|(m,x,l,l3,size1,at_,x4,k1,x5,out12)=>cD X 101 (aN [1,1,1,1,1,1,1,1,1,1,1,1,0,1,0,0,1,0,0,1,0,0,1,1,0,0,1,1,0,0] (aO Tryz.f101)) (aH (X.H 101 31) 17) (aJ 8 (X.H 101 1000008) 17 (iR (λ(out13:(List aA))=>(⟨[(4,.c (.ptr 1 0)),(6,.c (.ptr 2 0)),(9,.d (lI l)),(11,.c (.ptr 16 0)),(16,.d (iZ size1)),(19,.d (iZ at_)),(102,.d (lI l)),(103,.d (iZ (List.length l:Int))),(104,.d (iZ x4))],[(16,[.d (lI l3),oC out13]),(2,[oI [],oC []]),(1,[.d (lI x.shape),.d (lC x.cells)]),(0,[.d (lI m.shape),.d (lC m.cells)])],17,[],none⟩:St)) res)) ⟨[(4,.c (.ptr 1 0)),(6,.c (.ptr 2 0)),(9,.d (lI l)),(11,.c (.ptr 16 0)),(16,.d (iZ size1)),(19,.d (iZ at_)),(20,.d (iZ x4)),(102,.d (lI l)),(103,.d (iZ (List.length l:Int))),(104,.d (iZ x4)),(109,.d (iZ k1)),(110,.d (iZ x5))],[(16,[.d (lI l3),oC out12]),(2,[oI [],oC []]),(1,[.d (lI x.shape),.d (lC x.cells)]),(0,[.d (lI m.shape),.d (lC m.cells)])],17,[],none⟩
instance {a:Arr×Arr×LI×LI×Int×Int×Int×Int×Int×(List aA)}:Ok (iF a) (Ab4 a):=⟨λh=>iF.partial_correctness Ab4 (by
 rintro P_ IH ⟨m,x,l,l3,size1,at_,x4,k1,x5,out12⟩ res h
 have IH:=Ok.mk' IH
 refine lg I (ra I (S_ ?_))
 rcases E_ h with ⟨hc,h⟩|⟨hc,h⟩
 ·refine ct I hc (K_ (cn I (N_ (S_ (W_ (drn (m:=36) 15 I I ?_))))))
  obtain⟨l5,hk,h⟩:=B h
  refine pd (ArR hk I I I I I I I) I I I I I ?_
  obtain⟨l6,hk,h⟩:=B h
  refine pd (AfP hk I I I I I I I I I I I I I I ) I I I I I (don 2 I (dz' (by kernel_rfl) (en I (N_ (rn 2 I (O_ (cH.normal ?_)))))))
  have hv:=Ok.ok h
  exact bV I I hv
 ·refine cf I hc (X_ (fN.exit (kT.exit (cH.exit (eh I ?_)))))
  cases h
  exact .ok I
 ) _ _ h⟩
abbrev Ab3 (a:Arr×Arr×LI×LI×Int×Int×Int×(List aA)) (res:(List aA)):Prop:=match a with|(m,x,l,l3,size1,at_,x4,out11)=>cD X 101 (aN [1,1,1,1,1,1,1,1,1,1,1,1,0,1,0,0,1,0,0,1,0,0] (aO Tryz.f101)) (aH (X.H 101 28) 17) (aJ 6 (X.H 101 1000006) 17 (iR (λ(out14:(List aA))=>(⟨[(4,.c (.ptr 1 0)),(6,.c (.ptr 2 0)),(9,.d (lI l)),(11,.c (.ptr 16 0)),(16,.d (iZ size1)),(19,.d (iZ at_))],[(16,[.d (lI l3),oC out14]),(2,[oI [],oC []]),(1,[.d (lI x.shape),.d (lC x.cells)]),(0,[.d (lI m.shape),.d (lC m.cells)])],17,[],none⟩:St)) res)) ⟨[(4,.c (.ptr 1 0)),(6,.c (.ptr 2 0)),(9,.d (lI l)),(11,.c (.ptr 16 0)),(16,.d (iZ size1)),(19,.d (iZ at_)),(102,.d (lI l)),(103,.d (iZ (List.length l:Int))),(104,.d (iZ x4))],[(16,[.d (lI l3),oC out11]),(2,[oI [],oC []]),(1,[.d (lI x.shape),.d (lC x.cells)]),(0,[.d (lI m.shape),.d (lC m.cells)])],17,[],none⟩
instance {a:Arr×Arr×LI×LI×Int×Int×Int×(List aA)}:Ok (iD a) (Ab3 a):=⟨λh=>iD.partial_correctness Ab3 (by
 rintro P_ IH ⟨m,x,l,l3,size1,at_,x4,out11⟩ res h
 have IH:=Ok.mk' IH
 refine lg I (ra I (S_ ?_))
 rcases E_ h with ⟨hc,h⟩|⟨hc,h⟩
 ·refine ct I hc (K_ (cn I (N_ (S_ (W_ (S_ (rn 1 I ?_)))))))
  obtain⟨k1,hk,h⟩:=B h
  refine po (mS (D.int .i64) (λ_=>I) hk I I I I I) I I (on 3 I (rz (ra I ?_)))
  obtain⟨out13,hs,h⟩:=B h
  refine gZ (λ(out13:(List aA))=>(⟨[(4,.c (.ptr 1 0)),(6,.c (.ptr 2 0)),(9,.d (lI l)),(11,.c (.ptr 16 0)),(16,.d (iZ size1)),(19,.d (iZ at_)),(102,.d (lI l)),(103,.d (iZ (List.length l:Int))),(104,.d (iZ x4))],[(16,[.d (lI l3),oC out13]),(2,[oI [],oC []]),(1,[.d (lI x.shape),.d (lC x.cells)]),(0,[.d (lI m.shape),.d (lC m.cells)])],17,[],none⟩:St)) (y:=out13) ?_ ?_
  ·replace h:=hs
   refine W_ (eC ?_)
   have hv:=Ok.ok h
   exact bV I I hv
  refine en I (N_ (rn 2 I (O_ (cH.normal ?_))))
  have hv:=Ok.ok h
  exact bV I I hv
 ·refine cf I hc (X_ (fN.exit (kT.exit (cH.exit (eh I ?_)))))
  cases h
  exact .ok I
 ) _ _ h⟩
abbrev Ab2 (a:Arr×Arr×LI×LI×Int×Int×(List aA)) (res:(List aA)):Prop:=match a with|(m,x,l,l3,size1,at_,out1)=>cD X 101 (aN [1,1,1,1,1,1,1,1,1,1,1,1,0,1,0,0] (aO Tryz.f101)) (aH (X.H 101 25) 17) (aJ 4 (X.H 101 1000004) 17 (iR (λ(out15:(List aA))=>(⟨[(6,.c (.ptr 2 0)),(11,.c (.ptr 16 0))],[(16,[.d (lI l3),oC out15]),(2,[oI [],oC []]),(1,[.d (lI x.shape),.d (lC x.cells)]),(0,[.d (lI m.shape),.d (lC m.cells)])],17,[],none⟩:St)) res)) ⟨[(4,.c (.ptr 1 0)),(6,.c (.ptr 2 0)),(9,.d (lI l)),(11,.c (.ptr 16 0)),(16,.d (iZ size1)),(19,.d (iZ at_))],[(16,[.d (lI l3),oC out1]),(2,[oI [],oC []]),(1,[.d (lI x.shape),.d (lC x.cells)]),(0,[.d (lI m.shape),.d (lC m.cells)])],17,[],none⟩
instance {a:Arr×Arr×LI×LI×Int×Int×(List aA)}:Ok (p_pick_repeated_l2 a) (Ab2 a):=⟨λh=>p_pick_repeated_l2.partial_correctness Ab2 (by
 rintro P_ IH ⟨m,x,l,l3,size1,at_,out1⟩ res h
 have IH:=Ok.mk' IH
 refine lg I (S_ (S_ (rn 3 I (po (mT I I I I I I I) I I (on 1 I (rz ?_))))))
 rcases E_ h with ⟨hc,h⟩|⟨hc,h⟩
 ·refine ct I hc (K_ (cn I (N_ (S_ (W_ (S_ (rn 1 I (po (mT I I I I I I I) I I (on 1 I (rz ?_))))))))))
  obtain⟨out14,hs,h⟩:=B h
  refine gZ (λ(out14:(List aA))=>(⟨[(4,.c (.ptr 1 0)),(6,.c (.ptr 2 0)),(9,.d (lI l)),(11,.c (.ptr 16 0)),(16,.d (iZ size1)),(19,.d (iZ at_))],[(16,[.d (lI l3),oC out14]),(2,[oI [],oC []]),(1,[.d (lI x.shape),.d (lC x.cells)]),(0,[.d (lI m.shape),.d (lC m.cells)])],17,[],none⟩:St)) (y:=out14) ?_ ?_
  ·replace h:=hs
   refine W_ (eC ?_)
   have hv:=Ok.ok h
   exact bV I I hv
  refine en I (N_ (rn 2 I (po (mT I I I I I I I) I I (on 4 I (O_ (cH.normal ?_))))))
  have hv:=Ok.ok h
  exact bV I I hv
 ·refine cf I hc (X_ (fN.exit (kT.exit (cH.exit (eh I ?_)))))
  cases h
  exact .ok I
 ) _ _ h⟩
instance {m:Arr} {a_:Arr} {last:Bool}:Ok (qW m a_ last) λr=>aval X 101 [.d (encArr m),.d (encArr a_),.d (.bool last)] [] (aE.ret (.tuple [.d (encArr r.1),.d (iZ r.2)]) []):=⟨λ{r} h=>by
 unfold qW at h
 refine kY (tm:=[(0,.d (encArr m)),(1,.d (encArr a_)),(2,.d (.bool last))]) (hp:=[]) (n:=0) I Tryz.func101 I I I I I I (ra (nid':=3) I (S_ (rn 1 I ?_)))
 obtain⟨x,hk,h⟩:=B h
 have hv:=Ok.ok hk
 refine po (nR (hv) I I I I I I I I I) I I (on 1 I (rz (ra I (S_ (ra I ?_)))))
 obtain⟨axis,hs,h⟩:=B h
 refine gZ (λ(axis:Int)=>(⟨[(3,.c (.ptr 0 0)),(4,.c (.ptr 1 0)),(6,.c (.ptr 2 0)),(8,.d (iZ axis))],[(2,[oI [],oC []]),(1,[.d (lI x.shape),.d (lC x.cells)]),(0,[.d (lI m.shape),.d (lC m.cells)])],3,[],none⟩:St)) (y:=axis) ?_ ?_
 ·replace h:=hs
  rcases E_ h with ⟨hc,h⟩|⟨hc,h⟩
  ·refine ct I hc (rn 2 I (po (mT I I I I I I I) I I (on 2 I (O_ (cn I ?_)))))
   cases h
   exact .ok I
  refine cf I hc (K_ (cn I ?_))
  cases h
  exact .ok I
 ·refine N_ (S_ (drn (m:=15) 4 I I ?_))
  obtain⟨y,hk,h⟩:=B h
  refine pd (mS (D.int .i64) (λ_=>I) hk I I I I I) I I I I I (don 1 I ?_)
  obtain⟨⟨l,e⟩,hk,h⟩:=B h
  have hv:=Ok.ok hk
  refine pd (nR (hv) I I I I I I I I I) I I I I I (don 5 I (dz (by kernel_rfl) (S_ (ra I ?_))))
  rcases E_ h with ⟨hc,h⟩|⟨hc,h⟩
  ·refine ct I hc (ra I (R_ (C_ (Q_ ?_))))
   cases h
   exact .ret I I
  ·refine cf I hc (K_ (cn I (N_ (S_ (rnM (tm0:=[(40,.d (.bool (e != 0))),(39,.d (iZ e)),(4,.c (.ptr 1 0)),(6,.c (.ptr 2 0)),(8,.d (iZ axis)),(9,.d (lI l)),(10,.d (iZ e))]) (hp0:=[(2,[oI [],oC []]),(1,[.d (lI x.shape),.d (lC x.cells)]),(0,[.d (lI m.shape),.d (lC m.cells)])]) (nid0:=15) I I I (mo (.of λ_=>I) I (λ_=>I) (s2:=⟨[(43,.c (.full 1 (List.map (D.int .i64) ([]:LI)))),(4,.c (.ptr 1 0)),(6,.c (.ptr 2 0)),(8,.d (iZ axis)),(9,.d (lI l))],[(2,[oI [],oC []]),(1,[.d (lI x.shape),.d (lC x.cells)]),(0,[.d (lI m.shape),.d (lC m.cells)])],15,[],none⟩) I (mo (.of λ_=>I) I (λ_=>I) (s2:=⟨[(44,.c (.ptr 1 0)),(43,.c (.full 1 (List.map (D.int .i64) ([]:LI)))),(4,.c (.ptr 1 0)),(6,.c (.ptr 2 0)),(8,.d (iZ axis)),(9,.d (lI l))],[(2,[oI [],oC []]),(1,[.d (lI x.shape),.d (lC x.cells)]),(0,[.d (lI m.shape),.d (lC m.cells)])],15,[],none⟩) I (mo (.of λ_=>I) I (λ_=>I) (s2:=⟨[(45,.d (lI x.shape)),(44,.c (.ptr 1 0)),(43,.c (.full 1 (List.map (D.int .i64) ([]:LI)))),(4,.c (.ptr 1 0)),(6,.c (.ptr 2 0)),(8,.d (iZ axis)),(9,.d (lI l))],[(2,[oI [],oC []]),(1,[.d (lI x.shape),.d (lC x.cells)]),(0,[.d (lI m.shape),.d (lC m.cells)])],15,[],none⟩) I ?_))))))))
   obtain⟨l1,hk,h⟩:=B h
   refine ms (BeN (D.int .i64) hk I I I I I I (Ao4 (D.int .i64)) I I I I I I I I I ) I (s2:=⟨[(46,.c (.arr 15 (List.length l1) 1)),(45,.d (lI x.shape)),(44,.c (.ptr 1 0)),(43,.c (.full 1 (List.map (D.int .i64) ([]:LI)))),(4,.c (.ptr 1 0)),(6,.c (.ptr 2 0)),(8,.d (iZ axis)),(9,.d (lI l))],[(15,[.seq 1 (List.map (D.int .i64) l1)]),(2,[oI [],oC []]),(1,[.d (lI x.shape),.d (lC x.cells)]),(0,[.d (lI m.shape),.d (lC m.cells)])],16,[],none⟩) I (mo (.of λ_=>I) I (λ_=>I) (s2:=⟨[(47,.vagg [.arr 15 (List.length l1) 1,.nilsl 3]),(46,.c (.arr 15 (List.length l1) 1)),(45,.d (lI x.shape)),(44,.c (.ptr 1 0)),(43,.c (.full 1 (List.map (D.int .i64) ([]:LI)))),(4,.c (.ptr 1 0)),(6,.c (.ptr 2 0)),(8,.d (iZ axis)),(9,.d (lI l))],[(15,[.seq 1 (List.map (D.int .i64) l1)]),(2,[oI [],oC []]),(1,[.d (lI x.shape),.d (lC x.cells)]),(0,[.d (lI m.shape),.d (lC m.cells)])],16,[],none⟩) I (mo (.of λ_=>I) I (λ_=>I) (s2:=⟨[(11,.c (.ptr 16 0)),(47,.vagg [.arr 15 (List.length l1) 1,.nilsl 3]),(46,.c (.arr 15 (List.length l1) 1)),(45,.d (lI x.shape)),(44,.c (.ptr 1 0)),(43,.c (.full 1 (List.map (D.int .i64) ([]:LI)))),(4,.c (.ptr 1 0)),(6,.c (.ptr 2 0)),(8,.d (iZ axis)),(9,.d (lI l))],[(16,[oI [],oC []]),(15,[.seq 1 (List.map (D.int .i64) l1)]),(2,[oI [],oC []]),(1,[.d (lI x.shape),.d (lC x.cells)]),(0,[.d (lI m.shape),.d (lC m.cells)])],17,[],none⟩) I (ms I I (s2:=⟨[(11,.c (.ptr 16 0)),(47,.vagg [.arr 15 (List.length l1) 1,.nilsl 3]),(46,.c (.arr 15 (List.length l1) 1)),(45,.d (lI x.shape)),(44,.c (.ptr 1 0)),(43,.c (.full 1 (List.map (D.int .i64) ([]:LI)))),(4,.c (.ptr 1 0)),(6,.c (.ptr 2 0)),(8,.d (iZ axis)),(9,.d (lI l))],[(16,[.arr 15 (List.length l1) 1,.nilsl 3]),(15,[.seq 1 (List.map (D.int .i64) l1)]),(2,[oI [],oC []]),(1,[.d (lI x.shape),.d (lC x.cells)]),(0,[.d (lI m.shape),.d (lC m.cells)])],17,[],none⟩) I (mz (N_ (S_ (rnF 3 (tm0:=[(11,.c (.ptr 16 0)),(47,.vagg [.arr 15 (List.length l1) 1,.nilsl 3]),(46,.c (.arr 15 (List.length l1) 1)),(45,.d (lI x.shape)),(44,.c (.ptr 1 0)),(43,.c (.full 1 (List.map (D.int .i64) ([]:LI)))),(4,.c (.ptr 1 0)),(6,.c (.ptr 2 0)),(8,.d (iZ axis)),(9,.d (lI l))]) (hp0:=[(16,[.arr 15 (List.length l1) 1,oC []]),(15,[.seq 1 (List.map (D.int .i64) l1)]),(2,[oI [],oC []]),(1,[.d (lI x.shape),.d (lC x.cells)]),(0,[.d (lI m.shape),.d (lC m.cells)])]) (nid0:=17) (Ai4 I (I) I) I ?_)))))))
   obtain⟨j,hk,h⟩:=B h
   refine po (AcK hk I I I I I) I I ?_
   obtain⟨l2,hk,h⟩:=B h
   refine po (est (D.int .i64) (v:=0) hk I I (λ_=>⟨I,I,I⟩) I I I I) I I (rz (S_ (S_ (rn 1 I (po (mT I I I I I I I) I I (on 1 I (rz ?_)))))))
   obtain⟨c01,hs,h⟩:=B h
   refine gZ (λ(c01:LI)=>(⟨[(4,.c (.ptr 1 0)),(6,.c (.ptr 2 0)),(8,.d (iZ axis)),(9,.d (lI l)),(11,.c (.ptr 16 0))],[(16,[.arr 15 (List.length l1) 1,oC []]),(15,[.seq 1 (List.map (D.int .i64) c01)]),(2,[oI [],oC []]),(1,[.d (lI x.shape),.d (lC x.cells)]),(0,[.d (lI m.shape),.d (lC m.cells)])],17,[],none⟩:St)) (y:=c01) ?_ ?_
   ·replace h:=hs
    refine W_ (eC ?_)
    have hv:=Ok.ok h
    exact bV I I hv
   ·refine N_ (S_ ?_)
    obtain⟨l3,hkFl3,h⟩:=B h
    refine S_ (rnF 2 (tm0:=[(4,.c (.ptr 1 0)),(6,.c (.ptr 2 0)),(8,.d (iZ axis)),(9,.d (lI l)),(11,.c (.ptr 16 0))]) (hp0:=[(16,[.d (lI l3),oC []]),(2,[oI [],oC []]),(1,[.d (lI x.shape),.d (lC x.cells)]),(0,[.d (lI m.shape),.d (lC m.cells)])]) (nid0:=17) (Ai4 I (gC (b0:=16) (off:=0) I (iJ (D.int .i64) I hkFl3 I I I)) I) I ?_)
    obtain⟨⟨x2,e1⟩,hk,h⟩:=B h
    have hv:=Ok.ok hk
    refine po (nR (hv) I I I I I I I I I) I I (on 5 I (rz (ra I ?_)))
    rcases E_ h with ⟨hc,h⟩|⟨hc,h⟩
    ·refine ct I hc (ra I (R_ (C_ (Q_ ?_))))
     cases h
     exact .ret I I
    ·refine cf I hc (K_ (cn I (N_ (ra I (S_ (S_ (rn 4 I ?_)))))))
     obtain⟨l4,hk,h⟩:=B h
     refine po (Al9 hk I I I I I I) I I (po (mT I I I I I I I) I I (on 1 I (rz ?_)))
     obtain⟨size1,hs,h⟩:=B h
     refine gZ (λ(size1:Int)=>(⟨[(4,.c (.ptr 1 0)),(6,.c (.ptr 2 0)),(9,.d (lI l)),(11,.c (.ptr 16 0)),(16,.d (iZ size1))],[(16,[.d (lI l3),oC []]),(2,[oI [],oC []]),(1,[.d (lI x.shape),.d (lC x.cells)]),(0,[.d (lI m.shape),.d (lC m.cells)])],17,[],none⟩:St)) (y:=size1) ?_ ?_
     ·replace h:=hs
      refine W_ (eC ?_)
      have hv:=Ok.ok h
      exact bV I I hv
     ·refine N_ (S_ (ra I ?_))
      obtain⟨out15,hs,h⟩:=B h
      refine gZ (λ(out15:(List aA))=>(⟨[(6,.c (.ptr 2 0)),(11,.c (.ptr 16 0))],[(16,[.d (lI l3),oC out15]),(2,[oI [],oC []]),(1,[.d (lI x.shape),.d (lC x.cells)]),(0,[.d (lI m.shape),.d (lC m.cells)])],17,[],none⟩:St)) (y:=out15) ?_ ?_
      ·replace h:=hs
       refine W_ (eC ?_)
       have hv:=Ok.ok h
       exact bV I I hv
      ·refine N_ (ra I (R_ ?_))
       cases h
       exact .ret I I
 ⟩
abbrev vV (r:Arr):aE:=(aE.ret (.d (encArr r)) [])
instance BbV:Jn 105 1 49 (Int):=⟨λy=>[(11,.d (iZ y))],λy=>[]⟩
abbrev Ac2 (a:Int×Arr×Int×LI×Int×Int) (res:Int):Prop:=match a with|(n,a_,axis,l,size,x)=>cD X 105 (aN [1,1,1,0,1,0,0] (aO Tryz.f105)) (aH (X.H 105 5) 2) (aJ 0 (X.H 105 1000000) 2 (iR (λ(size1:Int)=>(⟨[(0,.d (iZ n)),(2,.d (iZ axis)),(4,.c (.ptr 0 0)),(6,.c (.ptr 1 0)),(7,.d (iZ size1))],[(1,[oI [],oC []]),(0,[.d (lI a_.shape),.d (lC a_.cells)])],2,[],none⟩:St)) res)) ⟨[(0,.d (iZ n)),(2,.d (iZ axis)),(4,.c (.ptr 0 0)),(6,.c (.ptr 1 0)),(7,.d (iZ size)),(30,.d (lI l)),(31,.d (iZ (List.length l:Int))),(32,.d (iZ x))],[(1,[oI [],oC []]),(0,[.d (lI a_.shape),.d (lC a_.cells)])],2,[],none⟩
instance {a:Int×Arr×Int×LI×Int×Int}:Ok (jG a) (Ac2 a):=⟨λh=>jG.partial_correctness Ac2 (by
 rintro P_ IH ⟨n,a_,axis,l,size,x⟩ res h
 have IH:=Ok.mk' IH
 have iE:eP Tryz.f105 0 _ vV:=⟨trivial⟩
 refine lg I ?_
 exact Wk) _ _ h⟩
abbrev Ac3 (a:Arr×Int×Int×Int×Int×(List aA)) (res:(List aA)):Prop:=match a with|(a_,size1,d1,k1,at_,out1)=>cD X 105 (aN [1,1,1,1,1,1,1,1,0,1,0,0] (aO Tryz.f105)) (aH (X.H 105 15) 3) (aJ 2 (X.H 105 1000002) 3 (iR (λ(out11:(List aA))=>(⟨[(6,.c (.ptr 1 0)),(12,.c (.ptr 2 0))],[(2,[.d (lI a_.shape),oC out11]),(1,[oI [],oC []]),(0,[.d (lI a_.shape),.d (lC a_.cells)])],3,[],none⟩:St)) res)) ⟨[(4,.c (.ptr 0 0)),(6,.c (.ptr 1 0)),(7,.d (iZ size1)),(10,.d (iZ d1)),(11,.d (iZ k1)),(12,.c (.ptr 2 0)),(13,.d (iZ at_))],[(2,[.d (lI a_.shape),oC out1]),(1,[oI [],oC []]),(0,[.d (lI a_.shape),.d (lC a_.cells)])],3,[],none⟩
instance {a:Arr×Int×Int×Int×Int×(List aA)}:Ok (jI a) (Ac3 a):=⟨λh=>jI.partial_correctness Ac3 (by
 rintro P_ IH ⟨a_,size1,d1,k1,at_,out1⟩ res h
 have IH:=Ok.mk' IH
 have iE:eP Tryz.f105 0 _ vV:=⟨trivial⟩
 refine lg I ?_
 exact Wk) _ _ h⟩
instance {n:Int} {a_:Arr} {axis:Int}:Ok (p_pick_rotated n a_ axis) λr=>aval X 105 [.d (iZ n),.d (encArr a_),.d (iZ axis)] [] (vV r):=⟨λh=>by
 unfold p_pick_rotated at h
 exact aB vV I Tryz.func105 I I I I I I λiE=>Wk⟩
abbrev AhW (r:aA×Int):aE:=(aE.ret (.tuple [.d (aD r.1),.d (iZ r.2)]) [])
instance {a_:Arr}:Ok (tX a_) λr=>aval X 172 [.d (encArr a_)] [] (AhW r):=⟨λh=>by
 unfold tX at h
 exact aB AhW I Tryz.func172 I I I I I I λiE=>Wk⟩
abbrev AgH (a:Int×Arr×Int×LI×aA×Int×Int×(List aA)) (res:(List aA)):Prop:=match a with|(n,x,have_,shape,x4,x5,x6,more1)=>cD X 103 (aN [1,1,1,1,1,1,1,1,1,1,0,1,0,0] (aO Tryz.f103)) (aH (X.H 103 18) 14) (aJ 0 (X.H 103 1000000) 14 (iR (λ(more3:(List aA))=>(⟨[(0,.d (iZ n)),(3,.c (.ptr 0 0)),(4,.c (.ptr 1 0)),(8,.c (.own 1 (List.map (D.int .i64) shape))),(13,.c (.arr 13 (Int.toNat (w64 ((w64 ((if n<(w64 (0-n)) then (w64 (0-n)) else n)-have_))*x5))) 3))],[(13,[.seq 3 (List.map aD more3)]),(12,[.d (iZ x4.kind),.d (iZ x4.n),.d (.list 2 (List.map aW x4.box))]),(1,[oI [],oC []]),(0,[.d (lI x.shape),.d (lC x.cells)])],14,[],none⟩:St)) res)) ⟨[(0,.d (iZ n)),(3,.c (.ptr 0 0)),(4,.c (.ptr 1 0)),(8,.c (.own 1 (List.map (D.int .i64) shape))),(11,.c (.ptr 12 0)),(13,.c (.arr 13 (Int.toNat (w64 ((w64 ((if n<(w64 (0-n)) then (w64 (0-n)) else n)-have_))*x5))) 3)),(78,.d (iZ ((Int.toNat (w64 ((w64 ((if n<(w64 (0-n)) then (w64 (0-n)) else n)-have_))*x5))):Int))),(79,.d (iZ x6))],[(13,[.seq 3 (List.map aD more1)]),(12,[.d (iZ x4.kind),.d (iZ x4.n),.d (.list 2 (List.map aW x4.box))]),(1,[oI [],oC []]),(0,[.d (lI x.shape),.d (lC x.cells)])],14,[],none⟩
instance {a:Int×Arr×Int×LI×aA×Int×Int×(List aA)}:Ok (nH a) (AgH a):=⟨λh=>nH.partial_correctness AgH (by
 rintro P_ IH ⟨n,x,have_,shape,x4,x5,x6,more1⟩ res h
 have IH:=Ok.mk' IH
 refine lg I (ra I (S_ ?_))
 rcases E_ h with ⟨hc,h⟩|⟨hc,h⟩
 ·refine ct I hc (K_ (cn I (N_ (S_ (W_ (ra I (rn 3 I ?_)))))))
  obtain⟨j,hk,h⟩:=B h
  refine po (AcK hk I I I I I) I I ?_
  obtain⟨more2,hk,h⟩:=B h
  refine po (est aD (v:=x4) hk I I (λ_=>⟨I,I,I⟩) I I I I) I I (O_ (en I (N_ (rn 2 I (O_ (cH.normal ?_))))))
  have hv:=Ok.ok h
  exact bV I I hv
 ·refine cf I hc (X_ (fN.exit (kT.exit (cH.exit (eh I ?_)))))
  cases h
  exact .ok I
 ) _ _ h⟩
instance {n:Int} {a_:Arr}:Ok (yS n a_) λr=>aval X 103 [.d (iZ n),.d (encArr a_)] [] (aE.ret (.tuple [.d (encArr r.1),.d (iZ r.2)]) []):=⟨λ{r} h=>by
 unfold yS at h
 refine kY (tm:=[(0,.d (iZ n)),(1,.d (encArr a_))]) (hp:=[]) (n:=0) I Tryz.func103 I I I I I I (ra (nid':=2) I (S_ (rn 1 I ?_)))
 obtain⟨x,hk,h⟩:=B h
 have hv:=Ok.ok hk
 refine po (nR (hv) I I I I I I I I I) I I (on 1 I (rz (S_ (S_ (rn 3 I ?_)))))
 rcases E_ h with ⟨hc,h⟩|⟨hc,h⟩
 ·refine gt I I I I hc I (on 3 I (rz (ct I I (ra I (R_ (C_ (Q_ ?_)))))))
  cases h
  exact .ret I I
 ·refine gf I I I I hc I (on 3 I (rz ?_))
  rcases E_ h with ⟨hc,h⟩|⟨hc,h⟩
  ·refine ct I hc (ra I (R_ (C_ (Q_ ?_))))
   cases h
   exact .ret I I
  ·refine cf I hc (K_ (cn I (N_ (S_ (drn (m:=12) 6 I I ?_)))))
   obtain⟨have_,hk,h⟩:=B h
   refine pd (mS (D.int .i64) (λ_=>I) hk I I I I I) I I I I I (don 3 I (dz (by kernel_rfl) (S_ (rn 4 I ?_))))
   obtain⟨l,hk,h⟩:=B h
   refine po (Al9 hk I I I I I I) I I ?_
   obtain⟨shape,hk,h⟩:=B h
   refine po (AvQ hk I I I I I I I I I I I I ) I I (on 1 I (rz (S_ (S_ (rn 1 I ?_)))))
   obtain⟨⟨x1,e⟩,hk,h⟩:=B h
   have hv:=Ok.ok hk
   refine po (nR (hv) I I I I I I I I I) I I (on 5 I (rz (ra I ?_)))
   rcases E_ h with ⟨hc,h⟩|⟨hc,h⟩
   ·refine ct I hc (ra I (R_ (C_ (Q_ ?_))))
    cases h
    exact .ret I I
   ·refine cf I hc (K_ (cn I (N_ (S_ (ra I ?_)))))
    rcases E_ h with ⟨hc,h⟩|⟨hc,h⟩
    ·refine ct I hc (S_ (ra I ?_))
     rcases E_ h with ⟨hc,h⟩|⟨hc,h⟩
     ·refine ct I hc (S_ (rn 5 I ?_))
      obtain⟨x2,hk,h⟩:=B h
      have hv:=Ok.ok hk
      refine po (nR (hv) I I I I I I I I I) I I (on 2 I (rz (R_ (C_ (Q_ (C_ (Q_ ?_)))))))
      cases h
      exact .ret I I
     refine cf I hc (K_ (cn I (N_ (S_ (rn 2 I ?_)))))
     obtain⟨x3,hk,h⟩:=B h
     have hv:=Ok.ok hk
     refine po (nR (hv) I I I I I I I I I) I I (on 2 I (rz (R_ (C_ (Q_ ?_)))))
     cases h
     exact .ret I I
    ·refine cf I hc (K_ (cn I (N_ (S_ (rn 1 I ?_)))))
     obtain⟨⟨x4,e1⟩,hk,h⟩:=B h
     have hv:=Ok.ok hk
     refine po (nR (hv) I I I I I I I I I) I I (on (nid':=13) 6 I (rz (S_ (ra I ?_))))
     rcases E_ h with ⟨hc,h⟩|⟨hc,h⟩
     ·refine ct I hc (ra I (R_ (C_ (Q_ ?_))))
      cases h
      exact .ret I I
     ·refine cf I hc (K_ (cn I (N_ (S_ (rn 4 I ?_)))))
      obtain⟨x5,hk,h⟩:=B h
      have hv:=Ok.ok hk
      refine po (nR (hv) I I I I I I I I I) I I (on 1 I ?_)
      obtain⟨more,hk,h⟩:=B h
      refine po (AlA (nid':=14) aD (aA.mk 0 0 []) hk I I I I I I I I I I I I ) I I (on (nid':=14) 1 I (rz (S_ (ra I ?_))))
      obtain⟨more3,hs,h⟩:=B h
      refine gZ (λ(more3:(List aA))=>(⟨[(0,.d (iZ n)),(3,.c (.ptr 0 0)),(4,.c (.ptr 1 0)),(8,.c (.own 1 (List.map (D.int .i64) shape))),(13,.c (.arr 13 (Int.toNat (w64 ((w64 ((if n<(w64 (0-n)) then (w64 (0-n)) else n)-have_))*x5))) 3))],[(13,[.seq 3 (List.map aD more3)]),(12,[.d (iZ x4.kind),.d (iZ x4.n),.d (.list 2 (List.map aW x4.box))]),(1,[oI [],oC []]),(0,[.d (lI x.shape),.d (lC x.cells)])],14,[],none⟩:St)) (y:=more3) ?_ ?_
      ·replace h:=hs
       refine W_ (eC ?_)
       have hv:=Ok.ok h
       exact bV I I hv
      ·refine N_ (S_ (ra I ?_))
       rcases E_ h with ⟨hc,h⟩|⟨hc,h⟩
       ·refine ct I hc (S_ (rnM (tm0:=[(88,.d (.bool (decide (n<0)))),(87,.d (iZ n)),(0,.d (iZ n)),(3,.c (.ptr 0 0)),(4,.c (.ptr 1 0)),(8,.c (.own 1 (List.map (D.int .i64) shape))),(13,.c (.arr 13 (Int.toNat (w64 ((w64 ((if n<(w64 (0-n)) then (w64 (0-n)) else n)-have_))*x5))) 3))]) (hp0:=[(13,[.seq 3 (List.map aD more3)]),(12,[.d (iZ x4.kind),.d (iZ x4.n),.d (.list 2 (List.map aW x4.box))]),(1,[oI [],oC []]),(0,[.d (lI x.shape),.d (lC x.cells)])]) (nid0:=14) I I I (mo (.of λ_=>I) I (λ_=>I) (s2:=⟨[(89,.view (.tmp 8) 1 (List.map (D.int .i64) shape)),(3,.c (.ptr 0 0)),(4,.c (.ptr 1 0)),(8,.c (.own 1 (List.map (D.int .i64) shape))),(13,.c (.arr 13 (Int.toNat (w64 ((w64 ((if n<(w64 (0-n)) then (w64 (0-n)) else n)-have_))*x5))) 3))],[(13,[.seq 3 (List.map aD more3)]),(12,[.d (iZ x4.kind),.d (iZ x4.n),.d (.list 2 (List.map aW x4.box))]),(1,[oI [],oC []]),(0,[.d (lI x.shape),.d (lC x.cells)])],14,[],none⟩) I (mo (.of λ_=>I) I (λ_=>I) (s2:=⟨[(90,.c (.arr 13 (Int.toNat (w64 ((w64 ((if n<(w64 (0-n)) then (w64 (0-n)) else n)-have_))*x5))) 3)),(89,.view (.tmp 8) 1 (List.map (D.int .i64) shape)),(3,.c (.ptr 0 0)),(4,.c (.ptr 1 0)),(8,.c (.own 1 (List.map (D.int .i64) shape))),(13,.c (.arr 13 (Int.toNat (w64 ((w64 ((if n<(w64 (0-n)) then (w64 (0-n)) else n)-have_))*x5))) 3))],[(13,[.seq 3 (List.map aD more3)]),(12,[.d (iZ x4.kind),.d (iZ x4.n),.d (.list 2 (List.map aW x4.box))]),(1,[oI [],oC []]),(0,[.d (lI x.shape),.d (lC x.cells)])],14,[],none⟩) I (mo (.of λ_=>I) I (λ_=>I) (s2:=⟨[(91,.c (.ptr 0 1)),(90,.c (.arr 13 (Int.toNat (w64 ((w64 ((if n<(w64 (0-n)) then (w64 (0-n)) else n)-have_))*x5))) 3)),(89,.view (.tmp 8) 1 (List.map (D.int .i64) shape)),(3,.c (.ptr 0 0)),(4,.c (.ptr 1 0)),(8,.c (.own 1 (List.map (D.int .i64) shape))),(13,.c (.arr 13 (Int.toNat (w64 ((w64 ((if n<(w64 (0-n)) then (w64 (0-n)) else n)-have_))*x5))) 3))],[(13,[.seq 3 (List.map aD more3)]),(12,[.d (iZ x4.kind),.d (iZ x4.n),.d (.list 2 (List.map aW x4.box))]),(1,[oI [],oC []]),(0,[.d (lI x.shape),.d (lC x.cells)])],14,[],none⟩) I (mo (.of λ_=>I) I (λ_=>I) (s2:=⟨[(92,.d (lC x.cells)),(91,.c (.ptr 0 1)),(90,.c (.arr 13 (Int.toNat (w64 ((w64 ((if n<(w64 (0-n)) then (w64 (0-n)) else n)-have_))*x5))) 3)),(89,.view (.tmp 8) 1 (List.map (D.int .i64) shape)),(3,.c (.ptr 0 0)),(4,.c (.ptr 1 0)),(8,.c (.own 1 (List.map (D.int .i64) shape))),(13,.c (.arr 13 (Int.toNat (w64 ((w64 ((if n<(w64 (0-n)) then (w64 (0-n)) else n)-have_))*x5))) 3))],[(13,[.seq 3 (List.map aD more3)]),(12,[.d (iZ x4.kind),.d (iZ x4.n),.d (.list 2 (List.map aW x4.box))]),(1,[oI [],oC []]),(0,[.d (lI x.shape),.d (lC x.cells)])],14,[],none⟩) I ?_))))))
        obtain⟨l1,hkFl1,h⟩:=B h
        obtain⟨l2,hk,h⟩:=B h
        refine ms (BeN aD hk I I I I I I (At4 aD hkFl1 I) I I I I I I I I I ) I (s2:=⟨[(93,.c (.arr 14 (List.length l2) 3)),(92,.d (lC x.cells)),(91,.c (.ptr 0 1)),(90,.c (.arr 13 (Int.toNat (w64 ((w64 ((if n<(w64 (0-n)) then (w64 (0-n)) else n)-have_))*x5))) 3)),(89,.view (.tmp 8) 1 (List.map (D.int .i64) shape)),(3,.c (.ptr 0 0)),(4,.c (.ptr 1 0)),(8,.c (.own 1 (List.map (D.int .i64) shape))),(13,.c (.arr 13 (Int.toNat (w64 ((w64 ((if n<(w64 (0-n)) then (w64 (0-n)) else n)-have_))*x5))) 3))],[(14,[.seq 3 (List.map aD l2)]),(12,[.d (iZ x4.kind),.d (iZ x4.n),.d (.list 2 (List.map aW x4.box))]),(1,[oI [],oC []]),(0,[.d (lI x.shape),.d (lC x.cells)])],15,[],none⟩) I (mo (.of λ_=>I) I (λ_=>I) (s2:=⟨[(94,.vagg [.d (lI shape),.arr 14 (List.length l2) 3]),(93,.c (.arr 14 (List.length l2) 3)),(92,.d (lC x.cells)),(91,.c (.ptr 0 1)),(90,.c (.arr 13 (Int.toNat (w64 ((w64 ((if n<(w64 (0-n)) then (w64 (0-n)) else n)-have_))*x5))) 3)),(89,.view (.tmp 8) 1 (List.map (D.int .i64) shape)),(3,.c (.ptr 0 0)),(4,.c (.ptr 1 0)),(8,.c (.own 1 (List.map (D.int .i64) shape))),(13,.c (.arr 13 (Int.toNat (w64 ((w64 ((if n<(w64 (0-n)) then (w64 (0-n)) else n)-have_))*x5))) 3))],[(14,[.seq 3 (List.map aD l2)]),(12,[.d (iZ x4.kind),.d (iZ x4.n),.d (.list 2 (List.map aW x4.box))]),(1,[oI [],oC []]),(0,[.d (lI x.shape),.d (lC x.cells)])],15,[],none⟩) I (mo (.of λ_=>I) I (λ_=>I) (s2:=⟨[(94,.vagg [.d (lI shape),.arr 14 (List.length l2) 3]),(93,.c (.arr 14 (List.length l2) 3)),(92,.d (lC x.cells)),(91,.c (.ptr 0 1)),(90,.c (.arr 13 (Int.toNat (w64 ((w64 ((if n<(w64 (0-n)) then (w64 (0-n)) else n)-have_))*x5))) 3)),(89,.view (.tmp 8) 1 (List.map (D.int .i64) shape)),(3,.c (.ptr 0 0)),(4,.c (.ptr 1 0)),(8,.c (.own 1 (List.map (D.int .i64) shape))),(13,.c (.arr 13 (Int.toNat (w64 ((w64 ((if n<(w64 (0-n)) then (w64 (0-n)) else n)-have_))*x5))) 3))],[(14,[.seq 3 (List.map aD l2)]),(12,[.d (iZ x4.kind),.d (iZ x4.n),.d (.list 2 (List.map aW x4.box))]),(1,[.d (lI shape),.arr 14 (List.length l2) 3]),(0,[.d (lI x.shape),.d (lC x.cells)])],15,[],none⟩) I (mo (.of λ_=>I) I (λ_=>I) (s2:=⟨[(5,.d (iZ 0)),(94,.vagg [.d (lI shape),.arr 14 (List.length l2) 3]),(93,.c (.arr 14 (List.length l2) 3)),(92,.d (lC x.cells)),(91,.c (.ptr 0 1)),(90,.c (.arr 13 (Int.toNat (w64 ((w64 ((if n<(w64 (0-n)) then (w64 (0-n)) else n)-have_))*x5))) 3)),(89,.view (.tmp 8) 1 (List.map (D.int .i64) shape)),(3,.c (.ptr 0 0)),(4,.c (.ptr 1 0)),(8,.c (.own 1 (List.map (D.int .i64) shape))),(13,.c (.arr 13 (Int.toNat (w64 ((w64 ((if n<(w64 (0-n)) then (w64 (0-n)) else n)-have_))*x5))) 3))],[(14,[.seq 3 (List.map aD l2)]),(12,[.d (iZ x4.kind),.d (iZ x4.n),.d (.list 2 (List.map aW x4.box))]),(1,[.d (lI shape),.arr 14 (List.length l2) 3]),(0,[.d (lI x.shape),.d (lC x.cells)])],15,[],none⟩) I (mz (N_ (R_ (C_ (Q_ ?_))))))))
        cases h
        exact .retF I I (AbP I I I (lQ (iJ aD I (AuY _) I I I) (lQ I AbR)) (AoM AfR)) I
       ·refine cf I hc (K_ (cn I (N_ ?_)))
        obtain⟨more4,hkFmore4,h⟩:=B h
        refine S_ (rnF 4 (tm0:=[(13,.d (lC more4)),(88,.d (.bool (decide (n<0)))),(87,.d (iZ n)),(0,.d (iZ n)),(3,.c (.ptr 0 0)),(4,.c (.ptr 1 0)),(8,.c (.own 1 (List.map (D.int .i64) shape))),(13,.c (.arr 13 (Int.toNat (w64 ((w64 ((if n<(w64 (0-n)) then (w64 (0-n)) else n)-have_))*x5))) 3))]) (hp0:=[(12,[.d (iZ x4.kind),.d (iZ x4.n),.d (.list 2 (List.map aW x4.box))]),(1,[oI [],oC []]),(0,[.d (lI x.shape),.d (lC x.cells)])]) (nid0:=14) (Ai4 I (gT (t:=13) I I I (AtS (AfV aD hkFmore4 I)) I I) I) I ?_)
        obtain⟨l3,hk,h⟩:=B h
        refine po (AvQ hk I I I I I I I I I I I I ) I I (on 1 I ?_)
        obtain⟨l4,hk,h⟩:=B h
        refine po (AvR hk I I I I I I I I I I I I ) I I (on 3 I (rz (R_ ?_)))
        cases h
        exact .ret I I
 ⟩
abbrev Ah0 (r:Arr×Int):aE:=(aE.ret (.tuple [.d (encArr r.1),.d (iZ r.2)]) [])
instance BhE:Jn 46 1 34 (Bool):=⟨λy=>[(34,.d (.bool y))],λy=>[]⟩
instance BhF:Jn 46 1 58 (Bool):=⟨λy=>[(58,.d (.bool y))],λy=>[]⟩
instance BhG:Jn 46 1 68 (Bool):=⟨λy=>[(68,.d (.bool y))],λy=>[]⟩
abbrev AkK (a:Int×Arr×Arr×Int) (res:Except (Arr×Int) (Unit)):Prop:=match a with|(op_,a_,b,x)=>cD X 46 (aN [1,0,1,0,0] (aO Tryz.f46)) (aH (X.H 46 2) 3) (aJ 0 (X.H 46 1000000) 3 (kD X Tryz.f46 0 Ah0 (λ(_:Unit)=>(⟨[(0,.d (iZ op_)),(4,.c (.ptr 0 0)),(5,.c (.ptr 1 0)),(6,.c (.ptr 2 0))],[(2,[oI [],oC []]),(1,[.d (lI b.shape),.d (lC b.cells)]),(0,[.d (lI a_.shape),.d (lC a_.cells)])],3,[],none⟩:St)) res)) ⟨[(0,.d (iZ op_)),(4,.c (.ptr 0 0)),(5,.c (.ptr 1 0)),(6,.c (.ptr 2 0)),(15,.c (.full 2 (List.map aW [a_,b]))),(16,.d (iZ (List.length [a_,b]:Int))),(17,.d (iZ x))],[(2,[oI [],oC []]),(1,[.d (lI b.shape),.d (lC b.cells)]),(0,[.d (lI a_.shape),.d (lC a_.cells)])],3,[],none⟩
instance {a:Int×Arr×Arr×Int}:Ok (qF a) (AkK a):=⟨λh=>qF.partial_correctness AkK (by
 rintro P_ IH ⟨op_,a_,b,x⟩ res h
 have IH:=Ok.mk' IH
 have iE:eP Tryz.f46 0 _ Ah0:=⟨trivial⟩
 refine lg I ?_
 exact Wk) _ _ h⟩
instance {op_:Int} {a_:Arr} {b:Arr}:Ok (AdG op_ a_ b) λr=>aval X 46 [.d (iZ op_),.d (encArr a_),.d (encArr b)] [] (Ah0 r):=⟨λh=>by
 unfold AdG at h
 exact aB Ah0 I Tryz.func46 I I I I I I λiE=>Wk⟩
abbrev AfO (a_1:aA) (r:Bool):aE:=(aE.ret (.d (.bool r)) [[.d (iZ a_1.kind),.d (iZ a_1.n),.d (.list 2 (List.map aW a_1.box))]])
instance {a_:aA} {a_1:aA}:Ok (wS a_ a_1) λr=>aval X 166 [.d (aD a_),.ptr 0 0] [[.d (iZ a_1.kind),.d (iZ a_1.n),.d (.list 2 (List.map aW a_1.box))]] ((AfO a_1) r):=⟨λh=>by
 unfold wS at h
 exact aB (AfO a_1) I Tryz.func166 I I I I I I λiE=>Wk⟩
abbrev dZ (b:aA) (r:Int):aE:=(aE.ret (.d (iZ r)) [[.d (iZ b.kind),.d (iZ b.n),.d (.list 2 (List.map aW b.box))]])
abbrev jS (a:(List aA)×aA×Int) (res:Except (Int) (Unit)):Prop:=match a with|(s,b,x)=>cD X 165 (aN [1,0,1,0,0] (aO Tryz.f165)) (aH (X.H 165 2) 1) (aJ 0 (X.H 165 1000000) 1 (kD X Tryz.f165 1 (dZ b) (λ(_:Unit)=>(⟨[],[(0,[.d (iZ b.kind),.d (iZ b.n),.d (.list 2 (List.map aW b.box))])],1,[],none⟩:St)) res)) ⟨[(0,.d (lC s)),(1,.c (.fn 166 [0])),(7,.d (iZ (List.length s:Int))),(8,.d (iZ x))],[(0,[.d (iZ b.kind),.d (iZ b.n),.d (.list 2 (List.map aW b.box))])],1,[],none⟩
instance {a:(List aA)×aA×Int}:Ok (bS a) (jS a):=⟨λh=>bS.partial_correctness jS (by
 rintro P_ IH ⟨s,b,x⟩ res h
 have IH:=Ok.mk' IH
 have iE:eP Tryz.f165 1 _ (dZ b):=⟨trivial⟩
 refine lg I ?_
 exact Wk) _ _ h⟩
instance {s:(List aA)} {b:aA}:Ok (eA s b) λr=>aval X 165 [.d (lC s),.fn 166 [0]] [[.d (iZ b.kind),.d (iZ b.n),.d (.list 2 (List.map aW b.box))]] ((dZ b) r):=⟨λh=>by
 unfold eA at h
 exact aB (dZ b) I Tryz.func165 I I I I I I λiE=>Wk⟩
abbrev AjZ (r:Int):aE:=(aE.ret (.d (iZ r)) [])
instance {l:(List aA)} {c:aA}:Ok (sZ l c) λr=>aval X 98 [.d (lC l),.d (aD c)] [] (AjZ r):=⟨λh=>by
 unfold sZ at h
 exact aB AjZ I Tryz.func98 I I I I I I λiE=>Wk⟩
abbrev AkL (a:Arr×Arr×Nat×LI×Int×(List aA)) (res:(List aA)):Prop:=match a with|(a_,b,x,b1,x1,out1)=>cD X 45 (aN [1,1,1,0,1,0,1,0,1,1,0,1,0,0] (aO Tryz.f45)) (aH (X.H 45 11) 5) (aJ 1 (X.H 45 1000001) 5 (iR (λ(out11:(List aA))=>(⟨[(6,.c (.ptr 2 0)),(9,.c (.ptr 3 0))],[(3,[.arr 4 x 1,oC out11]),(2,[oI [],oC []]),(1,[.d (lI b.shape),.d (lC b.cells)]),(0,[.d (lI a_.shape),.d (lC a_.cells)]),(4,[.seq 1 (List.map (D.int .i64) b1)])],5,[],none⟩:St)) res)) ⟨[(4,.c (.ptr 0 0)),(6,.c (.ptr 2 0)),(9,.c (.ptr 3 0)),(37,.d (lC b.cells)),(38,.d (iZ (List.length b.cells:Int))),(39,.d (iZ x1))],[(3,[.arr 4 x 1,oC out1]),(2,[oI [],oC []]),(1,[.d (lI b.shape),.d (lC b.cells)]),(0,[.d (lI a_.shape),.d (lC a_.cells)]),(4,[.seq 1 (List.map (D.int .i64) b1)])],5,[],none⟩
instance {a:Arr×Arr×Nat×LI×Int×(List aA)}:Ok (qH a) (AkL a):=⟨λh=>qH.partial_correctness AkL (by
 rintro P_ IH ⟨a_,b,x,b1,x1,out1⟩ res h
 have IH:=Ok.mk' IH
 refine lg I (ra I (S_ ?_))
 rcases E_ h with ⟨hc,h⟩|⟨hc,h⟩
 ·refine ct I hc (K_ (cn I (N_ (S_ (W_ (S_ (rn 0 I ?_)))))))
  obtain⟨y,hk,h⟩:=B h
  refine po (mS aD (λ_=>I) hk I I I I I) I I (on (nid':=6) 3 I (rz (drn (m:=17) 5 I I ?_)))
  obtain⟨x2,hk,h⟩:=B h
  have hv:=Ok.ok hk
  refine pd (nR (hv) I I I I I I I I I) I I I I I (don 2 I ?_)
  obtain⟨l,hk,h⟩:=B h
  refine pd (AfP hk I I I I I I I I I I I I I I ) I I I I I (don 2 I (dz' (by kernel_rfl) (en I (N_ (rn 2 I (O_ (cH.normal ?_)))))))
  have hv:=Ok.ok h
  exact bV I I hv
 ·refine cf I hc (X_ (fN.exit (kT.exit (cH.exit (eh I ?_)))))
  cases h
  exact .ok I
 ) _ _ h⟩
abbrev AkM (a:Arr×Arr×Nat×LI×Int×(List aA)) (res:(List aA)):Prop:=match a with|(a_,b,x3,b2,x4,out12)=>cD X 45 (aN [1,1,1,0,1,0,1,1,1,0,1,0,1,0,0] (aO Tryz.f45)) (aH (X.H 45 19) 5) (aJ 3 (X.H 45 1000003) 5 (iR (λ(out13:(List aA))=>(⟨[(6,.c (.ptr 2 0)),(9,.c (.ptr 3 0))],[(3,[.arr 4 x3 1,oC out13]),(2,[oI [],oC []]),(1,[.d (lI b.shape),.d (lC b.cells)]),(0,[.d (lI a_.shape),.d (lC a_.cells)]),(4,[.seq 1 (List.map (D.int .i64) b2)])],5,[],none⟩:St)) res)) ⟨[(5,.c (.ptr 1 0)),(6,.c (.ptr 2 0)),(9,.c (.ptr 3 0)),(62,.d (lC a_.cells)),(63,.d (iZ (List.length a_.cells:Int))),(64,.d (iZ x4))],[(3,[.arr 4 x3 1,oC out12]),(2,[oI [],oC []]),(1,[.d (lI b.shape),.d (lC b.cells)]),(0,[.d (lI a_.shape),.d (lC a_.cells)]),(4,[.seq 1 (List.map (D.int .i64) b2)])],5,[],none⟩
instance {a:Arr×Arr×Nat×LI×Int×(List aA)}:Ok (qI a) (AkM a):=⟨λh=>qI.partial_correctness AkM (by
 rintro P_ IH ⟨a_,b,x3,b2,x4,out12⟩ res h
 have IH:=Ok.mk' IH
 refine lg I (ra I (S_ ?_))
 rcases E_ h with ⟨hc,h⟩|⟨hc,h⟩
 ·refine ct I hc (K_ (cn I (N_ (S_ (W_ (S_ (rn 0 I ?_)))))))
  obtain⟨y1,hk,h⟩:=B h
  refine po (mS aD (λ_=>I) hk I I I I I) I I (on (nid':=6) 3 I (rz (ra I (S_ (S_ (drn (m:=14) 3 I I ?_))))))
  obtain⟨x5,hk,h⟩:=B h
  have hv:=Ok.ok hk
  refine pd (nR (hv) I I I I I I I I I) I I I I I (don 2 I (pd (mT I I I I I I I) I I I I I (don 1 I (dz (by kernel_rfl) ?_))))
  obtain⟨n,hs,h⟩:=B h
  refine gZ (λ(n:Int)=>(⟨[(5,.c (.ptr 1 0)),(6,.c (.ptr 2 0)),(9,.c (.ptr 3 0)),(14,.d (iZ n)),(62,.d (lC a_.cells)),(63,.d (iZ (List.length a_.cells:Int))),(64,.d (iZ x4))],[(5,[.d (iZ y1.kind),.d (iZ y1.n),.d (.list 2 (List.map aW y1.box))]),(3,[.arr 4 x3 1,oC out12]),(2,[oI [],oC []]),(1,[.d (lI b.shape),.d (lC b.cells)]),(0,[.d (lI a_.shape),.d (lC a_.cells)]),(4,[.seq 1 (List.map (D.int .i64) b2)])],14,[],none⟩:St)) (y:=n) ?_ ?_
  ·replace h:=hs
   rcases E_ h with ⟨hc,h⟩|⟨hc,h⟩
   ·refine ct I hc (rn 1 I (O_ (cn I ?_)))
    cases h
    exact .ok I
   refine cf I hc (K_ (cn I ?_))
   cases h
   exact .ok I
  refine N_ (rn 5 I ?_)
  obtain⟨l1,hk,h⟩:=B h
  refine po (AfP hk I I I I I I I I I I I I I I ) I I (on 2 I (O_ (en I (N_ (rn 2 I (O_ (cH.normal ?_)))))))
  have hv:=Ok.ok h
  exact bV I I hv
 ·refine cf I hc (X_ (fN.exit (kT.exit (cH.exit (eh I ?_)))))
  cases h
  exact .ok I
 ) _ _ h⟩
instance {op_:Int} {a_:Arr} {b:Arr}:Ok (Aa8 op_ a_ b) λr=>aval X 45 [.d (iZ op_),.d (encArr a_),.d (encArr b)] [] (aE.ret (.tuple [.d (encArr r.1),.d (iZ r.2)]) []):=⟨λ{r} h=>by
 unfold Aa8 at h
 refine kY (tm:=[(0,.d (iZ op_)),(1,.d (encArr a_)),(2,.d (encArr b))]) (hp:=[]) (n:=0) I Tryz.func45 I I I I I I (ra (nid':=3) I (S_ (S_ (rn 2 I (po (Bi6 (show V.c (.full 2 [encArr a_,encArr b])=V.c (.full 2 (List.map aW [a_,b])) from by simp only[List.map_cons,List.map_nil,pX]) (yY I)) I I ?_)))))
 obtain⟨e,hk,h⟩:=B h
 have hv:=Ok.ok hk
 refine po (nR (hv) I I I I I I I I I) I I (on 1 I (rz (ra I ?_)))
 rcases E_ h with ⟨hc,h⟩|⟨hc,h⟩
 ·refine ct I hc (ra I (R_ (C_ (Q_ ?_))))
  cases h
  exact .ret I I
 ·refine cf I hc (K_ (cn I (N_ (ra (nid':=4) I (S_ (ra I (W_ (ra I ?_))))))))
  rcases E_ h with ⟨hc,h⟩|⟨hc,h⟩
  ·refine ct I hc (S_ (S_ (rn 2 I (po (mT I I I I I I I) I I (on 1 I (rz ?_))))))
   rcases E_ h with ⟨hc,h⟩|⟨hc,h⟩
   ·refine ct I hc (ra I (R_ (C_ (Q_ (C_ (aJ.ret (Q_ ?_)))))))
    cases h
    exact .ret I I
   refine cf I hc (K_ (cn I (N_ (S_ (rn 2 I ?_)))))
   obtain⟨⟨x,b1⟩,hk,h⟩:=B h
   have hv:=Ok.ok hk
   refine po (AfQ (nid':=5) (hv) I I I I I I I I I I I I) I I (on (nid':=5) 2 I (rz (S_ (S_ (rn 2 I (po (mT I I I I I I I) I I (on 1 I (rz ?_))))))))
   obtain⟨out11,hs,h⟩:=B h
   refine gZ (λ(out11:(List aA))=>(⟨[(6,.c (.ptr 2 0)),(9,.c (.ptr 3 0))],[(3,[.arr 4 x 1,oC out11]),(2,[oI [],oC []]),(1,[.d (lI b.shape),.d (lC b.cells)]),(0,[.d (lI a_.shape),.d (lC a_.cells)]),(4,[.seq 1 (List.map (D.int .i64) b1)])],5,[],none⟩:St)) (y:=out11) ?_ ?_
   ·replace h:=hs
    refine W_ (eC ?_)
    have hv:=Ok.ok h
    exact bV I I hv
   refine N_ (ra I (R_ (C_ (aJ.ret (Q_ ?_)))))
   obtain⟨shape,hkFshape,h⟩:=B h
   cases h
   exact .retF I I (AbP I I I (lQ I (lQ (iJ (D.int .i64) I hkFshape I I I) AbR)) (AoM AfR)) I
  ·refine cf I hc (ra I ?_)
   rcases E_ h with ⟨hc,h⟩|⟨hc,h⟩
   ·refine ct I hc (S_ (rn 2 I ?_))
    obtain⟨⟨x3,b2⟩,hk,h⟩:=B h
    have hv:=Ok.ok hk
    refine po (AfQ (nid':=5) (hv) I I I I I I I I I I I I) I I (on (nid':=5) 2 I (rz (S_ (S_ (rn 2 I (po (mT I I I I I I I) I I (on 1 I (rz ?_))))))))
    obtain⟨out13,hs,h⟩:=B h
    refine gZ (λ(out13:(List aA))=>(⟨[(6,.c (.ptr 2 0)),(9,.c (.ptr 3 0))],[(3,[.arr 4 x3 1,oC out13]),(2,[oI [],oC []]),(1,[.d (lI b.shape),.d (lC b.cells)]),(0,[.d (lI a_.shape),.d (lC a_.cells)]),(4,[.seq 1 (List.map (D.int .i64) b2)])],5,[],none⟩:St)) (y:=out13) ?_ ?_
    ·replace h:=hs
     refine W_ (eC ?_)
     have hv:=Ok.ok h
     exact bV I I hv
    refine N_ (ra I (R_ (C_ (C_ (aJ.ret (Q_ ?_))))))
    obtain⟨shape1,hkFshape1,h⟩:=B h
    cases h
    exact .retF I I (AbP I I I (lQ I (lQ (iJ (D.int .i64) I hkFshape1 I I I) AbR)) (AoM AfR)) I
   ·refine cf I hc (K_ (cn I (cn I (en I (N_ (ra I (R_ ?_)))))))
    cases h
    exact .ret I I
 ⟩
abbrev ArN (r:Arr×Int):aE:=(aE.ret (.tuple [.d (encArr r.1),.d (iZ r.2)]) [])
instance BhI:Jn 17 0 0 (Unit):=⟨λy=>[],λy=>[]⟩
instance {op_:Int} {a_:Arr} {y:Arr}:Ok (Aa7 op_ a_ y) λr=>aval X 17 [.d (iZ op_),.d (encArr a_),.d (encArr y)] [] (ArN r):=⟨λh=>by
 unfold Aa7 at h
 exact aB ArN I Tryz.func17 I I I I I I λiE=>Wk⟩
abbrev AhZ (r:bZ):aE:=(aE.ret (.d (rA r)) [])
instance {n:Node}:Ok (gX n) λr=>aval X 130 [.d (encNode n)] [] (AhZ r):=⟨λh=>by
 unfold gX at h
 exact aB AhZ I Tryz.func130 I I I I I I λiE=>Wk⟩
abbrev xY (r:Int):aE:=(aE.ret (.d (iZ r)) [])
abbrev xN (a:Arr×Int×aA×Int×Int) (res:Int):Prop:=match a with|(a_,x,y,n1,x1)=>cD X 190 (aN [1,1,0,1,0,0,1,1,0,0,1,1,0,0] (aO Tryz.f190)) (aH (X.H 190 6) 2) (aJ 2 (X.H 190 1000002) 2 (iR (λ(n2:Int)=>(⟨[(3,.d (iZ n2)),(12,.d (lC a_.cells)),(13,.d (iZ (List.length a_.cells:Int))),(14,.d (iZ x))],[(1,[.d (iZ y.kind),.d (iZ y.n),.d (.list 2 (List.map aW y.box))]),(0,[.d (lI a_.shape),.d (lC a_.cells)])],2,[],none⟩:St)) res)) ⟨[(3,.d (iZ n1)),(12,.d (lC a_.cells)),(13,.d (iZ (List.length a_.cells:Int))),(14,.d (iZ x)),(19,.d (.list 2 (List.map aW y.box))),(20,.d (iZ (List.length y.box:Int))),(21,.d (iZ x1))],[(1,[.d (iZ y.kind),.d (iZ y.n),.d (.list 2 (List.map aW y.box))]),(0,[.d (lI a_.shape),.d (lC a_.cells)])],2,[],none⟩
abbrev xM (a:Arr×Int×Int) (res:Int):Prop:=match a with|(a_,n,x)=>cD X 190 (aN [1,1,0,1,0,0] (aO Tryz.f190)) (aH (X.H 190 3) 1) (aJ 0 (X.H 190 1000000) 1 (iR (λ(n3:Int)=>(⟨[(3,.d (iZ n3))],[(0,[.d (lI a_.shape),.d (lC a_.cells)])],1,[],none⟩:St)) res)) ⟨[(3,.d (iZ n)),(12,.d (lC a_.cells)),(13,.d (iZ (List.length a_.cells:Int))),(14,.d (iZ x))],[(0,[.d (lI a_.shape),.d (lC a_.cells)])],1,[],none⟩
abbrev AcQ (a:Arr) (res:Int):Prop:=match a with|a_=>aval X 190 [.d (encArr a_)] [] (xY res)
theorem sF:(∀a res,iN a=some res->xN a res)/\(∀a res,kH a=some res->AcQ a res)/\(∀a res,p_meter_Cells_l0 a=some res->xM a res):=by
 refine iN.mutual_partial_correctness (motive_1:=xN) (motive_2:=AcQ) (motive_3:=xM) ?_ ?_ ?_
 ·rintro P0 P1 I0 I1 ⟨a_,x,y,n1,x1⟩ res h
  have I0:=Ok.mk' I0
  have I1:=Ok.mk' I1
  refine lg I ?_
  have iE:eP Tryz.f190 0 _ xY:=⟨trivial⟩
  exact Wk
 ·rintro P0 I0 a_ res h
  have I0:=Ok.mk' I0
  exact aB xY I Tryz.func190 I I I I I I λiE=>Wk
 rintro P0 P1 I0 I1 ⟨a_,n,x⟩ res h
 have I0:=Ok.mk' I0
 have I1:=Ok.mk' I1
 refine lg I ?_
 have iE:eP Tryz.f190 0 _ xY:=⟨trivial⟩
 exact Wk
instance {a:Arr×Int×aA×Int×Int}:Ok (iN a) (xN a):=⟨λh=>sF.1 a _ h⟩
instance {a:Arr}:Ok (kH a) (AcQ a):=⟨λh=>sF.2.1 a _ h⟩
instance {a:Arr×Int×Int}:Ok (p_meter_Cells_l0 a) (xM a):=⟨λh=>sF.2.2 a _ h⟩
abbrev AaM (m:aF) (r:Int):aE:=(aE.ret (.d (iZ r)) [[.d (iZ m.fuel.left),.d (iZ m.fuel.used),.d (iZ m.cells)]])
instance {a_:Arr} {m:aF}:Ok (qD a_ m) λr=>aval X 128 [.ptr 0 0,.d (encArr a_)] [[.d (iZ m.fuel.left),.d (iZ m.fuel.used),.d (iZ m.cells)]] ((AaM m) r):=⟨λh=>by
 unfold qD at h
 exact aB (AaM m) I Tryz.func128 I I I I I I λiE=>Wk⟩
abbrev AaQ (names:(List Str)) (vals:(List Arr)) (b:aF) (r:Arr×Int):aE:=(aE.ret (.tuple [.d (encArr r.1),.d (iZ r.2)]) [[.ptr 1 0,.d (lS names),.d (.list 2 (List.map aW vals))],[.d (iZ b.fuel.left),.d (iZ b.fuel.used),.d (iZ b.cells)]])
instance AwK:Jn 56 1 9 (Int):=⟨λy=>[(2,.d (iZ y))],λy=>[]⟩
instance {a_:Arr} {e:Int} {names:(List Str)} {vals:(List Arr)} {b:aF}:Ok (aT a_ e names vals b) λr=>aval X 56 [.ptr 0 0,.d (encArr a_),.d (iZ e)] [[.ptr 1 0,.d (lS names),.d (.list 2 (List.map aW vals))],[.d (iZ b.fuel.left),.d (iZ b.fuel.used),.d (iZ b.cells)]] ((AaQ names vals b) r):=⟨λh=>by
 unfold aT at h
 exact aB (AaQ names vals b) I Tryz.func56 I I I I I I λiE=>Wk⟩
abbrev pW (names:(List Str)) (vals:(List Arr)) (b:aF) (r:Arr×Int):aE:=(aE.ret (.tuple [.d (encArr r.1),.d (iZ r.2)]) [[.ptr 1 0,.d (lS names),.d (.list 2 (List.map aW vals))],[.d (iZ b.fuel.left),.d (iZ b.fuel.used),.d (iZ b.cells)]])
instance AwL:Jn 57 0 1 (Unit):=⟨λy=>[],λy=>[]⟩
abbrev xD (a:Str×(List Str)×(List Arr)×aF×Int) (res:Except (Arr×Int) (Unit)):Prop:=match a with|(s,names,vals,b,x)=>cD X 57 (aN [1,0,1,0,0] (aO Tryz.f57)) (aH (X.H 57 2) 3) (aJ 0 (X.H 57 1000000) 3 (kD X Tryz.f57 2 (pW names vals b) (λ(_:Unit)=>(⟨[(4,.c (.ptr 2 0))],[(2,[oI [],oC []]),(0,[.ptr 1 0,.d (lS names),.d (.list 2 (List.map aW vals))]),(1,[.d (iZ b.fuel.left),.d (iZ b.fuel.used),.d (iZ b.cells)])],3,[],none⟩:St)) res)) ⟨[(0,.c (.ptr 0 0)),(1,.d (.str s)),(4,.c (.ptr 2 0)),(12,.d (lS names)),(13,.d (iZ (List.length names:Int))),(14,.d (iZ x))],[(2,[oI [],oC []]),(0,[.ptr 1 0,.d (lS names),.d (.list 2 (List.map aW vals))]),(1,[.d (iZ b.fuel.left),.d (iZ b.fuel.used),.d (iZ b.cells)])],3,[],none⟩
instance {a:Str×(List Str)×(List Arr)×aF×Int}:Ok (p_run_machine_name_l0 a) (xD a):=⟨λh=>p_run_machine_name_l0.partial_correctness xD (by
 rintro P_ IH ⟨s,names,vals,b,x⟩ res h
 have IH:=Ok.mk' IH
 have iE:eP Tryz.f57 2 _ (pW names vals b):=⟨trivial⟩
 refine lg I ?_
 exact Wk) _ _ h⟩
instance {s:Str} {names:(List Str)} {vals:(List Arr)} {b:aF}:Ok (cK s names vals b) λr=>aval X 57 [.ptr 0 0,.d (.str s)] [[.ptr 1 0,.d (lS names),.d (.list 2 (List.map aW vals))],[.d (iZ b.fuel.left),.d (iZ b.fuel.used),.d (iZ b.cells)]] ((pW names vals b) r):=⟨λh=>by
 unfold cK at h
 exact aB (pW names vals b) I Tryz.func57 I I I I I I λiE=>Wk⟩
abbrev AaP (names:(List Str)) (vals:(List Arr)) (b:aF) (r:Arr×Int×Int×Int):aE:=(aE.ret (.tuple [.d (encArr r.1),.d (iZ r.2.1)]) [[.ptr 1 0,.d (lS names),.d (.list 2 (List.map aW vals))],[.d (iZ r.2.2.1),.d (iZ r.2.2.2),.d (iZ b.cells)]])
abbrev rM (names:(List Str)) (vals:(List Arr)) (b:aF) (r:Arr×Int×Int×Int):aE:=(aE.ret (.tuple [.d (encArr r.1),.d (iZ r.2.1)]) [[.ptr 1 0,.d (lS names),.d (.list 2 (List.map aW vals))],[.d (iZ r.2.2.1),.d (iZ r.2.2.2),.d (iZ b.cells)]])
instance Ay1:Jn 58 1 58 (Bool):=⟨λy=>[(58,.d (.bool y))],λy=>[]⟩
instance Ay2:Jn 58 1 77 (Bool):=⟨λy=>[(77,.d (.bool y))],λy=>[]⟩
abbrev AbO (names:(List Str)) (vals:(List Arr)) (b:aF) (r:Arr×Int×Int×Int):aE:=(aE.ret (.tuple [.d (encArr r.1),.d (iZ r.2.1)]) [[.ptr 1 0,.d (lS names),.d (.list 2 (List.map aW vals))],[.d (iZ r.2.2.1),.d (iZ r.2.2.2),.d (iZ b.cells)]])
abbrev uT (a:Node×pA×(List Str)×(List Arr)×aF) (res:Arr×Int×Int×Int):Prop:=match a with|(n,a_,names,vals,b)=>aval X 30 [.ptr 0 0,.d (encNode n),.d (AvV a_)] [[.ptr 1 0,.d (lS names),.d (.list 2 (List.map aW vals))],[.d (iZ b.fuel.left),.d (iZ b.fuel.used),.d (iZ b.cells)]] ((AaP names vals b) res)
abbrev rU (a:Node×(List Str)×(List Arr)×aF×Int×LI×(List aA)×Int×Int) (res:Except (Arr×Int×Int×Int) (LI×(List aA)×Int×Int)):Prop:=match a with|(f,names,vals,b,x20,x0,x110,c0,c1)=>cD X 58 (aN [1,1,1,0,1,0,0] (aO Tryz.f58)) (aH (X.H 58 18) 5) (aJ 1 (X.H 58 1000001) 5 (kD X Tryz.f58 2 (rM names vals b) (λ((x01,x111,c01,c11):LI×(List aA)×Int×Int)=>(⟨[(5,.c (.ptr 3 0)),(6,.c (.ptr 4 0))],[(4,[oI [],oC []]),(3,[.d (lI x01),.d (lC x111)]),(2,[.d (iZ f.kind),.d (iZ f.op_),.d (.str f.name),.d (lI f.lit.shape),.d (lC f.lit.cells),.d (lN f.kids),.d (iZ f.at_)]),(0,[.ptr 1 0,.d (lS names),.d (.list 2 (List.map aW vals))]),(1,[.d (iZ c01),.d (iZ c11),.d (iZ b.cells)])],5,[],none⟩:St)) res)) ⟨[(0,.c (.ptr 0 0)),(4,.c (.ptr 2 0)),(5,.c (.ptr 3 0)),(6,.c (.ptr 4 0)),(97,.d (iZ f.op_)),(98,.d (iZ x20))],[(4,[oI [],oC []]),(3,[.d (lI x0),.d (lC x110)]),(2,[.d (iZ f.kind),.d (iZ f.op_),.d (.str f.name),.d (lI f.lit.shape),.d (lC f.lit.cells),.d (lN f.kids),.d (iZ f.at_)]),(0,[.ptr 1 0,.d (lS names),.d (.list 2 (List.map aW vals))]),(1,[.d (iZ c0),.d (iZ c1),.d (iZ b.cells)])],5,[],none⟩
abbrev wJ (a:Node×Arr×(List Str)×(List Arr)×aF) (res:Arr×Int×Int×Int):Prop:=match a with|(f,a_,names,vals,b)=>aval X 58 [.ptr 0 0,.d (encNode f),.d (encArr a_)] [[.ptr 1 0,.d (lS names),.d (.list 2 (List.map aW vals))],[.d (iZ b.fuel.left),.d (iZ b.fuel.used),.d (iZ b.cells)]] ((rM names vals b) res)
abbrev wK (a:Node×Arr×Arr×(List Str)×(List Arr)×aF) (res:Arr×Int×Int×Int):Prop:=match a with|(f,a_,y,names,vals,b)=>aval X 59 [.ptr 0 0,.d (encNode f),.d (encArr a_),.d (encArr y)] [[.ptr 1 0,.d (lS names),.d (.list 2 (List.map aW vals))],[.d (iZ b.fuel.left),.d (iZ b.fuel.used),.d (iZ b.cells)]] ((AbO names vals b) res)
theorem mD:(∀a res,aI a=some res->uT a res)/\(∀a res,bD a=some res->wK a res)/\(∀a res,aZ a=some res->wJ a res)/\(∀a res,bP a=some res->rU a res):=by
 refine aI.mutual_partial_correctness (motive_1:=uT) (motive_2:=wK) (motive_3:=wJ) (motive_4:=rU) ?_ ?_ ?_ ?_
 ·rintro P0 P1 P2 I0 I1 I2 ⟨n,a_,names,vals,b⟩ res h
  have I0:=Ok.mk' I0
  have I1:=Ok.mk' I1
  have I2:=Ok.mk' I2
  exact aB (AaP names vals b) I Tryz.func30 I I I I I I λiE=>Wk
 ·rintro P0 P1 I0 I1 ⟨f,a_,y,names,vals,b⟩ res h
  have I0:=Ok.mk' I0
  have I1:=Ok.mk' I1
  exact aB (AbO names vals b) I Tryz.func59 I I I I I I λiE=>Wk
 ·rintro P0 P1 P2 I0 I1 I2 ⟨f,a_,names,vals,b⟩ res h
  have I0:=Ok.mk' I0
  have I1:=Ok.mk' I1
  have I2:=Ok.mk' I2
  exact aB (rM names vals b) I Tryz.func58 I I I I I I λiE=>Wk
 rintro P0 P1 I0 I1 ⟨f,names,vals,b,x20,x0,x110,c0,c1⟩ res h
 have I0:=Ok.mk' I0
 have I1:=Ok.mk' I1
 refine lg I ?_
 have iE:eP Tryz.f58 2 _ (rM names vals b):=⟨trivial⟩
 exact Wk
instance {a:Node×pA×(List Str)×(List Arr)×aF}:Ok (aI a) (uT a):=⟨λh=>mD.1 a _ h⟩
instance {a:Node×Arr×Arr×(List Str)×(List Arr)×aF}:Ok (bD a) (wK a):=⟨λh=>mD.2.1 a _ h⟩
instance {a:Node×Arr×(List Str)×(List Arr)×aF}:Ok (aZ a) (wJ a):=⟨λh=>mD.2.2.1 a _ h⟩
instance {a:Node×(List Str)×(List Arr)×aF×Int×LI×(List aA)×Int×Int}:Ok (bP a) (rU a):=⟨λh=>mD.2.2.2 a _ h⟩
abbrev AoL (r:Arr×Int×Int):aE:=(aE.ret (.tuple [.d (encArr r.1),.d (iZ r.2.1),.d (iZ r.2.2)]) [])
instance {env:Env} {n:Node} {fuel:Int} {cells:Int}:Ok (uX env n fuel cells) λr=>aval X 11 [.d (encEnv env),.d (encNode n),.d (iZ fuel),.d (iZ cells)] [] (AoL r):=⟨λh=>by
 unfold uX at h
 exact aB AoL I Tryz.func11 I I I I I I λiE=>Wk⟩
abbrev fT (r:Int):aE:=(aE.ret (.d (iZ r)) [])
abbrev nW (a:Arr×Int×Int×Int×Int×Int) (res:Except (Int) (Int)):Prop:=match a with|(a_,most,deep,i,n1,k)=>cD X 37 (aN [1,1,0,1,0,0,1,0,0,1,0,0] (aO Tryz.f37)) (aH (X.H 37 6) 1) (aJ 2 (X.H 37 1000002) 1 (kD X Tryz.f37 0 fT (λ(n2:Int)=>(⟨[(1,.d (iZ most)),(2,.d (iZ deep)),(3,.c (.ptr 0 0)),(7,.d (iZ n2)),(8,.d (iZ i))],[(0,[.d (lI a_.shape),.d (lC a_.cells)])],1,[],none⟩:St)) res)) ⟨[(1,.d (iZ most)),(2,.d (iZ deep)),(3,.c (.ptr 0 0)),(7,.d (iZ n1)),(8,.d (iZ i)),(9,.d (iZ k))],[(0,[.d (lI a_.shape),.d (lC a_.cells)])],1,[],none⟩
abbrev nV (a:Arr×Int×Int×Int×Int) (res:Except (Int) (Int)):Prop:=match a with|(a_,most,deep,n,i)=>cD X 37 (aN [1,1,0,1,0,0] (aO Tryz.f37)) (aH (X.H 37 3) 1) (aJ 0 (X.H 37 1000000) 1 (kD X Tryz.f37 0 fT (λ(n3:Int)=>(⟨[(7,.d (iZ n3))],[(0,[.d (lI a_.shape),.d (lC a_.cells)])],1,[],none⟩:St)) res)) ⟨[(1,.d (iZ most)),(2,.d (iZ deep)),(3,.c (.ptr 0 0)),(7,.d (iZ n)),(8,.d (iZ i))],[(0,[.d (lI a_.shape),.d (lC a_.cells)])],1,[],none⟩
abbrev qB (a:Arr×Int×Int) (res:Int):Prop:=match a with|(a_,most,deep)=>aval X 37 [.d (encArr a_),.d (iZ most),.d (iZ deep)] [] (fT res)
theorem kS:(∀a res,cS a=some res->nW a res)/\(∀a res,cY a=some res->qB a res)/\(∀a res,p_triglyphref03_weight_l0 a=some res->nV a res):=by
 refine cS.mutual_partial_correctness (motive_1:=nW) (motive_2:=qB) (motive_3:=nV) ?_ ?_ ?_
 ·rintro P0 P1 I0 I1 ⟨a_,most,deep,i,n1,k⟩ res h
  have I0:=Ok.mk' I0
  have I1:=Ok.mk' I1
  refine lg I ?_
  have iE:eP Tryz.f37 0 _ fT:=⟨trivial⟩
  exact Wk
 ·rintro P0 I0 ⟨a_,most,deep⟩ res h
  have I0:=Ok.mk' I0
  exact aB fT I Tryz.func37 I I I I I I λiE=>Wk
 rintro P0 P1 I0 I1 ⟨a_,most,deep,n,i⟩ res h
 have I0:=Ok.mk' I0
 have I1:=Ok.mk' I1
 refine lg I ?_
 have iE:eP Tryz.f37 0 _ fT:=⟨trivial⟩
 exact Wk
instance {a:Arr×Int×Int×Int×Int×Int}:Ok (cS a) (nW a):=⟨λh=>kS.1 a _ h⟩
instance {a:Arr×Int×Int}:Ok (cY a) (qB a):=⟨λh=>kS.2.1 a _ h⟩
instance {a:Arr×Int×Int×Int×Int}:Ok (p_triglyphref03_weight_l0 a) (nV a):=⟨λh=>kS.2.2 a _ h⟩
abbrev vX (r:Int):aE:=(aE.ret (.d (iZ r)) [])
instance {a_:Arr} {most:Int}:Ok (eX a_ most) λr=>aval X 14 [.d (encArr a_),.d (iZ most)] [] (vX r):=⟨λh=>by
 unfold eX at h
 exact aB vX I Tryz.func14 I I I I I I λiE=>Wk⟩
abbrev mB (r:Int):aE:=(aE.ret (.d (iZ r)) [])
abbrev nX (a:Node×Int×Int×Int×Int) (res:Except (Int) (Int)):Prop:=match a with|(n,most,deep,k,i)=>cD X 53 (aN [1,1,0,1,0,0] (aO Tryz.f53)) (aH (X.H 53 3) 1) (aJ 0 (X.H 53 1000000) 1 (kD X Tryz.f53 0 mB (λ(k1:Int)=>(⟨[(7,.d (iZ k1))],[(0,[.d (iZ n.kind),.d (iZ n.op_),.d (.str n.name),.d (lI n.lit.shape),.d (lC n.lit.cells),.d (lN n.kids),.d (iZ n.at_)])],1,[],none⟩:St)) res)) ⟨[(1,.d (iZ most)),(2,.d (iZ deep)),(3,.c (.ptr 0 0)),(7,.d (iZ k)),(8,.d (iZ i))],[(0,[.d (iZ n.kind),.d (iZ n.op_),.d (.str n.name),.d (lI n.lit.shape),.d (lC n.lit.cells),.d (lN n.kids),.d (iZ n.at_)])],1,[],none⟩
abbrev qC (a:Node×Int×Int) (res:Int):Prop:=match a with|(n,most,deep)=>aval X 53 [.d (encNode n),.d (iZ most),.d (iZ deep)] [] (mB res)
theorem pU:(∀a res,cT a=some res->nX a res)/\(∀a res,dU a=some res->qC a res):=by
 refine cT.mutual_partial_correctness (motive_1:=nX) (motive_2:=qC) ?_ ?_
 ·rintro P0 P1 I0 I1 ⟨n,most,deep,k,i⟩ res h
  have I0:=Ok.mk' I0
  have I1:=Ok.mk' I1
  refine lg I ?_
  have iE:eP Tryz.f53 0 _ mB:=⟨trivial⟩
  exact Wk
 rintro P0 I0 ⟨n,most,deep⟩ res h
 have I0:=Ok.mk' I0
 exact aB mB I Tryz.func53 I I I I I I λiE=>Wk
instance {a:Node×Int×Int×Int×Int}:Ok (cT a) (nX a):=⟨λh=>pU.1 a _ h⟩
instance {a:Node×Int×Int}:Ok (dU a) (qC a):=⟨λh=>pU.2 a _ h⟩
abbrev vY (r:Int):aE:=(aE.ret (.d (iZ r)) [])
instance {n:Node} {most:Int}:Ok (mE n most) λr=>aval X 21 [.d (encNode n),.d (iZ most)] [] (vY r):=⟨λh=>by
 unfold mE at h
 exact aB vY I Tryz.func21 I I I I I I λiE=>Wk⟩
abbrev rD (r:Int):aE:=(aE.ret (.d (iZ r)) [])
abbrev tU (a:Env×Node×Int×Int) (res:Int):Prop:=match a with|(env,n,w,i)=>cD X 9 (aN [1,1,1,0,1,0,0] (aO Tryz.f9)) (aH (X.H 9 5) 2) (aJ 0 (X.H 9 1000000) 2 (iR (λ(w1:Int)=>(⟨[(9,.d (iZ w1))],[(1,[.d (iZ n.kind),.d (iZ n.op_),.d (.str n.name),.d (lI n.lit.shape),.d (lC n.lit.cells),.d (lN n.kids),.d (iZ n.at_)]),(0,[.d (lS env.names),.d (.list 2 (List.map aW env.vals))])],2,[],none⟩:St)) res)) ⟨[(4,.c (.ptr 0 0)),(9,.d (iZ w)),(10,.d (iZ i))],[(1,[.d (iZ n.kind),.d (iZ n.op_),.d (.str n.name),.d (lI n.lit.shape),.d (lC n.lit.cells),.d (lN n.kids),.d (iZ n.at_)]),(0,[.d (lS env.names),.d (.list 2 (List.map aW env.vals))])],2,[],none⟩
instance {a:Env×Node×Int×Int}:Ok (dW a) (tU a):=⟨λh=>dW.partial_correctness tU (by
 rintro P_ IH ⟨env,n,w,i⟩ res h
 have IH:=Ok.mk' IH
 have iE:eP Tryz.f9 0 _ rD:=⟨trivial⟩
 refine lg I ?_
 exact Wk) _ _ h⟩
instance {env:Env} {n:Node} {fuel:Int} {cells:Int}:Ok (jU env n fuel cells) λr=>aval X 9 [.d (encEnv env),.d (encNode n),.d (iZ fuel),.d (iZ cells)] [] (rD r):=⟨λh=>by
 unfold jU at h
 exact aB rD I Tryz.func9 I I I I I I λiE=>Wk⟩
abbrev gI (r:Bool):aE:=(aE.ret (.d (.bool r)) [])
abbrev oL (a:Node×Str×Int) (res:Except (Bool) (Unit)):Prop:=match a with|(n,s,i)=>cD X 20 (aN [1,1,0,1,0,0] (aO Tryz.f20)) (aH (X.H 20 4) 1) (aJ 0 (X.H 20 1000000) 1 (kD X Tryz.f20 0 gI (λ(_:Unit)=>(⟨[],[(0,[.d (iZ n.kind),.d (iZ n.op_),.d (.str n.name),.d (lI n.lit.shape),.d (lC n.lit.cells),.d (lN n.kids),.d (iZ n.at_)])],1,[],none⟩:St)) res)) ⟨[(1,.d (.str s)),(2,.c (.ptr 0 0)),(5,.d (iZ i))],[(0,[.d (iZ n.kind),.d (iZ n.op_),.d (.str n.name),.d (lI n.lit.shape),.d (lC n.lit.cells),.d (lN n.kids),.d (iZ n.at_)])],1,[],none⟩
abbrev oM (a:Node×Str×Int) (res:Except (Bool) (Unit)):Prop:=match a with|(n,s,i1)=>cD X 20 (aN [1,1,0,1,0,0] (aO Tryz.f20)) (aH (X.H 20 4) 1) (aJ 0 (X.H 20 1000000) 1 (kD X Tryz.f20 0 gI (λ(_:Unit)=>(⟨[],[(0,[.d (iZ n.kind),.d (iZ n.op_),.d (.str n.name),.d (lI n.lit.shape),.d (lC n.lit.cells),.d (lN n.kids),.d (iZ n.at_)])],1,[],none⟩:St)) res)) ⟨[(1,.d (.str s)),(2,.c (.ptr 0 0)),(5,.d (iZ i1))],[(0,[.d (iZ n.kind),.d (iZ n.op_),.d (.str n.name),.d (lI n.lit.shape),.d (lC n.lit.cells),.d (lN n.kids),.d (iZ n.at_)])],1,[],none⟩
abbrev rG (a:Node×Str) (res:Bool):Prop:=match a with|(n,s)=>aval X 20 [.d (encNode n),.d (.str s)] [] (gI res)
theorem lP:(∀a res,dD a=some res->oL a res)/\(∀a res,eK a=some res->rG a res)/\(∀a res,dX a=some res->oM a res):=by
 refine dD.mutual_partial_correctness (motive_1:=oL) (motive_2:=rG) (motive_3:=oM) ?_ ?_ ?_
 ·rintro P0 P1 I0 I1 ⟨n,s,i⟩ res h
  have I0:=Ok.mk' I0
  have I1:=Ok.mk' I1
  refine lg I ?_
  have iE:eP Tryz.f20 0 _ gI:=⟨trivial⟩
  exact Wk
 ·rintro P0 P1 I0 I1 ⟨n,s⟩ res h
  have I0:=Ok.mk' I0
  have I1:=Ok.mk' I1
  exact aB gI I Tryz.func20 I I I I I I λiE=>Wk
 rintro P0 P1 I0 I1 ⟨n,s,i1⟩ res h
 have I0:=Ok.mk' I0
 have I1:=Ok.mk' I1
 refine lg I ?_
 have iE:eP Tryz.f20 0 _ gI:=⟨trivial⟩
 exact Wk
instance {a:Node×Str×Int}:Ok (dD a) (oL a):=⟨λh=>lP.1 a _ h⟩
instance {a:Node×Str}:Ok (eK a) (rG a):=⟨λh=>lP.2.1 a _ h⟩
instance {a:Node×Str×Int}:Ok (dX a) (oM a):=⟨λh=>lP.2.2 a _ h⟩
abbrev yH (r:Int):aE:=(aE.ret (.d (iZ r)) [])
instance {a_:Int} {b:Int}:Ok (p_triglyphref03_ints a_ b) λr=>aval X 69 [.d (iZ a_),.d (iZ b)] [] (yH r):=⟨λh=>by
 unfold p_triglyphref03_ints at h
 exact aB yH I Tryz.func69 I I I I I I λiE=>Wk⟩
abbrev oZ (r:Int):aE:=(aE.ret (.d (iZ r)) [])
instance AuO:Jn 36 1 67 (Int):=⟨λy=>[(5,.d (iZ y))],λy=>[]⟩
abbrev yF (r:Int):aE:=(aE.ret (.d (iZ r)) [])
instance AtZ:Jn 70 1 12 (Int):=⟨λy=>[(5,.d (iZ y))],λy=>[]⟩
instance Au0:Jn 70 1 42 (Int):=⟨λy=>[(5,.d (iZ y))],λy=>[]⟩
abbrev pZ (a:Arr×Arr×Int×Int) (res:Int):Prop:=match a with|(a_,b,o1,i)=>cD X 36 (aN [1,1,0,1,0,0] (aO Tryz.f36)) (aH (X.H 36 3) 2) (aJ 0 (X.H 36 1000000) 2 (iR (λ(o3:Int)=>(⟨[(2,.c (.ptr 0 0)),(3,.c (.ptr 1 0)),(5,.d (iZ o3))],[(1,[.d (lI b.shape),.d (lC b.cells)]),(0,[.d (lI a_.shape),.d (lC a_.cells)])],2,[],none⟩:St)) res)) ⟨[(2,.c (.ptr 0 0)),(3,.c (.ptr 1 0)),(5,.d (iZ o1)),(6,.d (iZ i))],[(1,[.d (lI b.shape),.d (lC b.cells)]),(0,[.d (lI a_.shape),.d (lC a_.cells)])],2,[],none⟩
theorem Ab9:∀a res,cW a=some res->pZ a res:=by
 refine cW.partial_correctness pZ ?_
 rintro P_ IH ⟨a_,b,o1,i⟩ res h
 have IH:=Ok.mk' IH
 refine lg I ?_
 have iE:eP Tryz.f36 0 _ oZ:=⟨trivial⟩
 exact Wk
instance {a:Arr×Arr×Int×Int}:Ok (cW a) (pZ a):=⟨λh=>Ab9 a _ h⟩
abbrev qA (a:Arr×Arr×Int×Int) (res:Int):Prop:=match a with|(a_,b,o4,i1)=>cD X 36 (aN [1,1,1,0,1,0,0] (aO Tryz.f36)) (aH (X.H 36 7) 2) (aJ 2 (X.H 36 1000002) 2 (iR (λ(o6:Int)=>(⟨[(2,.c (.ptr 0 0)),(3,.c (.ptr 1 0)),(5,.d (iZ o6))],[(1,[.d (lI b.shape),.d (lC b.cells)]),(0,[.d (lI a_.shape),.d (lC a_.cells)])],2,[],none⟩:St)) res)) ⟨[(2,.c (.ptr 0 0)),(3,.c (.ptr 1 0)),(5,.d (iZ o4)),(7,.d (iZ i1))],[(1,[.d (lI b.shape),.d (lC b.cells)]),(0,[.d (lI a_.shape),.d (lC a_.cells)])],2,[],none⟩
abbrev tK (a:Arr×Arr) (res:Int):Prop:=match a with|(a_,b)=>aval X 36 [.d (encArr a_),.d (encArr b)] [] (oZ res)
abbrev rV (a:aA×aA) (res:Int):Prop:=match a with|(a_,b)=>aval X 70 [.d (aD a_),.d (aD b)] [] (yF res)
theorem nI:(∀a res,cX a=some res->qA a res)/\(∀a res,iP a=some res->rV a res)/\(∀a res,fE a=some res->tK a res):=by
 refine cX.mutual_partial_correctness (motive_1:=qA) (motive_2:=rV) (motive_3:=tK) ?_ ?_ ?_
 ·rintro P0 P1 I0 I1 ⟨a_,b,o4,i1⟩ res h
  have I0:=Ok.mk' I0
  have I1:=Ok.mk' I1
  refine lg I ?_
  have iE:eP Tryz.f36 0 _ oZ:=⟨trivial⟩
  exact Wk
 ·rintro P0 I0 ⟨a_,b⟩ res h
  have I0:=Ok.mk' I0
  exact aB yF I Tryz.func70 I I I I I I λiE=>Wk
 rintro P0 I0 ⟨a_,b⟩ res h
 have I0:=Ok.mk' I0
 exact aB oZ I Tryz.func36 I I I I I I λiE=>Wk
instance {a:Arr×Arr×Int×Int}:Ok (cX a) (qA a):=⟨λh=>nI.1 a _ h⟩
instance {a:aA×aA}:Ok (iP a) (rV a):=⟨λh=>nI.2.1 a _ h⟩
instance {a:Arr×Arr}:Ok (fE a) (tK a):=⟨λh=>nI.2.2 a _ h⟩
abbrev yG (r:Bool):aE:=(aE.ret (.d (.bool r)) [])
instance {a_:Arr} {b:Arr}:Ok (eS a_ b) λr=>aval X 13 [.d (encArr a_),.d (encArr b)] [] (yG r):=⟨λh=>by
 unfold eS at h
 exact aB yG I Tryz.func13 I I I I I I λiE=>Wk⟩
abbrev tQ (r:Bool):aE:=(aE.ret (.d (.bool r)) [])
instance {env:Env} {n:Node} {fuel:Int} {cells:Int} {other:Str} {v:Arr}:Ok (p_triglyphlaw11_RunNames env n fuel cells other v) λr=>aval X 7 [.d (encEnv env),.d (encNode n),.d (iZ fuel),.d (iZ cells),.d (.str other),.d (encArr v)] [] (tQ r):=⟨λh=>by
 unfold p_triglyphlaw11_RunNames at h
 exact aB tQ I Tryz.func7 I I I I I I λiE=>Wk⟩
end Go.AM.Seat
