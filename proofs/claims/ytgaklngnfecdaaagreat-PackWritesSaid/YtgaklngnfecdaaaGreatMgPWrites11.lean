import Derived.Test.YtgaklngnfecdaaaGreatMgPWrites10
import Derived.Test.YtgaklngnfecdaaaGreatMgPWrites3
import Derived.Test.YtgaklngnfecdaaaGreatMgPWrites9
import Derived.Test.YtgaklngnfecdaaaGreatMgPWrites8
import Derived.Test.YtgaklngnfecdaaaGreatMgPWrites5
set_option linter.unusedSimpArgs false
set_option linter.unusedVariables false
set_option maxRecDepth 100000
set_option maxHeartbeats 1000000
namespace Go.Proofs.YtgaklngnfecdaaaGreat
namespace Pak
open Go.ChangeShapes Go.WideShapes Go.ChangeAt Go.RowKit Go.Deep Zk Zx
section
variable {H : Type} {enc : TypeId × Value → H} {w : World} {base : Nat} {spare : Nat → Bool} {held : Bool}
theorem read_item {fuel:Nat} {cs:List Value} {x:DataW H × List MemPlace} (hlen:cs.length=2) (h:DataW.trod enc Tryz.prog w base spare held fuel 65 cs=some x):∃ o:It,cs=itf o∧o.p.ok w:=by
  obtain ⟨xs,n,_,hx,hl,hlen2,hg⟩:=DataW.trod_struct Tryz.underlying65 h
  have e0:=hg 0 _ Z
  have e1:=hg 1 _ Z
  change DataW.trod enc Tryz.prog w base spare held n 3 ((cs.drop 0).take (Tryz.prog.cellsOf 3))=_ at e0
  change DataW.trod enc Tryz.prog w base spare held n 22 ((cs.drop 1).take (Tryz.prog.cellsOf 22))=_ at e1
  have c3:Tryz.prog.cellsOf 3=1:=by kernel_rfl
  have c22:Tryz.prog.cellsOf 22=1:=by kernel_rfl
  rw [c3] at e0
  rw [c22] at e1
  have hxl:xs.length=2:=hlen2
  match cs,hlen,xs,hxl with
  | [v0,v1],_,[y0,y1],_ =>
    have e0:DataW.trod enc Tryz.prog w base spare held n 3 [v0]=some y0:=e0
    have e1:DataW.trod enc Tryz.prog w base spare held n 22 [v1]=some y1:=e1
    obtain ⟨i0,h0,_,_⟩:=DataW.trod_int Tryz.underlying3 e0
    obtain ⟨A,n,c,l,h1,h2⟩:=ls_ Tryz.underlying22 Tryz.underlying5 (by kernel_rfl) e1
    cases h0
    cases h1
    exact ⟨⟨i0,⟨A,n,c,l⟩⟩,rfl,h2⟩
theorem open_items {r:Reach} {b0:Nat} {v:Value} {d:DataW H} {p:List MemPlace} (hv:Value.okWide Tryz.prog w r b0 48 v) (h:DataW.Trod enc Tryz.prog w base spare held 48 v d p) :
    ∃ A n c,∃ its:List It,v=.slice A n c∧Rs w 2 A n c (its.flatMap itf)∧OkI w its:=by
  obtain ⟨fuel,hf⟩:=h
  obtain ⟨A,n,c,l,h1,h2,h3,_⟩:=read_rowNB itf (fun o=>o.p.ok w) (fun _=>1) 2 Tryz.underlying48 (by kernel_rfl) (by decide) bU_ (fun k cs x hl hx=>by
    obtain ⟨o,ho,h6⟩:=read_item hl hx
    exact ⟨o,ho,h6,bulk_pos _⟩) hf
  exact ⟨A,n,c,l,iZ_ Tryz.underlying48 hv h1,h2,h3⟩
end
end Pak
namespace Del
open Go.RowKit Zk Zx Oct
def ScP (w0 w:World) (A:Option Addr) (c:Nat) (ops:List OP) (R:Res):Prop:=R.holds w∧(∀ i,R.dom i→w0.heap.size≤i∧i < w.heap.size)∧∀ W,R.holds W→Rs W 4 A ops.length c (ops.flatMap opf)∧OkO W ops
theorem scP {w0 w:World} {T:TypeId} {A:Option Addr} {c:Nat} {ops:List OP} {ps:List Part} (hin:InP ops ps) (S:Zx.St w0 noM [row T 4 A ops.length c (ops.flatMap opf),fam (ps.map bE_)] w):∃ R,ScP w0 w A c ops R :=
  ⟨sepL [row T 4 A ops.length c (ops.flatMap opf),fam (ps.map bE_)],S.getAll,(fun i hi=>by obtain ⟨r,hr,hd⟩:=hi;have h:=(S.res r hr).2 i hd;exact ⟨h.2.resolve_right (fun q=>q),h.1⟩),fun W h=>⟨cd_ (h.1 (row T 4 A ops.length c (ops.flatMap opf)) (List.mem_cons_self ..)).1,okO_of hin (h.1 (fam (ps.map bE_)) (List.mem_cons_of_mem _ (List.mem_cons_self ..))).1⟩⟩
theorem rputM {x y:List UInt8} (hx:x.length≤400) (hy:y.length≤400) (A:Option Addr) (c:Nat) (l:List OP) (n m:Nat) (w0:World) (hl:Rs w0 4 A l.length c (l.flatMap opf)) (hok:OkO w0 l) (h1:l.map OP.v=mkV x y) (hn:n=x.length) (hm:m=y.length) :
    Calls Tryz.prog 94 #[.agg (scA (n:Int) (m:Int) A l.length c)] w0 fun e w'=>∃ u,e=.returned u∧Like w0 w'∧∃ A' c',u=.tuple #[.slice A' (bm_ x.length y.length (mkV x y)).length c',.int .i64 0]∧w'.ownsRow w0.heap.size 5 1 (.slice A' (bm_ x.length y.length (mkV x y)).length c') (bm_ x.length y.length (mkV x y)).length (bL (bm_ x.length y.length (mkV x y))):=by
  subst hn hm
  have e1:l.length≤4000:=by have:=mkV_cnt (a:=x) (t:=y);rw [← h1,List.length_map] at this;omega
  have h:=rput A l.length c l (x.length:Int) (y.length:Int) w0 hl hok e1
  rw [h1,ez_ (iD_ (by omega) (by omega))] at h
  exact h
theorem rmakeH (A B:Option Addr) (n c m d:Nat) (a t:List UInt8) (w0:World) (ha:Rs w0 1 A n c (bL a)) (ht:Rs w0 1 B m d (bL t)) (hmx:n≤4000) (hmt:m≤4000) :
    Calls Tryz.prog 93 #[.slice A n c,.slice B m d] w0 fun e w'=>∃ u,e=.returned u∧Like w0 w'∧∃ A' c' ops,∃ R:Res,u=.tuple #[.agg (scA (n:Int) (m:Int) A' ops.length c'),.int .i64 0]∧ScP w0 w' A' c' ops R∧ops.map OP.v=mkV a t:=by
 refine v_ (env:=[(0,.slice A n c),(1,.slice B m d)]) [.slice A n c,.slice B m d] Tryz.func93 Z Tryz.ntmps93 Z Z ?_;have hn:=ha.lenb;have hcap:=ha.cap;have hmax:=ha.max;have hmn:=ht.lenb;have hcap2:=ht.cap;have hmax2:=ht.max;have S0:=St.start w0 noM;refine a_ fun K1 hK1=>b_ (L_o (H_ zz137 S0 Z fun b1 w1 hb1 S1=>Lan Z Z (hK1 _ _ (a_ fun K2 hK2=>a_ fun K3 hK3=>Rm Z Z (L_y (I_ Tryz.underlying22 Z) Z (L_y (Z_ Z Z) Z (Lm Z Z ?_)))))));refine y_ 16 Z (fun h16=>?_) (fun h16=>?_)
 ·
  omega
 ·
  refine d_ Z Z (Lm Z Z (d_ Z Z (L_y (I_ Tryz.underlying22 Z) Z (d_ Z Z (L_y (Z_ Z Z) Z (Lp Z Z Z (f_ (hK3 _ _ ?_))))))));refine o_ Z (fun h20=>?_) (fun h20=>?_)
  ·
   omega
  ·
   refine j_ (hK2 _ _ (a_ fun K4 hK4=>Rm Z Z (L_y (I_ Tryz.underlying22 Z) Z (Lm Z Z (L_y (I_ Tryz.underlying22 Z) Z (L_y (C_ Z (show _=some (scA (n:Int) (m:Int) none 0 0) by kernel_rfl)) Z ?_))))));refine L_o (H_ zz137 S1 Z fun b3 w3 hb3 S3=>L_o (G_ S3 1 Z Z Z fB_ Z (cY_ _ _ _ _ _) fun w4 S4=>f_ (hK4 _ _ (a_ fun K5 hK5=>b_ (have S5:=S4.nilrow 5 1;Lan Z Z (hK5 _ _ (a_ fun K6 hK6=>b_ (Lan Z Z ?_))))))));refine hK6 _ _ (a_ fun K7 hK7=>r_ ?_);refine T_loop8 [(0,_),(1,_),(4,_),(6,_)] (fun (k:Nat) (s0:Nat) (A1:Option Addr) (c1:Nat) (Af:Option Addr) (cf:Nat) (ops:List OP) (ps:List Part)=>[(8,.int .i64 (k:Int)),(7,.slice Af (k - s0) cf)]) (fun (k:Nat) (s0:Nat) (A1:Option Addr) (c1:Nat) (Af:Option Addr) (cf:Nat) (ops:List OP) (ps:List Part)=>m - k) (fun (k:Nat) (s0:Nat) (A1:Option Addr) (c1:Nat) (Af:Option Addr) (cf:Nat) (ops:List OP) (ps:List Part) (w:World)=>(k≤m∧s0≤k∧ops.length≤2*k∧InP ops ps∧MKI a t k s0 ops)∧St w0 noM [blk b1 137 #[.int .i64 0,.int .i64 0,.slice none 0 0],blk b3 137 (scA (n:Int) (m:Int) A1 ops.length c1),row 5 1 Af (k - s0) cf (bL ((t.drop s0).take (k - s0))),row 190 4 A1 ops.length c1 (ops.flatMap opf),fam (ps.map bE_)] w) 0 0 none 0 none 0 [] [] (Sc Z (Sc Z (Sub.nil _))) (Sub.cons Z Z (Sub.cons Z Z (Sub.cons Z Z (Sub.cons Z Z (Sub.nil _))))) ?_ ?_
   ·
    have S9:=((S5.nilrow 190 4).fam0);have S8:=S9.rowc 2 Z (n':=0 - 0) (xs':=bL ((t.drop 0).take (0 - 0))) Z (by simp [bL]);exact ⟨⟨Nat.zero_le _,Nat.le_refl _,Nat.le_refl _,(fun o ho=>(List.not_mem_nil ho).elim),MKI.start a t⟩,S8⟩
   ·
    intro k s0 A1 c1 Af cf ops ps w6 hrel;obtain ⟨⟨hk,hsk,hol,hin,hmk⟩,S6⟩:=hrel;refine a_ fun K8 hK8=>a_ fun K9 hK9=>Rm Z Z (Lm Z Z (L_y (I_ Tryz.underlying22 Z) Z (L_y (L_ Z Z) Z (f_ (hK9 _ _ ?_)))));refine o_ Z (fun h30=>?_) (fun h30=>?_)
    ·
     refine j_ (hK8 _ _ (r_ (a_ fun K10 hK10=>b_ (La Z Z (Lan Z Z (hK10 _ _ (a_ fun K11 hK11=>a_ fun K12 hK12=>b_ (Lan Z Z ?_))))))));refine hK12 _ _ (r_ ?_);refine an_ [(0,_),(1,_),(4,_),(6,_),(7,_),(8,_)] (fun (j:Nat)=>[(11,.int .i64 (j:Int)),(9,.int .i64 ((bstA a (t.drop k) j).1:Int)),(10,.int .i64 ((bstA a (t.drop k) j).2:Int))]) (fun (j:Nat)=>n - j) (fun (j:Nat) (w:World)=>j≤n∧St w0 noM [blk b1 137 #[.int .i64 0,.int .i64 0,.slice none 0 0],blk b3 137 (scA (n:Int) (m:Int) A1 ops.length c1),row 5 1 Af (k - s0) cf (bL ((t.drop s0).take (k - s0))),row 190 4 A1 ops.length c1 (ops.flatMap opf),fam (ps.map bE_)] w) 0 (Sc Z (Sc Z (Sc Z (Sub.nil _)))) (Sub.cons Z Z (Sub.cons Z Z (Sub.cons Z Z (Sub.cons Z Z (Sub.cons Z Z (Sub.cons Z Z (Sub.nil _))))))) ?_ ?_
     ·
      exact ⟨Nat.zero_le _,S6⟩
     ·
      intro j w7 hrel;obtain ⟨hj,S7⟩:=hrel;refine a_ fun K13 hK13=>a_ fun K14 hK14=>Rm Z Z (Lm Z Z (L_y (I_ Tryz.underlying22 Z) Z (L_y (L_ Z Z) Z (f_ (hK14 _ _ ?_)))));refine o_ Z (fun h34=>?_) (fun h34=>?_)
      ·
       refine j_ (hK13 _ _ (a_ fun K15 hK15=>r_ (a_ fun K16 hK16=>Rm Z Z (Lm Z Z (Lm Z Z (Lm Z Z (L_o (n_ Tryz.func124 Z Z (rbegins A B n c m d a t j k w7 (S7.rd ha) (S7.rd ht) (by omega) (by omega)) Z Z ?_))))))));rintro e8 w8 ⟨v8,rfl,l8,rfl⟩;refine ⟨_,rfl,(have S8:=S7.like l8;Lan Z Z (hK16 _ _ (a_ fun K17 hK17=>Rm Z Z (Lm Z Z (L_y (Z_ Z Z) Z (f_ (hK17 _ _ ?_)))))))⟩;refine o_ Z (fun h44=>?_) (fun h44=>?_)
       ·
        refine a_ fun K18 hK18=>Rm Z Z (Lan Z Z (hK18 _ _ (Rm Z Z (Lan Z Z (hK15 _ _ (Rm Z Z (L_y (w_ Z Z (z_ (by omega))) Z ?_)))))));refine Lan Z Z (⟨j+1,by omega,⟨by omega,S8⟩,?_⟩);exact (Sc Z (Sub.cons Z (by rw [gu_];unfold bK_;first | rw [if_pos (by omega)] | rw [if_neg (by omega)]) (Sub.cons Z (by rw [gu_];unfold bK_;first | rw [if_pos (by omega)] | rw [if_neg (by omega)]) (Sub.cons Z Z (Sub.cons Z Z (Sub.cons Z Z (Sub.cons Z Z (Sub.cons Z Z (Sub.cons Z Z (Sub.nil _))))))))))
       ·
        refine j_ (hK15 _ _ (Rm Z Z (L_y (w_ Z Z (z_ (by omega))) Z (Lan Z Z (⟨j+1,by omega,⟨by omega,S8⟩,?_⟩)))));exact (Sc Z (Sub.cons Z (by rw [gu_];unfold bK_;first | rw [if_pos (by omega)] | rw [if_neg (by omega)]) (Sub.cons Z (by rw [gu_];unfold bK_;first | rw [if_pos (by omega)] | rw [if_neg (by omega)]) (Sub.cons Z Z (Sub.cons Z Z (Sub.cons Z Z (Sub.cons Z Z (Sub.cons Z Z (Sub.cons Z Z (Sub.nil _))))))))))
      ·
       have hjn:n=j:=by omega
       subst hjn;have hbd:=bst_bd a (t.drop k);rw [List.length_drop] at hbd;refine K_ (hK11 _ _ (a_ fun K19 hK19=>a_ fun K20 hK20=>Rm Z Z (L_y (L_ Z Z) Z (f_ (hK20 _ _ ?_)))));refine o_ Z (fun h48=>?_) (fun h48=>?_)
       ·
        have hlo:(bstA a (t.drop k) a.length).2 < 6:=by rw [hn];omega
        obtain ⟨x,hx⟩:∃ x,t[k]?=some x:=⟨_,List.getElem?_eq_getElem (by omega)⟩;refine a_ fun K21 hK21=>Rm Z Z (Lm Z Z (Lm Z Z (L_y (T_ Tryz.underlying22 sz5 Z Z (S7.rd ht) (Nt.mk (by omega):Nt _ (k)) (by omega)) Z (L_y (cj_ Tryz.underlying5 Z Z (S7.rd ht) (bL_getX hx)) Z (L_o (ah_ [_] ba_ zz5 S7 Z Z Z Z Z Z Z Z fun b9 w9 S9=>L_o (ay_ ba_ S9 2 Z Z Z (by first | exact S9.row 2 Z | exact S9.row 3 Z | exact S9.fix 4 Z | exact S9.row 5 Z) (by first | exact R_ _ | exact bu_ _ | (intro u hu;simp at hu;subst hu;rfl) | (simp;done) | (simp [Value.oneCell'];done)) Z (by omega) (by omega) fun A10 c10 w10 S10=>?_)))))));have S10d:=S10.drop (rs':=[_,_,_,_,_]) (.cons_cons _ (.cons_cons _ (.cons_cons _ (.cons_cons _ (.cons_cons _ (.cons _ (.refl _)))))));refine Lan Z Z (hK21 _ _ (a_ fun K22 hK22=>Rm Z Z (L_y (w_ Z Z (z_ (by omega))) Z (Lan Z Z (hK22 _ _ (K_ ?_))))));have S91:=S10d.rowc 2 Z (n':=k+1 - s0) (xs':=bL ((t.drop s0).take (k+1 - s0))) (by omega) (by rw [fr_step (by omega) hx, ← iK_];rfl);have S92:=S91.sel [0,1,2,3,4] (by decide);refine ⟨k+1,s0,A1,c1,A10,c10,ops,ps,by omega,⟨⟨by omega,by omega,by omega,hin,hmk.zero (by omega) (relB_lo hlo)⟩,S92⟩,?_⟩;exact (Sc Z (Sub.cons Z (by first | rfl | (congr 1;omega)) (Sub.cons Z Z (Sub.cons Z Z (Sub.cons Z Z (Sub.cons Z Z (Sub.nil _)))))))
       ·
        have hbe:bstA a (t.drop k) n=bst a (t.drop k):=by rw [← hn];exact relB_hi (by rw [hn];omega)
        rw [hbe] at h48;rw [hbe];refine j_ (hK19 _ _ (a_ fun K23 hK23=>a_ fun K24 hK24=>Rm Z Z (L_y (I_ Tryz.underlying22 Z) Z (L_y (Z_ Z Z) Z (f_ (hK24 _ _ ?_))))));refine o_ Z (fun h60=>?_) (fun h60=>?_)
        ·
         refine a_ fun K25 hK25=>b_ (L_y (g_ 2 Tryz.underlying137 Z dH_ Z Z Z) Z (L_y (t_ Tryz.underlying135 Z Z (((S7.blk 1 Z).cell _).trans (by rfl))) Z ?_));refine Lm Z Z (L_y (C_ Z (show _=some (opf (⟨false,0,0,⟨Af,k - s0,cf,((t.drop s0).take (k - s0))⟩⟩:OP)).toArray by kernel_rfl)) Z ?_);refine L_o (ah_ (opf (⟨false,0,0,⟨Af,k - s0,cf,((t.drop s0).take (k - s0))⟩⟩:OP)) ih_ zz190 S7 Z Z Z Z Z Z Z Z fun b11 w11 S11=>L_o (ay_ ih_ S11 3 Z Z Z (by first | exact S11.row 2 Z | exact S11.row 3 Z | exact S11.fix 4 Z | exact S11.row 5 Z) (bp_ _) Z (by omega) (by omega) fun A12 c12 w12 S12=>?_));have S12d:=S12.drop (rs':=[_,_,_,_,_]) (.cons_cons _ (.cons_cons _ (.cons_cons _ (.cons_cons _ (.cons_cons _ (.cons _ (.refl _)))))));refine L_y (g_ 2 Tryz.underlying137 Z dH_ Z Z Z) Z (L_o (ac_ S12d 1 Z Z Z Z dH_ (by show 2 < 3;decide) fun w13 S13=>?_));refine f_ (hK25 _ _ (b_ (have S14:=S13.nilrow 5 1;Lan Z Z (hK23 _ _ (a_ fun K26 hK26=>b_ (L_y (g_ 2 Tryz.underlying137 Z dH_ Z Z Z) Z (L_y (t_ Tryz.underlying135 Z Z (((S14.blk 1 Z).cell _).trans (by rfl))) Z ?_)))))));refine Lm Z Z (Lm Z Z (L_y (C_ Z (show _=some (opf (⟨true,((bst a (t.drop k)).1:Int),((bst a (t.drop k)).2:Int),p0⟩:OP)).toArray by kernel_rfl)) Z ?_));refine L_o (ah_ (opf (⟨true,((bst a (t.drop k)).1:Int),((bst a (t.drop k)).2:Int),p0⟩:OP)) ih_ zz190 S14 Z Z Z Z Z Z Z Z fun b15 w15 S15=>L_o (ay_ ih_ S15 3 Z Z Z (by first | exact S15.row 3 Z | exact S15.fix 4 Z | exact S15.row 5 Z | exact S15.row 6 Z) (bp_ _) Z (by omega) (by omega) fun A16 c16 w16 S16=>?_));have S16d:=S16.drop (rs':=[_,_,_,_,_,_]) (.cons_cons _ (.cons_cons _ (.cons_cons _ (.cons_cons _ (.cons_cons _ (.cons_cons _ (.cons _ (.refl _))))))));refine L_y (g_ 2 Tryz.underlying137 Z dH_ Z Z Z) Z (L_o (ac_ S16d 1 Z Z Z Z dH_ (by show 2 < 3;decide) fun w17 S17=>?_));refine f_ (hK26 _ _ (Rm Z Z (Lm Z Z (L_y (w_ Z Z (z_ (by omega))) Z (Lan Z Z ?_)))));have S91:=S17.blkc 1 Z (show _=scA (n:Int) (m:Int) A16 ((ops++[(⟨false,0,0,⟨Af,k - s0,cf,((t.drop s0).take (k - s0))⟩⟩:OP)])++[(⟨true,((bst a (t.drop k)).1:Int),((bst a (t.drop k)).2:Int),p0⟩:OP)]).length c16 from by simp [scA,Nat.add_assoc]);have S92:=S91.rowc 3 Z (n':=((ops++[(⟨false,0,0,⟨Af,k - s0,cf,((t.drop s0).take (k - s0))⟩⟩:OP)])++[(⟨true,((bst a (t.drop k)).1:Int),((bst a (t.drop k)).2:Int),p0⟩:OP)]).length) (xs':=((ops++[(⟨false,0,0,⟨Af,k - s0,cf,((t.drop s0).take (k - s0))⟩⟩:OP)])++[(⟨true,((bst a (t.drop k)).1:Int),((bst a (t.drop k)).2:Int),p0⟩:OP)]).flatMap opf) (by simp [Nat.add_assoc]) (by simp [List.flatMap_append])
         have S93:=((S92.still 2 Z).sel [0,1,5,3,4,2] (by decide));have S96:=famAdd (rs:=[_,_,_,_,fam (ps.map bE_)]) (ps:=ps) (p:=(⟨false,0,0,⟨Af,k - s0,cf,((t.drop s0).take (k - s0))⟩⟩:OP).p) S93 4 Z;have S97:=S96.rowc 2 Z (n':=(k+(bst a (t.drop k)).2) - (k+(bst a (t.drop k)).2)) (xs':=bL ((t.drop (k+(bst a (t.drop k)).2)).take ((k+(bst a (t.drop k)).2) - (k+(bst a (t.drop k)).2)))) (by omega) (by first | (simp [bL];done) | (rw [show k - s0=0 by omega];simp [bL]));refine ⟨k+(bst a (t.drop k)).2,k+(bst a (t.drop k)).2,A16,c16,none,0,(ops++[(⟨false,0,0,⟨Af,k - s0,cf,((t.drop s0).take (k - s0))⟩⟩:OP)])++[(⟨true,((bst a (t.drop k)).1:Int),((bst a (t.drop k)).2:Int),p0⟩:OP)],(ps++[(⟨false,0,0,⟨Af,k - s0,cf,((t.drop s0).take (k - s0))⟩⟩:OP).p]),by omega,⟨⟨by omega,Nat.le_refl _,by simp;omega,hin.add.add0 Z,hmk.copy (by omega) (by omega) (by rw [List.map_append,List.map_append,fl_pos (by omega)];rfl)⟩,S97⟩,?_⟩;exact (Sc Z (Sub.cons Z (by first | rfl | (congr 1;omega)) (Sub.cons Z Z (Sub.cons Z Z (Sub.cons Z Z (Sub.cons Z Z (Sub.nil _)))))))
        ·
         refine j_ (hK23 _ _ (a_ fun K27 hK27=>b_ (L_y (g_ 2 Tryz.underlying137 Z dH_ Z Z Z) Z (L_y (t_ Tryz.underlying135 Z Z (((S7.blk 1 Z).cell _).trans (by rfl))) Z ?_))));refine Lm Z Z (Lm Z Z (L_y (C_ Z (show _=some (opf (⟨true,((bst a (t.drop k)).1:Int),((bst a (t.drop k)).2:Int),p0⟩:OP)).toArray by kernel_rfl)) Z ?_));refine L_o (ah_ (opf (⟨true,((bst a (t.drop k)).1:Int),((bst a (t.drop k)).2:Int),p0⟩:OP)) ih_ zz190 S7 Z Z Z Z Z Z Z Z fun b18 w18 S18=>L_o (ay_ ih_ S18 3 Z Z Z (by first | exact S18.row 2 Z | exact S18.row 3 Z | exact S18.fix 4 Z | exact S18.row 5 Z) (bp_ _) Z (by omega) (by omega) fun A19 c19 w19 S19=>?_));have S19d:=S19.drop (rs':=[_,_,_,_,_]) (.cons_cons _ (.cons_cons _ (.cons_cons _ (.cons_cons _ (.cons_cons _ (.cons _ (.refl _)))))));refine L_y (g_ 2 Tryz.underlying137 Z dH_ Z Z Z) Z (L_o (ac_ S19d 1 Z Z Z Z dH_ (by show 2 < 3;decide) fun w20 S20=>?_));refine f_ (hK27 _ _ (Rm Z Z (Lm Z Z (L_y (w_ Z Z (z_ (by omega))) Z (Lan Z Z ?_)))));have S91:=S20.blkc 1 Z (show _=scA (n:Int) (m:Int) A19 (ops++[(⟨true,((bst a (t.drop k)).1:Int),((bst a (t.drop k)).2:Int),p0⟩:OP)]).length c19 from by simp [scA,Nat.add_assoc]);have S92:=S91.rowc 3 Z (n':=(ops++[(⟨true,((bst a (t.drop k)).1:Int),((bst a (t.drop k)).2:Int),p0⟩:OP)]).length) (xs':=(ops++[(⟨true,((bst a (t.drop k)).1:Int),((bst a (t.drop k)).2:Int),p0⟩:OP)]).flatMap opf) (by simp [Nat.add_assoc]) (by simp [List.flatMap_append]);have S96:=S92.sel [0,1,2,3,4] (by decide);have S97:=S96.rowc 2 Z (n':=(k+(bst a (t.drop k)).2) - (k+(bst a (t.drop k)).2)) (xs':=bL ((t.drop (k+(bst a (t.drop k)).2)).take ((k+(bst a (t.drop k)).2) - (k+(bst a (t.drop k)).2)))) (by omega) (by first | (simp [bL];done) | (rw [show k - s0=0 by omega];simp [bL]));refine ⟨k+(bst a (t.drop k)).2,k+(bst a (t.drop k)).2,A19,c19,Af,cf,ops++[(⟨true,((bst a (t.drop k)).1:Int),((bst a (t.drop k)).2:Int),p0⟩:OP)],ps,by omega,⟨⟨by omega,Nat.le_refl _,by simp;omega,hin.add0 Z,hmk.copy (by omega) (by omega) (by rw [List.map_append,fl_neg (by omega),List.append_nil];rfl)⟩,S97⟩,?_⟩;exact (Sc Z (Sub.cons Z (by first | rfl | (congr 1;omega)) (Sub.cons Z Z (Sub.cons Z Z (Sub.cons Z Z (Sub.cons Z Z (Sub.nil _)))))))
    ·
     refine K_ (hK7 _ _ (a_ fun K28 hK28=>a_ fun K29 hK29=>Rm Z Z (L_y (I_ Tryz.underlying22 Z) Z (L_y (Z_ Z Z) Z (f_ (hK29 _ _ ?_))))));refine o_ Z (fun h81=>?_) (fun h81=>?_)
     ·
      refine b_ (L_y (g_ 2 Tryz.underlying137 Z dH_ Z Z Z) Z (L_y (t_ Tryz.underlying135 Z Z (((S6.blk 1 Z).cell _).trans (by rfl))) Z ?_));refine Lm Z Z (L_y (C_ Z (show _=some (opf (⟨false,0,0,⟨Af,k - s0,cf,((t.drop s0).take (k - s0))⟩⟩:OP)).toArray by kernel_rfl)) Z ?_);refine L_o (ah_ (opf (⟨false,0,0,⟨Af,k - s0,cf,((t.drop s0).take (k - s0))⟩⟩:OP)) ih_ zz190 S6 Z Z Z Z Z Z Z Z fun b21 w21 S21=>L_o (ay_ ih_ S21 3 Z Z Z (by first | exact S21.row 2 Z | exact S21.row 3 Z | exact S21.fix 4 Z | exact S21.row 5 Z) (bp_ _) Z (by omega) (by omega) fun A22 c22 w22 S22=>?_));have S22d:=S22.drop (rs':=[_,_,_,_,_]) (.cons_cons _ (.cons_cons _ (.cons_cons _ (.cons_cons _ (.cons_cons _ (.cons _ (.refl _)))))));refine L_y (g_ 2 Tryz.underlying137 Z dH_ Z Z Z) Z (L_o (ac_ S22d 1 Z Z Z Z dH_ (by show 2 < 3;decide) fun w23 S23=>?_));refine f_ (hK28 _ _ (a_ fun K30 hK30=>b_ (L_y (Y_ Tryz.underlying137 Z fB_ Z (S23.blk 1 Z) (show _=(scA (n:Int) (m:Int) A22 (ops.length+1) c22).toList∧_ from ⟨rfl,rfl⟩)) Z (L_o (G_ S23 0 Z Z Z fB_ Z (by first | exact cY_ _ _ _ _ _ | (intro u hu;simp [scA] at hu;rcases hu with rfl | rfl | rfl <;> rfl)) fun w24 S24=>?_)))));refine Lan Z Z (hK30 _ _ (l_ (ur (af_ Z Z Z (S24.blk 0 Z) Tryz.underlying137 Z (by exact fB_) ?_))));have S91:=S24.rowc 3 Z (n':=(ops++[(⟨false,0,0,⟨Af,k - s0,cf,((t.drop s0).take (k - s0))⟩⟩:OP)]).length) (xs':=(ops++[(⟨false,0,0,⟨Af,k - s0,cf,((t.drop s0).take (k - s0))⟩⟩:OP)]).flatMap opf) (by simp) (by simp [List.flatMap_append]);have S93:=((S91.still 2 Z).sel [3,4,2] (by decide));have S94:=famAdd (rs:=[_,fam (ps.map bE_)]) (ps:=ps) (p:=(⟨false,0,0,⟨Af,k - s0,cf,((t.drop s0).take (k - s0))⟩⟩:OP).p) S93 1 Z;obtain ⟨R,hR⟩:=scP hin.add S94;exact ⟨_,rfl,S94.like0,A22,c22,ops++[(⟨false,0,0,⟨Af,k - s0,cf,((t.drop s0).take (k - s0))⟩⟩:OP)],R,by rw [List.length_append];rfl,hR,hmk.done (by omega) (by rw [List.map_append,fl_pos (by omega),show t.length=k by omega];rfl)⟩
     ·
      refine j_ (hK28 _ _ (a_ fun K31 hK31=>b_ (L_y (Y_ Tryz.underlying137 Z fB_ Z (S6.blk 1 Z) (show _=(scA (n:Int) (m:Int) A1 ops.length c1).toList∧_ from ⟨rfl,rfl⟩)) Z (L_o (G_ S6 0 Z Z Z fB_ Z (by first | exact cY_ _ _ _ _ _ | (intro u hu;simp [scA] at hu;rcases hu with rfl | rfl | rfl <;> rfl)) fun w25 S25=>?_)))));refine Lan Z Z (hK31 _ _ (l_ (ur (af_ Z Z Z (S25.blk 0 Z) Tryz.underlying137 Z (by exact fB_) ?_))));obtain ⟨R,hR⟩:=scP hin (S25.sel [3,4] (by decide));exact ⟨_,rfl,S25.like0,A1,c1,ops,R,rfl,hR,hmk.done (by omega) (by rw [fl_neg (by omega),List.append_nil])⟩
end Del
namespace Pak
open Go.RowKit Zk Zx
open Sha (N bC_ cu_ cZ_ dN_ dM_)
open Go.Proofs.YtgaklngnfecdaaaGreat.Obj (ad_ bG_ aC_ V_ az_ aL_ zB A_ aI_)
open Oct (vaN rwL rwP rwE rnL rnP rnE be vr tl x_)
open Del (scA opf OP OkO mkV bm_ cy_ ag_ bW_)
open Del (nL nL_app ScP)
structure TI (its:List It) (os:List Ob) (x:It):Prop where
  io:Same (its.take os.length) os
  at_:its[os.length]?=some x
theorem TI.get {its:List It} {os:List Ob} {x:It} (h:TI its os x) {k:Nat} {o:Ob} (ho:os[k]?=some o):∃ y,its[k]?=some y∧y.kind=o.kind∧y.p.l=o.l:=by
  obtain ⟨y,h1,h2⟩:=h.io.at ho
  have hk:k < os.length:=(List.getElem?_eq_some_iff.1 ho).1
  rw [List.getElem?_take,if_pos hk] at h1
  exact ⟨y,h1,h2⟩
theorem TI.lt {its:List It} {os:List Ob} {x:It} (h:TI its os x):os.length < its.length:=(List.getElem?_eq_some_iff.1 h.at_).1
theorem sh_cons (os:List Ob) (x:List UInt8) (k:Nat) (ks:List Nat) (r:Int × List UInt8):shF os x (k::ks) r=shF os x ks (stepS os x r k):=rfl
theorem td_skip {os:List Ob} {kind chain:Int} {j seen:Nat} {o:Ob} {y:List UInt8} {r R:Int × List UInt8} (hj:1≤j) (h:shF os y (aV_ os kind chain j seen) r=R) (h4:seen≤4) (ho:os[j - 1]?=some o) (hk:o.kind≠kind∨seen=4):shF os y (aV_ os kind chain (j - 1) seen) r=R:=by
  obtain ⟨j,rfl⟩:∃ k,j=k+1:=⟨j - 1,by omega⟩
  have e:j+1 - 1=j:=by omega
  rw [e] at ho ⊢
  rcases hk with hk | rfl
  · by_cases h5:4≤seen
    · rw [gt_ h5] at h ⊢;exact h
    · rw [kw_ (by omega) ho hk] at h;exact h
  · rw [gt_ (by omega)] at h ⊢;exact h
theorem td_no {os:List Ob} {kind chain:Int} {j seen:Nat} {o:Ob} {y:List UInt8} {r R:Int × List UInt8} (hj:1≤j) (h:shF os y (aV_ os kind chain j seen) r=R) (h4:seen < 4) (ho:os[j - 1]?=some o) (hk:o.kind=kind) (hd:¬ (o.dep:Int) < chain):shF os y (aV_ os kind chain (j - 1) (seen+1)) r=R:=by
  obtain ⟨j,rfl⟩:∃ k,j=k+1:=⟨j - 1,by omega⟩
  have e:j+1 - 1=j:=by omega
  rw [e] at ho ⊢
  rw [cand_no h4 ho hk hd] at h
  exact h
theorem td_yes {os:List Ob} {kind chain:Int} {j seen:Nat} {o:Ob} {y:List UInt8} {r r2 R:Int × List UInt8} (hj:1≤j) (h:shF os y (aV_ os kind chain j seen) r=R) (h4:seen < 4) (ho:os[j - 1]?=some o) (hk:o.kind=kind) (hd:(o.dep:Int) < chain) (h2:stepS os y r (j - 1)=r2):shF os y (aV_ os kind chain (j - 1) (seen+1)) r2=R:=by
  obtain ⟨j,rfl⟩:∃ k,j=k+1:=⟨j - 1,by omega⟩
  have e:j+1 - 1=j:=by omega
  rw [e] at ho h2 ⊢
  rw [cand_yes h4 ho hk hd,sh_cons,h2] at h
  exact h
theorem told (A:Option Addr) (n c:Nat) (A3:Option Addr) (n3 c3:Nat) (its:List It) (os:List Ob) (x:It) (chain:Int) (w0:World) (hits:Rs w0 2 A n c (its.flatMap itf)) (hds:Rs w0 1 A3 n3 c3 (os.map eV_)) (ti:TI its os x) (hn9:n≤100000) (hok:OkI w0 its) (hsm:∀ x ∈ its,x.p.n≤300) :
    Calls Tryz.prog 62 #[.slice A n c,.slice A3 n3 c3,.int .i64 (os.length:Int),.int .i64 chain] w0 fun e w'=>∃ u,e=.returned u∧Like w0 w'∧ShortV w0 w' x.p (dR_ os chain x.kind x.p.l) u:=by
 refine v_ (env:=[(0,.slice A n c),(1,.slice A3 n3 c3),(2,.int .i64 (os.length:Int)),(3,.int .i64 chain)]) [.slice A n c,.slice A3 n3 c3,.int .i64 (os.length:Int),.int .i64 chain] Tryz.func62 Z Tryz.ntmps62 Z Z ?_;have hn1:=cL_ hits;have hlt:=ti.lt;have hx:=ti.at_;have hn3:=hds.len;rw [List.length_map] at hn3;have hcap1:=hits.cap;have hcap3:=hds.cap;have hmax1:=hits.max;have hmax3:=hds.max;have hxo:x.p.ok w0:=hok.at hx;have hxs:=hsm x (List.mem_of_getElem? hx);have S0:=St.start w0 noM;refine a_ fun K1 hK1=>b_ (La Z Z (Lan Z Z (hK1 _ _ (a_ fun K2 hK2=>b_ (Lan Z Z (hK2 _ _ (a_ fun K3 hK3=>Rm Z Z ?_)))))));refine Lm Z Z (L_y (T_ Tryz.underlying56 ii_ Z Z (S0.rd hits) inferInstance (by omega)) Z (L_y (aE_ 1 Tryz.underlying119 Z br_ Z Z (S0.rd hits) (by omega) Z) Z (L_y (cl_ Tryz.underlying22 Z Z (S0.rd hits) (by omega) ((by_ itf 2 bU_ its os.length x hx 1 (by omega)).trans (by rfl))) Z ?_)));refine Lan Z Z (hK3 _ _ (a_ fun K4 hK4=>b_ (Lan Z Z (hK4 _ _ (a_ fun K5 hK5=>a_ fun K6 hK6=>Rm Z Z (L_y (ax_ Z Z (z_ (by omega))) Z (La Z Z ?_)))))));refine f_ (hK6 _ _ (r_ ?_));refine hE_ [(0,_),(1,_),(2,_),(3,_)] (fun (j:Nat) (seen:Nat) (r:Int × List UInt8) (q:Part)=>[(13,.int .i64 ((j:Int) - 1)),(12,.int .i64 (seen:Int)),(10,.int .i64 r.1),(11,pv q)]) (fun (j:Nat) (seen:Nat) (r:Int × List UInt8) (q:Part)=>j) (fun (j:Nat) (seen:Nat) (r:Int × List UInt8) (q:Part) (w:World)=>(j≤os.length∧seen≤4∧shF os x.p.l (aV_ os x.kind chain j seen) r=dR_ os chain x.kind x.p.l)∧Like w0 w∧QOk w0 w x.p r q) os.length 0 (-1,x.p.l) x.p (Sc Z (Sc Z (Sc Z (Sc Z (Sub.nil _))))) (Sub.cons Z Z (Sub.cons Z Z (Sub.cons Z Z (Sub.cons Z Z (Sub.nil _))))) ?_ ?_
 ·
  exact ⟨⟨Nat.le_refl _,by omega,rfl⟩,S0.like0,⟨Rs.like hxo S0.like0,rfl,.inl ⟨rfl,rfl⟩⟩⟩
 ·
  intro j seen r q w1 hrel;obtain ⟨⟨hj,h4,htd⟩,hlk,hq⟩:=hrel;have S1:=St.start w1 noM;have hsz1:=hlk.size;refine a_ fun K7 hK7=>a_ fun K8 hK8=>Rm Z Z (L_y (cq_ Z Z) Z (f_ (hK8 _ _ ?_)));refine o_ Z (fun h26=>?_) (fun h26=>?_)
  ·
   have hj1:1≤j:=by omega
   obtain ⟨o,ho⟩:∃ o,os[j - 1]?=some o:=⟨_,List.getElem?_eq_getElem (by omega)⟩;obtain ⟨y,hy,hyk,hyl⟩:=ti.get ho;have hyo:y.p.ok w0:=hok.at hy;have hys:=hsm y (List.mem_of_getElem? hy);have hyb:=hyo.lenb;have hxb:=hxo.lenb;have hqb:=hq.ok.lenb;refine j_ (hK7 _ _ (a_ fun K9 hK9=>r_ (a_ fun K10 hK10=>a_ fun K11 hK11=>ak_ [(0,true),(1,true),(2,true),(3,true),(4,true),(5,true),(6,true),(7,true),(8,true),(9,true),(10,true),(11,true),(12,true),(13,true),(14,true)] aS_ (by kernel_rfl) fun w2 l2=>have S2:=S1.like l2;u_ Z (p_ Z) Z (u_ Z (p_ Z) Z (u_ Z (T_ Tryz.underlying56 ii_ Z Z ((hits.like (hlk.trans S2.like0))) (Nt.mk (by omega):Nt _ (j - 1)) (by omega)) Z (u_ Z (aE_ 0 Tryz.underlying119 Z sz3 Z Z ((hits.like (hlk.trans S2.like0))) (by omega) Z) Z (u_ Z (cl_ Tryz.underlying3 Z Z ((hits.like (hlk.trans S2.like0))) (by omega) ((by_ itf 2 bU_ its (j - 1) y hy 0 (by omega)).trans (by rfl))) Z ?_)))))));refine u_ Z (p_ Z) Z (u_ Z (p_ Z) Z (u_ Z (T_ Tryz.underlying56 ii_ Z Z ((hits.like (hlk.trans S2.like0))) inferInstance (by omega)) Z (u_ Z (aE_ 0 Tryz.underlying119 Z sz3 Z Z ((hits.like (hlk.trans S2.like0))) (by omega) Z) Z (u_ Z (cl_ Tryz.underlying3 Z Z ((hits.like (hlk.trans S2.like0))) (by omega) ((by_ itf 2 bU_ its os.length x hx 0 (by omega)).trans (by rfl))) Z ?_))));refine u_ Z (ab_ Z Z) Z (u_ Z (p_ Z) Z ?_);refine ek_ 40 Z (fun h40=>?_) (fun h40=>?_)
   ·
    refine ap_ Z Z Z Z (ap_ Z Z Z Z (u_ Z (gH_ Z Z) Z (aH_ (hK11 _ _ (W_ Z (K_ (hK9 _ _ (Rm Z Z (L_y (ax_ Z Z (z_ (by omega))) Z (Lan Z Z ?_))))))))));have hlk4:=hlk.trans S2.like0;have hq4:=hq.like S2.like0;refine ⟨j - 1,seen,r,q,by omega,⟨⟨by omega,by omega,td_skip hj1 htd h4 ho (by first | exact .inl (by rw [← hyk];exact h40) | exact .inr (by omega))⟩,hlk4,hq4⟩,?_⟩;exact (Sc Z (Sc Z (Sc Z (Sc Z (Sub.cons Z Z (Sub.cons Z Z (Sub.cons Z Z (Sub.cons Z Z (Sub.nil _)))))))))
   ·
    refine X_ Z Z Z (p_ Z) Z (X_ Z Z Z (am_ Z Z) Z (u_ Z (gH_ Z Z) Z (aH_ (hK11 _ _ ?_))));refine o_ Z (fun h43=>?_) (fun h43=>?_)
    ·
     refine K_ (hK9 _ _ (Rm Z Z (L_y (ax_ Z Z (z_ (by omega))) Z (Lan Z Z (have hlk4:=hlk.trans S2.like0;have hq4:=hq.like S2.like0;⟨j - 1,seen,r,q,by omega,⟨⟨by omega,by omega,td_skip hj1 htd h4 ho (by first | exact .inl (by rw [← hyk];exact h40) | exact .inr (by omega))⟩,hlk4,hq4⟩,?_⟩)))));exact (Sc Z (Sc Z (Sc Z (Sc Z (Sub.cons Z Z (Sub.cons Z Z (Sub.cons Z Z (Sub.cons Z Z (Sub.nil _)))))))))
    ·
     refine j_ (hK10 _ _ (a_ fun K12 hK12=>Rm Z Z (L_y (w_ Z Z (z_ (by omega))) Z (Lan Z Z (hK12 _ _ (a_ fun K13 hK13=>a_ fun K14 hK14=>Rm Z Z (Lm Z Z ?_)))))));refine L_y (T_ Tryz.underlying111 sz3 Z Z ((hds.like (hlk.trans S2.like0))) (Nt.mk (by omega):Nt _ (j - 1)) (by omega)) Z (L_y (cj_ Tryz.underlying3 Z Z (hds.like (hlk.trans S2.like0)) (iI_ ho)) Z (Lm Z Z (L_y (cq_ Z Z) Z (f_ (hK14 _ _ ?_)))));refine o_ Z (fun h51=>?_) (fun h51=>?_)
     ·
      refine K_ (hK9 _ _ (Rm Z Z (L_y (ax_ Z Z (z_ (by omega))) Z (Lan Z Z (have hlk4:=hlk.trans S2.like0;have hq4:=hq.like S2.like0;⟨j - 1,seen+1,r,q,by omega,⟨⟨by omega,by omega,td_no hj1 htd (by omega) ho (by rw [← hyk];exact Classical.not_not.1 h40) (by omega)⟩,hlk4,hq4⟩,?_⟩)))));exact (Sc Z (Sc Z (Sc Z (Sc Z (Sub.cons Z Z (Sub.cons Z Z (Sub.cons Z Z (Sub.cons Z Z (Sub.nil _)))))))))
     ·
      refine j_ (hK13 _ _ (a_ fun K15 hK15=>cH_ (fun w=>Like w1 w) aS_ (by kernel_rfl) (fun w l=>(S2.like l).like0) fun w3 l3=>have S3:=S2.like l3;aj_ 0 (by kernel_rfl) Z (p_ Z) Z (aj_ 1 (by kernel_rfl) Z (p_ Z) Z (aj_ 2 (by kernel_rfl) Z (T_ Tryz.underlying56 ii_ Z Z ((hits.like (hlk.trans S3.like0))) (Nt.mk (by omega):Nt _ (j - 1)) (by omega)) Z (aj_ 3 (by kernel_rfl) Z (aE_ 1 Tryz.underlying119 Z br_ Z Z ((hits.like (hlk.trans S3.like0))) (by omega) Z) Z (aj_ 4 (by kernel_rfl) Z (eZ_ fun w hw=>cl_ Tryz.underlying22 Z Z ((hits.like (hlk.trans hw))) (by omega) ((by_ itf 2 bU_ its (j - 1) y hy 1 (by omega)).trans (by rfl))) Z ?_))))));refine aj_ 5 (by kernel_rfl) Z (p_ Z) Z (aj_ 6 (by kernel_rfl) Z (p_ Z) Z (aj_ 7 (by kernel_rfl) Z (T_ Tryz.underlying56 ii_ Z Z ((hits.like (hlk.trans S3.like0))) inferInstance (by omega)) Z (aj_ 8 (by kernel_rfl) Z (aE_ 1 Tryz.underlying119 Z br_ Z Z ((hits.like (hlk.trans S3.like0))) (by omega) Z) Z (aj_ 9 (by kernel_rfl) Z (eZ_ fun w hw=>cl_ Tryz.underlying22 Z Z ((hits.like (hlk.trans hw))) (by omega) ((by_ itf 2 bU_ its os.length x hx 1 (by omega)).trans (by rfl))) Z ?_))));refine jO_ 10 14 (by kernel_rfl) Z Z ?_ ?_
      ·
       refine n_ Tryz.func93 Z Z (Del.rmakeH _ _ _ _ _ _ y.p.l x.p.l w3 (Rs.like hyo (hlk.trans S3.like0)) (Rs.like hxo (hlk.trans S3.like0)) (by omega) (by omega)) Z Z ?_;rintro e4 w4 ⟨v4,rfl,l4,A4,c4,ops4,R4,rfl,⟨hh4,dd4,hr4⟩,hv4⟩;refine ⟨_,rfl,(have S4:=S3.new l4 _ hh4 dd4;⟨S4.like0,(aj_ 11 (by kernel_rfl) Z (p_ Z) Z (aj_ 12 (by kernel_rfl) Z (m_ Z Z) Z (aj_ 13 (by kernel_rfl) Z (m_ Z Z) Z (aX_ 14 (by kernel_rfl) Z (H_ zz137 S4 Z fun b5 w5 hb5 S5=>⟨S5.like0,(aX_ 15 (by kernel_rfl) Z (G_ S5 1 Z Z Z fB_ (by rfl) (by intro u hu;simp [scA] at hu;rcases hu with rfl | rfl | rfl <;> rfl) fun w6 S6=>?_))⟩)))))⟩)⟩;refine ⟨S6.like0,(aj_ 16 (by kernel_rfl) Z (J_ Z) Z (cB_ (by kernel_rfl) (hK15 _ _ (a_ fun K16 hK16=>b_ (L_y (Y_ Tryz.underlying137 Z fB_ Z (S6.blk 1 Z) (show _=(scA (y.p.n:Int) (x.p.n:Int) _ _ _).toList∧_ from ⟨rfl,rfl⟩)) Z (L_o (n_ Tryz.func94 Z Z (Del.rputM (x:=y.p.l) (y:=x.p.l) (by omega) (by omega) A4 c4 ops4 _ _ w6 (hr4 _ (S6.get 0 Z)).1 (hr4 _ (S6.get 0 Z)).2 hv4 (by omega) (by omega)) Z Z ?_)))))))⟩;rintro e7 w7 ⟨v7,rfl,l7,A7,c7,rfl,O7⟩;refine ⟨_,rfl,(have S7:=S6.adopt l7 O7;have hlk3:Like w0 w7:=hlk.trans S7.like0;have hd9:Rs w7 1 A7 (scB y.p.l x.p.l).length c7 (bL (scB y.p.l x.p.l)):=S7.row 2 Z;have hf9:=(Fr.of_own (S7.own 2 Z)).2;have hq4:=hq.like S7.like0;have hsz9:=hlk.size;Lm Z Z (L_y (m_ Z Z) Z (L_y (m_ Z Z) Z (La Z Z (Lan Z Z (hK16 _ _ ?_))))))⟩;refine a_ fun K17 hK17=>Rm Z Z (L_y (am_ Z Z) Z (Lm Z Z ?_));refine y_ 73 Z (fun h73=>?_) (fun h73=>?_)
       ·
        refine d_ Z Z (Lm Z Z (d_ Z Z (L_y (am_ Z Z) Z (Lp Z Z Z (Lm Z Z ?_)))));refine y_ 77 Z (fun h77=>?_) (fun h77=>?_)
        ·
         refine d_ Z Z (Lm Z Z (d_ Z Z (L_y (I_ Tryz.underlying22 Z) Z (d_ Z Z (Lm Z Z (d_ Z Z (L_y (I_ Tryz.underlying22 Z) Z (d_ Z Z (L_y (L_ Z Z) Z (Lp Z Z Z (f_ (hK17 _ _ ?_))))))))))));refine o_ Z (fun h83=>?_) (fun h83=>?_)
         ·
          have hlen:(scB y.p.l x.p.l).length < q.n:=by first | exact Int.ofNat_lt.1 h83 | omega
          refine a_ fun K18 hK18=>Rm Z Z (Lan Z Z (hK18 _ _ (Rm Z Z (Lan Z Z (hK9 _ _ (Rm Z Z (L_y (ax_ Z Z (z_ (by omega))) Z ?_)))))));refine Lan Z Z ?_;have hst:stepS os x.p.l r (j - 1)=(((j - 1:Nat):Int),scB y.p.l x.p.l):=by rw [hyl];exact fK_ ho (by rw [← hq.val,hq.ok.lenb];rw [hyl] at hlen;exact hlen)
          have hqn2:QOk w0 w7 x.p (((j - 1:Nat):Int),scB y.p.l x.p.l) ⟨A7,(scB y.p.l x.p.l).length,c7,scB y.p.l x.p.l⟩:=⟨hd9,rfl,.inr ⟨by show (0:Int)≤((j - 1:Nat):Int);omega,fun ad h1 h2=>Nat.le_trans hsz9 (hf9 ad h1 h2)⟩⟩;refine ⟨j - 1,seen+1,(((j - 1:Nat):Int),scB y.p.l x.p.l),⟨A7,(scB y.p.l x.p.l).length,c7,scB y.p.l x.p.l⟩,by omega,⟨⟨by omega,by omega,td_yes hj1 htd (by omega) ho (by rw [← hyk];exact Classical.not_not.1 h40) (by omega) hst⟩,hlk3,hqn2⟩,?_⟩;exact (Sc Z (Sc Z (Sc Z (Sc Z (Sub.cons Z Z (Sub.cons Z Z (Sub.cons Z Z (Sub.cons Z Z (Sub.nil _)))))))))
         ·
          have hlen:¬ (scB y.p.l x.p.l).length < q.n:=by first | exact fun h=>h83 (Int.ofNat_lt.2 h) | omega
          refine j_ (hK9 _ _ (Rm Z Z (L_y (ax_ Z Z (z_ (by omega))) Z (Lan Z Z ?_))));have hst:stepS os x.p.l r (j - 1)=r:=by exact hf_ ho (by rw [← hq.val,hq.ok.lenb];rw [hyl] at hlen;exact hlen)
          refine ⟨j - 1,seen+1,r,q,by omega,⟨⟨by omega,by omega,td_yes hj1 htd (by omega) ho (by rw [← hyk];exact Classical.not_not.1 h40) (by omega) hst⟩,hlk3,hq4⟩,?_⟩;exact (Sc Z (Sc Z (Sc Z (Sc Z (Sub.cons Z Z (Sub.cons Z Z (Sub.cons Z Z (Sub.cons Z Z (Sub.nil _)))))))))
        ·
         exact absurd Z h77
       ·
        exact absurd Z h73
      ·
       refine H_ zz137 S3 Z fun b10 w10 hb10 S10=>⟨S10.like0,(aX_ 10 (by kernel_rfl) Z (n_ Tryz.func93 Z Z (Del.rmakeH _ _ _ _ _ _ y.p.l x.p.l w10 (Rs.like hyo (hlk.trans S10.like0)) (Rs.like hxo (hlk.trans S10.like0)) (by omega) (by omega)) Z Z ?_))⟩;rintro e11 w11 ⟨v11,rfl,l11,A11,c11,ops11,R11,rfl,⟨hh11,dd11,hr11⟩,hv11⟩;refine ⟨_,rfl,(have S11:=S10.new l11 _ hh11 dd11;⟨S11.like0,(aj_ 11 (by kernel_rfl) Z (p_ Z) Z (aj_ 12 (by kernel_rfl) Z (m_ Z Z) Z (aj_ 13 (by kernel_rfl) Z (m_ Z Z) Z (aX_ 15 (by kernel_rfl) Z (G_ S11 0 Z Z Z fB_ (by rfl) (by intro u hu;simp [scA] at hu;rcases hu with rfl | rfl | rfl <;> rfl) fun w12 S12=>?_)))))⟩)⟩;refine ⟨S12.like0,(aj_ 16 (by kernel_rfl) Z (J_ Z) Z (cB_ (by kernel_rfl) (hK15 _ _ (a_ fun K19 hK19=>b_ (L_y (Y_ Tryz.underlying137 Z fB_ Z (S12.blk 0 Z) (show _=(scA (y.p.n:Int) (x.p.n:Int) _ _ _).toList∧_ from ⟨rfl,rfl⟩)) Z (L_o (n_ Tryz.func94 Z Z (Del.rputM (x:=y.p.l) (y:=x.p.l) (by omega) (by omega) A11 c11 ops11 _ _ w12 (hr11 _ (S12.get 1 Z)).1 (hr11 _ (S12.get 1 Z)).2 hv11 (by omega) (by omega)) Z Z ?_)))))))⟩;rintro e13 w13 ⟨v13,rfl,l13,A13,c13,rfl,O13⟩;refine ⟨_,rfl,(have S13:=S12.adopt l13 O13;have hlk3:Like w0 w13:=hlk.trans S13.like0;have hd9:Rs w13 1 A13 (scB y.p.l x.p.l).length c13 (bL (scB y.p.l x.p.l)):=S13.row 2 Z;have hf9:=(Fr.of_own (S13.own 2 Z)).2;have hq4:=hq.like S13.like0;have hsz9:=hlk.size;Lm Z Z (L_y (m_ Z Z) Z (L_y (m_ Z Z) Z (La Z Z (Lan Z Z (hK19 _ _ ?_))))))⟩;refine a_ fun K20 hK20=>Rm Z Z (L_y (am_ Z Z) Z (Lm Z Z ?_));refine y_ 73 Z (fun h73=>?_) (fun h73=>?_)
       ·
        refine d_ Z Z (Lm Z Z (d_ Z Z (L_y (am_ Z Z) Z (Lp Z Z Z (Lm Z Z ?_)))));refine y_ 77 Z (fun h77=>?_) (fun h77=>?_)
        ·
         refine d_ Z Z (Lm Z Z (d_ Z Z (L_y (I_ Tryz.underlying22 Z) Z (d_ Z Z (Lm Z Z (d_ Z Z (L_y (I_ Tryz.underlying22 Z) Z (d_ Z Z (L_y (L_ Z Z) Z (Lp Z Z Z (f_ (hK20 _ _ ?_))))))))))));refine o_ Z (fun h83=>?_) (fun h83=>?_)
         ·
          have hlen:(scB y.p.l x.p.l).length < q.n:=by first | exact Int.ofNat_lt.1 h83 | omega
          refine a_ fun K21 hK21=>Rm Z Z (Lan Z Z (hK21 _ _ (Rm Z Z (Lan Z Z (hK9 _ _ (Rm Z Z (L_y (ax_ Z Z (z_ (by omega))) Z ?_)))))));refine Lan Z Z ?_;have hst:stepS os x.p.l r (j - 1)=(((j - 1:Nat):Int),scB y.p.l x.p.l):=by rw [hyl];exact fK_ ho (by rw [← hq.val,hq.ok.lenb];rw [hyl] at hlen;exact hlen)
          have hqn2:QOk w0 w13 x.p (((j - 1:Nat):Int),scB y.p.l x.p.l) ⟨A13,(scB y.p.l x.p.l).length,c13,scB y.p.l x.p.l⟩:=⟨hd9,rfl,.inr ⟨by show (0:Int)≤((j - 1:Nat):Int);omega,fun ad h1 h2=>Nat.le_trans hsz9 (hf9 ad h1 h2)⟩⟩;refine ⟨j - 1,seen+1,(((j - 1:Nat):Int),scB y.p.l x.p.l),⟨A13,(scB y.p.l x.p.l).length,c13,scB y.p.l x.p.l⟩,by omega,⟨⟨by omega,by omega,td_yes hj1 htd (by omega) ho (by rw [← hyk];exact Classical.not_not.1 h40) (by omega) hst⟩,hlk3,hqn2⟩,?_⟩;exact (Sc Z (Sc Z (Sc Z (Sc Z (Sub.cons Z Z (Sub.cons Z Z (Sub.cons Z Z (Sub.cons Z Z (Sub.nil _)))))))))
         ·
          have hlen:¬ (scB y.p.l x.p.l).length < q.n:=by first | exact fun h=>h83 (Int.ofNat_lt.2 h) | omega
          refine j_ (hK9 _ _ (Rm Z Z (L_y (ax_ Z Z (z_ (by omega))) Z (Lan Z Z ?_))));have hst:stepS os x.p.l r (j - 1)=r:=by exact hf_ ho (by rw [← hq.val,hq.ok.lenb];rw [hyl] at hlen;exact hlen)
          refine ⟨j - 1,seen+1,r,q,by omega,⟨⟨by omega,by omega,td_yes hj1 htd (by omega) ho (by rw [← hyk];exact Classical.not_not.1 h40) (by omega) hst⟩,hlk3,hq4⟩,?_⟩;exact (Sc Z (Sc Z (Sc Z (Sc Z (Sub.cons Z Z (Sub.cons Z Z (Sub.cons Z Z (Sub.cons Z Z (Sub.nil _)))))))))
        ·
         exact absurd Z h77
       ·
        exact absurd Z h73
  ·
   obtain rfl:j=0:=by omega
   refine K_ (hK5 _ _ (a_ fun K22 hK22=>Rm Z Z (Lm Z Z (La Z Z (Lan Z Z (hK22 _ _ (l_ (ur (bj_ Z Z Z ?_)))))))));exact ⟨_,rfl,hlk,q,by rw [← htd];rfl,by rw [← htd];exact hq⟩
end Pak
namespace Pak
open Go.RowKit Zk Zx
open Sha (N bC_ cu_ cZ_ dN_ dM_)
open Go.Proofs.YtgaklngnfecdaaaGreat.Obj (ad_ bG_ aC_ V_ az_ aL_ zB A_ aI_)
open Oct (vaN rwL rwP rwE rnL rnP rnE be vr tl x_)
open Del (scA opf OP OkO mkV bm_ cy_ ag_ bW_)
open Del (cO_ okP)
theorem take1L {α:Type} {l:List α} {k:Nat} {x : α} (hx:l[k]?=some x):l.take (k+1)=l.take k++[x]:=by
  rw [List.take_add_one,hx]
  rfl
theorem bL_appI (a b:List UInt8):bL a++bL b=bL (a++b):=by simp [bL]
theorem bL_take1 {l:List UInt8} {k:Nat} {x:UInt8} (hx:l[k]?=some x):bL (l.take k)++[.int .u8 (x.toNat:Int)]=bL (l.take (k+1)):=by
  rw [take1L hx, ← bL_appI]
  rfl
theorem itf_take1 {l:List It} {k:Nat} {x:It} (hx:l[k]?=some x):(l.take k).flatMap itf++itf x=(l.take (k+1)).flatMap itf:=by
  rw [take1L hx,List.flatMap_append]
  simp
theorem rclosed (B:Option Addr) (m d:Nat) (b:List UInt8) (w0:World) (hb:Rs w0 1 B m d (bL b)) (hm9:m≤90000) :
    Calls Tryz.prog 65 #[.slice B m d] w0 fun e w'=>∃ u,e=.returned u∧Like w0 w'∧∃ A' c',u=.slice A' (b++Sha.ofL b).length c'∧w'.ownsRow w0.heap.size 5 1 (.slice A' (b++Sha.ofL b).length c') (b++Sha.ofL b).length (bL (b++Sha.ofL b)):=by
 refine v_ (env:=[(0,.slice B m d)]) [.slice B m d] Tryz.func65 Z Tryz.ntmps65 Z Z ?_;have hl:=hb.lenb;have hcap:=hb.cap;have hmax:=hb.max;have S0:=St.start w0 noM;refine a_ fun K1 hK1=>b_ (Lan Z Z (hK1 _ _ (a_ fun K2 hK2=>Rm Z Z (L_o (n_ Tryz.func25 Z Z (Sha.refof b B m d w0 (S0.rd hb) (by omega)) Z Z ?_)))));rintro e1 w1 ⟨v1,rfl,l1,rfl⟩;refine ⟨_,rfl,(have S1:=S0.like l1;L_o (H_ dK_ S1 Z fun b2 w2 hb2 S2=>have S3:=S2.blkc 0 Z (cs':=bA zB) (by kernel_rfl);L_o (G_ S3 0 Z Z Z (by rw [size_bA,Sha.ai_];exact ao_) (by rw [size_bA,size_bA,Sha.ai_];rfl) (Sha.eg_ _) fun w4 S4=>?_)))⟩;refine f_ (hK2 _ _ (a_ fun K3 hK3=>b_ (have S5:=S4.nilrow 5 1;Lan Z Z (hK3 _ _ (a_ fun K4 hK4=>a_ fun K5 hK5=>b_ (Lan Z Z (hK5 _ _ ?_)))))));refine r_ ?_;refine df_ [(0,_),(3,_)] (fun (k:Nat) (A1:Option Addr) (c1:Nat)=>[(5,.int .i64 (k:Int)),(4,.slice A1 k c1)]) (fun (k:Nat) (A1:Option Addr) (c1:Nat)=>32 - k) (fun (k:Nat) (A1:Option Addr) (c1:Nat) (w:World)=>k≤32∧Zx.St w0 noM [blk b2 41 (bA (Sha.ofL b)),Zx.row 5 1 A1 k c1 (bL ((Sha.ofL b).take k))] w) 0 none 0 (Sc Z (Sc Z (Sub.nil _))) (Sub.cons Z Z (Sub.cons Z Z (Sub.nil _))) ?_ ?_
 ·
  have S70:Zx.St w0 noM [blk b2 41 (bA (Sha.ofL b)),Zx.row 5 1 none 0 0 (bL ((Sha.ofL b).take 0))] w4:=S5;exact ⟨by omega,S70⟩
 ·
  intro k A1 c1 w6 hrel;obtain ⟨hk,S6⟩:=hrel;refine a_ fun K6 hK6=>a_ fun K7 hK7=>Rm Z Z (L_y (L_ Z Z) Z (f_ (hK7 _ _ ?_)));refine o_ Z (fun h9=>?_) (fun h9=>?_)
  ·
   have hz:=Sha.ai_ b;obtain ⟨x,hx⟩:∃ x,(Sha.ofL b)[k]?=some x:=⟨_,List.getElem?_eq_getElem (by omega)⟩;refine j_ (hK6 _ _ (a_ fun K8 hK8=>r_ (Rm Z Z (Lm Z Z (L_y (aa_ Tryz.underlying41 sz5 Z Z inferInstance (by omega)) Z (L_y (t_ Tryz.underlying5 Z Z (((S6.blk 0 Z).cell _).trans (dE_ _ k x hx))) Z (L_o (ah_ [_] ba_ zz5 S6 Z Z Z Z Z Z Z Z fun b7 w7 S7=>L_o (ay_ ba_ S7 1 Z Z Z (by first | exact S7.row 1 Z | exact S7.row 2 Z) (by first | exact R_ _ | exact bu_ _ | (intro u hu;simp at hu;subst hu;rfl) | (simp;done) | (simp [Value.oneCell'];done)) Z (by omega) (by omega) fun A8 c8 w8 S8=>?_)))))))));have S8d:=S8.drop (rs':=[_,_]) (.cons_cons _ (.cons_cons _ (.cons _ (.refl _))));refine Lan Z Z (hK8 _ _ (Rm Z Z (L_y (w_ Z Z (z_ (by omega))) Z (Lan Z Z (have S91:=S8d.sel [0,1] (by decide);have S92:=S91.rowc 1 Z (n':=k+1) Z (bL_take1 hx);⟨k+1,_,_,by omega,⟨by omega,S92⟩,?_⟩)))));exact (Sc Z (Sc Z (Sub.cons Z Z (Sub.cons Z Z (Sub.nil _)))))
  ·
   have hke:k=32:=by omega
   subst hke;rw [List.take_of_length_le (by rw [Sha.ai_];omega)] at S6;refine K_ (hK4 _ _ (a_ fun K9 hK9=>Rm Z Z (Lm Z Z (L_o (ah_ [_,_] cS_ eW_ S6 Z Z Z Z Z Z Z Z fun b9 w9 S9=>L_o (n_ Tryz.func60 Z Z (Del.je_ _ _ _ [⟨B,m,d,b⟩,⟨A1,32,c1,Sha.ofL b⟩] w9 (S9.row 2 Z) (okP.cons (S9.rd hb) (show m≤100000 by omega) (okP.cons (S9.row 1 Z) (show 32≤100000 by omega) (okP.nil _ _))) (by simp)) Z Z ?_))))));rintro e10 w10 ⟨v10,rfl,l10,A9,c9,rfl,O10⟩;refine ⟨_,rfl,(have S10:=S9.adopt l10 O10;Lan Z Z (hK9 _ _ (l_ (ur (F_ Z Z ?_)))))⟩;have e9:cO_ [⟨B,m,d,b⟩,⟨A1,32,c1,Sha.ofL b⟩]=b++Sha.ofL b:=by simp [cO_]
   rw [e9] at S10;rw [e9];exact ⟨_,rfl,S10.like0,_,_,rfl,S10.own 3 Z⟩
theorem plain (A:Option Addr) (n c:Nat) (its:List It) (w0:World) (hits:Rs w0 2 A n c (its.flatMap itf)) (hn9:n≤100000) :
    Calls Tryz.prog 30 #[.slice A n c] w0 fun e w'=>∃ u,e=.returned u∧Like w0 w'∧∃ A' c',u=.slice A' n c'∧w'.ownsRow w0.heap.size 119 2 (.slice A' n c') n (its.flatMap itf):=by
 refine v_ (env:=[(0,.slice A n c)]) [.slice A n c] Tryz.func30 Z Tryz.ntmps30 Z Z ?_;have hn:=cL_ hits;have hcap:=hits.cap;have hmax:=hits.max;have S0:=St.start w0 noM;refine a_ fun K1 hK1=>b_ (Lan Z Z (hK1 _ _ (a_ fun K2 hK2=>b_ (have S1:=S0.nilrow 119 2;Lan Z Z (hK2 _ _ (a_ fun K3 hK3=>a_ fun K4 hK4=>b_ ?_))))));refine Lan Z Z (hK4 _ _ (r_ ?_));refine df_ [(0,_)] (fun (k:Nat) (A1:Option Addr) (c1:Nat)=>[(4,.int .i64 (k:Int)),(3,.slice A1 k c1)]) (fun (k:Nat) (A1:Option Addr) (c1:Nat)=>n - k) (fun (k:Nat) (A1:Option Addr) (c1:Nat) (w:World)=>k≤n∧Zx.St w0 noM [Zx.row 119 2 A1 k c1 ((its.take k).flatMap itf)] w) 0 none 0 (Sc Z (Sc Z (Sub.nil _))) (Sub.cons Z Z (Sub.nil _)) ?_ ?_
 ·
  exact ⟨by omega,S1⟩
 ·
  intro k A1 c1 w2 hrel;obtain ⟨hk,S2⟩:=hrel;refine a_ fun K5 hK5=>a_ fun K6 hK6=>Rm Z Z (Lm Z Z (L_y (I_ Tryz.underlying48 Z) Z (L_y (L_ Z Z) Z (f_ (hK6 _ _ ?_)))));refine o_ Z (fun h8=>?_) (fun h8=>?_)
  ·
   obtain ⟨x,hx⟩:∃ x,its[k]?=some x:=⟨_,List.getElem?_eq_getElem (by omega)⟩;refine j_ (hK5 _ _ (a_ fun K7 hK7=>r_ (dy_ [0,1,2,3,4,5,6,7,8,9,10,11,12] 13 [(0,1),(1,1),(2,1),(3,1),(4,1),(5,1),(6,1),(7,1),(8,1),(9,1),(10,1),(11,1),(12,2),(13,3),(14,3)] aS_ (by kernel_rfl) fun w3 l3=>have S3:=S2.like l3;ga_ (Like w3) (Like.refl _) (Q_ Z (p_ Z) Z (Q_ Z (p_ Z) Z (Q_ Z (p_ Z) Z (Q_ Z (T_ Tryz.underlying48 gx_ Z Z (S3.rd hits) inferInstance (by omega)) Z (Q_ Z (aE_ 0 Tryz.underlying65 Z sz3 Z Z (S3.rd hits) (by omega) Z) Z (Q_ Z (cl_ Tryz.underlying3 Z Z (S3.rd hits) (by omega) ((by_ itf 2 bU_ its k x hx 0 (by omega)).trans (by rfl))) Z ?_)))))))));refine Q_ Z (p_ Z) Z (Q_ Z (p_ Z) Z (Q_ Z (T_ Tryz.underlying48 gx_ Z Z (S3.rd hits) inferInstance (by omega)) Z (Q_ Z (aE_ 1 Tryz.underlying65 Z br_ Z Z (S3.rd hits) (by omega) Z) Z (Q_ Z (cl_ Tryz.underlying22 Z Z (S3.rd hits) (by omega) ((by_ itf 2 bU_ its k x hx 1 (by omega)).trans (by rfl))) Z ?_))));refine Q_ Z (C_ Z (show _=some (itf x).toArray by kernel_rfl)) Z (fF_ Z (eB_ (itf x) te56 zz119 S3 Z Z Z Z Z Z Z Z fun b4 w4 l4 S4=>have q4:=l4;⟨q4,(fZ_ Z (ay_ te56 S4 0 Z Z Z (by first | exact S4.row 0 Z | exact S4.row 1 Z) (hu_ x) Z (by omega) (by omega) fun A5 c5 w5 S5=>?_))⟩));have S5d:=S5.drop (rs':=[_]) (.cons_cons _ (.cons _ (.refl _)));refine dx_ Z (J_ Z) Z (cA_ (hK7 _ _ (Rm Z Z (L_y (w_ Z Z (z_ (by omega))) Z (Lan Z Z (have S91:=S5d.sel [0] (by decide);have S92:=S91.rowc 0 Z (n':=k+1) Z (itf_take1 hx);⟨k+1,_,_,by omega,⟨by omega,S92⟩,?_⟩))))));exact (Sc Z (Sc Z (Sub.cons Z Z (Sub.nil _))))
  ·
   have hke:k=n:=by omega
   subst hke;rw [List.take_of_length_le (by omega)] at S2;refine K_ (hK3 _ _ (a_ fun K8 hK8=>Rm Z Z (Lan Z Z (hK8 _ _ (l_ (ur (F_ Z Z ?_)))))));exact ⟨_,rfl,S2.like0,_,_,rfl,S2.own 0 Z⟩
end Pak
namespace Pak
open Go.RowKit Zk Zx
open Sha (N bC_ cu_ cZ_ dN_ dM_)
open Go.Proofs.YtgaklngnfecdaaaGreat.Obj (ad_ bG_ aC_ V_ az_ aL_ zB A_ aI_)
open Oct (vaN rwL rwP rwE rnL rnP rnE be vr tl x_)
open Del (scA opf OP OkO mkV bm_ cy_ ag_ bW_)
open Del (cO_ okP)
theorem told_ (A:Option Addr) (n c:Nat) (A3:Option Addr) (n3 c3:Nat) (its:List It) (os:List Ob) (x:It) (chain:Int) (k:Nat) (hk:os.length=k) (w0:World) (hits:Rs w0 2 A n c (its.flatMap itf)) (hds:Rs w0 1 A3 n3 c3 (os.map eV_)) (ti:TI its os x) (hn9:n≤100000) (hok:OkI w0 its) (hsm:∀ x ∈ its,x.p.n≤300) :
    Calls Tryz.prog 62 #[.slice A n c,.slice A3 n3 c3,.int .i64 (k:Int),.int .i64 chain] w0 fun e w'=>∃ u,e=.returned u∧Like w0 w'∧ShortV w0 w' x.p (dR_ os chain x.kind x.p.l) u:=by
  subst hk
  exact told A n c A3 n3 c3 its os x chain w0 hits hds ti hn9 hok hsm
theorem gL_ (A:Option Addr) (n c:Nat) (ps:List Part) (t:List UInt8) (ht:cO_ ps=t) (w0:World) (hps:Rs w0 1 A n c (ps.map pv)) (hok:okP w0 100000 ps) (hn8:n≤1000) :
    Calls Tryz.prog 60 #[.slice A n c] w0 fun e w'=>∃ u,e=.returned u∧Like w0 w'∧∃ A' c',u=.slice A' t.length c'∧w'.ownsRow w0.heap.size 5 1 (.slice A' t.length c') t.length (bL t):=by
  subst ht
  exact Del.je_ A n c ps w0 hps hok hn8
theorem nodup_of {l:List IV} (h:∀ b a x y,a < b→b < l.length→l[a]?=some x→l[b]?=some y→aC_ x.1 x.2≠aC_ y.1 y.2):(eR_ l).Nodup:=by
  unfold eR_
  refine List.pairwise_iff_getElem.2 fun i j hi hj hij=>?_
  rw [List.length_map] at hi hj
  rw [List.getElem_map,List.getElem_map]
  exact h j i _ _ hij hj (List.getElem?_eq_getElem hi) (List.getElem?_eq_getElem hj)
theorem not_nd {l:List IV} {a b:Nat} {x y:IV} (hab:a < b) (hx:l[a]?=some x) (hy:l[b]?=some y) (he:aC_ x.1 x.2=aC_ y.1 y.2):¬ (eR_ l).Nodup:=fun h=>by
  have ha:=(List.getElem?_eq_some_iff.1 hx)
  have hb:=(List.getElem?_eq_some_iff.1 hy)
  obtain ⟨ha,rfl⟩:=ha
  obtain ⟨hb,rfl⟩:=hb
  unfold eR_ at h
  have h2:=List.pairwise_iff_getElem.1 h a b (by rw [List.length_map];exact ha) (by rw [List.length_map];exact hb) hab
  rw [List.getElem_map,List.getElem_map] at h2
  exact h2 he
def WriteR (w0 w':World) (chain:Int) (l:List IV) (u:Value):Prop:=(wrE chain l≠0∧Like w0 w'∧u=.tuple #[.slice none 0 0,.slice none 0 0,.int .i64 (wrE chain l)]) ∨
  (wrE chain l=0∧∃ A c A2 c2,u=.tuple #[.slice A (cs_ chain l).length c,.slice A2 l.length c2,.int .i64 0]∧Zx.St w0 noM [row 5 1 A (cs_ chain l).length c (bL (cs_ chain l)),row 125 34 A2 l.length c2 ((bL_ chain l).os.flatMap plO)] w')
theorem lj_ (c:UInt32):IntKind.u64.wrap (N c)=((c.toNat:Nat):Int):=by
  have h:=c.toNat_lt
  have e:N c=(c.toNat:Int):=rfl
  rw [e,IntKind.wrap_u64]
  omega
theorem rwrite (A:Option Addr) (n c:Nat) (its:List It) (chain:Int) (w0:World) (hits:Rs w0 2 A n c (its.flatMap itf)) (hok:OkI w0 its) (hsm:∀ x ∈ its,x.p.n≤300) (h24:its.length≤24) :
    Calls Tryz.prog 29 #[.slice A n c,.int .i64 chain] w0 fun e w'=>∃ u,e=.returned u∧WriteR w0 w' chain (its.map It.v) u:=by
 refine v_ (env:=[(0,.slice A n c),(1,.int .i64 chain)]) [.slice A n c,.int .i64 chain] Tryz.func29 Z Tryz.ntmps29 Z Z ?_;have hn:=cL_ hits;have hcap:=hits.cap;have hmax:=hits.max;have hvl:(its.map It.v).length=n:=by rw [List.length_map];exact hn.symm
 have hs3:∀ y ∈ (its.map It.v),y.2.length≤300:=fun y hy=>by obtain ⟨z,hz,rfl⟩:=List.mem_map.1 hy;have h1:=(hok z hz).lenb;have h2:=hsm z hz;show z.p.l.length≤300;omega
 have hinv:=fun (k:Nat) (hk:k≤n)=>fP_ (chain:=chain) (n:=n) hs3 k (by omega) (by omega);have S0:=St.start w0 noM;refine a_ fun K1 hK1=>b_ (La Z Z (La Z Z (Lan Z Z (hK1 _ _ (a_ fun K2 hK2=>a_ fun K3 hK3=>Rm Z Z (L_y (L_ Z Z) Z (Lm Z Z ?_)))))));refine y_ 23 Z (fun h23=>?_) (fun h23=>?_)
 ·
  refine h_ Z Z Z (h_ Z Z Z (Lp Z Z Z (f_ (hK3 _ _ (W_ Z (a_ fun K4 hK4=>b_ (La Z Z (La Z Z (Lan Z Z (hK4 _ _ (l_ ?_)))))))))));refine ur (cN_ Z Z Z Z ?_);have he:wrE chain (its.map It.v)=2:=by unfold wrE;rw [if_pos (by omega)]
  exact ⟨_,rfl,.inl ⟨by rw [he];decide,S0.like0,by rw [he]⟩⟩
 ·
  refine d_ Z Z (Lm Z Z (d_ Z Z (L_y (Z_ Z Z) Z (Lp Z Z Z (f_ (hK3 _ _ ?_))))));refine o_ Z (fun h26=>?_) (fun h26=>?_)
  ·
   refine a_ fun K5 hK5=>b_ (La Z Z (La Z Z (Lan Z Z (hK5 _ _ (l_ (ur (cN_ Z Z Z Z ?_)))))));have he:wrE chain (its.map It.v)=2:=by unfold wrE;rw [if_pos (by omega)]
   exact ⟨_,rfl,.inl ⟨by rw [he];decide,S0.like0,by rw [he]⟩⟩
  ·
   refine j_ (hK2 _ _ (a_ fun K6 hK6=>a_ fun K7 hK7=>Rm Z Z (L_y (I_ Tryz.underlying56 Z) Z (L_y (Z_ Z Z) Z (f_ (hK7 _ _ ?_))))));refine o_ Z (fun h29=>?_) (fun h29=>?_)
   ·
    omega
   ·
    refine j_ (hK6 _ _ (a_ fun K8 hK8=>b_ (have S2:=S0.nilrow 41 32;Lan Z Z (hK8 _ _ (a_ fun K9 hK9=>a_ fun K10 hK10=>b_ (Lan Z Z (hK10 _ _ ?_)))))));refine r_ ?_;refine df_ [(0,_),(1,_)] (fun (k:Nat) (A7:Option Addr) (c7:Nat)=>[(8,.int .i64 (k:Int)),(7,.slice A7 k c7)]) (fun (k:Nat) (A7:Option Addr) (c7:Nat)=>n - k) (fun (k:Nat) (A7:Option Addr) (c7:Nat) (w:World)=>(k≤n∧∀ y ∈ (its.map It.v).take k,ad_ y.1 y.2=0)∧Zx.St w0 noM [row 41 32 A7 k c7 (((its.map It.v).take k).flatMap idB)] w) 0 none 0 (Sc Z (Sc Z (Sub.nil _))) (Sub.cons Z Z (Sub.cons Z Z (Sub.nil _))) ?_ ?_
    ·
     exact ⟨⟨by omega,fun y hy=>by cases hy⟩,S2⟩
    ·
     intro k A7 c7 w3 hrel;obtain ⟨⟨hk,hok2⟩,S3⟩:=hrel;refine a_ fun K11 hK11=>a_ fun K12 hK12=>Rm Z Z (Lm Z Z (L_y (I_ Tryz.underlying56 Z) Z (L_y (L_ Z Z) Z (f_ (hK12 _ _ ?_)))));refine o_ Z (fun h33=>?_) (fun h33=>?_)
     ·
      obtain ⟨x,hx⟩:∃ x,its[k]?=some x:=⟨_,List.getElem?_eq_getElem (by omega)⟩;have hxo:=hok.at hx;have hxs:=hsm x (List.mem_of_getElem? hx);refine j_ (hK11 _ _ (a_ fun K13 hK13=>r_ (a_ fun K14 hK14=>cH_ (fun w=>Like w0 w) aS_ (by kernel_rfl) (fun w l=>(S3.like l).like0) fun w4 l4=>have S4:=S3.like l4;aj_ 0 (by kernel_rfl) Z (p_ Z) Z (aj_ 1 (by kernel_rfl) Z (p_ Z) Z (aj_ 2 (by kernel_rfl) Z (T_ Tryz.underlying56 ii_ Z Z (Rs.like hits S4.like0) inferInstance (by omega)) Z (aj_ 3 (by kernel_rfl) Z (aE_ 0 Tryz.underlying119 Z sz3 Z Z (Rs.like hits S4.like0) (by omega) Z) Z (aj_ 4 (by kernel_rfl) Z (eZ_ fun w hw=>cl_ Tryz.underlying3 Z Z (Rs.like hits hw) (by omega) ((by_ itf 2 bU_ its k x hx 0 (by omega)).trans (by rfl))) Z ?_)))))));refine aj_ 5 (by kernel_rfl) Z (p_ Z) Z (aj_ 6 (by kernel_rfl) Z (p_ Z) Z (aj_ 7 (by kernel_rfl) Z (T_ Tryz.underlying56 ii_ Z Z (Rs.like hits S4.like0) inferInstance (by omega)) Z (aj_ 8 (by kernel_rfl) Z (aE_ 1 Tryz.underlying119 Z br_ Z Z (Rs.like hits S4.like0) (by omega) Z) Z (aj_ 9 (by kernel_rfl) Z (eZ_ fun w hw=>cl_ Tryz.underlying22 Z Z (Rs.like hits hw) (by omega) ((by_ itf 2 bU_ its k x hx 1 (by omega)).trans (by rfl))) Z ?_))));refine jO_ 10 14 (by kernel_rfl) Z Z ?_ ?_
      ·
       refine n_ Tryz.func24 Z Z (rname_ x.kind x.p.A x.p.n x.p.c x.p.l w4 (Rs.like hxo S4.like0) (by omega)) Z Z ?_;rintro e5 w5 ⟨v5,rfl,l5,rfl⟩;refine ⟨_,rfl,(have S5:=S4.like l5;⟨S5.like0,(aj_ 11 (by kernel_rfl) Z (p_ Z) Z (aj_ 12 (by kernel_rfl) Z (m_ Z Z) Z (aj_ 13 (by kernel_rfl) Z (m_ Z Z) Z (aX_ 14 (by kernel_rfl) Z (H_ dK_ S5 Z fun b6 w6 hb6 S6=>⟨S6.like0,(have S7:=S6.blkc 1 Z (cs':=bA zB) (by kernel_rfl);aX_ 15 (by kernel_rfl) Z (G_ S7 1 Z Z Z (by first | exact ao_ | (rw [size_bA,V_];exact ao_)) (by first | rfl | (rw [size_bA,size_bA,V_];rfl)) (Sha.eg_ _) fun w8 S8=>?_))⟩)))))⟩)⟩;refine ⟨S8.like0,(aj_ 16 (by kernel_rfl) Z (J_ Z) Z (cB_ (by kernel_rfl) (hK14 _ _ (a_ fun K15 hK15=>a_ fun K16 hK16=>Rm Z Z (L_y (ab_ Z Z) Z (f_ (hK16 _ _ ?_)))))))⟩;refine o_ Z (fun h51=>?_) (fun h51=>?_)
       ·
        refine a_ fun K17 hK17=>Rm Z Z (La Z Z (La Z Z (Lan Z Z (hK17 _ _ (l_ (ur (cN_ Z Z Z Z ?_)))))));have he:wrE chain (its.map It.v)=cf_ (its.map It.v):=by unfold wrE;rw [if_neg (by omega)]
        rw [kQ_ (by rw [gQ_ hok2 (cc_ hx) h51];exact h51),gQ_ hok2 (cc_ hx) h51] at he;exact ⟨_,rfl,.inl ⟨by rw [he];exact h51,S8.like0,by rw [he];rfl⟩⟩
       ·
        refine j_ (hK15 _ _ (Rm Z Z (L_y (Y_ Tryz.underlying41 Z ao_ Z (S8.blk 1 Z) (gr_ (x.kind,x.p.l))) Z (L_o (ah_ (idB (x.kind,x.p.l)) te81 dK_ S8 Z Z Z (by simp [Value.cells,du_]) (by simp [Value.cells]) Z Z Z fun b9 w9 S9=>?_)))));refine L_o (ay_ te81 S9 0 Z Z Z (by first | exact S9.row 2 Z) (kY_ _) Z (by omega) (by omega) fun A10 c10 w10 S10=>?_);have S10d:=S10.drop (rs':=[_,_]) (.cons_cons _ (.cons_cons _ (.cons _ (.refl _))));refine Lan Z Z (hK13 _ _ (Rm Z Z (L_y (w_ Z Z (z_ (by omega))) Z (Lan Z Z (have S91:=S10d.sel [0] (by decide);have S92:=S91.rowc 0 Z (n':=k+1) (xs':=((its.map It.v).take (k+1)).flatMap idB) Z (la_ (cc_ hx)).symm;⟨k+1,_,_,by omega,⟨⟨by omega,fi_ (cc_ hx) hok2 (Classical.not_not.1 h51)⟩,S92⟩,?_⟩)))));exact (Sc Z (Sc Z (Sub.cons Z Z (Sub.cons Z Z (Sub.nil _)))))
      ·
       refine H_ dK_ S4 Z fun b11 w11 hb11 S11=>⟨S11.like0,(have S12:=S11.blkc 1 Z (cs':=bA zB) (by kernel_rfl);aX_ 10 (by kernel_rfl) Z (n_ Tryz.func24 Z Z (rname_ x.kind x.p.A x.p.n x.p.c x.p.l w11 (Rs.like hxo S12.like0) (by omega)) Z Z ?_))⟩;rintro e13 w13 ⟨v13,rfl,l13,rfl⟩;refine ⟨_,rfl,(have S13:=S12.like l13;⟨S13.like0,(aj_ 11 (by kernel_rfl) Z (p_ Z) Z (aj_ 12 (by kernel_rfl) Z (m_ Z Z) Z (aj_ 13 (by kernel_rfl) Z (m_ Z Z) Z (aX_ 15 (by kernel_rfl) Z (G_ S13 1 Z Z Z (by first | exact ao_ | (rw [size_bA,V_];exact ao_)) (by first | rfl | (rw [size_bA,size_bA,V_];rfl)) (Sha.eg_ _) fun w14 S14=>?_)))))⟩)⟩;refine ⟨S14.like0,(aj_ 16 (by kernel_rfl) Z (J_ Z) Z (cB_ (by kernel_rfl) (hK14 _ _ (a_ fun K18 hK18=>a_ fun K19 hK19=>Rm Z Z (L_y (ab_ Z Z) Z (f_ (hK19 _ _ ?_)))))))⟩;refine o_ Z (fun h51=>?_) (fun h51=>?_)
       ·
        refine a_ fun K20 hK20=>Rm Z Z (La Z Z (La Z Z (Lan Z Z (hK20 _ _ (l_ (ur (cN_ Z Z Z Z ?_)))))));have he:wrE chain (its.map It.v)=cf_ (its.map It.v):=by unfold wrE;rw [if_neg (by omega)]
        rw [kQ_ (by rw [gQ_ hok2 (cc_ hx) h51];exact h51),gQ_ hok2 (cc_ hx) h51] at he;exact ⟨_,rfl,.inl ⟨by rw [he];exact h51,S14.like0,by rw [he];rfl⟩⟩
       ·
        refine j_ (hK18 _ _ (Rm Z Z (L_y (Y_ Tryz.underlying41 Z ao_ Z (S14.blk 1 Z) (gr_ (x.kind,x.p.l))) Z (L_o (ah_ (idB (x.kind,x.p.l)) te81 dK_ S14 Z Z Z (by simp [Value.cells,du_]) (by simp [Value.cells]) Z Z Z fun b15 w15 S15=>?_)))));refine L_o (ay_ te81 S15 0 Z Z Z (by first | exact S15.row 2 Z) (kY_ _) Z (by omega) (by omega) fun A16 c16 w16 S16=>?_);have S16d:=S16.drop (rs':=[_,_]) (.cons_cons _ (.cons_cons _ (.cons _ (.refl _))));refine Lan Z Z (hK13 _ _ (Rm Z Z (L_y (w_ Z Z (z_ (by omega))) Z (Lan Z Z (have S91:=S16d.sel [0] (by decide);have S92:=S91.rowc 0 Z (n':=k+1) (xs':=((its.map It.v).take (k+1)).flatMap idB) Z (la_ (cc_ hx)).symm;⟨k+1,_,_,by omega,⟨⟨by omega,fi_ (cc_ hx) hok2 (Classical.not_not.1 h51)⟩,S92⟩,?_⟩)))));exact (Sc Z (Sc Z (Sub.cons Z Z (Sub.cons Z Z (Sub.nil _)))))
     ·
      obtain rfl:n=k:=by omega
      rw [List.take_of_length_le (by omega)] at hok2;have hall:=hok2;rw [List.take_of_length_le (by omega)] at S3;refine K_ (hK9 _ _ (a_ fun K21 hK21=>a_ fun K22 hK22=>b_ (Lan Z Z (hK22 _ _ (r_ ?_)))));refine an_ [(0,_),(1,_),(7,_)] (fun (k:Nat)=>[(11,.int .i64 (k:Int))]) (fun (k:Nat)=>n - k) (fun (k:Nat) (w:World)=>(k≤n∧∀ b a x y,a < b→b < k→(its.map It.v)[a]?=some x→(its.map It.v)[b]?=some y→aC_ x.1 x.2≠aC_ y.1 y.2)∧Zx.St w0 noM [row 41 32 A7 n c7 ((its.map It.v).flatMap idB)] w) 0 (Sc Z (Sub.nil _)) (Sub.cons Z Z (Sub.cons Z Z (Sub.cons Z Z (Sub.nil _)))) ?_ ?_
      ·
       exact ⟨⟨by omega,fun b a x y _ hb=>by omega⟩,S3.sel [0] (by decide)⟩
      ·
       intro k w17 hrel;obtain ⟨⟨hk,hd⟩,S17⟩:=hrel;refine a_ fun K23 hK23=>a_ fun K24 hK24=>Rm Z Z (Lm Z Z (L_y (I_ Tryz.underlying81 Z) Z (L_y (L_ Z Z) Z (f_ (hK24 _ _ ?_)))));refine o_ Z (fun h60=>?_) (fun h60=>?_)
       ·
        obtain ⟨y,hy⟩:∃ y,(its.map It.v)[k]?=some y:=⟨_,List.getElem?_eq_getElem (by omega)⟩;refine j_ (hK23 _ _ (a_ fun K25 hK25=>r_ (a_ fun K26 hK26=>b_ (Lan Z Z (hK26 _ _ (r_ ?_))))));refine an_ [(0,_),(1,_),(7,_),(11,_)] (fun (i:Nat)=>[(12,.int .i64 (i:Int))]) (fun (i:Nat)=>k - i) (fun (i:Nat) (w:World)=>(i≤k∧∀ a x,a < i→(its.map It.v)[a]?=some x→aC_ x.1 x.2≠aC_ y.1 y.2)∧Zx.St w0 noM [row 41 32 A7 n c7 ((its.map It.v).flatMap idB)] w) 0 (Sc Z (Sub.nil _)) (Sub.cons Z Z (Sub.cons Z Z (Sub.cons Z Z (Sub.cons Z Z (Sub.nil _))))) ?_ ?_
        ·
         exact ⟨⟨by omega,fun a x ha=>by omega⟩,S17⟩
        ·
         intro i w18 hrel;obtain ⟨⟨hi,hd2⟩,S18⟩:=hrel;refine a_ fun K27 hK27=>a_ fun K28 hK28=>Rm Z Z (Lm Z Z (L_y (L_ Z Z) Z (f_ (hK28 _ _ ?_))));refine o_ Z (fun h65=>?_) (fun h65=>?_)
         ·
          obtain ⟨z,hz⟩:∃ z,(its.map It.v)[i]?=some z:=⟨_,List.getElem?_eq_getElem (by omega)⟩;refine j_ (hK27 _ _ (a_ fun K29 hK29=>r_ (a_ fun K30 hK30=>ak_ [(0,true),(1,true),(2,true),(3,true),(4,true),(5,true),(6,true),(7,true),(8,true)] aS_ (by kernel_rfl) fun w19 l19=>have S19:=S18.like l19;u_ Z (p_ Z) Z (u_ Z (p_ Z) Z (u_ Z (T_ Tryz.underlying81 ao_ Z Z (S19.row 0 Z) inferInstance (by omega)) Z (u_ Z (cp_ (f:=idB) du_ Tryz.underlying41 Z ao_ Z (S19.row 0 Z) (by omega) hz) Z (u_ Z (p_ Z) Z (u_ Z (p_ Z) Z (u_ Z (T_ Tryz.underlying81 ao_ Z Z (S19.row 0 Z) inferInstance (by omega)) Z ?_)))))))));refine u_ Z (cp_ (f:=idB) du_ Tryz.underlying41 Z ao_ Z (S19.row 0 Z) (by omega) hy) Z (u_ Z (y_eqB Tryz.underlying41 Tryz.underlying5 sz5 (by kernel_rfl) Z Z (V_ _ _) (V_ _ _)) Z (aH_ (hK30 _ _ ?_)));refine o_ Z (fun h76=>?_) (fun h76=>?_)
          ·
           refine a_ fun K31 hK31=>b_ (La Z Z (La Z Z (Lan Z Z (hK31 _ _ (l_ (ur (cN_ Z Z Z Z ?_)))))));have he:wrE chain (its.map It.v)=cf_ (its.map It.v):=by unfold wrE;rw [if_neg (by omega)]
           rw [nameE_17 (fQ_ hall) (not_nd (by omega) hz hy h76)] at he;exact ⟨_,rfl,.inl ⟨by rw [he];decide,S19.like0,by rw [he]⟩⟩
          ·
           refine j_ (hK29 _ _ (Rm Z Z (L_y (w_ Z Z (z_ (by omega))) Z (Lan Z Z (⟨i+1,by omega,⟨⟨by omega,fun a x2 ha hx2=>by rcases Nat.lt_or_ge a i with q | q;exact hd2 a x2 q hx2;(obtain rfl:i=a:=by omega);rw [hz] at hx2;cases hx2;exact h76⟩,S19⟩,?_⟩)))));exact (Sc Z (Sub.cons Z Z (Sub.cons Z Z (Sub.cons Z Z (Sub.cons Z Z (Sub.nil _))))))
         ·
          obtain rfl:k=i:=by omega
          refine K_ (hK25 _ _ (Rm Z Z (L_y (w_ Z Z (z_ (by omega))) Z (Lan Z Z (⟨k+1,by omega,⟨⟨by omega,fun b a x y2 hab hb hx hy2=>by rcases Nat.lt_or_ge b k with q | q;exact hd b a x y2 hab q hx hy2;(obtain rfl:k=b:=by omega);rw [hy] at hy2;cases hy2;exact hd2 a x (by omega) hx⟩,S18⟩,?_⟩)))));exact (Sc Z (Sub.cons Z Z (Sub.cons Z Z (Sub.cons Z Z (Sub.nil _)))))
       ·
        obtain rfl:n=k:=by omega
        have hnd:(eR_ (its.map It.v)).Nodup:=nodup_of (fun b a x y hab hb hx hy=>hd b a x y hab (by omega) hx hy);have hlaid:=fun (hc8:chain≤8) (k:Nat) (hk:k≤n)=>gn_ hc8 (n:=n) hs3 (fun y hy=>ht_ (hall y hy)) k (by omega) (by omega);refine K_ (hK21 _ _ (a_ fun K32 hK32=>b_ (L_o (ah_ [_,_,_,_] ba_ zz5 S17 Z Z Z Z Z Z Z Z fun b20 w20 S20=>L_o (jr_ S20 1 Z Tryz.underlying22 Tryz.underlying5 Z (by omega) Z fun w21 S21=>L_o (n_ Tryz.func61 Z Z (Oct.jh_ (1) 4 w21 (by omega) (by omega)) Z Z ?_))))));rintro e22 w22 ⟨v22,rfl,l22,A22,m22,c22,rfl,O22⟩;refine ⟨_,rfl,?_⟩;have S22:=S21.adopt l22 O22;have hm22:=(S22.row 2 Z).lenb;rw [x_] at hm22;refine Lm Z Z (L_y (I_ Tryz.underlying56 Z) Z (L_y (P_ is3 Tryz.underlying102 Z (dg_ (by omega))) Z (L_o (n_ Tryz.func61 Z Z (Oct.jh_ (n) 4 w22 (by omega) (by omega)) Z Z ?_))));rintro e23 w23 ⟨v23,rfl,l23,A23,m23,c23,rfl,O23⟩;refine ⟨_,rfl,?_⟩;have S23:=S22.adopt l23 O23;have hm23:=(S23.row 3 Z).lenb;rw [x_] at hm23;refine L_o (ah_ [_,_,_] cS_ eW_ S23 Z Z Z Z Z Z Z Z fun b24 w24 S24=>L_o (n_ Tryz.func60 Z Z (gL_ _ _ _ [⟨_,4,4,[80,65,67,75]⟩,⟨_,_,_,tl 1 4⟩,⟨_,_,_,tl n 4⟩] (gT_ n) (by simp [cO_,gT_]) w24 (S24.row 4 Z) (okP.cons (p:=⟨_,4,4,[80,65,67,75]⟩) (S24.fix 1 Z) (by first | omega | (dsimp only;omega) | (simp only [List.length_append,List.length_cons,List.length_nil,x_];omega)) (okP.cons (p:=⟨_,_,_,tl 1 4⟩) (S24.row 2 Z) (by first | omega | (dsimp only;omega) | (simp only [List.length_append,List.length_cons,List.length_nil,x_];omega)) (okP.cons (p:=⟨_,_,_,tl n 4⟩) (S24.row 3 Z) (by first | omega | (dsimp only;omega) | (simp only [List.length_append,List.length_cons,List.length_nil,x_];omega)) (okP.nil _ _)))) (by simp)) Z Z ?_));rintro e25 w25 ⟨v25,rfl,l25,A25,c25,rfl,O25⟩;refine ⟨_,rfl,(have S25:=S24.adopt l25 O25;Lan Z Z (hK32 _ _ (a_ fun K33 hK33=>b_ (have S26:=S25.nilrow 125 34;Lan Z Z (hK33 _ _ (a_ fun K34 hK34=>b_ ?_))))))⟩;have S27:=S26.nilrow 3 1;refine Lan Z Z (hK34 _ _ (a_ fun K35 hK35=>a_ fun K36 hK36=>b_ (Lan Z Z (hK36 _ _ (r_ ?_)))));refine T_loop7 [(0,_),(1,_),(7,_)] (fun (k:Nat) (Ab:Option Addr) (cb:Nat) (Ao:Option Addr) (co:Nat) (Ad:Option Addr) (cd:Nat)=>[(16,.int .i64 (k:Int)),(13,.slice Ab (U_ chain n ((its.map It.v).take k)).bs.length cb),(14,.slice Ao k co),(15,.slice Ad k cd)]) (fun (k:Nat) (Ab:Option Addr) (cb:Nat) (Ao:Option Addr) (co:Nat) (Ad:Option Addr) (cd:Nat)=>n - k) (fun (k:Nat) (Ab:Option Addr) (cb:Nat) (Ao:Option Addr) (co:Nat) (Ad:Option Addr) (cd:Nat) (w:World)=>k≤n∧Zx.St w0 noM [row 41 32 A7 n c7 ((its.map It.v).flatMap idB),row 5 1 Ab (U_ chain n ((its.map It.v).take k)).bs.length cb (bL (U_ chain n ((its.map It.v).take k)).bs),row 125 34 Ao k co ((U_ chain n ((its.map It.v).take k)).os.flatMap plO),row 3 1 Ad k cd ((U_ chain n ((its.map It.v).take k)).os.map eV_)] w) 0 A25 c25 none 0 none 0 (Sc Z (Sc Z (Sc Z (Sc Z (Sub.nil _))))) (Sub.cons Z Z (Sub.cons Z Z (Sub.cons Z Z (Sub.nil _)))) ?_ ?_
        ·
         have S69:=S27.sel [0,5,6,7] (by decide);have S70:Zx.St w0 noM [row 41 32 A7 n c7 ((its.map It.v).flatMap idB),row 5 1 A25 (U_ chain n ((its.map It.v).take 0)).bs.length c25 (bL (U_ chain n ((its.map It.v).take 0)).bs),row 125 34 none 0 0 ((U_ chain n ((its.map It.v).take 0)).os.flatMap plO),row 3 1 none 0 0 ((U_ chain n ((its.map It.v).take 0)).os.map eV_)] w25:=S69.cast (by rw [List.take_zero];rfl);exact ⟨by omega,S70⟩
        ·
         intro k Ab cb Ao co Ad cd w28 hrel;obtain ⟨hk,S28⟩:=hrel;refine a_ fun K37 hK37=>a_ fun K38 hK38=>Rm Z Z (Lm Z Z (L_y (I_ Tryz.underlying56 Z) Z (L_y (L_ Z Z) Z (f_ (hK38 _ _ ?_)))));refine o_ Z (fun h89=>?_) (fun h89=>?_)
         ·
          obtain ⟨x,hx⟩:∃ x,its[k]?=some x:=⟨_,List.getElem?_eq_getElem (by omega)⟩;have hxo:=hok.at hx;have hxs:=hsm x (List.mem_of_getElem? hx);have hxb:=hxo.lenb;have hkd:=ht_ (hall _ (List.mem_of_getElem? (cc_ hx)));obtain ⟨i1,i2,i3⟩:=hinv k (by omega);obtain ⟨j1,j2,j3⟩:=hinv (k+1) (by omega);rw [bA_ (cc_ hx)] at j1 j2 j3;have hla:=hlaid (by omega) k (by omega);have ti:TI its (U_ chain n ((its.map It.v).take k)).os x:=⟨by rw [i1];exact ka_ (by omega),by rw [i1];exact hx⟩;have htl:=(fc_ (U_ chain n ((its.map It.v).take k)).os chain x.kind x.p.l).2;refine j_ (hK37 _ _ (a_ fun K39 hK39=>r_ (a_ fun K40 hK40=>Rm Z Z (Lm Z Z (Lm Z Z (Lm Z Z (L_o (n_ Tryz.func62 Z Z (told_ A n c Ad k cd its (U_ chain n ((its.map It.v).take k)).os x chain k i1 w28 (S28.rd hits) (S28.row 3 Z) ti (by omega) (OkI.like hok S28.like0) hsm) Z Z ?_))))))));rintro e29 w29 ⟨v29,rfl,l29,q,rfl,hq⟩;refine ⟨_,rfl,?_⟩;have S29:=S28.like l29;rcases (fc_ (U_ chain n ((its.map It.v).take k)).os chain x.kind x.p.l).1 with ⟨hr,_⟩ | ⟨k2,o,hr,ho,_,hod,_⟩
          ·
           obtain rfl:=q_eq hq hr;have hv:=hq.val;have hneg:(dR_ (U_ chain n ((its.map It.v).take k)).os chain x.kind x.p.l).1 < 0:=by omega
           have hva:=Oct.cw_ x.p.n (by omega);have hbs:(bR_ chain (U_ chain n ((its.map It.v).take k)) (x.kind,x.p.l)).bs=(U_ chain n ((its.map It.v).take k)).bs++([UInt8.ofNat x.kind.toNat]++(vr x.p.n++(tl (aU_ x.p.l).toNat 4++x.p.l))):=by unfold bR_;rw [lay_w (s:=(U_ chain n ((its.map It.v).take k))) (v:=(x.kind,x.p.l)) hneg, ← hv];unfold aP_;rw [hxb];simp only [List.append_assoc,List.nil_append,List.append_nil]
           have hos:(bR_ chain (U_ chain n ((its.map It.v).take k)) (x.kind,x.p.l)).os=(U_ chain n ((its.map It.v).take k)).os++[(⟨x.kind,x.p.l,0,(U_ chain n ((its.map It.v).take k)).bs.length,aU_ x.p.l⟩:Ob)]:=by unfold bR_;rw [lay_w (s:=(U_ chain n ((its.map It.v).take k))) (v:=(x.kind,x.p.l)) hneg, ← hv]
           refine Lm Z Z (L_y (m_ Z Z) Z (L_y (m_ Z Z) Z (La Z Z (Lan Z Z (hK40 _ _ (a_ fun K41 hK41=>Rm Z Z (L_o (n_ Tryz.func63 Z Z (rof x.p.A x.p.n x.p.c x.p.l w29 (Rs.like hxo S29.like0)) Z Z ?_))))))));rintro e30 w30 ⟨v30,rfl,l30,rfl⟩;refine ⟨_,rfl,(have S30:=S29.like l30;Lan Z Z (hK41 _ _ (a_ fun K42 hK42=>Rm Z Z (Lm Z Z (Lm Z Z (L_y (T_ Tryz.underlying81 ao_ Z Z (S30.row 0 Z) inferInstance (by omega)) Z (L_y (cp_ (f:=idB) du_ Tryz.underlying41 Z ao_ Z (S30.row 0 Z) (by omega) (cc_ hx)) Z (Lm Z Z (L_y (I_ Tryz.underlying22 Z) Z ?_)))))))))⟩;refine Lm Z Z (L_y (C_ Z (kx_ (V_ _ _) _ _)) Z (L_o (ah_ (plO (⟨x.kind,x.p.l,0,(U_ chain n ((its.map It.v).take k)).bs.length,aU_ x.p.l⟩:Ob)) te53 zz125 S30 Z Z Z (by simp [Value.cells,length_bL,V_]) (by simp [Value.cells,plO,Ob.id]) Z Z Z fun b31 w31 S31=>?_)));refine L_o (ay_ te53 S31 2 Z Z Z (by first | exact S31.row 1 Z | exact S31.row 2 Z | exact S31.row 3 Z | exact S31.row 4 Z) (fun u hu=>iA_ _ u hu) Z (by omega) (by omega) fun A32 c32 w32 S32=>?_);have S32d:=S32.drop (rs':=[_,_,_,_]) (.cons_cons _ (.cons_cons _ (.cons_cons _ (.cons_cons _ (.cons _ (.refl _))))));have S33:=S32d.rowc 2 Z (n':=k+1) (xs':=((U_ chain n ((its.map It.v).take k)).os++[(⟨x.kind,x.p.l,0,(U_ chain n ((its.map It.v).take k)).bs.length,aU_ x.p.l⟩:Ob)]).flatMap plO) Z (by simp);refine Lan Z Z (hK42 _ _ (a_ fun K43 hK43=>a_ fun K44 hK44=>Rm Z Z (L_y (L_ Z Z) Z (f_ (hK44 _ _ ?_)))));refine o_ Z (fun h114=>?_) (fun h114=>?_)
           ·
            refine a_ fun K45 hK45=>Rm Z Z (L_o (ah_ [_] eK_ zz3 S33 Z Z Z Z Z Z Z Z fun b34 w34 S34=>L_o (ay_ eK_ S34 3 Z Z Z (by first | exact S34.row 1 Z | exact S34.row 2 Z | exact S34.row 3 Z | exact S34.row 4 Z) (by first | exact R_ _ | exact bu_ _ | (intro u hu;simp at hu;subst hu;rfl) | (simp;done) | (simp [Value.oneCell'];done)) Z (by omega) (by omega) fun A35 c35 w35 S35=>?_)));have S35d:=S35.drop (rs':=[_,_,_,_]) (.cons_cons _ (.cons_cons _ (.cons_cons _ (.cons_cons _ (.cons _ (.refl _))))));refine Lan Z Z (hK45 _ _ (cH_ (fun w=>Like w0 w) aS_ (by kernel_rfl) (fun w l=>(S35d.like l).like0) fun w36 l36=>have S36:=S35d.like l36;aj_ 0 (by kernel_rfl) Z (p_ Z) Z (aj_ 1 (by kernel_rfl) Z (p_ Z) Z (aj_ 2 (by kernel_rfl) Z (p_ Z) Z (aj_ 3 (by kernel_rfl) Z (T_ Tryz.underlying56 ii_ Z Z (Rs.like hits S36.like0) inferInstance (by omega)) Z (aj_ 4 (by kernel_rfl) Z (aE_ 0 Tryz.underlying119 Z sz3 Z Z (Rs.like hits S36.like0) (by omega) Z) Z (aj_ 5 (by kernel_rfl) Z (eZ_ fun w hw=>cl_ Tryz.underlying3 Z Z (Rs.like hits hw) (by omega) ((by_ itf 2 bU_ its k x hx 0 (by omega)).trans (by rfl))) Z ?_)))))));refine aj_ 6 (by kernel_rfl) Z (P_ is3 Tryz.underlying5 Z (kindB hkd)) Z (aj_ 8 (by kernel_rfl) Z (p_ Z) Z (aj_ 9 (by kernel_rfl) Z (I_ Tryz.underlying22 Z) Z (aj_ 10 (by kernel_rfl) Z (P_ is3 Tryz.underlying102 Z (dg_ (by omega))) Z ?_)));refine jO_ 7 11 (by kernel_rfl) Z Z ?_ ?_
            ·
             refine ah_ [_] ba_ zz5 S36 Z Z Z Z Z Z Z Z fun b37 w37 S37=>⟨S37.like0,(aX_ 11 (by kernel_rfl) Z (n_ Tryz.func64 Z Z (Oct.dB_ (x.p.n) w37 (by omega)) Z Z ?_))⟩;rintro e38 w38 ⟨v38,rfl,l38,A38,m38,c38,rfl,O38⟩;refine ⟨_,rfl,(have S38:=S37.adopt l38 O38;have hm38:=(S38.row 5 Z).lenb;⟨S38.like0,(aX_ 12 (by kernel_rfl) Z (ah_ [_,_,_] cS_ eW_ S38 Z Z Z Z Z Z Z Z fun b39 w39 S39=>⟨S39.like0,(aX_ 13 (by kernel_rfl) Z (n_ Tryz.func60 Z Z (gL_ _ _ _ [⟨Ab,(U_ chain n ((its.map It.v).take k)).bs.length,cb,(U_ chain n ((its.map It.v).take k)).bs⟩,⟨_,1,1,[UInt8.ofNat x.kind.toNat]⟩,⟨_,_,_,vr x.p.n⟩] ((U_ chain n ((its.map It.v).take k)).bs++([UInt8.ofNat x.kind.toNat]++vr x.p.n)) (by simp [cO_]) w39 (S39.row 6 Z) (okP.cons (p:=⟨Ab,(U_ chain n ((its.map It.v).take k)).bs.length,cb,(U_ chain n ((its.map It.v).take k)).bs⟩) (S39.row 1 Z) (by first | omega | (dsimp only;omega) | (simp only [List.length_append,List.length_cons,List.length_nil,x_];omega)) (okP.cons (p:=⟨_,1,1,[UInt8.ofNat x.kind.toNat]⟩) (S39.row 4 Z) (by first | omega | (dsimp only;omega) | (simp only [List.length_append,List.length_cons,List.length_nil,x_];omega)) (okP.cons (p:=⟨_,_,_,vr x.p.n⟩) (S39.row 5 Z) (by first | omega | (dsimp only;omega) | (simp only [List.length_append,List.length_cons,List.length_nil,x_];omega)) (okP.nil _ _)))) (by simp)) Z Z ?_))⟩))⟩)⟩;rintro e40 w40 ⟨v40,rfl,l40,A40,c40,rfl,O40⟩;refine ⟨_,rfl,(have S40:=S39.adopt l40 O40;⟨S40.like0,(aj_ 14 (by kernel_rfl) Z (J_ Z) Z (cB_ (by kernel_rfl) (hK43 _ _ (a_ fun K46 hK46=>Rm Z Z (Lm Z Z (L_y (P_ is63 Tryz.underlying102 Z (lj_ _)) Z (L_o (n_ Tryz.func61 Z Z (Oct.jh_ ((aU_ x.p.l).toNat) 4 w40 (by have:=(aU_ x.p.l).toNat_lt;omega) (by omega)) Z Z ?_))))))))⟩)⟩;rintro e41 w41 ⟨v41,rfl,l41,A41,m41,c41,rfl,O41⟩;refine ⟨_,rfl,?_⟩;have S41:=S40.adopt l41 O41;have hm41:=(S41.row 8 Z).lenb;rw [x_] at hm41;refine Lm Z Z (L_o (ah_ [_,_,_] cS_ eW_ S41 Z Z Z Z Z Z Z Z fun b42 w42 S42=>L_o (n_ Tryz.func60 Z Z (gL_ _ _ _ [⟨_,_,_,(U_ chain n ((its.map It.v).take k)).bs++([UInt8.ofNat x.kind.toNat]++vr x.p.n)⟩,⟨_,_,_,tl (aU_ x.p.l).toNat 4⟩,x.p] ((bR_ chain (U_ chain n ((its.map It.v).take k)) (x.kind,x.p.l)).bs) (by rw [hbs];simp [cO_]) w42 (S42.row 9 Z) (okP.cons (p:=⟨_,_,_,(U_ chain n ((its.map It.v).take k)).bs++([UInt8.ofNat x.kind.toNat]++vr x.p.n)⟩) (S42.row 7 Z) (by first | omega | (dsimp only;omega) | (simp only [List.length_append,List.length_cons,List.length_nil,x_];omega)) (okP.cons (p:=⟨_,_,_,tl (aU_ x.p.l).toNat 4⟩) (S42.row 8 Z) (by first | omega | (dsimp only;omega) | (simp only [List.length_append,List.length_cons,List.length_nil,x_];omega)) (okP.cons (p:=x.p) (Rs.like hxo S42.like0) (by first | omega | (dsimp only;omega) | (simp only [List.length_append,List.length_cons,List.length_nil,x_];omega)) (okP.nil _ _)))) (by simp)) Z Z ?_)))
             rintro e43 w43 ⟨v43,rfl,l43,A43,c43,rfl,O43⟩;refine ⟨_,rfl,(have S43:=S42.adopt l43 O43;Lan Z Z (hK46 _ _ (a_ fun K47 hK47=>Rm Z Z (L_y (I_ Tryz.underlying22 Z) Z (L_y (w_ Z Z (z_ (by omega))) Z (L_y (Z_ Z Z) Z (f_ (hK47 _ _ ?_))))))))⟩;refine o_ Z (fun h169=>?_) (fun h169=>?_)
             ·
              omega
             ·
              refine j_ (hK39 _ _ (Rm Z Z (L_y (w_ Z Z (z_ (by omega))) Z (Lan Z Z ?_))));have S91:=S43.sel [0,10,2,3] (by decide);have S93:=S91.rowc 2 Z (n':=k+1) (xs':=(bR_ chain (U_ chain n ((its.map It.v).take k)) (x.kind,x.p.l)).os.flatMap plO) Z (by rw [hos]);have S94:=S93.rowc 3 Z (n':=k+1) (xs':=(bR_ chain (U_ chain n ((its.map It.v).take k)) (x.kind,x.p.l)).os.map eV_) Z (by rw [hos];simp [eV_]);rw [← bA_ (n:=n) (cc_ hx)] at S94;refine ⟨k+1,_,_,_,_,_,_,by omega,⟨by omega,S94⟩,?_⟩;exact (Sc Z (Sub.cons Z (by rw [bA_ (cc_ hx)]) (Sc Z (Sc Z (Sub.cons Z Z (Sub.cons Z Z (Sub.cons Z Z (Sub.nil _))))))))
            ·
             refine n_ Tryz.func64 Z Z (Oct.dB_ (x.p.n) w36 (by omega)) Z Z ?_;rintro e44 w44 ⟨v44,rfl,l44,A44,m44,c44,rfl,O44⟩;refine ⟨_,rfl,(have S44:=S36.adopt l44 O44;have hm44:=(S44.row 4 Z).lenb;⟨S44.like0,(aX_ 7 (by kernel_rfl) Z (ah_ [_] ba_ zz5 S44 Z Z Z Z Z Z Z Z fun b45 w45 S45=>⟨S45.like0,(aX_ 12 (by kernel_rfl) Z (ah_ [_,_,_] cS_ eW_ S45 Z Z Z Z Z Z Z Z fun b46 w46 S46=>⟨S46.like0,(aX_ 13 (by kernel_rfl) Z (n_ Tryz.func60 Z Z (gL_ _ _ _ [⟨Ab,(U_ chain n ((its.map It.v).take k)).bs.length,cb,(U_ chain n ((its.map It.v).take k)).bs⟩,⟨_,1,1,[UInt8.ofNat x.kind.toNat]⟩,⟨_,_,_,vr x.p.n⟩] ((U_ chain n ((its.map It.v).take k)).bs++([UInt8.ofNat x.kind.toNat]++vr x.p.n)) (by simp [cO_]) w46 (S46.row 6 Z) (okP.cons (p:=⟨Ab,(U_ chain n ((its.map It.v).take k)).bs.length,cb,(U_ chain n ((its.map It.v).take k)).bs⟩) (S46.row 1 Z) (by first | omega | (dsimp only;omega) | (simp only [List.length_append,List.length_cons,List.length_nil,x_];omega)) (okP.cons (p:=⟨_,1,1,[UInt8.ofNat x.kind.toNat]⟩) (S46.row 5 Z) (by first | omega | (dsimp only;omega) | (simp only [List.length_append,List.length_cons,List.length_nil,x_];omega)) (okP.cons (p:=⟨_,_,_,vr x.p.n⟩) (S46.row 4 Z) (by first | omega | (dsimp only;omega) | (simp only [List.length_append,List.length_cons,List.length_nil,x_];omega)) (okP.nil _ _)))) (by simp)) Z Z ?_))⟩))⟩))⟩)⟩;rintro e47 w47 ⟨v47,rfl,l47,A47,c47,rfl,O47⟩;refine ⟨_,rfl,(have S47:=S46.adopt l47 O47;⟨S47.like0,(aj_ 14 (by kernel_rfl) Z (J_ Z) Z (cB_ (by kernel_rfl) (hK43 _ _ (a_ fun K48 hK48=>Rm Z Z (Lm Z Z (L_y (P_ is63 Tryz.underlying102 Z (lj_ _)) Z (L_o (n_ Tryz.func61 Z Z (Oct.jh_ ((aU_ x.p.l).toNat) 4 w47 (by have:=(aU_ x.p.l).toNat_lt;omega) (by omega)) Z Z ?_))))))))⟩)⟩;rintro e48 w48 ⟨v48,rfl,l48,A48,m48,c48,rfl,O48⟩;refine ⟨_,rfl,?_⟩;have S48:=S47.adopt l48 O48;have hm48:=(S48.row 8 Z).lenb;rw [x_] at hm48;refine Lm Z Z (L_o (ah_ [_,_,_] cS_ eW_ S48 Z Z Z Z Z Z Z Z fun b49 w49 S49=>L_o (n_ Tryz.func60 Z Z (gL_ _ _ _ [⟨_,_,_,(U_ chain n ((its.map It.v).take k)).bs++([UInt8.ofNat x.kind.toNat]++vr x.p.n)⟩,⟨_,_,_,tl (aU_ x.p.l).toNat 4⟩,x.p] ((bR_ chain (U_ chain n ((its.map It.v).take k)) (x.kind,x.p.l)).bs) (by rw [hbs];simp [cO_]) w49 (S49.row 9 Z) (okP.cons (p:=⟨_,_,_,(U_ chain n ((its.map It.v).take k)).bs++([UInt8.ofNat x.kind.toNat]++vr x.p.n)⟩) (S49.row 7 Z) (by first | omega | (dsimp only;omega) | (simp only [List.length_append,List.length_cons,List.length_nil,x_];omega)) (okP.cons (p:=⟨_,_,_,tl (aU_ x.p.l).toNat 4⟩) (S49.row 8 Z) (by first | omega | (dsimp only;omega) | (simp only [List.length_append,List.length_cons,List.length_nil,x_];omega)) (okP.cons (p:=x.p) (Rs.like hxo S49.like0) (by first | omega | (dsimp only;omega) | (simp only [List.length_append,List.length_cons,List.length_nil,x_];omega)) (okP.nil _ _)))) (by simp)) Z Z ?_)))
             rintro e50 w50 ⟨v50,rfl,l50,A50,c50,rfl,O50⟩;refine ⟨_,rfl,(have S50:=S49.adopt l50 O50;Lan Z Z (hK48 _ _ (a_ fun K49 hK49=>Rm Z Z (L_y (I_ Tryz.underlying22 Z) Z (L_y (w_ Z Z (z_ (by omega))) Z (L_y (Z_ Z Z) Z (f_ (hK49 _ _ ?_))))))))⟩;refine o_ Z (fun h169=>?_) (fun h169=>?_)
             ·
              omega
             ·
              refine j_ (hK39 _ _ (Rm Z Z (L_y (w_ Z Z (z_ (by omega))) Z (Lan Z Z ?_))));have S91:=S50.sel [0,10,2,3] (by decide);have S93:=S91.rowc 2 Z (n':=k+1) (xs':=(bR_ chain (U_ chain n ((its.map It.v).take k)) (x.kind,x.p.l)).os.flatMap plO) Z (by rw [hos]);have S94:=S93.rowc 3 Z (n':=k+1) (xs':=(bR_ chain (U_ chain n ((its.map It.v).take k)) (x.kind,x.p.l)).os.map eV_) Z (by rw [hos];simp [eV_]);rw [← bA_ (n:=n) (cc_ hx)] at S94;refine ⟨k+1,_,_,_,_,_,_,by omega,⟨by omega,S94⟩,?_⟩;exact (Sc Z (Sub.cons Z (by rw [bA_ (cc_ hx)]) (Sc Z (Sc Z (Sub.cons Z Z (Sub.cons Z Z (Sub.cons Z Z (Sub.nil _))))))))
           ·
            omega
          ·
           have S51:=S28.adoptF l29 (q_fr hq (by omega));have hv:=hq.val;rw [← hv] at htl;have hqn:=hq.ok.lenb;have hva:=Oct.cw_ q.n (by omega);have hkl:=(List.getElem?_eq_some_iff.1 ho).1;have hao:=(hla.each _ _ ho).lt;have hvb:=Oct.cw_ ((U_ chain n ((its.map It.v).take k)).bs.length - o.at_) (by omega);have hbs:(bR_ chain (U_ chain n ((its.map It.v).take k)) (x.kind,x.p.l)).bs=(U_ chain n ((its.map It.v).take k)).bs++([5]++(vr q.n++(vr ((U_ chain n ((its.map It.v).take k)).bs.length - o.at_)++(tl (aU_ q.l).toNat 4++q.l)))):=by unfold bR_;rw [lay_m (s:=(U_ chain n ((its.map It.v).take k))) (v:=(x.kind,x.p.l)) hr ho, ← hv];unfold aP_;rw [hqn];simp only [List.append_assoc,List.nil_append,List.append_nil]
           have hos:(bR_ chain (U_ chain n ((its.map It.v).take k)) (x.kind,x.p.l)).os=(U_ chain n ((its.map It.v).take k)).os++[(⟨x.kind,x.p.l,o.dep+1,(U_ chain n ((its.map It.v).take k)).bs.length,aU_ q.l⟩:Ob)]:=by unfold bR_;rw [lay_m (s:=(U_ chain n ((its.map It.v).take k))) (v:=(x.kind,x.p.l)) hr ho, ← hv]
           refine Lm Z Z (L_y (m_ Z Z) Z (L_y (m_ Z Z) Z (La Z Z (Lan Z Z (hK40 _ _ (a_ fun K50 hK50=>Rm Z Z (L_o (n_ Tryz.func63 Z Z (rof q.A q.n q.c q.l w29 (S51.fix 4 Z)) Z Z ?_))))))));rintro e52 w52 ⟨v52,rfl,l52,rfl⟩;refine ⟨_,rfl,(have S52:=S51.like l52;Lan Z Z (hK50 _ _ (a_ fun K51 hK51=>Rm Z Z (Lm Z Z (Lm Z Z (L_y (T_ Tryz.underlying81 ao_ Z Z (S52.row 0 Z) inferInstance (by omega)) Z (L_y (cp_ (f:=idB) du_ Tryz.underlying41 Z ao_ Z (S52.row 0 Z) (by omega) (cc_ hx)) Z (Lm Z Z (L_y (I_ Tryz.underlying22 Z) Z ?_)))))))))⟩;refine Lm Z Z (L_y (C_ Z (kx_ (V_ _ _) _ _)) Z (L_o (ah_ (plO (⟨x.kind,x.p.l,o.dep+1,(U_ chain n ((its.map It.v).take k)).bs.length,aU_ q.l⟩:Ob)) te53 zz125 S52 Z Z Z (by simp [Value.cells,length_bL,V_]) (by simp [Value.cells,plO,Ob.id]) Z Z Z fun b53 w53 S53=>?_)));refine L_o (ay_ te53 S53 2 Z Z Z (by first | exact S53.row 1 Z | exact S53.row 2 Z | exact S53.row 3 Z | exact S53.row 5 Z) (fun u hu=>iA_ _ u hu) Z (by omega) (by omega) fun A54 c54 w54 S54=>?_);have S54d:=S54.drop (rs':=[_,_,_,_,_]) (.cons_cons _ (.cons_cons _ (.cons_cons _ (.cons_cons _ (.cons_cons _ (.cons _ (.refl _)))))));have S55:=S54d.rowc 2 Z (n':=k+1) (xs':=((U_ chain n ((its.map It.v).take k)).os++[(⟨x.kind,x.p.l,o.dep+1,(U_ chain n ((its.map It.v).take k)).bs.length,aU_ q.l⟩:Ob)]).flatMap plO) Z (by simp);have ho2:((U_ chain n ((its.map It.v).take k)).os++[(⟨x.kind,x.p.l,o.dep+1,(U_ chain n ((its.map It.v).take k)).bs.length,aU_ q.l⟩:Ob)])[k2]?=some o:=by rw [List.getElem?_append_left hkl];exact ho
           refine Lan Z Z (hK51 _ _ (a_ fun K52 hK52=>a_ fun K53 hK53=>Rm Z Z (L_y (L_ Z Z) Z (f_ (hK53 _ _ ?_)))));refine o_ Z (fun h114=>?_) (fun h114=>?_)
           ·
            omega
           ·
            refine a_ fun K54 hK54=>Rm Z Z (Lm Z Z (Lm Z Z (L_y (T_ Tryz.underlying111 sz3 Z Z (S55.row 3 Z) (Nt.mk (by omega):Nt _ (k2)) (by omega)) Z (L_y (cj_ Tryz.underlying3 Z Z (S55.row 3 Z) (iI_ ho)) Z (L_y (w_ Z Z (z_ (by omega))) Z (L_o (ah_ [_] eK_ zz3 S55 Z Z Z Z Z Z Z Z fun b56 w56 S56=>L_o (ay_ eK_ S56 3 Z Z Z (by first | exact S56.row 1 Z | exact S56.row 2 Z | exact S56.row 3 Z | exact S56.row 5 Z) (by first | exact R_ _ | exact bu_ _ | (intro u hu;simp at hu;subst hu;rfl) | (simp;done) | (simp [Value.oneCell'];done)) Z (by omega) (by omega) fun A57 c57 w57 S57=>?_))))))));have S57d:=S57.drop (rs':=[_,_,_,_,_]) (.cons_cons _ (.cons_cons _ (.cons_cons _ (.cons_cons _ (.cons_cons _ (.cons _ (.refl _)))))));refine Lan Z Z (hK54 _ _ (a_ fun K55 hK55=>Rm Z Z (L_y (I_ Tryz.underlying22 Z) Z (Lm Z Z (Lm Z Z (L_y (T_ Tryz.underlying53 sz125 Z Z (S57d.row 2 Z) (Nt.mk (by omega):Nt _ (k2)) (by omega)) Z (L_y (aE_ 32 Tryz.underlying125 Z sz3 Z Z (S57d.row 2 Z) (by omega) Z) Z (L_y (cl_ Tryz.underlying3 Z Z (S57d.row 2 Z) (by omega) ((by_ plO 34 es_ _ k2 o ho2 32 (by omega)).trans (jk_ o))) Z (L_y (ax_ Z Z (z_ (by omega))) Z (La Z Z ?_))))))))));refine f_ (hK55 _ _ (Rm Z Z (L_o (ah_ [_] ba_ zz5 S57d Z Z Z Z Z Z Z Z fun b58 w58 S58=>Lm Z Z (L_y (I_ Tryz.underlying22 Z) Z (L_y (P_ is3 Tryz.underlying102 Z (dg_ (by omega))) Z (L_o (n_ Tryz.func64 Z Z (Oct.dB_ (q.n) w58 (by omega)) Z Z ?_))))))));rintro e59 w59 ⟨v59,rfl,l59,A59,m59,c59,rfl,O59⟩;refine ⟨_,rfl,(have S59:=S58.adopt l59 O59;have hm59:=(S59.row 6 Z).lenb;Lm Z Z (L_y (P_ is3 Tryz.underlying102 Z (subU (by omega) (by omega))) Z (L_o (n_ Tryz.func64 Z Z (Oct.dB_ ((U_ chain n ((its.map It.v).take k)).bs.length - o.at_) w59 (by omega)) Z Z ?_))))⟩;rintro e60 w60 ⟨v60,rfl,l60,A60,m60,c60,rfl,O60⟩;refine ⟨_,rfl,(have S60:=S59.adopt l60 O60;have hm60:=(S60.row 7 Z).lenb;L_o (ah_ [_,_,_,_] cS_ eW_ S60 Z Z Z Z Z Z Z Z fun b61 w61 S61=>L_o (n_ Tryz.func60 Z Z (gL_ _ _ _ [⟨Ab,(U_ chain n ((its.map It.v).take k)).bs.length,cb,(U_ chain n ((its.map It.v).take k)).bs⟩,⟨_,1,1,[5]⟩,⟨_,_,_,vr q.n⟩,⟨_,_,_,vr ((U_ chain n ((its.map It.v).take k)).bs.length - o.at_)⟩] ((U_ chain n ((its.map It.v).take k)).bs++([5]++(vr q.n++vr ((U_ chain n ((its.map It.v).take k)).bs.length - o.at_)))) (by simp [cO_]) w61 (S61.row 8 Z) (okP.cons (p:=⟨Ab,(U_ chain n ((its.map It.v).take k)).bs.length,cb,(U_ chain n ((its.map It.v).take k)).bs⟩) (S61.row 1 Z) (by first | omega | (dsimp only;omega) | (simp only [List.length_append,List.length_cons,List.length_nil,x_];omega)) (okP.cons (p:=⟨_,1,1,[5]⟩) (S61.row 5 Z) (by first | omega | (dsimp only;omega) | (simp only [List.length_append,List.length_cons,List.length_nil,x_];omega)) (okP.cons (p:=⟨_,_,_,vr q.n⟩) (S61.row 6 Z) (by first | omega | (dsimp only;omega) | (simp only [List.length_append,List.length_cons,List.length_nil,x_];omega)) (okP.cons (p:=⟨_,_,_,vr ((U_ chain n ((its.map It.v).take k)).bs.length - o.at_)⟩) (S61.row 7 Z) (by first | omega | (dsimp only;omega) | (simp only [List.length_append,List.length_cons,List.length_nil,x_];omega)) (okP.nil _ _))))) (by simp)) Z Z ?_)))⟩
            rintro e62 w62 ⟨v62,rfl,l62,A62,c62,rfl,O62⟩;refine ⟨_,rfl,(have S62:=S61.adopt l62 O62;Lan Z Z (hK52 _ _ (a_ fun K56 hK56=>Rm Z Z (Lm Z Z (L_y (P_ is63 Tryz.underlying102 Z (lj_ _)) Z (L_o (n_ Tryz.func61 Z Z (Oct.jh_ ((aU_ q.l).toNat) 4 w62 (by have:=(aU_ q.l).toNat_lt;omega) (by omega)) Z Z ?_)))))))⟩;rintro e63 w63 ⟨v63,rfl,l63,A63,m63,c63,rfl,O63⟩;refine ⟨_,rfl,?_⟩;have S63:=S62.adopt l63 O63;have hm63:=(S63.row 10 Z).lenb;rw [x_] at hm63;refine Lm Z Z (L_o (ah_ [_,_,_] cS_ eW_ S63 Z Z Z Z Z Z Z Z fun b64 w64 S64=>L_o (n_ Tryz.func60 Z Z (gL_ _ _ _ [⟨_,_,_,(U_ chain n ((its.map It.v).take k)).bs++([5]++(vr q.n++vr ((U_ chain n ((its.map It.v).take k)).bs.length - o.at_)))⟩,⟨_,_,_,tl (aU_ q.l).toNat 4⟩,q] ((bR_ chain (U_ chain n ((its.map It.v).take k)) (x.kind,x.p.l)).bs) (by rw [hbs];simp [cO_]) w64 (S64.row 11 Z) (okP.cons (p:=⟨_,_,_,(U_ chain n ((its.map It.v).take k)).bs++([5]++(vr q.n++vr ((U_ chain n ((its.map It.v).take k)).bs.length - o.at_)))⟩) (S64.row 9 Z) (by first | omega | (dsimp only;omega) | (simp only [List.length_append,List.length_cons,List.length_nil,x_];omega)) (okP.cons (p:=⟨_,_,_,tl (aU_ q.l).toNat 4⟩) (S64.row 10 Z) (by first | omega | (dsimp only;omega) | (simp only [List.length_append,List.length_cons,List.length_nil,x_];omega)) (okP.cons (p:=q) (S64.fix 4 Z) (by first | omega | (dsimp only;omega) | (simp only [List.length_append,List.length_cons,List.length_nil,x_];omega)) (okP.nil _ _)))) (by simp)) Z Z ?_)));rintro e65 w65 ⟨v65,rfl,l65,A65,c65,rfl,O65⟩;refine ⟨_,rfl,(have S65:=S64.adopt l65 O65;Lan Z Z (hK56 _ _ (a_ fun K57 hK57=>Rm Z Z (L_y (I_ Tryz.underlying22 Z) Z (L_y (w_ Z Z (z_ (by omega))) Z (L_y (Z_ Z Z) Z (f_ (hK57 _ _ ?_))))))))⟩;refine o_ Z (fun h169=>?_) (fun h169=>?_)
            ·
             omega
            ·
             refine j_ (hK39 _ _ (Rm Z Z (L_y (w_ Z Z (z_ (by omega))) Z (Lan Z Z ?_))));have S91:=S65.sel [0,12,2,3] (by decide);have S93:=S91.rowc 2 Z (n':=k+1) (xs':=(bR_ chain (U_ chain n ((its.map It.v).take k)) (x.kind,x.p.l)).os.flatMap plO) Z (by rw [hos]);have S94:=S93.rowc 3 Z (n':=k+1) (xs':=(bR_ chain (U_ chain n ((its.map It.v).take k)) (x.kind,x.p.l)).os.map eV_) Z (by rw [hos];simp [eV_]);rw [← bA_ (n:=n) (cc_ hx)] at S94;refine ⟨k+1,_,_,_,_,_,_,by omega,⟨by omega,S94⟩,?_⟩;exact (Sc Z (Sub.cons Z (by rw [bA_ (cc_ hx)]) (Sc Z (Sc Z (Sub.cons Z Z (Sub.cons Z Z (Sub.cons Z Z (Sub.nil _))))))))
         ·
          obtain rfl:n=k:=by omega
          have hW:Written chain (its.map It.v):=written (by omega) (by omega) hs3 hall;rw [List.take_of_length_le (l:=(its.map It.v)) (by omega)] at S28;have e9:U_ chain n (its.map It.v)=bL_ chain (its.map It.v):=by unfold bL_;rw [hvl]
          rw [e9] at S28;rw [List.take_of_length_le (l:=(its.map It.v)) (by omega),e9];have hWl:=hW.hi;refine K_ (hK35 _ _ (a_ fun K58 hK58=>Rm Z Z (L_o (n_ Tryz.func65 Z Z (rclosed _ _ _ (bL_ chain (its.map It.v)).bs w28 (S28.row 1 Z) (by omega)) Z Z ?_))));rintro e66 w66 ⟨v66,rfl,l66,A66,c66,rfl,O66⟩;refine ⟨_,rfl,(have S66:=S28.adopt l66 O66;Lm Z Z (La Z Z (La Z Z (Lan Z Z (hK58 _ _ (l_ (ur (cN_ Z Z Z Z ?_))))))))⟩;have he:wrE chain (its.map It.v)=0:=by unfold wrE;rw [if_neg (by omega),kR_ (fQ_ hall) hnd]
          have S90:=S66.sel [4,2] (by decide);have S92:=S90.rowc 1 Z (n':=(its.map It.v).length) (xs':=(bL_ chain (its.map It.v)).os.flatMap plO) hvl.symm Z;refine ⟨_,rfl,.inr ⟨he,_,_,_,_,?_,S92⟩⟩;rw [hvl];rfl
end Pak
namespace Pak
open Go.RowKit Zk Zx
open Sha (N bC_ cu_ cZ_ dN_ dM_)
open Go.Proofs.YtgaklngnfecdaaaGreat.Obj (ad_ bG_ aC_ V_ az_ aL_ zB A_ aI_)
open Oct (vaN rwL rwP rwE rnL rnP rnE be vr tl x_)
open Del (scA opf OP OkO mkV bm_ cy_ ag_ bW_)
end Pak
namespace Pak
open Go.RowKit Zk Zx
open Sha (N bC_ cu_ cZ_ dN_ dM_)
open Go.Proofs.YtgaklngnfecdaaaGreat.Obj (ad_ bG_ aC_ V_ az_ aL_ zB A_ aI_)
open Oct (vaN rwL rwP rwE rnL rnP rnE be vr tl x_)
open Del (scA opf OP OkO mkV bm_ cy_ ag_ bW_)
end Pak
namespace Pak
open Go.RowKit Zk Zx
open Sha (N bC_ cu_ cZ_ dN_ dM_)
open Go.Proofs.YtgaklngnfecdaaaGreat.Obj (ad_ bG_ aC_ V_ az_ aL_ zB A_ aI_)
open Oct (vaN rwL rwP rwE rnL rnP rnE be vr tl x_)
open Del (scA opf OP OkO mkV bm_ cy_ ag_ bW_)
open Oct (xr xr_lt)
section
variable {d t : List UInt8} {a : Nat}
end
end Pak
namespace Del
open Go.RowKit Zk Zx Oct
end Del
namespace Pak
open Go.RowKit Zk Zx
open Sha (N bC_ cu_ cZ_ dN_ dM_)
open Go.Proofs.YtgaklngnfecdaaaGreat.Obj (ad_ bG_ aC_ V_ az_ aL_ zB A_ aI_)
open Oct (vaN rwL rwP rwE rnL rnP rnE be vr tl x_)
open Del (scA opf OP OkO mkV bm_ cy_ ag_ bW_)
end Pak
namespace Pak
open Go.RowKit Zk Zx
open Sha (N bC_ cu_ cZ_ dN_ dM_)
open Go.Proofs.YtgaklngnfecdaaaGreat.Obj (ad_ bG_ aC_ V_ az_ aL_ zB A_ aI_)
open Oct (vaN rwL rwP rwE rnL rnP rnE be vr tl x_)
open Del (scA opf OP OkO mkV bm_ cy_ ag_ bW_)
end Pak
namespace Pak
open Go.RowKit Zk Zx
open Sha (N bC_ cu_ cZ_ dN_ dM_)
open Go.Proofs.YtgaklngnfecdaaaGreat.Obj (ad_ bG_ aC_ V_ az_ aL_ zB A_ aI_)
open Oct (vaN rwL rwP rwE rnL rnP rnE be vr tl x_)
open Del (scA opf OP OkO mkV bm_ cy_ ag_ bW_)
end Pak
namespace Pak
open Go.RowKit Zk Zx
open Sha (N bC_ cu_ cZ_ dN_ dM_)
open Go.Proofs.YtgaklngnfecdaaaGreat.Obj (ad_ bG_ aC_ V_ az_ aL_ zB A_ aI_)
open Oct (vaN rwL rwP rwE rnL rnP rnE be vr tl x_)
open Del (scA opf OP OkO mkV bm_ cy_ ag_ bW_)
theorem plO_part {os:List Ob} {k:Nat} {o:Ob} (h:os[k]?=some o):((os.flatMap plO).drop (k*34+0)).take 32=bL o.id:=by
  rw [flat_part plO 34 es_ os k 0 32 o h (by omega)]
  exact (plO_id o).1
theorem sameP (A:Option Addr) (c:Nat) (A2:Option Addr) (c2:Nat) (os:List Ob) (w0:World) (hA:Rs w0 34 A os.length c (os.flatMap plO)) (hA2:Rs w0 34 A2 os.length c2 (os.flatMap plO)) :
    Calls Tryz.prog 31 #[.slice A os.length c,.slice A2 os.length c2] w0 fun e w'=>∃ u,e=.returned u∧Like w0 w'∧u=.bool true:=by
 refine v_ (env:=[(0,.slice A os.length c),(1,.slice A2 os.length c2)]) [.slice A os.length c,.slice A2 os.length c2] Tryz.func31 Z Tryz.ntmps31 Z Z ?_;have hcap:=hA.cap;have hmax:=hA.max;have hcap2:=hA2.cap;have hmax2:=hA2.max;have S0:=St.start w0 noM;refine a_ fun K1 hK1=>b_ (Lan Z Z (hK1 _ _ (a_ fun K2 hK2=>a_ fun K3 hK3=>Rm Z Z (L_y (I_ Tryz.underlying50 Z) Z (Lm Z Z (L_y (I_ Tryz.underlying53 Z) Z (L_y (ab_ Z Z) Z (f_ ?_))))))));refine hK3 _ _ ?_;refine o_ Z (fun h10=>?_) (fun h10=>?_)
 ·
  exact absurd Z h10
 ·
  refine j_ (hK2 _ _ (a_ fun K4 hK4=>a_ fun K5 hK5=>b_ (Lan Z Z (hK5 _ _ (r_ ?_)))));refine an_ [(0,_),(1,_)] (fun (k:Nat)=>[(5,.int .i64 (k:Int))]) (fun (k:Nat)=>os.length - k) (fun (k:Nat) (w:World)=>k≤os.length∧Zx.St w0 noM [] w) 0 (Sc Z (Sub.nil _)) (Sub.cons Z Z (Sub.cons Z Z (Sub.nil _))) ?_ ?_
  ·
   exact ⟨by omega,S0⟩
  ·
   intro k w1 hrel;obtain ⟨hk,S1⟩:=hrel;refine a_ fun K6 hK6=>a_ fun K7 hK7=>Rm Z Z (Lm Z Z (L_y (I_ Tryz.underlying50 Z) Z (L_y (L_ Z Z) Z (f_ (hK7 _ _ ?_)))));refine o_ Z (fun h14=>?_) (fun h14=>?_)
   ·
    obtain ⟨o,ho⟩:∃ o,os[k]?=some o:=⟨_,List.getElem?_eq_getElem (by omega)⟩;refine j_ (hK6 _ _ (a_ fun K8 hK8=>r_ (a_ fun K9 hK9=>ak_ [(0,true),(1,true),(2,true),(3,true),(4,true),(5,true),(6,true),(7,true),(8,true),(9,true),(10,true),(11,true),(12,true),(13,true),(14,true),(15,true),(16,true),(17,true),(18,true),(19,true),(20,true),(21,true),(22,true),(23,true),(24,true),(25,true),(26,true),(27,true),(28,true),(29,true),(30,true),(31,true),(32,true),(33,true),(34,true),(35,true),(36,true)] aS_ (by kernel_rfl) fun w2 l2=>have S2:=S1.like l2;u_ Z (p_ Z) Z (u_ Z (p_ Z) Z (u_ Z (T_ Tryz.underlying50 sz67 Z Z (S2.rd hA) inferInstance (by omega)) Z (u_ Z (aE_ 0 Tryz.underlying67 Z ao_ Z Z (S2.rd hA) (by omega) Z) Z (u_ Z (y_ldfN Tryz.underlying41 Z ao_ Z (S2.rd hA) (by omega) (plO_part ho) (by rw [length_bL,Ob.id_len])) Z ?_)))))));refine u_ Z (p_ Z) Z (u_ Z (p_ Z) Z (u_ Z (T_ Tryz.underlying53 sz125 Z Z (S2.rd hA2) inferInstance (by omega)) Z (u_ Z (aE_ 0 Tryz.underlying125 Z ao_ Z Z (S2.rd hA2) (by omega) Z) Z (u_ Z (y_ldfN Tryz.underlying41 Z ao_ Z (S2.rd hA2) (by omega) (plO_part ho) (by rw [length_bL,Ob.id_len])) Z ?_))));refine u_ Z (y_neB Tryz.underlying41 Tryz.underlying5 sz5 (by kernel_rfl) Z Z (Ob.id_len _) (Ob.id_len _)) Z (u_ Z (p_ Z) Z ?_);refine ek_ 28 Z (fun h28=>?_) (fun h28=>?_)
    ·
     exact absurd Z h28
    ·
     refine X_ Z Z Z (p_ Z) Z (X_ Z Z Z (p_ Z) Z (X_ Z Z Z (T_ Tryz.underlying50 sz67 Z Z (S2.rd hA) inferInstance (by omega)) Z (X_ Z Z Z (aE_ 32 Tryz.underlying67 Z sz3 Z Z (S2.rd hA) (by omega) Z) Z (X_ Z Z Z (cl_ Tryz.underlying3 Z Z (S2.rd hA) (by omega) ((by_ plO 34 es_ _ k o ho 32 (by omega)).trans (jk_ o))) Z (X_ Z Z Z (p_ Z) Z (X_ Z Z Z (p_ Z) Z (X_ Z Z Z (T_ Tryz.underlying53 sz125 Z Z (S2.rd hA2) inferInstance (by omega)) Z (X_ Z Z Z (aE_ 32 Tryz.underlying125 Z sz3 Z Z (S2.rd hA2) (by omega) Z) Z (X_ Z Z Z (cl_ Tryz.underlying3 Z Z (S2.rd hA2) (by omega) ((by_ plO 34 es_ _ k o ho 32 (by omega)).trans (jk_ o))) Z (X_ Z Z Z (ab_ Z Z) Z (u_ Z (gH_ Z Z) Z (u_ Z (p_ Z) Z ?_))))))))))));refine ek_ 41 Z (fun h41=>?_) (fun h41=>?_)
     ·
      exact absurd Z h41
     ·
      refine X_ Z Z Z (p_ Z) Z (X_ Z Z Z (p_ Z) Z (X_ Z Z Z (T_ Tryz.underlying50 sz67 Z Z (S2.rd hA) inferInstance (by omega)) Z (X_ Z Z Z (aE_ 33 Tryz.underlying67 Z bk_ Z Z (S2.rd hA) (by omega) Z) Z (X_ Z Z Z (cl_ Tryz.underlying63 Z Z (S2.rd hA) (by omega) ((by_ plO 34 es_ _ k o ho 33 (by omega)).trans (plOl o 1))) Z (X_ Z Z Z (p_ Z) Z (X_ Z Z Z (p_ Z) Z (X_ Z Z Z (T_ Tryz.underlying53 sz125 Z Z (S2.rd hA2) inferInstance (by omega)) Z (X_ Z Z Z (aE_ 33 Tryz.underlying125 Z bk_ Z Z (S2.rd hA2) (by omega) Z) Z (X_ Z Z Z (cl_ Tryz.underlying63 Z Z (S2.rd hA2) (by omega) ((by_ plO 34 es_ _ k o ho 33 (by omega)).trans (plOl o 1))) Z (X_ Z Z Z (ab_ Z Z) Z (u_ Z (gH_ Z Z) Z (aH_ (hK9 _ _ ?_)))))))))))));refine o_ Z (fun h53=>?_) (fun h53=>?_)
      ·
       exact absurd Z h53
      ·
       refine j_ (hK8 _ _ (Rm Z Z (L_y (w_ Z Z (z_ (by omega))) Z (Lan Z Z (⟨k+1,by omega,⟨by omega,S2⟩,?_⟩)))));exact (Sc Z (Sub.cons Z Z (Sub.cons Z Z (Sub.nil _))))
   ·
    refine K_ (hK4 _ _ (a_ fun K10 hK10=>b_ (Lan Z Z (hK10 _ _ (l_ (ur (F_ Z Z ?_)))))));exact ⟨_,rfl,S1.like0,rfl⟩
end Pak
namespace Pak
open Go.RowKit Zk Zx
open Sha (N bC_ cu_ cZ_ dN_ dM_)
open Go.Proofs.YtgaklngnfecdaaaGreat.Obj (ad_ bG_ aC_ V_ az_ aL_ zB A_ aI_)
open Oct (vaN rwL rwP rwE rnL rnP rnE be vr tl x_)
open Del (scA opf OP OkO mkV bm_ cy_ ag_ bW_)
theorem write_nW {A:Option Addr} {n c:Nat} {its:List It} {chain:Int} {w0:World} (hits:Rs w0 2 A n c (its.flatMap itf)) (hok:OkI w0 its) (hs:gc_ its) (he:wrE chain (its.map It.v)≠0) :
    Calls Tryz.prog 28 #[.slice A n c,.int .i64 chain] w0 fun e w'=>∃ u,e=.returned u∧Like w0 w'∧u=.tuple #[.slice none 0 0,.slice none 0 0,.int .i64 (wrE chain (its.map It.v))] :=
  (write_ hits hok hs).mono fun e w' ⟨u,h1,h2⟩=>⟨u,h1,by rcases h2 with ⟨_,h3,h4⟩ | ⟨h3,_⟩;exact ⟨h3,h4⟩;exact absurd h3 he⟩
theorem rwrite_no {A:Option Addr} {n c:Nat} {its:List It} {chain:Int} {w0:World} (hits:Rs w0 2 A n c (its.flatMap itf)) (hok:OkI w0 its) (hs:gc_ its) (he:wrE chain (its.map It.v)≠0) :
    Calls Tryz.prog 29 #[.slice A n c,.int .i64 chain] w0 fun e w'=>∃ u,e=.returned u∧Like w0 w'∧u=.tuple #[.slice none 0 0,.slice none 0 0,.int .i64 (wrE chain (its.map It.v))] :=
  (rwrite A n c its chain w0 hits hok hs.2 hs.1).mono fun e w' ⟨u,h1,h2⟩=>⟨u,h1,by rcases h2 with ⟨_,h3,h4⟩ | ⟨h3,_⟩;exact ⟨h3,h4⟩;exact absurd h3 he⟩
theorem rwrite_yes {w0 w':World} {chain:Int} {l:List IV} {u:Value} (h:WriteR w0 w' chain l u) (he:wrE chain l=0):∃ A c A2 c2,u=.tuple #[.slice A (cs_ chain l).length c,.slice A2 l.length c2,.int .i64 0]∧Zx.St w0 noM [row 5 1 A (cs_ chain l).length c (bL (cs_ chain l)),row 125 34 A2 l.length c2 ((bL_ chain l).os.flatMap plO)] w':=by
  rcases h with ⟨h,_⟩ | ⟨_,h⟩
  · exact absurd he h
  · exact h
theorem sameP_ (A:Option Addr) (c:Nat) (A2:Option Addr) (c2:Nat) (os:List Ob) (k:Nat) (hk:os.length=k) (w0:World) (hA:Rs w0 34 A k c (os.flatMap plO)) (hA2:Rs w0 34 A2 k c2 (os.flatMap plO)) :
    Calls Tryz.prog 31 #[.slice A k c,.slice A2 k c2] w0 fun e w'=>∃ u,e=.returned u∧Like w0 w'∧u=.bool true:=by
  subst hk
  exact sameP A c A2 c2 os w0 hA hA2
theorem lwrites0 (A:Option Addr) (n c:Nat) (its:List It) (chain:Int) (w0:World) (hits:Rs w0 2 A n c (its.flatMap itf)) (hok:OkI w0 its) (hsm:¬ gc_ its) :
    Calls Tryz.prog 6 #[.slice A n c,.int .i64 chain] w0 fun e w'=>∃ u,e=.returned u∧Like w0 w'∧u=.bool true:=by
 refine v_ (env:=[(0,.slice A n c),(1,.int .i64 chain)]) [.slice A n c,.int .i64 chain] Tryz.func6 Z Tryz.ntmps6 Z Z ?_;have hn:=cL_ hits;have hcap:=hits.cap;have hmax:=hits.max;have S0:=St.start w0 noM;refine a_ fun K1 hK1=>b_ (Lan Z Z (hK1 _ _ (a_ fun K2 hK2=>a_ fun K3 hK3=>Rm Z Z (L_o (n_ Tryz.func26 Z Z (small A n c its w0 (S0.rd hits)) Z Z ?_)))));rintro e1 w1 ⟨v1,rfl,l1,b,rfl,hb⟩;refine ⟨_,rfl,?_⟩;have S1:=S0.like l1;obtain rfl:b=false:=by cases b;rfl;exact absurd (hb.1 Z) hsm
 refine L_y ((by first | exact aA_ Z | exact aZ_ Z)) Z ?_;refine f_ (hK3 _ _ (W_ Z (a_ fun K4 hK4=>b_ (L_o (n_ Tryz.func27 Z Z (works w1) Z Z ?_)))));rintro e2 w2 ⟨v2,rfl,l2,rfl⟩;refine ⟨_,rfl,(have S2:=S1.like l2;Lan Z Z (hK4 _ _ (l_ (ur (F_ Z Z ?_)))))⟩;exact ⟨_,rfl,S2.like0,rfl⟩
theorem lwrites1 (A:Option Addr) (n c:Nat) (its:List It) (chain:Int) (w0:World) (hits:Rs w0 2 A n c (its.flatMap itf)) (hok:OkI w0 its) (hsm:gc_ its) (hwr:wrE chain (its.map It.v)≠0) :
    Calls Tryz.prog 6 #[.slice A n c,.int .i64 chain] w0 fun e w'=>∃ u,e=.returned u∧Like w0 w'∧u=.bool true:=by
 refine v_ (env:=[(0,.slice A n c),(1,.int .i64 chain)]) [.slice A n c,.int .i64 chain] Tryz.func6 Z Tryz.ntmps6 Z Z ?_;have hn:=cL_ hits;have hcap:=hits.cap;have hmax:=hits.max;have h24:=hsm.1;have S0:=St.start w0 noM;refine a_ fun K1 hK1=>b_ (Lan Z Z (hK1 _ _ (a_ fun K2 hK2=>a_ fun K3 hK3=>Rm Z Z (L_o (n_ Tryz.func26 Z Z (small A n c its w0 (S0.rd hits)) Z Z ?_)))));rintro e1 w1 ⟨v1,rfl,l1,b,rfl,hb⟩;refine ⟨_,rfl,?_⟩;have S1:=S0.like l1;obtain rfl:b=true:=hb.2 hsm;refine L_y ((by first | exact aA_ Z | exact aZ_ Z)) Z ?_;refine f_ (hK3 _ _ (aW_ Z (j_ (hK2 _ _ (a_ fun K4 hK4=>Rm Z Z (Lm Z Z (L_o (n_ Tryz.func28 Z Z (write_nW (S1.rd hits) (OkI.like hok S1.like0) hsm hwr) Z Z ?_))))))));rintro e2 w2 ⟨v2,rfl,l2,rfl⟩;refine ⟨_,rfl,(have S2:=S1.like l2;Lm Z Z (L_y (m_ Z Z) Z (L_y (m_ Z Z) Z (L_y (m_ Z Z) Z (La Z Z (La Z Z (Lan Z Z (hK4 _ _ (a_ fun K5 hK5=>Rm Z Z ?_)))))))))⟩;refine L_o (n_ Tryz.func30 Z Z (plain A n c its w2 (S2.rd hits) (by omega)) Z Z ?_);rintro e3 w3 ⟨v3,rfl,l3,A3,c3,rfl,O3⟩;refine ⟨_,rfl,(have S3:=S2.adopt l3 O3;Lm Z Z (L_o (n_ Tryz.func29 Z Z (rwrite_no (S3.row 0 Z) (OkI.like hok S3.like0) hsm hwr) Z Z ?_)))⟩;rintro e4 w4 ⟨v4,rfl,l4,rfl⟩;refine ⟨_,rfl,(have S4:=S3.like l4;Lm Z Z (L_y (m_ Z Z) Z (L_y (m_ Z Z) Z (L_y (m_ Z Z) Z (La Z Z (La Z Z (Lan Z Z (hK5 _ _ (a_ fun K6 hK6=>Rm Z Z ?_)))))))))⟩;refine Lm Z Z (L_o (n_ Tryz.func14 Z Z (Oct.same none none 0 0 0 0 [] [] w4 (Rs.nil _ _) (Rs.nil _ _)) Z Z ?_));rintro e5 w5 ⟨v5,rfl,l5,rfl⟩;refine ⟨_,rfl,(have S5:=S4.like l5;Lm Z Z ?_)⟩;refine y_ 33 Z (fun h33=>?_) (fun h33=>?_)
 ·
  refine d_ Z Z (Lm Z Z (d_ Z Z (Lm Z Z (d_ Z Z (L_o (n_ Tryz.func31 Z Z (sameP_ none 0 none 0 [] 0 Z w5 (Rs.nil _ _) (Rs.nil _ _)) Z Z ?_))))));rintro e7 w7 ⟨v7,rfl,l7,rfl⟩;refine ⟨_,rfl,(have S7:=S5.like l7;Lp Z Z Z (Lm Z Z (d_ Z Z (Lm Z Z (d_ Z Z (Lm Z Z (d_ Z Z (L_y (am_ Z Z) Z (Lp Z Z Z (Lm Z Z ?_))))))))))⟩;refine y_ 43 Z (fun h43=>?_) (fun h43=>?_)
  ·
   refine d_ Z Z (L_o (n_ Tryz.func27 Z Z (works w7) Z Z ?_));rintro e9 w9 ⟨v9,rfl,l9,rfl⟩;refine ⟨_,rfl,(have S9:=S7.like l9;Lp Z Z Z (Lan Z Z (hK6 _ _ (l_ (ur (F_ Z Z ?_))))))⟩;exact ⟨_,rfl,S9.like0,rfl⟩
  ·
   exact absurd Z h43
 ·
  exact absurd Z h33
theorem lwrites2 (A:Option Addr) (n c:Nat) (its:List It) (chain:Int) (w0:World) (hits:Rs w0 2 A n c (its.flatMap itf)) (hok:OkI w0 its) (hsm:gc_ its) (hwr:wrE chain (its.map It.v)=0) (hWr:Written chain (its.map It.v)) :
    Calls Tryz.prog 6 #[.slice A n c,.int .i64 chain] w0 fun e w'=>∃ u,e=.returned u∧Like w0 w'∧u=.bool true:=by
 refine v_ (env:=[(0,.slice A n c),(1,.int .i64 chain)]) [.slice A n c,.int .i64 chain] Tryz.func6 Z Tryz.ntmps6 Z Z ?_;have hn:=cL_ hits;have hcap:=hits.cap;have hmax:=hits.max;have h24:=hsm.1;have S0:=St.start w0 noM;refine a_ fun K1 hK1=>b_ (Lan Z Z (hK1 _ _ (a_ fun K2 hK2=>a_ fun K3 hK3=>Rm Z Z (L_o (n_ Tryz.func26 Z Z (small A n c its w0 (S0.rd hits)) Z Z ?_)))));rintro e1 w1 ⟨v1,rfl,l1,b,rfl,hb⟩;refine ⟨_,rfl,?_⟩;have S1:=S0.like l1;obtain rfl:b=true:=hb.2 hsm;refine L_y ((by first | exact aA_ Z | exact aZ_ Z)) Z ?_;refine f_ (hK3 _ _ (aW_ Z (j_ (hK2 _ _ (a_ fun K4 hK4=>Rm Z Z (Lm Z Z (L_o (n_ Tryz.func28 Z Z (write_ (S1.rd hits) (OkI.like hok S1.like0) hsm) Z Z ?_))))))));rintro e2 w2 ⟨v2,rfl,hW2⟩;refine ⟨_,rfl,?_⟩;have S2:=S1;obtain ⟨A2,c2,B2,d2,rfl,T2⟩:=jU_ hW2 hwr;have S3:=S1.adoptS T2;refine Lm Z Z (L_y (m_ Z Z) Z (L_y (m_ Z Z) Z (L_y (m_ Z Z) Z (La Z Z (La Z Z (Lan Z Z (hK4 _ _ (a_ fun K5 hK5=>Rm Z Z (L_o (n_ Tryz.func30 Z Z (plain A n c its w2 (S3.rd hits) (by omega)) Z Z ?_))))))))));rintro e4 w4 ⟨v4,rfl,l4,A4,c4,rfl,O4⟩;refine ⟨_,rfl,(have S4:=S3.adopt l4 O4;Lm Z Z (L_o (n_ Tryz.func29 Z Z (rwrite _ n _ its chain w4 (S4.row 2 Z) (OkI.like hok S4.like0) hsm.2 hsm.1) Z Z ?_)))⟩;rintro e5 w5 ⟨v5,rfl,hW5⟩;refine ⟨_,rfl,?_⟩;have S5:=S4;obtain ⟨A5,c5,B5,d5,rfl,T5⟩:=rwrite_yes hW5 hwr;have S6:=S4.adoptS T5;refine Lm Z Z (L_y (m_ Z Z) Z (L_y (m_ Z Z) Z (L_y (m_ Z Z) Z (La Z Z (La Z Z (Lan Z Z (hK5 _ _ (a_ fun K6 hK6=>Rm Z Z (Lm Z Z (L_o (n_ Tryz.func14 Z Z (Oct.same _ _ _ _ _ _ (cs_ chain (its.map It.v)) (cs_ chain (its.map It.v)) w5 (S6.row 0 Z) (S6.row 3 Z)) Z Z ?_)))))))))));rintro e7 w7 ⟨v7,rfl,l7,rfl⟩;refine ⟨_,rfl,(have S7:=S6.like l7;Lm Z Z ?_)⟩;refine y_ 33 Z (fun h33=>?_) (fun h33=>?_)
 ·
  refine d_ Z Z (Lm Z Z (d_ Z Z (Lm Z Z (d_ Z Z (L_o (n_ Tryz.func31 Z Z (sameP_ _ _ _ _ (bL_ chain (its.map It.v)).os _ hWr.cnt w7 (S7.row 1 Z) (S7.row 4 Z)) Z Z ?_))))));rintro e9 w9 ⟨v9,rfl,l9,rfl⟩;refine ⟨_,rfl,(have S9:=S7.like l9;Lp Z Z Z (Lm Z Z (d_ Z Z (Lm Z Z (d_ Z Z (Lm Z Z (d_ Z Z (L_y (am_ Z Z) Z (Lp Z Z Z (Lm Z Z ?_))))))))))⟩;refine y_ 43 Z (fun h43=>?_) (fun h43=>?_)
  ·
   refine d_ Z Z (L_o (n_ Tryz.func27 Z Z (works w9) Z Z ?_));rintro e11 w11 ⟨v11,rfl,l11,rfl⟩;refine ⟨_,rfl,(have S11:=S9.like l11;Lp Z Z Z (Lan Z Z (hK6 _ _ (l_ (ur (F_ Z Z ?_))))))⟩;exact ⟨_,rfl,S11.like0,rfl⟩
  ·
   exact absurd Z h43
 ·
  exact absurd Z h33
theorem lwrites (A:Option Addr) (n c:Nat) (its:List It) (chain:Int) (w0:World) (hits:Rs w0 2 A n c (its.flatMap itf)) (hok:OkI w0 its) :
    Calls Tryz.prog 6 #[.slice A n c,.int .i64 chain] w0 fun e w'=>e=.returned (.bool true)∧Like w0 w':=by
  have key:Calls Tryz.prog 6 #[.slice A n c,.int .i64 chain] w0 fun e w'=>∃ u,e=.returned u∧Like w0 w'∧u=.bool true:=by
    by_cases hsm:gc_ its
    · by_cases hwr:wrE chain (its.map It.v)=0
      · have hch:¬ (chain < 0∨8 < chain):=fun q=>by unfold wrE at hwr;rw [if_pos q] at hwr;cases hwr
        have hne:cf_ (its.map It.v)=0:=by unfold wrE at hwr;rwa [if_neg hch] at hwr
        refine lwrites2 A n c its chain w0 hits hok hsm hwr (written (by omega) (by rw [List.length_map];exact hsm.1) (fun x hx=>?_) (nameE_ok hne).1)
        obtain ⟨y,hy,rfl⟩:=List.mem_map.1 hx
        have h1:=(hok y hy).lenb
        have h2:=hsm.2 y hy
        show y.p.l.length≤300
        omega
      · exact lwrites1 A n c its chain w0 hits hok hsm hwr
    · exact lwrites0 A n c its chain w0 hits hok hsm
  exact key.mono fun e w' ⟨u,h1,h2,h3⟩=>⟨by rw [h1,h3],h2⟩
end Pak
end Go.Proofs.YtgaklngnfecdaaaGreat
