import Derived.Test.YtgaklngnfecdaaaGreatMgPWrites4
import Derived.Test.YtgaklngnfecdaaaGreatMgPWrites5
import Derived.Test.YtgaklngnfecdaaaGreatMgPWrites2
import Derived.Test.YtgaklngnfecdaaaGreatMgPWrites1
set_option linter.unusedSimpArgs false
set_option linter.unusedVariables false
set_option maxRecDepth 100000
set_option maxHeartbeats 2000000
namespace Go.Proofs.YtgaklngnfecdaaaGreat
namespace Rev
open Go.RowKit Zk Zx
open Oid (idf hexL B_ aN_)
open Tre (aw_)
theorem rgetB (B:Option Addr) (m0 d:Nat) (s:List UInt8) (w0:World) (hb:Rs w0 1 B m0 d (bL s)) (hl:s.length≤90000) :
    Calls Tryz.prog 42 #[.slice B m0 d] w0 fun e w'=>∃ u,e=.returned u∧Like w0 w'∧∃ A c,Fr w0 w' 32 A (ea_ s).ps.length c ((ea_ s).ps.flatMap idf)∧u=.tuple #[.agg (cmf (cmOf (ea_ s) A (ea_ s).ps.length c)).toArray,.int .i64 (gF_ s)]:=by
 refine v_ (env:=[(0,.slice B m0 d)]) [.slice B m0 d] Tryz.func42 Z Tryz.ntmps42 Z Z ?_;have S0:=St.start w0 noM;refine a_ fun K1 hK1=>b_ (L_o (H_ zz83 S0 Z fun b1 w1 hb1 S1=>Lan Z Z (hK1 _ _ (a_ fun K2 hK2=>b_ (L_o (H_ zz83 S1 Z fun b2 w2 hb2 S2=>have S3:Zx.St w0 noM [blk b1 83 (cmf zCm).toArray,blk b2 83 (cmf zCm).toArray] w2:=S2.cast (by kernel_rfl);f_ (hK2 _ _ (a_ fun K3 hK3=>b_ ?_))))))));refine Lm Z Z (L_y (co_ Tryz.underlying22 Tryz.underlying5 Tryz.underlying9 Z (by first | exact S3.rd hb)) Z ?_);refine L_o (n_ Tryz.func78 Z Z (gC_ s gA_ w2 (by omega) (by decide)) Z Z ?_);rintro e4 w4 ⟨v4,rfl,l4,hu4⟩;refine ⟨_,rfl,?_⟩;have S4:=S3.like l4;obtain ⟨ta,s1,f1,hvf1,h1f1,h0f1,hlf1,hmf1⟩:=dt_ gA_ s;rw [hvf1] at hu4;subst hu4;refine Lm Z Z (L_y (m_ Z Z) Z (L_y (m_ Z Z) Z (L_y (m_ Z Z) Z (La Z Z (La Z Z (Lan Z Z (hK3 _ _ (a_ fun K4 hK4=>Rm Z Z (L_o (n_ Tryz.func79 Z Z (rreadN ta w4) Z Z ?_))))))))));rintro e5 w5 ⟨v5,rfl,l5,t,ht,rfl⟩;refine ⟨_,rfl,(have S5:=S4.like l5;Lm Z Z (L_y (m_ Z Z) Z (L_y (m_ Z Z) Z (L_o (H_ dK_ S5 Z fun b6 w6 hb6 S6=>L_o (G_ S6 2 Z Z Z (by rw [List.size_toArray,B_];exact ao_) (by rw [List.size_toArray,B_];simp [Value.cells,B_]) (fun u hu=>R_ _ u (by rw [List.toList_toArray] at hu;exact hu)) fun w7 S7=>?_))))))⟩;refine Lan Z Z (hK4 _ _ (a_ fun K5 hK5=>a_ fun K6 hK6=>Rm Z Z (L_y ((by first | exact aA_ Z | exact aZ_ Z)) Z ?_)));refine Lm Z Z ?_;refine ch_ 26 Z (fun h26=>?_) (fun h26=>?_)
 ·
  refine h_ Z Z Z (h_ Z Z Z (Lp Z Z Z (f_ (hK6 _ _ (W_ Z (a_ fun K7 hK7=>b_ (L_y (C_ Z (show _=some (cmf zCm).toArray by kernel_rfl)) Z (L_o (G_ S7 0 Z Z Z (by rw [D_];exact bg_) (by first | (rw [D_];done) | (rw [D_];rfl)) (fun u hu=>aY_ _ u (by rw [List.toList_toArray] at hu;exact hu)) fun w9 S9=>?_)))))))));refine Lan Z Z (hK7 _ _ (l_ (ur (af_ Z Z Z (S9.blk 0 Z) Tryz.underlying83 Z (by rw [D_];exact bg_) ?_))));exact aJ_ S9.like0 (g1 (hX_ h1f1 h0f1 (by first | exact .inl (by simpa using h26) | exact .inr h29)))
 ·
  refine d_ Z Z (Lm Z Z (d_ Z Z (L_y (ab_ Z Z) Z (Lp Z Z Z (f_ (hK6 _ _ ?_))))));refine o_ Z (fun h29=>?_) (fun h29=>?_)
  ·
   refine a_ fun K8 hK8=>b_ (L_y (C_ Z (show _=some (cmf zCm).toArray by kernel_rfl)) Z (L_o (G_ S7 0 Z Z Z (by rw [D_];exact bg_) (by first | (rw [D_];done) | (rw [D_];rfl)) (fun u hu=>aY_ _ u (by rw [List.toList_toArray] at hu;exact hu)) fun w10 S10=>?_)));refine Lan Z Z (hK8 _ _ (l_ (ur (af_ Z Z Z (S10.blk 0 Z) Tryz.underlying83 Z (by rw [D_];exact bg_) ?_))));exact aJ_ S10.like0 (g1 (hX_ h1f1 h0f1 (by first | exact .inl (by simpa using h26) | exact .inr h29)))
  ·
   have hid:=kW_ ht h1f1 (by simpa using h26) (Classical.byContradiction fun e=>h29 e);have hl1:=hmf1 (by simpa using h26);refine j_ (hK5 _ _ (a_ fun K9 hK9=>b_ (L_y (Y_ Tryz.underlying41 Z ao_ Z (S7.blk 2 Z) (⟨by rw [List.drop_zero];exact List.take_of_length_le (by simp [B_]),by rw [B_]⟩:_=idf _∧_)) Z ?_)));refine L_y (g_ 0 Tryz.underlying83 Z ao_ Z Z Z) Z (L_o (jo_ S7 1 Z Z Z (by rw [List.size_toArray,B_];exact ao_) (by rw [List.size_toArray,B_,D_];omega) (fun u hu=>R_ _ u (by rw [List.toList_toArray] at hu;exact hu)) fun w11 S11=>?_));have S12:=S11.blkc 1 Z (st_tree _ _);refine f_ (hK9 _ _ (a_ fun K10 hK10=>r_ ?_));refine T_loop7 [(2,_),(4,_),(8,_)] (fun (m:Nat) (s2:List UInt8) (ps:List Oid.Id) (A:Option Addr) (n:Nat) (c:Nat) (q:List UInt8 × Bool × Int × Oid.Id)=>[(5,.string ⟨q.1.toArray⟩),(6,.string ⟨s2.toArray⟩),(7,.bool q.2.1),(9,.int .i64 q.2.2.1)]) (fun (m:Nat) (s2:List UInt8) (ps:List Oid.Id) (A:Option Addr) (n:Nat) (c:Nat) (q:List UInt8 × Bool × Int × Oid.Id)=>m) (fun (m:Nat) (s2:List UInt8) (ps:List Oid.Id) (A:Option Addr) (n:Nat) (c:Nat) (q:List UInt8 × Bool × Int × Oid.Id) (w:World)=>(n=ps.length∧s2.length < m∧ps.length+s2.length≤100000∧cz_ (s.length+1) s1=(cz_ m s2).map fun q=>(ps++q.1,q.2))∧Zx.St w0 noM [blk b1 83 (cmf zCm).toArray,blk b2 83 (cmf (⟨t,A,n,c,[],⟨#[]⟩,0,⟨#[]⟩⟩:Cm)).toArray,blk b6 41 (idf q.2.2.2).toArray,row 41 32 A n c (ps.flatMap idf)] w) (s.length+1) s1 [] none 0 0 (ta,f1,(aN_ ta).2,t) (Sc Z (Sc Z (Sc Z (Sc Z (Sub.nil _))))) (Sub.cons Z Z (Sub.cons Z Z (Sub.cons Z Z (Sub.nil _)))) ?_ ?_
   ·
    have S80:=S12.nilrow 41 32;exact ⟨⟨rfl,by omega,by simp;omega,by cases cz_ (s.length+1) s1 <;> rfl⟩,S80⟩
   ·
    intro m s2 ps A n c q w13 hrel;obtain ⟨⟨hn,hm,hb2,hps⟩,S13⟩:=hrel;refine a_ fun K11 hK11=>a_ fun K12 hK12=>Rm Z Z (L_y (av_ Tryz.underlying9 Z) Z (L_y (cq_ Z Z) Z (Lm Z Z ?_)));refine y_ 36 Z (fun h36=>?_) (fun h36=>?_)
    ·
     refine d_ Z Z (Lm Z Z (d_ Z Z (L_y (eI_ (u:=7) Tryz.underlying9 Z Z (Nt.mk (by omega)) (by omega)) Z (d_ Z Z (L_y (cW_ Z Z) Z (Lp Z Z Z (f_ (hK12 _ _ ?_))))))));refine o_ Z (fun h40=>?_) (fun h40=>?_)
     ·
      have h9:cG_ s2 (bo_++[32]):=(kK_ s2).1 h40;refine j_ (hK11 _ _ (r_ (a_ fun K13 hK13=>?_)));obtain ⟨m,rfl⟩:∃ k,m=k+1:=⟨m - 1,by omega⟩;refine Rm Z Z (L_o (n_ Tryz.func78 Z Z (gC_ s2 bo_ w13 (by omega) (by decide)) Z Z ?_));rintro e15 w15 ⟨v15,rfl,l15,hu15⟩;refine ⟨_,rfl,?_⟩;have S15:=S13.like l15;obtain ⟨tp,s3,f2,hvf2,h1f2,h0f2,hlf2,hmf2⟩:=dt_ bo_ s2;rw [hvf2] at hu15;subst hu15;refine Lm Z Z (L_y (m_ Z Z) Z (L_y (m_ Z Z) Z (L_y (m_ Z Z) Z (La Z Z (La Z Z (Lan Z Z (hK13 _ _ (a_ fun K14 hK14=>Rm Z Z (L_o (n_ Tryz.func79 Z Z (rreadN tp w15) Z Z ?_))))))))));rintro e16 w16 ⟨v16,rfl,l16,p,hp,rfl⟩;refine ⟨_,rfl,(have S16:=S15.like l16;Lm Z Z (L_y (m_ Z Z) Z (L_y (m_ Z Z) Z (L_o (G_ S16 2 Z Z Z (by rw [List.size_toArray,B_];exact ao_) (by rw [List.size_toArray,B_];simp [Value.cells,B_]) (fun u hu=>R_ _ u (by rw [List.toList_toArray] at hu;exact hu)) fun w17 S17=>?_)))))⟩;refine Lan Z Z (hK14 _ _ (a_ fun K15 hK15=>a_ fun K16 hK16=>Rm Z Z (L_y ((by first | exact aA_ Z | exact aZ_ Z)) Z ?_)));refine Lm Z Z ?_;refine ch_ 54 Z (fun h54=>?_) (fun h54=>?_)
      ·
       refine h_ Z Z Z (h_ Z Z Z (Lp Z Z Z (f_ (hK16 _ _ (W_ Z (a_ fun K17 hK17=>b_ (L_y (C_ Z (show _=some (cmf zCm).toArray by kernel_rfl)) Z (L_o (G_ S17 0 Z Z Z (by rw [D_];exact bg_) (by first | (rw [D_];done) | (rw [D_];rfl)) (fun u hu=>aY_ _ u (by rw [List.toList_toArray] at hu;exact hu)) fun w19 S19=>?_)))))))));refine Lan Z Z (hK17 _ _ (l_ (ur (af_ Z Z Z (S19.blk 0 Z) Tryz.underlying83 Z (by rw [D_];exact bg_) ?_))));exact aJ_ S19.like0 (g2 hid (by rw [hps,hR_ h9 (hX_ h1f2 h0f2 (by first | exact .inl (by simpa using h54) | exact .inr h57))];rfl))
      ·
       refine d_ Z Z (Lm Z Z (d_ Z Z (L_y (ab_ Z Z) Z (Lp Z Z Z (f_ (hK16 _ _ ?_))))));refine o_ Z (fun h57=>?_) (fun h57=>?_)
       ·
        refine a_ fun K18 hK18=>b_ (L_y (C_ Z (show _=some (cmf zCm).toArray by kernel_rfl)) Z (L_o (G_ S17 0 Z Z Z (by rw [D_];exact bg_) (by first | (rw [D_];done) | (rw [D_];rfl)) (fun u hu=>aY_ _ u (by rw [List.toList_toArray] at hu;exact hu)) fun w20 S20=>?_)));refine Lan Z Z (hK18 _ _ (l_ (ur (af_ Z Z Z (S20.blk 0 Z) Tryz.underlying83 Z (by rw [D_];exact bg_) ?_))));exact aJ_ S20.like0 (g2 hid (by rw [hps,hR_ h9 (hX_ h1f2 h0f2 (by first | exact .inl (by simpa using h54) | exact .inr h57))];rfl))
       ·
        have hid4:=kW_ hp h1f2 (by simpa using h54) (Classical.byContradiction fun e=>h57 e);have hl4:=hmf2 (by simpa using h54);refine j_ (hK15 _ _ (b_ (L_y (g_ 32 Tryz.underlying83 Z sz81 Z Z Z) Z (L_y (t_ Tryz.underlying81 Z Z (((S17.blk 1 Z).cell _).trans (cm32 _))) Z (L_y (Y_ Tryz.underlying41 Z ao_ Z (S17.blk 2 Z) (⟨by rw [List.drop_zero];exact List.take_of_length_le (by simp [B_]),by rw [B_]⟩:_=idf _∧_)) Z ?_)))));refine L_o (ah_ (idf p) te81 dK_ S17 Z Z Z (by simp [Value.cells,B_]) (by simp [Value.cells]) Z Z Z fun b21 w21 S21=>?_);refine L_o (ay_ te81 S21 3 Z Z Z (by first | exact S21.rd hb | exact S21.row 4 Z) (fun u hu=>R_ _ u hu) Z (by omega) (by omega) fun A22 c22 w22 S22=>?_);have S22d:=S22.drop (rs':=[_,_,_,_]) (.cons_cons _ (.cons_cons _ (.cons_cons _ (.cons_cons _ (.cons _ (.refl _))))));refine L_y (g_ 32 Tryz.underlying83 Z sz81 Z Z Z) Z (L_o (ac_ S22d 1 Z Z Z Z sz81 (by rw [D_];omega) fun w23 S23=>?_));have S24:=S23.blkc 1 Z (st32 _ _ _ _);refine f_ ?_;have S9:=S24.rowc 3 Z (n':=n+1) (xs':=(ps++[p]).flatMap idf) Z (by rw [List.flatMap_append];simp;rfl);refine ⟨m,s3,ps++[p],_,_,_,(tp,f2,(aN_ tp).2,p),by omega,⟨⟨by rw [List.length_append,hn];rfl,by omega,by rw [List.length_append];simp only [List.length_cons,List.length_nil];omega,by rw [hps,jl_ h9 hid4,map_step]⟩,S9⟩,?_⟩;exact (Sc Z (Sc Z (Sc Z (Sc Z (Sub.cons Z Z (Sub.cons Z Z (Sub.cons Z Z (Sub.nil _))))))))
     ·
      refine K_ (hK10 _ _ (a_ fun K19 hK19=>?_));have hbs2:=bsz s2;have h9:¬ cG_ s2 (bo_++[32]):=by first | exact fun h=>h40 ((kK_ s2).2 h) | exact fun h=>by have h8:=par7 h;omega
      have hp2:cz_ (s.length+1) s1=some (ps,s2):=by rw [hps,hQ_ h9];simp
      refine Rm Z Z (L_o (n_ Tryz.func78 Z Z (gC_ s2 dr_ w13 (by omega) (by decide)) Z Z ?_));rintro e25 w25 ⟨v25,rfl,l25,hu25⟩;refine ⟨_,rfl,?_⟩;have S25:=S13.like l25;obtain ⟨au,s3,f3,hvf3,h1f3,h0f3,hlf3,hmf3⟩:=dt_ dr_ s2;rw [hvf3] at hu25;subst hu25;refine Lm Z Z (L_y (m_ Z Z) Z (L_y (m_ Z Z) Z (L_y (m_ Z Z) Z (L_y (g_ 33 Tryz.underlying83 Z sz9 Z Z Z) Z (L_o (ac_ S25 1 Z Z Z Z sz9 (by rw [D_];omega) fun w26 S26=>?_))))));have S27:=S26.blkc 1 Z (st33 _ _);refine La Z Z (Lan Z Z (hK19 _ _ (a_ fun K20 hK20=>a_ fun K21 hK21=>Rm Z Z (L_y ((by first | exact aA_ Z | exact aZ_ Z)) Z ?_))));refine f_ (hK21 _ _ ?_);refine aD_ Z (fun h73=>?_) (fun h73=>?_)
      ·
       refine a_ fun K22 hK22=>b_ (L_y (C_ Z (show _=some (cmf zCm).toArray by kernel_rfl)) Z (L_o (G_ S27 0 Z Z Z (by rw [D_];exact bg_) (by first | (rw [D_];done) | (rw [D_];rfl)) (fun u hu=>aY_ _ u (by rw [List.toList_toArray] at hu;exact hu)) fun w28 S28=>?_)));refine Lan Z Z (hK22 _ _ (l_ (ur (af_ Z Z Z (S28.blk 0 Z) Tryz.underlying83 Z (by rw [D_];exact bg_) ?_))));exact aJ_ S28.like0 (g3 hid hp2 (h0f3 (by simpa using h73)))
      ·
       have hau:=h1f3 (by simpa using h73);refine j_ (hK20 _ _ (a_ fun K23 hK23=>Rm Z Z (L_o (n_ Tryz.func78 Z Z (gC_ s3 dF_ w26 (by omega) (by decide)) Z Z ?_))));rintro e29 w29 ⟨v29,rfl,l29,hu29⟩;refine ⟨_,rfl,?_⟩;have S29:=S27.like l29;obtain ⟨tn,s4,f4,hvf4,h1f4,h0f4,hlf4,hmf4⟩:=dt_ dF_ s3;rw [hvf4] at hu29;subst hu29;refine Lm Z Z (L_y (m_ Z Z) Z (L_y (m_ Z Z) Z (L_y (m_ Z Z) Z (La Z Z (La Z Z (Lan Z Z (hK23 _ _ (a_ fun K24 hK24=>Rm Z Z (L_o (n_ Tryz.func49 Z Z (gk_ ⟨tn.toArray⟩ w29) Z Z ?_))))))))));rintro e30 w30 ⟨v30,rfl,l30,hu30⟩;refine ⟨_,rfl,?_⟩;have S30:=S29.like l30;obtain ⟨va,vb,hnv,hnc⟩:=js_ tn;have hnv2:gP_ (⟨tn.toArray⟩:ByteArray).data.toList=.tuple #[.int .i64 va,.int .i64 vb]:=hnv;rw [hnv2] at hu30;subst hu30;refine Lm Z Z (L_y (m_ Z Z) Z (L_y (m_ Z Z) Z (La Z Z (Lan Z Z (hK24 _ _ (a_ fun K25 hK25=>a_ fun K26 hK26=>Rm Z Z (L_y ((by first | exact aA_ Z | exact aZ_ Z)) Z ?_)))))));refine Lm Z Z ?_;refine ch_ 88 Z (fun h88=>?_) (fun h88=>?_)
       ·
        refine h_ Z Z Z (h_ Z Z Z (Lp Z Z Z (Lm Z Z (h_ Z Z Z (h_ Z Z Z (Lp Z Z Z (Lm Z Z (h_ Z Z Z (h_ Z Z Z (h_ Z Z Z (Lp Z Z Z (f_ (hK26 _ _ ?_)))))))))))));refine W_ Z (a_ fun K27 hK27=>b_ (L_y (C_ Z (show _=some (cmf zCm).toArray by kernel_rfl)) Z (L_o (G_ S30 0 Z Z Z (by rw [D_];exact bg_) (by first | (rw [D_];done) | (rw [D_];rfl)) (fun u hu=>aY_ _ u (by rw [List.toList_toArray] at hu;exact hu)) fun w32 S32=>?_))));refine Lan Z Z (hK27 _ _ (l_ (ur (af_ Z Z Z (S32.blk 0 Z) Tryz.underlying83 Z (by rw [D_];exact bg_) ?_))));first | exact aJ_ S32.like0 (g4 hid hp2 hau (aq_ h1f4 h0f4 (.inl (by simpa using h88)))) | exact aJ_ S32.like0 (g4 hid hp2 hau (aq_ h1f4 h0f4 (.inr (hnc.resolve_left (fun h=>h92 h.1)).2))) | exact aJ_ S32.like0 (g5 hid hp2 hau (aR_ h1f4 (by simpa using h88) (hnc.resolve_right (fun h=>h92 (by omega))).2.1) (by first | exact cI_ h100 | exact cJ_ h96))
       ·
        refine d_ Z Z (Lm Z Z (d_ Z Z (L_y (ab_ Z Z) Z (Lp Z Z Z (Lm Z Z ?_)))));refine y_ 92 Z (fun h92=>?_) (fun h92=>?_)
        ·
         refine h_ Z Z Z (h_ Z Z Z (Lp Z Z Z (Lm Z Z (h_ Z Z Z (h_ Z Z Z (h_ Z Z Z (Lp Z Z Z (f_ (hK26 _ _ (W_ Z (a_ fun K28 hK28=>b_ (L_y (C_ Z (show _=some (cmf zCm).toArray by kernel_rfl)) Z ?_))))))))))));refine L_o (G_ S30 0 Z Z Z (by rw [D_];exact bg_) (by first | (rw [D_];done) | (rw [D_];rfl)) (fun u hu=>aY_ _ u (by rw [List.toList_toArray] at hu;exact hu)) fun w34 S34=>?_);refine Lan Z Z (hK28 _ _ (l_ (ur (af_ Z Z Z (S34.blk 0 Z) Tryz.underlying83 Z (by rw [D_];exact bg_) ?_))));first | exact aJ_ S34.like0 (g4 hid hp2 hau (aq_ h1f4 h0f4 (.inl (by simpa using h88)))) | exact aJ_ S34.like0 (g4 hid hp2 hau (aq_ h1f4 h0f4 (.inr (hnc.resolve_left (fun h=>h92 h.1)).2))) | exact aJ_ S34.like0 (g5 hid hp2 hau (aR_ h1f4 (by simpa using h88) (hnc.resolve_right (fun h=>h92 (by omega))).2.1) (by first | exact cI_ h100 | exact cJ_ h96))
        ·
         refine d_ Z Z (Lm Z Z (d_ Z Z (L_y (cW_ Z Z) Z (Lp Z Z Z (Lm Z Z ?_)))));refine y_ 96 Z (fun h96=>?_) (fun h96=>?_)
         ·
          refine h_ Z Z Z (h_ Z Z Z (h_ Z Z Z (Lp Z Z Z (f_ (hK26 _ _ (W_ Z (a_ fun K29 hK29=>b_ (L_y (C_ Z (show _=some (cmf zCm).toArray by kernel_rfl)) Z (L_o (G_ S30 0 Z Z Z (by rw [D_];exact bg_) (by first | (rw [D_];done) | (rw [D_];rfl)) (fun u hu=>aY_ _ u (by rw [List.toList_toArray] at hu;exact hu)) fun w36 S36=>?_))))))))));refine Lan Z Z (hK29 _ _ (l_ (ur (af_ Z Z Z (S36.blk 0 Z) Tryz.underlying83 Z (by rw [D_];exact bg_) ?_))));first | exact aJ_ S36.like0 (g4 hid hp2 hau (aq_ h1f4 h0f4 (.inl (by simpa using h88)))) | exact aJ_ S36.like0 (g4 hid hp2 hau (aq_ h1f4 h0f4 (.inr (hnc.resolve_left (fun h=>h92 h.1)).2))) | exact aJ_ S36.like0 (g5 hid hp2 hau (aR_ h1f4 (by simpa using h88) (hnc.resolve_right (fun h=>h92 (by omega))).2.1) (by first | exact cI_ h100 | exact cJ_ h96))
         ·
          have h0s:0 < s4.length:=Nat.pos_of_ne_zero (fun e=>h96 (by rw [List.eq_nil_of_length_eq_zero e]));have hbs4:=bsz s4;refine d_ Z Z (Lm Z Z (d_ Z Z (L_y (bz_ Tryz.underlying9 Z Z inferInstance (by omega)) Z (d_ Z Z (L_y (ab_ Z Z) Z (Lp Z Z Z (f_ (hK26 _ _ ?_))))))));refine o_ Z (fun h100=>?_) (fun h100=>?_)
          ·
           refine a_ fun K30 hK30=>b_ (L_y (C_ Z (show _=some (cmf zCm).toArray by kernel_rfl)) Z (L_o (G_ S30 0 Z Z Z (by rw [D_];exact bg_) (by first | (rw [D_];done) | (rw [D_];rfl)) (fun u hu=>aY_ _ u (by rw [List.toList_toArray] at hu;exact hu)) fun w37 S37=>?_)));refine Lan Z Z (hK30 _ _ (l_ (ur (af_ Z Z Z (S37.blk 0 Z) Tryz.underlying83 Z (by rw [D_];exact bg_) ?_))));first | exact aJ_ S37.like0 (g4 hid hp2 hau (aq_ h1f4 h0f4 (.inl (by simpa using h88)))) | exact aJ_ S37.like0 (g4 hid hp2 hau (aq_ h1f4 h0f4 (.inr (hnc.resolve_left (fun h=>h92 h.1)).2))) | exact aJ_ S37.like0 (g5 hid hp2 hau (aR_ h1f4 (by simpa using h88) (hnc.resolve_right (fun h=>h92 (by omega))).2.1) (by first | exact cI_ h100 | exact cJ_ h96))
          ·
           subst hn;obtain ⟨hvb,hok,rfl⟩:=hnc.resolve_right (fun h=>h92 (by omega));have hpx:cG_ s4 [10]:=(pre1 s4).2 ⟨Nat.pos_of_ne_zero (fun e=>h96 (by rw [List.eq_nil_of_length_eq_zero e])),Classical.byContradiction fun e=>h100 e⟩;have h0s:0 < s4.length:=((pre1 s4).1 hpx).1;have hg:dp_ s=some (⟨t,ps,au,bl_ tn,s4.drop 1⟩:CmL):=g6 hid hp2 hau (aR_ h1f4 (by simpa using h88) hok) (by unfold dG_;exact if_pos hpx);refine j_ (hK25 _ _ (a_ fun K31 hK31=>Rm Z Z (L_y (g_ 34 Tryz.underlying83 Z sz3 Z Z Z) Z (L_o (ac_ S30 1 Z Z Z Z sz3 (by rw [D_];omega) fun w38 S38=>?_)))));have S39:=S38.blkc 1 Z (st34 _ _);refine f_ (hK31 _ _ (a_ fun K32 hK32=>Rm Z Z (L_y (cQ_ (l:=1) Tryz.underlying9 Z Z (Nt.mk (by omega)) (by omega)) Z ?_)));rw [eS_];refine L_y (g_ 35 Tryz.underlying83 Z sz9 Z Z Z) Z (L_o (ac_ S39 1 Z Z Z Z sz9 (by rw [D_];omega) fun w40 S40=>?_));have S41:=S40.blkc 1 Z (st35 _ _);refine f_ (hK32 _ _ (a_ fun K33 hK33=>b_ (L_y (Y_ Tryz.underlying83 Z bg_ Z (S41.blk 1 Z) (dd_ _)) Z (L_o (n_ Tryz.func80 Z Z (hO_ (cmOf ⟨t,ps,au,bl_ tn,s4.drop 1⟩ A ps.length c) w40 (S41.row 3 Z)) Z Z ?_)))));rintro e42 w42 ⟨v42,rfl,l42,rfl⟩;refine ⟨_,rfl,(have S42:=S41.like l42;Lan Z Z (hK33 _ _ (a_ fun K34 hK34=>a_ fun K35 hK35=>Rm Z Z (L_y (ab_ Z Z) Z (f_ (hK35 _ _ ?_))))))⟩;refine o_ Z (fun h110=>?_) (fun h110=>?_)
           ·
            refine a_ fun K36 hK36=>b_ (L_y (C_ Z (show _=some (cmf zCm).toArray by kernel_rfl)) Z (Lm Z Z (L_o (G_ S42 0 Z Z Z (by rw [D_];exact bg_) (by first | (rw [D_];done) | (rw [D_];rfl)) (fun u hu=>aY_ _ u (by rw [List.toList_toArray] at hu;exact hu)) fun w43 S43=>?_))));refine Lan Z Z (hK36 _ _ (l_ (ur (af_ Z Z Z (S43.blk 0 Z) Tryz.underlying83 Z (by rw [D_];exact bg_) ?_))));have hgo:=gs_ hg;have h0:¬ chk (cmO (⟨t,ps,au,bl_ tn,s4.drop 1⟩:CmL))=0:=fun e=>h110 e;have hv:ea_ s=zL:=by rw [hgo.2,if_neg h0]
            rw [hv,hgo.1];refine ⟨_,rfl,S43.like0,none,0,hY_ _ _ _,?_⟩;exact congrArg (fun x=>Value.tuple #[.agg (cmf x).toArray,_]) zL_cm.symm
           ·
            refine j_ (hK34 _ _ (a_ fun K37 hK37=>b_ (L_y (Y_ Tryz.underlying83 Z bg_ Z (S42.blk 1 Z) (dd_ _)) Z (L_o (G_ S42 0 Z Z Z (by rw [D_];exact bg_) (by first | (rw [D_];done) | (rw [D_];rfl)) (fun u hu=>aY_ _ u (by rw [List.toList_toArray] at hu;exact hu)) fun w44 S44=>?_)))));refine Lan Z Z (hK37 _ _ (l_ (ur (af_ Z Z Z (S44.blk 0 Z) Tryz.underlying83 Z (by rw [D_];exact bg_) ?_))));have hgo:=gs_ hg;have h0:chk (cmO (⟨t,ps,au,bl_ tn,s4.drop 1⟩:CmL))=0:=Classical.byContradiction fun e=>h110 e;have hv:ea_ s=(⟨t,ps,au,bl_ tn,s4.drop 1⟩:CmL):=by rw [hgo.2,if_pos h0]
            rw [hv,hgo.1,h0];exact ⟨_,rfl,S44.like0,A,c,Fr.of_own (S44.own 3 Z),rfl⟩
    ·
     refine h_ Z Z Z (h_ Z Z Z (h_ Z Z Z (Lp Z Z Z (f_ (hK12 _ _ (aW_ Z (K_ (hK10 _ _ (a_ fun K38 hK38=>?_)))))))));have hbs2:=bsz s2;have h9:¬ cG_ s2 (bo_++[32]):=by first | exact fun h=>h40 ((kK_ s2).2 h) | exact fun h=>by have h8:=par7 h;omega
     have hp2:cz_ (s.length+1) s1=some (ps,s2):=by rw [hps,hQ_ h9];simp
     refine Rm Z Z (L_o (n_ Tryz.func78 Z Z (gC_ s2 dr_ w13 (by omega) (by decide)) Z Z ?_));rintro e45 w45 ⟨v45,rfl,l45,hu45⟩;refine ⟨_,rfl,?_⟩;have S45:=S13.like l45;obtain ⟨au,s3,f3,hvf3,h1f3,h0f3,hlf3,hmf3⟩:=dt_ dr_ s2;rw [hvf3] at hu45;subst hu45;refine Lm Z Z (L_y (m_ Z Z) Z (L_y (m_ Z Z) Z (L_y (m_ Z Z) Z (L_y (g_ 33 Tryz.underlying83 Z sz9 Z Z Z) Z (L_o (ac_ S45 1 Z Z Z Z sz9 (by rw [D_];omega) fun w46 S46=>?_))))));have S47:=S46.blkc 1 Z (st33 _ _);refine La Z Z (Lan Z Z (hK38 _ _ (a_ fun K39 hK39=>a_ fun K40 hK40=>Rm Z Z (L_y ((by first | exact aA_ Z | exact aZ_ Z)) Z ?_))));refine f_ (hK40 _ _ ?_);refine aD_ Z (fun h73=>?_) (fun h73=>?_)
     ·
      refine a_ fun K41 hK41=>b_ (L_y (C_ Z (show _=some (cmf zCm).toArray by kernel_rfl)) Z (L_o (G_ S47 0 Z Z Z (by rw [D_];exact bg_) (by first | (rw [D_];done) | (rw [D_];rfl)) (fun u hu=>aY_ _ u (by rw [List.toList_toArray] at hu;exact hu)) fun w48 S48=>?_)));refine Lan Z Z (hK41 _ _ (l_ (ur (af_ Z Z Z (S48.blk 0 Z) Tryz.underlying83 Z (by rw [D_];exact bg_) ?_))));exact aJ_ S48.like0 (g3 hid hp2 (h0f3 (by simpa using h73)))
     ·
      have hau:=h1f3 (by simpa using h73);refine j_ (hK39 _ _ (a_ fun K42 hK42=>Rm Z Z (L_o (n_ Tryz.func78 Z Z (gC_ s3 dF_ w46 (by omega) (by decide)) Z Z ?_))));rintro e49 w49 ⟨v49,rfl,l49,hu49⟩;refine ⟨_,rfl,?_⟩;have S49:=S47.like l49;obtain ⟨tn,s4,f4,hvf4,h1f4,h0f4,hlf4,hmf4⟩:=dt_ dF_ s3;rw [hvf4] at hu49;subst hu49;refine Lm Z Z (L_y (m_ Z Z) Z (L_y (m_ Z Z) Z (L_y (m_ Z Z) Z (La Z Z (La Z Z (Lan Z Z (hK42 _ _ (a_ fun K43 hK43=>Rm Z Z (L_o (n_ Tryz.func49 Z Z (gk_ ⟨tn.toArray⟩ w49) Z Z ?_))))))))));rintro e50 w50 ⟨v50,rfl,l50,hu50⟩;refine ⟨_,rfl,?_⟩;have S50:=S49.like l50;obtain ⟨va,vb,hnv,hnc⟩:=js_ tn;have hnv2:gP_ (⟨tn.toArray⟩:ByteArray).data.toList=.tuple #[.int .i64 va,.int .i64 vb]:=hnv;rw [hnv2] at hu50;subst hu50;refine Lm Z Z (L_y (m_ Z Z) Z (L_y (m_ Z Z) Z (La Z Z (Lan Z Z (hK43 _ _ (a_ fun K44 hK44=>a_ fun K45 hK45=>Rm Z Z (L_y ((by first | exact aA_ Z | exact aZ_ Z)) Z ?_)))))));refine Lm Z Z ?_;refine ch_ 88 Z (fun h88=>?_) (fun h88=>?_)
      ·
       refine h_ Z Z Z (h_ Z Z Z (Lp Z Z Z (Lm Z Z (h_ Z Z Z (h_ Z Z Z (Lp Z Z Z (Lm Z Z (h_ Z Z Z (h_ Z Z Z (h_ Z Z Z (Lp Z Z Z (f_ (hK45 _ _ ?_)))))))))))));refine W_ Z (a_ fun K46 hK46=>b_ (L_y (C_ Z (show _=some (cmf zCm).toArray by kernel_rfl)) Z (L_o (G_ S50 0 Z Z Z (by rw [D_];exact bg_) (by first | (rw [D_];done) | (rw [D_];rfl)) (fun u hu=>aY_ _ u (by rw [List.toList_toArray] at hu;exact hu)) fun w52 S52=>?_))));refine Lan Z Z (hK46 _ _ (l_ (ur (af_ Z Z Z (S52.blk 0 Z) Tryz.underlying83 Z (by rw [D_];exact bg_) ?_))));first | exact aJ_ S52.like0 (g4 hid hp2 hau (aq_ h1f4 h0f4 (.inl (by simpa using h88)))) | exact aJ_ S52.like0 (g4 hid hp2 hau (aq_ h1f4 h0f4 (.inr (hnc.resolve_left (fun h=>h92 h.1)).2))) | exact aJ_ S52.like0 (g5 hid hp2 hau (aR_ h1f4 (by simpa using h88) (hnc.resolve_right (fun h=>h92 (by omega))).2.1) (by first | exact cI_ h100 | exact cJ_ h96))
      ·
       refine d_ Z Z (Lm Z Z (d_ Z Z (L_y (ab_ Z Z) Z (Lp Z Z Z (Lm Z Z ?_)))));refine y_ 92 Z (fun h92=>?_) (fun h92=>?_)
       ·
        refine h_ Z Z Z (h_ Z Z Z (Lp Z Z Z (Lm Z Z (h_ Z Z Z (h_ Z Z Z (h_ Z Z Z (Lp Z Z Z (f_ (hK45 _ _ (W_ Z (a_ fun K47 hK47=>b_ (L_y (C_ Z (show _=some (cmf zCm).toArray by kernel_rfl)) Z ?_))))))))))));refine L_o (G_ S50 0 Z Z Z (by rw [D_];exact bg_) (by first | (rw [D_];done) | (rw [D_];rfl)) (fun u hu=>aY_ _ u (by rw [List.toList_toArray] at hu;exact hu)) fun w54 S54=>?_);refine Lan Z Z (hK47 _ _ (l_ (ur (af_ Z Z Z (S54.blk 0 Z) Tryz.underlying83 Z (by rw [D_];exact bg_) ?_))));first | exact aJ_ S54.like0 (g4 hid hp2 hau (aq_ h1f4 h0f4 (.inl (by simpa using h88)))) | exact aJ_ S54.like0 (g4 hid hp2 hau (aq_ h1f4 h0f4 (.inr (hnc.resolve_left (fun h=>h92 h.1)).2))) | exact aJ_ S54.like0 (g5 hid hp2 hau (aR_ h1f4 (by simpa using h88) (hnc.resolve_right (fun h=>h92 (by omega))).2.1) (by first | exact cI_ h100 | exact cJ_ h96))
       ·
        refine d_ Z Z (Lm Z Z (d_ Z Z (L_y (cW_ Z Z) Z (Lp Z Z Z (Lm Z Z ?_)))));refine y_ 96 Z (fun h96=>?_) (fun h96=>?_)
        ·
         refine h_ Z Z Z (h_ Z Z Z (h_ Z Z Z (Lp Z Z Z (f_ (hK45 _ _ (W_ Z (a_ fun K48 hK48=>b_ (L_y (C_ Z (show _=some (cmf zCm).toArray by kernel_rfl)) Z (L_o (G_ S50 0 Z Z Z (by rw [D_];exact bg_) (by first | (rw [D_];done) | (rw [D_];rfl)) (fun u hu=>aY_ _ u (by rw [List.toList_toArray] at hu;exact hu)) fun w56 S56=>?_))))))))));refine Lan Z Z (hK48 _ _ (l_ (ur (af_ Z Z Z (S56.blk 0 Z) Tryz.underlying83 Z (by rw [D_];exact bg_) ?_))));first | exact aJ_ S56.like0 (g4 hid hp2 hau (aq_ h1f4 h0f4 (.inl (by simpa using h88)))) | exact aJ_ S56.like0 (g4 hid hp2 hau (aq_ h1f4 h0f4 (.inr (hnc.resolve_left (fun h=>h92 h.1)).2))) | exact aJ_ S56.like0 (g5 hid hp2 hau (aR_ h1f4 (by simpa using h88) (hnc.resolve_right (fun h=>h92 (by omega))).2.1) (by first | exact cI_ h100 | exact cJ_ h96))
        ·
         have h0s:0 < s4.length:=Nat.pos_of_ne_zero (fun e=>h96 (by rw [List.eq_nil_of_length_eq_zero e]));have hbs4:=bsz s4;refine d_ Z Z (Lm Z Z (d_ Z Z (L_y (bz_ Tryz.underlying9 Z Z inferInstance (by omega)) Z (d_ Z Z (L_y (ab_ Z Z) Z (Lp Z Z Z (f_ (hK45 _ _ ?_))))))));refine o_ Z (fun h100=>?_) (fun h100=>?_)
         ·
          refine a_ fun K49 hK49=>b_ (L_y (C_ Z (show _=some (cmf zCm).toArray by kernel_rfl)) Z (L_o (G_ S50 0 Z Z Z (by rw [D_];exact bg_) (by first | (rw [D_];done) | (rw [D_];rfl)) (fun u hu=>aY_ _ u (by rw [List.toList_toArray] at hu;exact hu)) fun w57 S57=>?_)));refine Lan Z Z (hK49 _ _ (l_ (ur (af_ Z Z Z (S57.blk 0 Z) Tryz.underlying83 Z (by rw [D_];exact bg_) ?_))));first | exact aJ_ S57.like0 (g4 hid hp2 hau (aq_ h1f4 h0f4 (.inl (by simpa using h88)))) | exact aJ_ S57.like0 (g4 hid hp2 hau (aq_ h1f4 h0f4 (.inr (hnc.resolve_left (fun h=>h92 h.1)).2))) | exact aJ_ S57.like0 (g5 hid hp2 hau (aR_ h1f4 (by simpa using h88) (hnc.resolve_right (fun h=>h92 (by omega))).2.1) (by first | exact cI_ h100 | exact cJ_ h96))
         ·
          subst hn;obtain ⟨hvb,hok,rfl⟩:=hnc.resolve_right (fun h=>h92 (by omega));have hpx:cG_ s4 [10]:=(pre1 s4).2 ⟨Nat.pos_of_ne_zero (fun e=>h96 (by rw [List.eq_nil_of_length_eq_zero e])),Classical.byContradiction fun e=>h100 e⟩;have h0s:0 < s4.length:=((pre1 s4).1 hpx).1;have hg:dp_ s=some (⟨t,ps,au,bl_ tn,s4.drop 1⟩:CmL):=g6 hid hp2 hau (aR_ h1f4 (by simpa using h88) hok) (by unfold dG_;exact if_pos hpx);refine j_ (hK44 _ _ (a_ fun K50 hK50=>Rm Z Z (L_y (g_ 34 Tryz.underlying83 Z sz3 Z Z Z) Z (L_o (ac_ S50 1 Z Z Z Z sz3 (by rw [D_];omega) fun w58 S58=>?_)))));have S59:=S58.blkc 1 Z (st34 _ _);refine f_ (hK50 _ _ (a_ fun K51 hK51=>Rm Z Z (L_y (cQ_ (l:=1) Tryz.underlying9 Z Z (Nt.mk (by omega)) (by omega)) Z ?_)));rw [eS_];refine L_y (g_ 35 Tryz.underlying83 Z sz9 Z Z Z) Z (L_o (ac_ S59 1 Z Z Z Z sz9 (by rw [D_];omega) fun w60 S60=>?_));have S61:=S60.blkc 1 Z (st35 _ _);refine f_ (hK51 _ _ (a_ fun K52 hK52=>b_ (L_y (Y_ Tryz.underlying83 Z bg_ Z (S61.blk 1 Z) (dd_ _)) Z (L_o (n_ Tryz.func80 Z Z (hO_ (cmOf ⟨t,ps,au,bl_ tn,s4.drop 1⟩ A ps.length c) w60 (S61.row 3 Z)) Z Z ?_)))));rintro e62 w62 ⟨v62,rfl,l62,rfl⟩;refine ⟨_,rfl,(have S62:=S61.like l62;Lan Z Z (hK52 _ _ (a_ fun K53 hK53=>a_ fun K54 hK54=>Rm Z Z (L_y (ab_ Z Z) Z (f_ (hK54 _ _ ?_))))))⟩;refine o_ Z (fun h110=>?_) (fun h110=>?_)
          ·
           refine a_ fun K55 hK55=>b_ (L_y (C_ Z (show _=some (cmf zCm).toArray by kernel_rfl)) Z (Lm Z Z (L_o (G_ S62 0 Z Z Z (by rw [D_];exact bg_) (by first | (rw [D_];done) | (rw [D_];rfl)) (fun u hu=>aY_ _ u (by rw [List.toList_toArray] at hu;exact hu)) fun w63 S63=>?_))));refine Lan Z Z (hK55 _ _ (l_ (ur (af_ Z Z Z (S63.blk 0 Z) Tryz.underlying83 Z (by rw [D_];exact bg_) ?_))));have hgo:=gs_ hg;have h0:¬ chk (cmO (⟨t,ps,au,bl_ tn,s4.drop 1⟩:CmL))=0:=fun e=>h110 e;have hv:ea_ s=zL:=by rw [hgo.2,if_neg h0]
           rw [hv,hgo.1];refine ⟨_,rfl,S63.like0,none,0,hY_ _ _ _,?_⟩;exact congrArg (fun x=>Value.tuple #[.agg (cmf x).toArray,_]) zL_cm.symm
          ·
           refine j_ (hK53 _ _ (a_ fun K56 hK56=>b_ (L_y (Y_ Tryz.underlying83 Z bg_ Z (S62.blk 1 Z) (dd_ _)) Z (L_o (G_ S62 0 Z Z Z (by rw [D_];exact bg_) (by first | (rw [D_];done) | (rw [D_];rfl)) (fun u hu=>aY_ _ u (by rw [List.toList_toArray] at hu;exact hu)) fun w64 S64=>?_)))));refine Lan Z Z (hK56 _ _ (l_ (ur (af_ Z Z Z (S64.blk 0 Z) Tryz.underlying83 Z (by rw [D_];exact bg_) ?_))));have hgo:=gs_ hg;have h0:chk (cmO (⟨t,ps,au,bl_ tn,s4.drop 1⟩:CmL))=0:=Classical.byContradiction fun e=>h110 e;have hv:ea_ s=(⟨t,ps,au,bl_ tn,s4.drop 1⟩:CmL):=by rw [hgo.2,if_pos h0]
           rw [hv,hgo.1,h0];exact ⟨_,rfl,S64.like0,A,c,Fr.of_own (S64.own 3 Z),rfl⟩
theorem rgetMB (B:Option Addr) (m d:Nat) (s:List UInt8) (w0:World) (hb:Rs w0 1 B m d (bL s)) (hl:s.length≤90000) :
    Calls Tryz.prog 43 #[.slice B m d] w0 fun e w'=>∃ u,e=.returned u∧Like w0 w'∧u=.tuple #[.agg (mkf (fE_ (mval s))).toArray,.int .i64 (gE_ s)]:=by
 refine v_ (env:=[(0,.slice B m d)]) [.slice B m d] Tryz.func43 Z Tryz.ntmps43 Z Z ?_;have S0:=St.start w0 noM;refine a_ fun K1 hK1=>b_ (L_o (H_ zz87 S0 Z fun b1 w1 hb1 S1=>Lan Z Z (hK1 _ _ (a_ fun K2 hK2=>b_ (L_o (H_ zz87 S1 Z fun b2 w2 hb2 S2=>have S3:Zx.St w0 noM [blk b1 87 (mkf zMk).toArray,blk b2 87 (mkf zMk).toArray] w2:=S2.cast (by kernel_rfl);f_ (hK2 _ _ (a_ fun K3 hK3=>b_ ?_))))))));refine Lm Z Z (L_y (co_ Tryz.underlying22 Tryz.underlying5 Tryz.underlying9 Z (by first | exact S3.rd hb)) Z ?_);refine L_o (n_ Tryz.func78 Z Z (gC_ s cX_ w2 (by omega) (by decide)) Z Z ?_);rintro e4 w4 ⟨v4,rfl,l4,hu4⟩;refine ⟨_,rfl,?_⟩;have S4:=S3.like l4;obtain ⟨ta,s1,f1,hvf1,h1f1,h0f1,hlf1,hmf1⟩:=dt_ cX_ s;rw [hvf1] at hu4;subst hu4;refine Lm Z Z (L_y (m_ Z Z) Z (L_y (m_ Z Z) Z (L_y (m_ Z Z) Z (La Z Z (La Z Z (Lan Z Z (hK3 _ _ (a_ fun K4 hK4=>Rm Z Z (L_o (n_ Tryz.func79 Z Z (rreadN ta w4) Z Z ?_))))))))));rintro e5 w5 ⟨v5,rfl,l5,o,ho,rfl⟩;refine ⟨_,rfl,(have S5:=S4.like l5;Lm Z Z (L_y (m_ Z Z) Z (L_y (m_ Z Z) Z (L_o (H_ dK_ S5 Z fun b6 w6 hb6 S6=>L_o (G_ S6 2 Z Z Z (by rw [List.size_toArray,B_];exact ao_) (by rw [List.size_toArray,B_];simp [Value.cells,B_]) (fun u hu=>R_ _ u (by rw [List.toList_toArray] at hu;exact hu)) fun w7 S7=>?_))))))⟩;refine Lan Z Z (hK4 _ _ (a_ fun K5 hK5=>a_ fun K6 hK6=>Rm Z Z (L_y ((by first | exact aA_ Z | exact aZ_ Z)) Z ?_)));refine Lm Z Z ?_;refine ch_ 29 Z (fun h29=>?_) (fun h29=>?_)
 ·
  refine h_ Z Z Z (h_ Z Z Z (Lp Z Z Z (f_ (hK6 _ _ (W_ Z (a_ fun K7 hK7=>b_ (L_y (C_ Z (show _=some (mkf zMk).toArray by kernel_rfl)) Z (L_o (G_ S7 0 Z Z Z (by rw [M_];exact bS_) (by first | (rw [M_];done) | (rw [M_];rfl)) (fun u hu=>bH_ _ u (by rw [List.toList_toArray] at hu;exact hu)) fun w9 S9=>?_)))))))));refine Lan Z Z (hK7 _ _ (l_ (ur (af_ Z Z Z (S9.blk 0 Z) Tryz.underlying87 Z (by rw [M_];exact bS_) ?_))));exact aM_ S9.like0 (m1 (hX_ h1f1 h0f1 (by first | exact .inl (by simpa using h29) | exact .inr h32)))
 ·
  refine d_ Z Z (Lm Z Z (d_ Z Z (L_y (ab_ Z Z) Z (Lp Z Z Z (f_ (hK6 _ _ ?_))))));refine o_ Z (fun h32=>?_) (fun h32=>?_)
  ·
   refine a_ fun K8 hK8=>b_ (L_y (C_ Z (show _=some (mkf zMk).toArray by kernel_rfl)) Z (L_o (G_ S7 0 Z Z Z (by rw [M_];exact bS_) (by first | (rw [M_];done) | (rw [M_];rfl)) (fun u hu=>bH_ _ u (by rw [List.toList_toArray] at hu;exact hu)) fun w10 S10=>?_)));refine Lan Z Z (hK8 _ _ (l_ (ur (af_ Z Z Z (S10.blk 0 Z) Tryz.underlying87 Z (by rw [M_];exact bS_) ?_))));exact aM_ S10.like0 (m1 (hX_ h1f1 h0f1 (by first | exact .inl (by simpa using h29) | exact .inr h32)))
  ·
   have hid:=kW_ ho h1f1 (by simpa using h29) (Classical.byContradiction fun e=>h32 e);have hl1:=hmf1 (by simpa using h29);refine j_ (hK5 _ _ (a_ fun K9 hK9=>b_ (L_y (Y_ Tryz.underlying41 Z ao_ Z (S7.blk 2 Z) (⟨by rw [List.drop_zero];exact List.take_of_length_le (by simp [B_]),by rw [B_]⟩:_=idf _∧_)) Z ?_)));refine L_y (g_ 0 Tryz.underlying87 Z ao_ Z Z Z) Z (L_o (jo_ S7 1 Z Z Z (by rw [List.size_toArray,B_];exact ao_) (by rw [List.size_toArray,B_,M_];omega) (fun u hu=>R_ _ u (by rw [List.toList_toArray] at hu;exact hu)) fun w11 S11=>?_));have S12:=S11.blkc 1 Z (show _=(mkf (⟨o,0,⟨#[]⟩,0,⟨#[]⟩⟩:Mk)).toArray from stm zMk o);have S13:Zx.St w0 noM [blk b1 87 (mkf zMk).toArray,blk b2 87 (mkf (⟨o,0,⟨#[]⟩,0,⟨#[]⟩⟩:Mk)).toArray,blk b6 41 (idf o).toArray] w11:=S12.cast (by kernel_rfl);refine f_ (hK9 _ _ (a_ fun K10 hK10=>Rm Z Z (L_o (n_ Tryz.func78 Z Z (gC_ s1 gB_ w11 (by omega) (by decide)) Z Z ?_))));rintro e14 w14 ⟨v14,rfl,l14,hu14⟩;refine ⟨_,rfl,?_⟩;have S14:=S13.like l14;obtain ⟨tk,s2,f2,hvf2,h1f2,h0f2,hlf2,hmf2⟩:=dt_ gB_ s1;rw [hvf2] at hu14;subst hu14;refine Lm Z Z (L_y (m_ Z Z) Z (L_y (m_ Z Z) Z (L_y (m_ Z Z) Z (La Z Z (La Z Z (Lan Z Z (hK10 _ _ (a_ fun K11 hK11=>Rm Z Z (L_o (n_ Tryz.func49 Z Z (gk_ ⟨tk.toArray⟩ w14) Z Z ?_))))))))));rintro e15 w15 ⟨v15,rfl,l15,hu15⟩;refine ⟨_,rfl,?_⟩;have S15:=S14.like l15;obtain ⟨va1,vb1,hnv1,hnc1⟩:=js_ tk;have hnw1:gP_ (⟨tk.toArray⟩:ByteArray).data.toList=.tuple #[.int .i64 va1,.int .i64 vb1]:=hnv1;rw [hnw1] at hu15;subst hu15;refine Lm Z Z (L_y (m_ Z Z) Z (L_y (m_ Z Z) Z (La Z Z (Lan Z Z (hK11 _ _ (a_ fun K12 hK12=>a_ fun K13 hK13=>Rm Z Z (L_y ((by first | exact aA_ Z | exact aZ_ Z)) Z ?_)))))));refine Lm Z Z ?_;refine ch_ 49 Z (fun h49=>?_) (fun h49=>?_)
   ·
    refine h_ Z Z Z (h_ Z Z Z (Lp Z Z Z (Lm Z Z (h_ Z Z Z (h_ Z Z Z (Lp Z Z Z (f_ (hK13 _ _ (W_ Z (a_ fun K14 hK14=>b_ (L_y (C_ Z (show _=some (mkf zMk).toArray by kernel_rfl)) Z (L_o (G_ S15 0 Z Z Z (by rw [M_];exact bS_) (by first | (rw [M_];done) | (rw [M_];rfl)) (fun u hu=>bH_ _ u (by rw [List.toList_toArray] at hu;exact hu)) fun w17 S17=>?_)))))))))))));refine Lan Z Z (hK14 _ _ (l_ (ur (af_ Z Z Z (S17.blk 0 Z) Tryz.underlying87 Z (by rw [M_];exact bS_) ?_))));first | exact aM_ S17.like0 (m2 hid (aq_ h1f2 h0f2 (.inl (by simpa using h49)))) | exact aM_ S17.like0 (m2 hid (aq_ h1f2 h0f2 (.inr (hnc1.resolve_left (fun h=>h53 h.1)).2))) | exact aM_ S17.like0 (m3 hid (aR_ h1f2 (by simpa using h49) (hnc1.resolve_right (fun h=>h53 (by omega))).2.1) (by have h8:=(hnc1.resolve_right (fun h=>h53 (by omega))).2.2;omega))
   ·
    refine d_ Z Z (Lm Z Z (d_ Z Z (L_y (ab_ Z Z) Z (Lp Z Z Z (Lm Z Z ?_)))));refine y_ 53 Z (fun h53=>?_) (fun h53=>?_)
    ·
     refine h_ Z Z Z (h_ Z Z Z (Lp Z Z Z (f_ (hK13 _ _ (W_ Z (a_ fun K15 hK15=>b_ (L_y (C_ Z (show _=some (mkf zMk).toArray by kernel_rfl)) Z (L_o (G_ S15 0 Z Z Z (by rw [M_];exact bS_) (by first | (rw [M_];done) | (rw [M_];rfl)) (fun u hu=>bH_ _ u (by rw [List.toList_toArray] at hu;exact hu)) fun w19 S19=>?_)))))))));refine Lan Z Z (hK15 _ _ (l_ (ur (af_ Z Z Z (S19.blk 0 Z) Tryz.underlying87 Z (by rw [M_];exact bS_) ?_))));first | exact aM_ S19.like0 (m2 hid (aq_ h1f2 h0f2 (.inl (by simpa using h49)))) | exact aM_ S19.like0 (m2 hid (aq_ h1f2 h0f2 (.inr (hnc1.resolve_left (fun h=>h53 h.1)).2))) | exact aM_ S19.like0 (m3 hid (aR_ h1f2 (by simpa using h49) (hnc1.resolve_right (fun h=>h53 (by omega))).2.1) (by have h8:=(hnc1.resolve_right (fun h=>h53 (by omega))).2.2;omega))
    ·
     refine d_ Z Z (Lm Z Z (d_ Z Z (L_y (Z_ Z Z) Z (Lp Z Z Z (f_ (hK13 _ _ ?_))))));refine o_ Z (fun h56=>?_) (fun h56=>?_)
     ·
      refine a_ fun K16 hK16=>b_ (L_y (C_ Z (show _=some (mkf zMk).toArray by kernel_rfl)) Z (L_o (G_ S15 0 Z Z Z (by rw [M_];exact bS_) (by first | (rw [M_];done) | (rw [M_];rfl)) (fun u hu=>bH_ _ u (by rw [List.toList_toArray] at hu;exact hu)) fun w20 S20=>?_)));refine Lan Z Z (hK16 _ _ (l_ (ur (af_ Z Z Z (S20.blk 0 Z) Tryz.underlying87 Z (by rw [M_];exact bS_) ?_))));first | exact aM_ S20.like0 (m2 hid (aq_ h1f2 h0f2 (.inl (by simpa using h49)))) | exact aM_ S20.like0 (m2 hid (aq_ h1f2 h0f2 (.inr (hnc1.resolve_left (fun h=>h53 h.1)).2))) | exact aM_ S20.like0 (m3 hid (aR_ h1f2 (by simpa using h49) (hnc1.resolve_right (fun h=>h53 (by omega))).2.1) (by have h8:=(hnc1.resolve_right (fun h=>h53 (by omega))).2.2;omega))
     ·
      obtain ⟨hvb1,hok1,rfl⟩:=hnc1.resolve_right (fun h=>h53 (by omega));have hkd:=aR_ h1f2 (by simpa using h49) hok1;have hl2:=hmf2 (by simpa using h49);have h9k:¬ 9 < bl_ tk:=by omega
      refine j_ (hK12 _ _ (a_ fun K17 hK17=>Rm Z Z (L_y (g_ 32 Tryz.underlying87 Z sz3 Z Z Z) Z (L_o (ac_ S15 1 Z Z Z Z sz3 (by rw [M_];omega) fun w21 S21=>?_)))));have S22:=S21.blkc 1 Z (show _=(mkf (⟨o,(bl_ tk:Int),⟨#[]⟩,0,⟨#[]⟩⟩:Mk)).toArray from stm32 (⟨o,0,⟨#[]⟩,0,⟨#[]⟩⟩:Mk) _);have S23:Zx.St w0 noM [blk b1 87 (mkf zMk).toArray,blk b2 87 (mkf (⟨o,(bl_ tk:Int),⟨#[]⟩,0,⟨#[]⟩⟩:Mk)).toArray,blk b6 41 (idf o).toArray] w21:=S22.cast (by kernel_rfl);refine f_ (hK17 _ _ (a_ fun K18 hK18=>Rm Z Z (L_o (n_ Tryz.func78 Z Z (gC_ s2 ig_ w21 (by omega) (by decide)) Z Z ?_))));rintro e24 w24 ⟨v24,rfl,l24,hu24⟩;refine ⟨_,rfl,?_⟩;have S24:=S23.like l24;obtain ⟨nm,s3,f3,hvf3,h1f3,h0f3,hlf3,hmf3⟩:=dt_ ig_ s2;rw [hvf3] at hu24;subst hu24;refine Lm Z Z (L_y (m_ Z Z) Z (L_y (m_ Z Z) Z (L_y (m_ Z Z) Z (La Z Z (La Z Z (Lan Z Z (hK18 _ _ (a_ fun K19 hK19=>a_ fun K20 hK20=>Rm Z Z (L_y ((by first | exact aA_ Z | exact aZ_ Z)) Z ?_)))))))));refine f_ (hK20 _ _ ?_);refine aD_ Z (fun h67=>?_) (fun h67=>?_)
      ·
       refine a_ fun K21 hK21=>b_ (L_y (C_ Z (show _=some (mkf zMk).toArray by kernel_rfl)) Z (L_o (G_ S24 0 Z Z Z (by rw [M_];exact bS_) (by first | (rw [M_];done) | (rw [M_];rfl)) (fun u hu=>bH_ _ u (by rw [List.toList_toArray] at hu;exact hu)) fun w25 S25=>?_)));refine Lan Z Z (hK21 _ _ (l_ (ur (af_ Z Z Z (S25.blk 0 Z) Tryz.underlying87 Z (by rw [M_];exact bS_) ?_))));exact aM_ S25.like0 (m4 hid hkd (h0f3 (by simpa using h67)))
      ·
       have hnm:=h1f3 (by simpa using h67);have hl3:=hmf3 (by simpa using h67);refine j_ (hK19 _ _ (a_ fun K22 hK22=>Rm Z Z (L_y (g_ 33 Tryz.underlying87 Z sz9 Z Z Z) Z (L_o (ac_ S24 1 Z Z Z Z sz9 (by rw [M_];omega) fun w26 S26=>?_)))));have S27:=S26.blkc 1 Z (show _=(mkf (⟨o,(bl_ tk:Int),⟨nm.toArray⟩,0,⟨#[]⟩⟩:Mk)).toArray from stm33 (⟨o,(bl_ tk:Int),⟨#[]⟩,0,⟨#[]⟩⟩:Mk) _);have S28:Zx.St w0 noM [blk b1 87 (mkf zMk).toArray,blk b2 87 (mkf (⟨o,(bl_ tk:Int),⟨nm.toArray⟩,0,⟨#[]⟩⟩:Mk)).toArray,blk b6 41 (idf o).toArray] w26:=S27.cast (by kernel_rfl);refine f_ (hK22 _ _ (a_ fun K23 hK23=>Rm Z Z (L_o (n_ Tryz.func78 Z Z (gC_ s3 dF_ w26 (by omega) (by decide)) Z Z ?_))));rintro e29 w29 ⟨v29,rfl,l29,hu29⟩;refine ⟨_,rfl,?_⟩;have S29:=S28.like l29;obtain ⟨tn,s4,f4,hvf4,h1f4,h0f4,hlf4,hmf4⟩:=dt_ dF_ s3;rw [hvf4] at hu29;subst hu29;refine Lm Z Z (L_y (m_ Z Z) Z (L_y (m_ Z Z) Z (L_y (m_ Z Z) Z (La Z Z (La Z Z (Lan Z Z (hK23 _ _ (a_ fun K24 hK24=>Rm Z Z (L_o (n_ Tryz.func49 Z Z (gk_ ⟨tn.toArray⟩ w29) Z Z ?_))))))))));rintro e30 w30 ⟨v30,rfl,l30,hu30⟩;refine ⟨_,rfl,?_⟩;have S30:=S29.like l30;obtain ⟨va2,vb2,hnv2,hnc2⟩:=js_ tn;have hnw2:gP_ (⟨tn.toArray⟩:ByteArray).data.toList=.tuple #[.int .i64 va2,.int .i64 vb2]:=hnv2;rw [hnw2] at hu30;subst hu30;refine Lm Z Z (L_y (m_ Z Z) Z (L_y (m_ Z Z) Z (La Z Z (Lan Z Z (hK24 _ _ (a_ fun K25 hK25=>a_ fun K26 hK26=>Rm Z Z (L_y ((by first | exact aA_ Z | exact aZ_ Z)) Z ?_)))))));refine Lm Z Z ?_;refine ch_ 84 Z (fun h84=>?_) (fun h84=>?_)
       ·
        refine h_ Z Z Z (h_ Z Z Z (Lp Z Z Z (Lm Z Z (h_ Z Z Z (h_ Z Z Z (Lp Z Z Z (Lm Z Z (h_ Z Z Z (h_ Z Z Z (h_ Z Z Z (Lp Z Z Z (f_ (hK26 _ _ ?_)))))))))))));refine W_ Z (a_ fun K27 hK27=>b_ (L_y (C_ Z (show _=some (mkf zMk).toArray by kernel_rfl)) Z (L_o (G_ S30 0 Z Z Z (by rw [M_];exact bS_) (by first | (rw [M_];done) | (rw [M_];rfl)) (fun u hu=>bH_ _ u (by rw [List.toList_toArray] at hu;exact hu)) fun w32 S32=>?_))));refine Lan Z Z (hK27 _ _ (l_ (ur (af_ Z Z Z (S32.blk 0 Z) Tryz.underlying87 Z (by rw [M_];exact bS_) ?_))));first | exact aM_ S32.like0 (m5 hid hkd hnm (aq_ h1f4 h0f4 (.inl (by simpa using h84)))) | exact aM_ S32.like0 (m5 hid hkd hnm (aq_ h1f4 h0f4 (.inr (hnc2.resolve_left (fun h=>h88 h.1)).2))) | exact aM_ S32.like0 (m6 hid hkd hnm (aR_ h1f4 (by simpa using h84) (hnc2.resolve_right (fun h=>h88 (by omega))).2.1) (by first | exact cI_ h96 | exact cJ_ h92))
       ·
        refine d_ Z Z (Lm Z Z (d_ Z Z (L_y (ab_ Z Z) Z (Lp Z Z Z (Lm Z Z ?_)))));refine y_ 88 Z (fun h88=>?_) (fun h88=>?_)
        ·
         refine h_ Z Z Z (h_ Z Z Z (Lp Z Z Z (Lm Z Z (h_ Z Z Z (h_ Z Z Z (h_ Z Z Z (Lp Z Z Z (f_ (hK26 _ _ (W_ Z (a_ fun K28 hK28=>b_ (L_y (C_ Z (show _=some (mkf zMk).toArray by kernel_rfl)) Z ?_))))))))))));refine L_o (G_ S30 0 Z Z Z (by rw [M_];exact bS_) (by first | (rw [M_];done) | (rw [M_];rfl)) (fun u hu=>bH_ _ u (by rw [List.toList_toArray] at hu;exact hu)) fun w34 S34=>?_);refine Lan Z Z (hK28 _ _ (l_ (ur (af_ Z Z Z (S34.blk 0 Z) Tryz.underlying87 Z (by rw [M_];exact bS_) ?_))));first | exact aM_ S34.like0 (m5 hid hkd hnm (aq_ h1f4 h0f4 (.inl (by simpa using h84)))) | exact aM_ S34.like0 (m5 hid hkd hnm (aq_ h1f4 h0f4 (.inr (hnc2.resolve_left (fun h=>h88 h.1)).2))) | exact aM_ S34.like0 (m6 hid hkd hnm (aR_ h1f4 (by simpa using h84) (hnc2.resolve_right (fun h=>h88 (by omega))).2.1) (by first | exact cI_ h96 | exact cJ_ h92))
        ·
         refine d_ Z Z (Lm Z Z (d_ Z Z (L_y (cW_ Z Z) Z (Lp Z Z Z (Lm Z Z ?_)))));refine y_ 92 Z (fun h92=>?_) (fun h92=>?_)
         ·
          refine h_ Z Z Z (h_ Z Z Z (h_ Z Z Z (Lp Z Z Z (f_ (hK26 _ _ (W_ Z (a_ fun K29 hK29=>b_ (L_y (C_ Z (show _=some (mkf zMk).toArray by kernel_rfl)) Z (L_o (G_ S30 0 Z Z Z (by rw [M_];exact bS_) (by first | (rw [M_];done) | (rw [M_];rfl)) (fun u hu=>bH_ _ u (by rw [List.toList_toArray] at hu;exact hu)) fun w36 S36=>?_))))))))));refine Lan Z Z (hK29 _ _ (l_ (ur (af_ Z Z Z (S36.blk 0 Z) Tryz.underlying87 Z (by rw [M_];exact bS_) ?_))));first | exact aM_ S36.like0 (m5 hid hkd hnm (aq_ h1f4 h0f4 (.inl (by simpa using h84)))) | exact aM_ S36.like0 (m5 hid hkd hnm (aq_ h1f4 h0f4 (.inr (hnc2.resolve_left (fun h=>h88 h.1)).2))) | exact aM_ S36.like0 (m6 hid hkd hnm (aR_ h1f4 (by simpa using h84) (hnc2.resolve_right (fun h=>h88 (by omega))).2.1) (by first | exact cI_ h96 | exact cJ_ h92))
         ·
          have h0s:0 < s4.length:=Nat.pos_of_ne_zero (fun e=>h92 (by rw [List.eq_nil_of_length_eq_zero e]));have hbs4:=bsz s4;refine d_ Z Z (Lm Z Z (d_ Z Z (L_y (bz_ Tryz.underlying9 Z Z inferInstance (by omega)) Z (d_ Z Z (L_y (ab_ Z Z) Z (Lp Z Z Z (f_ (hK26 _ _ ?_))))))));refine o_ Z (fun h96=>?_) (fun h96=>?_)
          ·
           refine a_ fun K30 hK30=>b_ (L_y (C_ Z (show _=some (mkf zMk).toArray by kernel_rfl)) Z (L_o (G_ S30 0 Z Z Z (by rw [M_];exact bS_) (by first | (rw [M_];done) | (rw [M_];rfl)) (fun u hu=>bH_ _ u (by rw [List.toList_toArray] at hu;exact hu)) fun w37 S37=>?_)));refine Lan Z Z (hK30 _ _ (l_ (ur (af_ Z Z Z (S37.blk 0 Z) Tryz.underlying87 Z (by rw [M_];exact bS_) ?_))));first | exact aM_ S37.like0 (m5 hid hkd hnm (aq_ h1f4 h0f4 (.inl (by simpa using h84)))) | exact aM_ S37.like0 (m5 hid hkd hnm (aq_ h1f4 h0f4 (.inr (hnc2.resolve_left (fun h=>h88 h.1)).2))) | exact aM_ S37.like0 (m6 hid hkd hnm (aR_ h1f4 (by simpa using h84) (hnc2.resolve_right (fun h=>h88 (by omega))).2.1) (by first | exact cI_ h96 | exact cJ_ h92))
          ·
           obtain ⟨hvb2,hok2,rfl⟩:=hnc2.resolve_right (fun h=>h88 (by omega));have hpx:cG_ s4 [10]:=(pre1 s4).2 ⟨h0s,Classical.byContradiction fun e=>h96 e⟩;have hg:ca_ s=some (⟨o,bl_ tk,nm,bl_ tn,s4.drop 1⟩:MkL):=m7 hid hkd h9k hnm (aR_ h1f4 (by simpa using h84) hok2) (by unfold dG_;exact if_pos hpx);refine j_ (hK25 _ _ (a_ fun K31 hK31=>Rm Z Z (L_y (g_ 34 Tryz.underlying87 Z sz3 Z Z Z) Z (L_o (ac_ S30 1 Z Z Z Z sz3 (by rw [M_];omega) fun w38 S38=>?_)))));have S39:=S38.blkc 1 Z (show _=(mkf (⟨o,(bl_ tk:Int),⟨nm.toArray⟩,(bl_ tn:Int),⟨#[]⟩⟩:Mk)).toArray from stm34 (⟨o,(bl_ tk:Int),⟨nm.toArray⟩,0,⟨#[]⟩⟩:Mk) _);have S40:Zx.St w0 noM [blk b1 87 (mkf zMk).toArray,blk b2 87 (mkf (⟨o,(bl_ tk:Int),⟨nm.toArray⟩,(bl_ tn:Int),⟨#[]⟩⟩:Mk)).toArray,blk b6 41 (idf o).toArray] w38:=S39.cast (by kernel_rfl);refine f_ (hK31 _ _ (a_ fun K32 hK32=>Rm Z Z (L_y (cQ_ (l:=1) Tryz.underlying9 Z Z (Nt.mk (by omega)) (by omega)) Z ?_)));rw [eS_];refine L_y (g_ 35 Tryz.underlying87 Z sz9 Z Z Z) Z (L_o (ac_ S40 1 Z Z Z Z sz9 (by rw [M_];omega) fun w41 S41=>?_));have S42:=S41.blkc 1 Z (show _=(mkf (⟨o,(bl_ tk:Int),⟨nm.toArray⟩,(bl_ tn:Int),⟨(s4.drop 1).toArray⟩⟩:Mk)).toArray from stm35 (⟨o,(bl_ tk:Int),⟨nm.toArray⟩,(bl_ tn:Int),⟨#[]⟩⟩:Mk) _);have S43:Zx.St w0 noM [blk b1 87 (mkf zMk).toArray,blk b2 87 (mkf (⟨o,(bl_ tk:Int),⟨nm.toArray⟩,(bl_ tn:Int),⟨(s4.drop 1).toArray⟩⟩:Mk)).toArray,blk b6 41 (idf o).toArray] w41:=S42.cast (by kernel_rfl);refine f_ (hK32 _ _ (a_ fun K33 hK33=>b_ (L_y (Y_ Tryz.underlying87 Z bS_ Z (S43.blk 1 Z) (dW_ _)) Z (L_o (n_ Tryz.func81 Z Z (rcheckM (fE_ (⟨o,bl_ tk,nm,bl_ tn,s4.drop 1⟩:MkL)) w41) Z Z ?_)))));rintro e44 w44 ⟨v44,rfl,l44,rfl⟩;refine ⟨_,rfl,(have S44:=S43.like l44;Lan Z Z (hK33 _ _ (a_ fun K34 hK34=>a_ fun K35 hK35=>Rm Z Z (L_y (ab_ Z Z) Z (f_ (hK35 _ _ ?_))))))⟩;refine o_ Z (fun h106=>?_) (fun h106=>?_)
           ·
            refine a_ fun K36 hK36=>b_ (L_y (C_ Z (show _=some (mkf zMk).toArray by kernel_rfl)) Z (Lm Z Z (L_o (G_ S44 0 Z Z Z (by rw [M_];exact bS_) (by first | (rw [M_];done) | (rw [M_];rfl)) (fun u hu=>bH_ _ u (by rw [List.toList_toArray] at hu;exact hu)) fun w45 S45=>?_))));refine Lan Z Z (hK36 _ _ (l_ (ur (af_ Z Z Z (S45.blk 0 Z) Tryz.underlying87 Z (by rw [M_];exact bS_) ?_))));have hgo:=iC_ hg;have h0:¬ ee_ (fE_ (⟨o,bl_ tk,nm,bl_ tn,s4.drop 1⟩:MkL))=0:=fun e=>h106 e;have hv:mval s=zML:=by rw [hgo.2,if_neg h0]
            rw [hv,hgo.1,iN_];exact ⟨_,rfl,S45.like0,rfl⟩
           ·
            refine j_ (hK34 _ _ (a_ fun K37 hK37=>b_ (L_y (Y_ Tryz.underlying87 Z bS_ Z (S44.blk 1 Z) (dW_ _)) Z (L_o (G_ S44 0 Z Z Z (by rw [M_];exact bS_) (by first | (rw [M_];done) | (rw [M_];rfl)) (fun u hu=>bH_ _ u (by rw [List.toList_toArray] at hu;exact hu)) fun w46 S46=>?_)))));refine Lan Z Z (hK37 _ _ (l_ (ur (af_ Z Z Z (S46.blk 0 Z) Tryz.underlying87 Z (by rw [M_];exact bS_) ?_))));have hgo:=iC_ hg;have h0:ee_ (fE_ (⟨o,bl_ tk,nm,bl_ tn,s4.drop 1⟩:MkL))=0:=Classical.byContradiction fun e=>h106 e;have hv:mval s=(⟨o,bl_ tk,nm,bl_ tn,s4.drop 1⟩:MkL):=by rw [hgo.2,if_pos h0]
            rw [hv,hgo.1,h0];exact ⟨_,rfl,S46.like0,rfl⟩
end Rev
namespace Obj
open Go.RowKit Zk Zx
open Oid (idf B_)
open Tre (aw_ EV enf aG_ cD_ cE_)
open Rev (aT_ ar_ bb_)
def wlist:List Value:=[.string (bM_ 1),.string (bM_ 2),.string (bM_ 3),.string (bM_ 4)]
theorem wl_at {k:Int} (h:1≤k∧k≤4):wlist[(k - 1).toNat]?=some (.string (bM_ k)):=by
  have hk:k=1∨k=2∨k=3∨k=4:=by omega
  rcases hk with rfl | rfl | rfl | rfl <;> rfl
theorem words  (w0:World)  :
    Calls Tryz.prog 44 #[] w0 fun e w'=>∃ u,e=.returned u∧Like w0 w'∧∃ A c,u=.slice A 4 c∧Rs w' 1 A 4 c wlist:=by
 refine v_ (env:=[]) [] Tryz.func44 Z Tryz.ntmps44 Z Z ?_;have S0:=St.start w0 noM;refine a_ fun K1 hK1=>b_ (Lan Z Z (hK1 _ _ (a_ fun K2 hK2=>b_ (L_o (ah_ wlist te90 zz9 S0 Z Z Z Z Z Z Z Z fun b1 w1 S1=>Lan Z Z (hK2 _ _ (l_ (ur (F_ Z Z ?_)))))))));exact ⟨_,rfl,S1.like0,_,_,rfl,S1.row 0 Z⟩
theorem rword_ (k:Int) (w0:World)  :
    Calls Tryz.prog 18 #[.int .i64 k] w0 fun e w'=>∃ u,e=.returned u∧Like w0 w'∧u=.string (bM_ k):=by
 refine v_ (env:=[(0,.int .i64 k)]) [.int .i64 k] Tryz.func18 Z Tryz.ntmps18 Z Z ?_;have S0:=St.start w0 noM;refine a_ fun K1 hK1=>b_ (Lan Z Z (hK1 _ _ (a_ fun K2 hK2=>a_ fun K3 hK3=>Rm Z Z (L_y (L_ Z Z) Z (Lm Z Z ?_)))));refine y_ 5 Z (fun h5=>?_) (fun h5=>?_)
 ·
  refine h_ Z Z Z (h_ Z Z Z (Lp Z Z Z (f_ (hK3 _ _ (W_ Z (a_ fun K4 hK4=>b_ (Lan Z Z (hK4 _ _ (l_ (ur (F_ Z Z ?_)))))))))));exact ⟨_,rfl,S0.like0,congrArg Value.string (ha_ k |>.2 (by omega)).symm⟩
 ·
  refine d_ Z Z (Lm Z Z (d_ Z Z (L_y (Z_ Z Z) Z (Lp Z Z Z (f_ (hK3 _ _ ?_))))));refine o_ Z (fun h8=>?_) (fun h8=>?_)
  ·
   refine a_ fun K5 hK5=>b_ (Lan Z Z (hK5 _ _ (l_ (ur (F_ Z Z ?_)))));exact ⟨_,rfl,S0.like0,congrArg Value.string (ha_ k |>.2 (by omega)).symm⟩
  ·
   refine j_ (hK2 _ _ (a_ fun K6 hK6=>b_ (L_o (n_ Tryz.func44 Z Z (words w0) Z Z ?_))));rintro e2 w2 ⟨v2,rfl,l2,A9,c9,rfl,F9⟩;refine ⟨_,rfl,(have S2:=S0.like l2;Lm Z Z (L_y (ax_ Z Z (z_ (by omega))) Z (L_y (T_ Tryz.underlying90 sz9 Z Z (F9) (Nt.mk (by omega):Nt _ ((k - 1).toNat)) (by omega)) Z (L_y (cj_ Tryz.underlying9 Z Z F9 (wl_at (by omega))) Z (Lan Z Z (hK6 _ _ (l_ (ur (F_ Z Z ?_)))))))))⟩;exact ⟨_,rfl,S2.like0,rfl⟩
theorem rcheck_ (k:Int) (B:Option Addr) (m d:Nat) (b:List UInt8) (w0:World) (hb:Rs w0 1 B m d (bL b)) :
    Calls Tryz.prog 16 #[.int .i64 k,.slice B m d] w0 fun e w'=>∃ u,e=.returned u∧Like w0 w'∧u=.int .i64 (ad_ k b):=by
 refine v_ (env:=[(0,.int .i64 k),(1,.slice B m d)]) [.int .i64 k,.slice B m d] Tryz.func16 Z Tryz.ntmps16 Z Z ?_;have hl:=hb.lenb;have hcap:=hb.cap;have hmax:=hb.max;have S0:=St.start w0 noM;refine a_ fun K1 hK1=>b_ (Lan Z Z (hK1 _ _ (a_ fun K2 hK2=>a_ fun K3 hK3=>Rm Z Z (L_y (L_ Z Z) Z (Lm Z Z ?_)))));refine y_ 8 Z (fun h8=>?_) (fun h8=>?_)
 ·
  refine h_ Z Z Z (h_ Z Z Z (Lp Z Z Z (f_ (hK3 _ _ (W_ Z (a_ fun K4 hK4=>b_ (Lan Z Z (hK4 _ _ (l_ (ur (F_ Z Z ?_)))))))))));have he:ad_ k b=19:=by unfold ad_;rw [if_pos (by omega)]
  exact ⟨_,rfl,S0.like0,by first | (rw [he];done) | (rw [he];rfl)⟩
 ·
  refine d_ Z Z (Lm Z Z (d_ Z Z (L_y (Z_ Z Z) Z (Lp Z Z Z (f_ (hK3 _ _ ?_))))));refine o_ Z (fun h11=>?_) (fun h11=>?_)
  ·
   refine a_ fun K5 hK5=>b_ (Lan Z Z (hK5 _ _ (l_ (ur (F_ Z Z ?_)))));have he:ad_ k b=19:=by unfold ad_;rw [if_pos (by omega)]
   exact ⟨_,rfl,S0.like0,by first | (rw [he];done) | (rw [he];rfl)⟩
  ·
   refine j_ (hK2 _ _ (a_ fun K6 hK6=>a_ fun K7 hK7=>Rm Z Z (L_y (I_ Tryz.underlying22 Z) Z (L_y (Z_ Z Z) Z (f_ (hK7 _ _ ?_))))));refine o_ Z (fun h14=>?_) (fun h14=>?_)
   ·
    refine a_ fun K8 hK8=>b_ (Lan Z Z (hK8 _ _ (l_ (ur (F_ Z Z ?_)))));have he:ad_ k b=3:=by unfold ad_;rw [if_neg (fun q=>q (by omega)),if_pos (by omega)]
    exact ⟨_,rfl,S0.like0,by first | (rw [he];done) | (rw [he];rfl)⟩
   ·
    refine j_ (hK6 _ _ (a_ fun K9 hK9=>b_ (Lan Z Z (hK9 _ _ (a_ fun K10 hK10=>a_ fun K11 hK11=>Rm Z Z (f_ (hK11 _ _ (r_ ?_))))))));refine a_ fun K12 hK12=>b_ (L_y (am_ Z Z) Z (Lan Z Z (hK12 _ _ ?_)));refine o_ Z (fun h16=>?_) (fun h16=>?_)
    ·
     refine Rm Z Z (L_o (n_ Tryz.func41 Z Z (rget B m d b w0 (S0.rd hb) (by omega)) Z Z ?_));rintro e2 w2 ⟨v2,rfl,l2,A20,k20,c20,rfl⟩;refine ⟨_,rfl,(have S2:=S0.like l2;Lm Z Z (L_y (m_ Z Z) Z (L_y (m_ Z Z) Z (Lan Z Z (hK10 _ _ (a_ fun K13 hK13=>Rm Z Z (Lan Z Z (hK13 _ _ ?_))))))))⟩;refine l_ (ur (F_ Z Z ?_));have he:ad_ k b=cR_ b:=by unfold ad_;rw [if_neg (fun q=>q (by omega)),if_neg (by omega),if_pos h16]
     exact ⟨_,rfl,S2.like0,by first | (rw [he];done) | (rw [he];rfl)⟩
    ·
     refine a_ fun K14 hK14=>b_ (L_y (am_ Z Z) Z (Lan Z Z (hK14 _ _ ?_)));refine o_ Z (fun h23=>?_) (fun h23=>?_)
     ·
      refine Rm Z Z (L_o (n_ Tryz.func42 Z Z (Rev.rgetB B m d b w0 (S0.rd hb) (by omega)) Z Z ?_));rintro e3 w3 ⟨v3,rfl,l3,A33,c33,F33,rfl⟩;refine ⟨_,rfl,(have S3:=S0.like l3;Lm Z Z (L_y (m_ Z Z) Z (L_y (m_ Z Z) Z (Lan Z Z (hK10 _ _ (a_ fun K15 hK15=>Rm Z Z (Lan Z Z (hK15 _ _ ?_))))))))⟩;refine l_ (ur (F_ Z Z ?_));have he:ad_ k b=Rev.gF_ b:=by unfold ad_;rw [if_neg (fun q=>q (by omega)),if_neg (by omega),if_neg h16,if_pos h23]
      exact ⟨_,rfl,S3.like0,by first | (rw [he];done) | (rw [he];rfl)⟩
     ·
      refine a_ fun K16 hK16=>b_ (L_y (am_ Z Z) Z (Lan Z Z (hK16 _ _ ?_)));refine o_ Z (fun h30=>?_) (fun h30=>?_)
      ·
       refine Rm Z Z (L_o (n_ Tryz.func43 Z Z (Rev.rgetMB B m d b w0 (S0.rd hb) (by omega)) Z Z ?_));rintro e4 w4 ⟨v4,rfl,l4,rfl⟩;refine ⟨_,rfl,(have S4:=S0.like l4;Lm Z Z (L_y (m_ Z Z) Z (L_y (m_ Z Z) Z (Lan Z Z (hK10 _ _ (a_ fun K17 hK17=>Rm Z Z (Lan Z Z (hK17 _ _ ?_))))))))⟩;refine l_ (ur (F_ Z Z ?_));have he:ad_ k b=Rev.gE_ b:=by unfold ad_;rw [if_neg (fun q=>q (by omega)),if_neg (by omega),if_neg h16,if_neg h23,if_pos h30]
       exact ⟨_,rfl,S4.like0,by first | (rw [he];done) | (rw [he];rfl)⟩
      ·
       refine j_ (hK10 _ _ (a_ fun K18 hK18=>Rm Z Z (Lan Z Z (hK18 _ _ (l_ (ur (F_ Z Z ?_)))))));have he:ad_ k b=0:=by unfold ad_;rw [if_neg (fun q=>q (by omega)),if_neg (by omega),if_neg h16,if_neg h23,if_neg h30]
       exact ⟨_,rfl,S0.like0,by first | (rw [he];done) | (rw [he];rfl)⟩
end Obj
namespace Obj
open Go.RowKit Zk Zx
open Oid (idf B_)
open Tre (aw_ EV enf aG_ cD_ cE_)
open Rev (aT_ ar_ bb_)
theorem rbytes_ (k:Int) (B:Option Addr) (m d:Nat) (b:List UInt8) (w0:World) (hb:Rs w0 1 B m d (bL b)) (hm9:m≤90000) :
    Calls Tryz.prog 13 #[.int .i64 k,.slice B m d] w0 fun e w'=>∃ u,e=.returned u∧Like w0 w'∧BytesV w0 w' k b u:=by
 refine v_ (env:=[(0,.int .i64 k),(1,.slice B m d)]) [.int .i64 k,.slice B m d] Tryz.func13 Z Tryz.ntmps13 Z Z ?_;have hl:=hb.lenb;have hcap:=hb.cap;have hmax:=hb.max;have S0:=St.start w0 noM;refine a_ fun K1 hK1=>b_ (La Z Z (Lan Z Z (hK1 _ _ (a_ fun K2 hK2=>Rm Z Z (Lm Z Z (L_o (n_ Tryz.func16 Z Z (rcheck_ k B m d b w0 (S0.rd hb)) Z Z ?_)))))));rintro e1 w1 ⟨v1,rfl,l1,rfl⟩;refine ⟨_,rfl,(have S1:=S0.like l1;Lan Z Z (hK2 _ _ (a_ fun K3 hK3=>a_ fun K4 hK4=>Rm Z Z (L_y (ab_ Z Z) Z (f_ (hK4 _ _ ?_))))))⟩;refine o_ Z (fun h12=>?_) (fun h12=>?_)
 ·
  refine a_ fun K5 hK5=>Rm Z Z (La Z Z (Lan Z Z (hK5 _ _ (l_ (ur (bj_ Z Z Z ?_))))));exact ⟨_,rfl,S1.like0,.inl ⟨h12,rfl⟩⟩
 ·
  refine j_ (hK3 _ _ (a_ fun K6 hK6=>Rm Z Z (L_o (n_ Tryz.func18 Z Z (rword_ k w1) Z Z ?_))));rintro e2 w2 ⟨v2,rfl,l2,rfl⟩;refine ⟨_,rfl,(have S2:=S1.like l2;L_y (fz_ Z Z (by have h9:=ge_ k;rw [spsz];omega)) Z ?_)⟩;refine Lm Z Z (L_y (I_ Tryz.underlying22 Z) Z (L_o (n_ Tryz.func39 Z Z (Rev.rdigits (m:Int) w2 (by omega)) Z Z ?_)));rintro e3 w3 ⟨v3,rfl,l3,rfl⟩;refine ⟨_,rfl,?_⟩;have S3:=S2.like l3;have hd9:=Rev.digS_len (n:=(m:Int)) (by omega);have hw9:=ge_ k;have hs1:(bM_ k++(⟨#[32]⟩:ByteArray)).size=(bM_ k).size+1:=by rw [ByteArray.size_append,spsz]
  have hs2:((bM_ k++(⟨#[32]⟩:ByteArray))++(⟨(Rev.eF_ (m:Int)).toArray⟩:ByteArray)).size=(bM_ k).size+1+(Rev.eF_ (m:Int)).length:=by rw [ByteArray.size_append,hs1,Rev.bsz (Rev.eF_ (m:Int))]
  refine L_y (fz_ Z Z (by rw [hs1,Rev.bsz (Rev.eF_ (m:Int))];omega)) Z ?_;refine L_o (kh_ Tryz.underlying9 Tryz.underlying22 Tryz.underlying5 Z (by rw [hs2];omega) S3 Z fun bb cc w4 ll S4=>?_);refine Lan Z Z (hK6 _ _ (a_ fun K7 hK7=>Rm Z Z (L_o (ah_ [_] ba_ zz5 S4 Z Z Z Z Z Z Z Z fun b5 w5 S5=>L_o (o_appM ba_ S5 0 Z Z Z (S5.row 1 Z) (by intro u hu;simp at hu;subst hu;rfl) Z (by rw [hs2];omega) (by rw [hs2];omega) fun AA ca w6 S6=>?_)))));refine Lan Z Z (hK7 _ _ (a_ fun K8 hK8=>Rm Z Z (Lm Z Z (L_o (o_appM ba_ S6 0 Z Z Z (S6.rd hb) (R_ _) Z (by rw [hs2];omega) (by rw [hs2];omega) fun AB cb w7 S7=>?_)))));refine La Z Z (Lan Z Z (hK8 _ _ (l_ (ur (bj_ Z Z Z ?_)))));have he:ad_ k b=0:=Classical.byContradiction fun q=>h12 q;have e1:(((bM_ k++(⟨#[32]⟩:ByteArray))++(⟨(Rev.eF_ (m:Int)).toArray⟩:ByteArray)).size+1+m)=(bG_ k b).length:=by rw [hdr_size];unfold bG_;simp only [List.length_append,List.length_cons,List.length_nil];rw [hl]
  have e2:(bL (((bM_ k++(⟨#[32]⟩:ByteArray))++(⟨(Rev.eF_ (m:Int)).toArray⟩:ByteArray)).data.toList)++[Value.int .u8 0])++bL b=bL (bG_ k b):=by rw [jC_];unfold bG_;rw [hl];unfold bL;simp only [List.map_append,List.map_cons,List.map_nil];rfl
  have FF:=S7.frM 0 Z;rw [e1,e2] at FF;exact ⟨_,rfl,S7.like0,.inr ⟨he,_,_,by rw [e1],FF⟩⟩
end Obj
namespace Obj
open Go.RowKit Zk Zx
open Oid (idf B_)
open Tre (aw_ EV enf aG_ cD_ cE_)
open Rev (aT_ ar_ bb_)
theorem rbytesGood (k:Int) (B:Option Addr) (m d:Nat) (b:List UInt8) (w0:World) (hb:Rs w0 1 B m d (bL b)) (hm9:m≤90000) (he:ad_ k b=0):Calls Tryz.prog 13 #[.int .i64 k,.slice B m d] w0 fun e w'=>∃ u,e=.returned u∧Like w0 w'∧∃ A c,u=.tuple #[.slice A (bG_ k b).length c,.int .i64 0]∧Fr w0 w' 1 A (bG_ k b).length c (bL (bG_ k b)) :=
  (rbytes_ k B m d b w0 hb hm9).mono fun e w' ⟨u,h1,h2,h3⟩=>by
    rcases h3 with ⟨h,_⟩ | ⟨_,A,c,h4,h5⟩
    · exact absurd he h
    · exact ⟨u,h1,h2,A,c,h4,h5⟩
theorem rbytesBad (k:Int) (B:Option Addr) (m d:Nat) (b:List UInt8) (w0:World) (hb:Rs w0 1 B m d (bL b)) (hm9:m≤90000) (he:ad_ k b≠0):Calls Tryz.prog 13 #[.int .i64 k,.slice B m d] w0 fun e w'=>∃ u,e=.returned u∧Like w0 w'∧u=.tuple #[.slice none 0 0,.int .i64 (ad_ k b)] :=
  (rbytes_ k B m d b w0 hb hm9).mono fun e w' ⟨u,h1,h2,h3⟩=>by
    rcases h3 with ⟨_,h⟩ | ⟨h,_⟩
    · exact ⟨u,h1,h2,h⟩
    · exact absurd h he
end Obj
namespace Obj
open Go.RowKit Zk Zx
open Oid (idf B_)
open Tre (aw_ EV enf aG_ cD_ cE_)
open Rev (aT_ ar_ bb_)
end Obj
namespace Obj
open Go.RowKit Zk Zx
open Oid (idf B_)
open Tre (aw_ EV enf aG_ cD_ cE_)
open Rev (aT_ ar_ bb_)
end Obj
namespace Sha
open Go.RowKit Zk Zx
def dh_ (n:Nat):Nat:=(119 - n % 64) % 64
def tl (v:Nat):Nat→List UInt8
  | 0=>[]
  | j+1=>UInt8.ofNat (v / 256 ^ j % 256)::tl v j
theorem x_ (v:Nat):∀ j,(tl v j).length=j
  | 0=>rfl
  | j+1=>by simp [tl,x_ v j]
def fh_ (n:Nat):List UInt8:=128::List.replicate (dh_ n) 0++tl (n*8 % 18446744073709551616) 8
theorem fS_ (n:Nat):(fh_ n).length=9+dh_ n:=by simp [fh_,x_];omega
theorem refpad (n:Nat) (hn:n≤18446744073709551615) (w0:World) :
    Calls Tryz.prog 51 #[.int .u64 (n:Int)] w0 fun e w'=>∃ v,e=.returned v∧Like w0 w'∧∃ A m c,v=.slice A m c∧w'.ownsRow w0.heap.size 5 1 (.slice A m c) m (bL (fh_ n)):=by
 refine v_ (env:=[(0,.int .u64 (n:Int))]) [.int .u64 (n:Int)] Tryz.func51 Z Tryz.ntmps51 Z Z ?_;have S0:=St.start w0 noM;refine a_ fun K1 hK1=>b_ (Lan Z Z (hK1 _ _ (a_ fun K2 hK2=>b_ (L_o (ah_ [_] ba_ zz5 S0 Z Z Z Z Z Z Z Z fun b1 w1 S1=>Lan Z Z (hK2 _ _ (a_ fun K3 hK3=>r_ ?_)))))));refine df_ [(0,_)] (fun (k:Nat) (A:Option Addr) (c:Nat)=>[(3,.slice A (1+k) c)]) (fun (k:Nat) (A:Option Addr) (c:Nat)=>64 - k) (fun (k:Nat) (A:Option Addr) (c:Nat) (w:World)=>k≤dh_ n∧Zx.St w0 noM [row 5 1 A (1+k) c (bL (128::List.replicate k 0))] w) 0 _ 1 (Sc Z (Sub.nil _)) (Sub.cons Z Z (Sub.nil _)) ?_ ?_
 ·
  exact ⟨Nat.zero_le _,S1⟩
 ·
  intro k A c w2 hrel;obtain ⟨hk,S2⟩:=hrel;have hg:dh_ n≤63:=by unfold dh_;omega
  refine a_ fun K4 hK4=>a_ fun K5 hK5=>Rm Z Z (L_y (eo_ Z Z (by omega) (remI (by omega))) Z (Lm Z Z (L_y (I_ Tryz.underlying22 Z) Z (L_y (P_ is3 Tryz.underlying102 Z (dg_ (by omega))) Z (L_y (w_ Z Z (dg_ (by omega))) Z (L_y (w_ Z Z (dg_ (by omega))) Z (L_y (eo_ Z Z (by omega) (remI (by omega))) Z (L_y (ab_ Z Z) Z (f_ (hK5 _ _ ?_))))))))));refine o_ Z (fun h16=>?_) (fun h16=>?_)
  ·
   refine j_ (hK4 _ _ (r_ (Rm Z Z (L_o (ah_ [_] ba_ zz5 S2 Z Z Z Z Z Z Z Z fun b3 w3 S3=>L_o (ay_ ba_ S3 0 Z Z Z (by first | exact S3.row 0 Z | exact S3.row 1 Z) (by first | exact R_ _ | exact bu_ _ | (intro u hu;simp at hu;subst hu;rfl) | (simp;done) | (simp [Value.oneCell'];done)) Z (by omega) (by omega) fun A4 c4 w4 S4=>?_))))));have S4d:=S4.drop (rs':=[_]) (.cons_cons _ (.cons _ (.refl _)));refine Lan Z Z ?_;have hk1:k+1≤dh_ n:=by unfold dh_ at hk ⊢;omega
   have S9:=S4d.rowc 0 Z (n':=1+(k+1)) (xs':=bL (128::List.replicate (k+1) 0)) Z (by simp [bL,bV,List.replicate_succ']);refine ⟨k+1,_,_,by omega,⟨hk1,S9⟩,?_⟩;exact (Sc Z (Sub.cons Z Z (Sub.nil _)))
  ·
   have hkg:k=dh_ n:=by unfold dh_ at hk ⊢;omega
   subst hkg;refine K_ (hK3 _ _ (a_ fun K6 hK6=>?_));have hv:((n:Int)*8 % 18446744073709551616)=((n*8 % 18446744073709551616:Nat):Int):=by omega
   have hvl:n*8 % 18446744073709551616 < 18446744073709551616:=Nat.mod_lt _ (by omega);refine Rm Z Z (L_y (ci_ Z Z (IntKind.wrap_u64 _)) Z (Lan Z Z (hK6 _ _ (a_ fun K7 hK7=>b_ (Lan Z Z (hK7 _ _ (a_ fun K8 hK8=>a_ fun K9 hK9=>b_ ?_)))))));refine Lan Z Z (hK9 _ _ (r_ ?_));refine df_ [(3,_)] (fun (j:Nat) (A2:Option Addr) (c2:Nat)=>[(4,.int .u64 ((n*8 % 18446744073709551616 / 256 ^ j:Nat):Int)),(5,.slice A2 j c2),(6,.int .i64 (j:Int))]) (fun (j:Nat) (A2:Option Addr) (c2:Nat)=>8 - j) (fun (j:Nat) (A2:Option Addr) (c2:Nat) (w:World)=>j≤8∧Zx.St w0 noM [row 5 1 A (1+dh_ n) c (bL (128::List.replicate (dh_ n) 0)),row 5 1 A2 j c2 (bL (tl (n*8 % 18446744073709551616) j))] w) 0 none 0 (Sub.cons Z (by first | rfl | exact congrArg (Value.int _) (by simp)) (Sub.cons Z (by first | rfl | exact congrArg (Value.int _) (by simp)) (Sub.cons Z (by first | rfl | exact congrArg (Value.int _) (by simp)) (Sub.nil _)))) (Sub.cons Z Z (Sub.nil _)) ?_ ?_
   ·
    exact ⟨Nat.zero_le _,S2.nilrow 5 1⟩
   ·
    intro j A2 c2 w5 hrel;obtain ⟨hj,S5⟩:=hrel;have hq:n*8 % 18446744073709551616 / 256 ^ j≤18446744073709551615:=Nat.le_trans (Nat.div_le_self _ _) (by omega);generalize hvj:n*8 % 18446744073709551616 / 256 ^ j=vj at *
    refine a_ fun K10 hK10=>a_ fun K11 hK11=>Rm Z Z (L_y (L_ Z Z) Z (f_ (hK11 _ _ ?_)));refine o_ Z (fun h23=>?_) (fun h23=>?_)
    ·
     refine j_ (hK10 _ _ (a_ fun K12 hK12=>r_ (a_ fun K13 hK13=>Rm Z Z (L_y (eo_ Z Z (by omega) (remI (by omega))) Z (L_y (P_ di_ Tryz.underlying5 Z (IntKind.wrap_u8 _)) Z (L_o (ah_ [_] ba_ zz5 S5 Z Z Z Z Z Z Z Z fun b6 w6 S6=>Lm Z Z (L_o (ay_ ba_ S6 2 Z Z Z (by first | exact S6.row 0 Z | exact S6.row 1 Z | exact S6.row 2 Z) (by first | exact R_ _ | exact bu_ _ | (intro u hu;simp at hu;subst hu;rfl) | (simp;done) | (simp [Value.oneCell'];done)) Z (by omega) (by omega) fun A7 c7 w7 S7=>?_)))))))));refine Lan Z Z (hK13 _ _ (Rm Z Z (L_y (gz_ Z Z (by omega) (quoU (by omega) (by omega))) Z (Lan Z Z (hK12 _ _ (Rm Z Z (L_y (w_ Z Z (z_ (by omega))) Z (Lan Z Z ?_))))))));have Std:=S7.drop (rs':=[_,_]) (.cons_cons _ (.cons _ (.refl _)));have e8:Value.int .u8 ((vj:Int) % 256 % 256)=bV (UInt8.ofNat (n*8 % 18446744073709551616 / 256 ^ j % 256)):=by rw [hvj];exact congrArg (Value.int _) (by rw [UInt8.toNat_ofNat'];omega)
     have S9:=Std.rowc 1 Z (n':=j+1) (xs':=bL (tl (n*8 % 18446744073709551616) (j+1))) (Nat.add_comm _ _) (by simp [tl,bL, ← e8]);refine ⟨j+1,_,_,by omega,⟨by omega,S9⟩,?_⟩;exact (Sub.cons Z (congrArg (Value.int _) (by rw [Nat.pow_succ, ← Nat.div_div_eq_div_mul,hvj];omega)) (Sub.cons Z (by rw [Nat.add_comm]) (Sc Z (Sub.cons Z Z (Sub.nil _)))))
    ·
     have hj8:j=8:=by omega
     subst hj8;refine K_ (hK8 _ _ (a_ fun K14 hK14=>Rm Z Z (Lm Z Z (L_o (ay_ ba_ S5 0 Z Z Z (by first | exact S5.row 0 Z | exact S5.row 1 Z) (by first | exact R_ _ | exact bu_ _ | (intro u hu;simp at hu;subst hu;rfl) | (simp;done) | (simp [Value.oneCell'];done)) Z (by omega) (by omega) fun A8 c8 w8 S8=>?_)))));refine Lan Z Z (hK14 _ _ (l_ (ur (F_ Z Z ?_))));exact ⟨_,rfl,S8.like0,_,_,_,rfl,by have:=S8.own 0 Z;rwa [← id_] at this⟩
def padU (n i:Nat):List UInt8:=128::List.replicate (dh_ n) 0++(tl (n*8 % 18446744073709551616) 8).take i++List.replicate (8 - i) 0
theorem padU_8 (n:Nat):padU n 8=fh_ n:=by
  unfold padU fh_
  rw [List.take_of_length_le (by rw [x_];omega)]
  simp
theorem padU_0 (n:Nat):bL (padU n 0)=(List.replicate (1+dh_ n+8) (Value.int .u8 0)).set 0 (.int .u8 128):=by
  have e:1+dh_ n+8=(dh_ n+8)+1:=by omega
  rw [e,List.replicate_succ,List.set_cons_zero,List.replicate_append_replicate.symm]
  simp [padU,bL,bV]
theorem iW_ (v:Nat):∀ (j i:Nat),i < j→(tl v j)[i]?=some (UInt8.ofNat (v / 256 ^ (j - 1 - i) % 256))
  | j+1,0,_=>by simp [tl]
  | j+1,i+1,h=>by
    simp only [tl,List.getElem?_cons_succ]
    rw [iW_ v j i (by omega),show j+1 - 1 - (i+1)=j - 1 - i by omega]
theorem padU_set (n i:Nat) (h:i < 8):(bL (padU n i)).set (1+dh_ n+i) (.int .u8 ((n*8 % 18446744073709551616 / 256 ^ (7 - i) % 256:Nat):Int))=bL (padU n (i+1)):=by
  have e:Value.int .u8 ((n*8 % 18446744073709551616 / 256 ^ (7 - i) % 256:Nat):Int)=bV (UInt8.ofNat (n*8 % 18446744073709551616 / 256 ^ (7 - i) % 256)):=congrArg (Value.int _) (by rw [UInt8.toNat_ofNat'];omega)
  rw [e]
  have e2:8 - i=(8 - (i+1))+1:=by omega
  have hl:(128::List.replicate (dh_ n) 0++(tl (n*8 % 18446744073709551616) 8).take i).length=1+dh_ n+i:=by simp [x_];omega
  unfold padU bL
  rw [← List.map_set,List.set_append_right _ _ (by omega),hl,Nat.sub_self,e2,List.replicate_succ,List.set_cons_zero]
  rw [List.take_succ_eq_append_getElem (by rw [x_];omega)]
  have h2:=iW_ (n*8 % 18446744073709551616) 8 i h
  rw [List.getElem?_eq_getElem (by rw [x_];omega)] at h2
  simp only [Option.some.injEq] at h2
  rw [h2]
  simp
theorem shr_tl (n i:Nat) (h:i < 8):Int.fdiv ((n*8 % 18446744073709551616:Nat):Int) (2 ^ (min ((56:Int) - 8*(i:Int)).toNat IntKind.u64.bits))=((n*8 % 18446744073709551616 / 256 ^ (7 - i):Nat):Int):=by
  have e1:min ((56:Int) - 8*(i:Int)).toNat IntKind.u64.bits=8*(7 - i):=by simp only [IntKind.bits];omega
  rw [e1,Int.fdiv_eq_ediv_of_nonneg _ (Int.pow_nonneg (by omega)),Int.natCast_ediv,Int.natCast_pow,Int.pow_mul]
  rfl
theorem byte_tl (n i:Nat):IntKind.u8.wrap ((n*8 % 18446744073709551616 / 256 ^ (7 - i):Nat):Int)=((n*8 % 18446744073709551616 / 256 ^ (7 - i) % 256:Nat):Int):=by
  rw [IntKind.wrap_u8]
  omega
theorem shapad (n:Nat) (hn:n≤18446744073709551615) (w0:World) :
    Calls Tryz.prog 119 #[.int .u64 (n:Int)] w0 fun e w'=>∃ v,e=.returned v∧Like w0 w'∧∃ A m c,v=.slice A m c∧w'.ownsRow w0.heap.size 5 1 (.slice A m c) m (bL (fh_ n)):=by
 refine v_ (env:=[(0,.int .u64 (n:Int))]) [.int .u64 (n:Int)] Tryz.func119 Z Tryz.ntmps119 Z Z ?_;have S0:=St.start w0 noM;refine a_ fun K1 hK1=>b_ (Lan Z Z (hK1 _ _ (a_ fun K2 hK2=>?_)));have hg:dh_ n≤63:=by unfold dh_;omega
 refine Rm Z Z (L_y (w_ Z Z (IntKind.wrap_u64 _)) Z (L_y (eo_ Z Z (by omega) (remI (by omega))) Z (L_y (ax_ Z Z (dg_ (by omega))) Z (L_y (eo_ Z Z (by omega) (show _=((dh_ n:Nat):Int) by rw [remI (by omega)];unfold dh_;omega)) Z ?_))));refine Lan Z Z (hK2 _ _ (a_ fun K3 hK3=>Rm Z Z (L_y (w_ Z Z (dg_ (by omega))) Z (L_y (w_ Z Z (dg_ (by omega))) Z (L_o (o_make ba_ Z S0 Z Z inferInstance inferInstance Z (by omega) (by omega) (by omega) fun b1 w1 S1=>Lan Z Z (hK3 _ _ (a_ fun K4 hK4=>b_ ?_))))))));refine Lm Z Z (L_y (T_ Tryz.underlying22 sz5 Z Z (by first | exact S1.row 0 Z) inferInstance (by omega)) Z ?_);refine L_o (hm_ S1 0 Z Z Z Z sz5 (by omega) fun w2 S2=>f_ (hK4 _ _ (a_ fun K5 hK5=>a_ fun K6 hK6=>Rm Z Z (f_ (hK6 _ _ (r_ ?_))))));refine an_ [(0,_),(3,_),(4,_)] (fun (i:Nat)=>[(17,.int .i64 (i:Int))]) (fun (i:Nat)=>8 - i) (fun (i:Nat) (w:World)=>i≤8∧Zx.St w0 noM [row 5 1 (some ⟨b1,0,none⟩) (1+dh_ n+8) (1+dh_ n+8) (bL (padU n i))] w) 0 (Sc Z (Sub.nil _)) (Sub.cons Z Z (Sub.cons Z Z (Sub.cons Z Z (Sub.nil _)))) ?_ ?_
 ·
  exact ⟨Nat.zero_le _,S2.rowc 0 Z Z (padU_0 n).symm⟩
 ·
  intro i w3 hrel;obtain ⟨hi,S3⟩:=hrel;refine a_ fun K7 hK7=>b_ (L_y (L_ Z Z) Z (f_ (hK7 _ _ (a_ fun K8 hK8=>?_))));refine o_ Z (fun h18=>?_) (fun h18=>?_)
  ·
   refine j_ (hK8 _ _ (a_ fun K9 hK9=>r_ (a_ fun K10 hK10=>Rm Z Z (Lan Z Z (hK10 _ _ (Rm Z Z (Lm Z Z (L_y (P_ di_ Tryz.underlying3 Z (z_ (by omega))) Z ?_))))))));refine L_y (w_ Z Z (z_ (by omega))) Z (Lm Z Z (L_y (w_ Z Z (z_ (by omega))) Z (Lm Z Z (L_y (gX_ Z Z (by omega) (show _=((n*8 % 18446744073709551616:Nat):Int) by rw [IntKind.wrap_u64];simp [IntKind.bits])) Z ?_))));refine Lm Z Z (L_y (ci_ Z Z (z_ (by omega))) Z (L_y (ax_ Z Z (z_ (by omega))) Z (L_y (P_ is3 Tryz.underlying68 Z (dg_ (by omega))) Z (have hshr:=shr_tl n i (by omega);have hb8:=byte_tl n i;L_y (eJ_ Z Z (by omega) (hshr)) Z (L_y (P_ di_ Tryz.underlying5 Z (hb8)) Z (L_y (T_ Tryz.underlying22 sz5 Z Z (by first | exact S3.row 0 Z) inferInstance (by omega)) Z ?_))))));refine L_o (hm_ S3 0 Z Z Z Z sz5 (by omega) fun w4 S4=>f_ (hK9 _ _ (b_ (L_y (w_ Z Z (z_ (by omega))) Z (Lm Z Z (f_ (⟨i+1,by omega,⟨by omega,S4.rowc 0 Z Z (padU_set n i (by omega))⟩,?_⟩)))))));exact (Sc Z (Sub.cons Z Z (Sub.cons Z Z (Sub.cons Z Z (Sub.nil _)))))
  ·
   have hi8:i=8:=by omega
   subst hi8;refine K_ (hK5 _ _ (a_ fun K11 hK11=>Rm Z Z (Lan Z Z (hK11 _ _ (l_ (ur (F_ Z Z ?_)))))));exact ⟨_,rfl,S3.like0,_,_,_,rfl,by have:=S3.own 0 Z;rwa [padU_8] at this⟩
end Sha
namespace Sha
open Go.RowKit Zk
theorem size54:(Tryz.prog.info? 244).map (·.size)=some 64:=by kernel_rfl
def z64:List UInt32:=List.replicate 64 0
theorem zero54 (W:World):(zeroValue 244).run Tryz.prog W=.ok (.agg (uA z64)) W:=by kernel_rfl
theorem sched_set (b:List UInt8) (k:Nat) (h:k < 64) (x:UInt32):(sched b k++z64.drop k).set k x=sched b k++[x]++z64.drop (k+1):=by
  rw [List.set_append_right _ _ (by rw [bI_];omega)]
  simp only [bI_,Nat.sub_self]
  rw [List.drop_eq_getElem_cons (by simp [z64];omega),List.set_cons_zero]
  simp
theorem kM_ (a b:Nat) (k:Nat) (hb:b < 2 ^ k):(a*2 ^ k) ||| b=a*2 ^ k+b:=by
  have:=Nat.two_pow_add_eq_or_of_lt hb a
  rw [Nat.mul_comm] at this
  exact this.symm
theorem wordO (x0 x1 x2 x3:UInt8):bits BinOp.or IntKind.u32 (bits BinOp.or IntKind.u32 (bits BinOp.or IntKind.u32 (IntKind.u32.wrap (IntKind.u32.wrap (x0.toNat:Int)*16777216)) (IntKind.u32.wrap (IntKind.u32.wrap (x1.toNat:Int)*65536)))
    (IntKind.u32.wrap (IntKind.u32.wrap (x2.toNat:Int)*256))) (IntKind.u32.wrap (x3.toNat:Int))=((UInt32.ofNat (((x0.toNat*256+x1.toNat)*256+x2.toNat)*256+x3.toNat)).toNat:Int):=by
  have h0:=x0.toNat_lt
  have h1:=x1.toNat_lt
  have h2:=x2.toNat_lt
  have h3:=x3.toNat_lt
  simp only [IntKind.wrap_u32]
  have e0:((x0.toNat:Int) % 4294967296*16777216 % 4294967296)=((x0.toNat*2 ^ 24:Nat):Int):=by omega
  have e1:((x1.toNat:Int) % 4294967296*65536 % 4294967296)=((x1.toNat*2 ^ 16:Nat):Int):=by omega
  have e2:((x2.toNat:Int) % 4294967296*256 % 4294967296)=((x2.toNat*2 ^ 8:Nat):Int):=by omega
  have e3:((x3.toNat:Int) % 4294967296)=(x3.toNat:Int):=by omega
  rw [e0,e1,e2,e3,u32_or_nat _ _ (by omega) (by omega),kM_ _ _ 24 (by omega)]
  rw [show x0.toNat*2 ^ 24+x1.toNat*2 ^ 16=(x0.toNat*2 ^ 8+x1.toNat)*2 ^ 16 by omega,u32_or_nat _ _ (by omega) (by omega),kM_ _ _ 16 (by omega)]
  rw [show (x0.toNat*2 ^ 8+x1.toNat)*2 ^ 16+x2.toNat*2 ^ 8=((x0.toNat*2 ^ 8+x1.toNat)*2 ^ 8+x2.toNat)*2 ^ 8 by omega,u32_or_nat _ _ (by omega) (by omega),kM_ _ _ 8 (by omega)]
  rw [UInt32.toNat_ofNat',Nat.mod_eq_of_lt (by omega)]
end Sha
namespace Sha
open Go.RowKit Zk
def kP:List (Nat × Value):=(List.range 64).map fun i=>(i,.int .u32 (N (kL.getD i 0)))
theorem bdK (W:World):(Instr.build 244 kP.toArray).run Tryz.prog W=.ok (.agg (uA kL)) W:=by kernel_rfl
theorem jS_ (w:World):Calls Tryz.prog 158 #[] w fun e w'=>e=.returned (.agg (uA kL))∧Below w.heap.size w w':=by
  go_enter Tryz.func158,Tryz.ntmps158
  go_wp2_with (first
    | ((with_reducible refine at_dst 0 ?_);refine be_ Z 244 Z _ zero54 ?_;intro w1 hb1 hg1)
    | ((with_reducible refine at_dst 1 ?_);refine wpList_bdl Z 244 _ Z kP (by kernel_rfl) _ bdK ?_)
    | ((with_reducible refine at_store 1 ?_);refine bc_ Z 244 _ _ Z w.heap.size Z (uA kL) Z 244 (uA z64) hb1 size54 Z (dz_ _) ?_;intro w2 hb2 hg2))
  refine bodyPost_ret (resB Z _ Z hb2 _ Tryz.underlying244 Z size54) Z ⟨rfl,?_⟩
  exact bS (bN (Below.refl _ w) hg1) hg2 (Nat.le_refl _)
@[simp] theorem length_list (v:St):v.list.length=8:=rfl
end Sha
namespace Sha
open Go.RowKit Zk Zx
theorem cT_ {P:Program} {f:FuncId} {args:Array Value} {w:World} {v:Value} (h:Calls P f args w fun e w'=>e=.returned v∧w=w'):Calls P f args w fun e w'=>∃ u,e=.returned u∧Like w w'∧u=v :=
  h.mono fun e w' ⟨h1,h2⟩=>⟨_,h1,h2 ▸ Like.refl w,rfl⟩
theorem belowC {P:Program} {f:FuncId} {args:Array Value} {w:World} {v:Value} (h:Calls P f args w fun e w'=>e=.returned v∧Below w.heap.size w w'):Calls P f args w fun e w'=>∃ u,e=.returned u∧Like w w'∧u=v :=
  h.mono fun e w' ⟨h1,h2⟩=>⟨_,h1,h2,rfl⟩
theorem lx_ (v:Go.Proofs.YtgaklngnfecdaaaGreat.Sha.St) (b:List UInt8):[v.a+(rounds (sched b 64) v 64).a,v.b+(rounds (sched b 64) v 64).b,v.c+(rounds (sched b 64) v 64).c,v.d+(rounds (sched b 64) v 64).d,v.e+(rounds (sched b 64) v 64).e,v.f+(rounds (sched b 64) v 64).f,v.g+(rounds (sched b 64) v 64).g,v.h+(rounds (sched b 64) v 64).h]=(eG_ v b).list:=by
  simp only [eG_]
  generalize rounds (sched b 64) v 64=R
  simp only [St.add,St.list,UInt32.add_comm]
def z8:List UInt32:=List.replicate 8 0
theorem shr3F (x:UInt32):Int.fdiv (N x) (2 ^ (min (3:Int).toNat IntKind.u32.bits))=N (x >>> 3):=by
  rw [← shr3N]
  exact Int.fdiv_eq_ediv_of_nonneg _ (by decide)
theorem shr10F (x:UInt32):Int.fdiv (N x) (2 ^ (min (10:Int).toNat IntKind.u32.bits))=N (x >>> 10):=by
  rw [← shr10N]
  exact Int.fdiv_eq_ediv_of_nonneg _ (by decide)
theorem wordR (b:List UInt8) (t:Nat):IntKind.u32.wrap (((g8 b (4*t)*256 % 4294967296+g8 b (4*t+1)) % 4294967296*65536 % 4294967296+g8 b (4*t+2)*256 % 4294967296) % 4294967296+g8 b (4*t+3))=N (word b t):=by
  have h0:=(b.getD (4*t) 0).toNat_lt
  have h1:=(b.getD (4*t+1) 0).toNat_lt
  have h2:=(b.getD (4*t+2) 0).toNat_lt
  have h3:=(b.getD (4*t+3) 0).toNat_lt
  rw [IntKind.wrap_u32]
  unfold g8 N word
  rw [UInt32.toNat_ofNat']
  omega
theorem refconst (w0:World) :
    Calls Tryz.prog 87 #[] w0 fun e w'=>∃ v,e=.returned v∧Like w0 w'∧∃ A m c,v=.slice A m c∧m=64∧w'.ownsRow w0.heap.size 63 1 (.slice A m c) m (uL kL):=by
 refine v_ (env:=[]) [] Tryz.func87 Z Tryz.ntmps87 Z Z ?_;have S0:=St.start w0 noM;refine a_ fun K1 hK1=>b_ (Lan Z Z (hK1 _ _ (a_ fun K2 hK2=>b_ (L_o (ah_ [_,_,_,_,_,_,_,_,_,_,_,_,_,_,_,_,_,_,_,_,_,_,_,_,_,_,_,_,_,_,_,_,_,_,_,_,_,_,_,_,_,_,_,_,_,_,_,_,_,_,_,_,_,_,_,_,_,_,_,_,_,_,_,_] te159 zz63 S0 Z Z Z Z Z Z Z Z fun b1 w1 S1=>Lan Z Z (hK2 _ _ (l_ (ur (F_ Z Z ?_)))))))));exact ⟨_,rfl,S1.like0,_,_,_,rfl,rfl,(S1.rowc 0 Z (xs':=uL kL) Z (by kernel_rfl)).own 0 Z⟩
theorem refblock (v:Go.Proofs.YtgaklngnfecdaaaGreat.Sha.St) (b:List UInt8) (B:Option Addr) (n cb:Nat) (hn:n=64) (w0:World) (hb:Rs w0 1 B n cb (bL b)) :
    Calls Tryz.prog 53 #[.agg (uA v.list),.slice B n cb] w0 fun e w'=>∃ u,e=.returned u∧Like w0 w'∧u=.agg (uA (eG_ v b).list):=by
 refine v_ (env:=[(0,.agg (uA v.list)),(1,.slice B n cb)]) [.agg (uA v.list),.slice B n cb] Tryz.func53 Z Tryz.ntmps53 Z Z ?_;have S0:=St.start w0 noM;refine a_ fun K1 hK1=>b_ (L_o (bO_ Z S0 Z fun b1 w1 hb1 S1=>L_o (H_ zz103 S1 Z fun b2 w2 hb2 S2=>f_ (hK1 _ _ (a_ fun K2 hK2=>b_ (L_o (n_ Tryz.func87 Z Z (refconst _) Z Z ?_)))))));rintro e3 w3 ⟨v3,rfl,l3,A3,m3,c3,rfl,rfl,o3⟩;refine ⟨_,rfl,(have S3:=S2.adopt l3 o3;Lan Z Z (hK2 _ _ (a_ fun K3 hK3=>b_ (have S4:=S3.nilrow 63 1;Lan Z Z (hK3 _ _ (a_ fun K4 hK4=>a_ fun K5 hK5=>b_ ?_))))))⟩;refine Lan Z Z (hK5 _ _ (r_ ?_));refine df_ [(1,_),(2,_),(4,_),(5,_)] (fun (k:Nat) (A:Option Addr) (c:Nat)=>[(6,.slice A k c),(7,.int .i64 (k:Int))]) (fun (k:Nat) (A:Option Addr) (c:Nat)=>16 - k) (fun (k:Nat) (A:Option Addr) (c:Nat) (w:World)=>k≤16∧Zx.St w0 noM [blk b1 103 (uA v.list),blk b2 103 (uA z8),row 63 1 A3 64 c3 (uL kL),row 63 1 A k c (uL (sched b k))] w) 0 none 0 (Sc Z (Sc Z (Sub.nil _))) (Sub.cons Z Z (Sub.cons Z Z (Sub.cons Z Z (Sub.cons Z Z (Sub.nil _))))) ?_ ?_
 ·
  exact ⟨Nat.zero_le _,S4⟩
 ·
  intro k A c w5 hrel;obtain ⟨hk,S5⟩:=hrel;refine a_ fun K6 hK6=>a_ fun K7 hK7=>Rm Z Z (L_y (L_ Z Z) Z (f_ (hK7 _ _ ?_)));refine o_ Z (fun h26=>?_) (fun h26=>?_)
  ·
   have hlt:k < 16:=by omega
   refine j_ (hK6 _ _ (a_ fun K8 hK8=>r_ (dy_ [0,1,2,3,4,5,6,7,8,9,10,11,12,13,14,15,16,17,18,19,20,21,22,23,24,25,26,27,28,29,30,31,32,33,34] 35 [(0,1),(1,1),(2,1),(3,1),(4,1),(5,1),(6,1),(7,1),(8,1),(9,1),(10,1),(11,1),(12,1),(13,1),(14,1),(15,1),(16,1),(17,1),(18,1),(19,1),(20,1),(21,1),(22,1),(23,1),(24,1),(25,1),(26,1),(27,1),(28,1),(29,1),(30,1),(31,1),(32,1),(33,1),(34,2),(35,3),(36,3)] aS_ (by kernel_rfl) fun w6 l6=>have S6:=S5.like l6;ga_ (Like w6) (Like.refl _) (Q_ Z (p_ Z) Z (Q_ Z (p_ Z) Z (Q_ Z (p_ Z) Z (Q_ Z (ci_ Z Z (z_ (by omega))) Z (Q_ Z (T_ Tryz.underlying22 sz5 Z Z (by first | exact S6.rd hb | exact S6.row 2 Z | exact S6.row 3 Z) inferInstance (by omega)) Z ?_))))))));refine ZB_yb Z (ep_ Tryz.underlying5 Z Z (by first | exact S6.rd hb | exact S6.row 2 Z | exact S6.row 3 Z) (by omega)) Z fun _ _=>?_;refine Q_ Z (P_ is5 Tryz.underlying63 Z (u32w (by omega))) Z (Q_ Z (ci_ Z Z (IntKind.wrap_u32 _)) Z (Q_ Z (p_ Z) Z (Q_ Z (p_ Z) Z (Q_ Z (ci_ Z Z (z_ (by omega))) Z (Q_ Z (w_ Z Z (z_ (by omega))) Z (Q_ Z (T_ Tryz.underlying22 sz5 Z Z (by first | exact S6.rd hb | exact S6.row 2 Z | exact S6.row 3 Z) inferInstance (by omega)) Z ?_))))));refine ZB_yb Z (ep_ Tryz.underlying5 Z Z (by first | exact S6.rd hb | exact S6.row 2 Z | exact S6.row 3 Z) (by omega)) Z fun _ _=>?_;refine Q_ Z (P_ is5 Tryz.underlying63 Z (u32w (by omega))) Z (Q_ Z (w_ Z Z (IntKind.wrap_u32 _)) Z (Q_ Z (ci_ Z Z (IntKind.wrap_u32 _)) Z (Q_ Z (p_ Z) Z (Q_ Z (p_ Z) Z (Q_ Z (ci_ Z Z (z_ (by omega))) Z (Q_ Z (w_ Z Z (z_ (by omega))) Z (Q_ Z (T_ Tryz.underlying22 sz5 Z Z (by first | exact S6.rd hb | exact S6.row 2 Z | exact S6.row 3 Z) inferInstance (by omega)) Z ?_)))))));refine ZB_yb Z (ep_ Tryz.underlying5 Z Z (by first | exact S6.rd hb | exact S6.row 2 Z | exact S6.row 3 Z) (by omega)) Z fun _ _=>?_;refine Q_ Z (P_ is5 Tryz.underlying63 Z (u32w (by omega))) Z (Q_ Z (ci_ Z Z (IntKind.wrap_u32 _)) Z (Q_ Z (w_ Z Z (IntKind.wrap_u32 _)) Z (Q_ Z (p_ Z) Z (Q_ Z (p_ Z) Z (Q_ Z (ci_ Z Z (z_ (by omega))) Z (Q_ Z (w_ Z Z (z_ (by omega))) Z (Q_ Z (T_ Tryz.underlying22 sz5 Z Z (by first | exact S6.rd hb | exact S6.row 2 Z | exact S6.row 3 Z) inferInstance (by omega)) Z ?_)))))));refine ZB_yb Z (ep_ Tryz.underlying5 Z Z (by first | exact S6.rd hb | exact S6.row 2 Z | exact S6.row 3 Z) (by omega)) Z fun _ _=>?_;refine Q_ Z (P_ is5 Tryz.underlying63 Z (u32w (by omega))) Z (Q_ Z (w_ Z Z (wordR _ _)) Z (fF_ Z (eB_ [_] te159 zz63 S6 Z Z Z Z Z Z Z Z fun b7 w7 l7 S7=>have q7:=l7;⟨q7,(fZ_ Z (ay_ te159 S7 3 Z Z Z (by first | exact S7.rd hb | exact S7.row 2 Z | exact S7.row 3 Z | exact S7.row 4 Z) (by first | exact dz_ _ | exact R_ _ | exact bu_ _ | (intro u hu;simp at hu;subst hu;rfl) | (simp;done) | (simp [Value.oneCell'];done)) Z (by omega) (by omega) fun A8 c8 w8 S8=>?_))⟩)))
   have S8d:=S8.drop (rs':=[_,_,_,_]) (.cons_cons _ (.cons_cons _ (.cons_cons _ (.cons_cons _ (.cons _ (.refl _))))));refine dx_ Z (J_ Z) Z (cA_ (hK8 _ _ (Rm Z Z (L_y (w_ Z Z (z_ (by omega))) Z (Lan Z Z ?_)))));have S9:=S8d.rowc 3 Z (n':=k+1) (xs':=uL (sched b (k+1))) Z (by simp [sched,uL,uV,hlt]);refine ⟨k+1,_,_,by omega,⟨by omega,S9⟩,?_⟩;exact (Sc Z (Sc Z (Sub.cons Z Z (Sub.cons Z Z (Sub.cons Z Z (Sub.cons Z Z (Sub.nil _)))))))
  ·
   obtain rfl:k=16:=by omega
   refine K_ (hK4 _ _ (a_ fun K9 hK9=>a_ fun K10 hK10=>b_ (Lan Z Z (hK10 _ _ (r_ ?_)))));refine df_ [(2,_),(4,_),(5,_)] (fun (k:Nat) (A:Option Addr) (c:Nat)=>[(6,.slice A k c),(8,.int .i64 (k:Int))]) (fun (k:Nat) (A:Option Addr) (c:Nat)=>64 - k) (fun (k:Nat) (A:Option Addr) (c:Nat) (w:World)=>16≤k∧k≤64∧Zx.St w0 noM [blk b1 103 (uA v.list),blk b2 103 (uA z8),row 63 1 A3 64 c3 (uL kL),row 63 1 A k c (uL (sched b k))] w) 16 A c (Sc Z (Sc Z (Sub.nil _))) (Sub.cons Z Z (Sub.cons Z Z (Sub.cons Z Z (Sub.nil _)))) ?_ ?_
   ·
    exact ⟨by omega,by omega,S5⟩
   ·
    intro k A c w9 hrel;obtain ⟨hk1,hk2,S9⟩:=hrel;refine a_ fun K11 hK11=>a_ fun K12 hK12=>Rm Z Z (L_y (L_ Z Z) Z (f_ (hK12 _ _ ?_)));refine o_ Z (fun h66=>?_) (fun h66=>?_)
    ·
     have hlt:k < 64:=by omega
     have hge:¬ k < 16:=by omega
     refine j_ (hK11 _ _ (a_ fun K13 hK13=>r_ (a_ fun K14 hK14=>Rm Z Z (Lm Z Z (L_y (ax_ Z Z (z_ (by omega))) Z (L_y (T_ Tryz.underlying159 bk_ Z Z (by first | exact S9.rd hb | exact S9.row 2 Z | exact S9.row 3 Z) (Nt.mk (by omega):Nt _ (k - 15)) (by omega)) Z ?_))))));refine L_y (iP_ (0:UInt32) Tryz.underlying63 Z Z (by first | exact S9.rd hb | exact S9.row 2 Z | exact S9.row 3 Z) (by omega)) Z ?_;refine Lan Z Z (hK14 _ _ (a_ fun K15 hK15=>Rm Z Z (Lm Z Z (L_y (ax_ Z Z (z_ (by omega))) Z (L_y (T_ Tryz.underlying159 bk_ Z Z (by first | exact S9.rd hb | exact S9.row 2 Z | exact S9.row 3 Z) (Nt.mk (by omega):Nt _ (k - 2)) (by omega)) Z ?_)))));refine L_y (iP_ (0:UInt32) Tryz.underlying63 Z Z (by first | exact S9.rd hb | exact S9.row 2 Z | exact S9.row 3 Z) (by omega)) Z ?_;refine Lan Z Z (hK15 _ _ (a_ fun K16 hK16=>Rm Z Z (L_o (n_ Tryz.func88 Z Z (cT_ (right7 _ _)) Z Z ?_))));rintro e10 w10 ⟨v10,rfl,l10,rfl⟩;refine ⟨_,rfl,(have S10:=S9.like l10;Lm Z Z (L_o (n_ Tryz.func88 Z Z (cT_ (right18 _ _)) Z Z ?_)))⟩;rintro e11 w11 ⟨v11,rfl,l11,rfl⟩;refine ⟨_,rfl,(have S11:=S10.like l11;L_y (ae_ Z Z Z (bC_ _ _)) Z (Lm Z Z (L_y (eJ_ Z Z (by omega) (shr3F _)) Z (L_y (ae_ Z Z Z (bC_ _ _)) Z (Lan Z Z (hK16 _ _ (a_ fun K17 hK17=>Rm Z Z (L_o (n_ Tryz.func88 Z Z (cT_ (right17 _ _)) Z Z ?_)))))))))⟩;rintro e12 w12 ⟨v12,rfl,l12,rfl⟩;refine ⟨_,rfl,(have S12:=S11.like l12;Lm Z Z (L_o (n_ Tryz.func88 Z Z (cT_ (right19 _ _)) Z Z ?_)))⟩;rintro e13 w13 ⟨v13,rfl,l13,rfl⟩;refine ⟨_,rfl,(have S13:=S12.like l13;L_y (ae_ Z Z Z (bC_ _ _)) Z (Lm Z Z (L_y (eJ_ Z Z (by omega) (shr10F _)) Z (L_y (ae_ Z Z Z (bC_ _ _)) Z (Lan Z Z (hK17 _ _ (dy_ [0,1,2,3,4,5,6,7,8,9,10,11,12,13,14,15,16] 17 [(0,1),(1,1),(2,1),(3,1),(4,1),(5,1),(6,1),(7,1),(8,1),(9,1),(10,1),(11,1),(12,1),(13,1),(14,1),(15,1),(16,2),(17,3),(18,3)] aS_ (by kernel_rfl) fun w14 l14=>have S14:=S13.like l14;ga_ (Like w14) (Like.refl _) (Q_ Z (p_ Z) Z (Q_ Z (p_ Z) Z ?_)))))))))⟩;refine Q_ Z (p_ Z) Z (Q_ Z (ax_ Z Z (z_ (by omega))) Z (Q_ Z (T_ Tryz.underlying159 bk_ Z Z (by first | exact S14.rd hb | exact S14.row 2 Z | exact S14.row 3 Z) (Nt.mk (by omega):Nt _ (k - 16)) (by omega)) Z ?_));refine Q_ Z (iP_ (0:UInt32) Tryz.underlying63 Z Z (by first | exact S14.rd hb | exact S14.row 2 Z | exact S14.row 3 Z) (by omega)) Z ?_;refine Q_ Z (p_ Z) Z (Q_ Z (w_ Z Z (de_ _ _)) Z (Q_ Z (p_ Z) Z (Q_ Z (p_ Z) Z (Q_ Z (ax_ Z Z (z_ (by omega))) Z (Q_ Z (T_ Tryz.underlying159 bk_ Z Z (by first | exact S14.rd hb | exact S14.row 2 Z | exact S14.row 3 Z) (Nt.mk (by omega):Nt _ (k - 7)) (by omega)) Z ?_)))))
     refine Q_ Z (iP_ (0:UInt32) Tryz.underlying63 Z Z (by first | exact S14.rd hb | exact S14.row 2 Z | exact S14.row 3 Z) (by omega)) Z ?_;refine Q_ Z (w_ Z Z (de_ _ _)) Z (Q_ Z (p_ Z) Z (Q_ Z (w_ Z Z (de_ _ _)) Z (fF_ Z (eB_ [_] te159 zz63 S14 Z Z Z Z Z Z Z Z fun b15 w15 l15 S15=>have q15:=l15;⟨q15,(fZ_ Z (ay_ te159 S15 3 Z Z Z (by first | exact S15.rd hb | exact S15.row 2 Z | exact S15.row 3 Z | exact S15.row 4 Z) (by first | exact dz_ _ | exact R_ _ | exact bu_ _ | (intro u hu;simp at hu;subst hu;rfl) | (simp;done) | (simp [Value.oneCell'];done)) Z (by omega) (by omega) fun A16 c16 w16 S16=>?_))⟩))));have S16d:=S16.drop (rs':=[_,_,_,_]) (.cons_cons _ (.cons_cons _ (.cons_cons _ (.cons_cons _ (.cons _ (.refl _))))));refine dx_ Z (J_ Z) Z (cA_ (hK13 _ _ (Rm Z Z (L_y (w_ Z Z (z_ (by omega))) Z (Lan Z Z ?_)))));have S9:=S16d.rowc 3 Z (n':=k+1) (xs':=uL (sched b (k+1))) Z (by simp only [sched,if_neg hge];rw [uL_app];rfl);refine ⟨k+1,_,_,by omega,⟨by omega,by omega,S9⟩,?_⟩;exact (Sc Z (Sc Z (Sub.cons Z Z (Sub.cons Z Z (Sub.cons Z Z (Sub.nil _))))))
    ·
     obtain rfl:k=64:=by omega
     refine K_ (hK9 _ _ (a_ fun K18 hK18=>ak_ [(0,true),(1,true),(2,true),(3,true),(4,true),(5,true),(6,true),(7,true),(8,true),(9,true),(10,true),(11,true),(12,true),(13,true),(14,true),(15,true),(16,true),(17,true),(18,true),(19,true),(20,true),(21,true),(22,true),(23,true)] aS_ (by kernel_rfl) fun w17 l17=>have S17:=S9.like l17;u_ Z (aa_ Tryz.underlying103 bk_ Z Z inferInstance (by omega)) Z (u_ Z (t_ Tryz.underlying63 Z Z (((S17.blk 0 Z).cell _).trans (show _=some (uV v.a) from Z))) Z (u_ Z (aa_ Tryz.underlying103 bk_ Z Z inferInstance (by omega)) Z (u_ Z (t_ Tryz.underlying63 Z Z (((S17.blk 0 Z).cell _).trans (show _=some (uV v.b) from Z))) Z (u_ Z (aa_ Tryz.underlying103 bk_ Z Z inferInstance (by omega)) Z (u_ Z (t_ Tryz.underlying63 Z Z (((S17.blk 0 Z).cell _).trans (show _=some (uV v.c) from Z))) Z (u_ Z (aa_ Tryz.underlying103 bk_ Z Z inferInstance (by omega)) Z (u_ Z (t_ Tryz.underlying63 Z Z (((S17.blk 0 Z).cell _).trans (show _=some (uV v.d) from Z))) Z (u_ Z (aa_ Tryz.underlying103 bk_ Z Z inferInstance (by omega)) Z ?_))))))))));refine u_ Z (t_ Tryz.underlying63 Z Z (((S17.blk 0 Z).cell _).trans (show _=some (uV v.e) from Z))) Z (u_ Z (aa_ Tryz.underlying103 bk_ Z Z inferInstance (by omega)) Z (u_ Z (t_ Tryz.underlying63 Z Z (((S17.blk 0 Z).cell _).trans (show _=some (uV v.f) from Z))) Z (u_ Z (aa_ Tryz.underlying103 bk_ Z Z inferInstance (by omega)) Z (u_ Z (t_ Tryz.underlying63 Z Z (((S17.blk 0 Z).cell _).trans (show _=some (uV v.g) from Z))) Z (u_ Z (aa_ Tryz.underlying103 bk_ Z Z inferInstance (by omega)) Z (u_ Z (t_ Tryz.underlying63 Z Z (((S17.blk 0 Z).cell _).trans (show _=some (uV v.h) from Z))) Z (u_ Z (J_ Z) Z (u_ Z (J_ Z) Z (u_ Z (J_ Z) Z (u_ Z (J_ Z) Z (u_ Z (J_ Z) Z (u_ Z (J_ Z) Z (u_ Z (J_ Z) Z ?_)))))))))))));refine u_ Z (J_ Z) Z (aH_ (hK18 _ _ (a_ fun K19 hK19=>a_ fun K20 hK20=>b_ (Lan Z Z (hK20 _ _ (r_ ?_))))));refine an_ [(2,_),(4,_),(5,_),(6,_)] (fun (t:Nat)=>[(13,.int .u32 (N (rounds (sched b 64) v t).a)),(14,.int .u32 (N (rounds (sched b 64) v t).b)),(15,.int .u32 (N (rounds (sched b 64) v t).c)),(16,.int .u32 (N (rounds (sched b 64) v t).d)),(17,.int .u32 (N (rounds (sched b 64) v t).e)),(18,.int .u32 (N (rounds (sched b 64) v t).f)),(19,.int .u32 (N (rounds (sched b 64) v t).g)),(20,.int .u32 (N (rounds (sched b 64) v t).h)),(21,.int .i64 (t:Int))]) (fun (t:Nat)=>64 - t) (fun (t:Nat) (w:World)=>t≤64∧Zx.St w0 noM [blk b1 103 (uA v.list),blk b2 103 (uA z8),row 63 1 A3 64 c3 (uL kL),row 63 1 A 64 c (uL (sched b 64))] w) 0 (Sc Z (Sc Z (Sc Z (Sc Z (Sc Z (Sc Z (Sc Z (Sc Z (Sc Z (Sub.nil _)))))))))) (Sub.cons Z Z (Sub.cons Z Z (Sub.cons Z Z (Sub.cons Z Z (Sub.nil _))))) ?_ ?_
     ·
      exact ⟨by omega,S17⟩
     ·
      intro t w18 hrel;obtain ⟨ht,S18⟩:=hrel;refine a_ fun K21 hK21=>a_ fun K22 hK22=>Rm Z Z (L_y (L_ Z Z) Z (f_ (hK22 _ _ ?_)));refine o_ Z (fun h130=>?_) (fun h130=>?_)
      ·
       refine j_ (hK21 _ _ (a_ fun K23 hK23=>r_ (a_ fun K24 hK24=>ak_ [(0,true),(1,true),(3,true),(6,true),(10,true),(11,true),(12,true),(13,true),(14,true),(15,true),(16,true),(17,true),(19,true),(20,true),(21,true),(22,true),(24,true),(25,true),(26,true),(27,true),(2,false),(4,false),(5,true),(7,false),(8,true),(9,true),(18,true),(23,true),(28,true),(29,true)] aS_ (by kernel_rfl) fun w19 l19=>have S19:=S18.like l19;u_ Z (p_ Z) Z (u_ Z (p_ Z) Z (u_ Z (p_ Z) Z (u_ Z (p_ Z) Z (u_ Z (p_ Z) Z (u_ Z (p_ Z) Z (u_ Z (ae_ Z Z Z (cu_ _ _)) Z ?_)))))))));refine u_ Z (p_ Z) Z (u_ Z (y_inv Z (cZ_ _)) Z (u_ Z (p_ Z) Z (u_ Z (ae_ Z Z Z (cu_ _ _)) Z (u_ Z (ae_ Z Z Z (bC_ _ _)) Z (u_ Z (p_ Z) Z (u_ Z (p_ Z) Z (u_ Z (T_ Tryz.underlying159 bk_ Z Z (by first | exact S19.rd hb | exact S19.row 2 Z | exact S19.row 3 Z) inferInstance (by omega)) Z ?_)))))));refine u_ Z (iP_ (0:UInt32) Tryz.underlying63 Z Z (by first | exact S19.rd hb | exact S19.row 2 Z | exact S19.row 3 Z) (by omega)) Z ?_;refine u_ Z (p_ Z) Z (u_ Z (p_ Z) Z (u_ Z (T_ Tryz.underlying159 bk_ Z Z (by first | exact S19.rd hb | exact S19.row 2 Z | exact S19.row 3 Z) inferInstance (by omega)) Z ?_));refine u_ Z (iP_ (0:UInt32) Tryz.underlying63 Z Z (by first | exact S19.rd hb | exact S19.row 2 Z | exact S19.row 3 Z) (by omega)) Z ?_;refine eH_ Z (n_ Tryz.func88 Z Z (cT_ (right6 _ _)) Z Z ?_);rintro e20 w20 ⟨v20,rfl,l20,rfl⟩;refine ⟨_,rfl,l20,(have S20:=S19.like l20;have q20:=l20;eH_ Z (n_ Tryz.func88 Z Z (cT_ (right11 _ _)) Z Z ?_))⟩;rintro e21 w21 ⟨v21,rfl,l21,rfl⟩;refine ⟨_,rfl,(Like.trans q20 l21),(have S21:=S20.like l21;have q21:=(Like.trans q20 l21);u_ Z (ae_ Z Z Z (bC_ _ _)) Z (eH_ Z (n_ Tryz.func88 Z Z (cT_ (right25 _ _)) Z Z ?_)))⟩;rintro e22 w22 ⟨v22,rfl,l22,rfl⟩;refine ⟨_,rfl,(Like.trans q21 l22),(have S22:=S21.like l22;have q22:=(Like.trans q21 l22);u_ Z (ae_ Z Z Z (bC_ _ _)) Z (u_ Z (w_ Z Z (de_ _ _)) Z (u_ Z (w_ Z Z (de_ _ _)) Z (u_ Z (w_ Z Z (de_ _ _)) Z (u_ Z (w_ Z Z (de_ _ _)) Z (u_ Z (J_ Z) Z (aH_ (hK24 _ _ (a_ fun K25 hK25=>Rm Z Z ?_)))))))))⟩;refine L_o (n_ Tryz.func88 Z Z (cT_ (right2 _ _)) Z Z ?_);rintro e23 w23 ⟨v23,rfl,l23,rfl⟩;refine ⟨_,rfl,(have S23:=S22.like l23;Lm Z Z (L_o (n_ Tryz.func88 Z Z (cT_ (right13 _ _)) Z Z ?_)))⟩;rintro e24 w24 ⟨v24,rfl,l24,rfl⟩;refine ⟨_,rfl,(have S24:=S23.like l24;L_y (ae_ Z Z Z (bC_ _ _)) Z (Lm Z Z (L_o (n_ Tryz.func88 Z Z (cT_ (right22 _ _)) Z Z ?_))))⟩
       rintro e25 w25 ⟨v25,rfl,l25,rfl⟩;refine ⟨_,rfl,(have S25:=S24.like l25;L_y (ae_ Z Z Z (bC_ _ _)) Z (Lm Z Z (Lm Z Z (L_y (ae_ Z Z Z (cu_ _ _)) Z (Lm Z Z (Lm Z Z (L_y (ae_ Z Z Z (cu_ _ _)) Z (L_y (ae_ Z Z Z (bC_ _ _)) Z (Lm Z Z (Lm Z Z (L_y (ae_ Z Z Z (cu_ _ _)) Z (L_y (ae_ Z Z Z (bC_ _ _)) Z ?_))))))))))))⟩;refine L_y (w_ Z Z (de_ _ _)) Z (Lan Z Z (hK25 _ _ (a_ fun K26 hK26=>Rm Z Z (Lan Z Z (hK26 _ _ (a_ fun K27 hK27=>Rm Z Z (La Z Z ?_)))))));refine f_ (hK27 _ _ (a_ fun K28 hK28=>Rm Z Z (Lan Z Z (hK28 _ _ (a_ fun K29 hK29=>Rm Z Z (Lm Z Z (L_y (w_ Z Z (de_ _ _)) Z (La Z Z ?_))))))));refine f_ (hK29 _ _ (a_ fun K30 hK30=>Rm Z Z (Lan Z Z (hK30 _ _ (a_ fun K31 hK31=>Rm Z Z (Lan Z Z (hK31 _ _ ?_)))))));refine a_ fun K32 hK32=>Rm Z Z (Lan Z Z (hK32 _ _ (Rm Z Z (Lm Z Z (L_y (w_ Z Z (de_ _ _)) Z (Lan Z Z (hK23 _ _ (b_ ?_))))))));refine Lm Z Z (L_y (w_ Z Z (z_ (by omega))) Z (Lan Z Z (⟨t+1,by omega,⟨by omega,S25⟩,?_⟩)));exact (Sc Z (Sc Z (Sc Z (Sc Z (Sc Z (Sc Z (Sc Z (Sc Z (Sc Z (Sub.cons Z Z (Sub.cons Z Z (Sub.cons Z Z (Sub.cons Z Z (Sub.nil _))))))))))))))
      ·
       obtain rfl:t=64:=by omega
       have hl:=lx_ v b;generalize hR:rounds (sched b 64) v 64=R at hl ⊢
       generalize hSS:sched b 64=SS at *
       refine K_ (hK19 _ _ (a_ fun K33 hK33=>b_ (L_y (aa_ Tryz.underlying103 bk_ Z Z inferInstance (by omega)) Z (L_y (t_ Tryz.underlying63 Z Z (((S18.blk 0 Z).cell _).trans (show _=some (uV v.a) from Z))) Z (Lm Z Z (L_y (w_ Z Z (de_ _ _)) Z (L_y (aa_ Tryz.underlying103 bk_ Z Z inferInstance (by omega)) Z (L_y (t_ Tryz.underlying63 Z Z (((S18.blk 0 Z).cell _).trans (show _=some (uV v.b) from Z))) Z (Lm Z Z (L_y (w_ Z Z (de_ _ _)) Z (L_y (aa_ Tryz.underlying103 bk_ Z Z inferInstance (by omega)) Z (L_y (t_ Tryz.underlying63 Z Z (((S18.blk 0 Z).cell _).trans (show _=some (uV v.c) from Z))) Z ?_))))))))))));refine Lm Z Z (L_y (w_ Z Z (de_ _ _)) Z (L_y (aa_ Tryz.underlying103 bk_ Z Z inferInstance (by omega)) Z (L_y (t_ Tryz.underlying63 Z Z (((S18.blk 0 Z).cell _).trans (show _=some (uV v.d) from Z))) Z (Lm Z Z (L_y (w_ Z Z (de_ _ _)) Z (L_y (aa_ Tryz.underlying103 bk_ Z Z inferInstance (by omega)) Z (L_y (t_ Tryz.underlying63 Z Z (((S18.blk 0 Z).cell _).trans (show _=some (uV v.e) from Z))) Z (Lm Z Z (L_y (w_ Z Z (de_ _ _)) Z (L_y (aa_ Tryz.underlying103 bk_ Z Z inferInstance (by omega)) Z (L_y (t_ Tryz.underlying63 Z Z (((S18.blk 0 Z).cell _).trans (show _=some (uV v.f) from Z))) Z (Lm Z Z (L_y (w_ Z Z (de_ _ _)) Z ?_)))))))))))));refine L_y (aa_ Tryz.underlying103 bk_ Z Z inferInstance (by omega)) Z (L_y (t_ Tryz.underlying63 Z Z (((S18.blk 0 Z).cell _).trans (show _=some (uV v.g) from Z))) Z (Lm Z Z (L_y (w_ Z Z (de_ _ _)) Z (L_y (aa_ Tryz.underlying103 bk_ Z Z inferInstance (by omega)) Z (L_y (t_ Tryz.underlying63 Z Z (((S18.blk 0 Z).cell _).trans (show _=some (uV v.h) from Z))) Z (Lm Z Z (L_y (w_ Z Z (de_ _ _)) Z (L_y (C_ (cs:=uA [v.a+R.a,v.b+R.b,v.c+R.c,v.d+R.d,v.e+R.e,v.f+R.f,v.g+R.g,v.h+R.h]) Z (by kernel_rfl)) Z (L_o (G_ S18 1 Z Z Z cm_ (by simp [z8]) (by first | exact dz_ _ | exact R_ _ | exact bu_ _ | (intro u hu;simp at hu;subst hu;rfl) | (simp;done) | (simp [Value.oneCell'];done)) fun w26 S26=>?_))))))))));refine f_ (hK33 _ _ (l_ (ur (retc Z Z (S26.blk 1 Z) Tryz.underlying103 Z cm_ ?_))));exact ⟨_,rfl,S26.like0,by rw [hl]⟩
end Sha
namespace Sha
open Go.RowKit Zk Zx
theorem fb_ (l:List UInt32) (j:Nat) (h:j < l.length):(uA l)[j]?=some (uV (l.getD j 0)):=by
  simp [uA,uL,List.getD_eq_getElem?_getD,List.getElem?_eq_getElem h]
theorem fe_ (b:List UInt8) (k j:Nat) (h:j < k):(uA (sched b k++z64.drop k))[j]?=some (uV ((sched b k).getD j 0)):=by
  rw [fb_ _ _ (by rw [List.length_append,bI_];omega)]
  congr 2
  simp only [List.getD_eq_getElem?_getD]
  rw [List.getElem?_append_left (by rw [bI_];exact h)]
theorem jZ_ (b:List UInt8) (k:Nat) (h:k < 64) (x:UInt32) (hx:sched b (k+1)=sched b k++[x]):(uA (sched b k++z64.drop k)).setIfInBounds k (.int .u32 (N x))=uA (sched b (k+1)++z64.drop (k+1)):=by
  rw [uA_set,sched_set b k h x,hx]
theorem wordE (b:List UInt8) (k:Nat):bits BinOp.or IntKind.u32 (bits BinOp.or IntKind.u32 (bits BinOp.or IntKind.u32 (IntKind.u32.wrap (g8 b (4*k)*2 ^ (min (24:Int).toNat IntKind.u32.bits))) (IntKind.u32.wrap (g8 b (4*k+1)*2 ^ (min (16:Int).toNat IntKind.u32.bits))))
    (IntKind.u32.wrap (g8 b (4*k+2)*2 ^ (min (8:Int).toNat IntKind.u32.bits)))) (g8 b (4*k+3))=N (word b k):=by
  have h:=wordO (b.getD (4*k) 0) (b.getD (4*k+1) 0) (b.getD (4*k+2) 0) (b.getD (4*k+3) 0)
  have w:∀ c:UInt8,IntKind.u32.wrap (c.toNat:Int)=(c.toNat:Int):=fun c=>u32w ⟨by omega,by have:=c.toNat_lt;omega⟩
  simp only [w] at h
  exact h
theorem spread (b:List UInt8) (B:Option Addr) (n cb:Nat) (hn:n=64) (w0:World) (hb:Rs w0 1 B n cb (bL b)) :
    Calls Tryz.prog 159 #[.slice B n cb] w0 fun e w'=>∃ u,e=.returned u∧Like w0 w'∧u=.agg (uA (sched b 64)):=by
 refine v_ (env:=[(0,.slice B n cb)]) [.slice B n cb] Tryz.func159 Z Tryz.ntmps159 Z Z ?_;have S0:=St.start w0 noM;refine a_ fun K1 hK1=>b_ (L_o (H_ zz244 S0 Z fun b1 w1 hb1 S1=>f_ (hK1 _ _ (a_ fun K2 hK2=>b_ (L_o (H_ zz244 S1 Z fun b2 w2 hb2 S2=>f_ (hK2 _ _ (a_ fun K3 hK3=>a_ fun K4 hK4=>b_ (La Z Z ?_)))))))));refine f_ (hK4 _ _ (r_ ?_));refine an_ [(0,_),(2,_),(3,_)] (fun (k:Nat)=>[(4,.int .i64 (k:Int))]) (fun (k:Nat)=>16 - k) (fun (k:Nat) (w:World)=>k≤16∧Zx.St w0 noM [blk b1 244 (uA z64),blk b2 244 (uA (sched b k++z64.drop k))] w) 0 (Sc Z (Sub.nil _)) (Sub.cons Z Z (Sub.cons Z Z (Sub.cons Z Z (Sub.nil _)))) ?_ ?_
 ·
  exact ⟨by omega,S2⟩
 ·
  intro k w3 hrel;obtain ⟨hk,S3⟩:=hrel;refine a_ fun K5 hK5=>a_ fun K6 hK6=>Rm Z Z (L_y (L_ Z Z) Z (f_ (hK6 _ _ ?_)));refine o_ Z (fun h11=>?_) (fun h11=>?_)
  ·
   have hlt:k < 16:=by omega
   refine j_ (hK5 _ _ (a_ fun K7 hK7=>r_ (gb_ 35 aS_ (by kernel_rfl) fun w4 l4 K8 hK8=>have S4:=S3.like l4;al_ (p_ Z) Z (al_ (p_ Z) Z (al_ (p_ Z) Z (al_ (ci_ Z Z (z_ (by omega))) Z (al_ (T_ Tryz.underlying22 sz5 Z Z (by first | exact S4.rd hb) inferInstance (by omega)) Z ?_)))))));refine HL_yb (ep_ Tryz.underlying5 Z Z (by first | exact S4.rd hb) (by omega)) Z fun _ _=>?_;refine al_ (P_ is5 Tryz.underlying63 Z (u32w (by omega))) Z (al_ (gX_ Z Z (by omega) Z) Z (al_ (p_ Z) Z (al_ (p_ Z) Z (al_ (ci_ Z Z (z_ (by omega))) Z (al_ (w_ Z Z (z_ (by omega))) Z (al_ (T_ Tryz.underlying22 sz5 Z Z (by first | exact S4.rd hb) inferInstance (by omega)) Z ?_))))));refine HL_yb (ep_ Tryz.underlying5 Z Z (by first | exact S4.rd hb) (by omega)) Z fun _ _=>?_;refine al_ (P_ is5 Tryz.underlying63 Z (u32w (by omega))) Z (al_ (gX_ Z Z (by omega) Z) Z (al_ (ae_ Z Z Z Z) Z (al_ (p_ Z) Z (al_ (p_ Z) Z (al_ (ci_ Z Z (z_ (by omega))) Z (al_ (w_ Z Z (z_ (by omega))) Z (al_ (T_ Tryz.underlying22 sz5 Z Z (by first | exact S4.rd hb) inferInstance (by omega)) Z ?_)))))));refine HL_yb (ep_ Tryz.underlying5 Z Z (by first | exact S4.rd hb) (by omega)) Z fun _ _=>?_;refine al_ (P_ is5 Tryz.underlying63 Z (u32w (by omega))) Z (al_ (gX_ Z Z (by omega) Z) Z (al_ (ae_ Z Z Z Z) Z (al_ (p_ Z) Z (al_ (p_ Z) Z (al_ (ci_ Z Z (z_ (by omega))) Z (al_ (w_ Z Z (z_ (by omega))) Z (al_ (T_ Tryz.underlying22 sz5 Z Z (by first | exact S4.rd hb) inferInstance (by omega)) Z ?_)))))));refine HL_yb (ep_ Tryz.underlying5 Z Z (by first | exact S4.rd hb) (by omega)) Z fun _ _=>?_;refine al_ (P_ is5 Tryz.underlying63 Z (u32w (by omega))) Z (al_ (ae_ Z Z Z (wordE _ _)) Z (al_ (aa_ Tryz.underlying244 bk_ Z Z inferInstance (by omega)) Z (gd_ (hK8 _ (L_o (ac_ S4 1 Z Z Z Z bk_ (by simp [bI_,z64];omega) fun w5 S5=>?_))))));have S9:=S5.blkc 1 Z (jZ_ b k (by omega) (word b k) (by simp [sched,hlt]));refine f_ (hK7 _ _ (Rm Z Z (L_y (w_ Z Z (z_ (by omega))) Z (Lan Z Z (⟨k+1,by omega,⟨by omega,S9⟩,?_⟩)))));exact (Sc Z (Sub.cons Z Z (Sub.cons Z Z (Sub.cons Z Z (Sub.nil _)))))
  ·
   obtain rfl:k=16:=by omega
   refine K_ (hK3 _ _ (a_ fun K9 hK9=>a_ fun K10 hK10=>b_ (Lan Z Z (hK10 _ _ (r_ ?_)))));refine an_ [(2,_),(3,_)] (fun (k:Nat)=>[(5,.int .i64 (k:Int))]) (fun (k:Nat)=>64 - k) (fun (k:Nat) (w:World)=>16≤k∧k≤64∧Zx.St w0 noM [blk b1 244 (uA z64),blk b2 244 (uA (sched b k++z64.drop k))] w) 16 (Sc Z (Sub.nil _)) (Sub.cons Z Z (Sub.cons Z Z (Sub.nil _))) ?_ ?_
   ·
    exact ⟨by omega,by omega,S3⟩
   ·
    intro k w6 hrel;obtain ⟨hk1,hk2,S6⟩:=hrel;refine a_ fun K11 hK11=>a_ fun K12 hK12=>Rm Z Z (L_y (L_ Z Z) Z (f_ (hK12 _ _ ?_)));refine o_ Z (fun h50=>?_) (fun h50=>?_)
    ·
     have hlt:k < 64:=by omega
     have hge:¬ k < 16:=by omega
     refine j_ (hK11 _ _ (a_ fun K13 hK13=>r_ (a_ fun K14 hK14=>ak_ [(0,true),(1,true),(2,true),(3,true),(4,true),(5,true),(6,true),(7,true),(8,true),(9,true)] aS_ (by kernel_rfl) fun w7 l7=>have S7:=S6.like l7;u_ Z (p_ Z) Z (u_ Z (ax_ Z Z (z_ (by omega))) Z (u_ Z (aa_ Tryz.underlying244 bk_ Z Z (Nt.mk (by omega):Nt _ (k - 15)) (by omega)) Z (u_ Z (t_ Tryz.underlying63 Z Z (((S7.blk 1 Z).cell _).trans (fe_ b k (k - 15) (by omega)))) Z (u_ Z (p_ Z) Z (u_ Z (ax_ Z Z (z_ (by omega))) Z (u_ Z (aa_ Tryz.underlying244 bk_ Z Z (Nt.mk (by omega):Nt _ (k - 2)) (by omega)) Z ?_)))))))));refine u_ Z (t_ Tryz.underlying63 Z Z (((S7.blk 1 Z).cell _).trans (fe_ b k (k - 2) (by omega)))) Z (u_ Z (J_ Z) Z (u_ Z (J_ Z) Z (aH_ (hK14 _ _ (a_ fun K15 hK15=>Rm Z Z (L_o (n_ Tryz.func160 Z Z (cT_ (rotl7 _ _)) Z Z ?_)))))));rintro e8 w8 ⟨v8,rfl,l8,rfl⟩;refine ⟨_,rfl,(have S8:=S7.like l8;Lm Z Z (L_o (n_ Tryz.func160 Z Z (cT_ (rotl18 _ _)) Z Z ?_)))⟩;rintro e9 w9 ⟨v9,rfl,l9,rfl⟩;refine ⟨_,rfl,(have S9:=S8.like l9;L_y (ae_ Z Z Z (bC_ _ _)) Z (Lm Z Z (L_y (eJ_ Z Z (by omega) (shr3F _)) Z (L_y (ae_ Z Z Z (bC_ _ _)) Z (Lan Z Z (hK15 _ _ (a_ fun K16 hK16=>Rm Z Z (L_o (n_ Tryz.func160 Z Z (cT_ (rotl17 _ _)) Z Z ?_)))))))))⟩;rintro e10 w10 ⟨v10,rfl,l10,rfl⟩;refine ⟨_,rfl,(have S10:=S9.like l10;Lm Z Z (L_o (n_ Tryz.func160 Z Z (cT_ (rotl19 _ _)) Z Z ?_)))⟩;rintro e11 w11 ⟨v11,rfl,l11,rfl⟩;refine ⟨_,rfl,(have S11:=S10.like l11;L_y (ae_ Z Z Z (bC_ _ _)) Z (Lm Z Z (L_y (eJ_ Z Z (by omega) (shr10F _)) Z (L_y (ae_ Z Z Z (bC_ _ _)) Z (Lan Z Z (hK16 _ _ (gb_ 15 aS_ (by kernel_rfl) fun w12 l12 K17 hK17=>have S12:=S11.like l12;al_ (p_ Z) Z (al_ (p_ Z) Z (al_ (ax_ Z Z (z_ (by omega))) Z ?_)))))))))⟩;refine al_ (aa_ Tryz.underlying244 bk_ Z Z (Nt.mk (by omega):Nt _ (k - 16)) (by omega)) Z (al_ (t_ Tryz.underlying63 Z Z (((S12.blk 1 Z).cell _).trans (fe_ b k (k - 16) (by omega)))) Z (al_ (p_ Z) Z (al_ (w_ Z Z (de_ _ _)) Z (al_ (p_ Z) Z (al_ (ax_ Z Z (z_ (by omega))) Z (al_ (aa_ Tryz.underlying244 bk_ Z Z (Nt.mk (by omega):Nt _ (k - 7)) (by omega)) Z (al_ (t_ Tryz.underlying63 Z Z (((S12.blk 1 Z).cell _).trans (fe_ b k (k - 7) (by omega)))) Z (al_ (w_ Z Z (de_ _ _)) Z (al_ (p_ Z) Z (al_ (w_ Z Z (de_ _ _)) Z (al_ (aa_ Tryz.underlying244 bk_ Z Z inferInstance (by omega)) Z (gd_ (hK17 _ ?_)))))))))))));refine L_o (ac_ S12 1 Z Z Z Z bk_ (by simp [bI_,z64];omega) fun w13 S13=>?_)
     have S9:=S13.blkc 1 Z (jZ_ b k hlt _ (by simp only [sched,if_neg hge];rfl));refine f_ (hK13 _ _ (Rm Z Z (L_y (w_ Z Z (z_ (by omega))) Z (Lan Z Z (⟨k+1,by omega,⟨by omega,by omega,S9⟩,?_⟩)))));exact (Sc Z (Sub.cons Z Z (Sub.cons Z Z (Sub.nil _))))
    ·
     obtain rfl:k=64:=by omega
     have S8:=S6.blkc (cs':=uA (sched b 64)) 1 Z (by rw [show z64.drop 64=[] from Z,List.append_nil]);generalize hSS:sched b 64=SS at S8 ⊢
     have hSl:SS.length=64:=by rw [← hSS];exact bI_ b 64
     have S7:=S8;refine K_ (hK9 _ _ (a_ fun K18 hK18=>b_ (L_y (Y_ (size:=64) (vs:=uL SS) Tryz.underlying244 Z sz244 Z (S8.blk 1 Z) ⟨by rw [List.drop_zero];exact List.take_of_length_le (by simp [uA,hSl]),by simp [hSl]⟩) Z ?_)));refine L_o (G_ S6 0 Z Z Z (by rw [List.size_toArray,length_uL,hSl];exact sz244) (by simp [hSl,z64]) (dz_ _) fun w14 S14=>?_);refine f_ (hK18 _ _ (l_ (ur (retc Z Z (S14.blk 0 Z) Tryz.underlying244 Z (by rw [List.size_toArray,length_uL,hSl];exact sz244) ?_))));exact ⟨_,rfl,S14.like0,by rw [hSS];rfl⟩
end Sha
namespace Sha
open Go.RowKit Zk Zx
theorem fa_ (l:List UInt32):∀ u ∈ (uA l).toList,u.oneCell'=true:=dz_ l
theorem bY_ (u:Go.Proofs.YtgaklngnfecdaaaGreat.Sha.St):u.list.length=8:=by simp [Go.Proofs.YtgaklngnfecdaaaGreat.Sha.St.list]
theorem jy_ (u v:Go.Proofs.YtgaklngnfecdaaaGreat.Sha.St):u.list.length=v.list.length:=by rw [bY_,bY_]
def addU (x y:List UInt32) (i:Nat):List UInt32:=(List.zipWith (· + ·) x y).take i++x.drop i
theorem in_ (x y:List UInt32) (h:x.length=y.length) (i:Nat):(addU x y i).length=x.length:=by
  simp [addU];omega
theorem addU_get (x y:List UInt32) (i:Nat) (h:i < x.length) (hxy:x.length=y.length):(uA (addU x y i))[i]?=some (uV (x.getD i 0)):=by
  rw [fb_ _ _ (by rw [in_ _ _ hxy];exact h)]
  congr 2
  simp only [List.getD_eq_getElem?_getD,addU]
  rw [List.getElem?_append_right (by simp;omega)]
  have e:i - ((List.zipWith (· + ·) x y).take i).length=0:=by simp;omega
  rw [e,List.getElem?_drop,Nat.add_zero]
theorem addU_set (x y:List UInt32) (i:Nat) (hxy:x.length=y.length) (h:i < x.length):(uA (addU x y i)).setIfInBounds i (.int .u32 (N (x.getD i 0+y.getD i 0)))=uA (addU x y (i+1)):=by
  rw [uA_set]
  congr 1
  unfold addU
  rw [List.set_append_right _ _ (by simp;omega)]
  have e:i - ((List.zipWith (· + ·) x y).take i).length=0:=by simp;omega
  rw [e,List.drop_eq_getElem_cons h,List.set_cons_zero,List.take_succ_eq_append_getElem (by simp;omega)]
  simp [List.getD_eq_getElem?_getD,List.getElem?_eq_getElem h,List.getElem?_eq_getElem (show i < y.length by omega)]
theorem lw_ (v:Go.Proofs.YtgaklngnfecdaaaGreat.Sha.St) (b:List UInt8):addU (rounds (sched b 64) v 64).list v.list 8=(eG_ v b).list:=rfl
theorem mix (v:Go.Proofs.YtgaklngnfecdaaaGreat.Sha.St) (b:List UInt8) (B:Option Addr) (n cb:Nat) (hn:n=64) (w0:World) (hb:Rs w0 1 B n cb (bL b)) :
    Calls Tryz.prog 118 #[.agg (uA v.list),.slice B n cb] w0 fun e w'=>∃ u,e=.returned u∧Like w0 w'∧u=.agg (uA (eG_ v b).list):=by
 refine v_ (env:=[(0,.agg (uA v.list)),(1,.slice B n cb)]) [.agg (uA v.list),.slice B n cb] Tryz.func118 Z Tryz.ntmps118 Z Z ?_;have S0:=St.start w0 noM;refine a_ fun K1 hK1=>b_ (L_o (bO_ Z S0 Z fun b1 w1 hb1 S1=>L_o (H_ zz103 S1 Z fun b2 w2 hb2 S2=>f_ (hK1 _ _ (a_ fun K2 hK2=>b_ (L_o (n_ Tryz.func158 Z Z (belowC (jS_ _)) Z Z ?_)))))));rintro e3 w3 ⟨v3,rfl,l3,rfl⟩;refine ⟨_,rfl,(have S3:=S2.like l3;L_o (H_ zz244 S3 Z fun b4 w4 hb4 S4=>L_o (G_ S4 2 Z Z Z (by rw [size_uA,show kL.length=64 from Z];exact sz244) (by rw [size_uA,show kL.length=64 from Z];simp [Value.cells]) (by first | exact fa_ _ | exact dz_ _ | exact R_ _ | exact bu_ _ | (intro u hu;simp at hu;subst hu;rfl) | (simp;done) | (simp [Value.oneCell'];done)) fun w5 S5=>?_)))⟩;refine f_ (hK2 _ _ (a_ fun K3 hK3=>Rm Z Z (L_o (n_ Tryz.func159 Z Z (spread b B n cb hn _ (S5.rd hb)) Z Z ?_))));rintro e6 w6 ⟨v6,rfl,l6,rfl⟩;refine ⟨_,rfl,?_⟩;have S6:=S5.like l6;have hSl:(sched b 64).length=64:=bI_ b 64;have hl0:=lw_ v b;generalize hSS:sched b 64=SS at hSl hl0 ⊢
 refine L_o (H_ zz244 S6 Z fun b7 w7 hb7 S7=>L_o (G_ S7 3 Z Z Z (by rw [size_uA,hSl];exact sz244) (by rw [size_uA,hSl];simp [Value.cells]) (by first | exact fa_ _ | exact dz_ _ | exact R_ _ | exact bu_ _ | (intro u hu;simp at hu;subst hu;rfl) | (simp;done) | (simp [Value.oneCell'];done)) fun w8 S8=>?_));refine f_ (hK3 _ _ (a_ fun K4 hK4=>b_ (L_y (Y_ Tryz.underlying103 Z cm_ Z (S8.blk 0 Z) ⟨(rfl:_=uL v.list),rfl⟩) Z (L_o (H_ zz103 S8 Z fun b9 w9 hb9 S9=>L_o (G_ S9 4 Z Z Z (by exact cm_) (by simp [Go.Proofs.YtgaklngnfecdaaaGreat.Sha.St.list,Value.cells]) (dz_ _) fun w10 S10=>?_))))));refine f_ (hK4 _ _ (a_ fun K5 hK5=>a_ fun K6 hK6=>Rm Z Z (f_ (hK6 _ _ (r_ ?_)))));refine an_ [(2,_),(4,_),(5,_),(6,_),(7,_)] (fun (t:Nat)=>[(18,.int .i64 (t:Int))]) (fun (t:Nat)=>64 - t) (fun (t:Nat) (w:World)=>t≤64∧Zx.St w0 noM [blk b1 103 (uA v.list),blk b2 103 (uA z8),blk b4 244 (uA kL),blk b7 244 (uA SS),blk b9 103 (uA (rounds SS v t).list)] w) 0 (Sc Z (Sub.nil _)) (Sub.cons Z Z (Sub.cons Z Z (Sub.cons Z Z (Sub.cons Z Z (Sub.cons Z Z (Sub.nil _)))))) ?_ ?_
 ·
  exact ⟨by omega,S10⟩
 ·
  intro t w11 hrel;obtain ⟨ht,S11⟩:=hrel;refine a_ fun K7 hK7=>b_ (L_y (L_ Z Z) Z (f_ (hK7 _ _ (a_ fun K8 hK8=>?_))));refine o_ Z (fun h19=>?_) (fun h19=>?_)
  ·
   refine j_ (hK8 _ _ (a_ fun K9 hK9=>r_ (a_ fun K10 hK10=>Rm Z Z (Lan Z Z (hK10 _ _ (a_ fun K11 hK11=>ak_ [(0,true),(1,true),(2,true),(3,true),(4,true),(5,true)] aS_ (by kernel_rfl) fun w12 l12=>have S12:=S11.like l12;u_ Z (aa_ Tryz.underlying103 bk_ Z Z inferInstance (by omega)) Z ?_))))));refine u_ Z (t_ Tryz.underlying63 Z Z (((S12.blk 4 Z).cell _).trans (show _=some (uV (rounds SS v t).e) from Z))) Z (u_ Z (aa_ Tryz.underlying103 bk_ Z Z inferInstance (by omega)) Z (u_ Z (t_ Tryz.underlying63 Z Z (((S12.blk 4 Z).cell _).trans (show _=some (uV (rounds SS v t).a) from Z))) Z (u_ Z (J_ Z) Z (u_ Z (J_ Z) Z (aH_ (hK11 _ _ (a_ fun K12 hK12=>ak_ [(0,true),(1,true),(2,true),(4,true),(7,true),(11,true),(12,true),(13,true),(14,true),(15,true),(16,true),(17,true),(18,true),(19,true),(20,true),(22,true),(23,true),(24,true),(26,true),(27,true),(28,true),(3,false),(5,false),(6,true),(8,false),(9,true),(10,true),(21,true),(25,true),(29,true),(30,true)] aS_ (by kernel_rfl) fun w13 l13=>have S13:=S12.like l13;u_ Z (aa_ Tryz.underlying103 bk_ Z Z inferInstance (by omega)) Z (u_ Z (t_ Tryz.underlying63 Z Z (((S13.blk 4 Z).cell _).trans (show _=some (uV (rounds SS v t).h) from Z))) Z (u_ Z (p_ Z) Z (u_ Z (p_ Z) Z ?_))))))))));refine u_ Z (p_ Z) Z (u_ Z (p_ Z) Z (u_ Z (aa_ Tryz.underlying103 bk_ Z Z inferInstance (by omega)) Z (u_ Z (t_ Tryz.underlying63 Z Z (((S13.blk 4 Z).cell _).trans (show _=some (uV (rounds SS v t).f) from Z))) Z (u_ Z (ae_ Z Z Z (cu_ _ _)) Z (u_ Z (p_ Z) Z (u_ Z (y_inv Z (cZ_ _)) Z (u_ Z (aa_ Tryz.underlying103 bk_ Z Z inferInstance (by omega)) Z (u_ Z (t_ Tryz.underlying63 Z Z (((S13.blk 4 Z).cell _).trans (show _=some (uV (rounds SS v t).g) from Z))) Z (u_ Z (ae_ Z Z Z (cu_ _ _)) Z (u_ Z (ae_ Z Z Z (bC_ _ _)) Z (u_ Z (p_ Z) Z (u_ Z (aa_ Tryz.underlying244 bk_ Z Z inferInstance (by omega)) Z (u_ Z (t_ Tryz.underlying63 Z Z (((S13.blk 2 Z).cell _).trans (fb_ _ _ (by show t < 64;omega)))) Z ?_)))))))))))));refine u_ Z (p_ Z) Z (u_ Z (aa_ Tryz.underlying244 bk_ Z Z inferInstance (by omega)) Z (u_ Z (t_ Tryz.underlying63 Z Z (((S13.blk 3 Z).cell _).trans (fb_ _ _ (by rw [hSl];omega)))) Z ?_));refine eH_ Z (n_ Tryz.func160 Z Z (cT_ (rotl6 _ _)) Z Z ?_);rintro e14 w14 ⟨v14,rfl,l14,rfl⟩;refine ⟨_,rfl,l14,(have S14:=S13.like l14;have q14:=l14;eH_ Z (n_ Tryz.func160 Z Z (cT_ (rotl11 _ _)) Z Z ?_))⟩;rintro e15 w15 ⟨v15,rfl,l15,rfl⟩;refine ⟨_,rfl,(Like.trans q14 l15),(have S15:=S14.like l15;have q15:=(Like.trans q14 l15);u_ Z (ae_ Z Z Z (bC_ _ _)) Z (eH_ Z (n_ Tryz.func160 Z Z (cT_ (rotl25 _ _)) Z Z ?_)))⟩
   rintro e16 w16 ⟨v16,rfl,l16,rfl⟩;refine ⟨_,rfl,(Like.trans q15 l16),(have S16:=S15.like l16;have q16:=(Like.trans q15 l16);u_ Z (ae_ Z Z Z (bC_ _ _)) Z (u_ Z (w_ Z Z (de_ _ _)) Z (u_ Z (w_ Z Z (de_ _ _)) Z (u_ Z (w_ Z Z (de_ _ _)) Z (u_ Z (w_ Z Z (de_ _ _)) Z (u_ Z (J_ Z) Z (aH_ (hK12 _ _ (a_ fun K13 hK13=>ak_ [(0,true),(2,true),(5,true),(8,true),(9,true),(10,true),(11,true),(12,true),(13,true),(14,true),(15,true),(16,true),(17,true),(18,true),(19,true),(20,true),(21,true),(22,true),(1,false),(3,false),(4,true),(6,false),(7,true),(23,true),(24,true)] aS_ (by kernel_rfl) fun w17 l17=>?_)))))))))⟩;have S17:=S16.like l17;refine u_ Z (p_ Z) Z (u_ Z (p_ Z) Z (u_ Z (p_ Z) Z (u_ Z (p_ Z) Z (u_ Z (aa_ Tryz.underlying103 bk_ Z Z inferInstance (by omega)) Z (u_ Z (t_ Tryz.underlying63 Z Z (((S17.blk 4 Z).cell _).trans (show _=some (uV (rounds SS v t).b) from Z))) Z (u_ Z (ae_ Z Z Z (cu_ _ _)) Z (u_ Z (p_ Z) Z (u_ Z (aa_ Tryz.underlying103 bk_ Z Z inferInstance (by omega)) Z (u_ Z (t_ Tryz.underlying63 Z Z (((S17.blk 4 Z).cell _).trans (show _=some (uV (rounds SS v t).c) from Z))) Z (u_ Z (ae_ Z Z Z (cu_ _ _)) Z (u_ Z (ae_ Z Z Z (bC_ _ _)) Z (u_ Z (aa_ Tryz.underlying103 bk_ Z Z inferInstance (by omega)) Z (u_ Z (t_ Tryz.underlying63 Z Z (((S17.blk 4 Z).cell _).trans (show _=some (uV (rounds SS v t).b) from Z))) Z ?_)))))))))))));refine u_ Z (aa_ Tryz.underlying103 bk_ Z Z inferInstance (by omega)) Z (u_ Z (t_ Tryz.underlying63 Z Z (((S17.blk 4 Z).cell _).trans (show _=some (uV (rounds SS v t).c) from Z))) Z (u_ Z (ae_ Z Z Z (cu_ _ _)) Z (u_ Z (ae_ Z Z Z (bC_ _ _)) Z (eH_ Z (n_ Tryz.func160 Z Z (cT_ (rotl2 _ _)) Z Z ?_)))));rintro e18 w18 ⟨v18,rfl,l18,rfl⟩;refine ⟨_,rfl,l18,(have S18:=S17.like l18;have q18:=l18;eH_ Z (n_ Tryz.func160 Z Z (cT_ (rotl13 _ _)) Z Z ?_))⟩;rintro e19 w19 ⟨v19,rfl,l19,rfl⟩;refine ⟨_,rfl,(Like.trans q18 l19),(have S19:=S18.like l19;have q19:=(Like.trans q18 l19);u_ Z (ae_ Z Z Z (bC_ _ _)) Z (eH_ Z (n_ Tryz.func160 Z Z (cT_ (rotl22 _ _)) Z Z ?_)))⟩;rintro e20 w20 ⟨v20,rfl,l20,rfl⟩;refine ⟨_,rfl,(Like.trans q19 l20),(have S20:=S19.like l20;have q20:=(Like.trans q19 l20);u_ Z (ae_ Z Z Z (bC_ _ _)) Z (u_ Z (w_ Z Z (de_ _ _)) Z (u_ Z (J_ Z) Z (aH_ (hK13 _ _ (Rm Z Z (Lm Z Z (L_y (w_ Z Z (de_ _ _)) Z (Lm Z Z (L_y (aa_ Tryz.underlying103 bk_ Z Z inferInstance (by omega)) Z ?_))))))))))⟩;refine L_y (t_ Tryz.underlying63 Z Z (((S20.blk 4 Z).cell _).trans (show _=some (uV (rounds SS v t).b) from Z))) Z (L_y (aa_ Tryz.underlying103 bk_ Z Z inferInstance (by omega)) Z (L_y (t_ Tryz.underlying63 Z Z (((S20.blk 4 Z).cell _).trans (show _=some (uV (rounds SS v t).c) from Z))) Z (L_y (aa_ Tryz.underlying103 bk_ Z Z inferInstance (by omega)) Z (L_y (t_ Tryz.underlying63 Z Z (((S20.blk 4 Z).cell _).trans (show _=some (uV (rounds SS v t).d) from Z))) Z (Lm Z Z (L_y (w_ Z Z (de_ _ _)) Z (Lm Z Z (L_y (aa_ Tryz.underlying103 bk_ Z Z inferInstance (by omega)) Z (L_y (t_ Tryz.underlying63 Z Z (((S20.blk 4 Z).cell _).trans (show _=some (uV (rounds SS v t).f) from Z))) Z (L_y (aa_ Tryz.underlying103 bk_ Z Z inferInstance (by omega)) Z (L_y (t_ Tryz.underlying63 Z Z (((S20.blk 4 Z).cell _).trans (show _=some (uV (rounds SS v t).g) from Z))) Z (L_y (C_ (cs:=uA (rounds SS v (t+1)).list) Z (by kernel_rfl)) Z (L_o (G_ S20 4 Z Z Z (by exact cm_) (by simp [Go.Proofs.YtgaklngnfecdaaaGreat.Sha.St.list,Value.cells]) (dz_ _) fun w21 S21=>?_))))))))))))))
   refine f_ (hK9 _ _ (b_ (L_y (w_ Z Z (z_ (by omega))) Z (Lm Z Z (f_ (⟨t+1,by omega,⟨by omega,S21⟩,?_⟩))))));exact (Sc Z (Sub.cons Z Z (Sub.cons Z Z (Sub.cons Z Z (Sub.cons Z Z (Sub.cons Z Z (Sub.nil _)))))))
  ·
   obtain rfl:t=64:=by omega
   generalize hR:rounds SS v 64=R at hl0 S11 ⊢
   refine K_ (hK5 _ _ (a_ fun K14 hK14=>a_ fun K15 hK15=>Rm Z Z (f_ (hK15 _ _ (r_ ?_)))));refine an_ [(2,_),(4,_),(7,_)] (fun (i:Nat)=>[(98,.int .i64 (i:Int))]) (fun (i:Nat)=>8 - i) (fun (i:Nat) (w:World)=>i≤8∧Zx.St w0 noM [blk b1 103 (uA v.list),blk b2 103 (uA z8),blk b4 244 (uA kL),blk b7 244 (uA SS),blk b9 103 (uA (addU R.list v.list i))] w) 0 (Sc Z (Sub.nil _)) (Sub.cons Z Z (Sub.cons Z Z (Sub.cons Z Z (Sub.nil _)))) ?_ ?_
   ·
    exact ⟨by omega,S11⟩
   ·
    intro i w22 hrel;obtain ⟨hi,S22⟩:=hrel;refine a_ fun K16 hK16=>b_ (L_y (L_ Z Z) Z (f_ (hK16 _ _ (a_ fun K17 hK17=>?_))));refine o_ Z (fun h99=>?_) (fun h99=>?_)
    ·
     refine j_ (hK17 _ _ (a_ fun K18 hK18=>r_ (a_ fun K19 hK19=>Rm Z Z (Lan Z Z (hK19 _ _ (gb_ 8 aS_ (by kernel_rfl) fun w23 l23 K20 hK20=>have S23:=S22.like l23;al_ (p_ Z) Z (al_ (aa_ Tryz.underlying103 bk_ Z Z inferInstance (by omega)) Z ?_)))))));refine al_ (t_ Tryz.underlying63 Z Z (((S23.blk 4 Z).cell _).trans (addU_get _ _ i (by rw [bY_];omega) (jy_ _ _)))) Z ?_;refine al_ (p_ Z) Z (al_ (aa_ Tryz.underlying103 bk_ Z Z inferInstance (by omega)) Z (al_ (t_ Tryz.underlying63 Z Z (((S23.blk 0 Z).cell _).trans (fb_ _ _ (by rw [bY_];omega)))) Z ?_));refine al_ (w_ Z Z (de_ _ _)) Z (al_ (aa_ Tryz.underlying103 bk_ Z Z inferInstance (by omega)) Z (gd_ (hK20 _ (L_o (ac_ S23 4 Z Z Z Z bk_ (by rw [size_uA,in_ R.list v.list (jy_ _ _),bY_];omega) fun w24 S24=>?_)))));have S9:=S24.blkc 4 Z (addU_set _ _ i (jy_ _ _) (by rw [bY_];omega));refine f_ (hK18 _ _ (b_ (L_y (w_ Z Z (z_ (by omega))) Z (Lm Z Z (f_ (⟨i+1,by omega,⟨by omega,S9⟩,?_⟩))))));exact (Sc Z (Sub.cons Z Z (Sub.cons Z Z (Sub.cons Z Z (Sub.nil _)))))
    ·
     obtain rfl:i=8:=by omega
     refine K_ (hK14 _ _ (a_ fun K21 hK21=>b_ (L_y (Y_ (size:=8) (vs:=uL (eG_ v b).list) Tryz.underlying103 Z cm_ Z (S22.blk 4 Z) ⟨by rw [← hl0];rfl,rfl⟩) Z ?_)));refine L_o (G_ S22 1 Z Z Z (by exact cm_) (by simp [Go.Proofs.YtgaklngnfecdaaaGreat.Sha.St.list,z8,Value.cells]) (by first | exact fa_ _ | exact dz_ _ | exact R_ _ | exact bu_ _ | (intro u hu;simp at hu;subst hu;rfl) | (simp;done) | (simp [Value.oneCell'];done)) fun w25 S25=>?_);refine f_ (hK21 _ _ (l_ (ur (retc Z Z (S25.blk 1 Z) Tryz.underlying103 Z (by exact cm_) ?_))));exact ⟨_,rfl,S25.like0,rfl⟩
end Sha
namespace Sha
open Go.RowKit Zk Zx
theorem ln_ (l k:List UInt8):decide ((⟨l.toArray⟩:ByteArray)=⟨k.toArray⟩)=decide (l=k):=by
  by_cases h:l=k
  · subst h;simp
  · have:(⟨l.toArray⟩:ByteArray)≠⟨k.toArray⟩:=fun e=>h (by simpa using e)
    simp [h]
def dT_:Go.Proofs.YtgaklngnfecdaaaGreat.Sha.St:=⟨0x6a09e667,0xbb67ae85,0x3c6ef372,0xa54ff53a,0x510e527f,0x9b05688c,0x1f83d9ab,0x5be0cd19⟩
def bv_ (n:Nat) (v:Go.Proofs.YtgaklngnfecdaaaGreat.Sha.St) (rest:List UInt8):Array Value:=(.bool true::.int .u64 (n:Int)::(uL v.list++bL rest)).toArray
theorem same (A B:Option Addr) (n c m d:Nat) (l k:List UInt8) (w0:World) (ha:Rs w0 1 A n c (bL l)) (hb:Rs w0 1 B m d (bL k)) :
    Calls Tryz.prog 14 #[.slice A n c,.slice B m d] w0 fun e w'=>∃ u,e=.returned u∧Like w0 w'∧u=.bool (decide (l=k)):=by
 refine v_ (env:=[(0,.slice A n c),(1,.slice B m d)]) [.slice A n c,.slice B m d] Tryz.func14 Z Tryz.ntmps14 Z Z ?_;have S0:=St.start w0 noM;refine a_ fun K1 hK1=>b_ (Lan Z Z (hK1 _ _ (a_ fun K2 hK2=>Rm Z Z (L_y (co_ Tryz.underlying22 Tryz.underlying5 Tryz.underlying9 Z (S0.rd ha)) Z (Lm Z Z (L_y (co_ Tryz.underlying22 Tryz.underlying5 Tryz.underlying9 Z (S0.rd hb)) Z (L_y (cW_ Z Z) Z (Lan Z Z ?_))))))));refine hK2 _ _ (l_ (ur (F_ Z Z ?_)));exact ⟨_,rfl,S0.like0,by rw [ln_]⟩
theorem start  (w0:World)  :
    Calls Tryz.prog 117 #[] w0 fun e w'=>∃ u,e=.returned u∧Like w0 w'∧u=.agg (uA dT_.list):=by
 refine v_ (env:=[]) [] Tryz.func117 Z Tryz.ntmps117 Z Z ?_;have S0:=St.start w0 noM;refine a_ fun K1 hK1=>b_ (L_o (H_ zz103 S0 Z fun b1 w1 hb1 S1=>f_ (hK1 _ _ (a_ fun K2 hK2=>b_ (L_y (C_ (cs:=uA dT_.list) Z (by kernel_rfl)) Z (L_o (G_ S1 0 Z Z Z (by exact cm_) (by simp [Go.Proofs.YtgaklngnfecdaaaGreat.Sha.St.list,dT_,Value.cells]) (fa_ _) fun w2 S2=>?_)))))));refine f_ (hK2 _ _ (l_ (ur (retc Z Z (S2.blk 0 Z) Tryz.underlying103 Z (by exact cm_) ?_))));exact ⟨_,rfl,S2.like0,rfl⟩
theorem refstart  (w0:World)  :
    Calls Tryz.prog 52 #[] w0 fun e w'=>∃ u,e=.returned u∧Like w0 w'∧u=.agg (uA dT_.list):=by
 refine v_ (env:=[]) [] Tryz.func52 Z Tryz.ntmps52 Z Z ?_;have S0:=St.start w0 noM;refine a_ fun K1 hK1=>b_ (L_o (H_ zz103 S0 Z fun b1 w1 hb1 S1=>f_ (hK1 _ _ (a_ fun K2 hK2=>b_ (L_y (C_ (cs:=uA dT_.list) Z (by kernel_rfl)) Z (L_o (G_ S1 0 Z Z Z (by exact cm_) (by simp [Go.Proofs.YtgaklngnfecdaaaGreat.Sha.St.list,dT_,Value.cells]) (fa_ _) fun w2 S2=>?_)))))));refine f_ (hK2 _ _ (l_ (ur (retc Z Z (S2.blk 0 Z) Tryz.underlying103 Z (by exact cm_) ?_))));exact ⟨_,rfl,S2.like0,rfl⟩
theorem new  (w0:World)  :
    Calls Tryz.prog 84 #[] w0 fun e w'=>∃ u,e=.returned u∧Like w0 w'∧∃ b,u=.pointer (some ⟨b,0,none⟩)∧w0.heap.size≤b∧Blk w' b 210 (bv_ 0 dT_ (List.replicate 64 0)):=by
 refine v_ (env:=[]) [] Tryz.func84 Z Tryz.ntmps84 Z Z ?_;have S0:=St.start w0 noM;refine a_ fun K1 hK1=>b_ (Lan Z Z (hK1 _ _ (a_ fun K2 hK2=>b_ (L_o (n_ Tryz.func117 Z Z (start _) Z Z ?_)))));rintro e1 w1 ⟨v1,rfl,l1,rfl⟩;refine ⟨_,rfl,(have S1:=S0.like l1;L_y (C_ (cs:=bv_ 0 dT_ (List.replicate 64 0)) Z (by kernel_rfl)) Z (L_o (bO_ Z S1 Z fun b2 w2 hb2 S2=>Lan Z Z (hK2 _ _ (l_ (ur (F_ Z Z ?_)))))))⟩;exact ⟨_,rfl,S2.like0,_,rfl,hb2,S2.blk 0 Z⟩
end Sha
end Go.Proofs.YtgaklngnfecdaaaGreat
