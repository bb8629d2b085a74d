import Derived.Test.YtgaklngnfecdaaaGreatMgPWrites8
import Derived.Test.YtgaklngnfecdaaaGreatMgPWrites2
import Derived.Test.YtgaklngnfecdaaaGreatMgPWrites7
import Derived.Test.YtgaklngnfecdaaaGreatMgPWrites3
set_option linter.unusedSimpArgs false
set_option linter.unusedVariables false
set_option maxRecDepth 100000
namespace Go.Proofs.YtgaklngnfecdaaaGreat
namespace Del
open Go.RowKit Zk Zx Oct
theorem rput (A:Option Addr) (n c:Nat) (l:List OP) (b t:Int) (w0:World) (hl:Rs w0 4 A n c (l.flatMap opf)) (hok:OkO w0 l) (hn4:n≤4000) :
    Calls Tryz.prog 94 #[.agg (scA b t A n c)] w0 fun e w'=>∃ u,e=.returned u∧Like w0 w'∧∃ A' c',u=.tuple #[.slice A' (cy_ b t (l.map OP.v)).1.length c',.int .i64 (cy_ b t (l.map OP.v)).2]∧w'.ownsRow w0.heap.size 5 1 (.slice A' (cy_ b t (l.map OP.v)).1.length c') (cy_ b t (l.map OP.v)).1.length (bL (cy_ b t (l.map OP.v)).1):=by
 refine v_ (env:=[(0,.agg (scA b t A n c))]) [.agg (scA b t A n c)] Tryz.func94 Z Tryz.ntmps94 Z Z ?_;have hn:=ops_n hl;have hcap:=hl.cap;have hmax:=hl.max;have S0:=St.start w0 noM;refine a_ fun K1 hK1=>b_ (L_o (bO_ Z S0 Z fun b1 w1 hb1 S1=>La Z Z (Lan Z Z (hK1 _ _ (a_ fun K2 hK2=>b_ (L_y (Y_ Tryz.underlying137 Z fB_ Z (S1.blk 0 Z) (show _=(scA b t A n c).toList∧_ from ⟨rfl,rfl⟩)) Z (L_o (n_ Tryz.func103 Z Z (hO_ A n c l b t w1 (S1.rd hl) (hok.like S1.like0)) Z Z ?_))))))));rintro e2 w2 ⟨v2,rfl,l2,rfl⟩;refine ⟨_,rfl,(have S2:=S1.like l2;Lan Z Z (hK2 _ _ (a_ fun K3 hK3=>a_ fun K4 hK4=>Rm Z Z (L_y (ab_ Z Z) Z (f_ (hK4 _ _ ?_))))))⟩;refine o_ Z (fun h11=>?_) (fun h11=>?_)
 ·
  refine a_ fun K5 hK5=>Rm Z Z (La Z Z (Lan Z Z (hK5 _ _ (l_ (ur (bj_ Z Z Z ?_))))));first | exact ⟨_,rfl,S2.like0,none,0,by rw [er_ h11];rfl,by rw [er_ h11];exact World.ownsRow_nil _ _ _ _⟩ | (have hke:k=n:=by omega);subst hke;rw [List.take_of_length_le (by omega)] at hm;subst hm;exact ⟨_,rfl,S2.like0,_,_,by rw [ez_ h110],by rw [ez_ h110];exact S2.own 1 Z⟩
 ·
  have h110:=Decidable.byContradiction h11;obtain ⟨hrg,hall⟩:=eT_ h110;have v1:=bF_ b.toNat (by omega);have v2:=bF_ t.toNat (by omega);refine j_ (hK3 _ _ (a_ fun K6 hK6=>cH_ (fun w=>Blk w b1 137 (scA b t A n c)) aS_ (by kernel_rfl) (fun w l=>(S2.like l).blk 0 Z) fun w3 l3=>have S3:=S2.like l3;aj_ 0 (by kernel_rfl) Z (g_ 0 Tryz.underlying137 Z sz3 Z Z Z) Z (aj_ 1 (by kernel_rfl) Z (eZ_ fun w hw=>t_ Tryz.underlying3 Z Z (((hw).cell _).trans (by rfl))) Z ?_)));refine aj_ 2 (by kernel_rfl) Z (P_ is3 Tryz.underlying102 Z (ip_ (by omega) (by omega))) Z (aj_ 4 (by kernel_rfl) Z (g_ 1 Tryz.underlying137 Z sz3 Z Z Z) Z (aj_ 5 (by kernel_rfl) Z (eZ_ fun w hw=>t_ Tryz.underlying3 Z Z (((hw).cell _).trans (by rfl))) Z ?_));refine aj_ 6 (by kernel_rfl) Z (P_ is3 Tryz.underlying102 Z (ip_ (by omega) (by omega))) Z (aX_ 3 (by kernel_rfl) Z (n_ Tryz.func64 Z Z (dB_ b.toNat w3 (by omega)) Z Z ?_));rintro e4 w4 ⟨v4,rfl,l4,A16,m16,c16,rfl,O4⟩;refine ⟨_,rfl,(have S4:=S3.adopt l4 O4;⟨S4.blk 0 Z,(aX_ 7 (by kernel_rfl) Z (n_ Tryz.func64 Z Z (dB_ t.toNat w4 (by omega)) Z Z ?_))⟩)⟩;rintro e5 w5 ⟨v5,rfl,l5,A20,m20,c20,rfl,O5⟩;refine ⟨_,rfl,(have S5:=S4.adopt l5 O5;⟨S5.blk 0 Z,(aX_ 8 (by kernel_rfl) Z (ah_ [_,_] cS_ eW_ S5 Z Z Z Z Z Z Z Z fun b6 w6 S6=>⟨S6.blk 0 Z,(aX_ 9 (by kernel_rfl) Z (n_ Tryz.func60 Z Z (je_ _ 2 2 [⟨A16,m16,c16,(vr b.toNat)⟩,⟨A20,m20,c20,(vr t.toNat)⟩] w6 (S6.row 3 Z) (okP.cons (p:=⟨A16,m16,c16,(vr b.toNat)⟩) (S6.row 1 Z) (by have h9:=(S6.row 1 Z).lenb;show m16≤100000;omega) (okP.cons (p:=⟨A20,m20,c20,(vr t.toNat)⟩) (S6.row 2 Z) (by have h9:=(S6.row 2 Z).lenb;show m20≤100000;omega) (okP.nil _ _))) (by omega)) Z Z ?_))⟩))⟩)⟩;rintro e7 w7 ⟨v7,rfl,l7,A22,c22,rfl,O7⟩;refine ⟨_,rfl,(have S7:=S6.adopt l7 O7;⟨S7.blk 0 Z,(aj_ 10 (by kernel_rfl) Z (J_ Z) Z (cB_ (by kernel_rfl) (hK6 _ _ (a_ fun K7 hK7=>a_ fun K8 hK8=>b_ (Lan Z Z (hK8 _ _ (r_ ?_)))))))⟩)⟩;refine iL_ [(1,_)] (fun (k:Nat) (left:Int) (m:List UInt8) (A1:Option Addr) (c1:Nat)=>[(6,.int .i64 (k:Int)),(5,.slice A1 m.length c1)]) (fun (k:Nat) (left:Int) (m:List UInt8) (A1:Option Addr) (c1:Nat)=>n - k) (fun (k:Nat) (left:Int) (m:List UInt8) (A1:Option Addr) (c1:Nat) (w:World)=>(k≤n∧0≤left∧left≤4000∧bP_ b left ((l.map OP.v).drop k)=true∧m=bm_ b t ((l.take k).map OP.v)∧m.length+left.toNat≤4020+21*k)∧St w0 noM [blk b1 137 (scA b t A n c),row 5 1 A1 m.length c1 (bL m)] w) 0 t (cO_ [⟨A16,m16,c16,(vr b.toNat)⟩,⟨A20,m20,c20,(vr t.toNat)⟩]) A22 c22 (Sc Z (Sc Z (Sub.nil _))) (Sub.cons Z Z (Sub.nil _)) ?_ ?_
  ·
   have S90:=S7.sel [0,4] (by decide);exact ⟨⟨Nat.zero_le _,by omega,by omega,hall,by simp [bm_,cO_],by simp [cO_];omega⟩,S90⟩
  ·
   intro k left m A1 c1 w8 hrel;obtain ⟨⟨hk,hl0,hl1,hch,hm,hml⟩,S8⟩:=hrel;refine a_ fun K9 hK9=>a_ fun K10 hK10=>Rm Z Z (L_y (g_ 2 Tryz.underlying137 Z dH_ Z Z Z) Z (L_y (t_ Tryz.underlying135 Z Z (((S8.blk 0 Z).cell _).trans (by rfl))) Z ?_));refine L_y (I_ Tryz.underlying135 Z) Z (L_y (L_ Z Z) Z (f_ (hK10 _ _ ?_)));refine o_ Z (fun h27=>?_) (fun h27=>?_)
   ·
    obtain ⟨o,ho⟩:∃ o,l[k]?=some o:=⟨_,List.getElem?_eq_getElem (by omega)⟩;have hop:=hok o (List.mem_of_getElem? ho);have hopn:=hop.lenb;have hopc:=hop.cap;have hopm:=hop.max;obtain ⟨hrt,hsz,hrest⟩:=ic_ ho hch;have hs1:=cC_ hrt;refine j_ (hK9 _ _ (a_ fun K11 hK11=>r_ (a_ fun K12 hK12=>b_ (L_y (g_ 2 Tryz.underlying137 Z dH_ Z Z Z) Z (L_y (t_ Tryz.underlying135 Z Z (((S8.blk 0 Z).cell _).trans (by rfl))) Z ?_)))));refine Lm Z Z (L_y (T_ Tryz.underlying135 eq_ Z Z (S8.rd hl) (Nt.mk (by omega):Nt _ (k)) (by omega)) Z (L_y (cp_ (f:=opf) go_ Tryz.underlying190 Z eq_ Z (S8.rd hl) (by omega) ho) Z (L_o (H_ zz190 S8 Z fun b9 w9 hb9 S9=>L_o (G_ S9 2 Z Z Z eq_ Z (bp_ o) fun w10 S10=>f_ (hK12 _ _ (a_ fun K13 hK13=>b_ (L_y (g_ 0 Tryz.underlying190 Z sz4 Z Z Z) Z (L_y (t_ Tryz.underlying4 Z Z (((S10.blk 2 Z).cell _).trans (by rfl))) Z ?_)))))))));refine f_ (hK13 _ _ ?_);refine aD_ Z (fun h36=>?_) (fun h36=>?_)
    ·
     have hcp:o.cp=true:=h36;obtain ⟨g1,g2,g3,g4,g5⟩:=rt_cp hrt hcp;have v3:=bF_ o.fr.toNat (by omega);have v4:=bF_ o.n.toNat (by omega);refine cH_ (fun w=>Blk w b9 190 (opf o).toArray) aS_ (by kernel_rfl) (fun w l=>(S10.like l).blk 2 Z) fun w11 l11=>have S11:=S10.like l11;aj_ 0 (by kernel_rfl) Z (p_ Z) Z (aj_ 2 (by kernel_rfl) Z (g_ 1 Tryz.underlying190 Z sz3 Z Z Z) Z (aj_ 3 (by kernel_rfl) Z (eZ_ fun w hw=>t_ Tryz.underlying3 Z Z (((hw).cell _).trans (by rfl))) Z ?_));refine aj_ 4 (by kernel_rfl) Z (P_ is3 Tryz.underlying102 Z (ip_ (by omega) (by omega))) Z (aj_ 6 (by kernel_rfl) Z (g_ 2 Tryz.underlying190 Z sz3 Z Z Z) Z (aj_ 7 (by kernel_rfl) Z (eZ_ fun w hw=>t_ Tryz.underlying3 Z Z (((hw).cell _).trans (by rfl))) Z ?_));refine aj_ 8 (by kernel_rfl) Z (P_ is3 Tryz.underlying102 Z (ip_ (by omega) (by omega))) Z ?_;refine jO_ 1 5 (by kernel_rfl) Z Z ?_ ?_
     ·
      refine ah_ [_] ba_ zz5 S11 Z Z Z Z Z Z Z Z fun b12 w12 S12=>⟨S12.blk 2 Z,(aX_ 5 (by kernel_rfl) Z (n_ Tryz.func64 Z Z (dB_ o.fr.toNat w12 (by omega)) Z Z ?_))⟩;rintro e13 w13 ⟨v13,rfl,l13,A42,m42,c42,rfl,O13⟩;refine ⟨_,rfl,(have S13:=S12.adopt l13 O13;⟨S13.blk 2 Z,(aX_ 9 (by kernel_rfl) Z (n_ Tryz.func64 Z Z (dB_ o.n.toNat w13 (by omega)) Z Z ?_))⟩)⟩;rintro e14 w14 ⟨v14,rfl,l14,A46,m46,c46,rfl,O14⟩;refine ⟨_,rfl,(have S14:=S13.adopt l14 O14;⟨S14.blk 2 Z,(aX_ 10 (by kernel_rfl) Z (ah_ [_,_,_,_] cS_ eW_ S14 Z Z Z Z Z Z Z Z fun b15 w15 S15=>⟨S15.blk 2 Z,(aX_ 11 (by kernel_rfl) Z (n_ Tryz.func60 Z Z (je_ _ 4 4 [⟨A1,m.length,c1,m⟩,⟨_,1,1,[1]⟩,⟨A42,m42,c42,(vr o.fr.toNat)⟩,⟨A46,m46,c46,(vr o.n.toNat)⟩] w15 (S15.row 6 Z) (okP.cons (p:=⟨A1,m.length,c1,m⟩) (S15.row 1 Z) (by show m.length≤100000;omega) (okP.cons (p:=⟨_,1,1,[1]⟩) (S15.row 3 Z) (by show 1≤100000;omega) (okP.cons (p:=⟨A42,m42,c42,(vr o.fr.toNat)⟩) (S15.row 4 Z) (by have h9:=(S15.row 4 Z).lenb;show m42≤100000;omega) (okP.cons (p:=⟨A46,m46,c46,(vr o.n.toNat)⟩) (S15.row 5 Z) (by have h9:=(S15.row 5 Z).lenb;show m46≤100000;omega) (okP.nil _ _))))) (by omega)) Z Z ?_))⟩))⟩)⟩;rintro e16 w16 ⟨v16,rfl,l16,A48,c48,rfl,O16⟩;refine ⟨_,rfl,(have S16:=S15.adopt l16 O16;⟨S16.blk 2 Z,(aj_ 12 (by kernel_rfl) Z (J_ Z) Z (cB_ (by kernel_rfl) (hK11 _ _ (Rm Z Z (L_y (w_ Z Z (z_ (by omega))) Z (Lan Z Z (have S91:=S16.sel [0,7] (by decide);⟨k+1,left - szV o.v,_,_,_,by omega,⟨⟨by omega,by omega,by omega,hrest,by rw [eU_ ho,enc_cp hcp, ← hm];simp [cO_,ByteArray.size],by have:=bF_ o.fr.toNat (by omega);have:=bF_ o.n.toNat (by omega);simp [cO_];omega⟩,S91⟩,?_⟩)))))))⟩)⟩;exact (Sc Z (Sub.cons Z Z (Sub.cons Z Z (Sub.nil _))))
     ·
      refine n_ Tryz.func64 Z Z (dB_ o.fr.toNat w11 (by omega)) Z Z ?_;rintro e17 w17 ⟨v17,rfl,l17,A42,m42,c42,rfl,O17⟩;refine ⟨_,rfl,(have S17:=S11.adopt l17 O17;⟨S17.blk 2 Z,?_⟩)⟩;refine jO_ 1 9 (by kernel_rfl) Z Z ?_ ?_
      ·
       refine ah_ [_] ba_ zz5 S17 Z Z Z Z Z Z Z Z fun b18 w18 S18=>⟨S18.blk 2 Z,(aX_ 9 (by kernel_rfl) Z (n_ Tryz.func64 Z Z (dB_ o.n.toNat w18 (by omega)) Z Z ?_))⟩;rintro e19 w19 ⟨v19,rfl,l19,A46,m46,c46,rfl,O19⟩;refine ⟨_,rfl,(have S19:=S18.adopt l19 O19;⟨S19.blk 2 Z,(aX_ 10 (by kernel_rfl) Z (ah_ [_,_,_,_] cS_ eW_ S19 Z Z Z Z Z Z Z Z fun b20 w20 S20=>⟨S20.blk 2 Z,(aX_ 11 (by kernel_rfl) Z (n_ Tryz.func60 Z Z (je_ _ 4 4 [⟨A1,m.length,c1,m⟩,⟨_,1,1,[1]⟩,⟨A42,m42,c42,(vr o.fr.toNat)⟩,⟨A46,m46,c46,(vr o.n.toNat)⟩] w20 (S20.row 6 Z) (okP.cons (p:=⟨A1,m.length,c1,m⟩) (S20.row 1 Z) (by show m.length≤100000;omega) (okP.cons (p:=⟨_,1,1,[1]⟩) (S20.row 4 Z) (by show 1≤100000;omega) (okP.cons (p:=⟨A42,m42,c42,(vr o.fr.toNat)⟩) (S20.row 3 Z) (by have h9:=(S20.row 3 Z).lenb;show m42≤100000;omega) (okP.cons (p:=⟨A46,m46,c46,(vr o.n.toNat)⟩) (S20.row 5 Z) (by have h9:=(S20.row 5 Z).lenb;show m46≤100000;omega) (okP.nil _ _))))) (by omega)) Z Z ?_))⟩))⟩)⟩;rintro e21 w21 ⟨v21,rfl,l21,A48,c48,rfl,O21⟩;refine ⟨_,rfl,(have S21:=S20.adopt l21 O21;⟨S21.blk 2 Z,(aj_ 12 (by kernel_rfl) Z (J_ Z) Z (cB_ (by kernel_rfl) (hK11 _ _ (Rm Z Z (L_y (w_ Z Z (z_ (by omega))) Z (Lan Z Z (have S91:=S21.sel [0,7] (by decide);⟨k+1,left - szV o.v,_,_,_,by omega,⟨⟨by omega,by omega,by omega,hrest,by rw [eU_ ho,enc_cp hcp, ← hm];simp [cO_,ByteArray.size],by have:=bF_ o.fr.toNat (by omega);have:=bF_ o.n.toNat (by omega);simp [cO_];omega⟩,S91⟩,?_⟩)))))))⟩)⟩;exact (Sc Z (Sub.cons Z Z (Sub.cons Z Z (Sub.nil _))))
      ·
       refine n_ Tryz.func64 Z Z (dB_ o.n.toNat w17 (by omega)) Z Z ?_;rintro e22 w22 ⟨v22,rfl,l22,A46,m46,c46,rfl,O22⟩;refine ⟨_,rfl,(have S22:=S17.adopt l22 O22;⟨S22.blk 2 Z,(aX_ 1 (by kernel_rfl) Z (ah_ [_] ba_ zz5 S22 Z Z Z Z Z Z Z Z fun b23 w23 S23=>⟨S23.blk 2 Z,(aX_ 10 (by kernel_rfl) Z (ah_ [_,_,_,_] cS_ eW_ S23 Z Z Z Z Z Z Z Z fun b24 w24 S24=>⟨S24.blk 2 Z,(aX_ 11 (by kernel_rfl) Z (n_ Tryz.func60 Z Z (je_ _ 4 4 [⟨A1,m.length,c1,m⟩,⟨_,1,1,[1]⟩,⟨A42,m42,c42,(vr o.fr.toNat)⟩,⟨A46,m46,c46,(vr o.n.toNat)⟩] w24 (S24.row 6 Z) (okP.cons (p:=⟨A1,m.length,c1,m⟩) (S24.row 1 Z) (by show m.length≤100000;omega) (okP.cons (p:=⟨_,1,1,[1]⟩) (S24.row 5 Z) (by show 1≤100000;omega) (okP.cons (p:=⟨A42,m42,c42,(vr o.fr.toNat)⟩) (S24.row 3 Z) (by have h9:=(S24.row 3 Z).lenb;show m42≤100000;omega) (okP.cons (p:=⟨A46,m46,c46,(vr o.n.toNat)⟩) (S24.row 4 Z) (by have h9:=(S24.row 4 Z).lenb;show m46≤100000;omega) (okP.nil _ _))))) (by omega)) Z Z ?_))⟩))⟩))⟩)⟩;rintro e25 w25 ⟨v25,rfl,l25,A48,c48,rfl,O25⟩;refine ⟨_,rfl,(have S25:=S24.adopt l25 O25;⟨S25.blk 2 Z,(aj_ 12 (by kernel_rfl) Z (J_ Z) Z (cB_ (by kernel_rfl) (hK11 _ _ (Rm Z Z (L_y (w_ Z Z (z_ (by omega))) Z (Lan Z Z (have S91:=S25.sel [0,7] (by decide);⟨k+1,left - szV o.v,_,_,_,by omega,⟨⟨by omega,by omega,by omega,hrest,by rw [eU_ ho,enc_cp hcp, ← hm];simp [cO_,ByteArray.size],by have:=bF_ o.fr.toNat (by omega);have:=bF_ o.n.toNat (by omega);simp [cO_];omega⟩,S91⟩,?_⟩)))))))⟩)⟩;exact (Sc Z (Sub.cons Z Z (Sub.cons Z Z (Sub.nil _))))
    ·
     have hcp:o.cp=false:=h36;obtain ⟨g1,g2⟩:=rt_new hrt hcp;have v3:=bF_ o.p.l.length (by omega);refine Rm Z Z (L_o (ah_ [_] ba_ zz5 S10 Z Z Z Z Z Z Z Z fun b26 w26 S26=>L_y (g_ 3 Tryz.underlying190 Z br_ Z Z Z) Z (L_y (t_ Tryz.underlying22 Z Z (((S26.blk 2 Z).cell _).trans (by rfl))) Z ?_)));refine L_y (co_ Tryz.underlying22 Tryz.underlying5 Tryz.underlying9 Z (S26.rd hop)) Z (L_o (n_ Tryz.func125 Z Z (reftext ⟨o.p.l.toArray⟩ w26 (by simp [ByteArray.size];omega)) Z Z ?_));rintro e27 w27 ⟨v27,rfl,l27,A54,m54,c54,rfl,O27⟩;refine ⟨_,rfl,(have S27:=S26.adopt l27 O27;L_o (ah_ [_,_,_] cS_ eW_ S27 Z Z Z Z Z Z Z Z fun b28 w28 S28=>L_o (n_ Tryz.func60 Z Z (je_ _ 3 3 [⟨A1,m.length,c1,m⟩,⟨_,1,1,[0]⟩,⟨A54,m54,c54,(vr (ByteArray.size ⟨o.p.l.toArray⟩)++(⟨o.p.l.toArray⟩:ByteArray).data.toList)⟩] w28 (S28.row 5 Z) (okP.cons (p:=⟨A1,m.length,c1,m⟩) (S28.row 1 Z) (by show m.length≤100000;omega) (okP.cons (p:=⟨_,1,1,[0]⟩) (S28.row 3 Z) (by show 1≤100000;omega) (okP.cons (p:=⟨A54,m54,c54,(vr (ByteArray.size ⟨o.p.l.toArray⟩)++(⟨o.p.l.toArray⟩:ByteArray).data.toList)⟩) (S28.row 4 Z) (by have h9:=(S28.row 4 Z).lenb;simp [ByteArray.size] at h9;show m54≤100000;omega) (okP.nil _ _)))) (by omega)) Z Z ?_)))⟩;rintro e29 w29 ⟨v29,rfl,l29,A56,c56,rfl,O29⟩;refine ⟨_,rfl,(have S29:=S28.adopt l29 O29;Lan Z Z (hK11 _ _ (Rm Z Z (L_y (w_ Z Z (z_ (by omega))) Z (Lan Z Z (have S91:=S29.sel [0,6] (by decide);⟨k+1,left - szV o.v,_,_,_,by omega,⟨⟨by omega,by omega,by omega,hrest,by rw [eU_ ho,enc_new hcp, ← hm];simp [cO_,ByteArray.size],by have:=bF_ o.p.l.length (by omega);simp [cO_,ByteArray.size];omega⟩,S91⟩,?_⟩))))))⟩;exact (Sc Z (Sub.cons Z Z (Sub.cons Z Z (Sub.nil _))))
   ·
    refine K_ (hK7 _ _ (a_ fun K14 hK14=>Rm Z Z (La Z Z (Lan Z Z (hK14 _ _ (l_ (ur (bj_ Z Z Z ?_))))))));first | exact ⟨_,rfl,S8.like0,none,0,by rw [er_ h11];rfl,by rw [er_ h11];exact World.ownsRow_nil _ _ _ _⟩ | (have hke:k=n:=by omega);subst hke;rw [List.take_of_length_le (by omega)] at hm;subst hm;exact ⟨_,rfl,S8.like0,_,_,by rw [ez_ h110],by rw [ez_ h110];exact S8.own 1 Z⟩
end Del
namespace Del
open Go.RowKit Zk Zx Oct
end Del
namespace Del
open Go.RowKit Zk Zx Oct
structure RO where
  o:OV
  p:Nat
  q:Nat
  e:Int
def zO:OV:=⟨false,0,0,[]⟩
def zP:OP:=⟨false,0,0,p0⟩
def rdN (d:List UInt8) (p q:Nat) (base f:Int) (cp:Bool):RO :=
  if (vaN d p q 4000).2.2≠0 then ⟨zO,(vaN d p q 4000).2.1,(vaN d p q 4000).2.2,(vaN d p q 4000).2.2⟩
  else if (vaN d p q 4000).1=0 then ⟨zO,(vaN d p q 4000).2.1,0,12⟩
  else if cp then (if base - ((vaN d p q 4000).1:Int) < f then ⟨zO,(vaN d p q 4000).2.1,0,21⟩ else ⟨⟨true,f,((vaN d p q 4000).1:Int),[]⟩,(vaN d p q 4000).2.1,0,0⟩)
  else ⟨⟨false,0,0,rnL d (vaN d p q 4000).2.1 0 ((vaN d p q 4000).1:Int)⟩,rnP d (vaN d p q 4000).2.1 0 ((vaN d p q 4000).1:Int),rnE d (vaN d p q 4000).2.1 0 ((vaN d p q 4000).1:Int),(rnE d (vaN d p q 4000).2.1 0 ((vaN d p q 4000).1:Int):Int)⟩
def rdO (d:List UInt8) (p:Nat) (x:UInt8) (base:Int):RO :=
  if 1 < x.toNat then ⟨zO,p+1,0,19⟩
  else if x.toNat=1 then rdN d (vaN d (p+1) 0 4000).2.1 (vaN d (p+1) 0 4000).2.2 base ((vaN d (p+1) 0 4000).1:Int) true
  else rdN d (p+1) 0 base 0 false
section
variable {d : List UInt8} {p q : Nat} {base f : Int} {x : UInt8} {cp : Bool}
theorem rdO_bad (h:1 < x.toNat):rdO d p x base=⟨zO,p+1,0,19⟩:=by unfold rdO;rw [if_pos h]
theorem hN_ (h:x.toNat=1):rdO d p x base=rdN d (vaN d (p+1) 0 4000).2.1 (vaN d (p+1) 0 4000).2.2 base ((vaN d (p+1) 0 4000).1:Int) true:=by unfold rdO;rw [if_neg (by omega),if_pos h]
theorem hj_ (h:¬ 1 < x.toNat) (h2:¬ x.toNat=1):rdO d p x base=rdN d (p+1) 0 base 0 false:=by unfold rdO;rw [if_neg h,if_neg h2]
theorem kG_ (h:(vaN d p q 4000).2.2≠0):rdN d p q base f cp=⟨zO,(vaN d p q 4000).2.1,(vaN d p q 4000).2.2,(vaN d p q 4000).2.2⟩:=by unfold rdN;rw [if_pos h]
theorem jj_ (h:(vaN d p q 4000).2.2=0) (h2:(vaN d p q 4000).1=0):rdN d p q base f cp=⟨zO,(vaN d p q 4000).2.1,0,12⟩:=by unfold rdN;rw [if_neg (by omega),if_pos h2]
theorem rdN_far (h:(vaN d p q 4000).2.2=0) (h2:¬ (vaN d p q 4000).1=0) (h3:base - ((vaN d p q 4000).1:Int) < f):rdN d p q base f true=⟨zO,(vaN d p q 4000).2.1,0,21⟩:=by unfold rdN;rw [if_neg (by omega),if_neg h2,if_pos Z,if_pos h3]
theorem rdN_cp (h:(vaN d p q 4000).2.2=0) (h2:¬ (vaN d p q 4000).1=0) (h3:¬ base - ((vaN d p q 4000).1:Int) < f):rdN d p q base f true=⟨⟨true,f,((vaN d p q 4000).1:Int),[]⟩,(vaN d p q 4000).2.1,0,0⟩:=by unfold rdN;rw [if_neg (by omega),if_neg h2,if_pos Z,if_neg h3]
theorem kF_ (h:(vaN d p q 4000).2.2=0) (h2:¬ (vaN d p q 4000).1=0):rdN d p q base f false=⟨⟨false,0,0,rnL d (vaN d p q 4000).2.1 0 ((vaN d p q 4000).1:Int)⟩,rnP d (vaN d p q 4000).2.1 0 ((vaN d p q 4000).1:Int),rnE d (vaN d p q 4000).2.1 0 ((vaN d p q 4000).1:Int),(rnE d (vaN d p q 4000).2.1 0 ((vaN d p q 4000).1:Int):Int)⟩:=by unfold rdN;rw [if_neg (by omega),if_neg h2,if_neg Bool.false_ne_true]
theorem hc_ (d:List UInt8) (p q m:Nat):(vaN d p q m).1≤m:=by
  unfold vaN
  repeat' split
  all_goals simp only;omega
end
theorem rnP_le (l:List UInt8) (p q:Nat) (m:Int) (hp:p≤l.length):rnP l p q m≤l.length:=by
  unfold rnP rwP
  split
  · exact hp
  · split
    · exact tkP_le l p _ hp
    · exact hp
def rowP (p:Part):Res:=row 5 1 p.A p.n p.c (bL p.l)
theorem dV_ (w:World):(rowP p0).holds w:=World.ownsRow_nil _ _ _ _
theorem gN_ {i:Nat} {Q:Prop} (h:(rowP p0).dom i):Q:=by simp [rowP,p0,row,Value.ownBlock] at h
theorem rbyte1 (g:Nat) (A:Option Addr) (n c:Nat) (l:List UInt8) (p:Nat) (x:UInt8) (w0:World) (hw:(rdr g A n c l p 0).holds w0) (hx:l[p]?=some x) (hn62:n≤4611686018427387904) :
    Calls Tryz.prog 127 #[.pointer (some ⟨g,0,none⟩)] w0 fun e w'=>∃ u,e=.returned u∧u=.int .u8 (x.toNat:Int)∧Turned w0 w' (rdr g A n c l p 0) (rdr g A n c l (p+1) 0):=by
  have hp:=(List.getElem?_eq_some_iff.1 hx).1
  refine (rbyte g A n c l p 0 w0 hw (by omega) hn62).mono fun e w' ⟨u,h1,h2,h3⟩=>⟨u,h1,?_,?_⟩
  · obtain ⟨y,hy,htk,_⟩:=tk_one (show 1≤l.length - p by omega)
    rw [hx] at hy
    obtain rfl:=Option.some.inj hy
    rw [h2,rwL,if_pos Z,htk]
    simp [be]
  · exact Rdd.turned h3 (by rw [rwP,if_pos Z,tkP,if_pos (by omega)]) (by rw [rwE,if_pos Z,iX_ (by omega)])
theorem rop (g:Nat) (A:Option Addr) (n c:Nat) (l:List UInt8) (p:Nat) (x:UInt8) (base:Int) (w0:World) (hw:(rdr g A n c l p 0).holds w0) (hx:l[p]?=some x) (hn5:n≤10000) (hb:0≤base∧base≤4000) :
    Calls Tryz.prog 132 #[.pointer (some ⟨g,0,none⟩),.int .i64 base] w0 fun e w'=>∃ u,e=.returned u∧Turned w0 w' (rdr g A n c l p 0) (rdr g A n c l (rdO l p x base).p (rdO l p x base).q)∧∃ o:OP,u=.tuple #[.agg (opf o).toArray,.int .i64 (rdO l p x base).e]∧o.v=(rdO l p x base).o∧(rowP o.p).holds w'∧∀ i,(rowP o.p).dom i→w0.heap.size≤i:=by
 refine v_ (env:=[(0,.pointer (some ⟨g,0,none⟩)),(1,.int .i64 base)]) [.pointer (some ⟨g,0,none⟩),.int .i64 base] Tryz.func132 Z Tryz.ntmps132 Z Z ?_;have hnl:=ck_ hw;have hnc:=aO_ hw.2;have hpl:=(List.getElem?_eq_some_iff.1 hx).1;have hxl:=x.toNat_lt;have S0:=St.borrow1 (rdr g A n c l p 0) hw (dC_ hw);refine a_ fun K1 hK1=>b_ (L_o (H_ gU_ S0 Z fun b1 w1 hb1 S1=>Lan Z Z (hK1 _ _ (a_ fun K2 hK2=>Rm Z Z (L_o (n_ Tryz.func127 Z Z (rbyte1 g A n c l p x w1 (S1.get 0 Z) hx (by omega)) Z Z ?_))))));rintro e2 w2 ⟨v2,rfl,rfl,T2⟩;refine ⟨_,rfl,(have S2:=S1.turn 0 Z T2;Lan Z Z (hK2 _ _ (a_ fun K3 hK3=>a_ fun K4 hK4=>Rm Z Z (L_y (Z_ Z Z) Z (f_ (hK4 _ _ ?_))))))⟩;refine o_ Z (fun h13=>?_) (fun h13=>?_)
 ·
  refine a_ fun K5 hK5=>b_ (L_y (C_ Z (show _=some #[Value.bool false,Value.int .i64 0,Value.int .i64 0,Value.slice none 0 0] by kernel_rfl)) Z (L_o (G_ S2 1 Z Z Z bq_ Z (by first | exact bp_ _ | (intro u hu;simp at hu;rcases hu with rfl | rfl | rfl | rfl <;> rfl)) fun w3 S3=>?_)));refine Lan Z Z (hK5 _ _ (l_ (ur (af_ Z Z Z (S3.blk 1 Z) Tryz.underlying221 Z (by exact bq_) ?_))));rw [rdO_bad (by omega)];exact ⟨_,rfl,S3.turned1 0 Z,zP,rfl,rfl,dV_ _,fun i hi=>gN_ hi⟩
 ·
  refine j_ (hK3 _ _ (a_ fun K6 hK6=>Rm Z Z (L_y (am_ Z Z) Z (L_y (C_ Z (show _=some #[Value.bool (decide ((x.toNat:Int)=1)),Value.int .i64 0,Value.int .i64 0,Value.slice none 0 0] by kernel_rfl)) Z ?_))));refine L_o (H_ gU_ S2 Z fun b4 w4 hb4 S4=>L_o (G_ S4 2 Z Z Z bq_ Z (by intro u hu;simp at hu;rcases hu with rfl | rfl | rfl | rfl <;> rfl) fun w5 S5=>?_));refine f_ (hK6 _ _ (a_ fun K7 hK7=>a_ fun K8 hK8=>b_ (L_y (g_ 0 Tryz.underlying221 Z sz4 Z Z Z) Z (L_y (t_ Tryz.underlying4 Z Z (((S5.blk 2 Z).cell _).trans (by rfl))) Z ?_))));refine f_ (hK8 _ _ ?_);refine o_ Z (fun h19=>?_) (fun h19=>?_)
  ·
   have hx1:x.toNat=1:=by omega
   rw [decide_eq_true (show ((x.toNat:Nat):Int)=1 by omega)] at S5;refine Rm Z Z (L_o (n_ Tryz.func129 Z Z (rvar g A n c l (p+1) 0 4000 w5 (S5.get 0 Z) (by omega) (by omega)) Z Z ?_));rintro e6 w6 ⟨v6,rfl,rfl,T6⟩;refine ⟨_,rfl,(have S6:=S5.turn 0 Z T6;have hF:=dl_ l (p+1) 0 4000 (by omega);have hFm:=hc_ l (p+1) 0 4000;L_y (P_ di_ Tryz.underlying3 Z (z_ (by omega))) Z (L_y (g_ 1 Tryz.underlying221 Z sz3 Z Z Z) Z (L_o (ac_ S6 2 Z Z Z Z sz3 (by simp;done) fun w7 S7=>?_))))⟩;refine f_ (hK7 _ _ (a_ fun K9 hK9=>Rm Z Z (L_o (n_ Tryz.func129 Z Z (rvar g A n c l _ _ 4000 w7 (S7.get 0 Z) (by omega) (by omega)) Z Z ?_))));rintro e8 w8 ⟨v8,rfl,rfl,T8⟩;refine ⟨_,rfl,(have S8:=S7.turn 0 Z T8;have hG:=dl_ l (vaN l (p+1) 0 4000).2.1 (vaN l (p+1) 0 4000).2.2 4000 (by omega);have hGm:=hc_ l (vaN l (p+1) 0 4000).2.1 (vaN l (p+1) 0 4000).2.2 4000;L_y (P_ di_ Tryz.underlying3 Z (z_ (by omega))) Z (Lan Z Z (hK9 _ _ (a_ fun K10 hK10=>a_ fun K11 hK11=>Rm Z Z (L_o (n_ Tryz.func128 Z Z (rerr g A n c l _ _ w8 (S8.get 0 Z) (by omega)) Z Z ?_))))))⟩;rintro e9 w9 ⟨v9,rfl,l9,rfl⟩;refine ⟨_,rfl,(have S9:=S8.like l9;Lan Z Z (hK11 _ _ (a_ fun K12 hK12=>Rm Z Z (L_y (ab_ Z Z) Z (f_ (hK12 _ _ ?_))))))⟩;refine o_ Z (fun h30=>?_) (fun h30=>?_)
   ·
    refine a_ fun K13 hK13=>b_ (L_y (C_ Z (show _=some #[Value.bool false,Value.int .i64 0,Value.int .i64 0,Value.slice none 0 0] by kernel_rfl)) Z (Lm Z Z (L_o (G_ S9 1 Z Z Z bq_ Z (by first | exact bp_ _ | (intro u hu;simp at hu;rcases hu with rfl | rfl | rfl | rfl <;> rfl)) fun w10 S10=>?_))));refine Lan Z Z (hK13 _ _ (l_ (ur (af_ Z Z Z (S10.blk 1 Z) Tryz.underlying221 Z (by exact bq_) ?_))));rw [hN_ hx1,kG_ (by omega)];exact ⟨_,rfl,S10.turned1 0 Z,zP,rfl,rfl,dV_ _,fun i hi=>gN_ hi⟩
   ·
    have hq0:(vaN l (vaN l (p+1) 0 4000).2.1 (vaN l (p+1) 0 4000).2.2 4000).2.2=0:=by omega
    rw [hq0] at S9;refine j_ (hK10 _ _ (a_ fun K14 hK14=>a_ fun K15 hK15=>Rm Z Z (L_y (am_ Z Z) Z (f_ (hK15 _ _ ?_)))));refine o_ Z (fun h34=>?_) (fun h34=>?_)
    ·
     refine a_ fun K16 hK16=>b_ (L_y (C_ Z (show _=some #[Value.bool false,Value.int .i64 0,Value.int .i64 0,Value.slice none 0 0] by kernel_rfl)) Z (L_o (G_ S9 1 Z Z Z bq_ Z (by first | exact bp_ _ | (intro u hu;simp at hu;rcases hu with rfl | rfl | rfl | rfl <;> rfl)) fun w11 S11=>?_)));refine Lan Z Z (hK16 _ _ (l_ (ur (af_ Z Z Z (S11.blk 1 Z) Tryz.underlying221 Z (by exact bq_) ?_))));rw [hN_ hx1,jj_ hq0 (by omega)];exact ⟨_,rfl,S11.turned1 0 Z,zP,rfl,rfl,dV_ _,fun i hi=>gN_ hi⟩
    ·
     refine j_ (hK14 _ _ (a_ fun K17 hK17=>a_ fun K18 hK18=>b_ (L_y (g_ 0 Tryz.underlying221 Z sz4 Z Z Z) Z (L_y (t_ Tryz.underlying4 Z Z (((S9.blk 2 Z).cell _).trans (by rfl))) Z ?_))));refine L_y ((by first | exact aA_ Z | exact aZ_ Z)) Z ?_;refine f_ (hK18 _ _ (aW_ Z (j_ (hK17 _ _ (a_ fun K19 hK19=>Rm Z Z (L_y (g_ 2 Tryz.underlying221 Z sz3 Z Z Z) Z (L_o (ac_ S9 2 Z Z Z Z sz3 (by simp;done) fun w12 S12=>?_))))))));refine f_ (hK19 _ _ (a_ fun K20 hK20=>a_ fun K21 hK21=>b_ (L_y (g_ 1 Tryz.underlying221 Z sz3 Z Z Z) Z (L_y (t_ Tryz.underlying3 Z Z (((S12.blk 2 Z).cell _).trans (by rfl))) Z ?_))));refine Lm Z Z (Lm Z Z (L_y (ax_ Z Z (z_ (by omega))) Z (L_y (Z_ Z Z) Z (f_ (hK21 _ _ ?_)))));refine o_ Z (fun h53=>?_) (fun h53=>?_)
     ·
      refine a_ fun K22 hK22=>b_ (L_y (C_ Z (show _=some #[Value.bool false,Value.int .i64 0,Value.int .i64 0,Value.slice none 0 0] by kernel_rfl)) Z (L_o (G_ S12 1 Z Z Z bq_ Z (by first | exact bp_ _ | (intro u hu;simp at hu;rcases hu with rfl | rfl | rfl | rfl <;> rfl)) fun w13 S13=>?_)));refine Lan Z Z (hK22 _ _ (l_ (ur (af_ Z Z Z (S13.blk 1 Z) Tryz.underlying221 Z (by exact bq_) ?_))));rw [hN_ hx1,rdN_far hq0 (by omega) (by omega)];exact ⟨_,rfl,S13.turned1 0 Z,zP,rfl,rfl,dV_ _,fun i hi=>gN_ hi⟩
     ·
      refine j_ (hK20 _ _ (a_ fun K23 hK23=>b_ (L_y (Y_ Tryz.underlying221 Z bq_ Z (S12.blk 2 Z) (show _=(opf ⟨true,((vaN l (p+1) 0 4000).1:Int),((vaN l (vaN l (p+1) 0 4000).2.1 (vaN l (p+1) 0 4000).2.2 4000).1:Int),p0⟩)∧_ from ⟨rfl,rfl⟩)) Z (L_o (G_ S12 1 Z Z Z bq_ Z (by first | exact bp_ _ | (intro u hu;simp at hu;rcases hu with rfl | rfl | rfl | rfl <;> rfl)) fun w14 S14=>?_)))));refine Lan Z Z (hK23 _ _ (l_ (ur (af_ Z Z Z (S14.blk 1 Z) Tryz.underlying221 Z (by exact bq_) ?_))));rw [hN_ hx1,rdN_cp hq0 (by omega) (by omega)];exact ⟨_,rfl,S14.turned1 0 Z,⟨true,((vaN l (p+1) 0 4000).1:Int),_,p0⟩,rfl,rfl,dV_ _,fun i hi=>gN_ hi⟩
  ·
   have hx1:¬ x.toNat=1:=by omega
   rw [decide_eq_false (show ¬ ((x.toNat:Nat):Int)=1 by omega)] at S5;refine j_ (hK7 _ _ (a_ fun K24 hK24=>Rm Z Z (L_o (n_ Tryz.func129 Z Z (rvar g A n c l _ _ 4000 w5 (S5.get 0 Z) (by omega) (by omega)) Z Z ?_))));rintro e15 w15 ⟨v15,rfl,rfl,T15⟩;refine ⟨_,rfl,(have S15:=S5.turn 0 Z T15;have hG:=dl_ l (p+1) 0 4000 (by omega);have hGm:=hc_ l (p+1) 0 4000;L_y (P_ di_ Tryz.underlying3 Z (z_ (by omega))) Z (Lan Z Z (hK24 _ _ (a_ fun K25 hK25=>a_ fun K26 hK26=>Rm Z Z (L_o (n_ Tryz.func128 Z Z (rerr g A n c l _ _ w15 (S15.get 0 Z) (by omega)) Z Z ?_))))))⟩;rintro e16 w16 ⟨v16,rfl,l16,rfl⟩;refine ⟨_,rfl,(have S16:=S15.like l16;Lan Z Z (hK26 _ _ (a_ fun K27 hK27=>Rm Z Z (L_y (ab_ Z Z) Z (f_ (hK27 _ _ ?_))))))⟩;refine o_ Z (fun h30=>?_) (fun h30=>?_)
   ·
    refine a_ fun K28 hK28=>b_ (L_y (C_ Z (show _=some #[Value.bool false,Value.int .i64 0,Value.int .i64 0,Value.slice none 0 0] by kernel_rfl)) Z (Lm Z Z (L_o (G_ S16 1 Z Z Z bq_ Z (by first | exact bp_ _ | (intro u hu;simp at hu;rcases hu with rfl | rfl | rfl | rfl <;> rfl)) fun w17 S17=>?_))));refine Lan Z Z (hK28 _ _ (l_ (ur (af_ Z Z Z (S17.blk 1 Z) Tryz.underlying221 Z (by exact bq_) ?_))));rw [hj_ (by omega) (by omega),kG_ (by omega)];exact ⟨_,rfl,S17.turned1 0 Z,zP,rfl,rfl,dV_ _,fun i hi=>gN_ hi⟩
   ·
    have hq0:(vaN l (p+1) 0 4000).2.2=0:=by omega
    rw [hq0] at S16;refine j_ (hK25 _ _ (a_ fun K29 hK29=>a_ fun K30 hK30=>Rm Z Z (L_y (am_ Z Z) Z (f_ (hK30 _ _ ?_)))));refine o_ Z (fun h34=>?_) (fun h34=>?_)
    ·
     refine a_ fun K31 hK31=>b_ (L_y (C_ Z (show _=some #[Value.bool false,Value.int .i64 0,Value.int .i64 0,Value.slice none 0 0] by kernel_rfl)) Z (L_o (G_ S16 1 Z Z Z bq_ Z (by first | exact bp_ _ | (intro u hu;simp at hu;rcases hu with rfl | rfl | rfl | rfl <;> rfl)) fun w18 S18=>?_)));refine Lan Z Z (hK31 _ _ (l_ (ur (af_ Z Z Z (S18.blk 1 Z) Tryz.underlying221 Z (by exact bq_) ?_))));rw [hj_ (by omega) (by omega),jj_ hq0 (by omega)];exact ⟨_,rfl,S18.turned1 0 Z,zP,rfl,rfl,dV_ _,fun i hi=>gN_ hi⟩
    ·
     refine j_ (hK29 _ _ (a_ fun K32 hK32=>a_ fun K33 hK33=>b_ (L_y (g_ 0 Tryz.underlying221 Z sz4 Z Z Z) Z (L_y (t_ Tryz.underlying4 Z Z (((S16.blk 2 Z).cell _).trans (by rfl))) Z ?_))));refine L_y ((by first | exact aA_ Z | exact aZ_ Z)) Z ?_;refine f_ (hK33 _ _ (W_ Z (a_ fun K34 hK34=>Rm Z Z (Lm Z Z (L_o (n_ Tryz.func104 Z Z (rraw g A n c l _ _ _ w16 (S16.get 0 Z) (by omega) (by omega) (by omega)) Z Z ?_))))));rintro e19 w19 ⟨v19,rfl,T19,B7,d7,rfl,hr19,hd19⟩;refine ⟨_,rfl,(have S19:=S16.turn 0 Z T19;have S20:=St.newT S16 0 Z T19 (fun i hi=>hi) hr19 (fun i hi=>⟨hd19 i hi,(World.ownsRow.lt hr19 i hi).2⟩);have hdR:=fun i hi=>Nat.le_trans S16.size (hd19 i hi);have hRP:=rnP_le l (vaN l (p+1) 0 4000).2.1 0 ((vaN l (p+1) 0 4000).1:Int) (by omega);L_y (g_ 3 Tryz.underlying221 Z br_ Z Z Z) Z (L_o (ac_ S20 2 Z Z Z Z br_ (by simp;done) fun w21 S21=>?_)))⟩;refine f_ (hK34 _ _ (a_ fun K35 hK35=>dy_ [0,1,2] 3 [(0,1),(1,1),(2,2),(3,3),(4,3)] aS_ (by kernel_rfl) fun w22 l22=>have S22:=S21.like l22;ga_ (Like w22) (Like.refl _) (Q_ Z (Y_ Tryz.underlying221 Z bq_ Z (S22.blk 2 Z) (show _=(opf ⟨false,0,0,⟨B7,(rnL l (vaN l (p+1) 0 4000).2.1 0 ((vaN l (p+1) 0 4000).1:Int)).length,d7,rnL l (vaN l (p+1) 0 4000).2.1 0 ((vaN l (p+1) 0 4000).1:Int)⟩⟩)∧_ from ⟨rfl,rfl⟩)) Z (Q_ Z (p_ Z) Z (fF_ Z (n_ Tryz.func128 Z Z (rerr g A n c l _ _ w22 (S22.get 0 Z) (by omega)) Z Z ?_))))));rintro e23 w23 ⟨v23,rfl,l23,rfl⟩;refine ⟨_,rfl,l23,(have S23:=S22.like l23;have q23:=l23;fZ_ Z (G_ S23 1 Z Z Z bq_ Z (by first | exact bp_ _ | (intro u hu;simp at hu;rcases hu with rfl | rfl | rfl | rfl <;> rfl)) fun w24 S24=>?_))⟩;refine dx_ Z (J_ Z) Z (cA_ (hK35 _ _ (l_ (ur (af_ Z Z Z (S24.blk 1 Z) Tryz.underlying221 Z (by exact bq_) ?_)))));rw [hj_ (by omega) (by omega),kF_ hq0 (by omega)];exact ⟨_,rfl,S24.turned1 0 Z,⟨false,0,0,⟨B7,_,d7,rnL l (vaN l (p+1) 0 4000).2.1 0 ((vaN l (p+1) 0 4000).1:Int)⟩⟩,rfl,rfl,S24.get 3 Z,fun i hi=>hdR i hi⟩
end Del
namespace Del
open Go.RowKit Zk Zx Oct
theorem vaN_ge (d:List UInt8) (p q m:Nat):p≤(vaN d p q m).2.1:=by
  unfold vaN
  repeat' split
  all_goals simp only;omega
theorem rdN_ok {d:List UInt8} {p q:Nat} {base f:Int} {cp:Bool} (hp:p≤d.length) (h:(rdN d p q base f cp).e=0):(rdN d p q base f cp).q=0∧p≤(rdN d p q base f cp).p∧(rdN d p q base f cp).p≤d.length∧1≤szV (rdN d p q base f cp).o:=by
  have hg:=vaN_ge d p q 4000
  have hl:=dl_ d p q 4000 hp
  by_cases h1:(vaN d p q 4000).2.2=0
  · by_cases h2:(vaN d p q 4000).1=0
    · rw [jj_ h1 h2] at h
      exact absurd h (by show ¬ (12:Int)=0;decide)
    · cases cp with
      | true =>
        by_cases h3:base - ((vaN d p q 4000).1:Int) < f
        · rw [rdN_far h1 h2 h3] at h
          exact absurd h (by show ¬ (21:Int)=0;decide)
        · rw [rdN_cp h1 h2 h3]
          exact ⟨rfl,hg,hl,by show (1:Int)≤((vaN d p q 4000).1:Int);omega⟩
      | false =>
        rw [kF_ h1 h2] at h ⊢
        have h':rnE d (vaN d p q 4000).2.1 0 ((vaN d p q 4000).1:Int)=0:=by
          have:(rnE d (vaN d p q 4000).2.1 0 ((vaN d p q 4000).1:Int):Int)=0:=h
          omega
        by_cases h4:(vaN d p q 4000).1≤d.length - (vaN d p q 4000).2.1
        · obtain ⟨e1,e2,e3⟩:=rn_ok h4
          rw [e1,e2,e3]
          refine ⟨rfl,(by show p≤_+_;omega),(by show _+_≤d.length;omega),?_⟩
          show (1:Int)≤((((d.drop (vaN d p q 4000).2.1).take (vaN d p q 4000).1).length:Nat):Int)
          rw [List.length_take,List.length_drop]
          omega
        · obtain ⟨e1,e2,e3⟩:=rn_no h4
          rw [e3] at h'
          exact absurd h' (by decide)
  · rw [kG_ h1] at h
    have:((vaN d p q 4000).2.2:Int)=0:=h
    omega
theorem rdO_ok {d:List UInt8} {p:Nat} {x:UInt8} {base:Int} (hx:d[p]?=some x) (h:(rdO d p x base).e=0):(rdO d p x base).q=0∧p < (rdO d p x base).p∧(rdO d p x base).p≤d.length∧1≤szV (rdO d p x base).o:=by
  have hp:=(List.getElem?_eq_some_iff.1 hx).1
  by_cases h1:1 < x.toNat
  · rw [rdO_bad h1] at h
    exact absurd h (by show ¬ (19:Int)=0;decide)
  · by_cases h2:x.toNat=1
    · rw [hN_ h2] at h ⊢
      have hg:=vaN_ge d (p+1) 0 4000
      obtain ⟨e1,e2,e3,e4⟩:=rdN_ok (dl_ d (p+1) 0 4000 (by omega)) h
      exact ⟨e1,by omega,e3,e4⟩
    · rw [hj_ h1 h2] at h ⊢
      obtain ⟨e1,e2,e3,e4⟩:=rdN_ok (by omega) h
      exact ⟨e1,by omega,e3,e4⟩
def rdL (d:List UInt8) (base:Int):Nat→Nat→Int→List OV × Int
  | 0,_,left=>([],if 0 < left then 10 else 0)
  | f + 1,p,left=>match d[p]? with
    | none=>([],if 0 < left then 10 else 0)
    | some x=>if (rdO d p x base).e≠0 then ([],(rdO d p x base).e) else if left < szV (rdO d p x base).o then ([],3)
      else ((rdO d p x base).o::(rdL d base f (rdO d p x base).p (left - szV (rdO d p x base).o)).1,(rdL d base f (rdO d p x base).p (left - szV (rdO d p x base).o)).2)
theorem rdL_end {d:List UInt8} {base:Int} {f p:Nat} {left:Int} (h:d.length≤p):rdL d base f p left=([],if 0 < left then 10 else 0):=by
  cases f with
  | zero=>rfl
  | succ f=>unfold rdL;rw [List.getElem?_eq_none h]
theorem rdL_err {d:List UInt8} {base:Int} {f p:Nat} {left:Int} {x:UInt8} (hx:d[p]?=some x) (h:(rdO d p x base).e≠0):rdL d base (f+1) p left=([],(rdO d p x base).e):=by
  conv=>lhs;unfold rdL
  rw [hx]
  exact if_pos h
theorem rdL_long {d:List UInt8} {base:Int} {f p:Nat} {left:Int} {x:UInt8} (hx:d[p]?=some x) (h:(rdO d p x base).e=0) (h2:left < szV (rdO d p x base).o):rdL d base (f+1) p left=([],3):=by
  conv=>lhs;unfold rdL
  rw [hx]
  show (if _ then _ else _)=_
  rw [if_neg (fun h3=>h3 h),if_pos h2]
theorem rdL_next {d:List UInt8} {base:Int} {f p:Nat} {left:Int} {x:UInt8} (hx:d[p]?=some x) (h:(rdO d p x base).e=0) (h2:¬ left < szV (rdO d p x base).o):rdL d base (f+1) p left=((rdO d p x base).o::(rdL d base f (rdO d p x base).p (left - szV (rdO d p x base).o)).1,(rdL d base f (rdO d p x base).p (left - szV (rdO d p x base).o)).2):=by
  conv=>lhs;unfold rdL
  rw [hx]
  show (if _ then _ else _)=_
  rw [if_neg (fun h3=>h3 h),if_neg h2]
def RDI (d:List UInt8) (base:Int) (p:Nat) (left:Int) (ops:List OV) (r:List OV × Int):Prop:=∃ f,d.length - p≤f∧(ops++(rdL d base f p left).1,(rdL d base f p left).2)=r
section
variable {d : List UInt8} {base : Int} {p : Nat} {left : Int} {ops : List OV} {r : List OV × Int} {x : UInt8}
theorem RDI.start (d:List UInt8) (base:Int) (p:Nat) (left:Int):RDI d base p left [] (rdL d base d.length p left):=⟨d.length,by omega,rfl⟩
theorem RDI.stop (h:RDI d base p left ops r) (hp:d.length≤p):r=(ops,if 0 < left then 10 else 0):=by
  obtain ⟨f,h1,h2⟩:=h
  rw [rdL_end hp,List.append_nil] at h2
  exact h2.symm
theorem RDI.err (h:RDI d base p left ops r) (hx:d[p]?=some x) (he:(rdO d p x base).e≠0):r=(ops,(rdO d p x base).e):=by
  have hp:=(List.getElem?_eq_some_iff.1 hx).1
  obtain ⟨f,h1,h2⟩:=h
  obtain ⟨g,rfl⟩:∃ g,f=g+1:=⟨f - 1,by omega⟩
  rw [rdL_err hx he,List.append_nil] at h2
  exact h2.symm
theorem RDI.long (h:RDI d base p left ops r) (hx:d[p]?=some x) (he:(rdO d p x base).e=0) (hs:left < szV (rdO d p x base).o):r=(ops,3):=by
  have hp:=(List.getElem?_eq_some_iff.1 hx).1
  obtain ⟨f,h1,h2⟩:=h
  obtain ⟨g,rfl⟩:∃ g,f=g+1:=⟨f - 1,by omega⟩
  rw [rdL_long hx he hs,List.append_nil] at h2
  exact h2.symm
theorem RDI.next (h:RDI d base p left ops r) (hx:d[p]?=some x) (he:(rdO d p x base).e=0) (hs:¬ left < szV (rdO d p x base).o):RDI d base (rdO d p x base).p (left - szV (rdO d p x base).o) (ops++[(rdO d p x base).o]) r:=by
  have hp:=(List.getElem?_eq_some_iff.1 hx).1
  have ho:=rdO_ok hx he
  obtain ⟨f,h1,h2⟩:=h
  obtain ⟨g,rfl⟩:∃ g,f=g+1:=⟨f - 1,by omega⟩
  rw [rdL_next hx he hs] at h2
  exact ⟨g,by omega,by rw [← h2,List.append_assoc];rfl⟩
end
def rdR (d:List UInt8):List OV × Int:=rdL d ((vaN d 0 0 4000).1:Int) d.length (vaN d (vaN d 0 0 4000).2.1 (vaN d 0 0 4000).2.2 4000).2.1 ((vaN d (vaN d 0 0 4000).2.1 (vaN d 0 0 4000).2.2 4000).1:Int)
def ag_ (d:List UInt8):Int × Int × List OV × Int :=
  if (vaN d (vaN d 0 0 4000).2.1 (vaN d 0 0 4000).2.2 4000).2.2≠0 then (0,0,[],(vaN d (vaN d 0 0 4000).2.1 (vaN d 0 0 4000).2.2 4000).2.2)
  else if (rdR d).2≠0 then (0,0,[],(rdR d).2) else ((vaN d 0 0 4000).1,(vaN d (vaN d 0 0 4000).2.1 (vaN d 0 0 4000).2.2 4000).1,(rdR d).1,0)
theorem read_e1 {d:List UInt8} (h:(vaN d (vaN d 0 0 4000).2.1 (vaN d 0 0 4000).2.2 4000).2.2≠0):ag_ d=(0,0,[],((vaN d (vaN d 0 0 4000).2.1 (vaN d 0 0 4000).2.2 4000).2.2:Int)):=by unfold ag_;rw [if_pos h]
theorem gm_ {d:List UInt8} (h:(vaN d (vaN d 0 0 4000).2.1 (vaN d 0 0 4000).2.2 4000).2.2=0) {ops:List OV} {e:Int} (h2:rdR d=(ops,e)) (he:e≠0):ag_ d=(0,0,[],e):=by unfold ag_;rw [if_neg (by omega),h2,if_pos he]
theorem kE_ {d:List UInt8} (h:(vaN d (vaN d 0 0 4000).2.1 (vaN d 0 0 4000).2.2 4000).2.2=0) {ops:List OV} (h2:rdR d=(ops,0)):ag_ d=(((vaN d 0 0 4000).1:Int),((vaN d (vaN d 0 0 4000).2.1 (vaN d 0 0 4000).2.2 4000).1:Int),ops,0):=by unfold ag_;rw [if_neg (by omega),h2,if_neg (fun h3=>h3 Z)]
end Del
namespace Del
open Go.RowKit Zk Zx Oct
end Del
namespace Del
open Go.RowKit Zk Zx Oct
theorem fI_ {d rest:List UInt8} {p v M:Nat} (h:d.drop p=vr v++rest) (hv:v≤M) (h64:v≤18446744073709551615):vaN d p 0 M=(v,p+(vr v).length,0):=by
  unfold vaN
  rw [if_neg (by omega),h,jt_ rest v h64,if_neg (by show ¬ (0:Nat)≠0;omega),if_neg (by show ¬ M < v;omega)]
theorem drop_hd {d:List UInt8} {p:Nat} {x:UInt8} (hx:d[p]?=some x):d.drop p=x::d.drop (p+1):=by
  obtain ⟨h1,h2⟩:=List.getElem?_eq_some_iff.1 hx
  rw [← h2,List.getElem_cons_drop]
theorem rdO_back {d rest:List UInt8} {p:Nat} {o:OV} {base:Int} (hr:rtV base o=true) (hs:szV o≤4000) (hb:base≤4000) (h:d.drop p=em_ o++rest):∃ x,d[p]?=some x∧rdO d p x base=⟨o,p+(em_ o).length,0,0⟩:=by
  cases hc:o.cp with
  | true =>
    obtain ⟨h1,h2,h3,h4,h5⟩:=rtV_cp hr hc
    obtain ⟨cp,fr,n,l⟩:=o
    have hc':cp=true:=hc
    have h5':l=[]:=h5
    subst hc' h5'
    have h1':1≤n:=h1
    have h3':0≤fr:=h3
    have h4':fr≤base - n:=h4
    have he:em_ ⟨true,fr,n,[]⟩=1::(vr fr.toNat++vr n.toNat):=by unfold em_;rw [if_pos Z]
    rw [he] at h ⊢
    have hx:d[p]?=some 1:=by
      have:=congrArg (fun z=>z[0]?) h
      simpa using this
    refine ⟨1,hx,?_⟩
    have hd:d.drop (p+1)=vr fr.toNat++(vr n.toNat++rest):=by
      have h9:=drop_hd hx
      rw [h] at h9
      have h8:=(List.cons.inj h9).2
      rw [← h8,List.append_eq,List.append_assoc]
    have v1:=fI_ (M:=4000) hd (by omega) (by omega)
    have hd2:d.drop (p+1+(vr fr.toNat).length)=vr n.toNat++rest:=by
      rw [← List.drop_drop,hd,List.drop_left]
    have v2:=fI_ (M:=4000) hd2 (by omega) (by omega)
    rw [hN_ Z,v1]
    show rdN d (p+1+(vr fr.toNat).length) 0 base ((fr.toNat:Nat):Int) true=_
    rw [rdN_cp (by rw [v2]) (by rw [v2];show ¬ n.toNat=0;omega) (by rw [v2];show ¬ base - (n.toNat:Int) < (fr.toNat:Int);omega),v2]
    have e1:((fr.toNat:Nat):Int)=fr:=by omega
    have e2:((n.toNat:Nat):Int)=n:=by omega
    show RO.mk ⟨true,((fr.toNat:Nat):Int),((n.toNat:Nat):Int),[]⟩ (p+1+(vr fr.toNat).length+(vr n.toNat).length) 0 0=_
    rw [e1,e2]
    congr 1
    simp
    omega
  | false =>
    obtain ⟨h1,h2,h3⟩:=rtV_new hr hc
    obtain ⟨cp,fr,n,l⟩:=o
    have hc':cp=false:=hc
    have h2':fr=0:=h2
    have h3':n=0:=h3
    subst hc' h2' h3'
    have h1':1≤l.length:=h1
    have hs':(l.length:Int)≤4000:=hs
    have he:em_ ⟨false,0,0,l⟩=0::(vr l.length++l):=by unfold em_;rw [if_neg Bool.false_ne_true]
    rw [he] at h ⊢
    have hx:d[p]?=some 0:=by
      have:=congrArg (fun z=>z[0]?) h
      simpa using this
    refine ⟨0,hx,?_⟩
    have hd:d.drop (p+1)=vr l.length++(l++rest):=by
      have h9:=drop_hd hx
      rw [h] at h9
      have h8:=(List.cons.inj h9).2
      rw [← h8,List.append_eq,List.append_assoc]
    have v1:=fI_ (M:=4000) hd (by omega) (by omega)
    have hd2:d.drop (p+1+(vr l.length).length)=l++rest:=by
      rw [← List.drop_drop,hd,List.drop_left]
    have hlen:l.length≤d.length - (p+1+(vr l.length).length):=by
      have:=congrArg List.length hd2
      rw [List.length_drop,List.length_append] at this
      omega
    obtain ⟨e1,e2,e3⟩:=rn_ok hlen
    rw [hj_ (by decide) (by decide),kF_ (by rw [v1]) (by rw [v1];show ¬ l.length=0;omega),v1]
    show RO.mk ⟨false,0,0,rnL d (p+1+(vr l.length).length) 0 (l.length:Int)⟩ (rnP d (p+1+(vr l.length).length) 0 (l.length:Int)) (rnE d (p+1+(vr l.length).length) 0 (l.length:Int)) (rnE d (p+1+(vr l.length).length) 0 (l.length:Int):Int)=_
    rw [e1,e2,e3,hd2,List.take_left]
    congr 1
    simp
    omega
theorem enc_pos (o:OV):1≤(em_ o).length:=by
  unfold em_
  split <;> simp
theorem rdL_back {d:List UInt8} {base:Int} (hb:base≤4000):∀ (l:List OV) (f p:Nat) (left:Int),bP_ base left l=true→left≤4000→d.drop p=l.flatMap em_→d.length - p≤f→rdL d base f p left=(l,0)
  | [],f,p,left,hc,hl,hd,hf=>by
    unfold bP_ at hc
    have h0:=of_decide_eq_true hc
    rw [rdL_end (List.drop_eq_nil_iff.1 hd),if_neg (by omega)]
  | o::r,f,p,left,hc,hl,hd,hf=>by
    unfold bP_ at hc
    rw [Bool.and_eq_true,Bool.and_eq_true] at hc
    have hs:=of_decide_eq_true hc.1.2
    have hz:=cC_ hc.1.1
    rw [List.flatMap_cons] at hd
    obtain ⟨x,hx,he⟩:=rdO_back hc.1.1 (by omega) hb hd
    have hp:=(List.getElem?_eq_some_iff.1 hx).1
    obtain ⟨g,rfl⟩:∃ g,f=g+1:=⟨f - 1,by omega⟩
    have hpos:=enc_pos o
    rw [rdL_next hx (by rw [he]) (by rw [he];show ¬ left < szV o;omega),he]
    have ih:=rdL_back hb r g (p+(em_ o).length) (left - szV o) hc.2 (by omega) (by rw [← List.drop_drop,hd,List.drop_left]) (by omega)
    show (o::(rdL d base g (p+(em_ o).length) (left - szV o)).1,(rdL d base g (p+(em_ o).length) (left - szV o)).2)=_
    rw [ih]
theorem put_read {b t:Int} {l:List OV} (h:eb_ b t l=0):ag_ (bm_ b t l)=(b,t,l,0):=by
  obtain ⟨hrg,hch⟩:=eT_ h
  have e0:(bm_ b t l).drop 0=vr b.toNat++(vr t.toNat++l.flatMap em_):=by rw [List.drop_zero];unfold bm_;rw [List.append_assoc]
  have v1:=fI_ (M:=4000) e0 (by omega) (by omega)
  rw [Nat.zero_add] at v1
  have e1:(bm_ b t l).drop (vr b.toNat).length=vr t.toNat++l.flatMap em_:=by
    have:(bm_ b t l).drop (0+(vr b.toNat).length)=vr t.toNat++l.flatMap em_:=by rw [← List.drop_drop,e0,List.drop_left]
    rwa [Nat.zero_add] at this
  have v2:=fI_ (M:=4000) e1 (by omega) (by omega)
  have e2:(bm_ b t l).drop ((vr b.toNat).length+(vr t.toNat).length)=l.flatMap em_:=by rw [← List.drop_drop,e1,List.drop_left]
  have hb:((b.toNat:Nat):Int)=b:=by omega
  have ht:((t.toNat:Nat):Int)=t:=by omega
  have hr:rdR (bm_ b t l)=(l,0):=by
    unfold rdR
    rw [v1]
    show rdL (bm_ b t l) ((b.toNat:Nat):Int) _ (vaN (bm_ b t l) (vr b.toNat).length 0 4000).2.1 ((vaN (bm_ b t l) (vr b.toNat).length 0 4000).1:Int)=_
    rw [v2]
    show rdL (bm_ b t l) ((b.toNat:Nat):Int) _ ((vr b.toNat).length+(vr t.toNat).length) ((t.toNat:Nat):Int)=_
    rw [hb,ht]
    exact rdL_back (by omega) l _ _ t hch (by omega) e2 (by omega)
  have hq:(vaN (bm_ b t l) (vaN (bm_ b t l) 0 0 4000).2.1 (vaN (bm_ b t l) 0 0 4000).2.2 4000).2.2=0:=by
    rw [v1]
    show (vaN (bm_ b t l) (vr b.toNat).length 0 4000).2.2=0
    rw [v2]
  rw [kE_ hq hr,v1]
  show (((b.toNat:Nat):Int),((vaN (bm_ b t l) (vr b.toNat).length 0 4000).1:Int),l,0)=_
  rw [v2]
  show (((b.toNat:Nat):Int),((t.toNat:Nat):Int),l,0)=_
  rw [hb,ht]
end Del
namespace Del
open Go.RowKit Zk Zx Oct
end Del
namespace Del
open Go.RowKit Zk Zx Oct
theorem fr_step {t:List UInt8} {s k:Nat} {x:UInt8} (hs:s≤k) (hx:t[k]?=some x):(t.drop s).take (k+1 - s)=(t.drop s).take (k - s)++[x]:=by
  have h:(t.drop s)[k - s]?=some x:=by rw [List.getElem?_drop,show s+(k - s)=k by omega];exact hx
  rw [show k+1 - s=k - s+1 by omega,take1 h]
theorem relB_lo {a t:List UInt8} (h:(bstA a t a.length).2 < 6):(bst a t).2=0:=by
  rcases bst_all a t with ⟨_,h2⟩ | ⟨h1,_⟩
  · rw [h2]
  · omega
theorem relB_hi {a t:List UInt8} (h:¬ (bstA a t a.length).2 < 6):bstA a t a.length=bst a t:=by
  rcases bst_all a t with ⟨h1,_⟩ | ⟨_,h2⟩
  · exact absurd h1 h
  · exact h2.symm
theorem fl_pos {t:List UInt8} {s e:Nat} (h:s < e):fl t s e=[⟨false,0,0,(t.drop s).take (e - s)⟩]:=by unfold fl;rw [if_pos h]
theorem fl_neg {t:List UInt8} {s e:Nat} (h:¬ s < e):fl t s e=[]:=by unfold fl;rw [if_neg h]
end Del
namespace Del
open Go.RowKit Zk Zx Oct
theorem make_apl {a t:List UInt8} (ha:a.length≤4000) (ht:t.length≤4000):bW_ a a.length t.length (mkV a t)=(t,0):=by
  rw [ev_ (iD_ ha ht) Z,(hq_ a t).2]
theorem pputM {x y:List UInt8} (hx:x.length≤400) (hy:y.length≤400) (A:Option Addr) (c:Nat) (l:List OP) (n m:Nat) (w0:World) (hl:Rs w0 4 A l.length c (l.flatMap opf)) (hok:OkO w0 l) (h1:l.map OP.v=mkV x y) (hn:n=x.length) (hm:m=y.length) :
    Calls Tryz.prog 122 #[.agg (scA (n:Int) (m:Int) A l.length c)] w0 fun e w'=>∃ u,e=.returned u∧Like w0 w'∧∃ A' c',u=.tuple #[.slice A' (bm_ x.length y.length (mkV x y)).length c',.int .i64 0]∧w'.ownsRow w0.heap.size 5 1 (.slice A' (bm_ x.length y.length (mkV x y)).length c') (bm_ x.length y.length (mkV x y)).length (bL (bm_ x.length y.length (mkV x y))):=by
  subst hn hm
  have e1:l.length≤4000:=by have:=mkV_cnt (a:=x) (t:=y);rw [← h1,List.length_map] at this;omega
  have h:=pput A l.length c l (x.length:Int) (y.length:Int) w0 hl hok e1
  rw [h1,ez_ (iD_ (by omega) (by omega))] at h
  exact h
end Del
namespace Zx
open Go.RowKit Zk
def upB (a:List UInt8) (v:Value) (D:List (List UInt8 × Value)):List (List UInt8 × Value):=match eA_ a D 0 with
  | some (i,_)=>D.set i (a,v)
  | none=>D++[(a,v)]
section
variable {P : Program} {N : Nat} {Q : Post} {env : Env} {w w0 : World} {M : Nat → Prop} {rs : List Res} {K : Env → World → Prop} {d : Tmp} {ty : TypeId} {pos : String} {after : Array Edge} {g : Option (Nat × Bool)} {dst : Option Tmp}
theorem o_mapUpB {t k e u:TypeId} {n b:Nat} {D:List (List UInt8 × Value)} {m x v:Operand} {a:List UInt8} {new:Value} (S:St w0 M rs w) (j:Nat) (hj:rs[j]?=some (eM_ n b D)) (ht:P.underlying t=some (.map k e)) (hk:P.underlying k=some (.array n u)) (hu:P.underlying u=some (.int .u8)) (hs:(P.info? u).map (·.size)=some 1)
    (hm:ev env m=some (.map (some b))) (hx:ev env x=some (.agg (bA a))) (hv:ev env v=some new) (ha:a.length=n)
    (h:∀ w',St w0 M (rs.set j (eM_ n b (upB a new D))) w'→K env w') :
    O P N Q ⟨none,.mapUpdate t m x v,ty,pos,after,g⟩ env w K:=fun c hc=>by
  have hw:=S.get j hj
  have hf:=hK_ (P:=P) hk hu hs a ha w D hw.2
  have hbl:b < w.heap.size:=(Array.getElem?_eq_some_iff.1 hw.1).1
  unfold Oper.wp execOp
  simp only [hc.eval hm,hc.eval hx,hc.eval hv,Instr.mapUpdate,Sem.run_bind,run_underlying ht,Result.andThen_ok,getM hw.1,Sem.run_pure,gK_ hk hu hs a ha w,hf]
  have fin:∀ D',upB a new D=D'→(∀ p ∈ D',p.1.length=n)→St w0 M (rs.set j (eM_ n b (upB a new D))) { w with heap:=w.heap.setIfInBounds b (.map (aP_ D').toArray D'.length)}:=fun D' e hD'=>by
    rw [e]
    exact S.upd j hj Z Z Z (by simp) (fun i hi hn=>ey_ w b _ i hn) ⟨by
      show (w.heap.setIfInBounds b _)[b]?=_
      rw [Array.getElem?_setIfInBounds_self_of_lt hbl],hD'⟩ fun i hi=>.inl hi
  cases hp:eA_ a D 0 with
  | some p =>
    obtain ⟨i,v0⟩:=p
    obtain ⟨_,hi⟩:=dO_ hp
    rw [Nat.sub_zero] at hi
    have hil:=(List.getElem?_eq_some_iff.1 hi).1
    have hg:(aP_ D).toArray[i]?=some ⟨.agg (bA a),v0,i⟩:=by rw [List.getElem?_toArray,ec_,hi];rfl
    have hnew:((aP_ D).toArray.modify i fun e=>{ e with key:=Value.agg (bA a),val:=new })=(aP_ (D.set i (a,new))).toArray:=by
      apply Array.ext_getElem?
      intro q
      rw [Array.getElem?_modify,List.getElem?_toArray,List.getElem?_toArray,ec_,ec_]
      by_cases e:i=q
      · subst e
        rw [if_pos Z,List.getElem?_set_self hil,hi]
        rfl
      · rw [if_neg e,List.getElem?_set_ne e]
    simp only [hg,Option.map_some,Option.getD_some,Instr.keyThatStays,kb_,if_true,Sem.run_pure,Sem.run_bind,Result.andThen_ok,hnew,setM _ hw.1]
    have h9:=fin (D.set i (a,new)) (by unfold upB;rw [hp]) (fun p hp=>by
      rcases List.mem_or_eq_of_mem_set hp with q | q
      · exact hw.2 p q
      · subst q;exact ha)
    rw [List.length_set] at h9
    exact ⟨_,hc,h _ h9⟩
  | none =>
    have hnew:(aP_ D).toArray.push { key:=Value.agg (bA a),val:=new,born:=D.length }=(aP_ (D++[(a,new)])).toArray:=by
      unfold aP_
      rw [List.zipIdx_append,List.map_append]
      simp
    simp only [Sem.run_pure,Sem.run_bind,Result.andThen_ok,hnew,setM _ hw.1]
    have h9:=fin (D++[(a,new)]) (by unfold upB;rw [hp]) (fun p hp=>by
      rcases List.mem_append.1 hp with q | q
      · exact hw.2 p q
      · obtain rfl:=List.mem_singleton.1 q
        exact ha)
    rw [List.length_append] at h9
    exact ⟨_,hc,h _ h9⟩
theorem y_lenB {x:Operand} {t k e:TypeId} {n b:Nat} {D:List (List UInt8 × Value)} (hw:(eM_ n b D).holds w) (ht:P.underlying t=some (.map k e)) (hx:ev env x=some (.map (some b))) :
    Y P (Like w) env ⟨dst,.call { callee:=.builtin .len,args := #[x],argTypes := #[t]},ty,pos,after,g⟩ (.int .i64 (D.length:Int)):=fun N a w' ha hl=>by
  have hh:w'.heap[b]?=some (.map (aP_ D).toArray D.length):=by
    have hb:b < w.heap.size:=(Array.getElem?_eq_some_iff.1 hw.1).1
    rw [hl.block b hb];exact hw.1
  have h1:(Builtin.len_ #[t] ty #[.map (some b)]).run P w'=.ok (.int .i64 (D.length:Int)) w':=by
    simp [Builtin.len_,run_underlying ht,getM hh,goInt,entB_len]
  simp only [execOp,resolve,invoke,builtin,Sem.run_bind,Sem.run_pure,Result.andThen_ok,List.map_toArray,List.map_cons,List.map_nil,ha.eval hx,h1]
theorem upB_new {a:List UInt8} {v:Value} {D:List (List UInt8 × Value)} (h:∀ p ∈ D,p.1≠a):upB a v D=D++[(a,v)]:=by
  unfold upB
  cases hp:eA_ a D 0 with
  | none=>rfl
  | some p =>
    obtain ⟨i,v0⟩:=p
    obtain ⟨_,hi⟩:=dO_ hp
    exact absurd Z (h _ (List.mem_of_getElem? hi))
theorem upB_old {a:List UInt8} {v:Value} {D:List (List UInt8 × Value)} (h:∃ p ∈ D,p.1=a):(upB a v D).length=D.length:=by
  unfold upB
  cases hp:eA_ a D 0 with
  | none =>
    obtain ⟨p,h1,h2⟩:=h
    exact absurd h2 (hP_ hp p h1)
  | some p=>simp
theorem upB_mem {a:List UInt8} {v:Value} {D:List (List UInt8 × Value)} (x:List UInt8):x ∈ (upB a v D).map (·.1)↔x=a∨x ∈ D.map (·.1):=by
  unfold upB
  cases hp:eA_ a D 0 with
  | none=>simp [or_comm]
  | some p =>
    obtain ⟨i,v0⟩:=p
    obtain ⟨_,hi⟩:=dO_ hp
    rw [Nat.sub_zero] at hi
    obtain ⟨hil,he⟩:=List.getElem?_eq_some_iff.1 hi
    have e:(D.set i (a,v)).map (·.1)=D.map (·.1):=by
      rw [List.map_set]
      apply List.ext_getElem?
      intro q
      rw [List.getElem?_set]
      split
      · rename_i hq
        subst hq
        rw [if_pos (by simpa using hil),List.getElem?_map,hi]
        rfl
      · rfl
    show x ∈ (D.set i (a,v)).map (·.1)↔_
    rw [e]
    refine ⟨.inr,fun h=>h.elim (fun q=>?_) id⟩
    subst q
    exact List.mem_map.2 ⟨_,List.mem_of_getElem? hi,rfl⟩
def setB (l:List (List UInt8)):List (List UInt8 × Value):=l.foldl (fun D a=>upB a (.bool true) D) []
theorem jY_ (l:List (List UInt8)) (a:List UInt8):setB (l++[a])=upB a (.bool true) (setB l):=by simp [setB,List.foldl_append]
theorem setB_all (l:List (List UInt8)):(∀ x,x ∈ (setB l).map (·.1)↔x ∈ l)∧(setB l).length≤l.length∧((setB l).length=l.length↔l.Nodup):=by
  induction hn:l.length generalizing l with
  | zero =>
    have:l=[]:=List.length_eq_zero_iff.1 hn
    subst this
    exact ⟨fun x=>by simp [setB],by simp [setB],by simp [setB]⟩
  | succ n ih =>
    obtain ⟨l,a,rfl⟩:∃ l' a,l=l'++[a]:=⟨l.dropLast,l.getLast (fun e=>by simp [e] at hn),(List.dropLast_concat_getLast _).symm⟩
    have hl:l.length=n:=by simpa using hn
    obtain ⟨h1,h2,h3⟩:=ih l hl
    rw [jY_]
    refine ⟨fun x=>by rw [upB_mem,h1];simp [or_comm],?_,?_⟩
    · by_cases hm:a ∈ l
      · obtain ⟨p,hp,e⟩:=List.mem_map.1 ((h1 a).2 hm)
        rw [upB_old ⟨p,hp,e⟩];omega
      · rw [upB_new (fun p hp e=>hm ((h1 a).1 (List.mem_map.2 ⟨p,hp,e⟩)))];simp;omega
    · by_cases hm:a ∈ l
      · obtain ⟨p,hp,e⟩:=List.mem_map.1 ((h1 a).2 hm)
        rw [upB_old ⟨p,hp,e⟩]
        refine ⟨fun q=>by omega,fun q=>?_⟩
        rw [List.nodup_append] at q
        exact absurd Z (q.2.2 a hm a (by simp))
      · rw [upB_new (fun p hp e=>hm ((h1 a).1 (List.mem_map.2 ⟨p,hp,e⟩))),List.nodup_append]
        simp only [List.length_append,List.length_singleton,Nat.add_right_cancel_iff]
        rw [h3]
        refine ⟨fun q=>⟨q,by simp,fun x hx y hy e=>?_⟩,fun q=>q.1⟩
        obtain rfl:=List.mem_singleton.1 hy
        exact hm (e ▸ hx)
end
end Zx
namespace Pak
open Go.RowKit Zk Zx
open Sha (N)
open Go.Proofs.YtgaklngnfecdaaaGreat.Obj (ad_ bG_ aC_ V_ az_ aL_ zB)
open Del (mkV bm_)
structure It where
  kind:Int
  p:Part
abbrev IV:=Int × List UInt8
def It.v (x:It):IV:=(x.kind,x.p.l)
def itf (x:It):List Value:=[.int .i64 x.kind,pv x.p]
theorem bU_ (x:It):(itf x).length=2:=rfl
theorem hu_ (x:It):∀ u ∈ itf x,u.oneCell'=true:=fun u hu=>by
  simp [itf,pv] at hu
  rcases hu with rfl | rfl <;> rfl
def OkI (w:World) (l:List It):Prop:=∀ x ∈ l,x.p.ok w
theorem OkI.like {w w':World} {l:List It} (h:OkI w l) (lk:Like w w'):OkI w' l:=fun x hx=>Rs.like (h x hx) lk
theorem OkI.at {w:World} {l:List It} (h:OkI w l) {k:Nat} {x:It} (hx:l[k]?=some x):x.p.ok w:=h x (List.mem_of_getElem? hx)
theorem cL_ {w:World} {A:Option Addr} {n c:Nat} {l:List It} (h:Rs w 2 A n c (l.flatMap itf)):n=l.length:=by
  have h2:(l.flatMap itf).length=n*2:=h.len
  rw [fU_ itf 2 bU_] at h2
  omega
def nmE:List IV→Int
  | []=>0
  | x::r=>if ad_ x.1 x.2≠0 then ad_ x.1 x.2 else nmE r
def idB (x:IV):List Value:=bL (aC_ x.1 x.2)
theorem du_ (x:IV):(idB x).length=32:=by unfold idB;rw [length_bL,V_]
def eR_ (l:List IV):List (List UInt8):=l.map fun x=>aC_ x.1 x.2
def cf_ (l:List IV):Int:=if nmE l≠0 then nmE l else if (eR_ l).Nodup then 0 else 17
theorem gQ_:∀ {l:List IV} {k:Nat} {x:IV},(∀ y ∈ l.take k,ad_ y.1 y.2=0)→l[k]?=some x→ad_ x.1 x.2≠0→nmE l=ad_ x.1 x.2
  | y::r,0,x,_,hx,he=>by
    simp at hx
    subst hx
    unfold nmE
    rw [if_pos he]
  | y::r,k+1,x,h,hx,he=>by
    unfold nmE
    rw [if_neg (fun q=>q (h y (by simp)))]
    exact gQ_ (k:=k) (fun z hz=>h z (by simp [hz])) (by simpa using hx) he
theorem fQ_:∀ {l:List IV},(∀ x ∈ l,ad_ x.1 x.2=0)→nmE l=0
  | [],_=>rfl
  | y::r,h=>by
    unfold nmE
    rw [if_neg (fun q=>q (h y (by simp)))]
    exact fQ_ fun z hz=>h z (by simp [hz])
theorem nmE_all:∀ {l:List IV},nmE l=0→∀ x ∈ l,ad_ x.1 x.2=0
  | y :: r,h,x,hx=>by
    unfold nmE at h
    by_cases he:ad_ y.1 y.2=0
    · rw [if_neg (fun q=>q he)] at h
      rcases List.mem_cons.1 hx with rfl | hx
      · exact he
      · exact nmE_all h x hx
    · rw [if_pos he] at h
      exact absurd h he
theorem kQ_ {l:List IV} (h:nmE l≠0):cf_ l=nmE l:=by unfold cf_;rw [if_pos h]
theorem nameE_17 {l:List IV} (h:nmE l=0) (h2:¬ (eR_ l).Nodup):cf_ l=17:=by unfold cf_;rw [if_neg (fun q=>q h),if_neg h2]
theorem kR_ {l:List IV} (h:nmE l=0) (h2:(eR_ l).Nodup):cf_ l=0:=by unfold cf_;rw [if_neg (fun q=>q h),if_pos h2]
theorem nameE_ok {l:List IV} (h:cf_ l=0):(∀ x ∈ l,ad_ x.1 x.2=0)∧(eR_ l).Nodup:=by
  unfold cf_ at h
  by_cases h1:nmE l=0
  · rw [if_neg (fun q=>q h1)] at h
    by_cases h2:(eR_ l).Nodup
    · exact ⟨nmE_all h1,h2⟩
    · rw [if_neg h2] at h;cases h
  · rw [if_pos h1] at h;exact absurd h h1
structure Ob where
  kind:Int
  l:List UInt8
  dep:Nat
  at_:Nat
  sum:UInt32
def Ob.id (o:Ob):List UInt8:=aC_ o.kind o.l
theorem Ob.id_len (o:Ob):o.id.length=32:=V_ _ _
def plO (o:Ob):List Value:=bL o.id++[.int .i64 (o.at_:Int),.int .u32 (N o.sum)]
theorem es_ (o:Ob):(plO o).length=34:=by simp [plO,length_bL,Ob.id_len]
theorem iA_ (o:Ob):∀ u ∈ plO o,u.oneCell'=true:=fun u hu=>by
  rcases List.mem_append.1 hu with h | h
  · exact R_ _ u h
  · simp at h
    rcases h with rfl | rfl <;> rfl
theorem plO_id (o:Ob):((plO o).toArray.toList.drop 0).take 32=bL o.id∧(bL o.id).length=32:=⟨by rw [List.drop_zero];simp [plO,List.take_append,length_bL,Ob.id_len],by rw [length_bL,Ob.id_len]⟩
def aV_ (os:List Ob) (kind chain:Int):Nat→Nat→List Nat
  | 0,_=>[]
  | j+1,seen=>if 4≤seen then [] else match os[j]? with
    | none=>[]
    | some o=>if o.kind≠kind then aV_ os kind chain j seen else (if (o.dep:Int) < chain then [j] else [])++aV_ os kind chain j (seen+1)
section
variable {os : List Ob} {kind chain : Int} {j seen : Nat} {o : Ob}
theorem gt_ (h:4≤seen):aV_ os kind chain j seen=[]:=by
  cases j with
  | zero=>rfl
  | succ j=>unfold aV_;rw [if_pos h]
theorem kw_ (h:seen < 4) (ho:os[j]?=some o) (hk:o.kind≠kind):aV_ os kind chain (j+1) seen=aV_ os kind chain j seen:=by
  conv=>lhs;unfold aV_
  rw [if_neg (by omega),ho]
  exact if_pos hk
theorem cand_yes (h:seen < 4) (ho:os[j]?=some o) (hk:o.kind=kind) (hd:(o.dep:Int) < chain):aV_ os kind chain (j+1) seen=j::aV_ os kind chain j (seen+1):=by
  conv=>lhs;unfold aV_
  rw [if_neg (by omega),ho]
  show (if o.kind≠kind then _ else _)=_
  rw [if_neg (fun q=>q hk),if_pos hd]
  rfl
theorem cand_no (h:seen < 4) (ho:os[j]?=some o) (hk:o.kind=kind) (hd:¬ (o.dep:Int) < chain):aV_ os kind chain (j+1) seen=aV_ os kind chain j (seen+1):=by
  conv=>lhs;unfold aV_
  rw [if_neg (by omega),ho]
  show (if o.kind≠kind then _ else _)=_
  rw [if_neg (fun q=>q hk),if_neg hd]
  rfl
theorem iJ_:∀ (j seen:Nat),∀ k ∈ aV_ os kind chain j seen,k < j∧∃ o,os[k]?=some o∧o.kind=kind∧(o.dep:Int) < chain
  | 0,_,k,hk=>by cases hk
  | j + 1,seen,k,hk=>by
    unfold aV_ at hk
    split at hk
    · cases hk
    · cases ho:os[j]? with
      | none=>rw [ho] at hk;cases hk
      | some o =>
        rw [ho] at hk
        dsimp only at hk
        by_cases hq:o.kind≠kind
        · rw [if_pos hq] at hk
          have:=iJ_ j seen k hk
          exact ⟨by omega,this.2⟩
        · rw [if_neg hq] at hk
          rcases List.mem_append.1 hk with hk | hk
          · by_cases hd:(o.dep:Int) < chain
            · rw [if_pos hd] at hk
              obtain rfl:=List.mem_singleton.1 hk
              exact ⟨by omega,o,ho,Classical.not_not.1 hq,hd⟩
            · rw [if_neg hd] at hk;cases hk
          · have:=iJ_ j (seen+1) k hk
            exact ⟨by omega,this.2⟩
end
def scB (a x:List UInt8):List UInt8:=bm_ (a.length:Int) (x.length:Int) (mkV a x)
def stepS (os:List Ob) (x:List UInt8) (r:Int × List UInt8) (k:Nat):Int × List UInt8:=match os[k]? with
  | none=>r
  | some o=>if (scB o.l x).length < r.2.length then ((k:Int),scB o.l x) else r
def shF (os:List Ob) (x:List UInt8) (ks:List Nat) (r:Int × List UInt8):Int × List UInt8:=ks.foldl (stepS os x) r
def dR_ (os:List Ob) (chain kind:Int) (x:List UInt8):Int × List UInt8:=shF os x (aV_ os kind chain os.length 0) (-1,x)
theorem fK_ {os:List Ob} {x:List UInt8} {r:Int × List UInt8} {k:Nat} {o:Ob} (ho:os[k]?=some o) (h:(scB o.l x).length < r.2.length):stepS os x r k=((k:Int),scB o.l x):=by
  unfold stepS;rw [ho];exact if_pos h
theorem hf_ {os:List Ob} {x:List UInt8} {r:Int × List UInt8} {k:Nat} {o:Ob} (ho:os[k]?=some o) (h:¬ (scB o.l x).length < r.2.length):stepS os x r k=r:=by
  unfold stepS;rw [ho];exact if_neg h
def ToldOk (os:List Ob) (chain kind:Int) (x:List UInt8) (r:Int × List UInt8):Prop :=
  (r.1 = -1∧r.2=x)∨∃ k o,r.1=((k:Nat):Int)∧os[k]?=some o∧o.kind=kind∧(o.dep:Int) < chain∧r.2=scB o.l x∧r.2.length < x.length
theorem shF_ok {os:List Ob} {chain kind:Int} {x:List UInt8}:∀ (ks:List Nat) (r:Int × List UInt8),(∀ k ∈ ks,∃ o,os[k]?=some o∧o.kind=kind∧(o.dep:Int) < chain)→r.2.length≤x.length→ToldOk os chain kind x r→ToldOk os chain kind x (shF os x ks r)∧(shF os x ks r).2.length≤x.length
  | [],r,_,hl,h=>⟨h,hl⟩
  | k :: ks,r,hk,hl,h=>by
    obtain ⟨o,ho,h1,h2⟩:=hk k (by simp)
    show ToldOk os chain kind x (shF os x ks (stepS os x r k))∧(shF os x ks (stepS os x r k)).2.length≤x.length
    by_cases hs:(scB o.l x).length < r.2.length
    · rw [fK_ ho hs]
      exact shF_ok ks _ (fun q hq=>hk q (by simp [hq])) (by show (scB o.l x).length≤_;omega) (.inr ⟨k,o,rfl,ho,h1,h2,rfl,by show (scB o.l x).length < _;omega⟩)
    · rw [hf_ ho hs]
      exact shF_ok ks r (fun q hq=>hk q (by simp [hq])) hl h
theorem fc_ (os:List Ob) (chain kind:Int) (x:List UInt8):ToldOk os chain kind x (dR_ os chain kind x)∧(dR_ os chain kind x).2.length≤x.length :=
  shF_ok _ _ (fun k hk=>(iJ_ _ _ k hk).2) (Nat.le_refl _) (.inl ⟨rfl,rfl⟩)
structure Pk where
  bs:List UInt8
  os:List Ob
def aP_ (k:UInt8) (bk:List UInt8) (load:List UInt8):List UInt8:=[k]++Oct.vr load.length++bk++Oct.tl (aU_ load).toNat 4++load
def ofAt (os:List Ob) (k:Int):Nat:=(os[k.toNat]?.elim 0 Ob.at_)
def ofDep (os:List Ob) (k:Int):Nat:=(os[k.toNat]?.elim 0 Ob.dep)
def layO (s:Pk) (v:IV) (r:Int × List UInt8):Pk :=
  if r.1 < 0 then ⟨s.bs++aP_ (UInt8.ofNat v.1.toNat) [] r.2,s.os++[⟨v.1,v.2,0,s.bs.length,aU_ r.2⟩]⟩
  else ⟨s.bs++aP_ 5 (Oct.vr (s.bs.length - ofAt s.os r.1)) r.2,s.os++[⟨v.1,v.2,ofDep s.os r.1+1,s.bs.length,aU_ r.2⟩]⟩
def bR_ (chain:Int) (s:Pk) (v:IV):Pk:=layO s v (dR_ s.os chain v.1 v.2)
def gT_ (n:Nat):List UInt8:=[80,65,67,75]++Oct.tl 1 4++Oct.tl n 4
theorem jE_ (n:Nat):(gT_ n).length=12:=by simp [gT_,Oct.x_]
def U_ (chain:Int) (n:Nat) (l:List IV):Pk:=l.foldl (bR_ chain) ⟨gT_ n,[]⟩
def bL_ (chain:Int) (l:List IV):Pk:=U_ chain l.length l
def cs_ (chain:Int) (l:List IV):List UInt8:=(bL_ chain l).bs++Sha.ofL (bL_ chain l).bs
theorem bA_ {chain:Int} {n:Nat} {l:List IV} {k:Nat} {x:IV} (h:l[k]?=some x):U_ chain n (l.take (k+1))=bR_ chain (U_ chain n (l.take k)) x:=by
  unfold U_
  rw [List.take_add_one,h,List.foldl_append]
  rfl
def wrE (chain:Int) (l:List IV):Int:=if chain < 0∨8 < chain then 2 else cf_ l
theorem layO_len (s:Pk) (v:IV) (r:Int × List UInt8):(layO s v r).os.length=s.os.length+1:=by
  unfold layO;split <;> simp
theorem layO_bs (s:Pk) (v:IV) (r:Int × List UInt8) (h:r.2.length≤300) (hb:s.bs.length≤20000):(layO s v r).bs.length≤s.bs.length+320:=by
  have h1:=Oct.vr_len r.2.length 1 (by omega)
  unfold layO aP_
  split
  · simp [Oct.x_];omega
  · have h2:=Oct.vr_len (s.bs.length - ofAt s.os r.1) 2 (by omega)
    simp [Oct.x_];omega
theorem fP_ {chain:Int} {n:Nat} {l:List IV} (hs:∀ x ∈ l,x.2.length≤300):∀ k,k≤l.length→k≤24→(U_ chain n (l.take k)).os.length=k∧12≤(U_ chain n (l.take k)).bs.length∧(U_ chain n (l.take k)).bs.length≤12+k*320
  | 0,_,_=>by simp [U_,jE_]
  | k+1,hk,h24=>by
    obtain ⟨x,hx⟩:∃ x,l[k]?=some x:=⟨_,List.getElem?_eq_getElem (by omega)⟩
    obtain ⟨h1,h2,h3⟩:=fP_ (chain:=chain) (n:=n) hs k (by omega) (by omega)
    rw [bA_ hx]
    have h4:=(fc_ (U_ chain n (l.take k)).os chain x.1 x.2).2
    have h5:=hs x (List.mem_of_getElem? hx)
    have h6:=layO_bs (U_ chain n (l.take k)) x (dR_ (U_ chain n (l.take k)).os chain x.1 x.2) (by omega) (by omega)
    refine ⟨by unfold bR_;rw [layO_len,h1],?_,by unfold bR_;omega⟩
    unfold bR_ layO
    split <;> (simp;omega)
theorem kL_ {chain:Int} {n:Nat} {l:List IV}:∀ k,k≤l.length→(U_ chain n (l.take k)).os.map (fun o=>(o.kind,o.l))=l.take k
  | 0,_=>by simp [U_]
  | k+1,hk=>by
    obtain ⟨x,hx⟩:∃ x,l[k]?=some x:=⟨_,List.getElem?_eq_getElem (by omega)⟩
    have h1:=kL_ (chain:=chain) (n:=n) (l:=l) k (by omega)
    rw [bA_ hx,List.take_add_one,hx]
    unfold bR_ layO
    split <;> simp [h1]
end Pak
namespace Pak
open Go.RowKit Zk Zx
open Sha (N bC_ cu_ cZ_ dN_ dM_)
open Go.Proofs.YtgaklngnfecdaaaGreat.Obj (ad_ bG_ aC_ V_ az_ aL_ zB A_ aI_)
open Oct (vaN rwL rwP rwE rnL rnP rnE be vr tl x_)
open Del (scA opf OP OkO mkV bm_ cy_ ag_ bW_)
theorem name_ (k:Int) (B:Option Addr) (m d:Nat) (b:List UInt8) (w0:World) (hb:Rs w0 1 B m d (bL b)) (hm9:m≤90000) :
    Calls Tryz.prog 23 #[.int .i64 k,.slice B m d] w0 fun e w'=>∃ u,e=.returned u∧Like w0 w'∧u=.tuple #[.agg (bA (aC_ k b)),.int .i64 (ad_ k b)]:=by
  by_cases he:ad_ k b=0
  · exact Obj.name1 k B m d b w0 hb hm9 he
  · exact Obj.name0 k B m d b w0 hb hm9 he
theorem rname_ (k:Int) (B:Option Addr) (m d:Nat) (b:List UInt8) (w0:World) (hb:Rs w0 1 B m d (bL b)) (hm9:m≤90000) :
    Calls Tryz.prog 24 #[.int .i64 k,.slice B m d] w0 fun e w'=>∃ u,e=.returned u∧Like w0 w'∧u=.tuple #[.agg (bA (aC_ k b)),.int .i64 (ad_ k b)]:=by
  by_cases he:ad_ k b=0
  · exact Obj.rname1 k B m d b w0 hb hm9 he
  · exact Obj.rname0 k B m d b w0 hb hm9 he
def NamesV (w0 w':World) (l:List IV) (u:Value):Prop:=(cf_ l≠0∧u=.tuple #[.slice none 0 0,.int .i64 (cf_ l)])∨(cf_ l=0∧∃ A c,u=.tuple #[.slice A l.length c,.int .i64 0]∧w'.ownsRow w0.heap.size 41 32 (.slice A l.length c) l.length (l.flatMap idB))
theorem cc_ {its:List It} {k:Nat} {x:It} (hx:its[k]?=some x):(its.map It.v)[k]?=some (x.kind,x.p.l):=by rw [List.getElem?_map,hx];rfl
theorem fi_ {l:List IV} {k:Nat} {x:IV} (hx:l[k]?=some x) (h:∀ y ∈ l.take k,ad_ y.1 y.2=0) (he:ad_ x.1 x.2=0):∀ y ∈ l.take (k+1),ad_ y.1 y.2=0:=fun y hy=>by
  rw [List.take_add_one,hx] at hy
  rcases List.mem_append.1 hy with q | q
  · exact h y q
  · obtain rfl:=List.mem_singleton.1 q
    exact he
theorem ids_next {l:List IV} {k:Nat} {x:IV} (hx:l[k]?=some x):eR_ (l.take (k+1))=eR_ (l.take k)++[aC_ x.1 x.2]:=by
  rw [List.take_add_one,hx]
  unfold eR_
  rw [List.map_append]
  rfl
theorem la_ {l:List IV} {k:Nat} {x:IV} (hx:l[k]?=some x):(l.take (k+1)).flatMap idB=(l.take k).flatMap idB++idB x:=by
  rw [List.take_add_one,hx,List.flatMap_append]
  simp
theorem kV_ (l:List IV):(eR_ l).length=l.length:=by simp [eR_]
theorem gr_ (x:IV):((bA (aC_ x.1 x.2)).toList.drop 0).take 32=idB x∧(idB x).length=32:=by
  refine ⟨?_,du_ x⟩
  rw [List.drop_zero]
  exact List.take_of_length_le (Nat.le_of_eq (du_ x))
theorem kY_ (x:IV):∀ u ∈ idB x,u.oneCell'=true:=R_ _
theorem names (A:Option Addr) (n c:Nat) (its:List It) (w0:World) (hits:Rs w0 2 A n c (its.flatMap itf)) (hok:OkI w0 its) (hsm:∀ x ∈ its,x.p.n≤90000) (hn9:n≤100000) :
    Calls Tryz.prog 54 #[.slice A n c] w0 fun e w'=>∃ u,e=.returned u∧Like w0 w'∧NamesV w0 w' (its.map It.v) u:=by
 refine v_ (env:=[(0,.slice A n c)]) [.slice A n c] Tryz.func54 Z Tryz.ntmps54 Z Z ?_;have hn:=cL_ hits;have hcap:=hits.cap;have hmax:=hits.max;have S0:=St.start w0 noM;refine a_ fun K1 hK1=>b_ (La Z Z (Lan Z Z (hK1 _ _ (a_ fun K2 hK2=>Rm Z Z (L_y (I_ Tryz.underlying48 Z) Z (L_o (o_makeN te81 [] (by simp) (fun i hi=>by omega) (by omega) S0 Z Z inferInstance inferInstance Z (by omega) (by omega) (by omega) fun b1 w1 S1=>?_)))))));refine Lan Z Z (hK2 _ _ (a_ fun K3 hK3=>b_ (L_o (jp_ (n:=32) S1 Z fun bm w2 hbm S2=>Lan Z Z (hK3 _ _ (a_ fun K4 hK4=>a_ fun K5 hK5=>Rm Z Z (L_y (I_ Tryz.underlying48 Z) Z ?_)))))));refine Lm Z Z (f_ (hK5 _ _ (r_ ?_)));refine df_ [(0,_),(5,_),(14,_),(15,_)] (fun (k:Nat) (A1:Option Addr) (c1:Nat)=>[(16,.int .i64 (k:Int)),(4,.slice A1 k c1)]) (fun (k:Nat) (A1:Option Addr) (c1:Nat)=>n - k) (fun (k:Nat) (A1:Option Addr) (c1:Nat) (w:World)=>(k≤n∧∀ y ∈ (its.map It.v).take k,ad_ y.1 y.2=0)∧Zx.St w0 noM [Zx.row 41 32 A1 k c1 (((its.map It.v).take k).flatMap idB),eM_ 32 bm (setB (eR_ ((its.map It.v).take k)))] w) 0 _ _ (Sc Z (Sc Z (Sub.nil _))) (Sub.cons Z Z (Sub.cons Z Z (Sub.cons Z Z (Sub.cons Z Z (Sub.nil _))))) ?_ ?_
 ·
  exact ⟨⟨by omega,fun y hy=>by cases hy⟩,S2⟩
 ·
  intro k A1 c1 w3 hrel;obtain ⟨⟨hk,hok2⟩,S3⟩:=hrel;refine a_ fun K6 hK6=>b_ (L_y (L_ Z Z) Z (f_ (hK6 _ _ (a_ fun K7 hK7=>?_))));refine o_ Z (fun h17=>?_) (fun h17=>?_)
  ·
   obtain ⟨x,hx⟩:∃ x,its[k]?=some x:=⟨_,List.getElem?_eq_getElem (by omega)⟩;have hxo:=hok.at hx;have hxm:=hsm x (List.mem_of_getElem? hx);refine j_ (hK7 _ _ (a_ fun K8 hK8=>r_ (a_ fun K9 hK9=>b_ (L_y (T_ Tryz.underlying48 gx_ Z Z (S3.rd hits) inferInstance (by omega)) Z (L_y (cp_ (f:=itf) bU_ Tryz.underlying65 Z gx_ Z (S3.rd hits) (by omega) hx) Z (L_o (H_ zz65 S3 Z fun b4 w4 hb4 S4=>L_o (G_ S4 2 Z Z Z gx_ (by rfl) (fun u hu=>hu_ x u (by rw [List.toList_toArray] at hu;exact hu)) fun w5 S5=>?_))))))));refine f_ (hK9 _ _ (a_ fun K10 hK10=>b_ (L_y (g_ 0 Tryz.underlying65 Z sz3 Z Z Z) Z (L_y (t_ Tryz.underlying3 Z Z (((S5.blk 2 Z).cell _).trans (by rfl))) Z ?_))));refine L_y (g_ 1 Tryz.underlying65 Z br_ Z Z Z) Z (L_y (t_ Tryz.underlying22 Z Z (((S5.blk 2 Z).cell _).trans (by rfl))) Z ?_);refine L_o (n_ Tryz.func23 Z Z (name_ x.kind x.p.A x.p.n x.p.c x.p.l w5 (S5.rd hxo) hxm) Z Z ?_);rintro e6 w6 ⟨v6,rfl,l6,rfl⟩;refine ⟨_,rfl,(have S6:=S5.like l6;Lm Z Z (L_y (m_ Z Z) Z (L_y (m_ Z Z) Z (L_o (H_ dK_ S6 Z fun b7 w7 hb7 S7=>have S8:Zx.St w0 noM [Zx.row 41 32 A1 k c1 (((its.map It.v).take k).flatMap idB),eM_ 32 bm (setB (eR_ ((its.map It.v).take k))),blk b4 65 (itf x).toArray,blk b7 41 (bA zB)] w7:=S7.cast (by kernel_rfl);L_o (G_ S8 3 Z Z Z (by first | exact ao_ | (rw [size_bA,V_];exact ao_)) (by first | rfl | (rw [size_bA,size_bA,V_];rfl)) (Sha.eg_ _) fun w9 S9=>?_))))))⟩;refine Lan Z Z (hK10 _ _ (a_ fun K11 hK11=>a_ fun K12 hK12=>Rm Z Z (L_y (ab_ Z Z) Z (f_ (hK12 _ _ ?_)))));refine o_ Z (fun h29=>?_) (fun h29=>?_)
   ·
    refine a_ fun K13 hK13=>Rm Z Z (La Z Z (Lan Z Z (hK13 _ _ (l_ (ur (bj_ Z Z Z ?_))))));have he:cf_ (its.map It.v)=ad_ x.kind x.p.l:=by rw [kQ_ (by rw [gQ_ hok2 (cc_ hx) h29];exact h29),gQ_ hok2 (cc_ hx) h29]
    exact ⟨_,rfl,S9.like0,.inl ⟨by rw [he];exact h29,by rw [he];rfl⟩⟩
   ·
    refine j_ (hK11 _ _ (a_ fun K14 hK14=>Rm Z Z (L_y (Y_ Tryz.underlying41 Z ao_ Z (S9.blk 3 Z) (gr_ (x.kind,x.p.l))) Z (L_o (ah_ (idB (x.kind,x.p.l)) te81 dK_ S9 Z Z Z (by simp [Value.cells,du_]) (by simp [Value.cells]) Z Z Z fun b10 w10 S10=>?_)))));refine L_o (ay_ te81 S10 0 Z Z Z (by first | exact S10.row 0 Z | exact S10.row 4 Z) (kY_ _) Z (by omega) (by omega) fun A11 c11 w11 S11=>?_);have S11d:=S11.drop (rs':=[_,_,_,_]) (.cons_cons _ (.cons_cons _ (.cons_cons _ (.cons_cons _ (.cons _ (.refl _))))));refine Lan Z Z (hK14 _ _ (Rm Z Z (L_y (Y_ Tryz.underlying41 Z ao_ Z (S11d.blk 3 Z) (gr_ (x.kind,x.p.l))) Z (L_o (o_mapUpB S11d 1 Z Tryz.underlying162 Tryz.underlying41 Tryz.underlying5 sz5 Z Z Z (V_ _ _) fun w12 S12=>f_ (hK8 _ _ (b_ (L_y (w_ Z Z (z_ (by omega))) Z (Lm Z Z (f_ ?_))))))))));have S91:=S12.sel [0,1] (by decide);have S92:=S91.rowc 0 Z (n':=k+1) (xs':=((its.map It.v).take (k+1)).flatMap idB) Z (la_ (cc_ hx)).symm;rw [← jY_, ← ids_next (cc_ hx)] at S92;refine ⟨k+1,_,_,by omega,⟨⟨by omega,fi_ (cc_ hx) hok2 (Classical.not_not.1 h29)⟩,S92⟩,?_⟩;exact (Sc Z (Sc Z (Sub.cons Z Z (Sub.cons Z Z (Sub.cons Z Z (Sub.cons Z Z (Sub.nil _)))))))
  ·
   have hke:k=n:=by omega
   subst hke;have hvl:(its.map It.v).length=k:=by rw [List.length_map];exact hn.symm
   rw [List.take_of_length_le (by omega)] at hok2;rw [List.take_of_length_le (by omega)] at S3;have hset:=(setB_all (eR_ (its.map It.v))).2.2;have hset2:=(setB_all (eR_ (its.map It.v))).2.1;rw [kV_,hvl] at hset hset2;have hall:=hok2;refine K_ (hK4 _ _ (a_ fun K15 hK15=>a_ fun K16 hK16=>Rm Z Z (L_y (y_lenB (S3.get 1 Z) Tryz.underlying162 Z) Z (Lm Z Z (L_y (I_ Tryz.underlying48 Z) Z (L_y (L_ Z Z) Z (f_ (hK16 _ _ ?_))))))));refine o_ Z (fun h42=>?_) (fun h42=>?_)
   ·
    refine a_ fun K17 hK17=>b_ (La Z Z (Lan Z Z (hK17 _ _ (l_ (ur (bj_ Z Z Z ?_))))));have he:cf_ (its.map It.v)=17:=nameE_17 (fQ_ hall) (fun q=>by have:=hset.2 q;omega);exact ⟨_,rfl,S3.like0,.inl ⟨by rw [he];decide,by rw [he]⟩⟩
   ·
    refine j_ (hK15 _ _ (a_ fun K18 hK18=>Rm Z Z (La Z Z (Lan Z Z (hK18 _ _ (l_ (ur (bj_ Z Z Z ?_))))))));have he:cf_ (its.map It.v)=0:=kR_ (fQ_ hall) (hset.1 (by omega));have hO:=S3.own 0 Z;rw [← hvl] at hO;refine ⟨_,rfl,S3.like0,.inr ⟨he,A1,c1,by rw [hvl],hO⟩⟩
end Pak
namespace Pak
open Go.RowKit Zk Zx
open Sha (N bC_ cu_ cZ_ dN_ dM_)
open Go.Proofs.YtgaklngnfecdaaaGreat.Obj (ad_ bG_ aC_ V_ az_ aL_ zB A_ aI_)
open Oct (vaN rwL rwP rwE rnL rnP rnE be vr tl x_)
open Del (scA opf OP OkO mkV bm_ cy_ ag_ bW_)
theorem by_ {α:Type} (f : α→List Value) (size:Nat) (hlen:∀ y,(f y).length=size) (l:List α) (k:Nat) (y : α) (h:l[k]?=some y) (i:Nat) (hi:i < size):(l.flatMap f)[k*size+i]?=(f y)[i]?:=by
  rw [← hy_ f size hlen l k y h,List.getElem?_take,if_pos hi,List.getElem?_drop]
def eV_ (o:Ob):Value:=.int .i64 (o.dep:Int)
def Ob.v (o:Ob):IV:=(o.kind,o.l)
def Same (its:List It) (os:List Ob):Prop:=its.map It.v=os.map Ob.v
theorem Same.len {its:List It} {os:List Ob} (h:Same its os):its.length=os.length:=by have:=congrArg List.length h;simpa using this
theorem Same.at {its:List It} {os:List Ob} (h:Same its os) {k:Nat} {o:Ob} (ho:os[k]?=some o):∃ x,its[k]?=some x∧x.kind=o.kind∧x.p.l=o.l:=by
  have h1:(its.map It.v)[k]?=some o.v:=by rw [h,List.getElem?_map,ho];rfl
  rw [List.getElem?_map] at h1
  cases hx:its[k]? with
  | none=>rw [hx] at h1;cases h1
  | some x =>
    rw [hx] at h1
    have h2:x.v=o.v:=Option.some.inj h1
    exact ⟨x,rfl,congrArg Prod.fst h2,congrArg Prod.snd h2⟩
theorem iI_ {os:List Ob} {k:Nat} {o:Ob} (ho:os[k]?=some o):(os.map eV_)[k]?=some (.int .i64 (o.dep:Int)):=by rw [List.getElem?_map,ho];rfl
open Del (nL nL_app)
theorem nL_snoc (l:List Nat) (k:Nat) (v:Int) (h:v=(k:Int)):nL l++[Value.int .i64 v]=nL (l++[k]):=by subst h;simp [nL]
theorem nL_get {l:List Nat} {i k:Nat} (h:l[i]?=some k):(nL l)[i]?=some (Value.int .i64 (k:Int)):=by unfold nL;rw [List.getElem?_map,h];rfl
theorem candidates (g:Nat) (x0 x2:Value) (A1:Option Addr) (n1 c1:Nat) (A3:Option Addr) (n3 c3:Nat) (its:List It) (os:List Ob) (kind chain:Int) (w0:World) (hg:Blk w0 g 113 #[x0,.slice A1 n1 c1,x2,.slice A3 n3 c3]) (hits:Rs w0 2 A1 n1 c1 (its.flatMap itf)) (hds:Rs w0 1 A3 n3 c3 (os.map eV_)) (hio:Same its os) (hn9:n1≤100000) :
    Calls Tryz.prog 120 #[.pointer (some ⟨g,0,none⟩),.int .i64 kind,.int .i64 chain] w0 fun e w'=>∃ u,e=.returned u∧Like w0 w'∧∃ A5 c5,u=.slice A5 (aV_ os kind chain os.length 0).length c5∧w'.ownsRow w0.heap.size 3 1 (.slice A5 (aV_ os kind chain os.length 0).length c5) (aV_ os kind chain os.length 0).length (nL (aV_ os kind chain os.length 0)):=by
 refine v_ (env:=[(0,.pointer (some ⟨g,0,none⟩)),(1,.int .i64 kind),(2,.int .i64 chain)]) [.pointer (some ⟨g,0,none⟩),.int .i64 kind,.int .i64 chain] Tryz.func120 Z Tryz.ntmps120 Z Z ?_;have hn1:=cL_ hits;have hsl:=hio.len;have hn3:=hds.len;rw [List.length_map] at hn3;have hcap1:=hits.cap;have hcap3:=hds.cap;have hmax1:=hits.max;have hmax3:=hds.max;have S0:=St.start w0 noM;refine a_ fun K1 hK1=>b_ (Lan Z Z (hK1 _ _ (a_ fun K2 hK2=>b_ (have S1:=S0.nilrow 3 1;Lan Z Z (hK2 _ _ (a_ fun K3 hK3=>b_ (La Z Z ?_)))))));refine f_ (hK3 _ _ (a_ fun K4 hK4=>a_ fun K5 hK5=>Rm Z Z (L_y (E_ Z) Z (L_y (g_ 1 Tryz.underlying113 Z sz48 Z Z Z) Z (L_y (t_ Tryz.underlying48 Z Z (((S1.rdB hg).cell _).trans (by rfl))) Z ?_)))));refine L_y (I_ Tryz.underlying48 Z) Z (L_y (ax_ Z Z (z_ (by omega))) Z (Lan Z Z (hK5 _ _ (r_ ?_))));refine iL_ [(0,_),(1,_),(2,_)] (fun (j:Nat) (seen:Nat) (out:List Nat) (A5:Option Addr) (c5:Nat)=>[(9,.int .i64 ((j:Int) - 1)),(8,.int .i64 (seen:Int)),(7,.slice A5 out.length c5)]) (fun (j:Nat) (seen:Nat) (out:List Nat) (A5:Option Addr) (c5:Nat)=>j) (fun (j:Nat) (seen:Nat) (out:List Nat) (A5:Option Addr) (c5:Nat) (w:World)=>(j≤os.length∧out.length+j≤os.length∧seen≤4∧out++aV_ os kind chain j seen=aV_ os kind chain os.length 0)∧Zx.St w0 noM [Zx.row 3 1 A5 out.length c5 (nL out)] w) os.length 0 [] none 0 (Sc Z (Sc Z (Sc Z (Sub.nil _)))) (Sub.cons Z Z (Sub.cons Z Z (Sub.cons Z Z (Sub.nil _)))) ?_ ?_
 ·
  exact ⟨⟨Nat.le_refl _,by simp,by omega,rfl⟩,S1⟩
 ·
  intro j seen out A5 c5 w2 hrel;obtain ⟨⟨hj,hol,hsn,hcs⟩,S2⟩:=hrel;refine a_ fun K6 hK6=>a_ fun K7 hK7=>Rm Z Z (L_y (cq_ Z Z) Z (Lm Z Z ?_));refine y_ 18 Z (fun h18=>?_) (fun h18=>?_)
  ·
   refine d_ Z Z (Lm Z Z (d_ Z Z (L_y (L_ Z Z) Z (Lp Z Z Z (f_ (hK7 _ _ ?_))))));refine o_ Z (fun h21=>?_) (fun h21=>?_)
   ·
    obtain ⟨o,ho⟩:∃ o,os[j - 1]?=some o:=⟨_,List.getElem?_eq_getElem (by omega)⟩;obtain ⟨x,hx,hxk,hxl⟩:=hio.at ho;refine j_ (hK6 _ _ (a_ fun K8 hK8=>r_ (a_ fun K9 hK9=>a_ fun K10 hK10=>Rm Z Z (L_y (E_ Z) Z (L_y (g_ 1 Tryz.underlying113 Z sz48 Z Z Z) Z (L_y (t_ Tryz.underlying48 Z Z (((S2.rdB hg).cell _).trans (by rfl))) Z ?_))))));refine Lm Z Z (L_y (T_ Tryz.underlying48 gx_ Z Z (S2.rd hits) (Nt.mk (by omega):Nt _ (j - 1)) (by omega)) Z (L_y (aE_ 0 Tryz.underlying65 Z sz3 Z Z (S2.rd hits) (by omega) Z) Z (L_y (cl_ Tryz.underlying3 Z Z (S2.rd hits) (by omega) ((by_ itf 2 bU_ its (j - 1) x hx 0 (by omega)).trans (by rfl))) Z ?_)));refine Lm Z Z (L_y (ab_ Z Z) Z (f_ (hK10 _ _ ?_)));refine o_ Z (fun h33=>?_) (fun h33=>?_)
    ·
     refine K_ (hK8 _ _ (Rm Z Z (L_y (ax_ Z Z (z_ (by omega))) Z (Lan Z Z (⟨j - 1,seen,out,A5,c5,by omega,⟨⟨by omega,by (first | omega | (rw [List.length_append];simp only [List.length_singleton];omega)),by omega,by rw [← hcs,show j=j - 1+1 by omega,kw_ (by omega) (by simpa using ho) (by rw [← hxk];exact h33)];simp⟩,S2⟩,?_⟩)))));exact (Sc Z (Sc Z (Sub.cons Z (by first | rfl | (rw [List.length_append];rfl)) (Sub.cons Z Z (Sub.cons Z Z (Sub.cons Z Z (Sub.nil _)))))))
    ·
     refine j_ (hK9 _ _ (a_ fun K11 hK11=>Rm Z Z (L_y (w_ Z Z (z_ (by omega))) Z (Lan Z Z (hK11 _ _ (a_ fun K12 hK12=>Rm Z Z (L_y (E_ Z) Z (L_y (g_ 3 Tryz.underlying113 Z ij_ Z Z Z) Z ?_))))))));refine L_y (t_ Tryz.underlying111 Z Z (((S2.rdB hg).cell _).trans (by rfl))) Z ?_;refine Lm Z Z (L_y (T_ Tryz.underlying111 sz3 Z Z (S2.rd hds) (Nt.mk (by omega):Nt _ (j - 1)) (by omega)) Z (L_y (cj_ Tryz.underlying3 Z Z (S2.rd hds) (iI_ ho)) Z (Lm Z Z (L_y (L_ Z Z) Z (f_ (hK12 _ _ ?_))))));refine o_ Z (fun h44=>?_) (fun h44=>?_)
     ·
      refine Rm Z Z (Lm Z Z (L_o (ah_ [_] eK_ zz3 S2 Z Z Z Z Z Z Z Z fun b4 w4 S4=>L_o (ay_ eK_ S4 0 Z Z Z (by first | exact S4.row 0 Z | exact S4.row 1 Z) (by first | exact R_ _ | exact bu_ _ | (intro u hu;simp at hu;subst hu;rfl) | (simp;done) | (simp [Value.oneCell'];done)) Z (by omega) (by omega) fun A5 c5 w5 S5=>?_))));have S5d:=S5.drop (rs':=[_]) (.cons_cons _ (.cons _ (.refl _)));refine Lan Z Z (hK8 _ _ (Rm Z Z (L_y (ax_ Z Z (z_ (by omega))) Z (Lan Z Z ?_))));have S91:=S5d.rowc 0 Z (n':=(out++[j - 1]).length) (xs':=nL (out++[j - 1])) (by rw [List.length_append];rfl) (nL_snoc _ _ _ (by omega));refine ⟨j - 1,seen+1,out++[j - 1],_,_,by omega,⟨⟨by omega,by (first | omega | (rw [List.length_append];simp only [List.length_singleton];omega)),by omega,by rw [← hcs,show j=j - 1+1 by omega,cand_yes (by omega) (by simpa using ho) (by rw [← hxk];exact Classical.not_not.1 h33) (by simpa using h44)];simp⟩,S91⟩,?_⟩;exact (Sc Z (Sc Z (Sub.cons Z (by first | rfl | (rw [List.length_append];rfl)) (Sub.cons Z Z (Sub.cons Z Z (Sub.cons Z Z (Sub.nil _)))))))
     ·
      refine j_ (hK8 _ _ (Rm Z Z (L_y (ax_ Z Z (z_ (by omega))) Z (Lan Z Z (⟨j - 1,seen+1,out,A5,c5,by omega,⟨⟨by omega,by (first | omega | (rw [List.length_append];simp only [List.length_singleton];omega)),by omega,by rw [← hcs,show j=j - 1+1 by omega,cand_no (by omega) (by simpa using ho) (by rw [← hxk];exact Classical.not_not.1 h33) (by simpa using h44)];simp⟩,S2⟩,?_⟩)))));exact (Sc Z (Sc Z (Sub.cons Z (by first | rfl | (rw [List.length_append];rfl)) (Sub.cons Z Z (Sub.cons Z Z (Sub.cons Z Z (Sub.nil _)))))))
   ·
    refine K_ (hK4 _ _ (a_ fun K13 hK13=>Rm Z Z (Lan Z Z (hK13 _ _ (l_ (ur (F_ Z Z ?_)))))));have hce:aV_ os kind chain j seen=[]:=by first | exact gt_ (by omega) | (obtain rfl:j=0:=(by omega);rfl)
    rw [hce,List.append_nil] at hcs;subst hcs;exact ⟨_,rfl,S2.like0,_,_,rfl,S2.own 0 Z⟩
  ·
   refine h_ Z Z Z (h_ Z Z Z (Lp Z Z Z (f_ (hK7 _ _ (aW_ Z (K_ (hK4 _ _ (a_ fun K14 hK14=>Rm Z Z (Lan Z Z (hK14 _ _ ?_))))))))));refine l_ (ur (F_ Z Z ?_));have hce:aV_ os kind chain j seen=[]:=by first | exact gt_ (by omega) | (obtain rfl:j=0:=(by omega);rfl)
   rw [hce,List.append_nil] at hcs;subst hcs;exact ⟨_,rfl,S2.like0,_,_,rfl,S2.own 0 Z⟩
end Pak
namespace Zx
open Go.RowKit Zk
def apartL (rs:List Res):Prop:=rs.Pairwise fun r s=>∀ i,r.dom i→¬ s.dom i
def sepL (rs:List Res):Res where
  dom i:=∃ r ∈ rs,r.dom i
  holds w:=(∀ r ∈ rs,r.holds w∧∀ i,r.dom i→i < w.heap.size)∧apartL rs
  stable w w' h hh:=⟨fun r hr=>⟨r.stable w w' (fun i hi=>h i ⟨r,hr,hi⟩) (hh.1 r hr).1,fun i hi=>by
    have h1:=(hh.1 r hr).2 i hi
    have h2:=h i ⟨r,hr,hi⟩
    rw [Array.getElem?_eq_getElem h1] at h2
    exact (Array.getElem?_eq_some_iff.1 h2).1⟩,hh.2⟩
section
variable {w0 w w' : World} {M : Nat → Prop} {rs ps rs' : List Res}
theorem St.borrowL (h:(sepL rs).holds w):St w (sepL rs).dom rs w :=
  ⟨rfl,rfl,rfl,Nat.le_refl _,fun _ _ _=>rfl,fun q hq=>⟨(h.1 q hq).1,fun i hi=>⟨(h.1 q hq).2 i hi,.inr ⟨q,hq,hi⟩⟩⟩,h.2⟩
theorem St.getL (S:St w0 M (ps++rs) w):(sepL rs).holds w :=
  ⟨fun r hr=>⟨(S.res r (List.mem_append_right _ hr)).1,fun i hi=>((S.res r (List.mem_append_right _ hr)).2 i hi).1⟩,(List.pairwise_append.1 S.apart).2.1⟩
theorem St.turnedL {r0:List Res} (S:St w0 (sepL r0).dom rs w):Turned w0 w (sepL r0) (sepL rs) :=
  ⟨S.os,S.tape,S.output,S.size,S.old,St.getL (ps:=[]) S,fun i ⟨r,hr,hi⟩=>by
    have h:=(S.res r hr).2 i hi
    rcases h.2 with h2 | h2
    · exact .inr ⟨h2,h.1⟩
    · exact .inl h2⟩
theorem St.turnL (S:St w0 M (ps++rs) w) (T:Turned w w' (sepL rs) (sepL rs')):St w0 M (ps++rs') w':=by
  have hap:=List.pairwise_append.1 S.apart
  refine ⟨T.os.trans S.os,T.tape.trans S.tape,T.output.trans S.output,Nat.le_trans S.size T.size,fun i hi hm=>?_,fun q hq=>?_,?_⟩
  · rw [T.old i (Nat.lt_of_lt_of_le hi S.size) fun ⟨r,hr,hd⟩=>by
      rcases ((S.res r (List.mem_append_right _ hr)).2 i hd).2 with h | h
      · omega
      · exact hm h]
    exact S.old i hi hm
  · rcases List.mem_append.1 hq with hq | hq
    · have h:=S.res q (List.mem_append_left _ hq)
      refine ⟨q.stable w w' (fun i hi=>T.old i (h.2 i hi).1 fun ⟨r,hr,hd⟩=>hap.2.2 q hq r hr i hi hd) h.1,fun i hi=>⟨Nat.lt_of_lt_of_le (h.2 i hi).1 T.size,(h.2 i hi).2⟩⟩
    · have h:=T.holds.1 q hq
      refine ⟨h.1,fun i hi=>⟨h.2 i hi,?_⟩⟩
      rcases T.dom i ⟨q,hq,hi⟩ with ⟨r,hr,hd⟩ | h2
      · exact ((S.res r (List.mem_append_right _ hr)).2 i hd).2
      · exact .inl (Nat.le_trans S.size h2.1)
  · rw [List.pairwise_append]
    refine ⟨hap.1,T.holds.2,fun a ha b hb i hi hbi=>?_⟩
    rcases T.dom i ⟨b,hb,hbi⟩ with ⟨r,hr,hd⟩ | h2
    · exact hap.2.2 a ha r hr i hi hd
    · have:=((S.res a (List.mem_append_left _ ha)).2 i hi).1
      omega
theorem St.getAll (S:St w0 M rs w):(sepL rs).holds w:=St.getL (ps:=[]) S
end
end Zx
namespace Del
open Go.RowKit Zk Zx
theorem pmakeH (A B:Option Addr) (n c m d:Nat) (a t:List UInt8) (w0:World) (ha:Rs w0 1 A n c (bL a)) (ht:Rs w0 1 B m d (bL t)) (hmx:n≤4000) (hmt:m≤4000) :
    Calls Tryz.prog 121 #[.slice A n c,.slice B m d] w0 fun e w'=>∃ u,e=.returned u∧Like w0 w'∧∃ A' c' ops,∃ R:Res,u=.tuple #[.agg (scA (n:Int) (m:Int) A' ops.length c'),.int .i64 0]∧R.holds w'∧(∀ i,R.dom i→w0.heap.size≤i∧i < w'.heap.size)∧(∀ W,R.holds W→Rs W 4 A' ops.length c' (ops.flatMap opf)∧OkO W ops)∧ops.map OP.v=mkV a t:=by
 refine v_ (env:=[(0,.slice A n c),(1,.slice B m d)]) [.slice A n c,.slice B m d] Tryz.func121 Z Tryz.ntmps121 Z Z ?_;have hn:=ha.lenb;have hcap:=ha.cap;have hmax:=ha.max;have hmn:=ht.lenb;have hcap2:=ht.cap;have hmax2:=ht.max;have S0:=St.start w0 noM;refine a_ fun K1 hK1=>b_ (L_o (o_box1 Z Z S0 Z fun b1 w1 hb1 S1=>L_o (H_ iM_ S1 Z fun b2 w2 hb2 S2=>Lan Z Z (hK1 _ _ (a_ fun K2 hK2=>a_ fun K3 hK3=>Rm Z Z (L_y (I_ Tryz.underlying22 Z) Z (L_y (Z_ Z Z) Z (Lm Z Z ?_))))))));refine y_ 16 Z (fun h16=>?_) (fun h16=>?_)
 ·
  omega
 ·
  refine d_ Z Z (L_y (t_ Tryz.underlying22 Z Z (((S2.blk 0 Z).cell _).trans (by rfl))) Z ?_);refine d_ Z Z (L_y (I_ Tryz.underlying22 Z) Z (d_ Z Z (L_y (Z_ Z Z) Z (Lp Z Z Z (f_ (hK3 _ _ ?_))))));refine o_ Z (fun h20=>?_) (fun h20=>?_)
  ·
   omega
  ·
   refine j_ (hK2 _ _ (a_ fun K4 hK4=>Rm Z Z (L_y (I_ Tryz.underlying22 Z) Z (L_y (t_ Tryz.underlying22 Z Z (((S2.blk 0 Z).cell _).trans (by rfl))) Z ?_))));refine L_y (I_ Tryz.underlying22 Z) Z (L_y (C_ Z (show _=some (scA (n:Int) (m:Int) none 0 0) by kernel_rfl)) Z ?_);refine L_o (H_ iM_ S2 Z fun b4 w4 hb4 S4=>L_o (G_ S4 2 Z Z Z cr_ Z (cY_ _ _ _ _ _) fun w5 S5=>f_ (hK4 _ _ (a_ fun K5 hK5=>Rm Z Z (L_o (n_ Tryz.func161 Z Z (places A n c a w5 (S5.rd ha) hmx) Z Z ?_))))));rintro e6 w6 ⟨v6,rfl,l6,bm,pes,rfl,hpi,T6⟩;refine ⟨_,rfl,(have S6:=S5.adoptS T6;Lan Z Z (hK5 _ _ (a_ fun K6 hK6=>b_ (L_o (H_ zz3 S6 Z fun b7 w7 hb7 S7=>L_o (ac_ S7 5 Z Z Z Z sz3 (by first | (simp;done) | (show 0 < 1;decide)) fun w8 S8=>?_))))))⟩;refine f_ (hK6 _ _ (a_ fun K7 hK7=>b_ (L_y (dk_ Z Z) Z (Lan Z Z (hK7 _ _ (a_ fun K8 hK8=>a_ fun K9 hK9=>b_ (Lan Z Z (hK9 _ _ ?_))))))));refine r_ ?_;refine gw_ [(0,_),(3,_),(4,_),(6,_),(7,_),(8,_),(9,_)] (fun (k:Nat) (s0:Nat) (A1:Option Addr) (c1:Nat) (ops:List OP) (ps:List Part)=>[(10,.int .i64 (k:Int))]) (fun (k:Nat) (s0:Nat) (A1:Option Addr) (c1:Nat) (ops:List OP) (ps:List Part)=>m - k) (fun (k:Nat) (s0:Nat) (A1:Option Addr) (c1:Nat) (ops:List OP) (ps:List Part) (w:World)=>(k≤m∧s0≤k∧ops.length≤2*k∧InP ops ps∧MKI a t k s0 ops)∧St w0 noM ([blk b1 22 #[.slice B m d],blk b2 179 #[.int .i64 0,.int .i64 0,.slice none 0 0],eM_ 6 bm (pes.map PE.ent),fam (pes.map PE.row),blk b7 3 #[.int .i64 (s0:Int)]]++[blk b4 179 (scA (n:Int) (m:Int) A1 ops.length c1),row 221 4 A1 ops.length c1 (ops.flatMap opf),fam (ps.map bE_)]) w) 0 0 none 0 [] [] (Sc Z (Sub.nil _)) (Sub.cons Z Z (Sub.cons Z Z (Sub.cons Z Z (Sub.cons Z Z (Sub.cons Z Z (Sub.cons Z Z (Sub.cons Z Z (Sub.nil _)))))))) ?_ ?_
   ·
    have S9:=((S8.nilrow 221 4).fam0).sel [0,1,3,4,5,2,6,7] (by decide);exact ⟨⟨Nat.zero_le _,Nat.le_refl _,Nat.le_refl _,(fun o ho=>(List.not_mem_nil ho).elim),MKI.start a t⟩,S9⟩
   ·
    intro k s0 A1 c1 ops ps w9 hrel;obtain ⟨⟨hk,hsk,hol,hin,hmk⟩,S9⟩:=hrel;refine a_ fun K10 hK10=>a_ fun K11 hK11=>Rm Z Z (L_y (t_ Tryz.underlying22 Z Z (((S9.blk 0 Z).cell _).trans (by rfl))) Z ?_);refine L_y (I_ Tryz.underlying22 Z) Z (L_y (L_ Z Z) Z (f_ (hK11 _ _ ?_)));refine o_ Z (fun h33=>?_) (fun h33=>?_)
    ·
     have hbd:=bst_bd a (t.drop k);rw [List.length_drop] at hbd;refine j_ (hK10 _ _ (r_ (a_ fun K12 hK12=>Rm Z Z (Lm Z Z (L_y (t_ Tryz.underlying22 Z Z (((S9.blk 0 Z).cell _).trans (by rfl))) Z ?_)))));refine Lm Z Z (L_y (cv_ Tryz.underlying22 sz5 Z Z (Nt.mk (by omega):Nt _ (k)) (by omega)) Z (L_o (n_ Tryz.func163 Z Z (longest A (ct_ B d k 1) n c (m - k) (d - k) bm a (t.drop k) pes w9 (S9.rd ha) (cut_tail (S9.rd ht) (by omega)) hmx (by omega) (S9.get 2 Z) (S9.lt 2 Z) (S9.get 3 Z) hpi) Z Z ?_)));rintro e10 w10 ⟨v10,rfl,l10,rfl⟩;refine ⟨_,rfl,(have S10:=S9.like l10;Lm Z Z (L_y (m_ Z Z) Z (L_y (m_ Z Z) Z (La Z Z (Lan Z Z (hK12 _ _ (a_ fun K13 hK13=>a_ fun K14 hK14=>Rm Z Z (L_y (am_ Z Z) Z ?_))))))))⟩;refine f_ (hK14 _ _ ?_);refine o_ Z (fun h44=>?_) (fun h44=>?_)
     ·
      refine a_ fun K15 hK15=>Rm Z Z (L_y (w_ Z Z (z_ (by omega))) Z (Lan Z Z (hK15 _ _ (K_ (⟨k+1,s0,A1,c1,ops,ps,by omega,⟨⟨by omega,by omega,by omega,hin,hmk.zero (by omega) (by omega)⟩,S10⟩,?_⟩)))));exact (Sc Z (Sub.cons Z Z (Sub.cons Z Z (Sub.cons Z Z (Sub.cons Z Z (Sub.cons Z Z (Sub.cons Z Z (Sub.cons Z Z (Sub.nil _)))))))))
     ·
      refine j_ (hK13 _ _ (a_ fun K16 hK16=>Rm Z Z (Lm Z Z (L_o (fj_ Z Tryz.func162 Z Z (flush k s0 b7 b4 b1 (n:Int) (m:Int) A1 B c1 m d ops ps t w10 (dv_ S10).1 (dv_ S10).2.1 (S10.blk 4 Z) ((dv_ S10).2.2.1 (blk b7 3 #[.int .i64 (s0:Int)]) (by simp) b7 Z) (S10.blk 0 Z) ((dv_ S10).2.2.1 (blk b1 22 #[.slice B m d]) (by simp) b1 Z) (S10.rd ht) (fun ad h1 h2=>(dv_ S10).2.2.2 ad.block (dP_ ht h1 h2) (fun h=>h)) hmt (by omega) hin (by omega)) Z Z (fun d' hd=>by cases hd <;> rfl) ?_)))));rintro e11 w11 ⟨v11,rfl,A2,c2,ops2,ps2,hov,hol2,hin2,T11⟩;refine ⟨_,rfl,(have S11:=flushScr S10 T11;have hrc2:=(S11.row 6 Z).cap;have hrm2:=(S11.row 6 Z).max;f_ (hK16 _ _ (a_ fun K17 hK17=>b_ (L_y (g_ 2 Tryz.underlying179 Z fA_ Z Z Z) Z (L_y (t_ Tryz.underlying177 Z Z (((S11.blk 5 Z).cell _).trans (by rfl))) Z ?_)))))⟩;refine Lm Z Z (Lm Z Z (L_y (C_ Z (show _=some #[Value.bool true,Value.int .i64 ((bst a (t.drop k)).1:Int),Value.int .i64 ((bst a (t.drop k)).2:Int),Value.slice none 0 0] by kernel_rfl)) Z ?_));refine L_o (ah_ [_,_,_,_] te177 gU_ S11 Z Z Z Z Z Z Z Z fun b12 w12 S12=>L_o (ay_ te177 S12 6 Z Z Z (by first | exact S12.row 6 Z | exact S12.fix 7 Z | exact S12.row 8 Z) (fun u hu=>bp_ ⟨true,_,_,p0⟩ u hu) Z (by omega) (by omega) fun A13 c13 w13 S13=>?_));have S13d:=S13.drop (rs':=[_,_,_,_,_,_,_,_]) (.cons_cons _ (.cons_cons _ (.cons_cons _ (.cons_cons _ (.cons_cons _ (.cons_cons _ (.cons_cons _ (.cons_cons _ (.cons _ (.refl _))))))))));refine L_y (g_ 2 Tryz.underlying179 Z fA_ Z Z Z) Z (L_o (ac_ S13d 5 Z Z Z Z fA_ (by show 2 < 3;decide) fun w14 S14=>?_));refine f_ (hK17 _ _ (a_ fun K18 hK18=>Rm Z Z (Lm Z Z (L_y (w_ Z Z (z_ (by omega))) Z (Lan Z Z (hK18 _ _ (Rm Z Z (L_o (ac_ S14 4 Z Z Z Z sz3 (by first | (simp;done) | (show 0 < 1;decide)) fun w15 S15=>?_)))))))));refine f_ ?_;have S91:=S15.blkc 5 Z ((kD_ (n:Int) (m:Int) A2 ops2.length c2 A13 (ops2.length+1) c13).trans (show _=scA (n:Int) (m:Int) A13 (ops2++[(⟨true,((bst a (t.drop k)).1:Int),((bst a (t.drop k)).2:Int),p0⟩:OP)]).length c13 from by rw [List.length_append];rfl));have S92:=S91.blkc 4 Z (show _ = #[Value.int .i64 ((k+(bst a (t.drop k)).2:Nat):Int)] from by simp);have S93:=S92.rowc 6 Z (n':=(ops2++[(⟨true,((bst a (t.drop k)).1:Int),((bst a (t.drop k)).2:Int),p0⟩:OP)]).length) (xs':=(ops2++[(⟨true,((bst a (t.drop k)).1:Int),((bst a (t.drop k)).2:Int),p0⟩:OP)]).flatMap opf) (by rw [List.length_append];rfl) (by rw [List.flatMap_append];rfl);refine ⟨k+(bst a (t.drop k)).2,k+(bst a (t.drop k)).2,A13,c13,ops2++[(⟨true,((bst a (t.drop k)).1:Int),((bst a (t.drop k)).2:Int),p0⟩:OP)],ps2,by omega,⟨⟨by omega,Nat.le_refl _,by rw [List.length_append,List.length_singleton];omega,hin2.add0 Z,hmk.copy (by omega) (by omega) (by rw [List.map_append,hov];rfl)⟩,S93⟩,?_⟩
      exact (Sc Z (Sub.cons Z Z (Sub.cons Z Z (Sub.cons Z Z (Sub.cons Z Z (Sub.cons Z Z (Sub.cons Z Z (Sub.cons Z Z (Sub.nil _)))))))))
    ·
     refine K_ (hK8 _ _ (a_ fun K19 hK19=>Rm Z Z (L_y (t_ Tryz.underlying22 Z Z (((S9.blk 0 Z).cell _).trans (by rfl))) Z ?_)));refine L_y (I_ Tryz.underlying22 Z) Z (L_o (fj_ Z Tryz.func162 Z Z (flush m s0 b7 b4 b1 (n:Int) (m:Int) A1 B c1 m d ops ps t w9 (dv_ S9).1 (dv_ S9).2.1 (S9.blk 4 Z) ((dv_ S9).2.2.1 (blk b7 3 #[.int .i64 (s0:Int)]) (by simp) b7 Z) (S9.blk 0 Z) ((dv_ S9).2.2.1 (blk b1 22 #[.slice B m d]) (by simp) b1 Z) (S9.rd ht) (fun ad h1 h2=>(dv_ S9).2.2.2 ad.block (dP_ ht h1 h2) (fun h=>h)) hmt (by omega) hin (by omega)) Z Z (fun d' hd=>by cases hd <;> rfl) ?_));rintro e16 w16 ⟨v16,rfl,A2,c2,ops2,ps2,hov,hol2,hin2,T16⟩;refine ⟨_,rfl,(have S16:=flushScr S9 T16;f_ (hK19 _ _ (a_ fun K20 hK20=>b_ (L_y (Y_ Tryz.underlying179 Z cr_ Z (S16.blk 5 Z) (show _=(scA (n:Int) (m:Int) A2 ops2.length c2).toList∧_ from ⟨rfl,rfl⟩)) Z (L_o (G_ S16 1 Z Z Z cr_ Z (cY_ _ _ _ _ _) fun w17 S17=>Lan Z Z (hK20 _ _ (l_ (ur (af_ Z Z Z (S17.blk 1 Z) Tryz.underlying179 Z (by exact cr_) ?_))))))))))⟩;have S18:Zx.St w0 noM [row 221 4 A2 ops2.length c2 (ops2.flatMap opf),fam (ps2.map bE_)] w17:=S17.sel [6,7] (by decide);exact ⟨_,rfl,S17.like0,A2,c2,ops2,sepL [row 221 4 A2 ops2.length c2 (ops2.flatMap opf),fam (ps2.map bE_)],rfl,S18.getAll,(fun i hi=>by obtain ⟨r,hr,hd⟩:=hi;have h:=(S18.res r hr).2 i hd;exact ⟨h.2.resolve_right (fun q=>q),h.1⟩),(fun W h=>⟨cd_ (h.1 (row 221 4 A2 ops2.length c2 (ops2.flatMap opf)) (List.mem_cons_self ..)).1,okO_of hin2 (h.1 (fam (ps2.map bE_)) (List.mem_cons_of_mem _ (List.mem_cons_self ..))).1⟩),hmk.done (by omega) (by rw [hmn];exact hov)⟩
end Del
namespace Pak
open Go.RowKit Zk Zx
open Sha (N bC_ cu_ cZ_ dN_ dM_)
open Go.Proofs.YtgaklngnfecdaaaGreat.Obj (ad_ bG_ aC_ V_ az_ aL_ zB A_ aI_)
open Oct (vaN rwL rwP rwE rnL rnP rnE be vr tl x_)
open Del (scA opf OP OkO mkV bm_ cy_ ag_ bW_)
open Del (nL nL_app)
structure QOk (w0 w:World) (p:Part) (r:Int × List UInt8) (q:Part):Prop where
  ok:q.ok w
  val:q.l=r.2
  src:(r.1 = -1∧q=p)∨(0≤r.1∧∀ ad,0 < q.n→q.A=some ad→w0.heap.size≤ad.block)
theorem QOk.like {w0 w w':World} {p:Part} {r:Int × List UInt8} {q:Part} (h:QOk w0 w p r q) (l:Like w w'):QOk w0 w' p r q:=⟨Rs.like h.ok l,h.val,h.src⟩
theorem iw_ {os:List Ob} {x:List UInt8} {ks:List Nat} {i k:Nat} {r:Int × List UInt8} (hk:ks[i]?=some k):shF os x (ks.take (i+1)) r=stepS os x (shF os x (ks.take i) r) k:=by
  unfold shF
  rw [List.take_add_one,hk,List.foldl_append]
  rfl
def ShortV (w0 w':World) (p:Part) (r:Int × List UInt8) (u:Value):Prop:=∃ q:Part,u=.tuple #[.int .i64 r.1,pv q]∧QOk w0 w' p r q
theorem shortest (g:Nat) (x0 x2:Value) (A1:Option Addr) (n1 c1:Nat) (A3:Option Addr) (n3 c3:Nat) (its:List It) (os:List Ob) (kind chain:Int) (p:Part) (w0:World) (hg:Blk w0 g 113 #[x0,.slice A1 n1 c1,x2,.slice A3 n3 c3]) (hits:Rs w0 2 A1 n1 c1 (its.flatMap itf)) (hds:Rs w0 1 A3 n3 c3 (os.map eV_)) (hio:Same its os) (hn9:n1≤100000) (hok:OkI w0 its) (hsm:∀ x ∈ its,x.p.n≤300) (hp:p.ok w0) (hp3:p.n≤300) :
    Calls Tryz.prog 90 #[.pointer (some ⟨g,0,none⟩),.agg #[.int .i64 kind,pv p],.int .i64 chain] w0 fun e w'=>∃ u,e=.returned u∧Like w0 w'∧ShortV w0 w' p (dR_ os chain kind p.l) u:=by
 refine v_ (env:=[(0,.pointer (some ⟨g,0,none⟩)),(1,.agg #[.int .i64 kind,pv p]),(2,.int .i64 chain)]) [.pointer (some ⟨g,0,none⟩),.agg #[.int .i64 kind,pv p],.int .i64 chain] Tryz.func90 Z Tryz.ntmps90 Z Z ?_;have hn1:=cL_ hits;have hsl:=hio.len;have hn3:=hds.len;rw [List.length_map] at hn3;have hcap1:=hits.cap;have hcap3:=hds.cap;have hmax1:=hits.max;have hmax3:=hds.max;have S0:=St.start w0 noM;refine a_ fun K1 hK1=>b_ (L_o (bO_ Z S0 Z fun b1 w1 hb1 S1=>La Z Z (Lan Z Z (hK1 _ _ (a_ fun K2 hK2=>ak_ [(0,true),(1,true),(2,true),(3,true)] aS_ (by kernel_rfl) fun w2 l2=>have S2:=S1.like l2;u_ Z (g_ 1 Tryz.underlying65 Z br_ Z Z Z) Z (u_ Z (t_ Tryz.underlying22 Z Z (((S2.blk 0 Z).cell _).trans (by rfl))) Z ?_))))));refine u_ Z (J_ Z) Z (u_ Z (J_ Z) Z (aH_ (hK2 _ _ (a_ fun K3 hK3=>a_ fun K4 hK4=>Rm Z Z (L_y (g_ 0 Tryz.underlying65 Z sz3 Z Z Z) Z (L_y (t_ Tryz.underlying3 Z Z (((S2.blk 0 Z).cell _).trans (by rfl))) Z ?_))))));refine Lm Z Z (L_o (n_ Tryz.func120 Z Z (candidates g x0 x2 A1 n1 c1 A3 n3 c3 its os kind chain w2 (S2.rdB hg) (S2.rd hits) (S2.rd hds) hio (by omega)) Z Z ?_));rintro e3 w3 ⟨v3,rfl,l3,A3,c3,rfl,O3⟩;refine ⟨_,rfl,(have S3:=S2.adopt l3 O3;have hc0:=S3.row 1 Z;have hlk0:Like w0 w3:=S3.like0;L_y (I_ Tryz.underlying111 Z) Z (Lm Z Z (f_ (hK4 _ _ (r_ ?_)))))⟩;refine df_ [(0,_),(4,_),(22,_),(23,_)] (fun (i:Nat) (r:Int × List UInt8) (q:Part)=>[(24,.int .i64 (i:Int)),(8,.int .i64 r.1),(9,pv q)]) (fun (i:Nat) (r:Int × List UInt8) (q:Part)=>(aV_ os kind chain os.length 0).length - i) (fun (i:Nat) (r:Int × List UInt8) (q:Part) (w:World)=>(i≤(aV_ os kind chain os.length 0).length∧r=(shF os p.l ((aV_ os kind chain os.length 0).take i) (-1,p.l)))∧Like w0 w∧Rs w 1 A3 (aV_ os kind chain os.length 0).length c3 (nL (aV_ os kind chain os.length 0))∧QOk w0 w p r q∧Blk w b1 65 #[.int .i64 kind,pv p]) 0 (-1,p.l) p (Sc Z (Sc Z (Sc Z (Sub.nil _)))) (Sub.cons Z Z (Sub.cons Z Z (Sub.cons Z Z (Sub.cons Z Z (Sub.nil _))))) ?_ ?_
 ·
  exact ⟨⟨by omega,rfl⟩,hlk0,hc0,⟨S3.rd hp,rfl,.inl ⟨rfl,rfl⟩⟩,S3.blk 0 Z⟩
 ·
  intro i r q w4 hrel;obtain ⟨⟨hi,hr⟩,hlk,hc,hq,hb1⟩:=hrel;subst hr;have S4:=St.start w4 noM;have hsz1:=hlk.size;refine a_ fun K5 hK5=>b_ (L_y (L_ Z Z) Z (f_ (hK5 _ _ (a_ fun K6 hK6=>?_))));refine o_ Z (fun h25=>?_) (fun h25=>?_)
  ·
   obtain ⟨k,hk⟩:∃ k,(aV_ os kind chain os.length 0)[i]?=some k:=⟨_,List.getElem?_eq_getElem (by omega)⟩;obtain ⟨hko,o,ho,_,_⟩:=iJ_ _ _ k (List.mem_of_getElem? hk);obtain ⟨x,hx,hxk,hxl⟩:=hio.at ho;have hxo:x.p.ok w0:=hok.at hx;have hxs:=hsm x (List.mem_of_getElem? hx);have hcc:=hc.cap;have hcm:=hc.max;have hxb:=hxo.lenb;have hpb:=hp.lenb;have hql:=hq.ok.lenb;refine j_ (hK6 _ _ (a_ fun K7 hK7=>r_ (a_ fun K8 hK8=>b_ (L_y (T_ Tryz.underlying111 sz3 Z Z (S4.rd hc) inferInstance (by omega)) Z (L_y (cj_ Tryz.underlying3 Z Z (S4.rd hc) (nL_get hk)) Z (Lan Z Z (hK8 _ _ (a_ fun K9 hK9=>cH_ (fun w=>Like w4 w) aS_ (by kernel_rfl) (fun w l=>(S4.like l).like0) fun w5 l5=>?_))))))));have S5:=S4.like l5;refine aj_ 0 (by kernel_rfl) Z (p_ Z) Z (aj_ 1 (by kernel_rfl) Z (E_ Z) Z (aj_ 2 (by kernel_rfl) Z (g_ 1 Tryz.underlying113 Z sz48 Z Z Z) Z (aj_ 3 (by kernel_rfl) Z (eZ_ fun w hw=>t_ Tryz.underlying48 Z Z (((hg.below (hlk.trans hw) hg.lt).cell _).trans (by rfl))) Z ?_)));refine aj_ 4 (by kernel_rfl) Z (p_ Z) Z (aj_ 5 (by kernel_rfl) Z (T_ Tryz.underlying48 gx_ Z Z (hits.like (hlk.trans S5.like0)) inferInstance (by omega)) Z (aj_ 6 (by kernel_rfl) Z (aE_ 1 Tryz.underlying65 Z br_ Z Z (hits.like (hlk.trans S5.like0)) (by omega) Z) Z (aj_ 7 (by kernel_rfl) Z (eZ_ fun w hw=>cl_ Tryz.underlying22 Z Z (hits.like (hlk.trans hw)) (by omega) ((by_ itf 2 bU_ its k x hx 1 (by omega)).trans (by rfl))) Z ?_)));refine aj_ 8 (by kernel_rfl) Z (g_ 1 Tryz.underlying65 Z br_ Z Z Z) Z (aj_ 9 (by kernel_rfl) Z (eZ_ fun w hw=>t_ Tryz.underlying22 Z Z (((hb1.below hw hb1.lt).cell _).trans (by rfl))) Z ?_);refine jO_ 10 14 (by kernel_rfl) Z Z ?_ ?_
   ·
    refine n_ Tryz.func121 Z Z (Del.pmakeH _ _ _ _ _ _ x.p.l p.l w5 (Rs.like hxo (hlk.trans S5.like0)) (Rs.like hp (hlk.trans S5.like0)) (by omega) (by omega)) Z Z ?_;rintro e6 w6 ⟨v6,rfl,l6,A6,c6,ops6,R6,rfl,hh6,dd6,hr6,hv6⟩;refine ⟨_,rfl,(have S6:=S5.new l6 _ hh6 dd6;⟨S6.like0,(aj_ 11 (by kernel_rfl) Z (p_ Z) Z (aj_ 12 (by kernel_rfl) Z (m_ Z Z) Z (aj_ 13 (by kernel_rfl) Z (m_ Z Z) Z (aX_ 14 (by kernel_rfl) Z (H_ iM_ S6 Z fun b7 w7 hb7 S7=>⟨S7.like0,(aX_ 15 (by kernel_rfl) Z (G_ S7 1 Z Z Z cr_ (by rfl) (by intro u hu;simp [scA] at hu;rcases hu with rfl | rfl | rfl <;> rfl) fun w8 S8=>?_))⟩)))))⟩)⟩;refine ⟨S8.like0,(aj_ 16 (by kernel_rfl) Z (J_ Z) Z (cB_ (by kernel_rfl) (hK9 _ _ (a_ fun K10 hK10=>a_ fun K11 hK11=>Rm Z Z (L_y (ab_ Z Z) Z (f_ (hK11 _ _ ?_)))))))⟩;refine o_ Z (fun h43=>?_) (fun h43=>?_)
    ·
     exact absurd Z h43
    ·
     refine j_ (hK10 _ _ (a_ fun K12 hK12=>b_ (L_y (Y_ Tryz.underlying179 Z cr_ Z (S8.blk 1 Z) (show _=(scA (x.p.n:Int) (p.n:Int) _ _ _).toList∧_ from ⟨rfl,rfl⟩)) Z (L_o (n_ Tryz.func122 Z Z (Del.pputM (x:=x.p.l) (y:=p.l) (by omega) (by omega) A6 c6 ops6 _ _ w8 (hr6 _ (S8.get 0 Z)).1 (hr6 _ (S8.get 0 Z)).2 hv6 (by omega) (by omega)) Z Z ?_)))));rintro e9 w9 ⟨v9,rfl,l9,A9,c9,rfl,O9⟩;refine ⟨_,rfl,(have S9:=S8.adopt l9 O9;have hlk3:Like w4 w9:=S9.like0;have hd9:Rs w9 1 A9 (scB x.p.l p.l).length c9 (bL (scB x.p.l p.l)):=S9.row 2 Z;have hf9:=(Fr.of_own (S9.own 2 Z)).2;have hb4:=hb1.below hlk3 hb1.lt;have hlk4:=hlk.trans hlk3;have hc4:=hc.like hlk3;have hq4:=hq.like hlk3;have hsz9:=hlk.size;Lm Z Z (L_y (m_ Z Z) Z (L_y (m_ Z Z) Z (La Z Z ?_))))⟩;refine Lan Z Z (hK12 _ _ (a_ fun K13 hK13=>Rm Z Z (L_y (am_ Z Z) Z (Lm Z Z ?_))));refine y_ 51 Z (fun h51=>?_) (fun h51=>?_)
     ·
      refine d_ Z Z (Lm Z Z (d_ Z Z (L_y (I_ Tryz.underlying22 Z) Z (d_ Z Z (Lm Z Z (d_ Z Z (L_y (I_ Tryz.underlying22 Z) Z (d_ Z Z (L_y (L_ Z Z) Z (Lp Z Z Z (f_ (hK13 _ _ ?_))))))))))));refine o_ Z (fun h57=>?_) (fun h57=>?_)
      ·
       have hlen:=h57;refine Rm Z Z (Lm Z Z (La Z Z (Lan Z Z (hK7 _ _ (b_ (L_y (w_ Z Z (z_ (by omega))) Z (Lm Z Z (f_ ?_))))))));have hst:shF os p.l ((aV_ os kind chain os.length 0).take (i+1)) (-1,p.l)=((k:Int),scB x.p.l p.l):=by rw [iw_ hk,hxl];exact fK_ ho (by rw [← hq.val,hq.ok.lenb];rw [hxl] at hlen;first | exact Int.ofNat_lt.1 hlen | exact fun h=>hlen (Int.ofNat_lt.2 h))
       have hqn2:QOk w0 w9 p ((k:Int),scB x.p.l p.l) ⟨A9,(scB x.p.l p.l).length,c9,scB x.p.l p.l⟩:=⟨hd9,rfl,.inr ⟨by show (0:Int)≤(k:Int);omega,fun ad h1 h2=>Nat.le_trans hsz9 (hf9 ad h1 h2)⟩⟩;refine ⟨i+1,_,⟨A9,(scB x.p.l p.l).length,c9,scB x.p.l p.l⟩,by omega,⟨⟨by omega,hst.symm⟩,hlk4,hc4,hqn2,hb4⟩,?_⟩;exact (Sc Z (Sc Z (Sc Z (Sub.cons Z Z (Sub.cons Z Z (Sub.cons Z Z (Sub.cons Z Z (Sub.nil _))))))))
      ·
       have hlen:=h57;refine j_ (hK7 _ _ (b_ (L_y (w_ Z Z (z_ (by omega))) Z (Lm Z Z (f_ ?_)))));have hst:shF os p.l ((aV_ os kind chain os.length 0).take (i+1)) (-1,p.l)=(shF os p.l ((aV_ os kind chain os.length 0).take i) (-1,p.l)):=by rw [iw_ hk];exact hf_ ho (by rw [← hq.val,hq.ok.lenb];rw [hxl] at hlen;first | exact Int.ofNat_lt.1 hlen | exact fun h=>hlen (Int.ofNat_lt.2 h))
       have hqn2:=hq4;refine ⟨i+1,_,q,by omega,⟨⟨by omega,hst.symm⟩,hlk4,hc4,hqn2,hb4⟩,?_⟩;exact (Sc Z (Sc Z (Sc Z (Sub.cons Z Z (Sub.cons Z Z (Sub.cons Z Z (Sub.cons Z Z (Sub.nil _))))))))
     ·
      exact absurd Z h51
   ·
    refine H_ iM_ S5 Z fun b11 w11 hb11 S11=>⟨S11.like0,(aX_ 10 (by kernel_rfl) Z (n_ Tryz.func121 Z Z (Del.pmakeH _ _ _ _ _ _ x.p.l p.l w11 (Rs.like hxo (hlk.trans S11.like0)) (Rs.like hp (hlk.trans S11.like0)) (by omega) (by omega)) Z Z ?_))⟩;rintro e12 w12 ⟨v12,rfl,l12,A12,c12,ops12,R12,rfl,hh12,dd12,hr12,hv12⟩;refine ⟨_,rfl,(have S12:=S11.new l12 _ hh12 dd12;⟨S12.like0,(aj_ 11 (by kernel_rfl) Z (p_ Z) Z (aj_ 12 (by kernel_rfl) Z (m_ Z Z) Z (aj_ 13 (by kernel_rfl) Z (m_ Z Z) Z (aX_ 15 (by kernel_rfl) Z (G_ S12 0 Z Z Z cr_ (by rfl) (by intro u hu;simp [scA] at hu;rcases hu with rfl | rfl | rfl <;> rfl) fun w13 S13=>?_)))))⟩)⟩;refine ⟨S13.like0,(aj_ 16 (by kernel_rfl) Z (J_ Z) Z (cB_ (by kernel_rfl) (hK9 _ _ (a_ fun K14 hK14=>a_ fun K15 hK15=>Rm Z Z (L_y (ab_ Z Z) Z (f_ (hK15 _ _ ?_)))))))⟩;refine o_ Z (fun h43=>?_) (fun h43=>?_)
    ·
     exact absurd Z h43
    ·
     refine j_ (hK14 _ _ (a_ fun K16 hK16=>b_ (L_y (Y_ Tryz.underlying179 Z cr_ Z (S13.blk 0 Z) (show _=(scA (x.p.n:Int) (p.n:Int) _ _ _).toList∧_ from ⟨rfl,rfl⟩)) Z (L_o (n_ Tryz.func122 Z Z (Del.pputM (x:=x.p.l) (y:=p.l) (by omega) (by omega) A12 c12 ops12 _ _ w13 (hr12 _ (S13.get 1 Z)).1 (hr12 _ (S13.get 1 Z)).2 hv12 (by omega) (by omega)) Z Z ?_)))));rintro e14 w14 ⟨v14,rfl,l14,A14,c14,rfl,O14⟩;refine ⟨_,rfl,(have S14:=S13.adopt l14 O14;have hlk3:Like w4 w14:=S14.like0;have hd9:Rs w14 1 A14 (scB x.p.l p.l).length c14 (bL (scB x.p.l p.l)):=S14.row 2 Z;have hf9:=(Fr.of_own (S14.own 2 Z)).2;have hb4:=hb1.below hlk3 hb1.lt;have hlk4:=hlk.trans hlk3;have hc4:=hc.like hlk3;have hq4:=hq.like hlk3;have hsz9:=hlk.size;Lm Z Z (L_y (m_ Z Z) Z (L_y (m_ Z Z) Z (La Z Z ?_))))⟩;refine Lan Z Z (hK16 _ _ (a_ fun K17 hK17=>Rm Z Z (L_y (am_ Z Z) Z (Lm Z Z ?_))));refine y_ 51 Z (fun h51=>?_) (fun h51=>?_)
     ·
      refine d_ Z Z (Lm Z Z (d_ Z Z (L_y (I_ Tryz.underlying22 Z) Z (d_ Z Z (Lm Z Z (d_ Z Z (L_y (I_ Tryz.underlying22 Z) Z (d_ Z Z (L_y (L_ Z Z) Z (Lp Z Z Z (f_ (hK17 _ _ ?_))))))))))));refine o_ Z (fun h57=>?_) (fun h57=>?_)
      ·
       have hlen:=h57;refine Rm Z Z (Lm Z Z (La Z Z (Lan Z Z (hK7 _ _ (b_ (L_y (w_ Z Z (z_ (by omega))) Z (Lm Z Z (f_ ?_))))))));have hst:shF os p.l ((aV_ os kind chain os.length 0).take (i+1)) (-1,p.l)=((k:Int),scB x.p.l p.l):=by rw [iw_ hk,hxl];exact fK_ ho (by rw [← hq.val,hq.ok.lenb];rw [hxl] at hlen;first | exact Int.ofNat_lt.1 hlen | exact fun h=>hlen (Int.ofNat_lt.2 h))
       have hqn2:QOk w0 w14 p ((k:Int),scB x.p.l p.l) ⟨A14,(scB x.p.l p.l).length,c14,scB x.p.l p.l⟩:=⟨hd9,rfl,.inr ⟨by show (0:Int)≤(k:Int);omega,fun ad h1 h2=>Nat.le_trans hsz9 (hf9 ad h1 h2)⟩⟩;refine ⟨i+1,_,⟨A14,(scB x.p.l p.l).length,c14,scB x.p.l p.l⟩,by omega,⟨⟨by omega,hst.symm⟩,hlk4,hc4,hqn2,hb4⟩,?_⟩;exact (Sc Z (Sc Z (Sc Z (Sub.cons Z Z (Sub.cons Z Z (Sub.cons Z Z (Sub.cons Z Z (Sub.nil _))))))))
      ·
       have hlen:=h57;refine j_ (hK7 _ _ (b_ (L_y (w_ Z Z (z_ (by omega))) Z (Lm Z Z (f_ ?_)))));have hst:shF os p.l ((aV_ os kind chain os.length 0).take (i+1)) (-1,p.l)=(shF os p.l ((aV_ os kind chain os.length 0).take i) (-1,p.l)):=by rw [iw_ hk];exact hf_ ho (by rw [← hq.val,hq.ok.lenb];rw [hxl] at hlen;first | exact Int.ofNat_lt.1 hlen | exact fun h=>hlen (Int.ofNat_lt.2 h))
       have hqn2:=hq4;refine ⟨i+1,_,q,by omega,⟨⟨by omega,hst.symm⟩,hlk4,hc4,hqn2,hb4⟩,?_⟩;exact (Sc Z (Sc Z (Sc Z (Sub.cons Z Z (Sub.cons Z Z (Sub.cons Z Z (Sub.cons Z Z (Sub.nil _))))))))
     ·
      exact absurd Z h51
  ·
   refine K_ (hK3 _ _ (a_ fun K18 hK18=>Rm Z Z (Lm Z Z (La Z Z (Lan Z Z (hK18 _ _ (l_ (ur (bj_ Z Z Z ?_)))))))));obtain rfl:i=(aV_ os kind chain os.length 0).length:=by omega
   rw [List.take_length] at hq;exact ⟨_,rfl,hlk,q,by rw [List.take_length];rfl,hq⟩
end Pak
namespace Pak
open Go.RowKit Zk Zx
open Oct
section
variable {x1 x2 x3 : Value}
def wu (x1 x2 x3:Value) (g:Nat) (A:Option Addr) (n c:Nat) (l:List UInt8):Res:=both (blk g 113 #[.slice A n c,x1,x2,x3]) (row 5 1 A n c (bL l))
theorem gZ_ {w:World} {g n c:Nat} {A:Option Addr} {l:List UInt8} (h:(wu x1 x2 x3 g A n c l).holds w):∀ i,(blk g 113 #[.slice A n c,x1,x2,x3]).dom i→¬ (row 5 1 A n c (bL l)).dom i:=fun i hi hr=>by
  have hi':i=g:=hi
  subst hi'
  exact gO_ (e:=5) h.2 h.1 (by decide) hr
theorem wu_lt {w:World} {g n c:Nat} {A:Option Addr} {l:List UInt8} (h:(wu x1 x2 x3 g A n c l).holds w):∀ i,(wu x1 x2 x3 g A n c l).dom i→i < w.heap.size:=fun i hi=>by
  rcases hi with hi | hi
  · have hi':i=g:=hi
    subst hi'
    exact Blk.lt h.1
  · exact (World.ownsRow.lt h.2 i hi).2
theorem ew_ {w:World} {g n c:Nat} {A:Option Addr} {l:List UInt8} (h:(wu x1 x2 x3 g A n c l).holds w):l.length=n:=by
  have:=h.2.1
  simpa using this
def fC_ (x1 x2 x3:Value) (w w':World) (g:Nat) (A:Option Addr) (n c:Nat) (l m:List UInt8):Prop:=∃ A' n' c',Turned w w' (wu x1 x2 x3 g A n c l) (wu x1 x2 x3 g A' n' c' m)
theorem fC_.of {w w':World} {g n c n' c':Nat} {A A':Option Addr} {l m:List UInt8} {X:Array Value} {ys:List Value} (h:Turned w w' (wu x1 x2 x3 g A n c l) (both (blk g 113 X) (row 5 1 A' n' c' ys))) (hX:X = #[.slice A' n' c',x1,x2,x3]) (hy:ys=bL m):fC_ x1 x2 x3 w w' g A n c l m:=by
  subst hX
  subst hy
  exact ⟨A',n',c',h⟩
theorem fC_.refl {w:World} {g n c:Nat} {A:Option Addr} {l:List UInt8} (h:(wu x1 x2 x3 g A n c l).holds w):fC_ x1 x2 x3 w w g A n c l l:=⟨A,n,c,Turned.refl h⟩
theorem fC_.same {w w':World} {g n c:Nat} {A:Option Addr} {l m:List UInt8} (h:fC_ x1 x2 x3 w w' g A n c l m):∃ A' c',Turned w w' (wu x1 x2 x3 g A n c l) (wu x1 x2 x3 g A' m.length c' m):=by
  obtain ⟨A',n',c',h⟩:=h
  have:=ew_ h.holds
  subst this
  exact ⟨A',c',h⟩
theorem iU_ (g:Nat) (A:Option Addr) (n c:Nat) (l:List UInt8) (x:UInt8) (w0:World) (hw:(wu x1 x2 x3 g A n c l).holds w0) (hn:l.length≤70368744177664) :
    Calls Tryz.prog 89 #[.pointer (some ⟨g,0,none⟩),.int .u8 (x.toNat:Int)] w0 fun e w'=>∃ u,e=.returned u∧fC_ x1 x2 x3 w0 w' g A n c l (l++[x]):=by
 refine v_ (env:=[(0,.pointer (some ⟨g,0,none⟩)),(1,.int .u8 (x.toNat:Int))]) [.pointer (some ⟨g,0,none⟩),.int .u8 (x.toNat:Int)] Tryz.func89 Z Tryz.ntmps89 Z Z ?_;have hln:=ew_ hw;have S0:=St.borrow2 (blk g 113 #[.slice A n c,x1,x2,x3]) (row 5 1 A n c (bL l)) hw.1 hw.2 (wu_lt hw) (gZ_ hw);refine a_ fun K1 hK1=>Rm Z Z (L_y (iu_ Tryz.underlying163 Z) Z (f_ (hK1 _ _ (W_ Z (Rm Z Z (Lm Z Z (L_y (E_ Z) Z (L_y (g_ 0 Tryz.underlying110 Z br_ Z Z Z) Z (L_y (t_ Tryz.underlying22 Z Z (((S0.blk 0 Z).cell _).trans (show (#[Value.slice A n c,x1,x2,x3]:Array Value)[0]?=some (Value.slice A n c) from Z))) Z (Lm Z Z ?_))))))))));refine L_o (ah_ [_] ba_ zz5 S0 Z Z Z Z Z Z Z Z fun b1 w1 S1=>L_o (ay_ ba_ S1 1 Z Z Z (by first | exact S1.row 1 Z | exact S1.row 2 Z) (by first | exact R_ _ | exact bu_ _ | (intro u hu;simp at hu;subst hu;rfl) | (simp;done) | (simp [Value.oneCell'];done)) Z (by omega) (by omega) fun A2 c2 w2 S2=>?_));have S2d:=S2.drop (rs':=[_,_]) (.cons_cons _ (.cons_cons _ (.cons _ (.refl _))));refine L_y (E_ Z) Z (L_y (g_ 0 Tryz.underlying110 Z br_ Z Z Z) Z (L_o (ac_ S2d 0 Z Z Z Z br_ (by simp;done) fun w3 S3=>?_)));refine f_ ?_;first | refine cg_ (fn:=Tryz.f89) Z ?_ | (simp only [bf_,inB,if_true];refine cg_ (fn:=Tryz.f89) Z ?_)
 exact ⟨_,rfl,fC_.of (S3.turned2 0 1 Z Z) Z (by simp [bL,bV])⟩
theorem wrawW (g:Nat) (A:Option Addr) (n c:Nat) (l:List UInt8) (B:Option Addr) (m d:Nat) (q:List UInt8) (w0:World) (hw:(wu x1 x2 x3 g A n c l).holds w0) (hp:Rs w0 1 B m d (bL q)) (hn:l.length+m≤70368744177664) :
    Calls Tryz.prog 55 #[.pointer (some ⟨g,0,none⟩),.slice B m d] w0 fun e w'=>∃ u,e=.returned u∧fC_ x1 x2 x3 w0 w' g A n c l (l++q):=by
 refine v_ (env:=[(0,.pointer (some ⟨g,0,none⟩)),(1,.slice B m d)]) [.pointer (some ⟨g,0,none⟩),.slice B m d] Tryz.func55 Z Tryz.ntmps55 Z Z ?_;have hln:=ew_ hw;have S0:=St.borrow2 (blk g 113 #[.slice A n c,x1,x2,x3]) (row 5 1 A n c (bL l)) hw.1 hw.2 (wu_lt hw) (gZ_ hw);refine a_ fun K1 hK1=>Rm Z Z (L_y (iu_ Tryz.underlying163 Z) Z (f_ (hK1 _ _ (W_ Z (Rm Z Z (Lm Z Z (L_y (E_ Z) Z (L_y (g_ 0 Tryz.underlying110 Z br_ Z Z Z) Z (L_y (t_ Tryz.underlying22 Z Z (((S0.blk 0 Z).cell _).trans (show (#[Value.slice A n c,x1,x2,x3]:Array Value)[0]?=some (Value.slice A n c) from Z))) Z (Lm Z Z ?_))))))))));refine L_o (ay_ ba_ S0 1 Z Z Z (hp) (R_ _) Z (by omega) (by omega) fun A1 c1 w1 S1=>L_y (E_ Z) Z (L_y (g_ 0 Tryz.underlying110 Z br_ Z Z Z) Z (L_o (ac_ S1 0 Z Z Z Z br_ (by simp;done) fun w2 S2=>?_))));refine f_ ?_;first | refine cg_ (fn:=Tryz.f55) Z ?_ | (simp only [bf_,inB,if_true];refine cg_ (fn:=Tryz.f55) Z ?_)
 have hE:=S2.turned2 0 1 Z Z;exact ⟨_,rfl,fC_.of hE Z (by simp [bL])⟩
theorem wlenW (g:Nat) (A:Option Addr) (n c:Nat) (l:List UInt8) (w0:World) (hw:(wu x1 x2 x3 g A n c l).holds w0) :
    Calls Tryz.prog 58 #[.pointer (some ⟨g,0,none⟩)] w0 fun e w'=>∃ u,e=.returned u∧Like w0 w'∧u=.int .i64 (n:Int):=by
 refine v_ (env:=[(0,.pointer (some ⟨g,0,none⟩))]) [.pointer (some ⟨g,0,none⟩)] Tryz.func58 Z Tryz.ntmps58 Z Z ?_;have S0:=St.start w0 noM;refine a_ fun K1 hK1=>b_ (Lan Z Z (hK1 _ _ (a_ fun K2 hK2=>a_ fun K3 hK3=>Rm Z Z (L_y (eY_ Tryz.underlying163 Z) Z (f_ (hK3 _ _ (aW_ Z (j_ ?_))))))));refine hK2 _ _ (a_ fun K4 hK4=>Rm Z Z (L_y (E_ Z) Z (L_y (g_ 0 Tryz.underlying110 Z br_ Z Z Z) Z (L_y (t_ Tryz.underlying22 Z Z ((hw.1.cell _).trans (show (#[Value.slice A n c,x1,x2,x3]:Array Value)[0]?=some (Value.slice A n c) from Z))) Z (L_y (I_ Tryz.underlying22 Z) Z (Lan Z Z (hK4 _ _ (l_ (ur (F_ Z Z ?_))))))))));exact ⟨_,rfl,S0.like0,rfl⟩
theorem wu32W (g:Nat) (A:Option Addr) (n c:Nat) (l:List UInt8) (x:Nat) (w0:World) (hw:(wu x1 x2 x3 g A n c l).holds w0) (hx:x≤4294967295) (hn:l.length≤70368744177000) :
    Calls Tryz.prog 56 #[.pointer (some ⟨g,0,none⟩),.int .u32 (x:Int)] w0 fun e w'=>∃ u,e=.returned u∧fC_ x1 x2 x3 w0 w' g A n c l (l++tl x 4):=by
 refine v_ (env:=[(0,.pointer (some ⟨g,0,none⟩)),(1,.int .u32 (x:Int))]) [.pointer (some ⟨g,0,none⟩),.int .u32 (x:Int)] Tryz.func56 Z Tryz.ntmps56 Z Z ?_;have hln:=ew_ hw;have S0:=St.borrow1 (wu x1 x2 x3 g A n c l) hw (wu_lt hw);refine a_ fun K1 hK1=>Rm Z Z (L_y (dk_ Z Z) Z (Lan Z Z (hK1 _ _ (a_ fun K2 hK2=>b_ (Lan Z Z (hK2 _ _ (r_ ?_)))))));refine an_ [(1,_),(4,_)] (fun (k:Nat)=>[(5,.int .i64 (24 - 8*(k:Int)))]) (fun (k:Nat)=>4 - k) (fun (k:Nat) (w:World)=>k≤4∧∃ A1 n1 c1,St w0 (wu x1 x2 x3 g A n c l).dom [wu x1 x2 x3 g A1 n1 c1 (l++(tl x 4).take k)] w) 0 (Sc Z (Sub.nil _)) (Sub.cons Z Z (Sub.cons Z Z (Sub.nil _))) ?_ ?_
 ·
  exact ⟨Nat.zero_le _,_,_,_,by simpa using S0⟩
 ·
  intro k w1 hrel;obtain ⟨hk,A1,n1,c1,S1⟩:=hrel;refine a_ fun K3 hK3=>a_ fun K4 hK4=>Rm Z Z (L_y (cq_ Z Z) Z (f_ (hK4 _ _ ?_)));refine o_ Z (fun h9=>?_) (fun h9=>?_)
  ·
   refine j_ (hK3 _ _ (a_ fun K5 hK5=>r_ (Rm Z Z (Lm Z Z (Lm Z Z (L_y (P_ is3 Tryz.underlying68 Z (dg_ (by omega))) Z (L_y (eJ_ Z Z (by omega) (shr24 x k (by omega))) Z (L_y (P_ is63 Tryz.underlying5 Z (Oct.byteOf _)) Z (L_o (fj_ Z Tryz.func89 Z Z (iU_ g A1 n1 c1 (l++(tl x 4).take k) (UInt8.ofNat (x / 256 ^ (4 - 1 - k) % 256)) w1 (S1.get 0 Z) (by simp [x_];omega)) Z Z (fun d' hd=>by cases hd <;> rfl) ?_))))))))));rintro e2 w2 ⟨v2,rfl,⟨A2,n2,c2,T2⟩⟩;refine ⟨_,rfl,(have S2:=S1.turn 0 Z T2;f_ (hK5 _ _ (Rm Z Z (L_y (ax_ Z Z (z_ (by omega))) Z (Lan Z Z (⟨k+1,by omega,⟨by omega,_,_,_,by rw [tl_take x 4 k (by omega), ← List.append_assoc];exact S2⟩,?_⟩))))))⟩;exact (Sub.cons Z (congrArg (Value.int _) (by omega)) (Sub.cons Z Z (Sub.cons Z Z (Sub.nil _))))
  ·
   have hk4:k=4:=by omega
   subst hk4;refine K_ ?_;first | refine cg_ (fn:=Tryz.f56) Z ?_ | (simp only [bf_,inB,if_true];refine cg_ (fn:=Tryz.f56) Z ?_)
   exact ⟨_,rfl,A1,n1,c1,by simpa [List.take_of_length_le,x_] using S1.turned1 0 Z⟩
theorem wvarW (g:Nat) (A:Option Addr) (n c:Nat) (l:List UInt8) (x:Nat) (w0:World) (hw:(wu x1 x2 x3 g A n c l).holds w0) (hx:x≤18446744073709551615) (hn:l.length≤70368744176000) :
    Calls Tryz.prog 91 #[.pointer (some ⟨g,0,none⟩),.int .u64 (x:Int)] w0 fun e w'=>∃ u,e=.returned u∧fC_ x1 x2 x3 w0 w' g A n c l (l++vr x):=by
 refine v_ (env:=[(0,.pointer (some ⟨g,0,none⟩)),(1,.int .u64 (x:Int))]) [.pointer (some ⟨g,0,none⟩),.int .u64 (x:Int)] Tryz.func91 Z Tryz.ntmps91 Z Z ?_;have hln:=ew_ hw;have S0:=St.borrow1 (wu x1 x2 x3 g A n c l) hw (wu_lt hw);refine a_ fun K1 hK1=>Rm Z Z (L_y (dk_ Z Z) Z (Lan Z Z (hK1 _ _ (a_ fun K2 hK2=>r_ ?_))));refine bX_ [(4,_)] (fun (y:Nat) (m:List UInt8)=>[(1,.int .u64 (y:Int))]) (fun (y:Nat) (m:List UInt8)=>y) (fun (y:Nat) (m:List UInt8) (w:World)=>(m++vr y=l++vr x∧y≤x∧m.length+(vr y).length≤70368744177000)∧∃ A1 n1 c1,St w0 (wu x1 x2 x3 g A n c l).dom [wu x1 x2 x3 g A1 n1 c1 m] w) x l (Sc Z (Sub.nil _)) (Sub.cons Z Z (Sub.nil _)) ?_ ?_
 ·
  have:=cw_ x hx;exact ⟨⟨rfl,Nat.le_refl _,by omega⟩,_,_,_,S0⟩
 ·
  intro y m w1 hrel;obtain ⟨⟨hm,hy,hml⟩,A1,n1,c1,S1⟩:=hrel;have hg:m.length≤70368744177000:=by omega
  refine a_ fun K3 hK3=>a_ fun K4 hK4=>Rm Z Z (L_y (cq_ Z Z) Z (f_ (hK4 _ _ ?_)));refine o_ Z (fun h8=>?_) (fun h8=>?_)
  ·
   refine j_ (hK3 _ _ (r_ (a_ fun K5 hK5=>Rm Z Z (Lm Z Z (L_y (P_ di_ Tryz.underlying5 Z (w8 _)) Z (L_y (ae_ Z Z Z (orB _)) Z (L_o (fj_ Z Tryz.func89 Z Z (iU_ g _ _ _ _ (UInt8.ofNat (y % 128+128)) w1 (S1.get 0 Z) (by omega)) Z Z (fun d' hd=>by cases hd <;> rfl) ?_))))))));rintro e2 w2 ⟨v2,rfl,⟨A2,n2,c2,T2⟩⟩;refine ⟨_,rfl,(have S2:=S1.turn 0 Z T2;f_ (hK5 _ _ (Rm Z Z (L_y (eJ_ Z Z (by omega) (shr7 _)) Z (Lan Z Z (⟨y / 128,m++[UInt8.ofNat (y % 128+128)],by omega,⟨⟨by rw [← hm,fH_ y (by omega)];simp,by omega,by rw [fH_ y (by omega)] at hml;simp at hml ⊢;omega⟩,_,_,_,S2⟩,?_⟩))))))⟩;exact (Sc Z (Sub.cons Z Z (Sub.nil _)))
  ·
   refine K_ (hK2 _ _ (Rm Z Z (Lm Z Z (L_y (P_ di_ Tryz.underlying5 Z (w8low _ (by omega))) Z (L_o (fj_ Z Tryz.func89 Z Z (iU_ g _ _ _ _ (UInt8.ofNat y) w1 (S1.get 0 Z) (by omega)) Z Z (fun d' hd=>by cases hd <;> rfl) ?_))))));rintro e3 w3 ⟨v3,rfl,⟨A3,n3,c3,T3⟩⟩;refine ⟨_,rfl,(have S3:=S1.turn 0 Z T3;f_ ?_)⟩;first | refine cg_ (fn:=Tryz.f91) Z ?_ | (simp only [bf_,inB,if_true];refine cg_ (fn:=Tryz.f91) Z ?_)
   exact ⟨_,rfl,_,_,_,by rw [← hm,hI_ y (by omega)];exact S3.turned1 0 Z⟩
theorem wbytesW (g:Nat) (A:Option Addr) (n c:Nat) (l:List UInt8) (w0:World) (hw:(wu x1 x2 x3 g A n c l).holds w0) (hn:l.length≤70368744177000) :
    Calls Tryz.prog 59 #[.pointer (some ⟨g,0,none⟩)] w0 fun e w'=>∃ u,e=.returned u∧Like w0 w'∧∃ A' m c',u=.slice A' m c'∧w'.ownsRow w0.heap.size 5 1 (.slice A' m c') m (bL l):=by
 refine v_ (env:=[(0,.pointer (some ⟨g,0,none⟩))]) [.pointer (some ⟨g,0,none⟩)] Tryz.func59 Z Tryz.ntmps59 Z Z ?_;have hln:=ew_ hw;have S0:=St.start w0 noM;refine a_ fun K1 hK1=>b_ (Lan Z Z (hK1 _ _ (a_ fun K2 hK2=>a_ fun K3 hK3=>Rm Z Z (L_y (eY_ Tryz.underlying163 Z) Z (Lm Z Z (d_ Z Z (Lm Z Z (d_ Z Z ?_))))))));refine L_y (E_ Z) Z (d_ Z Z (L_y (g_ 0 Tryz.underlying110 Z br_ Z Z Z) Z (d_ Z Z (L_y (t_ Tryz.underlying22 Z Z (((S0.rdB hw.1).cell _).trans (show (#[Value.slice A n c,x1,x2,x3]:Array Value)[0]?=some (Value.slice A n c) from Z))) Z (d_ Z Z (L_y (I_ Tryz.underlying22 Z) Z (d_ Z Z (L_y (am_ Z Z) Z (Lp Z Z Z (f_ (hK3 _ _ ?_)))))))))));refine o_ Z (fun h12=>?_) (fun h12=>?_)
 ·
  refine a_ fun K4 hK4=>b_ (Lan Z Z (hK4 _ _ (l_ (ur (F_ Z Z ?_)))));first | exact ⟨_,rfl,S0.like0,none,0,0,rfl,by have hn0:n=0:=(by omega);subst hn0;have hl0:=List.length_eq_zero_iff.1 hln;subst hl0;exact ⟨by simp [bL],.inl ⟨rfl,rfl⟩⟩⟩ | exact ⟨_,rfl,S0.like0,_,_,_,rfl,by have:=S0.own 0 Z;simpa using this⟩
 ·
  refine j_ (hK2 _ _ (a_ fun K5 hK5=>dy_ [0,1,2,3,4,6,7,8,9,5] 10 [(0,1),(1,1),(2,1),(3,1),(4,1),(6,1),(7,1),(8,1),(9,1),(5,2),(10,3),(11,3)] aS_ (by kernel_rfl) fun w1 l1=>have S1:=S0.like l1;ga_ (Like w1) (Like.refl _) (Q_ Z (p_ Z) Z (Q_ Z (E_ Z) Z (Q_ Z (g_ 0 Tryz.underlying110 Z br_ Z Z Z) Z (Q_ Z (t_ Tryz.underlying22 Z Z (((S1.rdB hw.1).cell _).trans (show (#[Value.slice A n c,x1,x2,x3]:Array Value)[0]?=some (Value.slice A n c) from Z))) Z (Q_ Z (I_ Tryz.underlying22 Z) Z (Q_ Z (p_ Z) Z (Q_ Z (E_ Z) Z (Q_ Z (g_ 0 Tryz.underlying110 Z br_ Z Z Z) Z ?_))))))))));refine Q_ Z (t_ Tryz.underlying22 Z Z (((S1.rdB hw.1).cell _).trans (show (#[Value.slice A n c,x1,x2,x3]:Array Value)[0]?=some (Value.slice A n c) from Z))) Z (fF_ Z (o_makeL ba_ Z S1 Z Z inferInstance inferInstance Z (by omega) (by omega) (by omega) fun b2 w2 l2 S2=>have q2:=l2;⟨q2,(fZ_ Z (ay_ ba_ S2 0 Z Z Z (S2.rd (cd_ hw.2)) (R_ _) Z (by omega) (by omega) fun A3 c3 w3 S3=>dx_ Z (J_ Z) Z (cA_ (hK5 _ _ (l_ (ur (F_ Z Z ?_)))))))⟩));first | exact ⟨_,rfl,S3.like0,none,0,0,rfl,by have hn0:n=0:=(by omega);subst hn0;have hl0:=List.length_eq_zero_iff.1 hln;subst hl0;exact ⟨by simp [bL],.inl ⟨rfl,rfl⟩⟩⟩ | exact ⟨_,rfl,S3.like0,_,_,_,rfl,by have:=S3.own 0 Z;simpa using this⟩
end
end Pak
namespace Zx
open Go.RowKit Zk
section
variable {w0 w : World} {M : Nat → Prop} {rs ps : List Res} {r s : Res}
theorem St.splitAt (S:St w0 M rs w) (k:Nat) (hk:rs[k]?=some (both r s)) (hap:∀ i,r.dom i→¬ s.dom i):St w0 M (rs.set k r++[s]) w:=by
  obtain ⟨hkl,hke⟩:=List.getElem?_eq_some_iff.1 hk
  have hp:=List.pairwise_iff_getElem.1 S.apart
  have hb:=S.res (both r s) (List.mem_of_getElem? hk)
  have hne:∀ j (hj:j < rs.length),j≠k→∀ i,rs[j].dom i→¬ (both r s).dom i:=fun j hj h i hi hb2=>by
    rcases Nat.lt_or_gt_of_ne h with g | g
    · exact hp j k hj hkl g i hi (by rw [hke];exact hb2)
    · exact hp k j hkl hj g i (by rw [hke];exact hb2) hi
  refine ⟨S.os,S.tape,S.output,S.size,S.old,fun q hq=>?_,?_⟩
  · rcases List.mem_append.1 hq with hq | hq
    · rcases List.mem_or_eq_of_mem_set hq with g | g
      · exact S.res q g
      · subst g;exact ⟨hb.1.1,fun i hi=>hb.2 i (.inl hi)⟩
    · obtain rfl:=List.mem_singleton.1 hq
      exact ⟨hb.1.2,fun i hi=>hb.2 i (.inr hi)⟩
  · rw [List.pairwise_append]
    refine ⟨?_,List.pairwise_singleton _ _,fun a ha b hbm i hi hbi=>?_⟩
    · rw [List.pairwise_iff_getElem]
      intro i j hi hj hij x hx hxj
      have hi':i < rs.length:=by simpa using hi
      have hj':j < rs.length:=by simpa using hj
      rw [List.getElem_set] at hx hxj
      split at hx
      · rename_i e
        subst e
        rw [if_neg (by omega)] at hxj
        exact hne j hj' (by omega) x hxj (.inl hx)
      · rename_i e
        split at hxj
        · exact hne i hi' (fun q=>e q.symm) x hx (.inl hxj)
        · exact hp i j hi' hj' hij x hx hxj
    · obtain rfl:=List.mem_singleton.1 hbm
      obtain ⟨j,hj,rfl⟩:=List.getElem_of_mem ha
      have hj':j < rs.length:=by simpa using hj
      rw [List.getElem_set] at hi
      split at hi
      · exact hap i hi hbi
      · rename_i e
        exact hne j hj' (fun q=>e q.symm) i hi (.inr hbi)
theorem St.joinL (S:St w0 M (ps++[r,s]) w):St w0 M (ps++[both r s]) w:=by
  have hap:=List.pairwise_append.1 S.apart
  refine ⟨S.os,S.tape,S.output,S.size,S.old,fun q hq=>?_,?_⟩
  · rcases List.mem_append.1 hq with hq | hq
    · exact S.res q (List.mem_append_left _ hq)
    · obtain rfl:=List.mem_singleton.1 hq
      have h1:=S.res r (List.mem_append_right _ (by simp))
      have h2:=S.res s (List.mem_append_right _ (by simp))
      exact ⟨⟨h1.1,h2.1⟩,fun i hi=>hi.elim (h1.2 i) (h2.2 i)⟩
  · rw [List.pairwise_append]
    refine ⟨hap.1,List.pairwise_singleton _ _,fun a ha b hbm i hi hbi=>?_⟩
    obtain rfl:=List.mem_singleton.1 hbm
    rcases hbi with hbi | hbi
    · exact hap.2.2 a ha r (by simp) i hi hbi
    · exact hap.2.2 a ha s (by simp) i hi hbi
end
end Zx
end Go.Proofs.YtgaklngnfecdaaaGreat
