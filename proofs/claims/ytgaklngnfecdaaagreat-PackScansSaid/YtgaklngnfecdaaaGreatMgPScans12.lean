import Derived.Test.YtgaklngnfecdaaaGreatMgPScans11
import Derived.Test.YtgaklngnfecdaaaGreatMgPScans5
import Derived.Test.YtgaklngnfecdaaaGreatMgPScans3
set_option linter.unusedSimpArgs false
set_option linter.unusedVariables false
set_option maxRecDepth 100000
set_option maxHeartbeats 2000000
namespace Go.Proofs.YtgaklngnfecdaaaGreat
namespace Pak
open Go.RowKit Zk Zx
open Sha (N bO_ cO_ dS_ fz_ fy_)
open Go.Proofs.YtgaklngnfecdaaaGreat.Obj (ai_ bV_ aT_ Z_ aN_ be_ zB C_ aR_)
open Oct (vaN rwL rwP rwE rnL rnP rnE be vr tl N_)
open Del (scA opf OP OkO mkV bR_ dG_ aj_ bW_)
def fV_ (b:List UInt8) (k:Nat):List UInt8:=(b.drop (b.length - 32)).take k++List.replicate (32 - k) 0
theorem cW_ (b:List UInt8) (k:Nat) (h:32≤b.length) (hk:k≤32):(fV_ b k).length=32:=by
  unfold fV_
  rw [List.length_append,List.length_take,List.length_drop,List.length_replicate]
  omega
theorem fillB_set (b:List UInt8) (k:Nat) (x:UInt8) (h:32≤b.length) (hk:k < 32) (hx:b[b.length - 32+k]?=some x):(bA (fV_ b k)).setIfInBounds k (Value.int .u8 (x.toNat:Int))=bA (fV_ b (k+1)):=by
  have hx2:(b.drop (b.length - 32))[k]?=some x:=by rw [List.getElem?_drop];exact hx
  have h1:(fV_ b k).set k x=fV_ b (k+1):=by
    unfold fV_
    have hl:((b.drop (b.length - 32)).take k).length=k:=by rw [List.length_take,List.length_drop];omega
    rw [List.set_append_right _ _ (by omega),hl,Nat.sub_self,List.take_add_one,hx2,show 32 - k=(32 - (k+1))+1 by omega,List.replicate_succ,List.append_assoc]
    rfl
  unfold bA
  rw [List.setIfInBounds_toArray,bL_setX,h1]
theorem fillB_32 (b:List UInt8) (h:32≤b.length):fV_ b 32=b.drop (b.length - 32):=by
  unfold fV_
  rw [Nat.sub_self,List.replicate_zero,List.append_nil]
  exact List.take_of_length_le (by rw [List.length_drop];omega)
theorem wholeB {l:List UInt8} (h:l.length=32):((bA l).toList.drop 0).take 32=bL l∧(bL l).length=32:=by
  have h2:(bL l).length=32:=by rw [length_bL,h]
  exact ⟨by rw [List.drop_zero];exact List.take_of_length_le (Nat.le_of_eq h2),h2⟩
theorem szB {l:List UInt8} (h:l.length=32):Option.map (fun x=>x.size) (Tryz.prog.info? 41)=some (bL l).toArray.size:=by
  rw [show (bL l).toArray.size=32 by rw [List.size_toArray,length_bL,h]]
  exact af_
theorem fitB {l k:List UInt8} (h:l.length=32) (h2:k.length=32):(bL l).toArray.size=(bA k).size:=by
  rw [show (bL l).toArray.size=32 by rw [List.size_toArray,length_bL,h],size_bA,h2]
theorem arr_ne (l k:List UInt8):((⟨l.toArray⟩:ByteArray)≠⟨k.toArray⟩)↔l≠k:=by
  constructor
  · intro h e;exact h (by rw [e])
  · intro h e
    have e2:l.toArray=k.toArray:=congrArg ByteArray.data e
    exact h (by have:=congrArg Array.toList e2;simpa using this)
theorem ropen0 (B:Option Addr) (m d:Nat) (b:List UInt8) (hm5:m≤100000) (a:Int) (w:World) (hb:Rs w 1 B m d (bL b)) (ha : -9223372036854775808≤a∧a≤9223372036854775807) :
    Calls Tryz.prog 68 #[.slice B m d,.int .i64 a,.int .i64 0] w fun e w'=>∃ u,e=.returned u∧Like w w'∧OpenV w w' b a false u:=ropen B m d b a 8 w hb hm5 ha (Nat.le_refl _)
theorem be_next {b:List UInt8} {j:Nat} {x:UInt8} (hx:b[8+j]?=some x):be ((b.drop 8).take (j+1))=be ((b.drop 8).take j)*256+x.toNat:=Oct.lw_ (by rw [List.getElem?_drop];exact hx)
theorem readP_ok {b:List UInt8} {a:Int} (h:(opV b a false).1=0):readP b a=rest b 7 (opV b a false).2:=gJ_ (f:=8) h
theorem rtrailer (B:Option Addr) (m d:Nat) (b:List UInt8) (w0:World) (hb:Rs w0 1 B m d (bL b)) :
    Calls Tryz.prog 37 #[.slice B m d] w0 fun e w'=>∃ u,e=.returned u∧Like w0 w'∧u=.tuple #[.agg (bA (ev_ b)),.int .i64 (hN_ b)]:=by
 refine w_ (env:=[(0,.slice B m d)]) [.slice B m d] Tryz.func37 Z Tryz.ntmps37 Z Z ?_;have hl:=hb.lenb;have hcap:=hb.cap;have hmax:=hb.max;have S0:=St.start w0 noM;refine a_ fun K1 hK1=>b_ (L_o (E_ dm_ S0 Z fun b1 w1 hb1 S1=>have S2:=S1.blkc 0 Z (cs':=bA zB) (by kernel_rfl);Lan Z Z (hK1 _ _ (a_ fun K2 hK2=>b_ (L_o (E_ dm_ S2 Z fun b3 w3 hb3 S3=>have S4:=S3.blkc 1 Z (cs':=bA zB) (by kernel_rfl);f_ (hK2 _ _ (a_ fun K3 hK3=>?_))))))));refine a_ fun K4 hK4=>Rm Z Z (L_y (J_ Tryz.underlying22 Z) Z (L_y (H_ Z Z) Z (f_ (hK4 _ _ ?_))));refine m_ Z (fun h8=>?_) (fun h8=>?_)
 ·
  refine a_ fun K5 hK5=>b_ (L_y (W_ Tryz.underlying41 Z af_ Z (S4.blk 1 Z) (wholeB C_)) Z (L_o (B_ S4 0 Z Z Z (by first | exact szB C_ | exact szB (cW_ b 32 (by omega) (Nat.le_refl _))) (by first | rfl | exact fitB (cW_ b 32 (by omega) (Nat.le_refl _)) C_) (Sha.cw_ _) fun w5 S5=>?_)));refine Lan Z Z (hK5 _ _ (l_ (ur (X_ Z Z Z (S5.blk 0 Z) Tryz.underlying41 Z (by first | exact af_ | exact szB (cW_ b 32 (by omega) (Nat.le_refl _))) ?_))));obtain ⟨t1,t2⟩:=eM_ (b:=b) (by omega);exact ⟨_,rfl,S5.like0,by rw [t1,t2] <;> rfl⟩
 ·
  refine j_ (hK3 _ _ (a_ fun K6 hK6=>a_ fun K7 hK7=>b_ (Lan Z Z (hK7 _ _ (u_ ?_)))));refine ap_ [(0,_),(2,_),(4,_)] (fun (k:Nat)=>[(5,.int .i64 (k:Int))]) (fun (k:Nat)=>32 - k) (fun (k:Nat) (w:World)=>k≤32∧Zx.St w0 noM [blk b1 41 (bA zB),blk b3 41 (bA (fV_ b k))] w) 0 (Sc Z (Sub.nil _)) (Sub.cons Z Z (Sub.cons Z Z (Sub.cons Z Z (Sub.nil _)))) ?_ ?_
  ·
   exact ⟨by omega,S4⟩
  ·
   intro k w6 hrel;obtain ⟨hk,S6⟩:=hrel;refine a_ fun K8 hK8=>a_ fun K9 hK9=>Rm Z Z (L_y (H_ Z Z) Z (f_ (hK9 _ _ ?_)));refine m_ Z (fun h11=>?_) (fun h11=>?_)
   ·
    obtain ⟨x,hx⟩:∃ x,b[m - 32+k]?=some x:=⟨_,List.getElem?_eq_getElem (by omega)⟩;refine j_ (hK8 _ _ (a_ fun K10 hK10=>u_ (Rm Z Z (Lm Z Z (Lm Z Z (L_y (J_ Tryz.underlying22 Z) Z (L_y (am_ Z Z (z_ (by omega))) Z (Lm Z Z (L_y (v_ Z Z (z_ (by omega))) Z (L_y (ab_ Tryz.underlying22 sz5 Z Z (S6.rd hb) (Nt.mk (by omega):Nt _ (m - 32+k)) (by omega)) Z (L_y (ck_ Tryz.underlying5 Z Z (S6.rd hb) (cC_ _ _ _ hx)) Z ?_)))))))))));refine L_y (ac_ Tryz.underlying41 sz5 Z Z inferInstance (by omega)) Z (L_o (Y_ S6 1 Z Z Z Z sz5 (by rw [size_bA,cW_ b k (by omega) (by omega)];omega) fun w7 S7=>?_));refine f_ (hK10 _ _ (Rm Z Z (L_y (v_ Z Z (z_ (by omega))) Z (Lan Z Z ?_))));have S91:=S7.blkc 1 Z (cs':=bA (fV_ b (k+1))) (fillB_set b k x (by omega) (by omega) (by rw [hl];exact hx));refine ⟨k+1,by omega,⟨by omega,S91⟩,?_⟩;exact (Sc Z (Sub.cons Z Z (Sub.cons Z Z (Sub.cons Z Z (Sub.nil _)))))
   ·
    obtain rfl:k=32:=by omega
    refine P_ (hK6 _ _ (a_ fun K11 hK11=>b_ (L_y (W_ Tryz.underlying41 Z af_ Z (S6.blk 1 Z) (wholeB (cW_ b 32 (by omega) (Nat.le_refl _)))) Z (L_o (B_ S6 0 Z Z Z (by first | exact szB C_ | exact szB (cW_ b 32 (by omega) (Nat.le_refl _))) (by first | rfl | exact fitB (cW_ b 32 (by omega) (Nat.le_refl _)) C_) (Sha.cw_ _) fun w8 S8=>?_)))));refine Lan Z Z (hK11 _ _ (l_ (ur (X_ Z Z Z (S8.blk 0 Z) Tryz.underlying41 Z (by first | exact af_ | exact szB (cW_ b 32 (by omega) (Nat.le_refl _))) ?_))));obtain ⟨t1,t2⟩:=eL_ (b:=b) (by omega);exact ⟨_,rfl,S8.like0,by rw [t1,t2,fillB_32 b (by omega)] <;> rfl⟩
theorem rscan (B:Option Addr) (m d:Nat) (b:List UInt8) (w0:World) (hb:Rs w0 1 B m d (bL b)) (hm5:m≤100000) :
    Calls Tryz.prog 35 #[.slice B m d] w0 fun e w'=>∃ u,e=.returned u∧Like w0 w'∧ScanR 125 w0 w' (ep_ b) u:=by
 refine w_ (env:=[(0,.slice B m d)]) [.slice B m d] Tryz.func35 Z Tryz.ntmps35 Z Z ?_;have hl:=hb.lenb;have hcap:=hb.cap;have hmax:=hb.max;have S0:=St.start w0 noM;refine a_ fun K1 hK1=>b_ (La Z Z (Lan Z Z (hK1 _ _ (a_ fun K2 hK2=>a_ fun K3 hK3=>Rm Z Z (L_y (J_ Tryz.underlying22 Z) Z (L_y (aa_ Z Z) Z (f_ (hK3 _ _ ?_))))))));refine m_ Z (fun h20=>?_) (fun h20=>?_)
 ·
  omega
 ·
  refine j_ (hK2 _ _ (a_ fun K4 hK4=>Rm Z Z (L_o (o_ Tryz.func37 Z Z (rtrailer B m d b w0 (S0.rd hb)) Z Z ?_))));rintro e1 w1 ⟨v1,rfl,l1,rfl⟩;refine ⟨_,rfl,(have S1:=S0.like l1;Lm Z Z (L_y (n_ Z Z) Z (L_y (n_ Z Z) Z (L_o (E_ dm_ S1 Z fun b2 w2 hb2 S2=>have S3:=S2.blkc 0 Z (cs':=bA zB) (by kernel_rfl);L_o (B_ S3 0 Z Z Z (by first | exact af_ | (rw [size_bA,bl_];exact af_)) (by first | rfl | (rw [size_bA,size_bA,bl_];rfl)) (Sha.cw_ _) fun w4 S4=>?_))))))⟩;refine Lan Z Z (hK4 _ _ (a_ fun K5 hK5=>a_ fun K6 hK6=>Rm Z Z (L_y (V_ Z Z) Z (f_ (hK6 _ _ ?_)))));refine m_ Z (fun h27=>?_) (fun h27=>?_)
  ·
   refine a_ fun K7 hK7=>Rm Z Z (La Z Z (Lan Z Z (hK7 _ _ (l_ (ur (aB_ Z Z Z ?_))))));have hlt:b.length < 44:=by by_cases h:b.length < 44;exact h;exact absurd (eL_ h).2 h27
   obtain ⟨q1,q2⟩:=eM_ hlt;have he:=jI_ hlt;refine ⟨_,rfl,S4.like0,cm_ ?_⟩;show ep_ b=(hN_ b,[])
   rw [q2, ← he];exact gk_ (by rw [he];decide)
  ·
   have h44:¬ b.length < 44:=fun h=>h27 (by rw [(eM_ h).2];decide);obtain ⟨t1,t2⟩:=eL_ h44;refine j_ (hK5 _ _ (a_ fun K8 hK8=>a_ fun K9 hK9=>ad_ [(0,true),(1,true),(2,true),(3,true),(4,true),(5,true),(6,true),(7,true),(8,false),(9,false),(10,true),(11,true)] aJ_ (by kernel_rfl) fun w5 l5=>have S5:=S4.like l5;t_ Z (r_ Z) Z (t_ Z (cX_ Tryz.underlying22 sz5 Z Z inferInstance (by omega)) Z (t_ Z (bX_ Tryz.underlying22 Tryz.underlying5 Tryz.underlying9 Z ((S5.rd hb).cutb (l:=0) (u:=4) (by omega) (by omega))) Z (t_ Z (eZ_ Z Z) Z (t_ Z (r_ Z) Z ?_))))));refine gd_ 33 Z (fun h33=>?_) (fun h33=>?_)
   ·
    refine cI_ Z Z Z Z (cI_ Z Z Z Z (cI_ Z Z Z Z (DL_ogno Z Z Z Z (DL_ogno Z Z Z Z (cI_ Z Z Z Z (t_ Z (y_pk Z Z) Z (av_ (hK9 _ _ (U_ Z (a_ fun K10 hK10=>b_ (La Z Z (La Z Z ?_))))))))))));refine f_ (hK10 _ _ (l_ (ur (aB_ Z Z Z ?_))));have he:=hy_ (b:=b) (by omega) (by first | exact .inl ((eq_ _).1 h32) | exact .inl ((eq_ _).1 h33) | exact .inr (fun q=>(arr_ne _ _).1 h40 ((be_one (by rw [List.length_take,List.length_drop];omega)).1 q)));refine ⟨_,rfl,S5.like0,cm_ ?_⟩;rw [← he];exact gk_ (by rw [he];decide)
   ·
    refine al_ Z Z Z (r_ Z) Z (al_ Z Z Z (cY_ Tryz.underlying22 sz5 Z Z Z inferInstance inferInstance (by omega) (by omega)) Z (al_ Z Z Z (bX_ Tryz.underlying22 Tryz.underlying5 Tryz.underlying9 Z ((S5.rd hb).cutb (l:=4) (u:=8) (by omega) (by omega))) Z (DL_ogyes Z Z Z (o_ Tryz.func61 Z Z (Oct.refbig 1 4 w5 (by omega) (by omega)) Z Z ?_))));rintro e6 w6 ⟨v6,rfl,l6,A6,m6,c6,rfl,O6⟩;refine ⟨_,rfl,l6,(have S6:=S5.adopt l6 O6;have q6:=l6;DL_ogyes Z Z Z (o_y (bX_ Tryz.underlying22 Tryz.underlying5 Tryz.underlying9 Z (S6.row 1 Z)) (Like.refl _) Z ⟨q6,(al_ Z Z Z (eZ_ Z Z) Z (t_ Z (y_pk Z Z) Z (av_ (hK9 _ _ ?_))))⟩))⟩;refine m_ Z (fun h40=>?_) (fun h40=>?_)
    ·
     refine a_ fun K11 hK11=>b_ (La Z Z (Lan Z Z (hK11 _ _ (l_ (ur (aB_ Z Z Z ?_))))));have he:=hy_ (b:=b) (by omega) (by first | exact .inl ((eq_ _).1 h32) | exact .inl ((eq_ _).1 h33) | exact .inr (fun q=>(arr_ne _ _).1 h40 ((be_one (by rw [List.length_take,List.length_drop];omega)).1 q)));refine ⟨_,rfl,S6.like0,cm_ ?_⟩;rw [← he];exact gk_ (by rw [he];decide)
    ·
     have hform:¬ (b.take 4≠[80,65,67,75]∨be ((b.drop 4).take 4)≠1):=fun q=>by rcases q with q | q;exact absurd ((eq_ _).2 q) (by first | exact h32 | exact h33);exact q ((be_one (by rw [List.length_take,List.length_drop];omega)).2 (Classical.byContradiction fun h=>h40 ((arr_ne _ _).2 h)))
     refine j_ (hK8 _ _ (a_ fun K12 hK12=>a_ fun K13 hK13=>ad_ [(0,true),(1,true),(2,true),(3,true),(4,true),(6,true),(5,false),(7,true)] aJ_ (by kernel_rfl) fun w7 l7=>have S7:=S6.like l7;t_ Z (r_ Z) Z (t_ Z (r_ Z) Z (t_ Z (J_ Tryz.underlying22 Z) Z (t_ Z (am_ Z Z (z_ (by omega))) Z (t_ Z (cX_ Tryz.underlying22 sz5 Z Z (Nt.mk (by omega):Nt _ (m - 32)) (by omega)) Z (t_ Z (W_ Tryz.underlying41 Z af_ Z (S7.blk 0 Z) (iA_ b)) Z (dB_ Z (o_ Tryz.func25 Z Z (Sha.refof (b.take (m - 32)) _ _ _ w7 ((S7.rd hb).cutb (l:=0) (u:=m - 32) (by omega) (by omega)) (by omega)) Z Z ?_)))))))));rintro e8 w8 ⟨v8,rfl,l8,rfl⟩;refine ⟨_,rfl,l8,(have S8:=S7.like l8;have q8:=l8;t_ Z (y_neB Tryz.underlying41 Tryz.underlying5 sz5 (by kernel_rfl) Z Z (Sha.ak_ _) (bl_ _)) Z (av_ (hK13 _ _ ?_)))⟩;refine m_ Z (fun h48=>?_) (fun h48=>?_)
     ·
      have hsum:Sha.ofL (b.take (b.length - 32))≠b.drop (b.length - 32):=by rw [hl];rw [t1,hl] at h48;exact h48
      refine a_ fun K14 hK14=>b_ (La Z Z (Lan Z Z (hK14 _ _ (l_ (ur (aB_ Z Z Z (have he:=headE_13 (by omega) hform hsum;⟨_,rfl,S8.like0,cm_ ?_⟩)))))));rw [← he];exact gk_ (by rw [he];decide)
     ·
      have hsum:¬ Sha.ofL (b.take (b.length - 32))≠b.drop (b.length - 32):=by rw [hl];rw [t1,hl] at h48;exact h48
      refine j_ (hK12 _ _ (a_ fun K15 hK15=>b_ (Lan Z Z (hK15 _ _ (a_ fun K16 hK16=>a_ fun K17 hK17=>b_ (Lan Z Z (hK17 _ _ (u_ ?_))))))));refine ap_ [(0,_)] (fun (j:Nat)=>[(7,.int .i64 ((8+j:Nat):Int)),(6,.int .i64 (be ((b.drop 8).take j):Int))]) (fun (j:Nat)=>4 - j) (fun (j:Nat) (w:World)=>j≤4∧Zx.St w0 noM [] w) 0 (Sc Z (Sc Z (Sub.nil _))) (Sub.cons Z Z (Sub.nil _)) ?_ ?_
      ·
       exact ⟨by omega,S8.sel [] (by decide)⟩
      ·
       intro j w9 hrel;obtain ⟨hj,S9⟩:=hrel;refine a_ fun K18 hK18=>a_ fun K19 hK19=>Rm Z Z (L_y (H_ Z Z) Z (f_ (hK19 _ _ ?_)));refine m_ Z (fun h50=>?_) (fun h50=>?_)
       ·
        obtain ⟨x,hx⟩:∃ x,b[8+j]?=some x:=⟨_,List.getElem?_eq_getElem (by omega)⟩;have hx9:=x.toNat_lt;have hb9:=be4 ((b.drop 8).take j) (by rw [List.length_take];omega);refine j_ (hK18 _ _ (a_ fun K20 hK20=>u_ (Rm Z Z (L_y (bo_ Z Z (z_ (by omega))) Z (Lm Z Z (Lm Z Z (L_y (ab_ Tryz.underlying22 sz5 Z Z (S9.rd hb) (Nt.mk (by omega):Nt _ (8+j)) (by omega)) Z (L_y (ck_ Tryz.underlying5 Z Z (S9.rd hb) (cC_ _ _ _ hx)) Z (L_y (O_ is5 Tryz.underlying3 Z (z_ (by omega))) Z (L_y (v_ Z Z (z_ (by omega))) Z (La Z Z ?_)))))))))));refine f_ (hK20 _ _ (Rm Z Z (L_y (v_ Z Z (z_ (by omega))) Z (Lan Z Z (⟨j+1,by omega,⟨by omega,S9⟩,?_⟩)))));exact (Sc Z (Sub.cons Z (congrArg (Value.int _) (by rw [be_next hx];omega)) (Sub.cons Z Z (Sub.nil _))))
       ·
        obtain rfl:j=4:=by omega
        have hb9:=be4 ((b.drop 8).take 4) (by rw [List.length_take];omega);refine P_ (hK16 _ _ (a_ fun K21 hK21=>a_ fun K22 hK22=>Rm Z Z (L_y (aa_ Z Z) Z (f_ (hK22 _ _ ?_)))));refine m_ Z (fun h62=>?_) (fun h62=>?_)
        ·
         refine a_ fun K23 hK23=>b_ (La Z Z (Lan Z Z (hK23 _ _ (l_ (ur (aB_ Z Z Z ?_))))));have he:=headE_5 (by omega) hform hsum (by show 600 < be _;omega);refine ⟨_,rfl,S9.like0,cm_ ?_⟩;rw [← he];exact gk_ (by rw [he];decide)
        ·
         have hh:cc_ b=0:=headE_0 h44 hform hsum (by show ¬ 600 < be _;omega);have hce:(be ((b.drop 8).take 4):Int)=(cv_ b:Int):=rfl;have h600:cv_ b≤600:=by show be _≤600;omega
         refine j_ (hK21 _ _ (a_ fun K24 hK24=>b_ (have S10:=S9.nilrow 125 34;Lan Z Z (hK24 _ _ (a_ fun K25 hK25=>b_ (Lan Z Z (hK25 _ _ (a_ fun K26 hK26=>?_))))))));refine a_ fun K27 hK27=>b_ (Lan Z Z (hK27 _ _ (u_ ?_)));refine hJ_ [(0,_),(6,_)] (fun (k:Nat) (at9:Nat) (os:List Ob) (A1:Option Addr) (c1:Nat)=>[(10,.int .i64 (k:Int)),(9,.int .i64 (at9:Int)),(8,.slice A1 os.length c1)]) (fun (k:Nat) (at9:Nat) (os:List Ob) (A1:Option Addr) (c1:Nat)=>cv_ b - k) (fun (k:Nat) (at9:Nat) (os:List Ob) (A1:Option Addr) (c1:Nat) (w:World)=>(k≤cv_ b∧os.length=k∧SCI b (cv_ b) k os at9∧12≤at9∧at9≤100000)∧Zx.St w0 noM [row 125 34 A1 os.length c1 (os.flatMap plO)] w) 0 12 [] none 0 (Sc Z (Sc Z (Sc Z (Sub.nil _)))) (Sub.cons Z Z (Sub.cons Z Z (Sub.nil _))) ?_ ?_
         ·
          exact ⟨⟨by omega,rfl,SCI.start b _,by omega,by omega⟩,S10⟩
         ·
          intro k at9 os A1 c1 w11 hrel;obtain ⟨⟨hk,hol,hsc,ha1,ha2⟩,S11⟩:=hrel;refine a_ fun K28 hK28=>a_ fun K29 hK29=>Rm Z Z (Lm Z Z (L_y (H_ Z Z) Z (f_ (hK29 _ _ ?_))));refine m_ Z (fun h65=>?_) (fun h65=>?_)
          ·
           have hkc:k < cv_ b:=by omega
           refine j_ (hK28 _ _ (a_ fun K30 hK30=>u_ (a_ fun K31 hK31=>Rm Z Z (Lm Z Z (L_o (o_ Tryz.func68 Z Z (ropen0 B m d b hm5 (at9:Int) w11 (S11.rd hb) (by omega)) Z Z ?_))))));rintro e12 w12 ⟨v12,rfl,l12,hO12⟩;refine ⟨_,rfl,?_⟩;have S12:=S11.like l12;obtain ⟨q1,rfl,hq1,hf1⟩:=hO12;have S13:=fu_ S11 l12 hf1;have hn1:=NP.new S11 hf1;refine Lm Z Z (L_y (n_ Z Z) Z (L_y (n_ Z Z) Z (L_o (E_ zz132 S13 Z fun b14 w14 hb14 S14=>L_o (B_ S14 2 Z Z Z ca_ (by rfl) (ax_ _ _) fun w15 S15=>?_)))));refine Lan Z Z (hK31 _ _ (a_ fun K32 hK32=>a_ fun K33 hK33=>Rm Z Z (L_y (V_ Z Z) Z (f_ (hK33 _ _ ?_)))));refine m_ Z (fun h75=>?_) (fun h75=>?_)
           ·
            refine a_ fun K34 hK34=>Rm Z Z (La Z Z (Lan Z Z (hK34 _ _ (l_ (ur (aB_ Z Z Z (⟨_,rfl,S15.like0,cm_ ?_⟩)))))));exact fg_ hh (hsc.err (by rw [show cv_ b - k=cv_ b - k - 1+1 by omega,scan_1 h75])) h75
           ·
            obtain ⟨hok,hk12,hkl,_⟩:=gM_ (b:=b) (at_:=(at9:Int)) (deep:=false) (Classical.not_not.1 h75);refine j_ (hK32 _ _ (a_ fun K35 hK35=>Rm Z Z (Lm Z Z (L_o (o_ Tryz.func33 Z Z (rread0 B m d b hm5 (at9:Int) w15 (S15.rd hb) (by omega)) Z Z ?_)))));rintro e16 w16 ⟨v16,rfl,l16,hR16⟩;refine ⟨_,rfl,?_⟩;have S16:=S15.like l16;rw [readP_ok (Classical.not_not.1 h75)] at hR16;obtain ⟨q2,rfl,hq2,hf2⟩:=hR16;have S17:=fu_ S15 l16 hf2;have hn2:=NP.new S15 hf2;refine Lm Z Z (L_y (n_ Z Z) Z (L_y (n_ Z Z) Z (L_y (n_ Z Z) Z (La Z Z (La Z Z (Lan Z Z (hK35 _ _ (a_ fun K36 hK36=>a_ fun K37 hK37=>Rm Z Z (L_y (V_ Z Z) Z ?_)))))))));refine f_ (hK37 _ _ ?_);refine m_ Z (fun h85=>?_) (fun h85=>?_)
            ·
             refine a_ fun K38 hK38=>Rm Z Z (La Z Z (Lan Z Z (hK38 _ _ (l_ (ur (aB_ Z Z Z (⟨_,rfl,S17.like0,cm_ ?_⟩)))))));exact fg_ hh (hsc.err (by rw [show cv_ b - k=cv_ b - k - 1+1 by omega,scan_2 (Classical.not_not.1 h75) h85])) h85
            ·
             refine j_ (hK36 _ _ (a_ fun K39 hK39=>Rm Z Z (Lm Z Z (L_o (o_ Tryz.func24 Z Z (rname_ (rest b 7 (opV b (at9:Int) false).2).1 _ _ _ (rest b 7 (opV b (at9:Int) false).2).2.1 w16 (by rw [← hq2];exact hn2.ok S17 (S17.get 3 Z)) (by have h8:=(hn2.ok S17 (S17.get 3 Z)).lenb;have h9:=rest_len (b:=b) (f:=7) hok.len;rw [← hq2] at h9;omega)) Z Z ?_)))));rintro e18 w18 ⟨v18,rfl,l18,rfl⟩;refine ⟨_,rfl,(have S18:=S17.like l18;Lm Z Z (L_y (n_ Z Z) Z (L_y (n_ Z Z) Z (L_o (E_ dm_ S18 Z fun b19 w19 hb19 S19=>have S20:=S19.blkc 4 Z (cs':=bA zB) (by kernel_rfl);L_o (B_ S20 4 Z Z Z (by first | exact af_ | (rw [size_bA,Z_];exact af_)) (by first | rfl | (rw [size_bA,size_bA,Z_];rfl)) (Sha.cw_ _) fun w21 S21=>?_))))))⟩;refine Lan Z Z (hK39 _ _ (a_ fun K40 hK40=>a_ fun K41 hK41=>Rm Z Z (L_y (V_ Z Z) Z (f_ (hK41 _ _ ?_)))));refine m_ Z (fun h94=>?_) (fun h94=>?_)
             ·
              refine a_ fun K42 hK42=>Rm Z Z (La Z Z (Lan Z Z (hK42 _ _ (l_ (ur (aB_ Z Z Z (⟨_,rfl,S21.like0,cm_ ?_⟩)))))));exact fg_ hh (hsc.err (by rw [show cv_ b - k=cv_ b - k - 1+1 by omega,scan_3 (Classical.not_not.1 h75) (Classical.not_not.1 h85) h94])) h94
             ·
              refine j_ (hK40 _ _ (a_ fun K43 hK43=>Rm Z Z (L_y (W_ Tryz.underlying41 Z af_ Z (S21.blk 4 Z) (gr_ ((rest b 7 (opV b (at9:Int) false).2).1,(rest b 7 (opV b (at9:Int) false).2).2.1))) Z (Lm Z Z (L_y (d_ 3 Tryz.underlying132 Z aV_ Z Z Z) Z (L_y (p_ Tryz.underlying63 Z Z (((S21.blk 2 Z).cell _).trans (by rfl))) Z ?_))))));refine L_y (y_ Z (built_rpl (Z_ _ _) _ _)) Z (L_o (aY_ (plO (⟨(rest b 7 (opV b (at9:Int) false).2).1,(rest b 7 (opV b (at9:Int) false).2).2.1,0,at9,(opV b (at9:Int) false).2.sum⟩:Ob)) te53 zz125 S21 Z Z Z (by simp [Value.cells,length_bL,Z_]) (by simp [Value.cells,plO,Ob.id]) Z Z Z fun b22 w22 S22=>?_));refine L_o (aL_ te53 S22 0 Z Z Z (by first | exact S22.row 0 Z | exact S22.row 5 Z) (fun u hu=>iI_ _ u hu) Z (by omega) (by omega) fun A23 c23 w23 S23=>?_);have S23d:=S23.drop (rs':=[_,_,_,_,_]) (.cons_cons _ (.cons_cons _ (.cons_cons _ (.cons_cons _ (.cons_cons _ (.cons _ (.refl _)))))));refine Lan Z Z (hK43 _ _ (b_ (L_y (d_ 2 Tryz.underlying132 Z sz3 Z Z Z) Z (L_y (p_ Tryz.underlying3 Z Z (((S23d.blk 2 Z).cell _).trans (by rfl))) Z ?_))));refine Lan Z Z (hK30 _ _ (Rm Z Z (L_y (v_ Z Z (z_ (by omega))) Z (Lan Z Z ?_))));have hfi:=opV_fin (Classical.not_not.1 h75);have S91:=(S23d.sel [0] (by decide)).rowc 0 Z (n':=(os++[(⟨(rest b 7 (opV b (at9:Int) false).2).1,(rest b 7 (opV b (at9:Int) false).2).2.1,0,at9,(opV b (at9:Int) false).2.sum⟩:Ob)]).length) (xs':=(os++[(⟨(rest b 7 (opV b (at9:Int) false).2).1,(rest b 7 (opV b (at9:Int) false).2).2.1,0,at9,(opV b (at9:Int) false).2.sum⟩:Ob)]).flatMap plO) (by simp) (by simp);refine ⟨k+1,(opV b (at9:Int) false).2.fin,os++[(⟨(rest b 7 (opV b (at9:Int) false).2).1,(rest b 7 (opV b (at9:Int) false).2).2.1,0,at9,(opV b (at9:Int) false).2.sum⟩:Ob)],_,_,by omega,⟨⟨by omega,by simp [hol],hsc.next (by omega) (scan_4 (Classical.not_not.1 h75) (Classical.not_not.1 h85) (Classical.not_not.1 h94)),by omega,by omega⟩,S91⟩,?_⟩;exact (Sc Z (Sc Z (Sub.cons Z (by rw [List.length_append];rfl) (Sub.cons Z Z (Sub.cons Z Z (Sub.nil _))))))
          ·
           obtain rfl:k=cv_ b:=by omega
           refine P_ (hK26 _ _ (a_ fun K44 hK44=>a_ fun K45 hK45=>Rm Z Z (Lm Z Z (L_y (J_ Tryz.underlying22 Z) Z (L_y (am_ Z Z (z_ (by omega))) Z (L_y (H_ Z Z) Z (f_ (hK45 _ _ ?_))))))));refine m_ Z (fun h110=>?_) (fun h110=>?_)
           ·
            refine a_ fun K46 hK46=>b_ (La Z Z (Lan Z Z (hK46 _ _ (l_ (ur (aB_ Z Z Z (⟨_,rfl,S11.like0,cm_ ?_⟩)))))));exact scanV_11 hh hsc.done (by omega)
           ·
            refine j_ (hK44 _ _ (a_ fun K47 hK47=>Rm Z Z (La Z Z (Lan Z Z (hK47 _ _ (l_ (ur (aB_ Z Z Z ?_))))))));have hv:ep_ b=(0,os):=scanV_0 hh hsc.done (by omega);rw [hv];exact ⟨_,rfl,S11.like0,A1,c1,rfl,S11.own 0 Z⟩
end Pak
namespace Pak
open Go.RowKit Zk Zx
open Sha (N bO_ cO_ dS_ fz_ fy_)
open Go.Proofs.YtgaklngnfecdaaaGreat.Obj (ai_ bV_ aT_ Z_ aN_ be_ zB C_ aR_)
open Oct (vaN rwL rwP rwE rnL rnP rnE be vr tl N_)
open Del (scA opf OP OkO mkV bR_ dG_ aj_ bW_)
theorem plO_part {os:List Ob} {k:Nat} {o:Ob} (h:os[k]?=some o):((os.flatMap plO).drop (k*34+0)).take 32=bL o.id:=by
  rw [flat_part plO 34 fj_ os k 0 32 o h (by omega)]
  exact (plO_id o).1
theorem sameP (A:Option Addr) (c:Nat) (A2:Option Addr) (c2:Nat) (os:List Ob) (w0:World) (hA:Rs w0 34 A os.length c (os.flatMap plO)) (hA2:Rs w0 34 A2 os.length c2 (os.flatMap plO)) :
    Calls Tryz.prog 31 #[.slice A os.length c,.slice A2 os.length c2] w0 fun e w'=>∃ u,e=.returned u∧Like w0 w'∧u=.bool true:=by
 refine w_ (env:=[(0,.slice A os.length c),(1,.slice A2 os.length c2)]) [.slice A os.length c,.slice A2 os.length c2] Tryz.func31 Z Tryz.ntmps31 Z Z ?_;have hcap:=hA.cap;have hmax:=hA.max;have hcap2:=hA2.cap;have hmax2:=hA2.max;have S0:=St.start w0 noM;refine a_ fun K1 hK1=>b_ (Lan Z Z (hK1 _ _ (a_ fun K2 hK2=>a_ fun K3 hK3=>Rm Z Z (L_y (J_ Tryz.underlying50 Z) Z (Lm Z Z (L_y (J_ Tryz.underlying53 Z) Z (L_y (V_ Z Z) Z (f_ ?_))))))));refine hK3 _ _ ?_;refine m_ Z (fun h10=>?_) (fun h10=>?_)
 ·
  exact absurd Z h10
 ·
  refine j_ (hK2 _ _ (a_ fun K4 hK4=>a_ fun K5 hK5=>b_ (Lan Z Z (hK5 _ _ (u_ ?_)))));refine ap_ [(0,_),(1,_)] (fun (k:Nat)=>[(5,.int .i64 (k:Int))]) (fun (k:Nat)=>os.length - k) (fun (k:Nat) (w:World)=>k≤os.length∧Zx.St w0 noM [] w) 0 (Sc Z (Sub.nil _)) (Sub.cons Z Z (Sub.cons Z Z (Sub.nil _))) ?_ ?_
  ·
   exact ⟨by omega,S0⟩
  ·
   intro k w1 hrel;obtain ⟨hk,S1⟩:=hrel;refine a_ fun K6 hK6=>a_ fun K7 hK7=>Rm Z Z (Lm Z Z (L_y (J_ Tryz.underlying50 Z) Z (L_y (H_ Z Z) Z (f_ (hK7 _ _ ?_)))));refine m_ Z (fun h14=>?_) (fun h14=>?_)
   ·
    obtain ⟨o,ho⟩:∃ o,os[k]?=some o:=⟨_,List.getElem?_eq_getElem (by omega)⟩;refine j_ (hK6 _ _ (a_ fun K8 hK8=>u_ (a_ fun K9 hK9=>ad_ [(0,true),(1,true),(2,true),(3,true),(4,true),(5,true),(6,true),(7,true),(8,true),(9,true),(10,true),(11,true),(12,true),(13,true),(14,true),(15,true),(16,true),(17,true),(18,true),(19,true),(20,true),(21,true),(22,true),(23,true),(24,true),(25,true),(26,true),(27,true),(28,true),(29,true),(30,true),(31,true),(32,true),(33,true),(34,true),(35,true),(36,true)] aJ_ (by kernel_rfl) fun w2 l2=>have S2:=S1.like l2;t_ Z (r_ Z) Z (t_ Z (r_ Z) Z (t_ Z (ab_ Tryz.underlying50 sz67 Z Z (S2.rd hA) inferInstance (by omega)) Z (t_ Z (bI_ 0 Tryz.underlying67 Z af_ Z Z (S2.rd hA) (by omega) Z) Z (t_ Z (y_ldfN Tryz.underlying41 Z af_ Z (S2.rd hA) (by omega) (plO_part ho) (by rw [length_bL,Ob.id_len])) Z ?_)))))));refine t_ Z (r_ Z) Z (t_ Z (r_ Z) Z (t_ Z (ab_ Tryz.underlying53 sz125 Z Z (S2.rd hA2) inferInstance (by omega)) Z (t_ Z (bI_ 0 Tryz.underlying125 Z af_ Z Z (S2.rd hA2) (by omega) Z) Z (t_ Z (y_ldfN Tryz.underlying41 Z af_ Z (S2.rd hA2) (by omega) (plO_part ho) (by rw [length_bL,Ob.id_len])) Z ?_))));refine t_ Z (y_neB Tryz.underlying41 Tryz.underlying5 sz5 (by kernel_rfl) Z Z (Ob.id_len _) (Ob.id_len _)) Z (t_ Z (r_ Z) Z ?_);refine gd_ 28 Z (fun h28=>?_) (fun h28=>?_)
    ·
     exact absurd Z h28
    ·
     refine al_ Z Z Z (r_ Z) Z (al_ Z Z Z (r_ Z) Z (al_ Z Z Z (ab_ Tryz.underlying50 sz67 Z Z (S2.rd hA) inferInstance (by omega)) Z (al_ Z Z Z (bI_ 32 Tryz.underlying67 Z sz3 Z Z (S2.rd hA) (by omega) Z) Z (al_ Z Z Z (eJ_ Tryz.underlying3 Z Z (S2.rd hA) (by omega) ((er_ plO 34 fj_ _ k o ho 32 (by omega)).trans (plOl32 o))) Z (al_ Z Z Z (r_ Z) Z (al_ Z Z Z (r_ Z) Z (al_ Z Z Z (ab_ Tryz.underlying53 sz125 Z Z (S2.rd hA2) inferInstance (by omega)) Z (al_ Z Z Z (bI_ 32 Tryz.underlying125 Z sz3 Z Z (S2.rd hA2) (by omega) Z) Z (al_ Z Z Z (eJ_ Tryz.underlying3 Z Z (S2.rd hA2) (by omega) ((er_ plO 34 fj_ _ k o ho 32 (by omega)).trans (plOl32 o))) Z (al_ Z Z Z (V_ Z Z) Z (t_ Z (y_pk Z Z) Z (t_ Z (r_ Z) Z ?_))))))))))));refine gd_ 41 Z (fun h41=>?_) (fun h41=>?_)
     ·
      exact absurd Z h41
     ·
      refine al_ Z Z Z (r_ Z) Z (al_ Z Z Z (r_ Z) Z (al_ Z Z Z (ab_ Tryz.underlying50 sz67 Z Z (S2.rd hA) inferInstance (by omega)) Z (al_ Z Z Z (bI_ 33 Tryz.underlying67 Z aV_ Z Z (S2.rd hA) (by omega) Z) Z (al_ Z Z Z (eJ_ Tryz.underlying63 Z Z (S2.rd hA) (by omega) ((er_ plO 34 fj_ _ k o ho 33 (by omega)).trans (plOl o 1))) Z (al_ Z Z Z (r_ Z) Z (al_ Z Z Z (r_ Z) Z (al_ Z Z Z (ab_ Tryz.underlying53 sz125 Z Z (S2.rd hA2) inferInstance (by omega)) Z (al_ Z Z Z (bI_ 33 Tryz.underlying125 Z aV_ Z Z (S2.rd hA2) (by omega) Z) Z (al_ Z Z Z (eJ_ Tryz.underlying63 Z Z (S2.rd hA2) (by omega) ((er_ plO 34 fj_ _ k o ho 33 (by omega)).trans (plOl o 1))) Z (al_ Z Z Z (V_ Z Z) Z (t_ Z (y_pk Z Z) Z (av_ (hK9 _ _ ?_)))))))))))));refine m_ Z (fun h53=>?_) (fun h53=>?_)
      ·
       exact absurd Z h53
      ·
       refine j_ (hK8 _ _ (Rm Z Z (L_y (v_ Z Z (z_ (by omega))) Z (Lan Z Z (⟨k+1,by omega,⟨by omega,S2⟩,?_⟩)))));exact (Sc Z (Sub.cons Z Z (Sub.cons Z Z (Sub.nil _))))
   ·
    refine P_ (hK4 _ _ (a_ fun K10 hK10=>b_ (Lan Z Z (hK10 _ _ (l_ (ur (G_ Z Z ?_)))))));exact ⟨_,rfl,S1.like0,rfl⟩
theorem lscans (B:Option Addr) (m d:Nat) (b:List UInt8) (w0:World) (hb:Rs w0 1 B m d (bL b)) :
    Calls Tryz.prog 9 #[.slice B m d] w0 fun e w'=>∃ u,e=.returned u∧Like w0 w'∧u=.bool true:=by
 refine w_ (env:=[(0,.slice B m d)]) [.slice B m d] Tryz.func9 Z Tryz.ntmps9 Z Z ?_;have hl:=hb.lenb;have hcap:=hb.cap;have hmax:=hb.max;have S0:=St.start w0 noM;refine a_ fun K1 hK1=>b_ (Lan Z Z (hK1 _ _ (a_ fun K2 hK2=>a_ fun K3 hK3=>Rm Z Z (L_y (J_ Tryz.underlying22 Z) Z (L_y (aa_ Z Z) Z (f_ (hK3 _ _ ?_)))))));refine m_ Z (fun h14=>?_) (fun h14=>?_)
 ·
  refine a_ fun K4 hK4=>b_ (L_o (o_ Tryz.func27 Z Z (works w0) Z Z ?_));rintro e1 w1 ⟨v1,rfl,l1,rfl⟩;refine ⟨_,rfl,(have S1:=S0.like l1;Lan Z Z (hK4 _ _ (l_ (ur (G_ Z Z ?_)))))⟩;exact ⟨_,rfl,S1.like0,rfl⟩
 ·
  refine j_ (hK2 _ _ (a_ fun K5 hK5=>b_ (L_o (o_bsl0 bA_ S0 Z fun b2 w2 l2 S2=>Lm Z Z (L_o (aL_ bA_ S2 0 Z Z Z (S2.rd hb) (T_ _) Z (by omega) (by omega) fun A3 c3 w3 S3=>Lan Z Z (hK5 _ _ (a_ fun K6 hK6=>Rm Z Z (L_o (o_ Tryz.func34 Z Z (scan _ _ _ b w3 (S3.row 0 Z) (by omega)) Z Z ?_))))))))));rintro e4 w4 ⟨v4,rfl,l4,hS4⟩;refine ⟨_,rfl,?_⟩;have S4:=S3.like l4;obtain ⟨A4,c4,hu4,O4⟩:=hS4;subst hu4;have S5:=S3.adopt l4 O4;refine Lm Z Z (L_y (n_ Z Z) Z (L_y (n_ Z Z) Z (La Z Z (Lan Z Z (hK6 _ _ (a_ fun K7 hK7=>Rm Z Z (L_o (o_ Tryz.func35 Z Z (rscan B m d b w4 (S5.rd hb) (by omega)) Z Z ?_))))))));rintro e6 w6 ⟨v6,rfl,l6,hS6⟩;refine ⟨_,rfl,?_⟩;have S6:=S5.like l6;obtain ⟨A6,c6,hu6,O6⟩:=hS6;subst hu6;have S7:=S5.adopt l6 O6;refine Lm Z Z (L_y (n_ Z Z) Z (L_y (n_ Z Z) Z (La Z Z (Lan Z Z (hK7 _ _ (a_ fun K8 hK8=>Rm Z Z (L_o (o_ Tryz.func36 Z Z (trailer _ _ _ b w6 (S7.row 0 Z)) Z Z ?_))))))));rintro e8 w8 ⟨v8,rfl,l8,rfl⟩;refine ⟨_,rfl,(have S8:=S7.like l8;Lm Z Z (L_y (n_ Z Z) Z (L_y (n_ Z Z) Z (L_o (E_ dm_ S8 Z fun b9 w9 hb9 S9=>have S10:=S9.blkc 3 Z (cs':=bA zB) (by kernel_rfl);L_o (B_ S10 3 Z Z Z (by first | exact af_ | (rw [size_bA,bl_];exact af_)) (by first | rfl | (rw [size_bA,size_bA,bl_];rfl)) (Sha.cw_ _) fun w11 S11=>?_))))))⟩;refine Lan Z Z (hK8 _ _ (a_ fun K9 hK9=>Rm Z Z (L_o (o_ Tryz.func37 Z Z (rtrailer B m d b w11 (S11.rd hb)) Z Z ?_))));rintro e12 w12 ⟨v12,rfl,l12,rfl⟩;refine ⟨_,rfl,(have S12:=S11.like l12;Lm Z Z (L_y (n_ Z Z) Z (L_y (n_ Z Z) Z (L_o (E_ dm_ S12 Z fun b13 w13 hb13 S13=>have S14:=S13.blkc 4 Z (cs':=bA zB) (by kernel_rfl);L_o (B_ S14 4 Z Z Z (by first | exact af_ | (rw [size_bA,bl_];exact af_)) (by first | rfl | (rw [size_bA,size_bA,bl_];rfl)) (Sha.cw_ _) fun w15 S15=>?_))))))⟩;refine Lan Z Z (hK9 _ _ (a_ fun K10 hK10=>Rm Z Z (Lm Z Z (L_o (o_ Tryz.func31 Z Z (sameP _ _ _ _ (ep_ b).2 w15 (S15.row 1 Z) (S15.row 2 Z)) Z Z ?_)))));rintro e16 w16 ⟨v16,rfl,l16,rfl⟩;refine ⟨_,rfl,(have S16:=S15.like l16;Lm Z Z (g_ Z Z (Lm Z Z (g_ Z Z (Lm Z Z (g_ Z Z (L_y (ah_ Z Z) Z (Lp Z Z Z (Lm Z Z ?_)))))))))⟩;refine A_ 47 Z (fun h47=>?_) (fun h47=>?_)
  ·
   refine g_ Z Z (L_y (W_ Tryz.underlying41 Z af_ Z (S16.blk 3 Z) (iA_ b)) Z (g_ Z Z (L_y (W_ Tryz.underlying41 Z af_ Z (S16.blk 4 Z) (iA_ b)) Z (g_ Z Z (L_y (y_eqB Tryz.underlying41 Tryz.underlying5 sz5 (by kernel_rfl) Z Z (bl_ _) (bl_ _)) Z (Lp Z Z Z (Lm Z Z ?_)))))));refine A_ 52 Z (fun h52=>?_) (fun h52=>?_)
   ·
    refine g_ Z Z (Lm Z Z (g_ Z Z (Lm Z Z (g_ Z Z (L_y (ah_ Z Z) Z (Lp Z Z Z (Lm Z Z ?_)))))));refine A_ 57 Z (fun h57=>?_) (fun h57=>?_)
    ·
     refine g_ Z Z (Lm Z Z (g_ Z Z (Lm Z Z (g_ Z Z (L_o (o_ Tryz.func14 Z Z (Oct.same _ _ _ _ _ _ b b w16 (S16.row 0 Z) (S16.rd hb)) Z Z ?_))))));rintro e20 w20 ⟨v20,rfl,l20,rfl⟩;refine ⟨_,rfl,(have S20:=S16.like l20;Lp Z Z Z (Lm Z Z ?_))⟩;refine A_ 62 Z (fun h62=>?_) (fun h62=>?_)
     ·
      refine g_ Z Z (L_o (o_ Tryz.func27 Z Z (works w20) Z Z ?_));rintro e22 w22 ⟨v22,rfl,l22,rfl⟩;refine ⟨_,rfl,(have S22:=S20.like l22;Lp Z Z Z (Lan Z Z (hK10 _ _ (l_ (ur (G_ Z Z ?_))))))⟩;exact ⟨_,rfl,S22.like0,rfl⟩
     ·
      exact absurd Z h62
    ·
     exact absurd Z h57
   ·
    exact absurd Z h52
  ·
   exact absurd Z h47
theorem lscans_law (B:Option Addr) (m d:Nat) (b:List UInt8) (w0:World) (hb:Rs w0 1 B m d (bL b)) :
    Calls Tryz.prog 9 #[.slice B m d] w0 fun e w'=>e=.returned (.bool true)∧Like w0 w' :=
  (lscans B m d b w0 hb).mono fun e w' ⟨u,h1,h2,h3⟩=>⟨by rw [h1,h3],h2⟩
end Pak
end Go.Proofs.YtgaklngnfecdaaaGreat
