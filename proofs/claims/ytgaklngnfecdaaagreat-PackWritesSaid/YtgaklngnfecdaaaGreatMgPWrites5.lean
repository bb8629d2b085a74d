import Derived.Test.YtgaklngnfecdaaaGreatMgPWrites2
import Derived.Test.YtgaklngnfecdaaaGreatMgPWrites4
import Derived.Shelf.Bytes.SlIndexAt
import Derived.Laws.Small
import Derived.Test.YtgaklngnfecdaaaGreatMgPWrites3
set_option linter.unusedSimpArgs false
set_option linter.unusedVariables false
set_option maxRecDepth 100000
namespace Go.Proofs.YtgaklngnfecdaaaGreat
namespace Tre
open Go.RowKit Zk Zx
theorem fi_ {l:List EV} {k:Nat} {x:EV} (h:∀ j e,j < k→l[j]?=some e→cD_ e.md∧aw_ e.nm=true) (hx:l[k]?=some x) (h1:cD_ x.md) (h2:aw_ x.nm=true):∀ j e,j < k+1→l[j]?=some e→cD_ e.md∧aw_ e.nm=true:=fun j e hj he=>by
  rcases Nat.lt_or_ge j k with q | q
  · exact h j e q he
  · obtain rfl:j=k:=by omega
    rw [hx] at he
    cases he
    exact ⟨h1,h2⟩
theorem ris_next {l:List EV} {k:Nat} {x y:EV} (h:∀ j x y,j+1 < k→l[j]?=some x→l[j+1]?=some y→ltK x y=true) (hx:l[k - 1]?=some x) (hy:l[k]?=some y) (h0:0 < k) (h1:ltK x y=true):∀ j x y,j+1 < k+1→l[j]?=some x→l[j+1]?=some y→ltK x y=true:=fun j a b hj ha hb=>by
  rcases Nat.lt_or_ge (j+1) k with q | q
  · exact h j a b q ha hb
  · obtain rfl:j=k - 1:=by omega
    rw [show k - 1+1=k by omega] at hb
    rw [hx] at ha
    rw [hy] at hb
    cases ha
    cases hb
    exact h1
theorem enf_sz (x:EV):(enf x).toArray.size=34:=by rw [List.size_toArray,aG_]
theorem szE (x:EV):(Tryz.prog.info? 149).map (·.size)=some (enf x).toArray.size:=au_.trans (congrArg some (by rw [List.size_toArray,aG_]))
theorem risK_fin {l:List EV} {k:Nat} (h:∀ j x y,j+1 < k→l[j]?=some x→l[j+1]?=some y→ltK x y=true) (h1:k≤l.length∨k=1) (h2:l.length≤k):risK l=true:=by
  rcases h1 with h1 | h1
  · exact (ix_ l k h h1).trans (risK_end (by omega))
  · subst h1
    match l,h2 with
    | [],_=>rfl
    | [x],_=>rfl
    | x::y::m,h2=>simp at h2
theorem ku_ {l:List EV} (h:64 < l.length):cE_ l=3:=by unfold cE_;rw [if_pos h]
theorem fX_ {l:List EV} {c:Int} (h:¬ 64 < l.length) (h1:fr_ l=c) (hc:c≠0):cE_ l=c:=by unfold cE_;rw [if_neg h,if_pos (by rw [h1];exact hc),h1]
theorem jI_ {l:List EV} (h:¬ 64 < l.length) (h1:fr_ l=0) (h2:¬ once l):cE_ l=17:=by unfold cE_;rw [if_neg h,if_neg (by omega),if_pos h2]
theorem chkE_ord {l:List EV} (h:¬ 64 < l.length) (h1:fr_ l=0) (h2:once l) (h3:risK l=false):cE_ l=18:=by unfold cE_;rw [if_neg h,if_neg (by omega),if_neg (fun x=>x h2),if_pos h3]
theorem chkE_ok {l:List EV} (h:¬ 64 < l.length) (h1:fr_ l=0) (h2:once l) (h3:risK l=true):cE_ l=0:=by unfold cE_;rw [if_neg h,if_neg (by omega),if_neg (fun x=>x h2),if_neg (by rw [h3];exact fun x=>by cases x)]
theorem pcheck (A:Option Addr) (n c:Nat) (l:List EV) (w0:World) (hl:Rs w0 34 A n c (l.flatMap enf)) (hn5:n≤10000) :
    Calls Tryz.prog 107 #[.slice A n c] w0 fun e w'=>∃ u,e=.returned u∧Like w0 w'∧u=.int .i64 (cE_ l):=by
 refine v_ (env:=[(0,.slice A n c)]) [.slice A n c] Tryz.func107 Z Tryz.ntmps107 Z Z ?_;have hn:=ens_n hl;have hcap:=hl.cap;have hmax:=hl.max;have S0:=St.start w0 noM;refine a_ fun K1 hK1=>b_ (Lan Z Z (hK1 _ _ (a_ fun K2 hK2=>a_ fun K3 hK3=>Rm Z Z (L_y (I_ Tryz.underlying78 Z) Z (L_y (Z_ Z Z) Z (f_ (hK3 _ _ ?_)))))));refine o_ Z (fun h10=>?_) (fun h10=>?_)
 ·
  refine a_ fun K4 hK4=>b_ (Lan Z Z (hK4 _ _ (l_ (ur (F_ Z Z ?_)))));exact ⟨_,rfl,S0.like0,congrArg (Value.int _) (ku_ (by omega)).symm⟩
 ·
  refine j_ (hK2 _ _ (a_ fun K5 hK5=>b_ (L_o (o_makeMap (t:=232) (k:=9) (e:=4) S0 Z fun b1 w1 hb1 S1=>Lan Z Z (hK5 _ _ (a_ fun K6 hK6=>b_ (Lan Z Z (hK6 _ _ (a_ fun K7 hK7=>?_)))))))));refine a_ fun K8 hK8=>Rm Z Z (L_y (I_ Tryz.underlying78 Z) Z (Lm Z Z (f_ (hK8 _ _ (r_ ?_)))));refine df_ [(0,_),(3,_),(12,_),(13,_)] (fun (k:Nat) (tw:Bool) (D:DU)=>[(14,.int .i64 (k:Int)),(4,.bool tw)]) (fun (k:Nat) (tw:Bool) (D:DU)=>n - k) (fun (k:Nat) (tw:Bool) (D:DU) (w:World)=>(k≤n∧(∀ j e,j < k→l[j]?=some e→cD_ e.md∧aw_ e.nm=true)∧tw=decide (¬ once (l.take k))∧SM D ((l.take k).map EV.nm))∧St w0 noM [mapR Tryz.prog 9 4 b1 k D] w) 0 false (.map []) (Sc Z (Sc Z (Sub.nil _))) (Sub.cons Z Z (Sub.cons Z Z (Sub.cons Z Z (Sub.cons Z Z (Sub.nil _))))) ?_ ?_
  ·
   exact ⟨⟨Nat.zero_le _,fun j e hj=>absurd hj (by omega),by simp [once],SM.nil⟩,S1⟩
  ·
   intro k tw D w2 hrel;obtain ⟨⟨hk,hok,htw,hsm⟩,S2⟩:=hrel;refine a_ fun K9 hK9=>b_ (L_y (L_ Z Z) Z (f_ (hK9 _ _ (a_ fun K10 hK10=>?_))));refine o_ Z (fun h15=>?_) (fun h15=>?_)
   ·
    obtain ⟨x,hx⟩:∃ x,l[k]?=some x:=⟨_,List.getElem?_eq_getElem (by omega)⟩;refine j_ (hK10 _ _ (a_ fun K11 hK11=>r_ (a_ fun K12 hK12=>b_ (L_y (T_ Tryz.underlying78 au_ Z Z (S2.rd hl) (Nt.mk (by omega):Nt _ (k)) (by omega)) Z (L_y (cp_ (f:=enf) aG_ Tryz.underlying149 Z au_ Z (S2.rd hl) (by omega) hx) Z (L_o (H_ gV_ S2 Z fun b3 w3 hb3 S3=>L_o (G_ S3 1 Z Z Z (szE x) ((enf_sz x).trans (by kernel_rfl)) (enf_one x) fun w4 S4=>f_ (hK12 _ _ (a_ fun K13 hK13=>a_ fun K14 hK14=>?_))))))))));refine b_ (L_y (g_ 1 Tryz.underlying149 Z sz3 Z Z Z) Z (L_y (t_ Tryz.underlying3 Z Z (((S4.blk 1 Z).cell _).trans (by rfl))) Z ?_));refine L_o (n_ Tryz.func140 Z Z (mode_ x.md w4) Z Z ?_);rintro e5 w5 ⟨v5,rfl,l5,rfl⟩;refine ⟨_,rfl,(have S5:=S4.like l5;L_y ((by first | exact aA_ Z | exact aZ_ Z)) Z ?_)⟩;refine f_ (hK14 _ _ ?_);refine o_ Z (fun h21=>?_) (fun h21=>?_)
    ·
     have hmd:¬ cD_ x.md:=h21;refine a_ fun K15 hK15=>b_ (Lan Z Z (hK15 _ _ (l_ (ur (F_ Z Z ?_)))));exact ⟨_,rfl,S5.like0,congrArg (Value.int _) (fX_ (by omega) ((fq_ k hok (by omega)).trans (lm_ hx hmd)) (by decide)).symm⟩
    ·
     have hmd:cD_ x.md:=Decidable.not_not.1 h21;refine j_ (hK13 _ _ (a_ fun K16 hK16=>a_ fun K17 hK17=>b_ (L_y (g_ 0 Tryz.underlying149 Z sz9 Z Z Z) Z (L_y (t_ Tryz.underlying9 Z Z (((S5.blk 1 Z).cell _).trans (by rfl))) Z ?_))));refine L_o (n_ Tryz.func142 Z Z (pname x.nm w5) Z Z ?_);rintro e6 w6 ⟨v6,rfl,l6,rfl⟩;refine ⟨_,rfl,(have S6:=S5.like l6;L_y ((by first | exact aA_ Z | exact aZ_ Z)) Z ?_)⟩;refine f_ (hK17 _ _ ?_);refine aD_ Z (fun h25=>?_) (fun h25=>?_)
     ·
      have hnm:aw_ x.nm=false:=by simpa using h25
      refine a_ fun K18 hK18=>b_ (Lan Z Z (hK18 _ _ (l_ (ur (F_ Z Z ?_)))));exact ⟨_,rfl,S6.like0,congrArg (Value.int _) (fX_ (by omega) ((fq_ k hok (by omega)).trans (chk1_nm hx hmd hnm)) (by decide)).symm⟩
     ·
      have hnm:aw_ x.nm=true:=by simpa using h25
      refine j_ (hK16 _ _ (a_ fun K19 hK19=>Rm Z Z (Lm Z Z ?_)));refine ch_ 27 Z (fun h27=>?_) (fun h27=>?_)
      ·
       refine h_ Z Z Z (h_ Z Z Z (h_ Z Z Z (h_ Z Z Z (Lp Z Z Z (Lan Z Z (hK19 _ _ (Rm Z Z (L_y (g_ 0 Tryz.underlying149 Z sz9 Z Z Z) Z (L_y (t_ Tryz.underlying9 Z Z (((S6.blk 1 Z).cell _).trans (by rfl))) Z ?_)))))))));refine L_o (o_mapUpZ S6 0 Z Tryz.underlying9 Tryz.underlying232 Tryz.underlying4 Z Z Z (Nat.le_trans x.h.2 (by decide)) (by omega) fun w8 S8=>f_ (hK11 _ _ (b_ (L_y (w_ Z Z (z_ (by omega))) Z (Lm Z Z (f_ ?_))))));have hon2:true=decide (¬ once (l.take (k+1))):=by have h8:¬ once (l.take k):=of_decide_eq_true (htw.symm.trans h27);rw [eq_comm,decide_eq_true_iff];exact fun h9=>h8 (once_down h9)
       have S9:=S8.drop (.cons_cons _ (.cons _ (.refl _)));refine ⟨k+1,_,_,by omega,⟨⟨by omega,fi_ hok hx hmd hnm,hon2,by rw [hd_ hx,List.map_append];exact hsm.put x.nm⟩,S9⟩,?_⟩;exact (Sc Z (Sc Z (Sub.cons Z Z (Sub.cons Z Z (Sub.cons Z Z (Sub.cons Z Z (Sub.nil _)))))))
      ·
       refine d_ Z Z (Lm Z Z (d_ Z Z (L_y (g_ 0 Tryz.underlying149 Z sz9 Z Z Z) Z (d_ Z Z (L_y (t_ Tryz.underlying9 Z Z (((S6.blk 1 Z).cell _).trans (by rfl))) Z ?_)))));refine d_ Z Z (L_y (y_lookZ (S6.get 0 Z) Tryz.underlying9 Tryz.underlying232 Tryz.underlying4 zz4 Z Z (Nat.le_trans x.h.2 (by decide)) hsm) Z (Lp Z Z Z (Lan Z Z (hK19 _ _ (Rm Z Z (L_y (g_ 0 Tryz.underlying149 Z sz9 Z Z Z) Z (L_y (t_ Tryz.underlying9 Z Z (((S6.blk 1 Z).cell _).trans (by rfl))) Z ?_)))))));refine L_o (o_mapUpZ S6 0 Z Tryz.underlying9 Tryz.underlying232 Tryz.underlying4 Z Z Z (Nat.le_trans x.h.2 (by decide)) (by omega) fun w9 S9=>f_ (hK11 _ _ (b_ (L_y (w_ Z Z (z_ (by omega))) Z (Lm Z Z (f_ ?_))))));have hon2:hasS ((l.take k).map EV.nm) x.nm=decide (¬ once (l.take (k+1))):=by rw [Bool.eq_iff_iff,hv_,decide_eq_true_iff];have h8:once (l.take k):=Decidable.not_not.1 (of_decide_eq_false (htw.symm.trans h27));exact ⟨fun h=>kj_ hx h,fun h=>Classical.byContradiction fun h9=>h (kg_ hx h8 h9)⟩
       have S9:=S9.drop (.cons_cons _ (.cons _ (.refl _)));refine ⟨k+1,_,_,by omega,⟨⟨by omega,fi_ hok hx hmd hnm,hon2,by rw [hd_ hx,List.map_append];exact hsm.put x.nm⟩,S9⟩,?_⟩;exact (Sc Z (Sc Z (Sub.cons Z Z (Sub.cons Z Z (Sub.cons Z Z (Sub.cons Z Z (Sub.nil _)))))))
   ·
    have hkn:k=n:=by omega
    rw [List.take_of_length_le (by omega)] at htw;have hc1:fr_ l=0:=(fq_ k hok (by omega)).trans (by rw [List.drop_of_length_le (by omega)];rfl);refine K_ (hK7 _ _ (a_ fun K20 hK20=>a_ fun K21 hK21=>Rm Z Z (f_ (hK21 _ _ ?_))));refine aD_ Z (fun h37=>?_) (fun h37=>?_)
    ·
     have hon:¬ once l:=of_decide_eq_true (htw.symm.trans h37);refine a_ fun K22 hK22=>b_ (Lan Z Z (hK22 _ _ (l_ (ur (F_ Z Z ?_)))));exact ⟨_,rfl,S2.like0,congrArg (Value.int _) (jI_ (by omega) hc1 hon).symm⟩
    ·
     have hon:once l:=Decidable.not_not.1 (of_decide_eq_false (htw.symm.trans h37));refine j_ (hK20 _ _ (a_ fun K23 hK23=>a_ fun K24 hK24=>b_ (Lan Z Z (hK24 _ _ (r_ ?_)))));refine an_ [(0,_)] (fun (k:Nat)=>[(7,.int .i64 (k:Int))]) (fun (k:Nat)=>n - k) (fun (k:Nat) (w:World)=>((1≤k∧(k≤n∨k=1))∧(∀ j x y,j+1 < k→l[j]?=some x→l[j+1]?=some y→ltK x y=true))∧St w0 noM [] w) 1 (Sc Z (Sub.nil _)) (Sub.cons Z Z (Sub.nil _)) ?_ ?_
     ·
      exact ⟨⟨⟨Nat.le_refl _,.inr Z⟩,fun j x y hj=>absurd hj (by omega)⟩,S2.drop (.cons _ (.refl _))⟩
     ·
      intro k w10 hrel;obtain ⟨⟨⟨hk1,hk2⟩,hri⟩,S10⟩:=hrel;refine a_ fun K25 hK25=>a_ fun K26 hK26=>Rm Z Z (Lm Z Z (L_y (I_ Tryz.underlying78 Z) Z (L_y (L_ Z Z) Z (f_ (hK26 _ _ ?_)))));refine o_ Z (fun h41=>?_) (fun h41=>?_)
      ·
       obtain ⟨x,hx⟩:∃ x,l[k - 1]?=some x:=⟨_,List.getElem?_eq_getElem (by omega)⟩;obtain ⟨y,hy⟩:∃ y,l[k]?=some y:=⟨_,List.getElem?_eq_getElem (by omega)⟩;refine j_ (hK25 _ _ (a_ fun K27 hK27=>r_ (a_ fun K28 hK28=>gb_ 9 aS_ (by kernel_rfl) fun w11 l11 K29 hK29=>have S11:=S10.like l11;al_ (p_ Z) Z (al_ (p_ Z) Z (al_ (ax_ Z Z (z_ (by omega))) Z (al_ (T_ Tryz.underlying78 au_ Z Z (S11.rd hl) (Nt.mk (by omega):Nt _ (k - 1)) (by omega)) Z (al_ (cp_ (f:=enf) aG_ Tryz.underlying149 Z au_ Z (S11.rd hl) (by omega) hx) Z (al_ (p_ Z) Z (al_ (p_ Z) Z ?_)))))))));refine al_ (T_ Tryz.underlying78 au_ Z Z (S11.rd hl) (Nt.mk (by omega):Nt _ (k)) (by omega)) Z (al_ (cp_ (f:=enf) aG_ Tryz.underlying149 Z au_ Z (S11.rd hl) (by omega) hy) Z (gd_ (hK29 _ (L_o (n_ Tryz.func143 Z Z (order x y w11) Z Z ?_)))));rintro e12 w12 ⟨v12,rfl,l12,v53,rfl,hv53⟩;refine ⟨_,rfl,(have S12:=S11.like l12;L_y (cq_ Z Z) Z (f_ (hK28 _ _ ?_)))⟩;refine o_ Z (fun h54=>?_) (fun h54=>?_)
       ·
        have hxy:ltK x y=false:=by cases h9:ltK x y with | false=>rfl | true=>exact absurd (hv53.2 h9) (by omega)
        refine a_ fun K30 hK30=>b_ (Lan Z Z (hK30 _ _ (l_ (ur (F_ Z Z ?_)))));exact ⟨_,rfl,S12.like0,congrArg (Value.int _) (chkE_ord (by omega) hc1 hon ((ix_ l k hri (by omega)).trans (risK_no hx (by rw [show k - 1+1=k by omega];exact hy) hxy))).symm⟩
       ·
        have hxy:ltK x y=true:=hv53.1 (by omega);refine j_ (hK27 _ _ (Rm Z Z (L_y (w_ Z Z (z_ (by omega))) Z (Lan Z Z (⟨k+1,by omega,⟨⟨⟨by omega,by omega⟩,ris_next hri hx hy (by omega) hxy⟩,S12⟩,?_⟩)))));exact (Sub.cons Z (congrArg (Value.int _) (by omega)) (Sub.cons Z Z (Sub.nil _)))
      ·
       refine K_ (hK23 _ _ (a_ fun K31 hK31=>b_ (Lan Z Z (hK31 _ _ (l_ (ur (F_ Z Z ?_)))))));exact ⟨_,rfl,S10.like0,congrArg (Value.int _) (chkE_ok (by omega) hc1 hon (risK_fin hri (by omega) (by omega))).symm⟩
end Tre
namespace Tre
open Go.RowKit Zk Zx
theorem once_in {l:List EV} {i k:Nat} {x:EV} (hi:l[i]?=some x) (hik:i < k):x.nm ∈ (l.take k).map EV.nm :=
  List.mem_map.2 ⟨x,List.mem_of_getElem? (by rw [List.getElem?_take,if_pos hik];exact hi),rfl⟩
theorem once_out {l:List EV} {k:Nat} {x:EV} (h:∀ j y,j < k→l[j]?=some y→y.nm≠x.nm):x.nm ∉ (l.take k).map EV.nm:=fun hm=>by
  obtain ⟨y,hy,e⟩:=List.mem_map.1 hm
  obtain ⟨j,hj,rfl⟩:=List.getElem_of_mem hy
  have hjk:j < k:=by rw [List.length_take] at hj;omega
  exact h j _ hjk (by rw [List.getElem_take];exact List.getElem?_eq_getElem _) e
theorem en_get (l:List EV) (k t:Nat) (x:EV) (hx:l[k]?=some x) (ht:t < 34):(l.flatMap enf)[k*34+t]?=(enf x)[t]?:=by
  have h:=fV_ hx
  have e:l=l.take k++x::l.drop (k+1):=by rw [← h,List.take_append_drop]
  have hk:=(List.getElem?_eq_some_iff.1 hx).1
  rw [e,List.flatMap_append,List.flatMap_cons,List.getElem?_append_right (by rw [ld_,List.length_take];omega),ld_,List.length_take,Nat.min_eq_left (by omega),Nat.add_sub_cancel_left,List.getElem?_append_left (by rw [aG_];exact ht)]
theorem en_nm {l:List EV} {k:Nat} {x:EV} (hx:l[k]?=some x):(l.flatMap enf)[k*34+0]?=some (.string x.nm):=(en_get l k 0 x hx (by omega)).trans Z
theorem en_md {l:List EV} {k:Nat} {x:EV} (hx:l[k]?=some x):(l.flatMap enf)[k*34+1]?=some (.int .i64 x.md):=(en_get l k 1 x hx (by omega)).trans Z
end Tre
namespace Obj
open Go.RowKit Zk Zx
open Oid (idf B_)
open Tre (aw_ EV enf aG_ cD_ cE_)
open Rev (aT_ ar_ bb_)
theorem lv_ (l:List UInt8):Lib.bytesOf (l.map fun c=>(c.toNat:Int))=l:=by
  unfold Lib.bytesOf
  rw [List.map_map]
  conv=>rhs;rw [← List.map_id l]
  apply List.map_congr_left
  intro c _
  simp
theorem byteC (c:UInt8):((c.toNat:Int)).toNat.toUInt8=c:=by rw [Int.toNat_natCast];exact UInt8.ofNat_toNat
theorem bidx1 (a:Addr) (n c b2 d:Nat) (l:List UInt8) (x:UInt8) (w0:World) (hb:Rs w0 1 (some a) n c (bL l)) (hs:Rs w0 1 (some ⟨b2,0,none⟩) 1 d (bL [x])):Calls Tryz.prog 170 #[.slice (some a) n c,.slice (some ⟨b2,0,none⟩) 1 d] w0 fun e w'=>∃ u,e=.returned u∧Like w0 w'∧u=.int .i64 (Lib.indexByte l x):=by
  have hl:=hb.lenb
  have hc2:w0.cell? ⟨b2,0,none⟩=some (.int .u8 (x.toNat:Int)):=by
    obtain ⟨ad,v,h1,h2,h3⟩:=hs.at_ (k:=0) (by omega)
    cases h1
    have h4:v=.int .u8 (x.toNat:Int):=by cases h2;rfl
    rw [h4] at h3
    exact h3
  have h:=Any.bytes_Index_one_at Tre.idxB a n c b2 0 d (l.map fun c=>(c.toNat:Int)) (x.toNat:Int) w0 (by rw [List.length_map];exact hl) (fun i hi=>by
    obtain ⟨ad,v,h1,h2,h3⟩:=hb.at_ hi
    cases h1
    rw [h3]
    have hx:l[i]?=some l[i]:=List.getElem?_eq_getElem (by omega)
    rw [cP_ _ _ _ hx] at h2
    cases h2
    rw [List.getD_eq_getElem?_getD,List.getElem?_map,hx]
    rfl) hc2
  rw [lv_,byteC] at h
  refine (show Calls Tryz.prog 170 _ _ _ from h).mono fun e w' ⟨h1,h2⟩=>?_
  subst h2
  exact ⟨_,h1,Like.refl _,rfl⟩
def jN_ (c:UInt8) (a:Addr) (n cp:Nat) (l:List UInt8):Value:=match aT_ c l with
  | some (p,q)=>.tuple #[.slice (ct_ (some a) cp 0 1) p.length cp,.slice (ct_ (some a) cp (p.length+1) 1) (n - (p.length+1)) (cp - (p.length+1)),.bool true]
  | none=>.tuple #[.slice (some a) n cp,.slice none 0 0,.bool false]
theorem jL_ {c:UInt8} {a:Addr} {n cp:Nat} {l p q:List UInt8} (h:aT_ c l=some (p,q)):jN_ c a n cp l=.tuple #[.slice (ct_ (some a) cp 0 1) p.length cp,.slice (ct_ (some a) cp (p.length+1) 1) (n - (p.length+1)) (cp - (p.length+1)),.bool true]:=by unfold jN_;rw [h]
theorem jM_ {c:UInt8} {a:Addr} {n cp:Nat} {l:List UInt8} (h:aT_ c l=none):jN_ c a n cp l=.tuple #[.slice (some a) n cp,.slice none 0 0,.bool false]:=by unfold jN_;rw [h]
theorem idx_some {c:UInt8} {l p q:List UInt8} (h:aT_ c l=some (p,q)):Lib.indexByte l c=(p.length:Int):=by have:=Rev.iF_ c l;rw [h] at this;exact this
theorem idx_none {c:UInt8} {l:List UInt8} (h:aT_ c l=none):Lib.indexByte l c = -1:=by have:=Rev.iF_ c l;rw [h] at this;exact this
theorem bcut1 (a:Addr) (n c b2 d:Nat) (l:List UInt8) (x:UInt8) (w0:World) (hb:Rs w0 1 (some a) n c (bL l)) (hs:Rs w0 1 (some ⟨b2,0,none⟩) 1 d (bL [x])) (p q:List UInt8) (hcf:aT_ x l=some (p,q)) :
    Calls Tryz.prog 141 #[.slice (some a) n c,.slice (some ⟨b2,0,none⟩) 1 d] w0 fun e w'=>∃ u,e=.returned u∧Like w0 w'∧u=jN_ x a n c l:=by
 refine v_ (env:=[(0,.slice (some a) n c),(1,.slice (some ⟨b2,0,none⟩) 1 d)]) [.slice (some a) n c,.slice (some ⟨b2,0,none⟩) 1 d] Tryz.func141 Z Tryz.ntmps141 Z Z ?_;have hl:=hb.lenb;have hcap:=hb.cap;have hmax:=hb.max;have hlp:l.length=p.length+1+q.length:=by have h9:=(ar_ hcf).1;rw [h9,List.length_append,List.length_cons];omega
 have S0:=St.start w0 noM;refine a_ fun K1 hK1=>b_ (La Z Z (La Z Z (Lan Z Z (hK1 _ _ (a_ fun K2 hK2=>a_ fun K3 hK3=>Rm Z Z (Lm Z Z (L_o (n_ Tryz.func170 Z Z (bidx1 a n c b2 d l x w0 (S0.rd hb) (S0.rd hs)) Z Z ?_))))))));rintro e1 w1 ⟨v1,rfl,l1,rfl⟩;refine ⟨_,rfl,?_⟩;have S1:=S0.like l1;rw [idx_some hcf];refine Lan Z Z (hK3 _ _ (a_ fun K4 hK4=>Rm Z Z (L_y (cq_ Z Z) Z (f_ (hK4 _ _ ?_)))));refine o_ Z (fun h12=>?_) (fun h12=>?_)
 ·
  refine a_ fun K5 hK5=>ak_ [(0,true),(1,true),(2,true),(3,true),(4,true),(5,true),(6,true),(7,true),(8,true),(9,true),(10,true),(11,true)] aS_ (by kernel_rfl) fun w2 l2=>have S2:=S1.like l2;u_ Z (p_ Z) Z (u_ Z (p_ Z) Z (u_ Z (gW_ Tryz.underlying22 sz5 Z Z (Nt.mk Z:Nt _ (p.length)) (by omega)) Z (u_ Z (p_ Z) Z (u_ Z (p_ Z) Z (u_ Z (p_ Z) Z (u_ Z (I_ Tryz.underlying22 Z) Z (u_ Z (w_ Z Z (z_ (by omega))) Z (u_ Z (cv_ Tryz.underlying22 sz5 Z Z (Nt.mk (by omega):Nt _ (p.length+1)) (by omega)) Z (u_ Z (J_ Z) Z (u_ Z (J_ Z) Z ?_))))))))));refine u_ Z (J_ Z) Z (aH_ (hK5 _ _ (l_ (ur (cN_ Z Z Z Z ?_)))));exact ⟨_,rfl,S2.like0,(jL_ hcf).symm⟩
 ·
  exact absurd (by omega) h12
theorem bcut0 (a:Addr) (n c b2 d:Nat) (l:List UInt8) (x:UInt8) (w0:World) (hb:Rs w0 1 (some a) n c (bL l)) (hs:Rs w0 1 (some ⟨b2,0,none⟩) 1 d (bL [x])) (hcf:aT_ x l=none) :
    Calls Tryz.prog 141 #[.slice (some a) n c,.slice (some ⟨b2,0,none⟩) 1 d] w0 fun e w'=>∃ u,e=.returned u∧Like w0 w'∧u=jN_ x a n c l:=by
 refine v_ (env:=[(0,.slice (some a) n c),(1,.slice (some ⟨b2,0,none⟩) 1 d)]) [.slice (some a) n c,.slice (some ⟨b2,0,none⟩) 1 d] Tryz.func141 Z Tryz.ntmps141 Z Z ?_;have hl:=hb.lenb;have hcap:=hb.cap;have hmax:=hb.max;have S0:=St.start w0 noM;refine a_ fun K1 hK1=>b_ (La Z Z (La Z Z (Lan Z Z (hK1 _ _ (a_ fun K2 hK2=>a_ fun K3 hK3=>Rm Z Z (Lm Z Z (L_o (n_ Tryz.func170 Z Z (bidx1 a n c b2 d l x w0 (S0.rd hb) (S0.rd hs)) Z Z ?_))))))));rintro e1 w1 ⟨v1,rfl,l1,rfl⟩;refine ⟨_,rfl,?_⟩;have S1:=S0.like l1;rw [idx_none hcf];refine Lan Z Z (hK3 _ _ (a_ fun K4 hK4=>Rm Z Z (L_y (cq_ Z Z) Z (f_ (hK4 _ _ ?_)))));refine o_ Z (fun h12=>?_) (fun h12=>?_)
 ·
  omega
 ·
  refine j_ (hK2 _ _ (a_ fun K5 hK5=>Rm Z Z (La Z Z (La Z Z (Lan Z Z (hK5 _ _ (l_ (ur (cN_ Z Z Z Z ?_)))))))));exact ⟨_,rfl,S1.like0,(jM_ hcf).symm⟩
theorem bcut (a:Addr) (n c b2 d:Nat) (l:List UInt8) (x:UInt8) (w0:World) (hb:Rs w0 1 (some a) n c (bL l)) (hs:Rs w0 1 (some ⟨b2,0,none⟩) 1 d (bL [x])):Calls Tryz.prog 141 #[.slice (some a) n c,.slice (some ⟨b2,0,none⟩) 1 d] w0 fun e w'=>∃ u,e=.returned u∧Like w0 w'∧u=jN_ x a n c l:=by
  cases h:aT_ x l with
  | none=>exact bcut0 a n c b2 d l x w0 hb hs h
  | some pq=>exact bcut1 a n c b2 d l x w0 hb hs pq.1 pq.2 h
end Obj
namespace Zx
open Go.RowKit Zk
section
variable {P : Program} {N : Nat} {Q : Exit → Env → World → Prop} {env : Env} {w w0 : World} {M : Nat → Prop} {rs : List Res} {K : Env → World → Prop} {d : Tmp} {ty : TypeId} {pos : String} {after : Array Edge} {g : Option (Nat × Bool)}
theorem o_makeN {t e:TypeId} {z:Value} {size bytes:Nat} {x y:Operand} {k k':IntKind} {jn jc:Int} {n c:Nat} (TE:Elem P t e z size bytes) (xs:List Value) (hxl:xs.length=n*size) (hxs:∀ i,i < n*size→xs[i]?=z.cells[i % size]?) (hs0:0 < size) (S:St w0 M rs w) (hx:ev env x=some (.int k jn)) (hy:ev env y=some (.int k' jc)) (hn:Nt jn n) (hc:Nt jc c) (hd:Nat.blt d N=true)
    (hnc:n≤c) (hbytes:c*bytes≤281474976710656) (hcm:c≤9223372036854775807)
    (h:∀ b w',St w0 M (rs++[row e size (some ⟨b,0,none⟩) n c xs]) w'→K ((d,.slice (some ⟨b,0,none⟩) n c)::env) w') :
    O P N Q ⟨some d,.makeSlice t x y,ty,pos,after,g⟩ env w K:=fun a ha=>by
  have e1:=hn.eq
  have e2:=hc.eq
  subst e1;subst e2
  obtain ⟨i,hi,hz',hsize,hby⟩:=info_parts TE.hi
  have hb:(i.bytes:Int)*(c:Int)≤281474976710656:=by
    have h:((i.bytes*c:Nat):Int)≤281474976710656:=by rw [hby,Nat.mul_comm];omega
    rwa [Int.natCast_mul] at h
  have hr:=run_make (P:=P) w t e i z TE.ht hi hz' k k' n c (by omega) (by omega) hb (by omega)
  simp only [Int.toNat_natCast] at hr
  unfold Oper.wp execOp
  simp only [ha.eval hx,ha.eval hy,Sem.run_bind,hr,Result.andThen_ok,Sem.run_pure]
  have hzc:z.cells.size=size:=TE.hzs
  have hle:n*size≤c*size:=Nat.mul_le_mul_right _ hnc
  refine ⟨_,ha.put d _ hd,h _ _ (S.new (bn_ w _) _ ?_ fun i hi=>?_)⟩
  · refine ⟨hxl,.inr ⟨w.heap.size,c,_,rfl,Nat.zero_le _,heap_alloc_new w _,hnc,by unfold maxLen;omega,?_,?_⟩⟩
    · rw [hsize];simp [madeCells]
    · rw [hsize]
      apply List.ext_getElem?
      intro j
      rw [List.getElem?_take]
      split
      · rename_i hj
        rw [hxs j hj,Array.getElem?_toList,Array.getElem?_eq_getElem (by simp [madeCells];omega)]
        have hm:j % size < z.cells.size:=by rw [hzc];exact Nat.mod_lt _ hs0
        rw [Array.getElem?_eq_getElem hm]
        simp only [madeCells,Array.getElem_map,Array.getElem_range,hzc]
        rw [getElem!_pos z.cells (j % size) hm]
      · rename_i hj
        exact (List.getElem?_eq_none (by rw [hxl];omega)).symm
  · change (Value.slice (some ⟨w.heap.size,0,none⟩) n c).ownBlock=some i at hi
    simp only [Value.ownBlock,Option.some.injEq] at hi
    subst hi
    exact ⟨Nat.le_refl _,by simp⟩
variable {dst : Option Tmp}
theorem y_ldfN {x:Operand} {A:Option Addr} {n c k size m:Nat} {xs vs:List Value} {lt:TypeId} {d':TypeDesc} (hd:P.underlying lt=some d') (hrow:d'.isRow=true) (hsz:(P.info? lt).map (·.size)=some m) (hx:ev env x=some (pRF A k)) (hr:Rs w size A n c xs) (hn:0 < n) (hv:(xs.drop k).take m=vs) (hm:vs.length=m) :
    Y P (Like w) env ⟨dst,.load lt x,ty,pos,after,g⟩ (.agg vs.toArray):=fun N a w' ha hw=>by
  subst hv
  obtain ⟨ad,rfl,hb,hcell⟩:=hr.rd.2 (by omega)
  have hagg:(isAgg lt).run P w'=.ok true w':=by
    unfold isAgg
    rw [Sem.run_bind,run_underlying hd w']
    cases d' <;> simp_all [TypeDesc.isRow]
  have h1:=run_loadCells_list (P:=P) (w:=w') (ad.add k) ((xs.drop k).take m) (fun j v hj=>by
    rw [List.getElem?_take] at hj
    split at hj
    · rw [List.getElem?_drop] at hj
      rw [ei_]
      exact Like.cell hw (hcell _ _ hj)
    · cases hj)
  rw [hm] at h1
  simp only [execOp,ha.eval hx,pRF,Option.map_some,Instr.loadAt,Instr.sureAddr,loadVar,Sem.run_bind,Sem.run_pure,Result.andThen_ok,hagg,if_true,aK_ hsz,h1]
theorem flat_part {α:Type} (f : α→List Value) (size:Nat) (hlen:∀ y,(f y).length=size) (l:List α) (k o m:Nat) (y : α) (h:l[k]?=some y) (ho:o+m≤size):((l.flatMap f).drop (k*size+o)).take m=((f y).drop o).take m:=by
  rw [← hy_ f size hlen l k y h,List.drop_take,List.take_take,List.drop_drop,Nat.min_eq_left (by omega)]
end
end Zx
namespace Zx
open Go.RowKit Zk
theorem St.adoptS {w0 w w':World} {M:Nat→Prop} {rs qs:List Res} (S:St w0 M rs w) (T:St w noM qs w'):St w0 M (rs++qs) w':=by
  have S':=S.like T.like0
  refine ⟨S'.os,S'.tape,S'.output,S'.size,S'.old,fun q hq=>?_,?_⟩
  · rcases List.mem_append.1 hq with hq | hq
    · exact S'.res q hq
    · refine ⟨(T.res q hq).1,fun i hi=>?_⟩
      have h:=(T.res q hq).2 i hi
      refine ⟨h.1,.inl ?_⟩
      rcases h.2 with h2 | h2
      · exact Nat.le_trans S.size h2
      · exact h2.elim
  · rw [List.pairwise_append]
    refine ⟨S'.apart,T.apart,fun q hq s hs i hi hsi=>?_⟩
    have h1:=((S.res q hq).2 i hi).1
    have h2:=((T.res s hs).2 i hsi).2
    rcases h2 with h2 | h2
    · omega
    · exact h2
section
variable {P : Program} {N : Nat} {Q : Exit → Env → World → Prop} {env : Env} {w w0 : World}
variable {S : World → Prop} {dst : Option Tmp} {ty : TypeId} {pos : String} {after : Array Edge} {gd : Option (Nat × Bool)}
end
end Zx
namespace Zx
open Go.RowKit Zk
section
variable {P : Program} {env : Env} {S : World → Prop} {dst : Option Tmp} {ty : TypeId} {pos : String} {after : Array Edge} {g : Option (Nat × Bool)}
end
theorem bL_setX (l:List UInt8) (k:Nat) (c:UInt8):(bL l).set k (Value.int .u8 (c.toNat:Int))=bL (l.set k c):=by
  unfold bL
  rw [List.map_set]
  rfl
end Zx
namespace Zx
open Go.RowKit Zk
section
variable {P : Program} {N : Nat} {Q : Exit → Env → World → Prop} {env : Env} {w w0 : World}
theorem dA_ {fn:Func} {R:Ending→World→Prop} {p q r:Tmp} {lt b t:Nat} {cs:Array Value} {d:TypeDesc} {v u:Value} (hr:fn.results = #[.cell p lt,.tmp q,.tmp r]) (hp:look env p=some (.pointer (some ⟨b,0,none⟩))) (hq:look env q=some v) (hq2:look env r=some u) (hb:Blk w b t cs) (hd:P.underlying lt=some d) (hrow:d.isRow=true)
    (hsz:(P.info? lt).map (·.size)=some cs.size) (h:R (.returned (.tuple #[.agg cs,v,u])) w) (hd0:dfs env=[]:=by rfl):dj_ P fn R .ret env w :=
  ⟨hd0,_,fun N a ha=>by rw [iy_ hr a.tmps (ha.getD hp) hb d hd hrow hsz,ha.getD hq,ha.getD hq2],h⟩
end
end Zx
namespace Obj
open Go.RowKit Zk Zx
open Oid (idf B_)
open Tre (aw_ EV enf aG_ cD_ cE_)
open Rev (aT_ ar_ bb_)
theorem aI_ {w:World} {A:Option Addr} {n c:Nat} {b:List UInt8} (k:Nat) (h:Rs w 1 A n c (bL b)) (h1:k≤n):Rs w 1 (ct_ A c k 1) (n - k) (c - k) (bL (b.drop k)):=by
  have h2:=h.cutb (l:=k) (u:=n) h1 (Nat.le_refl _)
  rwa [List.take_of_length_le (by rw [List.length_drop,h.lenb];omega)] at h2
theorem kt_ (a:Addr) (c l size:Nat):∃ a2,ct_ (some a) c l size=some a2:=by
  unfold ct_
  split
  · exact ⟨a,rfl⟩
  · exact ⟨_,rfl⟩
def ef (nm:ByteArray) (md:Int) (id:List UInt8):List Value:=.string nm::.int .i64 md::bL id
theorem ef_en (y:EV):enf y=ef y.nm y.md y.id:=rfl
theorem S_ (nm:ByteArray) (md:Int) {id:List UInt8} (h:id.length=32):(ef nm md id).length=34:=by simp [ef,h]
theorem cF_ (nm:ByteArray) (md:Int) (id:List UInt8):∀ u ∈ ef nm md id,u.oneCell'=true:=fun u hu=>by
  rcases List.mem_cons.1 hu with rfl | hu
  · rfl
  · rcases List.mem_cons.1 hu with rfl | hu
    · rfl
    · exact R_ _ u hu
theorem cn_ (nm:ByteArray) (md:Int) {id:List UInt8} (h:id.length=32):((ef nm md id).toArray.toList.drop 0).take 34=ef nm md id∧(ef nm md id).length=34:=⟨by rw [List.drop_zero,List.toList_toArray];exact List.take_of_length_le (by rw [S_ nm md h];omega),S_ nm md h⟩
theorem ef_0 (nm:ByteArray) (md:Int) (id:List UInt8):(ef nm md id).toArray[0]?=some (.string nm):=rfl
theorem ef_1 (nm:ByteArray) (md:Int) (id:List UInt8):(ef nm md id).toArray[1]?=some (.int .i64 md):=rfl
theorem iG_ {nm nm':ByteArray} {md:Int} {id:List UInt8}:(ef nm md id).toArray.setIfInBounds 0 (.string nm')=(ef nm' md id).toArray:=by rw [List.setIfInBounds_toArray];rfl
theorem ef_set1 {nm:ByteArray} {md md':Int} {id:List UInt8}:(ef nm md id).toArray.setIfInBounds 1 (.int .i64 md')=(ef nm md' id).toArray:=by rw [List.setIfInBounds_toArray];rfl
theorem ef_cp {nm:ByteArray} {md:Int} {id z:List UInt8} (h:id.length=32) (hz:z.length=32):((ef nm md id).toArray.toList.take 2++bL z++(ef nm md id).toArray.toList.drop (2+(bL z).length)).toArray=(ef nm md z).toArray:=by
  rw [List.drop_of_length_le (by rw [List.toList_toArray,S_ nm md h,length_bL];omega),List.append_nil]
  rfl
def zB:List UInt8:=List.replicate 32 0
theorem A_:zB.length=32:=rfl
def bN_:List UInt8→Int × List UInt8 × List UInt8
  | []=>(16,[],[])
  | m :: r=>if ¬ ((m.toNat:Int) - 48=1∨(m.toNat:Int) - 48=2∨(m.toNat:Int) - 48=3) then (16,[],[]) else match r with
    | []=>(10,[],[])
    | s::t=>if s≠32 then (16,[],[]) else match aT_ 0 t with
      | none=>if aw_ ⟨t.toArray⟩=false then (15,[],[]) else (10,[],[])
      | some (p,q)=>if aw_ ⟨p.toArray⟩=false then (15,[],[]) else if q.length < 32 then (10,[],[]) else (0,p,q.drop 32)
def fw_ (a:Addr) (n c:Nat) (b:List UInt8) (u:Value):Prop:=∃ (nm:ByteArray) (md:Int) (id:List UInt8) (A:Option Addr) (k cp:Nat),id.length=32∧u=.tuple #[.agg (ef nm md id).toArray,.slice A k cp,.int .i64 (bN_ b).1] ∧
  ((bN_ b).1=0→nm=⟨(bN_ b).2.1.toArray⟩∧md=((b.getD 0 0).toNat:Int) - 48∧∀ W,Rs W 1 (some a) n c (bL b)→Rs W 1 A k cp (bL (bN_ b).2.2))
theorem fw_.bad {a:Addr} {n c:Nat} {b:List UInt8} {nm:ByteArray} {md e:Int} {id:List UInt8} (hi:id.length=32) (he:(bN_ b).1=e) (h0:e≠0):fw_ a n c b (.tuple #[.agg (ef nm md id).toArray,.slice none 0 0,.int .i64 e]) :=
  ⟨nm,md,id,none,0,0,hi,by rw [he],fun h=>absurd (he.symm.trans h) h0⟩
section
variable {m s : UInt8} {t p q : List UInt8}
abbrev mok (m:UInt8):Prop:=(m.toNat:Int) - 48=1∨(m.toNat:Int) - 48=2∨(m.toNat:Int) - 48=3
theorem one_16 {r:List UInt8} (h:¬ mok m):(bN_ (m::r)).1=16:=by unfold bN_;simp only [];rw [if_pos h]
theorem one_10 (h:mok m):(bN_ [m]).1=10:=by unfold bN_;simp only [];rw [if_neg (fun q=>q h)]
theorem kO_ (h:mok m) (hs:s≠32):(bN_ (m::s::t)).1=16:=by unfold bN_;simp only [];rw [if_neg (fun q=>q h)];(try simp only []);rw [if_pos hs]
theorem one_n15 (h:mok m) (hc:aT_ 0 t=none) (hn:aw_ ⟨t.toArray⟩=false):(bN_ (m::32::t)).1=15:=by unfold bN_;simp only [];rw [if_neg (fun q=>q h)];(try simp only []);rw [if_neg (fun q=>q Z),hc];(try simp only []);rw [if_pos hn]
theorem one_n10 (h:mok m) (hc:aT_ 0 t=none) (hn:¬ aw_ ⟨t.toArray⟩=false):(bN_ (m::32::t)).1=10:=by unfold bN_;simp only [];rw [if_neg (fun q=>q h)];(try simp only []);rw [if_neg (fun q=>q Z),hc];(try simp only []);rw [if_neg hn]
theorem one_s15 (h:mok m) (hc:aT_ 0 t=some (p,q)) (hn:aw_ ⟨p.toArray⟩=false):(bN_ (m::32::t)).1=15:=by unfold bN_;simp only [];rw [if_neg (fun q=>q h)];(try simp only []);rw [if_neg (fun q=>q Z),hc];(try simp only []);rw [if_pos hn]
theorem one_s10 (h:mok m) (hc:aT_ 0 t=some (p,q)) (hn:¬ aw_ ⟨p.toArray⟩=false) (hq:q.length < 32):(bN_ (m::32::t)).1=10:=by unfold bN_;simp only [];rw [if_neg (fun q=>q h)];(try simp only []);rw [if_neg (fun q=>q Z),hc];(try simp only []);rw [if_neg hn,if_pos hq]
theorem one_s0 (h:mok m) (hc:aT_ 0 t=some (p,q)) (hn:¬ aw_ ⟨p.toArray⟩=false) (hq:¬ q.length < 32):bN_ (m::32::t)=(0,p,q.drop 32):=by unfold bN_;simp only [];rw [if_neg (fun q=>q h)];(try simp only []);rw [if_neg (fun q=>q Z),hc];(try simp only []);rw [if_neg hn,if_neg hq]
end
theorem one_less {b:List UInt8} (h:(bN_ b).1=0):(bN_ b).2.2.length+34≤b.length:=by
  unfold bN_ at h ⊢
  match b with
  | []=>cases h
  | m :: r =>
    simp only [] at h ⊢
    split at h
    · cases h
    · rename_i h1
      rw [if_neg h1]
      match r with
      | []=>cases h
      | s :: t =>
        simp only [] at h ⊢
        split at h
        · cases h
        · rename_i h2
          rw [if_neg h2]
          cases hc:aT_ 0 t with
          | none =>
            rw [hc] at h
            simp only [] at h
            split at h <;> cases h
          | some pq =>
            obtain ⟨p,q⟩:=pq
            rw [hc] at h
            simp only [] at h ⊢
            split at h
            · cases h
            · rename_i h3
              rw [if_neg h3]
              split at h
              · cases h
              · rename_i h4
                rw [if_neg h4]
                have h9:=(ar_ hc).1
                simp only [List.length_cons,List.length_drop]
                rw [h9,List.length_append,List.length_cons]
                omega
end Obj
namespace Obj
open Go.RowKit Zk Zx
open Oid (idf B_)
open Tre (aw_ EV enf aG_ cD_ cE_)
open Rev (aT_ ar_ bb_)
theorem fw_.good {a:Addr} {n c:Nat} {b p q:List UInt8} {nm:ByteArray} {md:Int} {id:List UInt8} {A:Option Addr} {k cp:Nat} (hi:id.length=32) (e:bN_ b=(0,p,q)) (hn:nm=⟨p.toArray⟩) (hm:md=((b.getD 0 0).toNat:Int) - 48) (hR:∀ W,Rs W 1 (some a) n c (bL b)→Rs W 1 A k cp (bL q)):fw_ a n c b (.tuple #[.agg (ef nm md id).toArray,.slice A k cp,.int .i64 0]) :=
  ⟨nm,md,id,A,k,cp,hi,by rw [e],fun _=>⟨by rw [e];exact hn,hm,fun W hW=>by rw [e];exact hR W hW⟩⟩
theorem cut_drop {t p q:List UInt8} (h:aT_ 0 t=some (p,q)):t.drop (p.length+1)=q∧t.take p.length=p∧t.length=p.length+1+q.length:=by
  have h9:=(ar_ h).1
  refine ⟨?_,?_,?_⟩
  · rw [h9, ← List.drop_drop,List.drop_append_of_le_length (Nat.le_refl _),List.drop_of_length_le (Nat.le_refl _)];rfl
  · rw [h9,List.take_append_of_le_length (Nat.le_refl _),List.take_of_length_le (Nat.le_refl _)]
  · rw [h9,List.length_append,List.length_cons];omega
theorem bL_takeN (l:List UInt8) (k:Nat):(bL l).take k=bL (l.take k):=by unfold bL;rw [List.map_take]
theorem nat32 {s:UInt8} (h:¬ (s.toNat:Int)≠32):s=32:=UInt8.toNat_inj.1 (by show s.toNat=32;omega)
theorem one1 (a:Addr) (n c:Nat) (m:UInt8) (r:List UInt8) (w0:World) (hb:Rs w0 1 (some a) n c (bL (m::r))) (p q:List UInt8) (hcf0:aT_ 0 ((m::r).drop 2)=some (p,q)) :
    Calls Tryz.prog 106 #[.slice (some a) n c] w0 fun e w'=>∃ u,e=.returned u∧Like w0 w'∧fw_ a n c (m::r) u:=by
 refine v_ (env:=[(0,.slice (some a) n c)]) [.slice (some a) n c] Tryz.func106 Z Tryz.ntmps106 Z Z ?_;have hl:=hb.lenb;have hcap:=hb.cap;have hmax:=hb.max;have hm9:=m.toNat_lt;have hl1:1≤n:=by rw [← hl];simp
 have S0:=St.start w0 noM;refine a_ fun K1 hK1=>b_ (L_o (H_ gV_ S0 Z fun b1 w1 hb1 S1=>have S2:Zx.St w0 noM [blk b1 149 (ef ⟨#[]⟩ 0 zB).toArray] w1:=S1.cast (by kernel_rfl);La Z Z (Lan Z Z (hK1 _ _ (a_ fun K2 hK2=>b_ (L_o (H_ gV_ S2 Z fun b3 w3 hb3 S3=>have S4:Zx.St w0 noM [blk b1 149 (ef ⟨#[]⟩ 0 zB).toArray,blk b3 149 (ef ⟨#[]⟩ 0 zB).toArray] w3:=S3.cast (by kernel_rfl);f_ (hK2 _ _ ?_))))))));refine a_ fun K3 hK3=>Rm Z Z (L_y (T_ Tryz.underlying22 sz5 Z Z (by first | exact S4.rd hb) inferInstance (by omega)) Z ?_);refine L_y (cj_ Tryz.underlying5 Z Z (S4.rd hb) (cP_ _ _ _ (rfl:(m::r)[0]?=some m))) Z (L_y (P_ is5 Tryz.underlying3 Z (z_ (by omega))) Z (L_y (ax_ Z Z (z_ (by omega))) Z (L_y (g_ 1 Tryz.underlying149 Z sz3 Z Z Z) Z (L_o (ac_ S4 1 Z Z Z Z sz3 (by rw [List.size_toArray,S_ _ _ A_];omega) fun w5 S5=>?_)))));have S90:=S5.blkc 1 Z ef_set1;refine f_ (hK3 _ _ (a_ fun K4 hK4=>a_ fun K5 hK5=>b_ (L_y (g_ 1 Tryz.underlying149 Z sz3 Z Z Z) Z (L_y (t_ Tryz.underlying3 Z Z (((S90.blk 1 Z).cell _).trans (ef_1 _ _ _))) Z (L_o (n_ Tryz.func140 Z Z (Tre.mode_ ((m.toNat:Int) - 48) w5) Z Z ?_))))));rintro e6 w6 ⟨v6,rfl,l6,rfl⟩;refine ⟨_,rfl,(have S6:=S90.like l6;L_y ((by first | exact aA_ Z | exact aZ_ Z)) Z ?_)⟩;refine f_ (hK5 _ _ ?_);refine o_ Z (fun h18=>?_) (fun h18=>?_)
 ·
  refine a_ fun K6 hK6=>b_ (L_y (Y_ Tryz.underlying149 Z au_ Z (S6.blk 1 Z) (cn_ _ _ (by first | exact A_ | exact hq32))) Z ?_);refine L_o (G_ S6 0 Z Z Z (by rw [List.size_toArray,S_ _ _ (by first | exact A_ | exact hq32)];exact au_) (by first | (rw [List.size_toArray,List.size_toArray,S_ _ _ (by first | exact A_ | exact hq32),S_ _ _ A_];done) | (rw [List.size_toArray,S_ _ _ (by first | exact A_ | exact hq32)];rfl)) (fun u hu=>cF_ _ _ _ u (by rw [List.toList_toArray] at hu;exact hu)) fun w7 S7=>?_);refine La Z Z (Lan Z Z (hK6 _ _ (l_ (ur (dA_ Z Z Z Z (S7.blk 0 Z) Tryz.underlying149 Z (by rw [List.size_toArray,S_ _ _ (by first | exact A_ | exact hq32)];exact au_) ?_)))));exact ⟨_,rfl,S7.like0,fw_.bad A_ (one_16 h18) (by decide)⟩
 ·
  refine j_ (hK4 _ _ (a_ fun K7 hK7=>a_ fun K8 hK8=>Rm Z Z (L_y (I_ Tryz.underlying22 Z) Z (L_y (L_ Z Z) Z (f_ (hK8 _ _ ?_))))));refine o_ Z (fun h22=>?_) (fun h22=>?_)
  ·
   refine a_ fun K9 hK9=>b_ (L_y (Y_ Tryz.underlying149 Z au_ Z (S6.blk 1 Z) (cn_ _ _ (by first | exact A_ | exact hq32))) Z ?_);refine L_o (G_ S6 0 Z Z Z (by rw [List.size_toArray,S_ _ _ (by first | exact A_ | exact hq32)];exact au_) (by first | (rw [List.size_toArray,List.size_toArray,S_ _ _ (by first | exact A_ | exact hq32),S_ _ _ A_];done) | (rw [List.size_toArray,S_ _ _ (by first | exact A_ | exact hq32)];rfl)) (fun u hu=>cF_ _ _ _ u (by rw [List.toList_toArray] at hu;exact hu)) fun w8 S8=>?_);refine La Z Z (Lan Z Z (hK9 _ _ (l_ (ur (dA_ Z Z Z Z (S8.blk 0 Z) Tryz.underlying149 Z (by rw [List.size_toArray,S_ _ _ (by first | exact A_ | exact hq32)];exact au_) ?_)))));have hr:r=[]:=by cases r with | nil=>rfl | cons s t=>simp at hl;omega
   subst hr;exact ⟨_,rfl,S8.like0,fw_.bad A_ (one_10 (Classical.not_not.1 h18)) (by decide)⟩
  ·
   obtain ⟨s,t,rfl⟩:∃ s t,r=s::t:=by cases r with | nil=>(simp at hl;omega) | cons s t=>exact ⟨s,t,rfl⟩
   have hs9:=s.toNat_lt;have hcf:aT_ 0 t=some (p,q):=hcf0;refine j_ (hK7 _ _ (a_ fun K10 hK10=>a_ fun K11 hK11=>Rm Z Z (L_y (T_ Tryz.underlying22 sz5 Z Z (by first | exact S6.rd hb) inferInstance (by omega)) Z ?_)));refine L_y (cj_ Tryz.underlying5 Z Z (S6.rd hb) (cP_ _ _ _ (rfl:(m::s::t)[1]?=some s))) Z (L_y (ab_ Z Z) Z (f_ (hK11 _ _ ?_)));refine o_ Z (fun h27=>?_) (fun h27=>?_)
   ·
    refine a_ fun K12 hK12=>b_ (L_y (Y_ Tryz.underlying149 Z au_ Z (S6.blk 1 Z) (cn_ _ _ (by first | exact A_ | exact hq32))) Z ?_);refine L_o (G_ S6 0 Z Z Z (by rw [List.size_toArray,S_ _ _ (by first | exact A_ | exact hq32)];exact au_) (by first | (rw [List.size_toArray,List.size_toArray,S_ _ _ (by first | exact A_ | exact hq32),S_ _ _ A_];done) | (rw [List.size_toArray,S_ _ _ (by first | exact A_ | exact hq32)];rfl)) (fun u hu=>cF_ _ _ _ u (by rw [List.toList_toArray] at hu;exact hu)) fun w9 S9=>?_);refine La Z Z (Lan Z Z (hK12 _ _ (l_ (ur (dA_ Z Z Z Z (S9.blk 0 Z) Tryz.underlying149 Z (by rw [List.size_toArray,S_ _ _ (by first | exact A_ | exact hq32)];exact au_) ?_)))));exact ⟨_,rfl,S9.like0,fw_.bad A_ (kO_ (Classical.not_not.1 h18) (fun e=>h27 (by rw [e];rfl))) (by decide)⟩
   ·
    obtain rfl:=nat32 h27;refine j_ (hK10 _ _ (a_ fun K13 hK13=>Rm Z Z (L_y (cv_ Tryz.underlying22 sz5 Z Z inferInstance (by omega)) Z (L_o (ah_ [_] ba_ zz5 S6 Z Z Z Z Z Z Z Z fun b10 w10 S10=>?_)))));obtain ⟨a2,ha2⟩:=kt_ a c 2 1;rw [ha2];have hb2:Rs w0 1 (some a2) (n - 2) (c - 2) (bL t):=by rw [← ha2];exact aI_ 2 hb (by omega)
    have hcp:=hb2.cap;have hln:=hb2.lenb;refine L_o (n_ Tryz.func141 Z Z (bcut a2 (n - 2) (c - 2) _ 1 t 0 w10 (S10.rd hb2) (S10.row 2 Z)) Z Z ?_);rintro e11 w11 ⟨v11,rfl,l11,rfl⟩;refine ⟨_,rfl,?_⟩;have S11:=S10.like l11;rw [jL_ hcf];obtain ⟨hcd,hct,hcl⟩:=cut_drop hcf;have hbq:Rs w0 1 (ct_ (some a2) (c - 2) (p.length+1) 1) (n - 2 - (p.length+1)) (c - 2 - (p.length+1)) (bL q):=by have h9:=aI_ (p.length+1) hb2 (by omega);rw [hcd] at h9;exact h9
    have hbp:Rs w0 1 (ct_ (some a2) (c - 2) 0 1) p.length (c - 2) (bL p):=by have h9:=hb2.cutb (l:=0) (u:=p.length) (by omega) (by omega);rw [List.drop_zero,Nat.sub_zero,hct] at h9;exact h9
    refine Lm Z Z (L_y (m_ Z Z) Z (L_y (m_ Z Z) Z (L_y (m_ Z Z) Z (La Z Z (La Z Z (Lan Z Z (hK13 _ _ (a_ fun K14 hK14=>Rm Z Z (L_y (co_ Tryz.underlying22 Tryz.underlying5 Tryz.underlying9 Z (S11.rd hbp)) Z (L_y (g_ 0 Tryz.underlying149 Z sz9 Z Z Z) Z ?_))))))))));refine L_o (ac_ S11 1 Z Z Z Z sz9 (by rw [List.size_toArray,S_ _ _ A_];omega) fun w12 S12=>?_);have S90:=S12.blkc 1 Z iG_;refine f_ (hK14 _ _ (a_ fun K15 hK15=>a_ fun K16 hK16=>b_ (L_y (g_ 0 Tryz.underlying149 Z sz9 Z Z Z) Z (L_y (t_ Tryz.underlying9 Z Z (((S90.blk 1 Z).cell _).trans (ef_0 _ _ _))) Z (L_o (n_ Tryz.func142 Z Z (Tre.pname _ w12) Z Z ?_))))));rintro e13 w13 ⟨v13,rfl,l13,rfl⟩;refine ⟨_,rfl,(have S13:=S90.like l13;L_y ((by first | exact aA_ Z | exact aZ_ Z)) Z ?_)⟩;refine f_ (hK16 _ _ ?_);refine aD_ Z (fun h43=>?_) (fun h43=>?_)
    ·
     refine a_ fun K17 hK17=>b_ (L_y (Y_ Tryz.underlying149 Z au_ Z (S13.blk 1 Z) (cn_ _ _ (by first | exact A_ | exact hq32))) Z ?_);refine L_o (G_ S13 0 Z Z Z (by rw [List.size_toArray,S_ _ _ (by first | exact A_ | exact hq32)];exact au_) (by first | (rw [List.size_toArray,List.size_toArray,S_ _ _ (by first | exact A_ | exact hq32),S_ _ _ A_];done) | (rw [List.size_toArray,S_ _ _ (by first | exact A_ | exact hq32)];rfl)) (fun u hu=>cF_ _ _ _ u (by rw [List.toList_toArray] at hu;exact hu)) fun w14 S14=>?_);refine La Z Z (Lan Z Z (hK17 _ _ (l_ (ur (dA_ Z Z Z Z (S14.blk 0 Z) Tryz.underlying149 Z (by rw [List.size_toArray,S_ _ _ (by first | exact A_ | exact hq32)];exact au_) ?_)))));exact ⟨_,rfl,S14.like0,fw_.bad A_ (one_s15 (Classical.not_not.1 h18) hcf (by simpa using h43)) (by decide)⟩
    ·
     refine j_ (hK15 _ _ (a_ fun K18 hK18=>a_ fun K19 hK19=>Rm Z Z (L_y ((by first | exact aA_ Z | exact aZ_ Z)) Z ?_)));refine Lm Z Z (d_ Z Z (Lm Z Z (d_ Z Z (L_y (I_ Tryz.underlying22 Z) Z (d_ Z Z (L_y (L_ Z Z) Z (Lp Z Z Z (f_ (hK19 _ _ ?_)))))))));refine o_ Z (fun h51=>?_) (fun h51=>?_)
     ·
      refine a_ fun K20 hK20=>b_ (L_y (Y_ Tryz.underlying149 Z au_ Z (S13.blk 1 Z) (cn_ _ _ (by first | exact A_ | exact hq32))) Z ?_);refine L_o (G_ S13 0 Z Z Z (by rw [List.size_toArray,S_ _ _ (by first | exact A_ | exact hq32)];exact au_) (by first | (rw [List.size_toArray,List.size_toArray,S_ _ _ (by first | exact A_ | exact hq32),S_ _ _ A_];done) | (rw [List.size_toArray,S_ _ _ (by first | exact A_ | exact hq32)];rfl)) (fun u hu=>cF_ _ _ _ u (by rw [List.toList_toArray] at hu;exact hu)) fun w15 S15=>?_);refine La Z Z (Lan Z Z (hK20 _ _ (l_ (ur (dA_ Z Z Z Z (S15.blk 0 Z) Tryz.underlying149 Z (by rw [List.size_toArray,S_ _ _ (by first | exact A_ | exact hq32)];exact au_) ?_)))));exact ⟨_,rfl,S15.like0,fw_.bad A_ (one_s10 (Classical.not_not.1 h18) hcf (by simpa using h43) (by omega)) (by decide)⟩
     ·
      refine j_ (hK18 _ _ (a_ fun K21 hK21=>?_));have hq32:(q.take 32).length=32:=by rw [List.length_take];omega
      refine cH_ (fun w=>Rs w 1 (some a) n c (bL (m::32::t))) aS_ (by kernel_rfl) (fun w l=>((S13.like l).rd hb)) fun w16 l16=>have S16:=S13.like l16;aj_ 1 (by kernel_rfl) Z (p_ Z) Z (aj_ 2 (by kernel_rfl) Z (g_ 2 Tryz.underlying149 Z ao_ Z Z Z) Z (aj_ 3 (by kernel_rfl) Z (gY_ Tryz.underlying41 sz5 Z) Z (aj_ 4 (by kernel_rfl) Z (p_ Z) Z ?_)));refine jO_ 0 5 (by kernel_rfl) Z Z ?_ ?_
      ·
       refine o_y (Y_ Tryz.underlying149 Z au_ Z (S16.blk 1 Z) (cn_ _ _ (by first | exact A_ | exact hq32))) (Like.refl _) Z ⟨(S16.rd hb),?_⟩;refine aX_ 5 (by kernel_rfl) Z (iB_ (news:=bL (q.take 32)) S16 1 Z Tryz.underlying22 sz5 Z Z Z (S16.rd hbq) (bL_takeN q 32).symm (by rw [List.size_toArray,S_ _ _ A_,length_bL,hq32];omega) (R_ _) Z fun w17 S17=>?_);refine ⟨(S17.rd hb),(have S18:=S17.blkc 1 Z (ef_cp A_ hq32);aj_ 6 (by kernel_rfl) Z (cv_ Tryz.underlying22 sz5 Z Z (Nt.mk (by rw [length_bL,hq32]):Nt _ (32)) (by omega)) Z ?_)⟩;refine aX_ 7 (by kernel_rfl) Z (G_ S18 0 Z Z Z (by rw [List.size_toArray,S_ _ _ (by first | exact A_ | exact hq32)];exact au_) (by first | (rw [List.size_toArray,List.size_toArray,S_ _ _ (by first | exact A_ | exact hq32),S_ _ _ A_];done) | (rw [List.size_toArray,S_ _ _ (by first | exact A_ | exact hq32)];rfl)) (fun u hu=>cF_ _ _ _ u (by rw [List.toList_toArray] at hu;exact hu)) fun w19 S19=>?_);refine ⟨(S19.rd hb),(aj_ 8 (by kernel_rfl) Z (J_ Z) Z (aj_ 9 (by kernel_rfl) Z (J_ Z) Z (cB_ (by kernel_rfl) (hK21 _ _ (l_ (ur (dA_ Z Z Z Z (S19.blk 0 Z) Tryz.underlying149 Z (by rw [List.size_toArray,S_ _ _ (by first | exact A_ | exact hq32)];exact au_) ?_)))))))⟩;exact ⟨_,rfl,S19.like0,fw_.good (by first | exact A_ | exact hq32) (one_s0 (Classical.not_not.1 h18) hcf (by simpa using h43) (by omega)) Z Z (fun W hW=>aI_ 32 (by have h9:=aI_ (p.length+1) (show Rs W 1 (some a2) (n - 2) (c - 2) (bL t) by rw [← ha2];exact aI_ 2 hW (by omega)) (by omega);rw [hcd] at h9;exact h9) (by omega))⟩
      ·
       refine iB_ (news:=bL (q.take 32)) S16 1 Z Tryz.underlying22 sz5 Z Z Z (S16.rd hbq) (bL_takeN q 32).symm (by rw [List.size_toArray,S_ _ _ A_,length_bL,hq32];omega) (R_ _) Z fun w20 S20=>?_;refine ⟨(S20.rd hb),(have S21:=S20.blkc 1 Z (ef_cp A_ hq32);aj_ 6 (by kernel_rfl) Z (cv_ Tryz.underlying22 sz5 Z Z (Nt.mk (by rw [length_bL,hq32]):Nt _ (32)) (by omega)) Z ?_)⟩;refine aX_ 0 (by kernel_rfl) Z (o_y (Y_ Tryz.underlying149 Z au_ Z (S21.blk 1 Z) (cn_ _ _ (by first | exact A_ | exact hq32))) (Like.refl _) Z ⟨(S21.rd hb),?_⟩);refine aX_ 7 (by kernel_rfl) Z (G_ S21 0 Z Z Z (by rw [List.size_toArray,S_ _ _ (by first | exact A_ | exact hq32)];exact au_) (by first | (rw [List.size_toArray,List.size_toArray,S_ _ _ (by first | exact A_ | exact hq32),S_ _ _ A_];done) | (rw [List.size_toArray,S_ _ _ (by first | exact A_ | exact hq32)];rfl)) (fun u hu=>cF_ _ _ _ u (by rw [List.toList_toArray] at hu;exact hu)) fun w22 S22=>?_);refine ⟨(S22.rd hb),(aj_ 8 (by kernel_rfl) Z (J_ Z) Z (aj_ 9 (by kernel_rfl) Z (J_ Z) Z (cB_ (by kernel_rfl) (hK21 _ _ (l_ (ur (dA_ Z Z Z Z (S22.blk 0 Z) Tryz.underlying149 Z (by rw [List.size_toArray,S_ _ _ (by first | exact A_ | exact hq32)];exact au_) ?_)))))))⟩;exact ⟨_,rfl,S22.like0,fw_.good (by first | exact A_ | exact hq32) (one_s0 (Classical.not_not.1 h18) hcf (by simpa using h43) (by omega)) Z Z (fun W hW=>aI_ 32 (by have h9:=aI_ (p.length+1) (show Rs W 1 (some a2) (n - 2) (c - 2) (bL t) by rw [← ha2];exact aI_ 2 hW (by omega)) (by omega);rw [hcd] at h9;exact h9) (by omega))⟩
theorem one0 (a:Addr) (n c:Nat) (m:UInt8) (r:List UInt8) (w0:World) (hb:Rs w0 1 (some a) n c (bL (m::r))) (hcf0:aT_ 0 ((m::r).drop 2)=none) :
    Calls Tryz.prog 106 #[.slice (some a) n c] w0 fun e w'=>∃ u,e=.returned u∧Like w0 w'∧fw_ a n c (m::r) u:=by
 refine v_ (env:=[(0,.slice (some a) n c)]) [.slice (some a) n c] Tryz.func106 Z Tryz.ntmps106 Z Z ?_;have hl:=hb.lenb;have hcap:=hb.cap;have hmax:=hb.max;have hm9:=m.toNat_lt;have hl1:1≤n:=by rw [← hl];simp
 have S0:=St.start w0 noM;refine a_ fun K1 hK1=>b_ (L_o (H_ gV_ S0 Z fun b1 w1 hb1 S1=>have S2:Zx.St w0 noM [blk b1 149 (ef ⟨#[]⟩ 0 zB).toArray] w1:=S1.cast (by kernel_rfl);La Z Z (Lan Z Z (hK1 _ _ (a_ fun K2 hK2=>b_ (L_o (H_ gV_ S2 Z fun b3 w3 hb3 S3=>have S4:Zx.St w0 noM [blk b1 149 (ef ⟨#[]⟩ 0 zB).toArray,blk b3 149 (ef ⟨#[]⟩ 0 zB).toArray] w3:=S3.cast (by kernel_rfl);f_ (hK2 _ _ ?_))))))));refine a_ fun K3 hK3=>Rm Z Z (L_y (T_ Tryz.underlying22 sz5 Z Z (by first | exact S4.rd hb) inferInstance (by omega)) Z ?_);refine L_y (cj_ Tryz.underlying5 Z Z (S4.rd hb) (cP_ _ _ _ (rfl:(m::r)[0]?=some m))) Z (L_y (P_ is5 Tryz.underlying3 Z (z_ (by omega))) Z (L_y (ax_ Z Z (z_ (by omega))) Z (L_y (g_ 1 Tryz.underlying149 Z sz3 Z Z Z) Z (L_o (ac_ S4 1 Z Z Z Z sz3 (by rw [List.size_toArray,S_ _ _ A_];omega) fun w5 S5=>?_)))));have S90:=S5.blkc 1 Z ef_set1;refine f_ (hK3 _ _ (a_ fun K4 hK4=>a_ fun K5 hK5=>b_ (L_y (g_ 1 Tryz.underlying149 Z sz3 Z Z Z) Z (L_y (t_ Tryz.underlying3 Z Z (((S90.blk 1 Z).cell _).trans (ef_1 _ _ _))) Z (L_o (n_ Tryz.func140 Z Z (Tre.mode_ ((m.toNat:Int) - 48) w5) Z Z ?_))))));rintro e6 w6 ⟨v6,rfl,l6,rfl⟩;refine ⟨_,rfl,(have S6:=S90.like l6;L_y ((by first | exact aA_ Z | exact aZ_ Z)) Z ?_)⟩;refine f_ (hK5 _ _ ?_);refine o_ Z (fun h18=>?_) (fun h18=>?_)
 ·
  refine a_ fun K6 hK6=>b_ (L_y (Y_ Tryz.underlying149 Z au_ Z (S6.blk 1 Z) (cn_ _ _ (by first | exact A_ | exact hq32))) Z ?_);refine L_o (G_ S6 0 Z Z Z (by rw [List.size_toArray,S_ _ _ (by first | exact A_ | exact hq32)];exact au_) (by first | (rw [List.size_toArray,List.size_toArray,S_ _ _ (by first | exact A_ | exact hq32),S_ _ _ A_];done) | (rw [List.size_toArray,S_ _ _ (by first | exact A_ | exact hq32)];rfl)) (fun u hu=>cF_ _ _ _ u (by rw [List.toList_toArray] at hu;exact hu)) fun w7 S7=>?_);refine La Z Z (Lan Z Z (hK6 _ _ (l_ (ur (dA_ Z Z Z Z (S7.blk 0 Z) Tryz.underlying149 Z (by rw [List.size_toArray,S_ _ _ (by first | exact A_ | exact hq32)];exact au_) ?_)))));exact ⟨_,rfl,S7.like0,fw_.bad A_ (one_16 h18) (by decide)⟩
 ·
  refine j_ (hK4 _ _ (a_ fun K7 hK7=>a_ fun K8 hK8=>Rm Z Z (L_y (I_ Tryz.underlying22 Z) Z (L_y (L_ Z Z) Z (f_ (hK8 _ _ ?_))))));refine o_ Z (fun h22=>?_) (fun h22=>?_)
  ·
   refine a_ fun K9 hK9=>b_ (L_y (Y_ Tryz.underlying149 Z au_ Z (S6.blk 1 Z) (cn_ _ _ (by first | exact A_ | exact hq32))) Z ?_);refine L_o (G_ S6 0 Z Z Z (by rw [List.size_toArray,S_ _ _ (by first | exact A_ | exact hq32)];exact au_) (by first | (rw [List.size_toArray,List.size_toArray,S_ _ _ (by first | exact A_ | exact hq32),S_ _ _ A_];done) | (rw [List.size_toArray,S_ _ _ (by first | exact A_ | exact hq32)];rfl)) (fun u hu=>cF_ _ _ _ u (by rw [List.toList_toArray] at hu;exact hu)) fun w8 S8=>?_);refine La Z Z (Lan Z Z (hK9 _ _ (l_ (ur (dA_ Z Z Z Z (S8.blk 0 Z) Tryz.underlying149 Z (by rw [List.size_toArray,S_ _ _ (by first | exact A_ | exact hq32)];exact au_) ?_)))));have hr:r=[]:=by cases r with | nil=>rfl | cons s t=>simp at hl;omega
   subst hr;exact ⟨_,rfl,S8.like0,fw_.bad A_ (one_10 (Classical.not_not.1 h18)) (by decide)⟩
  ·
   obtain ⟨s,t,rfl⟩:∃ s t,r=s::t:=by cases r with | nil=>(simp at hl;omega) | cons s t=>exact ⟨s,t,rfl⟩
   have hs9:=s.toNat_lt;have hcf:aT_ 0 t=none:=hcf0;refine j_ (hK7 _ _ (a_ fun K10 hK10=>a_ fun K11 hK11=>Rm Z Z (L_y (T_ Tryz.underlying22 sz5 Z Z (by first | exact S6.rd hb) inferInstance (by omega)) Z ?_)));refine L_y (cj_ Tryz.underlying5 Z Z (S6.rd hb) (cP_ _ _ _ (rfl:(m::s::t)[1]?=some s))) Z (L_y (ab_ Z Z) Z (f_ (hK11 _ _ ?_)));refine o_ Z (fun h27=>?_) (fun h27=>?_)
   ·
    refine a_ fun K12 hK12=>b_ (L_y (Y_ Tryz.underlying149 Z au_ Z (S6.blk 1 Z) (cn_ _ _ (by first | exact A_ | exact hq32))) Z ?_);refine L_o (G_ S6 0 Z Z Z (by rw [List.size_toArray,S_ _ _ (by first | exact A_ | exact hq32)];exact au_) (by first | (rw [List.size_toArray,List.size_toArray,S_ _ _ (by first | exact A_ | exact hq32),S_ _ _ A_];done) | (rw [List.size_toArray,S_ _ _ (by first | exact A_ | exact hq32)];rfl)) (fun u hu=>cF_ _ _ _ u (by rw [List.toList_toArray] at hu;exact hu)) fun w9 S9=>?_);refine La Z Z (Lan Z Z (hK12 _ _ (l_ (ur (dA_ Z Z Z Z (S9.blk 0 Z) Tryz.underlying149 Z (by rw [List.size_toArray,S_ _ _ (by first | exact A_ | exact hq32)];exact au_) ?_)))));exact ⟨_,rfl,S9.like0,fw_.bad A_ (kO_ (Classical.not_not.1 h18) (fun e=>h27 (by rw [e];rfl))) (by decide)⟩
   ·
    obtain rfl:=nat32 h27;refine j_ (hK10 _ _ (a_ fun K13 hK13=>Rm Z Z (L_y (cv_ Tryz.underlying22 sz5 Z Z inferInstance (by omega)) Z (L_o (ah_ [_] ba_ zz5 S6 Z Z Z Z Z Z Z Z fun b10 w10 S10=>?_)))));obtain ⟨a2,ha2⟩:=kt_ a c 2 1;rw [ha2];have hb2:Rs w0 1 (some a2) (n - 2) (c - 2) (bL t):=by rw [← ha2];exact aI_ 2 hb (by omega)
    have hcp:=hb2.cap;have hln:=hb2.lenb;refine L_o (n_ Tryz.func141 Z Z (bcut a2 (n - 2) (c - 2) _ 1 t 0 w10 (S10.rd hb2) (S10.row 2 Z)) Z Z ?_);rintro e11 w11 ⟨v11,rfl,l11,rfl⟩;refine ⟨_,rfl,?_⟩;have S11:=S10.like l11;rw [jM_ hcf];refine Lm Z Z (L_y (m_ Z Z) Z (L_y (m_ Z Z) Z (L_y (m_ Z Z) Z (La Z Z (La Z Z (Lan Z Z (hK13 _ _ (a_ fun K14 hK14=>Rm Z Z (L_y (co_ Tryz.underlying22 Tryz.underlying5 Tryz.underlying9 Z (S11.rd hb2)) Z (L_y (g_ 0 Tryz.underlying149 Z sz9 Z Z Z) Z ?_))))))))));refine L_o (ac_ S11 1 Z Z Z Z sz9 (by rw [List.size_toArray,S_ _ _ A_];omega) fun w12 S12=>?_);have S90:=S12.blkc 1 Z iG_;refine f_ (hK14 _ _ (a_ fun K15 hK15=>a_ fun K16 hK16=>b_ (L_y (g_ 0 Tryz.underlying149 Z sz9 Z Z Z) Z (L_y (t_ Tryz.underlying9 Z Z (((S90.blk 1 Z).cell _).trans (ef_0 _ _ _))) Z (L_o (n_ Tryz.func142 Z Z (Tre.pname _ w12) Z Z ?_))))));rintro e13 w13 ⟨v13,rfl,l13,rfl⟩;refine ⟨_,rfl,(have S13:=S90.like l13;L_y ((by first | exact aA_ Z | exact aZ_ Z)) Z ?_)⟩;refine f_ (hK16 _ _ ?_);refine aD_ Z (fun h43=>?_) (fun h43=>?_)
    ·
     refine a_ fun K17 hK17=>b_ (L_y (Y_ Tryz.underlying149 Z au_ Z (S13.blk 1 Z) (cn_ _ _ (by first | exact A_ | exact hq32))) Z ?_);refine L_o (G_ S13 0 Z Z Z (by rw [List.size_toArray,S_ _ _ (by first | exact A_ | exact hq32)];exact au_) (by first | (rw [List.size_toArray,List.size_toArray,S_ _ _ (by first | exact A_ | exact hq32),S_ _ _ A_];done) | (rw [List.size_toArray,S_ _ _ (by first | exact A_ | exact hq32)];rfl)) (fun u hu=>cF_ _ _ _ u (by rw [List.toList_toArray] at hu;exact hu)) fun w14 S14=>?_);refine La Z Z (Lan Z Z (hK17 _ _ (l_ (ur (dA_ Z Z Z Z (S14.blk 0 Z) Tryz.underlying149 Z (by rw [List.size_toArray,S_ _ _ (by first | exact A_ | exact hq32)];exact au_) ?_)))));exact ⟨_,rfl,S14.like0,fw_.bad A_ (one_n15 (Classical.not_not.1 h18) hcf (by simpa using h43)) (by decide)⟩
    ·
     refine j_ (hK15 _ _ (a_ fun K18 hK18=>a_ fun K19 hK19=>Rm Z Z (L_y ((by first | exact aA_ Z | exact aZ_ Z)) Z ?_)));refine Lm Z Z (h_ Z Z Z (h_ Z Z Z (h_ Z Z Z (Lp Z Z Z (f_ (hK19 _ _ (W_ Z (a_ fun K20 hK20=>b_ (L_y (Y_ Tryz.underlying149 Z au_ Z (S13.blk 1 Z) (cn_ _ _ (by first | exact A_ | exact hq32))) Z ?_)))))))));refine L_o (G_ S13 0 Z Z Z (by rw [List.size_toArray,S_ _ _ (by first | exact A_ | exact hq32)];exact au_) (by first | (rw [List.size_toArray,List.size_toArray,S_ _ _ (by first | exact A_ | exact hq32),S_ _ _ A_];done) | (rw [List.size_toArray,S_ _ _ (by first | exact A_ | exact hq32)];rfl)) (fun u hu=>cF_ _ _ _ u (by rw [List.toList_toArray] at hu;exact hu)) fun w15 S15=>?_);refine La Z Z (Lan Z Z (hK20 _ _ (l_ (ur (dA_ Z Z Z Z (S15.blk 0 Z) Tryz.underlying149 Z (by rw [List.size_toArray,S_ _ _ (by first | exact A_ | exact hq32)];exact au_) ?_)))));exact ⟨_,rfl,S15.like0,fw_.bad A_ (one_n10 (Classical.not_not.1 h18) hcf (by simpa using h43)) (by decide)⟩
theorem one (a:Addr) (n c:Nat) (m:UInt8) (r:List UInt8) (w0:World) (hb:Rs w0 1 (some a) n c (bL (m::r))):Calls Tryz.prog 106 #[.slice (some a) n c] w0 fun e w'=>∃ u,e=.returned u∧Like w0 w'∧fw_ a n c (m::r) u:=by
  cases h:aT_ 0 ((m::r).drop 2) with
  | none=>exact one0 a n c m r w0 hb h
  | some pq=>exact one1 a n c m r w0 hb pq.1 pq.2 h
end Obj
namespace Obj
open Go.RowKit Zk Zx
open Oid (idf B_)
open Tre (aw_ EV enf aG_ cD_ cE_)
open Rev (aT_ ar_ bb_)
def stp (y:EV):ByteArray × Int:=(y.nm,y.md)
theorem jJ_:∀ {l k:List EV},l.map stp=k.map stp→Tre.fr_ l=Tre.fr_ k
  | [],[],_=>rfl
  | [],y::k,h=>by cases h
  | x::l,[],h=>by cases h
  | x::l,y::k,h=>by
    rw [List.map_cons,List.map_cons] at h
    injection h with h1 h2
    have e1:x.nm=y.nm:=congrArg Prod.fst h1
    have e2:x.md=y.md:=congrArg Prod.snd h1
    unfold Tre.fr_
    rw [e1,e2,jJ_ h2]
theorem km_ {x y:EV} (h:stp x=stp y):Tre.gS_ x=Tre.gS_ y:=by
  have e1:x.nm=y.nm:=congrArg Prod.fst h
  have e2:x.md=y.md:=congrArg Prod.snd h
  unfold Tre.gS_
  rw [e1,e2]
theorem jg_:∀ {l k:List EV},l.map stp=k.map stp→Tre.risK l=Tre.risK k
  | [],[],_=>rfl
  | [],y::k,h=>by cases h
  | x::l,[],h=>by cases h
  | [x],[y],_=>rfl
  | [x],y::z::k,h=>by simp at h
  | x::z::l,[y],h=>by simp at h
  | x::x2::l,y::y2::k,h=>by
    rw [List.map_cons,List.map_cons] at h
    injection h with h1 h2
    have h3:stp x2::l.map stp=stp y2::k.map stp:=h2
    injection h3 with h3 _
    unfold Tre.risK
    rw [jg_ (show (x2::l).map stp=(y2::k).map stp from h2)]
    unfold Tre.ltK
    rw [km_ h1,km_ h3]
theorem jn_ {l k:List EV} (h:l.map stp=k.map stp):Tre.once l↔Tre.once k:=by
  have e:l.map EV.nm=k.map EV.nm:=by
    have:=congrArg (List.map Prod.fst) h
    rwa [List.map_map,List.map_map] at this
  unfold Tre.once
  rw [e]
theorem fp_ {l k:List EV} (h:l.map stp=k.map stp):cE_ l=cE_ k:=by
  have hl:l.length=k.length:=by have:=congrArg List.length h;simpa using this
  unfold cE_
  rw [hl,jJ_ h,jg_ h]
  by_cases ho:Tre.once k
  · have ho2:=(jn_ h).2 ho
    simp only [ho,ho2]
  · have ho2:¬ Tre.once l:=fun q=>ho ((jn_ h).1 q)
    simp only [ho,ho2]
def zEV (nm:ByteArray) (md:Int):EV:=if h:nm.size≤1000000000 then ⟨nm,md,zB,rfl,h⟩ else ⟨⟨#[]⟩,md,zB,rfl,by decide⟩
theorem zEV_st {nm:ByteArray} {md:Int} (h:nm.size≤1000000000):stp (zEV nm md)=(nm,md):=by unfold zEV;rw [dif_pos h];rfl
def getT:Nat→List UInt8→List EV→Int × List EV
  | 0,_,acc=>(0,acc)
  | k+1,b,acc=>if b=[] then (0,acc) else if (bN_ b).1≠0 then ((bN_ b).1,[]) else getT k (bN_ b).2.2 (acc++[zEV ⟨(bN_ b).2.1.toArray⟩ (((b.getD 0 0).toNat:Int) - 48)])
def finT (r:Int × List EV):Int:=if r.1≠0 then r.1 else cE_ r.2
def cR_ (b:List UInt8):Int:=finT (getT (b.length+1) b [])
theorem hw_ (k:Nat) (acc:List EV):getT k [] acc=(0,acc):=by cases k <;> simp [getT]
theorem dc_ {k:Nat} {b:List UInt8} {acc:List EV} (hb:b≠[]) (h:(bN_ b).1≠0):getT (k+1) b acc=((bN_ b).1,[]):=by unfold getT;rw [if_neg hb,if_pos h]
theorem getT_ok {k:Nat} {b:List UInt8} {acc:List EV} (hb:b≠[]) (h:¬ (bN_ b).1≠0):getT (k+1) b acc=getT k (bN_ b).2.2 (acc++[zEV ⟨(bN_ b).2.1.toArray⟩ (((b.getD 0 0).toNat:Int) - 48)]):=by
  conv=>lhs;unfold getT
  rw [if_neg hb,if_neg h]
theorem some_of {w:World} {A:Option Addr} {n c:Nat} {xs:List Value} (h:Rs w 1 A n c xs) (hn:0 < n):∃ a,A=some a:=by
  obtain ⟨ad,h1,_⟩:=h.rd.2 hn
  exact ⟨ad,h1⟩
theorem one_name {b:List UInt8}:(bN_ b).2.1.length≤b.length:=by
  unfold bN_
  match b with
  | []=>simp
  | m :: r =>
    simp only []
    split
    · simp
    · match r with
      | []=>simp
      | s :: t =>
        simp only []
        split
        · simp
        · cases hc:aT_ 0 t with
          | none=>simp only [];split <;> simp
          | some pq =>
            obtain ⟨p,q⟩:=pq
            simp only []
            split
            · simp
            · split
              · simp
              · have h9:=(ar_ hc).1
                simp only [List.length_cons]
                rw [h9,List.length_append,List.length_cons]
                omega
theorem get (A:Option Addr) (n c:Nat) (b0:List UInt8) (w0:World) (hb:Rs w0 1 A n c (bL b0)) (h9:b0.length≤9000) :
    Calls Tryz.prog 73 #[.slice A n c] w0 fun e w'=>∃ u,e=.returned u∧Like w0 w'∧∃ A k cp,u=.tuple #[.slice A k cp,.int .i64 (cR_ b0)]:=by
 refine v_ (env:=[(0,.slice A n c)]) [.slice A n c] Tryz.func73 Z Tryz.ntmps73 Z Z ?_;have S0:=St.start w0 noM;refine a_ fun K1 hK1=>b_ (La Z Z (Lan Z Z (hK1 _ _ (a_ fun K2 hK2=>b_ (have S1:=S0.nilrow 149 34;Lan Z Z (hK2 _ _ (a_ fun K3 hK3=>r_ ?_)))))));refine T_loop9 [] (fun (A:Option Addr) (n:Nat) (c:Nat) (b:List UInt8) (k:Nat) (acc:List EV) (l:List EV) (A4:Option Addr) (c4:Nat)=>[(0,.slice A n c),(4,.slice A4 l.length c4)]) (fun (A:Option Addr) (n:Nat) (c:Nat) (b:List UInt8) (k:Nat) (acc:List EV) (l:List EV) (A4:Option Addr) (c4:Nat)=>b.length) (fun (A:Option Addr) (n:Nat) (c:Nat) (b:List UInt8) (k:Nat) (acc:List EV) (l:List EV) (A4:Option Addr) (c4:Nat) (w:World)=>(b.length < k∧b.length≤9000∧l.length+b.length≤9000∧l.map stp=acc.map stp∧cR_ b0=finT (getT k b acc))∧Rs w0 1 A n c (bL b)∧Zx.St w0 noM [Zx.row 149 34 A4 l.length c4 (l.flatMap enf)] w) A n c b0 (b0.length+1) [] [] none 0 (Sc Z (Sc Z (Sub.nil _))) (Sub.nil _) ?_ ?_
 ·
  exact ⟨⟨by omega,by omega,by simp;omega,rfl,rfl⟩,hb,S1⟩
 ·
  intro A n c b k acc l A4 c4 w2 hrel;obtain ⟨⟨hbk,hb9,hlb,hst,ht⟩,hb,S2⟩:=hrel;have hln:=hb.lenb;have hcap:=hb.cap;have hmax:=hb.max;refine a_ fun K4 hK4=>a_ fun K5 hK5=>Rm Z Z (L_y (I_ Tryz.underlying22 Z) Z (L_y (Z_ Z Z) Z (f_ (hK5 _ _ ?_))));refine o_ Z (fun h11=>?_) (fun h11=>?_)
  ·
   obtain ⟨a,rfl⟩:=some_of hb (by omega);obtain ⟨m,r,rfl⟩:∃ m r,b=m::r:=by cases b with | nil=>(simp at hln;omega) | cons m r=>exact ⟨m,r,rfl⟩
   obtain ⟨k,rfl⟩:∃ j,k=j+1:=⟨k - 1,by omega⟩;refine j_ (hK4 _ _ (r_ (a_ fun K6 hK6=>Rm Z Z (L_o (n_ Tryz.func106 Z Z (one a n c m r w2 (S2.rd hb)) Z Z ?_)))));rintro e3 w3 ⟨v3,rfl,l3,⟨nm,md,id,A9,k9,c9,hid,rfl,hgood⟩⟩;refine ⟨_,rfl,(have S3:=S2.like l3;Lm Z Z (L_y (m_ Z Z) Z (L_y (m_ Z Z) Z (L_y (m_ Z Z) Z (L_o (H_ gV_ S3 Z fun b4 w4 hb4 S4=>L_o (G_ S4 1 Z Z Z (by rw [List.size_toArray,S_ _ _ hid];exact au_) (by rw [List.size_toArray,S_ _ _ hid];rfl) (fun u hu=>cF_ _ _ _ u (by rw [List.toList_toArray] at hu;exact hu)) fun w5 S5=>?_)))))))⟩;refine La Z Z (Lan Z Z (hK6 _ _ (a_ fun K7 hK7=>a_ fun K8 hK8=>Rm Z Z (L_y (ab_ Z Z) Z (f_ (hK8 _ _ ?_))))));refine o_ Z (fun h19=>?_) (fun h19=>?_)
   ·
    refine a_ fun K9 hK9=>Rm Z Z (La Z Z (Lan Z Z (hK9 _ _ (l_ (ur (bj_ Z Z Z ?_))))));have he:cR_ b0=(bN_ (m::r)).1:=by rw [ht,dc_ (by simp) (fun q=>h19 q)];unfold finT;rw [if_pos (fun q=>h19 q)]
    exact ⟨_,rfl,S5.like0,none,0,0,by rw [he];rfl⟩
   ·
    have he0:(bN_ (m::r)).1=0:=Classical.byContradiction fun q=>h19 q;obtain ⟨hnm,hmd,hrest⟩:=hgood he0;have hns:nm.size≤1000000000:=by rw [hnm,Rev.bsz];have h9:=one_name (b:=m::r);omega
    obtain ⟨yE,hyE⟩:∃ y:EV,y=⟨nm,md,id,hid,hns⟩:=⟨_,rfl⟩;have hye:ef nm md id=enf yE:=by rw [hyE];rfl
    have hys:stp yE=(⟨(bN_ (m::r)).2.1.toArray⟩,(((m::r).getD 0 0).toNat:Int) - 48):=by rw [hyE, ← hnm, ← hmd];rfl
    rw [hye] at S5;refine j_ (hK7 _ _ (a_ fun K10 hK10=>Rm Z Z (L_y (Y_ Tryz.underlying149 Z au_ Z (S5.blk 1 Z) (by first | exact Tre.whole_enf yE | exact ⟨Tre.he_ yE,aG_ yE⟩)) Z ?_)));refine L_o (ah_ (enf yE) te78 gV_ S5 Z Z Z (by simp [Value.cells,aG_]) (by simp [Value.cells]) Z Z Z fun b6 w6 S6=>?_);refine L_o (ay_ te78 S6 0 Z Z Z (by first | exact S6.row 0 Z | exact S6.row 2 Z) (fun u hu=>by rw [ef_en] at hu;exact cF_ _ _ _ u hu) Z (by omega) (by omega) fun A7 c7 w7 S7=>?_);have S7d:=S7.drop (rs':=[_,_]) (.cons_cons _ (.cons_cons _ (.cons _ (.refl _))));refine Lan Z Z (hK10 _ _ (Rm Z Z (Lan Z Z ?_)));have hz:=one_less (b:=m::r) (by omega:(bN_ (m::r)).1=0);have hsz:(⟨(bN_ (m::r)).2.1.toArray⟩:ByteArray).size≤1000000000:=by rw [Rev.bsz];have h9:=one_name (b:=m::r);omega
    simp only [List.length_cons] at hz hlb hbk hb9 hln
    have S91:=S7d.sel [0] (by decide);have S92:=S91.rowc 0 Z (n':=(l++[yE]).length) (xs':=(l++[yE]).flatMap enf) (by rw [List.length_append];rfl) (by rw [List.flatMap_append];simp [hyE]);refine ⟨_,_,_,(bN_ (m::r)).2.2,k,acc++[zEV ⟨(bN_ (m::r)).2.1.toArray⟩ ((((m::r).getD 0 0).toNat:Int) - 48)],l++[yE],_,_,by simp only [List.length_cons];omega,⟨⟨by omega,by omega,by rw [List.length_append];simp only [List.length_cons,List.length_nil];omega,by rw [List.map_append,List.map_append,hst,List.map_cons,List.map_nil,List.map_cons,List.map_nil,zEV_st hsz,hys],by rw [ht,getT_ok (by simp) (fun q=>q (by omega))]⟩,hrest _ hb,S92⟩,?_⟩;exact (Sc Z (Sub.cons Z (by rw [List.length_append];rfl) (Sub.nil _)))
  ·
   have hb0:b=[]:=List.length_eq_zero_iff.1 (by omega);subst hb0;refine K_ (hK3 _ _ (a_ fun K11 hK11=>a_ fun K12 hK12=>Rm Z Z (L_o (n_ Tryz.func107 Z Z (Tre.pcheck A4 _ c4 l w2 (S2.row 0 Z) (by omega)) Z Z ?_))));rintro e8 w8 ⟨v8,rfl,l8,rfl⟩;refine ⟨_,rfl,(have S8:=S2.like l8;Lan Z Z (hK12 _ _ (a_ fun K13 hK13=>Rm Z Z (L_y (ab_ Z Z) Z (f_ (hK13 _ _ ?_))))))⟩;refine o_ Z (fun h29=>?_) (fun h29=>?_)
   ·
    refine a_ fun K14 hK14=>Rm Z Z (La Z Z (Lan Z Z (hK14 _ _ (l_ (ur (bj_ Z Z Z ?_))))));have he:cR_ b0=cE_ l:=by rw [ht,hw_];unfold finT;rw [if_neg (by simp)];exact fp_ hst.symm
    exact ⟨_,rfl,S8.like0,none,0,0,by rw [he]⟩
   ·
    refine j_ (hK11 _ _ (a_ fun K15 hK15=>Rm Z Z (La Z Z (Lan Z Z (hK15 _ _ (l_ (ur (bj_ Z Z Z ?_))))))));have he:cR_ b0=0:=by rw [ht,hw_];unfold finT;rw [if_neg (by simp)];exact (fp_ hst.symm).trans (Classical.byContradiction fun q=>h29 q)
    exact ⟨_,rfl,S8.like0,A4,l.length,c4,by rw [he]⟩
end Obj
namespace Zx
open Go.RowKit Zk
def OwnM (w:World) (e:TypeId) (A:Option Addr) (n c:Nat) (xs:List Value):Prop :=
  xs.length=n∧∃ g cur fz,A=some ⟨g,0,none⟩∧w.heap[g]?=some (.cells cur e fz)∧(fz=(0,0)∨cur.size≤fz.1)∧n≤c∧c≤maxLen∧cur.size=c∧cur.toList.take n=xs
def rowM (e:TypeId) (A:Option Addr) (n c:Nat) (xs:List Value):Res where
  dom i:=(Value.slice A n c).ownBlock=some i
  holds w:=OwnM w e A n c xs
  stable w w' h hh:=by
    obtain ⟨h0,g,cur,fz,h1,h2,h3⟩:=hh
    refine ⟨h0,g,cur,fz,h1,?_,h3⟩
    rw [← h2]
    exact h g (by rw [h1];rfl)
theorem OwnM.rs {w:World} {e:TypeId} {A:Option Addr} {n c:Nat} {xs:List Value} (h:OwnM w e A n c xs):Rs w 1 A n c xs:=by
  obtain ⟨h0,g,cur,fz,rfl,hg,hfz,hnc,hcm,hcs,htk⟩:=h
  refine ⟨⟨by omega,fun hn=>⟨_,rfl,(Array.getElem?_eq_some_iff.1 hg).1,fun j u hu=>?_⟩⟩,hnc,by unfold maxLen at hcm;exact hcm⟩
  rw [Addr.add_mid,cell_of_row w g _ cur e fz hg,Nat.zero_add]
  rw [← htk,List.getElem?_take] at hu
  split at hu
  · simpa using hu
  · cases hu
section
variable {P : Program} {N : Nat} {Q : Exit → Env → World → Prop} {env : Env} {w w0 : World} {M : Nat → Prop} {rs : List Res} {K : Env → World → Prop} {d : Tmp} {ty : TypeId} {pos : String} {after : Array Edge} {g : Option (Nat × Bool)}
theorem St.rowM (S:St w0 M rs w) (k:Nat) {e n c:Nat} {A:Option Addr} {xs:List Value} (hk:rs[k]?=some (Zx.rowM e A n c xs)):Rs w 1 A n c xs:=OwnM.rs (S.get k hk)
theorem St.frM (S:St w0 noM rs w) (k:Nat) {e n c:Nat} {A:Option Addr} {xs:List Value} (hk:rs[k]?=some (Zx.rowM e A n c xs)):Fr w0 w 1 A n c xs :=
  ⟨S.rowM k hk,fun ad hn hA=>by
    have:=((S.res _ (List.mem_of_getElem? hk)).2 ad.block (by show (Value.slice A n c).ownBlock=_;rw [hA];rfl)).2
    rcases this with h | h
    · exact h
    · exact h.elim⟩
theorem kh_ {src dt e:TypeId} {x:Operand} {s:ByteArray} (hs:P.underlying src=some .string) (hd:P.underlying dt=some (.slice e)) (he:P.underlying e=some (.int .u8)) (hx:ev env x=some (.string s)) (hlen:s.size≤4611686018427387904) (S:St w0 M rs w) (hdN:Nat.blt d N=true)
    (h:∀ b c w',Like w w'→St w0 M (rs++[rowM e (some ⟨b,0,none⟩) s.size c (bL s.data.toList)]) w'→K ((d,.slice (some ⟨b,0,none⟩) s.size c)::env) w') :
    O P N Q ⟨some d,.convert src dt x,ty,pos,after,g⟩ env w K:=fun a ha=>by
  have hr:=run_bytes_of_string (P:=P) w src dt e s hs hd he
  have hcap:=grownCap_ge w s.size 0 e
  have hmax:=grownCap_le_maxLen w s.size 0 e (by unfold maxLen;omega)
  generalize grownCap w s.size 0 e=cap at *
  have hsz:(bytesRow s cap).size=cap:=by unfold bytesRow;simp only [Array.size_append,Array.size_map,Array.size_replicate];have:s.data.size=s.size:=rfl;omega
  have htk:(bytesRow s cap).toList.take s.size=bL s.data.toList:=by
    unfold bytesRow
    rw [Array.toList_append,List.take_append_of_le_length (by simp)]
    rw [List.take_of_length_le (by simp)]
    simp [bL]
    intro a _
    rfl
  generalize bytesRow s cap=C at *
  have hl:Like w (w.drew.alloc (.cells C e (C.size,C.size+1))):=Like.trans (Like.drew w) (bn_ _ _)
  have hblk:(w.drew.alloc (.cells C e (C.size,C.size+1))).heap[w.heap.size]?=some (.cells C e (C.size,C.size+1)):=heap_alloc_new w.drew _
  unfold Oper.wp execOp
  simp only [ha.eval hx,Sem.run_bind,hr,Result.andThen_ok,Sem.run_pure]
  refine ⟨_,ha.put d _ hdN,h _ _ _ hl (S.new hl _ ⟨by simp [aB_],w.heap.size,C,_,rfl,hblk,.inr (Nat.le_refl _),hcap,hmax,hsz,htk⟩ fun i hi=>?_)⟩
  change (Value.slice (some ⟨w.heap.size,0,none⟩) s.size cap).ownBlock=some i at hi
  simp only [Value.ownBlock,Option.some.injEq] at hi
  subst hi
  exact ⟨Nat.le_refl _,(Array.getElem?_eq_some_iff.1 hblk).1⟩
theorem ik_ (b o:Nat) (t:TypeId) (fz:Nat × Nat):∀ (vs:List Value) (i:Nat) (cur:Array Value) (w:World),w.heap[b]?=some (.cells cur t fz)→(fz=(0,0)∨cur.size≤fz.1)→o+i+vs.length≤cur.size→(∀ v ∈ vs,v.oneCell'=true) →
    (storeCells ⟨b,o,none⟩ vs i).run P w=.ok () (w.setRow b (cur.toList.take (o+i)++vs++cur.toList.drop (o+i+vs.length)).toArray)
  | [],i,cur,w,hg,_,_,_=>by
    simp only [storeCells,List.append_nil,List.length_nil,Nat.add_zero,List.take_append_drop,Array.toArray_toList]
    rw [setRow_self w b cur t fz hg]
    rfl
  | v :: rest,i,cur,w,hg,hfz,hl,h1=>by
    have hi:o+i < cur.size:=by simp at hl;omega
    have hadd:(⟨b,o,none⟩:Addr).add i=⟨b,o+i,none⟩:=by unfold Addr.add;split <;> simp_all
    have hcell:w.cell? ⟨b,o+i,none⟩=some cur[o+i]:=by simp [World.cell?,hg,hi]
    have hfro:w.frozen? ⟨b,o+i,none⟩=false:=by
      obtain ⟨lo,hi'⟩:=fz
      rcases hfz with h | h
      · cases h
        simp [World.frozen?,hg]
      · simp only [World.frozen?,hg,Bool.and_eq_false_iff,decide_eq_false_iff_not]
        left
        simp only at h
        omega
    have hst:(store ((⟨b,o,none⟩:Addr).add i) v).run P w=.ok () (w.setRow b (cur.setIfInBounds (o+i) v)):=by
      rw [hadd,run_store P w _ v _ (h1 v (by simp)),hcell]
      simp [hfro,setCell_eq_setRow w b (o+i) cur t fz v hg]
    have ih:=ik_ b o t fz rest (i+1) (cur.setIfInBounds (o+i) v) (w.setRow b (cur.setIfInBounds (o+i) v)) (setRow_heap w b cur _ t _ hg) (by simpa using hfz) (by simp at hl ⊢;omega) (fun x hx=>h1 x (by simp [hx]))
    simp only [storeCells,Sem.run_bind,hst,Result.andThen_ok,ih,setRow_setRow]
    congr 3
    have e:=list_seg_step cur.toList (o+i) v rest (by simp at hl ⊢;omega)
    simpa [Array.toList_setIfInBounds,Nat.add_assoc] using e
theorem lz_ (w:World) (t ty e:TypeId) (i:TypeInfo) (ht:P.underlying t=some (.slice e)) (hi:P.info? e=some i) (hs1:i.size=1)
    (b sLen sCap:Nat) (cur:Array Value) (fz:Nat × Nat) (hg:w.heap[b]?=some (.cells cur e fz)) (hfz:fz=(0,0)∨cur.size≤fz.1)
    (a:Addr) (m c:Nat) (news:List Value) (hl:news.length=m) (hnews:∀ j u,news[j]?=some u→w.cell? (a.add j)=some u) (h1:∀ u ∈ news,u.oneCell'=true)
    (hroom:sLen+m≤sCap) (hfit:sLen+news.length≤cur.size) :
    (Builtin.append_ #[t,t] ty #[.slice (some ⟨b,0,none⟩) sLen sCap,.slice (some a) m c]).run P w =
      .ok (.slice (some ⟨b,0,none⟩) (sLen+m) sCap) (w.setRow b (cur.toList.take sLen++news++cur.toList.drop (sLen+news.length)).toArray):=by
  have hf:=run_firstCells_some (P:=P) w 1 m a m c news (by omega) hnews
  have hst:=ik_ (P:=P) b sLen e fz news 0 cur w hg hfz (by simpa using hfit) h1
  simp only [Nat.add_zero] at hst
  simp [Builtin.append_,run_underlying ht,sizeOf,typeInfo,hi,hs1,Builtin.lenOf,hroom,hf,Addr.add_lit,hst]
theorem run_appM (w:World) (t ty e:TypeId) (i:TypeInfo) (z:Value) (ht:P.underlying t=some (.slice e)) (hi:P.info? e=some i) (hz:i.zero=some z)
    (hsize:i.size=1) (hzs:z.cells.size=1) {A:Option Addr} {n c:Nat} {xs:List Value} (hown:OwnM w e A n c xs)
    (A':Option Addr) (m c':Nat) (news:List Value) (hr:Reads w w.heap.size 1 A' m news) (h1:∀ u ∈ news,u.oneCell'=true)
    (h63:n+m≤maxLen) (hbytes:(n+m)*i.bytes≤140737488355328) :
    ∃ A2 c2 w',(Builtin.append_ #[t,t] ty #[.slice A n c,.slice A' m c']).run P w=.ok (.slice A2 (n+m) c2) w'∧OwnM w' e A2 (n+m) c2 (xs++news)∧w.grownBy w' (Value.slice A n c).ownBlock ∧
      ((Value.slice A2 (n+m) c2).ownBlock=(Value.slice A n c).ownBlock∨(Value.slice A2 (n+m) c2).ownBlock=some w.heap.size∧w.heap.size < w'.heap.size):=by
  have hown0:=hown
  obtain ⟨h0,b,cur,fz,rfl,hg,hfz,hnc,hcm,hcs,htk⟩:=hown
  have hnl:news.length=m:=by have:=hr.1;omega
  rcases A' with _ | ad
  · have hm:m=0:=by
      rcases Nat.eq_zero_or_pos m with h | h
      · exact h
      · obtain ⟨ad,h,_⟩:=hr.2 h
        cases h
    subst hm
    have hn:news=[]:=List.eq_nil_of_length_eq_zero hnl
    subst hn
    refine ⟨_,c,w,?_,by simpa using hown0,World.grownBy.refl w _,.inl Z⟩
    simp [Builtin.append_,run_underlying ht,sizeOf,typeInfo,hi,Builtin.lenOf,Builtin.firstCells,hnc,storeCells]
  · have hcells:∀ j u,news[j]?=some u→w.cell? (ad.add j)=some u:=by
      intro j u hu
      rcases Nat.eq_zero_or_pos m with hm0 | hm0
      · have:news=[]:=List.eq_nil_of_length_eq_zero (by omega)
        rw [this] at hu
        simp at hu
      · obtain ⟨ad',h,_,hc⟩:=hr.2 hm0
        injection h with h
        subst h
        exact hc j u hu
    have hlen:(xs++news).length=n+m:=by rw [List.length_append];omega
    by_cases hroom:n+m≤c
    · have hr2:=lz_ (P:=P) w t ty e i ht hi hsize b n c cur fz hg hfz ad m c' news hnl hcells h1 hroom (by omega)
      refine ⟨_,c,_,hr2,⟨hlen,b,_,fz,rfl,setRow_heap w b cur _ e _ hg,?_,hroom,hcm,?_,?_⟩,⟨rfl,rfl,rfl,by simp,fun k _ hk=>setRow_other w b k _ (fun q=>hk (by simp [Value.ownBlock,q]))⟩,.inl Z⟩
      · rcases hfz with h | h
        · exact .inl h
        · right
          simp only [List.size_toArray,List.length_append,List.length_take,List.length_drop,Array.length_toList]
          omega
      · simp only [List.size_toArray,List.length_append,List.length_take,List.length_drop,Array.length_toList]
        omega
      · rw [htk, ← hlen]
        exact List.take_left
    · have holds:∀ j u,xs[j]?=some u→w.cell? ((⟨b,0,none⟩:Addr).add j)=some u:=fun j u hu=>by
        rw [Addr.add_mid,cell_of_row w b _ cur e fz hg,Nat.zero_add]
        rw [← htk,List.getElem?_take] at hu
        split at hu
        · simpa using hu
        · cases hu
      have hr2:=run_append_grow (P:=P) w t ty e i z ht hi hz ⟨b,0,none⟩ n c xs (by rw [hsize];omega) holds ad m c' news (by rw [hsize];omega) hcells (by omega) (by unfold maxLen at h63;omega) (growslice_fits (by omega) hbytes)
      have hge:=grownCap_ge w (n+m) c e
      have hcm2:grownCap w (n+m) c e≤maxLen:=grownCap_le_maxLen w (n+m) c e h63
      refine ⟨_,_,_,hr2,⟨hlen,w.heap.size,_,(0,0),rfl,heap_alloc_new w.drew _,.inl Z,hge,hcm2,?_,?_⟩,⟨rfl,rfl,rfl,by simp,fun k hk _=>heap_alloc_old w.drew _ hk⟩,.inr ⟨rfl,by simp⟩⟩
      · simp only [Array.size_append,List.size_toArray,size_zeroCells,hzs]
        omega
      · simp only [Array.toList_append,List.append_assoc]
        rw [← List.append_assoc, ← hlen]
        exact List.take_left
theorem o_appM {s x:Operand} {t e:TypeId} {z:Value} {bytes:Nat} (TE:Elem P t e z 1 bytes) (S:St w0 M rs w) (k:Nat) {A:Option Addr} {n c:Nat} {xs:List Value} (hk:rs[k]?=some (rowM e A n c xs))
    (hs:ev env s=some (.slice A n c)) {A':Option Addr} {m c':Nat} {news:List Value} (hx:ev env x=some (.slice A' m c')) (hr:Rs w 1 A' m c' news) (h1:∀ u ∈ news,u.oneCell'=true)
    (hd:Nat.blt d N=true) (hbytes:(n+m)*bytes≤140737488355328) (h63:n+m≤9223372036854775807)
    (h:∀ A2 c2 w',St w0 M (rs.set k (rowM e A2 (n+m) c2 (xs++news))) w'→K ((d,.slice A2 (n+m) c2)::env) w') :
    O P N Q ⟨some d,.call { callee:=.builtin .append,args := #[s,x],argTypes := #[t,t]},ty,pos,after,g⟩ env w K:=fun a ha=>by
  have hown:OwnM w e A n c xs:=S.get k hk
  obtain ⟨i,hi,hz,hsize,hby⟩:=info_parts TE.hi
  obtain ⟨A2,c2,w',hrun,h2,h3,h4⟩:=run_appM (P:=P) w t ty e i z TE.ht hi hz hsize TE.hzs hown A' m c' news hr.rd h1 (by unfold maxLen;exact h63) (by rw [hby];exact hbytes)
  unfold Oper.wp execOp
  simp only [resolve,invoke,builtin,Sem.run_bind,Sem.run_pure,Result.andThen_ok,List.map_toArray,List.map_cons,List.map_nil,ha.eval hs,ha.eval hx,hrun]
  refine ⟨_,ha.put d _ hd,h A2 c2 w' (S.upd k hk h3.os h3.tape h3.output h3.size (fun j hj hn=>h3.block j hj (fun e=>hn e.symm)) h2 fun j hj=>?_)⟩
  change (Value.slice A2 (n+m) c2).ownBlock=some j at hj
  rcases h4 with h4 | ⟨h4,h5⟩
  · left;rw [h4] at hj;exact hj
  · right
    rw [h4] at hj
    cases hj
    exact ⟨Nat.le_refl _,h5⟩
end
end Zx
namespace Obj
open Go.RowKit Zk Zx
open Oid (idf B_)
open Tre (aw_ EV enf aG_ cD_ cE_)
open Rev (aT_ ar_ bb_)
def if_ (k:Int):List UInt8:=if k=1 then [98,108,111,98] else if k=2 then [116,114,101,101] else if k=3 then [99,111,109,109,105,116] else if k=4 then [116,97,103] else []
def bM_ (k:Int):ByteArray:=⟨(if_ k).toArray⟩
theorem wordS_1 {k:Int} (h:k=1):(⟨#[98,108,111,98]⟩:ByteArray)=bM_ k:=by subst h;rfl
theorem wordS_2 {k:Int} (h:k=2):(⟨#[116,114,101,101]⟩:ByteArray)=bM_ k:=by subst h;rfl
theorem wordS_3 {k:Int} (h:k=3):(⟨#[99,111,109,109,105,116]⟩:ByteArray)=bM_ k:=by subst h;rfl
theorem wordS_4 {k:Int} (h:k=4):(⟨#[116,97,103]⟩:ByteArray)=bM_ k:=by subst h;rfl
theorem wordS_0 {k:Int} (h1:¬ k=1) (h2:¬ k=2) (h3:¬ k=3) (h4:¬ k=4):(⟨#[]⟩:ByteArray)=bM_ k:=by unfold bM_ if_;rw [if_neg h1,if_neg h2,if_neg h3,if_neg h4]
theorem ge_ (k:Int):(bM_ k).size≤6:=by
  unfold bM_ if_
  rw [Rev.bsz]
  repeat' split
  all_goals decide
theorem ha_ (k:Int):bM_ k=⟨#[]⟩↔¬ (1≤k∧k≤4):=by
  constructor
  · intro h q
    have hk:k=1∨k=2∨k=3∨k=4:=by omega
    rcases hk with rfl | rfl | rfl | rfl <;> exact absurd h (by decide)
  · intro h
    exact (wordS_0 (by omega) (by omega) (by omega) (by omega)).symm
def ad_ (k:Int) (b:List UInt8):Int:=if ¬ (1≤k∧k≤4) then 19 else if 4000 < b.length then 3 else if k=2 then cR_ b else if k=3 then Rev.gF_ b else if k=4 then Rev.gE_ b else 0
def bG_ (k:Int) (b:List UInt8):List UInt8:=if_ k++[32]++Rev.eF_ (b.length:Int)++[0]++b
theorem none_len {w:World} {n c:Nat} {l:List UInt8} (h:Rs w 1 none n c (bL l)):n=0∧l=[]:=by
  have h0:n=0:=by
    rcases Nat.eq_zero_or_pos n with q | q
    · exact q
    · obtain ⟨ad,h1,_⟩:=h.rd.2 q
      cases h1
  exact ⟨h0,List.length_eq_zero_iff.1 (by have:=h.lenb;omega)⟩
def BytesV (w0 w':World) (k:Int) (b:List UInt8) (u:Value):Prop:=(ad_ k b≠0∧u=.tuple #[.slice none 0 0,.int .i64 (ad_ k b)])∨(ad_ k b=0∧∃ A c,u=.tuple #[.slice A (bG_ k b).length c,.int .i64 0]∧Fr w0 w' 1 A (bG_ k b).length c (bL (bG_ k b)))
theorem jC_ (k:Int) (d:List UInt8):((bM_ k++(⟨#[32]⟩:ByteArray))++(⟨d.toArray⟩:ByteArray)).data.toList=if_ k++[32]++d:=by
  simp [bM_]
theorem hdr_size (k:Int) (d:List UInt8):((bM_ k++(⟨#[32]⟩:ByteArray))++(⟨d.toArray⟩:ByteArray)).size=(if_ k++[32]++d).length:=by
  rw [← jC_]
  exact Array.length_toList.symm
theorem spsz:(⟨#[32]⟩:ByteArray).size=1:=rfl
theorem clone (A:Option Addr) (n c:Nat) (l:List UInt8) (w0:World) (hb:Rs w0 1 A n c (bL l)) (hn9:n≤100000) :
    Calls Tryz.prog 48 #[.slice A n c] w0 fun e w'=>∃ u,e=.returned u∧Like w0 w'∧∃ A' c',u=.slice A' n c'∧w'.ownsRow w0.heap.size 5 1 (.slice A' n c') n (bL l):=by
 refine v_ (env:=[(0,.slice A n c)]) [.slice A n c] Tryz.func48 Z Tryz.ntmps48 Z Z ?_;have hcap:=hb.cap;have hmax:=hb.max;have S0:=St.start w0 noM;refine a_ fun K1 hK1=>b_ (Lan Z Z (hK1 _ _ (a_ fun K2 hK2=>a_ fun K3 hK3=>Rm Z Z (L_y (y_seqn Tryz.underlying22 Z) Z (f_ (hK3 _ _ ?_))))));refine aD_ Z (fun h4=>?_) (fun h4=>?_)
 ·
  refine a_ fun K4 hK4=>b_ (Lan Z Z (hK4 _ _ (l_ (ur (F_ Z Z ?_)))));have h0:A=none:=Option.isNone_iff_eq_none.1 h4;subst h0;obtain ⟨rfl,rfl⟩:=none_len hb;exact ⟨_,rfl,S0.like0,none,0,rfl,World.ownsRow_nil _ _ _ _⟩
 ·
  refine j_ (hK2 _ _ (a_ fun K5 hK5=>b_ (L_o (o_bsl0 ba_ S0 Z fun b1 w1 l1 S1=>Lm Z Z (L_o (ay_ ba_ S1 0 Z Z Z (S1.rd hb) (R_ _) Z (by omega) (by omega) fun A2 c2 w2 S2=>Lan Z Z (hK5 _ _ (l_ (ur (F_ Z Z ?_))))))))));have S93:=S2.rowc 0 Z (n':=n) (by omega) Z;rw [Nat.zero_add];exact ⟨_,rfl,S2.like0,_,_,rfl,S93.own 0 Z⟩
theorem word_ (k:Int) (w0:World)  :
    Calls Tryz.prog 17 #[.int .i64 k] w0 fun e w'=>∃ u,e=.returned u∧Like w0 w'∧u=.string (bM_ k):=by
 refine v_ (env:=[(0,.int .i64 k)]) [.int .i64 k] Tryz.func17 Z Tryz.ntmps17 Z Z ?_;have S0:=St.start w0 noM;refine a_ fun K1 hK1=>b_ (Lan Z Z (hK1 _ _ (a_ fun K2 hK2=>a_ fun K3 hK3=>Rm Z Z (f_ (hK3 _ _ (r_ (a_ fun K4 hK4=>b_ ?_)))))));refine L_y (am_ Z Z) Z (Lan Z Z (hK4 _ _ ?_));refine o_ Z (fun h4=>?_) (fun h4=>?_)
 ·
  refine a_ fun K5 hK5=>b_ (Lan Z Z (hK5 _ _ (l_ (ur (F_ Z Z ?_)))));exact ⟨_,rfl,S0.like0,congrArg Value.string (wordS_1 h4)⟩
 ·
  refine a_ fun K6 hK6=>b_ (L_y (am_ Z Z) Z (Lan Z Z (hK6 _ _ ?_)));refine o_ Z (fun h6=>?_) (fun h6=>?_)
  ·
   refine a_ fun K7 hK7=>b_ (Lan Z Z (hK7 _ _ (l_ (ur (F_ Z Z ?_)))));exact ⟨_,rfl,S0.like0,congrArg Value.string (wordS_2 h6)⟩
  ·
   refine a_ fun K8 hK8=>b_ (L_y (am_ Z Z) Z (Lan Z Z (hK8 _ _ ?_)));refine o_ Z (fun h8=>?_) (fun h8=>?_)
   ·
    refine a_ fun K9 hK9=>b_ (Lan Z Z (hK9 _ _ (l_ (ur (F_ Z Z ?_)))));exact ⟨_,rfl,S0.like0,congrArg Value.string (wordS_3 h8)⟩
   ·
    refine a_ fun K10 hK10=>b_ (L_y (am_ Z Z) Z (Lan Z Z (hK10 _ _ ?_)));refine o_ Z (fun h10=>?_) (fun h10=>?_)
    ·
     refine a_ fun K11 hK11=>b_ (Lan Z Z (hK11 _ _ (l_ (ur (F_ Z Z ?_)))));exact ⟨_,rfl,S0.like0,congrArg Value.string (wordS_4 h10)⟩
    ·
     refine j_ (hK2 _ _ (a_ fun K12 hK12=>b_ (Lan Z Z (hK12 _ _ (l_ (ur (F_ Z Z ?_)))))));exact ⟨_,rfl,S0.like0,congrArg Value.string (wordS_0 h4 h6 h8 h10)⟩
theorem read (k:Int) (B:Option Addr) (m d:Nat) (b:List UInt8) (w0:World) (hb:Rs w0 1 B m d (bL b)) :
    Calls Tryz.prog 40 #[.int .i64 k,.slice B m d] w0 fun e w'=>∃ u,e=.returned u∧Like w0 w'∧∃ v,u=.tuple #[v,.int .i64 (ad_ k b)]:=by
 refine v_ (env:=[(0,.int .i64 k),(1,.slice B m d)]) [.int .i64 k,.slice B m d] Tryz.func40 Z Tryz.ntmps40 Z Z ?_;have hl:=hb.lenb;have hcap:=hb.cap;have hmax:=hb.max;have S0:=St.start w0 noM;refine a_ fun K1 hK1=>b_ (La Z Z (Lan Z Z (hK1 _ _ (a_ fun K2 hK2=>a_ fun K3 hK3=>Rm Z Z (L_o (n_ Tryz.func17 Z Z (word_ k w0) Z Z ?_))))));rintro e1 w1 ⟨v1,rfl,l1,rfl⟩;refine ⟨_,rfl,(have S1:=S0.like l1;L_y (cW_ Z Z) Z (f_ (hK3 _ _ ?_)))⟩;refine o_ Z (fun h14=>?_) (fun h14=>?_)
 ·
  refine a_ fun K4 hK4=>b_ (La Z Z (Lan Z Z (hK4 _ _ (l_ (ur (bj_ Z Z Z ?_))))));have he:ad_ k b=19:=by unfold ad_;rw [if_pos ((ha_ k).1 h14)]
  exact ⟨_,rfl,S1.like0,_,by first | (rw [he];done) | (rw [he];rfl)⟩
 ·
  have hk:1≤k∧k≤4:=Classical.byContradiction fun q=>h14 ((ha_ k).2 q);refine j_ (hK2 _ _ (a_ fun K5 hK5=>a_ fun K6 hK6=>Rm Z Z (L_y (I_ Tryz.underlying22 Z) Z (L_y (Z_ Z Z) Z (f_ (hK6 _ _ ?_))))));refine o_ Z (fun h17=>?_) (fun h17=>?_)
  ·
   refine a_ fun K7 hK7=>b_ (La Z Z (Lan Z Z (hK7 _ _ (l_ (ur (bj_ Z Z Z ?_))))));have he:ad_ k b=3:=by unfold ad_;rw [if_neg (fun q=>q hk),if_pos (by omega)]
   exact ⟨_,rfl,S1.like0,_,by first | (rw [he];done) | (rw [he];rfl)⟩
  ·
   refine j_ (hK5 _ _ (a_ fun K8 hK8=>a_ fun K9 hK9=>Rm Z Z (f_ (hK9 _ _ (r_ (a_ fun K10 hK10=>b_ (L_y (am_ Z Z) Z (Lan Z Z ?_))))))));refine hK10 _ _ ?_;refine o_ Z (fun h19=>?_) (fun h19=>?_)
   ·
    refine a_ fun K11 hK11=>Rm Z Z (L_o (n_ Tryz.func73 Z Z (get B m d b w1 (S1.rd hb) (by omega)) Z Z ?_));rintro e2 w2 ⟨v2,rfl,l2,A23,k23,c23,rfl⟩;refine ⟨_,rfl,(have S2:=S1.like l2;Lm Z Z (L_y (m_ Z Z) Z (L_y (m_ Z Z) Z (La Z Z (Lan Z Z (hK11 _ _ (a_ fun K12 hK12=>Rm Z Z (L_y (fG_ (by kernel_rfl) Z) Z (Lm Z Z ?_)))))))))⟩;refine La Z Z (Lan Z Z (hK12 _ _ (l_ (ur (bj_ Z Z Z ?_)))));have he:ad_ k b=cR_ b:=by unfold ad_;rw [if_neg (fun q=>q hk),if_neg (by omega),if_pos h19]
    exact ⟨_,rfl,S2.like0,_,by first | (rw [he];done) | (rw [he];rfl)⟩
   ·
    refine a_ fun K13 hK13=>b_ (L_y (am_ Z Z) Z (Lan Z Z (hK13 _ _ ?_)));refine o_ Z (fun h29=>?_) (fun h29=>?_)
    ·
     refine a_ fun K14 hK14=>Rm Z Z (L_o (n_ Tryz.func74 Z Z (Rev.getB B m d b w1 (S1.rd hb) (by omega)) Z Z ?_));rintro e3 w3 ⟨v3,rfl,l3,A33,c33,F33,rfl⟩;refine ⟨_,rfl,(have S3:=S1.like l3;Lm Z Z (L_y (m_ Z Z) Z (L_y (m_ Z Z) Z (L_o (H_ zz83 S3 Z fun b4 w4 hb4 S4=>L_o (G_ S4 0 Z Z Z (by rw [Rev.D_];exact bg_) (by first | (rw [Rev.D_];done) | (rw [Rev.D_];rfl)) (fun u hu=>Rev.aY_ _ u (by rw [List.toList_toArray] at hu;exact hu)) fun w5 S5=>?_))))))⟩;refine Lan Z Z (hK14 _ _ (a_ fun K15 hK15=>b_ (L_y (Y_ Tryz.underlying83 Z bg_ Z (S5.blk 0 Z) (Rev.dd_ _)) Z (L_y (fG_ (by kernel_rfl) Z) Z (Lm Z Z (La Z Z (Lan Z Z (hK15 _ _ (l_ (ur ?_))))))))));refine bj_ Z Z Z ?_;have he:ad_ k b=Rev.gF_ b:=by unfold ad_;rw [if_neg (fun q=>q hk),if_neg (by omega),if_neg h19,if_pos h29]
     exact ⟨_,rfl,S5.like0,_,by first | (rw [he];done) | (rw [he];rfl)⟩
    ·
     refine a_ fun K16 hK16=>b_ (L_y (am_ Z Z) Z (Lan Z Z (hK16 _ _ ?_)));refine o_ Z (fun h39=>?_) (fun h39=>?_)
     ·
      refine a_ fun K17 hK17=>Rm Z Z (L_o (n_ Tryz.func75 Z Z (Rev.getMB B m d b w1 (S1.rd hb) (by omega)) Z Z ?_));rintro e6 w6 ⟨v6,rfl,l6,rfl⟩;refine ⟨_,rfl,(have S6:=S1.like l6;Lm Z Z (L_y (m_ Z Z) Z (L_y (m_ Z Z) Z (L_o (H_ zz87 S6 Z fun b7 w7 hb7 S7=>L_o (G_ S7 0 Z Z Z (by rw [Rev.M_];exact bS_) (by first | (rw [Rev.M_];done) | (rw [Rev.M_];rfl)) (fun u hu=>Rev.bH_ _ u (by rw [List.toList_toArray] at hu;exact hu)) fun w8 S8=>?_))))))⟩;refine Lan Z Z (hK17 _ _ (a_ fun K18 hK18=>b_ (L_y (Y_ Tryz.underlying87 Z bS_ Z (S8.blk 0 Z) (Rev.dW_ _)) Z (L_y (fG_ (by kernel_rfl) Z) Z (Lm Z Z (La Z Z (Lan Z Z (hK18 _ _ (l_ (ur ?_))))))))));refine bj_ Z Z Z ?_;have he:ad_ k b=Rev.gE_ b:=by unfold ad_;rw [if_neg (fun q=>q hk),if_neg (by omega),if_neg h19,if_neg h29,if_pos h39]
      exact ⟨_,rfl,S8.like0,_,by first | (rw [he];done) | (rw [he];rfl)⟩
     ·
      refine j_ (hK8 _ _ (a_ fun K19 hK19=>Rm Z Z (L_y (fG_ (by kernel_rfl) Z) Z (La Z Z (Lan Z Z (hK19 _ _ (l_ (ur (bj_ Z Z Z ?_)))))))));have he:ad_ k b=0:=by unfold ad_;rw [if_neg (fun q=>q hk),if_neg (by omega),if_neg h19,if_neg h29,if_neg h39]
      exact ⟨_,rfl,S1.like0,_,by first | (rw [he];done) | (rw [he];rfl)⟩
theorem check_ (k:Int) (B:Option Addr) (m d:Nat) (b:List UInt8) (w0:World) (hb:Rs w0 1 B m d (bL b)) :
    Calls Tryz.prog 15 #[.int .i64 k,.slice B m d] w0 fun e w'=>∃ u,e=.returned u∧Like w0 w'∧u=.int .i64 (ad_ k b):=by
 refine v_ (env:=[(0,.int .i64 k),(1,.slice B m d)]) [.int .i64 k,.slice B m d] Tryz.func15 Z Tryz.ntmps15 Z Z ?_;have hl:=hb.lenb;have hcap:=hb.cap;have hmax:=hb.max;have S0:=St.start w0 noM;refine a_ fun K1 hK1=>b_ (Lan Z Z (hK1 _ _ (a_ fun K2 hK2=>Rm Z Z (Lm Z Z (L_o (n_ Tryz.func40 Z Z (read k B m d b w0 (S0.rd hb)) Z Z ?_))))));rintro e1 w1 ⟨v1,rfl,l1,v9,rfl⟩;refine ⟨_,rfl,(have S1:=S0.like l1;Lm Z Z (L_y (m_ Z Z) Z (L_y (m_ Z Z) Z (La Z Z (Lan Z Z (hK2 _ _ (a_ fun K3 hK3=>Rm Z Z (Lan Z Z ?_))))))))⟩;refine hK3 _ _ (l_ (ur (F_ Z Z ?_)));exact ⟨_,rfl,S1.like0,rfl⟩
theorem bytes_ (k:Int) (B:Option Addr) (m d:Nat) (b:List UInt8) (w0:World) (hb:Rs w0 1 B m d (bL b)) (hm9:m≤90000) :
    Calls Tryz.prog 12 #[.int .i64 k,.slice B m d] w0 fun e w'=>∃ u,e=.returned u∧Like w0 w'∧BytesV w0 w' k b u:=by
 refine v_ (env:=[(0,.int .i64 k),(1,.slice B m d)]) [.int .i64 k,.slice B m d] Tryz.func12 Z Tryz.ntmps12 Z Z ?_;have hl:=hb.lenb;have hcap:=hb.cap;have hmax:=hb.max;have S0:=St.start w0 noM;refine a_ fun K1 hK1=>b_ (La Z Z (Lan Z Z (hK1 _ _ (a_ fun K2 hK2=>a_ fun K3 hK3=>Rm Z Z (Lm Z Z (L_o (n_ Tryz.func15 Z Z (check_ k B m d b w0 (S0.rd hb)) Z Z ?_)))))));rintro e1 w1 ⟨v1,rfl,l1,rfl⟩;refine ⟨_,rfl,(have S1:=S0.like l1;Lan Z Z (hK3 _ _ (a_ fun K4 hK4=>Rm Z Z (L_y (ab_ Z Z) Z (f_ (hK4 _ _ ?_))))))⟩;refine o_ Z (fun h12=>?_) (fun h12=>?_)
 ·
  refine a_ fun K5 hK5=>Rm Z Z (La Z Z (Lan Z Z (hK5 _ _ (l_ (ur (bj_ Z Z Z ?_))))));exact ⟨_,rfl,S1.like0,.inl ⟨h12,rfl⟩⟩
 ·
  refine j_ (hK2 _ _ (a_ fun K6 hK6=>Rm Z Z (L_o (n_ Tryz.func17 Z Z (word_ k w1) Z Z ?_))));rintro e2 w2 ⟨v2,rfl,l2,rfl⟩;refine ⟨_,rfl,(have S2:=S1.like l2;L_y (fz_ Z Z (by have h9:=ge_ k;rw [spsz];omega)) Z ?_)⟩;refine Lm Z Z (L_y (I_ Tryz.underlying22 Z) Z (L_o (n_ Tryz.func38 Z Z (Rev.digits (m:Int) w2 (by omega)) Z Z ?_)));rintro e3 w3 ⟨v3,rfl,l3,rfl⟩;refine ⟨_,rfl,?_⟩;have S3:=S2.like l3;have hd9:=Rev.digS_len (n:=(m:Int)) (by omega);have hw9:=ge_ k;have hs1:(bM_ k++(⟨#[32]⟩:ByteArray)).size=(bM_ k).size+1:=by rw [ByteArray.size_append,spsz]
  have hs2:((bM_ k++(⟨#[32]⟩:ByteArray))++(⟨(Rev.eF_ (m:Int)).toArray⟩:ByteArray)).size=(bM_ k).size+1+(Rev.eF_ (m:Int)).length:=by rw [ByteArray.size_append,hs1,Rev.bsz (Rev.eF_ (m:Int))]
  refine L_y (fz_ Z Z (by rw [hs1,Rev.bsz (Rev.eF_ (m:Int))];omega)) Z ?_;refine L_o (kh_ Tryz.underlying9 Tryz.underlying22 Tryz.underlying5 Z (by rw [hs2];omega) S3 Z fun bb cc w4 ll S4=>?_);refine Lan Z Z (hK6 _ _ (a_ fun K7 hK7=>Rm Z Z (L_o (ah_ [_] ba_ zz5 S4 Z Z Z Z Z Z Z Z fun b5 w5 S5=>L_o (o_appM ba_ S5 0 Z Z Z (S5.row 1 Z) (by intro u hu;simp at hu;subst hu;rfl) Z (by rw [hs2];omega) (by rw [hs2];omega) fun AA ca w6 S6=>?_)))));refine Lm Z Z (L_o (o_appM ba_ S6 0 Z Z Z (S6.rd hb) (R_ _) Z (by rw [hs2];omega) (by rw [hs2];omega) fun AB cb w7 S7=>?_));refine La Z Z (Lan Z Z (hK7 _ _ (l_ (ur (bj_ Z Z Z ?_)))));have he:ad_ k b=0:=Classical.byContradiction fun q=>h12 q;have e1:(((bM_ k++(⟨#[32]⟩:ByteArray))++(⟨(Rev.eF_ (m:Int)).toArray⟩:ByteArray)).size+1+m)=(bG_ k b).length:=by rw [hdr_size];unfold bG_;simp only [List.length_append,List.length_cons,List.length_nil];rw [hl]
  have e2:(bL (((bM_ k++(⟨#[32]⟩:ByteArray))++(⟨(Rev.eF_ (m:Int)).toArray⟩:ByteArray)).data.toList)++[Value.int .u8 0])++bL b=bL (bG_ k b):=by rw [jC_];unfold bG_;rw [hl];unfold bL;simp only [List.map_append,List.map_cons,List.map_nil];rfl
  have FF:=S7.frM 0 Z;rw [e1,e2] at FF;exact ⟨_,rfl,S7.like0,.inr ⟨he,_,_,by rw [e1],FF⟩⟩
end Obj
namespace Obj
open Go.RowKit Zk Zx
open Oid (idf B_)
open Tre (aw_ EV enf aG_ cD_ cE_)
open Rev (aT_ ar_ bb_)
section
variable {b p q wd dg : List UInt8}
end
end Obj
namespace Obj
open Go.RowKit Zk Zx
open Oid (idf B_)
open Tre (aw_ EV enf aG_ cD_ cE_)
open Rev (aT_ ar_ bb_)
theorem objE_k {k:Int} {b:List UInt8} (h:ad_ k b=0):(1≤k∧k≤4)∧b.length≤4000:=by
  unfold ad_ at h
  split at h
  · cases h
  · rename_i h1
    split at h
    · cases h
    · rename_i h2
      exact ⟨Classical.not_not.1 h1,by omega⟩
theorem wordB_len (k:Int):(if_ k).length≤6:=by
  unfold if_
  repeat' split
  all_goals decide
theorem dgt_small {n:Nat} (h:n≤4000):(Rev.dgt n).length≤4:=Rev.le_ 3 n (by omega)
theorem bytesGood (k:Int) (B:Option Addr) (m d:Nat) (b:List UInt8) (w0:World) (hb:Rs w0 1 B m d (bL b)) (hm9:m≤90000) (he:ad_ k b=0):Calls Tryz.prog 12 #[.int .i64 k,.slice B m d] w0 fun e w'=>∃ u,e=.returned u∧Like w0 w'∧∃ A c,u=.tuple #[.slice A (bG_ k b).length c,.int .i64 0]∧Fr w0 w' 1 A (bG_ k b).length c (bL (bG_ k b)) :=
  (bytes_ k B m d b w0 hb hm9).mono fun e w' ⟨u,h1,h2,h3⟩=>by
    rcases h3 with ⟨h,_⟩ | ⟨_,A,c,h4,h5⟩
    · exact absurd he h
    · exact ⟨u,h1,h2,A,c,h4,h5⟩
theorem bytesBad (k:Int) (B:Option Addr) (m d:Nat) (b:List UInt8) (w0:World) (hb:Rs w0 1 B m d (bL b)) (hm9:m≤90000) (he:ad_ k b≠0):Calls Tryz.prog 12 #[.int .i64 k,.slice B m d] w0 fun e w'=>∃ u,e=.returned u∧Like w0 w'∧u=.tuple #[.slice none 0 0,.int .i64 (ad_ k b)] :=
  (bytes_ k B m d b w0 hb hm9).mono fun e w' ⟨u,h1,h2,h3⟩=>by
    rcases h3 with ⟨_,h⟩ | ⟨h,_⟩
    · exact ⟨u,h1,h2,h⟩
    · exact absurd h he
theorem objB_len {k:Int} {b:List UInt8} (h:ad_ k b=0):(bG_ k b).length≤b.length+20:=by
  obtain ⟨hk,hb⟩:=objE_k h
  have hD:=dgt_small hb
  have hW:=wordB_len k
  unfold bG_
  rw [Rev.jG_]
  simp only [List.length_append,List.length_cons,List.length_nil]
  omega
theorem hi_ok:ad_ 1 [104,105]=0:=by unfold ad_;rw [if_neg (by decide),if_neg (by decide),if_neg (by decide),if_neg (by decide),if_neg (by decide)]
end Obj
namespace Tre
open Go.RowKit Zk Zx
theorem hO_ (A:Option Addr) (n c:Nat) (l:List EV) (w0:World) (hl:Rs w0 34 A n c (l.flatMap enf)) (hn5:n≤10000) :
    Calls Tryz.prog 77 #[.slice A n c] w0 fun e w'=>∃ u,e=.returned u∧Like w0 w'∧u=.int .i64 (cE_ l):=by
 refine v_ (env:=[(0,.slice A n c)]) [.slice A n c] Tryz.func77 Z Tryz.ntmps77 Z Z ?_;have hn:=ens_n hl;have hcap:=hl.cap;have hmax:=hl.max;have S0:=St.start w0 noM;refine a_ fun K1 hK1=>b_ (Lan Z Z (hK1 _ _ (a_ fun K2 hK2=>a_ fun K3 hK3=>Rm Z Z (L_y (I_ Tryz.underlying78 Z) Z (L_y (Z_ Z Z) Z (f_ (hK3 _ _ ?_)))))));refine o_ Z (fun h9=>?_) (fun h9=>?_)
 ·
  refine a_ fun K4 hK4=>b_ (Lan Z Z (hK4 _ _ (l_ (ur (F_ Z Z ?_)))));exact ⟨_,rfl,S0.like0,congrArg (Value.int _) (ku_ (by omega)).symm⟩
 ·
  refine j_ (hK2 _ _ (a_ fun K5 hK5=>a_ fun K6 hK6=>b_ (Lan Z Z (hK6 _ _ (r_ ?_)))));refine an_ [(0,_)] (fun (k:Nat)=>[(3,.int .i64 (k:Int))]) (fun (k:Nat)=>n - k) (fun (k:Nat) (w:World)=>(k≤n∧(∀ j e,j < k→l[j]?=some e→cD_ e.md∧aw_ e.nm=true))∧St w0 noM [] w) 0 (Sc Z (Sub.nil _)) (Sub.cons Z Z (Sub.nil _)) ?_ ?_
  ·
   exact ⟨⟨Nat.zero_le _,fun j e hj=>absurd hj (by omega)⟩,S0⟩
  ·
   intro k w1 hrel;obtain ⟨⟨hk,hok⟩,S1⟩:=hrel;refine a_ fun K7 hK7=>a_ fun K8 hK8=>Rm Z Z (Lm Z Z (L_y (I_ Tryz.underlying78 Z) Z (L_y (L_ Z Z) Z (f_ (hK8 _ _ ?_)))));refine o_ Z (fun h13=>?_) (fun h13=>?_)
   ·
    obtain ⟨x,hx⟩:∃ x,l[k]?=some x:=⟨_,List.getElem?_eq_getElem (by omega)⟩;refine j_ (hK7 _ _ (a_ fun K9 hK9=>r_ (a_ fun K10 hK10=>a_ fun K11 hK11=>Rm Z Z (Lm Z Z (L_y (T_ Tryz.underlying78 au_ Z Z (S1.rd hl) (Nt.mk (by omega):Nt _ (k)) (by omega)) Z (L_y (aE_ 1 Tryz.underlying149 Z sz3 Z Z (S1.rd hl) (by omega) Z) Z (L_y (cl_ Tryz.underlying3 Z Z (S1.rd hl) (by omega) (en_md hx)) Z (L_y (L_ Z Z) Z (Lm Z Z ?_)))))))));refine y_ 22 Z (fun h22=>?_) (fun h22=>?_)
    ·
     have hmd:¬ cD_ x.md:=by unfold cD_;omega
     refine h_ Z Z Z (h_ Z Z Z (h_ Z Z Z (h_ Z Z Z (h_ Z Z Z (h_ Z Z Z (Lp Z Z Z (f_ (hK11 _ _ (W_ Z (a_ fun K12 hK12=>b_ (Lan Z Z ?_)))))))))));refine hK12 _ _ (l_ (ur (F_ Z Z ?_)));exact ⟨_,rfl,S1.like0,congrArg (Value.int _) (fX_ (by omega) ((fq_ k hok (by omega)).trans (lm_ hx hmd)) (by decide)).symm⟩
    ·
     refine d_ Z Z (Lm Z Z (d_ Z Z (Lm Z Z (d_ Z Z (L_y (T_ Tryz.underlying78 au_ Z Z (S1.rd hl) (Nt.mk (by omega):Nt _ (k)) (by omega)) Z (d_ Z Z (L_y (aE_ 1 Tryz.underlying149 Z sz3 Z Z (S1.rd hl) (by omega) Z) Z (d_ Z Z (L_y (cl_ Tryz.underlying3 Z Z (S1.rd hl) (by omega) (en_md hx)) Z (d_ Z Z (L_y (Z_ Z Z) Z (Lp Z Z Z (f_ ?_)))))))))))));refine hK11 _ _ ?_;refine o_ Z (fun h29=>?_) (fun h29=>?_)
     ·
      have hmd:¬ cD_ x.md:=by unfold cD_;omega
      refine a_ fun K13 hK13=>b_ (Lan Z Z (hK13 _ _ (l_ (ur (F_ Z Z ?_)))));exact ⟨_,rfl,S1.like0,congrArg (Value.int _) (fX_ (by omega) ((fq_ k hok (by omega)).trans (lm_ hx hmd)) (by decide)).symm⟩
     ·
      have hmd:cD_ x.md:=by unfold cD_;omega
      refine j_ (hK10 _ _ (a_ fun K14 hK14=>Rm Z Z (Lm Z Z (L_y (T_ Tryz.underlying78 au_ Z Z (S1.rd hl) (Nt.mk (by omega):Nt _ (k)) (by omega)) Z (L_y (aE_ 0 Tryz.underlying149 Z sz9 Z Z (S1.rd hl) (by omega) Z) Z (L_y (cl_ Tryz.underlying9 Z Z (S1.rd hl) (by omega) (en_nm hx)) Z (L_o (n_ Tryz.func76 Z Z (rname x.nm w1) Z Z ?_))))))));rintro e3 w3 ⟨v3,rfl,l3,rfl⟩;refine ⟨_,rfl,(have S3:=S1.like l3;L_y ((by first | exact aA_ Z | exact aZ_ Z)) Z ?_)⟩;refine f_ (hK14 _ _ ?_);refine aD_ Z (fun h36=>?_) (fun h36=>?_)
      ·
       have hnm:aw_ x.nm=false:=by simpa using h36
       refine a_ fun K15 hK15=>b_ (Lan Z Z (hK15 _ _ (l_ (ur (F_ Z Z ?_)))));exact ⟨_,rfl,S3.like0,congrArg (Value.int _) (fX_ (by omega) ((fq_ k hok (by omega)).trans (chk1_nm hx hmd hnm)) (by decide)).symm⟩
      ·
       have hnm:aw_ x.nm=true:=by simpa using h36
       refine j_ (hK9 _ _ (Rm Z Z (L_y (w_ Z Z (z_ (by omega))) Z (Lan Z Z (⟨k+1,by omega,⟨⟨by omega,fi_ hok hx hmd hnm⟩,S3⟩,?_⟩)))));exact (Sc Z (Sub.cons Z Z (Sub.nil _)))
   ·
    have hc1:fr_ l=0:=(fq_ k hok (by omega)).trans (by rw [List.drop_of_length_le (by omega)];rfl);refine K_ (hK5 _ _ (a_ fun K16 hK16=>a_ fun K17 hK17=>b_ (Lan Z Z (hK17 _ _ (r_ ?_)))));refine an_ [(0,_)] (fun (k:Nat)=>[(4,.int .i64 (k:Int))]) (fun (k:Nat)=>n - k) (fun (k:Nat) (w:World)=>(k≤n∧once (l.take k))∧St w0 noM [] w) 0 (Sc Z (Sub.nil _)) (Sub.cons Z Z (Sub.nil _)) ?_ ?_
    ·
     exact ⟨⟨Nat.zero_le _,by simp [once]⟩,S1⟩
    ·
     intro k w4 hrel;obtain ⟨⟨hk,hon⟩,S4⟩:=hrel;refine a_ fun K18 hK18=>a_ fun K19 hK19=>Rm Z Z (Lm Z Z (L_y (I_ Tryz.underlying78 Z) Z (L_y (L_ Z Z) Z (f_ (hK19 _ _ ?_)))));refine o_ Z (fun h40=>?_) (fun h40=>?_)
     ·
      obtain ⟨x,hx⟩:∃ x,l[k]?=some x:=⟨_,List.getElem?_eq_getElem (by omega)⟩;refine j_ (hK18 _ _ (a_ fun K20 hK20=>r_ (a_ fun K21 hK21=>b_ (Lan Z Z (hK21 _ _ (r_ ?_))))));refine an_ [(0,_),(4,_)] (fun (j:Nat)=>[(5,.int .i64 (j:Int))]) (fun (j:Nat)=>k - j) (fun (j:Nat) (w:World)=>(j≤k∧(∀ i y,i < j→l[i]?=some y→y.nm≠x.nm))∧St w0 noM [] w) 0 (Sc Z (Sub.nil _)) (Sub.cons Z Z (Sub.cons Z Z (Sub.nil _))) ?_ ?_
      ·
       exact ⟨⟨Nat.zero_le _,fun i y hi=>absurd hi (by omega)⟩,S4⟩
      ·
       intro j w5 hrel;obtain ⟨⟨hj,hno⟩,S5⟩:=hrel;refine a_ fun K22 hK22=>a_ fun K23 hK23=>Rm Z Z (Lm Z Z (L_y (L_ Z Z) Z (f_ (hK23 _ _ ?_))));refine o_ Z (fun h45=>?_) (fun h45=>?_)
       ·
        obtain ⟨y,hy⟩:∃ y,l[j]?=some y:=⟨_,List.getElem?_eq_getElem (by omega)⟩;refine j_ (hK22 _ _ (a_ fun K24 hK24=>r_ (a_ fun K25 hK25=>ak_ [(0,true),(1,true),(2,true),(3,true),(4,true),(5,true),(6,true),(7,true),(8,true),(9,true),(10,true)] aS_ (by kernel_rfl) fun w6 l6=>have S6:=S5.like l6;u_ Z (p_ Z) Z (u_ Z (p_ Z) Z (u_ Z (T_ Tryz.underlying78 au_ Z Z (S6.rd hl) (Nt.mk (by omega):Nt _ (j)) (by omega)) Z (u_ Z (aE_ 0 Tryz.underlying149 Z sz9 Z Z (S6.rd hl) (by omega) Z) Z (u_ Z (cl_ Tryz.underlying9 Z Z (S6.rd hl) (by omega) (en_nm hy)) Z (u_ Z (p_ Z) Z (u_ Z (p_ Z) Z ?_)))))))));refine u_ Z (T_ Tryz.underlying78 au_ Z Z (S6.rd hl) (Nt.mk (by omega):Nt _ (k)) (by omega)) Z (u_ Z (aE_ 0 Tryz.underlying149 Z sz9 Z Z (S6.rd hl) (by omega) Z) Z (u_ Z (cl_ Tryz.underlying9 Z Z (S6.rd hl) (by omega) (en_nm hx)) Z (u_ Z (cW_ Z Z) Z (aH_ (hK25 _ _ ?_)))));refine o_ Z (fun h58=>?_) (fun h58=>?_)
        ·
         refine a_ fun K26 hK26=>b_ (Lan Z Z (hK26 _ _ (l_ (ur (F_ Z Z ?_)))));exact ⟨_,rfl,S6.like0,congrArg (Value.int _) (jI_ (by omega) hc1 (not_once hx (by rw [← h58];exact once_in hy (by omega)))).symm⟩
        ·
         refine j_ (hK24 _ _ (Rm Z Z (L_y (w_ Z Z (z_ (by omega))) Z (Lan Z Z (⟨j+1,by omega,⟨⟨by omega,fun i z hi hz=>by rcases Nat.lt_or_ge i j with q | q;exact hno i z q hz;(have e9:i=j:=by omega);subst e9;rw [hy] at hz;cases hz;exact h58⟩,S6⟩,?_⟩)))));exact (Sc Z (Sub.cons Z Z (Sub.cons Z Z (Sub.nil _))))
       ·
        refine K_ (hK20 _ _ (Rm Z Z (L_y (w_ Z Z (z_ (by omega))) Z (Lan Z Z (⟨k+1,by omega,⟨⟨by omega,kg_ hx hon (once_out (fun i y hi hy=>hno i y (by omega) hy))⟩,S5⟩,?_⟩)))));exact (Sc Z (Sub.cons Z Z (Sub.nil _)))
     ·
      have hon:once l:=by rwa [List.take_of_length_le (by omega)] at hon
      refine K_ (hK16 _ _ (a_ fun K27 hK27=>a_ fun K28 hK28=>b_ (Lan Z Z (hK28 _ _ (r_ ?_)))));refine an_ [(0,_)] (fun (k:Nat)=>[(6,.int .i64 (k:Int))]) (fun (k:Nat)=>n - k) (fun (k:Nat) (w:World)=>((k+1≤n∨k=0)∧(∀ j x y,j < k→l[j]?=some x→l[j+1]?=some y→ltK x y=true))∧St w0 noM [] w) 0 (Sc Z (Sub.nil _)) (Sub.cons Z Z (Sub.nil _)) ?_ ?_
      ·
       exact ⟨⟨.inr Z,fun j x y hj=>absurd hj (by omega)⟩,S4⟩
      ·
       intro k w7 hrel;obtain ⟨⟨hk2,hri⟩,S7⟩:=hrel;refine a_ fun K29 hK29=>a_ fun K30 hK30=>Rm Z Z (L_y (w_ Z Z (z_ (by omega))) Z (Lm Z Z (L_y (I_ Tryz.underlying78 Z) Z (L_y (L_ Z Z) Z (f_ (hK30 _ _ ?_))))));refine o_ Z (fun h63=>?_) (fun h63=>?_)
       ·
        obtain ⟨x,hx⟩:∃ x,l[k]?=some x:=⟨_,List.getElem?_eq_getElem (by omega)⟩;obtain ⟨y,hy⟩:∃ y,l[k+1]?=some y:=⟨_,List.getElem?_eq_getElem (by omega)⟩;refine j_ (hK29 _ _ (a_ fun K31 hK31=>r_ (a_ fun K32 hK32=>ak_ [(0,true),(1,true),(2,true),(3,true),(5,true),(6,true),(7,true),(8,true),(9,true),(4,false),(10,false),(11,true)] aS_ (by kernel_rfl) fun w8 l8=>have S8:=S7.like l8;u_ Z (p_ Z) Z (u_ Z (p_ Z) Z (u_ Z (T_ Tryz.underlying78 au_ Z Z (S8.rd hl) (Nt.mk (by omega):Nt _ (k)) (by omega)) Z (u_ Z (cp_ (f:=enf) aG_ Tryz.underlying149 Z au_ Z (S8.rd hl) (by omega) hx) Z (u_ Z (p_ Z) Z (u_ Z (p_ Z) Z (u_ Z (w_ Z Z (z_ (by omega))) Z ?_)))))))));refine u_ Z (T_ Tryz.underlying78 au_ Z Z (S8.rd hl) (Nt.mk (by omega):Nt _ (k+1)) (by omega)) Z (u_ Z (cp_ (f:=enf) aG_ Tryz.underlying149 Z au_ Z (S8.rd hl) (by omega) hy) Z (eH_ Z (n_ Tryz.func114 Z Z (rkey x w8) Z Z ?_)));rintro e9 w9 ⟨v9,rfl,l9,rfl⟩;refine ⟨_,rfl,l9,(have S9:=S8.like l9;have q9:=l9;eH_ Z (n_ Tryz.func114 Z Z (rkey y w9) Z Z ?_))⟩;rintro e10 w10 ⟨v10,rfl,l10,rfl⟩;refine ⟨_,rfl,(Like.trans q9 l10),(have S10:=S9.like l10;have q10:=(Like.trans q9 l10);u_ Z (y_sgeq Z Z) Z (aH_ (hK32 _ _ ?_)))⟩;refine aD_ Z (fun h77=>?_) (fun h77=>?_)
        ·
         have hxy:ltK x y=false:=by unfold ltK;simpa using h77
         refine a_ fun K33 hK33=>b_ (Lan Z Z (hK33 _ _ (l_ (ur (F_ Z Z ?_)))));exact ⟨_,rfl,S10.like0,congrArg (Value.int _) (chkE_ord (by omega) hc1 hon ((ix_ l (k+1) (fun j x y hj=>hri j x y (by omega)) (by omega)).trans (risK_no hx hy hxy))).symm⟩
        ·
         have hxy:ltK x y=true:=by unfold ltK;simpa using h77
         refine j_ (hK31 _ _ (Rm Z Z (L_y (w_ Z Z (z_ (by omega))) Z (Lan Z Z (⟨k+1,by omega,⟨⟨by omega,fun j a b hj ha hb=>ris_next (k:=k+1) (fun j a b hj=>hri j a b (by omega)) hx hy (by omega) hxy j a b (by omega) ha hb⟩,S10⟩,?_⟩)))));exact (Sc Z (Sub.cons Z Z (Sub.nil _)))
       ·
        refine K_ (hK27 _ _ (a_ fun K34 hK34=>b_ (Lan Z Z (hK34 _ _ (l_ (ur (F_ Z Z ?_)))))));exact ⟨_,rfl,S7.like0,congrArg (Value.int _) (chkE_ok (by omega) hc1 hon (risK_fin (k:=k+1) (fun j x y hj=>hri j x y (by omega)) (by omega) (by omega))).symm⟩
end Tre
namespace Obj
open Go.RowKit Zk Zx
open Oid (idf B_)
open Tre (aw_ EV enf aG_ cD_ cE_)
open Rev (aT_ ar_ bb_)
theorem drop_cons {b r:List UInt8} {k:Nat} {x:UInt8} (h:b.drop k=x::r):b[k]?=some x∧b.drop (k+1)=r:=by
  constructor
  · have h2:=congrArg (fun l=>l[0]?) h
    simpa using h2
  · rw [← List.drop_drop,h];rfl
theorem ef_setId {nm:ByteArray} {md:Int} {id:List UInt8} (j:Nat) (x:UInt8):(ef nm md id).toArray.setIfInBounds (2+j) (.int .u8 (x.toNat:Int))=(ef nm md (id.set j x)).toArray:=by
  rw [List.setIfInBounds_toArray,show 2+j=j+1+1 by omega]
  unfold ef
  rw [List.set_cons_succ,List.set_cons_succ,bL_setX]
def idJ (q:List UInt8) (j:Nat):List UInt8:=q.take j++zB.drop j
theorem idJ_len {q:List UInt8} {j:Nat} (h:j≤q.length) (h2:j≤32):(idJ q j).length=32:=by
  unfold idJ
  rw [List.length_append,List.length_take,List.length_drop,A_]
  omega
theorem idJ_set {q:List UInt8} {j:Nat} {x:UInt8} (h:q[j]?=some x) (h2:j < 32):(idJ q j).set j x=idJ q (j+1):=by
  have hj:=(List.getElem?_eq_some_iff.1 h).1
  unfold idJ
  have hl:(q.take j).length=j:=by rw [List.length_take];omega
  obtain ⟨z,hz⟩:∃ z,zB[j]?=some z:=⟨_,List.getElem?_eq_getElem (by rw [A_];exact h2)⟩
  have hd:zB.drop j=z::zB.drop (j+1):=by rw [List.drop_eq_getElem_cons (by rw [A_];exact h2)];congr 1;exact (List.getElem?_eq_some_iff.1 hz).2
  rw [hd,List.set_append_right _ _ (by omega),hl,Nat.sub_self,List.set_cons_zero,List.take_add_one,h]
  simp
theorem zero_in {t:List UInt8} {i:Nat} (hi:i < t.length) (hz:t[i]?=some 0) (hn:(0:UInt8) ∉ t.take i):aT_ 0 t=some (t.take i,t.drop (i+1)):=by
  have e:t=t.take i++0::t.drop (i+1):=by
    conv=>lhs;rw [← List.take_append_drop i t]
    rw [List.drop_eq_getElem_cons hi,(List.getElem?_eq_some_iff.1 hz).2]
  conv=>lhs;rw [e]
  exact Rev.lh_ hn
theorem notin_succ {t:List UInt8} {i:Nat} {x:UInt8} (h:t[i]?=some x) (hx:x≠0) (hn:(0:UInt8) ∉ t.take i):(0:UInt8) ∉ t.take (i+1):=by
  rw [List.take_add_one,h]
  intro hm
  rcases List.mem_append.1 hm with h1 | h1
  · exact hn h1
  · simp at h1;exact hx h1.symm
theorem u8z {x:UInt8} (h:(x.toNat:Int)≠0):x≠0:=fun e=>h (by rw [e];rfl)
theorem u8z' {x:UInt8} (h:¬ (x.toNat:Int)≠0):x=0:=UInt8.toNat_inj.1 (by show x.toNat=0;omega)
theorem rget (A:Option Addr) (n c:Nat) (b0:List UInt8) (w0:World) (hb:Rs w0 1 A n c (bL b0)) (h9:b0.length≤9000) :
    Calls Tryz.prog 41 #[.slice A n c] w0 fun e w'=>∃ u,e=.returned u∧Like w0 w'∧∃ A k cp,u=.tuple #[.slice A k cp,.int .i64 (cR_ b0)]:=by
 refine v_ (env:=[(0,.slice A n c)]) [.slice A n c] Tryz.func41 Z Tryz.ntmps41 Z Z ?_;have hln:=hb.lenb;have hcap:=hb.cap;have hmax:=hb.max;have S0:=St.start w0 noM;refine a_ fun K1 hK1=>b_ (La Z Z (Lan Z Z (hK1 _ _ (a_ fun K2 hK2=>b_ (have S1:=S0.nilrow 149 34;Lan Z Z (hK2 _ _ (a_ fun K3 hK3=>b_ ?_)))))));refine Lan Z Z (hK3 _ _ (a_ fun K4 hK4=>r_ ?_));refine gw_ [(0,_)] (fun (at_:Nat) (k:Nat) (acc:List EV) (l:List EV) (A4:Option Addr) (c4:Nat)=>[(4,.slice A4 l.length c4),(5,.int .i64 (at_:Int))]) (fun (at_:Nat) (k:Nat) (acc:List EV) (l:List EV) (A4:Option Addr) (c4:Nat)=>n - at_) (fun (at_:Nat) (k:Nat) (acc:List EV) (l:List EV) (A4:Option Addr) (c4:Nat) (w:World)=>(at_≤n∧n - at_ < k∧l.length+(n - at_)≤9000∧l.map stp=acc.map stp∧cR_ b0=finT (getT k (b0.drop at_) acc))∧Zx.St w0 noM [Zx.row 149 34 A4 l.length c4 (l.flatMap enf)] w) 0 (b0.length+1) [] [] none 0 (Sc Z (Sc Z (Sub.nil _))) (Sub.cons Z Z (Sub.nil _)) ?_ ?_
 ·
  exact ⟨⟨by omega,by omega,by simp;omega,rfl,rfl⟩,S1⟩
 ·
  intro at_ k acc l A4 c4 w2 hrel;obtain ⟨⟨han,hbk,hlb,hst,ht⟩,S2⟩:=hrel;refine a_ fun K5 hK5=>a_ fun K6 hK6=>Rm Z Z (Lm Z Z (L_y (I_ Tryz.underlying22 Z) Z (L_y (L_ Z Z) Z (f_ (hK6 _ _ ?_)))));refine o_ Z (fun h13=>?_) (fun h13=>?_)
  ·
   obtain ⟨m,r,hd⟩:∃ m r,b0.drop at_=m::r:=by cases h0:b0.drop at_ with | nil=>(have h9:=congrArg List.length h0;rw [List.length_drop] at h9;simp at h9;omega) | cons m r=>exact ⟨m,r,rfl⟩
   obtain ⟨hm,hr⟩:=drop_cons hd;have hm9:=m.toNat_lt;obtain ⟨k,rfl⟩:∃ j,k=j+1:=⟨k - 1,by omega⟩;refine j_ (hK5 _ _ (r_ (a_ fun K7 hK7=>Rm Z Z (Lm Z Z (L_y (T_ Tryz.underlying22 sz5 Z Z (by first | exact S2.rd hb | exact S2.row 0 Z) inferInstance (by omega)) Z ?_)))));refine L_y (cj_ Tryz.underlying5 Z Z (S2.rd hb) (cP_ _ _ _ hm)) Z (L_y (P_ is5 Tryz.underlying3 Z (z_ (by omega))) Z (L_y (ax_ Z Z (z_ (by omega))) Z (L_y (C_ Z (show _=some (ef ⟨#[]⟩ ((m.toNat:Int) - 48) zB).toArray by kernel_rfl)) Z ?_)));refine L_o (H_ gV_ S2 Z fun b3 w3 hb3 S3=>L_o (G_ S3 1 Z Z Z (by rw [List.size_toArray,S_ _ _ A_];exact au_) (by first | (rw [List.size_toArray,List.size_toArray,S_ _ _ A_,S_ _ _ A_];done) | (rw [List.size_toArray,S_ _ _ A_];rfl)) (fun u hu=>cF_ _ _ _ u (by rw [List.toList_toArray] at hu;exact hu)) fun w4 S4=>?_));refine f_ (hK7 _ _ (a_ fun K8 hK8=>a_ fun K9 hK9=>b_ (L_y (g_ 1 Tryz.underlying149 Z sz3 Z Z Z) Z (L_y (t_ Tryz.underlying3 Z Z (((S4.blk 1 Z).cell _).trans (ef_1 _ _ _))) Z (L_y (L_ Z Z) Z (Lm Z Z ?_))))));refine y_ 24 Z (fun h24=>?_) (fun h24=>?_)
   ·
    refine h_ Z Z Z (h_ Z Z Z (h_ Z Z Z (Lp Z Z Z (f_ (hK9 _ _ (W_ Z (a_ fun K10 hK10=>b_ (La Z Z (Lan Z Z (hK10 _ _ (l_ ?_)))))))))));refine ur (bj_ Z Z Z ?_);have ho:=one_16 (m:=m) (r:=r) (fun q=>by unfold mok at q;omega);have he:cR_ b0=16:=by rw [ht,hd,dc_ (by simp) (by rw [ho];decide),ho];rfl
    exact ⟨_,rfl,S4.like0,none,0,0,by rw [he]⟩
   ·
    refine d_ Z Z (L_y (g_ 1 Tryz.underlying149 Z sz3 Z Z Z) Z (d_ Z Z (L_y (t_ Tryz.underlying3 Z Z (((S4.blk 1 Z).cell _).trans (ef_1 _ _ _))) Z (d_ Z Z (L_y (Z_ Z Z) Z (Lp Z Z Z (f_ (hK9 _ _ ?_))))))));refine o_ Z (fun h28=>?_) (fun h28=>?_)
    ·
     refine a_ fun K11 hK11=>b_ (La Z Z (Lan Z Z (hK11 _ _ (l_ (ur (bj_ Z Z Z ?_))))));have ho:=one_16 (m:=m) (r:=r) (fun q=>by unfold mok at q;omega);have he:cR_ b0=16:=by rw [ht,hd,dc_ (by simp) (by rw [ho];decide),ho];rfl
     exact ⟨_,rfl,S4.like0,none,0,0,by rw [he]⟩
    ·
     have hmk:mok m:=by unfold mok;omega
     refine j_ (hK8 _ _ (a_ fun K12 hK12=>a_ fun K13 hK13=>Rm Z Z (L_y (w_ Z Z (z_ (by omega))) Z (Lm Z Z (L_y (I_ Tryz.underlying22 Z) Z (L_y (am_ Z Z) Z (f_ (hK13 _ _ ?_))))))));refine o_ Z (fun h33=>?_) (fun h33=>?_)
     ·
      refine a_ fun K14 hK14=>b_ (La Z Z (Lan Z Z (hK14 _ _ (l_ (ur (bj_ Z Z Z ?_))))));have hr0:r=[]:=by cases r with | nil=>rfl | cons s t=>(have h9:=congrArg List.length hr;rw [List.length_drop] at h9;simp at h9;omega)
      subst hr0;have ho:=one_10 (m:=m) hmk;have he:cR_ b0=10:=by rw [ht,hd,dc_ (by simp) (by rw [ho];decide),ho];rfl
      exact ⟨_,rfl,S4.like0,none,0,0,by rw [he]⟩
     ·
      obtain ⟨s,t,rfl⟩:∃ s t,r=s::t:=by cases r with | nil=>(have h9:=congrArg List.length hr;rw [List.length_drop] at h9;simp at h9;omega) | cons s t=>exact ⟨s,t,rfl⟩
      obtain ⟨hs,htt⟩:=drop_cons hr;have hs9:=s.toNat_lt;have htt2:b0.drop (at_+2)=t:=htt;have htl:t.length=n - (at_+2):=by rw [← htt2,List.length_drop,hln]
      refine j_ (hK12 _ _ (a_ fun K15 hK15=>a_ fun K16 hK16=>Rm Z Z (Lm Z Z (L_y (w_ Z Z (z_ (by omega))) Z (L_y (T_ Tryz.underlying22 sz5 Z Z (by first | exact S4.rd hb | exact S4.row 0 Z) inferInstance (by omega)) Z ?_)))));refine L_y (cj_ Tryz.underlying5 Z Z (S4.rd hb) (cP_ _ _ _ hs)) Z (L_y (ab_ Z Z) Z (f_ (hK16 _ _ ?_)));refine o_ Z (fun h39=>?_) (fun h39=>?_)
      ·
       refine a_ fun K17 hK17=>b_ (La Z Z (Lan Z Z (hK17 _ _ (l_ (ur (bj_ Z Z Z ?_))))));have ho:=kO_ (m:=m) (s:=s) (t:=t) hmk (fun e=>h39 (by rw [e];rfl));have he:cR_ b0=16:=by rw [ht,hd,dc_ (by simp) (by rw [ho];decide),ho];rfl
       exact ⟨_,rfl,S4.like0,none,0,0,by rw [he]⟩
      ·
       obtain rfl:=nat32 h39;refine j_ (hK15 _ _ (a_ fun K18 hK18=>Rm Z Z (L_y (w_ Z Z (z_ (by omega))) Z (Lan Z Z (hK18 _ _ (a_ fun K19 hK19=>r_ ?_))))));refine an_ [(0,_),(4,_),(5,_),(6,_)] (fun (i:Nat)=>[(7,.int .i64 ((at_+2+i:Nat):Int))]) (fun (i:Nat)=>n - (at_+2+i)) (fun (i:Nat) (w:World)=>(at_+2+i≤n∧(0:UInt8) ∉ t.take i)∧Zx.St w0 noM [Zx.row 149 34 A4 l.length c4 (l.flatMap enf),blk b3 149 (ef ⟨#[]⟩ ((m.toNat:Int) - 48) zB).toArray] w) 0 (Sc Z (Sub.nil _)) (Sub.cons Z Z (Sub.cons Z Z (Sub.cons Z Z (Sub.cons Z Z (Sub.nil _))))) ?_ ?_
       ·
        exact ⟨⟨by omega,by simp⟩,S4⟩
       ·
        intro i w6 hrel;obtain ⟨⟨hin,hnz⟩,S6⟩:=hrel;refine a_ fun K20 hK20=>a_ fun K21 hK21=>Rm Z Z (Lm Z Z (L_y (I_ Tryz.underlying22 Z) Z (L_y (L_ Z Z) Z (Lm Z Z ?_))));refine y_ 46 Z (fun h46=>?_) (fun h46=>?_)
        ·
         obtain ⟨x,hx⟩:∃ x,t[i]?=some x:=⟨_,List.getElem?_eq_getElem (by omega)⟩;have hbx:b0[at_+2+i]?=some x:=by rw [← hx, ← htt2,List.getElem?_drop]
         have hx9:=x.toNat_lt;refine d_ Z Z (Lm Z Z (d_ Z Z (Lm Z Z (d_ Z Z (L_y (T_ Tryz.underlying22 sz5 Z Z (by first | exact S6.rd hb | exact S6.row 0 Z) inferInstance (by omega)) Z ?_)))));refine d_ Z Z (L_y (cj_ Tryz.underlying5 Z Z (S6.rd hb) (cP_ _ _ _ hbx)) Z (d_ Z Z (L_y (ab_ Z Z) Z (Lp Z Z Z (f_ (hK21 _ _ ?_))))));refine o_ Z (fun h52=>?_) (fun h52=>?_)
         ·
          refine j_ (hK20 _ _ (r_ (Rm Z Z (L_y (w_ Z Z (z_ (by omega))) Z (Lan Z Z (⟨i+1,by omega,⟨⟨by omega,notin_succ hx (u8z h52) hnz⟩,S6⟩,?_⟩))))));exact (Sc Z (Sub.cons Z Z (Sub.cons Z Z (Sub.cons Z Z (Sub.cons Z Z (Sub.nil _))))))
         ·
          obtain rfl:=u8z' h52;have hcf:=zero_in (by omega) hx hnz;refine K_ (hK19 _ _ (a_ fun K22 hK22=>Rm Z Z (Lm Z Z (L_y (w_ Z Z (z_ (by omega))) Z (Lm Z Z ?_)))));have hbt:=hb.cutb (l:=at_+2) (u:=at_+2+i) (by omega) (by omega);rw [show (b0.drop (at_+2)).take (at_+2+i - (at_+2))=t.take i by rw [htt2,Nat.add_sub_cancel_left]] at hbt;refine L_y (en_ Tryz.underlying22 sz5 Z Z Z inferInstance inferInstance (by omega) (by omega)) Z (L_y (co_ Tryz.underlying22 Tryz.underlying5 Tryz.underlying9 Z (S6.rd hbt)) Z (L_y (g_ 0 Tryz.underlying149 Z sz9 Z Z Z) Z (L_o (ac_ S6 1 Z Z Z Z sz9 (by rw [List.size_toArray,S_ _ _ A_];omega) fun w8 S8=>?_))));have S90:=S8.blkc 1 Z iG_;refine f_ (hK22 _ _ (a_ fun K23 hK23=>a_ fun K24 hK24=>b_ (L_y (g_ 0 Tryz.underlying149 Z sz9 Z Z Z) Z (L_y (t_ Tryz.underlying9 Z Z (((S90.blk 1 Z).cell _).trans (ef_0 _ _ _))) Z (L_o (n_ Tryz.func76 Z Z (Tre.rname _ w8) Z Z ?_))))));rintro e9 w9 ⟨v9,rfl,l9,rfl⟩;refine ⟨_,rfl,(have S9:=S90.like l9;L_y ((by first | exact aA_ Z | exact aZ_ Z)) Z ?_)⟩;refine f_ (hK24 _ _ ?_);refine aD_ Z (fun h65=>?_) (fun h65=>?_)
          ·
           refine a_ fun K25 hK25=>b_ (La Z Z (Lan Z Z (hK25 _ _ (l_ (ur (bj_ Z Z Z ?_))))));have ho:=one_s15 hmk hcf (by simpa using h65);have he:cR_ b0=15:=by rw [ht,hd,dc_ (by simp) (by rw [ho];decide),ho];rfl
           exact ⟨_,rfl,S9.like0,none,0,0,by rw [he]⟩
          ·
           refine j_ (hK23 _ _ (a_ fun K26 hK26=>a_ fun K27 hK27=>Rm Z Z (L_y (w_ Z Z (z_ (by omega))) Z (Lm Z Z (L_y (I_ Tryz.underlying22 Z) Z (L_y (Z_ Z Z) Z (f_ (hK27 _ _ ?_))))))));refine o_ Z (fun h70=>?_) (fun h70=>?_)
           ·
            refine a_ fun K28 hK28=>b_ (La Z Z (Lan Z Z (hK28 _ _ (l_ (ur (bj_ Z Z Z ?_))))));have ho:=one_s10 hmk hcf (by simpa using h65) (by rw [List.length_drop];omega);have he:cR_ b0=10:=by rw [ht,hd,dc_ (by simp) (by rw [ho];decide),ho];rfl
            exact ⟨_,rfl,S9.like0,none,0,0,by rw [he]⟩
           ·
            have hq:(t.drop (i+1)).length=n - (at_+2+i+1):=by rw [List.length_drop];omega
            have hone:=one_s0 hmk hcf (by simpa using h65) (by omega:¬ (t.drop (i+1)).length < 32);refine j_ (hK26 _ _ (a_ fun K29 hK29=>a_ fun K30 hK30=>b_ (Lan Z Z (hK30 _ _ (r_ ?_)))));refine an_ [(0,_),(4,_),(6,_),(7,_)] (fun (j:Nat)=>[(8,.int .i64 (j:Int))]) (fun (j:Nat)=>32 - j) (fun (j:Nat) (w:World)=>j≤32∧Zx.St w0 noM [Zx.row 149 34 A4 l.length c4 (l.flatMap enf),blk b3 149 (ef ⟨(t.take i).toArray⟩ ((m.toNat:Int) - 48) (idJ (t.drop (i+1)) j)).toArray] w) 0 (Sc Z (Sub.nil _)) (Sub.cons Z Z (Sub.cons Z Z (Sub.cons Z Z (Sub.cons Z Z (Sub.nil _))))) ?_ ?_
            ·
             exact ⟨by omega,S9⟩
            ·
             intro j w10 hrel;obtain ⟨hj,S10⟩:=hrel;refine a_ fun K31 hK31=>a_ fun K32 hK32=>Rm Z Z (L_y (L_ Z Z) Z (f_ (hK32 _ _ ?_)));refine o_ Z (fun h72=>?_) (fun h72=>?_)
             ·
              obtain ⟨y,hy⟩:∃ y,(t.drop (i+1))[j]?=some y:=⟨_,List.getElem?_eq_getElem (by omega)⟩;have hby:b0[at_+2+i+1+j]?=some y:=by rw [← hy, ← htt2,List.getElem?_drop,List.getElem?_drop];congr 1;omega
              have hy9:=y.toNat_lt;refine j_ (hK31 _ _ (a_ fun K33 hK33=>r_ (Rm Z Z (Lm Z Z (Lm Z Z (L_y (w_ Z Z (z_ (by omega))) Z (Lm Z Z (L_y (w_ Z Z (z_ (by omega))) Z (L_y (T_ Tryz.underlying22 sz5 Z Z (by first | exact S10.rd hb | exact S10.row 0 Z) inferInstance (by omega)) Z ?_)))))))));refine L_y (cj_ Tryz.underlying5 Z Z (S10.rd hb) (cP_ _ _ _ hby)) Z (L_y (g_ 2 Tryz.underlying149 Z ao_ Z Z Z) Z (L_y (y_idxA1 Tryz.underlying41 sz5 Z Z inferInstance (by omega)) Z (L_o (ac_ S10 1 Z Z Z Z sz5 (by rw [List.size_toArray,S_ _ _ (idJ_len (by omega) (by omega))];omega) fun w11 S11=>?_))));have S90:=S11.blkc 1 Z ((ef_setId j y).trans (by rw [idJ_set hy (by omega)]));refine f_ (hK33 _ _ (Rm Z Z (L_y (w_ Z Z (z_ (by omega))) Z (Lan Z Z (⟨j+1,by omega,⟨by omega,S90⟩,?_⟩)))));exact (Sc Z (Sub.cons Z Z (Sub.cons Z Z (Sub.cons Z Z (Sub.cons Z Z (Sub.nil _))))))
             ·
              obtain rfl:j=32:=by omega
              have hns:(⟨(t.take i).toArray⟩:ByteArray).size≤1000000000:=by rw [Rev.bsz,List.length_take];omega
              obtain ⟨yE,hyE⟩:∃ y:EV,y=⟨⟨(t.take i).toArray⟩,((m.toNat:Int) - 48),idJ (t.drop (i+1)) 32,idJ_len (by omega) (by omega),hns⟩:=⟨_,rfl⟩;have hye:ef ⟨(t.take i).toArray⟩ ((m.toNat:Int) - 48) (idJ (t.drop (i+1)) 32)=enf yE:=by rw [hyE];rfl
              have hsz:(⟨(bN_ (m::32::t)).2.1.toArray⟩:ByteArray).size≤1000000000:=by rw [hone];exact hns
              have hys:stp yE=(⟨(bN_ (m::32::t)).2.1.toArray⟩,(((m::32::t).getD 0 0).toNat:Int) - 48):=by rw [hyE,hone];rfl
              have hdr:b0.drop (at_+2+i+33)=(bN_ (m::32::t)).2.2:=by rw [hone, ← htt2,List.drop_drop,List.drop_drop];first | done | (congr 1 <;> omega)
              rw [hye] at S10;refine K_ (hK29 _ _ (a_ fun K34 hK34=>Rm Z Z (L_y (Y_ Tryz.underlying149 Z au_ Z (S10.blk 1 Z) (by first | exact Tre.whole_enf yE | exact ⟨Tre.he_ yE,aG_ yE⟩)) Z ?_)));refine L_o (ah_ (enf yE) te78 gV_ S10 Z Z Z (by simp [Value.cells,aG_]) (by simp [Value.cells]) Z Z Z fun b12 w12 S12=>?_);refine L_o (ay_ te78 S12 0 Z Z Z (by first | exact S12.rd hb | exact S12.row 0 Z | exact S12.row 2 Z) (fun u hu=>by rw [ef_en] at hu;exact cF_ _ _ _ u hu) Z (by omega) (by omega) fun A13 c13 w13 S13=>?_);have S13d:=S13.drop (rs':=[_,_]) (.cons_cons _ (.cons_cons _ (.cons _ (.refl _))));refine Lan Z Z (hK34 _ _ (Rm Z Z (L_y (w_ Z Z (z_ (by omega))) Z (Lan Z Z ?_))));have S91:=S13d.sel [0] (by decide);have S92:=S91.rowc 0 Z (n':=(l++[yE]).length) (xs':=(l++[yE]).flatMap enf) (by rw [List.length_append];rfl) (by rw [List.flatMap_append];simp [hyE]);refine ⟨at_+2+i+33,k,acc++[zEV ⟨(bN_ (m::32::t)).2.1.toArray⟩ ((((m::32::t).getD 0 0).toNat:Int) - 48)],l++[yE],_,_,by omega,⟨⟨by omega,by omega,by rw [List.length_append];simp only [List.length_cons,List.length_nil];omega,by rw [List.map_append,List.map_append,hst,List.map_cons,List.map_nil,List.map_cons,List.map_nil,zEV_st hsz,hys],by rw [ht,hd,getT_ok (by simp) (fun q=>q (by rw [hone])),hdr]⟩,S92⟩,?_⟩;exact (Sub.cons Z (by rw [List.length_append];rfl) (Sc Z (Sub.cons Z Z (Sub.nil _))))
        ·
         have hit:i=t.length:=by omega
         have hcf:aT_ 0 t=none:=Rev.li_ (by rw [hit,List.take_length] at hnz;exact hnz);refine h_ Z Z Z (h_ Z Z Z (h_ Z Z Z (h_ Z Z Z (h_ Z Z Z (Lp Z Z Z (f_ (hK21 _ _ (aW_ Z (K_ (hK19 _ _ (a_ fun K35 hK35=>Rm Z Z ?_)))))))))));refine Lm Z Z (L_y (w_ Z Z (z_ (by omega))) Z (Lm Z Z ?_));have hbt:=hb.cutb (l:=at_+2) (u:=at_+2+i) (by omega) (by omega);rw [show (b0.drop (at_+2)).take (at_+2+i - (at_+2))=t.take i by rw [htt2,Nat.add_sub_cancel_left]] at hbt;refine L_y (en_ Tryz.underlying22 sz5 Z Z Z inferInstance inferInstance (by omega) (by omega)) Z (L_y (co_ Tryz.underlying22 Tryz.underlying5 Tryz.underlying9 Z (S6.rd hbt)) Z (L_y (g_ 0 Tryz.underlying149 Z sz9 Z Z Z) Z (L_o (ac_ S6 1 Z Z Z Z sz9 (by rw [List.size_toArray,S_ _ _ A_];omega) fun w14 S14=>?_))));have S90:=S14.blkc 1 Z iG_;refine f_ (hK35 _ _ (a_ fun K36 hK36=>a_ fun K37 hK37=>b_ (L_y (g_ 0 Tryz.underlying149 Z sz9 Z Z Z) Z (L_y (t_ Tryz.underlying9 Z Z (((S90.blk 1 Z).cell _).trans (ef_0 _ _ _))) Z (L_o (n_ Tryz.func76 Z Z (Tre.rname _ w14) Z Z ?_))))));rintro e15 w15 ⟨v15,rfl,l15,rfl⟩;refine ⟨_,rfl,(have S15:=S90.like l15;L_y ((by first | exact aA_ Z | exact aZ_ Z)) Z ?_)⟩;refine f_ (hK37 _ _ ?_);refine aD_ Z (fun h65=>?_) (fun h65=>?_)
         ·
          refine a_ fun K38 hK38=>b_ (La Z Z (Lan Z Z (hK38 _ _ (l_ (ur (bj_ Z Z Z ?_))))));have ho:=one_n15 hmk hcf (by rw [hit,List.take_length] at h65;simpa using h65);have he:cR_ b0=15:=by rw [ht,hd,dc_ (by simp) (by rw [ho];decide),ho];rfl
          exact ⟨_,rfl,S15.like0,none,0,0,by rw [he]⟩
         ·
          refine j_ (hK36 _ _ (a_ fun K39 hK39=>a_ fun K40 hK40=>Rm Z Z (L_y (w_ Z Z (z_ (by omega))) Z (Lm Z Z (L_y (I_ Tryz.underlying22 Z) Z (L_y (Z_ Z Z) Z (f_ (hK40 _ _ ?_))))))));refine o_ Z (fun h70=>?_) (fun h70=>?_)
          ·
           refine a_ fun K41 hK41=>b_ (La Z Z (Lan Z Z (hK41 _ _ (l_ (ur (bj_ Z Z Z ?_))))));have ho:=one_n10 hmk hcf (by rw [hit,List.take_length] at h65;simpa using h65);have he:cR_ b0=10:=by rw [ht,hd,dc_ (by simp) (by rw [ho];decide),ho];rfl
           exact ⟨_,rfl,S15.like0,none,0,0,by rw [he]⟩
          ·
           exfalso;omega
  ·
   have hdn:b0.drop at_=[]:=List.drop_of_length_le (by omega);refine K_ (hK4 _ _ (a_ fun K42 hK42=>Rm Z Z (L_o (n_ Tryz.func77 Z Z (Tre.hO_ A4 _ c4 l w2 (S2.row 0 Z) (by omega)) Z Z ?_))));rintro e16 w16 ⟨v16,rfl,l16,rfl⟩;refine ⟨_,rfl,(have S16:=S2.like l16;Lan Z Z (hK42 _ _ (a_ fun K43 hK43=>a_ fun K44 hK44=>Rm Z Z (L_y (ab_ Z Z) Z (f_ (hK44 _ _ ?_))))))⟩;refine o_ Z (fun h94=>?_) (fun h94=>?_)
   ·
    refine a_ fun K45 hK45=>Rm Z Z (La Z Z (Lan Z Z (hK45 _ _ (l_ (ur (bj_ Z Z Z ?_))))));have he:cR_ b0=cE_ l:=by rw [ht,hdn,hw_];unfold finT;rw [if_neg (by simp)];exact fp_ hst.symm
    exact ⟨_,rfl,S16.like0,none,0,0,by rw [he]⟩
   ·
    refine j_ (hK43 _ _ (a_ fun K46 hK46=>Rm Z Z (La Z Z (Lan Z Z (hK46 _ _ (l_ (ur (bj_ Z Z Z ?_))))))));have he:cR_ b0=0:=by rw [ht,hdn,hw_];unfold finT;rw [if_neg (by simp)];exact (fp_ hst.symm).trans (Classical.byContradiction fun q=>h94 q)
    exact ⟨_,rfl,S16.like0,A4,l.length,c4,by rw [he]⟩
end Obj
end Go.Proofs.YtgaklngnfecdaaaGreat
