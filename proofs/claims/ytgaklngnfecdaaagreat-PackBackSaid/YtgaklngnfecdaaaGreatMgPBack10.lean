import Derived.Test.YtgaklngnfecdaaaGreatMgPBack9
import Derived.Test.YtgaklngnfecdaaaGreatMgPBack8
import Derived.Test.YtgaklngnfecdaaaGreatMgPBack7
import Derived.Test.YtgaklngnfecdaaaGreatMgPBack3
import Derived.Test.YtgaklngnfecdaaaGreatMgPBack4
import Derived.Test.YtgaklngnfecdaaaGreatMgPBack5
set_option linter.unusedSimpArgs false
set_option linter.unusedVariables false
set_option maxRecDepth 100000
set_option maxHeartbeats 8000000
namespace Go.Proofs.YtgaklngnfecdaaaGreat.Pak
open Go.RowKit Zk Zx
open Sha (N xorN andN notN N_ge N_le)
open Go.Proofs.YtgaklngnfecdaaaGreat.Obj (ab_ objB aN_ U_ aM_ bl_ zB y_ aS_)
open Oct (vaN rwL rwP rwE rnL rnP rnE be vr tl M_)
open Del (scA opf OP OkO mkV encV putR ag_ aplR)
open Oct (rdr rdr_lt bA_)
def enA (x:EV) (q:Part):Array Value := #[.int .i64 x.kind,.int .i64 x.base,.int .i64 (x.fin:Int),.int .u32 (N x.sum),pv q]
theorem bs_ (x:EV) (q:Part):∀ u ∈ (enA x q).toList,u.oneCell'=true:=fun u hu=>by
  simp [enA,pv] at hu
  rcases hu with rfl | rfl | rfl | rfl | rfl <;> rfl
def zA:Array Value := #[.int .i64 0,.int .i64 0,.int .i64 0,.int .u32 0,.slice none 0 0]
def Fresh (w0 w:World) (q:Part):Prop:=q.ok w∧∀ ad,0 < q.n→q.A=some ad→w0.heap.size≤ad.block
theorem fresh0 (w0 w:World):Fresh w0 w p0:=⟨bz_ (World.ownsRow_nil w 0 5 1),fun ad h=>by cases h⟩
def EntryV (w0 w':World) (r:Int × EV) (u:Value):Prop:=∃ q:Part,u=.tuple #[.agg (enA r.2 q),.int .i64 r.1]∧q.l=r.2.load∧Fresh w0 w' q
theorem blkM {w0 w:World} {M:Nat→Prop} {rs:List Res} (S:Zx.St w0 M rs w) {g t:Nat} {cs:Array Value} (h:Blk w0 g t cs) (hM:¬ M g):Blk w g t cs:=(S.old g h.lt hM).trans h
theorem addN {a b:Nat} (h:a+b≤1000000000):IntKind.i64.wrap ((a:Int)+(b:Int))=((a+b:Nat):Int):=by
  exact (E_ (by omega):IntKind.i64.wrap ((a:Int)+(b:Int))=(a:Int)+(b:Int))
theorem rnP_le (l:List UInt8) (p q:Nat) (m:Int) (hp:p≤l.length):rnP l p q m≤l.length:=by
  unfold rnP Oct.rwP
  split
  · exact hp
  · split
    · exact Oct.tkP_le l p _ hp
    · exact hp
theorem rwP_le (l:List UInt8) (p q k:Nat) (hp:p≤l.length):rwP l p q k≤l.length:=by
  unfold Oct.rwP
  split
  · exact Oct.tkP_le l p _ hp
  · exact hp
theorem rbyte1 (g:Nat) (A:Option Addr) (n c:Nat) (l:List UInt8) (p:Nat) (x:UInt8) (w0:World) (hw:(rdr g A n c l p 0).holds w0) (hx:l[p]?=some x) (hn62:n≤4611686018427387904) :
    Calls Tryz.prog 127 #[.pointer (some ⟨g,0,none⟩)] w0 fun e w'=>∃ u,e=.returned u∧u=.int .u8 (x.toNat:Int)∧Turned w0 w' (rdr g A n c l p 0) (rdr g A n c l (p+1) 0):=by
  have hp:=(List.getElem?_eq_some_iff.1 hx).1
  refine (Oct.rbyte g A n c l p 0 w0 hw (by omega) hn62).mono fun e w' ⟨u,h1,h2,h3⟩=>⟨u,h1,?_,?_⟩
  · obtain ⟨y,hy,htk,_⟩:=Oct.tk_one (show 1≤l.length - p by omega)
    rw [hx] at hy
    obtain rfl:=Option.some.inj hy
    rw [h2,Oct.rwL,if_pos Z,htk]
    simp [be]
  · exact Oct.Rdd.turned h3 (by rw [Oct.rwP,if_pos Z,Oct.tkP,if_pos (by omega)]) (by rw [Oct.rwE,if_pos Z,Oct.tkE_ok (by omega)])
theorem crcN {p:Part} {v:Nat} (h:N (crcP [p])≠(v:Int)):(crcL p.l).toNat≠v:=fun q=>h (by show ((crcL p.l).toNat:Int)=_;rw [q])
theorem crcE {p:Part} {v:Nat} (h:¬ N (crcP [p])≠(v:Int)):(crcL p.l).toNat=v:=by
  have h1:=Classical.not_not.1 h
  have h2:((crcL p.l).toNat:Int)=(v:Int):=h1
  omega
theorem at9 (g:Nat) (A:Option Addr) (n c:Nat) (l:List UInt8) (p q:Nat) (w0:World) (hw:(rdr g A n c l p q).holds w0) :
    Calls Tryz.prog 130 #[.pointer (some ⟨g,0,none⟩)] w0 fun e w'=>∃ u,e=.returned u∧Like w0 w'∧u=.int .i64 (p:Int):=by
 refine v_ (env:=[(0,.pointer (some ⟨g,0,none⟩))]) [.pointer (some ⟨g,0,none⟩)] Tryz.func130 Z Tryz.ntmps130 Z Z ?_;have S0:=St.start w0 noM;refine a_ fun K1 hK1=>b_ (Lan Z Z (hK1 _ _ (a_ fun K2 hK2=>a_ fun K3 hK3=>Rm Z Z (L_y (y_peqn Tryz.underlying172 Z) Z (d_ (hK3 _ _ (ba_ Z (m_ ?_))))))));refine hK2 _ _ (a_ fun K4 hK4=>Rm Z Z (L_y (A_ Z) Z (L_y (f_ 1 Tryz.underlying218 Z sz3 Z Z Z) Z (L_y (t_ Tryz.underlying3 Z Z ((hw.1.cell _).trans (by rfl))) Z ?_))));refine Lan Z Z (hK4 _ _ (l_ (ur (G_ Z Z ?_))));exact ⟨_,rfl,S0.like0,rfl⟩
theorem entry (gc g:Nat) (A:Option Addr) (n c:Nat) (t:List UInt8) (at_:Nat) (deep:Bool) (x:UInt8) (w0:World) (hw:(rdr g A n c t 0 0).holds w0) (hcur:Blk w0 gc 175 #[.pointer (some ⟨g,0,none⟩),.int .i64 (at_:Int)]) (hcg:¬ (rdr g A n c t 0 0).dom gc) (hx:t[0]?=some x) (hn5:n≤100000) (hat:at_≤1000000) :
    Calls Tryz.prog 97 #[.pointer (some ⟨gc,0,none⟩),.bool deep] w0 fun e w'=>∃ u,e=.returned u∧∃ p' q',Turned w0 w' (rdr g A n c t 0 0) (rdr g A n c t p' q')∧EntryV w0 w' (opT t x at_ deep) u:=by
 refine v_ (env:=[(0,.pointer (some ⟨gc,0,none⟩)),(1,.bool deep)]) [.pointer (some ⟨gc,0,none⟩),.bool deep] Tryz.func97 Z Tryz.ntmps97 Z Z ?_;have hx9:=x.toNat_lt;have htl:=(List.getElem?_eq_some_iff.1 hx).1;have hnl:=bA_ hw;have S0:=St.borrow1 (rdr g A n c t 0 0) hw (rdr_lt hw);refine a_ fun K1 hK1=>b_ (L_o (F_ zz127 S0 Z fun b1 w1 hb1 S1=>Lan Z Z (hK1 _ _ (a_ fun K2 hK2=>Rm Z Z (L_y (A_ Z) Z (L_y (f_ 0 Tryz.underlying175 Z sz172 Z Z Z) Z (L_y (t_ Tryz.underlying172 Z Z (((blkM S1 hcur hcg).cell _).trans (by rfl))) Z ?_)))))));refine L_o (o_ Tryz.func127 Z Z (rbyte1 g A n c t 0 x w1 (S1.get 0 Z) hx (by omega)) Z Z ?_);rintro e2 w2 ⟨v2,rfl,rfl,T2⟩;refine ⟨_,rfl,(have S2:=S1.turn 0 Z T2;L_y (T_ is5 Tryz.underlying3 Z (E_ (by omega))) Z (L_y (C_ Z (show _=some #[.int .i64 (x.toNat:Int),.int .i64 0,.int .i64 0,.int .u32 0,.slice none 0 0] by kernel_rfl)) Z (L_o (F_ zz127 S2 Z fun b3 w3 hb3 S3=>L_o (D_ S3 2 Z Z Z bc_ (by rfl) (by intro u hu;first | (simp [zA] at hu;rcases hu with rfl | rfl | rfl | rfl | rfl <;> rfl) | (simp at hu;rcases hu with rfl | rfl | rfl | rfl | rfl <;> rfl) | exact bs_ _ _ u hu) fun w4 S4=>?_)))))⟩;refine d_ (hK2 _ _ (a_ fun K3 hK3=>a_ fun K4 hK4=>Rm Z Z (L_y (A_ Z) Z (L_y (f_ 0 Tryz.underlying175 Z sz172 Z Z Z) Z (L_y (t_ Tryz.underlying172 Z Z (((blkM S4 hcur hcg).cell _).trans (by rfl))) Z ?_)))));refine L_o (o_ Tryz.func128 Z Z (Oct.rerr g A n c t (1) (0)  w4 (S4.get 0 Z) (by omega)) Z Z ?_);rintro e5 w5 ⟨v5,rfl,l5,rfl⟩;refine ⟨_,rfl,(have S5:=S4.like l5;Lan Z Z (hK4 _ _ (a_ fun K5 hK5=>Rm Z Z (L_y (V_ Z Z) Z (d_ (hK5 _ _ ?_))))))⟩;refine n_ Z (fun h23=>?_) (fun h23=>?_)
 ·
  exact absurd Z h23
 ·
  refine m_ (hK3 _ _ (a_ fun K6 hK6=>a_ fun K7 hK7=>b_ (L_y (f_ 0 Tryz.underlying127 Z sz3 Z Z Z) Z (L_y (t_ Tryz.underlying3 Z Z (((S5.blk 2 Z).cell _).trans (by rfl))) Z ?_))));refine L_y (P_ Z Z) Z (Lm Z Z ?_);refine B_ 29 Z (fun h29=>?_) (fun h29=>?_)
  ·
   refine h_ Z Z Z (h_ Z Z Z (h_ Z Z Z (Lp Z Z Z (d_ (hK7 _ _ (W_ Z (a_ fun K8 hK8=>b_ (L_y (C_ Z (show _=some zA by kernel_rfl)) Z (L_o (D_ S5 1 Z Z Z bc_ (by rfl) (by intro u hu;first | (simp [zA] at hu;rcases hu with rfl | rfl | rfl | rfl | rfl <;> rfl) | (simp at hu;rcases hu with rfl | rfl | rfl | rfl | rfl <;> rfl) | exact bs_ _ _ u hu) fun w7 S7=>?_))))))))));refine Lan Z Z (hK8 _ _ (l_ (ur (aa_ Z Z Z (S7.blk 1 Z) Tryz.underlying127 Z (by exact bc_) ?_))));have he:opT t x at_ deep=(19,zE):=opT_19 (by omega);exact ⟨_,rfl,_,_,S7.turned1 0 Z,p0,by rw [he];rfl,by rw [he];rfl,fresh0 _ _⟩
  ·
   refine g_ Z Z (L_y (f_ 0 Tryz.underlying127 Z sz3 Z Z Z) Z (g_ Z Z (L_y (t_ Tryz.underlying3 Z Z (((S5.blk 2 Z).cell _).trans (by rfl))) Z ?_)));refine g_ Z Z (L_y (af_ Z Z) Z (Lp Z Z Z (d_ (hK7 _ _ ?_))));refine n_ Z (fun h33=>?_) (fun h33=>?_)
   ·
    refine a_ fun K9 hK9=>b_ (L_y (C_ Z (show _=some zA by kernel_rfl)) Z (L_o (D_ S5 1 Z Z Z bc_ (by rfl) (by intro u hu;first | (simp [zA] at hu;rcases hu with rfl | rfl | rfl | rfl | rfl <;> rfl) | (simp at hu;rcases hu with rfl | rfl | rfl | rfl | rfl <;> rfl) | exact bs_ _ _ u hu) fun w8 S8=>?_)));refine Lan Z Z (hK9 _ _ (l_ (ur (aa_ Z Z Z (S8.blk 1 Z) Tryz.underlying127 Z (by exact bc_) ?_))));have he:opT t x at_ deep=(19,zE):=opT_19 (by omega);exact ⟨_,rfl,_,_,S8.turned1 0 Z,p0,by rw [he];rfl,by rw [he];rfl,fresh0 _ _⟩
   ·
    refine m_ (hK6 _ _ (a_ fun K10 hK10=>Rm Z Z (L_y (A_ Z) Z (L_y (f_ 0 Tryz.underlying175 Z sz172 Z Z Z) Z (L_y (t_ Tryz.underlying172 Z Z (((blkM S5 hcur hcg).cell _).trans (by rfl))) Z ?_)))));refine L_o (o_ Tryz.func129 Z Z (Oct.rvar g A n c t (1) (0)  4000 w5 (S5.get 0 Z) (by omega) (by omega)) Z Z ?_);rintro e9 w9 ⟨v9,rfl,rfl,T9⟩;refine ⟨_,rfl,(have S9:=S5.turn 0 Z T9;have hv1:=vaN_m t 1 0 4000;have hp1:(vaN t 1 0 4000).2.1≤t.length:=Oct.vaN_le t 1 0 4000 (by omega);L_y (T_ is102 Tryz.underlying3 Z (E_ (by omega))) Z (Lan Z Z (hK10 _ _ ?_)))⟩;refine T_seqR (fun (e:Env) (w:World)=>∃ (base:Int) (p:Nat) (q:Nat),Sub [(0,.pointer (some ⟨gc,0,none⟩)),(4,.pointer (some ⟨b1,0,none⟩)),(6,.pointer (some ⟨b3,0,none⟩)),(8,.int .i64 ((vaN t 1 0 4000).1:Int))] e∧(opT t x at_ deep=opR t at_ (x.toNat:Int) base (vaN t 1 0 4000).1 p q∧p≤t.length)∧Zx.St w0 (rdr g A n c t 0 0).dom [rdr g A n c t p q,blk b1 127 zA,blk b3 127 #[.int .i64 (x.toNat:Int),.int .i64 base,.int .i64 0,.int .u32 0,.slice none 0 0]] w) ?_ ?_
    ·
     refine a_ fun K12 hK12=>b_ (L_y (f_ 0 Tryz.underlying127 Z sz3 Z Z Z) Z (L_y (t_ Tryz.underlying3 Z Z (((S9.blk 2 Z).cell _).trans (by rfl))) Z ?_));refine L_y (ao_ Z Z) Z (d_ (hK12 _ _ ?_));refine n_ Z (fun h43=>?_) (fun h43=>?_)
     ·
      refine a_ fun K13 hK13=>T_zed [0,1,2,3,4,5,6,7,8,9,10,11] 12 [(0,1),(1,1),(2,1),(3,1),(4,1),(5,1),(6,1),(7,1),(8,2),(9,1),(10,1),(11,1),(12,3)] hmix (by kernel_rfl) fun w10 l10=>have S10:=S9.like l10;ZA_B (fun w=>Blk w gc 175 #[.pointer (some ⟨g,0,none⟩),.int .i64 (at_:Int)]) (blkM S10 hcur hcg) (O_ Z (p_ Z) Z (O_ Z (A_ Z) Z (O_ Z (f_ 1 Tryz.underlying175 Z sz3 Z Z Z) Z (O_ Z (y_of fun w hw=>t_ Tryz.underlying3 Z Z ((hw.cell _).trans (by rfl))) Z ?_))));refine O_ Z (p_ Z) Z (O_ Z (A_ Z) Z (O_ Z (f_ 0 Tryz.underlying175 Z sz172 Z Z Z) Z (O_ Z (y_of fun w hw=>t_ Tryz.underlying172 Z Z ((hw.cell _).trans (by rfl))) Z ?_)));refine ZB_o Z (o_ Tryz.func129 Z Z (Oct.rvar g A n c t ((vaN t 1 0 4000).2.1) ((vaN t 1 0 4000).2.2)  1048576 w10 (S10.get 0 Z) hp1 (by omega)) Z Z ?_);rintro e11 w11 ⟨v11,rfl,rfl,T11⟩;refine ⟨_,rfl,(have S11:=S10.turn 0 Z T11;have hv2:=vaN_m t (vaN t 1 0 4000).2.1 (vaN t 1 0 4000).2.2 1048576;have hp2:(vaN t (vaN t 1 0 4000).2.1 (vaN t 1 0 4000).2.2 1048576).2.1≤t.length:=Oct.vaN_le t _ _ 1048576 hp1;⟨(blkM S11 hcur hcg),(O_ Z (T_ is102 Tryz.underlying3 Z (E_ (by omega))) Z (O_ Z (aE_ Z Z (E_ (by omega))) Z (O_ Z (f_ 1 Tryz.underlying127 Z sz3 Z Z Z) Z (ZB_c Z (ac_ S11 2 Z Z Z Z sz3 (by simp;done) fun w12 S12=>?_)))))⟩)⟩;refine ZA_nil (hK13 _ _ (a_ fun K14 hK14=>a_ fun K15 hK15=>av_ [(0,true),(1,true),(2,true),(3,true),(4,false),(5,true),(6,true),(7,true),(8,true),(9,true),(10,true),(11,true),(12,true),(13,true),(14,true),(15,true),(16,true),(17,true),(18,true),(19,true)] hmix (by kernel_rfl) fun w13 l13=>have S13:=S12.like l13;u_ Z (p_ Z) Z (u_ Z (A_ Z) Z (u_ Z (f_ 0 Tryz.underlying175 Z sz172 Z Z Z) Z (u_ Z (t_ Tryz.underlying172 Z Z (((blkM S13 hcur hcg).cell _).trans (by rfl))) Z ?_)))));refine DL_o Z (o_ Tryz.func128 Z Z (Oct.rerr g A n c t ((vaN t (vaN t 1 0 4000).2.1 (vaN t 1 0 4000).2.2 1048576).2.1) ((vaN t (vaN t 1 0 4000).2.1 (vaN t 1 0 4000).2.2 1048576).2.2)  w13 (S13.get 0 Z) (by omega)) Z Z ?_);rintro e14 w14 ⟨v14,rfl,l14,rfl⟩;refine ⟨_,rfl,l14,(have S14:=S13.like l14;have q14:=l14;u_ Z (ao_ Z Z) Z (u_ Z (p_ Z) Z ?_))⟩;refine DL_split 62 Z (fun h62=>?_) (fun h62=>?_)
      ·
       refine DL_gyes Z Z Z (f_ 1 Tryz.underlying127 Z sz3 Z Z Z) Z (DL_gyes Z Z Z (t_ Tryz.underlying3 Z Z (((S13.blk 2 Z).cell _).trans (by rfl))) Z ?_);refine DL_gyes Z Z Z (p_ Z) Z (DL_gyes Z Z Z (A_ Z) Z (DL_gyes Z Z Z (f_ 1 Tryz.underlying175 Z sz3 Z Z Z) Z (DL_gyes Z Z Z (t_ Tryz.underlying3 Z Z (((blkM S13 hcur hcg).cell _).trans (by rfl))) Z ?_)));refine DL_gyes Z Z Z (y_geq Z Z) Z (DL_gyes Z Z Z (p_ Z) Z ?_);refine DL_split 70 Z (fun h70=>?_) (fun h70=>?_)
       ·
        refine DL_gno Z Z Z Z (DL_gno Z Z Z Z (DL_gno Z Z Z Z (DL_gyes Z Z Z (y_pk Z Z) Z (u_ Z (y_pk Z Z) Z (aV_ (hK15 _ _ (W_ Z (a_ fun K16 hK16=>b_ (L_y (C_ Z (show _=some zA by kernel_rfl)) Z (L_o (D_ S14 1 Z Z Z bc_ (by rfl) (by intro u hu;first | (simp [zA] at hu;rcases hu with rfl | rfl | rfl | rfl | rfl <;> rfl) | (simp at hu;rcases hu with rfl | rfl | rfl | rfl | rfl <;> rfl) | exact bs_ _ _ u hu) fun w15 S15=>?_)))))))))));refine Lan Z Z (hK16 _ _ (l_ (ur (aa_ Z Z Z (S15.blk 1 Z) Tryz.underlying127 Z (by exact bc_) ?_))));have he:opT t x at_ deep=(21,zE):=(opT_5 (by omega)).trans (opM_21 (by omega) (by omega));exact ⟨_,rfl,_,_,S15.turned1 0 Z,p0,by rw [he];rfl,by rw [he];rfl,fresh0 _ _⟩
       ·
        refine DL_gyes Z Z Z (f_ 1 Tryz.underlying127 Z sz3 Z Z Z) Z (DL_gyes Z Z Z (t_ Tryz.underlying3 Z Z (((S13.blk 2 Z).cell _).trans (by rfl))) Z ?_);refine DL_gyes Z Z Z (P_ Z Z) Z (DL_gyes Z Z Z (y_pk Z Z) Z (u_ Z (y_pk Z Z) Z (aV_ (hK15 _ _ ?_))));refine n_ Z (fun h75=>?_) (fun h75=>?_)
        ·
         refine a_ fun K17 hK17=>b_ (L_y (C_ Z (show _=some zA by kernel_rfl)) Z (L_o (D_ S14 1 Z Z Z bc_ (by rfl) (by intro u hu;first | (simp [zA] at hu;rcases hu with rfl | rfl | rfl | rfl | rfl <;> rfl) | (simp at hu;rcases hu with rfl | rfl | rfl | rfl | rfl <;> rfl) | exact bs_ _ _ u hu) fun w16 S16=>?_)));refine Lan Z Z (hK17 _ _ (l_ (ur (aa_ Z Z Z (S16.blk 1 Z) Tryz.underlying127 Z (by exact bc_) ?_))));have he:opT t x at_ deep=(21,zE):=(opT_5 (by omega)).trans (opM_21 (by omega) (by omega));exact ⟨_,rfl,_,_,S16.turned1 0 Z,p0,by rw [he];rfl,by rw [he];rfl,fresh0 _ _⟩
        ·
         refine m_ (hK14 _ _ (a_ fun K18 hK18=>Rm Z Z (L_y (A_ Z) Z (L_y (f_ 0 Tryz.underlying175 Z sz172 Z Z Z) Z (L_y (t_ Tryz.underlying172 Z Z (((blkM S14 hcur hcg).cell _).trans (by rfl))) Z ?_)))));refine L_o (o_ Tryz.func128 Z Z (Oct.rerr g A n c t ((vaN t (vaN t 1 0 4000).2.1 (vaN t 1 0 4000).2.2 1048576).2.1) ((vaN t (vaN t 1 0 4000).2.1 (vaN t 1 0 4000).2.2 1048576).2.2)  w14 (S14.get 0 Z) (by omega)) Z Z ?_);rintro e17 w17 ⟨v17,rfl,l17,rfl⟩;refine ⟨_,rfl,(have S17:=S14.like l17;L_y (ao_ Z Z) Z (Lm Z Z ?_))⟩;refine B_ 83 Z (fun h83=>?_) (fun h83=>?_)
         ·
          refine g_ Z Z (Lm Z Z (Lp Z Z Z (d_ (hK18 _ _ ?_))));refine au_ Z (fun h85=>?_) (fun h85=>?_)
          ·
           refine a_ fun K19 hK19=>b_ (L_y (C_ Z (show _=some zA by kernel_rfl)) Z (L_o (D_ S17 1 Z Z Z bc_ (by rfl) (by intro u hu;first | (simp [zA] at hu;rcases hu with rfl | rfl | rfl | rfl | rfl <;> rfl) | (simp at hu;rcases hu with rfl | rfl | rfl | rfl | rfl <;> rfl) | exact bs_ _ _ u hu) fun w19 S19=>?_)));refine Lan Z Z (hK19 _ _ (l_ (ur (aa_ Z Z Z (S19.blk 1 Z) Tryz.underlying127 Z (by exact bc_) ?_))));have he:opT t x at_ deep=(20,zE):=(opT_5 (by omega)).trans (opM_20 (by omega) (by omega) h85);exact ⟨_,rfl,_,_,S19.turned1 0 Z,p0,by rw [he];rfl,by rw [he];rfl,fresh0 _ _⟩
          ·
           refine m_ ?_;have g3:(vaN t (vaN t 1 0 4000).2.1 (vaN t 1 0 4000).2.2 1048576).2.2≠0∨¬ ((vaN t (vaN t 1 0 4000).2.1 (vaN t 1 0 4000).2.2 1048576).1=0∨(at_:Int) - (vaN t (vaN t 1 0 4000).2.1 (vaN t 1 0 4000).2.2 1048576).1 < 12):=by omega
           have g4:(vaN t (vaN t 1 0 4000).2.1 (vaN t 1 0 4000).2.2 1048576).2.2≠0∨(¬ ((vaN t (vaN t 1 0 4000).2.1 (vaN t 1 0 4000).2.2 1048576).1=0∨(at_:Int) - (vaN t (vaN t 1 0 4000).2.1 (vaN t 1 0 4000).2.2 1048576).1 < 12)∧deep=false):=by first | exact .inl (by omega) | exact .inr ⟨by omega,h85⟩
           have he0:=(opT_5 (deep:=deep) (at_:=at_) (t:=t) (show x.toNat=5 by omega)).trans (opM_r g4);rw [show (5:Int)=(x.toNat:Int) by omega] at he0;exact ⟨_,_,_,(Sc Z (Sc Z (Sc Z (Sc Z (Sub.nil _))))),⟨he0,Oct.vaN_le _ _ _ _ hp1⟩,S17⟩
         ·
          refine h_ Z Z Z (Lp Z Z Z (d_ (hK18 _ _ (ba_ Z (m_ ?_)))));have g3:(vaN t (vaN t 1 0 4000).2.1 (vaN t 1 0 4000).2.2 1048576).2.2≠0∨¬ ((vaN t (vaN t 1 0 4000).2.1 (vaN t 1 0 4000).2.2 1048576).1=0∨(at_:Int) - (vaN t (vaN t 1 0 4000).2.1 (vaN t 1 0 4000).2.2 1048576).1 < 12):=by omega
          have g4:(vaN t (vaN t 1 0 4000).2.1 (vaN t 1 0 4000).2.2 1048576).2.2≠0∨(¬ ((vaN t (vaN t 1 0 4000).2.1 (vaN t 1 0 4000).2.2 1048576).1=0∨(at_:Int) - (vaN t (vaN t 1 0 4000).2.1 (vaN t 1 0 4000).2.2 1048576).1 < 12)∧deep=false):=by first | exact .inl (by omega) | exact .inr ⟨by omega,h85⟩
          have he0:=(opT_5 (deep:=deep) (at_:=at_) (t:=t) (show x.toNat=5 by omega)).trans (opM_r g4);rw [show (5:Int)=(x.toNat:Int) by omega] at he0;exact ⟨_,_,_,(Sc Z (Sc Z (Sc Z (Sc Z (Sub.nil _))))),⟨he0,Oct.vaN_le _ _ _ _ hp1⟩,S17⟩
      ·
       refine DL_gno Z Z Z Z (DL_gno Z Z Z Z (DL_gno Z Z Z Z (DL_gno Z Z Z Z (DL_gno Z Z Z Z (DL_gno Z Z Z Z (DL_gno Z Z Z Z (DL_gno Z Z Z Z (DL_gnu Z Z Z Z (DL_gnu Z Z Z Z (DL_gnu Z Z Z Z (DL_gno Z Z Z Z (u_ Z (y_pk Z Z) Z (aV_ ?_)))))))))))));refine hK15 _ _ (ba_ Z (m_ (hK14 _ _ (a_ fun K20 hK20=>Rm Z Z (L_y (A_ Z) Z (L_y (f_ 0 Tryz.underlying175 Z sz172 Z Z Z) Z (L_y (t_ Tryz.underlying172 Z Z (((blkM S14 hcur hcg).cell _).trans (by rfl))) Z ?_)))))));refine L_o (o_ Tryz.func128 Z Z (Oct.rerr g A n c t ((vaN t (vaN t 1 0 4000).2.1 (vaN t 1 0 4000).2.2 1048576).2.1) ((vaN t (vaN t 1 0 4000).2.1 (vaN t 1 0 4000).2.2 1048576).2.2)  w14 (S14.get 0 Z) (by omega)) Z Z ?_);rintro e20 w20 ⟨v20,rfl,l20,rfl⟩;refine ⟨_,rfl,(have S20:=S14.like l20;L_y (ao_ Z Z) Z (Lm Z Z ?_))⟩;refine B_ 83 Z (fun h83=>?_) (fun h83=>?_)
       ·
        refine g_ Z Z (Lm Z Z (Lp Z Z Z (d_ (hK20 _ _ ?_))));refine au_ Z (fun h85=>?_) (fun h85=>?_)
        ·
         refine a_ fun K21 hK21=>b_ (L_y (C_ Z (show _=some zA by kernel_rfl)) Z (L_o (D_ S20 1 Z Z Z bc_ (by rfl) (by intro u hu;first | (simp [zA] at hu;rcases hu with rfl | rfl | rfl | rfl | rfl <;> rfl) | (simp at hu;rcases hu with rfl | rfl | rfl | rfl | rfl <;> rfl) | exact bs_ _ _ u hu) fun w22 S22=>?_)));refine Lan Z Z (hK21 _ _ (l_ (ur (aa_ Z Z Z (S22.blk 1 Z) Tryz.underlying127 Z (by exact bc_) ?_))));have he:opT t x at_ deep=(20,zE):=(opT_5 (by omega)).trans (opM_20 (by omega) (by omega) h85);exact ⟨_,rfl,_,_,S22.turned1 0 Z,p0,by rw [he];rfl,by rw [he];rfl,fresh0 _ _⟩
        ·
         refine m_ ?_;have g3:(vaN t (vaN t 1 0 4000).2.1 (vaN t 1 0 4000).2.2 1048576).2.2≠0∨¬ ((vaN t (vaN t 1 0 4000).2.1 (vaN t 1 0 4000).2.2 1048576).1=0∨(at_:Int) - (vaN t (vaN t 1 0 4000).2.1 (vaN t 1 0 4000).2.2 1048576).1 < 12):=by omega
         have g4:(vaN t (vaN t 1 0 4000).2.1 (vaN t 1 0 4000).2.2 1048576).2.2≠0∨(¬ ((vaN t (vaN t 1 0 4000).2.1 (vaN t 1 0 4000).2.2 1048576).1=0∨(at_:Int) - (vaN t (vaN t 1 0 4000).2.1 (vaN t 1 0 4000).2.2 1048576).1 < 12)∧deep=false):=by first | exact .inl (by omega) | exact .inr ⟨by omega,h85⟩
         have he0:=(opT_5 (deep:=deep) (at_:=at_) (t:=t) (show x.toNat=5 by omega)).trans (opM_r g4);rw [show (5:Int)=(x.toNat:Int) by omega] at he0;exact ⟨_,_,_,(Sc Z (Sc Z (Sc Z (Sc Z (Sub.nil _))))),⟨he0,Oct.vaN_le _ _ _ _ hp1⟩,S20⟩
       ·
        refine h_ Z Z Z (Lp Z Z Z (d_ (hK20 _ _ (ba_ Z (m_ ?_)))));have g3:(vaN t (vaN t 1 0 4000).2.1 (vaN t 1 0 4000).2.2 1048576).2.2≠0∨¬ ((vaN t (vaN t 1 0 4000).2.1 (vaN t 1 0 4000).2.2 1048576).1=0∨(at_:Int) - (vaN t (vaN t 1 0 4000).2.1 (vaN t 1 0 4000).2.2 1048576).1 < 12):=by omega
        have g4:(vaN t (vaN t 1 0 4000).2.1 (vaN t 1 0 4000).2.2 1048576).2.2≠0∨(¬ ((vaN t (vaN t 1 0 4000).2.1 (vaN t 1 0 4000).2.2 1048576).1=0∨(at_:Int) - (vaN t (vaN t 1 0 4000).2.1 (vaN t 1 0 4000).2.2 1048576).1 < 12)∧deep=false):=by first | exact .inl (by omega) | exact .inr ⟨by omega,h85⟩
        have he0:=(opT_5 (deep:=deep) (at_:=at_) (t:=t) (show x.toNat=5 by omega)).trans (opM_r g4);rw [show (5:Int)=(x.toNat:Int) by omega] at he0;exact ⟨_,_,_,(Sc Z (Sc Z (Sc Z (Sc Z (Sub.nil _))))),⟨he0,Oct.vaN_le _ _ _ _ hp1⟩,S20⟩
     ·
      refine m_ ?_;have he0:=opT_w (deep:=deep) (at_:=at_) (t:=t) (show ¬ (x.toNat < 1∨5 < x.toNat) by omega) (by omega);exact ⟨_,_,_,(Sc Z (Sc Z (Sc Z (Sc Z (Sub.nil _))))),⟨he0,hp1⟩,S9⟩
    ·
     rintro e23 w23 ⟨base,p,q,hsub,⟨he0,hp0⟩,S23⟩;refine T_weak hsub (a_ fun K22 hK22=>have hp4:=rwP_le t (p) (q) 4 hp0;have hp5:=rnP_le t (rwP t (p) (q) 4) (rwE t (p) (q) 4) ((vaN t 1 0 4000).1:Int) hp4;Rm Z Z (L_y (A_ Z) Z (L_y (f_ 0 Tryz.underlying175 Z sz172 Z Z Z) Z (L_y (t_ Tryz.underlying172 Z Z (((blkM S23 hcur hcg).cell _).trans (by rfl))) Z ?_))));refine L_o (o_ Tryz.func105 Z Z (Oct.ru32 g A n c t (p) (q)  w23 (S23.get 0 Z) hp0 (by omega)) Z Z ?_);rintro e24 w24 ⟨v24,rfl,rfl,T24⟩;refine ⟨_,rfl,(have S24:=S23.turn 0 Z T24;L_y (f_ 3 Tryz.underlying127 Z sz63 Z Z Z) Z (L_o (ac_ S24 2 Z Z Z Z sz63 (by simp;done) fun w25 S25=>?_)))⟩;refine d_ (hK22 _ _ (a_ fun K23 hK23=>Rm Z Z (L_y (A_ Z) Z (L_y (f_ 0 Tryz.underlying175 Z sz172 Z Z Z) Z (L_y (t_ Tryz.underlying172 Z Z (((blkM S25 hcur hcg).cell _).trans (by rfl))) Z ?_)))));refine Lm Z Z (L_o (o_ Tryz.func104 Z Z (Oct.rraw g A n c t (rwP t (p) (q) 4) (rwE t (p) (q) 4)  ((vaN t 1 0 4000).1:Int) w25 (S25.get 0 Z) hp4 (by omega) (by omega)) Z Z ?_));rintro e26 w26 ⟨v26,rfl,T26,B26,d26,rfl,hr26,hd26⟩;refine ⟨_,rfl,(have S26:=S25.turn 0 Z T26;have S27:=St.newT S25 0 Z T26 (fun i hi=>hi) hr26 (fun i hi=>⟨hd26 i hi,(World.ownsRow.lt hr26 i hi).2⟩);have hdR:=fun i hi=>Nat.le_trans S25.size (hd26 i hi);L_y (f_ 4 Tryz.underlying127 Z sz22 Z Z Z) Z (L_o (ac_ S27 2 Z Z Z Z sz22 (by simp;done) fun w28 S28=>?_)))⟩;refine d_ (hK23 _ _ (a_ fun K24 hK24=>a_ fun K25 hK25=>Rm Z Z (L_y (A_ Z) Z (L_y (f_ 0 Tryz.underlying175 Z sz172 Z Z Z) Z (L_y (t_ Tryz.underlying172 Z Z (((blkM S28 hcur hcg).cell _).trans (by rfl))) Z ?_)))));refine L_o (o_ Tryz.func128 Z Z (Oct.rerr g A n c t (rnP t (rwP t (p) (q) 4) (rwE t (p) (q) 4) ((vaN t 1 0 4000).1:Int)) (rnE t (rwP t (p) (q) 4) (rwE t (p) (q) 4) ((vaN t 1 0 4000).1:Int))  w28 (S28.get 0 Z) (by omega)) Z Z ?_);rintro e29 w29 ⟨v29,rfl,l29,rfl⟩;refine ⟨_,rfl,(have S29:=S28.like l29;Lan Z Z (hK25 _ _ (a_ fun K26 hK26=>Rm Z Z (L_y (V_ Z Z) Z (d_ (hK26 _ _ ?_))))))⟩;refine n_ Z (fun h106=>?_) (fun h106=>?_)
     ·
      refine a_ fun K27 hK27=>b_ (L_y (C_ Z (show _=some zA by kernel_rfl)) Z (Lm Z Z (L_o (D_ S29 1 Z Z Z bc_ (by rfl) (by intro u hu;first | (simp [zA] at hu;rcases hu with rfl | rfl | rfl | rfl | rfl <;> rfl) | (simp at hu;rcases hu with rfl | rfl | rfl | rfl | rfl <;> rfl) | exact bs_ _ _ u hu) fun w30 S30=>?_))));refine Lan Z Z (hK27 _ _ (l_ (ur (aa_ Z Z Z (S30.blk 1 Z) Tryz.underlying127 Z (by exact bc_) ?_))));have he:opT t x at_ deep=((rnE t (rwP t (p) (q) 4) (rwE t (p) (q) 4) ((vaN t 1 0 4000).1:Int):Int),zE):=he0.trans (opR_e (by omega));exact ⟨_,rfl,_,_,S30.turned1 0 Z,p0,by rw [he];rfl,by rw [he];rfl,fresh0 _ _⟩
     ·
      refine m_ (hK24 _ _ (a_ fun K28 hK28=>a_ fun K29 hK29=>av_ [(0,true),(1,true),(4,true),(5,true),(2,false),(3,false),(6,true)] hmix (by kernel_rfl) fun w31 l31=>have S31:=S29.like l31;u_ Z (f_ 4 Tryz.underlying127 Z sz22 Z Z Z) Z (u_ Z (t_ Tryz.underlying22 Z Z (((S31.blk 2 Z).cell _).trans (by rfl))) Z ?_)));refine u_ Z (f_ 3 Tryz.underlying127 Z sz63 Z Z Z) Z (u_ Z (t_ Tryz.underlying63 Z Z (((S31.blk 2 Z).cell _).trans (by rfl))) Z ?_);refine DL_o Z (o_bslL [_] te155 zz22 S31 Z Z Z Z Z Z Z Z fun b32 w32 l32 S32=>have q32:=l32;⟨q32,(DL_o Z (o_ Tryz.func92 Z Z (of_ _ _ _ [⟨B26,_,d26,(rnL t (rwP t (p) (q) 4) (rwE t (p) (q) 4) ((vaN t 1 0 4000).1:Int))⟩] w32 (S32.row 4 Z) (fun y hy=>by obtain rfl:=List.mem_singleton.1 hy;exact S32.row 3 Z)) Z Z ?_))⟩);rintro e33 w33 ⟨v33,rfl,l33,rfl⟩;refine ⟨_,rfl,(Like.trans q32 l33),(have S33:=S32.like l33;have q33:=(Like.trans q32 l33);u_ Z (V_ Z Z) Z (aV_ (hK29 _ _ ?_)))⟩;refine n_ Z (fun h115=>?_) (fun h115=>?_)
      ·
       refine a_ fun K30 hK30=>b_ (L_y (C_ Z (show _=some zA by kernel_rfl)) Z (L_o (D_ S33 1 Z Z Z bc_ (by rfl) (by intro u hu;first | (simp [zA] at hu;rcases hu with rfl | rfl | rfl | rfl | rfl <;> rfl) | (simp at hu;rcases hu with rfl | rfl | rfl | rfl | rfl <;> rfl) | exact bs_ _ _ u hu) fun w34 S34=>?_)));refine Lan Z Z (hK30 _ _ (l_ (ur (aa_ Z Z Z (S34.blk 1 Z) Tryz.underlying127 Z (by exact bc_) ?_))));have hs1:=crcN h115;have he:opT t x at_ deep=(13,zE):=he0.trans (opR_13 (by omega) hs1);exact ⟨_,rfl,_,_,S34.turned1 0 Z,p0,by rw [he];rfl,by rw [he];rfl,fresh0 _ _⟩
      ·
       refine m_ (hK28 _ _ (a_ fun K31 hK31=>T_zed [0,1,2,3,4,5,6,7,8,9,10] 11 [(0,1),(1,1),(2,1),(3,1),(4,1),(5,1),(6,1),(7,1),(8,2),(9,1),(10,1),(11,3)] hmix (by kernel_rfl) fun w35 l35=>have S35:=S33.like l35;ZA_B (Like w35) (Like.refl _) (O_ Z (p_ Z) Z (O_ Z (A_ Z) Z (O_ Z (f_ 1 Tryz.underlying175 Z sz3 Z Z Z) Z (O_ Z (t_ Tryz.underlying3 Z Z (((blkM S35 hcur hcg).cell _).trans (by rfl))) Z ?_))))));refine O_ Z (p_ Z) Z (O_ Z (A_ Z) Z (O_ Z (f_ 0 Tryz.underlying175 Z sz172 Z Z Z) Z (O_ Z (t_ Tryz.underlying172 Z Z (((blkM S35 hcur hcg).cell _).trans (by rfl))) Z ?_)));refine ZB_o Z (o_ Tryz.func130 Z Z (at9 g A n c t (rnP t (rwP t (p) (q) 4) (rwE t (p) (q) 4) ((vaN t 1 0 4000).1:Int)) (rnE t (rwP t (p) (q) 4) (rwE t (p) (q) 4) ((vaN t 1 0 4000).1:Int))  w35 (S35.get 0 Z)) Z Z ?_);rintro e36 w36 ⟨v36,rfl,l36,rfl⟩;refine ⟨_,rfl,l36,(have S36:=S35.like l36;have q36:=l36;O_ Z (w_ Z Z (addN (by omega))) Z (O_ Z (f_ 2 Tryz.underlying127 Z sz3 Z Z Z) Z (ZB_c Z (ac_ S36 2 Z Z Z Z sz3 (by simp;done) fun w37 S37=>?_))))⟩;refine ZA_nil (hK31 _ _ (a_ fun K32 hK32=>b_ (L_y (X_ Tryz.underlying127 Z bc_ Z (S37.blk 2 Z) ⟨rfl,rfl⟩) Z (L_o (D_ S37 1 Z Z Z bc_ (by rfl) (by intro u hu;first | (simp [zA] at hu;rcases hu with rfl | rfl | rfl | rfl | rfl <;> rfl) | (simp at hu;rcases hu with rfl | rfl | rfl | rfl | rfl <;> rfl) | exact bs_ _ _ u hu) fun w38 S38=>?_)))));refine Lan Z Z (hK32 _ _ (l_ (ur (aa_ Z Z Z (S38.blk 1 Z) Tryz.underlying127 Z (by exact bc_) ?_))));have hs1:=crcE h115;have he:opT t x at_ deep=(0,_):=he0.trans (opR_ok (by omega) (fun q=>q hs1));have hsm:((be (rwL t (p) (q) 4):Nat):Int)=N (crcL (rnL t (rwP t (p) (q) 4) (rwE t (p) (q) 4) ((vaN t 1 0 4000).1:Int))):=by show _=((crcL _).toNat:Int);rw [hs1]
       refine ⟨_,rfl,_,_,S38.turned1 0 Z,⟨B26,_,d26,(rnL t (rwP t (p) (q) 4) (rwE t (p) (q) 4) ((vaN t 1 0 4000).1:Int))⟩,?_,by rw [he],⟨S38.row 3 Z,fun ad h1 h2=>hdR ad.block (row_dom hr26 h1 ad h2)⟩⟩;rw [he,hsm];rfl
end Go.Proofs.YtgaklngnfecdaaaGreat.Pak
namespace Go.Proofs.YtgaklngnfecdaaaGreat.Pak
open Go.RowKit Zk Zx
open Sha (N xorN andN notN N_ge N_le)
open Go.Proofs.YtgaklngnfecdaaaGreat.Obj (ab_ objB aN_ U_ aM_ bl_ zB y_ aS_)
open Oct (vaN rwL rwP rwE rnL rnP rnE be vr tl M_)
open Del (scA opf OP OkO mkV encV putR ag_ aplR)
open Oct (rdr rdr_lt bA_)
def OpenV (w0 w':World) (b:List UInt8) (at_:Int) (deep:Bool) (u:Value):Prop:=EntryV w0 w' (opV b at_ deep) u
theorem rd_ne {w0 w:World} {M:Nat→Prop} {rs:List Res} (S:Zx.St w0 M rs w) (i j:Nat) {r:Res} {g t:Nat} {cs:Array Value} (hi:rs[i]?=some r) (hj:rs[j]?=some (Zx.blk g t cs)) (hij:i≠j):¬ r.dom g:=fun hd=>by
  have hap:=List.pairwise_iff_getElem.1 S.apart
  obtain ⟨hil,hie⟩:=List.getElem?_eq_some_iff.1 hi
  obtain ⟨hjl,hje⟩:=List.getElem?_eq_some_iff.1 hj
  rcases Nat.lt_or_gt_of_ne hij with h | h
  · exact hap i j hil hjl h g (by rw [hie];exact hd) (by rw [hje];rfl)
  · exact hap j i hjl hil h g (by rw [hje];rfl) (by rw [hie];exact hd)
theorem open_ (B:Option Addr) (m d:Nat) (b:List UInt8) (at_:Int) (deep:Bool) (w0:World) (hb:Rs w0 1 B m d (bL b)) (hm5:m≤100000) (hat : -9223372036854775808≤at_∧at_≤9223372036854775807) :
    Calls Tryz.prog 66 #[.slice B m d,.int .i64 at_,.bool deep] w0 fun e w'=>∃ u,e=.returned u∧Like w0 w'∧OpenV w0 w' b at_ deep u:=by
  refine v_ (env:=[(0,.slice B m d),(1,.int .i64 at_),(2,.bool deep)]) [.slice B m d,.int .i64 at_,.bool deep] Tryz.func66 Z Tryz.ntmps66 Z Z ?_
  have hl:=hb.lenb;have hcap:=hb.cap;have hmax:=hb.max
  have S0:=St.start w0 noM
  refine a_ fun K1 hK1=>?_
  refine b_ ?_
  refine L_o (F_ zz127 S0 Z fun b1 w1 hb1 S1=>?_)
  refine La Z Z ?_
  refine d_ ?_
  refine hK1 _ _ ?_
  refine a_ fun K2 hK2=>?_
  refine a_ fun K3 hK3=>?_
  refine b_ ?_
  refine Lm Z Z ?_
  refine L_y (K_ Tryz.underlying22 Z) Z ?_
  refine L_y (P_ Z Z) Z ?_
  refine d_ ?_
  refine hK3 _ _ ?_
  refine n_ Z (fun h11=>?_) (fun h11=>?_)
  ·
    refine a_ fun K4 hK4=>?_
    refine b_ ?_
    refine L_y (C_ Z (show _=some zA by kernel_rfl)) Z ?_
    refine L_o (D_ S1 0 Z Z Z bc_ (by rfl) (by intro u hu;first | (simp [zA] at hu;rcases hu with rfl | rfl | rfl | rfl | rfl <;> rfl) | (simp at hu;rcases hu with rfl | rfl | rfl | rfl | rfl <;> rfl) | exact bs_ _ _ u hu) fun w2 S2=>?_)
    refine La Z Z ?_
    refine d_ ?_
    refine hK4 _ _ ?_
    refine l_ ?_
    refine ur ?_
    refine aa_ Z Z Z (S2.blk 0 Z) Tryz.underlying127 Z (by exact bc_) ?_
    have he:opV b at_ deep=(10,zE):=opV_10 (by omega)
    exact ⟨_,rfl,S2.like0,p0,by rw [he];rfl,by rw [he];rfl,fresh0 _ _⟩
  ·
    refine m_ ?_
    refine hK2 _ _ ?_
    refine a_ fun K5 hK5=>?_
    refine a_ fun K6 hK6=>?_
    refine b_ ?_
    refine Lm Z Z ?_
    refine L_y (P_ Z Z) Z ?_
    refine Lm Z Z ?_
    refine B_ 15 Z (fun h15=>?_) (fun h15=>?_)
    ·
      refine h_ Z Z Z ?_
      refine h_ Z Z Z ?_
      refine h_ Z Z Z ?_
      refine h_ Z Z Z ?_
      refine h_ Z Z Z ?_
      refine Lp Z Z Z ?_
      refine d_ ?_
      refine hK6 _ _ ?_
      refine W_ Z ?_
      refine a_ fun K7 hK7=>?_
      refine b_ ?_
      refine L_y (C_ Z (show _=some zA by kernel_rfl)) Z ?_
      refine L_o (D_ S1 0 Z Z Z bc_ (by rfl) (by intro u hu;first | (simp [zA] at hu;rcases hu with rfl | rfl | rfl | rfl | rfl <;> rfl) | (simp at hu;rcases hu with rfl | rfl | rfl | rfl | rfl <;> rfl) | exact bs_ _ _ u hu) fun w4 S4=>?_)
      refine La Z Z ?_
      refine d_ ?_
      refine hK7 _ _ ?_
      refine l_ ?_
      refine ur ?_
      refine aa_ Z Z Z (S4.blk 0 Z) Tryz.underlying127 Z (by exact bc_) ?_
      have he:opV b at_ deep=(2,zE):=opV_2 (by omega) (by omega)
      exact ⟨_,rfl,S4.like0,p0,by rw [he];rfl,by rw [he];rfl,fresh0 _ _⟩
    ·
      refine g_ Z Z ?_
      refine Lm Z Z ?_
      refine g_ Z Z ?_
      refine Lm Z Z ?_
      refine g_ Z Z ?_
      refine L_y (K_ Tryz.underlying22 Z) Z ?_
      refine g_ Z Z ?_
      refine L_y (aE_ Z Z (E_ (by omega))) Z ?_
      refine g_ Z Z ?_
      refine L_y (y_geq Z Z) Z ?_
      refine Lp Z Z Z ?_
      refine d_ ?_
      refine hK6 _ _ ?_
      refine n_ Z (fun h21=>?_) (fun h21=>?_)
      ·
        refine a_ fun K8 hK8=>?_
        refine b_ ?_
        refine L_y (C_ Z (show _=some zA by kernel_rfl)) Z ?_
        refine L_o (D_ S1 0 Z Z Z bc_ (by rfl) (by intro u hu;first | (simp [zA] at hu;rcases hu with rfl | rfl | rfl | rfl | rfl <;> rfl) | (simp at hu;rcases hu with rfl | rfl | rfl | rfl | rfl <;> rfl) | exact bs_ _ _ u hu) fun w5 S5=>?_)
        refine La Z Z ?_
        refine d_ ?_
        refine hK8 _ _ ?_
        refine l_ ?_
        refine ur ?_
        refine aa_ Z Z Z (S5.blk 0 Z) Tryz.underlying127 Z (by exact bc_) ?_
        have he:opV b at_ deep=(2,zE):=opV_2 (by omega) (by omega)
        exact ⟨_,rfl,S5.like0,p0,by rw [he];rfl,by rw [he];rfl,fresh0 _ _⟩
      ·
        refine m_ ?_
        refine hK5 _ _ ?_
        refine a_ fun K9 hK9=>?_
        obtain ⟨x,hx⟩:∃ x,b[at_.toNat]?=some x:=⟨_,List.getElem?_eq_getElem (by omega)⟩
        have htl:=tailB_len (b:=b) (n:=at_.toNat) (by omega) (by omega)
        have hx0:(tailB b at_.toNat)[0]?=some x:=by rw [tailB_0 (by omega) (by omega)];exact hx
        have hbt:=hb.cutb (l:=at_.toNat) (u:=m - 32) (by omega) (by omega)
        rw [show (b.drop at_.toNat).take (m - 32 - at_.toNat)=(tailB b at_.toNat) by unfold tailB;rw [hl]] at hbt
        refine b_ ?_
        refine Lm Z Z ?_
        refine Lm Z Z ?_
        refine Lm Z Z ?_
        refine L_y (K_ Tryz.underlying22 Z) Z ?_
        refine L_y (aE_ Z Z (E_ (by omega))) Z ?_
        refine L_y (y_slice Tryz.underlying22 sz5 Z Z Z (Nt.mk (by omega):Nt _ (at_.toNat)) (Nt.mk (by omega):Nt _ (m - 32)) (by omega) (by omega)) Z ?_
        refine L_o (o_ Tryz.func96 Z Z (Oct.rnew _ _ _ (tailB b at_.toNat) w1 (S1.rd hbt) (by omega)) Z Z ?_)
        rintro e6 w6 ⟨v6,rfl,l6,g1,A1,c1,rfl,hh6,dd6⟩
        refine ⟨_,rfl,?_⟩
        have S6:=S1.new l6 _ hh6 dd6
        refine Lm Z Z ?_
        refine L_y (C_ Z (show _=some #[.pointer (some ⟨g1,0,none⟩),.int .i64 (at_.toNat:Int)] by rw [Int.toNat_of_nonneg (by omega)];kernel_rfl)) Z ?_
        refine L_o (o_box Z S6 Z fun b7 w7 hb7 S7=>?_)
        refine La Z Z ?_
        refine d_ ?_
        refine hK9 _ _ ?_
        refine a_ fun K10 hK10=>?_
        refine b_ ?_
        refine Lm Z Z ?_
        refine Lm Z Z ?_
        refine L_o (o_ Tryz.func97 Z Z (entry b7 g1 A1 (m - 32 - at_.toNat) c1 (tailB b at_.toNat) at_.toNat deep x w7 (S7.get 1 Z) (S7.blk 2 Z) (fun hd=>rd_ne (S7) 1 2 Z Z (by decide) hd) hx0 (by omega) (by omega)) Z Z ?_)
        rintro e8 w8 ⟨v8,rfl,p8,q8,T8,hE8⟩
        refine ⟨_,rfl,?_⟩
        have S8:=S7.turn 1 Z T8
        obtain ⟨q9,rfl,hq9,hok9,hfr9⟩:=hE8
        have S9:=St.newT S7 1 Z T8 (fun i hi=>hi) (new:=fixed 1 q9.A q9.n q9.c (bL q9.l)) hok9 (fun i hi=>by obtain ⟨ad,h1,h2,rfl⟩:=hi;exact ⟨hfr9 ad h1 h2,old_block hok9 h1 h2⟩)
        have hf9:=fun ad h1 h2=>Nat.le_trans S7.size (hfr9 ad h1 h2)
        refine L_y (j_ Z Z) Z ?_
        refine L_y (j_ Z Z) Z ?_
        refine L_o (D_ S9 0 Z Z Z bc_ (by rfl) (by intro u hu;first | (simp [zA] at hu;rcases hu with rfl | rfl | rfl | rfl | rfl <;> rfl) | (simp at hu;rcases hu with rfl | rfl | rfl | rfl | rfl <;> rfl) | exact bs_ _ _ u hu) fun w10 S10=>?_)
        refine La Z Z ?_
        refine d_ ?_
        refine hK10 _ _ ?_
        refine l_ ?_
        refine ur ?_
        refine aa_ Z Z Z (S10.blk 0 Z) Tryz.underlying127 Z (by exact bc_) ?_
        have he:opV b at_ deep=opT (tailB b at_.toNat) x at_.toNat deep:=opV_t (by omega) (by omega) hx
        refine ⟨_,rfl,S10.like0,q9,?_,?_,?_⟩
        · rw [he];rfl
        · rw [he];exact hq9
        · exact ⟨S10.fix 3 Z,hf9⟩
end Go.Proofs.YtgaklngnfecdaaaGreat.Pak
namespace Go.Proofs.YtgaklngnfecdaaaGreat.Del
open Go.RowKit Zk Zx Oct
theorem preadH (B:Option Addr) (m d:Nat) (l:List UInt8) (w0:World) (hb:Rs w0 1 B m d (bL l)) (hm5:m≤10000) :
    Calls Tryz.prog 98 #[.slice B m d] w0 fun e w'=>∃ u,e=.returned u∧Like w0 w'∧∃ A' c' qs,∃ R:Res,u=.tuple #[.agg (scA (ag_ l).1 (ag_ l).2.1 A' qs.length c'),.int .i64 (ag_ l).2.2.2]∧R.holds w'∧(∀ i,R.dom i→w0.heap.size≤i∧i < w'.heap.size)∧(∀ W,R.holds W→Rs W 4 A' qs.length c' (qs.flatMap opf)∧OkO W qs)∧qs.map OP.v=(ag_ l).2.2.1:=by
 refine v_ (env:=[(0,.slice B m d)]) [.slice B m d] Tryz.func98 Z Tryz.ntmps98 Z Z ?_;have hnl:=hb.lenb;have hcap:=hb.cap;have hmax:=hb.max;have S0:=St.start w0 noM;refine a_ fun K1 hK1=>b_ (L_o (F_ zz179 S0 Z fun b1 w1 hb1 S1=>Lan Z Z (hK1 _ _ (a_ fun K2 hK2=>Rm Z Z (L_o (o_ Tryz.func96 Z Z (rnew B m d l w1 (S1.rd hb) (by omega)) Z Z ?_))))));rintro e2 w2 ⟨v2,rfl,l2,g,A,c,rfl,hh2,hd2⟩;refine ⟨_,rfl,(have S2:=S1.new l2 _ hh2 hd2;Lan Z Z (hK2 _ _ (a_ fun K3 hK3=>Rm Z Z (L_o (o_ Tryz.func129 Z Z (rvar g A m c l 0 0 4000 w2 (S2.get 1 Z) (by omega) (by omega)) Z Z ?_)))))⟩;rintro e3 w3 ⟨v3,rfl,rfl,T3⟩;refine ⟨_,rfl,(have S3:=S2.turn 1 Z T3;have hF:=vaN_le l 0 0 4000 (by omega);have hFm:=vaN_m l 0 0 4000;L_y (T_ is102 Tryz.underlying3 Z (E_ (by omega))) Z (Lm Z Z (L_o (o_ Tryz.func129 Z Z (rvar g A m c l _ _ 4000 w3 (S3.get 1 Z) (by omega) (by omega)) Z Z ?_))))⟩;rintro e4 w4 ⟨v4,rfl,rfl,T4⟩;refine ⟨_,rfl,(have S4:=S3.turn 1 Z T4;have hG:=vaN_le l (vaN l 0 0 4000).2.1 (vaN l 0 0 4000).2.2 4000 (by omega);have hGm:=vaN_m l (vaN l 0 0 4000).2.1 (vaN l 0 0 4000).2.2 4000;L_y (T_ is102 Tryz.underlying3 Z (E_ (by omega))) Z (L_y (C_ Z (show _=some (scA ((vaN l 0 0 4000).1:Int) ((vaN l (vaN l 0 0 4000).2.1 (vaN l 0 0 4000).2.2 4000).1:Int) none 0 0) by kernel_rfl)) Z ?_))⟩;refine L_o (F_ zz179 S4 Z fun b5 w5 hb5 S5=>L_o (D_ S5 2 Z Z Z sz179 Z (scA_one _ _ _ _ _) fun w6 S6=>d_ (hK3 _ _ (a_ fun K4 hK4=>a_ fun K5 hK5=>Rm Z Z (L_o (o_ Tryz.func128 Z Z (rerr g A m c l _ _ w6 (S6.get 1 Z) (by omega)) Z Z ?_))))));rintro e7 w7 ⟨v7,rfl,l7,rfl⟩;refine ⟨_,rfl,(have S7:=S6.like l7;Lan Z Z (hK5 _ _ (a_ fun K6 hK6=>Rm Z Z (L_y (V_ Z Z) Z (d_ (hK6 _ _ ?_))))))⟩;refine n_ Z (fun h22=>?_) (fun h22=>?_)
 ·
  refine a_ fun K7 hK7=>b_ (L_y (C_ Z (show _=some (scA 0 0 none 0 0) by kernel_rfl)) Z (Lm Z Z (L_o (D_ S7 0 Z Z Z sz179 Z (scA_one _ _ _ _ _) fun w8 S8=>Lan Z Z (hK7 _ _ (l_ (ur (aa_ Z Z Z (S8.blk 0 Z) Tryz.underlying179 Z (by exact sz179) ?_))))))));exact ⟨_,rfl,S8.like0,none,0,[],sepL [],by rw [read_e1 (by omega)];rfl,⟨fun r hr=>(List.not_mem_nil hr).elim,List.Pairwise.nil⟩,(fun i ⟨r,hr,_⟩=>(List.not_mem_nil hr).elim),(fun W _=>⟨Rs.nil _ 4,fun o ho=>(List.not_mem_nil ho).elim⟩),by rw [read_e1 (by omega)];rfl⟩
 ·
  have hq0:(vaN l (vaN l 0 0 4000).2.1 (vaN l 0 0 4000).2.2 4000).2.2=0:=by omega
  rw [hq0] at S7;refine m_ (hK4 _ _ (a_ fun K8 hK8=>b_ (L_y (f_ 1 Tryz.underlying179 Z sz3 Z Z Z) Z (L_y (t_ Tryz.underlying3 Z Z (((S7.blk 2 Z).cell _).trans (by rfl))) Z ?_))));refine Lan Z Z (hK8 _ _ (a_ fun K9 hK9=>r_ ?_));refine T_loop6 [(2,_),(4,_),(5,_)] (fun (p:Nat) (left:Int) (A1:Option Addr) (c1:Nat) (ops:List OP) (ps:List Part)=>[(7,.int .i64 left)]) (fun (p:Nat) (left:Int) (A1:Option Addr) (c1:Nat) (ops:List OP) (ps:List Part)=>m - p) (fun (p:Nat) (left:Int) (A1:Option Addr) (c1:Nat) (ops:List OP) (ps:List Part) (w:World)=>(p≤m∧0≤left∧(ops.length:Int)+left≤4000∧InP ops ps∧RDI l ((vaN l 0 0 4000).1:Int) p left (ops.map OP.v) (rdR l))∧St w0 noM [blk b1 179 #[.int .i64 0,.int .i64 0,.slice none 0 0],rdr g A m c l p 0,blk b5 179 (scA ((vaN l 0 0 4000).1:Int) ((vaN l (vaN l 0 0 4000).2.1 (vaN l 0 0 4000).2.2 4000).1:Int) A1 ops.length c1),row 221 4 A1 ops.length c1 (ops.flatMap opf),fam (ps.map partR)] w) (vaN l (vaN l 0 0 4000).2.1 (vaN l 0 0 4000).2.2 4000).2.1 ((vaN l (vaN l 0 0 4000).2.1 (vaN l 0 0 4000).2.2 4000).1:Int) none 0 [] [] (Sc Z (Sub.nil _)) (Sub.cons Z Z (Sub.cons Z Z (Sub.cons Z Z (Sub.nil _)))) ?_ ?_
  ·
   have S9:=((S7.nilrow 221 4).fam0);exact ⟨⟨by omega,by omega,by show (0:Int)+_≤4000;omega,(fun o ho=>(List.not_mem_nil ho).elim),RDI.start l ((vaN l 0 0 4000).1:Int) (vaN l (vaN l 0 0 4000).2.1 (vaN l 0 0 4000).2.2 4000).2.1 ((vaN l (vaN l 0 0 4000).2.1 (vaN l 0 0 4000).2.2 4000).1:Int)⟩,S9⟩
  ·
   intro p left A1 c1 ops ps w9 hrel;obtain ⟨⟨hk,hl0,hol,hin,hrd⟩,S9⟩:=hrel;refine a_ fun K10 hK10=>a_ fun K11 hK11=>Rm Z Z (L_o (o_ Tryz.func131 Z Z (rleft g A m c l _ _ w9 (S9.get 1 Z) (by omega)) Z Z ?_));rintro e10 w10 ⟨v10,rfl,l10,rfl⟩;refine ⟨_,rfl,(have S10:=S9.like l10;L_y (af_ Z Z) Z (d_ (hK11 _ _ ?_)))⟩;refine n_ Z (fun h29=>?_) (fun h29=>?_)
   ·
    obtain ⟨x,hx⟩:∃ x,l[p]?=some x:=⟨_,List.getElem?_eq_getElem (by omega)⟩;refine m_ (hK10 _ _ (r_ (a_ fun K12 hK12=>Rm Z Z (L_y (f_ 0 Tryz.underlying179 Z sz3 Z Z Z) Z (L_y (t_ Tryz.underlying3 Z Z (((S10.blk 2 Z).cell _).trans (by rfl))) Z ?_)))));refine L_o (o_ Tryz.func132 Z Z (rop g A m c l p x ((vaN l 0 0 4000).1:Int) w10 (S10.get 1 Z) hx (by omega) (by omega)) Z Z ?_);rintro e11 w11 ⟨v11,rfl,T11,o,rfl,hov,hr11,hd11⟩;refine ⟨_,rfl,(have S11:=S10.turn 1 Z T11;have S12:=St.newT S10 1 Z T11 (fun i hi=>hi) hr11 (fun i hi=>⟨hd11 i hi,(World.ownsRow.lt hr11 i hi).2⟩);Lm Z Z (L_y (j_ Z Z) Z (L_y (j_ Z Z) Z (L_o (F_ zz221 S12 Z fun b13 w13 hb13 S13=>L_o (D_ S13 6 Z Z Z bb_ Z (bB_ o) fun w14 S14=>Lan Z Z (hK12 _ _ (a_ fun K13 hK13=>a_ fun K14 hK14=>b_ ?_))))))))⟩;refine Lm Z Z (L_y (V_ Z Z) Z (d_ (hK14 _ _ ?_)));refine n_ Z (fun h38=>?_) (fun h38=>?_)
    ·
     refine a_ fun K15 hK15=>b_ (L_y (C_ Z (show _=some (scA 0 0 none 0 0) by kernel_rfl)) Z (Lm Z Z (L_o (D_ S14 0 Z Z Z sz179 Z (scA_one _ _ _ _ _) fun w15 S15=>Lan Z Z (hK15 _ _ (l_ (ur (aa_ Z Z Z (S15.blk 0 Z) Tryz.underlying179 Z (by exact sz179) ?_))))))));exact ⟨_,rfl,S15.like0,none,0,[],sepL [],by rw [read_e2 hq0 (hrd.err hx (by omega)) (by omega)];rfl,⟨fun r hr=>(List.not_mem_nil hr).elim,List.Pairwise.nil⟩,(fun i ⟨r,hr,_⟩=>(List.not_mem_nil hr).elim),(fun W _=>⟨Rs.nil _ 4,fun o ho=>(List.not_mem_nil ho).elim⟩),by rw [read_e2 hq0 (hrd.err hx (by omega)) (by omega)];rfl⟩
    ·
     have h380:(rdO l p x ((vaN l 0 0 4000).1:Int)).e=0:=by omega
     obtain ⟨hro1,hro2,hro3,hro4⟩:=rdO_ok hx h380;rw [← hov] at hro4;rw [hro1] at S14;refine m_ (hK13 _ _ (a_ fun K16 hK16=>a_ fun K17 hK17=>b_ (L_y (X_ Tryz.underlying221 Z bb_ Z (S14.blk 6 Z) (show _=opf o∧_ from ⟨rfl,rfl⟩)) Z (L_o (o_ Tryz.func133 Z Z (osize o w14 (S14.row 5 Z)) Z Z ?_)))));rintro e16 w16 ⟨v16,rfl,l16,rfl⟩;refine ⟨_,rfl,(have S16:=S14.like l16;Lm Z Z (L_y (af_ Z Z) Z (d_ (hK17 _ _ ?_))))⟩;refine n_ Z (fun h44=>?_) (fun h44=>?_)
     ·
      refine a_ fun K18 hK18=>b_ (L_y (C_ Z (show _=some (scA 0 0 none 0 0) by kernel_rfl)) Z (L_o (D_ S16 0 Z Z Z sz179 Z (scA_one _ _ _ _ _) fun w17 S17=>Lan Z Z (hK18 _ _ (l_ (ur (aa_ Z Z Z (S17.blk 0 Z) Tryz.underlying179 Z (by exact sz179) ?_)))))));exact ⟨_,rfl,S17.like0,none,0,[],sepL [],by rw [read_e2 hq0 (hrd.long hx h380 (by rw [← hov];omega)) (by decide)];rfl,⟨fun r hr=>(List.not_mem_nil hr).elim,List.Pairwise.nil⟩,(fun i ⟨r,hr,_⟩=>(List.not_mem_nil hr).elim),(fun W _=>⟨Rs.nil _ 4,fun o ho=>(List.not_mem_nil ho).elim⟩),by rw [read_e2 hq0 (hrd.long hx h380 (by rw [← hov];omega)) (by decide)];rfl⟩
     ·
      refine m_ (hK16 _ _ (a_ fun K19 hK19=>Rm Z Z (L_y (X_ Tryz.underlying221 Z bb_ Z (S16.blk 6 Z) (show _=opf o∧_ from ⟨rfl,rfl⟩)) Z (L_o (o_ Tryz.func133 Z Z (osize o w16 (S16.row 5 Z)) Z Z ?_)))));rintro e18 w18 ⟨v18,rfl,l18,rfl⟩;refine ⟨_,rfl,(have S18:=S16.like l18;L_y (aE_ Z Z (E_ (by omega))) Z (Lan Z Z (hK19 _ _ (b_ (L_y (f_ 2 Tryz.underlying179 Z sz177 Z Z Z) Z (L_y (t_ Tryz.underlying177 Z Z (((S18.blk 2 Z).cell _).trans (by rfl))) Z ?_))))))⟩;refine L_y (X_ Tryz.underlying221 Z bb_ Z (S18.blk 6 Z) (show _=opf o∧_ from ⟨rfl,rfl⟩)) Z (L_o (aW_ (opf o) te177 zz221 S18 Z Z Z Z Z Z Z Z fun b19 w19 S19=>L_o (aL_ te177 S19 3 Z Z Z (by first | exact S19.row 3 Z | exact S19.fix 4 Z | exact S19.row 5 Z | exact S19.row 7 Z) (bB_ o) Z (by omega) (by omega) fun A20 c20 w20 S20=>?_)));have S20d:=S20.drop (rs':=[_,_,_,_,_,_,_]) (.cons_cons _ (.cons_cons _ (.cons_cons _ (.cons_cons _ (.cons_cons _ (.cons_cons _ (.cons_cons _ (.cons _ (.refl _)))))))));refine L_y (f_ 2 Tryz.underlying179 Z sz177 Z Z Z) Z (L_o (ac_ S20d 2 Z Z Z Z sz177 (by show 2 < 3;decide) fun w21 S21=>?_));refine d_ ?_;have S91:=S21.blkc 2 Z ((scA_set ((vaN l 0 0 4000).1:Int) ((vaN l (vaN l 0 0 4000).2.1 (vaN l 0 0 4000).2.2 4000).1:Int) A1 ops.length c1 A20 (ops.length+1) c20).trans (show _=scA ((vaN l 0 0 4000).1:Int) ((vaN l (vaN l 0 0 4000).2.1 (vaN l 0 0 4000).2.2 4000).1:Int) A20 (ops++[o]).length c20 from by rw [List.length_append];rfl));have S92:=S91.rowc 3 Z (n':=(ops++[o]).length) (xs':=(ops++[o]).flatMap opf) (by rw [List.length_append];rfl) (by rw [List.flatMap_append];simp);have S93:=(S92.still 5 Z).sel [0,1,2,3,4,5] (by decide);have S94:=famAdd (rs:=[_,_,_,_,fam (ps.map partR)]) (ps:=ps) (p:=o.p) S93 4 Z;refine ⟨(rdO l p x ((vaN l 0 0 4000).1:Int)).p,left - szV o.v,A20,c20,ops++[o],ps++[o.p],by omega,⟨⟨by omega,by omega,by rw [List.length_append,List.length_singleton];omega,hin.add,by rw [List.map_append,List.map_singleton,hov];exact hrd.next hx h380 (by rw [← hov];omega)⟩,S94⟩,?_⟩;exact (Sc Z (Sub.cons Z Z (Sub.cons Z Z (Sub.cons Z Z (Sub.nil _)))))
   ·
    refine Q_ (hK9 _ _ (a_ fun K20 hK20=>a_ fun K21 hK21=>Rm Z Z (L_y (af_ Z Z) Z (d_ (hK21 _ _ ?_)))));refine n_ Z (fun h57=>?_) (fun h57=>?_)
    ·
     refine a_ fun K22 hK22=>b_ (L_y (C_ Z (show _=some (scA 0 0 none 0 0) by kernel_rfl)) Z (L_o (D_ S10 0 Z Z Z sz179 Z (scA_one _ _ _ _ _) fun w22 S22=>Lan Z Z (hK22 _ _ (l_ (ur (aa_ Z Z Z (S22.blk 0 Z) Tryz.underlying179 Z (by exact sz179) ?_)))))));have hst:=hrd.stop (by omega);rw [if_pos (by omega)] at hst;exact ⟨_,rfl,S22.like0,none,0,[],sepL [],by rw [read_e2 hq0 hst (by decide)];rfl,⟨fun r hr=>(List.not_mem_nil hr).elim,List.Pairwise.nil⟩,(fun i ⟨r,hr,_⟩=>(List.not_mem_nil hr).elim),(fun W _=>⟨Rs.nil _ 4,fun o ho=>(List.not_mem_nil ho).elim⟩),by rw [read_e2 hq0 hst (by decide)];rfl⟩
    ·
     refine m_ (hK20 _ _ (a_ fun K23 hK23=>b_ (L_y (X_ Tryz.underlying179 Z sz179 Z (S10.blk 2 Z) (show _=(scA ((vaN l 0 0 4000).1:Int) ((vaN l (vaN l 0 0 4000).2.1 (vaN l 0 0 4000).2.2 4000).1:Int) A1 ops.length c1).toList∧_ from ⟨rfl,rfl⟩)) Z (L_o (D_ S10 0 Z Z Z sz179 Z (scA_one _ _ _ _ _) fun w23 S23=>Lan Z Z (hK23 _ _ (l_ (ur (aa_ Z Z Z (S23.blk 0 Z) Tryz.underlying179 Z (by exact sz179) ?_)))))))));have hst:=hrd.stop (by omega);rw [if_neg (by omega)] at hst;have S24:Zx.St w0 noM [row 221 4 A1 ops.length c1 (ops.flatMap opf),fam (ps.map partR)] w23:=S23.sel [3,4] (by decide);exact ⟨_,rfl,S23.like0,A1,c1,ops,sepL [row 221 4 A1 ops.length c1 (ops.flatMap opf),fam (ps.map partR)],by rw [read_ok hq0 hst],S24.getAll,(fun i hi=>by obtain ⟨r,hr,hd⟩:=hi;have h:=(S24.res r hr).2 i hd;exact ⟨h.2.resolve_right (fun q=>q),h.1⟩),(fun W h=>⟨bz_ (h.1 (row 221 4 A1 ops.length c1 (ops.flatMap opf)) (List.mem_cons_self ..)).1,okO_of hin (h.1 (fam (ps.map partR)) (List.mem_cons_of_mem _ (List.mem_cons_self ..))).1⟩),by rw [read_ok hq0 hst]⟩
end Go.Proofs.YtgaklngnfecdaaaGreat.Del
namespace Go.Proofs.YtgaklngnfecdaaaGreat.Pak
open Go.RowKit Zk Zx
open Sha (N xorN andN notN N_ge N_le)
open Go.Proofs.YtgaklngnfecdaaaGreat.Obj (ab_ objB aN_ U_ aM_ bl_ zB y_ aS_)
open Oct (vaN rwL rwP rwE rnL rnP rnE be vr tl M_)
open Del (scA opf OP OkO mkV encV putR ag_ aplR)
def newR (w0:World) (p:Part):Res where
  dom i:=∃ ad,0 < p.n∧p.A=some ad∧ad.block=i∧w0.heap.size≤i
  holds w:=(∀ ad,0 < p.n→p.A=some ad→w0.heap.size≤ad.block)→p.ok w
  stable w w' h hh:=fun hn=>(fixed 1 p.A p.n p.c (bL p.l)).stable w w' (fun i ⟨ad,h1,h2,h3⟩=>h i ⟨ad,h1,h2,h3,h3 ▸ hn ad h1 h2⟩) (hh hn)
def NP (w0:World) (p:Part):Prop:=p.ok w0∨∀ ad,0 < p.n→p.A=some ad→w0.heap.size≤ad.block
section
variable {w0 w w' : World} {rs : List Res} {p : Part}
theorem NP.ok (h:NP w0 p) (S:Zx.St w0 noM rs w) (hr:(newR w0 p).holds w):p.ok w:=h.elim (fun h=>S.rd h) hr
theorem addOld (S:Zx.St w0 noM rs w) (h:p.ok w0):Zx.St w0 noM (rs++[newR w0 p]) w :=
  S.new (Like.refl w) _ (fun _=>S.rd h) fun i ⟨ad,h1,h2,h3,h4⟩=>by
    have:=old_block h h1 h2
    omega
theorem addNew (S:Zx.St w0 noM rs w) (l:Like w w') (h:Fresh w w' p):Zx.St w0 noM (rs++[newR w0 p]) w' :=
  S.new l _ (fun _=>h.1) fun i ⟨ad,h1,h2,h3,h4⟩=>by
    subst h3
    exact ⟨h.2 ad h1 h2,old_block h.1 h1 h2⟩
theorem NP.new (S:Zx.St w0 noM rs w) (h:Fresh w w' p):NP w0 p:=.inr fun ad h1 h2=>Nat.le_trans S.size (h.2 ad h1 h2)
theorem Fresh.own {A:Option Addr} {n c:Nat} {l:List UInt8} (h:w'.ownsRow w.heap.size 5 1 (.slice A n c) n (bL l)):Fresh w w' ⟨A,n,c,l⟩:=by
  have h1:=Fr.of_own h
  exact ⟨h1.1,h1.2⟩
end
def WholeV (w0 w':World) (r:Int × List UInt8 × Int) (u:Value):Prop:=∃ A c,u=.tuple #[.int .i64 r.1,.slice A r.2.1.length c,.int .i64 r.2.2]∧w'.ownsRow w0.heap.size 5 1 (.slice A r.2.1.length c) r.2.1.length (bL r.2.1)
theorem whole_no {w0 w':World} {r:Int × List UInt8 × Int} {e:Int} (h:r=(0,[],e)):WholeV w0 w' r (.tuple #[.int .i64 0,.slice none 0 0,.int .i64 e]):=by
  subst h
  exact ⟨none,0,rfl,World.ownsRow_nil _ _ _ _⟩
def loads (ps:List Part):List (List UInt8):=ps.map Part.l
theorem loads_snoc (ps:List Part) (p:Part):loads (ps++[p])=loads ps++[p.l]:=by simp [loads]
theorem beq8 (n:Nat) (h:n≤8):decide ((n:Int)=8)=((8 - n:Nat) == 0):=by
  by_cases e:n=8
  · subst e;rfl
  · have h1:((8 - n:Nat) == 0)=false:=by
      cases hb:((8 - n:Nat) == 0) with
      | false=>rfl
      | true=>have:=of_decide_eq_true hb;omega
    rw [h1]
    exact decide_eq_false (by omega)
theorem rest_next {b:List UInt8} {n:Nat} {x:EV} (h8:n < 8) (hk:x.kind=5) (h:(opV b x.base ((8 - (n+1):Nat) == 0)).1=0):rest b (7 - n) x=aplO x.load (rest b (7 - (n+1)) (opV b x.base ((8 - (n+1):Nat) == 0)).2):=by
  have e:7 - n=8 - (n+1):=by omega
  conv=>lhs;unfold rest
  rw [if_pos hk,e,rdF_ok h,show 8 - (n+1) - 1=7 - (n+1) by omega]
theorem rest_err {b:List UInt8} {n:Nat} {x:EV} {e:Int} (h8:n < 8) (hk:x.kind=5) (h:(opV b x.base ((8 - (n+1):Nat) == 0)).1=e) (he:e≠0):rest b (7 - n) x=(0,[],e):=by
  have e1:7 - n=8 - (n+1):=by omega
  unfold rest
  rw [if_pos hk,e1,rdF_e h he]
  exact aplO_1 Z he
theorem take_last {α:Type} {l:List α} {k:Nat} {x : α} (h:l[l.length - 1 - k]?=some x) (hk:k < l.length):l.take (l.length - k)=l.take (l.length - (k+1))++[x]:=by
  have e:l.length - k=(l.length - (k+1))+1:=by omega
  rw [e,List.take_add_one,show l.length - (k+1)=l.length - 1 - k by omega,h]
  rfl
theorem fam_ok {w0 w:World} {rs:List Res} {ps:List Part} {p:Part} (h:NP w0 p) (S:Zx.St w0 noM rs w) (hf:(fam (ps.map (newR w0))).holds w) (hm:p ∈ ps):p.ok w:=h.ok S (hf.1 (newR w0 p) (List.mem_map.2 ⟨p,hm,rfl⟩))
theorem aplR_len (a:List UInt8) (b t:Int) (l:List Del.OV):(aplR a b t l).1.length≤4000:=by
  by_cases h:Del.errV b t l=0
  · by_cases h2:(a.length:Int)=b
    · rw [Del.aplR_ok h h2]
      obtain ⟨h3,h4⟩:=Del.errV_zero h
      rw [← h2] at h4
      have h5:=((Del.chkL_iff (a:=a) l t).1 h4).2
      show (Del.aplV a l).length≤4000
      omega
    · rw [Del.aplR_base h h2];simp
  · rw [Del.aplR_err h];simp
theorem whole (B:Option Addr) (m d:Nat) (b:List UInt8) (x0:EV) (q0:Part) (a0:Int) (w0:World) (hb:Rs w0 1 B m d (bL b)) (hm5:m≤100000) (hq0:q0.ok w0) (hql:q0.l=x0.load) (hx0:EOk a0 false x0) (ha:a0≤1000000) :
    Calls Tryz.prog 67 #[.slice B m d,.agg (enA x0 q0)] w0 fun e w'=>∃ u,e=.returned u∧Like w0 w'∧WholeV w0 w' (rest b 7 x0) u:=by
 refine v_ (env:=[(0,.slice B m d),(1,.agg (enA x0 q0))]) [.slice B m d,.agg (enA x0 q0)] Tryz.func67 Z Tryz.ntmps67 Z Z ?_;have hl:=hb.lenb;have hcap:=hb.cap;have hmax:=hb.max;have S0:=St.start w0 noM;refine a_ fun K1 hK1=>b_ (L_o (o_box Z S0 Z fun b1 w1 hb1 S1=>La Z Z (La Z Z (Lan Z Z (hK1 _ _ (a_ fun K2 hK2=>b_ (have S2:=S1.nilrow 22 1;Lan Z Z (hK2 _ _ ?_))))))));refine a_ fun K3 hK3=>r_ ?_;refine T_loop6 [(0,_),(3,_)] (fun (ps:List Part) (x:EV) (q:Part) (a:Int) (A1:Option Addr) (c1:Nat)=>[(7,.slice A1 ps.length c1)]) (fun (ps:List Part) (x:EV) (q:Part) (a:Int) (A1:Option Addr) (c1:Nat)=>8 - ps.length) (fun (ps:List Part) (x:EV) (q:Part) (a:Int) (A1:Option Addr) (c1:Nat) (w:World)=>(ps.length≤8∧(rest b 7 x0)=(loads ps).foldr aplO (rest b (7 - ps.length) x)∧EOk a (8 - ps.length == 0) x∧a≤1000000∧q.l=x.load∧NP w0 q∧(∀ p ∈ ps,NP w0 p∧p.l.length≤4000))∧Zx.St w0 noM [blk b1 127 (enA x q),row 22 1 A1 ps.length c1 (ps.map pv),fam (ps.map (newR w0)),newR w0 q] w) [] x0 q0 a0 none 0 (Sc Z (Sub.nil _)) (Sub.cons Z Z (Sub.cons Z Z (Sub.nil _))) ?_ ?_
 ·
  have S3:=(S2.nilrow 22 1).fam0;have S3b:=addOld S3 hq0;have S3c:=S3b.sel [0,1,3,4] (by decide);exact ⟨⟨by simp,rfl,hx0,ha,hql,.inl hq0,fun p hp=>(List.not_mem_nil hp).elim⟩,S3c⟩
 ·
  intro ps x q a A1 c1 w4 hrel;obtain ⟨⟨hpl,hR,hxe,ha,hqv,hqn,hps⟩,S4⟩:=hrel;refine a_ fun K4 hK4=>a_ fun K5 hK5=>b_ (L_y (f_ 0 Tryz.underlying127 Z sz3 Z Z Z) Z (L_y (t_ Tryz.underlying3 Z Z (((S4.blk 0 Z).cell _).trans (by rfl))) Z ?_));refine L_y (ao_ Z Z) Z (d_ (hK5 _ _ ?_));refine n_ Z (fun h16=>?_) (fun h16=>?_)
  ·
   obtain ⟨hb1,hb2,hb3⟩:=hxe.base h16;have hp8:ps.length≠8:=fun e=>by rw [e] at hb3;cases hb3
   refine m_ (hK4 _ _ (r_ (a_ fun K6 hK6=>Rm Z Z (L_y (f_ 4 Tryz.underlying127 Z sz22 Z Z Z) Z (L_y (t_ Tryz.underlying22 Z Z (((S4.blk 0 Z).cell _).trans (by rfl))) Z ?_)))));refine L_o (aW_ [pv q] te155 zz22 S4 Z Z Z Z Z Z Z Z fun b5 w5 S5=>L_o (aL_ te155 S5 1 Z Z Z (by first | exact S5.row 1 Z | exact S5.fix 2 Z | exact S5.row 4 Z) (by intro u hu;obtain rfl:=List.mem_singleton.1 hu;rfl) Z (by omega) (by omega) fun A6 c6 w6 S6=>?_));have S6d:=S6.drop (rs':=[_,_,_,_]) (.cons_cons _ (.cons_cons _ (.cons_cons _ (.cons_cons _ (.cons _ (.refl _))))));refine Lan Z Z (hK6 _ _ (a_ fun K7 hK7=>Rm Z Z (L_y (f_ 1 Tryz.underlying127 Z sz3 Z Z Z) Z (L_y (t_ Tryz.underlying3 Z Z (((S6d.blk 0 Z).cell _).trans (by rfl))) Z ?_))));refine Lm Z Z (L_y (K_ Tryz.underlying155 Z) Z (L_y (ao_ Z Z) Z (L_o (o_ Tryz.func66 Z Z (open_ B m d b x.base _ w6 (S6d.rd hb) hm5 (by omega)) Z Z ?_))));rintro e7 w7 ⟨v7,rfl,l7,hO7⟩;refine ⟨_,rfl,?_⟩;have S7:=S6d.like l7;rw [beq8 (ps.length+1) (by omega)] at hO7;obtain ⟨q2,rfl,hq2,hf2⟩:=hO7;have S8:=addNew S6d l7 hf2;have hn2:=NP.new S6d hf2;refine Lm Z Z (L_y (j_ Z Z) Z (L_y (j_ Z Z) Z (L_o (F_ zz127 S8 Z fun b9 w9 hb9 S9=>L_o (D_ S9 5 Z Z Z bc_ (by rfl) (bs_ _ _) fun w10 S10=>?_)))));refine Lan Z Z (hK7 _ _ (a_ fun K8 hK8=>a_ fun K9 hK9=>Rm Z Z (L_y (V_ Z Z) Z (d_ (hK9 _ _ ?_)))));refine n_ Z (fun h33=>?_) (fun h33=>?_)
   ·
    refine a_ fun K10 hK10=>Rm Z Z (La Z Z (La Z Z (Lan Z Z (hK10 _ _ (l_ (ur (ret3 Z Z Z Z (⟨_,rfl,S10.like0,whole_no ?_⟩))))))));rw [hR,rest_err (by omega) h16 Z h33];exact foldr_err _ h33
   ·
    refine m_ (hK8 _ _ (b_ (L_y (X_ Tryz.underlying127 Z bc_ Z (S10.blk 5 Z) (show _=(enA (opV b x.base (8 - (ps.length+1) == 0)).2 q2).toList∧_ from ⟨rfl,rfl⟩)) Z (L_o (D_ S10 0 Z Z Z bc_ (by rfl) (fun u hu=>bs_ _ _ u hu) fun w11 S11=>?_)))));refine d_ ?_;have S90:=S11.sel [0,1,4,2,3] (by decide);have S91:Zx.St w0 noM ([_,_,_]++[fam (ps.map (newR w0)++[]),newR w0 q]) w11:=S90.cast (by rw [List.append_nil];rfl);have S92:=St.famIn S91;have S93:=S92.sel [0,1,3,2] (by decide);have hx2:=(opV_ok (b:=b) (at_:=x.base) (deep:=(8 - (ps.length+1) == 0)) (Classical.not_not.1 h33)).1;have S94:Zx.St w0 noM [blk b1 127 (enA (opV b x.base (8 - (ps.length+1) == 0)).2 q2),row 22 1 A6 (ps++[q]).length c6 ((ps++[q]).map pv),fam ((ps++[q]).map (newR w0)),newR w0 q2] w11:=S93.cast (by simp only [List.length_append,List.map_append,List.length_singleton,List.map_cons,List.map_nil];rfl);refine ⟨ps++[q],(opV b x.base (8 - (ps.length+1) == 0)).2,q2,x.base,A6,c6,by simp only [List.length_append,List.length_singleton];omega,⟨⟨by simp only [List.length_append,List.length_singleton];omega,by rw [loads_snoc,foldr_snoc,hR,rest_next (by omega) h16 (Classical.not_not.1 h33),hqv,List.length_append];rfl,by rw [List.length_append];exact hx2,by omega,hq2,hn2,fun p hp=>by rcases List.mem_append.1 hp with hp | hp;exact hps p hp;(obtain rfl:=List.mem_singleton.1 hp);exact ⟨hqn,by rw [hqv];exact hxe.len⟩⟩,S94⟩,?_⟩;exact (Sub.cons Z (by rw [List.length_append];rfl) (Sub.cons Z Z (Sub.cons Z Z (Sub.nil _))))
  ·
   have hR1:rest b (7 - ps.length) x=(x.kind,x.load,0):=by unfold rest;rw [if_neg h16]
   rw [hR1, ← hqv] at hR;have hql4:q.l.length≤4000:=by rw [hqv];exact hxe.len
   refine Q_ (hK3 _ _ (a_ fun K11 hK11=>b_ (L_y (f_ 4 Tryz.underlying127 Z sz22 Z Z Z) Z (L_y (t_ Tryz.underlying22 Z Z (((S4.blk 0 Z).cell _).trans (by rfl))) Z ?_))));refine Lan Z Z (hK11 _ _ (a_ fun K12 hK12=>a_ fun K13 hK13=>Rm Z Z (L_y (K_ Tryz.underlying155 Z) Z (Lm Z Z (d_ (hK13 _ _ (r_ ?_)))))));refine bx_ [(3,_),(7,_),(39,_)] (fun (k:Nat) (bp:Part)=>[(40,.int .i64 (k:Int)),(10,pv bp)]) (fun (k:Nat) (bp:Part)=>ps.length - k) (fun (k:Nat) (bp:Part) (w:World)=>(k≤ps.length∧(rest b 7 x0)=(loads (ps.take (ps.length - k))).foldr aplO (x.kind,bp.l,0)∧NP w0 bp∧bp.l.length≤4000)∧Zx.St w0 noM [blk b1 127 (enA x q),row 22 1 A1 ps.length c1 (ps.map pv),fam (ps.map (newR w0)),newR w0 bp] w) 0 q (Sc Z (Sc Z (Sub.nil _))) (Sub.cons Z Z (Sub.cons Z Z (Sub.cons Z Z (Sub.nil _)))) ?_ ?_
   ·
    exact ⟨⟨by omega,by rw [Nat.sub_zero,List.take_length];exact hR,hqn,hql4⟩,S4⟩
   ·
    intro k bp w12 hrel;obtain ⟨⟨hk,hR2,hbn,hb4⟩,S12⟩:=hrel;refine a_ fun K14 hK14=>b_ (L_y (P_ Z Z) Z (d_ (hK14 _ _ (a_ fun K15 hK15=>?_))));refine n_ Z (fun h41=>?_) (fun h41=>?_)
    ·
     obtain ⟨p,hp⟩:∃ p,ps[ps.length - 1 - k]?=some p:=⟨_,List.getElem?_eq_getElem (by omega)⟩;have hpm:=List.mem_of_getElem? hp;obtain ⟨hpn,hp4⟩:=hps p hpm;have hpo:=fam_ok hpn S12 (S12.get 2 Z) hpm;have hpo2:=hpo.lenb;refine m_ (hK15 _ _ (a_ fun K16 hK16=>r_ (a_ fun K17 hK17=>Rm Z Z (Lan Z Z (hK17 _ _ (a_ fun K18 hK18=>Rm Z Z (Lm Z Z ?_)))))));refine L_y (K_ Tryz.underlying155 Z) Z (L_y (aE_ Z Z (E_ (by omega))) Z (Lm Z Z (L_y (aE_ Z Z (E_ (by omega))) Z (L_y (S_ Tryz.underlying155 sz22 Z Z (S12.row 1 Z) (Nt.mk (by omega):Nt _ (ps.length - 1 - k)) (by omega)) Z (L_y (y_ldr Tryz.underlying22 Z Z (S12.row 1 Z) (getP hp)) Z (L_o (o_ Tryz.func98 Z Z (Del.preadH _ _ _ p.l w12 hpo (by omega)) Z Z ?_)))))));rintro e13 w13 ⟨v13,rfl,l13,A13,c13,ops13,R13,rfl,hh13,dd13,hr13,hv13⟩;refine ⟨_,rfl,(have S13:=S12.new l13 _ hh13 dd13;Lm Z Z (L_y (j_ Z Z) Z (L_y (j_ Z Z) Z (L_o (F_ zz179 S13 Z fun b14 w14 hb14 S14=>L_o (D_ S14 5 Z Z Z sz179 (by rfl) (by intro u hu;simp [scA] at hu;rcases hu with rfl | rfl | rfl <;> rfl) fun w15 S15=>?_))))))⟩;refine Lan Z Z (hK18 _ _ (a_ fun K19 hK19=>a_ fun K20 hK20=>Rm Z Z (L_y (V_ Z Z) Z (d_ (hK20 _ _ ?_)))));refine n_ Z (fun h56=>?_) (fun h56=>?_)
     ·
      refine a_ fun K21 hK21=>Rm Z Z (La Z Z (La Z Z (Lan Z Z (hK21 _ _ (l_ (ur (ret3 Z Z Z Z (⟨_,rfl,S15.like0,whole_no ?_⟩))))))));rw [hR2,take_last hp (by omega),loads_snoc,foldr_snoc,aplO_2 Z h56];exact foldr_err _ h56
     ·
      refine m_ (hK19 _ _ (a_ fun K22 hK22=>Rm Z Z (L_y (X_ Tryz.underlying179 Z sz179 Z (S15.blk 5 Z) (show _=(scA (ag_ p.l).1 (ag_ p.l).2.1 _ _ _).toList∧_ from ⟨rfl,rfl⟩)) Z (L_o (o_ Tryz.func99 Z Z (Del.papply bp.A bp.n bp.c bp.l _ _ _ ops13 _ _ w15 (hbn.ok S15 (S15.get 3 Z)) (hr13 _ (S15.get 4 Z)).1 (hr13 _ (S15.get 4 Z)).2) Z Z ?_)))));rintro e16 w16 ⟨v16,rfl,l16,A16,c16,rfl,O16⟩;refine ⟨_,rfl,?_⟩;have S16:=S15.like l16;rw [hv13] at O16;rw [hv13];have S17:=addNew S15 l16 (Fresh.own O16);have hn3:=NP.new S15 (Fresh.own O16);refine Lm Z Z (L_y (j_ Z Z) Z (L_y (j_ Z Z) Z (La Z Z (Lan Z Z (hK22 _ _ (a_ fun K23 hK23=>Rm Z Z (L_y (V_ Z Z) Z (d_ (hK23 _ _ ?_)))))))));refine n_ Z (fun h65=>?_) (fun h65=>?_)
      ·
       refine a_ fun K24 hK24=>Rm Z Z (La Z Z (La Z Z (Lan Z Z (hK24 _ _ (l_ (ur (ret3 Z Z Z Z (⟨_,rfl,S17.like0,whole_no ?_⟩))))))));rw [hR2,take_last hp (by omega),loads_snoc,foldr_snoc,aplO_3 Z (Classical.not_not.1 h56) h65];exact foldr_err _ h65
      ·
       refine m_ (hK16 _ _ (b_ (L_y (w_ Z Z (E_ (by omega))) Z (Lm Z Z (d_ (have S90:=S17.sel [0,1,2,6] (by decide);⟨k+1,⟨A16,(aplR bp.l (ag_ p.l).1 (ag_ p.l).2.1 (ag_ p.l).2.2.1).1.length,c16,(aplR bp.l (ag_ p.l).1 (ag_ p.l).2.1 (ag_ p.l).2.2.1).1⟩,by omega,⟨⟨by omega,by rw [hR2,take_last hp (by omega),loads_snoc,foldr_snoc,aplO_4 Z (Classical.not_not.1 h56) (Classical.not_not.1 h65)],hn3,aplR_len _ _ _ _⟩,S90⟩,?_⟩))))));exact (Sc Z (Sc Z (Sub.cons Z Z (Sub.cons Z Z (Sub.cons Z Z (Sub.nil _))))))
    ·
     have hbo:=hbn.ok S12 (S12.get 3 Z);have hbpl:=hbo.lenb;refine Q_ (hK12 _ _ (a_ fun K25 hK25=>av_ [(0,true),(1,true),(2,true),(3,false),(4,true),(5,true),(6,true)] hmix (by kernel_rfl) fun w18 l18=>have S18:=S12.like l18;u_ Z (f_ 0 Tryz.underlying127 Z sz3 Z Z Z) Z (u_ Z (t_ Tryz.underlying3 Z Z (((S18.blk 0 Z).cell _).trans (by rfl))) Z ?_)));refine u_ Z (p_ Z) Z (DL_o Z (o_ Tryz.func48 Z Z (Obj.clone bp.A bp.n bp.c bp.l w18 (hbn.ok S18 (S18.get 3 Z)) (by omega)) Z Z ?_));rintro e19 w19 ⟨v19,rfl,l19,A19,c19,rfl,O19⟩;refine ⟨_,rfl,l19,(have S19:=S18.adopt l19 O19;have q19:=l19;u_ Z (J_ Z) Z (u_ Z (J_ Z) Z (u_ Z (J_ Z) Z (aV_ (hK25 _ _ (l_ (ur (ret3 Z Z Z Z ?_))))))))⟩;obtain rfl:k=ps.length:=by omega
     rw [Nat.sub_self,List.take_zero] at hR2;have hR3:(rest b 7 x0)=(x.kind,bp.l,0):=hR2;rw [hR3];have hO:=S19.own 4 Z;rw [← hbpl] at hO;exact ⟨_,rfl,S19.like0,A19,c19,by rw [hbpl];rfl,hO⟩
theorem read_ (B:Option Addr) (m d:Nat) (b:List UInt8) (at_:Int) (w0:World) (hb:Rs w0 1 B m d (bL b)) (hm5:m≤100000) (hat : -9223372036854775808≤at_∧at_≤9223372036854775807) :
    Calls Tryz.prog 32 #[.slice B m d,.int .i64 at_] w0 fun e w'=>∃ u,e=.returned u∧Like w0 w'∧WholeV w0 w' (readP b at_) u:=by
 refine v_ (env:=[(0,.slice B m d),(1,.int .i64 at_)]) [.slice B m d,.int .i64 at_] Tryz.func32 Z Tryz.ntmps32 Z Z ?_;have hl:=hb.lenb;have hcap:=hb.cap;have hmax:=hb.max;have S0:=St.start w0 noM;refine a_ fun K1 hK1=>b_ (La Z Z (La Z Z (Lan Z Z (hK1 _ _ (a_ fun K2 hK2=>Rm Z Z (Lm Z Z (L_o (o_ Tryz.func66 Z Z (open_ B m d b at_ false w0 (S0.rd hb) hm5 hat) Z Z ?_))))))));rintro e1 w1 ⟨v1,rfl,l1,hO1⟩;refine ⟨_,rfl,?_⟩;have S1:=S0.like l1;obtain ⟨q1,rfl,hq1,hf1⟩:=hO1;have S2:=addNew S0 l1 hf1;have hn1:=NP.new S0 hf1;refine Lm Z Z (L_y (j_ Z Z) Z (L_y (j_ Z Z) Z (L_o (F_ zz127 S2 Z fun b3 w3 hb3 S3=>L_o (D_ S3 1 Z Z Z bc_ (by rfl) (bs_ _ _) fun w4 S4=>?_)))));refine Lan Z Z (hK2 _ _ (a_ fun K3 hK3=>a_ fun K4 hK4=>Rm Z Z (L_y (V_ Z Z) Z (d_ (hK4 _ _ ?_)))));refine n_ Z (fun h16=>?_) (fun h16=>?_)
 ·
  refine a_ fun K5 hK5=>Rm Z Z (La Z Z (La Z Z (Lan Z Z (hK5 _ _ (l_ (ur (ret3 Z Z Z Z (⟨_,rfl,S4.like0,whole_no ?_⟩))))))));exact rdF_e (f:=8) Z h16
 ·
  obtain ⟨hok,hk12,hkl,_⟩:=opV_ok (b:=b) (at_:=at_) (deep:=false) (Classical.not_not.1 h16);refine m_ (hK3 _ _ (a_ fun K6 hK6=>Rm Z Z (L_y (X_ Tryz.underlying127 Z bc_ Z (S4.blk 1 Z) (show _=(enA (opV b at_ false).2 q1).toList∧_ from ⟨rfl,rfl⟩)) Z (L_o (o_ Tryz.func67 Z Z (whole B m d b (opV b at_ false).2 q1 at_ w4 (S4.rd hb) hm5 (hn1.ok S4 (S4.get 0 Z)) hq1 hok (by omega)) Z Z ?_)))));rintro e5 w5 ⟨v5,rfl,l5,hW5⟩;refine ⟨_,rfl,?_⟩;have S5:=S4.like l5;obtain ⟨A5,c5,rfl,O5⟩:=hW5;have S6:=S4.adopt l5 O5;refine L_y (j_ Z Z) Z (L_y (j_ Z Z) Z (L_y (j_ Z Z) Z (La Z Z (La Z Z (Lan Z Z (hK6 _ _ (l_ (ur (ret3 Z Z Z Z ?_)))))))));have hr9:readP b at_=rest b 7 (opV b at_ false).2:=rdF_ok (f:=8) (Classical.not_not.1 h16);rw [hr9];exact ⟨_,rfl,S6.like0,_,_,rfl,S6.own 2 Z⟩
end Go.Proofs.YtgaklngnfecdaaaGreat.Pak
namespace Go.Proofs.YtgaklngnfecdaaaGreat.Pak
open Go.RowKit Zk Zx
open Sha (N xorN andN notN N_ge N_le)
open Go.Proofs.YtgaklngnfecdaaaGreat.Obj (ab_ objB aN_ U_ aM_ bl_ zB y_ aS_)
open Oct (vaN rwL rwP rwE rnL rnP rnE be vr tl M_)
open Del (scA opf OP OkO mkV encV putR ag_ aplR)
def SmallI (its:List It):Prop:=its.length≤24∧∀ x ∈ its,x.p.n≤300
theorem write_ {A:Option Addr} {n c:Nat} {its:List It} {chain:Int} {w0:World} (hits:Rs w0 2 A n c (its.flatMap itf)) (hok:OkI w0 its) (hs:SmallI its) :
    Calls Tryz.prog 28 #[.slice A n c,.int .i64 chain] w0 fun e w'=>∃ u,e=.returned u∧WriteV w0 w' chain (its.map It.v) u:=by
  by_cases h:nameE (its.map It.v)=0
  · exact write1 A n c its chain w0 hits hok hs.2 hs.1 h
  · exact write0 A n c its chain w0 hits hok hs.2 hs.1 h
def hiB:List UInt8:=[104,105]
def hiI (p:Part):It:=⟨1,p⟩
theorem hi_ok:ab_ 1 hiB=0:=by unfold ab_ hiB;rfl
theorem hi_name:nameE [(1,hiB)]=0:=nameE_0 (by unfold nmE;rw [if_neg (fun q=>q hi_ok)];rfl) (by simp [idsV])
theorem hi_wr:wrE 2 [(1,hiB)]=0:=by unfold wrE;rw [if_neg (by omega)];exact hi_name
theorem hi_written:Written 2 [(1,hiB)]:=written (by omega) (by simp) (fun x hx=>by obtain rfl:=List.mem_singleton.1 hx;decide) (fun x hx=>by obtain rfl:=List.mem_singleton.1 hx;exact hi_ok)
theorem hi_os:∃ o,(aA_ 2 [(1,hiB)]).os[0]?=some o∧o.at_=12:=by
  have h1:=hi_written.cnt
  obtain ⟨o,ho⟩:∃ o,(aA_ 2 [(1,hiB)]).os[0]?=some o:=⟨_,List.getElem?_eq_getElem (by rw [h1];simp)⟩
  refine ⟨o,ho,?_⟩
  have h2:(aA_ 2 [(1,hiB)]).os[0]?.elim (aA_ 2 [(1,hiB)]).bs.length Ob.at_=12:=first_at
  rwa [ho] at h2
theorem hi_read:readP (aK_ 2 [(1,hiB)]) 12=(1,hiB,0):=by
  obtain ⟨o,ho,h12⟩:=hi_os
  have h:=hi_written.read ho
  rw [h12] at h
  have hi:=hi_written.item ho
  have h2:(1,hiB)=(o.kind,o.l):=Option.some.inj hi
  have e1:o.kind=1:=(congrArg Prod.fst h2).symm
  have e2:o.l=hiB:=(congrArg Prod.snd h2).symm
  rw [e1,e2] at h
  exact h
theorem hi_len:(aK_ 2 [(1,hiB)]).length≤100000:=by
  have:=hi_written.hi
  unfold aK_
  rw [List.length_append,Sha.ad_]
  omega
theorem write_yes {w0 w':World} {chain:Int} {l:List IV} {u:Value} (h:WriteV w0 w' chain l u) (he:wrE chain l=0):∃ A c A2 c2,u=.tuple #[.slice A (aK_ chain l).length c,.slice A2 l.length c2,.int .i64 0]∧Zx.St w0 noM [row 5 1 A (aK_ chain l).length c (bL (aK_ chain l)),row 67 34 A2 l.length c2 ((aA_ chain l).os.flatMap plO)] w':=by
  rcases h with ⟨h,_⟩ | ⟨_,h⟩
  · exact absurd he h
  · exact h
theorem hi_str (l:List UInt8) (h:l=hiB):decide ((⟨l.toArray⟩:ByteArray)=⟨#[104,105]⟩)=true:=by subst h;rfl
theorem small (A:Option Addr) (n c:Nat) (its:List It) (w0:World) (hits:Rs w0 2 A n c (its.flatMap itf)) :
    Calls Tryz.prog 26 #[.slice A n c] w0 fun e w'=>∃ u,e=.returned u∧Like w0 w'∧∃ b,u=.bool b∧(b=true↔SmallI its):=by
 refine v_ (env:=[(0,.slice A n c)]) [.slice A n c] Tryz.func26 Z Tryz.ntmps26 Z Z ?_;have hn:=its_len hits;have hcap:=hits.cap;have hmax:=hits.max;have S0:=St.start w0 noM;refine a_ fun K1 hK1=>b_ (Lan Z Z (hK1 _ _ (a_ fun K2 hK2=>a_ fun K3 hK3=>b_ (Lan Z Z (hK3 _ _ (r_ ?_))))));refine ar_ [(0,_)] (fun (k:Nat)=>[(3,.int .i64 (k:Int))]) (fun (k:Nat)=>n - k) (fun (k:Nat) (w:World)=>(k≤n∧k≤24∧∀ x ∈ its.take k,x.p.n≤300)∧Zx.St w0 noM [] w) 0 (Sc Z (Sub.nil _)) (Sub.cons Z Z (Sub.nil _)) ?_ ?_
 ·
  exact ⟨⟨by omega,by omega,fun x hx=>by simp at hx⟩,S0⟩
 ·
  intro k w1 hrel;obtain ⟨⟨hk,hk2,hall⟩,S1⟩:=hrel;refine a_ fun K4 hK4=>a_ fun K5 hK5=>Rm Z Z (Lm Z Z (L_y (K_ Tryz.underlying48 Z) Z (L_y (P_ Z Z) Z (d_ (hK5 _ _ ?_)))));refine n_ Z (fun h7=>?_) (fun h7=>?_)
  ·
   obtain ⟨x,hx⟩:∃ x,its[k]?=some x:=⟨_,List.getElem?_eq_getElem (by omega)⟩;have hxm:=List.mem_of_getElem? hx;refine m_ (hK4 _ _ (a_ fun K6 hK6=>r_ (a_ fun K7 hK7=>Rm Z Z (L_y (y_geq Z Z) Z (Lm Z Z ?_)))));refine B_ 12 Z (fun h12=>?_) (fun h12=>?_)
   ·
    refine h_ Z Z Z (h_ Z Z Z (h_ Z Z Z (h_ Z Z Z (h_ Z Z Z (h_ Z Z Z (h_ Z Z Z (Lp Z Z Z (d_ (hK7 _ _ (W_ Z (a_ fun K8 hK8=>b_ (La Z Z ?_))))))))))));refine d_ (hK8 _ _ (l_ (ur (G_ Z Z ?_))));exact ⟨_,rfl,S1.like0,_,rfl,by constructor;(intro q;cases q);(intro q;have q1:=q.1;have q2:=q.2 x hxm;omega)⟩
   ·
    refine g_ Z Z (Lm Z Z (g_ Z Z (Lm Z Z (g_ Z Z (L_y (S_ Tryz.underlying48 sz65 Z Z (S1.rd hits) inferInstance (by omega)) Z (g_ Z Z (L_y (aB_ 1 Tryz.underlying65 Z sz22 Z Z (S1.rd hits) (by omega) Z) Z (g_ Z Z (L_y (y_ldf Tryz.underlying22 Z Z (S1.rd hits) (by omega) ((bw_ itf 2 bC_ its k x hx 1 (by omega)).trans (by rfl))) Z ?_)))))))));refine g_ Z Z (L_y (K_ Tryz.underlying22 Z) Z (g_ Z Z (L_y (af_ Z Z) Z (Lp Z Z Z (d_ (hK7 _ _ ?_))))));refine n_ Z (fun h20=>?_) (fun h20=>?_)
    ·
     refine a_ fun K9 hK9=>b_ (Lan Z Z (hK9 _ _ (l_ (ur (G_ Z Z ?_)))));exact ⟨_,rfl,S1.like0,_,rfl,by constructor;(intro q;cases q);(intro q;have q1:=q.1;have q2:=q.2 x hxm;omega)⟩
    ·
     refine m_ (hK6 _ _ (Rm Z Z (L_y (w_ Z Z (E_ (by omega))) Z (Lan Z Z (⟨k+1,by omega,⟨⟨by omega,by omega,fun y hy=>by rw [take1i hx] at hy;rcases List.mem_append.1 hy with q | q;exact hall y q;(obtain rfl:=List.mem_singleton.1 q);omega⟩,S1⟩,?_⟩)))));exact (Sc Z (Sub.cons Z Z (Sub.nil _)))
  ·
   refine Q_ (hK2 _ _ (a_ fun K10 hK10=>b_ (Lan Z Z (hK10 _ _ (l_ (ur (G_ Z Z ?_)))))));exact ⟨_,rfl,S1.like0,_,rfl,⟨fun _=>⟨by omega,fun y hy=>hall y (by rw [List.take_of_length_le (by omega)];exact hy)⟩,fun _=>rfl⟩⟩
theorem works  (w0:World)  :
    Calls Tryz.prog 27 #[] w0 fun e w'=>∃ u,e=.returned u∧Like w0 w'∧u=.bool true:=by
 refine v_ (env:=[]) [] Tryz.func27 Z Tryz.ntmps27 Z Z ?_;have S0:=St.start w0 noM;refine a_ fun K1 hK1=>?_;obtain ⟨o,ho,h12⟩:=hi_os;refine b_ (Lan Z Z (hK1 _ _ (a_ fun K2 hK2=>b_ (L_o (aW_ [_,_] te22 zz5 S0 Z Z Z Z Z Z Z Z fun b1 w1 S1=>L_o (o_bconst S1 0 Z Tryz.underlying22 Tryz.underlying5 Z (by omega) Z fun w2 S2=>L_y (C_ Z (show _=some #[.int .i64 1,.slice (some ⟨b1,0,none⟩) 2 2] by kernel_rfl)) Z (L_o (aW_ (itf (hiI ⟨some ⟨b1,0,none⟩,2,2,hiB⟩)) te48 zz65 S2 Z Z Z Z Z Z Z Z fun b3 w3 S3=>L_o (o_ Tryz.func28 Z Z (write_ (its:=[hiI ⟨some ⟨b1,0,none⟩,2,2,hiB⟩]) (S3.row 1 Z) (fun x hx=>by obtain rfl:=List.mem_singleton.1 hx;exact S3.fix 0 Z) ⟨by simp,fun x hx=>by obtain rfl:=List.mem_singleton.1 hx;show 2≤300;omega⟩) Z Z ?_)))))))));rintro e4 w4 ⟨v4,rfl,hW4⟩;refine ⟨_,rfl,?_⟩;have S4:=S3;obtain ⟨Ap,cp,Aq,cq,rfl,T4⟩:=write_yes hW4 hi_wr;have S5:=S3.adoptS T4;refine Lm Z Z (L_y (j_ Z Z) Z (L_y (j_ Z Z) Z (L_y (j_ Z Z) Z (La Z Z (La Z Z (Lan Z Z (hK2 _ _ (a_ fun K3 hK3=>a_ fun K4 hK4=>Rm Z Z (L_y (V_ Z Z) Z ?_)))))))));refine Lm Z Z ?_;refine B_ 18 Z (fun h18=>?_) (fun h18=>?_)
 ·
  exact absurd Z h18
 ·
  refine g_ Z Z (Lm Z Z (g_ Z Z (L_y (K_ Tryz.underlying50 Z) Z (g_ Z Z (L_y (V_ Z Z) Z (Lp Z Z Z (Lm Z Z ?_)))))));refine B_ 23 Z (fun h23=>?_) (fun h23=>?_)
  ·
   exact absurd Z h23
  ·
   refine g_ Z Z (Lm Z Z (g_ Z Z (L_y (S_ Tryz.underlying50 sz67 Z Z (S5.row 3 Z) inferInstance (by omega)) Z (g_ Z Z (L_y (aB_ 32 Tryz.underlying67 Z sz3 Z Z (S5.row 3 Z) (by omega) Z) Z (g_ Z Z (L_y (y_ldf Tryz.underlying3 Z Z (S5.row 3 Z) (by omega) ((bw_ plO 34 plO_len _ 0 o ho 32 (by omega)).trans ((plOl32 o).trans (show _=some (Value.int .i64 12) by rw [h12];rfl)))) Z ?_)))))));refine g_ Z Z (L_y (V_ Z Z) Z (Lp Z Z Z (d_ (hK4 _ _ ?_))));refine n_ Z (fun h29=>?_) (fun h29=>?_)
   ·
    exact absurd Z h29
   ·
    refine m_ (hK3 _ _ (a_ fun K5 hK5=>Rm Z Z (L_o (o_ Tryz.func32 Z Z (read_ _ _ _ (aK_ 2 [(1,hiB)]) 12 w4 (S5.row 2 Z) hi_len (by omega)) Z Z ?_))));rintro e8 w8 ⟨v8,rfl,l8,hW8⟩;refine ⟨_,rfl,?_⟩;have S8:=S5.like l8;rw [hi_read] at hW8;obtain ⟨A8,c8,rfl,O8⟩:=hW8;have S9:=S5.adopt l8 O8;refine Lm Z Z (L_y (j_ Z Z) Z (L_y (j_ Z Z) Z (L_y (j_ Z Z) Z (La Z Z (La Z Z (Lan Z Z (hK5 _ _ (a_ fun K6 hK6=>Rm Z Z (L_y (ao_ Z Z) Z (Lm Z Z ?_))))))))));refine B_ 38 Z (fun h38=>?_) (fun h38=>?_)
    ·
     refine g_ Z Z (Lm Z Z (g_ Z Z (L_y (ao_ Z Z) Z (Lp Z Z Z (Lm Z Z ?_)))));refine B_ 42 Z (fun h42=>?_) (fun h42=>?_)
     ·
      refine g_ Z Z (Lm Z Z (g_ Z Z (L_y (y_bstr Tryz.underlying22 Tryz.underlying5 Tryz.underlying9 Z (by first | exact S9.fix 0 Z | exact S9.row 1 Z | exact S9.row 4 Z)) Z ?_)));refine g_ Z Z (L_y (y_seql Z Z) Z (Lp Z Z Z (Lan Z Z (hK6 _ _ (l_ (ur (G_ Z Z ?_)))))));exact ⟨_,rfl,S9.like0,congrArg Value.bool (hi_str _ Z)⟩
     ·
      exact absurd Z h42
    ·
     exact absurd Z h38
end Go.Proofs.YtgaklngnfecdaaaGreat.Pak
namespace Go.Proofs.YtgaklngnfecdaaaGreat.Pak
open Go.RowKit Zk Zx
open Sha (N xorN andN notN N_ge N_le)
open Go.Proofs.YtgaklngnfecdaaaGreat.Obj (ab_ objB aN_ U_ aM_ bl_ zB y_ aS_)
open Oct (vaN rwL rwP rwE rnL rnP rnE be vr tl M_)
open Del (scA opf OP OkO mkV encV putR ag_ aplR)
theorem write_no {A:Option Addr} {n c:Nat} {its:List It} {chain:Int} {w0:World} (hits:Rs w0 2 A n c (its.flatMap itf)) (hok:OkI w0 its) (hs:SmallI its) (h:wrE chain (its.map It.v)≠0) :
    Calls Tryz.prog 28 #[.slice A n c,.int .i64 chain] w0 fun e w'=>∃ u,e=.returned u∧Like w0 w'∧u=.tuple #[.slice none 0 0,.slice none 0 0,.int .i64 (wrE chain (its.map It.v))] :=
  (write_ hits hok hs).mono fun e w' ⟨u,h1,h2⟩=>by
    obtain ⟨_,h3,h4⟩:=h2.resolve_right (fun q=>h q.1)
    exact ⟨u,h1,h3,h4⟩
end Go.Proofs.YtgaklngnfecdaaaGreat.Pak
namespace Go.Proofs.YtgaklngnfecdaaaGreat.Pak
open Go.ChangeShapes Go.WideShapes Go.ChangeAt Go.RowKit Go.Deep Zk Zx
section
variable {H : Type} {enc : TypeId × Value → H} {w : World} {base : Nat} {spare : Nat → Bool} {held : Bool}
theorem read_item {fuel:Nat} {cs:List Value} {x:DataW H × List MemPlace} (hlen:cs.length=2) (h:DataW.trod enc Tryz.prog w base spare held fuel 65 cs=some x):∃ o:It,cs=itf o∧o.p.ok w:=by
  obtain ⟨xs,n,_,hx,hl,hlen2,hg⟩:=DataW.trod_struct Tryz.underlying65 h
  have e0:=hg 0 _ Z
  have e1:=hg 1 _ Z
  change DataW.trod enc Tryz.prog w base spare held n 3 ((cs.drop 0).take (Tryz.prog.cellsOf 3))=_ at e0
  change DataW.trod enc Tryz.prog w base spare held n 22 ((cs.drop 1).take (Tryz.prog.cellsOf 22))=_ at e1
  have c3:Tryz.prog.cellsOf 3=1:=by kernel_rfl
  have c22:Tryz.prog.cellsOf 22=1:=by kernel_rfl
  rw [c3] at e0
  rw [c22] at e1
  have hxl:xs.length=2:=hlen2
  match cs,hlen,xs,hxl with
  | [v0,v1],_,[y0,y1],_ =>
    have e0:DataW.trod enc Tryz.prog w base spare held n 3 [v0]=some y0:=e0
    have e1:DataW.trod enc Tryz.prog w base spare held n 22 [v1]=some y1:=e1
    obtain ⟨i0,h0,_,_⟩:=DataW.trod_int Tryz.underlying3 e0
    obtain ⟨A,n,c,l,h1,h2⟩:=read_bytesS Tryz.underlying22 Tryz.underlying5 (by kernel_rfl) e1
    cases h0
    cases h1
    exact ⟨⟨i0,⟨A,n,c,l⟩⟩,rfl,h2⟩
theorem open_items {r:Reach} {b0:Nat} {v:Value} {d:DataW H} {p:List MemPlace} (hv:Value.okWide Tryz.prog w r b0 48 v) (h:DataW.Trod enc Tryz.prog w base spare held 48 v d p) :
    ∃ A n c,∃ its:List It,v=.slice A n c∧Rs w 2 A n c (its.flatMap itf)∧OkI w its:=by
  obtain ⟨fuel,hf⟩:=h
  obtain ⟨A,n,c,l,h1,h2,h3,_⟩:=read_rowNB itf (fun o=>o.p.ok w) (fun _=>1) 2 Tryz.underlying48 (by kernel_rfl) (by decide) bC_ (fun k cs x hl hx=>by
    obtain ⟨o,ho,h6⟩:=read_item hl hx
    exact ⟨o,ho,h6,bulk_pos _⟩) hf
  exact ⟨A,n,c,l,slice_of_cells Tryz.underlying48 hv h1,h2,h3⟩
end
end Go.Proofs.YtgaklngnfecdaaaGreat.Pak
namespace Go.Proofs.YtgaklngnfecdaaaGreat.Pak
open Go.RowKit Zk Zx
open Sha (N xorN andN notN N_ge N_le)
open Go.Proofs.YtgaklngnfecdaaaGreat.Obj (ab_ objB aN_ U_ aM_ bl_ zB y_ aS_)
open Oct (vaN rwL rwP rwE rnL rnP rnE be vr tl M_)
open Del (scA opf OP OkO mkV encV putR ag_ aplR)
def trailB (b:List UInt8):List UInt8:=if b.length < 44 then zB else b.drop (b.length - 32)
theorem trailB_len (b:List UInt8):(trailB b).length=32:=by
  unfold trailB
  split
  · exact y_
  · rw [List.length_drop];omega
def trailE (b:List UInt8):Int:=if b.length < 44 then 10 else 0
theorem trail_no {b:List UInt8} (h:b.length < 44):trailB b=zB∧trailE b=10:=⟨if_pos h,if_pos h⟩
theorem trail_ok {b:List UInt8} (h:¬ b.length < 44):trailB b=b.drop (b.length - 32)∧trailE b=0:=⟨if_neg h,if_neg h⟩
theorem tr_part (b:List UInt8):((bA (trailB b)).toList.drop 0).take 32=bL (trailB b)∧(bL (trailB b)).length=32:=by
  have h:(bL (trailB b)).length=32:=by rw [length_bL,trailB_len]
  exact ⟨by rw [List.drop_zero];exact List.take_of_length_le (Nat.le_of_eq h),h⟩
theorem pack_ne (l:List UInt8):((⟨l.toArray⟩:ByteArray)≠⟨#[80,65,67,75]⟩)↔l≠[80,65,67,75]:=by
  constructor
  · intro h e;exact h (by rw [e])
  · intro h e
    have e2:l.toArray = #[80,65,67,75]:=congrArg ByteArray.data e
    exact h (by have:=congrArg Array.toList e2;simpa using this)
theorem head4 (b:List UInt8):((b.take 12).drop 0).take 4=b.take 4:=by rw [List.drop_zero,List.take_take];rfl
theorem head8 (b:List UInt8):((b.take 12).drop 4).take 4=(b.drop 4).take 4:=by rw [List.drop_take,List.take_take];rfl
theorem head12 (b:List UInt8):((b.take 12).drop 8).take 4=(b.drop 8).take 4:=by rw [List.drop_take,List.take_take];rfl
theorem rw_ok {l:List UInt8} {p k:Nat} (h:p+k≤l.length):rwL l p 0 k=(l.drop p).take k∧rwP l p 0 k=p+k∧rwE l p 0 k=0:=by
  have h2:k≤l.length - p:=by omega
  exact ⟨by rw [Oct.rwL,if_pos Z,Oct.tkL,if_pos h2],by rw [Oct.rwP,if_pos Z,Oct.tkP,if_pos h2],by rw [Oct.rwE,if_pos Z,Oct.tkE_ok h2]⟩
theorem be4 (l:List UInt8) (h:l.length≤4):be l < 4294967296:=by
  have h1:=Oct.be_lt l
  have h2:256 ^ l.length≤256 ^ 4:=Nat.pow_le_pow_right (by omega) h
  omega
def cntE (b:List UInt8):Int:=if headE b=0 then (cntB b:Int) else 0
theorem trailer (B:Option Addr) (m d:Nat) (b:List UInt8) (w0:World) (hb:Rs w0 1 B m d (bL b)) :
    Calls Tryz.prog 36 #[.slice B m d] w0 fun e w'=>∃ u,e=.returned u∧Like w0 w'∧u=.tuple #[.agg (bA (trailB b)),.int .i64 (trailE b)]:=by
 refine v_ (env:=[(0,.slice B m d)]) [.slice B m d] Tryz.func36 Z Tryz.ntmps36 Z Z ?_;have hl:=hb.lenb;have hcap:=hb.cap;have hmax:=hb.max;have S0:=St.start w0 noM;refine a_ fun K1 hK1=>b_ (L_o (F_ zz41 S0 Z fun b1 w1 hb1 S1=>have S2:=S1.blkc 0 Z (cs':=bA zB) (by kernel_rfl);Lan Z Z (hK1 _ _ (a_ fun K2 hK2=>a_ fun K3 hK3=>Rm Z Z (L_y (K_ Tryz.underlying22 Z) Z (L_y (P_ Z Z) Z (d_ ?_)))))));refine hK3 _ _ ?_;refine n_ Z (fun h6=>?_) (fun h6=>?_)
 ·
  refine a_ fun K4 hK4=>b_ (L_y (C_ Z (show _=some (bA zB) by kernel_rfl)) Z (L_o (D_ S2 0 Z Z Z (by first | exact ae_ | (rw [size_bA,e32l];exact ae_)) (by first | rfl | (rw [size_bA,size_bA,e32l];rfl)) (Sha.bA_one _) fun w3 S3=>?_)));refine Lan Z Z (hK4 _ _ (l_ (ur (aa_ Z Z Z (S3.blk 0 Z) Tryz.underlying41 Z (by first | exact ae_ | (rw [size_bA,e32l];exact ae_)) ?_))));obtain ⟨t1,t2⟩:=trail_no (b:=b) (by omega);exact ⟨_,rfl,S3.like0,by rw [t1,t2]⟩
 ·
  have e32:(b.drop (m - 32)).take 32=b.drop (m - 32):=List.take_of_length_le (by rw [List.length_drop];omega);have e32l:((b.drop (m - 32)).take 32).length=32:=by rw [e32,List.length_drop];omega
  refine m_ (hK2 _ _ (a_ fun K5 hK5=>Rm Z Z (Lm Z Z (L_y (K_ Tryz.underlying22 Z) Z (L_y (aE_ Z Z (E_ (by omega))) Z (L_y (bE_ Tryz.underlying22 sz5 Z Z (Nt.mk (by omega):Nt _ (m - 32)) (by omega)) Z (L_y (y_arrAt Tryz.underlying41 Z (by omega)) Z (L_y (y_ldArr Tryz.underlying41 ae_ Z (aS_ (m - 32) (S2.rd hb) (by omega)) (by omega) (by omega)) Z (L_o (D_ S2 0 Z Z Z (by first | exact ae_ | (rw [size_bA,e32l];exact ae_)) (by first | rfl | (rw [size_bA,size_bA,e32l];rfl)) (Sha.bA_one _) fun w4 S4=>?_))))))))));refine Lan Z Z (hK5 _ _ (l_ (ur (aa_ Z Z Z (S4.blk 0 Z) Tryz.underlying41 Z (by first | exact ae_ | (rw [size_bA,e32l];exact ae_)) ?_))));obtain ⟨t1,t2⟩:=trail_ok (b:=b) (by omega);exact ⟨_,rfl,S4.like0,by rw [t1,t2,hl,e32]⟩
theorem count (B:Option Addr) (m d:Nat) (b:List UInt8) (w0:World) (hb:Rs w0 1 B m d (bL b)) (hm5:m≤100000) :
    Calls Tryz.prog 71 #[.slice B m d] w0 fun e w'=>∃ u,e=.returned u∧Like w0 w'∧u=.tuple #[.int .i64 (cntE b),.int .i64 (headE b)]:=by
 refine v_ (env:=[(0,.slice B m d)]) [.slice B m d] Tryz.func71 Z Tryz.ntmps71 Z Z ?_;have hl:=hb.lenb;have hcap:=hb.cap;have hmax:=hb.max;have S0:=St.start w0 noM;refine a_ fun K1 hK1=>b_ (La Z Z (Lan Z Z (hK1 _ _ (a_ fun K2 hK2=>a_ fun K3 hK3=>Rm Z Z (L_y (K_ Tryz.underlying22 Z) Z (L_y (af_ Z Z) Z (d_ (hK3 _ _ ?_))))))));refine n_ Z (fun h10=>?_) (fun h10=>?_)
 ·
  omega
 ·
  refine m_ (hK2 _ _ (a_ fun K4 hK4=>Rm Z Z (L_o (o_ Tryz.func36 Z Z (trailer B m d b w0 (S0.rd hb)) Z Z ?_))));rintro e1 w1 ⟨v1,rfl,l1,rfl⟩;refine ⟨_,rfl,(have S1:=S0.like l1;Lm Z Z (L_y (j_ Z Z) Z (L_y (j_ Z Z) Z (L_o (F_ zz41 S1 Z fun b2 w2 hb2 S2=>have S3:=S2.blkc 0 Z (cs':=bA zB) (by kernel_rfl);L_o (D_ S3 0 Z Z Z (by first | exact ae_ | (rw [size_bA,trailB_len];exact ae_)) (by first | rfl | (rw [size_bA,size_bA,trailB_len];rfl)) (Sha.bA_one _) fun w4 S4=>?_))))))⟩;refine Lan Z Z (hK4 _ _ (a_ fun K5 hK5=>a_ fun K6 hK6=>Rm Z Z (L_y (V_ Z Z) Z (d_ (hK6 _ _ ?_)))));refine n_ Z (fun h17=>?_) (fun h17=>?_)
  ·
   refine a_ fun K7 hK7=>Rm Z Z (La Z Z (Lan Z Z (hK7 _ _ (l_ (ur (aF_ Z Z Z ?_))))));have hlt:b.length < 44:=by by_cases h:b.length < 44;exact h;exact absurd (trail_ok h).2 h17
   obtain ⟨q1,q2⟩:=trail_no hlt;have he:=headE_10 hlt;exact ⟨_,rfl,S4.like0,by unfold cntE;rw [he];show Value.tuple #[.int .i64 0,.int .i64 (trailE b)]=_;rw [q2];rfl⟩
  ·
   have h44:¬ b.length < 44:=fun h=>h17 (by rw [(trail_no h).2];decide);obtain ⟨t1,t2⟩:=trail_ok h44;refine m_ (hK5 _ _ (a_ fun K8 hK8=>Rm Z Z (L_y (y_sliceH Tryz.underlying22 sz5 Z Z inferInstance (by omega)) Z (L_o (o_ Tryz.func96 Z Z (Oct.rnew _ _ _ (b.take 12) w4 ((S4.rd hb).cutb (l:=0) (u:=12) (by omega) (by omega)) (by omega)) Z Z ?_)))));rintro e5 w5 ⟨v5,rfl,l5,g1,A1,c1,rfl,hh5,dd5⟩;refine ⟨_,rfl,(have S5:=S4.new l5 _ hh5 dd5;Lan Z Z (hK8 _ _ (a_ fun K9 hK9=>a_ fun K10 hK10=>Rm Z Z (L_o (o_ Tryz.func104 Z Z (Oct.rraw g1 A1 (12 - 0) c1 (b.take 12) 0 0 (4:Nat) w5 (S5.get 1 Z) (by omega) (by omega) (by omega)) Z Z ?_)))))⟩;rintro e6 w6 ⟨v6,rfl,T6,B7,d7,rfl,hr6,hd6⟩;refine ⟨_,rfl,?_⟩;have S6:=S5.turn 1 Z T6;obtain ⟨e1,e2,e3⟩:=Oct.rn_ok (l:=b.take 12) (p:=0) (k:=4) (by rw [List.length_take];omega);rw [e1,head4] at hr6 hd6;rw [e2,e3] at S6;rw [e1,head4];refine L_y (y_bstr Tryz.underlying22 Tryz.underlying5 Tryz.underlying9 Z (by first | exact bz_ hr6 | exact S6.row 1 Z)) Z ?_;refine L_y (y_sneq Z Z) Z (Lm Z Z ?_);refine B_ 26 Z (fun h26=>?_) (fun h26=>?_)
   ·
    refine h_ Z Z Z (h_ Z Z Z (h_ Z Z Z (Lp Z Z Z (d_ (hK10 _ _ (W_ Z (a_ fun K11 hK11=>b_ (La Z Z (Lan Z Z (hK11 _ _ (l_ ?_)))))))))));refine ur (aF_ Z Z Z ?_);have he:headE b=_:=headE_12 (by omega) (by first | exact .inl ((pack_ne _).1 h26) | exact .inr (fun q=>h30 (by have h9:be (((b.take 12).drop (0+4)).take 4)=be ((b.drop 4).take 4):=congrArg be (head8 b);omega)));exact ⟨_,rfl,S6.like0,by unfold cntE;rw [he];rfl⟩
   ·
    refine g_ Z Z (Lm Z Z (g_ Z Z (L_o (o_ Tryz.func105 Z Z (Oct.ru32 g1 A1 (12 - 0) c1 (b.take 12) (0+4) 0 w6 (S6.get 1 Z) (by rw [List.length_take];omega) (by omega)) Z Z ?_))));rintro e8 w8 ⟨v8,rfl,rfl,T8⟩;refine ⟨_,rfl,?_⟩;have S8:=S6.turn 1 Z T8;obtain ⟨e1,e2,e3⟩:=rw_ok (l:=b.take 12) (p:=0+4) (k:=4) (by rw [List.length_take];omega);rw [e1];rw [e2,e3] at S8;refine g_ Z Z (L_y (V_ Z Z) Z (Lp Z Z Z (d_ (hK10 _ _ ?_))));refine n_ Z (fun h30=>?_) (fun h30=>?_)
    ·
     refine a_ fun K12 hK12=>b_ (La Z Z (Lan Z Z (hK12 _ _ (l_ (ur (aF_ Z Z Z ?_))))));have he:headE b=_:=headE_12 (by omega) (by first | exact .inl ((pack_ne _).1 h26) | exact .inr (fun q=>h30 (by have h9:be (((b.take 12).drop (0+4)).take 4)=be ((b.drop 4).take 4):=congrArg be (head8 b);omega)));exact ⟨_,rfl,S8.like0,by unfold cntE;rw [he];rfl⟩
    ·
     have hform:¬ (b.take 4≠[80,65,67,75]∨be ((b.drop 4).take 4)≠1):=fun q=>by rcases q with q | q;exact h26 ((pack_ne _).2 q);exact q (by have h9:=congrArg be (head8 b);have h8:be (((b.take 12).drop (0+4)).take 4)=be ((b.drop 4).take 4):=h9;omega)
     refine m_ (hK9 _ _ (a_ fun K13 hK13=>a_ fun K14 hK14=>av_ [(0,true),(1,true),(2,true),(3,true),(4,true),(7,true),(5,false),(6,false),(8,true)] hmix (by kernel_rfl) fun w9 l9=>have S9:=S8.like l9;u_ Z (p_ Z) Z (u_ Z (p_ Z) Z (u_ Z (K_ Tryz.underlying22 Z) Z (u_ Z (aE_ Z Z (E_ (by omega))) Z (u_ Z (y_sliceH Tryz.underlying22 sz5 Z Z (Nt.mk (by omega):Nt _ (m - 32)) (by omega)) Z (u_ Z (X_ Tryz.underlying41 Z ae_ Z (S9.blk 0 Z) (tr_part b)) Z (DL_o Z (o_bslL [_] te155 zz22 S9 Z Z Z Z Z Z Z Z fun b10 w10 l10 S10=>?_)))))))));have q10:=l10;refine ⟨q10,(DL_o Z (o_ Tryz.func50 Z Z (Sha.shaof [⟨_,_,_,b.take (m - 32)⟩] _ _ _ w10 (S10.row 2 Z) (fun p hp=>by obtain rfl:=List.mem_singleton.1 hp;exact (S10.rd hb).cutb (l:=0) (u:=m - 32) (by omega) (by omega)) (by rw [cat1,List.length_take];omega) (by simp)) Z Z ?_))⟩;rintro e11 w11 ⟨v11,rfl,l11,hu11⟩;refine ⟨_,rfl,(Like.trans q10 l11),?_⟩;have S11:=S10.like l11;rw [cat1] at hu11;subst hu11;have q11:=(Like.trans q10 l11);refine u_ Z (y_neB Tryz.underlying41 Tryz.underlying5 sz5 (by kernel_rfl) Z Z (Sha.ad_ _) (trailB_len _)) Z (aV_ (hK14 _ _ ?_));refine n_ Z (fun h39=>?_) (fun h39=>?_)
     ·
      have hsum:Sha.ofL (b.take (b.length - 32))≠b.drop (b.length - 32):=by rw [hl];rw [t1,hl] at h39;exact h39
      refine a_ fun K15 hK15=>b_ (La Z Z (Lan Z Z (hK15 _ _ (l_ (ur (aF_ Z Z Z ?_))))));have he:headE b=_:=headE_13 (by omega) hform hsum;exact ⟨_,rfl,S11.like0,by unfold cntE;rw [he];rfl⟩
     ·
      have hsum:¬ Sha.ofL (b.take (b.length - 32))≠b.drop (b.length - 32):=by rw [hl];rw [t1,hl] at h39;exact h39
      refine m_ (hK13 _ _ (a_ fun K16 hK16=>Rm Z Z (L_o (o_ Tryz.func105 Z Z (Oct.ru32 g1 A1 (12 - 0) c1 (b.take 12) (0+4+4) 0 w11 (S11.get 1 Z) (by rw [List.length_take];omega) (by omega)) Z Z ?_))));rintro e12 w12 ⟨v12,rfl,rfl,T12⟩;refine ⟨_,rfl,?_⟩;have S12:=S11.turn 1 Z T12;obtain ⟨f1,f2,f3⟩:=rw_ok (l:=b.take 12) (p:=0+4+4) (k:=4) (by rw [List.length_take];omega);rw [f1];have f4:be (((b.take 12).drop (0+4+4)).take 4)=be ((b.drop 8).take 4):=congrArg be (head12 b);rw [f4];have f5:=be4 ((b.drop 8).take 4) (by rw [List.length_take];omega);refine Lan Z Z (hK16 _ _ (a_ fun K17 hK17=>a_ fun K18 hK18=>Rm Z Z (L_y (af_ Z Z) Z (d_ (hK18 _ _ ?_)))));refine n_ Z (fun h43=>?_) (fun h43=>?_)
      ·
       refine a_ fun K19 hK19=>b_ (La Z Z (Lan Z Z (hK19 _ _ (l_ (ur (aF_ Z Z Z ?_))))));have he:headE b=_:=headE_5 (by omega) hform hsum (by show 600 < be _;omega);exact ⟨_,rfl,S12.like0,by unfold cntE;rw [he];rfl⟩
      ·
       refine m_ (hK17 _ _ (a_ fun K20 hK20=>Rm Z Z (L_y (T_ is63 Tryz.underlying3 Z (E_ (by omega))) Z (La Z Z (Lan Z Z (hK20 _ _ (l_ (ur (aF_ Z Z Z ?_)))))))));have he:headE b=_:=headE_0 (by omega) hform hsum (by show ¬ 600 < be _;omega);exact ⟨_,rfl,S12.like0,by unfold cntE;rw [he];rfl⟩
end Go.Proofs.YtgaklngnfecdaaaGreat.Pak
namespace Go.Proofs.YtgaklngnfecdaaaGreat.Pak
open Go.RowKit Zk Zx
open Sha (N xorN andN notN N_ge N_le)
open Go.Proofs.YtgaklngnfecdaaaGreat.Obj (ab_ objB aN_ U_ aM_ bl_ zB y_ aS_)
open Oct (vaN rwL rwP rwE rnL rnP rnE be vr tl M_)
open Del (scA opf OP OkO mkV encV putR ag_ aplR)
theorem opR_fin {t:List UInt8} {at_:Nat} {kind base:Int} {size p q:Nat} (hp:p≤t.length) (h:(opR t at_ kind base size p q).1=0):at_≤(opR t at_ kind base size p q).2.fin∧(opR t at_ kind base size p q).2.fin≤at_+t.length:=by
  by_cases h1:rnE t (rwP t p q 4) (rwE t p q 4) (size:Int)=0
  · by_cases h2:(crcL (rnL t (rwP t p q 4) (rwE t p q 4) (size:Int))).toNat≠be (rwL t p q 4)
    · rw [opR_13 h1 h2] at h;exact absurd h (by decide)
    · rw [opR_ok h1 h2]
      have h3:=rwP_le t p q 4 hp
      have h4:=rnP_le t (rwP t p q 4) (rwE t p q 4) (size:Int) h3
      exact ⟨by show at_≤at_+_;omega,by show at_+_≤at_+_;omega⟩
  · rw [opR_e h1] at h
    exact absurd h (by show ((rnE t (rwP t p q 4) (rwE t p q 4) (size:Int):Nat):Int)≠0;omega)
theorem opT_fin {t:List UInt8} {x:UInt8} {at_:Nat} {deep:Bool} (ht:1≤t.length) (h:(opT t x at_ deep).1=0):at_≤(opT t x at_ deep).2.fin∧(opT t x at_ deep).2.fin≤at_+t.length:=by
  have hp1:(vaN t 1 0 4000).2.1≤t.length:=Oct.vaN_le t 1 0 4000 ht
  by_cases h1:x.toNat < 1∨5 < x.toNat
  · rw [opT_19 h1] at h;exact absurd h (by decide)
  · by_cases h5:x.toNat=5
    · rw [opT_5 h5] at h ⊢
      by_cases g1:(vaN t (vaN t 1 0 4000).2.1 (vaN t 1 0 4000).2.2 1048576).2.2=0
      · by_cases g2:(vaN t (vaN t 1 0 4000).2.1 (vaN t 1 0 4000).2.2 1048576).1=0∨(at_:Int) - (vaN t (vaN t 1 0 4000).2.1 (vaN t 1 0 4000).2.2 1048576).1 < 12
        · rw [opM_21 g1 g2] at h;exact absurd h (by decide)
        · cases hd:deep with
          | true=>rw [opM_20 g1 g2 hd] at h;exact absurd h (by decide)
          | false =>
            rw [hd] at h
            rw [opM_r (.inr ⟨g2,rfl⟩)] at h ⊢
            exact opR_fin (Oct.vaN_le t _ _ 1048576 hp1) h
      · rw [opM_r (.inl g1)] at h ⊢
        exact opR_fin (Oct.vaN_le t _ _ 1048576 hp1) h
    · rw [opT_w h1 h5] at h ⊢
      exact opR_fin hp1 h
theorem opV_fin {b:List UInt8} {at_:Nat} {deep:Bool} (h:(opV b (at_:Int) deep).1=0):at_≤(opV b (at_:Int) deep).2.fin∧(opV b (at_:Int) deep).2.fin≤b.length:=by
  obtain ⟨_,h12,hlt,h44⟩:=opV_ok h
  have hx:b[((at_:Nat):Int).toNat]?=some (b[at_]'(by omega)):=by rw [Int.toNat_natCast];exact List.getElem?_eq_getElem _
  have hl:=tailB_len (b:=b) (n:=at_) h44 (by omega)
  rw [opV_t h44 (by omega) hx,Int.toNat_natCast] at h ⊢
  have h1:=opT_fin (by omega) h
  omega
theorem rest_len {b:List UInt8} {f:Nat} {x:EV} (h:x.load.length≤4000):(rest b f x).2.1.length≤4000:=by
  unfold rest
  split
  · unfold aplO
    repeat' split
    all_goals first | (simp;done) | exact aplR_len _ _ _ _
  · exact h
def ScanR (t:TypeId) (w0 w':World) (r:Int × List Ob) (u:Value):Prop:=∃ A c,u=.tuple #[.slice A r.2.length c,.int .i64 r.1]∧w'.ownsRow w0.heap.size t 34 (.slice A r.2.length c) r.2.length (r.2.flatMap plO)
theorem scan_no {t:TypeId} {w0 w':World} {r:Int × List Ob} {e:Int} (h:r=(e,[])):ScanR t w0 w' r (.tuple #[.slice none 0 0,.int .i64 e]):=by
  subst h
  exact ⟨none,0,rfl,World.ownsRow_nil _ _ _ _⟩
theorem scan (B:Option Addr) (m d:Nat) (b:List UInt8) (w0:World) (hb:Rs w0 1 B m d (bL b)) (hm5:m≤100000) :
    Calls Tryz.prog 34 #[.slice B m d] w0 fun e w'=>∃ u,e=.returned u∧Like w0 w'∧ScanR 67 w0 w' (scanV b) u:=by
 refine v_ (env:=[(0,.slice B m d)]) [.slice B m d] Tryz.func34 Z Tryz.ntmps34 Z Z ?_;have hl:=hb.lenb;have hcap:=hb.cap;have hmax:=hb.max;have S0:=St.start w0 noM;refine a_ fun K1 hK1=>b_ (La Z Z (Lan Z Z (hK1 _ _ (a_ fun K2 hK2=>Rm Z Z (L_o (o_ Tryz.func71 Z Z (count B m d b w0 (S0.rd hb) hm5) Z Z ?_))))));rintro e1 w1 ⟨v1,rfl,l1,rfl⟩;refine ⟨_,rfl,(have S1:=S0.like l1;Lm Z Z (L_y (j_ Z Z) Z (L_y (j_ Z Z) Z (La Z Z (Lan Z Z (hK2 _ _ (a_ fun K3 hK3=>a_ fun K4 hK4=>Rm Z Z (L_y (V_ Z Z) Z ?_))))))))⟩;refine d_ (hK4 _ _ ?_);refine n_ Z (fun h19=>?_) (fun h19=>?_)
 ·
  refine a_ fun K5 hK5=>Rm Z Z (La Z Z (Lan Z Z (hK5 _ _ (l_ (ur (aF_ Z Z Z (⟨_,rfl,S1.like0,scan_no ?_⟩)))))));exact scanV_h h19
 ·
  have hh:headE b=0:=Classical.not_not.1 h19;obtain ⟨h44,h600⟩:=headE_ok hh;have hce:cntE b=(cntB b:Int):=if_pos hh;refine m_ (hK3 _ _ (a_ fun K6 hK6=>b_ (have S2:=S1.nilrow 67 34;Lan Z Z (hK6 _ _ (a_ fun K7 hK7=>b_ (Lan Z Z (hK7 _ _ (a_ fun K8 hK8=>?_))))))));refine a_ fun K9 hK9=>Rm Z Z (Lm Z Z (d_ (hK9 _ _ (r_ ?_))));refine T_loop5 [(0,_),(21,_)] (fun (k:Nat) (at9:Nat) (os:List Ob) (A1:Option Addr) (c1:Nat)=>[(22,.int .i64 (k:Int)),(7,.int .i64 (at9:Int)),(6,.slice A1 os.length c1)]) (fun (k:Nat) (at9:Nat) (os:List Ob) (A1:Option Addr) (c1:Nat)=>cntB b - k) (fun (k:Nat) (at9:Nat) (os:List Ob) (A1:Option Addr) (c1:Nat) (w:World)=>(k≤cntB b∧os.length=k∧SCI b (cntB b) k os at9∧12≤at9∧at9≤100000)∧Zx.St w0 noM [row 67 34 A1 os.length c1 (os.flatMap plO)] w) 0 12 [] none 0 (Sc Z (Sc Z (Sc Z (Sub.nil _)))) (Sub.cons Z Z (Sub.cons Z Z (Sub.nil _))) ?_ ?_
  ·
   exact ⟨⟨by omega,rfl,SCI.start b _,by omega,by omega⟩,S2⟩
  ·
   intro k at9 os A1 c1 w3 hrel;obtain ⟨⟨hk,hol,hsc,ha1,ha2⟩,S3⟩:=hrel;refine a_ fun K10 hK10=>b_ (L_y (P_ Z Z) Z (d_ (hK10 _ _ (a_ fun K11 hK11=>?_))));refine n_ Z (fun h23=>?_) (fun h23=>?_)
   ·
    refine m_ (hK11 _ _ (a_ fun K12 hK12=>r_ (a_ fun K13 hK13=>a_ fun K14 hK14=>Rm Z Z (Lm Z Z (L_y (K_ Tryz.underlying22 Z) Z (L_y (aE_ Z Z (E_ (by omega))) Z (L_y (ao_ Z Z) Z (d_ (hK14 _ _ ?_)))))))));refine n_ Z (fun h28=>?_) (fun h28=>?_)
    ·
     refine a_ fun K15 hK15=>b_ (La Z Z (Lan Z Z (hK15 _ _ (l_ (ur (aF_ Z Z Z (⟨_,rfl,S3.like0,scan_no ?_⟩)))))));have ho2:opV b (at9:Int) false=(2,zE):=opV_2 h44 (by omega);exact scanV_e hh (hsc.err (by rw [show cntB b - k=cntB b - k - 1+1 by omega,scan_1 (by rw [ho2];decide),ho2])) (by decide)
    ·
     refine m_ (hK13 _ _ (a_ fun K16 hK16=>Rm Z Z (Lm Z Z (L_o (o_ Tryz.func66 Z Z (open_ B m d b (at9:Int) false w3 (S3.rd hb) hm5 (by omega)) Z Z ?_)))));rintro e4 w4 ⟨v4,rfl,l4,hO4⟩;refine ⟨_,rfl,?_⟩;have S4:=S3.like l4;obtain ⟨q1,rfl,hq1,hf1⟩:=hO4;have S5:=addNew S3 l4 hf1;have hn1:=NP.new S3 hf1;refine Lm Z Z (L_y (j_ Z Z) Z (L_y (j_ Z Z) Z (L_o (F_ zz127 S5 Z fun b6 w6 hb6 S6=>L_o (D_ S6 2 Z Z Z bc_ (by rfl) (bs_ _ _) fun w7 S7=>?_)))));refine Lan Z Z (hK16 _ _ (a_ fun K17 hK17=>a_ fun K18 hK18=>Rm Z Z (L_y (V_ Z Z) Z (d_ (hK18 _ _ ?_)))));refine n_ Z (fun h36=>?_) (fun h36=>?_)
     ·
      refine a_ fun K19 hK19=>Rm Z Z (La Z Z (Lan Z Z (hK19 _ _ (l_ (ur (aF_ Z Z Z (⟨_,rfl,S7.like0,scan_no ?_⟩)))))));exact scanV_e hh (hsc.err (by rw [show cntB b - k=cntB b - k - 1+1 by omega,scan_1 h36])) h36
     ·
      obtain ⟨hok,hk12,hkl,_⟩:=opV_ok (b:=b) (at_:=(at9:Int)) (deep:=false) (Classical.not_not.1 h36);refine m_ (hK17 _ _ (a_ fun K20 hK20=>Rm Z Z (L_y (X_ Tryz.underlying127 Z bc_ Z (S7.blk 2 Z) (show _=(enA (opV b (at9:Int) false).2 q1).toList∧_ from ⟨rfl,rfl⟩)) Z (L_o (o_ Tryz.func67 Z Z (whole B m d b (opV b (at9:Int) false).2 q1 (at9:Int) w7 (S7.rd hb) hm5 (hn1.ok S7 (S7.get 1 Z)) hq1 hok (by omega)) Z Z ?_)))));rintro e8 w8 ⟨v8,rfl,l8,hW8⟩;refine ⟨_,rfl,?_⟩;have S8:=S7.like l8;obtain ⟨A8,c8,rfl,O8⟩:=hW8;have S9:=S7.adopt l8 O8;refine Lm Z Z (L_y (j_ Z Z) Z (L_y (j_ Z Z) Z (L_y (j_ Z Z) Z (La Z Z (La Z Z (Lan Z Z (hK20 _ _ (a_ fun K21 hK21=>a_ fun K22 hK22=>Rm Z Z (L_y (V_ Z Z) Z ?_)))))))));refine d_ (hK22 _ _ ?_);refine n_ Z (fun h46=>?_) (fun h46=>?_)
      ·
       refine a_ fun K23 hK23=>Rm Z Z (La Z Z (Lan Z Z (hK23 _ _ (l_ (ur (aF_ Z Z Z (⟨_,rfl,S9.like0,scan_no ?_⟩)))))));exact scanV_e hh (hsc.err (by rw [show cntB b - k=cntB b - k - 1+1 by omega,scan_2 (Classical.not_not.1 h36) h46])) h46
      ·
       refine m_ (hK21 _ _ (a_ fun K24 hK24=>Rm Z Z (Lm Z Z (L_o (o_ Tryz.func23 Z Z (name_ (rest b 7 (opV b (at9:Int) false).2).1 _ _ _ (rest b 7 (opV b (at9:Int) false).2).2.1 w8 (S9.row 3 Z) (Nat.le_trans (rest_len hok.len) (by omega))) Z Z ?_)))));rintro e10 w10 ⟨v10,rfl,l10,rfl⟩;refine ⟨_,rfl,(have S10:=S9.like l10;Lm Z Z (L_y (j_ Z Z) Z (L_y (j_ Z Z) Z (L_o (F_ zz41 S10 Z fun b11 w11 hb11 S11=>have S12:=S11.blkc 4 Z (cs':=bA zB) (by kernel_rfl);L_o (D_ S12 4 Z Z Z (by first | exact ae_ | (rw [size_bA,U_];exact ae_)) (by first | rfl | (rw [size_bA,size_bA,U_];rfl)) (Sha.bA_one _) fun w13 S13=>?_))))))⟩;refine Lan Z Z (hK24 _ _ (a_ fun K25 hK25=>a_ fun K26 hK26=>Rm Z Z (L_y (V_ Z Z) Z (d_ (hK26 _ _ ?_)))));refine n_ Z (fun h55=>?_) (fun h55=>?_)
       ·
        refine a_ fun K27 hK27=>Rm Z Z (La Z Z (Lan Z Z (hK27 _ _ (l_ (ur (aF_ Z Z Z (⟨_,rfl,S13.like0,scan_no ?_⟩)))))));exact scanV_e hh (hsc.err (by rw [show cntB b - k=cntB b - k - 1+1 by omega,scan_3 (Classical.not_not.1 h36) (Classical.not_not.1 h46) h55])) h55
       ·
        refine m_ (hK25 _ _ (a_ fun K28 hK28=>Rm Z Z (L_y (X_ Tryz.underlying41 Z ae_ Z (S13.blk 4 Z) (id_part ((rest b 7 (opV b (at9:Int) false).2).1,(rest b 7 (opV b (at9:Int) false).2).2.1))) Z (Lm Z Z (L_y (f_ 3 Tryz.underlying127 Z sz63 Z Z Z) Z (L_y (t_ Tryz.underlying63 Z Z (((S13.blk 2 Z).cell _).trans (by rfl))) Z ?_))))));refine L_y (C_ Z (built_pl (U_ _ _) _ _)) Z (L_o (aW_ (plO (⟨(rest b 7 (opV b (at9:Int) false).2).1,(rest b 7 (opV b (at9:Int) false).2).2.1,0,at9,(opV b (at9:Int) false).2.sum⟩:Ob)) te50 zz67 S13 Z Z Z (by simp [Value.cells,length_bL,U_]) (by simp [Value.cells,plO,Ob.id]) Z Z Z fun b14 w14 S14=>?_));refine L_o (aL_ te50 S14 0 Z Z Z (by first | exact S14.row 0 Z | exact S14.row 3 Z | exact S14.row 5 Z) (fun u hu=>plO_one _ u hu) Z (by omega) (by omega) fun A15 c15 w15 S15=>?_);have S15d:=S15.drop (rs':=[_,_,_,_,_]) (.cons_cons _ (.cons_cons _ (.cons_cons _ (.cons_cons _ (.cons_cons _ (.cons _ (.refl _)))))));refine Lan Z Z (hK28 _ _ (b_ (L_y (f_ 2 Tryz.underlying127 Z sz3 Z Z Z) Z (L_y (t_ Tryz.underlying3 Z Z (((S15d.blk 2 Z).cell _).trans (by rfl))) Z ?_))));refine Lan Z Z (hK12 _ _ (b_ (L_y (w_ Z Z (E_ (by omega))) Z (Lm Z Z (d_ ?_)))));have hfi:=opV_fin (Classical.not_not.1 h36);have S91:=(S15d.sel [0] (by decide)).rowc 0 Z (n':=(os++[(⟨(rest b 7 (opV b (at9:Int) false).2).1,(rest b 7 (opV b (at9:Int) false).2).2.1,0,at9,(opV b (at9:Int) false).2.sum⟩:Ob)]).length) (xs':=(os++[(⟨(rest b 7 (opV b (at9:Int) false).2).1,(rest b 7 (opV b (at9:Int) false).2).2.1,0,at9,(opV b (at9:Int) false).2.sum⟩:Ob)]).flatMap plO) (by simp) (by simp);refine ⟨k+1,(opV b (at9:Int) false).2.fin,os++[(⟨(rest b 7 (opV b (at9:Int) false).2).1,(rest b 7 (opV b (at9:Int) false).2).2.1,0,at9,(opV b (at9:Int) false).2.sum⟩:Ob)],_,_,by omega,⟨⟨by omega,by simp [hol],hsc.next (by omega) (scan_4 (Classical.not_not.1 h36) (Classical.not_not.1 h46) (Classical.not_not.1 h55)),by omega,by omega⟩,S91⟩,?_⟩;exact (Sc Z (Sc Z (Sub.cons Z (by rw [List.length_append];rfl) (Sub.cons Z Z (Sub.cons Z Z (Sub.nil _))))))
   ·
    obtain rfl:k=cntB b:=by omega
    refine Q_ (hK8 _ _ (a_ fun K29 hK29=>a_ fun K30 hK30=>Rm Z Z (Lm Z Z (L_y (K_ Tryz.underlying22 Z) Z (L_y (aE_ Z Z (E_ (by omega))) Z (L_y (P_ Z Z) Z (d_ (hK30 _ _ ?_))))))));refine n_ Z (fun h72=>?_) (fun h72=>?_)
    ·
     refine a_ fun K31 hK31=>b_ (La Z Z (Lan Z Z (hK31 _ _ (l_ (ur (aF_ Z Z Z (⟨_,rfl,S3.like0,scan_no ?_⟩)))))));exact scanV_11 hh hsc.done (by omega)
    ·
     refine m_ (hK29 _ _ (a_ fun K32 hK32=>Rm Z Z (La Z Z (Lan Z Z (hK32 _ _ (l_ (ur (aF_ Z Z Z ?_))))))));have hv:scanV b=(0,os):=scanV_0 hh hsc.done (by omega);rw [hv];exact ⟨_,rfl,S3.like0,A1,c1,rfl,S3.own 0 Z⟩
end Go.Proofs.YtgaklngnfecdaaaGreat.Pak
namespace Go.Proofs.YtgaklngnfecdaaaGreat.Pak
open Go.RowKit Zk Zx
open Sha (N xorN andN notN N_ge N_le)
open Go.Proofs.YtgaklngnfecdaaaGreat.Obj (ab_ objB aN_ U_ aM_ bl_ zB y_ aS_)
open Oct (vaN rwL rwP rwE rnL rnP rnE be vr tl M_)
open Del (scA opf OP OkO mkV encV putR ag_ aplR)
theorem plO_xid (o:Ob):(plO o).toArray.extract 0 (0+32)=bA o.id:=by
  apply Array.ext'
  rw [Array.toList_extract]
  simp only [plO,bA]
  rw [List.extract_eq_take_drop]
  show List.take 32 (bL o.id++_)=bL o.id
  rw [List.take_append_of_le_length (by rw [length_bL,Ob.id_len];exact Nat.le_refl _)]
  exact List.take_of_length_le (by rw [length_bL,Ob.id_len];exact Nat.le_refl _)
theorem plO_same (o:Ob) {fs:Array Field} (hfs:Tryz.prog.underlying 67=some (.struct fs)):EqFs Tryz.prog 9999 (plO o).toArray (plO (sc0 o)).toArray fs.toList true:=by
  have h2:=Tryz.underlying67
  rw [hfs] at h2
  injection h2 with h2
  injection h2 with h2
  subst h2
  have h3:(decide (o.id=(sc0 o).id) && (decide ((o.at_:Int)=((sc0 o).at_:Int)) && (decide (N o.sum=N (sc0 o).sum) && true)))=true:=by simp [sc0,Ob.id]
  rw [← h3]
  exact .cons (FE_bytes (by decide) Tryz.underlying41 Tryz.underlying5 sz5 Tryz.sizeOf41 o.id_len (sc0 o).id_len (plO_xid o) (plO_xid (sc0 o))) (.cons (FE_int (by decide) Tryz.underlying3 (plO32 o) (plO32 (sc0 o))) (.cons (FE_int (by decide) Tryz.underlying63 (plO33 o) (plO33 (sc0 o))) .nil))
theorem sc0_at {os:List Ob} {k:Nat} {o:Ob} (h:os[k]?=some o):(os.map sc0)[k]?=some (sc0 o):=by rw [List.getElem?_map,h];rfl
theorem plO_part {os:List Ob} {k:Nat} {o:Ob} (h:os[k]?=some o):((os.flatMap plO).drop (k*34+0)).take 32=bL o.id:=by
  rw [flat_part plO 34 plO_len os k 0 32 o h (by omega)]
  exact (plO_id o).1
theorem lback0 (A:Option Addr) (n c:Nat) (its:List It) (chain:Int) (w0:World) (hits:Rs w0 2 A n c (its.flatMap itf)) (hok:OkI w0 its) (hsm:¬ SmallI its) :
    Calls Tryz.prog 10 #[.slice A n c,.int .i64 chain] w0 fun e w'=>∃ u,e=.returned u∧Like w0 w'∧u=.bool true:=by
 refine v_ (env:=[(0,.slice A n c),(1,.int .i64 chain)]) [.slice A n c,.int .i64 chain] Tryz.func10 Z Tryz.ntmps10 Z Z ?_;have hn:=its_len hits;have hcap:=hits.cap;have hmax:=hits.max;have S0:=St.start w0 noM;refine a_ fun K1 hK1=>b_ (Lan Z Z (hK1 _ _ (a_ fun K2 hK2=>a_ fun K3 hK3=>Rm Z Z (L_o (o_ Tryz.func26 Z Z (small A n c its w0 (S0.rd hits)) Z Z ?_)))));rintro e1 w1 ⟨v1,rfl,l1,b,rfl,hb⟩;refine ⟨_,rfl,?_⟩;have S1:=S0.like l1;obtain rfl:b=false:=by cases b;rfl;exact absurd (hb.1 Z) hsm
 refine L_y ((by first | exact aj_ Z | exact aI_ Z)) Z ?_;refine d_ (hK3 _ _ (W_ Z (a_ fun K4 hK4=>b_ (L_o (o_ Tryz.func27 Z Z (works w1) Z Z ?_)))));rintro e2 w2 ⟨v2,rfl,l2,rfl⟩;refine ⟨_,rfl,(have S2:=S1.like l2;Lan Z Z (hK4 _ _ (l_ (ur (G_ Z Z ?_)))))⟩;exact ⟨_,rfl,S2.like0,rfl⟩
theorem lback1 (A:Option Addr) (n c:Nat) (its:List It) (chain:Int) (w0:World) (hits:Rs w0 2 A n c (its.flatMap itf)) (hok:OkI w0 its) (hsm:SmallI its) (hwr:wrE chain (its.map It.v)≠0) :
    Calls Tryz.prog 10 #[.slice A n c,.int .i64 chain] w0 fun e w'=>∃ u,e=.returned u∧Like w0 w'∧u=.bool true:=by
 refine v_ (env:=[(0,.slice A n c),(1,.int .i64 chain)]) [.slice A n c,.int .i64 chain] Tryz.func10 Z Tryz.ntmps10 Z Z ?_;have hn:=its_len hits;have hcap:=hits.cap;have hmax:=hits.max;have h24:(its.map It.v).length≤24:=by rw [List.length_map];exact hsm.1
 have S0:=St.start w0 noM;refine a_ fun K1 hK1=>b_ (Lan Z Z (hK1 _ _ (a_ fun K2 hK2=>a_ fun K3 hK3=>Rm Z Z (L_o (o_ Tryz.func26 Z Z (small A n c its w0 (S0.rd hits)) Z Z ?_)))));rintro e1 w1 ⟨v1,rfl,l1,b,rfl,hb⟩;refine ⟨_,rfl,?_⟩;have S1:=S0.like l1;obtain rfl:b=true:=hb.2 hsm;refine L_y ((by first | exact aj_ Z | exact aI_ Z)) Z ?_;refine d_ (hK3 _ _ (ba_ Z (m_ (hK2 _ _ (a_ fun K4 hK4=>Rm Z Z (Lm Z Z (L_o (o_ Tryz.func28 Z Z (write_no (S1.rd hits) (OkI.like hok S1.like0) hsm hwr) Z Z ?_))))))));rintro e2 w2 ⟨v2,rfl,l2,rfl⟩;refine ⟨_,rfl,(have S2:=S1.like l2;Lm Z Z (L_y (j_ Z Z) Z (L_y (j_ Z Z) Z (L_y (j_ Z Z) Z (La Z Z (La Z Z (Lan Z Z (hK4 _ _ (a_ fun K5 hK5=>a_ fun K6 hK6=>b_ ?_)))))))))⟩;refine Lm Z Z (L_y (V_ Z Z) Z (d_ (hK6 _ _ ?_)));refine n_ Z (fun h32=>?_) (fun h32=>?_)
 ·
  refine a_ fun K7 hK7=>Rm Z Z (L_y (K_ Tryz.underlying22 Z) Z (L_y (ao_ Z Z) Z (Lm Z Z ?_)));refine B_ 36 Z (fun h36=>?_) (fun h36=>?_)
  ·
   refine g_ Z Z (Lm Z Z (g_ Z Z (L_y (K_ Tryz.underlying50 Z) Z (g_ Z Z (L_y (ao_ Z Z) Z (Lp Z Z Z (Lm Z Z ?_)))))));refine B_ 41 Z (fun h41=>?_) (fun h41=>?_)
   ·
    refine g_ Z Z (L_o (o_ Tryz.func27 Z Z (works w2) Z Z ?_));rintro e5 w5 ⟨v5,rfl,l5,rfl⟩;refine ⟨_,rfl,(have S5:=S2.like l5;Lp Z Z Z (Lan Z Z (hK7 _ _ (l_ (ur (G_ Z Z ?_))))))⟩;exact ⟨_,rfl,S5.like0,rfl⟩
   ·
    exact absurd Z h41
  ·
   exact absurd Z h36
 ·
  exact absurd hwr h32
theorem lback2 (A:Option Addr) (n c:Nat) (its:List It) (chain:Int) (w0:World) (hits:Rs w0 2 A n c (its.flatMap itf)) (hok:OkI w0 its) (hsm:SmallI its) (hwr:wrE chain (its.map It.v)=0) (hWr:Written chain (its.map It.v)) :
    Calls Tryz.prog 10 #[.slice A n c,.int .i64 chain] w0 fun e w'=>∃ u,e=.returned u∧Like w0 w'∧u=.bool true:=by
 refine v_ (env:=[(0,.slice A n c),(1,.int .i64 chain)]) [.slice A n c,.int .i64 chain] Tryz.func10 Z Tryz.ntmps10 Z Z ?_;have hn:=its_len hits;have hcap:=hits.cap;have hmax:=hits.max;have h24:(its.map It.v).length≤24:=by rw [List.length_map];exact hsm.1
 have S0:=St.start w0 noM;refine a_ fun K1 hK1=>b_ (Lan Z Z (hK1 _ _ (a_ fun K2 hK2=>a_ fun K3 hK3=>Rm Z Z (L_o (o_ Tryz.func26 Z Z (small A n c its w0 (S0.rd hits)) Z Z ?_)))));rintro e1 w1 ⟨v1,rfl,l1,b,rfl,hb⟩;refine ⟨_,rfl,?_⟩;have S1:=S0.like l1;obtain rfl:b=true:=hb.2 hsm;refine L_y ((by first | exact aj_ Z | exact aI_ Z)) Z ?_;refine d_ (hK3 _ _ (ba_ Z (m_ (hK2 _ _ (a_ fun K4 hK4=>Rm Z Z (Lm Z Z (L_o (o_ Tryz.func28 Z Z (write_ (S1.rd hits) (OkI.like hok S1.like0) hsm) Z Z ?_))))))));rintro e2 w2 ⟨v2,rfl,hW2⟩;refine ⟨_,rfl,?_⟩;have S2:=S1;obtain ⟨Ap,cp,Aq,cq,rfl,T2⟩:=write_yes hW2 hwr;have S3:=S1.adoptS T2;refine Lm Z Z (L_y (j_ Z Z) Z (L_y (j_ Z Z) Z (L_y (j_ Z Z) Z (La Z Z (La Z Z (Lan Z Z (hK4 _ _ (a_ fun K5 hK5=>a_ fun K6 hK6=>Rm Z Z (L_y (V_ Z Z) Z ?_)))))))));refine d_ (hK6 _ _ ?_);refine n_ Z (fun h32=>?_) (fun h32=>?_)
 ·
  exact absurd Z h32
 ·
  refine m_ (hK5 _ _ (a_ fun K7 hK7=>?_));have hpl:(aK_ chain (its.map It.v)).length=(aA_ chain (its.map It.v)).bs.length+32:=by unfold aK_;rw [List.length_append,Sha.ad_]
  have hlo:=hWr.lo;have hhi:=hWr.hi;have hvl:(its.map It.v).length=n:=by rw [List.length_map];exact hn.symm
  have hql:((aA_ chain (its.map It.v)).os.map sc0).length=n:=by rw [List.length_map,hWr.cnt,hvl]
  refine Rm Z Z (L_o (o_ Tryz.func34 Z Z (scan _ _ _ (aK_ chain (its.map It.v)) w2 (S3.row 0 Z) (by omega)) Z Z ?_));rintro e4 w4 ⟨v4,rfl,l4,hS4⟩;refine ⟨_,rfl,?_⟩;have S4:=S3.like l4;rw [hWr.scan h24] at hS4;obtain ⟨Ar,cr,hu4,O4⟩:=hS4;dsimp only at hu4 O4;subst hu4;have S5:=S3.adopt l4 O4;refine Lm Z Z (L_y (j_ Z Z) Z (L_y (j_ Z Z) Z (La Z Z (Lan Z Z (hK7 _ _ (a_ fun K8 hK8=>a_ fun K9 hK9=>Rm Z Z (L_y (V_ Z Z) Z (Lm Z Z ?_))))))));refine B_ 51 Z (fun h51=>?_) (fun h51=>?_)
  ·
   exact absurd Z h51
  ·
   refine g_ Z Z (Lm Z Z (g_ Z Z (L_y (K_ Tryz.underlying50 Z) Z (g_ Z Z (Lm Z Z (g_ Z Z (L_y (K_ Tryz.underlying48 Z) Z (g_ Z Z (L_y (V_ Z Z) Z (Lp Z Z Z (Lm Z Z ?_)))))))))));refine B_ 58 Z (fun h58=>?_) (fun h58=>?_)
   ·
    omega
   ·
    refine g_ Z Z (Lm Z Z (g_ Z Z (L_y (K_ Tryz.underlying50 Z) Z (g_ Z Z (Lm Z Z (g_ Z Z (L_y (K_ Tryz.underlying48 Z) Z (g_ Z Z (L_y (V_ Z Z) Z (Lp Z Z Z (d_ (hK9 _ _ ?_))))))))))));refine n_ Z (fun h64=>?_) (fun h64=>?_)
    ·
     omega
    ·
     refine m_ (hK8 _ _ (a_ fun K10 hK10=>a_ fun K11 hK11=>b_ (Lan Z Z (hK11 _ _ (r_ ?_)))));refine ar_ [(0,_),(5,_),(6,_),(8,_)] (fun (k:Nat)=>[(10,.int .i64 (k:Int))]) (fun (k:Nat)=>n - k) (fun (k:Nat) (w:World)=>k≤n∧Zx.St w0 noM [row 5 1 Ap (aK_ chain (its.map It.v)).length cp (bL (aK_ chain (its.map It.v))),row 67 34 Aq (its.map It.v).length cq ((aA_ chain (its.map It.v)).os.flatMap plO),row 67 34 Ar ((aA_ chain (its.map It.v)).os.map sc0).length cr (((aA_ chain (its.map It.v)).os.map sc0).flatMap plO)] w) 0 (Sc Z (Sub.nil _)) (Sub.cons Z Z (Sub.cons Z Z (Sub.cons Z Z (Sub.cons Z Z (Sub.nil _))))) ?_ ?_
     ·
      exact ⟨by omega,S5⟩
     ·
      intro k w8 hrel;obtain ⟨hk,S8⟩:=hrel;refine a_ fun K12 hK12=>a_ fun K13 hK13=>Rm Z Z (Lm Z Z (L_y (K_ Tryz.underlying48 Z) Z (L_y (P_ Z Z) Z (d_ (hK13 _ _ ?_)))));refine n_ Z (fun h68=>?_) (fun h68=>?_)
      ·
       obtain ⟨x,hx⟩:∃ x,its[k]?=some x:=⟨_,List.getElem?_eq_getElem (by omega)⟩;obtain ⟨o,ho⟩:∃ o,(aA_ chain (its.map It.v)).os[k]?=some o:=⟨_,List.getElem?_eq_getElem (by rw [hWr.cnt];omega)⟩;have hxo:=hok x (List.mem_of_getElem? hx);have hxs:=hsm.2 x (List.mem_of_getElem? hx);have hxl:=hxo.lenb;have hit:=hWr.item ho;rw [vs_at hx] at hit;have hok1:o.kind=x.kind:=(congrArg Prod.fst (Option.some.inj hit)).symm;have hol:o.l=x.p.l:=(congrArg Prod.snd (Option.some.inj hit)).symm;have hid:o.id=aN_ x.kind x.p.l:=by unfold Ob.id;rw [hok1,hol]
       have hobj:ab_ x.kind x.p.l=0:=by rw [← hok1, ← hol];exact hWr.good o (List.mem_of_getElem? ho)
       have hosl:=hWr.inv.short o (List.mem_of_getElem? ho);refine m_ (hK12 _ _ (a_ fun K14 hK14=>r_ (a_ fun K15 hK15=>Rm Z Z (Lm Z Z (Lm Z Z (L_y (S_ Tryz.underlying50 sz67 Z Z (S8.row 1 Z) inferInstance (by omega)) Z (L_y (aB_ 32 Tryz.underlying67 Z sz3 Z Z (S8.row 1 Z) (by omega) Z) Z (L_y (y_ldf Tryz.underlying3 Z Z (S8.row 1 Z) (by omega) ((bw_ plO 34 plO_len _ k o ho 32 (by omega)).trans (plOl32 o))) Z (L_o (o_ Tryz.func32 Z Z (read_ _ _ _ (aK_ chain (its.map It.v)) (o.at_:Int) w8 (S8.row 0 Z) (by omega) (by have:=(hWr.inv.each _ _ ho).lt;omega)) Z Z ?_))))))))));rintro e9 w9 ⟨v9,rfl,l9,hR9⟩;refine ⟨_,rfl,?_⟩;have S9:=S8.like l9;rw [hWr.read ho] at hR9;obtain ⟨A9,c9,hu9,O9⟩:=hR9;dsimp only at hu9 O9;subst hu9;have S10:=S8.adopt l9 O9;refine Lm Z Z (L_y (j_ Z Z) Z (L_y (j_ Z Z) Z (L_y (j_ Z Z) Z (La Z Z (La Z Z (Lan Z Z (hK15 _ _ (a_ fun K16 hK16=>T_drawnX (fun w=>Like w0 w) hmix (by kernel_rfl) (fun w l=>(S10.like l).like0) fun w11 l11=>have S11:=S10.like l11;DX_y 0 (by kernel_rfl) Z (p_ Z) Z (DX_y 1 (by kernel_rfl) Z (p_ Z) Z ?_)))))))));refine DX_y 2 (by kernel_rfl) Z (S_ Tryz.underlying48 sz65 Z Z (Rs.like hits S11.like0) inferInstance (by omega)) Z (DX_y 3 (by kernel_rfl) Z (aB_ 0 Tryz.underlying65 Z sz3 Z Z (Rs.like hits S11.like0) (by omega) Z) Z (DX_y 4 (by kernel_rfl) Z (y_of fun w hw=>y_ldf Tryz.underlying3 Z Z (Rs.like hits hw) (by omega) ((bw_ itf 2 bC_ its k x hx 0 (by omega)).trans (by rfl))) Z ?_));refine DX_y 5 (by kernel_rfl) Z (p_ Z) Z (DX_y 6 (by kernel_rfl) Z (p_ Z) Z (DX_y 7 (by kernel_rfl) Z (S_ Tryz.underlying48 sz65 Z Z (Rs.like hits S11.like0) inferInstance (by omega)) Z (DX_y 8 (by kernel_rfl) Z (aB_ 1 Tryz.underlying65 Z sz22 Z Z (Rs.like hits S11.like0) (by omega) Z) Z (DX_y 9 (by kernel_rfl) Z (y_of fun w hw=>y_ldf Tryz.underlying22 Z Z (Rs.like hits hw) (by omega) ((bw_ itf 2 bC_ its k x hx 1 (by omega)).trans (by rfl))) Z ?_))));refine DX_o2 10 14 (by kernel_rfl) Z Z ?_ ?_
       ·
        refine o_ Tryz.func24 Z Z (rname_ x.kind x.p.A x.p.n x.p.c x.p.l w11 (Rs.like hxo S11.like0) (by omega)) Z Z ?_;rintro e12 w12 ⟨v12,rfl,l12,rfl⟩;refine ⟨_,rfl,(have S12:=S11.like l12;⟨S12.like0,(DX_y 11 (by kernel_rfl) Z (p_ Z) Z (DX_y 12 (by kernel_rfl) Z (j_ Z Z) Z (DX_y 13 (by kernel_rfl) Z (j_ Z Z) Z (DX_o1 14 (by kernel_rfl) Z (F_ zz41 S12 Z fun b13 w13 hb13 S13=>⟨S13.like0,(have S14:=S13.blkc 4 Z (cs':=bA zB) (by kernel_rfl);DX_o1 15 (by kernel_rfl) Z (D_ S14 4 Z Z Z (by first | exact ae_ | (rw [size_bA,U_];exact ae_)) (by first | rfl | (rw [size_bA,size_bA,U_];rfl)) (Sha.bA_one _) fun w15 S15=>?_))⟩)))))⟩)⟩;refine ⟨S15.like0,(DX_y 16 (by kernel_rfl) Z (J_ Z) Z (DX_nil (by kernel_rfl) (hK16 _ _ (a_ fun K17 hK17=>a_ fun K18 hK18=>T_tail 42 hmix (by kernel_rfl) fun w16 l16 K19 hK19=>have S16:=S15.like l16;H_ (p_ Z) Z (H_ (V_ Z Z) Z (H_ (p_ Z) Z ?_))))))⟩;refine HL_split 98 Z (fun h98=>?_) (fun h98=>?_)
        ·
         exact absurd Z h98
        ·
         refine N_ Z Z (H_ (p_ Z) Z (N_ Z Z (H_ (V_ Z Z) Z (H_ (y_pk Z Z) Z (H_ (p_ Z) Z ?_)))));refine HL_split 102 Z (fun h102=>?_) (fun h102=>?_)
         ·
          exact absurd hobj h102
         ·
          refine N_ Z Z (H_ (p_ Z) Z (N_ Z Z (H_ (p_ Z) Z (N_ Z Z (H_ (S_ Tryz.underlying50 sz67 Z Z (S16.row 1 Z) inferInstance (by omega)) Z (N_ Z Z (H_ (y_ldp (f:=plO) plO_len Tryz.underlying67 Z sz67 Z (S16.row 1 Z) (by omega) ho) Z (N_ Z Z (H_ (p_ Z) Z (N_ Z Z (H_ (p_ Z) Z (N_ Z Z (H_ (S_ Tryz.underlying50 sz67 Z Z (S16.row 2 Z) inferInstance (by omega)) Z ?_)))))))))))));refine N_ Z Z (H_ (y_ldp (f:=plO) plO_len Tryz.underlying67 Z sz67 Z (S16.row 2 Z) (by omega) (sc0_at ho)) Z (N_ Z Z (H_ (y_neS Tryz.underlying67 (by kernel_rfl) (by kernel_rfl) (plO_same o Tryz.underlying67) Z Z) Z (H_ (y_pk Z Z) Z (H_ (p_ Z) Z (N_ Z Z (H_ (p_ Z) Z (N_ Z Z (H_ (p_ Z) Z (N_ Z Z (H_ (S_ Tryz.underlying50 sz67 Z Z (S16.row 1 Z) inferInstance (by omega)) Z (N_ Z Z (H_ (aB_ 0 Tryz.underlying67 Z ae_ Z Z (S16.row 1 Z) (by omega) Z) Z ?_)))))))))))));refine N_ Z Z (H_ (y_ldfN Tryz.underlying41 Z ae_ Z (S16.row 1 Z) (by omega) (plO_part ho) (by rw [length_bL,Ob.id_len])) Z ?_);refine N_ Z Z (H_ (X_ Tryz.underlying41 Z ae_ Z (S16.blk 4 Z) (id_part (x.kind,x.p.l))) Z (N_ Z Z (H_ (y_neB Tryz.underlying41 Tryz.underlying5 sz5 (by kernel_rfl) Z Z (Ob.id_len _) (U_ _ _)) Z (H_ (y_pk Z Z) Z (H_ (p_ Z) Z ?_)))));refine HL_split 122 Z (fun h122=>?_) (fun h122=>?_)
          ·
           exact absurd hid h122
          ·
           refine N_ Z Z (H_ (p_ Z) Z (N_ Z Z (H_ (p_ Z) Z (N_ Z Z (H_ (p_ Z) Z (N_ Z Z (H_ (S_ Tryz.underlying48 sz65 Z Z (Rs.like hits S16.like0) inferInstance (by omega)) Z (N_ Z Z (H_ (aB_ 0 Tryz.underlying65 Z sz3 Z Z (Rs.like hits S16.like0) (by omega) Z) Z (N_ Z Z (H_ (y_ldf Tryz.underlying3 Z Z (Rs.like hits S16.like0) (by omega) ((bw_ itf 2 bC_ its k x hx 0 (by omega)).trans (by rfl))) Z ?_)))))))))));refine N_ Z Z (H_ (V_ Z Z) Z (H_ (y_pk Z Z) Z (H_ (p_ Z) Z ?_)));refine HL_split 131 Z (fun h131=>?_) (fun h131=>?_)
           ·
            exact absurd hok1 h131
           ·
            refine N_ Z Z (H_ (p_ Z) Z (N_ Z Z (H_ (p_ Z) Z (N_ Z Z (H_ (p_ Z) Z (N_ Z Z (H_ (S_ Tryz.underlying48 sz65 Z Z (Rs.like hits S16.like0) inferInstance (by omega)) Z (N_ Z Z (H_ (aB_ 1 Tryz.underlying65 Z sz22 Z Z (Rs.like hits S16.like0) (by omega) Z) Z (N_ Z Z (H_ (y_ldf Tryz.underlying22 Z Z (Rs.like hits S16.like0) (by omega) ((bw_ itf 2 bC_ its k x hx 1 (by omega)).trans (by rfl))) Z ?_)))))))))));refine HL_nil (hK19 _ (g_ Z Z (L_o (o_ Tryz.func14 Z Z (Oct.same _ _ _ _ _ _ o.l x.p.l w16 (S16.row 3 Z) (Rs.like hxo S16.like0)) Z Z ?_))));rintro e21 w21 ⟨v21,rfl,l21,rfl⟩;refine ⟨_,rfl,(have S21:=S16.like l21;g_ Z Z (L_y ((by first | exact aj_ Z | exact aI_ Z)) Z ?_))⟩;refine Lp Z Z Z (d_ (hK18 _ _ ?_));refine n_ Z (fun h140=>?_) (fun h140=>?_)
            ·
             exact absurd hol h140
            ·
             refine m_ (hK17 _ _ (a_ fun K20 hK20=>a_ fun K21 hK21=>b_ (Lan Z Z (hK21 _ _ (r_ ?_)))));refine bx_ [(0,_),(5,_),(6,_),(8,_),(10,_),(12,_)] (fun (j:Nat) (l2:List UInt8)=>[(16,.int .i64 (j:Int))]) (fun (j:Nat) (l2:List UInt8)=>o.l.length - j) (fun (j:Nat) (l2:List UInt8) (w:World)=>(j≤o.l.length∧l2.length=o.l.length)∧Zx.St w0 noM [row 5 1 Ap (aK_ chain (its.map It.v)).length cp (bL (aK_ chain (its.map It.v))),row 67 34 Aq (its.map It.v).length cq ((aA_ chain (its.map It.v)).os.flatMap plO),row 67 34 Ar ((aA_ chain (its.map It.v)).os.map sc0).length cr (((aA_ chain (its.map It.v)).os.map sc0).flatMap plO),row 5 1 A9 o.l.length c9 (bL l2)] w) 0 o.l (Sc Z (Sub.nil _)) (Sub.cons Z Z (Sub.cons Z Z (Sub.cons Z Z (Sub.cons Z Z (Sub.cons Z Z (Sub.cons Z Z (Sub.nil _))))))) ?_ ?_
             ·
              exact ⟨⟨by omega,rfl⟩,S21.sel [0,1,2,3] (by decide)⟩
             ·
              intro j l2 w22 hrel;obtain ⟨⟨hj,hl2⟩,S22⟩:=hrel;refine a_ fun K22 hK22=>a_ fun K23 hK23=>Rm Z Z (Lm Z Z (L_y (K_ Tryz.underlying22 Z) Z (L_y (P_ Z Z) Z (d_ (hK23 _ _ ?_)))));refine n_ Z (fun h144=>?_) (fun h144=>?_)
              ·
               obtain ⟨y,hy⟩:∃ y,l2[j]?=some y:=⟨_,List.getElem?_eq_getElem (by omega)⟩;refine m_ (hK22 _ _ (a_ fun K24 hK24=>r_ (Rm Z Z (Lm Z Z (L_y (S_ Tryz.underlying22 sz5 Z Z (S22.row 3 Z) inferInstance (by omega)) Z (L_y (y_ldr Tryz.underlying5 Z Z (S22.row 3 Z) (bL_get _ _ _ hy)) Z (L_y (Z_ Z Z Z (xorX y)) Z (L_y (S_ Tryz.underlying22 sz5 Z Z (S22.row 3 Z) inferInstance (by omega)) Z (L_o (o_strow S22 3 Z Z Z Z sz5 (by omega) fun w23 S23=>d_ (hK24 _ _ ?_)))))))))));refine Rm Z Z (L_y (w_ Z Z (E_ (by omega))) Z (Lan Z Z (have S96:=S23.rowc 3 Z (n':=o.l.length) (xs':=bL (l2.set j (UInt8.ofNat (255 - y.toNat)))) Z (bL_setX _ _ _);⟨j+1,l2.set j (UInt8.ofNat (255 - y.toNat)),by omega,⟨⟨by omega,by rw [List.length_set];exact hl2⟩,S96⟩,?_⟩)));exact (Sc Z (Sub.cons Z Z (Sub.cons Z Z (Sub.cons Z Z (Sub.cons Z Z (Sub.cons Z Z (Sub.cons Z Z (Sub.nil _))))))))
              ·
               refine Q_ (hK20 _ _ (a_ fun K25 hK25=>Rm Z Z (Lm Z Z (Lm Z Z (L_y (S_ Tryz.underlying50 sz67 Z Z (S22.row 1 Z) inferInstance (by omega)) Z (L_y (aB_ 32 Tryz.underlying67 Z sz3 Z Z (S22.row 1 Z) (by omega) Z) Z (L_y (y_ldf Tryz.underlying3 Z Z (S22.row 1 Z) (by omega) ((bw_ plO 34 plO_len _ k o ho 32 (by omega)).trans (plOl32 o))) Z (L_o (o_ Tryz.func32 Z Z (read_ _ _ _ (aK_ chain (its.map It.v)) (o.at_:Int) w22 (S22.row 0 Z) (by omega) (by have:=(hWr.inv.each _ _ ho).lt;omega)) Z Z ?_)))))))));rintro e24 w24 ⟨v24,rfl,l24,hR24⟩;refine ⟨_,rfl,?_⟩;have S24:=S22.like l24;rw [hWr.read ho] at hR24;obtain ⟨A24,c24,hu24,O24⟩:=hR24;dsimp only at hu24 O24;subst hu24;have S25:=S22.adopt l24 O24;refine Lm Z Z (L_y (j_ Z Z) Z (L_y (j_ Z Z) Z (L_y (j_ Z Z) Z (La Z Z (La Z Z (Lan Z Z (hK25 _ _ (a_ fun K26 hK26=>Rm Z Z (Lm Z Z (Lm Z Z ?_))))))))));refine L_y (S_ Tryz.underlying48 sz65 Z Z (Rs.like hits S25.like0) inferInstance (by omega)) Z (L_y (aB_ 1 Tryz.underlying65 Z sz22 Z Z (Rs.like hits S25.like0) (by omega) Z) Z (L_y (y_ldf Tryz.underlying22 Z Z (Rs.like hits S25.like0) (by omega) ((bw_ itf 2 bC_ its k x hx 1 (by omega)).trans (by rfl))) Z ?_));refine L_o (o_ Tryz.func14 Z Z (Oct.same _ _ _ _ _ _ o.l x.p.l w24 (S25.row 4 Z) (Rs.like hxo S25.like0)) Z Z ?_);rintro e26 w26 ⟨v26,rfl,l26,rfl⟩;refine ⟨_,rfl,(have S26:=S25.like l26;L_y ((by first | exact aj_ Z | exact aI_ Z)) Z ?_)⟩;refine d_ (hK26 _ _ ?_);refine n_ Z (fun h171=>?_) (fun h171=>?_)
               ·
                exact absurd hol h171
               ·
                refine m_ (hK14 _ _ (Rm Z Z (L_y (w_ Z Z (E_ (by omega))) Z (Lan Z Z (have S95:=S26.sel [0,1,2] (by decide);⟨k+1,by omega,⟨by omega,S95⟩,?_⟩)))));exact (Sc Z (Sub.cons Z Z (Sub.cons Z Z (Sub.cons Z Z (Sub.cons Z Z (Sub.nil _))))))
       ·
        refine F_ zz41 S11 Z fun b27 w27 hb27 S27=>⟨S27.like0,(have S28:=S27.blkc 4 Z (cs':=bA zB) (by kernel_rfl);DX_o1 10 (by kernel_rfl) Z (o_ Tryz.func24 Z Z (rname_ x.kind x.p.A x.p.n x.p.c x.p.l w27 (Rs.like hxo S28.like0) (by omega)) Z Z ?_))⟩;rintro e29 w29 ⟨v29,rfl,l29,rfl⟩;refine ⟨_,rfl,(have S29:=S28.like l29;⟨S29.like0,(DX_y 11 (by kernel_rfl) Z (p_ Z) Z (DX_y 12 (by kernel_rfl) Z (j_ Z Z) Z (DX_y 13 (by kernel_rfl) Z (j_ Z Z) Z (DX_o1 15 (by kernel_rfl) Z (D_ S29 4 Z Z Z (by first | exact ae_ | (rw [size_bA,U_];exact ae_)) (by first | rfl | (rw [size_bA,size_bA,U_];rfl)) (Sha.bA_one _) fun w30 S30=>?_)))))⟩)⟩;refine ⟨S30.like0,(DX_y 16 (by kernel_rfl) Z (J_ Z) Z (DX_nil (by kernel_rfl) (hK16 _ _ (a_ fun K27 hK27=>a_ fun K28 hK28=>T_tail 42 hmix (by kernel_rfl) fun w31 l31 K29 hK29=>have S31:=S30.like l31;H_ (p_ Z) Z (H_ (V_ Z Z) Z (H_ (p_ Z) Z ?_))))))⟩;refine HL_split 98 Z (fun h98=>?_) (fun h98=>?_)
        ·
         exact absurd Z h98
        ·
         refine N_ Z Z (H_ (p_ Z) Z (N_ Z Z (H_ (V_ Z Z) Z (H_ (y_pk Z Z) Z (H_ (p_ Z) Z ?_)))));refine HL_split 102 Z (fun h102=>?_) (fun h102=>?_)
         ·
          exact absurd hobj h102
         ·
          refine N_ Z Z (H_ (p_ Z) Z (N_ Z Z (H_ (p_ Z) Z (N_ Z Z (H_ (S_ Tryz.underlying50 sz67 Z Z (S31.row 1 Z) inferInstance (by omega)) Z (N_ Z Z (H_ (y_ldp (f:=plO) plO_len Tryz.underlying67 Z sz67 Z (S31.row 1 Z) (by omega) ho) Z (N_ Z Z (H_ (p_ Z) Z (N_ Z Z (H_ (p_ Z) Z (N_ Z Z (H_ (S_ Tryz.underlying50 sz67 Z Z (S31.row 2 Z) inferInstance (by omega)) Z ?_)))))))))))));refine N_ Z Z (H_ (y_ldp (f:=plO) plO_len Tryz.underlying67 Z sz67 Z (S31.row 2 Z) (by omega) (sc0_at ho)) Z (N_ Z Z (H_ (y_neS Tryz.underlying67 (by kernel_rfl) (by kernel_rfl) (plO_same o Tryz.underlying67) Z Z) Z (H_ (y_pk Z Z) Z (H_ (p_ Z) Z (N_ Z Z (H_ (p_ Z) Z (N_ Z Z (H_ (p_ Z) Z (N_ Z Z (H_ (S_ Tryz.underlying50 sz67 Z Z (S31.row 1 Z) inferInstance (by omega)) Z (N_ Z Z (H_ (aB_ 0 Tryz.underlying67 Z ae_ Z Z (S31.row 1 Z) (by omega) Z) Z ?_)))))))))))));refine N_ Z Z (H_ (y_ldfN Tryz.underlying41 Z ae_ Z (S31.row 1 Z) (by omega) (plO_part ho) (by rw [length_bL,Ob.id_len])) Z ?_);refine N_ Z Z (H_ (X_ Tryz.underlying41 Z ae_ Z (S31.blk 4 Z) (id_part (x.kind,x.p.l))) Z (N_ Z Z (H_ (y_neB Tryz.underlying41 Tryz.underlying5 sz5 (by kernel_rfl) Z Z (Ob.id_len _) (U_ _ _)) Z (H_ (y_pk Z Z) Z (H_ (p_ Z) Z ?_)))));refine HL_split 122 Z (fun h122=>?_) (fun h122=>?_)
          ·
           exact absurd hid h122
          ·
           refine N_ Z Z (H_ (p_ Z) Z (N_ Z Z (H_ (p_ Z) Z (N_ Z Z (H_ (p_ Z) Z (N_ Z Z (H_ (S_ Tryz.underlying48 sz65 Z Z (Rs.like hits S31.like0) inferInstance (by omega)) Z (N_ Z Z (H_ (aB_ 0 Tryz.underlying65 Z sz3 Z Z (Rs.like hits S31.like0) (by omega) Z) Z (N_ Z Z (H_ (y_ldf Tryz.underlying3 Z Z (Rs.like hits S31.like0) (by omega) ((bw_ itf 2 bC_ its k x hx 0 (by omega)).trans (by rfl))) Z ?_)))))))))));refine N_ Z Z (H_ (V_ Z Z) Z (H_ (y_pk Z Z) Z (H_ (p_ Z) Z ?_)));refine HL_split 131 Z (fun h131=>?_) (fun h131=>?_)
           ·
            exact absurd hok1 h131
           ·
            refine N_ Z Z (H_ (p_ Z) Z (N_ Z Z (H_ (p_ Z) Z (N_ Z Z (H_ (p_ Z) Z (N_ Z Z (H_ (S_ Tryz.underlying48 sz65 Z Z (Rs.like hits S31.like0) inferInstance (by omega)) Z (N_ Z Z (H_ (aB_ 1 Tryz.underlying65 Z sz22 Z Z (Rs.like hits S31.like0) (by omega) Z) Z (N_ Z Z (H_ (y_ldf Tryz.underlying22 Z Z (Rs.like hits S31.like0) (by omega) ((bw_ itf 2 bC_ its k x hx 1 (by omega)).trans (by rfl))) Z ?_)))))))))));refine HL_nil (hK29 _ (g_ Z Z (L_o (o_ Tryz.func14 Z Z (Oct.same _ _ _ _ _ _ o.l x.p.l w31 (S31.row 3 Z) (Rs.like hxo S31.like0)) Z Z ?_))));rintro e36 w36 ⟨v36,rfl,l36,rfl⟩;refine ⟨_,rfl,(have S36:=S31.like l36;g_ Z Z (L_y ((by first | exact aj_ Z | exact aI_ Z)) Z ?_))⟩;refine Lp Z Z Z (d_ (hK28 _ _ ?_));refine n_ Z (fun h140=>?_) (fun h140=>?_)
            ·
             exact absurd hol h140
            ·
             refine m_ (hK27 _ _ (a_ fun K30 hK30=>a_ fun K31 hK31=>b_ (Lan Z Z (hK31 _ _ (r_ ?_)))));refine bx_ [(0,_),(5,_),(6,_),(8,_),(10,_),(12,_)] (fun (j:Nat) (l2:List UInt8)=>[(16,.int .i64 (j:Int))]) (fun (j:Nat) (l2:List UInt8)=>o.l.length - j) (fun (j:Nat) (l2:List UInt8) (w:World)=>(j≤o.l.length∧l2.length=o.l.length)∧Zx.St w0 noM [row 5 1 Ap (aK_ chain (its.map It.v)).length cp (bL (aK_ chain (its.map It.v))),row 67 34 Aq (its.map It.v).length cq ((aA_ chain (its.map It.v)).os.flatMap plO),row 67 34 Ar ((aA_ chain (its.map It.v)).os.map sc0).length cr (((aA_ chain (its.map It.v)).os.map sc0).flatMap plO),row 5 1 A9 o.l.length c9 (bL l2)] w) 0 o.l (Sc Z (Sub.nil _)) (Sub.cons Z Z (Sub.cons Z Z (Sub.cons Z Z (Sub.cons Z Z (Sub.cons Z Z (Sub.cons Z Z (Sub.nil _))))))) ?_ ?_
             ·
              exact ⟨⟨by omega,rfl⟩,S36.sel [0,1,2,3] (by decide)⟩
             ·
              intro j l2 w37 hrel;obtain ⟨⟨hj,hl2⟩,S37⟩:=hrel;refine a_ fun K32 hK32=>a_ fun K33 hK33=>Rm Z Z (Lm Z Z (L_y (K_ Tryz.underlying22 Z) Z (L_y (P_ Z Z) Z (d_ (hK33 _ _ ?_)))));refine n_ Z (fun h144=>?_) (fun h144=>?_)
              ·
               obtain ⟨y,hy⟩:∃ y,l2[j]?=some y:=⟨_,List.getElem?_eq_getElem (by omega)⟩;refine m_ (hK32 _ _ (a_ fun K34 hK34=>r_ (Rm Z Z (Lm Z Z (L_y (S_ Tryz.underlying22 sz5 Z Z (S37.row 3 Z) inferInstance (by omega)) Z (L_y (y_ldr Tryz.underlying5 Z Z (S37.row 3 Z) (bL_get _ _ _ hy)) Z (L_y (Z_ Z Z Z (xorX y)) Z (L_y (S_ Tryz.underlying22 sz5 Z Z (S37.row 3 Z) inferInstance (by omega)) Z (L_o (o_strow S37 3 Z Z Z Z sz5 (by omega) fun w38 S38=>d_ (hK34 _ _ ?_)))))))))));refine Rm Z Z (L_y (w_ Z Z (E_ (by omega))) Z (Lan Z Z (have S96:=S38.rowc 3 Z (n':=o.l.length) (xs':=bL (l2.set j (UInt8.ofNat (255 - y.toNat)))) Z (bL_setX _ _ _);⟨j+1,l2.set j (UInt8.ofNat (255 - y.toNat)),by omega,⟨⟨by omega,by rw [List.length_set];exact hl2⟩,S96⟩,?_⟩)));exact (Sc Z (Sub.cons Z Z (Sub.cons Z Z (Sub.cons Z Z (Sub.cons Z Z (Sub.cons Z Z (Sub.cons Z Z (Sub.nil _))))))))
              ·
               refine Q_ (hK30 _ _ (a_ fun K35 hK35=>Rm Z Z (Lm Z Z (Lm Z Z (L_y (S_ Tryz.underlying50 sz67 Z Z (S37.row 1 Z) inferInstance (by omega)) Z (L_y (aB_ 32 Tryz.underlying67 Z sz3 Z Z (S37.row 1 Z) (by omega) Z) Z (L_y (y_ldf Tryz.underlying3 Z Z (S37.row 1 Z) (by omega) ((bw_ plO 34 plO_len _ k o ho 32 (by omega)).trans (plOl32 o))) Z (L_o (o_ Tryz.func32 Z Z (read_ _ _ _ (aK_ chain (its.map It.v)) (o.at_:Int) w37 (S37.row 0 Z) (by omega) (by have:=(hWr.inv.each _ _ ho).lt;omega)) Z Z ?_)))))))));rintro e39 w39 ⟨v39,rfl,l39,hR39⟩;refine ⟨_,rfl,?_⟩;have S39:=S37.like l39;rw [hWr.read ho] at hR39;obtain ⟨A39,c39,hu39,O39⟩:=hR39;dsimp only at hu39 O39;subst hu39;have S40:=S37.adopt l39 O39;refine Lm Z Z (L_y (j_ Z Z) Z (L_y (j_ Z Z) Z (L_y (j_ Z Z) Z (La Z Z (La Z Z (Lan Z Z (hK35 _ _ (a_ fun K36 hK36=>Rm Z Z (Lm Z Z (Lm Z Z ?_))))))))));refine L_y (S_ Tryz.underlying48 sz65 Z Z (Rs.like hits S40.like0) inferInstance (by omega)) Z (L_y (aB_ 1 Tryz.underlying65 Z sz22 Z Z (Rs.like hits S40.like0) (by omega) Z) Z (L_y (y_ldf Tryz.underlying22 Z Z (Rs.like hits S40.like0) (by omega) ((bw_ itf 2 bC_ its k x hx 1 (by omega)).trans (by rfl))) Z ?_));refine L_o (o_ Tryz.func14 Z Z (Oct.same _ _ _ _ _ _ o.l x.p.l w39 (S40.row 4 Z) (Rs.like hxo S40.like0)) Z Z ?_);rintro e41 w41 ⟨v41,rfl,l41,rfl⟩;refine ⟨_,rfl,(have S41:=S40.like l41;L_y ((by first | exact aj_ Z | exact aI_ Z)) Z ?_)⟩;refine d_ (hK36 _ _ ?_);refine n_ Z (fun h171=>?_) (fun h171=>?_)
               ·
                exact absurd hol h171
               ·
                refine m_ (hK14 _ _ (Rm Z Z (L_y (w_ Z Z (E_ (by omega))) Z (Lan Z Z (have S95:=S41.sel [0,1,2] (by decide);⟨k+1,by omega,⟨by omega,S95⟩,?_⟩)))));exact (Sc Z (Sub.cons Z Z (Sub.cons Z Z (Sub.cons Z Z (Sub.cons Z Z (Sub.nil _))))))
      ·
       refine Q_ (hK10 _ _ (a_ fun K37 hK37=>b_ (L_o (o_ Tryz.func27 Z Z (works w8) Z Z ?_))));rintro e42 w42 ⟨v42,rfl,l42,rfl⟩;refine ⟨_,rfl,(have S42:=S8.like l42;Lan Z Z (hK37 _ _ (l_ (ur (G_ Z Z ?_)))))⟩;exact ⟨_,rfl,S42.like0,rfl⟩
theorem lback (A:Option Addr) (n c:Nat) (its:List It) (chain:Int) (w0:World) (hits:Rs w0 2 A n c (its.flatMap itf)) (hok:OkI w0 its) :
    Calls Tryz.prog 10 #[.slice A n c,.int .i64 chain] w0 fun e w'=>e=.returned (.bool true)∧Like w0 w':=by
  have key:Calls Tryz.prog 10 #[.slice A n c,.int .i64 chain] w0 fun e w'=>∃ u,e=.returned u∧Like w0 w'∧u=.bool true:=by
    by_cases hsm:SmallI its
    · by_cases hwr:wrE chain (its.map It.v)=0
      · have hch:¬ (chain < 0∨8 < chain):=fun q=>by unfold wrE at hwr;rw [if_pos q] at hwr;cases hwr
        have hne:nameE (its.map It.v)=0:=by unfold wrE at hwr;rwa [if_neg hch] at hwr
        refine lback2 A n c its chain w0 hits hok hsm hwr (written (by omega) (by rw [List.length_map];exact hsm.1) (fun x hx=>?_) (nameE_ok hne).1)
        obtain ⟨y,hy,rfl⟩:=List.mem_map.1 hx
        have h1:=(hok y hy).lenb
        have h2:=hsm.2 y hy
        show y.p.l.length≤300
        omega
      · exact lback1 A n c its chain w0 hits hok hsm hwr
    · exact lback0 A n c its chain w0 hits hok hsm
  exact key.mono fun e w' ⟨u,h1,h2,h3⟩=>⟨by rw [h1,h3],h2⟩
end Go.Proofs.YtgaklngnfecdaaaGreat.Pak