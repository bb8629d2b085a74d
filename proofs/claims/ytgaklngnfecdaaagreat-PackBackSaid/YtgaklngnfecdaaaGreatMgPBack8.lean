import Derived.Test.YtgaklngnfecdaaaGreatMgPBack3
import Derived.Test.YtgaklngnfecdaaaGreatMgPBack7
import Derived.Test.YtgaklngnfecdaaaGreatMgPBack2
set_option linter.unusedSimpArgs false
set_option linter.unusedVariables false
set_option maxRecDepth 100000
namespace Go.Proofs.YtgaklngnfecdaaaGreat.Oct
open Go.RowKit Zk Zx
def rdr (g:Nat) (A:Option Addr) (n c:Nat) (l:List UInt8) (p q:Nat):Res:=both (blk g 218 #[.slice A n c,.int .i64 (p:Int),.int .i64 (q:Int)]) (row 5 1 A n c (bL l))
theorem rdr_apart {w:World} {g n c p q:Nat} {A:Option Addr} {l:List UInt8} (h:(rdr g A n c l p q).holds w):∀ i,(blk g 218 #[.slice A n c,.int .i64 (p:Int),.int .i64 (q:Int)]).dom i→¬ (row 5 1 A n c (bL l)).dom i:=fun i hi hr=>by
  have hi':i=g:=hi
  subst hi'
  exact own_blk_ne (e:=5) h.2 h.1 (by decide) hr
theorem rdr_lt {w:World} {g n c p q:Nat} {A:Option Addr} {l:List UInt8} (h:(rdr g A n c l p q).holds w):∀ i,(rdr g A n c l p q).dom i→i < w.heap.size:=fun i hi=>by
  rcases hi with hi | hi
  · have hi':i=g:=hi
    subst hi'
    exact Blk.lt h.1
  · exact (World.ownsRow.lt h.2 i hi).2
theorem bA_ {w:World} {g n c p q:Nat} {A:Option Addr} {l:List UInt8} (h:(rdr g A n c l p q).holds w):l.length=n:=by
  have:=h.2.1
  simpa using this
def tkL (l:List UInt8) (p k:Nat):List UInt8:=if k≤l.length - p then (l.drop p).take k else []
def tkP (l:List UInt8) (p k:Nat):Nat:=if k≤l.length - p then p+k else p
def tkE (l:List UInt8) (p k q:Nat):Nat:=if k≤l.length - p then q else 10
theorem fresh_ {w0 w:World} {rs:List Res} (S:St w0 noM rs w) (k:Nat) {r:Res} (hk:rs[k]?=some r):∀ i,r.dom i→w0.heap.size≤i∧i < w.heap.size:=fun i hi=>by
  have:=(S.res r (List.mem_of_getElem? hk)).2 i hi
  rcases this.2 with h | h
  · exact ⟨h,this.1⟩
  · exact h.elim
theorem tkP_le (l:List UInt8) (p k:Nat) (h:p≤l.length):tkP l p k≤l.length:=by unfold tkP;split <;> omega
theorem Rdd.of {w w':World} {g n c p q:Nat} {A:Option Addr} {l:List UInt8} {r:Res} {X:Array Value} (h:Turned w w' r (both (blk g 218 X) (row 5 1 A n c (bL l)))) (hX:X = #[.slice A n c,.int .i64 (p:Int),.int .i64 (q:Int)]):Turned w w' r (rdr g A n c l p q):=by
  subst hX
  exact h
theorem rdead (g:Nat) (A:Option Addr) (n c:Nat) (l:List UInt8) (p q:Nat) (w0:World) (hw:(rdr g A n c l p q).holds w0) (hp:p≤l.length) :
    Calls Tryz.prog 137 #[.pointer (some ⟨g,0,none⟩)] w0 fun e w'=>∃ u,e=.returned u∧Like w0 w'∧u=.bool (decide ((q:Int)≠0)):=by
 refine v_ (env:=[(0,.pointer (some ⟨g,0,none⟩))]) [.pointer (some ⟨g,0,none⟩)] Tryz.func137 Z Tryz.ntmps137 Z Z ?_;have hnl:=bA_ hw;have hnc:=aC_ hw.2;have S0:=St.start w0 noM;refine a_ fun K1 hK1=>b_ (Lan Z Z (hK1 _ _ (a_ fun K2 hK2=>Rm Z Z (L_y (y_peqn Tryz.underlying172 Z) Z (Lm Z Z (g_ Z Z (Lm Z Z (g_ Z Z (L_y (A_ Z) Z ?_)))))))));refine g_ Z Z (L_y (f_ 2 Tryz.underlying218 Z sz24 Z Z Z) Z (g_ Z Z (L_y (t_ Tryz.underlying24 Z Z (((S0.rdB hw.1).cell _).trans (show (#[.slice A n c,.int .i64 (p:Int),.int .i64 (q:Int)]:Array Value)[2]?=some (Value.int .i64 (q:Int)) from Z))) Z (g_ Z Z (L_y (V_ Z Z) Z (L_y (y_pickF Z Z) Z (Lan Z Z (hK2 _ _ (l_ (ur (G_ Z Z ?_)))))))))));exact ⟨_,rfl,S0.like0,rfl⟩
theorem rerr (g:Nat) (A:Option Addr) (n c:Nat) (l:List UInt8) (p q:Nat) (w0:World) (hw:(rdr g A n c l p q).holds w0) (hp:p≤l.length) :
    Calls Tryz.prog 128 #[.pointer (some ⟨g,0,none⟩)] w0 fun e w'=>∃ u,e=.returned u∧Like w0 w'∧u=.int .i64 (q:Int):=by
 refine v_ (env:=[(0,.pointer (some ⟨g,0,none⟩))]) [.pointer (some ⟨g,0,none⟩)] Tryz.func128 Z Tryz.ntmps128 Z Z ?_;have hnl:=bA_ hw;have hnc:=aC_ hw.2;have S0:=St.start w0 noM;refine a_ fun K1 hK1=>b_ (Lan Z Z (hK1 _ _ (a_ fun K2 hK2=>a_ fun K3 hK3=>Rm Z Z (L_y (y_peqn Tryz.underlying172 Z) Z (d_ (hK3 _ _ (ba_ Z (m_ ?_))))))));refine hK2 _ _ (a_ fun K4 hK4=>Rm Z Z (L_y (A_ Z) Z (L_y (f_ 2 Tryz.underlying218 Z sz24 Z Z Z) Z (L_y (t_ Tryz.underlying24 Z Z (((S0.rdB hw.1).cell _).trans (show (#[.slice A n c,.int .i64 (p:Int),.int .i64 (q:Int)]:Array Value)[2]?=some (Value.int .i64 (q:Int)) from Z))) Z (Lan Z Z (hK4 _ _ (l_ (ur (G_ Z Z ?_)))))))));exact ⟨_,rfl,S0.like0,rfl⟩
theorem rleft (g:Nat) (A:Option Addr) (n c:Nat) (l:List UInt8) (p q:Nat) (w0:World) (hw:(rdr g A n c l p q).holds w0) (hp:p≤l.length) :
    Calls Tryz.prog 131 #[.pointer (some ⟨g,0,none⟩)] w0 fun e w'=>∃ u,e=.returned u∧Like w0 w'∧u=.int .i64 ((n:Int) - (p:Int)):=by
 refine v_ (env:=[(0,.pointer (some ⟨g,0,none⟩))]) [.pointer (some ⟨g,0,none⟩)] Tryz.func131 Z Tryz.ntmps131 Z Z ?_;have hnl:=bA_ hw;have hnc:=aC_ hw.2;have S0:=St.start w0 noM;refine a_ fun K1 hK1=>b_ (Lan Z Z (hK1 _ _ (a_ fun K2 hK2=>a_ fun K3 hK3=>Rm Z Z (L_y (y_peqn Tryz.underlying172 Z) Z (d_ (hK3 _ _ (ba_ Z (m_ ?_))))))));refine hK2 _ _ (a_ fun K4 hK4=>av_ [(0,true),(1,true),(2,true),(3,true),(4,true),(5,true),(6,true),(7,true),(8,true),(9,true),(10,true)] hmix (by kernel_rfl) fun w1 l1=>have S1:=S0.like l1;u_ Z (p_ Z) Z (u_ Z (A_ Z) Z (u_ Z (f_ 0 Tryz.underlying218 Z sz22 Z Z Z) Z (u_ Z (t_ Tryz.underlying22 Z Z (((S1.rdB hw.1).cell _).trans (show (#[.slice A n c,.int .i64 (p:Int),.int .i64 (q:Int)]:Array Value)[0]?=some (Value.slice A n c) from Z))) Z (u_ Z (K_ Tryz.underlying22 Z) Z (u_ Z (p_ Z) Z (u_ Z (A_ Z) Z (u_ Z (f_ 1 Tryz.underlying218 Z sz3 Z Z Z) Z (u_ Z (t_ Tryz.underlying3 Z Z (((S1.rdB hw.1).cell _).trans (show (#[.slice A n c,.int .i64 (p:Int),.int .i64 (q:Int)]:Array Value)[1]?=some (Value.int .i64 (p:Int)) from Z))) Z (u_ Z (aE_ Z Z (E_ (by omega))) Z ?_))))))))));refine u_ Z (J_ Z) Z (aV_ (hK4 _ _ (l_ (ur (G_ Z Z ?_)))));exact ⟨_,rfl,S1.like0,rfl⟩
theorem rtake (g:Nat) (A:Option Addr) (n c:Nat) (l:List UInt8) (p q:Nat) (k:Nat) (w0:World) (hw:(rdr g A n c l p q).holds w0) (hp:p≤l.length) (hk63:k≤9223372036854775807) (hn62:n≤4611686018427387904) :
    Calls Tryz.prog 139 #[.pointer (some ⟨g,0,none⟩),.int .i64 (k:Int)] w0 fun e w'=>∃ u,e=.returned u∧∃ B c2,u=.slice B (tkL l p k).length c2∧Rs w' 1 B (tkL l p k).length c2 (bL (tkL l p k))∧Turned w0 w' (rdr g A n c l p q) (rdr g A n c l (tkP l p k) (tkE l p k q)):=by
 refine v_ (env:=[(0,.pointer (some ⟨g,0,none⟩)),(1,.int .i64 (k:Int))]) [.pointer (some ⟨g,0,none⟩),.int .i64 (k:Int)] Tryz.func139 Z Tryz.ntmps139 Z Z ?_;have hnl:=bA_ hw;have hnc:=aC_ hw.2;have S0:=St.borrow2 (blk g 218 #[.slice A n c,.int .i64 (p:Int),.int .i64 (q:Int)]) (row 5 1 A n c (bL l)) hw.1 hw.2 (rdr_lt hw) (rdr_apart hw);refine a_ fun K1 hK1=>b_ (Lan Z Z (hK1 _ _ (a_ fun K2 hK2=>a_ fun K3 hK3=>av_ [(0,true),(1,true),(2,true),(3,true),(4,true),(5,true),(6,true),(7,true),(8,true),(9,true),(10,true),(11,true)] hmix (by kernel_rfl) fun w1 l1=>have S1:=S0.like l1;u_ Z (p_ Z) Z (u_ Z (p_ Z) Z (u_ Z (A_ Z) Z (u_ Z (f_ 0 Tryz.underlying218 Z sz22 Z Z Z) Z (u_ Z (t_ Tryz.underlying22 Z Z (((S1.blk 0 Z).cell _).trans (by rfl))) Z ?_)))))));refine u_ Z (K_ Tryz.underlying22 Z) Z (u_ Z (p_ Z) Z (u_ Z (A_ Z) Z (u_ Z (f_ 1 Tryz.underlying218 Z sz3 Z Z Z) Z (u_ Z (t_ Tryz.underlying3 Z Z (((S1.blk 0 Z).cell _).trans (by rfl))) Z ?_))));refine u_ Z (aE_ Z Z (E_ (by omega))) Z (u_ Z (af_ Z Z) Z (aV_ (hK3 _ _ ?_)));refine n_ Z (fun h17=>?_) (fun h17=>?_)
 ·
  have hk:¬ k≤l.length - p:=by omega
  refine a_ fun K4 hK4=>Rm Z Z (L_y (A_ Z) Z (L_y (f_ 2 Tryz.underlying218 Z sz24 Z Z Z) Z (L_o (ac_ S1 0 Z Z Z Z sz24 (by simp;done) fun w2 S2=>?_))));refine d_ (hK4 _ _ (a_ fun K5 hK5=>b_ (Lan Z Z (hK5 _ _ (l_ (ur (G_ Z Z ?_)))))));first | exact ⟨_,rfl,none,0,(by rw [tkL,if_neg hk];rfl),(by rw [tkL,if_neg hk];exact Rs.nil _ _),Rdd.of (S2.turned2 0 1 Z Z) (by rw [tkP,tkE,if_neg hk,if_neg hk];rfl)⟩ | exact ⟨_,rfl,cutA A c p 1,c - p,(by rw [e2]),(by rw [e2,e1];exact (S2.row 1 Z).cutb (by omega) (by omega)),Rdd.of (S2.turned2 0 1 Z Z) (by rw [tkP,tkE,if_pos hk,if_pos hk];rfl)⟩
 ·
  have hk:k≤l.length - p:=by omega
  have e1:(tkL l p k)=(l.drop p).take (p+k - p):=by rw [tkL,if_pos hk];congr 1;omega
  have e2:(tkL l p k).length=p+k - p:=by rw [e1,List.length_take,List.length_drop];omega
  refine m_ (hK2 _ _ (a_ fun K6 hK6=>av_ [(0,true),(1,true),(2,true),(3,true),(4,true),(5,true),(6,true),(7,true),(8,true),(9,true),(10,true),(11,true),(12,true),(13,true),(14,true),(15,true)] hmix (by kernel_rfl) fun w3 l3=>have S3:=S1.like l3;u_ Z (p_ Z) Z (u_ Z (A_ Z) Z (u_ Z (f_ 0 Tryz.underlying218 Z sz22 Z Z Z) Z (u_ Z (t_ Tryz.underlying22 Z Z (((S3.blk 0 Z).cell _).trans (by rfl))) Z ?_)))));refine u_ Z (p_ Z) Z (u_ Z (A_ Z) Z (u_ Z (f_ 1 Tryz.underlying218 Z sz3 Z Z Z) Z (u_ Z (t_ Tryz.underlying3 Z Z (((S3.blk 0 Z).cell _).trans (by rfl))) Z ?_)));refine u_ Z (p_ Z) Z (u_ Z (A_ Z) Z (u_ Z (f_ 1 Tryz.underlying218 Z sz3 Z Z Z) Z (u_ Z (t_ Tryz.underlying3 Z Z (((S3.blk 0 Z).cell _).trans (by rfl))) Z ?_)));refine u_ Z (p_ Z) Z (u_ Z (w_ Z Z (E_ (by omega))) Z (u_ Z (y_slice Tryz.underlying22 sz5 Z Z Z inferInstance inferInstance (by omega) (by omega)) Z (u_ Z (J_ Z) Z (aV_ (hK6 _ _ (a_ fun K7 hK7=>Rm Z Z (L_y (A_ Z) Z (L_y (f_ 1 Tryz.underlying218 Z sz3 Z Z Z) Z (L_y (t_ Tryz.underlying3 Z Z (((S3.blk 0 Z).cell _).trans (by rfl))) Z ?_)))))))));refine Lm Z Z (L_y (w_ Z Z (E_ (by omega))) Z (L_y (A_ Z) Z (L_y (f_ 1 Tryz.underlying218 Z sz3 Z Z Z) Z (L_o (ac_ S3 0 Z Z Z Z sz3 (by simp;done) fun w4 S4=>?_)))));refine d_ (hK7 _ _ (a_ fun K8 hK8=>Rm Z Z (Lan Z Z (hK8 _ _ (l_ (ur (G_ Z Z ?_)))))));first | exact ⟨_,rfl,none,0,(by rw [tkL,if_neg hk];rfl),(by rw [tkL,if_neg hk];exact Rs.nil _ _),Rdd.of (S4.turned2 0 1 Z Z) (by rw [tkP,tkE,if_neg hk,if_neg hk];rfl)⟩ | exact ⟨_,rfl,cutA A c p 1,c - p,(by rw [e2]),(by rw [e2,e1];exact (S4.row 1 Z).cutb (by omega) (by omega)),Rdd.of (S4.turned2 0 1 Z Z) (by rw [tkP,tkE,if_pos hk,if_pos hk];rfl)⟩
theorem rback (g:Nat) (A:Option Addr) (n c:Nat) (l:List UInt8) (p q:Nat) (p0:Nat) (w0:World) (hw:(rdr g A n c l p q).holds w0) :
    DCalls Tryz.prog 167 #[.pointer (some ⟨g,0,none⟩),.int .i64 (p0:Int)] w0 fun e w'=>∃ u,e=.returned u∧Turned w0 w' (rdr g A n c l p q) (rdr g A n c l (if q≠0 then p0 else p) q):=by
 refine enterd1 (env:=[(0,.pointer (some ⟨g,0,none⟩)),(1,.int .i64 (p0:Int))]) [.pointer (some ⟨g,0,none⟩),.int .i64 (p0:Int)] Tryz.func167 Z Tryz.ntmps167 Z Z ?_;have hnl:=bA_ hw;have hnc:=aC_ hw.2;have S0:=St.borrow2 (blk g 218 #[.slice A n c,.int .i64 (p:Int),.int .i64 (q:Int)]) (row 5 1 A n c (bL l)) hw.1 hw.2 (rdr_lt hw) (rdr_apart hw);refine a_ fun K1 hK1=>Rm Z Z (L_y (A_ Z) Z (L_y (f_ 2 Tryz.underlying218 Z sz24 Z Z Z) Z (L_y (t_ Tryz.underlying24 Z Z (((S0.blk 0 Z).cell _).trans (by rfl))) Z ?_)));refine L_y (V_ Z Z) Z (d_ (hK1 _ _ ?_));refine n_ Z (fun h8=>?_) (fun h8=>?_)
 ·
  refine Rm Z Z (Lm Z Z (L_y (A_ Z) Z (L_y (f_ 1 Tryz.underlying218 Z sz3 Z Z Z) Z (L_o (ac_ S0 0 Z Z Z Z sz3 (by simp;done) fun w1 S1=>?_)))));refine d_ ?_;first | refine end0 (fn:=Tryz.f167) Z ?_ | (simp only [aU_,inB,if_true];refine end0 (fn:=Tryz.f167) Z ?_)
  exact ⟨_,rfl,Rdd.of (S1.turned2 0 1 Z Z) (by first | (rw [if_pos (by omega)];rfl) | (rw [if_neg (by omega)]))⟩
 ·
  refine m_ ?_;first | refine end0 (fn:=Tryz.f167) Z ?_ | (simp only [aU_,inB,if_true];refine end0 (fn:=Tryz.f167) Z ?_)
  exact ⟨_,rfl,Rdd.of (S0.turned2 0 1 Z Z) (by first | (rw [if_pos (by omega)];rfl) | (rw [if_neg (by omega)]))⟩
theorem rfail (g:Nat) (A:Option Addr) (n c:Nat) (l:List UInt8) (p q:Nat) (p0 q0:Nat) (w0:World) (hw:(rdr g A n c l p q).holds w0) (hp:p≤l.length) :
    Calls Tryz.prog 138 #[.pointer (some ⟨g,0,none⟩),.int .i64 (p0:Int),.int .i64 (q0:Int)] w0 fun e w'=>∃ u,e=.returned u∧Turned w0 w' (rdr g A n c l p q) (rdr g A n c l p0 q0):=by
 refine v_ (env:=[(0,.pointer (some ⟨g,0,none⟩)),(1,.int .i64 (p0:Int)),(2,.int .i64 (q0:Int))]) [.pointer (some ⟨g,0,none⟩),.int .i64 (p0:Int),.int .i64 (q0:Int)] Tryz.func138 Z Tryz.ntmps138 Z Z ?_;have hnl:=bA_ hw;have hnc:=aC_ hw.2;have S0:=St.borrow2 (blk g 218 #[.slice A n c,.int .i64 (p:Int),.int .i64 (q:Int)]) (row 5 1 A n c (bL l)) hw.1 hw.2 (rdr_lt hw) (rdr_apart hw);refine a_ fun K1 hK1=>Rm Z Z (Lm Z Z (L_y (A_ Z) Z (L_y (f_ 1 Tryz.underlying218 Z sz3 Z Z Z) Z (L_o (ac_ S0 0 Z Z Z Z sz3 (by simp;done) fun w1 S1=>?_)))));refine d_ (hK1 _ _ (Rm Z Z (Lm Z Z (L_y (A_ Z) Z (L_y (f_ 2 Tryz.underlying218 Z sz24 Z Z Z) Z (L_o (ac_ S1 0 Z Z Z Z sz24 (by simp;done) fun w2 S2=>?_)))))));refine d_ ?_;first | refine end0 (fn:=Tryz.f138) Z ?_ | (simp only [aU_,inB,if_true];refine end0 (fn:=Tryz.f138) Z ?_)
 exact ⟨_,rfl,Rdd.of (S2.turned2 0 1 Z Z) Z⟩
theorem rnew (B:Option Addr) (m d:Nat) (l:List UInt8) (w0:World) (hb:Rs w0 1 B m d (bL l)) (hm:m≤70368744177664) :
    Calls Tryz.prog 96 #[.slice B m d] w0 fun e w'=>∃ u,e=.returned u∧Like w0 w'∧∃ g A c,u=.pointer (some ⟨g,0,none⟩)∧(rdr g A m c l 0 0).holds w'∧∀ i,(rdr g A m c l 0 0).dom i→w0.heap.size≤i∧i < w'.heap.size:=by
 refine v_ (env:=[(0,.slice B m d)]) [.slice B m d] Tryz.func96 Z Tryz.ntmps96 Z Z ?_;have S0:=St.start w0 noM;refine a_ fun K1 hK1=>b_ (Lan Z Z (hK1 _ _ (a_ fun K2 hK2=>Rm Z Z (L_o (o_app0 te22 S0 Z Z (S0.rd hb) (R_ _) Z (by omega) (by omega) fun A1 c1 w1 S1=>L_y (C_ Z (show _=some #[Value.slice A1 m c1,Value.int .i64 0,Value.int .i64 0] by kernel_rfl)) Z (L_o (o_box Z S1 Z fun b2 w2 hb2 S2=>Lan Z Z (hK2 _ _ ?_))))))));refine l_ (ur (G_ Z Z ?_));exact ⟨_,rfl,S2.like0,_,_,_,rfl,⟨S2.get 1 Z,S2.get 0 Z⟩,fun i hi=>by rcases hi with hi | hi;exact fresh_ S2 1 Z i hi;exact fresh_ S2 0 Z i hi⟩
end Go.Proofs.YtgaklngnfecdaaaGreat.Oct
namespace Go.Proofs.YtgaklngnfecdaaaGreat.Oct
open Go.RowKit Zk Zx
def be (l:List UInt8):Nat:=l.foldl (fun n c=>n*256+c.toNat) 0
def rwL (l:List UInt8) (p q k:Nat):List UInt8:=if q=0 then tkL l p k else []
def rwP (l:List UInt8) (p q k:Nat):Nat:=if q=0 then tkP l p k else p
def rwE (l:List UInt8) (p q k:Nat):Nat:=if q=0 then tkE l p k q else q
theorem tkL_ok {l:List UInt8} {p k:Nat} (h:k≤l.length - p):(tkL l p k).length=k:=by rw [tkL,if_pos h,List.length_take,List.length_drop];omega
theorem tkE_ok {l:List UInt8} {p k q:Nat} (h:k≤l.length - p):tkE l p k q=q:=by rw [tkE,if_pos h]
theorem tkE_no {l:List UInt8} {p k q:Nat} (h:¬ k≤l.length - p):tkE l p k q=10:=by rw [tkE,if_neg h]
theorem tkL_no {l:List UInt8} {p k:Nat} (h:¬ k≤l.length - p):tkL l p k=[]:=by rw [tkL,if_neg h]
theorem tkE_case {l:List UInt8} {p k:Nat} (h:¬ ((tkE l p k 0:Nat):Int)≠0):k≤l.length - p:=by
  by_cases hk:k≤l.length - p
  · exact hk
  · rw [tkE_no hk] at h
    omega
theorem tkE_caseN {l:List UInt8} {p k:Nat} (h:((tkE l p k 0:Nat):Int)≠0):¬ k≤l.length - p:=fun hk=>by
  rw [tkE_ok hk] at h
  omega
theorem tk_one {l:List UInt8} {p:Nat} (h:1≤l.length - p):∃ x,l[p]?=some x∧tkL l p 1=[x]∧l.drop p=x::l.drop (p+1):=by
  have hp:p < l.length:=by omega
  refine ⟨l[p],List.getElem?_eq_getElem hp,?_,List.drop_eq_getElem_cons hp⟩
  rw [tkL,if_pos h,List.drop_eq_getElem_cons hp,List.take_succ_cons,List.take_zero]
theorem be_snoc (l:List UInt8) (c:UInt8):be (l++[c])=be l*256+c.toNat:=by simp [be,List.foldl_append]
theorem be_from:∀ (l:List UInt8) (a:Nat),l.foldl (fun n c=>n*256+c.toNat) a < (a+1)*256 ^ l.length
  | [],a=>by simp
  | c::l,a=>by
    have h:=be_from l (a*256+c.toNat)
    have h2:(a*256+c.toNat+1)*256 ^ l.length≤(a+1)*256*256 ^ l.length:=Nat.mul_le_mul_right _ (by have:=c.toNat_lt;omega)
    rw [List.foldl_cons,List.length_cons,Nat.pow_succ,Nat.mul_comm (256 ^ l.length), ← Nat.mul_assoc]
    omega
theorem be_lt (l:List UInt8):be l < 256 ^ l.length:=by simpa [be] using be_from l 0
theorem be_take {l:List UInt8} {k:Nat} {c:UInt8} (h:l[k]?=some c):be (l.take (k+1))=be (l.take k)*256+c.toNat:=by
  rw [List.take_add_one,h]
  exact be_snoc _ _
def numF:List UInt8→Nat→Nat→Nat × Nat × Nat
  | [],k,_=>(0,k,10)
  | c::r,k,a=>if (k=9∧1 < c.toNat)∨(0 < k∧c.toNat=0) then (0,k+1,12) else if c.toNat < 128 then (a+c.toNat % 128*128 ^ k,k+1,0) else numF r (k+1) (a+c.toNat % 128*128 ^ k)
theorem and127:∀ m:Fin 256,bits .and .u8 (m.val:Int) 127=((m.val % 128:Nat):Int):=by decide
theorem andX (x:UInt8):bits .and .u8 (x.toNat:Int) 127=((x.toNat % 128:Nat):Int):=and127 ⟨x.toNat,x.toNat_lt⟩
theorem pow7 (k:Nat):128 ^ k=2 ^ (7*k):=by rw [show (128:Nat)=2 ^ 7 from Z, ← Nat.pow_mul]
theorem pow_eight {k:Nat} (h:k≤8):128 ^ k≤72057594037927936:=by
  have:=Nat.pow_le_pow_right (show 0 < 128 by decide) h
  exact this
theorem num_lt {k a x:Nat} (hk:k≤9) (ha:a < 128 ^ k) (hx:x≤255) (h9:k=9→x≤1):x % 128*128 ^ k≤18446744073709551615∧a+x % 128*128 ^ k≤18446744073709551615:=by
  by_cases h:k=9
  · have h1:=h9 h
    subst h
    have h2:x % 128*128 ^ 9≤1*128 ^ 9:=Nat.mul_le_mul_right _ (by omega)
    have h3:(128:Nat) ^ 9=9223372036854775808:=rfl
    omega
  · have h1:=pow_eight (k:=k) (by omega)
    have h2:x % 128*128 ^ k≤127*128 ^ k:=Nat.mul_le_mul_right _ (by omega)
    omega
theorem num_next {k a x:Nat} (ha:a < 128 ^ k):a+x % 128*128 ^ k < 128 ^ (k+1):=by
  have h2:x % 128*128 ^ k≤127*128 ^ k:=Nat.mul_le_mul_right _ (by omega)
  rw [Nat.pow_succ]
  omega
theorem shl7 (x k:Nat) (hk:k≤9) (h:x*128 ^ k≤18446744073709551615):IntKind.u64.wrap ((x:Int)*2 ^ (min ((7:Int)*(k:Int)).toNat IntKind.u64.bits))=((x*128 ^ k:Nat):Int):=by
  have e:min ((7:Int)*(k:Int)).toNat IntKind.u64.bits=7*k:=by simp only [IntKind.bits];omega
  rw [e,show (x:Int)*2 ^ (7*k)=((x*128 ^ k:Nat):Int) by rw [pow7];push_cast;rfl,IntKind.wrap_u64]
  omega
theorem or64 (a b:Nat) (ha:a < 18446744073709551616) (hb:b < 18446744073709551616):bits .or .u64 (a:Int) (b:Int)=((a ||| b:Nat):Int):=by
  have h:a ||| b < 2 ^ 64:=Nat.or_lt_two_pow ha hb
  show IntKind.u64.wrap ((((BitVec.ofInt 64 (a:Int)) ||| (BitVec.ofInt 64 (b:Int)):BitVec 64).toNat:Nat):Int)=_
  rw [BitVec.ofInt_natCast,BitVec.ofInt_natCast,BitVec.toNat_or,BitVec.toNat_ofNat,BitVec.toNat_ofNat]
  rw [Nat.mod_eq_of_lt (by omega),Nat.mod_eq_of_lt (by omega),IntKind.wrap_u64]
  omega
theorem or7 (a y k:Nat) (ha:a < 128 ^ k) (h:a+y*128 ^ k≤18446744073709551615):bits .or .u64 (a:Int) ((y*128 ^ k:Nat):Int)=((a+y*128 ^ k:Nat):Int):=by
  rw [or64 _ _ (by omega) (by omega),Nat.or_comm,pow7,Nat.mul_comm, ← Nat.two_pow_add_eq_or_of_lt (by rw [← pow7];exact ha),Nat.add_comm]
theorem Rdd.turned {w w':World} {g n c p q p' q':Nat} {A:Option Addr} {l:List UInt8} (h:Turned w w' (rdr g A n c l p q) (rdr g A n c l p' q')) {p2 q2:Nat} (hp:p'=p2) (hq:q'=q2):Turned w w' (rdr g A n c l p q) (rdr g A n c l p2 q2):=by
  subst hp
  subst hq
  exact h
theorem tk_le (l:List UInt8) (p k:Nat):(tkL l p k).length≤k:=by unfold tkL;split <;> simp <;> omega
theorem be_bound {t:List UInt8} {k j:Nat} (hk:k < t.length) (ht:t.length≤j+1):be (t.take k) < 256 ^ j:=by
  have h1:=be_lt (t.take k)
  rw [List.length_take,Nat.min_eq_left (by omega)] at h1
  exact Nat.lt_of_lt_of_le h1 (Nat.pow_le_pow_right (by decide) (by omega))
theorem or256 (a:Nat) (x:UInt8):a*256 ||| x.toNat=a*256+x.toNat:=by
  rw [Nat.mul_comm,show (256:Nat)=2 ^ 8 from Z,Nat.two_pow_add_eq_or_of_lt x.toNat_lt]
theorem or32 (a b:Nat) (ha:a < 4294967296) (hb:b < 4294967296):bits .or .u32 (a:Int) (b:Int)=((a ||| b:Nat):Int):=by
  have h:a ||| b < 2 ^ 32:=Nat.or_lt_two_pow ha hb
  show IntKind.u32.wrap ((((BitVec.ofInt 32 (a:Int)) ||| (BitVec.ofInt 32 (b:Int)):BitVec 32).toNat:Nat):Int)=_
  rw [BitVec.ofInt_natCast,BitVec.ofInt_natCast,BitVec.toNat_or,BitVec.toNat_ofNat,BitVec.toNat_ofNat]
  rw [Nat.mod_eq_of_lt (by omega),Nat.mod_eq_of_lt (by omega),IntKind.wrap_u32]
  omega
theorem shl8_32 (a:Nat) (h:a < 256 ^ 3):IntKind.u32.wrap ((a:Int)*2 ^ (min (8:Int).toNat IntKind.u32.bits))=((a*256:Nat):Int):=by
  rw [show (2:Int) ^ (min (8:Int).toNat IntKind.u32.bits)=256 by decide,IntKind.wrap_u32]
  omega
theorem orbe32 (a:Nat) (x:UInt8) (h:a < 256 ^ 3):bits .or .u32 ((a*256:Nat):Int) (x.toNat:Int)=((a*256+x.toNat:Nat):Int):=by
  rw [or32 _ _ (by omega) (by have:=x.toNat_lt;omega),or256]
theorem bL_getX {l:List UInt8} {k:Nat} {x:UInt8} (h:l[k]?=some x):(bL l)[k]?=some (Value.int .u8 (x.toNat:Int)):=bL_get l k x h
theorem split1 {w0 w:World} {M:Nat→Prop} {r s:Res} (S:St w0 M [both r s] w) (hap:∀ i,r.dom i→¬ s.dom i):St w0 M [r,s] w :=
  ⟨S.os,S.tape,S.output,S.size,S.old,fun q hq=>by
    have h1:=S.res _ List.mem_cons_self
    rcases List.mem_cons.1 hq with rfl | hq
    · exact ⟨h1.1.1,fun i hi=>h1.2 i (.inl hi)⟩
    · obtain rfl:=List.mem_singleton.1 hq
      exact ⟨h1.1.2,fun i hi=>h1.2 i (.inr hi)⟩,List.pairwise_cons.2 ⟨fun s' hs'=>by obtain rfl:=List.mem_singleton.1 hs';exact hap,List.pairwise_singleton _ _⟩⟩
theorem Rdd.end2 {w0 w:World} {g n c p q p' q':Nat} {A:Option Addr} {l:List UInt8} {X:Array Value} (S:St w0 (rdr g A n c l p q).dom [blk g 218 X,row 5 1 A n c (bL l)] w) (hX:X = #[.slice A n c,.int .i64 (p':Int),.int .i64 (q':Int)]):Turned w0 w (rdr g A n c l p q) (rdr g A n c l p' q') :=
  Rdd.of (St.turned2 (r:=blk g 218 #[.slice A n c,.int .i64 (p:Int),.int .i64 (q:Int)]) (s:=row 5 1 A n c (bL l)) S 0 1 Z Z) hX
theorem rnumber (g:Nat) (A:Option Addr) (n c:Nat) (l:List UInt8) (p:Nat) (w0:World) (hw:(rdr g A n c l p 0).holds w0) (hp:p≤l.length) (hn62:n≤4611686018427387904) :
    Calls Tryz.prog 168 #[.pointer (some ⟨g,0,none⟩)] w0 fun e w'=>∃ u,e=.returned u∧u=.int .u64 ((numF (l.drop p) 0 0).1:Int)∧Turned w0 w' (rdr g A n c l p 0) (rdr g A n c l (p+(numF (l.drop p) 0 0).2.1) (numF (l.drop p) 0 0).2.2):=by
 refine v_ (env:=[(0,.pointer (some ⟨g,0,none⟩))]) [.pointer (some ⟨g,0,none⟩)] Tryz.func168 Z Tryz.ntmps168 Z Z ?_;have hnl:=bA_ hw;have hnc:=aC_ hw.2;have S0:=St.borrow1 (rdr g A n c l p 0) hw (rdr_lt hw);refine a_ fun K1 hK1=>b_ (Lan Z Z (hK1 _ _ (a_ fun K2 hK2=>b_ (Lan Z Z (hK2 _ _ (a_ fun K3 hK3=>b_ (Lan Z Z ?_)))))));refine hK3 _ _ (r_ ?_);refine bx_ [(0,_)] (fun (k:Nat) (a:Nat)=>[(3,.int .u64 (a:Int)),(4,.int .i64 (k:Int))]) (fun (k:Nat) (a:Nat)=>10 - k) (fun (k:Nat) (a:Nat) (w:World)=>((k≤9∧p+k≤l.length∧a < 128 ^ k)∧numF (l.drop (p+k)) k a=numF (l.drop p) 0 0)∧St w0 (rdr g A n c l p 0).dom [rdr g A n c l (p+k) 0] w) 0 0 (Sc Z (Sc Z (Sub.nil _))) (Sub.cons Z Z (Sub.nil _)) ?_ ?_
 ·
  exact ⟨⟨⟨by omega,by omega,by decide⟩,rfl⟩,S0⟩
 ·
  intro k a w1 hrel;obtain ⟨⟨⟨hk9,hpk,ha⟩,hN⟩,S1⟩:=hrel;refine a_ fun K4 hK4=>r_ (a_ fun K5 hK5=>Rm Z Z (L_o (o_ Tryz.func139 Z Z (rtake g A n c l (p+k) _ 1 w1 (S1.get 0 Z) (by omega) (by omega) hn62) Z Z ?_)));rintro e2 w2 ⟨v2,rfl,B2,d2,rfl,R2,T2⟩;refine ⟨_,rfl,(have S2:=S1.turn 0 Z T2;have RR:=R2;Lan Z Z (hK5 _ _ (a_ fun K6 hK6=>a_ fun K7 hK7=>Rm Z Z (L_y (A_ Z) Z (L_y (f_ 2 Tryz.underlying218 Z sz24 Z Z Z) Z (L_y (t_ Tryz.underlying24 Z Z (((S2.get 0 Z).1.cell _).trans (by rfl))) Z ?_))))))⟩;refine L_y (V_ Z Z) Z (d_ (hK7 _ _ ?_));refine n_ Z (fun h15=>?_) (fun h15=>?_)
  ·
   have hk1:=tkE_caseN h15;have hN2:numF (l.drop p) 0 0=(0,k,10):=by rw [← hN,List.drop_eq_nil_of_le (by omega)];rfl
   refine a_ fun K8 hK8=>b_ (Lan Z Z (hK8 _ _ (l_ (ur (G_ Z Z ?_)))));first | exact ⟨_,rfl,by rw [hN2];rfl,Rdd.turned (S2.turned1 0 Z) (by rw [hN2,tkP,if_neg hk1]) (by rw [hN2,tkE_no hk1])⟩ | exact ⟨_,rfl,by rw [hN2],Rdd.turned (S2.turned1 0 Z) (by rw [hN2]) (by rw [hN2])⟩ | exact ⟨_,rfl,by rw [hN2];rfl,by rw [hN2];exact Rdd.end2 S2 Z⟩
  ·
   have hk1:=tkE_case h15;obtain ⟨x,hx,htk,hdr⟩:=tk_one hk1;rw [show bL (tkL l (p+k) 1)=bL [x] from congrArg bL htk] at RR;rw [show tkP l (p+k) 1=p+(k+1) by rw [tkP,if_pos hk1];omega,tkE_ok hk1] at S2;have hxl:=x.toNat_lt;refine m_ (hK6 _ _ (a_ fun K9 hK9=>Rm Z Z (L_y (S_ Tryz.underlying22 sz5 Z Z (RR) inferInstance (by rw [tkL_ok hk1];decide)) Z ?_)));refine L_y (y_ldr Tryz.underlying5 Z Z RR (show ([bV x])[0]?=some (Value.int .u8 (x.toNat:Int)) from Z)) Z (Lan Z Z (hK9 _ _ (a_ fun K10 hK10=>a_ fun K11 hK11=>Rm Z Z (L_y (ao_ Z Z) Z (Lm Z Z ?_)))));refine B_ 21 Z (fun h21=>?_) (fun h21=>?_)
   ·
    refine g_ Z Z (Lm Z Z (g_ Z Z (L_y (af_ Z Z) Z (Lp Z Z Z (Lm Z Z ?_)))));refine B_ 25 Z (fun h25=>?_) (fun h25=>?_)
    ·
     refine h_ Z Z Z (h_ Z Z Z (h_ Z Z Z (L_gnu Z Z Z (L_gnu Z Z Z (h_ Z Z Z (Lp Z Z Z (d_ (hK11 _ _ (W_ Z (a_ fun K12 hK12=>?_))))))))));have hF:((k=9∧1 < x.toNat)∨(0 < k∧x.toNat=0)):=by omega
     have hN2:numF (l.drop p) 0 0=(0,k+1,12):=by rw [← hN,hdr,numF,if_pos hF]
     refine Rm Z Z (L_y (A_ Z) Z (have S5:=split1 S2 (rdr_apart (S2.get 0 Z));L_y (f_ 2 Tryz.underlying218 Z sz24 Z Z Z) Z (L_o (ac_ S5 0 Z Z Z Z sz24 (by simp;done) fun w6 S6=>?_))));refine d_ (hK12 _ _ (a_ fun K13 hK13=>b_ (Lan Z Z (hK13 _ _ (l_ (ur (G_ Z Z ?_)))))));first | exact ⟨_,rfl,by rw [hN2];rfl,Rdd.turned (S6.turned1 0 Z) (by rw [hN2,tkP,if_neg hk1]) (by rw [hN2,tkE_no hk1])⟩ | exact ⟨_,rfl,by rw [hN2],Rdd.turned (S6.turned1 0 Z) (by rw [hN2]) (by rw [hN2])⟩ | exact ⟨_,rfl,by rw [hN2];rfl,by rw [hN2];exact Rdd.end2 S6 Z⟩
    ·
     refine g_ Z Z (Lm Z Z (g_ Z Z (L_y (af_ Z Z) Z (g_ Z Z (Lm Z Z ?_)))));refine B_ 28 Z (fun h28=>?_) (fun h28=>?_)
     ·
      refine g_ Z Z (Lm Z Z (g_ Z Z (L_y (ao_ Z Z) Z (g_ Z Z (Lp Z Z Z (Lp Z Z Z (d_ (hK11 _ _ ?_))))))));refine n_ Z (fun h32=>?_) (fun h32=>?_)
      ·
       refine a_ fun K14 hK14=>?_;have hF:((k=9∧1 < x.toNat)∨(0 < k∧x.toNat=0)):=by omega
       have hN2:numF (l.drop p) 0 0=(0,k+1,12):=by rw [← hN,hdr,numF,if_pos hF]
       refine Rm Z Z (L_y (A_ Z) Z (have S8:=split1 S2 (rdr_apart (S2.get 0 Z));L_y (f_ 2 Tryz.underlying218 Z sz24 Z Z Z) Z (L_o (ac_ S8 0 Z Z Z Z sz24 (by simp;done) fun w9 S9=>?_))));refine d_ (hK14 _ _ (a_ fun K15 hK15=>b_ (Lan Z Z (hK15 _ _ (l_ (ur (G_ Z Z ?_)))))));first | exact ⟨_,rfl,by rw [hN2];rfl,Rdd.turned (S9.turned1 0 Z) (by rw [hN2,tkP,if_neg hk1]) (by rw [hN2,tkE_no hk1])⟩ | exact ⟨_,rfl,by rw [hN2],Rdd.turned (S9.turned1 0 Z) (by rw [hN2]) (by rw [hN2])⟩ | exact ⟨_,rfl,by rw [hN2];rfl,by rw [hN2];exact Rdd.end2 S9 Z⟩
      ·
       refine m_ (hK10 _ _ (a_ fun K16 hK16=>?_));have hF:¬ ((k=9∧1 < x.toNat)∨(0 < k∧x.toNat=0)):=by omega
       have hnm:=num_lt hk9 ha (x:=x.toNat) (by omega) (fun h=>by omega);refine Rm Z Z (Lm Z Z (L_y (Z_ Z Z Z (andX x)) Z (L_y (T_ is5 Tryz.underlying102 Z (u64w (by omega))) Z (Lm Z Z (L_y (y_mul Z Z (E_ (by omega))) Z (L_y (T_ is3 Tryz.underlying68 Z (u64w (by omega))) Z (L_y (y_shl Z Z (by omega) (shl7 _ k hk9 hnm.1)) Z (L_y (Z_ Z Z Z (or7 a _ k ha hnm.2)) Z (Lan Z Z (hK16 _ _ (a_ fun K17 hK17=>?_)))))))))));refine Rm Z Z (L_y (P_ Z Z) Z (d_ (hK17 _ _ ?_)));refine n_ Z (fun h46=>?_) (fun h46=>?_)
       ·
        have hN2:numF (l.drop p) 0 0=(a+x.toNat % 128*128 ^ k,k+1,0):=by rw [← hN,hdr,numF,if_neg hF,if_pos (by omega)]
        refine a_ fun K18 hK18=>Rm Z Z (Lan Z Z (hK18 _ _ (l_ (ur (G_ Z Z ?_)))));first | exact ⟨_,rfl,by rw [hN2];rfl,Rdd.turned (S2.turned1 0 Z) (by rw [hN2,tkP,if_neg hk1]) (by rw [hN2,tkE_no hk1])⟩ | exact ⟨_,rfl,by rw [hN2],Rdd.turned (S2.turned1 0 Z) (by rw [hN2]) (by rw [hN2])⟩ | exact ⟨_,rfl,by rw [hN2];rfl,by rw [hN2];exact Rdd.end2 S2 Z⟩
       ·
        refine m_ (hK4 _ _ (Rm Z Z (L_y (w_ Z Z (E_ (by omega))) Z (Lan Z Z (⟨k+1,a+x.toNat % 128*128 ^ k,by omega,⟨⟨⟨by omega,by omega,num_next ha⟩,by rw [← hN,hdr,numF,if_neg hF,if_neg (by omega)];rfl⟩,S2⟩,?_⟩)))));exact (Sc Z (Sc Z (Sub.cons Z Z (Sub.nil _))))
     ·
      refine h_ Z Z Z (h_ Z Z Z (g_ Z Z (Lp Z Z Z (Lp Z Z Z (d_ (hK11 _ _ (ba_ Z (m_ (hK10 _ _ (a_ fun K19 hK19=>?_))))))))));have hF:¬ ((k=9∧1 < x.toNat)∨(0 < k∧x.toNat=0)):=by omega
      have hnm:=num_lt hk9 ha (x:=x.toNat) (by omega) (fun h=>by omega);refine Rm Z Z (Lm Z Z (L_y (Z_ Z Z Z (andX x)) Z (L_y (T_ is5 Tryz.underlying102 Z (u64w (by omega))) Z (Lm Z Z (L_y (y_mul Z Z (E_ (by omega))) Z (L_y (T_ is3 Tryz.underlying68 Z (u64w (by omega))) Z (L_y (y_shl Z Z (by omega) (shl7 _ k hk9 hnm.1)) Z (L_y (Z_ Z Z Z (or7 a _ k ha hnm.2)) Z (Lan Z Z (hK19 _ _ (a_ fun K20 hK20=>?_)))))))))));refine Rm Z Z (L_y (P_ Z Z) Z (d_ (hK20 _ _ ?_)));refine n_ Z (fun h46=>?_) (fun h46=>?_)
      ·
       have hN2:numF (l.drop p) 0 0=(a+x.toNat % 128*128 ^ k,k+1,0):=by rw [← hN,hdr,numF,if_neg hF,if_pos (by omega)]
       refine a_ fun K21 hK21=>Rm Z Z (Lan Z Z (hK21 _ _ (l_ (ur (G_ Z Z ?_)))));first | exact ⟨_,rfl,by rw [hN2];rfl,Rdd.turned (S2.turned1 0 Z) (by rw [hN2,tkP,if_neg hk1]) (by rw [hN2,tkE_no hk1])⟩ | exact ⟨_,rfl,by rw [hN2],Rdd.turned (S2.turned1 0 Z) (by rw [hN2]) (by rw [hN2])⟩ | exact ⟨_,rfl,by rw [hN2];rfl,by rw [hN2];exact Rdd.end2 S2 Z⟩
      ·
       refine m_ (hK4 _ _ (Rm Z Z (L_y (w_ Z Z (E_ (by omega))) Z (Lan Z Z (⟨k+1,a+x.toNat % 128*128 ^ k,by omega,⟨⟨⟨by omega,by omega,num_next ha⟩,by rw [← hN,hdr,numF,if_neg hF,if_neg (by omega)];rfl⟩,S2⟩,?_⟩)))));exact (Sc Z (Sc Z (Sub.cons Z Z (Sub.nil _))))
   ·
    refine h_ Z Z Z (h_ Z Z Z (Lp Z Z Z (Lm Z Z (g_ Z Z (Lm Z Z (g_ Z Z (L_y (af_ Z Z) Z (g_ Z Z (Lm Z Z ?_)))))))));refine B_ 28 Z (fun h28=>?_) (fun h28=>?_)
    ·
     refine g_ Z Z (Lm Z Z (g_ Z Z (L_y (ao_ Z Z) Z (g_ Z Z (Lp Z Z Z (Lp Z Z Z (d_ (hK11 _ _ ?_))))))));refine n_ Z (fun h32=>?_) (fun h32=>?_)
     ·
      refine a_ fun K22 hK22=>?_;have hF:((k=9∧1 < x.toNat)∨(0 < k∧x.toNat=0)):=by omega
      have hN2:numF (l.drop p) 0 0=(0,k+1,12):=by rw [← hN,hdr,numF,if_pos hF]
      refine Rm Z Z (L_y (A_ Z) Z (have S11:=split1 S2 (rdr_apart (S2.get 0 Z));L_y (f_ 2 Tryz.underlying218 Z sz24 Z Z Z) Z (L_o (ac_ S11 0 Z Z Z Z sz24 (by simp;done) fun w12 S12=>?_))));refine d_ (hK22 _ _ (a_ fun K23 hK23=>b_ (Lan Z Z (hK23 _ _ (l_ (ur (G_ Z Z ?_)))))));first | exact ⟨_,rfl,by rw [hN2];rfl,Rdd.turned (S12.turned1 0 Z) (by rw [hN2,tkP,if_neg hk1]) (by rw [hN2,tkE_no hk1])⟩ | exact ⟨_,rfl,by rw [hN2],Rdd.turned (S12.turned1 0 Z) (by rw [hN2]) (by rw [hN2])⟩ | exact ⟨_,rfl,by rw [hN2];rfl,by rw [hN2];exact Rdd.end2 S12 Z⟩
     ·
      refine m_ (hK10 _ _ (a_ fun K24 hK24=>?_));have hF:¬ ((k=9∧1 < x.toNat)∨(0 < k∧x.toNat=0)):=by omega
      have hnm:=num_lt hk9 ha (x:=x.toNat) (by omega) (fun h=>by omega);refine Rm Z Z (Lm Z Z (L_y (Z_ Z Z Z (andX x)) Z (L_y (T_ is5 Tryz.underlying102 Z (u64w (by omega))) Z (Lm Z Z (L_y (y_mul Z Z (E_ (by omega))) Z (L_y (T_ is3 Tryz.underlying68 Z (u64w (by omega))) Z (L_y (y_shl Z Z (by omega) (shl7 _ k hk9 hnm.1)) Z (L_y (Z_ Z Z Z (or7 a _ k ha hnm.2)) Z (Lan Z Z (hK24 _ _ (a_ fun K25 hK25=>?_)))))))))));refine Rm Z Z (L_y (P_ Z Z) Z (d_ (hK25 _ _ ?_)));refine n_ Z (fun h46=>?_) (fun h46=>?_)
      ·
       have hN2:numF (l.drop p) 0 0=(a+x.toNat % 128*128 ^ k,k+1,0):=by rw [← hN,hdr,numF,if_neg hF,if_pos (by omega)]
       refine a_ fun K26 hK26=>Rm Z Z (Lan Z Z (hK26 _ _ (l_ (ur (G_ Z Z ?_)))));first | exact ⟨_,rfl,by rw [hN2];rfl,Rdd.turned (S2.turned1 0 Z) (by rw [hN2,tkP,if_neg hk1]) (by rw [hN2,tkE_no hk1])⟩ | exact ⟨_,rfl,by rw [hN2],Rdd.turned (S2.turned1 0 Z) (by rw [hN2]) (by rw [hN2])⟩ | exact ⟨_,rfl,by rw [hN2];rfl,by rw [hN2];exact Rdd.end2 S2 Z⟩
      ·
       refine m_ (hK4 _ _ (Rm Z Z (L_y (w_ Z Z (E_ (by omega))) Z (Lan Z Z (⟨k+1,a+x.toNat % 128*128 ^ k,by omega,⟨⟨⟨by omega,by omega,num_next ha⟩,by rw [← hN,hdr,numF,if_neg hF,if_neg (by omega)];rfl⟩,S2⟩,?_⟩)))));exact (Sc Z (Sc Z (Sub.cons Z Z (Sub.nil _))))
    ·
     refine h_ Z Z Z (h_ Z Z Z (g_ Z Z (Lp Z Z Z (Lp Z Z Z (d_ (hK11 _ _ (ba_ Z (m_ (hK10 _ _ (a_ fun K27 hK27=>?_))))))))));have hF:¬ ((k=9∧1 < x.toNat)∨(0 < k∧x.toNat=0)):=by omega
     have hnm:=num_lt hk9 ha (x:=x.toNat) (by omega) (fun h=>by omega);refine Rm Z Z (Lm Z Z (L_y (Z_ Z Z Z (andX x)) Z (L_y (T_ is5 Tryz.underlying102 Z (u64w (by omega))) Z (Lm Z Z (L_y (y_mul Z Z (E_ (by omega))) Z (L_y (T_ is3 Tryz.underlying68 Z (u64w (by omega))) Z (L_y (y_shl Z Z (by omega) (shl7 _ k hk9 hnm.1)) Z (L_y (Z_ Z Z Z (or7 a _ k ha hnm.2)) Z (Lan Z Z (hK27 _ _ (a_ fun K28 hK28=>?_)))))))))));refine Rm Z Z (L_y (P_ Z Z) Z (d_ (hK28 _ _ ?_)));refine n_ Z (fun h46=>?_) (fun h46=>?_)
     ·
      have hN2:numF (l.drop p) 0 0=(a+x.toNat % 128*128 ^ k,k+1,0):=by rw [← hN,hdr,numF,if_neg hF,if_pos (by omega)]
      refine a_ fun K29 hK29=>Rm Z Z (Lan Z Z (hK29 _ _ (l_ (ur (G_ Z Z ?_)))));first | exact ⟨_,rfl,by rw [hN2];rfl,Rdd.turned (S2.turned1 0 Z) (by rw [hN2,tkP,if_neg hk1]) (by rw [hN2,tkE_no hk1])⟩ | exact ⟨_,rfl,by rw [hN2],Rdd.turned (S2.turned1 0 Z) (by rw [hN2]) (by rw [hN2])⟩ | exact ⟨_,rfl,by rw [hN2];rfl,by rw [hN2];exact Rdd.end2 S2 Z⟩
     ·
      refine m_ (hK4 _ _ (Rm Z Z (L_y (w_ Z Z (E_ (by omega))) Z (Lan Z Z (⟨k+1,a+x.toNat % 128*128 ^ k,by omega,⟨⟨⟨by omega,by omega,num_next ha⟩,by rw [← hN,hdr,numF,if_neg hF,if_neg (by omega)];rfl⟩,S2⟩,?_⟩)))));exact (Sc Z (Sc Z (Sub.cons Z Z (Sub.nil _))))
theorem Rdd.join {w0 w:World} {M:Nat→Prop} {g n c p' q':Nat} {A:Option Addr} {l:List UInt8} {X:Array Value} (S:St w0 M [blk g 218 X,row 5 1 A n c (bL l)] w) (hX:X = #[.slice A n c,.int .i64 (p':Int),.int .i64 (q':Int)]):St w0 M [rdr g A n c l p' q'] w:=by
  subst hX
  exact S.join
def vaN (l:List UInt8) (p q m:Nat):Nat × Nat × Nat :=
  if q≠0 then (0,p,q) else if (numF (l.drop p) 0 0).2.2≠0 then (0,p,(numF (l.drop p) 0 0).2.2) else if m < (numF (l.drop p) 0 0).1 then (0,p,3) else ((numF (l.drop p) 0 0).1,p+(numF (l.drop p) 0 0).2.1,0)
theorem rvar (g:Nat) (A:Option Addr) (n c:Nat) (l:List UInt8) (p q:Nat) (m:Nat) (w0:World) (hw:(rdr g A n c l p q).holds w0) (hp:p≤l.length) (hn62:n≤4611686018427387904) :
    Calls Tryz.prog 129 #[.pointer (some ⟨g,0,none⟩),.int .u64 (m:Int)] w0 fun e w'=>∃ u,e=.returned u∧u=.int .u64 ((vaN l p q m).1:Int)∧Turned w0 w' (rdr g A n c l p q) (rdr g A n c l (vaN l p q m).2.1 (vaN l p q m).2.2):=by
 refine enterD1 (env:=[(0,.pointer (some ⟨g,0,none⟩)),(1,.int .u64 (m:Int))]) [.pointer (some ⟨g,0,none⟩),.int .u64 (m:Int)] Tryz.func129 Z Tryz.ntmps129 Z Z ?_;have hnl:=bA_ hw;have hnc:=aC_ hw.2;have S0:=St.borrow1 (rdr g A n c l p q) hw (rdr_lt hw);refine a_ fun K1 hK1=>b_ (Lan Z Z (hK1 _ _ (a_ fun K2 hK2=>a_ fun K3 hK3=>Rm Z Z (L_o (o_ Tryz.func137 Z Z (rdead g A n c l p _ w0 (S0.get 0 Z) hp) Z Z ?_)))));rintro e1 w1 ⟨v1,rfl,l1,rfl⟩;refine ⟨_,rfl,(have S1:=S0.like l1;d_ (hK3 _ _ ?_))⟩;refine n_ Z (fun h7=>?_) (fun h7=>?_)
 ·
  refine a_ fun K4 hK4=>b_ (Lan Z Z (hK4 _ _ (l_ (ur (retd1 Z Z ?_)))));have hV:vaN l p q m=(0,p,q):=by rw [vaN,if_pos (by omega)]
  exact ⟨_,rfl,by rw [hV];rfl,by rw [hV];exact Rdd.turned (S1.turned1 0 Z) Z Z⟩
 ·
  have hq:q=0:=by omega
  subst hq;refine m_ (hK2 _ _ (a_ fun K5 hK5=>Rm Z Z (Lm Z Z (L_y (A_ Z) Z (L_y (f_ 1 Tryz.underlying218 Z sz3 Z Z Z) Z (L_y (t_ Tryz.underlying3 Z Z (((S1.get 0 Z).1.cell _).trans (by rfl))) Z ?_))))));refine L_defer Z (d_ (hK5 _ _ (a_ fun K6 hK6=>Rm Z Z (L_o (o_ Tryz.func168 Z Z (rnumber g A n c l p w1 (S1.get 0 Z) hp hn62) Z Z ?_)))));rintro e2 w2 ⟨v2,rfl,rfl,T2⟩;refine ⟨_,rfl,(have S2:=S1.turn 0 Z T2;Lan Z Z (hK6 _ _ (a_ fun K7 hK7=>a_ fun K8 hK8=>Rm Z Z (L_y (A_ Z) Z (L_y (f_ 2 Tryz.underlying218 Z sz24 Z Z Z) Z (L_y (t_ Tryz.underlying24 Z Z (((S2.get 0 Z).1.cell _).trans (by rfl))) Z ?_))))))⟩;refine L_y (ao_ Z Z) Z (Lm Z Z ?_);refine B_ 20 Z (fun h20=>?_) (fun h20=>?_)
  ·
   refine g_ Z Z (Lm Z Z (g_ Z Z (Lm Z Z (g_ Z Z (L_y (af_ Z Z) Z (Lp Z Z Z (d_ (hK8 _ _ ?_))))))));refine n_ Z (fun h24=>?_) (fun h24=>?_)
   ·
    refine Rm Z Z (L_y (A_ Z) Z (have S4:=split1 S2 (rdr_apart (S2.get 0 Z));L_y (f_ 2 Tryz.underlying218 Z sz24 Z Z Z) Z (L_o (ac_ S4 0 Z Z Z Z sz24 (by simp;done) fun w5 S5=>?_))));have S6:=Rdd.join S5 (q':=3) Z;refine d_ (hK7 _ _ (a_ fun K9 hK9=>a_ fun K10 hK10=>Rm Z Z (L_y (A_ Z) Z (L_y (f_ 2 Tryz.underlying218 Z sz24 Z Z Z) Z (L_y (t_ Tryz.underlying24 Z Z (((S6.get 0 Z).1.cell _).trans (by rfl))) Z ?_)))));refine L_y (V_ Z Z) Z (d_ (hK10 _ _ ?_));refine n_ Z (fun h32=>?_) (fun h32=>?_)
    ·
     refine a_ fun K11 hK11=>b_ (Lan Z Z (hK11 _ _ (l_ (ur (retD1 (f:=167) Z Z Z Tryz.func167 Z Z (rback g A n c l _ _ p w5 (S6.get 0 Z)) ?_)))));rintro e7 w7 ⟨v7,rfl,T7⟩;refine ⟨_,rfl,?_⟩;have S7:=S6.turn 0 Z T7;have hV:vaN l p 0 m=(0,p,3):=by rw [vaN,if_neg (by omega),if_neg (by omega),if_pos (by omega)]
     exact ⟨_,rfl,by rw [hV];rfl,by rw [hV];exact Rdd.turned (S7.turned1 0 Z) (if_pos (by decide)) Z⟩
    ·
     refine m_ (hK9 _ _ (a_ fun K12 hK12=>Rm Z Z (Lan Z Z (hK12 _ _ (l_ (ur (retD1 (f:=167) Z Z Z Tryz.func167 Z Z (rback g A n c l _ _ p w5 (S6.get 0 Z)) ?_)))))));rintro e8 w8 ⟨v8,rfl,T8⟩;refine ⟨_,rfl,?_⟩;have S8:=S6.turn 0 Z T8;exfalso
     omega
   ·
    refine m_ (hK7 _ _ (a_ fun K13 hK13=>a_ fun K14 hK14=>Rm Z Z (L_y (A_ Z) Z (L_y (f_ 2 Tryz.underlying218 Z sz24 Z Z Z) Z (L_y (t_ Tryz.underlying24 Z Z (((S2.get 0 Z).1.cell _).trans (by rfl))) Z ?_)))));refine L_y (V_ Z Z) Z (d_ (hK14 _ _ ?_));refine n_ Z (fun h32=>?_) (fun h32=>?_)
    ·
     refine a_ fun K15 hK15=>b_ (Lan Z Z (hK15 _ _ (l_ (ur (retD1 (f:=167) Z Z Z Tryz.func167 Z Z (rback g A n c l _ _ p w2 (S2.get 0 Z)) ?_)))));rintro e9 w9 ⟨v9,rfl,T9⟩;refine ⟨_,rfl,?_⟩;have S9:=S2.turn 0 Z T9;exfalso
     omega
    ·
     refine m_ (hK13 _ _ (a_ fun K16 hK16=>Rm Z Z (Lan Z Z (hK16 _ _ (l_ (ur (retD1 (f:=167) Z Z Z Tryz.func167 Z Z (rback g A n c l _ _ p w2 (S2.get 0 Z)) ?_)))))));rintro e10 w10 ⟨v10,rfl,T10⟩;refine ⟨_,rfl,?_⟩;have S10:=S2.turn 0 Z T10;have hV:vaN l p 0 m=((numF (l.drop p) 0 0).1,p+(numF (l.drop p) 0 0).2.1,0):=by rw [vaN,if_neg (by omega),if_neg (by omega),if_neg (by omega)]
     exact ⟨_,rfl,by rw [hV],by rw [hV];exact Rdd.turned (S10.turned1 0 Z) (if_neg (by omega)) (show (numF (l.drop p) 0 0).2.2=0 by omega)⟩
  ·
   refine h_ Z Z Z (h_ Z Z Z (h_ Z Z Z (Lp Z Z Z (d_ (hK8 _ _ (ba_ Z (m_ (hK7 _ _ (a_ fun K17 hK17=>a_ fun K18 hK18=>Rm Z Z (L_y (A_ Z) Z ?_))))))))));refine L_y (f_ 2 Tryz.underlying218 Z sz24 Z Z Z) Z (L_y (t_ Tryz.underlying24 Z Z (((S2.get 0 Z).1.cell _).trans (by rfl))) Z ?_);refine L_y (V_ Z Z) Z (d_ (hK18 _ _ ?_));refine n_ Z (fun h32=>?_) (fun h32=>?_)
   ·
    refine a_ fun K19 hK19=>b_ (Lan Z Z (hK19 _ _ (l_ (ur (retD1 (f:=167) Z Z Z Tryz.func167 Z Z (rback g A n c l _ _ p w2 (S2.get 0 Z)) ?_)))));rintro e11 w11 ⟨v11,rfl,T11⟩;refine ⟨_,rfl,?_⟩;have S11:=S2.turn 0 Z T11;have hV:vaN l p 0 m=(0,p,(numF (l.drop p) 0 0).2.2):=by rw [vaN,if_neg (by omega),if_pos (by omega)]
    exact ⟨_,rfl,by rw [hV];rfl,by rw [hV];exact Rdd.turned (S11.turned1 0 Z) (if_pos (by omega)) Z⟩
   ·
    refine m_ (hK17 _ _ (a_ fun K20 hK20=>Rm Z Z (Lan Z Z (hK20 _ _ (l_ (ur (retD1 (f:=167) Z Z Z Tryz.func167 Z Z (rback g A n c l _ _ p w2 (S2.get 0 Z)) ?_)))))));rintro e12 w12 ⟨v12,rfl,T12⟩;refine ⟨_,rfl,?_⟩;have S12:=S2.turn 0 Z T12;exfalso
    omega
theorem numF_le:∀ (r:List UInt8) (k a:Nat),(numF r k a).2.1≤k+r.length
  | [],k,a=>by simp [numF]
  | c :: r,k,a=>by
    have h:=numF_le r (k+1) (a+c.toNat % 128*128 ^ k)
    unfold numF
    split
    · simp
    · split
      · simp
      · simp only [List.length_cons]
        omega
theorem numF_at (l:List UInt8) (p:Nat) (h:p≤l.length):p+(numF (l.drop p) 0 0).2.1≤l.length:=by
  have:=numF_le (l.drop p) 0 0
  rw [List.length_drop] at this
  omega
def rnL (l:List UInt8) (p q:Nat) (m:Int):List UInt8:=if m < 0 then [] else rwL l p q m.toNat
def rnP (l:List UInt8) (p q:Nat) (m:Int):Nat:=if m < 0 then p else rwP l p q m.toNat
def rnE (l:List UInt8) (p q:Nat) (m:Int):Nat:=if m < 0 then (if q≠0 then q else 3) else rwE l p q m.toNat
theorem rdr_same {g n c p q p' q':Nat} {A:Option Addr} {l:List UInt8} {i:Nat} (h:(rdr g A n c l p q).dom i):(rdr g A n c l p' q').dom i:=h
theorem rraw (g:Nat) (A:Option Addr) (n c:Nat) (l:List UInt8) (p q:Nat) (m:Int) (w0:World) (hw:(rdr g A n c l p q).holds w0) (hp:p≤l.length) (hn62:n≤70368744177664) (hm:m≤9223372036854775807) :
    Calls Tryz.prog 104 #[.pointer (some ⟨g,0,none⟩),.int .i64 m] w0 fun e w'=>∃ u,e=.returned u∧Turned w0 w' (rdr g A n c l p q) (rdr g A n c l (rnP l p q m) (rnE l p q m))∧∃ B c2,u=.slice B (rnL l p q m).length c2∧(row 5 1 B (rnL l p q m).length c2 (bL (rnL l p q m))).holds w'∧∀ i,(row 5 1 B (rnL l p q m).length c2 (bL (rnL l p q m))).dom i→w0.heap.size≤i:=by
 refine v_ (env:=[(0,.pointer (some ⟨g,0,none⟩)),(1,.int .i64 m)]) [.pointer (some ⟨g,0,none⟩),.int .i64 m] Tryz.func104 Z Tryz.ntmps104 Z Z ?_;have hnl:=bA_ hw;have hnc:=aC_ hw.2;have S0:=St.borrow1 (rdr g A n c l p q) hw (rdr_lt hw);refine a_ fun K1 hK1=>b_ (Lan Z Z (hK1 _ _ (a_ fun K2 hK2=>a_ fun K3 hK3=>Rm Z Z (L_o (o_ Tryz.func137 Z Z (rdead g A n c l p _ w0 (S0.get 0 Z) hp) Z Z ?_)))));rintro e1 w1 ⟨v1,rfl,l1,rfl⟩;refine ⟨_,rfl,(have S1:=S0.like l1;d_ (hK3 _ _ ?_))⟩;refine n_ Z (fun h6=>?_) (fun h6=>?_)
 ·
  refine a_ fun K4 hK4=>b_ (Lan Z Z (hK4 _ _ (l_ (ur (G_ Z Z ?_)))));have e1:rnL l p q m=[]:=by unfold rnL rwL;split;rfl;rw [if_neg (by omega)]
  have e2:rnP l p q m=p:=by unfold rnP rwP;split;rfl;rw [if_neg (by omega)]
  have e3:rnE l p q m=q:=by unfold rnE rwE;split;rw [if_pos (by omega)];rw [if_neg (by omega)]
  exact ⟨_,rfl,by rw [e2,e3];exact S1.turned1 0 Z,none,0,by rw [e1];rfl,by rw [e1];exact ⟨by simp [bL],.inl ⟨rfl,rfl⟩⟩,fun i hi=>by rw [e1] at hi;simp [row,Value.ownBlock] at hi⟩
 ·
  have hq:q=0:=by omega
  subst hq;refine m_ (hK2 _ _ (a_ fun K5 hK5=>a_ fun K6 hK6=>Rm Z Z (L_y (P_ Z Z) Z (d_ (hK6 _ _ ?_)))));refine n_ Z (fun h8=>?_) (fun h8=>?_)
  ·
   refine a_ fun K7 hK7=>Rm Z Z (Lm Z Z (L_y (A_ Z) Z (L_y (f_ 1 Tryz.underlying218 Z sz3 Z Z Z) Z (L_y (t_ Tryz.underlying3 Z Z (((S1.get 0 Z).1.cell _).trans (by rfl))) Z ?_))));refine L_o (o_ Tryz.func138 Z Z (rfail g A n c l _ _ p 3 w1 (S1.get 0 Z) hp) Z Z ?_);rintro e2 w2 ⟨v2,rfl,T2⟩;refine ⟨_,rfl,(have S2:=S1.turn 0 Z T2;d_ (hK7 _ _ (a_ fun K8 hK8=>b_ (Lan Z Z (hK8 _ _ (l_ (ur (G_ Z Z ?_))))))))⟩;have e1:rnL l p 0 m=[]:=by rw [rnL,if_pos (by omega)]
   have e2:rnP l p 0 m=p:=by rw [rnP,if_pos (by omega)]
   have e3:rnE l p 0 m=3:=by rw [rnE,if_pos (by omega)];rfl
   exact ⟨_,rfl,by rw [e2,e3];exact S2.turned1 0 Z,none,0,by rw [e1];rfl,by rw [e1];exact ⟨by simp [bL],.inl ⟨rfl,rfl⟩⟩,fun i hi=>by rw [e1] at hi;simp [row,Value.ownBlock] at hi⟩
  ·
   obtain ⟨k,rfl⟩:∃ k:Nat,m=(k:Int):=⟨m.toNat,by omega⟩;refine m_ (hK5 _ _ (a_ fun K9 hK9=>Rm Z Z (Lm Z Z (L_o (o_ Tryz.func139 Z Z (rtake g A n c l p _ k w1 (S1.get 0 Z) hp (by omega) (by omega)) Z Z ?_)))));rintro e3 w3 ⟨v3,rfl,B3,d3,rfl,RR,T3⟩;refine ⟨_,rfl,?_⟩;have S3:=S1.turn 0 Z T3;have htl:=tk_le l p k;have htn:(tkL l p k).length≤l.length:=by unfold tkL;split;simp;omega;simp
   refine L_o (o_app0 te22 S3 Z Z (RR) (R_ _) Z (by omega) (by omega) fun A4 c4 w4 S4=>Lan Z Z (hK9 _ _ (l_ (ur (G_ Z Z ?_)))));have e1:rnL l p 0 (k:Int)=tkL l p k:=by rw [rnL,if_neg (by omega),rwL,if_pos Z,Int.toNat_natCast]
   have e2:rnP l p 0 (k:Int)=tkP l p k:=by rw [rnP,if_neg (by omega),rwP,if_pos Z,Int.toNat_natCast]
   have e3:rnE l p 0 (k:Int)=tkE l p k 0:=by rw [rnE,if_neg (by omega),rwE,if_pos Z,Int.toNat_natCast]
   exact ⟨_,rfl,by rw [e2,e3];exact S4.turned1 0 Z,_,_,by rw [e1],by rw [e1];exact S4.get 1 Z,fun i hi=>by rw [e1] at hi;have h9:=(S4.res _ (List.mem_of_getElem? (show _=some _ from (rfl:[rdr g A n c l (tkP l p k) (tkE l p k 0),_][1]?=some _)))).2 i hi;rcases h9.2 with h9 | h9;exact h9;exact absurd hi (St.apart_ S4 0 1 Z Z Z i (rdr_same h9))⟩
theorem ru32 (g:Nat) (A:Option Addr) (n c:Nat) (l:List UInt8) (p q:Nat) (w0:World) (hw:(rdr g A n c l p q).holds w0) (hp:p≤l.length) (hn62:n≤4611686018427387904) :
    Calls Tryz.prog 105 #[.pointer (some ⟨g,0,none⟩)] w0 fun e w'=>∃ u,e=.returned u∧u=.int .u32 (be (rwL l p q 4):Int)∧Turned w0 w' (rdr g A n c l p q) (rdr g A n c l (rwP l p q 4) (rwE l p q 4)):=by
 refine v_ (env:=[(0,.pointer (some ⟨g,0,none⟩))]) [.pointer (some ⟨g,0,none⟩)] Tryz.func105 Z Tryz.ntmps105 Z Z ?_;have hnl:=bA_ hw;have hnc:=aC_ hw.2;have S0:=St.borrow1 (rdr g A n c l p q) hw (rdr_lt hw);refine a_ fun K1 hK1=>b_ (Lan Z Z (hK1 _ _ (a_ fun K2 hK2=>a_ fun K3 hK3=>Rm Z Z (L_o (o_ Tryz.func137 Z Z (rdead g A n c l p _ w0 (S0.get 0 Z) hp) Z Z ?_)))));rintro e1 w1 ⟨v1,rfl,l1,rfl⟩;refine ⟨_,rfl,(have S1:=S0.like l1;d_ (hK3 _ _ ?_))⟩;refine n_ Z (fun h7=>?_) (fun h7=>?_)
 ·
  refine a_ fun K4 hK4=>b_ (Lan Z Z (hK4 _ _ (l_ (ur (G_ Z Z ?_)))));first | exact ⟨_,rfl,by rw [rwL,if_neg (by omega)];rfl,Rdd.turned (S1.turned1 0 Z) (by rw [rwP,if_neg (by omega)]) (by rw [rwE,if_neg (by omega)])⟩ | exact ⟨_,rfl,by rw [rwL,if_pos Z,List.take_length],Rdd.turned (S1.turned1 0 Z) Z Z⟩
 ·
  have hq:q=0:=by omega
  subst hq;refine m_ (hK2 _ _ (a_ fun K5 hK5=>b_ (Lan Z Z (hK5 _ _ (a_ fun K6 hK6=>a_ fun K7 hK7=>Rm Z Z (L_o (o_ Tryz.func139 Z Z (rtake g A n c l p _ 4 w1 (S1.get 0 Z) hp (by omega) hn62) Z Z ?_)))))));rintro e2 w2 ⟨v2,rfl,B2,d2,rfl,R2,T2⟩;refine ⟨_,rfl,(have S2:=S1.turn 0 Z T2;have RR:=R2;L_y (K_ Tryz.underlying22 Z) Z (Lm Z Z (d_ (hK7 _ _ (r_ ?_)))))⟩;refine ar_ [(9,_),(10,_)] (fun (k:Nat)=>[(3,.int .u32 (be ((tkL l p 4).take k):Int)),(11,.int .i64 (k:Int))]) (fun (k:Nat)=>(tkL l p 4).length - k) (fun (k:Nat) (w:World)=>(k≤(tkL l p 4).length∧Rs w 1 B2 (tkL l p 4).length d2 (bL (tkL l p 4)))∧St w0 (rdr g A n c l p 0).dom [rdr g A n c l (tkP l p 4) (tkE l p 4 0)] w) 0 (Sc Z (Sc Z (Sub.nil _))) (Sub.cons Z Z (Sub.cons Z Z (Sub.nil _))) ?_ ?_
  ·
   exact ⟨⟨Nat.zero_le _,RR⟩,S2⟩
  ·
   intro k w3 hrel;obtain ⟨⟨hk,RX⟩,S3⟩:=hrel;have htl:=tk_le l p 4;refine a_ fun K8 hK8=>b_ (L_y (P_ Z Z) Z (d_ (hK8 _ _ (a_ fun K9 hK9=>?_))));refine n_ Z (fun h12=>?_) (fun h12=>?_)
   ·
    obtain ⟨x,hx⟩:∃ x,(tkL l p 4)[k]?=some x:=⟨_,List.getElem?_eq_getElem (by omega)⟩;have hxl:=x.toNat_lt;have hbb:=be_bound (k:=k) (j:=3) (show k < (tkL l p 4).length by omega) htl;refine m_ (hK9 _ _ (a_ fun K10 hK10=>r_ (a_ fun K11 hK11=>b_ (L_y (S_ Tryz.underlying22 sz5 Z Z (RX) inferInstance (by omega)) Z (L_y (y_ldr Tryz.underlying5 Z Z RX (bL_getX hx)) Z (Lan Z Z (hK11 _ _ (Rm Z Z (L_y (y_shl Z Z (by omega) (shl8_32 _ hbb)) Z ?_)))))))));refine Lm Z Z (L_y (T_ is5 Tryz.underlying63 Z (u32w (by omega))) Z (L_y (Z_ Z Z Z (orbe32 _ _ hbb)) Z (Lan Z Z (hK10 _ _ (b_ (L_y (w_ Z Z (E_ (by omega))) Z (Lm Z Z (d_ (⟨k+1,by omega,⟨⟨by omega,RX⟩,S3⟩,?_⟩)))))))));exact (Sub.cons Z (congrArg (Value.int _) (by rw [be_take hx])) (Sc Z (Sub.cons Z Z (Sub.cons Z Z (Sub.nil _)))))
   ·
    have hke:k=(tkL l p 4).length:=by omega
    subst hke;refine Q_ (hK6 _ _ (a_ fun K12 hK12=>Rm Z Z (Lan Z Z (hK12 _ _ (l_ (ur (G_ Z Z ?_)))))));first | exact ⟨_,rfl,by rw [rwL,if_neg (by omega)];rfl,Rdd.turned (S3.turned1 0 Z) (by rw [rwP,if_neg (by omega)]) (by rw [rwE,if_neg (by omega)])⟩ | exact ⟨_,rfl,by rw [rwL,if_pos Z,List.take_length],Rdd.turned (S3.turned1 0 Z) Z Z⟩
theorem rbyte (g:Nat) (A:Option Addr) (n c:Nat) (l:List UInt8) (p q:Nat) (w0:World) (hw:(rdr g A n c l p q).holds w0) (hp:p≤l.length) (hn62:n≤4611686018427387904) :
    Calls Tryz.prog 127 #[.pointer (some ⟨g,0,none⟩)] w0 fun e w'=>∃ u,e=.returned u∧u=.int .u8 (be (rwL l p q 1):Int)∧Turned w0 w' (rdr g A n c l p q) (rdr g A n c l (rwP l p q 1) (rwE l p q 1)):=by
 refine v_ (env:=[(0,.pointer (some ⟨g,0,none⟩))]) [.pointer (some ⟨g,0,none⟩)] Tryz.func127 Z Tryz.ntmps127 Z Z ?_;have hnl:=bA_ hw;have hnc:=aC_ hw.2;have S0:=St.borrow1 (rdr g A n c l p q) hw (rdr_lt hw);refine a_ fun K1 hK1=>b_ (Lan Z Z (hK1 _ _ (a_ fun K2 hK2=>a_ fun K3 hK3=>Rm Z Z (L_o (o_ Tryz.func137 Z Z (rdead g A n c l p _ w0 (S0.get 0 Z) hp) Z Z ?_)))));rintro e1 w1 ⟨v1,rfl,l1,rfl⟩;refine ⟨_,rfl,(have S1:=S0.like l1;d_ (hK3 _ _ ?_))⟩;refine n_ Z (fun h5=>?_) (fun h5=>?_)
 ·
  refine a_ fun K4 hK4=>b_ (Lan Z Z (hK4 _ _ (l_ (ur (G_ Z Z ?_)))));first | exact ⟨_,rfl,by rw [rwL,if_neg (by omega)];rfl,Rdd.turned (S1.turned1 0 Z) (by rw [rwP,if_neg (by omega)]) (by rw [rwE,if_neg (by omega)])⟩ | (have hk:=tkE_caseN h12;exact ⟨_,rfl,by rw [rwL,if_pos Z,tkL_no hk];rfl,Rdd.turned (S1.turned1 0 Z) Z Z⟩) | exact ⟨_,rfl,by rw [rwL,if_pos Z,htk];simp [be],Rdd.turned (S1.turned1 0 Z) Z Z⟩
 ·
  have hq:q=0:=by omega
  subst hq;refine m_ (hK2 _ _ (a_ fun K5 hK5=>Rm Z Z (L_o (o_ Tryz.func139 Z Z (rtake g A n c l p _ 1 w1 (S1.get 0 Z) hp (by omega) hn62) Z Z ?_))));rintro e2 w2 ⟨v2,rfl,B2,d2,rfl,R2,T2⟩;refine ⟨_,rfl,(have S2:=S1.turn 0 Z T2;have RR:=R2;Lan Z Z (hK5 _ _ (a_ fun K6 hK6=>a_ fun K7 hK7=>Rm Z Z (L_y (A_ Z) Z (L_y (f_ 2 Tryz.underlying218 Z sz24 Z Z Z) Z (L_y (t_ Tryz.underlying24 Z Z (((S2.get 0 Z).1.cell _).trans (by rfl))) Z ?_))))))⟩;refine L_y (V_ Z Z) Z (d_ (hK7 _ _ ?_));refine n_ Z (fun h12=>?_) (fun h12=>?_)
  ·
   refine a_ fun K8 hK8=>b_ (Lan Z Z (hK8 _ _ (l_ (ur (G_ Z Z ?_)))));first | exact ⟨_,rfl,by rw [rwL,if_neg (by omega)];rfl,Rdd.turned (S2.turned1 0 Z) (by rw [rwP,if_neg (by omega)]) (by rw [rwE,if_neg (by omega)])⟩ | (have hk:=tkE_caseN h12;exact ⟨_,rfl,by rw [rwL,if_pos Z,tkL_no hk];rfl,Rdd.turned (S2.turned1 0 Z) Z Z⟩) | exact ⟨_,rfl,by rw [rwL,if_pos Z,htk];simp [be],Rdd.turned (S2.turned1 0 Z) Z Z⟩
  ·
   have hk:=tkE_case h12;obtain ⟨x,hx,htk,hdr⟩:=tk_one hk;rw [show bL (tkL l p 1)=bL [x] from congrArg bL htk] at RR;refine m_ (hK6 _ _ (a_ fun K9 hK9=>Rm Z Z (L_y (S_ Tryz.underlying22 sz5 Z Z (RR) inferInstance (by rw [tkL_ok hk];decide)) Z ?_)));refine L_y (y_ldr Tryz.underlying5 Z Z RR (show ([bV x])[0]?=some (Value.int .u8 (x.toNat:Int)) from Z)) Z (Lan Z Z (hK9 _ _ (l_ (ur (G_ Z Z ?_)))));first | exact ⟨_,rfl,by rw [rwL,if_neg (by omega)];rfl,Rdd.turned (S2.turned1 0 Z) (by rw [rwP,if_neg (by omega)]) (by rw [rwE,if_neg (by omega)])⟩ | (have hk:=tkE_caseN h12;exact ⟨_,rfl,by rw [rwL,if_pos Z,tkL_no hk];rfl,Rdd.turned (S2.turned1 0 Z) Z Z⟩) | exact ⟨_,rfl,by rw [rwL,if_pos Z,htk];simp [be],Rdd.turned (S2.turned1 0 Z) Z Z⟩
end Go.Proofs.YtgaklngnfecdaaaGreat.Oct
namespace Go.Proofs.YtgaklngnfecdaaaGreat.Oct
open Go.RowKit Zk Zx
theorem numF_back (rest:List UInt8):∀ (n t k a:Nat),t≤n→k≤9→(k=9→t≤1)→(0 < k→0 < t)→(t*128 ^ k≤18446744073709551615)→numF (vr t++rest) k a=(a+t*128 ^ k,k+(vr t).length,0)
  | n,t, k,a,hn,hk,h9,h0,hm=>by
    by_cases hl:t < 128
    · rw [vr_low _ hl,List.singleton_append,numF,show (UInt8.ofNat t).toNat=t by rw [UInt8.toNat_ofNat'];omega,if_neg (by omega),if_pos hl,Nat.mod_eq_of_lt hl]
      rfl
    · have hk9:k≠9:=fun h=>by have:=h9 h;omega
      have e1:(UInt8.ofNat (t % 128+128)).toNat=t % 128+128:=by rw [UInt8.toNat_ofNat'];omega
      have e2:t / 128*128 ^ (k+1)+t % 128*128 ^ k=t*128 ^ k:=by
        rw [Nat.pow_succ,Nat.mul_comm (128 ^ k), ← Nat.mul_assoc, ← Nat.add_mul]
        congr 1
        omega
      match n,hn with
      | 0,hn=>exact absurd hn (by omega)
      | n + 1,hn =>
        have ih:=numF_back rest n (t / 128) (k+1) (a+t % 128*128 ^ k) (by omega) (by omega) (fun h=>by
          have h8:k=8:=by omega
          subst h8
          have h4:(128:Nat) ^ 8=72057594037927936:=rfl
          rw [h4] at hm
          omega) (fun _=>by omega) (by omega)
        rw [vr_big _ (by omega),List.cons_append,numF,e1,if_neg (by omega),if_neg (by omega),show (t % 128+128) % 128=t % 128 by omega,ih,List.length_cons]
        simp only [Prod.mk.injEq,and_true]
        omega
theorem numF_of_vr (rest:List UInt8) (t:Nat) (h:t≤18446744073709551615):numF (vr t++rest) 0 0=(t,(vr t).length,0):=by
  have:=numF_back rest t t 0 0 (Nat.le_refl _) (by omega) (by omega) (by omega) (by omega)
  simpa using this
theorem vaN_le (l:List UInt8) (p q m:Nat) (hp:p≤l.length):(vaN l p q m).2.1≤l.length:=by
  unfold vaN
  have:=numF_at l p hp
  repeat' split
  all_goals simp only;omega
end Go.Proofs.YtgaklngnfecdaaaGreat.Oct
namespace Go.Proofs.YtgaklngnfecdaaaGreat.Oct
open Go.RowKit Zk Zx
theorem St.rdM {w0 w:World} {M:Nat→Prop} {rs:List Res} (S:St w0 M rs w) {size n c:Nat} {A:Option Addr} {xs:List Value} (h:Rs w0 size A n c xs) (hM:∀ ad,0 < n→A=some ad→¬ M ad.block):Rs w size A n c xs :=
  (fixed size A n c xs).stable w0 w (fun i ⟨ad,hn,hA,hi⟩=>by
    subst hi
    obtain ⟨ad',hA',hb,_⟩:=h.rd.2 hn
    rw [hA] at hA'
    cases hA'
    exact S.old _ hb (hM ad hn hA)) h
theorem rn_nat (l:List UInt8) (p q k:Nat):rnL l p q (k:Int)=rwL l p q k∧rnP l p q (k:Int)=rwP l p q k∧rnE l p q (k:Int)=rwE l p q k :=
  ⟨by rw [rnL,if_neg (by omega),Int.toNat_natCast],by rw [rnP,if_neg (by omega),Int.toNat_natCast],by rw [rnE,if_neg (by omega),Int.toNat_natCast]⟩
theorem rn_no {l:List UInt8} {p k:Nat} (h:¬ k≤l.length - p):rnL l p 0 (k:Int)=[]∧rnP l p 0 (k:Int)=p∧rnE l p 0 (k:Int)=10:=by
  obtain ⟨e1,e2,e3⟩:=rn_nat l p 0 k
  exact ⟨by rw [e1,rwL,if_pos Z,tkL_no h],by rw [e2,rwP,if_pos Z,tkP,if_neg h],by rw [e3,rwE,if_pos Z,tkE_no h]⟩
theorem rn_ok {l:List UInt8} {p k:Nat} (h:k≤l.length - p):rnL l p 0 (k:Int)=(l.drop p).take k∧rnP l p 0 (k:Int)=p+k∧rnE l p 0 (k:Int)=0:=by
  obtain ⟨e1,e2,e3⟩:=rn_nat l p 0 k
  exact ⟨by rw [e1,rwL,if_pos Z,tkL,if_pos h],by rw [e2,rwP,if_pos Z,tkP,if_pos h],by rw [e3,rwE,if_pos Z,tkE_ok h]⟩
theorem rw_le (l:List UInt8) (p q k:Nat):(rwL l p q k).length≤k:=by
  unfold rwL
  split
  · exact tk_le l p k
  · simp
end Go.Proofs.YtgaklngnfecdaaaGreat.Oct
namespace Go.Proofs.YtgaklngnfecdaaaGreat.Del
end Go.Proofs.YtgaklngnfecdaaaGreat.Del
namespace Go.Proofs.YtgaklngnfecdaaaGreat.Del
open Go.RowKit Zk Zx Oct
def encO (o:OV):List UInt8:=if o.cp then 1::(vr o.fr.toNat++vr o.n.toNat) else 0::(vr o.l.length++o.l)
def encV (b t:Int) (l:List OV):List UInt8:=vr b.toNat++vr t.toNat++l.flatMap encO
def putR (b t:Int) (l:List OV):List UInt8 × Int:=if errV b t l≠0 then ([],errV b t l) else (encV b t l,0)
theorem put_err {b t:Int} {l:List OV} (h:errV b t l≠0):putR b t l=([],errV b t l):=by unfold putR;rw [if_pos h]
theorem put_ok {b t:Int} {l:List OV} (h:errV b t l=0):putR b t l=(encV b t l,0):=by unfold putR;rw [if_neg (fun x=>x h)]
theorem enc_cp {o:OP} (h:o.cp=true):encO o.v=[1]++(vr o.fr.toNat++vr o.n.toNat):=by
  unfold encO
  rw [if_pos (show o.v.cp=true from h)]
  rfl
theorem enc_new {o:OP} (h:o.cp=false):encO o.v=[0]++(vr o.p.l.length++o.p.l):=by
  unfold encO
  rw [if_neg (show ¬ o.v.cp=true from by rw [show o.v.cp=o.cp from Z,h];exact Bool.false_ne_true)]
  rfl
theorem enc_step {b t:Int} {l:List OP} {k:Nat} {o:OP} (ho:l[k]?=some o):encV b t ((l.take (k+1)).map OP.v)=encV b t ((l.take k).map OP.v)++encO o.v:=by
  unfold encV
  rw [take1 ho,List.map_append,List.flatMap_append,List.append_assoc,List.append_assoc,List.append_assoc]
  simp
theorem vr_len4 (x:Nat) (h:x≤5000):(vr x).length≤2:=vr_len x 1 (by omega)
theorem wt_fresh {w w':World} {b:Nat} (h:w.heap.size≤b) (hw:(wt b none 0 0 []).holds w'):∀ i,(wt b none 0 0 []).dom i→w.heap.size≤i∧i < w'.heap.size:=fun i hi=>by
  refine ⟨?_,wt_lt hw i hi⟩
  rcases hi with hi | hi
  · have hi':i=b:=hi
    omega
  · cases hi
theorem i_u64 {x:Int} (h:0≤x) (h2:x≤5000):IntKind.u64.wrap x=((x.toNat:Nat):Int):=by
  rw [IntKind.wrap_u64]
  omega
theorem pput (A:Option Addr) (n c:Nat) (l:List OP) (b t:Int) (w0:World) (hl:Rs w0 4 A n c (l.flatMap opf)) (hok:OkO w0 l) (hn4:n≤4000) :
    Calls Tryz.prog 122 #[.agg (scA b t A n c)] w0 fun e w'=>∃ u,e=.returned u∧Like w0 w'∧∃ A' c',u=.tuple #[.slice A' (putR b t (l.map OP.v)).1.length c',.int .i64 (putR b t (l.map OP.v)).2]∧w'.ownsRow w0.heap.size 5 1 (.slice A' (putR b t (l.map OP.v)).1.length c') (putR b t (l.map OP.v)).1.length (bL (putR b t (l.map OP.v)).1):=by
 refine v_ (env:=[(0,.agg (scA b t A n c))]) [.agg (scA b t A n c)] Tryz.func122 Z Tryz.ntmps122 Z Z ?_;have hn:=ops_n hl;have hcap:=hl.cap;have hmax:=hl.max;have S0:=St.start w0 noM;refine a_ fun K1 hK1=>b_ (L_o (o_box Z S0 Z fun b1 w1 hb1 S1=>La Z Z (Lan Z Z (hK1 _ _ (a_ fun K2 hK2=>a_ fun K3 hK3=>b_ (L_y (X_ Tryz.underlying179 Z sz179 Z (S1.blk 0 Z) (show _=(scA b t A n c).toList∧_ from ⟨rfl,rfl⟩)) Z (L_o (o_ Tryz.func134 Z Z (pcheck A n c l b t w1 (S1.rd hl) (hok.like S1.like0)) Z Z ?_))))))));rintro e2 w2 ⟨v2,rfl,l2,rfl⟩;refine ⟨_,rfl,(have S2:=S1.like l2;Lan Z Z (hK3 _ _ (a_ fun K4 hK4=>Rm Z Z (L_y (V_ Z Z) Z (d_ (hK4 _ _ ?_))))))⟩;refine n_ Z (fun h11=>?_) (fun h11=>?_)
 ·
  refine a_ fun K5 hK5=>Rm Z Z (La Z Z (Lan Z Z (hK5 _ _ (l_ (ur (aF_ Z Z Z ?_))))));first | exact ⟨_,rfl,S2.like0,none,0,by rw [put_err h11];rfl,by rw [put_err h11];exact World.ownsRow_nil _ _ _ _⟩ | (have hke:k=n:=by omega);subst hke;rw [List.take_of_length_le (by omega)] at hm;have hO:=S2.own 2 Z;have hL:=(S2.row 2 Z).lenb;subst hm;obtain rfl:=hL;exact ⟨_,rfl,S2.like0,_,_,by rw [put_ok h110],by rw [put_ok h110];exact hO⟩
 ·
  have h110:=Decidable.byContradiction h11;obtain ⟨hrg,hall⟩:=errV_zero h110;refine m_ (hK2 _ _ (a_ fun K6 hK6=>b_ (L_o (o_ Tryz.func164 Z Z (wnew w2) Z Z ?_))));rintro e3 w3 ⟨v3,rfl,l3,g,rfl,hb3,hh3⟩;refine ⟨_,rfl,(have S3:=S2.new l3 _ hh3 (wt_fresh hb3 hh3);Lan Z Z (hK6 _ _ (a_ fun K7 hK7=>Rm Z Z (L_y (f_ 0 Tryz.underlying179 Z sz3 Z Z Z) Z (L_y (t_ Tryz.underlying3 Z Z (((S3.blk 0 Z).cell _).trans (by rfl))) Z ?_)))))⟩;refine L_y (T_ is3 Tryz.underlying102 Z (i_u64 (by omega) (by omega))) Z (L_o (o_ Tryz.func91 Z Z (wvar g _ _ _ _ b.toNat w3 (S3.get 1 Z) (by omega) (by simp)) Z Z ?_));rintro e4 w4 ⟨v4,rfl,⟨A4,n4,c4,T4⟩⟩;refine ⟨_,rfl,(have S4:=S3.turn 1 Z T4;d_ (hK7 _ _ (a_ fun K8 hK8=>Rm Z Z (L_y (f_ 1 Tryz.underlying179 Z sz3 Z Z Z) Z (L_y (t_ Tryz.underlying3 Z Z (((S4.blk 0 Z).cell _).trans (by rfl))) Z ?_)))))⟩;refine L_y (T_ is3 Tryz.underlying102 Z (i_u64 (by omega) (by omega))) Z (L_o (o_ Tryz.func91 Z Z (wvar g _ _ _ _ t.toNat w4 (S4.get 1 Z) (by omega) (by have:=vr_len4 b.toNat (by omega);simp;omega)) Z Z ?_));rintro e5 w5 ⟨v5,rfl,⟨A23,n23,c23,T5⟩⟩;refine ⟨_,rfl,(have S5:=S4.turn 1 Z T5;d_ (hK8 _ _ (a_ fun K9 hK9=>a_ fun K10 hK10=>b_ (L_y (f_ 2 Tryz.underlying179 Z sz177 Z Z Z) Z (L_y (t_ Tryz.underlying177 Z Z (((S5.blk 0 Z).cell _).trans (by rfl))) Z ?_)))))⟩;refine L_y (K_ Tryz.underlying177 Z) Z (Lm Z Z (d_ (hK10 _ _ (r_ ?_))));refine T_loop6 [(5,_),(25,_),(26,_)] (fun (k:Nat) (left:Int) (m:List UInt8) (A1:Option Addr) (n1:Nat) (c1:Nat)=>[(27,.int .i64 (k:Int))]) (fun (k:Nat) (left:Int) (m:List UInt8) (A1:Option Addr) (n1:Nat) (c1:Nat)=>n - k) (fun (k:Nat) (left:Int) (m:List UInt8) (A1:Option Addr) (n1:Nat) (c1:Nat) (w:World)=>(k≤n∧0≤left∧left≤4000∧chkL b left ((l.map OP.v).drop k)=true∧m=encV b t ((l.take k).map OP.v)∧m.length+left.toNat≤4020+21*k)∧St w0 noM [blk b1 179 (scA b t A n c),wt g A1 n1 c1 m] w) 0 t ([]++vr b.toNat++vr t.toNat) A23 n23 c23 (Sc Z (Sub.nil _)) (Sub.cons Z Z (Sub.cons Z Z (Sub.cons Z Z (Sub.nil _)))) ?_ ?_
  ·
   exact ⟨⟨Nat.zero_le _,by omega,by omega,hall,by simp [encV],by have:=vr_len4 b.toNat (by omega);have:=vr_len4 t.toNat (by omega);simp;omega⟩,S5⟩
  ·
   intro k left m A1 n1 c1 w6 hrel;obtain ⟨⟨hk,hl0,hl1,hch,hm,hml⟩,S6⟩:=hrel;refine a_ fun K11 hK11=>b_ (L_y (P_ Z Z) Z (d_ (hK11 _ _ (a_ fun K12 hK12=>?_))));refine n_ Z (fun h28=>?_) (fun h28=>?_)
   ·
    obtain ⟨o,ho⟩:∃ o,l[k]?=some o:=⟨_,List.getElem?_eq_getElem (by omega)⟩;have hop:=hok o (List.mem_of_getElem? ho);have hopn:=hop.lenb;have hopc:=hop.cap;have hopm:=hop.max;obtain ⟨hrt,hsz,hrest⟩:=chkL_next ho hch;have hs1:=sz_nonneg hrt;refine m_ (hK12 _ _ (a_ fun K13 hK13=>r_ (a_ fun K14 hK14=>b_ (L_y (S_ Tryz.underlying177 bb_ Z Z (S6.rd hl) (Nt.mk (by omega):Nt _ (k)) (by omega)) Z (L_y (y_ldp (f:=opf) opf_len Tryz.underlying221 Z bb_ Z (S6.rd hl) (by omega) ho) Z (L_o (F_ zz221 S6 Z fun b7 w7 hb7 S7=>L_o (D_ S7 2 Z Z Z bb_ Z (bB_ o) fun w8 S8=>d_ (hK14 _ _ (a_ fun K15 hK15=>b_ ?_))))))))));refine L_y (f_ 0 Tryz.underlying221 Z sz4 Z Z Z) Z (L_y (t_ Tryz.underlying4 Z Z (((S8.blk 2 Z).cell _).trans (by rfl))) Z ?_);refine d_ (hK15 _ _ ?_);refine au_ Z (fun h32=>?_) (fun h32=>?_)
    ·
     have hcp:o.cp=true:=h32;obtain ⟨g1,g2,g3,g4,g5⟩:=rt_cp hrt hcp;refine a_ fun K16 hK16=>Rm Z Z (L_o (o_ Tryz.func89 Z Z (wbyte g _ _ _ _ 1 w8 (S8.get 1 Z) (by omega)) Z Z ?_));rintro e9 w9 ⟨v9,rfl,⟨A9,n9,c9,T9⟩⟩;refine ⟨_,rfl,(have S9:=S8.turn 1 Z T9;d_ (hK16 _ _ (a_ fun K17 hK17=>Rm Z Z (L_y (f_ 1 Tryz.underlying221 Z sz3 Z Z Z) Z (L_y (t_ Tryz.underlying3 Z Z (((S9.blk 2 Z).cell _).trans (by rfl))) Z ?_)))))⟩;refine L_y (T_ is3 Tryz.underlying102 Z (i_u64 (by omega) (by omega))) Z (L_o (o_ Tryz.func91 Z Z (wvar g _ _ _ _ o.fr.toNat w9 (S9.get 1 Z) (by omega) (by simp;omega)) Z Z ?_));rintro e10 w10 ⟨v10,rfl,⟨A10,n10,c10,T10⟩⟩;refine ⟨_,rfl,(have S10:=S9.turn 1 Z T10;d_ (hK17 _ _ (Rm Z Z (L_y (f_ 2 Tryz.underlying221 Z sz3 Z Z Z) Z (L_y (t_ Tryz.underlying3 Z Z (((S10.blk 2 Z).cell _).trans (by rfl))) Z ?_)))))⟩;refine L_y (T_ is3 Tryz.underlying102 Z (i_u64 (by omega) (by omega))) Z (L_o (o_ Tryz.func91 Z Z (wvar g _ _ _ _ o.n.toNat w10 (S10.get 1 Z) (by omega) (by have:=vr_len4 o.fr.toNat (by omega);simp;omega)) Z Z ?_));rintro e11 w11 ⟨v11,rfl,⟨A11,n11,c11,T11⟩⟩;refine ⟨_,rfl,(have S11:=S10.turn 1 Z T11;d_ (hK13 _ _ (b_ (L_y (w_ Z Z (E_ (by omega))) Z (Lm Z Z (d_ (have S91:=S11.drop (rs':=[_,_]) (.cons_cons _ (.cons_cons _ (.cons _ (.refl _))));⟨k+1,left - szV o.v,_,_,_,_,by omega,⟨⟨by omega,by omega,by omega,hrest,by rw [hm,enc_step ho,enc_cp hcp];simp [List.append_assoc,ByteArray.size],by have:=vr_len4 o.fr.toNat (by omega);have:=vr_len4 o.n.toNat (by omega);simp;omega⟩,S91⟩,?_⟩)))))))⟩;exact (Sc Z (Sub.cons Z Z (Sub.cons Z Z (Sub.cons Z Z (Sub.nil _)))))
    ·
     have hcp:o.cp=false:=h32;obtain ⟨g1,g2⟩:=rt_new hrt hcp;refine a_ fun K18 hK18=>Rm Z Z (L_o (o_ Tryz.func89 Z Z (wbyte g _ _ _ _ 0 w8 (S8.get 1 Z) (by omega)) Z Z ?_));rintro e12 w12 ⟨v12,rfl,⟨A12,n12,c12,T12⟩⟩;refine ⟨_,rfl,(have S12:=S8.turn 1 Z T12;d_ (hK18 _ _ (Rm Z Z (L_y (f_ 3 Tryz.underlying221 Z sz22 Z Z Z) Z (L_y (t_ Tryz.underlying22 Z Z (((S12.blk 2 Z).cell _).trans (by rfl))) Z ?_)))))⟩;refine L_y (y_bstr Tryz.underlying22 Tryz.underlying5 Tryz.underlying9 Z (S12.rd hop)) Z (L_o (o_ Tryz.func165 Z Z (wtext g _ _ _ _ ⟨o.p.l.toArray⟩ w12 (S12.get 1 Z) (by simp [ByteArray.size];omega)) Z Z ?_));rintro e13 w13 ⟨v13,rfl,⟨A13,n13,c13,T13⟩⟩;refine ⟨_,rfl,(have S13:=S12.turn 1 Z T13;d_ (hK13 _ _ (b_ (L_y (w_ Z Z (E_ (by omega))) Z (Lm Z Z (d_ (have S91:=S13.drop (rs':=[_,_]) (.cons_cons _ (.cons_cons _ (.cons _ (.refl _))));⟨k+1,left - szV o.v,_,_,_,_,by omega,⟨⟨by omega,by omega,by omega,hrest,by rw [hm,enc_step ho,enc_new hcp];simp [List.append_assoc,ByteArray.size],by have:=vr_len4 o.p.l.length (by omega);simp [ByteArray.size];omega⟩,S91⟩,?_⟩)))))))⟩;exact (Sc Z (Sub.cons Z Z (Sub.cons Z Z (Sub.cons Z Z (Sub.nil _)))))
   ·
    refine Q_ (hK9 _ _ (a_ fun K19 hK19=>Rm Z Z (L_o (o_ Tryz.func59 Z Z (wbytes g _ _ _ _ w6 (S6.get 1 Z) (by omega)) Z Z ?_))));rintro e14 w14 ⟨v14,rfl,l14,A14,m14,c14,rfl,O14⟩;refine ⟨_,rfl,(have S14:=S6.adopt l14 O14;La Z Z (Lan Z Z (hK19 _ _ (l_ (ur (aF_ Z Z Z ?_))))))⟩;first | exact ⟨_,rfl,S14.like0,none,0,by rw [put_err h11];rfl,by rw [put_err h11];exact World.ownsRow_nil _ _ _ _⟩ | (have hke:k=n:=by omega);subst hke;rw [List.take_of_length_le (by omega)] at hm;have hO:=S14.own 2 Z;have hL:=(S14.row 2 Z).lenb;subst hm;obtain rfl:=hL;exact ⟨_,rfl,S14.like0,_,_,by rw [put_ok h110],by rw [put_ok h110];exact hO⟩
end Go.Proofs.YtgaklngnfecdaaaGreat.Del
namespace Go.Proofs.YtgaklngnfecdaaaGreat.Del
open Go.RowKit Zk Zx Oct
def okP (w:World) (B:Nat) (ps:List Part):Prop:=∀ p ∈ ps,p.ok w∧p.n≤B
theorem okP.nil (w:World) (B:Nat):okP w B []:=fun p hp=>by cases hp
theorem okP.cons {w:World} {B:Nat} {p:Part} {ps:List Part} (h1:p.ok w) (h2:p.n≤B) (h:okP w B ps):okP w B (p::ps):=fun q hq=>by
  rcases List.mem_cons.1 hq with rfl | hq
  · exact ⟨h1,h2⟩
  · exact h q hq
theorem okP.like {w w':World} {B:Nat} {ps:List Part} (h:okP w B ps) (lk:Like w w'):okP w' B ps:=fun p hp=>⟨Rs.like (h p hp).1 lk,(h p hp).2⟩
theorem getP {ps:List Part} {k:Nat} {p:Part} (hp:ps[k]?=some p):(ps.map pv)[k]?=some (.slice p.A p.n p.c):=by rw [List.getElem?_map,hp];rfl
end Go.Proofs.YtgaklngnfecdaaaGreat.Del
namespace Go.Proofs.YtgaklngnfecdaaaGreat.Del
open Go.RowKit Zk Zx Oct
end Go.Proofs.YtgaklngnfecdaaaGreat.Del
namespace Go.Proofs.YtgaklngnfecdaaaGreat.Del
open Go.RowKit Zk Zx Oct
end Go.Proofs.YtgaklngnfecdaaaGreat.Del
namespace Go.Proofs.YtgaklngnfecdaaaGreat.Del
open Go.RowKit Zk Zx Oct
structure RO where
  o:OV
  p:Nat
  q:Nat
  e:Int
def zO:OV:=⟨false,0,0,[]⟩
def zP:OP:=⟨false,0,0,p0⟩
def rdN (d:List UInt8) (p q:Nat) (base f:Int) (cp:Bool):RO :=
  if (vaN d p q 4000).2.2≠0 then ⟨zO,(vaN d p q 4000).2.1,(vaN d p q 4000).2.2,(vaN d p q 4000).2.2⟩
  else if (vaN d p q 4000).1=0 then ⟨zO,(vaN d p q 4000).2.1,0,12⟩
  else if cp then (if base - ((vaN d p q 4000).1:Int) < f then ⟨zO,(vaN d p q 4000).2.1,0,21⟩ else ⟨⟨true,f,((vaN d p q 4000).1:Int),[]⟩,(vaN d p q 4000).2.1,0,0⟩)
  else ⟨⟨false,0,0,rnL d (vaN d p q 4000).2.1 0 ((vaN d p q 4000).1:Int)⟩,rnP d (vaN d p q 4000).2.1 0 ((vaN d p q 4000).1:Int),rnE d (vaN d p q 4000).2.1 0 ((vaN d p q 4000).1:Int),(rnE d (vaN d p q 4000).2.1 0 ((vaN d p q 4000).1:Int):Int)⟩
def rdO (d:List UInt8) (p:Nat) (x:UInt8) (base:Int):RO :=
  if 1 < x.toNat then ⟨zO,p+1,0,19⟩
  else if x.toNat=1 then rdN d (vaN d (p+1) 0 4000).2.1 (vaN d (p+1) 0 4000).2.2 base ((vaN d (p+1) 0 4000).1:Int) true
  else rdN d (p+1) 0 base 0 false
section
variable {d : List UInt8} {p q : Nat} {base f : Int} {x : UInt8} {cp : Bool}
theorem rdO_bad (h:1 < x.toNat):rdO d p x base=⟨zO,p+1,0,19⟩:=by unfold rdO;rw [if_pos h]
theorem rdO_cp (h:x.toNat=1):rdO d p x base=rdN d (vaN d (p+1) 0 4000).2.1 (vaN d (p+1) 0 4000).2.2 base ((vaN d (p+1) 0 4000).1:Int) true:=by unfold rdO;rw [if_neg (by omega),if_pos h]
theorem rdO_new (h:¬ 1 < x.toNat) (h2:¬ x.toNat=1):rdO d p x base=rdN d (p+1) 0 base 0 false:=by unfold rdO;rw [if_neg h,if_neg h2]
theorem rdN_err (h:(vaN d p q 4000).2.2≠0):rdN d p q base f cp=⟨zO,(vaN d p q 4000).2.1,(vaN d p q 4000).2.2,(vaN d p q 4000).2.2⟩:=by unfold rdN;rw [if_pos h]
theorem rdN_zero (h:(vaN d p q 4000).2.2=0) (h2:(vaN d p q 4000).1=0):rdN d p q base f cp=⟨zO,(vaN d p q 4000).2.1,0,12⟩:=by unfold rdN;rw [if_neg (by omega),if_pos h2]
theorem rdN_far (h:(vaN d p q 4000).2.2=0) (h2:¬ (vaN d p q 4000).1=0) (h3:base - ((vaN d p q 4000).1:Int) < f):rdN d p q base f true=⟨zO,(vaN d p q 4000).2.1,0,21⟩:=by unfold rdN;rw [if_neg (by omega),if_neg h2,if_pos Z,if_pos h3]
theorem rdN_cp (h:(vaN d p q 4000).2.2=0) (h2:¬ (vaN d p q 4000).1=0) (h3:¬ base - ((vaN d p q 4000).1:Int) < f):rdN d p q base f true=⟨⟨true,f,((vaN d p q 4000).1:Int),[]⟩,(vaN d p q 4000).2.1,0,0⟩:=by unfold rdN;rw [if_neg (by omega),if_neg h2,if_pos Z,if_neg h3]
theorem rdN_new (h:(vaN d p q 4000).2.2=0) (h2:¬ (vaN d p q 4000).1=0):rdN d p q base f false=⟨⟨false,0,0,rnL d (vaN d p q 4000).2.1 0 ((vaN d p q 4000).1:Int)⟩,rnP d (vaN d p q 4000).2.1 0 ((vaN d p q 4000).1:Int),rnE d (vaN d p q 4000).2.1 0 ((vaN d p q 4000).1:Int),(rnE d (vaN d p q 4000).2.1 0 ((vaN d p q 4000).1:Int):Int)⟩:=by unfold rdN;rw [if_neg (by omega),if_neg h2,if_neg Bool.false_ne_true]
theorem vaN_m (d:List UInt8) (p q m:Nat):(vaN d p q m).1≤m:=by
  unfold vaN
  repeat' split
  all_goals simp only;omega
end
theorem rnP_le (l:List UInt8) (p q:Nat) (m:Int) (hp:p≤l.length):rnP l p q m≤l.length:=by
  unfold rnP rwP
  split
  · exact hp
  · split
    · exact tkP_le l p _ hp
    · exact hp
def rowP (p:Part):Res:=row 5 1 p.A p.n p.c (bL p.l)
theorem p0_holds (w:World):(rowP p0).holds w:=World.ownsRow_nil _ _ _ _
theorem p0_dom {i:Nat} {Q:Prop} (h:(rowP p0).dom i):Q:=by simp [rowP,p0,row,Value.ownBlock] at h
theorem rbyte1 (g:Nat) (A:Option Addr) (n c:Nat) (l:List UInt8) (p:Nat) (x:UInt8) (w0:World) (hw:(rdr g A n c l p 0).holds w0) (hx:l[p]?=some x) (hn62:n≤4611686018427387904) :
    Calls Tryz.prog 127 #[.pointer (some ⟨g,0,none⟩)] w0 fun e w'=>∃ u,e=.returned u∧u=.int .u8 (x.toNat:Int)∧Turned w0 w' (rdr g A n c l p 0) (rdr g A n c l (p+1) 0):=by
  have hp:=(List.getElem?_eq_some_iff.1 hx).1
  refine (rbyte g A n c l p 0 w0 hw (by omega) hn62).mono fun e w' ⟨u,h1,h2,h3⟩=>⟨u,h1,?_,?_⟩
  · obtain ⟨y,hy,htk,_⟩:=tk_one (show 1≤l.length - p by omega)
    rw [hx] at hy
    obtain rfl:=Option.some.inj hy
    rw [h2,rwL,if_pos Z,htk]
    simp [be]
  · exact Rdd.turned h3 (by rw [rwP,if_pos Z,tkP,if_pos (by omega)]) (by rw [rwE,if_pos Z,tkE_ok (by omega)])
theorem rop (g:Nat) (A:Option Addr) (n c:Nat) (l:List UInt8) (p:Nat) (x:UInt8) (base:Int) (w0:World) (hw:(rdr g A n c l p 0).holds w0) (hx:l[p]?=some x) (hn5:n≤10000) (hb:0≤base∧base≤4000) :
    Calls Tryz.prog 132 #[.pointer (some ⟨g,0,none⟩),.int .i64 base] w0 fun e w'=>∃ u,e=.returned u∧Turned w0 w' (rdr g A n c l p 0) (rdr g A n c l (rdO l p x base).p (rdO l p x base).q)∧∃ o:OP,u=.tuple #[.agg (opf o).toArray,.int .i64 (rdO l p x base).e]∧o.v=(rdO l p x base).o∧(rowP o.p).holds w'∧∀ i,(rowP o.p).dom i→w0.heap.size≤i:=by
 refine v_ (env:=[(0,.pointer (some ⟨g,0,none⟩)),(1,.int .i64 base)]) [.pointer (some ⟨g,0,none⟩),.int .i64 base] Tryz.func132 Z Tryz.ntmps132 Z Z ?_;have hnl:=bA_ hw;have hnc:=aC_ hw.2;have hpl:=(List.getElem?_eq_some_iff.1 hx).1;have hxl:=x.toNat_lt;have S0:=St.borrow1 (rdr g A n c l p 0) hw (rdr_lt hw);refine a_ fun K1 hK1=>b_ (L_o (F_ zz221 S0 Z fun b1 w1 hb1 S1=>Lan Z Z (hK1 _ _ (a_ fun K2 hK2=>Rm Z Z (L_o (o_ Tryz.func127 Z Z (rbyte1 g A n c l p x w1 (S1.get 0 Z) hx (by omega)) Z Z ?_))))));rintro e2 w2 ⟨v2,rfl,rfl,T2⟩;refine ⟨_,rfl,(have S2:=S1.turn 0 Z T2;Lan Z Z (hK2 _ _ (a_ fun K3 hK3=>a_ fun K4 hK4=>Rm Z Z (L_y (af_ Z Z) Z (d_ (hK4 _ _ ?_))))))⟩;refine n_ Z (fun h13=>?_) (fun h13=>?_)
 ·
  refine a_ fun K5 hK5=>b_ (L_y (C_ Z (show _=some #[Value.bool false,Value.int .i64 0,Value.int .i64 0,Value.slice none 0 0] by kernel_rfl)) Z (L_o (D_ S2 1 Z Z Z bb_ Z (by first | exact bB_ _ | (intro u hu;simp at hu;rcases hu with rfl | rfl | rfl | rfl <;> rfl)) fun w3 S3=>?_)));refine Lan Z Z (hK5 _ _ (l_ (ur (aa_ Z Z Z (S3.blk 1 Z) Tryz.underlying221 Z (by exact bb_) ?_))));rw [rdO_bad (by omega)];exact ⟨_,rfl,S3.turned1 0 Z,zP,rfl,rfl,p0_holds _,fun i hi=>p0_dom hi⟩
 ·
  refine m_ (hK3 _ _ (a_ fun K6 hK6=>Rm Z Z (L_y (ao_ Z Z) Z (L_y (C_ Z (show _=some #[Value.bool (decide ((x.toNat:Int)=1)),Value.int .i64 0,Value.int .i64 0,Value.slice none 0 0] by kernel_rfl)) Z ?_))));refine L_o (F_ zz221 S2 Z fun b4 w4 hb4 S4=>L_o (D_ S4 2 Z Z Z bb_ Z (by intro u hu;simp at hu;rcases hu with rfl | rfl | rfl | rfl <;> rfl) fun w5 S5=>?_));refine d_ (hK6 _ _ (a_ fun K7 hK7=>a_ fun K8 hK8=>b_ (L_y (f_ 0 Tryz.underlying221 Z sz4 Z Z Z) Z (L_y (t_ Tryz.underlying4 Z Z (((S5.blk 2 Z).cell _).trans (by rfl))) Z ?_))));refine d_ (hK8 _ _ ?_);refine n_ Z (fun h19=>?_) (fun h19=>?_)
  ·
   have hx1:x.toNat=1:=by omega
   rw [decide_eq_true (show ((x.toNat:Nat):Int)=1 by omega)] at S5;refine Rm Z Z (L_o (o_ Tryz.func129 Z Z (rvar g A n c l (p+1) 0 4000 w5 (S5.get 0 Z) (by omega) (by omega)) Z Z ?_));rintro e6 w6 ⟨v6,rfl,rfl,T6⟩;refine ⟨_,rfl,(have S6:=S5.turn 0 Z T6;have hF:=vaN_le l (p+1) 0 4000 (by omega);have hFm:=vaN_m l (p+1) 0 4000;L_y (T_ is102 Tryz.underlying3 Z (E_ (by omega))) Z (L_y (f_ 1 Tryz.underlying221 Z sz3 Z Z Z) Z (L_o (ac_ S6 2 Z Z Z Z sz3 (by simp;done) fun w7 S7=>?_))))⟩;refine d_ (hK7 _ _ (a_ fun K9 hK9=>Rm Z Z (L_o (o_ Tryz.func129 Z Z (rvar g A n c l _ _ 4000 w7 (S7.get 0 Z) (by omega) (by omega)) Z Z ?_))));rintro e8 w8 ⟨v8,rfl,rfl,T8⟩;refine ⟨_,rfl,(have S8:=S7.turn 0 Z T8;have hG:=vaN_le l (vaN l (p+1) 0 4000).2.1 (vaN l (p+1) 0 4000).2.2 4000 (by omega);have hGm:=vaN_m l (vaN l (p+1) 0 4000).2.1 (vaN l (p+1) 0 4000).2.2 4000;L_y (T_ is102 Tryz.underlying3 Z (E_ (by omega))) Z (Lan Z Z (hK9 _ _ (a_ fun K10 hK10=>a_ fun K11 hK11=>Rm Z Z (L_o (o_ Tryz.func128 Z Z (rerr g A n c l _ _ w8 (S8.get 0 Z) (by omega)) Z Z ?_))))))⟩;rintro e9 w9 ⟨v9,rfl,l9,rfl⟩;refine ⟨_,rfl,(have S9:=S8.like l9;Lan Z Z (hK11 _ _ (a_ fun K12 hK12=>Rm Z Z (L_y (V_ Z Z) Z (d_ (hK12 _ _ ?_))))))⟩;refine n_ Z (fun h30=>?_) (fun h30=>?_)
   ·
    refine a_ fun K13 hK13=>b_ (L_y (C_ Z (show _=some #[Value.bool false,Value.int .i64 0,Value.int .i64 0,Value.slice none 0 0] by kernel_rfl)) Z (Lm Z Z (L_o (D_ S9 1 Z Z Z bb_ Z (by first | exact bB_ _ | (intro u hu;simp at hu;rcases hu with rfl | rfl | rfl | rfl <;> rfl)) fun w10 S10=>?_))));refine Lan Z Z (hK13 _ _ (l_ (ur (aa_ Z Z Z (S10.blk 1 Z) Tryz.underlying221 Z (by exact bb_) ?_))));rw [rdO_cp hx1,rdN_err (by omega)];exact ⟨_,rfl,S10.turned1 0 Z,zP,rfl,rfl,p0_holds _,fun i hi=>p0_dom hi⟩
   ·
    have hq0:(vaN l (vaN l (p+1) 0 4000).2.1 (vaN l (p+1) 0 4000).2.2 4000).2.2=0:=by omega
    rw [hq0] at S9;refine m_ (hK10 _ _ (a_ fun K14 hK14=>a_ fun K15 hK15=>Rm Z Z (L_y (ao_ Z Z) Z (d_ (hK15 _ _ ?_)))));refine n_ Z (fun h34=>?_) (fun h34=>?_)
    ·
     refine a_ fun K16 hK16=>b_ (L_y (C_ Z (show _=some #[Value.bool false,Value.int .i64 0,Value.int .i64 0,Value.slice none 0 0] by kernel_rfl)) Z (L_o (D_ S9 1 Z Z Z bb_ Z (by first | exact bB_ _ | (intro u hu;simp at hu;rcases hu with rfl | rfl | rfl | rfl <;> rfl)) fun w11 S11=>?_)));refine Lan Z Z (hK16 _ _ (l_ (ur (aa_ Z Z Z (S11.blk 1 Z) Tryz.underlying221 Z (by exact bb_) ?_))));rw [rdO_cp hx1,rdN_zero hq0 (by omega)];exact ⟨_,rfl,S11.turned1 0 Z,zP,rfl,rfl,p0_holds _,fun i hi=>p0_dom hi⟩
    ·
     refine m_ (hK14 _ _ (a_ fun K17 hK17=>a_ fun K18 hK18=>b_ (L_y (f_ 0 Tryz.underlying221 Z sz4 Z Z Z) Z (L_y (t_ Tryz.underlying4 Z Z (((S9.blk 2 Z).cell _).trans (by rfl))) Z ?_))));refine L_y ((by first | exact aj_ Z | exact aI_ Z)) Z ?_;refine d_ (hK18 _ _ (ba_ Z (m_ (hK17 _ _ (a_ fun K19 hK19=>Rm Z Z (L_y (f_ 2 Tryz.underlying221 Z sz3 Z Z Z) Z (L_o (ac_ S9 2 Z Z Z Z sz3 (by simp;done) fun w12 S12=>?_))))))));refine d_ (hK19 _ _ (a_ fun K20 hK20=>a_ fun K21 hK21=>b_ (L_y (f_ 1 Tryz.underlying221 Z sz3 Z Z Z) Z (L_y (t_ Tryz.underlying3 Z Z (((S12.blk 2 Z).cell _).trans (by rfl))) Z ?_))));refine Lm Z Z (Lm Z Z (L_y (aE_ Z Z (E_ (by omega))) Z (L_y (af_ Z Z) Z (d_ (hK21 _ _ ?_)))));refine n_ Z (fun h53=>?_) (fun h53=>?_)
     ·
      refine a_ fun K22 hK22=>b_ (L_y (C_ Z (show _=some #[Value.bool false,Value.int .i64 0,Value.int .i64 0,Value.slice none 0 0] by kernel_rfl)) Z (L_o (D_ S12 1 Z Z Z bb_ Z (by first | exact bB_ _ | (intro u hu;simp at hu;rcases hu with rfl | rfl | rfl | rfl <;> rfl)) fun w13 S13=>?_)));refine Lan Z Z (hK22 _ _ (l_ (ur (aa_ Z Z Z (S13.blk 1 Z) Tryz.underlying221 Z (by exact bb_) ?_))));rw [rdO_cp hx1,rdN_far hq0 (by omega) (by omega)];exact ⟨_,rfl,S13.turned1 0 Z,zP,rfl,rfl,p0_holds _,fun i hi=>p0_dom hi⟩
     ·
      refine m_ (hK20 _ _ (a_ fun K23 hK23=>b_ (L_y (X_ Tryz.underlying221 Z bb_ Z (S12.blk 2 Z) (show _=(opf ⟨true,((vaN l (p+1) 0 4000).1:Int),((vaN l (vaN l (p+1) 0 4000).2.1 (vaN l (p+1) 0 4000).2.2 4000).1:Int),p0⟩)∧_ from ⟨rfl,rfl⟩)) Z (L_o (D_ S12 1 Z Z Z bb_ Z (by first | exact bB_ _ | (intro u hu;simp at hu;rcases hu with rfl | rfl | rfl | rfl <;> rfl)) fun w14 S14=>?_)))));refine Lan Z Z (hK23 _ _ (l_ (ur (aa_ Z Z Z (S14.blk 1 Z) Tryz.underlying221 Z (by exact bb_) ?_))));rw [rdO_cp hx1,rdN_cp hq0 (by omega) (by omega)];exact ⟨_,rfl,S14.turned1 0 Z,⟨true,((vaN l (p+1) 0 4000).1:Int),_,p0⟩,rfl,rfl,p0_holds _,fun i hi=>p0_dom hi⟩
  ·
   have hx1:¬ x.toNat=1:=by omega
   rw [decide_eq_false (show ¬ ((x.toNat:Nat):Int)=1 by omega)] at S5;refine m_ (hK7 _ _ (a_ fun K24 hK24=>Rm Z Z (L_o (o_ Tryz.func129 Z Z (rvar g A n c l _ _ 4000 w5 (S5.get 0 Z) (by omega) (by omega)) Z Z ?_))));rintro e15 w15 ⟨v15,rfl,rfl,T15⟩;refine ⟨_,rfl,(have S15:=S5.turn 0 Z T15;have hG:=vaN_le l (p+1) 0 4000 (by omega);have hGm:=vaN_m l (p+1) 0 4000;L_y (T_ is102 Tryz.underlying3 Z (E_ (by omega))) Z (Lan Z Z (hK24 _ _ (a_ fun K25 hK25=>a_ fun K26 hK26=>Rm Z Z (L_o (o_ Tryz.func128 Z Z (rerr g A n c l _ _ w15 (S15.get 0 Z) (by omega)) Z Z ?_))))))⟩;rintro e16 w16 ⟨v16,rfl,l16,rfl⟩;refine ⟨_,rfl,(have S16:=S15.like l16;Lan Z Z (hK26 _ _ (a_ fun K27 hK27=>Rm Z Z (L_y (V_ Z Z) Z (d_ (hK27 _ _ ?_))))))⟩;refine n_ Z (fun h30=>?_) (fun h30=>?_)
   ·
    refine a_ fun K28 hK28=>b_ (L_y (C_ Z (show _=some #[Value.bool false,Value.int .i64 0,Value.int .i64 0,Value.slice none 0 0] by kernel_rfl)) Z (Lm Z Z (L_o (D_ S16 1 Z Z Z bb_ Z (by first | exact bB_ _ | (intro u hu;simp at hu;rcases hu with rfl | rfl | rfl | rfl <;> rfl)) fun w17 S17=>?_))));refine Lan Z Z (hK28 _ _ (l_ (ur (aa_ Z Z Z (S17.blk 1 Z) Tryz.underlying221 Z (by exact bb_) ?_))));rw [rdO_new (by omega) (by omega),rdN_err (by omega)];exact ⟨_,rfl,S17.turned1 0 Z,zP,rfl,rfl,p0_holds _,fun i hi=>p0_dom hi⟩
   ·
    have hq0:(vaN l (p+1) 0 4000).2.2=0:=by omega
    rw [hq0] at S16;refine m_ (hK25 _ _ (a_ fun K29 hK29=>a_ fun K30 hK30=>Rm Z Z (L_y (ao_ Z Z) Z (d_ (hK30 _ _ ?_)))));refine n_ Z (fun h34=>?_) (fun h34=>?_)
    ·
     refine a_ fun K31 hK31=>b_ (L_y (C_ Z (show _=some #[Value.bool false,Value.int .i64 0,Value.int .i64 0,Value.slice none 0 0] by kernel_rfl)) Z (L_o (D_ S16 1 Z Z Z bb_ Z (by first | exact bB_ _ | (intro u hu;simp at hu;rcases hu with rfl | rfl | rfl | rfl <;> rfl)) fun w18 S18=>?_)));refine Lan Z Z (hK31 _ _ (l_ (ur (aa_ Z Z Z (S18.blk 1 Z) Tryz.underlying221 Z (by exact bb_) ?_))));rw [rdO_new (by omega) (by omega),rdN_zero hq0 (by omega)];exact ⟨_,rfl,S18.turned1 0 Z,zP,rfl,rfl,p0_holds _,fun i hi=>p0_dom hi⟩
    ·
     refine m_ (hK29 _ _ (a_ fun K32 hK32=>a_ fun K33 hK33=>b_ (L_y (f_ 0 Tryz.underlying221 Z sz4 Z Z Z) Z (L_y (t_ Tryz.underlying4 Z Z (((S16.blk 2 Z).cell _).trans (by rfl))) Z ?_))));refine L_y ((by first | exact aj_ Z | exact aI_ Z)) Z ?_;refine d_ (hK33 _ _ (W_ Z (a_ fun K34 hK34=>Rm Z Z (Lm Z Z (L_o (o_ Tryz.func104 Z Z (rraw g A n c l _ _ _ w16 (S16.get 0 Z) (by omega) (by omega) (by omega)) Z Z ?_))))));rintro e19 w19 ⟨v19,rfl,T19,B7,d7,rfl,hr19,hd19⟩;refine ⟨_,rfl,(have S19:=S16.turn 0 Z T19;have S20:=St.newT S16 0 Z T19 (fun i hi=>hi) hr19 (fun i hi=>⟨hd19 i hi,(World.ownsRow.lt hr19 i hi).2⟩);have hdR:=fun i hi=>Nat.le_trans S16.size (hd19 i hi);have hRP:=rnP_le l (vaN l (p+1) 0 4000).2.1 0 ((vaN l (p+1) 0 4000).1:Int) (by omega);L_y (f_ 3 Tryz.underlying221 Z sz22 Z Z Z) Z (L_o (ac_ S20 2 Z Z Z Z sz22 (by simp;done) fun w21 S21=>?_)))⟩;refine d_ (hK34 _ _ (a_ fun K35 hK35=>T_zed [0,1,2] 3 [(0,1),(1,1),(2,2),(3,3),(4,3)] hmix (by kernel_rfl) fun w22 l22=>have S22:=S21.like l22;ZA_B (Like w22) (Like.refl _) (O_ Z (X_ Tryz.underlying221 Z bb_ Z (S22.blk 2 Z) (show _=(opf ⟨false,0,0,⟨B7,(rnL l (vaN l (p+1) 0 4000).2.1 0 ((vaN l (p+1) 0 4000).1:Int)).length,d7,rnL l (vaN l (p+1) 0 4000).2.1 0 ((vaN l (p+1) 0 4000).1:Int)⟩⟩)∧_ from ⟨rfl,rfl⟩)) Z (O_ Z (p_ Z) Z (ZB_o Z (o_ Tryz.func128 Z Z (rerr g A n c l _ _ w22 (S22.get 0 Z) (by omega)) Z Z ?_))))));rintro e23 w23 ⟨v23,rfl,l23,rfl⟩;refine ⟨_,rfl,l23,(have S23:=S22.like l23;have q23:=l23;ZB_c Z (D_ S23 1 Z Z Z bb_ Z (by first | exact bB_ _ | (intro u hu;simp at hu;rcases hu with rfl | rfl | rfl | rfl <;> rfl)) fun w24 S24=>?_))⟩;refine ZA_oy Z (J_ Z) Z (ZA_nil (hK35 _ _ (l_ (ur (aa_ Z Z Z (S24.blk 1 Z) Tryz.underlying221 Z (by exact bb_) ?_)))));rw [rdO_new (by omega) (by omega),rdN_new hq0 (by omega)];exact ⟨_,rfl,S24.turned1 0 Z,⟨false,0,0,⟨B7,_,d7,rnL l (vaN l (p+1) 0 4000).2.1 0 ((vaN l (p+1) 0 4000).1:Int)⟩⟩,rfl,rfl,S24.get 3 Z,fun i hi=>hdR i hi⟩
end Go.Proofs.YtgaklngnfecdaaaGreat.Del
namespace Go.Proofs.YtgaklngnfecdaaaGreat.Del
open Go.RowKit Zk Zx Oct
theorem vaN_ge (d:List UInt8) (p q m:Nat):p≤(vaN d p q m).2.1:=by
  unfold vaN
  repeat' split
  all_goals simp only;omega
theorem rdN_ok {d:List UInt8} {p q:Nat} {base f:Int} {cp:Bool} (hp:p≤d.length) (h:(rdN d p q base f cp).e=0):(rdN d p q base f cp).q=0∧p≤(rdN d p q base f cp).p∧(rdN d p q base f cp).p≤d.length∧1≤szV (rdN d p q base f cp).o:=by
  have hg:=vaN_ge d p q 4000
  have hl:=vaN_le d p q 4000 hp
  by_cases h1:(vaN d p q 4000).2.2=0
  · by_cases h2:(vaN d p q 4000).1=0
    · rw [rdN_zero h1 h2] at h
      exact absurd h (by show ¬ (12:Int)=0;decide)
    · cases cp with
      | true =>
        by_cases h3:base - ((vaN d p q 4000).1:Int) < f
        · rw [rdN_far h1 h2 h3] at h
          exact absurd h (by show ¬ (21:Int)=0;decide)
        · rw [rdN_cp h1 h2 h3]
          exact ⟨rfl,hg,hl,by show (1:Int)≤((vaN d p q 4000).1:Int);omega⟩
      | false =>
        rw [rdN_new h1 h2] at h ⊢
        have h':rnE d (vaN d p q 4000).2.1 0 ((vaN d p q 4000).1:Int)=0:=by
          have:(rnE d (vaN d p q 4000).2.1 0 ((vaN d p q 4000).1:Int):Int)=0:=h
          omega
        by_cases h4:(vaN d p q 4000).1≤d.length - (vaN d p q 4000).2.1
        · obtain ⟨e1,e2,e3⟩:=rn_ok h4
          rw [e1,e2,e3]
          refine ⟨rfl,(by show p≤_+_;omega),(by show _+_≤d.length;omega),?_⟩
          show (1:Int)≤((((d.drop (vaN d p q 4000).2.1).take (vaN d p q 4000).1).length:Nat):Int)
          rw [List.length_take,List.length_drop]
          omega
        · obtain ⟨e1,e2,e3⟩:=rn_no h4
          rw [e3] at h'
          exact absurd h' (by decide)
  · rw [rdN_err h1] at h
    have:((vaN d p q 4000).2.2:Int)=0:=h
    omega
theorem rdO_ok {d:List UInt8} {p:Nat} {x:UInt8} {base:Int} (hx:d[p]?=some x) (h:(rdO d p x base).e=0):(rdO d p x base).q=0∧p < (rdO d p x base).p∧(rdO d p x base).p≤d.length∧1≤szV (rdO d p x base).o:=by
  have hp:=(List.getElem?_eq_some_iff.1 hx).1
  by_cases h1:1 < x.toNat
  · rw [rdO_bad h1] at h
    exact absurd h (by show ¬ (19:Int)=0;decide)
  · by_cases h2:x.toNat=1
    · rw [rdO_cp h2] at h ⊢
      have hg:=vaN_ge d (p+1) 0 4000
      obtain ⟨e1,e2,e3,e4⟩:=rdN_ok (vaN_le d (p+1) 0 4000 (by omega)) h
      exact ⟨e1,by omega,e3,e4⟩
    · rw [rdO_new h1 h2] at h ⊢
      obtain ⟨e1,e2,e3,e4⟩:=rdN_ok (by omega) h
      exact ⟨e1,by omega,e3,e4⟩
def rdL (d:List UInt8) (base:Int):Nat→Nat→Int→List OV × Int
  | 0,_,left=>([],if 0 < left then 10 else 0)
  | f + 1,p,left=>match d[p]? with
    | none=>([],if 0 < left then 10 else 0)
    | some x=>if (rdO d p x base).e≠0 then ([],(rdO d p x base).e) else if left < szV (rdO d p x base).o then ([],3)
      else ((rdO d p x base).o::(rdL d base f (rdO d p x base).p (left - szV (rdO d p x base).o)).1,(rdL d base f (rdO d p x base).p (left - szV (rdO d p x base).o)).2)
theorem rdL_end {d:List UInt8} {base:Int} {f p:Nat} {left:Int} (h:d.length≤p):rdL d base f p left=([],if 0 < left then 10 else 0):=by
  cases f with
  | zero=>rfl
  | succ f=>unfold rdL;rw [List.getElem?_eq_none h]
theorem rdL_err {d:List UInt8} {base:Int} {f p:Nat} {left:Int} {x:UInt8} (hx:d[p]?=some x) (h:(rdO d p x base).e≠0):rdL d base (f+1) p left=([],(rdO d p x base).e):=by
  conv=>lhs;unfold rdL
  rw [hx]
  exact if_pos h
theorem rdL_long {d:List UInt8} {base:Int} {f p:Nat} {left:Int} {x:UInt8} (hx:d[p]?=some x) (h:(rdO d p x base).e=0) (h2:left < szV (rdO d p x base).o):rdL d base (f+1) p left=([],3):=by
  conv=>lhs;unfold rdL
  rw [hx]
  show (if _ then _ else _)=_
  rw [if_neg (fun h3=>h3 h),if_pos h2]
theorem rdL_next {d:List UInt8} {base:Int} {f p:Nat} {left:Int} {x:UInt8} (hx:d[p]?=some x) (h:(rdO d p x base).e=0) (h2:¬ left < szV (rdO d p x base).o):rdL d base (f+1) p left=((rdO d p x base).o::(rdL d base f (rdO d p x base).p (left - szV (rdO d p x base).o)).1,(rdL d base f (rdO d p x base).p (left - szV (rdO d p x base).o)).2):=by
  conv=>lhs;unfold rdL
  rw [hx]
  show (if _ then _ else _)=_
  rw [if_neg (fun h3=>h3 h),if_neg h2]
def RDI (d:List UInt8) (base:Int) (p:Nat) (left:Int) (ops:List OV) (r:List OV × Int):Prop:=∃ f,d.length - p≤f∧(ops++(rdL d base f p left).1,(rdL d base f p left).2)=r
section
variable {d : List UInt8} {base : Int} {p : Nat} {left : Int} {ops : List OV} {r : List OV × Int} {x : UInt8}
theorem RDI.start (d:List UInt8) (base:Int) (p:Nat) (left:Int):RDI d base p left [] (rdL d base d.length p left):=⟨d.length,by omega,rfl⟩
theorem RDI.stop (h:RDI d base p left ops r) (hp:d.length≤p):r=(ops,if 0 < left then 10 else 0):=by
  obtain ⟨f,h1,h2⟩:=h
  rw [rdL_end hp,List.append_nil] at h2
  exact h2.symm
theorem RDI.err (h:RDI d base p left ops r) (hx:d[p]?=some x) (he:(rdO d p x base).e≠0):r=(ops,(rdO d p x base).e):=by
  have hp:=(List.getElem?_eq_some_iff.1 hx).1
  obtain ⟨f,h1,h2⟩:=h
  obtain ⟨g,rfl⟩:∃ g,f=g+1:=⟨f - 1,by omega⟩
  rw [rdL_err hx he,List.append_nil] at h2
  exact h2.symm
theorem RDI.long (h:RDI d base p left ops r) (hx:d[p]?=some x) (he:(rdO d p x base).e=0) (hs:left < szV (rdO d p x base).o):r=(ops,3):=by
  have hp:=(List.getElem?_eq_some_iff.1 hx).1
  obtain ⟨f,h1,h2⟩:=h
  obtain ⟨g,rfl⟩:∃ g,f=g+1:=⟨f - 1,by omega⟩
  rw [rdL_long hx he hs,List.append_nil] at h2
  exact h2.symm
theorem RDI.next (h:RDI d base p left ops r) (hx:d[p]?=some x) (he:(rdO d p x base).e=0) (hs:¬ left < szV (rdO d p x base).o):RDI d base (rdO d p x base).p (left - szV (rdO d p x base).o) (ops++[(rdO d p x base).o]) r:=by
  have hp:=(List.getElem?_eq_some_iff.1 hx).1
  have ho:=rdO_ok hx he
  obtain ⟨f,h1,h2⟩:=h
  obtain ⟨g,rfl⟩:∃ g,f=g+1:=⟨f - 1,by omega⟩
  rw [rdL_next hx he hs] at h2
  exact ⟨g,by omega,by rw [← h2,List.append_assoc];rfl⟩
end
def rdR (d:List UInt8):List OV × Int:=rdL d ((vaN d 0 0 4000).1:Int) d.length (vaN d (vaN d 0 0 4000).2.1 (vaN d 0 0 4000).2.2 4000).2.1 ((vaN d (vaN d 0 0 4000).2.1 (vaN d 0 0 4000).2.2 4000).1:Int)
def ag_ (d:List UInt8):Int × Int × List OV × Int :=
  if (vaN d (vaN d 0 0 4000).2.1 (vaN d 0 0 4000).2.2 4000).2.2≠0 then (0,0,[],(vaN d (vaN d 0 0 4000).2.1 (vaN d 0 0 4000).2.2 4000).2.2)
  else if (rdR d).2≠0 then (0,0,[],(rdR d).2) else ((vaN d 0 0 4000).1,(vaN d (vaN d 0 0 4000).2.1 (vaN d 0 0 4000).2.2 4000).1,(rdR d).1,0)
theorem read_e1 {d:List UInt8} (h:(vaN d (vaN d 0 0 4000).2.1 (vaN d 0 0 4000).2.2 4000).2.2≠0):ag_ d=(0,0,[],((vaN d (vaN d 0 0 4000).2.1 (vaN d 0 0 4000).2.2 4000).2.2:Int)):=by unfold ag_;rw [if_pos h]
theorem read_e2 {d:List UInt8} (h:(vaN d (vaN d 0 0 4000).2.1 (vaN d 0 0 4000).2.2 4000).2.2=0) {ops:List OV} {e:Int} (h2:rdR d=(ops,e)) (he:e≠0):ag_ d=(0,0,[],e):=by unfold ag_;rw [if_neg (by omega),h2,if_pos he]
theorem read_ok {d:List UInt8} (h:(vaN d (vaN d 0 0 4000).2.1 (vaN d 0 0 4000).2.2 4000).2.2=0) {ops:List OV} (h2:rdR d=(ops,0)):ag_ d=(((vaN d 0 0 4000).1:Int),((vaN d (vaN d 0 0 4000).2.1 (vaN d 0 0 4000).2.2 4000).1:Int),ops,0):=by unfold ag_;rw [if_neg (by omega),h2,if_neg (fun h3=>h3 Z)]
end Go.Proofs.YtgaklngnfecdaaaGreat.Del
namespace Go.Proofs.YtgaklngnfecdaaaGreat.Del
open Go.RowKit Zk Zx Oct
end Go.Proofs.YtgaklngnfecdaaaGreat.Del
namespace Go.Proofs.YtgaklngnfecdaaaGreat.Del
open Go.RowKit Zk Zx Oct
theorem vaN_back {d rest:List UInt8} {p v M:Nat} (h:d.drop p=vr v++rest) (hv:v≤M) (h64:v≤18446744073709551615):vaN d p 0 M=(v,p+(vr v).length,0):=by
  unfold vaN
  rw [if_neg (by omega),h,numF_of_vr rest v h64,if_neg (by show ¬ (0:Nat)≠0;omega),if_neg (by show ¬ M < v;omega)]
theorem drop_hd {d:List UInt8} {p:Nat} {x:UInt8} (hx:d[p]?=some x):d.drop p=x::d.drop (p+1):=by
  obtain ⟨h1,h2⟩:=List.getElem?_eq_some_iff.1 hx
  rw [← h2,List.getElem_cons_drop]
theorem rdO_back {d rest:List UInt8} {p:Nat} {o:OV} {base:Int} (hr:rtV base o=true) (hs:szV o≤4000) (hb:base≤4000) (h:d.drop p=encO o++rest):∃ x,d[p]?=some x∧rdO d p x base=⟨o,p+(encO o).length,0,0⟩:=by
  cases hc:o.cp with
  | true =>
    obtain ⟨h1,h2,h3,h4,h5⟩:=rtV_cp hr hc
    obtain ⟨cp,fr,n,l⟩:=o
    have hc':cp=true:=hc
    have h5':l=[]:=h5
    subst hc' h5'
    have h1':1≤n:=h1
    have h3':0≤fr:=h3
    have h4':fr≤base - n:=h4
    have he:encO ⟨true,fr,n,[]⟩=1::(vr fr.toNat++vr n.toNat):=by unfold encO;rw [if_pos Z]
    rw [he] at h ⊢
    have hx:d[p]?=some 1:=by
      have:=congrArg (fun z=>z[0]?) h
      simpa using this
    refine ⟨1,hx,?_⟩
    have hd:d.drop (p+1)=vr fr.toNat++(vr n.toNat++rest):=by
      have h9:=drop_hd hx
      rw [h] at h9
      have h8:=(List.cons.inj h9).2
      rw [← h8,List.append_eq,List.append_assoc]
    have v1:=vaN_back (M:=4000) hd (by omega) (by omega)
    have hd2:d.drop (p+1+(vr fr.toNat).length)=vr n.toNat++rest:=by
      rw [← List.drop_drop,hd,List.drop_left]
    have v2:=vaN_back (M:=4000) hd2 (by omega) (by omega)
    rw [rdO_cp Z,v1]
    show rdN d (p+1+(vr fr.toNat).length) 0 base ((fr.toNat:Nat):Int) true=_
    rw [rdN_cp (by rw [v2]) (by rw [v2];show ¬ n.toNat=0;omega) (by rw [v2];show ¬ base - (n.toNat:Int) < (fr.toNat:Int);omega),v2]
    have e1:((fr.toNat:Nat):Int)=fr:=by omega
    have e2:((n.toNat:Nat):Int)=n:=by omega
    show RO.mk ⟨true,((fr.toNat:Nat):Int),((n.toNat:Nat):Int),[]⟩ (p+1+(vr fr.toNat).length+(vr n.toNat).length) 0 0=_
    rw [e1,e2]
    congr 1
    simp
    omega
  | false =>
    obtain ⟨h1,h2,h3⟩:=rtV_new hr hc
    obtain ⟨cp,fr,n,l⟩:=o
    have hc':cp=false:=hc
    have h2':fr=0:=h2
    have h3':n=0:=h3
    subst hc' h2' h3'
    have h1':1≤l.length:=h1
    have hs':(l.length:Int)≤4000:=hs
    have he:encO ⟨false,0,0,l⟩=0::(vr l.length++l):=by unfold encO;rw [if_neg Bool.false_ne_true]
    rw [he] at h ⊢
    have hx:d[p]?=some 0:=by
      have:=congrArg (fun z=>z[0]?) h
      simpa using this
    refine ⟨0,hx,?_⟩
    have hd:d.drop (p+1)=vr l.length++(l++rest):=by
      have h9:=drop_hd hx
      rw [h] at h9
      have h8:=(List.cons.inj h9).2
      rw [← h8,List.append_eq,List.append_assoc]
    have v1:=vaN_back (M:=4000) hd (by omega) (by omega)
    have hd2:d.drop (p+1+(vr l.length).length)=l++rest:=by
      rw [← List.drop_drop,hd,List.drop_left]
    have hlen:l.length≤d.length - (p+1+(vr l.length).length):=by
      have:=congrArg List.length hd2
      rw [List.length_drop,List.length_append] at this
      omega
    obtain ⟨e1,e2,e3⟩:=rn_ok hlen
    rw [rdO_new (by decide) (by decide),rdN_new (by rw [v1]) (by rw [v1];show ¬ l.length=0;omega),v1]
    show RO.mk ⟨false,0,0,rnL d (p+1+(vr l.length).length) 0 (l.length:Int)⟩ (rnP d (p+1+(vr l.length).length) 0 (l.length:Int)) (rnE d (p+1+(vr l.length).length) 0 (l.length:Int)) (rnE d (p+1+(vr l.length).length) 0 (l.length:Int):Int)=_
    rw [e1,e2,e3,hd2,List.take_left]
    congr 1
    simp
    omega
theorem enc_pos (o:OV):1≤(encO o).length:=by
  unfold encO
  split <;> simp
theorem rdL_back {d:List UInt8} {base:Int} (hb:base≤4000):∀ (l:List OV) (f p:Nat) (left:Int),chkL base left l=true→left≤4000→d.drop p=l.flatMap encO→d.length - p≤f→rdL d base f p left=(l,0)
  | [],f,p,left,hc,hl,hd,hf=>by
    unfold chkL at hc
    have h0:=of_decide_eq_true hc
    rw [rdL_end (List.drop_eq_nil_iff.1 hd),if_neg (by omega)]
  | o::r,f,p,left,hc,hl,hd,hf=>by
    unfold chkL at hc
    rw [Bool.and_eq_true,Bool.and_eq_true] at hc
    have hs:=of_decide_eq_true hc.1.2
    have hz:=sz_nonneg hc.1.1
    rw [List.flatMap_cons] at hd
    obtain ⟨x,hx,he⟩:=rdO_back hc.1.1 (by omega) hb hd
    have hp:=(List.getElem?_eq_some_iff.1 hx).1
    obtain ⟨g,rfl⟩:∃ g,f=g+1:=⟨f - 1,by omega⟩
    have hpos:=enc_pos o
    rw [rdL_next hx (by rw [he]) (by rw [he];show ¬ left < szV o;omega),he]
    have ih:=rdL_back hb r g (p+(encO o).length) (left - szV o) hc.2 (by omega) (by rw [← List.drop_drop,hd,List.drop_left]) (by omega)
    show (o::(rdL d base g (p+(encO o).length) (left - szV o)).1,(rdL d base g (p+(encO o).length) (left - szV o)).2)=_
    rw [ih]
theorem put_read {b t:Int} {l:List OV} (h:errV b t l=0):ag_ (encV b t l)=(b,t,l,0):=by
  obtain ⟨hrg,hch⟩:=errV_zero h
  have e0:(encV b t l).drop 0=vr b.toNat++(vr t.toNat++l.flatMap encO):=by rw [List.drop_zero];unfold encV;rw [List.append_assoc]
  have v1:=vaN_back (M:=4000) e0 (by omega) (by omega)
  rw [Nat.zero_add] at v1
  have e1:(encV b t l).drop (vr b.toNat).length=vr t.toNat++l.flatMap encO:=by
    have:(encV b t l).drop (0+(vr b.toNat).length)=vr t.toNat++l.flatMap encO:=by rw [← List.drop_drop,e0,List.drop_left]
    rwa [Nat.zero_add] at this
  have v2:=vaN_back (M:=4000) e1 (by omega) (by omega)
  have e2:(encV b t l).drop ((vr b.toNat).length+(vr t.toNat).length)=l.flatMap encO:=by rw [← List.drop_drop,e1,List.drop_left]
  have hb:((b.toNat:Nat):Int)=b:=by omega
  have ht:((t.toNat:Nat):Int)=t:=by omega
  have hr:rdR (encV b t l)=(l,0):=by
    unfold rdR
    rw [v1]
    show rdL (encV b t l) ((b.toNat:Nat):Int) _ (vaN (encV b t l) (vr b.toNat).length 0 4000).2.1 ((vaN (encV b t l) (vr b.toNat).length 0 4000).1:Int)=_
    rw [v2]
    show rdL (encV b t l) ((b.toNat:Nat):Int) _ ((vr b.toNat).length+(vr t.toNat).length) ((t.toNat:Nat):Int)=_
    rw [hb,ht]
    exact rdL_back (by omega) l _ _ t hch (by omega) e2 (by omega)
  have hq:(vaN (encV b t l) (vaN (encV b t l) 0 0 4000).2.1 (vaN (encV b t l) 0 0 4000).2.2 4000).2.2=0:=by
    rw [v1]
    show (vaN (encV b t l) (vr b.toNat).length 0 4000).2.2=0
    rw [v2]
  rw [read_ok hq hr,v1]
  show (((b.toNat:Nat):Int),((vaN (encV b t l) (vr b.toNat).length 0 4000).1:Int),l,0)=_
  rw [v2]
  show (((b.toNat:Nat):Int),((t.toNat:Nat):Int),l,0)=_
  rw [hb,ht]
end Go.Proofs.YtgaklngnfecdaaaGreat.Del
namespace Go.Proofs.YtgaklngnfecdaaaGreat.Del
open Go.RowKit Zk Zx Oct
end Go.Proofs.YtgaklngnfecdaaaGreat.Del
namespace Go.Proofs.YtgaklngnfecdaaaGreat.Del
open Go.RowKit Zk Zx Oct
end Go.Proofs.YtgaklngnfecdaaaGreat.Del
namespace Go.Proofs.YtgaklngnfecdaaaGreat.Del
open Go.RowKit Zk Zx Oct
theorem make_apl {a t:List UInt8} (ha:a.length≤4000) (ht:t.length≤4000):aplR a a.length t.length (mkV a t)=(t,0):=by
  rw [aplR_ok (mkV_err ha ht) Z,(mkV_all a t).2]
theorem pputM {x y:List UInt8} (hx:x.length≤400) (hy:y.length≤400) (A:Option Addr) (c:Nat) (l:List OP) (n m:Nat) (w0:World) (hl:Rs w0 4 A l.length c (l.flatMap opf)) (hok:OkO w0 l) (h1:l.map OP.v=mkV x y) (hn:n=x.length) (hm:m=y.length) :
    Calls Tryz.prog 122 #[.agg (scA (n:Int) (m:Int) A l.length c)] w0 fun e w'=>∃ u,e=.returned u∧Like w0 w'∧∃ A' c',u=.tuple #[.slice A' (encV x.length y.length (mkV x y)).length c',.int .i64 0]∧w'.ownsRow w0.heap.size 5 1 (.slice A' (encV x.length y.length (mkV x y)).length c') (encV x.length y.length (mkV x y)).length (bL (encV x.length y.length (mkV x y))):=by
  subst hn hm
  have e1:l.length≤4000:=by have:=mkV_cnt (a:=x) (t:=y);rw [← h1,List.length_map] at this;omega
  have h:=pput A l.length c l (x.length:Int) (y.length:Int) w0 hl hok e1
  rw [h1,put_ok (mkV_err (by omega) (by omega))] at h
  exact h
end Go.Proofs.YtgaklngnfecdaaaGreat.Del
namespace Go.Proofs.YtgaklngnfecdaaaGreat.Zx
open Go.RowKit Zk
def upB (a:List UInt8) (v:Value) (D:List (List UInt8 × Value)):List (List UInt8 × Value):=match posB a D 0 with
  | some (i,_)=>D.set i (a,v)
  | none=>D++[(a,v)]
section
variable {P : Program} {N : Nat} {Q : Post} {env : Env} {w w0 : World} {M : Nat → Prop} {rs : List Res} {K : Env → World → Prop} {d : Tmp} {ty : TypeId} {pos : String} {after : Array Edge} {g : Option (Nat × Bool)} {dst : Option Tmp}
theorem o_mapUpB {t k e u:TypeId} {n b:Nat} {D:List (List UInt8 × Value)} {m x v:Operand} {a:List UInt8} {new:Value} (S:St w0 M rs w) (j:Nat) (hj:rs[j]?=some (mapB n b D)) (ht:P.underlying t=some (.map k e)) (hk:P.underlying k=some (.array n u)) (hu:P.underlying u=some (.int .u8)) (hs:(P.info? u).map (·.size)=some 1)
    (hm:ev env m=some (.map (some b))) (hx:ev env x=some (.agg (bA a))) (hv:ev env v=some new) (ha:a.length=n)
    (h:∀ w',St w0 M (rs.set j (mapB n b (upB a new D))) w'→K env w') :
    O P N Q ⟨none,.mapUpdate t m x v,ty,pos,after,g⟩ env w K:=fun c hc=>by
  have hw:=S.get j hj
  have hf:=run_findB (P:=P) hk hu hs a ha w D hw.2
  have hbl:b < w.heap.size:=(Array.getElem?_eq_some_iff.1 hw.1).1
  unfold Oper.wp execOp
  simp only [hc.eval hm,hc.eval hx,hc.eval hv,Instr.mapUpdate,Sem.run_bind,run_underlying ht,Result.andThen_ok,getM hw.1,Sem.run_pure,run_checkB hk hu hs a ha w,hf]
  have fin:∀ D',upB a new D=D'→(∀ p ∈ D',p.1.length=n)→St w0 M (rs.set j (mapB n b (upB a new D))) { w with heap:=w.heap.setIfInBounds b (.map (aG_ D').toArray D'.length)}:=fun D' e hD'=>by
    rw [e]
    exact S.upd j hj Z Z Z (by simp) (fun i hi hn=>set_map_other w b _ i hn) ⟨by
      show (w.heap.setIfInBounds b _)[b]?=_
      rw [Array.getElem?_setIfInBounds_self_of_lt hbl],hD'⟩ fun i hi=>.inl hi
  cases hp:posB a D 0 with
  | some p =>
    obtain ⟨i,v0⟩:=p
    obtain ⟨_,hi⟩:=posB_some hp
    rw [Nat.sub_zero] at hi
    have hil:=(List.getElem?_eq_some_iff.1 hi).1
    have hg:(aG_ D).toArray[i]?=some ⟨.agg (bA a),v0,i⟩:=by rw [List.getElem?_toArray,entB_get,hi];rfl
    have hnew:((aG_ D).toArray.modify i fun e=>{ e with key:=Value.agg (bA a),val:=new })=(aG_ (D.set i (a,new))).toArray:=by
      apply Array.ext_getElem?
      intro q
      rw [Array.getElem?_modify,List.getElem?_toArray,List.getElem?_toArray,entB_get,entB_get]
      by_cases e:i=q
      · subst e
        rw [if_pos Z,List.getElem?_set_self hil,hi]
        rfl
      · rw [if_neg e,List.getElem?_set_ne e]
    simp only [hg,Option.map_some,Option.getD_some,Instr.keyThatStays,same_bits,if_true,Sem.run_pure,Sem.run_bind,Result.andThen_ok,hnew,setM _ hw.1]
    have h9:=fin (D.set i (a,new)) (by unfold upB;rw [hp]) (fun p hp=>by
      rcases List.mem_or_eq_of_mem_set hp with q | q
      · exact hw.2 p q
      · subst q;exact ha)
    rw [List.length_set] at h9
    exact ⟨_,hc,h _ h9⟩
  | none =>
    have hnew:(aG_ D).toArray.push { key:=Value.agg (bA a),val:=new,born:=D.length }=(aG_ (D++[(a,new)])).toArray:=by
      unfold aG_
      rw [List.zipIdx_append,List.map_append]
      simp
    simp only [Sem.run_pure,Sem.run_bind,Result.andThen_ok,hnew,setM _ hw.1]
    have h9:=fin (D++[(a,new)]) (by unfold upB;rw [hp]) (fun p hp=>by
      rcases List.mem_append.1 hp with q | q
      · exact hw.2 p q
      · obtain rfl:=List.mem_singleton.1 q
        exact ha)
    rw [List.length_append] at h9
    exact ⟨_,hc,h _ h9⟩
theorem y_lenB {x:Operand} {t k e:TypeId} {n b:Nat} {D:List (List UInt8 × Value)} (hw:(mapB n b D).holds w) (ht:P.underlying t=some (.map k e)) (hx:ev env x=some (.map (some b))) :
    Y P (Like w) env ⟨dst,.call { callee:=.builtin .len,args := #[x],argTypes := #[t]},ty,pos,after,g⟩ (.int .i64 (D.length:Int)):=fun N a w' ha hl=>by
  have hh:w'.heap[b]?=some (.map (aG_ D).toArray D.length):=by
    have hb:b < w.heap.size:=(Array.getElem?_eq_some_iff.1 hw.1).1
    rw [hl.block b hb];exact hw.1
  have h1:(Builtin.len_ #[t] ty #[.map (some b)]).run P w'=.ok (.int .i64 (D.length:Int)) w':=by
    simp [Builtin.len_,run_underlying ht,getM hh,goInt,entB_len]
  simp only [execOp,resolve,invoke,builtin,Sem.run_bind,Sem.run_pure,Result.andThen_ok,List.map_toArray,List.map_cons,List.map_nil,ha.eval hx,h1]
theorem upB_new {a:List UInt8} {v:Value} {D:List (List UInt8 × Value)} (h:∀ p ∈ D,p.1≠a):upB a v D=D++[(a,v)]:=by
  unfold upB
  cases hp:posB a D 0 with
  | none=>rfl
  | some p =>
    obtain ⟨i,v0⟩:=p
    obtain ⟨_,hi⟩:=posB_some hp
    exact absurd Z (h _ (List.mem_of_getElem? hi))
theorem upB_old {a:List UInt8} {v:Value} {D:List (List UInt8 × Value)} (h:∃ p ∈ D,p.1=a):(upB a v D).length=D.length:=by
  unfold upB
  cases hp:posB a D 0 with
  | none =>
    obtain ⟨p,h1,h2⟩:=h
    exact absurd h2 (posB_none hp p h1)
  | some p=>simp
theorem upB_mem {a:List UInt8} {v:Value} {D:List (List UInt8 × Value)} (x:List UInt8):x ∈ (upB a v D).map (·.1)↔x=a∨x ∈ D.map (·.1):=by
  unfold upB
  cases hp:posB a D 0 with
  | none=>simp [or_comm]
  | some p =>
    obtain ⟨i,v0⟩:=p
    obtain ⟨_,hi⟩:=posB_some hp
    rw [Nat.sub_zero] at hi
    obtain ⟨hil,he⟩:=List.getElem?_eq_some_iff.1 hi
    have e:(D.set i (a,v)).map (·.1)=D.map (·.1):=by
      rw [List.map_set]
      apply List.ext_getElem?
      intro q
      rw [List.getElem?_set]
      split
      · rename_i hq
        subst hq
        rw [if_pos (by simpa using hil),List.getElem?_map,hi]
        rfl
      · rfl
    show x ∈ (D.set i (a,v)).map (·.1)↔_
    rw [e]
    refine ⟨.inr,fun h=>h.elim (fun q=>?_) id⟩
    subst q
    exact List.mem_map.2 ⟨_,List.mem_of_getElem? hi,rfl⟩
def setB (l:List (List UInt8)):List (List UInt8 × Value):=l.foldl (fun D a=>upB a (.bool true) D) []
theorem setB_snoc (l:List (List UInt8)) (a:List UInt8):setB (l++[a])=upB a (.bool true) (setB l):=by simp [setB,List.foldl_append]
theorem setB_all (l:List (List UInt8)):(∀ x,x ∈ (setB l).map (·.1)↔x ∈ l)∧(setB l).length≤l.length∧((setB l).length=l.length↔l.Nodup):=by
  induction hn:l.length generalizing l with
  | zero =>
    have:l=[]:=List.length_eq_zero_iff.1 hn
    subst this
    exact ⟨fun x=>by simp [setB],by simp [setB],by simp [setB]⟩
  | succ n ih =>
    obtain ⟨l,a,rfl⟩:∃ l' a,l=l'++[a]:=⟨l.dropLast,l.getLast (fun e=>by simp [e] at hn),(List.dropLast_concat_getLast _).symm⟩
    have hl:l.length=n:=by simpa using hn
    obtain ⟨h1,h2,h3⟩:=ih l hl
    rw [setB_snoc]
    refine ⟨fun x=>by rw [upB_mem,h1];simp [or_comm],?_,?_⟩
    · by_cases hm:a ∈ l
      · obtain ⟨p,hp,e⟩:=List.mem_map.1 ((h1 a).2 hm)
        rw [upB_old ⟨p,hp,e⟩];omega
      · rw [upB_new (fun p hp e=>hm ((h1 a).1 (List.mem_map.2 ⟨p,hp,e⟩)))];simp;omega
    · by_cases hm:a ∈ l
      · obtain ⟨p,hp,e⟩:=List.mem_map.1 ((h1 a).2 hm)
        rw [upB_old ⟨p,hp,e⟩]
        refine ⟨fun q=>by omega,fun q=>?_⟩
        rw [List.nodup_append] at q
        exact absurd Z (q.2.2 a hm a (by simp))
      · rw [upB_new (fun p hp e=>hm ((h1 a).1 (List.mem_map.2 ⟨p,hp,e⟩))),List.nodup_append]
        simp only [List.length_append,List.length_singleton,Nat.add_right_cancel_iff]
        rw [h3]
        refine ⟨fun q=>⟨q,by simp,fun x hx y hy e=>?_⟩,fun q=>q.1⟩
        obtain rfl:=List.mem_singleton.1 hy
        exact hm (e ▸ hx)
end
end Go.Proofs.YtgaklngnfecdaaaGreat.Zx
namespace Go.Proofs.YtgaklngnfecdaaaGreat.Pak
open Go.RowKit Zk Zx
open Sha (N)
open Go.Proofs.YtgaklngnfecdaaaGreat.Obj (ab_ objB aN_ U_ aM_ bl_ zB)
open Del (mkV encV)
structure It where
  kind:Int
  p:Part
abbrev IV:=Int × List UInt8
def It.v (x:It):IV:=(x.kind,x.p.l)
def itf (x:It):List Value:=[.int .i64 x.kind,pv x.p]
theorem bC_ (x:It):(itf x).length=2:=rfl
theorem itf_one (x:It):∀ u ∈ itf x,u.oneCell'=true:=fun u hu=>by
  simp [itf,pv] at hu
  rcases hu with rfl | rfl <;> rfl
def OkI (w:World) (l:List It):Prop:=∀ x ∈ l,x.p.ok w
theorem OkI.like {w w':World} {l:List It} (h:OkI w l) (lk:Like w w'):OkI w' l:=fun x hx=>Rs.like (h x hx) lk
theorem OkI.at {w:World} {l:List It} (h:OkI w l) {k:Nat} {x:It} (hx:l[k]?=some x):x.p.ok w:=h x (List.mem_of_getElem? hx)
theorem its_len {w:World} {A:Option Addr} {n c:Nat} {l:List It} (h:Rs w 2 A n c (l.flatMap itf)):n=l.length:=by
  have h2:(l.flatMap itf).length=n*2:=h.len
  rw [flat_len itf 2 bC_] at h2
  omega
def nmE:List IV→Int
  | []=>0
  | x::r=>if ab_ x.1 x.2≠0 then ab_ x.1 x.2 else nmE r
def idB (x:IV):List Value:=bL (aN_ x.1 x.2)
theorem idB_len (x:IV):(idB x).length=32:=by unfold idB;rw [length_bL,U_]
def idsV (l:List IV):List (List UInt8):=l.map fun x=>aN_ x.1 x.2
def nameE (l:List IV):Int:=if nmE l≠0 then nmE l else if (idsV l).Nodup then 0 else 17
theorem nmE_at:∀ {l:List IV} {k:Nat} {x:IV},(∀ y ∈ l.take k,ab_ y.1 y.2=0)→l[k]?=some x→ab_ x.1 x.2≠0→nmE l=ab_ x.1 x.2
  | y::r,0,x,_,hx,he=>by
    simp at hx
    subst hx
    unfold nmE
    rw [if_pos he]
  | y::r,k+1,x,h,hx,he=>by
    unfold nmE
    rw [if_neg (fun q=>q (h y (by simp)))]
    exact nmE_at (k:=k) (fun z hz=>h z (by simp [hz])) (by simpa using hx) he
theorem nmE_zero:∀ {l:List IV},(∀ x ∈ l,ab_ x.1 x.2=0)→nmE l=0
  | [],_=>rfl
  | y::r,h=>by
    unfold nmE
    rw [if_neg (fun q=>q (h y (by simp)))]
    exact nmE_zero fun z hz=>h z (by simp [hz])
theorem nmE_all:∀ {l:List IV},nmE l=0→∀ x ∈ l,ab_ x.1 x.2=0
  | y :: r,h,x,hx=>by
    unfold nmE at h
    by_cases he:ab_ y.1 y.2=0
    · rw [if_neg (fun q=>q he)] at h
      rcases List.mem_cons.1 hx with rfl | hx
      · exact he
      · exact nmE_all h x hx
    · rw [if_pos he] at h
      exact absurd h he
theorem nameE_e {l:List IV} (h:nmE l≠0):nameE l=nmE l:=by unfold nameE;rw [if_pos h]
theorem nameE_17 {l:List IV} (h:nmE l=0) (h2:¬ (idsV l).Nodup):nameE l=17:=by unfold nameE;rw [if_neg (fun q=>q h),if_neg h2]
theorem nameE_0 {l:List IV} (h:nmE l=0) (h2:(idsV l).Nodup):nameE l=0:=by unfold nameE;rw [if_neg (fun q=>q h),if_pos h2]
theorem nameE_ok {l:List IV} (h:nameE l=0):(∀ x ∈ l,ab_ x.1 x.2=0)∧(idsV l).Nodup:=by
  unfold nameE at h
  by_cases h1:nmE l=0
  · rw [if_neg (fun q=>q h1)] at h
    by_cases h2:(idsV l).Nodup
    · exact ⟨nmE_all h1,h2⟩
    · rw [if_neg h2] at h;cases h
  · rw [if_pos h1] at h;exact absurd h h1
structure Ob where
  kind:Int
  l:List UInt8
  dep:Nat
  at_:Nat
  sum:UInt32
def Ob.id (o:Ob):List UInt8:=aN_ o.kind o.l
theorem Ob.id_len (o:Ob):o.id.length=32:=U_ _ _
def plO (o:Ob):List Value:=bL o.id++[.int .i64 (o.at_:Int),.int .u32 (N o.sum)]
theorem plO_len (o:Ob):(plO o).length=34:=by simp [plO,length_bL,Ob.id_len]
theorem plO_one (o:Ob):∀ u ∈ plO o,u.oneCell'=true:=fun u hu=>by
  rcases List.mem_append.1 hu with h | h
  · exact R_ _ u h
  · simp at h
    rcases h with rfl | rfl <;> rfl
theorem plO_id (o:Ob):((plO o).toArray.toList.drop 0).take 32=bL o.id∧(bL o.id).length=32:=⟨by rw [List.drop_zero];simp [plO,List.take_append,length_bL,Ob.id_len],by rw [length_bL,Ob.id_len]⟩
theorem plO_at (o:Ob) (k:Nat):(plO o).toArray[32+k]?=[Value.int .i64 (o.at_:Int),.int .u32 (N o.sum)][k]?:=by
  rw [List.getElem?_toArray,plO,List.getElem?_append_right (by rw [length_bL,Ob.id_len];omega),length_bL,Ob.id_len]
  congr 1
  omega
theorem plO32 (o:Ob):(plO o).toArray[32]?=some (.int .i64 (o.at_:Int)):=plO_at o 0
theorem plO33 (o:Ob):(plO o).toArray[33]?=some (.int .u32 (N o.sum)):=plO_at o 1
def aX_ (os:List Ob) (kind chain:Int):Nat→Nat→List Nat
  | 0,_=>[]
  | j+1,seen=>if 4≤seen then [] else match os[j]? with
    | none=>[]
    | some o=>if o.kind≠kind then aX_ os kind chain j seen else (if (o.dep:Int) < chain then [j] else [])++aX_ os kind chain j (seen+1)
section
variable {os : List Ob} {kind chain : Int} {j seen : Nat} {o : Ob}
theorem cand_full (h:4≤seen):aX_ os kind chain j seen=[]:=by
  cases j with
  | zero=>rfl
  | succ j=>unfold aX_;rw [if_pos h]
theorem cand_skip (h:seen < 4) (ho:os[j]?=some o) (hk:o.kind≠kind):aX_ os kind chain (j+1) seen=aX_ os kind chain j seen:=by
  conv=>lhs;unfold aX_
  rw [if_neg (by omega),ho]
  exact if_pos hk
theorem cand_yes (h:seen < 4) (ho:os[j]?=some o) (hk:o.kind=kind) (hd:(o.dep:Int) < chain):aX_ os kind chain (j+1) seen=j::aX_ os kind chain j (seen+1):=by
  conv=>lhs;unfold aX_
  rw [if_neg (by omega),ho]
  show (if o.kind≠kind then _ else _)=_
  rw [if_neg (fun q=>q hk),if_pos hd]
  rfl
theorem cand_no (h:seen < 4) (ho:os[j]?=some o) (hk:o.kind=kind) (hd:¬ (o.dep:Int) < chain):aX_ os kind chain (j+1) seen=aX_ os kind chain j (seen+1):=by
  conv=>lhs;unfold aX_
  rw [if_neg (by omega),ho]
  show (if o.kind≠kind then _ else _)=_
  rw [if_neg (fun q=>q hk),if_neg hd]
  rfl
theorem cand_lt:∀ (j seen:Nat),∀ k ∈ aX_ os kind chain j seen,k < j∧∃ o,os[k]?=some o∧o.kind=kind∧(o.dep:Int) < chain
  | 0,_,k,hk=>by cases hk
  | j + 1,seen,k,hk=>by
    unfold aX_ at hk
    split at hk
    · cases hk
    · cases ho:os[j]? with
      | none=>rw [ho] at hk;cases hk
      | some o =>
        rw [ho] at hk
        dsimp only at hk
        by_cases hq:o.kind≠kind
        · rw [if_pos hq] at hk
          have:=cand_lt j seen k hk
          exact ⟨by omega,this.2⟩
        · rw [if_neg hq] at hk
          rcases List.mem_append.1 hk with hk | hk
          · by_cases hd:(o.dep:Int) < chain
            · rw [if_pos hd] at hk
              obtain rfl:=List.mem_singleton.1 hk
              exact ⟨by omega,o,ho,Classical.not_not.1 hq,hd⟩
            · rw [if_neg hd] at hk;cases hk
          · have:=cand_lt j (seen+1) k hk
            exact ⟨by omega,this.2⟩
end
def scB (a x:List UInt8):List UInt8:=encV (a.length:Int) (x.length:Int) (mkV a x)
def stepS (os:List Ob) (x:List UInt8) (r:Int × List UInt8) (k:Nat):Int × List UInt8:=match os[k]? with
  | none=>r
  | some o=>if (scB o.l x).length < r.2.length then ((k:Int),scB o.l x) else r
def shF (os:List Ob) (x:List UInt8) (ks:List Nat) (r:Int × List UInt8):Int × List UInt8:=ks.foldl (stepS os x) r
def toldV (os:List Ob) (chain kind:Int) (x:List UInt8):Int × List UInt8:=shF os x (aX_ os kind chain os.length 0) (-1,x)
theorem step_yes {os:List Ob} {x:List UInt8} {r:Int × List UInt8} {k:Nat} {o:Ob} (ho:os[k]?=some o) (h:(scB o.l x).length < r.2.length):stepS os x r k=((k:Int),scB o.l x):=by
  unfold stepS;rw [ho];exact if_pos h
theorem step_no {os:List Ob} {x:List UInt8} {r:Int × List UInt8} {k:Nat} {o:Ob} (ho:os[k]?=some o) (h:¬ (scB o.l x).length < r.2.length):stepS os x r k=r:=by
  unfold stepS;rw [ho];exact if_neg h
def ToldOk (os:List Ob) (chain kind:Int) (x:List UInt8) (r:Int × List UInt8):Prop :=
  (r.1 = -1∧r.2=x)∨∃ k o,r.1=((k:Nat):Int)∧os[k]?=some o∧o.kind=kind∧(o.dep:Int) < chain∧r.2=scB o.l x∧r.2.length < x.length
theorem shF_ok {os:List Ob} {chain kind:Int} {x:List UInt8}:∀ (ks:List Nat) (r:Int × List UInt8),(∀ k ∈ ks,∃ o,os[k]?=some o∧o.kind=kind∧(o.dep:Int) < chain)→r.2.length≤x.length→ToldOk os chain kind x r→ToldOk os chain kind x (shF os x ks r)∧(shF os x ks r).2.length≤x.length
  | [],r,_,hl,h=>⟨h,hl⟩
  | k :: ks,r,hk,hl,h=>by
    obtain ⟨o,ho,h1,h2⟩:=hk k (by simp)
    show ToldOk os chain kind x (shF os x ks (stepS os x r k))∧(shF os x ks (stepS os x r k)).2.length≤x.length
    by_cases hs:(scB o.l x).length < r.2.length
    · rw [step_yes ho hs]
      exact shF_ok ks _ (fun q hq=>hk q (by simp [hq])) (by show (scB o.l x).length≤_;omega) (.inr ⟨k,o,rfl,ho,h1,h2,rfl,by show (scB o.l x).length < _;omega⟩)
    · rw [step_no ho hs]
      exact shF_ok ks r (fun q hq=>hk q (by simp [hq])) hl h
theorem told_ok (os:List Ob) (chain kind:Int) (x:List UInt8):ToldOk os chain kind x (toldV os chain kind x)∧(toldV os chain kind x).2.length≤x.length :=
  shF_ok _ _ (fun k hk=>(cand_lt _ _ k hk).2) (Nat.le_refl _) (.inl ⟨rfl,rfl⟩)
structure Pk where
  bs:List UInt8
  os:List Ob
def aG_ (k:UInt8) (bk:List UInt8) (load:List UInt8):List UInt8:=[k]++Oct.vr load.length++bk++Oct.tl (crcL load).toNat 4++load
def ofAt (os:List Ob) (k:Int):Nat:=(os[k.toNat]?.elim 0 Ob.at_)
def ofDep (os:List Ob) (k:Int):Nat:=(os[k.toNat]?.elim 0 Ob.dep)
def layO (s:Pk) (v:IV) (r:Int × List UInt8):Pk :=
  if r.1 < 0 then ⟨s.bs++aG_ (UInt8.ofNat v.1.toNat) [] r.2,s.os++[⟨v.1,v.2,0,s.bs.length,crcL r.2⟩]⟩
  else ⟨s.bs++aG_ 5 (Oct.vr (s.bs.length - ofAt s.os r.1)) r.2,s.os++[⟨v.1,v.2,ofDep s.os r.1+1,s.bs.length,crcL r.2⟩]⟩
def addV (chain:Int) (s:Pk) (v:IV):Pk:=layO s v (toldV s.os chain v.1 v.2)
def frontB (n:Nat):List UInt8:=[80,65,67,75]++Oct.tl 1 4++Oct.tl n 4
theorem frontB_len (n:Nat):(frontB n).length=12:=by simp [frontB,Oct.M_]
def packN (chain:Int) (n:Nat) (l:List IV):Pk:=l.foldl (addV chain) ⟨frontB n,[]⟩
def aA_ (chain:Int) (l:List IV):Pk:=packN chain l.length l
def aK_ (chain:Int) (l:List IV):List UInt8:=(aA_ chain l).bs++Sha.ofL (aA_ chain l).bs
theorem packN_succ {chain:Int} {n:Nat} {l:List IV} {k:Nat} {x:IV} (h:l[k]?=some x):packN chain n (l.take (k+1))=addV chain (packN chain n (l.take k)) x:=by
  unfold packN
  rw [List.take_add_one,h,List.foldl_append]
  rfl
def wrE (chain:Int) (l:List IV):Int:=if chain < 0∨8 < chain then 2 else nameE l
theorem layO_len (s:Pk) (v:IV) (r:Int × List UInt8):(layO s v r).os.length=s.os.length+1:=by
  unfold layO;split <;> simp
theorem layO_bs (s:Pk) (v:IV) (r:Int × List UInt8) (h:r.2.length≤300) (hb:s.bs.length≤20000):(layO s v r).bs.length≤s.bs.length+320:=by
  have h1:=Oct.vr_len r.2.length 1 (by omega)
  unfold layO aG_
  split
  · simp [Oct.M_];omega
  · have h2:=Oct.vr_len (s.bs.length - ofAt s.os r.1) 2 (by omega)
    simp [Oct.M_];omega
theorem pack_inv {chain:Int} {n:Nat} {l:List IV} (hs:∀ x ∈ l,x.2.length≤300):∀ k,k≤l.length→k≤24→(packN chain n (l.take k)).os.length=k∧12≤(packN chain n (l.take k)).bs.length∧(packN chain n (l.take k)).bs.length≤12+k*320
  | 0,_,_=>by simp [packN,frontB_len]
  | k+1,hk,h24=>by
    obtain ⟨x,hx⟩:∃ x,l[k]?=some x:=⟨_,List.getElem?_eq_getElem (by omega)⟩
    obtain ⟨h1,h2,h3⟩:=pack_inv (chain:=chain) (n:=n) hs k (by omega) (by omega)
    rw [packN_succ hx]
    have h4:=(told_ok (packN chain n (l.take k)).os chain x.1 x.2).2
    have h5:=hs x (List.mem_of_getElem? hx)
    have h6:=layO_bs (packN chain n (l.take k)) x (toldV (packN chain n (l.take k)).os chain x.1 x.2) (by omega) (by omega)
    refine ⟨by unfold addV;rw [layO_len,h1],?_,by unfold addV;omega⟩
    unfold addV layO
    split <;> (simp;omega)
theorem pack_os {chain:Int} {n:Nat} {l:List IV}:∀ k,k≤l.length→(packN chain n (l.take k)).os.map (fun o=>(o.kind,o.l))=l.take k
  | 0,_=>by simp [packN]
  | k+1,hk=>by
    obtain ⟨x,hx⟩:∃ x,l[k]?=some x:=⟨_,List.getElem?_eq_getElem (by omega)⟩
    have h1:=pack_os (chain:=chain) (n:=n) (l:=l) k (by omega)
    rw [packN_succ hx,List.take_add_one,hx]
    unfold addV layO
    split <;> simp [h1]
end Go.Proofs.YtgaklngnfecdaaaGreat.Pak
namespace Go.Proofs.YtgaklngnfecdaaaGreat.Pak
open Go.RowKit Zk Zx
open Sha (N xorN andN notN N_ge N_le)
open Go.Proofs.YtgaklngnfecdaaaGreat.Obj (ab_ objB aN_ U_ aM_ bl_ zB y_ aS_)
open Oct (vaN rwL rwP rwE rnL rnP rnE be vr tl M_)
open Del (scA opf OP OkO mkV encV putR ag_ aplR)
theorem name_ (k:Int) (B:Option Addr) (m d:Nat) (b:List UInt8) (w0:World) (hb:Rs w0 1 B m d (bL b)) (hm9:m≤90000) :
    Calls Tryz.prog 23 #[.int .i64 k,.slice B m d] w0 fun e w'=>∃ u,e=.returned u∧Like w0 w'∧u=.tuple #[.agg (bA (aN_ k b)),.int .i64 (ab_ k b)]:=by
  by_cases he:ab_ k b=0
  · exact Obj.name1 k B m d b w0 hb hm9 he
  · exact Obj.name0 k B m d b w0 hb hm9 he
theorem rname_ (k:Int) (B:Option Addr) (m d:Nat) (b:List UInt8) (w0:World) (hb:Rs w0 1 B m d (bL b)) (hm9:m≤90000) :
    Calls Tryz.prog 24 #[.int .i64 k,.slice B m d] w0 fun e w'=>∃ u,e=.returned u∧Like w0 w'∧u=.tuple #[.agg (bA (aN_ k b)),.int .i64 (ab_ k b)]:=by
  by_cases he:ab_ k b=0
  · exact Obj.rname1 k B m d b w0 hb hm9 he
  · exact Obj.rname0 k B m d b w0 hb hm9 he
def NamesV (w0 w':World) (l:List IV) (u:Value):Prop:=(nameE l≠0∧u=.tuple #[.slice none 0 0,.int .i64 (nameE l)])∨(nameE l=0∧∃ A c,u=.tuple #[.slice A l.length c,.int .i64 0]∧w'.ownsRow w0.heap.size 41 32 (.slice A l.length c) l.length (l.flatMap idB))
theorem vs_at {its:List It} {k:Nat} {x:It} (hx:its[k]?=some x):(its.map It.v)[k]?=some (x.kind,x.p.l):=by rw [List.getElem?_map,hx];rfl
theorem ok_next {l:List IV} {k:Nat} {x:IV} (hx:l[k]?=some x) (h:∀ y ∈ l.take k,ab_ y.1 y.2=0) (he:ab_ x.1 x.2=0):∀ y ∈ l.take (k+1),ab_ y.1 y.2=0:=fun y hy=>by
  rw [List.take_add_one,hx] at hy
  rcases List.mem_append.1 hy with q | q
  · exact h y q
  · obtain rfl:=List.mem_singleton.1 q
    exact he
theorem ids_next {l:List IV} {k:Nat} {x:IV} (hx:l[k]?=some x):idsV (l.take (k+1))=idsV (l.take k)++[aN_ x.1 x.2]:=by
  rw [List.take_add_one,hx]
  unfold idsV
  rw [List.map_append]
  rfl
theorem fm_next {l:List IV} {k:Nat} {x:IV} (hx:l[k]?=some x):(l.take (k+1)).flatMap idB=(l.take k).flatMap idB++idB x:=by
  rw [List.take_add_one,hx,List.flatMap_append]
  simp
theorem ids_len (l:List IV):(idsV l).length=l.length:=by simp [idsV]
theorem id_part (x:IV):((bA (aN_ x.1 x.2)).toList.drop 0).take 32=idB x∧(idB x).length=32:=by
  refine ⟨?_,idB_len x⟩
  rw [List.drop_zero]
  exact List.take_of_length_le (Nat.le_of_eq (idB_len x))
theorem idB_one (x:IV):∀ u ∈ idB x,u.oneCell'=true:=R_ _
theorem names (A:Option Addr) (n c:Nat) (its:List It) (w0:World) (hits:Rs w0 2 A n c (its.flatMap itf)) (hok:OkI w0 its) (hsm:∀ x ∈ its,x.p.n≤90000) (hn9:n≤100000) :
    Calls Tryz.prog 54 #[.slice A n c] w0 fun e w'=>∃ u,e=.returned u∧Like w0 w'∧NamesV w0 w' (its.map It.v) u:=by
 refine v_ (env:=[(0,.slice A n c)]) [.slice A n c] Tryz.func54 Z Tryz.ntmps54 Z Z ?_;have hn:=its_len hits;have hcap:=hits.cap;have hmax:=hits.max;have S0:=St.start w0 noM;refine a_ fun K1 hK1=>b_ (La Z Z (Lan Z Z (hK1 _ _ (a_ fun K2 hK2=>Rm Z Z (L_y (K_ Tryz.underlying48 Z) Z (L_o (o_makeN te81 [] (by simp) (fun i hi=>by omega) (by omega) S0 Z Z inferInstance inferInstance Z (by omega) (by omega) (by omega) fun b1 w1 S1=>?_)))))));refine Lan Z Z (hK2 _ _ (a_ fun K3 hK3=>b_ (L_o (o_makeMapB (n:=32) S1 Z fun bm w2 hbm S2=>Lan Z Z (hK3 _ _ (a_ fun K4 hK4=>a_ fun K5 hK5=>Rm Z Z (L_y (K_ Tryz.underlying48 Z) Z ?_)))))));refine Lm Z Z (d_ (hK5 _ _ (r_ ?_)));refine T_loop3 [(0,_),(5,_),(14,_),(15,_)] (fun (k:Nat) (A1:Option Addr) (c1:Nat)=>[(16,.int .i64 (k:Int)),(4,.slice A1 k c1)]) (fun (k:Nat) (A1:Option Addr) (c1:Nat)=>n - k) (fun (k:Nat) (A1:Option Addr) (c1:Nat) (w:World)=>(k≤n∧∀ y ∈ (its.map It.v).take k,ab_ y.1 y.2=0)∧Zx.St w0 noM [Zx.row 41 32 A1 k c1 (((its.map It.v).take k).flatMap idB),mapB 32 bm (setB (idsV ((its.map It.v).take k)))] w) 0 _ _ (Sc Z (Sc Z (Sub.nil _))) (Sub.cons Z Z (Sub.cons Z Z (Sub.cons Z Z (Sub.cons Z Z (Sub.nil _))))) ?_ ?_
 ·
  exact ⟨⟨by omega,fun y hy=>by cases hy⟩,S2⟩
 ·
  intro k A1 c1 w3 hrel;obtain ⟨⟨hk,hok2⟩,S3⟩:=hrel;refine a_ fun K6 hK6=>b_ (L_y (P_ Z Z) Z (d_ (hK6 _ _ (a_ fun K7 hK7=>?_))));refine n_ Z (fun h17=>?_) (fun h17=>?_)
  ·
   obtain ⟨x,hx⟩:∃ x,its[k]?=some x:=⟨_,List.getElem?_eq_getElem (by omega)⟩;have hxo:=hok.at hx;have hxm:=hsm x (List.mem_of_getElem? hx);refine m_ (hK7 _ _ (a_ fun K8 hK8=>r_ (a_ fun K9 hK9=>b_ (L_y (S_ Tryz.underlying48 sz65 Z Z (S3.rd hits) inferInstance (by omega)) Z (L_y (y_ldp (f:=itf) bC_ Tryz.underlying65 Z sz65 Z (S3.rd hits) (by omega) hx) Z (L_o (F_ zz65 S3 Z fun b4 w4 hb4 S4=>L_o (D_ S4 2 Z Z Z sz65 (by rfl) (fun u hu=>itf_one x u (by rw [List.toList_toArray] at hu;exact hu)) fun w5 S5=>?_))))))));refine d_ (hK9 _ _ (a_ fun K10 hK10=>b_ (L_y (f_ 0 Tryz.underlying65 Z sz3 Z Z Z) Z (L_y (t_ Tryz.underlying3 Z Z (((S5.blk 2 Z).cell _).trans (by rfl))) Z ?_))));refine L_y (f_ 1 Tryz.underlying65 Z sz22 Z Z Z) Z (L_y (t_ Tryz.underlying22 Z Z (((S5.blk 2 Z).cell _).trans (by rfl))) Z ?_);refine L_o (o_ Tryz.func23 Z Z (name_ x.kind x.p.A x.p.n x.p.c x.p.l w5 (S5.rd hxo) hxm) Z Z ?_);rintro e6 w6 ⟨v6,rfl,l6,rfl⟩;refine ⟨_,rfl,(have S6:=S5.like l6;Lm Z Z (L_y (j_ Z Z) Z (L_y (j_ Z Z) Z (L_o (F_ zz41 S6 Z fun b7 w7 hb7 S7=>have S8:Zx.St w0 noM [Zx.row 41 32 A1 k c1 (((its.map It.v).take k).flatMap idB),mapB 32 bm (setB (idsV ((its.map It.v).take k))),blk b4 65 (itf x).toArray,blk b7 41 (bA zB)] w7:=S7.cast (by kernel_rfl);L_o (D_ S8 3 Z Z Z (by first | exact ae_ | (rw [size_bA,U_];exact ae_)) (by first | rfl | (rw [size_bA,size_bA,U_];rfl)) (Sha.bA_one _) fun w9 S9=>?_))))))⟩;refine Lan Z Z (hK10 _ _ (a_ fun K11 hK11=>a_ fun K12 hK12=>Rm Z Z (L_y (V_ Z Z) Z (d_ (hK12 _ _ ?_)))));refine n_ Z (fun h29=>?_) (fun h29=>?_)
   ·
    refine a_ fun K13 hK13=>Rm Z Z (La Z Z (Lan Z Z (hK13 _ _ (l_ (ur (aF_ Z Z Z ?_))))));have he:nameE (its.map It.v)=ab_ x.kind x.p.l:=by rw [nameE_e (by rw [nmE_at hok2 (vs_at hx) h29];exact h29),nmE_at hok2 (vs_at hx) h29]
    exact ⟨_,rfl,S9.like0,.inl ⟨by rw [he];exact h29,by rw [he];rfl⟩⟩
   ·
    refine m_ (hK11 _ _ (a_ fun K14 hK14=>Rm Z Z (L_y (X_ Tryz.underlying41 Z ae_ Z (S9.blk 3 Z) (id_part (x.kind,x.p.l))) Z (L_o (aW_ (idB (x.kind,x.p.l)) te81 zz41 S9 Z Z Z (by simp [Value.cells,idB_len]) (by simp [Value.cells]) Z Z Z fun b10 w10 S10=>?_)))));refine L_o (aL_ te81 S10 0 Z Z Z (by first | exact S10.row 0 Z | exact S10.row 4 Z) (idB_one _) Z (by omega) (by omega) fun A11 c11 w11 S11=>?_);have S11d:=S11.drop (rs':=[_,_,_,_]) (.cons_cons _ (.cons_cons _ (.cons_cons _ (.cons_cons _ (.cons _ (.refl _))))));refine Lan Z Z (hK14 _ _ (Rm Z Z (L_y (X_ Tryz.underlying41 Z ae_ Z (S11d.blk 3 Z) (id_part (x.kind,x.p.l))) Z (L_o (o_mapUpB S11d 1 Z Tryz.underlying162 Tryz.underlying41 Tryz.underlying5 sz5 Z Z Z (U_ _ _) fun w12 S12=>d_ (hK8 _ _ (b_ (L_y (w_ Z Z (E_ (by omega))) Z (Lm Z Z (d_ ?_))))))))));have S91:=S12.sel [0,1] (by decide);have S92:=S91.rowc 0 Z (n':=k+1) (xs':=((its.map It.v).take (k+1)).flatMap idB) Z (fm_next (vs_at hx)).symm;rw [← setB_snoc, ← ids_next (vs_at hx)] at S92;refine ⟨k+1,_,_,by omega,⟨⟨by omega,ok_next (vs_at hx) hok2 (Classical.not_not.1 h29)⟩,S92⟩,?_⟩;exact (Sc Z (Sc Z (Sub.cons Z Z (Sub.cons Z Z (Sub.cons Z Z (Sub.cons Z Z (Sub.nil _)))))))
  ·
   have hke:k=n:=by omega
   subst hke;have hvl:(its.map It.v).length=k:=by rw [List.length_map];exact hn.symm
   rw [List.take_of_length_le (by omega)] at hok2;rw [List.take_of_length_le (by omega)] at S3;have hset:=(setB_all (idsV (its.map It.v))).2.2;have hset2:=(setB_all (idsV (its.map It.v))).2.1;rw [ids_len,hvl] at hset hset2;have hall:=hok2;refine Q_ (hK4 _ _ (a_ fun K15 hK15=>a_ fun K16 hK16=>Rm Z Z (L_y (y_lenB (S3.get 1 Z) Tryz.underlying162 Z) Z (Lm Z Z (L_y (K_ Tryz.underlying48 Z) Z (L_y (P_ Z Z) Z (d_ (hK16 _ _ ?_))))))));refine n_ Z (fun h42=>?_) (fun h42=>?_)
   ·
    refine a_ fun K17 hK17=>b_ (La Z Z (Lan Z Z (hK17 _ _ (l_ (ur (aF_ Z Z Z ?_))))));have he:nameE (its.map It.v)=17:=nameE_17 (nmE_zero hall) (fun q=>by have:=hset.2 q;omega);exact ⟨_,rfl,S3.like0,.inl ⟨by rw [he];decide,by rw [he]⟩⟩
   ·
    refine m_ (hK15 _ _ (a_ fun K18 hK18=>Rm Z Z (La Z Z (Lan Z Z (hK18 _ _ (l_ (ur (aF_ Z Z Z ?_))))))));have he:nameE (its.map It.v)=0:=nameE_0 (nmE_zero hall) (hset.1 (by omega));have hO:=S3.own 0 Z;rw [← hvl] at hO;refine ⟨_,rfl,S3.like0,.inr ⟨he,A1,c1,by rw [hvl],hO⟩⟩
end Go.Proofs.YtgaklngnfecdaaaGreat.Pak
namespace Go.Proofs.YtgaklngnfecdaaaGreat.Pak
open Go.RowKit Zk Zx
open Sha (N xorN andN notN N_ge N_le)
open Go.Proofs.YtgaklngnfecdaaaGreat.Obj (ab_ objB aN_ U_ aM_ bl_ zB y_ aS_)
open Oct (vaN rwL rwP rwE rnL rnP rnE be vr tl M_)
open Del (scA opf OP OkO mkV encV putR ag_ aplR)
theorem bw_ {α:Type} (f : α→List Value) (size:Nat) (hlen:∀ y,(f y).length=size) (l:List α) (k:Nat) (y : α) (h:l[k]?=some y) (i:Nat) (hi:i < size):(l.flatMap f)[k*size+i]?=(f y)[i]?:=by
  rw [← flat_cut f size hlen l k y h,List.getElem?_take,if_pos hi,List.getElem?_drop]
def depV (o:Ob):Value:=.int .i64 (o.dep:Int)
def Ob.v (o:Ob):IV:=(o.kind,o.l)
def Same (its:List It) (os:List Ob):Prop:=its.map It.v=os.map Ob.v
theorem Same.len {its:List It} {os:List Ob} (h:Same its os):its.length=os.length:=by have:=congrArg List.length h;simpa using this
theorem Same.at {its:List It} {os:List Ob} (h:Same its os) {k:Nat} {o:Ob} (ho:os[k]?=some o):∃ x,its[k]?=some x∧x.kind=o.kind∧x.p.l=o.l:=by
  have h1:(its.map It.v)[k]?=some o.v:=by rw [h,List.getElem?_map,ho];rfl
  rw [List.getElem?_map] at h1
  cases hx:its[k]? with
  | none=>rw [hx] at h1;cases h1
  | some x =>
    rw [hx] at h1
    have h2:x.v=o.v:=Option.some.inj h1
    exact ⟨x,rfl,congrArg Prod.fst h2,congrArg Prod.snd h2⟩
theorem dep_get {os:List Ob} {k:Nat} {o:Ob} (ho:os[k]?=some o):(os.map depV)[k]?=some (.int .i64 (o.dep:Int)):=by rw [List.getElem?_map,ho];rfl
open Del (nL nL_app)
theorem nL_snoc (l:List Nat) (k:Nat) (v:Int) (h:v=(k:Int)):nL l++[Value.int .i64 v]=nL (l++[k]):=by subst h;simp [nL]
theorem nL_get {l:List Nat} {i k:Nat} (h:l[i]?=some k):(nL l)[i]?=some (Value.int .i64 (k:Int)):=by unfold nL;rw [List.getElem?_map,h];rfl
theorem candidates (g:Nat) (x0 x2:Value) (A1:Option Addr) (n1 c1:Nat) (A3:Option Addr) (n3 c3:Nat) (its:List It) (os:List Ob) (kind chain:Int) (w0:World) (hg:Blk w0 g 113 #[x0,.slice A1 n1 c1,x2,.slice A3 n3 c3]) (hits:Rs w0 2 A1 n1 c1 (its.flatMap itf)) (hds:Rs w0 1 A3 n3 c3 (os.map depV)) (hio:Same its os) (hn9:n1≤100000) :
    Calls Tryz.prog 120 #[.pointer (some ⟨g,0,none⟩),.int .i64 kind,.int .i64 chain] w0 fun e w'=>∃ u,e=.returned u∧Like w0 w'∧∃ A5 c5,u=.slice A5 (aX_ os kind chain os.length 0).length c5∧w'.ownsRow w0.heap.size 3 1 (.slice A5 (aX_ os kind chain os.length 0).length c5) (aX_ os kind chain os.length 0).length (nL (aX_ os kind chain os.length 0)):=by
 refine v_ (env:=[(0,.pointer (some ⟨g,0,none⟩)),(1,.int .i64 kind),(2,.int .i64 chain)]) [.pointer (some ⟨g,0,none⟩),.int .i64 kind,.int .i64 chain] Tryz.func120 Z Tryz.ntmps120 Z Z ?_;have hn1:=its_len hits;have hsl:=hio.len;have hn3:=hds.len;rw [List.length_map] at hn3;have hcap1:=hits.cap;have hcap3:=hds.cap;have hmax1:=hits.max;have hmax3:=hds.max;have S0:=St.start w0 noM;refine a_ fun K1 hK1=>b_ (Lan Z Z (hK1 _ _ (a_ fun K2 hK2=>b_ (have S1:=S0.nilrow 3 1;Lan Z Z (hK2 _ _ (a_ fun K3 hK3=>b_ (La Z Z ?_)))))));refine d_ (hK3 _ _ (a_ fun K4 hK4=>a_ fun K5 hK5=>Rm Z Z (L_y (A_ Z) Z (L_y (f_ 1 Tryz.underlying113 Z sz48 Z Z Z) Z (L_y (t_ Tryz.underlying48 Z Z (((S1.rdB hg).cell _).trans (by rfl))) Z ?_)))));refine L_y (K_ Tryz.underlying48 Z) Z (L_y (aE_ Z Z (E_ (by omega))) Z (Lan Z Z (hK5 _ _ (r_ ?_))));refine T_loop5 [(0,_),(1,_),(2,_)] (fun (j:Nat) (seen:Nat) (out:List Nat) (A5:Option Addr) (c5:Nat)=>[(9,.int .i64 ((j:Int) - 1)),(8,.int .i64 (seen:Int)),(7,.slice A5 out.length c5)]) (fun (j:Nat) (seen:Nat) (out:List Nat) (A5:Option Addr) (c5:Nat)=>j) (fun (j:Nat) (seen:Nat) (out:List Nat) (A5:Option Addr) (c5:Nat) (w:World)=>(j≤os.length∧out.length+j≤os.length∧seen≤4∧out++aX_ os kind chain j seen=aX_ os kind chain os.length 0)∧Zx.St w0 noM [Zx.row 3 1 A5 out.length c5 (nL out)] w) os.length 0 [] none 0 (Sc Z (Sc Z (Sc Z (Sub.nil _)))) (Sub.cons Z Z (Sub.cons Z Z (Sub.cons Z Z (Sub.nil _)))) ?_ ?_
 ·
  exact ⟨⟨Nat.le_refl _,by simp,by omega,rfl⟩,S1⟩
 ·
  intro j seen out A5 c5 w2 hrel;obtain ⟨⟨hj,hol,hsn,hcs⟩,S2⟩:=hrel;refine a_ fun K6 hK6=>a_ fun K7 hK7=>Rm Z Z (L_y (y_geq Z Z) Z (Lm Z Z ?_));refine B_ 18 Z (fun h18=>?_) (fun h18=>?_)
  ·
   refine g_ Z Z (Lm Z Z (g_ Z Z (L_y (P_ Z Z) Z (Lp Z Z Z (d_ (hK7 _ _ ?_))))));refine n_ Z (fun h21=>?_) (fun h21=>?_)
   ·
    obtain ⟨o,ho⟩:∃ o,os[j - 1]?=some o:=⟨_,List.getElem?_eq_getElem (by omega)⟩;obtain ⟨x,hx,hxk,hxl⟩:=hio.at ho;refine m_ (hK6 _ _ (a_ fun K8 hK8=>r_ (a_ fun K9 hK9=>a_ fun K10 hK10=>Rm Z Z (L_y (A_ Z) Z (L_y (f_ 1 Tryz.underlying113 Z sz48 Z Z Z) Z (L_y (t_ Tryz.underlying48 Z Z (((S2.rdB hg).cell _).trans (by rfl))) Z ?_))))));refine Lm Z Z (L_y (S_ Tryz.underlying48 sz65 Z Z (S2.rd hits) (Nt.mk (by omega):Nt _ (j - 1)) (by omega)) Z (L_y (aB_ 0 Tryz.underlying65 Z sz3 Z Z (S2.rd hits) (by omega) Z) Z (L_y (y_ldf Tryz.underlying3 Z Z (S2.rd hits) (by omega) ((bw_ itf 2 bC_ its (j - 1) x hx 0 (by omega)).trans (by rfl))) Z ?_)));refine Lm Z Z (L_y (V_ Z Z) Z (d_ (hK10 _ _ ?_)));refine n_ Z (fun h33=>?_) (fun h33=>?_)
    ·
     refine Q_ (hK8 _ _ (Rm Z Z (L_y (aE_ Z Z (E_ (by omega))) Z (Lan Z Z (⟨j - 1,seen,out,A5,c5,by omega,⟨⟨by omega,by (first | omega | (rw [List.length_append];simp only [List.length_singleton];omega)),by omega,by rw [← hcs,show j=j - 1+1 by omega,cand_skip (by omega) (by simpa using ho) (by rw [← hxk];exact h33)];simp⟩,S2⟩,?_⟩)))));exact (Sc Z (Sc Z (Sub.cons Z (by first | rfl | (rw [List.length_append];rfl)) (Sub.cons Z Z (Sub.cons Z Z (Sub.cons Z Z (Sub.nil _)))))))
    ·
     refine m_ (hK9 _ _ (a_ fun K11 hK11=>Rm Z Z (L_y (w_ Z Z (E_ (by omega))) Z (Lan Z Z (hK11 _ _ (a_ fun K12 hK12=>Rm Z Z (L_y (A_ Z) Z (L_y (f_ 3 Tryz.underlying113 Z sz111 Z Z Z) Z ?_))))))));refine L_y (t_ Tryz.underlying111 Z Z (((S2.rdB hg).cell _).trans (by rfl))) Z ?_;refine Lm Z Z (L_y (S_ Tryz.underlying111 sz3 Z Z (S2.rd hds) (Nt.mk (by omega):Nt _ (j - 1)) (by omega)) Z (L_y (y_ldr Tryz.underlying3 Z Z (S2.rd hds) (dep_get ho)) Z (Lm Z Z (L_y (P_ Z Z) Z (d_ (hK12 _ _ ?_))))));refine n_ Z (fun h44=>?_) (fun h44=>?_)
     ·
      refine Rm Z Z (Lm Z Z (L_o (aW_ [_] te111 zz3 S2 Z Z Z Z Z Z Z Z fun b4 w4 S4=>L_o (aL_ te111 S4 0 Z Z Z (by first | exact S4.row 0 Z | exact S4.row 1 Z) (by first | exact R_ _ | exact bD_ _ | (intro u hu;simp at hu;subst hu;rfl) | (simp;done) | (simp [Value.oneCell'];done)) Z (by omega) (by omega) fun A5 c5 w5 S5=>?_))));have S5d:=S5.drop (rs':=[_]) (.cons_cons _ (.cons _ (.refl _)));refine Lan Z Z (hK8 _ _ (Rm Z Z (L_y (aE_ Z Z (E_ (by omega))) Z (Lan Z Z ?_))));have S91:=S5d.rowc 0 Z (n':=(out++[j - 1]).length) (xs':=nL (out++[j - 1])) (by rw [List.length_append];rfl) (nL_snoc _ _ _ (by omega));refine ⟨j - 1,seen+1,out++[j - 1],_,_,by omega,⟨⟨by omega,by (first | omega | (rw [List.length_append];simp only [List.length_singleton];omega)),by omega,by rw [← hcs,show j=j - 1+1 by omega,cand_yes (by omega) (by simpa using ho) (by rw [← hxk];exact Classical.not_not.1 h33) (by simpa using h44)];simp⟩,S91⟩,?_⟩;exact (Sc Z (Sc Z (Sub.cons Z (by first | rfl | (rw [List.length_append];rfl)) (Sub.cons Z Z (Sub.cons Z Z (Sub.cons Z Z (Sub.nil _)))))))
     ·
      refine m_ (hK8 _ _ (Rm Z Z (L_y (aE_ Z Z (E_ (by omega))) Z (Lan Z Z (⟨j - 1,seen+1,out,A5,c5,by omega,⟨⟨by omega,by (first | omega | (rw [List.length_append];simp only [List.length_singleton];omega)),by omega,by rw [← hcs,show j=j - 1+1 by omega,cand_no (by omega) (by simpa using ho) (by rw [← hxk];exact Classical.not_not.1 h33) (by simpa using h44)];simp⟩,S2⟩,?_⟩)))));exact (Sc Z (Sc Z (Sub.cons Z (by first | rfl | (rw [List.length_append];rfl)) (Sub.cons Z Z (Sub.cons Z Z (Sub.cons Z Z (Sub.nil _)))))))
   ·
    refine Q_ (hK4 _ _ (a_ fun K13 hK13=>Rm Z Z (Lan Z Z (hK13 _ _ (l_ (ur (G_ Z Z ?_)))))));have hce:aX_ os kind chain j seen=[]:=by first | exact cand_full (by omega) | (obtain rfl:j=0:=(by omega);rfl)
    rw [hce,List.append_nil] at hcs;subst hcs;exact ⟨_,rfl,S2.like0,_,_,rfl,S2.own 0 Z⟩
  ·
   refine h_ Z Z Z (h_ Z Z Z (Lp Z Z Z (d_ (hK7 _ _ (ba_ Z (Q_ (hK4 _ _ (a_ fun K14 hK14=>Rm Z Z (Lan Z Z (hK14 _ _ ?_))))))))));refine l_ (ur (G_ Z Z ?_));have hce:aX_ os kind chain j seen=[]:=by first | exact cand_full (by omega) | (obtain rfl:j=0:=(by omega);rfl)
   rw [hce,List.append_nil] at hcs;subst hcs;exact ⟨_,rfl,S2.like0,_,_,rfl,S2.own 0 Z⟩
end Go.Proofs.YtgaklngnfecdaaaGreat.Pak
namespace Go.Proofs.YtgaklngnfecdaaaGreat.Zx
open Go.RowKit Zk
def apartL (rs:List Res):Prop:=rs.Pairwise fun r s=>∀ i,r.dom i→¬ s.dom i
def sepL (rs:List Res):Res where
  dom i:=∃ r ∈ rs,r.dom i
  holds w:=(∀ r ∈ rs,r.holds w∧∀ i,r.dom i→i < w.heap.size)∧apartL rs
  stable w w' h hh:=⟨fun r hr=>⟨r.stable w w' (fun i hi=>h i ⟨r,hr,hi⟩) (hh.1 r hr).1,fun i hi=>by
    have h1:=(hh.1 r hr).2 i hi
    have h2:=h i ⟨r,hr,hi⟩
    rw [Array.getElem?_eq_getElem h1] at h2
    exact (Array.getElem?_eq_some_iff.1 h2).1⟩,hh.2⟩
section
variable {w0 w w' : World} {M : Nat → Prop} {rs ps rs' : List Res}
theorem St.borrowL (h:(sepL rs).holds w):St w (sepL rs).dom rs w :=
  ⟨rfl,rfl,rfl,Nat.le_refl _,fun _ _ _=>rfl,fun q hq=>⟨(h.1 q hq).1,fun i hi=>⟨(h.1 q hq).2 i hi,.inr ⟨q,hq,hi⟩⟩⟩,h.2⟩
theorem St.getL (S:St w0 M (ps++rs) w):(sepL rs).holds w :=
  ⟨fun r hr=>⟨(S.res r (List.mem_append_right _ hr)).1,fun i hi=>((S.res r (List.mem_append_right _ hr)).2 i hi).1⟩,(List.pairwise_append.1 S.apart).2.1⟩
theorem St.turnedL {r0:List Res} (S:St w0 (sepL r0).dom rs w):Turned w0 w (sepL r0) (sepL rs) :=
  ⟨S.os,S.tape,S.output,S.size,S.old,St.getL (ps:=[]) S,fun i ⟨r,hr,hi⟩=>by
    have h:=(S.res r hr).2 i hi
    rcases h.2 with h2 | h2
    · exact .inr ⟨h2,h.1⟩
    · exact .inl h2⟩
theorem St.turnL (S:St w0 M (ps++rs) w) (T:Turned w w' (sepL rs) (sepL rs')):St w0 M (ps++rs') w':=by
  have hap:=List.pairwise_append.1 S.apart
  refine ⟨T.os.trans S.os,T.tape.trans S.tape,T.output.trans S.output,Nat.le_trans S.size T.size,fun i hi hm=>?_,fun q hq=>?_,?_⟩
  · rw [T.old i (Nat.lt_of_lt_of_le hi S.size) fun ⟨r,hr,hd⟩=>by
      rcases ((S.res r (List.mem_append_right _ hr)).2 i hd).2 with h | h
      · omega
      · exact hm h]
    exact S.old i hi hm
  · rcases List.mem_append.1 hq with hq | hq
    · have h:=S.res q (List.mem_append_left _ hq)
      refine ⟨q.stable w w' (fun i hi=>T.old i (h.2 i hi).1 fun ⟨r,hr,hd⟩=>hap.2.2 q hq r hr i hi hd) h.1,fun i hi=>⟨Nat.lt_of_lt_of_le (h.2 i hi).1 T.size,(h.2 i hi).2⟩⟩
    · have h:=T.holds.1 q hq
      refine ⟨h.1,fun i hi=>⟨h.2 i hi,?_⟩⟩
      rcases T.dom i ⟨q,hq,hi⟩ with ⟨r,hr,hd⟩ | h2
      · exact ((S.res r (List.mem_append_right _ hr)).2 i hd).2
      · exact .inl (Nat.le_trans S.size h2.1)
  · rw [List.pairwise_append]
    refine ⟨hap.1,T.holds.2,fun a ha b hb i hi hbi=>?_⟩
    rcases T.dom i ⟨b,hb,hbi⟩ with ⟨r,hr,hd⟩ | h2
    · exact hap.2.2 a ha r hr i hi hd
    · have:=((S.res a (List.mem_append_left _ ha)).2 i hi).1
      omega
theorem St.getAll (S:St w0 M rs w):(sepL rs).holds w:=St.getL (ps:=[]) S
end
end Go.Proofs.YtgaklngnfecdaaaGreat.Zx