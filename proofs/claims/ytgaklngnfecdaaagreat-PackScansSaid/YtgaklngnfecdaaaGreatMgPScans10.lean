import Derived.Test.YtgaklngnfecdaaaGreatMgPScans3
import Derived.Test.YtgaklngnfecdaaaGreatMgPScans7
import Derived.Test.YtgaklngnfecdaaaGreatMgPScans9
import Derived.Test.YtgaklngnfecdaaaGreatMgPScans2
set_option linter.unusedSimpArgs false
set_option linter.unusedVariables false
set_option maxRecDepth 100000
set_option maxHeartbeats 8000000
namespace Go.Proofs.YtgaklngnfecdaaaGreat
namespace Pak
open Go.RowKit Zk Zx
open Oct
section
variable {x1 x2 x3 : Value}
def wu (x1 x2 x3:Value) (g:Nat) (A:Option Addr) (n c:Nat) (l:List UInt8):Res:=both (blk g 113 #[.slice A n c,x1,x2,x3]) (row 5 1 A n c (bL l))
theorem gW_ {w:World} {g n c:Nat} {A:Option Addr} {l:List UInt8} (h:(wu x1 x2 x3 g A n c l).holds w):∀ i,(blk g 113 #[.slice A n c,x1,x2,x3]).dom i→¬ (row 5 1 A n c (bL l)).dom i:=fun i hi hr=>by
  have hi':i=g:=hi
  subst hi'
  exact gL_ (e:=5) h.2 h.1 (by decide) hr
theorem wu_lt {w:World} {g n c:Nat} {A:Option Addr} {l:List UInt8} (h:(wu x1 x2 x3 g A n c l).holds w):∀ i,(wu x1 x2 x3 g A n c l).dom i→i < w.heap.size:=fun i hi=>by
  rcases hi with hi | hi
  · have hi':i=g:=hi
    subst hi'
    exact Blk.lt h.1
  · exact (World.ownsRow.lt h.2 i hi).2
theorem eu_ {w:World} {g n c:Nat} {A:Option Addr} {l:List UInt8} (h:(wu x1 x2 x3 g A n c l).holds w):l.length=n:=by
  have:=h.2.1
  simpa using this
def fG_ (x1 x2 x3:Value) (w w':World) (g:Nat) (A:Option Addr) (n c:Nat) (l m:List UInt8):Prop:=∃ A' n' c',Turned w w' (wu x1 x2 x3 g A n c l) (wu x1 x2 x3 g A' n' c' m)
theorem fG_.of {w w':World} {g n c n' c':Nat} {A A':Option Addr} {l m:List UInt8} {X:Array Value} {ys:List Value} (h:Turned w w' (wu x1 x2 x3 g A n c l) (both (blk g 113 X) (row 5 1 A' n' c' ys))) (hX:X = #[.slice A' n' c',x1,x2,x3]) (hy:ys=bL m):fG_ x1 x2 x3 w w' g A n c l m:=by
  subst hX
  subst hy
  exact ⟨A',n',c',h⟩
theorem fG_.refl {w:World} {g n c:Nat} {A:Option Addr} {l:List UInt8} (h:(wu x1 x2 x3 g A n c l).holds w):fG_ x1 x2 x3 w w g A n c l l:=⟨A,n,c,Turned.refl h⟩
theorem fG_.same {w w':World} {g n c:Nat} {A:Option Addr} {l m:List UInt8} (h:fG_ x1 x2 x3 w w' g A n c l m):∃ A' c',Turned w w' (wu x1 x2 x3 g A n c l) (wu x1 x2 x3 g A' m.length c' m):=by
  obtain ⟨A',n',c',h⟩:=h
  have:=eu_ h.holds
  subst this
  exact ⟨A',c',h⟩
theorem jb_ (g:Nat) (A:Option Addr) (n c:Nat) (l:List UInt8) (x:UInt8) (w0:World) (hw:(wu x1 x2 x3 g A n c l).holds w0) (hn:l.length≤70368744177664) :
    Calls Tryz.prog 89 #[.pointer (some ⟨g,0,none⟩),.int .u8 (x.toNat:Int)] w0 fun e w'=>∃ u,e=.returned u∧fG_ x1 x2 x3 w0 w' g A n c l (l++[x]):=by
 refine w_ (env:=[(0,.pointer (some ⟨g,0,none⟩)),(1,.int .u8 (x.toNat:Int))]) [.pointer (some ⟨g,0,none⟩),.int .u8 (x.toNat:Int)] Tryz.func89 Z Tryz.ntmps89 Z Z ?_;have hln:=eu_ hw;have S0:=St.borrow2 (blk g 113 #[.slice A n c,x1,x2,x3]) (row 5 1 A n c (bL l)) hw.1 hw.2 (wu_lt hw) (gW_ hw);refine a_ fun K1 hK1=>Rm Z Z (L_y (iz_ Tryz.underlying163 Z) Z (f_ (hK1 _ _ (U_ Z (Rm Z Z (Lm Z Z (L_y (x_ Z) Z (L_y (d_ 0 Tryz.underlying110 Z bi_ Z Z Z) Z (L_y (p_ Tryz.underlying22 Z Z (((S0.blk 0 Z).cell _).trans (show (#[Value.slice A n c,x1,x2,x3]:Array Value)[0]?=some (Value.slice A n c) from Z))) Z (Lm Z Z ?_))))))))));refine L_o (aY_ [_] bA_ zz5 S0 Z Z Z Z Z Z Z Z fun b1 w1 S1=>L_o (aL_ bA_ S1 1 Z Z Z (by first | exact S1.row 1 Z | exact S1.row 2 Z) (by first | exact T_ _ | exact cp_ _ | (intro u hu;simp at hu;subst hu;rfl) | (simp;done) | (simp [Value.oneCell'];done)) Z (by omega) (by omega) fun A2 c2 w2 S2=>?_));have S2d:=S2.drop (rs':=[_,_]) (.cons_cons _ (.cons_cons _ (.cons _ (.refl _))));refine L_y (x_ Z) Z (L_y (d_ 0 Tryz.underlying110 Z bi_ Z Z Z) Z (L_o (Y_ S2d 0 Z Z Z Z bi_ (by simp;done) fun w3 S3=>?_)));refine f_ ?_;first | refine ch_ (fn:=Tryz.f89) Z ?_ | (simp only [bh_,inB,if_true];refine ch_ (fn:=Tryz.f89) Z ?_)
 exact ⟨_,rfl,fG_.of (S3.turned2 0 1 Z Z) Z (by simp [bL,bV])⟩
theorem wrawW (g:Nat) (A:Option Addr) (n c:Nat) (l:List UInt8) (B:Option Addr) (m d:Nat) (q:List UInt8) (w0:World) (hw:(wu x1 x2 x3 g A n c l).holds w0) (hp:Rs w0 1 B m d (bL q)) (hn:l.length+m≤70368744177664) :
    Calls Tryz.prog 55 #[.pointer (some ⟨g,0,none⟩),.slice B m d] w0 fun e w'=>∃ u,e=.returned u∧fG_ x1 x2 x3 w0 w' g A n c l (l++q):=by
 refine w_ (env:=[(0,.pointer (some ⟨g,0,none⟩)),(1,.slice B m d)]) [.pointer (some ⟨g,0,none⟩),.slice B m d] Tryz.func55 Z Tryz.ntmps55 Z Z ?_;have hln:=eu_ hw;have S0:=St.borrow2 (blk g 113 #[.slice A n c,x1,x2,x3]) (row 5 1 A n c (bL l)) hw.1 hw.2 (wu_lt hw) (gW_ hw);refine a_ fun K1 hK1=>Rm Z Z (L_y (iz_ Tryz.underlying163 Z) Z (f_ (hK1 _ _ (U_ Z (Rm Z Z (Lm Z Z (L_y (x_ Z) Z (L_y (d_ 0 Tryz.underlying110 Z bi_ Z Z Z) Z (L_y (p_ Tryz.underlying22 Z Z (((S0.blk 0 Z).cell _).trans (show (#[Value.slice A n c,x1,x2,x3]:Array Value)[0]?=some (Value.slice A n c) from Z))) Z (Lm Z Z ?_))))))))));refine L_o (aL_ bA_ S0 1 Z Z Z (hp) (T_ _) Z (by omega) (by omega) fun A1 c1 w1 S1=>L_y (x_ Z) Z (L_y (d_ 0 Tryz.underlying110 Z bi_ Z Z Z) Z (L_o (Y_ S1 0 Z Z Z Z bi_ (by simp;done) fun w2 S2=>?_))));refine f_ ?_;first | refine ch_ (fn:=Tryz.f55) Z ?_ | (simp only [bh_,inB,if_true];refine ch_ (fn:=Tryz.f55) Z ?_)
 have hE:=S2.turned2 0 1 Z Z;exact ⟨_,rfl,fG_.of hE Z (by simp [bL])⟩
theorem wlenW (g:Nat) (A:Option Addr) (n c:Nat) (l:List UInt8) (w0:World) (hw:(wu x1 x2 x3 g A n c l).holds w0) :
    Calls Tryz.prog 58 #[.pointer (some ⟨g,0,none⟩)] w0 fun e w'=>∃ u,e=.returned u∧Like w0 w'∧u=.int .i64 (n:Int):=by
 refine w_ (env:=[(0,.pointer (some ⟨g,0,none⟩))]) [.pointer (some ⟨g,0,none⟩)] Tryz.func58 Z Tryz.ntmps58 Z Z ?_;have S0:=St.start w0 noM;refine a_ fun K1 hK1=>b_ (Lan Z Z (hK1 _ _ (a_ fun K2 hK2=>a_ fun K3 hK3=>Rm Z Z (L_y (fa_ Tryz.underlying163 Z) Z (f_ (hK3 _ _ (aI_ Z (j_ ?_))))))));refine hK2 _ _ (a_ fun K4 hK4=>Rm Z Z (L_y (x_ Z) Z (L_y (d_ 0 Tryz.underlying110 Z bi_ Z Z Z) Z (L_y (p_ Tryz.underlying22 Z Z ((hw.1.cell _).trans (show (#[Value.slice A n c,x1,x2,x3]:Array Value)[0]?=some (Value.slice A n c) from Z))) Z (L_y (J_ Tryz.underlying22 Z) Z (Lan Z Z (hK4 _ _ (l_ (ur (G_ Z Z ?_))))))))));exact ⟨_,rfl,S0.like0,rfl⟩
theorem wu32W (g:Nat) (A:Option Addr) (n c:Nat) (l:List UInt8) (x:Nat) (w0:World) (hw:(wu x1 x2 x3 g A n c l).holds w0) (hx:x≤4294967295) (hn:l.length≤70368744177000) :
    Calls Tryz.prog 56 #[.pointer (some ⟨g,0,none⟩),.int .u32 (x:Int)] w0 fun e w'=>∃ u,e=.returned u∧fG_ x1 x2 x3 w0 w' g A n c l (l++tl x 4):=by
 refine w_ (env:=[(0,.pointer (some ⟨g,0,none⟩)),(1,.int .u32 (x:Int))]) [.pointer (some ⟨g,0,none⟩),.int .u32 (x:Int)] Tryz.func56 Z Tryz.ntmps56 Z Z ?_;have hln:=eu_ hw;have S0:=St.borrow1 (wu x1 x2 x3 g A n c l) hw (wu_lt hw);refine a_ fun K1 hK1=>Rm Z Z (L_y (dp_ Z Z) Z (Lan Z Z (hK1 _ _ (a_ fun K2 hK2=>b_ (Lan Z Z (hK2 _ _ (u_ ?_)))))));refine ap_ [(1,_),(4,_)] (fun (k:Nat)=>[(5,.int .i64 (24 - 8*(k:Int)))]) (fun (k:Nat)=>4 - k) (fun (k:Nat) (w:World)=>k≤4∧∃ A1 n1 c1,St w0 (wu x1 x2 x3 g A n c l).dom [wu x1 x2 x3 g A1 n1 c1 (l++(tl x 4).take k)] w) 0 (Sc Z (Sub.nil _)) (Sub.cons Z Z (Sub.cons Z Z (Sub.nil _))) ?_ ?_
 ·
  exact ⟨Nat.zero_le _,_,_,_,by simpa using S0⟩
 ·
  intro k w1 hrel;obtain ⟨hk,A1,n1,c1,S1⟩:=hrel;refine a_ fun K3 hK3=>a_ fun K4 hK4=>Rm Z Z (L_y (cF_ Z Z) Z (f_ (hK4 _ _ ?_)));refine m_ Z (fun h9=>?_) (fun h9=>?_)
  ·
   refine j_ (hK3 _ _ (a_ fun K5 hK5=>u_ (Rm Z Z (Lm Z Z (Lm Z Z (L_y (O_ is3 Tryz.underlying68 Z (dD_ (by omega))) Z (L_y (eI_ Z Z (by omega) (shr24 x k (by omega))) Z (L_y (O_ is63 Tryz.underlying5 Z (Oct.byteOf _)) Z (L_o (fl_ Z Tryz.func89 Z Z (jb_ g A1 n1 c1 (l++(tl x 4).take k) (UInt8.ofNat (x / 256 ^ (4 - 1 - k) % 256)) w1 (S1.get 0 Z) (by simp [N_];omega)) Z Z (fun d' hd=>by cases hd <;> rfl) ?_))))))))));rintro e2 w2 ⟨v2,rfl,⟨A2,n2,c2,T2⟩⟩;refine ⟨_,rfl,(have S2:=S1.turn 0 Z T2;f_ (hK5 _ _ (Rm Z Z (L_y (am_ Z Z (z_ (by omega))) Z (Lan Z Z (⟨k+1,by omega,⟨by omega,_,_,_,by rw [tl_take x 4 k (by omega), ← List.append_assoc];exact S2⟩,?_⟩))))))⟩;exact (Sub.cons Z (congrArg (Value.int _) (by omega)) (Sub.cons Z Z (Sub.cons Z Z (Sub.nil _))))
  ·
   have hk4:k=4:=by omega
   subst hk4;refine P_ ?_;first | refine ch_ (fn:=Tryz.f56) Z ?_ | (simp only [bh_,inB,if_true];refine ch_ (fn:=Tryz.f56) Z ?_)
   exact ⟨_,rfl,A1,n1,c1,by simpa [List.take_of_length_le,N_] using S1.turned1 0 Z⟩
theorem wvarW (g:Nat) (A:Option Addr) (n c:Nat) (l:List UInt8) (x:Nat) (w0:World) (hw:(wu x1 x2 x3 g A n c l).holds w0) (hx:x≤18446744073709551615) (hn:l.length≤70368744176000) :
    Calls Tryz.prog 91 #[.pointer (some ⟨g,0,none⟩),.int .u64 (x:Int)] w0 fun e w'=>∃ u,e=.returned u∧fG_ x1 x2 x3 w0 w' g A n c l (l++vr x):=by
 refine w_ (env:=[(0,.pointer (some ⟨g,0,none⟩)),(1,.int .u64 (x:Int))]) [.pointer (some ⟨g,0,none⟩),.int .u64 (x:Int)] Tryz.func91 Z Tryz.ntmps91 Z Z ?_;have hln:=eu_ hw;have S0:=St.borrow1 (wu x1 x2 x3 g A n c l) hw (wu_lt hw);refine a_ fun K1 hK1=>Rm Z Z (L_y (dp_ Z Z) Z (Lan Z Z (hK1 _ _ (a_ fun K2 hK2=>u_ ?_))));refine bN_ [(4,_)] (fun (y:Nat) (m:List UInt8)=>[(1,.int .u64 (y:Int))]) (fun (y:Nat) (m:List UInt8)=>y) (fun (y:Nat) (m:List UInt8) (w:World)=>(m++vr y=l++vr x∧y≤x∧m.length+(vr y).length≤70368744177000)∧∃ A1 n1 c1,St w0 (wu x1 x2 x3 g A n c l).dom [wu x1 x2 x3 g A1 n1 c1 m] w) x l (Sc Z (Sub.nil _)) (Sub.cons Z Z (Sub.nil _)) ?_ ?_
 ·
  have:=eK_ x hx;exact ⟨⟨rfl,Nat.le_refl _,by omega⟩,_,_,_,S0⟩
 ·
  intro y m w1 hrel;obtain ⟨⟨hm,hy,hml⟩,A1,n1,c1,S1⟩:=hrel;have hg:m.length≤70368744177000:=by omega
  refine a_ fun K3 hK3=>a_ fun K4 hK4=>Rm Z Z (L_y (cF_ Z Z) Z (f_ (hK4 _ _ ?_)));refine m_ Z (fun h8=>?_) (fun h8=>?_)
  ·
   refine j_ (hK3 _ _ (u_ (a_ fun K5 hK5=>Rm Z Z (Lm Z Z (L_y (O_ cl_ Tryz.underlying5 Z (w8 _)) Z (L_y (ag_ Z Z Z (orB _)) Z (L_o (fl_ Z Tryz.func89 Z Z (jb_ g _ _ _ _ (UInt8.ofNat (y % 128+128)) w1 (S1.get 0 Z) (by omega)) Z Z (fun d' hd=>by cases hd <;> rfl) ?_))))))));rintro e2 w2 ⟨v2,rfl,⟨A2,n2,c2,T2⟩⟩;refine ⟨_,rfl,(have S2:=S1.turn 0 Z T2;f_ (hK5 _ _ (Rm Z Z (L_y (eI_ Z Z (by omega) (shr7 _)) Z (Lan Z Z (⟨y / 128,m++[UInt8.ofNat (y % 128+128)],by omega,⟨⟨by rw [← hm,hM_ y (by omega)];simp,by omega,by rw [hM_ y (by omega)] at hml;simp at hml ⊢;omega⟩,_,_,_,S2⟩,?_⟩))))))⟩;exact (Sc Z (Sub.cons Z Z (Sub.nil _)))
  ·
   refine P_ (hK2 _ _ (Rm Z Z (Lm Z Z (L_y (O_ cl_ Tryz.underlying5 Z (w8low _ (by omega))) Z (L_o (fl_ Z Tryz.func89 Z Z (jb_ g _ _ _ _ (UInt8.ofNat y) w1 (S1.get 0 Z) (by omega)) Z Z (fun d' hd=>by cases hd <;> rfl) ?_))))));rintro e3 w3 ⟨v3,rfl,⟨A3,n3,c3,T3⟩⟩;refine ⟨_,rfl,(have S3:=S1.turn 0 Z T3;f_ ?_)⟩;first | refine ch_ (fn:=Tryz.f91) Z ?_ | (simp only [bh_,inB,if_true];refine ch_ (fn:=Tryz.f91) Z ?_)
   exact ⟨_,rfl,_,_,_,by rw [← hm,jc_ y (by omega)];exact S3.turned1 0 Z⟩
theorem wbytesW (g:Nat) (A:Option Addr) (n c:Nat) (l:List UInt8) (w0:World) (hw:(wu x1 x2 x3 g A n c l).holds w0) (hn:l.length≤70368744177000) :
    Calls Tryz.prog 59 #[.pointer (some ⟨g,0,none⟩)] w0 fun e w'=>∃ u,e=.returned u∧Like w0 w'∧∃ A' m c',u=.slice A' m c'∧w'.ownsRow w0.heap.size 5 1 (.slice A' m c') m (bL l):=by
 refine w_ (env:=[(0,.pointer (some ⟨g,0,none⟩))]) [.pointer (some ⟨g,0,none⟩)] Tryz.func59 Z Tryz.ntmps59 Z Z ?_;have hln:=eu_ hw;have S0:=St.start w0 noM;refine a_ fun K1 hK1=>b_ (Lan Z Z (hK1 _ _ (a_ fun K2 hK2=>a_ fun K3 hK3=>Rm Z Z (L_y (fa_ Tryz.underlying163 Z) Z (Lm Z Z (g_ Z Z (Lm Z Z (g_ Z Z ?_))))))));refine L_y (x_ Z) Z (g_ Z Z (L_y (d_ 0 Tryz.underlying110 Z bi_ Z Z Z) Z (g_ Z Z (L_y (p_ Tryz.underlying22 Z Z (((S0.rdB hw.1).cell _).trans (show (#[Value.slice A n c,x1,x2,x3]:Array Value)[0]?=some (Value.slice A n c) from Z))) Z (g_ Z Z (L_y (J_ Tryz.underlying22 Z) Z (g_ Z Z (L_y (ah_ Z Z) Z (Lp Z Z Z (f_ (hK3 _ _ ?_)))))))))));refine m_ Z (fun h12=>?_) (fun h12=>?_)
 ·
  refine a_ fun K4 hK4=>b_ (Lan Z Z (hK4 _ _ (l_ (ur (G_ Z Z ?_)))));first | exact ⟨_,rfl,S0.like0,none,0,0,rfl,by have hn0:n=0:=(by omega);subst hn0;have hl0:=List.length_eq_zero_iff.1 hln;subst hl0;exact ⟨by simp [bL],.inl ⟨rfl,rfl⟩⟩⟩ | exact ⟨_,rfl,S0.like0,_,_,_,rfl,by have:=S0.own 0 Z;simpa using this⟩
 ·
  refine j_ (hK2 _ _ (a_ fun K5 hK5=>dP_ [0,1,2,3,4,6,7,8,9,5] 10 [(0,1),(1,1),(2,1),(3,1),(4,1),(6,1),(7,1),(8,1),(9,1),(5,2),(10,3),(11,3)] aJ_ (by kernel_rfl) fun w1 l1=>have S1:=S0.like l1;gx_ (Like w1) (Like.refl _) (S_ Z (r_ Z) Z (S_ Z (x_ Z) Z (S_ Z (d_ 0 Tryz.underlying110 Z bi_ Z Z Z) Z (S_ Z (p_ Tryz.underlying22 Z Z (((S1.rdB hw.1).cell _).trans (show (#[Value.slice A n c,x1,x2,x3]:Array Value)[0]?=some (Value.slice A n c) from Z))) Z (S_ Z (J_ Tryz.underlying22 Z) Z (S_ Z (r_ Z) Z (S_ Z (x_ Z) Z (S_ Z (d_ 0 Tryz.underlying110 Z bi_ Z Z Z) Z ?_))))))))));refine S_ Z (p_ Tryz.underlying22 Z Z (((S1.rdB hw.1).cell _).trans (show (#[Value.slice A n c,x1,x2,x3]:Array Value)[0]?=some (Value.slice A n c) from Z))) Z (ga_ Z (o_makeL bA_ Z S1 Z Z inferInstance inferInstance Z (by omega) (by omega) (by omega) fun b2 w2 l2 S2=>have q2:=l2;⟨q2,(gw_ Z (aL_ bA_ S2 0 Z Z Z (S2.rd (bF_ hw.2)) (T_ _) Z (by omega) (by omega) fun A3 c3 w3 S3=>dO_ Z (I_ Z) Z (cH_ (hK5 _ _ (l_ (ur (G_ Z Z ?_)))))))⟩));first | exact ⟨_,rfl,S3.like0,none,0,0,rfl,by have hn0:n=0:=(by omega);subst hn0;have hl0:=List.length_eq_zero_iff.1 hln;subst hl0;exact ⟨by simp [bL],.inl ⟨rfl,rfl⟩⟩⟩ | exact ⟨_,rfl,S3.like0,_,_,_,rfl,by have:=S3.own 0 Z;simpa using this⟩
end
end Pak
namespace Zx
open Go.RowKit Zk
section
variable {w0 w : World} {M : Nat → Prop} {rs ps : List Res} {r s : Res}
theorem St.splitAt (S:St w0 M rs w) (k:Nat) (hk:rs[k]?=some (both r s)) (hap:∀ i,r.dom i→¬ s.dom i):St w0 M (rs.set k r++[s]) w:=by
  obtain ⟨hkl,hke⟩:=List.getElem?_eq_some_iff.1 hk
  have hp:=List.pairwise_iff_getElem.1 S.apart
  have hb:=S.res (both r s) (List.mem_of_getElem? hk)
  have hne:∀ j (hj:j < rs.length),j≠k→∀ i,rs[j].dom i→¬ (both r s).dom i:=fun j hj h i hi hb2=>by
    rcases Nat.lt_or_gt_of_ne h with g | g
    · exact hp j k hj hkl g i hi (by rw [hke];exact hb2)
    · exact hp k j hkl hj g i (by rw [hke];exact hb2) hi
  refine ⟨S.os,S.tape,S.output,S.size,S.old,fun q hq=>?_,?_⟩
  · rcases List.mem_append.1 hq with hq | hq
    · rcases List.mem_or_eq_of_mem_set hq with g | g
      · exact S.res q g
      · subst g;exact ⟨hb.1.1,fun i hi=>hb.2 i (.inl hi)⟩
    · obtain rfl:=List.mem_singleton.1 hq
      exact ⟨hb.1.2,fun i hi=>hb.2 i (.inr hi)⟩
  · rw [List.pairwise_append]
    refine ⟨?_,List.pairwise_singleton _ _,fun a ha b hbm i hi hbi=>?_⟩
    · rw [List.pairwise_iff_getElem]
      intro i j hi hj hij x hx hxj
      have hi':i < rs.length:=by simpa using hi
      have hj':j < rs.length:=by simpa using hj
      rw [List.getElem_set] at hx hxj
      split at hx
      · rename_i e
        subst e
        rw [if_neg (by omega)] at hxj
        exact hne j hj' (by omega) x hxj (.inl hx)
      · rename_i e
        split at hxj
        · exact hne i hi' (fun q=>e q.symm) x hx (.inl hxj)
        · exact hp i j hi' hj' hij x hx hxj
    · obtain rfl:=List.mem_singleton.1 hbm
      obtain ⟨j,hj,rfl⟩:=List.getElem_of_mem ha
      have hj':j < rs.length:=by simpa using hj
      rw [List.getElem_set] at hi
      split at hi
      · exact hap i hi hbi
      · rename_i e
        exact hne j hj' (fun q=>e q.symm) i hi (.inr hbi)
theorem St.joinL (S:St w0 M (ps++[r,s]) w):St w0 M (ps++[both r s]) w:=by
  have hap:=List.pairwise_append.1 S.apart
  refine ⟨S.os,S.tape,S.output,S.size,S.old,fun q hq=>?_,?_⟩
  · rcases List.mem_append.1 hq with hq | hq
    · exact S.res q (List.mem_append_left _ hq)
    · obtain rfl:=List.mem_singleton.1 hq
      have h1:=S.res r (List.mem_append_right _ (by simp))
      have h2:=S.res s (List.mem_append_right _ (by simp))
      exact ⟨⟨h1.1,h2.1⟩,fun i hi=>hi.elim (h1.2 i) (h2.2 i)⟩
  · rw [List.pairwise_append]
    refine ⟨hap.1,List.pairwise_singleton _ _,fun a ha b hbm i hi hbi=>?_⟩
    obtain rfl:=List.mem_singleton.1 hbm
    rcases hbi with hbi | hbi
    · exact hap.2.2 a ha r (by simp) i hi hbi
    · exact hap.2.2 a ha s (by simp) i hi hbi
end
end Zx
namespace Pak
open Go.RowKit Zk Zx
open Sha (N bO_ cO_ dS_ fz_ fy_)
open Go.Proofs.YtgaklngnfecdaaaGreat.Obj (ai_ bV_ aT_ Z_ aN_ be_ zB C_ aR_)
open Oct (vaN rwL rwP rwE rnL rnP rnE be vr tl N_)
open Del (scA opf OP OkO mkV bR_ dG_ aj_ bW_)
def pkL (g:Nat) (A:Option Addr) (n c:Nat) (A1:Option Addr) (c1:Nat) (A2:Option Addr) (c2:Nat) (A3:Option Addr) (c3:Nat) (its:List It) (s:Pk):List Res :=
  [row 65 2 A1 its.length c1 (its.flatMap itf),row 67 34 A2 s.os.length c2 (s.os.flatMap plO),row 3 1 A3 s.os.length c3 (s.os.map depV),wu (.slice A1 its.length c1) (.slice A2 s.os.length c2) (.slice A3 s.os.length c3) g A n c s.bs]
def OkM (w:World) (M:Nat→Prop) (p:Part):Prop:=p.ok w∧∀ ad,0 < p.n→p.A=some ad→¬ M ad.block
theorem St.okM {w0 w:World} {M:Nat→Prop} {rs:List Res} (S:St w0 M rs w) {p:Part} (h:OkM w0 M p):p.ok w:=S.rdM h.1 h.2
theorem St.okI {w0 w:World} {M:Nat→Prop} {rs:List Res} (S:St w0 M rs w) {its:List It} (h:∀ x ∈ its,OkM w0 M x.p):OkI w its:=fun x hx=>St.okM S (h x hx)
theorem q_fr {w0 w:World} {p:Part} {r:Int × List UInt8} {q:Part} (h:QOk w0 w p r q) (hr:0≤r.1):Fr w0 w 1 q.A q.n q.c (bL q.l):=by
  rcases h.src with ⟨h1,_⟩ | ⟨_,h2⟩
  · omega
  · exact ⟨h.ok,h2⟩
theorem q_eq {w0 w:World} {p:Part} {r:Int × List UInt8} {q:Part} (h:QOk w0 w p r q) (hr:r.1 = -1):q=p:=by
  rcases h.src with ⟨_,h1⟩ | ⟨h1,_⟩
  · exact h1
  · omega
theorem kindB {k:Int} (h:1≤k∧k≤4):IntKind.u8.wrap k=((UInt8.ofNat k.toNat).toNat:Int):=by
  rw [IntKind.wrap_u8,UInt8.toNat_ofNat']
  omega
theorem subU {n m:Nat} (h:m≤n) (h2:n≤1000000):IntKind.u64.wrap ((n:Int) - (m:Int))=((n - m:Nat):Int):=by
  rw [IntKind.wrap_u64]
  omega
theorem plOl (o:Ob) (k:Nat):(plO o)[32+k]?=[Value.int .i64 (o.at_:Int),.int .u32 (N o.sum)][k]?:=by
  unfold plO
  rw [List.getElem?_append_right (by rw [length_bL,Ob.id_len];omega),length_bL,Ob.id_len]
  congr 1
  omega
theorem plOl32 (o:Ob):(plO o)[32]?=some (.int .i64 (o.at_:Int)):=plOl o 0
theorem list32 {α:Type} (l:List α) (h:l.length=32):∃ a0 a1 a2 a3 a4 a5 a6 a7 a8 a9 a10 a11 a12 a13 a14 a15 a16 a17 a18 a19 a20 a21 a22 a23 a24 a25 a26 a27 a28 a29 a30 a31,l=[a0,a1,a2,a3,a4,a5,a6,a7,a8,a9,a10,a11,a12,a13,a14,a15,a16,a17,a18,a19,a20,a21,a22,a23,a24,a25,a26,a27,a28,a29,a30,a31]:=by
  match l,h with
  | [a0,a1,a2,a3,a4,a5,a6,a7,a8,a9,a10,a11,a12,a13,a14,a15,a16,a17,a18,a19,a20,a21,a22,a23,a24,a25,a26,a27,a28,a29,a30,a31],_=>exact ⟨a0,a1,a2,a3,a4,a5,a6,a7,a8,a9,a10,a11,a12,a13,a14,a15,a16,a17,a18,a19,a20,a21,a22,a23,a24,a25,a26,a27,a28,a29,a30,a31,rfl⟩
theorem jT_ {id:List UInt8} (h:id.length=32) (a s:Int):Tryz.prog.built 67 [(0,.agg (bA id)),(1,.int .i64 a),(2,.int .u32 s)]=some (bL id++[Value.int .i64 a,Value.int .u32 s]).toArray:=by
  obtain ⟨a0,a1,a2,a3,a4,a5,a6,a7,a8,a9,a10,a11,a12,a13,a14,a15,a16,a17,a18,a19,a20,a21,a22,a23,a24,a25,a26,a27,a28,a29,a30,a31,rfl⟩:=list32 id h
  kernel_rfl
theorem built_rpl {id:List UInt8} (h:id.length=32) (a s:Int):Tryz.prog.built 125 [(0,.agg (bA id)),(1,.int .i64 a),(2,.int .u32 s)]=some (bL id++[Value.int .i64 a,Value.int .u32 s]).toArray:=by
  obtain ⟨a0,a1,a2,a3,a4,a5,a6,a7,a8,a9,a10,a11,a12,a13,a14,a15,a16,a17,a18,a19,a20,a21,a22,a23,a24,a25,a26,a27,a28,a29,a30,a31,rfl⟩:=list32 id h
  kernel_rfl
theorem lay_w {s:Pk} {v:IV} {r:Int × List UInt8} (h:r.1 < 0):layO s v r=⟨s.bs++aP_ (UInt8.ofNat v.1.toNat) [] r.2,s.os++[⟨v.1,v.2,0,s.bs.length,bn_ r.2⟩]⟩:=by unfold layO;rw [if_pos h]
theorem lay_m {s:Pk} {v:IV} {r:Int × List UInt8} {k:Nat} {o:Ob} (h:r.1=(k:Int)) (ho:s.os[k]?=some o):layO s v r=⟨s.bs++aP_ 5 (vr (s.bs.length - o.at_)) r.2,s.os++[⟨v.1,v.2,o.dep+1,s.bs.length,bn_ r.2⟩]⟩:=by
  unfold layO
  rw [if_neg (by omega)]
  have e:r.1.toNat=k:=by omega
  unfold ofAt ofDep
  rw [e,ho]
  rfl
theorem add0 (g:Nat) (A:Option Addr) (n c:Nat) (A1:Option Addr) (c1:Nat) (A2:Option Addr) (c2:Nat) (A3:Option Addr) (c3:Nat) (its:List It) (s:Pk) (x:It) (chain:Int) (w0:World) (hw:(sepL (pkL g A n c A1 c1 A2 c2 A3 c3 its s)).holds w0) (hio:Same its s.os) (hits:∀ y ∈ its,OkM w0 (sepL (pkL g A n c A1 c1 A2 c2 A3 c3 its s)).dom y.p) (hsm:∀ y ∈ its,y.p.n≤300) (hp:OkM w0 (sepL (pkL g A n c A1 c1 A2 c2 A3 c3 its s)).dom x.p) (hp3:x.p.n≤300) (hk:1≤x.kind∧x.kind≤4) (hc8:chain≤8) (hbl:s.bs.length≤20000) (hil:its.length≤1000) (hat:∀ o ∈ s.os,o.at_≤s.bs.length) (hr:(fL_ s.os chain x.kind x.p.l).1 = -1) :
    Calls Tryz.prog 57 #[.pointer (some ⟨g,0,none⟩),.agg (itf x).toArray,.agg (bA (aT_ x.kind x.p.l)),.int .i64 chain] w0 fun e w'=>∃ u,e=.returned u∧u=.tuple #[]∧∃ A' n' c' A1' c1' A2' c2' A3' c3',Turned w0 w' (sepL (pkL g A n c A1 c1 A2 c2 A3 c3 its s)) (sepL (pkL g A' n' c' A1' c1' A2' c2' A3' c3' (its++[x]) (dj_ chain s (x.kind,x.p.l)))):=by
 refine w_ (env:=[(0,.pointer (some ⟨g,0,none⟩)),(1,.agg (itf x).toArray),(2,.agg (bA (aT_ x.kind x.p.l))),(3,.int .i64 chain)]) [.pointer (some ⟨g,0,none⟩),.agg (itf x).toArray,.agg (bA (aT_ x.kind x.p.l)),.int .i64 chain] Tryz.func57 Z Tryz.ntmps57 Z Z ?_;have S0:=St.borrowL hw;have hnw:=eu_ (S0.get 3 Z);subst hnw;have hxb:=hp.1.lenb;have htl:=(ha_ s.os chain x.kind x.p.l).2;have hsl:=hio.len;have hneg:(fL_ s.os chain x.kind x.p.l).1 < 0:=by omega
 have S0:Zx.St w0 (sepL (pkL g A s.bs.length c A1 c1 A2 c2 A3 c3 its s)).dom [row 65 2 A1 its.length c1 (its.flatMap itf),row 67 34 A2 s.os.length c2 (s.os.flatMap plO),row 3 1 A3 s.os.length c3 (s.os.map depV),wu (.slice A1 its.length c1) (.slice A2 s.os.length c2) (.slice A3 s.os.length c3) g A s.bs.length c s.bs] w0:=S0;refine a_ fun K1 hK1=>b_ (L_o (bB_ Z S0 Z fun b1 w1 hb1 S1=>L_o (bB_ Z S1 Z fun b2 w2 hb2 S2=>f_ (hK1 _ _ (a_ fun K2 hK2=>Rm Z Z (L_y (x_ Z) Z (L_y (d_ 0 Tryz.underlying113 Z dL_ Z Z Z) Z (L_o (o_ Tryz.func58 Z Z (wlenW g A s.bs.length c s.bs w2 (S2.get 3 Z)) Z Z ?_)))))))));rintro e3 w3 ⟨v3,rfl,l3,rfl⟩;refine ⟨_,rfl,(have S3:=S2.like l3;Lan Z Z (hK2 _ _ (a_ fun K3 hK3=>Rm Z Z (L_y (W_ Tryz.underlying65 Z sz65 Z (S3.blk 4 Z) (show _=itf x∧_ from ⟨rfl,rfl⟩)) Z (Lm Z Z (L_o (o_ Tryz.func90 Z Z (shortest g _ _ A1 its.length c1 A3 s.os.length c3 its s.os x.kind chain x.p w3 (S3.get 3 Z).1 (S3.row 0 Z) (S3.row 2 Z) hio (by omega) (St.okI S3 hits) (fun y hy=>(hsm y hy)) (St.okM S3 hp) hp3) Z Z ?_)))))))⟩;rintro e4 w4 ⟨v4,rfl,l4,q,rfl,hq⟩;refine ⟨_,rfl,?_⟩;have S4:=S3.like l4;obtain rfl:=q_eq hq hr;have hv:=hq.val;have hva:=Oct.eK_ x.p.n (by omega);refine Lm Z Z (L_y (n_ Z Z) Z (L_y (n_ Z Z) Z (La Z Z (Lan Z Z (hK3 _ _ (a_ fun K4 hK4=>b_ (Lan Z Z (hK4 _ _ (a_ fun K5 hK5=>a_ fun K6 hK6=>?_)))))))));refine Rm Z Z (L_y (H_ Z Z) Z (f_ (hK6 _ _ ?_)));refine m_ Z (fun h25=>?_) (fun h25=>?_)
 ·
  refine a_ fun K7 hK7=>fv_ 6 aJ_ (by kernel_rfl) fun w5 l5 K8 hK8=>have S5:=S4.like l5;ae_ (r_ Z) Z (ae_ (x_ Z) Z (ae_ (d_ 0 Tryz.underlying113 Z dL_ Z Z Z) Z (ae_ (d_ 0 Tryz.underlying65 Z sz3 Z Z Z) Z (ae_ (p_ Tryz.underlying3 Z Z (((S5.blk 4 Z).cell _).trans (by rfl))) Z ?_))));refine ae_ (O_ is3 Tryz.underlying5 Z (kindB hk)) Z (fC_ (hK8 _ (L_o (o_ Tryz.func89 Z Z (jb_ g A s.bs.length c (s.bs) (UInt8.ofNat x.kind.toNat) w5 (S5.get 3 Z) (by first | omega | (simp only [List.length_append,List.length_cons,List.length_nil,N_];omega))) Z Z ?_))));rintro e6 w6 ⟨v6,rfl,A6,n6,c6,T6⟩;refine ⟨_,rfl,(have S6:=S5.turn 3 Z T6;f_ (hK7 _ _ (Rm Z Z (L_y (x_ Z) Z (L_y (d_ 0 Tryz.underlying113 Z dL_ Z Z Z) Z (Lm Z Z (L_y (J_ Tryz.underlying22 Z) Z (L_y (O_ is3 Tryz.underlying102 Z (dD_ (by omega))) Z (L_o (o_ Tryz.func91 Z Z (wvarW g A6 n6 c6 (s.bs++[UInt8.ofNat x.kind.toNat]) x.p.n w6 (S6.get 3 Z) (by omega) (by first | omega | (simp only [List.length_append,List.length_cons,List.length_nil,N_];omega))) Z Z ?_))))))))))⟩;rintro e7 w7 ⟨v7,rfl,A7,n7,c7,T7⟩;refine ⟨_,rfl,(have S7:=S6.turn 3 Z T7;f_ (hK5 _ _ (a_ fun K9 hK9=>Rm Z Z (L_o (aY_ [_] ip_ zz22 S7 Z Z Z Z Z Z Z Z fun b8 w8 S8=>L_o (o_ Tryz.func92 Z Z (of_ _ _ _ [x.p] w8 (S8.row 6 Z) (fun y hy=>by obtain rfl:=List.mem_singleton.1 hy;exact (St.okM S8 hp))) Z Z ?_))))))⟩;rintro e9 w9 ⟨v9,rfl,l9,rfl⟩;refine ⟨_,rfl,(have S9:=S8.like l9;Lan Z Z (hK9 _ _ (a_ fun K10 hK10=>Rm Z Z (L_y (x_ Z) Z (L_y (d_ 0 Tryz.underlying113 Z dL_ Z Z Z) Z (Lm Z Z (L_o (o_ Tryz.func56 Z Z (wu32W g A7 n7 c7 (s.bs++[UInt8.ofNat x.kind.toNat]++vr x.p.n) (bn_ x.p.l).toNat w9 (S9.get 3 Z) (by have:=(bn_ x.p.l).toNat_lt;omega) (by first | omega | (simp only [List.length_append,List.length_cons,List.length_nil,N_];omega))) Z Z ?_))))))))⟩;rintro e10 w10 ⟨v10,rfl,A10,n10,c10,T10⟩;refine ⟨_,rfl,(have S10:=S9.turn 3 Z T10;f_ (hK10 _ _ (a_ fun K11 hK11=>Rm Z Z (L_y (x_ Z) Z (L_y (d_ 0 Tryz.underlying113 Z dL_ Z Z Z) Z (Lm Z Z (L_o (o_ Tryz.func55 Z Z (wrawW g A10 n10 c10 (s.bs++[UInt8.ofNat x.kind.toNat]++vr x.p.n++tl (bn_ x.p.l).toNat 4) x.p.A x.p.n x.p.c x.p.l w10 (S10.get 3 Z) (St.okM S10 hp) (by first | omega | (simp only [List.length_append,List.length_cons,List.length_nil,N_];omega))) Z Z ?_))))))))⟩;rintro e11 w11 ⟨v11,rfl,A11,n11,c11,T11⟩;refine ⟨_,rfl,(have S11:=S10.turn 3 Z T11;f_ (hK11 _ _ (a_ fun K12 hK12=>have S12:=S11.splitAt 3 Z (gW_ (S11.get 3 Z));dP_ [1,2,3,4,5,6] 7 [(0,0),(1,1),(2,1),(3,1),(4,1),(5,1),(6,2),(7,3),(8,3),(9,3),(10,3)] aJ_ (by kernel_rfl) fun w13 l13=>have S13:=S12.like l13;ZA_y Z (r_ Z) Z (gx_ (Like w13) (Like.refl _) (S_ Z (r_ Z) Z (S_ Z (x_ Z) Z (S_ Z (d_ 1 Tryz.underlying113 Z sz48 Z Z Z) Z (S_ Z (p_ Tryz.underlying48 Z Z (((S13.blk 3 Z).cell _).trans (by rfl))) Z ?_))))))))⟩
  refine S_ Z (W_ Tryz.underlying65 Z sz65 Z (S13.blk 4 Z) (show _=itf x∧_ from ⟨rfl,rfl⟩)) Z (ga_ Z (eA_ (itf x) te48 zz65 S13 Z Z Z Z (by simp [Value.cells]) Z Z Z fun b14 w14 l14 S14=>?_));have q14:=l14;refine ⟨q14,(gw_ Z (aL_ te48 S14 0 Z Z Z (by first | exact S14.row 6 Z | exact S14.row 8 Z) (fun u hu=>iM_ x u hu) Z (by omega) (by omega) fun A15 c15 w15 S15=>?_))⟩;have S15d:=S15.drop (rs':=[_,_,_,_,_,_,_,_]) (.cons_cons _ (.cons_cons _ (.cons_cons _ (.cons_cons _ (.cons_cons _ (.cons_cons _ (.cons_cons _ (.cons_cons _ (.cons _ (.refl _))))))))));refine dO_ Z (x_ Z) Z (dO_ Z (d_ 1 Tryz.underlying113 Z sz48 Z Z Z) Z (ZA_o Z (Y_ S15d 3 Z Z Z Z sz48 (by simp;done) fun w16 S16=>?_)));refine cH_ (hK12 _ _ (a_ fun K13 hK13=>dP_ [1,2,3,4,5,6,7,8,9] 10 [(0,0),(1,1),(2,1),(3,1),(4,1),(5,1),(6,1),(7,1),(8,1),(9,2),(10,3),(11,3),(12,3),(13,3)] aJ_ (by kernel_rfl) fun w17 l17=>have S17:=S16.like l17;ZA_y Z (r_ Z) Z (gx_ (Like w17) (Like.refl _) (S_ Z (r_ Z) Z (S_ Z (x_ Z) Z (S_ Z (d_ 2 Tryz.underlying113 Z sz50 Z Z Z) Z (S_ Z (p_ Tryz.underlying50 Z Z (((S17.blk 3 Z).cell _).trans (by rfl))) Z ?_)))))));refine S_ Z (W_ Tryz.underlying41 Z af_ Z (S17.blk 5 Z) (gr_ (x.kind,x.p.l))) Z (S_ Z (r_ Z) Z (S_ Z (r_ Z) Z (S_ Z (y_ Z (jT_ (Z_ _ _) _ _)) Z (ga_ Z (eA_ (plO (⟨x.kind,x.p.l,0,s.bs.length,bn_ x.p.l⟩:Ob)) te50 zz67 S17 Z Z Z (by simp [Value.cells,length_bL,Z_]) (by simp [Value.cells,plO,Ob.id];rfl) Z Z Z fun b18 w18 l18 S18=>?_)))));have q18:=l18;refine ⟨q18,(gw_ Z (aL_ te50 S18 1 Z Z Z (by first | exact S18.row 6 Z | exact S18.row 8 Z) (fun u hu=>iI_ _ u hu) Z (by omega) (by omega) fun A19 c19 w19 S19=>?_))⟩;have S19d:=S19.drop (rs':=[_,_,_,_,_,_,_,_]) (.cons_cons _ (.cons_cons _ (.cons_cons _ (.cons_cons _ (.cons_cons _ (.cons_cons _ (.cons_cons _ (.cons_cons _ (.cons _ (.refl _))))))))));refine dO_ Z (x_ Z) Z (dO_ Z (d_ 2 Tryz.underlying113 Z sz50 Z Z Z) Z (ZA_o Z (Y_ S19d 3 Z Z Z Z sz50 (by simp;done) fun w20 S20=>?_)));refine cH_ (hK13 _ _ (Rm Z Z (Lm Z Z (L_y (x_ Z) Z (L_y (d_ 3 Tryz.underlying113 Z iq_ Z Z Z) Z (L_y (p_ Tryz.underlying111 Z Z (((S20.blk 3 Z).cell _).trans (by rfl))) Z ?_))))));refine Lm Z Z (L_o (aY_ [_] hb_ zz3 S20 Z Z Z Z Z Z Z Z fun b21 w21 S21=>L_o (aL_ hb_ S21 2 Z Z Z (by first | exact S21.row 6 Z | exact S21.row 8 Z) (by first | exact T_ _ | exact cp_ _ | (intro u hu;simp at hu;subst hu;rfl) | (simp;done) | (simp [Value.oneCell'];done)) Z (by omega) (by omega) fun A22 c22 w22 S22=>?_)))
  have S22d:=S22.drop (rs':=[_,_,_,_,_,_,_,_]) (.cons_cons _ (.cons_cons _ (.cons_cons _ (.cons_cons _ (.cons_cons _ (.cons_cons _ (.cons_cons _ (.cons_cons _ (.cons _ (.refl _))))))))));refine L_y (x_ Z) Z (L_y (d_ 3 Tryz.underlying113 Z iq_ Z Z Z) Z (L_o (Y_ S22d 3 Z Z Z Z iq_ (by simp;done) fun w23 S23=>?_)));refine f_ ?_;first | refine ch_ (fn:=Tryz.f57) Z ?_ | (simp only [bh_,inB,if_true];refine ch_ (fn:=Tryz.f57) Z ?_)
  have hbs:s.bs++[UInt8.ofNat x.kind.toNat]++vr x.p.n++tl (bn_ x.p.l).toNat 4++x.p.l=(dj_ chain s (x.kind,x.p.l)).bs:=by unfold dj_;rw [lay_w (s:=s) (v:=(x.kind,x.p.l)) hneg, ← hv];unfold aP_;rw [hxb];simp only [List.append_assoc,List.nil_append,List.append_nil]
  have hos:(dj_ chain s (x.kind,x.p.l)).os=s.os++[(⟨x.kind,x.p.l,0,s.bs.length,bn_ x.p.l⟩:Ob)]:=by unfold dj_;rw [lay_w (s:=s) (v:=(x.kind,x.p.l)) hneg, ← hv]
  have S80:=S23.sel [0,1,2,3,7] (by decide);have S81:=S80.rowc 0 Z (n':=its.length+1) (xs':=(its++[x]).flatMap itf) Z (by simp);have S82:=S81.rowc 1 Z (n':=s.os.length+1) (xs':=(s.os++[(⟨x.kind,x.p.l,0,s.bs.length,bn_ x.p.l⟩:Ob)]).flatMap plO) Z (by simp);have S83:=S82.rowc 2 Z (n':=s.os.length+1) (xs':=(s.os++[(⟨x.kind,x.p.l,0,s.bs.length,bn_ x.p.l⟩:Ob)]).map depV) Z (by simp [depV]);have S84:=S83.rowc 4 Z (n':=n11) (xs':=bL (dj_ chain s (x.kind,x.p.l)).bs) Z (congrArg bL hbs);have hl1:(its++[x]).length=its.length+1:=by simp
  have hl2:(dj_ chain s (x.kind,x.p.l)).os.length=s.os.length+1:=by rw [hos];simp
  have S85:=St.joinL (ps:=[_,_,_]) (r:=_) (s:=_) S84;have S86:Zx.St w0 _ (pkL g A11 n11 c11 A15 c15 A19 c19 A22 c22 (its++[x]) (dj_ chain s (x.kind,x.p.l))) w23:=S85.cast (by unfold pkL wu;rw [hl1,hl2,hos];rfl);exact ⟨_,rfl,rfl,_,_,_,_,_,_,_,_,_,S86.turnedL⟩
 ·
  omega
theorem add1 (g:Nat) (A:Option Addr) (n c:Nat) (A1:Option Addr) (c1:Nat) (A2:Option Addr) (c2:Nat) (A3:Option Addr) (c3:Nat) (its:List It) (s:Pk) (x:It) (chain:Int) (w0:World) (hw:(sepL (pkL g A n c A1 c1 A2 c2 A3 c3 its s)).holds w0) (hio:Same its s.os) (hits:∀ y ∈ its,OkM w0 (sepL (pkL g A n c A1 c1 A2 c2 A3 c3 its s)).dom y.p) (hsm:∀ y ∈ its,y.p.n≤300) (hp:OkM w0 (sepL (pkL g A n c A1 c1 A2 c2 A3 c3 its s)).dom x.p) (hp3:x.p.n≤300) (hk:1≤x.kind∧x.kind≤4) (hc8:chain≤8) (hbl:s.bs.length≤20000) (hil:its.length≤1000) (hat:∀ o ∈ s.os,o.at_≤s.bs.length) (k:Nat) (o:Ob) (hr:(fL_ s.os chain x.kind x.p.l).1=(k:Int)) (ho:s.os[k]?=some o) (hod:(o.dep:Int) < chain) :
    Calls Tryz.prog 57 #[.pointer (some ⟨g,0,none⟩),.agg (itf x).toArray,.agg (bA (aT_ x.kind x.p.l)),.int .i64 chain] w0 fun e w'=>∃ u,e=.returned u∧u=.tuple #[]∧∃ A' n' c' A1' c1' A2' c2' A3' c3',Turned w0 w' (sepL (pkL g A n c A1 c1 A2 c2 A3 c3 its s)) (sepL (pkL g A' n' c' A1' c1' A2' c2' A3' c3' (its++[x]) (dj_ chain s (x.kind,x.p.l)))):=by
 refine w_ (env:=[(0,.pointer (some ⟨g,0,none⟩)),(1,.agg (itf x).toArray),(2,.agg (bA (aT_ x.kind x.p.l))),(3,.int .i64 chain)]) [.pointer (some ⟨g,0,none⟩),.agg (itf x).toArray,.agg (bA (aT_ x.kind x.p.l)),.int .i64 chain] Tryz.func57 Z Tryz.ntmps57 Z Z ?_;have S0:=St.borrowL hw;have hnw:=eu_ (S0.get 3 Z);subst hnw;have hxb:=hp.1.lenb;have htl:=(ha_ s.os chain x.kind x.p.l).2;have hsl:=hio.len;have hkl:=(List.getElem?_eq_some_iff.1 ho).1;have hao:=hat o (List.mem_of_getElem? ho);have hvb:=Oct.eK_ (s.bs.length - o.at_) (by omega);have S0:Zx.St w0 (sepL (pkL g A s.bs.length c A1 c1 A2 c2 A3 c3 its s)).dom [row 65 2 A1 its.length c1 (its.flatMap itf),row 67 34 A2 s.os.length c2 (s.os.flatMap plO),row 3 1 A3 s.os.length c3 (s.os.map depV),wu (.slice A1 its.length c1) (.slice A2 s.os.length c2) (.slice A3 s.os.length c3) g A s.bs.length c s.bs] w0:=S0;refine a_ fun K1 hK1=>b_ (L_o (bB_ Z S0 Z fun b1 w1 hb1 S1=>L_o (bB_ Z S1 Z fun b2 w2 hb2 S2=>f_ (hK1 _ _ (a_ fun K2 hK2=>Rm Z Z (L_y (x_ Z) Z (L_y (d_ 0 Tryz.underlying113 Z dL_ Z Z Z) Z (L_o (o_ Tryz.func58 Z Z (wlenW g A s.bs.length c s.bs w2 (S2.get 3 Z)) Z Z ?_)))))))));rintro e3 w3 ⟨v3,rfl,l3,rfl⟩;refine ⟨_,rfl,(have S3:=S2.like l3;Lan Z Z (hK2 _ _ (a_ fun K3 hK3=>Rm Z Z (L_y (W_ Tryz.underlying65 Z sz65 Z (S3.blk 4 Z) (show _=itf x∧_ from ⟨rfl,rfl⟩)) Z (Lm Z Z (L_o (o_ Tryz.func90 Z Z (shortest g _ _ A1 its.length c1 A3 s.os.length c3 its s.os x.kind chain x.p w3 (S3.get 3 Z).1 (S3.row 0 Z) (S3.row 2 Z) hio (by omega) (St.okI S3 hits) (fun y hy=>(hsm y hy)) (St.okM S3 hp) hp3) Z Z ?_)))))))⟩;rintro e4 w4 ⟨v4,rfl,l4,q,rfl,hq⟩;refine ⟨_,rfl,?_⟩;have S4:=S3.adoptF l4 (q_fr hq (by omega));have hv:=hq.val;rw [← hv] at htl;have hqn:=hq.ok.lenb;have hva:=Oct.eK_ q.n (by omega);refine Lm Z Z (L_y (n_ Z Z) Z (L_y (n_ Z Z) Z (La Z Z (Lan Z Z (hK3 _ _ (a_ fun K4 hK4=>b_ (Lan Z Z (hK4 _ _ (a_ fun K5 hK5=>a_ fun K6 hK6=>?_)))))))));refine Rm Z Z (L_y (H_ Z Z) Z (f_ (hK6 _ _ ?_)));refine m_ Z (fun h25=>?_) (fun h25=>?_)
 ·
  omega
 ·
  refine a_ fun K7 hK7=>Rm Z Z (L_y (x_ Z) Z (L_y (d_ 3 Tryz.underlying113 Z iq_ Z Z Z) Z (L_y (p_ Tryz.underlying111 Z Z (((S4.get 3 Z).1.cell _).trans (by rfl))) Z ?_)));refine Lm Z Z (L_y (ab_ Tryz.underlying111 sz3 Z Z (S4.row 2 Z) (Nt.mk (by omega):Nt _ (k)) (by omega)) Z (L_y (ck_ Tryz.underlying3 Z Z (S4.row 2 Z) (dep_get ho)) Z (L_y (v_ Z Z (z_ (by omega))) Z (Lan Z Z (hK7 _ _ (a_ fun K8 hK8=>Rm Z Z (L_y (x_ Z) Z (L_y (d_ 0 Tryz.underlying113 Z dL_ Z Z Z) Z (L_o (o_ Tryz.func89 Z Z (jb_ g A s.bs.length c (s.bs) 5 w4 (S4.get 3 Z) (by first | omega | (simp only [List.length_append,List.length_cons,List.length_nil,N_];omega))) Z Z ?_))))))))));rintro e5 w5 ⟨v5,rfl,A5,n5,c5,T5⟩;refine ⟨_,rfl,(have S5:=S4.turn 3 Z T5;f_ (hK8 _ _ (a_ fun K9 hK9=>Rm Z Z (L_y (x_ Z) Z (L_y (d_ 0 Tryz.underlying113 Z dL_ Z Z Z) Z (Lm Z Z (L_y (J_ Tryz.underlying22 Z) Z (L_y (O_ is3 Tryz.underlying102 Z (dD_ (by omega))) Z (L_o (o_ Tryz.func91 Z Z (wvarW g A5 n5 c5 (s.bs++[5]) q.n w5 (S5.get 3 Z) (by omega) (by first | omega | (simp only [List.length_append,List.length_cons,List.length_nil,N_];omega))) Z Z ?_))))))))))⟩;rintro e6 w6 ⟨v6,rfl,A6,n6,c6,T6⟩;refine ⟨_,rfl,(have S6:=S5.turn 3 Z T6;f_ (hK9 _ _ (fv_ 14 aJ_ (by kernel_rfl) fun w7 l7 K10 hK10=>have S7:=S6.like l7;ae_ (r_ Z) Z (ae_ (x_ Z) Z (ae_ (d_ 0 Tryz.underlying113 Z dL_ Z Z Z) Z (ae_ (r_ Z) Z (ae_ (r_ Z) Z (ae_ (x_ Z) Z (ae_ (d_ 2 Tryz.underlying113 Z sz50 Z Z Z) Z (ae_ (p_ Tryz.underlying50 Z Z (((S7.get 3 Z).1.cell _).trans (by rfl))) Z ?_))))))))))⟩;refine ae_ (r_ Z) Z (ae_ (ab_ Tryz.underlying50 sz67 Z Z (S7.row 1 Z) (Nt.mk (by omega):Nt _ (k)) (by omega)) Z (ae_ (bI_ 32 Tryz.underlying67 Z sz3 Z Z (S7.row 1 Z) (by omega) Z) Z (ae_ (eJ_ Tryz.underlying3 Z Z (S7.row 1 Z) (by omega) ((er_ plO 34 fj_ s.os k o ho 32 (by omega)).trans (plOl32 o))) Z (ae_ (am_ Z Z (z_ (by omega))) Z (ae_ (O_ is3 Tryz.underlying102 Z (subU (by omega) (by omega))) Z (fC_ (hK10 _ (L_o (o_ Tryz.func91 Z Z (wvarW g A6 n6 c6 (s.bs++[5]++vr q.n) (s.bs.length - o.at_) w7 (S7.get 3 Z) (by omega) (by first | omega | (simp only [List.length_append,List.length_cons,List.length_nil,N_];omega))) Z Z ?_)))))))));rintro e8 w8 ⟨v8,rfl,A8,n8,c8,T8⟩;refine ⟨_,rfl,(have S8:=S7.turn 3 Z T8;f_ (hK5 _ _ (a_ fun K11 hK11=>Rm Z Z (L_o (aY_ [_] ip_ zz22 S8 Z Z Z Z Z Z Z Z fun b9 w9 S9=>L_o (o_ Tryz.func92 Z Z (of_ _ _ _ [q] w9 (S9.row 7 Z) (fun y hy=>by obtain rfl:=List.mem_singleton.1 hy;exact (S9.fix 6 Z))) Z Z ?_))))))⟩
  rintro e10 w10 ⟨v10,rfl,l10,rfl⟩;refine ⟨_,rfl,(have S10:=S9.like l10;Lan Z Z (hK11 _ _ (a_ fun K12 hK12=>Rm Z Z (L_y (x_ Z) Z (L_y (d_ 0 Tryz.underlying113 Z dL_ Z Z Z) Z (Lm Z Z (L_o (o_ Tryz.func56 Z Z (wu32W g A8 n8 c8 (s.bs++[5]++vr q.n++vr (s.bs.length - o.at_)) (bn_ q.l).toNat w10 (S10.get 3 Z) (by have:=(bn_ q.l).toNat_lt;omega) (by first | omega | (simp only [List.length_append,List.length_cons,List.length_nil,N_];omega))) Z Z ?_))))))))⟩;rintro e11 w11 ⟨v11,rfl,A11,n11,c11,T11⟩;refine ⟨_,rfl,(have S11:=S10.turn 3 Z T11;f_ (hK12 _ _ (a_ fun K13 hK13=>Rm Z Z (L_y (x_ Z) Z (L_y (d_ 0 Tryz.underlying113 Z dL_ Z Z Z) Z (Lm Z Z (L_o (o_ Tryz.func55 Z Z (wrawW g A11 n11 c11 (s.bs++[5]++vr q.n++vr (s.bs.length - o.at_)++tl (bn_ q.l).toNat 4) q.A q.n q.c q.l w11 (S11.get 3 Z) (S11.fix 6 Z) (by first | omega | (simp only [List.length_append,List.length_cons,List.length_nil,N_];omega))) Z Z ?_))))))))⟩;rintro e12 w12 ⟨v12,rfl,A12,n12,c12,T12⟩;refine ⟨_,rfl,(have S12:=S11.turn 3 Z T12;f_ (hK13 _ _ (a_ fun K14 hK14=>have S13:=S12.splitAt 3 Z (gW_ (S12.get 3 Z));dP_ [1,2,3,4,5,6] 7 [(0,0),(1,1),(2,1),(3,1),(4,1),(5,1),(6,2),(7,3),(8,3),(9,3),(10,3)] aJ_ (by kernel_rfl) fun w14 l14=>have S14:=S13.like l14;ZA_y Z (r_ Z) Z (gx_ (Like w14) (Like.refl _) (S_ Z (r_ Z) Z (S_ Z (x_ Z) Z (S_ Z (d_ 1 Tryz.underlying113 Z sz48 Z Z Z) Z (S_ Z (p_ Tryz.underlying48 Z Z (((S14.blk 3 Z).cell _).trans (by rfl))) Z ?_))))))))⟩;refine S_ Z (W_ Tryz.underlying65 Z sz65 Z (S14.blk 4 Z) (show _=itf x∧_ from ⟨rfl,rfl⟩)) Z (ga_ Z (eA_ (itf x) te48 zz65 S14 Z Z Z Z (by simp [Value.cells]) Z Z Z fun b15 w15 l15 S15=>?_));have q15:=l15;refine ⟨q15,(gw_ Z (aL_ te48 S15 0 Z Z Z (by first | exact S15.row 7 Z | exact S15.row 9 Z) (fun u hu=>iM_ x u hu) Z (by omega) (by omega) fun A16 c16 w16 S16=>?_))⟩;have S16d:=S16.drop (rs':=[_,_,_,_,_,_,_,_,_]) (.cons_cons _ (.cons_cons _ (.cons_cons _ (.cons_cons _ (.cons_cons _ (.cons_cons _ (.cons_cons _ (.cons_cons _ (.cons_cons _ (.cons _ (.refl _)))))))))));refine dO_ Z (x_ Z) Z (dO_ Z (d_ 1 Tryz.underlying113 Z sz48 Z Z Z) Z (ZA_o Z (Y_ S16d 3 Z Z Z Z sz48 (by simp;done) fun w17 S17=>?_)));refine cH_ (hK14 _ _ (a_ fun K15 hK15=>dP_ [1,2,3,4,5,6,7,8,9] 10 [(0,0),(1,1),(2,1),(3,1),(4,1),(5,1),(6,1),(7,1),(8,1),(9,2),(10,3),(11,3),(12,3),(13,3)] aJ_ (by kernel_rfl) fun w18 l18=>have S18:=S17.like l18;ZA_y Z (r_ Z) Z (gx_ (Like w18) (Like.refl _) (S_ Z (r_ Z) Z (S_ Z (x_ Z) Z (S_ Z (d_ 2 Tryz.underlying113 Z sz50 Z Z Z) Z (S_ Z (p_ Tryz.underlying50 Z Z (((S18.blk 3 Z).cell _).trans (by rfl))) Z ?_)))))))
  refine S_ Z (W_ Tryz.underlying41 Z af_ Z (S18.blk 5 Z) (gr_ (x.kind,x.p.l))) Z (S_ Z (r_ Z) Z (S_ Z (r_ Z) Z (S_ Z (y_ Z (jT_ (Z_ _ _) _ _)) Z (ga_ Z (eA_ (plO (⟨x.kind,x.p.l,o.dep+1,s.bs.length,bn_ q.l⟩:Ob)) te50 zz67 S18 Z Z Z (by simp [Value.cells,length_bL,Z_]) (by simp [Value.cells,plO,Ob.id];rfl) Z Z Z fun b19 w19 l19 S19=>?_)))));have q19:=l19;refine ⟨q19,(gw_ Z (aL_ te50 S19 1 Z Z Z (by first | exact S19.row 7 Z | exact S19.row 9 Z) (fun u hu=>iI_ _ u hu) Z (by omega) (by omega) fun A20 c20 w20 S20=>?_))⟩;have S20d:=S20.drop (rs':=[_,_,_,_,_,_,_,_,_]) (.cons_cons _ (.cons_cons _ (.cons_cons _ (.cons_cons _ (.cons_cons _ (.cons_cons _ (.cons_cons _ (.cons_cons _ (.cons_cons _ (.cons _ (.refl _)))))))))));refine dO_ Z (x_ Z) Z (dO_ Z (d_ 2 Tryz.underlying113 Z sz50 Z Z Z) Z (ZA_o Z (Y_ S20d 3 Z Z Z Z sz50 (by simp;done) fun w21 S21=>?_)));refine cH_ (hK15 _ _ (Rm Z Z (Lm Z Z (L_y (x_ Z) Z (L_y (d_ 3 Tryz.underlying113 Z iq_ Z Z Z) Z (L_y (p_ Tryz.underlying111 Z Z (((S21.blk 3 Z).cell _).trans (by rfl))) Z ?_))))));refine Lm Z Z (L_o (aY_ [_] hb_ zz3 S21 Z Z Z Z Z Z Z Z fun b22 w22 S22=>L_o (aL_ hb_ S22 2 Z Z Z (by first | exact S22.row 7 Z | exact S22.row 9 Z) (by first | exact T_ _ | exact cp_ _ | (intro u hu;simp at hu;subst hu;rfl) | (simp;done) | (simp [Value.oneCell'];done)) Z (by omega) (by omega) fun A23 c23 w23 S23=>?_)));have S23d:=S23.drop (rs':=[_,_,_,_,_,_,_,_,_]) (.cons_cons _ (.cons_cons _ (.cons_cons _ (.cons_cons _ (.cons_cons _ (.cons_cons _ (.cons_cons _ (.cons_cons _ (.cons_cons _ (.cons _ (.refl _)))))))))));refine L_y (x_ Z) Z (L_y (d_ 3 Tryz.underlying113 Z iq_ Z Z Z) Z (L_o (Y_ S23d 3 Z Z Z Z iq_ (by simp;done) fun w24 S24=>?_)));refine f_ ?_;first | refine ch_ (fn:=Tryz.f57) Z ?_ | (simp only [bh_,inB,if_true];refine ch_ (fn:=Tryz.f57) Z ?_)
  have hbs:s.bs++[5]++vr q.n++vr (s.bs.length - o.at_)++tl (bn_ q.l).toNat 4++q.l=(dj_ chain s (x.kind,x.p.l)).bs:=by unfold dj_;rw [lay_m (s:=s) (v:=(x.kind,x.p.l)) hr ho, ← hv];unfold aP_;rw [hqn];simp only [List.append_assoc,List.nil_append,List.append_nil]
  have hos:(dj_ chain s (x.kind,x.p.l)).os=s.os++[(⟨x.kind,x.p.l,o.dep+1,s.bs.length,bn_ q.l⟩:Ob)]:=by unfold dj_;rw [lay_m (s:=s) (v:=(x.kind,x.p.l)) hr ho, ← hv]
  have S80:=S24.sel [0,1,2,3,8] (by decide);have S81:=S80.rowc 0 Z (n':=its.length+1) (xs':=(its++[x]).flatMap itf) Z (by simp);have S82:=S81.rowc 1 Z (n':=s.os.length+1) (xs':=(s.os++[(⟨x.kind,x.p.l,o.dep+1,s.bs.length,bn_ q.l⟩:Ob)]).flatMap plO) Z (by simp);have S83:=S82.rowc 2 Z (n':=s.os.length+1) (xs':=(s.os++[(⟨x.kind,x.p.l,o.dep+1,s.bs.length,bn_ q.l⟩:Ob)]).map depV) Z (by simp [depV]);have S84:=S83.rowc 4 Z (n':=n12) (xs':=bL (dj_ chain s (x.kind,x.p.l)).bs) Z (congrArg bL hbs);have hl1:(its++[x]).length=its.length+1:=by simp
  have hl2:(dj_ chain s (x.kind,x.p.l)).os.length=s.os.length+1:=by rw [hos];simp
  have S85:=St.joinL (ps:=[_,_,_]) (r:=_) (s:=_) S84;have S86:Zx.St w0 _ (pkL g A12 n12 c12 A16 c16 A20 c20 A23 c23 (its++[x]) (dj_ chain s (x.kind,x.p.l))) w24:=S85.cast (by unfold pkL wu;rw [hl1,hl2,hos];rfl);exact ⟨_,rfl,rfl,_,_,_,_,_,_,_,_,_,S86.turnedL⟩
end Pak
namespace Pak
open Go.RowKit Zk Zx
open Sha (N)
open Oct (vaN rwL rwP rwE rnL rnP rnE be tkP tkE aG_)
structure EV where
  kind:Int
  base:Int
  fin:Nat
  sum:UInt32
  load:List UInt8
def zE:EV:=⟨0,0,0,0,[]⟩
def opR (t:List UInt8) (at_:Nat) (kind base:Int) (size:Nat) (p q:Nat):Int × EV :=
  if rnE t (rwP t p q 4) (rwE t p q 4) (size:Int)≠0 then ((rnE t (rwP t p q 4) (rwE t p q 4) (size:Int):Int),zE)
  else if (bn_ (rnL t (rwP t p q 4) (rwE t p q 4) (size:Int))).toNat≠be (rwL t p q 4) then (13,zE)
  else (0,⟨kind,base,at_+rnP t (rwP t p q 4) (rwE t p q 4) (size:Int),bn_ (rnL t (rwP t p q 4) (rwE t p q 4) (size:Int)),rnL t (rwP t p q 4) (rwE t p q 4) (size:Int)⟩)
def opM (t:List UInt8) (at_:Nat) (deep:Bool) (size p q:Nat):Int × EV :=
  if (vaN t p q 1048576).2.2=0∧((vaN t p q 1048576).1=0∨(at_:Int) - (vaN t p q 1048576).1 < 12) then (21,zE)
  else if (vaN t p q 1048576).2.2=0∧deep=true then (20,zE)
  else opR t at_ 5 ((at_:Int) - (vaN t p q 1048576).1) size (vaN t p q 1048576).2.1 (vaN t p q 1048576).2.2
def opT (t:List UInt8) (x:UInt8) (at_:Nat) (deep:Bool):Int × EV :=
  if x.toNat < 1∨5 < x.toNat then (19,zE)
  else if x.toNat=5 then opM t at_ deep (vaN t 1 0 4000).1 (vaN t 1 0 4000).2.1 (vaN t 1 0 4000).2.2
  else opR t at_ (x.toNat:Int) 0 (vaN t 1 0 4000).1 (vaN t 1 0 4000).2.1 (vaN t 1 0 4000).2.2
def Q_ (b:List UInt8) (at_:Nat):List UInt8:=(b.drop at_).take (b.length - 32 - at_)
def opV (b:List UInt8) (at_:Int) (deep:Bool):Int × EV :=
  if b.length < 44 then (10,zE) else if at_ < 12∨(b.length:Int) - 32≤at_ then (2,zE)
  else opT (Q_ b at_.toNat) (b[at_.toNat]?.getD 0) at_.toNat deep
section
variable {b : List UInt8} {at_ : Int} {deep : Bool}
theorem opV_10 (h:b.length < 44):opV b at_ deep=(10,zE):=by unfold opV;rw [if_pos h]
theorem opV_2 (h:¬ b.length < 44) (h2:at_ < 12∨(b.length:Int) - 32≤at_):opV b at_ deep=(2,zE):=by unfold opV;rw [if_neg h,if_pos h2]
theorem opV_t (h:¬ b.length < 44) (h2:¬ (at_ < 12∨(b.length:Int) - 32≤at_)) {x:UInt8} (hx:b[at_.toNat]?=some x):opV b at_ deep=opT (Q_ b at_.toNat) x at_.toNat deep:=by unfold opV;rw [if_neg h,if_neg h2,hx];rfl
theorem hQ_ {n:Nat} (h:¬ b.length < 44) (h2:n < b.length - 32):(Q_ b n).length=b.length - 32 - n:=by unfold Q_;rw [List.length_take,List.length_drop];omega
theorem tailB_0 {n:Nat} (h:¬ b.length < 44) (h2:n < b.length - 32):(Q_ b n)[0]?=b[n]?:=by
  unfold Q_
  rw [List.getElem?_take,if_pos (by omega),List.getElem?_drop,Nat.add_zero]
end
section
variable {t : List UInt8} {at_ : Nat} {deep : Bool} {x : UInt8} {size p q : Nat} {kind base : Int}
theorem hZ_ (h:x.toNat < 1∨5 < x.toNat):opT t x at_ deep=(19,zE):=by unfold opT;rw [if_pos h]
theorem db_ (h:x.toNat=5):opT t x at_ deep=opM t at_ deep (vaN t 1 0 4000).1 (vaN t 1 0 4000).2.1 (vaN t 1 0 4000).2.2:=by unfold opT;rw [if_neg (by omega),if_pos h]
theorem opT_w (h:¬ (x.toNat < 1∨5 < x.toNat)) (h5:x.toNat≠5):opT t x at_ deep=opR t at_ (x.toNat:Int) 0 (vaN t 1 0 4000).1 (vaN t 1 0 4000).2.1 (vaN t 1 0 4000).2.2:=by unfold opT;rw [if_neg h,if_neg h5]
theorem ia_ (h:(vaN t p q 1048576).2.2=0) (h2:(vaN t p q 1048576).1=0∨(at_:Int) - (vaN t p q 1048576).1 < 12):opM t at_ deep size p q=(21,zE):=by unfold opM;rw [if_pos ⟨h,h2⟩]
theorem ib_ (h:(vaN t p q 1048576).2.2=0) (h2:¬ ((vaN t p q 1048576).1=0∨(at_:Int) - (vaN t p q 1048576).1 < 12)) (h3:deep=true):opM t at_ deep size p q=(20,zE):=by unfold opM;rw [if_neg (fun q=>h2 q.2),if_pos ⟨h,h3⟩]
theorem eN_ (h:(vaN t p q 1048576).2.2≠0∨(¬ ((vaN t p q 1048576).1=0∨(at_:Int) - (vaN t p q 1048576).1 < 12)∧deep=false)):opM t at_ deep size p q=opR t at_ 5 ((at_:Int) - (vaN t p q 1048576).1) size (vaN t p q 1048576).2.1 (vaN t p q 1048576).2.2:=by
  unfold opM
  rw [if_neg (fun q=>h.elim (fun r=>r q.1) (fun r=>r.1 q.2)),if_neg (fun q=>h.elim (fun r=>r q.1) (fun r=>by rw [r.2] at q;cases q.2))]
theorem opR_e (h:rnE t (rwP t p q 4) (rwE t p q 4) (size:Int)≠0):opR t at_ kind base size p q=((rnE t (rwP t p q 4) (rwE t p q 4) (size:Int):Int),zE):=by unfold opR;rw [if_pos h]
theorem opR_13 (h:rnE t (rwP t p q 4) (rwE t p q 4) (size:Int)=0) (h2:(bn_ (rnL t (rwP t p q 4) (rwE t p q 4) (size:Int))).toNat≠be (rwL t p q 4)):opR t at_ kind base size p q=(13,zE):=by unfold opR;rw [if_neg (fun q=>q h),if_pos h2]
theorem js_ (h:rnE t (rwP t p q 4) (rwE t p q 4) (size:Int)=0) (h2:¬ (bn_ (rnL t (rwP t p q 4) (rwE t p q 4) (size:Int))).toNat≠be (rwL t p q 4)):opR t at_ kind base size p q=(0,⟨kind,base,at_+rnP t (rwP t p q 4) (rwE t p q 4) (size:Int),bn_ (rnL t (rwP t p q 4) (rwE t p q 4) (size:Int)),rnL t (rwP t p q 4) (rwE t p q 4) (size:Int)⟩):=by unfold opR;rw [if_neg (fun q=>q h),if_neg h2]
theorem rwE_dead {k:Nat} (h:q≠0):rwE t p q k=q:=by unfold rwE;rw [if_neg h]
theorem rnE_dead {m:Int} (h:q≠0):rnE t p q m=q:=by
  unfold rnE
  split
  · first | rfl | rw [if_pos h]
  · exact rwE_dead h
theorem rnL_len (m:Nat):(rnL t p q (m:Int)).length≤m:=by
  unfold rnL
  rw [if_neg (by omega)]
  exact Oct.rw_le _ _ _ _
theorem kY_:(opR t at_ kind base size p q).1=0→q=0∧(opR t at_ kind base size p q).2.kind=kind∧(opR t at_ kind base size p q).2.base=base∧(opR t at_ kind base size p q).2.load.length≤size∧(opR t at_ kind base size p q).2.sum=bn_ (opR t at_ kind base size p q).2.load:=by
  by_cases h:rnE t (rwP t p q 4) (rwE t p q 4) (size:Int)=0
  · have hq:q=0:=Classical.byContradiction fun hq=>by
      rw [rwE_dead hq,rnE_dead hq] at h
      exact hq h
    by_cases h2:(bn_ (rnL t (rwP t p q 4) (rwE t p q 4) (size:Int))).toNat≠be (rwL t p q 4)
    · rw [opR_13 h h2];intro h3;exact absurd h3 (by decide)
    · rw [js_ h h2]
      exact fun _=>⟨hq,rfl,rfl,rnL_len _,rfl⟩
  · rw [opR_e h]
    intro h3
    exact absurd h3 (by show ((rnE t (rwP t p q 4) (rwE t p q 4) (size:Int):Nat):Int)≠0;omega)
end
theorem dJ_ (d:List UInt8) (p q m:Nat):(vaN d p q m).1≤m:=by
  unfold vaN
  repeat' split
  all_goals (dsimp only;omega)
structure EOk (at_:Int) (deep:Bool) (x:EV):Prop where
  k1:1≤x.kind
  k5:x.kind≤5
  len:x.load.length≤4000
  sum:x.sum=bn_ x.load
  base:x.kind=5→12≤x.base∧x.base < at_∧deep=false
theorem opT_ok {t:List UInt8} {x:UInt8} {at_:Nat} {deep:Bool} (h:(opT t x at_ deep).1=0):EOk (at_:Int) deep (opT t x at_ deep).2:=by
  by_cases h1:x.toNat < 1∨5 < x.toNat
  · rw [hZ_ h1] at h;exact absurd h (by decide)
  · have hs := dJ_ t 1 0 4000
    by_cases h5:x.toNat=5
    · rw [db_ h5] at h ⊢
      by_cases g1:(vaN t (vaN t 1 0 4000).2.1 (vaN t 1 0 4000).2.2 1048576).2.2=0
      · by_cases g2:(vaN t (vaN t 1 0 4000).2.1 (vaN t 1 0 4000).2.2 1048576).1=0∨(at_:Int) - (vaN t (vaN t 1 0 4000).2.1 (vaN t 1 0 4000).2.2 1048576).1 < 12
        · rw [ia_ g1 g2] at h;exact absurd h (by decide)
        · cases hd:deep with
          | true=>rw [ib_ g1 g2 hd] at h;exact absurd h (by decide)
          | false =>
            rw [hd] at h
            rw [eN_ (.inr ⟨g2,rfl⟩)] at h ⊢
            obtain ⟨_,e1,e2,e3,e4⟩:=kY_ h
            exact ⟨by omega,by omega,by omega,e4,fun _=>by rw [e2];exact ⟨by omega,by omega,rfl⟩⟩
      · rw [eN_ (.inl g1)] at h
        exact absurd (kY_ h).1 g1
    · rw [opT_w h1 h5] at h ⊢
      obtain ⟨_,e1,e2,e3,e4⟩:=kY_ h
      exact ⟨by omega,by omega,by omega,e4,fun q=>by omega⟩
theorem gM_ {b:List UInt8} {at_:Int} {deep:Bool} (h:(opV b at_ deep).1=0):EOk at_ deep (opV b at_ deep).2∧12≤at_∧at_ < (b.length:Int) - 32∧¬ b.length < 44:=by
  by_cases h1:b.length < 44
  · rw [opV_10 h1] at h;exact absurd h (by decide)
  · by_cases h2:at_ < 12∨(b.length:Int) - 32≤at_
    · rw [opV_2 h1 h2] at h;exact absurd h (by decide)
    · have e:b[at_.toNat]?=some (b[at_.toNat]?.getD 0):=by
        rw [List.getElem?_eq_getElem (by omega)];rfl
      rw [opV_t h1 h2 e] at h ⊢
      have h3:=opT_ok h
      rw [Int.toNat_of_nonneg (by omega)] at h3
      exact ⟨h3,by omega,by omega,h1⟩
def eG_ (ld:List UInt8) (r:Int × List UInt8 × Int):Int × List UInt8 × Int :=
  if r.2.2≠0 then (0,[],r.2.2)
  else if (Del.aj_ ld).2.2.2≠0 then (0,[],(Del.aj_ ld).2.2.2)
  else if (Del.bW_ r.2.1 (Del.aj_ ld).1 (Del.aj_ ld).2.1 (Del.aj_ ld).2.2.1).2≠0 then (0,[],(Del.bW_ r.2.1 (Del.aj_ ld).1 (Del.aj_ ld).2.1 (Del.aj_ ld).2.2.1).2)
  else (r.1,(Del.bW_ r.2.1 (Del.aj_ ld).1 (Del.aj_ ld).2.1 (Del.aj_ ld).2.2.1).1,0)
section
variable {ld : List UInt8} {r : Int × List UInt8 × Int} {e : Int}
theorem aplO_1 (h:r.2.2=e) (he:e≠0):eG_ ld r=(0,[],e):=by subst h;unfold eG_;rw [if_pos he]
theorem aplO_2 (h:r.2.2=0) (h2:(Del.aj_ ld).2.2.2≠0):eG_ ld r=(0,[],(Del.aj_ ld).2.2.2):=by unfold eG_;rw [if_neg (fun q=>q h),if_pos h2]
theorem aplO_3 (h:r.2.2=0) (h2:(Del.aj_ ld).2.2.2=0) (h3:(Del.bW_ r.2.1 (Del.aj_ ld).1 (Del.aj_ ld).2.1 (Del.aj_ ld).2.2.1).2≠0):eG_ ld r=(0,[],(Del.bW_ r.2.1 (Del.aj_ ld).1 (Del.aj_ ld).2.1 (Del.aj_ ld).2.2.1).2):=by unfold eG_;rw [if_neg (fun q=>q h),if_neg (fun q=>q h2),if_pos h3]
theorem aplO_4 (h:r.2.2=0) (h2:(Del.aj_ ld).2.2.2=0) (h3:(Del.bW_ r.2.1 (Del.aj_ ld).1 (Del.aj_ ld).2.1 (Del.aj_ ld).2.2.1).2=0):eG_ ld r=(r.1,(Del.bW_ r.2.1 (Del.aj_ ld).1 (Del.aj_ ld).2.1 (Del.aj_ ld).2.2.1).1,0):=by unfold eG_;rw [if_neg (fun q=>q h),if_neg (fun q=>q h2),if_neg (fun q=>q h3)]
end
def rdF (b:List UInt8):Nat→Int→Int × List UInt8 × Int
  | 0,at_=>if (opV b at_ true).1≠0 then (0,[],(opV b at_ true).1) else ((opV b at_ true).2.kind,(opV b at_ true).2.load,0)
  | f+1,at_=>if (opV b at_ false).1≠0 then (0,[],(opV b at_ false).1) else if (opV b at_ false).2.kind=5 then eG_ (opV b at_ false).2.load (rdF b f (opV b at_ false).2.base) else ((opV b at_ false).2.kind,(opV b at_ false).2.load,0)
def rest (b:List UInt8) (f:Nat) (x:EV):Int × List UInt8 × Int:=if x.kind=5 then eG_ x.load (rdF b f x.base) else (x.kind,x.load,0)
theorem rdF_e {b:List UInt8} {f:Nat} {at_:Int} {e:Int} (h:(opV b at_ (f == 0)).1=e) (he:e≠0):rdF b f at_=(0,[],e):=by
  subst h
  cases f with
  | zero=>unfold rdF;exact if_pos he
  | succ f=>unfold rdF;exact if_pos he
theorem gJ_ {b:List UInt8} {f:Nat} {at_:Int} (h:(opV b at_ (f == 0)).1=0):rdF b f at_=rest b (f - 1) (opV b at_ (f == 0)).2:=by
  cases f with
  | zero =>
    have hk:=(gM_ h).1
    have h5:(opV b at_ (0 == 0)).2.kind≠5:=fun q=>by have:=(hk.base q).2.2;cases this
    unfold rdF rest
    rw [if_neg (fun q=>q h),if_neg h5]
    rfl
  | succ f =>
    have h2:(f+1 == 0)=false:=rfl
    rw [h2] at h ⊢
    unfold rest
    conv=>lhs;unfold rdF
    rw [if_neg (fun q=>q h)]
    rfl
def readP (b:List UInt8) (at_:Int):Int × List UInt8 × Int:=rdF b 8 at_
theorem fp_ (ls:List (List UInt8)) (ld:List UInt8) (r:Int × List UInt8 × Int):(ls++[ld]).foldr eG_ r=ls.foldr eG_ (eG_ ld r):=by simp
theorem ii_ (ls:List (List UInt8)) {e:Int} (he:e≠0):ls.foldr eG_ (0,[],e)=(0,[],e):=by
  induction ls with
  | nil=>rfl
  | cons x ls ih=>rw [List.foldr_cons,ih];exact aplO_1 Z he
section
variable {d t : List UInt8} {a : Nat}
theorem jO_ (h:t=d.drop a) (p:Nat):d.drop (a+p)=t.drop p:=by rw [h,List.drop_drop]
theorem len_shift (h:t=d.drop a) (p:Nat):d.length - (a+p)=t.length - p:=by rw [h,List.length_drop];omega
theorem vaN_shift (h:t=d.drop a) (p q m:Nat):vaN d (a+p) q m=((vaN t p q m).1,a+(vaN t p q m).2.1,(vaN t p q m).2.2):=by
  unfold vaN
  rw [jO_ h]
  repeat' split
  all_goals first | rfl | (rw [Nat.add_assoc])
theorem rw_shift (h:t=d.drop a) (p q k:Nat):rwL d (a+p) q k=rwL t p q k∧rwP d (a+p) q k=a+rwP t p q k∧rwE d (a+p) q k=rwE t p q k:=by
  unfold rwL rwP rwE Oct.tkL tkP tkE
  rw [jO_ h,len_shift h]
  refine ⟨rfl,?_,rfl⟩
  repeat' split
  all_goals first | rfl | (rw [Nat.add_assoc])
theorem rn_shift (h:t=d.drop a) (p q:Nat) (m:Int):rnL d (a+p) q m=rnL t p q m∧rnP d (a+p) q m=a+rnP t p q m∧rnE d (a+p) q m=rnE t p q m:=by
  obtain ⟨h1,h2,h3⟩:=rw_shift h p q m.toNat
  unfold rnL rnP rnE
  rw [h1,h2,h3]
  refine ⟨rfl,?_,rfl⟩
  split <;> rfl
end
theorem kf_ {b:List UInt8} {n:Nat}:Q_ b n=(b.take (b.length - 32)).drop n:=by
  unfold Q_
  rw [List.drop_take]
end Pak
namespace Pak
open Go.RowKit Zk Zx
end Pak
namespace Pak
open Go.RowKit Zk Zx
open Sha (N)
open Go.Proofs.YtgaklngnfecdaaaGreat.Obj (ai_ bV_ aT_ Z_)
open Oct (vaN rwL rwP rwE rnL rnP rnE be tkP tkE aG_ vr tl N_)
theorem be_tl {v:Nat} (h:v < 4294967296):be (tl v 4)=v:=by
  simp only [tl,be,List.foldl,UInt8.toNat_ofNat']
  omega
theorem rw_at {t r s:List UInt8} {p k:Nat} (h:t.drop p=r++s) (hk:r.length=k):rwL t p 0 k=r∧rwP t p 0 k=p+k∧rwE t p 0 k=0:=by
  have hl:k≤t.length - p:=by
    have:=congrArg List.length h
    rw [List.length_drop,List.length_append] at this
    omega
  unfold rwL rwP rwE Oct.tkL tkP tkE
  rw [if_pos Z,if_pos Z,if_pos Z,if_pos hl,if_pos hl,if_pos hl,h]
  exact ⟨by rw [← hk];simp,rfl,rfl⟩
theorem rn_at {t r s:List UInt8} {p k:Nat} (h:t.drop p=r++s) (hk:r.length=k):rnL t p 0 (k:Int)=r∧rnP t p 0 (k:Int)=p+k∧rnE t p 0 (k:Int)=0:=by
  obtain ⟨h1,h2,h3⟩:=Oct.rn_nat t p 0 k
  rw [h1,h2,h3]
  exact rw_at h hk
theorem va_at {t r:List UInt8} {p v m:Nat} (h:t.drop p=vr v++r) (hm:v≤m) (h64:v≤18446744073709551615):vaN t p 0 m=(v,p+(vr v).length,0):=by
  unfold vaN
  rw [if_neg (by omega),h,Oct.jy_ r v h64,if_neg (by show ¬ (0:Nat)≠0;omega),if_neg (by show ¬ m < v;omega)]
theorem hE_ {t r s:List UInt8} {p:Nat} (h:t.drop p=r++s):t.drop (p+r.length)=s:=by
  rw [← List.drop_drop,h,List.drop_left]
theorem opR_at {t load post:List UInt8} {at_:Nat} {kind base:Int} {p:Nat} (h:t.drop p=tl (bn_ load).toNat 4++(load++post)):opR t at_ kind base load.length p 0=(0,⟨kind,base,at_+(p+4+load.length),bn_ load,load⟩):=by
  obtain ⟨e1,e2,e3⟩:=rw_at h (N_ _ 4)
  have h2:=hE_ h
  rw [N_] at h2
  obtain ⟨f1,f2,f3⟩:=rn_at h2 Z
  rw [js_ (by rw [e2,e3,f3]) (by rw [e1,e2,e3,f1,be_tl (bn_ load).toNat_lt];omega),e2,e3,f1,f2]
theorem ent_whole {x:UInt8} {load post:List UInt8} {at_:Nat} {deep:Bool} (h1:1≤x.toNat) (h4:x.toNat≤4) (hl:load.length≤4000) :
    opT (aP_ x [] load++post) x at_ deep=(0,⟨(x.toNat:Int),0,at_+(aP_ x [] load).length,bn_ load,load⟩):=by
  have d1:(aP_ x [] load++post).drop 1=vr load.length++(tl (bn_ load).toNat 4++(load++post)):=by simp [aP_]
  have v1:=va_at d1 hl (by omega)
  have d2:=hE_ d1
  rw [opT_w (by omega) (by omega),v1,opR_at d2]
  have:1+(vr load.length).length+4+load.length=(aP_ x [] load).length:=by simp [aP_,N_];omega
  rw [this]
theorem ent_made {back:Nat} {load post:List UInt8} {at_:Nat} (hl:load.length≤4000) (hb:1≤back) (hb2:back+12≤at_) (hm:at_≤1048576) :
    opT (aP_ 5 (vr back) load++post) 5 at_ false=(0,⟨5,(at_:Int) - back,at_+(aP_ 5 (vr back) load).length,bn_ load,load⟩):=by
  have d1:(aP_ 5 (vr back) load++post).drop 1=vr load.length++(vr back++(tl (bn_ load).toNat 4++(load++post))):=by simp [aP_]
  have v1:=va_at d1 hl (by omega)
  have d2:=hE_ d1
  have v2:=va_at (m:=1048576) d2 (by omega) (by omega)
  have d3:=hE_ d2
  rw [db_ Z,v1,eN_ (.inr ⟨by dsimp only;rw [v2];dsimp only;omega,rfl⟩)]
  dsimp only
  rw [v2,opR_at d3]
  have:1+(vr load.length).length+(vr back).length+4+load.length=(aP_ 5 (vr back) load).length:=by simp [aP_,N_];omega
  rw [this]
def nx (os:List Ob) (bs:List UInt8) (k:Nat):Nat:=os[k+1]?.elim bs.length Ob.at_
theorem nx_more {os:List Ob} {bs ex:List UInt8} {q:Ob} {k:Nat} (hk:k < os.length) (hq:q.at_=bs.length):nx (os++[q]) (bs++ex) k=nx os bs k:=by
  unfold nx
  rcases Nat.lt_or_ge (k+1) os.length with g | g
  · rw [List.getElem?_append_left g,List.getElem?_eq_getElem g];rfl
  · have e:os.length=k+1:=by omega
    rw [← e,List.getElem?_concat_length,List.getElem?_eq_none (by omega)]
    exact hq
structure Laid1 (os:List Ob) (bs:List UInt8) (o:Ob) (k:Nat):Prop where
  at12:12≤o.at_
  lt:o.at_ < bs.length
  dep:o.dep≤8
  ent:(∃ x post,bs.drop o.at_=aP_ x [] o.l++post∧(x.toNat:Int)=o.kind∧o.dep=0∧o.sum=bn_ o.l∧o.at_+(aP_ x [] o.l).length=nx os bs k) ∨
    (∃ j p post,j < k∧os[j]?=some p∧p.at_ < o.at_∧p.kind=o.kind∧o.dep=p.dep+1∧o.sum=bn_ (scB p.l o.l)∧(scB p.l o.l).length < o.l.length∧bs.drop o.at_=aP_ 5 (vr (o.at_ - p.at_)) (scB p.l o.l)++post∧o.at_+(aP_ 5 (vr (o.at_ - p.at_)) (scB p.l o.l)).length=nx os bs k)
structure fA_ (s:Pk):Prop where
  each:∀ k o,s.os[k]?=some o→Laid1 s.os s.bs o k
  kinds:∀ o ∈ s.os,1≤o.kind∧o.kind≤4
  short:∀ o ∈ s.os,o.l.length≤300
theorem Laid1.more {os:List Ob} {bs ex:List UInt8} {o q:Ob} {k:Nat} (h:Laid1 os bs o k) (hk:k < os.length) (hq:q.at_=bs.length):Laid1 (os++[q]) (bs++ex) o k:=by
  have hlt:=h.lt
  refine ⟨h.at12,by rw [List.length_append];omega,h.dep,?_⟩
  rcases h.ent with ⟨x,post,e,u1,u2,u3,u4⟩ | ⟨j,p,post,hj,hp,r1,r2,r3,r4,r5,e,u4⟩
  · exact .inl ⟨x,post++ex,by rw [List.drop_append_of_le_length (by omega),e,List.append_assoc],u1,u2,u3,by rw [nx_more hk hq];exact u4⟩
  · exact .inr ⟨j,p,post++ex,hj,by rw [List.getElem?_append_left (by omega)];exact hp,r1,r2,r3,r4,r5,by rw [List.drop_append_of_le_length (by omega),e,List.append_assoc],by rw [nx_more hk hq];exact u4⟩
theorem addV_laid {chain:Int} (hc:chain≤8) {s:Pk} {v:IV} (h:fA_ s) (hk:1≤v.1∧v.1≤4) (hl:v.2.length≤300) (h12:12≤s.bs.length) (hbs:s.bs.length≤20000):fA_ (dj_ chain s v):=by
  obtain ⟨ht,htl⟩:=ha_ s.os chain v.1 v.2
  have old:∀ (q:Ob) (ex:List UInt8) (k:Nat) (o:Ob),s.os[k]?=some o→q.at_=s.bs.length→Laid1 (s.os++[q]) (s.bs++ex) o k:=fun q ex k o ho hq=>(h.each k o ho).more (List.getElem?_eq_some_iff.1 ho).1 hq
  have fin:∀ (q:Ob) (ex:List UInt8),q.kind=v.1→q.l=v.2→q.at_=s.bs.length→Laid1 (s.os++[q]) (s.bs++ex) q s.os.length→fA_ ⟨s.bs++ex,s.os++[q]⟩:=fun q ex e1 e2 e3 hq=>by
    refine ⟨fun k o ho=>?_,fun o ho=>?_,fun o ho=>?_⟩
    · rcases Nat.lt_or_ge k s.os.length with g | g
      · rw [List.getElem?_append_left g] at ho
        exact old q ex k o ho e3
      · have hk2:=(List.getElem?_eq_some_iff.1 ho).1
        simp at hk2
        obtain rfl:k=s.os.length:=by omega
        rw [List.getElem?_concat_length] at ho
        cases ho
        exact hq
    · rcases List.mem_append.1 ho with ho | ho
      · exact h.kinds o ho
      · obtain rfl:=List.mem_singleton.1 ho
        rw [e1];exact hk
    · rcases List.mem_append.1 ho with ho | ho
      · exact h.short o ho
      · obtain rfl:=List.mem_singleton.1 ho
        rw [e2];exact hl
  unfold dj_ layO
  rcases ht with ⟨r1,r2⟩ | ⟨j,o,r1,ho,g1,g2,g3,g4⟩
  · rw [if_pos (by omega)]
    refine fin _ _ Z Z Z ⟨h12,by simp [aP_] <;> omega,by show (0:Nat)≤8;omega,.inl ⟨UInt8.ofNat v.1.toNat,[],?_,?_,rfl,by rw [r2],by rw [r2];unfold nx;rw [List.getElem?_eq_none (by simp)];show s.bs.length+_=(s.bs++_).length;rw [List.length_append]⟩⟩
    · show (s.bs++aP_ _ [] _).drop s.bs.length=_
      rw [List.drop_left,r2,List.append_nil]
    · show ((UInt8.ofNat v.1.toNat).toNat:Int)=v.1
      rw [UInt8.toNat_ofNat']
      omega
  · rw [if_neg (by omega)]
    have hj:(fL_ s.os chain v.1 v.2).1.toNat=j:=by omega
    have ea:ofAt s.os (fL_ s.os chain v.1 v.2).1=o.at_:=by unfold ofAt;rw [hj,ho];rfl
    have ed:ofDep s.os (fL_ s.os chain v.1 v.2).1=o.dep:=by unfold ofDep;rw [hj,ho];rfl
    have hL:=h.each j o ho
    have hjl:=(List.getElem?_eq_some_iff.1 ho).1
    have hLt:=hL.lt
    rw [ea,ed]
    refine fin _ _ Z Z Z ⟨h12,by simp [aP_] <;> omega,by show o.dep+1≤8;omega,.inr ⟨j,o,[],hjl,by rw [List.getElem?_append_left hjl];exact ho,hLt,g1,rfl,by rw [g3],by rw [← g3];exact g4,?_,?_⟩⟩
    · show (s.bs++aP_ 5 _ _).drop s.bs.length=_
      rw [List.drop_left,g3,List.append_nil]
    · rw [g3];unfold nx;rw [List.getElem?_eq_none (by simp)];show s.bs.length+_=(s.bs++_).length;rw [List.length_append]
theorem hX_ {chain:Int} (hc:chain≤8) {n:Nat} {l:List IV} (hs:∀ x ∈ l,x.2.length≤300) (hk:∀ x ∈ l,1≤x.1∧x.1≤4):∀ k,k≤l.length→k≤24→fA_ (cf_ chain n (l.take k))
  | 0,_,_=>⟨fun k o ho=>by simp [cf_] at ho,fun o ho=>by simp [cf_] at ho,fun o ho=>by simp [cf_] at ho⟩
  | k+1,hkl,h24=>by
    obtain ⟨x,hx⟩:∃ x,l[k]?=some x:=⟨_,List.getElem?_eq_getElem (by omega)⟩
    obtain ⟨h1,h2,h3⟩:=ho_ (chain:=chain) (n:=n) hs k (by omega) (by omega)
    rw [dX_ hx]
    exact addV_laid hc (hX_ hc hs hk k (by omega) (by omega)) (hk x (List.mem_of_getElem? hx)) (hs x (List.mem_of_getElem? hx)) h2 (by omega)
theorem kg_ {bs ex:List UInt8} {n:Nat} (he:ex.length=32):Q_ (bs++ex) n=bs.drop n:=by
  rw [kf_,show (bs++ex).length - 32=bs.length by rw [List.length_append];omega,List.take_left]
theorem entB_hd (x:UInt8) (bk load post:List UInt8):(aP_ x bk load++post)[0]?=some x:=by simp [aP_]
theorem open_laid {s:Pk} {ex:List UInt8} (he:ex.length=32) (h12:12≤s.bs.length) (hbs:s.bs.length≤20000) (h:fA_ s) {k:Nat} {o:Ob} (ho:s.os[k]?=some o) :
    (∃ post,s.bs.drop o.at_=aP_ (UInt8.ofNat o.kind.toNat) [] o.l++post∧o.dep=0∧o.sum=bn_ o.l∧∀ deep,opV (s.bs++ex) (o.at_:Int) deep=(0,⟨o.kind,0,nx s.os s.bs k,o.sum,o.l⟩)) ∨
    (∃ j p post,j < k∧s.os[j]?=some p∧p.kind=o.kind∧o.dep=p.dep+1∧s.bs.drop o.at_=aP_ 5 (vr (o.at_ - p.at_)) (scB p.l o.l)++post∧opV (s.bs++ex) (o.at_:Int) false=(0,⟨5,(p.at_:Int),nx s.os s.bs k,o.sum,scB p.l o.l⟩)):=by
  have hL:=h.each k o ho
  have h1:=hL.at12
  have h2:=hL.lt
  have hk:=h.kinds o (List.mem_of_getElem? ho)
  have hs:=h.short o (List.mem_of_getElem? ho)
  have hlen:(s.bs++ex).length=s.bs.length+32:=by rw [List.length_append,he]
  have hx0:∀ {x:UInt8} {bk load post:List UInt8},s.bs.drop o.at_=aP_ x bk load++post→(s.bs++ex)[((o.at_:Nat):Int).toNat]?=some x:=fun {x bk load post} e=>by
    have h4:=entB_hd x bk load post
    rw [← e,List.getElem?_drop,Nat.add_zero] at h4
    rw [Int.toNat_natCast,List.getElem?_append_left h2,h4]
  rcases hL.ent with ⟨x,post,e,r1,r2,r3,u4⟩ | ⟨j,p,post,hj,hp,r1,r2,r3,r4,r5,e,u4⟩
  · have hxe:x=UInt8.ofNat o.kind.toNat:=by
      apply UInt8.toNat_inj.1
      rw [UInt8.toNat_ofNat']
      omega
    refine .inl ⟨post,by rw [← hxe];exact e,r2,r3,fun deep=>?_⟩
    rw [opV_t (by omega) (by omega) (hx0 e),Int.toNat_natCast,kg_ he,e,ent_whole (by omega) (by omega) (by omega),r1,r3,u4]
  · have hpL:=(h.each j p hp).at12
    refine .inr ⟨j,p,post,hj,hp,r2,r3,e,?_⟩
    rw [opV_t (by omega) (by omega) (hx0 e),Int.toNat_natCast,kg_ he,e,ent_made (by omega) (by omega) (by omega) (by omega),r4,u4]
    have:(o.at_:Int) - ((o.at_ - p.at_:Nat):Int)=(p.at_:Int):=by omega
    rw [this]
theorem aplO_sc {a x:List UInt8} {k:Int} (ha:a.length≤300) (hx:x.length≤300):eG_ (scB a x) (k,a,0)=(k,x,0):=by
  have h1:=Del.put_read (Del.lc_ (a:=a) (t:=x) (by omega) (by omega))
  have h2:=Del.make_apl (a:=a) (t:=x) (by omega) (by omega)
  have h3:(Del.aj_ (scB a x)).2.2.2=0:=by unfold scB;rw [h1]
  have h4:Del.bW_ a (Del.aj_ (scB a x)).1 (Del.aj_ (scB a x)).2.1 (Del.aj_ (scB a x)).2.2.1=(x,0):=by unfold scB;rw [h1];exact h2
  rw [aplO_4 Z h3 (by dsimp only;rw [h4])]
  dsimp only
  rw [h4]
theorem read_laid {s:Pk} {ex:List UInt8} (he:ex.length=32) (h12:12≤s.bs.length) (hbs:s.bs.length≤20000) (h:fA_ s):∀ (k:Nat) (o:Ob),s.os[k]?=some o→∀ f,o.dep≤f→rdF (s.bs++ex) f (o.at_:Int)=(o.kind,o.l,0):=by
  intro k
  induction k using Nat.strongRecOn with
  | _ k ih =>
    intro o ho f hf
    have hk:=h.kinds o (List.mem_of_getElem? ho)
    have hs:=h.short o (List.mem_of_getElem? ho)
    rcases open_laid he h12 hbs h ho with ⟨post,_,_,_,hop⟩ | ⟨j,p,post,hj,hp,g1,g2,_,hop⟩
    · rw [gJ_ (by rw [hop]),hop]
      unfold rest
      exact if_neg (by show ¬ o.kind=5;omega)
    · obtain ⟨f,rfl⟩:∃ f',f=f'+1:=⟨f - 1,by omega⟩
      have hb:(f+1 == 0)=false:=rfl
      rw [gJ_ (by rw [hb,hop]),hb,hop]
      unfold rest
      rw [if_pos Z]
      show eG_ (scB p.l o.l) (rdF (s.bs++ex) f (p.at_:Int))=_
      rw [ih j hj p hp f (by omega),g1,aplO_sc (h.short p (List.mem_of_getElem? hp)) hs]
end Pak
namespace Pak
open Go.RowKit Zk Zx
open Sha (N)
open Go.Proofs.YtgaklngnfecdaaaGreat.Obj (ai_ bV_ aT_ Z_)
open Oct (vaN rwL rwP rwE rnL rnP rnE be tkP tkE aG_ vr tl N_)
def ce_ (b:List UInt8):Nat→Nat→Int × List Ob × Nat
  | 0,at_=>(0,[],at_)
  | n+1,at_=>if (opV b at_ false).1≠0 then ((opV b at_ false).1,[],0)
    else if (rest b 7 (opV b at_ false).2).2.2≠0 then ((rest b 7 (opV b at_ false).2).2.2,[],0)
    else if ai_ (rest b 7 (opV b at_ false).2).1 (rest b 7 (opV b at_ false).2).2.1≠0 then (ai_ (rest b 7 (opV b at_ false).2).1 (rest b 7 (opV b at_ false).2).2.1,[],0)
    else ((ce_ b n (opV b at_ false).2.fin).1,⟨(rest b 7 (opV b at_ false).2).1,(rest b 7 (opV b at_ false).2).2.1,0,at_,(opV b at_ false).2.sum⟩::(ce_ b n (opV b at_ false).2.fin).2.1,(ce_ b n (opV b at_ false).2.fin).2.2)
def glue (os:List Ob) (q:Int × List Ob × Nat):Int × List Ob × Nat:=(q.1,os++q.2.1,q.2.2)
section
variable {b : List UInt8} {n at_ : Nat}
theorem scan_1 (h:(opV b at_ false).1≠0):ce_ b (n+1) at_=((opV b at_ false).1,[],0):=by
  conv=>lhs;unfold ce_
  rw [if_pos h]
theorem scan_2 (h:(opV b at_ false).1=0) (h2:(rest b 7 (opV b at_ false).2).2.2≠0):ce_ b (n+1) at_=((rest b 7 (opV b at_ false).2).2.2,[],0):=by
  conv=>lhs;unfold ce_
  rw [if_neg (fun q=>q h),if_pos h2]
theorem scan_3 (h:(opV b at_ false).1=0) (h2:(rest b 7 (opV b at_ false).2).2.2=0) (h3:ai_ (rest b 7 (opV b at_ false).2).1 (rest b 7 (opV b at_ false).2).2.1≠0):ce_ b (n+1) at_=(ai_ (rest b 7 (opV b at_ false).2).1 (rest b 7 (opV b at_ false).2).2.1,[],0):=by
  conv=>lhs;unfold ce_
  rw [if_neg (fun q=>q h),if_neg (fun q=>q h2),if_pos h3]
theorem scan_4 (h:(opV b at_ false).1=0) (h2:(rest b 7 (opV b at_ false).2).2.2=0) (h3:ai_ (rest b 7 (opV b at_ false).2).1 (rest b 7 (opV b at_ false).2).2.1=0):ce_ b (n+1) at_=glue [⟨(rest b 7 (opV b at_ false).2).1,(rest b 7 (opV b at_ false).2).2.1,0,at_,(opV b at_ false).2.sum⟩] (ce_ b n (opV b at_ false).2.fin):=by
  conv=>lhs;unfold ce_
  rw [if_neg (fun q=>q h),if_neg (fun q=>q h2),if_neg (fun q=>q h3)]
  rfl
end
def cc_ (b:List UInt8):Int:=if b.length < 44 then 10 else if b.take 4≠[80,65,67,75]∨be ((b.drop 4).take 4)≠1 then 12 else if Sha.ofL (b.take (b.length - 32))≠b.drop (b.length - 32) then 13 else if 600 < be ((b.drop 8).take 4) then 5 else 0
def cv_ (b:List UInt8):Nat:=be ((b.drop 8).take 4)
theorem jI_ {b:List UInt8} (h:b.length < 44):cc_ b=10:=by unfold cc_;rw [if_pos h]
theorem hy_ {b:List UInt8} (h:¬ b.length < 44) (h2:b.take 4≠[80,65,67,75]∨be ((b.drop 4).take 4)≠1):cc_ b=12:=by unfold cc_;rw [if_neg h,if_pos h2]
theorem headE_13 {b:List UInt8} (h:¬ b.length < 44) (h2:¬ (b.take 4≠[80,65,67,75]∨be ((b.drop 4).take 4)≠1)) (h3:Sha.ofL (b.take (b.length - 32))≠b.drop (b.length - 32)):cc_ b=13:=by unfold cc_;rw [if_neg h,if_neg h2,if_pos h3]
theorem headE_5 {b:List UInt8} (h:¬ b.length < 44) (h2:¬ (b.take 4≠[80,65,67,75]∨be ((b.drop 4).take 4)≠1)) (h3:¬ Sha.ofL (b.take (b.length - 32))≠b.drop (b.length - 32)) (h4:600 < cv_ b):cc_ b=5:=by unfold cc_;rw [if_neg h,if_neg h2,if_neg h3];exact if_pos h4
theorem headE_0 {b:List UInt8} (h:¬ b.length < 44) (h2:¬ (b.take 4≠[80,65,67,75]∨be ((b.drop 4).take 4)≠1)) (h3:¬ Sha.ofL (b.take (b.length - 32))≠b.drop (b.length - 32)) (h4:¬ 600 < cv_ b):cc_ b=0:=by unfold cc_;rw [if_neg h,if_neg h2,if_neg h3];exact if_neg h4
theorem headE_ok {b:List UInt8} (h:cc_ b=0):¬ b.length < 44∧cv_ b≤600:=by
  by_cases h1:b.length < 44
  · rw [jI_ h1] at h;exact absurd h (by decide)
  · refine ⟨h1,Classical.byContradiction fun h4=>?_⟩
    unfold cc_ at h
    rw [if_neg h1] at h
    split at h
    · exact absurd h (by decide)
    · split at h
      · exact absurd h (by decide)
      · rw [if_pos (show 600 < be ((b.drop 8).take 4) by unfold cv_ at h4;omega)] at h
        exact absurd h (by decide)
def ep_ (b:List UInt8):Int × List Ob :=
  if cc_ b≠0 then (cc_ b,[]) else if (ce_ b (cv_ b) 12).1≠0 then ((ce_ b (cv_ b) 12).1,[])
  else if (ce_ b (cv_ b) 12).2.2 < b.length - 32 then (11,[]) else (0,(ce_ b (cv_ b) 12).2.1)
theorem gk_ {b:List UInt8} (h:cc_ b≠0):ep_ b=(cc_ b,[]):=by unfold ep_;rw [if_pos h]
theorem fg_ {b:List UInt8} (h:cc_ b=0) {e:Int} (h2:(ce_ b (cv_ b) 12).1=e) (he:e≠0):ep_ b=(e,[]):=by subst h2;unfold ep_;rw [if_neg (fun q=>q h),if_pos he]
theorem scanV_11 {b:List UInt8} (h:cc_ b=0) {os:List Ob} {at_:Nat} (h2:ce_ b (cv_ b) 12=(0,os,at_)) (h3:at_ < b.length - 32):ep_ b=(11,[]):=by
  unfold ep_;rw [if_neg (fun q=>q h),h2,if_neg (fun q=>q Z),if_pos h3]
theorem scanV_0 {b:List UInt8} (h:cc_ b=0) {os:List Ob} {at_:Nat} (h2:ce_ b (cv_ b) 12=(0,os,at_)) (h3:¬ at_ < b.length - 32):ep_ b=(0,os):=by
  unfold ep_;rw [if_neg (fun q=>q h),h2,if_neg (fun q=>q Z),if_neg h3]
def SCI (b:List UInt8) (n k:Nat) (os:List Ob) (at_:Nat):Prop:=ce_ b n 12=glue os (ce_ b (n - k) at_)
theorem SCI.start (b:List UInt8) (n:Nat):SCI b n 0 [] 12:=rfl
theorem SCI.err {b:List UInt8} {n k at_:Nat} {os:List Ob} (h:SCI b n k os at_) {e:Int} (h2:(ce_ b (n - k) at_).1=e):(ce_ b n 12).1=e:=by
  unfold SCI at h;rw [h];exact h2
theorem SCI.next {b:List UInt8} {n k at_ at2:Nat} {os:List Ob} {o:Ob} (h:SCI b n k os at_) (hk:k < n) (h2:ce_ b (n - k - 1+1) at_=glue [o] (ce_ b (n - k - 1) at2)):SCI b n (k+1) (os++[o]) at2:=by
  unfold SCI at h ⊢
  rw [h,show n - k=n - k - 1+1 by omega,h2,show n - (k+1)=n - k - 1 by omega]
  unfold glue
  simp
theorem SCI.done {b:List UInt8} {n at_:Nat} {os:List Ob} (h:SCI b n n os at_):ce_ b n 12=(0,os,at_):=by
  unfold SCI at h
  rw [h,Nat.sub_self]
  unfold ce_ glue
  simp
theorem be_one {r:List UInt8} (h:r.length=4):be r=1↔r=tl 1 4:=by
  constructor
  · intro h1
    match r,h with
    | [a,b,c,d],_ =>
      have ha:=a.toNat_lt;have hb:=b.toNat_lt;have hc:=c.toNat_lt;have hd:=d.toNat_lt
      simp only [be,List.foldl] at h1
      have e1:a=0:=UInt8.toNat_inj.1 (by show a.toNat=0;omega)
      have e2:b=0:=UInt8.toNat_inj.1 (by show b.toNat=0;omega)
      have e3:c=0:=UInt8.toNat_inj.1 (by show c.toNat=0;omega)
      have e4:d=1:=UInt8.toNat_inj.1 (by show d.toNat=1;omega)
      subst e1 e2 e3 e4
      rfl
  · intro h1;subst h1;rfl
theorem first_at {chain:Int} {n:Nat} {l:List IV}:(cf_ chain n l).os[0]?.elim (cf_ chain n l).bs.length Ob.at_=12:=by
  have key:∀ (l:List IV) (s:Pk),s.os[0]?.elim s.bs.length Ob.at_=12→(l.foldl (dj_ chain) s).os[0]?.elim (l.foldl (dj_ chain) s).bs.length Ob.at_=12:=by
    intro l
    induction l with
    | nil=>exact fun s h=>h
    | cons v l ih =>
      intro s h
      refine ih _ ?_
      unfold dj_ layO
      cases ho:s.os with
      | nil =>
        rw [ho] at h
        split <;> exact h
      | cons o os =>
        rw [ho] at h
        split <;> exact h
  exact key l _ (by show (jM_ n).length=12;exact jL_ n)
theorem le_ {k:Int} {b:List UInt8} (h:ai_ k b=0):1≤k∧k≤4:=Classical.byContradiction fun q=>by
  unfold ai_ at h
  rw [if_pos q] at h
  exact absurd h (by decide)
structure Written (chain:Int) (l:List IV):Prop where
  inv:fA_ (ct_ chain l)
  cnt:(ct_ chain l).os.length=l.length
  lo:12≤(ct_ chain l).bs.length
  hi:(ct_ chain l).bs.length≤10000
  items:(ct_ chain l).os.map (fun o=>(o.kind,o.l))=l
  good:∀ o ∈ (ct_ chain l).os,ai_ o.kind o.l=0
theorem written {chain:Int} (hc:chain≤8) {l:List IV} (h24:l.length≤24) (hs:∀ x ∈ l,x.2.length≤300) (hn:∀ x ∈ l,ai_ x.1 x.2=0):Written chain l:=by
  have h1:=ho_ (chain:=chain) (n:=l.length) hs l.length (Nat.le_refl _) h24
  have h2:=kV_ (chain:=chain) (n:=l.length) (l:=l) l.length (Nat.le_refl _)
  have h3:=hX_ hc (n:=l.length) hs (fun x hx=>le_ (hn x hx)) l.length (Nat.le_refl _) h24
  rw [List.take_length] at h1 h2 h3
  refine ⟨h3,h1.1,h1.2.1,by have:=h1.2.2;unfold ct_;omega,h2,fun o ho=>hn (o.kind,o.l) ?_⟩
  have:(o.kind,o.l) ∈ (cf_ chain l.length l).os.map (fun o=>(o.kind,o.l)):=List.mem_map.2 ⟨o,ho,rfl⟩
  rwa [h2] at this
theorem Written.item {chain:Int} {l:List IV} (h:Written chain l) {k:Nat} {o:Ob} (ho:(ct_ chain l).os[k]?=some o):l[k]?=some (o.kind,o.l):=by
  have h1:((ct_ chain l).os.map (fun o=>(o.kind,o.l)))[k]?=some (o.kind,o.l):=by rw [List.getElem?_map,ho];rfl
  rwa [h.items] at h1
theorem Written.read {chain:Int} {l:List IV} (h:Written chain l) {k:Nat} {o:Ob} (ho:(ct_ chain l).os[k]?=some o):readP (dM_ chain l) (o.at_:Int)=(o.kind,o.l,0) :=
  read_laid (Sha.ak_ _) h.lo (by have:=h.hi;omega) h.inv k o ho 8 (h.inv.each k o ho).dep
end Pak
namespace Pak
open Go.RowKit Zk Zx
open Sha (N bO_ cO_ dS_ fz_ fy_)
open Go.Proofs.YtgaklngnfecdaaaGreat.Obj (ai_ bV_ aT_ Z_ aN_ be_ zB C_ aR_)
open Oct (vaN rwL rwP rwE rnL rnP rnE be vr tl N_)
open Del (scA opf OP OkO mkV bR_ dG_ aj_ bW_)
theorem add_ (g:Nat) (A:Option Addr) (n c:Nat) (A1:Option Addr) (c1:Nat) (A2:Option Addr) (c2:Nat) (A3:Option Addr) (c3:Nat) (its:List It) (s:Pk) (x:It) (chain:Int) (w0:World) (hw:(sepL (pkL g A n c A1 c1 A2 c2 A3 c3 its s)).holds w0) (hio:Same its s.os) (hits:∀ y ∈ its,OkM w0 (sepL (pkL g A n c A1 c1 A2 c2 A3 c3 its s)).dom y.p) (hsm:∀ y ∈ its,y.p.n≤300) (hp:OkM w0 (sepL (pkL g A n c A1 c1 A2 c2 A3 c3 its s)).dom x.p) (hp3:x.p.n≤300) (hk:1≤x.kind∧x.kind≤4) (hc8:chain≤8) (hbl:s.bs.length≤20000) (hil:its.length≤1000) (hat:∀ o ∈ s.os,o.at_≤s.bs.length):Calls Tryz.prog 57 #[.pointer (some ⟨g,0,none⟩),.agg (itf x).toArray,.agg (bA (aT_ x.kind x.p.l)),.int .i64 chain] w0 fun e w'=>∃ u,e=.returned u∧u=.tuple #[]∧∃ A' n' c' A1' c1' A2' c2' A3' c3',Turned w0 w' (sepL (pkL g A n c A1 c1 A2 c2 A3 c3 its s)) (sepL (pkL g A' n' c' A1' c1' A2' c2' A3' c3' (its++[x]) (dj_ chain s (x.kind,x.p.l)))):=by
  rcases (ha_ s.os chain x.kind x.p.l).1 with ⟨h1,_⟩ | ⟨k,o,h1,ho,_,hd,_⟩
  · exact add0 g A n c A1 c1 A2 c2 A3 c3 its s x chain w0 hw hio hits hsm hp hp3 hk hc8 hbl hil hat h1
  · exact add1 g A n c A1 c1 A2 c2 A3 c3 its s x chain w0 hw hio hits hsm hp hp3 hk hc8 hbl hil hat k o h1 ho hd
theorem names_bad {w0 w':World} {l:List IV} {u:Value} (h:NamesV w0 w' l u) (he:cB_ l≠0):u=.tuple #[.slice none 0 0,.int .i64 (cB_ l)]:=by
  rcases h with ⟨_,h⟩ | ⟨h,_⟩
  · exact h
  · exact absurd h he
theorem names_good {w0 w':World} {l:List IV} {u:Value} (h:NamesV w0 w' l u) (he:cB_ l=0):∃ A c,u=.tuple #[.slice A l.length c,.int .i64 0]∧w'.ownsRow w0.heap.size 41 32 (.slice A l.length c) l.length (l.flatMap idB):=by
  rcases h with ⟨h,_⟩ | ⟨_,h⟩
  · exact absurd he h
  · exact h
structure PKM where
  A:Option Addr
  n:Nat
  c:Nat
  A1:Option Addr
  c1:Nat
  A2:Option Addr
  c2:Nat
  A3:Option Addr
  c3:Nat
def WriteV (w0 w':World) (chain:Int) (l:List IV) (u:Value):Prop:=(wrE chain l≠0∧Like w0 w'∧u=.tuple #[.slice none 0 0,.slice none 0 0,.int .i64 (wrE chain l)]) ∨
  (wrE chain l=0∧∃ A c A2 c2,u=.tuple #[.slice A (dM_ chain l).length c,.slice A2 l.length c2,.int .i64 0]∧Zx.St w0 noM [row 5 1 A (dM_ chain l).length c (bL (dM_ chain l)),row 67 34 A2 l.length c2 ((ct_ chain l).os.flatMap plO)] w')
theorem okM_of {w0 w:World} {ps rs:List Res} (S:Zx.St w0 noM (ps++rs) w) {p:Part} (h:p.ok w0):OkM w (sepL rs).dom p:=by
  refine ⟨S.rd h,fun ad hn hA ⟨r,hr,hd⟩=>?_⟩
  have h1:=bT_ h hn hA
  have h2:=(S.res r (List.mem_append_right _ hr)).2 _ hd
  rcases h2.2 with h3 | h3
  · omega
  · exact h3
theorem same_take {its:List It} {chain:Int} {n k:Nat} (hk:k≤its.length):Same (its.take k) (cf_ chain n ((its.map It.v).take k)).os:=by
  unfold Same
  rw [List.map_take]
  exact (kV_ (chain:=chain) (n:=n) (l:=its.map It.v) k (by simpa using hk)).symm
theorem rs_dig {w:World} {b t:Nat} {l:List UInt8} (h:Blk w b t (bA (Sha.ofL l))):Rs w 1 (some ⟨b,0,none⟩) 32 32 (bL (Sha.ofL l)):=by
  have h1:(bL (Sha.ofL l)).length=32:=by rw [length_bL];exact Sha.ak_ l
  have:=Rs.of_blk (o:=0) (n:=32) h (by show 0+32≤(bL (Sha.ofL l)).toArray.size;rw [List.size_toArray,h1];omega) (by omega)
  rwa [List.drop_zero,show (bA (Sha.ofL l)).toList=bL (Sha.ofL l) from List.toList_toArray ..,List.take_of_length_le (by rw [h1];omega)] at this
theorem take1i {α:Type} {l:List α} {k:Nat} {x : α} (h:l[k]?=some x):l.take (k+1)=l.take k++[x]:=by rw [List.take_add_one,h];rfl
theorem cat1 (A:Option Addr) (n c:Nat) (l:List UInt8):Sha.cat [⟨A,n,c,l⟩]=l:=by simp [Sha.cat]
theorem write0 (A:Option Addr) (n c:Nat) (its:List It) (chain:Int) (w0:World) (hits:Rs w0 2 A n c (its.flatMap itf)) (hok:OkI w0 its) (hsm:∀ x ∈ its,x.p.n≤300) (h24:its.length≤24) (hne:cB_ (its.map It.v)≠0) :
    Calls Tryz.prog 28 #[.slice A n c,.int .i64 chain] w0 fun e w'=>∃ u,e=.returned u∧WriteV w0 w' chain (its.map It.v) u:=by
 refine w_ (env:=[(0,.slice A n c),(1,.int .i64 chain)]) [.slice A n c,.int .i64 chain] Tryz.func28 Z Tryz.ntmps28 Z Z ?_;have hn:=hw_ hits;have hcap:=hits.cap;have hmax:=hits.max;have S0:=St.start w0 noM;refine a_ fun K1 hK1=>b_ (La Z Z (La Z Z (Lan Z Z (hK1 _ _ (a_ fun K2 hK2=>a_ fun K3 hK3=>Rm Z Z (L_y (H_ Z Z) Z (Lm Z Z ?_)))))));refine A_ 16 Z (fun h16=>?_) (fun h16=>?_)
 ·
  refine h_ Z Z Z (h_ Z Z Z (Lp Z Z Z (f_ (hK3 _ _ (U_ Z (a_ fun K4 hK4=>b_ (La Z Z (La Z Z (Lan Z Z (hK4 _ _ (l_ ?_)))))))))));refine ur (cn_ Z Z Z Z ?_);have he:wrE chain (its.map It.v)=2:=by unfold wrE;rw [if_pos (by omega)]
  exact ⟨_,rfl,.inl ⟨by rw [he];decide,S0.like0,by rw [he]⟩⟩
 ·
  refine g_ Z Z (Lm Z Z (g_ Z Z (L_y (aa_ Z Z) Z (Lp Z Z Z (f_ (hK3 _ _ ?_))))));refine m_ Z (fun h19=>?_) (fun h19=>?_)
  ·
   refine a_ fun K5 hK5=>b_ (La Z Z (La Z Z (Lan Z Z (hK5 _ _ (l_ (ur (cn_ Z Z Z Z ?_)))))));have he:wrE chain (its.map It.v)=2:=by unfold wrE;rw [if_pos (by omega)]
   exact ⟨_,rfl,.inl ⟨by rw [he];decide,S0.like0,by rw [he]⟩⟩
  ·
   refine j_ (hK2 _ _ (a_ fun K6 hK6=>a_ fun K7 hK7=>Rm Z Z (L_y (J_ Tryz.underlying48 Z) Z (L_y (aa_ Z Z) Z (f_ (hK7 _ _ ?_))))));refine m_ Z (fun h22=>?_) (fun h22=>?_)
   ·
    omega
   ·
    refine j_ (hK6 _ _ (a_ fun K8 hK8=>Rm Z Z (L_o (o_ Tryz.func54 Z Z (names A n c its w0 (S0.rd hits) (OkI.like hok S0.like0) (fun y hy=>by have:=hsm y hy;omega) (by omega)) Z Z ?_))));rintro e2 w2 ⟨v2,rfl,l2,hN2⟩;refine ⟨_,rfl,?_⟩;have S2:=S0.like l2;obtain rfl:=names_bad hN2 hne;refine Lm Z Z (L_y (n_ Z Z) Z (L_y (n_ Z Z) Z (La Z Z (Lan Z Z (hK8 _ _ (a_ fun K9 hK9=>a_ fun K10 hK10=>Rm Z Z (L_y (V_ Z Z) Z (f_ (hK10 _ _ ?_)))))))));refine m_ Z (fun h29=>?_) (fun h29=>?_)
    ·
     refine a_ fun K11 hK11=>Rm Z Z (La Z Z (La Z Z (Lan Z Z (hK11 _ _ (l_ (ur (cn_ Z Z Z Z ?_)))))));have he:wrE chain (its.map It.v)=cB_ (its.map It.v):=by unfold wrE;rw [if_neg (by omega)]
     exact ⟨_,rfl,.inl ⟨by rw [he];exact hne,S2.like0,by rw [he];rfl⟩⟩
    ·
     exact absurd hne h29
theorem write1 (A:Option Addr) (n c:Nat) (its:List It) (chain:Int) (w0:World) (hits:Rs w0 2 A n c (its.flatMap itf)) (hok:OkI w0 its) (hsm:∀ x ∈ its,x.p.n≤300) (h24:its.length≤24) (hne:cB_ (its.map It.v)=0) :
    Calls Tryz.prog 28 #[.slice A n c,.int .i64 chain] w0 fun e w'=>∃ u,e=.returned u∧WriteV w0 w' chain (its.map It.v) u:=by
 refine w_ (env:=[(0,.slice A n c),(1,.int .i64 chain)]) [.slice A n c,.int .i64 chain] Tryz.func28 Z Tryz.ntmps28 Z Z ?_;have hn:=hw_ hits;have hcap:=hits.cap;have hmax:=hits.max;have hvl:(its.map It.v).length=n:=by rw [List.length_map];exact hn.symm
 obtain ⟨hall,_⟩:=nameE_ok hne;have hs3:∀ y ∈ (its.map It.v),y.2.length≤300:=fun y hy=>by obtain ⟨z,hz,rfl⟩:=List.mem_map.1 hy;have h1:=(hok z hz).lenb;have h2:=hsm z hz;show z.p.l.length≤300;omega
 have hinv:=fun (k:Nat) (hk:k≤n)=>ho_ (chain:=chain) (n:=n) hs3 k (by omega) (by omega);have hlaid:=fun (hc8:chain≤8) (k:Nat) (hk:k≤n)=>hX_ hc8 (n:=n) hs3 (fun y hy=>le_ (hall y hy)) k (by omega) (by omega);have S0:=St.start w0 noM;refine a_ fun K1 hK1=>b_ (La Z Z (La Z Z (Lan Z Z (hK1 _ _ (a_ fun K2 hK2=>a_ fun K3 hK3=>Rm Z Z (L_y (H_ Z Z) Z (Lm Z Z ?_)))))));refine A_ 16 Z (fun h16=>?_) (fun h16=>?_)
 ·
  refine h_ Z Z Z (h_ Z Z Z (Lp Z Z Z (f_ (hK3 _ _ (U_ Z (a_ fun K4 hK4=>b_ (La Z Z (La Z Z (Lan Z Z (hK4 _ _ (l_ ?_)))))))))));refine ur (cn_ Z Z Z Z ?_);have he:wrE chain (its.map It.v)=2:=by unfold wrE;rw [if_pos (by omega)]
  exact ⟨_,rfl,.inl ⟨by rw [he];decide,S0.like0,by rw [he]⟩⟩
 ·
  refine g_ Z Z (Lm Z Z (g_ Z Z (L_y (aa_ Z Z) Z (Lp Z Z Z (f_ (hK3 _ _ ?_))))));refine m_ Z (fun h19=>?_) (fun h19=>?_)
  ·
   refine a_ fun K5 hK5=>b_ (La Z Z (La Z Z (Lan Z Z (hK5 _ _ (l_ (ur (cn_ Z Z Z Z ?_)))))));have he:wrE chain (its.map It.v)=2:=by unfold wrE;rw [if_pos (by omega)]
   exact ⟨_,rfl,.inl ⟨by rw [he];decide,S0.like0,by rw [he]⟩⟩
  ·
   refine j_ (hK2 _ _ (a_ fun K6 hK6=>a_ fun K7 hK7=>Rm Z Z (L_y (J_ Tryz.underlying48 Z) Z (L_y (aa_ Z Z) Z (f_ (hK7 _ _ ?_))))));refine m_ Z (fun h22=>?_) (fun h22=>?_)
   ·
    omega
   ·
    refine j_ (hK6 _ _ (a_ fun K8 hK8=>Rm Z Z (L_o (o_ Tryz.func54 Z Z (names A n c its w0 (S0.rd hits) (OkI.like hok S0.like0) (fun y hy=>by have:=hsm y hy;omega) (by omega)) Z Z ?_))));rintro e2 w2 ⟨v2,rfl,l2,hN2⟩;refine ⟨_,rfl,?_⟩;have S2:=S0.like l2;obtain ⟨A7,c7,rfl,O7⟩:=names_good hN2 hne;have S3:=S0.adopt l2 O7;refine Lm Z Z (L_y (n_ Z Z) Z (L_y (n_ Z Z) Z (La Z Z (Lan Z Z (hK8 _ _ (a_ fun K9 hK9=>a_ fun K10 hK10=>Rm Z Z (L_y (V_ Z Z) Z (f_ (hK10 _ _ ?_)))))))));refine m_ Z (fun h29=>?_) (fun h29=>?_)
    ·
     exact absurd Z h29
    ·
     refine j_ (hK9 _ _ (a_ fun K11 hK11=>b_ (L_y (y_ Z (show _=some #[Value.slice none 0 0,.slice none 0 0,.slice none 0 0,.slice none 0 0] by kernel_rfl)) Z (L_o (bB_ Z S3 Z fun b4 w4 hb4 S4=>have S5:=(((S4.nilrow 65 2).nilrow 67 34).nilrow 3 1).nilrow 5 1;have S5a:=S5.sel [0,2,3,4,1,5] (by decide);have S5b:Zx.St w0 noM [row 41 32 A7 (its.map It.v).length c7 ((its.map It.v).flatMap idB),row 65 2 none 0 0 [],row 67 34 none 0 0 [],row 3 1 none 0 0 [],wu (.slice none 0 0) (.slice none 0 0) (.slice none 0 0) b4 none 0 0 []] w4:=St.joinL (ps:=[_,_,_,_]) S5a;Lan Z Z (hK11 _ _ (a_ fun K12 hK12=>b_ ?_)))))));refine Lm Z Z (L_y (x_ Z) Z (L_y (d_ 0 Tryz.underlying113 Z dL_ Z Z Z) Z (L_o (aY_ [_,_,_,_] bA_ zz5 S5b Z Z Z Z Z Z Z Z fun b6 w6 S6=>L_o (o_bconst S6 5 Z Tryz.underlying22 Tryz.underlying5 Z (by omega) Z fun w7 S7=>L_o (o_ Tryz.func55 Z Z (wrawW b4 none 0 0 ([]) _ _ _ [80,65,67,75] w7 (S7.get 4 Z) (S7.fix 5 Z) (by simp only [List.length_append,List.length_cons,List.length_nil,N_];omega)) Z Z ?_))))));rintro e8 w8 ⟨v8,rfl,A8,n8,c8,T8⟩;refine ⟨_,rfl,(have S8:=S7.turn 4 Z T8;f_ (hK12 _ _ (a_ fun K13 hK13=>Rm Z Z (L_y (x_ Z) Z (L_y (d_ 0 Tryz.underlying113 Z dL_ Z Z Z) Z (L_o (o_ Tryz.func56 Z Z (wu32W b4 A8 n8 c8 ([]++[80,65,67,75]) 1 w8 (S8.get 4 Z) (by omega) (by simp only [List.length_append,List.length_cons,List.length_nil,N_];omega)) Z Z ?_)))))))⟩;rintro e9 w9 ⟨v9,rfl,A9,n9,c9,T9⟩;refine ⟨_,rfl,(have S9:=S8.turn 4 Z T9;f_ (hK13 _ _ (a_ fun K14 hK14=>Rm Z Z (L_y (x_ Z) Z (L_y (d_ 0 Tryz.underlying113 Z dL_ Z Z Z) Z (Lm Z Z (L_y (J_ Tryz.underlying48 Z) Z (L_y (O_ is3 Tryz.underlying63 Z (u32w (by omega))) Z (L_o (o_ Tryz.func56 Z Z (wu32W b4 A9 n9 c9 ([]++[80,65,67,75]++tl 1 4) n w9 (S9.get 4 Z) (by omega) (by simp only [List.length_append,List.length_cons,List.length_nil,N_];omega)) Z Z ?_))))))))))⟩;rintro e10 w10 ⟨v10,rfl,A10,n10,c10,T10⟩;refine ⟨_,rfl,(have S10:=S9.turn 4 Z T10;f_ (hK14 _ _ (a_ fun K15 hK15=>a_ fun K16 hK16=>Rm Z Z (L_y (J_ Tryz.underlying48 Z) Z (Lm Z Z (f_ (hK16 _ _ (u_ ?_))))))))⟩;refine bN_ [(1,_),(7,_),(9,_),(50,_),(51,_)] (fun (k:Nat) (m:PKM)=>[(52,.int .i64 (k:Int))]) (fun (k:Nat) (m:PKM)=>n - k) (fun (k:Nat) (m:PKM) (w:World)=>k≤n∧Zx.St w0 noM ([row 41 32 A7 (its.map It.v).length c7 ((its.map It.v).flatMap idB)]++pkL b4 m.A m.n m.c m.A1 m.c1 m.A2 m.c2 m.A3 m.c3 (its.take k) (cf_ chain n ((its.map It.v).take k))) w) 0 ⟨A10,n10,c10,none,0,none,0,none,0⟩ (Sc Z (Sub.nil _)) (Sub.cons Z Z (Sub.cons Z Z (Sub.cons Z Z (Sub.cons Z Z (Sub.cons Z Z (Sub.nil _)))))) ?_ ?_
     ·
      have S11:=S10.sel [0,1,2,3,4] (by decide);have S70:Zx.St w0 noM ([row 41 32 A7 (its.map It.v).length c7 ((its.map It.v).flatMap idB)]++pkL b4 A10 n10 c10 none 0 none 0 none 0 (its.take 0) (cf_ chain n ((its.map It.v).take 0))) w10:=S11.cast (by rw [List.take_zero,List.take_zero];first | rfl | simp [pkL,cf_,jM_]);exact ⟨by omega,S70⟩
     ·
      intro k m w12 hrel;obtain ⟨hk,S12⟩:=hrel;refine a_ fun K17 hK17=>b_ (L_y (H_ Z Z) Z (f_ (hK17 _ _ (a_ fun K18 hK18=>?_))));refine m_ Z (fun h53=>?_) (fun h53=>?_)
      ·
       obtain ⟨x,hx⟩:∃ x,its[k]?=some x:=⟨_,List.getElem?_eq_getElem (by omega)⟩;have hxo:=hok x (List.mem_of_getElem? hx);have hxs:=hsm x (List.mem_of_getElem? hx);have hkd:=le_ (hall _ (List.mem_of_getElem? (gZ_ hx)));obtain ⟨i1,i2,i3⟩:=hinv k (by omega);obtain ⟨j1,j2,j3⟩:=hinv (k+1) (by omega);have hla:=hlaid (by omega) k (by omega);refine j_ (hK18 _ _ (a_ fun K19 hK19=>u_ (a_ fun K20 hK20=>Rm Z Z (L_y (ab_ Tryz.underlying48 sz65 Z Z (S12.rd hits) inferInstance (by omega)) Z (L_y (cQ_ (f:=itf) hx_ Tryz.underlying65 Z sz65 Z (S12.rd hits) (by omega) hx) Z (L_o (E_ zz65 S12 Z fun b13 w13 hb13 S13=>La Z Z (L_o (B_ S13 5 Z Z Z sz65 (by rfl) (fun u hu=>iM_ x u (by rw [List.toList_toArray] at hu;exact hu)) fun w14 S14=>?_)))))))));refine f_ (hK20 _ _ (a_ fun K21 hK21=>fv_ 7 aJ_ (by kernel_rfl) fun w15 l15 K22 hK22=>have S15:=S14.like l15;ae_ (r_ Z) Z (ae_ (W_ Tryz.underlying65 Z sz65 Z (S15.blk 5 Z) (show _=itf x∧_ from ⟨rfl,rfl⟩)) Z (ae_ (r_ Z) Z (ae_ (r_ Z) Z (ae_ (ab_ Tryz.underlying81 af_ Z Z (S15.row 0 Z) inferInstance (by omega)) Z (ae_ (cQ_ (f:=idB) iO_ Tryz.underlying41 Z af_ Z (S15.row 0 Z) (by omega) (gZ_ hx)) Z (ae_ (r_ Z) Z (fC_ (hK22 _ ?_))))))))));have Sq16:Zx.St w0 noM ([_,_]++pkL b4 m.A m.n m.c m.A1 m.c1 m.A2 m.c2 m.A3 m.c3 (its.take k) (cf_ chain n ((its.map It.v).take k))) w15:=S15.sel [0,5,1,2,3,4] (by decide);refine L_o (o_ Tryz.func57 Z Z (add_ b4 m.A m.n m.c m.A1 m.c1 m.A2 m.c2 m.A3 m.c3 (its.take k) (cf_ chain n ((its.map It.v).take k)) x chain w15 (St.getL (ps:=[_,_]) Sq16) (same_take (by omega)) (fun y hy=>okM_of (ps:=[_,_]) Sq16 (hok y (List.mem_of_mem_take hy))) (fun y hy=>hsm y (List.mem_of_mem_take hy)) (okM_of (ps:=[_,_]) Sq16 hxo) hxs hkd (by omega) (by omega) (by rw [List.length_take];omega) (fun y hy=>by obtain ⟨j,hj⟩:=List.mem_iff_getElem?.1 hy;exact Nat.le_of_lt (hla.each j y hj).lt)) Z Z ?_);rintro e16 w16 ⟨v16,rfl,rfl,A16,n16,c16,AA16,ca16,AB16,cb16,AC16,cc16,T16⟩;refine ⟨_,rfl,?_⟩;have S16:=St.turnL (ps:=[_,_]) Sq16 T16;have hnk:=eu_ (S16.get 5 Z);rw [← dX_ (n:=n) (gZ_ hx)] at hnk;refine f_ (hK21 _ _ (a_ fun K23 hK23=>Rm Z Z (L_y (x_ Z) Z (L_y (d_ 0 Tryz.underlying113 Z dL_ Z Z Z) Z (L_o (o_ Tryz.func58 Z Z (wlenW b4 _ _ _ _ w16 (S16.get 5 Z)) Z Z ?_))))));rintro e17 w17 ⟨v17,rfl,l17,rfl⟩;refine ⟨_,rfl,(have S17:=S16.like l17;L_y (aa_ Z Z) Z (f_ (hK23 _ _ ?_)))⟩;refine m_ Z (fun h69=>?_) (fun h69=>?_)
       ·
        omega
       ·
        refine j_ (hK19 _ _ (b_ (L_y (v_ Z Z (z_ (by omega))) Z (Lm Z Z (f_ ?_)))));have S91:Zx.St w0 noM ([row 41 32 A7 (its.map It.v).length c7 ((its.map It.v).flatMap idB)]++pkL b4 _ _ _ _ _ _ _ _ _ (its.take k++[x]) (dj_ chain (cf_ chain n ((its.map It.v).take k)) (x.kind,x.p.l))) w17:=S17.sel [0,2,3,4,5] (by decide);rw [← dX_ (n:=n) (gZ_ hx), ← take1i hx] at S91;refine ⟨k+1,⟨_,_,_,_,_,_,_,_,_⟩,by omega,⟨by omega,S91⟩,?_⟩;exact (Sc Z (Sub.cons Z Z (Sub.cons Z Z (Sub.cons Z Z (Sub.cons Z Z (Sub.cons Z Z (Sub.nil _)))))))
      ·
       have hW:Written chain (its.map It.v):=written (by omega) (by omega) hs3 hall;have hke:k=n:=by omega
       subst hke;rw [List.take_of_length_le (l:=its) (by omega),List.take_of_length_le (l:=(its.map It.v)) (by omega)] at S12;subst hvl;have hnb:(ct_ chain (its.map It.v)).bs.length=m.n:=eu_ (S12.get 4 Z);have hWl:=hW.hi;refine P_ (hK15 _ _ (a_ fun K24 hK24=>Rm Z Z (L_y (x_ Z) Z (L_y (d_ 0 Tryz.underlying113 Z dL_ Z Z Z) Z (L_o (o_ Tryz.func59 Z Z (wbytesW b4 _ _ _ _ w12 (S12.get 4 Z) (Nat.le_trans hWl (by decide))) Z Z ?_))))));rintro e18 w18 ⟨v18,rfl,l18,A18,m18,c18,rfl,O18⟩;refine ⟨_,rfl,(have S18:=S12.adopt l18 O18;have hm18:(ct_ chain (its.map It.v)).bs.length=m18:=(S18.row 5 Z).lenb;Lan Z Z (hK24 _ _ (a_ fun K25 hK25=>Rm Z Z (L_o (aY_ [_] ip_ zz22 S18 Z Z Z Z Z Z Z Z fun b19 w19 S19=>L_o (o_ Tryz.func50 Z Z (Sha.shaof [⟨_,_,_,(ct_ chain (its.map It.v)).bs⟩] _ _ _ w19 (S19.row 6 Z) (fun p hp=>by obtain rfl:=List.mem_singleton.1 hp;exact S19.row 5 Z) (by rw [cat1];omega) (by simp)) Z Z ?_))))))⟩;rintro e20 w20 ⟨v20,rfl,l20,hu20⟩;refine ⟨_,rfl,?_⟩;have S20:=S19.like l20;rw [cat1] at hu20;subst hu20;refine L_o (E_ dm_ S20 Z fun b21 w21 hb21 S21=>have S22:=S21.blkc 7 Z (cs':=bA zB) (by kernel_rfl);L_o (B_ S22 7 Z Z Z (by first | exact af_ | (rw [size_bA,Sha.ak_];exact af_)) (by first | rfl | (rw [size_bA,size_bA,Sha.ak_];rfl)) (Sha.cw_ _) fun w23 S23=>?_));refine f_ (hK25 _ _ (a_ fun K26 hK26=>T_drawn (fun w=>Blk w b4 113 #[.slice m.A m.n m.c,.slice m.A1 its.length m.c1,.slice m.A2 (ct_ chain (its.map It.v)).os.length m.c2,.slice m.A3 (ct_ chain (its.map It.v)).os.length m.c3]) [(0,true),(1,true),(3,true),(4,true),(5,true),(6,true),(2,false),(7,true),(8,true),(9,true)] aJ_ (by kernel_rfl) (fun w l=>((S23.like l).get 4 Z).1) fun w24 l24=>have S24:=S23.like l24;t_ Z (r_ Z) Z (t_ Z (gV_ Tryz.underlying41 sz5 Z) Z (t_ Z (r_ Z) Z (t_ Z (x_ Z) Z (t_ Z (d_ 2 Tryz.underlying113 Z sz50 Z Z Z) Z (t_ Z (y_ldS Tryz.underlying50 Z Z (fun w h=>(h.cell _).trans (by rfl))) Z ?_)))))));refine dB_ Z (aL_ bA_ S24 5 Z Z Z (rs_dig (S24.blk 7 Z)) (T_ _) Z (by omega) (by omega) fun A25 c25 w25 S25=>⟨(S25.get 4 Z).1,(t_ Z (I_ Z) Z (t_ Z (I_ Z) Z (t_ Z (I_ Z) Z (av_ (hK26 _ _ (l_ (ur (cn_ Z Z Z Z ?_))))))))⟩);have he:wrE chain (its.map It.v)=0:=by unfold wrE;rw [if_neg (by omega),hne]
       have S90:=S25.sel [5,2] (by decide);have hpl:(dM_ chain (its.map It.v)).length=(ct_ chain (its.map It.v)).bs.length+32:=by unfold dM_;rw [List.length_append,Sha.ak_]
       have S91:=S90.rowc 0 Z (n':=(dM_ chain (its.map It.v)).length) (xs':=bL (dM_ chain (its.map It.v))) (by rw [hpl];omega) (by unfold dM_;unfold bL;rw [List.map_append];rfl);have S92:=S91.rowc 1 Z (n':=(its.map It.v).length) (xs':=(ct_ chain (its.map It.v)).os.flatMap plO) hW.cnt Z;refine ⟨_,rfl,.inr ⟨he,_,_,_,_,?_,S92⟩⟩;rw [hpl,hm18,hW.cnt];rfl
end Pak
namespace Pak
open Go.RowKit Zk Zx
open Sha (N bO_ cO_ dS_ fz_ fy_)
open Go.Proofs.YtgaklngnfecdaaaGreat.Obj (ai_ bV_ aT_ Z_ aN_ be_ zB C_ aR_)
open Oct (vaN rwL rwP rwE rnL rnP rnE be vr tl N_)
open Del (scA opf OP OkO mkV bR_ dG_ aj_ bW_)
open Oct (rdr dF_ co_)
def enA (x:EV) (q:Part):Array Value := #[.int .i64 x.kind,.int .i64 x.base,.int .i64 (x.fin:Int),.int .u32 (N x.sum),pv q]
theorem ax_ (x:EV) (q:Part):∀ u ∈ (enA x q).toList,u.oneCell'=true:=fun u hu=>by
  simp [enA,pv] at hu
  rcases hu with rfl | rfl | rfl | rfl | rfl <;> rfl
def zA:Array Value := #[.int .i64 0,.int .i64 0,.int .i64 0,.int .u32 0,.slice none 0 0]
def dQ_ (w0 w:World) (q:Part):Prop:=q.ok w∧∀ ad,0 < q.n→q.A=some ad→w0.heap.size≤ad.block
theorem fresh0 (w0 w:World):dQ_ w0 w p0:=⟨bF_ (World.ownsRow_nil w 0 5 1),fun ad h=>by cases h⟩
def EntryV (w0 w':World) (r:Int × EV) (u:Value):Prop:=∃ q:Part,u=.tuple #[.agg (enA r.2 q),.int .i64 r.1]∧q.l=r.2.load∧dQ_ w0 w' q
theorem blkM {w0 w:World} {M:Nat→Prop} {rs:List Res} (S:Zx.St w0 M rs w) {g t:Nat} {cs:Array Value} (h:Blk w0 g t cs) (hM:¬ M g):Blk w g t cs:=(S.old g h.lt hM).trans h
theorem addN {a b:Nat} (h:a+b≤1000000000):IntKind.i64.wrap ((a:Int)+(b:Int))=((a+b:Nat):Int):=by
  exact (z_ (by omega):IntKind.i64.wrap ((a:Int)+(b:Int))=(a:Int)+(b:Int))
theorem jm_ (l:List UInt8) (p q:Nat) (m:Int) (hp:p≤l.length):rnP l p q m≤l.length:=by
  unfold rnP Oct.rwP
  split
  · exact hp
  · split
    · exact Oct.tkP_le l p _ hp
    · exact hp
theorem rwP_le (l:List UInt8) (p q k:Nat) (hp:p≤l.length):rwP l p q k≤l.length:=by
  unfold Oct.rwP
  split
  · exact Oct.tkP_le l p _ hp
  · exact hp
theorem rbyte1 (g:Nat) (A:Option Addr) (n c:Nat) (l:List UInt8) (p:Nat) (x:UInt8) (w0:World) (hw:(rdr g A n c l p 0).holds w0) (hx:l[p]?=some x) (hn62:n≤4611686018427387904) :
    Calls Tryz.prog 127 #[.pointer (some ⟨g,0,none⟩)] w0 fun e w'=>∃ u,e=.returned u∧u=.int .u8 (x.toNat:Int)∧Turned w0 w' (rdr g A n c l p 0) (rdr g A n c l (p+1) 0):=by
  have hp:=(List.getElem?_eq_some_iff.1 hx).1
  refine (Oct.rbyte g A n c l p 0 w0 hw (by omega) hn62).mono fun e w' ⟨u,h1,h2,h3⟩=>⟨u,h1,?_,?_⟩
  · obtain ⟨y,hy,htk,_⟩:=Oct.hO_ (show 1≤l.length - p by omega)
    rw [hx] at hy
    obtain rfl:=Option.some.inj hy
    rw [h2,Oct.rwL,if_pos Z,htk]
    simp [be]
  · exact Oct.Rdd.turned h3 (by rw [Oct.rwP,if_pos Z,Oct.tkP,if_pos (by omega)]) (by rw [Oct.rwE,if_pos Z,Oct.fM_ (by omega)])
theorem crcN {p:Part} {v:Nat} (h:N (crcP [p])≠(v:Int)):(bn_ p.l).toNat≠v:=fun q=>h (by show ((bn_ p.l).toNat:Int)=_;rw [q])
theorem crcE {p:Part} {v:Nat} (h:¬ N (crcP [p])≠(v:Int)):(bn_ p.l).toNat=v:=by
  have h1:=Classical.not_not.1 h
  have h2:((bn_ p.l).toNat:Int)=(v:Int):=h1
  omega
theorem at9 (g:Nat) (A:Option Addr) (n c:Nat) (l:List UInt8) (p q:Nat) (w0:World) (hw:(rdr g A n c l p q).holds w0) :
    Calls Tryz.prog 130 #[.pointer (some ⟨g,0,none⟩)] w0 fun e w'=>∃ u,e=.returned u∧Like w0 w'∧u=.int .i64 (p:Int):=by
 refine w_ (env:=[(0,.pointer (some ⟨g,0,none⟩))]) [.pointer (some ⟨g,0,none⟩)] Tryz.func130 Z Tryz.ntmps130 Z Z ?_;have S0:=St.start w0 noM;refine a_ fun K1 hK1=>b_ (Lan Z Z (hK1 _ _ (a_ fun K2 hK2=>a_ fun K3 hK3=>Rm Z Z (L_y (fa_ Tryz.underlying172 Z) Z (f_ (hK3 _ _ (aI_ Z (j_ ?_))))))));refine hK2 _ _ (a_ fun K4 hK4=>Rm Z Z (L_y (x_ Z) Z (L_y (d_ 1 Tryz.underlying218 Z sz3 Z Z Z) Z (L_y (p_ Tryz.underlying3 Z Z ((hw.1.cell _).trans (by rfl))) Z ?_))));refine Lan Z Z (hK4 _ _ (l_ (ur (G_ Z Z ?_))));exact ⟨_,rfl,S0.like0,rfl⟩
theorem entry (gc g:Nat) (A:Option Addr) (n c:Nat) (t:List UInt8) (at_:Nat) (deep:Bool) (x:UInt8) (w0:World) (hw:(rdr g A n c t 0 0).holds w0) (hcur:Blk w0 gc 175 #[.pointer (some ⟨g,0,none⟩),.int .i64 (at_:Int)]) (hcg:¬ (rdr g A n c t 0 0).dom gc) (hx:t[0]?=some x) (hn5:n≤100000) (hat:at_≤1000000) :
    Calls Tryz.prog 97 #[.pointer (some ⟨gc,0,none⟩),.bool deep] w0 fun e w'=>∃ u,e=.returned u∧∃ p' q',Turned w0 w' (rdr g A n c t 0 0) (rdr g A n c t p' q')∧EntryV w0 w' (opT t x at_ deep) u:=by
 refine w_ (env:=[(0,.pointer (some ⟨gc,0,none⟩)),(1,.bool deep)]) [.pointer (some ⟨gc,0,none⟩),.bool deep] Tryz.func97 Z Tryz.ntmps97 Z Z ?_;have hx9:=x.toNat_lt;have htl:=(List.getElem?_eq_some_iff.1 hx).1;have hnl:=co_ hw;have S0:=St.borrow1 (rdr g A n c t 0 0) hw (dF_ hw);refine a_ fun K1 hK1=>b_ (L_o (E_ zz127 S0 Z fun b1 w1 hb1 S1=>Lan Z Z (hK1 _ _ (a_ fun K2 hK2=>Rm Z Z (L_y (x_ Z) Z (L_y (d_ 0 Tryz.underlying175 Z fN_ Z Z Z) Z (L_y (p_ Tryz.underlying172 Z Z (((blkM S1 hcur hcg).cell _).trans (by rfl))) Z ?_)))))));refine L_o (o_ Tryz.func127 Z Z (rbyte1 g A n c t 0 x w1 (S1.get 0 Z) hx (by omega)) Z Z ?_);rintro e2 w2 ⟨v2,rfl,rfl,T2⟩;refine ⟨_,rfl,(have S2:=S1.turn 0 Z T2;L_y (O_ is5 Tryz.underlying3 Z (z_ (by omega))) Z (L_y (y_ Z (show _=some #[.int .i64 (x.toNat:Int),.int .i64 0,.int .i64 0,.int .u32 0,.slice none 0 0] by kernel_rfl)) Z (L_o (E_ zz127 S2 Z fun b3 w3 hb3 S3=>L_o (B_ S3 2 Z Z Z bs_ (by rfl) (by intro u hu;first | (simp [zA] at hu;rcases hu with rfl | rfl | rfl | rfl | rfl <;> rfl) | (simp at hu;rcases hu with rfl | rfl | rfl | rfl | rfl <;> rfl) | exact ax_ _ _ u hu) fun w4 S4=>?_)))))⟩;refine f_ (hK2 _ _ (a_ fun K3 hK3=>a_ fun K4 hK4=>Rm Z Z (L_y (x_ Z) Z (L_y (d_ 0 Tryz.underlying175 Z fN_ Z Z Z) Z (L_y (p_ Tryz.underlying172 Z Z (((blkM S4 hcur hcg).cell _).trans (by rfl))) Z ?_)))));refine L_o (o_ Tryz.func128 Z Z (Oct.rerr g A n c t (1) (0)  w4 (S4.get 0 Z) (by omega)) Z Z ?_);rintro e5 w5 ⟨v5,rfl,l5,rfl⟩;refine ⟨_,rfl,(have S5:=S4.like l5;Lan Z Z (hK4 _ _ (a_ fun K5 hK5=>Rm Z Z (L_y (V_ Z Z) Z (f_ (hK5 _ _ ?_))))))⟩;refine m_ Z (fun h23=>?_) (fun h23=>?_)
 ·
  exact absurd Z h23
 ·
  refine j_ (hK3 _ _ (a_ fun K6 hK6=>a_ fun K7 hK7=>b_ (L_y (d_ 0 Tryz.underlying127 Z sz3 Z Z Z) Z (L_y (p_ Tryz.underlying3 Z Z (((S5.blk 2 Z).cell _).trans (by rfl))) Z ?_))));refine L_y (H_ Z Z) Z (Lm Z Z ?_);refine A_ 29 Z (fun h29=>?_) (fun h29=>?_)
  ·
   refine h_ Z Z Z (h_ Z Z Z (h_ Z Z Z (Lp Z Z Z (f_ (hK7 _ _ (U_ Z (a_ fun K8 hK8=>b_ (L_y (y_ Z (show _=some zA by kernel_rfl)) Z (L_o (B_ S5 1 Z Z Z bs_ (by rfl) (by intro u hu;first | (simp [zA] at hu;rcases hu with rfl | rfl | rfl | rfl | rfl <;> rfl) | (simp at hu;rcases hu with rfl | rfl | rfl | rfl | rfl <;> rfl) | exact ax_ _ _ u hu) fun w7 S7=>?_))))))))));refine Lan Z Z (hK8 _ _ (l_ (ur (X_ Z Z Z (S7.blk 1 Z) Tryz.underlying127 Z (by exact bs_) ?_))));have he:opT t x at_ deep=(19,zE):=hZ_ (by omega);exact ⟨_,rfl,_,_,S7.turned1 0 Z,p0,by rw [he];rfl,by rw [he];rfl,fresh0 _ _⟩
  ·
   refine g_ Z Z (L_y (d_ 0 Tryz.underlying127 Z sz3 Z Z Z) Z (g_ Z Z (L_y (p_ Tryz.underlying3 Z Z (((S5.blk 2 Z).cell _).trans (by rfl))) Z ?_)));refine g_ Z Z (L_y (aa_ Z Z) Z (Lp Z Z Z (f_ (hK7 _ _ ?_))));refine m_ Z (fun h33=>?_) (fun h33=>?_)
   ·
    refine a_ fun K9 hK9=>b_ (L_y (y_ Z (show _=some zA by kernel_rfl)) Z (L_o (B_ S5 1 Z Z Z bs_ (by rfl) (by intro u hu;first | (simp [zA] at hu;rcases hu with rfl | rfl | rfl | rfl | rfl <;> rfl) | (simp at hu;rcases hu with rfl | rfl | rfl | rfl | rfl <;> rfl) | exact ax_ _ _ u hu) fun w8 S8=>?_)));refine Lan Z Z (hK9 _ _ (l_ (ur (X_ Z Z Z (S8.blk 1 Z) Tryz.underlying127 Z (by exact bs_) ?_))));have he:opT t x at_ deep=(19,zE):=hZ_ (by omega);exact ⟨_,rfl,_,_,S8.turned1 0 Z,p0,by rw [he];rfl,by rw [he];rfl,fresh0 _ _⟩
   ·
    refine j_ (hK6 _ _ (a_ fun K10 hK10=>Rm Z Z (L_y (x_ Z) Z (L_y (d_ 0 Tryz.underlying175 Z fN_ Z Z Z) Z (L_y (p_ Tryz.underlying172 Z Z (((blkM S5 hcur hcg).cell _).trans (by rfl))) Z ?_)))));refine L_o (o_ Tryz.func129 Z Z (Oct.rvar g A n c t (1) (0)  4000 w5 (S5.get 0 Z) (by omega) (by omega)) Z Z ?_);rintro e9 w9 ⟨v9,rfl,rfl,T9⟩;refine ⟨_,rfl,(have S9:=S5.turn 0 Z T9;have hv1:=dJ_ t 1 0 4000;have hp1:(vaN t 1 0 4000).2.1≤t.length:=Oct.bP_ t 1 0 4000 (by omega);L_y (O_ cl_ Tryz.underlying3 Z (z_ (by omega))) Z (Lan Z Z (hK10 _ _ ?_)))⟩;refine T_seqR (fun (e:Env) (w:World)=>∃ (base:Int) (p:Nat) (q:Nat),Sub [(0,.pointer (some ⟨gc,0,none⟩)),(4,.pointer (some ⟨b1,0,none⟩)),(6,.pointer (some ⟨b3,0,none⟩)),(8,.int .i64 ((vaN t 1 0 4000).1:Int))] e∧(opT t x at_ deep=opR t at_ (x.toNat:Int) base (vaN t 1 0 4000).1 p q∧p≤t.length)∧Zx.St w0 (rdr g A n c t 0 0).dom [rdr g A n c t p q,blk b1 127 zA,blk b3 127 #[.int .i64 (x.toNat:Int),.int .i64 base,.int .i64 0,.int .u32 0,.slice none 0 0]] w) ?_ ?_
    ·
     refine a_ fun K12 hK12=>b_ (L_y (d_ 0 Tryz.underlying127 Z sz3 Z Z Z) Z (L_y (p_ Tryz.underlying3 Z Z (((S9.blk 2 Z).cell _).trans (by rfl))) Z ?_));refine L_y (ah_ Z Z) Z (f_ (hK12 _ _ ?_));refine m_ Z (fun h43=>?_) (fun h43=>?_)
     ·
      refine a_ fun K13 hK13=>dP_ [0,1,2,3,4,5,6,7,8,9,10,11] 12 [(0,1),(1,1),(2,1),(3,1),(4,1),(5,1),(6,1),(7,1),(8,2),(9,1),(10,1),(11,1),(12,3)] aJ_ (by kernel_rfl) fun w10 l10=>have S10:=S9.like l10;gx_ (fun w=>Blk w gc 175 #[.pointer (some ⟨g,0,none⟩),.int .i64 (at_:Int)]) (blkM S10 hcur hcg) (S_ Z (r_ Z) Z (S_ Z (x_ Z) Z (S_ Z (d_ 1 Tryz.underlying175 Z sz3 Z Z Z) Z (S_ Z (y_of fun w hw=>p_ Tryz.underlying3 Z Z ((hw.cell _).trans (by rfl))) Z ?_))));refine S_ Z (r_ Z) Z (S_ Z (x_ Z) Z (S_ Z (d_ 0 Tryz.underlying175 Z fN_ Z Z Z) Z (S_ Z (y_of fun w hw=>p_ Tryz.underlying172 Z Z ((hw.cell _).trans (by rfl))) Z ?_)));refine ga_ Z (o_ Tryz.func129 Z Z (Oct.rvar g A n c t ((vaN t 1 0 4000).2.1) ((vaN t 1 0 4000).2.2)  1048576 w10 (S10.get 0 Z) hp1 (by omega)) Z Z ?_);rintro e11 w11 ⟨v11,rfl,rfl,T11⟩;refine ⟨_,rfl,(have S11:=S10.turn 0 Z T11;have hv2:=dJ_ t (vaN t 1 0 4000).2.1 (vaN t 1 0 4000).2.2 1048576;have hp2:(vaN t (vaN t 1 0 4000).2.1 (vaN t 1 0 4000).2.2 1048576).2.1≤t.length:=Oct.bP_ t _ _ 1048576 hp1;⟨(blkM S11 hcur hcg),(S_ Z (O_ cl_ Tryz.underlying3 Z (z_ (by omega))) Z (S_ Z (am_ Z Z (z_ (by omega))) Z (S_ Z (d_ 1 Tryz.underlying127 Z sz3 Z Z Z) Z (gw_ Z (Y_ S11 2 Z Z Z Z sz3 (by simp;done) fun w12 S12=>?_)))))⟩)⟩;refine cH_ (hK13 _ _ (a_ fun K14 hK14=>a_ fun K15 hK15=>ad_ [(0,true),(1,true),(2,true),(3,true),(4,false),(5,true),(6,true),(7,true),(8,true),(9,true),(10,true),(11,true),(12,true),(13,true),(14,true),(15,true),(16,true),(17,true),(18,true),(19,true)] aJ_ (by kernel_rfl) fun w13 l13=>have S13:=S12.like l13;t_ Z (r_ Z) Z (t_ Z (x_ Z) Z (t_ Z (d_ 0 Tryz.underlying175 Z fN_ Z Z Z) Z (t_ Z (p_ Tryz.underlying172 Z Z (((blkM S13 hcur hcg).cell _).trans (by rfl))) Z ?_)))));refine dB_ Z (o_ Tryz.func128 Z Z (Oct.rerr g A n c t ((vaN t (vaN t 1 0 4000).2.1 (vaN t 1 0 4000).2.2 1048576).2.1) ((vaN t (vaN t 1 0 4000).2.1 (vaN t 1 0 4000).2.2 1048576).2.2)  w13 (S13.get 0 Z) (by omega)) Z Z ?_);rintro e14 w14 ⟨v14,rfl,l14,rfl⟩;refine ⟨_,rfl,l14,(have S14:=S13.like l14;have q14:=l14;t_ Z (ah_ Z Z) Z (t_ Z (r_ Z) Z ?_))⟩;refine gd_ 62 Z (fun h62=>?_) (fun h62=>?_)
      ·
       refine al_ Z Z Z (d_ 1 Tryz.underlying127 Z sz3 Z Z Z) Z (al_ Z Z Z (p_ Tryz.underlying3 Z Z (((S13.blk 2 Z).cell _).trans (by rfl))) Z ?_);refine al_ Z Z Z (r_ Z) Z (al_ Z Z Z (x_ Z) Z (al_ Z Z Z (d_ 1 Tryz.underlying175 Z sz3 Z Z Z) Z (al_ Z Z Z (p_ Tryz.underlying3 Z Z (((blkM S13 hcur hcg).cell _).trans (by rfl))) Z ?_)));refine al_ Z Z Z (cF_ Z Z) Z (al_ Z Z Z (r_ Z) Z ?_);refine gd_ 70 Z (fun h70=>?_) (fun h70=>?_)
       ·
        refine cI_ Z Z Z Z (cI_ Z Z Z Z (cI_ Z Z Z Z (al_ Z Z Z (y_pk Z Z) Z (t_ Z (y_pk Z Z) Z (av_ (hK15 _ _ (U_ Z (a_ fun K16 hK16=>b_ (L_y (y_ Z (show _=some zA by kernel_rfl)) Z (L_o (B_ S14 1 Z Z Z bs_ (by rfl) (by intro u hu;first | (simp [zA] at hu;rcases hu with rfl | rfl | rfl | rfl | rfl <;> rfl) | (simp at hu;rcases hu with rfl | rfl | rfl | rfl | rfl <;> rfl) | exact ax_ _ _ u hu) fun w15 S15=>?_)))))))))));refine Lan Z Z (hK16 _ _ (l_ (ur (X_ Z Z Z (S15.blk 1 Z) Tryz.underlying127 Z (by exact bs_) ?_))));have he:opT t x at_ deep=(21,zE):=(db_ (by omega)).trans (ia_ (by omega) (by omega));exact ⟨_,rfl,_,_,S15.turned1 0 Z,p0,by rw [he];rfl,by rw [he];rfl,fresh0 _ _⟩
       ·
        refine al_ Z Z Z (d_ 1 Tryz.underlying127 Z sz3 Z Z Z) Z (al_ Z Z Z (p_ Tryz.underlying3 Z Z (((S13.blk 2 Z).cell _).trans (by rfl))) Z ?_);refine al_ Z Z Z (H_ Z Z) Z (al_ Z Z Z (y_pk Z Z) Z (t_ Z (y_pk Z Z) Z (av_ (hK15 _ _ ?_))));refine m_ Z (fun h75=>?_) (fun h75=>?_)
        ·
         refine a_ fun K17 hK17=>b_ (L_y (y_ Z (show _=some zA by kernel_rfl)) Z (L_o (B_ S14 1 Z Z Z bs_ (by rfl) (by intro u hu;first | (simp [zA] at hu;rcases hu with rfl | rfl | rfl | rfl | rfl <;> rfl) | (simp at hu;rcases hu with rfl | rfl | rfl | rfl | rfl <;> rfl) | exact ax_ _ _ u hu) fun w16 S16=>?_)));refine Lan Z Z (hK17 _ _ (l_ (ur (X_ Z Z Z (S16.blk 1 Z) Tryz.underlying127 Z (by exact bs_) ?_))));have he:opT t x at_ deep=(21,zE):=(db_ (by omega)).trans (ia_ (by omega) (by omega));exact ⟨_,rfl,_,_,S16.turned1 0 Z,p0,by rw [he];rfl,by rw [he];rfl,fresh0 _ _⟩
        ·
         refine j_ (hK14 _ _ (a_ fun K18 hK18=>Rm Z Z (L_y (x_ Z) Z (L_y (d_ 0 Tryz.underlying175 Z fN_ Z Z Z) Z (L_y (p_ Tryz.underlying172 Z Z (((blkM S14 hcur hcg).cell _).trans (by rfl))) Z ?_)))));refine L_o (o_ Tryz.func128 Z Z (Oct.rerr g A n c t ((vaN t (vaN t 1 0 4000).2.1 (vaN t 1 0 4000).2.2 1048576).2.1) ((vaN t (vaN t 1 0 4000).2.1 (vaN t 1 0 4000).2.2 1048576).2.2)  w14 (S14.get 0 Z) (by omega)) Z Z ?_);rintro e17 w17 ⟨v17,rfl,l17,rfl⟩;refine ⟨_,rfl,(have S17:=S14.like l17;L_y (ah_ Z Z) Z (Lm Z Z ?_))⟩;refine A_ 83 Z (fun h83=>?_) (fun h83=>?_)
         ·
          refine g_ Z Z (Lm Z Z (Lp Z Z Z (f_ (hK18 _ _ ?_))));refine ay_ Z (fun h85=>?_) (fun h85=>?_)
          ·
           refine a_ fun K19 hK19=>b_ (L_y (y_ Z (show _=some zA by kernel_rfl)) Z (L_o (B_ S17 1 Z Z Z bs_ (by rfl) (by intro u hu;first | (simp [zA] at hu;rcases hu with rfl | rfl | rfl | rfl | rfl <;> rfl) | (simp at hu;rcases hu with rfl | rfl | rfl | rfl | rfl <;> rfl) | exact ax_ _ _ u hu) fun w19 S19=>?_)));refine Lan Z Z (hK19 _ _ (l_ (ur (X_ Z Z Z (S19.blk 1 Z) Tryz.underlying127 Z (by exact bs_) ?_))));have he:opT t x at_ deep=(20,zE):=(db_ (by omega)).trans (ib_ (by omega) (by omega) h85);exact ⟨_,rfl,_,_,S19.turned1 0 Z,p0,by rw [he];rfl,by rw [he];rfl,fresh0 _ _⟩
          ·
           refine j_ ?_;have g3:(vaN t (vaN t 1 0 4000).2.1 (vaN t 1 0 4000).2.2 1048576).2.2≠0∨¬ ((vaN t (vaN t 1 0 4000).2.1 (vaN t 1 0 4000).2.2 1048576).1=0∨(at_:Int) - (vaN t (vaN t 1 0 4000).2.1 (vaN t 1 0 4000).2.2 1048576).1 < 12):=by omega
           have g4:(vaN t (vaN t 1 0 4000).2.1 (vaN t 1 0 4000).2.2 1048576).2.2≠0∨(¬ ((vaN t (vaN t 1 0 4000).2.1 (vaN t 1 0 4000).2.2 1048576).1=0∨(at_:Int) - (vaN t (vaN t 1 0 4000).2.1 (vaN t 1 0 4000).2.2 1048576).1 < 12)∧deep=false):=by first | exact .inl (by omega) | exact .inr ⟨by omega,h85⟩
           have he0:=(db_ (deep:=deep) (at_:=at_) (t:=t) (show x.toNat=5 by omega)).trans (eN_ g4);rw [show (5:Int)=(x.toNat:Int) by omega] at he0;exact ⟨_,_,_,(Sc Z (Sc Z (Sc Z (Sc Z (Sub.nil _))))),⟨he0,Oct.bP_ _ _ _ _ hp1⟩,S17⟩
         ·
          refine h_ Z Z Z (Lp Z Z Z (f_ (hK18 _ _ (aI_ Z (j_ ?_)))));have g3:(vaN t (vaN t 1 0 4000).2.1 (vaN t 1 0 4000).2.2 1048576).2.2≠0∨¬ ((vaN t (vaN t 1 0 4000).2.1 (vaN t 1 0 4000).2.2 1048576).1=0∨(at_:Int) - (vaN t (vaN t 1 0 4000).2.1 (vaN t 1 0 4000).2.2 1048576).1 < 12):=by omega
          have g4:(vaN t (vaN t 1 0 4000).2.1 (vaN t 1 0 4000).2.2 1048576).2.2≠0∨(¬ ((vaN t (vaN t 1 0 4000).2.1 (vaN t 1 0 4000).2.2 1048576).1=0∨(at_:Int) - (vaN t (vaN t 1 0 4000).2.1 (vaN t 1 0 4000).2.2 1048576).1 < 12)∧deep=false):=by first | exact .inl (by omega) | exact .inr ⟨by omega,h85⟩
          have he0:=(db_ (deep:=deep) (at_:=at_) (t:=t) (show x.toNat=5 by omega)).trans (eN_ g4);rw [show (5:Int)=(x.toNat:Int) by omega] at he0;exact ⟨_,_,_,(Sc Z (Sc Z (Sc Z (Sc Z (Sub.nil _))))),⟨he0,Oct.bP_ _ _ _ _ hp1⟩,S17⟩
      ·
       refine cI_ Z Z Z Z (cI_ Z Z Z Z (cI_ Z Z Z Z (cI_ Z Z Z Z (cI_ Z Z Z Z (cI_ Z Z Z Z (cI_ Z Z Z Z (cI_ Z Z Z Z (DL_gnu Z Z Z Z (DL_gnu Z Z Z Z (DL_gnu Z Z Z Z (cI_ Z Z Z Z (t_ Z (y_pk Z Z) Z (av_ ?_)))))))))))));refine hK15 _ _ (aI_ Z (j_ (hK14 _ _ (a_ fun K20 hK20=>Rm Z Z (L_y (x_ Z) Z (L_y (d_ 0 Tryz.underlying175 Z fN_ Z Z Z) Z (L_y (p_ Tryz.underlying172 Z Z (((blkM S14 hcur hcg).cell _).trans (by rfl))) Z ?_)))))));refine L_o (o_ Tryz.func128 Z Z (Oct.rerr g A n c t ((vaN t (vaN t 1 0 4000).2.1 (vaN t 1 0 4000).2.2 1048576).2.1) ((vaN t (vaN t 1 0 4000).2.1 (vaN t 1 0 4000).2.2 1048576).2.2)  w14 (S14.get 0 Z) (by omega)) Z Z ?_);rintro e20 w20 ⟨v20,rfl,l20,rfl⟩;refine ⟨_,rfl,(have S20:=S14.like l20;L_y (ah_ Z Z) Z (Lm Z Z ?_))⟩;refine A_ 83 Z (fun h83=>?_) (fun h83=>?_)
       ·
        refine g_ Z Z (Lm Z Z (Lp Z Z Z (f_ (hK20 _ _ ?_))));refine ay_ Z (fun h85=>?_) (fun h85=>?_)
        ·
         refine a_ fun K21 hK21=>b_ (L_y (y_ Z (show _=some zA by kernel_rfl)) Z (L_o (B_ S20 1 Z Z Z bs_ (by rfl) (by intro u hu;first | (simp [zA] at hu;rcases hu with rfl | rfl | rfl | rfl | rfl <;> rfl) | (simp at hu;rcases hu with rfl | rfl | rfl | rfl | rfl <;> rfl) | exact ax_ _ _ u hu) fun w22 S22=>?_)));refine Lan Z Z (hK21 _ _ (l_ (ur (X_ Z Z Z (S22.blk 1 Z) Tryz.underlying127 Z (by exact bs_) ?_))));have he:opT t x at_ deep=(20,zE):=(db_ (by omega)).trans (ib_ (by omega) (by omega) h85);exact ⟨_,rfl,_,_,S22.turned1 0 Z,p0,by rw [he];rfl,by rw [he];rfl,fresh0 _ _⟩
        ·
         refine j_ ?_;have g3:(vaN t (vaN t 1 0 4000).2.1 (vaN t 1 0 4000).2.2 1048576).2.2≠0∨¬ ((vaN t (vaN t 1 0 4000).2.1 (vaN t 1 0 4000).2.2 1048576).1=0∨(at_:Int) - (vaN t (vaN t 1 0 4000).2.1 (vaN t 1 0 4000).2.2 1048576).1 < 12):=by omega
         have g4:(vaN t (vaN t 1 0 4000).2.1 (vaN t 1 0 4000).2.2 1048576).2.2≠0∨(¬ ((vaN t (vaN t 1 0 4000).2.1 (vaN t 1 0 4000).2.2 1048576).1=0∨(at_:Int) - (vaN t (vaN t 1 0 4000).2.1 (vaN t 1 0 4000).2.2 1048576).1 < 12)∧deep=false):=by first | exact .inl (by omega) | exact .inr ⟨by omega,h85⟩
         have he0:=(db_ (deep:=deep) (at_:=at_) (t:=t) (show x.toNat=5 by omega)).trans (eN_ g4);rw [show (5:Int)=(x.toNat:Int) by omega] at he0;exact ⟨_,_,_,(Sc Z (Sc Z (Sc Z (Sc Z (Sub.nil _))))),⟨he0,Oct.bP_ _ _ _ _ hp1⟩,S20⟩
       ·
        refine h_ Z Z Z (Lp Z Z Z (f_ (hK20 _ _ (aI_ Z (j_ ?_)))));have g3:(vaN t (vaN t 1 0 4000).2.1 (vaN t 1 0 4000).2.2 1048576).2.2≠0∨¬ ((vaN t (vaN t 1 0 4000).2.1 (vaN t 1 0 4000).2.2 1048576).1=0∨(at_:Int) - (vaN t (vaN t 1 0 4000).2.1 (vaN t 1 0 4000).2.2 1048576).1 < 12):=by omega
        have g4:(vaN t (vaN t 1 0 4000).2.1 (vaN t 1 0 4000).2.2 1048576).2.2≠0∨(¬ ((vaN t (vaN t 1 0 4000).2.1 (vaN t 1 0 4000).2.2 1048576).1=0∨(at_:Int) - (vaN t (vaN t 1 0 4000).2.1 (vaN t 1 0 4000).2.2 1048576).1 < 12)∧deep=false):=by first | exact .inl (by omega) | exact .inr ⟨by omega,h85⟩
        have he0:=(db_ (deep:=deep) (at_:=at_) (t:=t) (show x.toNat=5 by omega)).trans (eN_ g4);rw [show (5:Int)=(x.toNat:Int) by omega] at he0;exact ⟨_,_,_,(Sc Z (Sc Z (Sc Z (Sc Z (Sub.nil _))))),⟨he0,Oct.bP_ _ _ _ _ hp1⟩,S20⟩
     ·
      refine j_ ?_;have he0:=opT_w (deep:=deep) (at_:=at_) (t:=t) (show ¬ (x.toNat < 1∨5 < x.toNat) by omega) (by omega);exact ⟨_,_,_,(Sc Z (Sc Z (Sc Z (Sc Z (Sub.nil _))))),⟨he0,hp1⟩,S9⟩
    ·
     rintro e23 w23 ⟨base,p,q,hsub,⟨he0,hp0⟩,S23⟩;refine el_ hsub (a_ fun K22 hK22=>have hp4:=rwP_le t (p) (q) 4 hp0;have hp5:=jm_ t (rwP t (p) (q) 4) (rwE t (p) (q) 4) ((vaN t 1 0 4000).1:Int) hp4;Rm Z Z (L_y (x_ Z) Z (L_y (d_ 0 Tryz.underlying175 Z fN_ Z Z Z) Z (L_y (p_ Tryz.underlying172 Z Z (((blkM S23 hcur hcg).cell _).trans (by rfl))) Z ?_))));refine L_o (o_ Tryz.func105 Z Z (Oct.ru32 g A n c t (p) (q)  w23 (S23.get 0 Z) hp0 (by omega)) Z Z ?_);rintro e24 w24 ⟨v24,rfl,rfl,T24⟩;refine ⟨_,rfl,(have S24:=S23.turn 0 Z T24;L_y (d_ 3 Tryz.underlying127 Z aV_ Z Z Z) Z (L_o (Y_ S24 2 Z Z Z Z aV_ (by simp;done) fun w25 S25=>?_)))⟩;refine f_ (hK22 _ _ (a_ fun K23 hK23=>Rm Z Z (L_y (x_ Z) Z (L_y (d_ 0 Tryz.underlying175 Z fN_ Z Z Z) Z (L_y (p_ Tryz.underlying172 Z Z (((blkM S25 hcur hcg).cell _).trans (by rfl))) Z ?_)))));refine Lm Z Z (L_o (o_ Tryz.func104 Z Z (Oct.rraw g A n c t (rwP t (p) (q) 4) (rwE t (p) (q) 4)  ((vaN t 1 0 4000).1:Int) w25 (S25.get 0 Z) hp4 (by omega) (by omega)) Z Z ?_));rintro e26 w26 ⟨v26,rfl,T26,B26,d26,rfl,hr26,hd26⟩;refine ⟨_,rfl,(have S26:=S25.turn 0 Z T26;have S27:=St.newT S25 0 Z T26 (fun i hi=>hi) hr26 (fun i hi=>⟨hd26 i hi,(World.ownsRow.lt hr26 i hi).2⟩);have hdR:=fun i hi=>Nat.le_trans S25.size (hd26 i hi);L_y (d_ 4 Tryz.underlying127 Z bi_ Z Z Z) Z (L_o (Y_ S27 2 Z Z Z Z bi_ (by simp;done) fun w28 S28=>?_)))⟩;refine f_ (hK23 _ _ (a_ fun K24 hK24=>a_ fun K25 hK25=>Rm Z Z (L_y (x_ Z) Z (L_y (d_ 0 Tryz.underlying175 Z fN_ Z Z Z) Z (L_y (p_ Tryz.underlying172 Z Z (((blkM S28 hcur hcg).cell _).trans (by rfl))) Z ?_)))));refine L_o (o_ Tryz.func128 Z Z (Oct.rerr g A n c t (rnP t (rwP t (p) (q) 4) (rwE t (p) (q) 4) ((vaN t 1 0 4000).1:Int)) (rnE t (rwP t (p) (q) 4) (rwE t (p) (q) 4) ((vaN t 1 0 4000).1:Int))  w28 (S28.get 0 Z) (by omega)) Z Z ?_);rintro e29 w29 ⟨v29,rfl,l29,rfl⟩;refine ⟨_,rfl,(have S29:=S28.like l29;Lan Z Z (hK25 _ _ (a_ fun K26 hK26=>Rm Z Z (L_y (V_ Z Z) Z (f_ (hK26 _ _ ?_))))))⟩;refine m_ Z (fun h106=>?_) (fun h106=>?_)
     ·
      refine a_ fun K27 hK27=>b_ (L_y (y_ Z (show _=some zA by kernel_rfl)) Z (Lm Z Z (L_o (B_ S29 1 Z Z Z bs_ (by rfl) (by intro u hu;first | (simp [zA] at hu;rcases hu with rfl | rfl | rfl | rfl | rfl <;> rfl) | (simp at hu;rcases hu with rfl | rfl | rfl | rfl | rfl <;> rfl) | exact ax_ _ _ u hu) fun w30 S30=>?_))));refine Lan Z Z (hK27 _ _ (l_ (ur (X_ Z Z Z (S30.blk 1 Z) Tryz.underlying127 Z (by exact bs_) ?_))));have he:opT t x at_ deep=((rnE t (rwP t (p) (q) 4) (rwE t (p) (q) 4) ((vaN t 1 0 4000).1:Int):Int),zE):=he0.trans (opR_e (by omega));exact ⟨_,rfl,_,_,S30.turned1 0 Z,p0,by rw [he];rfl,by rw [he];rfl,fresh0 _ _⟩
     ·
      refine j_ (hK24 _ _ (a_ fun K28 hK28=>a_ fun K29 hK29=>ad_ [(0,true),(1,true),(4,true),(5,true),(2,false),(3,false),(6,true)] aJ_ (by kernel_rfl) fun w31 l31=>have S31:=S29.like l31;t_ Z (d_ 4 Tryz.underlying127 Z bi_ Z Z Z) Z (t_ Z (p_ Tryz.underlying22 Z Z (((S31.blk 2 Z).cell _).trans (by rfl))) Z ?_)));refine t_ Z (d_ 3 Tryz.underlying127 Z aV_ Z Z Z) Z (t_ Z (p_ Tryz.underlying63 Z Z (((S31.blk 2 Z).cell _).trans (by rfl))) Z ?_);refine dB_ Z (eA_ [_] ip_ zz22 S31 Z Z Z Z Z Z Z Z fun b32 w32 l32 S32=>have q32:=l32;⟨q32,(dB_ Z (o_ Tryz.func92 Z Z (of_ _ _ _ [⟨B26,_,d26,(rnL t (rwP t (p) (q) 4) (rwE t (p) (q) 4) ((vaN t 1 0 4000).1:Int))⟩] w32 (S32.row 4 Z) (fun y hy=>by obtain rfl:=List.mem_singleton.1 hy;exact S32.row 3 Z)) Z Z ?_))⟩);rintro e33 w33 ⟨v33,rfl,l33,rfl⟩;refine ⟨_,rfl,(Like.trans q32 l33),(have S33:=S32.like l33;have q33:=(Like.trans q32 l33);t_ Z (V_ Z Z) Z (av_ (hK29 _ _ ?_)))⟩;refine m_ Z (fun h115=>?_) (fun h115=>?_)
      ·
       refine a_ fun K30 hK30=>b_ (L_y (y_ Z (show _=some zA by kernel_rfl)) Z (L_o (B_ S33 1 Z Z Z bs_ (by rfl) (by intro u hu;first | (simp [zA] at hu;rcases hu with rfl | rfl | rfl | rfl | rfl <;> rfl) | (simp at hu;rcases hu with rfl | rfl | rfl | rfl | rfl <;> rfl) | exact ax_ _ _ u hu) fun w34 S34=>?_)));refine Lan Z Z (hK30 _ _ (l_ (ur (X_ Z Z Z (S34.blk 1 Z) Tryz.underlying127 Z (by exact bs_) ?_))));have hs1:=crcN h115;have he:opT t x at_ deep=(13,zE):=he0.trans (opR_13 (by omega) hs1);exact ⟨_,rfl,_,_,S34.turned1 0 Z,p0,by rw [he];rfl,by rw [he];rfl,fresh0 _ _⟩
      ·
       refine j_ (hK28 _ _ (a_ fun K31 hK31=>dP_ [0,1,2,3,4,5,6,7,8,9,10] 11 [(0,1),(1,1),(2,1),(3,1),(4,1),(5,1),(6,1),(7,1),(8,2),(9,1),(10,1),(11,3)] aJ_ (by kernel_rfl) fun w35 l35=>have S35:=S33.like l35;gx_ (Like w35) (Like.refl _) (S_ Z (r_ Z) Z (S_ Z (x_ Z) Z (S_ Z (d_ 1 Tryz.underlying175 Z sz3 Z Z Z) Z (S_ Z (p_ Tryz.underlying3 Z Z (((blkM S35 hcur hcg).cell _).trans (by rfl))) Z ?_))))));refine S_ Z (r_ Z) Z (S_ Z (x_ Z) Z (S_ Z (d_ 0 Tryz.underlying175 Z fN_ Z Z Z) Z (S_ Z (p_ Tryz.underlying172 Z Z (((blkM S35 hcur hcg).cell _).trans (by rfl))) Z ?_)));refine ga_ Z (o_ Tryz.func130 Z Z (at9 g A n c t (rnP t (rwP t (p) (q) 4) (rwE t (p) (q) 4) ((vaN t 1 0 4000).1:Int)) (rnE t (rwP t (p) (q) 4) (rwE t (p) (q) 4) ((vaN t 1 0 4000).1:Int))  w35 (S35.get 0 Z)) Z Z ?_);rintro e36 w36 ⟨v36,rfl,l36,rfl⟩;refine ⟨_,rfl,l36,(have S36:=S35.like l36;have q36:=l36;S_ Z (v_ Z Z (addN (by omega))) Z (S_ Z (d_ 2 Tryz.underlying127 Z sz3 Z Z Z) Z (gw_ Z (Y_ S36 2 Z Z Z Z sz3 (by simp;done) fun w37 S37=>?_))))⟩;refine cH_ (hK31 _ _ (a_ fun K32 hK32=>b_ (L_y (W_ Tryz.underlying127 Z bs_ Z (S37.blk 2 Z) ⟨rfl,rfl⟩) Z (L_o (B_ S37 1 Z Z Z bs_ (by rfl) (by intro u hu;first | (simp [zA] at hu;rcases hu with rfl | rfl | rfl | rfl | rfl <;> rfl) | (simp at hu;rcases hu with rfl | rfl | rfl | rfl | rfl <;> rfl) | exact ax_ _ _ u hu) fun w38 S38=>?_)))));refine Lan Z Z (hK32 _ _ (l_ (ur (X_ Z Z Z (S38.blk 1 Z) Tryz.underlying127 Z (by exact bs_) ?_))));have hs1:=crcE h115;have he:opT t x at_ deep=(0,_):=he0.trans (js_ (by omega) (fun q=>q hs1));have hsm:((be (rwL t (p) (q) 4):Nat):Int)=N (bn_ (rnL t (rwP t (p) (q) 4) (rwE t (p) (q) 4) ((vaN t 1 0 4000).1:Int))):=by show _=((bn_ _).toNat:Int);rw [hs1]
       refine ⟨_,rfl,_,_,S38.turned1 0 Z,⟨B26,_,d26,(rnL t (rwP t (p) (q) 4) (rwE t (p) (q) 4) ((vaN t 1 0 4000).1:Int))⟩,?_,by rw [he],⟨S38.row 3 Z,fun ad h1 h2=>hdR ad.block (kO_ hr26 h1 ad h2)⟩⟩;rw [he,hsm];rfl
end Pak
namespace Pak
open Go.RowKit Zk Zx
open Sha (N bO_ cO_ dS_ fz_ fy_)
open Go.Proofs.YtgaklngnfecdaaaGreat.Obj (ai_ bV_ aT_ Z_ aN_ be_ zB C_ aR_)
open Oct (vaN rwL rwP rwE rnL rnP rnE be vr tl N_)
open Del (scA opf OP OkO mkV bR_ dG_ aj_ bW_)
open Oct (rdr dF_ co_)
def OpenV (w0 w':World) (b:List UInt8) (at_:Int) (deep:Bool) (u:Value):Prop:=EntryV w0 w' (opV b at_ deep) u
theorem rd_ne {w0 w:World} {M:Nat→Prop} {rs:List Res} (S:Zx.St w0 M rs w) (i j:Nat) {r:Res} {g t:Nat} {cs:Array Value} (hi:rs[i]?=some r) (hj:rs[j]?=some (Zx.blk g t cs)) (hij:i≠j):¬ r.dom g:=fun hd=>by
  have hap:=List.pairwise_iff_getElem.1 S.apart
  obtain ⟨hil,hie⟩:=List.getElem?_eq_some_iff.1 hi
  obtain ⟨hjl,hje⟩:=List.getElem?_eq_some_iff.1 hj
  rcases Nat.lt_or_gt_of_ne hij with h | h
  · exact hap i j hil hjl h g (by rw [hie];exact hd) (by rw [hje];rfl)
  · exact hap j i hjl hil h g (by rw [hje];rfl) (by rw [hie];exact hd)
theorem open_ (B:Option Addr) (m d:Nat) (b:List UInt8) (at_:Int) (deep:Bool) (w0:World) (hb:Rs w0 1 B m d (bL b)) (hm5:m≤100000) (hat : -9223372036854775808≤at_∧at_≤9223372036854775807) :
    Calls Tryz.prog 66 #[.slice B m d,.int .i64 at_,.bool deep] w0 fun e w'=>∃ u,e=.returned u∧Like w0 w'∧OpenV w0 w' b at_ deep u:=by
  refine w_ (env:=[(0,.slice B m d),(1,.int .i64 at_),(2,.bool deep)]) [.slice B m d,.int .i64 at_,.bool deep] Tryz.func66 Z Tryz.ntmps66 Z Z ?_
  have hl:=hb.lenb;have hcap:=hb.cap;have hmax:=hb.max
  have S0:=St.start w0 noM
  refine a_ fun K1 hK1=>?_
  refine b_ ?_
  refine L_o (E_ zz127 S0 Z fun b1 w1 hb1 S1=>?_)
  refine La Z Z ?_
  refine f_ ?_
  refine hK1 _ _ ?_
  refine a_ fun K2 hK2=>?_
  refine a_ fun K3 hK3=>?_
  refine b_ ?_
  refine Lm Z Z ?_
  refine L_y (J_ Tryz.underlying22 Z) Z ?_
  refine L_y (H_ Z Z) Z ?_
  refine f_ ?_
  refine hK3 _ _ ?_
  refine m_ Z (fun h11=>?_) (fun h11=>?_)
  ·
    refine a_ fun K4 hK4=>?_
    refine b_ ?_
    refine L_y (y_ Z (show _=some zA by kernel_rfl)) Z ?_
    refine L_o (B_ S1 0 Z Z Z bs_ (by rfl) (by intro u hu;first | (simp [zA] at hu;rcases hu with rfl | rfl | rfl | rfl | rfl <;> rfl) | (simp at hu;rcases hu with rfl | rfl | rfl | rfl | rfl <;> rfl) | exact ax_ _ _ u hu) fun w2 S2=>?_)
    refine La Z Z ?_
    refine f_ ?_
    refine hK4 _ _ ?_
    refine l_ ?_
    refine ur ?_
    refine X_ Z Z Z (S2.blk 0 Z) Tryz.underlying127 Z (by exact bs_) ?_
    have he:opV b at_ deep=(10,zE):=opV_10 (by omega)
    exact ⟨_,rfl,S2.like0,p0,by rw [he];rfl,by rw [he];rfl,fresh0 _ _⟩
  ·
    refine j_ ?_
    refine hK2 _ _ ?_
    refine a_ fun K5 hK5=>?_
    refine a_ fun K6 hK6=>?_
    refine b_ ?_
    refine Lm Z Z ?_
    refine L_y (H_ Z Z) Z ?_
    refine Lm Z Z ?_
    refine A_ 15 Z (fun h15=>?_) (fun h15=>?_)
    ·
      refine h_ Z Z Z ?_
      refine h_ Z Z Z ?_
      refine h_ Z Z Z ?_
      refine h_ Z Z Z ?_
      refine h_ Z Z Z ?_
      refine Lp Z Z Z ?_
      refine f_ ?_
      refine hK6 _ _ ?_
      refine U_ Z ?_
      refine a_ fun K7 hK7=>?_
      refine b_ ?_
      refine L_y (y_ Z (show _=some zA by kernel_rfl)) Z ?_
      refine L_o (B_ S1 0 Z Z Z bs_ (by rfl) (by intro u hu;first | (simp [zA] at hu;rcases hu with rfl | rfl | rfl | rfl | rfl <;> rfl) | (simp at hu;rcases hu with rfl | rfl | rfl | rfl | rfl <;> rfl) | exact ax_ _ _ u hu) fun w4 S4=>?_)
      refine La Z Z ?_
      refine f_ ?_
      refine hK7 _ _ ?_
      refine l_ ?_
      refine ur ?_
      refine X_ Z Z Z (S4.blk 0 Z) Tryz.underlying127 Z (by exact bs_) ?_
      have he:opV b at_ deep=(2,zE):=opV_2 (by omega) (by omega)
      exact ⟨_,rfl,S4.like0,p0,by rw [he];rfl,by rw [he];rfl,fresh0 _ _⟩
    ·
      refine g_ Z Z ?_
      refine Lm Z Z ?_
      refine g_ Z Z ?_
      refine Lm Z Z ?_
      refine g_ Z Z ?_
      refine L_y (J_ Tryz.underlying22 Z) Z ?_
      refine g_ Z Z ?_
      refine L_y (am_ Z Z (z_ (by omega))) Z ?_
      refine g_ Z Z ?_
      refine L_y (cF_ Z Z) Z ?_
      refine Lp Z Z Z ?_
      refine f_ ?_
      refine hK6 _ _ ?_
      refine m_ Z (fun h21=>?_) (fun h21=>?_)
      ·
        refine a_ fun K8 hK8=>?_
        refine b_ ?_
        refine L_y (y_ Z (show _=some zA by kernel_rfl)) Z ?_
        refine L_o (B_ S1 0 Z Z Z bs_ (by rfl) (by intro u hu;first | (simp [zA] at hu;rcases hu with rfl | rfl | rfl | rfl | rfl <;> rfl) | (simp at hu;rcases hu with rfl | rfl | rfl | rfl | rfl <;> rfl) | exact ax_ _ _ u hu) fun w5 S5=>?_)
        refine La Z Z ?_
        refine f_ ?_
        refine hK8 _ _ ?_
        refine l_ ?_
        refine ur ?_
        refine X_ Z Z Z (S5.blk 0 Z) Tryz.underlying127 Z (by exact bs_) ?_
        have he:opV b at_ deep=(2,zE):=opV_2 (by omega) (by omega)
        exact ⟨_,rfl,S5.like0,p0,by rw [he];rfl,by rw [he];rfl,fresh0 _ _⟩
      ·
        refine j_ ?_
        refine hK5 _ _ ?_
        refine a_ fun K9 hK9=>?_
        obtain ⟨x,hx⟩:∃ x,b[at_.toNat]?=some x:=⟨_,List.getElem?_eq_getElem (by omega)⟩
        have htl:=hQ_ (b:=b) (n:=at_.toNat) (by omega) (by omega)
        have hx0:(Q_ b at_.toNat)[0]?=some x:=by rw [tailB_0 (by omega) (by omega)];exact hx
        have hbt:=hb.cutb (l:=at_.toNat) (u:=m - 32) (by omega) (by omega)
        rw [show (b.drop at_.toNat).take (m - 32 - at_.toNat)=(Q_ b at_.toNat) by unfold Q_;rw [hl]] at hbt
        refine b_ ?_
        refine Lm Z Z ?_
        refine Lm Z Z ?_
        refine Lm Z Z ?_
        refine L_y (J_ Tryz.underlying22 Z) Z ?_
        refine L_y (am_ Z Z (z_ (by omega))) Z ?_
        refine L_y (cY_ Tryz.underlying22 sz5 Z Z Z (Nt.mk (by omega):Nt _ (at_.toNat)) (Nt.mk (by omega):Nt _ (m - 32)) (by omega) (by omega)) Z ?_
        refine L_o (o_ Tryz.func96 Z Z (Oct.rnew _ _ _ (Q_ b at_.toNat) w1 (S1.rd hbt) (by omega)) Z Z ?_)
        rintro e6 w6 ⟨v6,rfl,l6,g1,A1,c1,rfl,hh6,dd6⟩
        refine ⟨_,rfl,?_⟩
        have S6:=S1.new l6 _ hh6 dd6
        refine Lm Z Z ?_
        refine L_y (y_ Z (show _=some #[.pointer (some ⟨g1,0,none⟩),.int .i64 (at_.toNat:Int)] by rw [Int.toNat_of_nonneg (by omega)];kernel_rfl)) Z ?_
        refine L_o (bB_ Z S6 Z fun b7 w7 hb7 S7=>?_)
        refine La Z Z ?_
        refine f_ ?_
        refine hK9 _ _ ?_
        refine a_ fun K10 hK10=>?_
        refine b_ ?_
        refine Lm Z Z ?_
        refine Lm Z Z ?_
        refine L_o (o_ Tryz.func97 Z Z (entry b7 g1 A1 (m - 32 - at_.toNat) c1 (Q_ b at_.toNat) at_.toNat deep x w7 (S7.get 1 Z) (S7.blk 2 Z) (fun hd=>rd_ne (S7) 1 2 Z Z (by decide) hd) hx0 (by omega) (by omega)) Z Z ?_)
        rintro e8 w8 ⟨v8,rfl,p8,q8,T8,hE8⟩
        refine ⟨_,rfl,?_⟩
        have S8:=S7.turn 1 Z T8
        obtain ⟨q9,rfl,hq9,hok9,hfr9⟩:=hE8
        have S9:=St.newT S7 1 Z T8 (fun i hi=>hi) (new:=fixed 1 q9.A q9.n q9.c (bL q9.l)) hok9 (fun i hi=>by obtain ⟨ad,h1,h2,rfl⟩:=hi;exact ⟨hfr9 ad h1 h2,bT_ hok9 h1 h2⟩)
        have hf9:=fun ad h1 h2=>Nat.le_trans S7.size (hfr9 ad h1 h2)
        refine L_y (n_ Z Z) Z ?_
        refine L_y (n_ Z Z) Z ?_
        refine L_o (B_ S9 0 Z Z Z bs_ (by rfl) (by intro u hu;first | (simp [zA] at hu;rcases hu with rfl | rfl | rfl | rfl | rfl <;> rfl) | (simp at hu;rcases hu with rfl | rfl | rfl | rfl | rfl <;> rfl) | exact ax_ _ _ u hu) fun w10 S10=>?_)
        refine La Z Z ?_
        refine f_ ?_
        refine hK10 _ _ ?_
        refine l_ ?_
        refine ur ?_
        refine X_ Z Z Z (S10.blk 0 Z) Tryz.underlying127 Z (by exact bs_) ?_
        have he:opV b at_ deep=opT (Q_ b at_.toNat) x at_.toNat deep:=opV_t (by omega) (by omega) hx
        refine ⟨_,rfl,S10.like0,q9,?_,?_,?_⟩
        · rw [he];rfl
        · rw [he];exact hq9
        · exact ⟨S10.fix 3 Z,hf9⟩
end Pak
namespace Del
open Go.RowKit Zk Zx Oct
theorem preadH (B:Option Addr) (m d:Nat) (l:List UInt8) (w0:World) (hb:Rs w0 1 B m d (bL l)) (hm5:m≤10000) :
    Calls Tryz.prog 98 #[.slice B m d] w0 fun e w'=>∃ u,e=.returned u∧Like w0 w'∧∃ A' c' qs,∃ R:Res,u=.tuple #[.agg (scA (aj_ l).1 (aj_ l).2.1 A' qs.length c'),.int .i64 (aj_ l).2.2.2]∧R.holds w'∧(∀ i,R.dom i→w0.heap.size≤i∧i < w'.heap.size)∧(∀ W,R.holds W→Rs W 4 A' qs.length c' (qs.flatMap opf)∧OkO W qs)∧qs.map OP.v=(aj_ l).2.2.1:=by
 refine w_ (env:=[(0,.slice B m d)]) [.slice B m d] Tryz.func98 Z Tryz.ntmps98 Z Z ?_;have hnl:=hb.lenb;have hcap:=hb.cap;have hmax:=hb.max;have S0:=St.start w0 noM;refine a_ fun K1 hK1=>b_ (L_o (E_ iT_ S0 Z fun b1 w1 hb1 S1=>Lan Z Z (hK1 _ _ (a_ fun K2 hK2=>Rm Z Z (L_o (o_ Tryz.func96 Z Z (rnew B m d l w1 (S1.rd hb) (by omega)) Z Z ?_))))));rintro e2 w2 ⟨v2,rfl,l2,g,A,c,rfl,hh2,hd2⟩;refine ⟨_,rfl,(have S2:=S1.new l2 _ hh2 hd2;Lan Z Z (hK2 _ _ (a_ fun K3 hK3=>Rm Z Z (L_o (o_ Tryz.func129 Z Z (rvar g A m c l 0 0 4000 w2 (S2.get 1 Z) (by omega) (by omega)) Z Z ?_)))))⟩;rintro e3 w3 ⟨v3,rfl,rfl,T3⟩;refine ⟨_,rfl,(have S3:=S2.turn 1 Z T3;have hF:=bP_ l 0 0 4000 (by omega);have hFm:=dJ_ l 0 0 4000;L_y (O_ cl_ Tryz.underlying3 Z (z_ (by omega))) Z (Lm Z Z (L_o (o_ Tryz.func129 Z Z (rvar g A m c l _ _ 4000 w3 (S3.get 1 Z) (by omega) (by omega)) Z Z ?_))))⟩;rintro e4 w4 ⟨v4,rfl,rfl,T4⟩;refine ⟨_,rfl,(have S4:=S3.turn 1 Z T4;have hG:=bP_ l (vaN l 0 0 4000).2.1 (vaN l 0 0 4000).2.2 4000 (by omega);have hGm:=dJ_ l (vaN l 0 0 4000).2.1 (vaN l 0 0 4000).2.2 4000;L_y (O_ cl_ Tryz.underlying3 Z (z_ (by omega))) Z (L_y (y_ Z (show _=some (scA ((vaN l 0 0 4000).1:Int) ((vaN l (vaN l 0 0 4000).2.1 (vaN l 0 0 4000).2.2 4000).1:Int) none 0 0) by kernel_rfl)) Z ?_))⟩;refine L_o (E_ iT_ S4 Z fun b5 w5 hb5 S5=>L_o (B_ S5 2 Z Z Z cx_ Z (bq_ _ _ _ _ _) fun w6 S6=>f_ (hK3 _ _ (a_ fun K4 hK4=>a_ fun K5 hK5=>Rm Z Z (L_o (o_ Tryz.func128 Z Z (rerr g A m c l _ _ w6 (S6.get 1 Z) (by omega)) Z Z ?_))))));rintro e7 w7 ⟨v7,rfl,l7,rfl⟩;refine ⟨_,rfl,(have S7:=S6.like l7;Lan Z Z (hK5 _ _ (a_ fun K6 hK6=>Rm Z Z (L_y (V_ Z Z) Z (f_ (hK6 _ _ ?_))))))⟩;refine m_ Z (fun h22=>?_) (fun h22=>?_)
 ·
  refine a_ fun K7 hK7=>b_ (L_y (y_ Z (show _=some (scA 0 0 none 0 0) by kernel_rfl)) Z (Lm Z Z (L_o (B_ S7 0 Z Z Z cx_ Z (bq_ _ _ _ _ _) fun w8 S8=>Lan Z Z (hK7 _ _ (l_ (ur (X_ Z Z Z (S8.blk 0 Z) Tryz.underlying179 Z (by exact cx_) ?_))))))));exact ⟨_,rfl,S8.like0,none,0,[],sepL [],by rw [iF_ (by omega)];rfl,⟨fun r hr=>(List.not_mem_nil hr).elim,List.Pairwise.nil⟩,(fun i ⟨r,hr,_⟩=>(List.not_mem_nil hr).elim),(fun W _=>⟨Rs.nil _ 4,fun o ho=>(List.not_mem_nil ho).elim⟩),by rw [iF_ (by omega)];rfl⟩
 ·
  have hq0:(vaN l (vaN l 0 0 4000).2.1 (vaN l 0 0 4000).2.2 4000).2.2=0:=by omega
  rw [hq0] at S7;refine j_ (hK4 _ _ (a_ fun K8 hK8=>b_ (L_y (d_ 1 Tryz.underlying179 Z sz3 Z Z Z) Z (L_y (p_ Tryz.underlying3 Z Z (((S7.blk 2 Z).cell _).trans (by rfl))) Z ?_))));refine Lan Z Z (hK8 _ _ (a_ fun K9 hK9=>u_ ?_));refine fw_ [(2,_),(4,_),(5,_)] (fun (p:Nat) (left:Int) (A1:Option Addr) (c1:Nat) (ops:List OP) (ps:List Part)=>[(7,.int .i64 left)]) (fun (p:Nat) (left:Int) (A1:Option Addr) (c1:Nat) (ops:List OP) (ps:List Part)=>m - p) (fun (p:Nat) (left:Int) (A1:Option Addr) (c1:Nat) (ops:List OP) (ps:List Part) (w:World)=>(p≤m∧0≤left∧(ops.length:Int)+left≤4000∧InP ops ps∧RDI l ((vaN l 0 0 4000).1:Int) p left (ops.map OP.v) (rdR l))∧St w0 noM [blk b1 179 #[.int .i64 0,.int .i64 0,.slice none 0 0],rdr g A m c l p 0,blk b5 179 (scA ((vaN l 0 0 4000).1:Int) ((vaN l (vaN l 0 0 4000).2.1 (vaN l 0 0 4000).2.2 4000).1:Int) A1 ops.length c1),row 221 4 A1 ops.length c1 (ops.flatMap opf),fam (ps.map bK_)] w) (vaN l (vaN l 0 0 4000).2.1 (vaN l 0 0 4000).2.2 4000).2.1 ((vaN l (vaN l 0 0 4000).2.1 (vaN l 0 0 4000).2.2 4000).1:Int) none 0 [] [] (Sc Z (Sub.nil _)) (Sub.cons Z Z (Sub.cons Z Z (Sub.cons Z Z (Sub.nil _)))) ?_ ?_
  ·
   have S9:=((S7.nilrow 221 4).fam0);exact ⟨⟨by omega,by omega,by show (0:Int)+_≤4000;omega,(fun o ho=>(List.not_mem_nil ho).elim),RDI.start l ((vaN l 0 0 4000).1:Int) (vaN l (vaN l 0 0 4000).2.1 (vaN l 0 0 4000).2.2 4000).2.1 ((vaN l (vaN l 0 0 4000).2.1 (vaN l 0 0 4000).2.2 4000).1:Int)⟩,S9⟩
  ·
   intro p left A1 c1 ops ps w9 hrel;obtain ⟨⟨hk,hl0,hol,hin,hrd⟩,S9⟩:=hrel;refine a_ fun K10 hK10=>a_ fun K11 hK11=>Rm Z Z (L_o (o_ Tryz.func131 Z Z (rleft g A m c l _ _ w9 (S9.get 1 Z) (by omega)) Z Z ?_));rintro e10 w10 ⟨v10,rfl,l10,rfl⟩;refine ⟨_,rfl,(have S10:=S9.like l10;L_y (aa_ Z Z) Z (f_ (hK11 _ _ ?_)))⟩;refine m_ Z (fun h29=>?_) (fun h29=>?_)
   ·
    obtain ⟨x,hx⟩:∃ x,l[p]?=some x:=⟨_,List.getElem?_eq_getElem (by omega)⟩;refine j_ (hK10 _ _ (u_ (a_ fun K12 hK12=>Rm Z Z (L_y (d_ 0 Tryz.underlying179 Z sz3 Z Z Z) Z (L_y (p_ Tryz.underlying3 Z Z (((S10.blk 2 Z).cell _).trans (by rfl))) Z ?_)))));refine L_o (o_ Tryz.func132 Z Z (rop g A m c l p x ((vaN l 0 0 4000).1:Int) w10 (S10.get 1 Z) hx (by omega) (by omega)) Z Z ?_);rintro e11 w11 ⟨v11,rfl,T11,o,rfl,hov,hr11,hd11⟩;refine ⟨_,rfl,(have S11:=S10.turn 1 Z T11;have S12:=St.newT S10 1 Z T11 (fun i hi=>hi) hr11 (fun i hi=>⟨hd11 i hi,(World.ownsRow.lt hr11 i hi).2⟩);Lm Z Z (L_y (n_ Z Z) Z (L_y (n_ Z Z) Z (L_o (E_ gR_ S12 Z fun b13 w13 hb13 S13=>L_o (B_ S13 6 Z Z Z br_ Z (bC_ o) fun w14 S14=>Lan Z Z (hK12 _ _ (a_ fun K13 hK13=>a_ fun K14 hK14=>b_ ?_))))))))⟩;refine Lm Z Z (L_y (V_ Z Z) Z (f_ (hK14 _ _ ?_)));refine m_ Z (fun h38=>?_) (fun h38=>?_)
    ·
     refine a_ fun K15 hK15=>b_ (L_y (y_ Z (show _=some (scA 0 0 none 0 0) by kernel_rfl)) Z (Lm Z Z (L_o (B_ S14 0 Z Z Z cx_ Z (bq_ _ _ _ _ _) fun w15 S15=>Lan Z Z (hK15 _ _ (l_ (ur (X_ Z Z Z (S15.blk 0 Z) Tryz.underlying179 Z (by exact cx_) ?_))))))));exact ⟨_,rfl,S15.like0,none,0,[],sepL [],by rw [aS_ hq0 (hrd.err hx (by omega)) (by omega)];rfl,⟨fun r hr=>(List.not_mem_nil hr).elim,List.Pairwise.nil⟩,(fun i ⟨r,hr,_⟩=>(List.not_mem_nil hr).elim),(fun W _=>⟨Rs.nil _ 4,fun o ho=>(List.not_mem_nil ho).elim⟩),by rw [aS_ hq0 (hrd.err hx (by omega)) (by omega)];rfl⟩
    ·
     have h380:(rdO l p x ((vaN l 0 0 4000).1:Int)).e=0:=by omega
     obtain ⟨hro1,hro2,hro3,hro4⟩:=rdO_ok hx h380;rw [← hov] at hro4;rw [hro1] at S14;refine j_ (hK13 _ _ (a_ fun K16 hK16=>a_ fun K17 hK17=>b_ (L_y (W_ Tryz.underlying221 Z br_ Z (S14.blk 6 Z) (show _=opf o∧_ from ⟨rfl,rfl⟩)) Z (L_o (o_ Tryz.func133 Z Z (osize o w14 (S14.row 5 Z)) Z Z ?_)))));rintro e16 w16 ⟨v16,rfl,l16,rfl⟩;refine ⟨_,rfl,(have S16:=S14.like l16;Lm Z Z (L_y (aa_ Z Z) Z (f_ (hK17 _ _ ?_))))⟩;refine m_ Z (fun h44=>?_) (fun h44=>?_)
     ·
      refine a_ fun K18 hK18=>b_ (L_y (y_ Z (show _=some (scA 0 0 none 0 0) by kernel_rfl)) Z (L_o (B_ S16 0 Z Z Z cx_ Z (bq_ _ _ _ _ _) fun w17 S17=>Lan Z Z (hK18 _ _ (l_ (ur (X_ Z Z Z (S17.blk 0 Z) Tryz.underlying179 Z (by exact cx_) ?_)))))));exact ⟨_,rfl,S17.like0,none,0,[],sepL [],by rw [aS_ hq0 (hrd.long hx h380 (by rw [← hov];omega)) (by decide)];rfl,⟨fun r hr=>(List.not_mem_nil hr).elim,List.Pairwise.nil⟩,(fun i ⟨r,hr,_⟩=>(List.not_mem_nil hr).elim),(fun W _=>⟨Rs.nil _ 4,fun o ho=>(List.not_mem_nil ho).elim⟩),by rw [aS_ hq0 (hrd.long hx h380 (by rw [← hov];omega)) (by decide)];rfl⟩
     ·
      refine j_ (hK16 _ _ (a_ fun K19 hK19=>Rm Z Z (L_y (W_ Tryz.underlying221 Z br_ Z (S16.blk 6 Z) (show _=opf o∧_ from ⟨rfl,rfl⟩)) Z (L_o (o_ Tryz.func133 Z Z (osize o w16 (S16.row 5 Z)) Z Z ?_)))));rintro e18 w18 ⟨v18,rfl,l18,rfl⟩;refine ⟨_,rfl,(have S18:=S16.like l18;L_y (am_ Z Z (z_ (by omega))) Z (Lan Z Z (hK19 _ _ (b_ (L_y (d_ 2 Tryz.underlying179 Z fF_ Z Z Z) Z (L_y (p_ Tryz.underlying177 Z Z (((S18.blk 2 Z).cell _).trans (by rfl))) Z ?_))))))⟩;refine L_y (W_ Tryz.underlying221 Z br_ Z (S18.blk 6 Z) (show _=opf o∧_ from ⟨rfl,rfl⟩)) Z (L_o (aY_ (opf o) te177 gR_ S18 Z Z Z Z Z Z Z Z fun b19 w19 S19=>L_o (aL_ te177 S19 3 Z Z Z (by first | exact S19.row 3 Z | exact S19.fix 4 Z | exact S19.row 5 Z | exact S19.row 7 Z) (bC_ o) Z (by omega) (by omega) fun A20 c20 w20 S20=>?_)));have S20d:=S20.drop (rs':=[_,_,_,_,_,_,_]) (.cons_cons _ (.cons_cons _ (.cons_cons _ (.cons_cons _ (.cons_cons _ (.cons_cons _ (.cons_cons _ (.cons _ (.refl _)))))))));refine L_y (d_ 2 Tryz.underlying179 Z fF_ Z Z Z) Z (L_o (Y_ S20d 2 Z Z Z Z fF_ (by show 2 < 3;decide) fun w21 S21=>?_));refine f_ ?_;have S91:=S21.blkc 2 Z ((hg_ ((vaN l 0 0 4000).1:Int) ((vaN l (vaN l 0 0 4000).2.1 (vaN l 0 0 4000).2.2 4000).1:Int) A1 ops.length c1 A20 (ops.length+1) c20).trans (show _=scA ((vaN l 0 0 4000).1:Int) ((vaN l (vaN l 0 0 4000).2.1 (vaN l 0 0 4000).2.2 4000).1:Int) A20 (ops++[o]).length c20 from by rw [List.length_append];rfl));have S92:=S91.rowc 3 Z (n':=(ops++[o]).length) (xs':=(ops++[o]).flatMap opf) (by rw [List.length_append];rfl) (by rw [List.flatMap_append];simp);have S93:=(S92.still 5 Z).sel [0,1,2,3,4,5] (by decide);have S94:=famAdd (rs:=[_,_,_,_,fam (ps.map bK_)]) (ps:=ps) (p:=o.p) S93 4 Z;refine ⟨(rdO l p x ((vaN l 0 0 4000).1:Int)).p,left - szV o.v,A20,c20,ops++[o],ps++[o.p],by omega,⟨⟨by omega,by omega,by rw [List.length_append,List.length_singleton];omega,hin.add,by rw [List.map_append,List.map_singleton,hov];exact hrd.next hx h380 (by rw [← hov];omega)⟩,S94⟩,?_⟩;exact (Sc Z (Sub.cons Z Z (Sub.cons Z Z (Sub.cons Z Z (Sub.nil _)))))
   ·
    refine P_ (hK9 _ _ (a_ fun K20 hK20=>a_ fun K21 hK21=>Rm Z Z (L_y (aa_ Z Z) Z (f_ (hK21 _ _ ?_)))));refine m_ Z (fun h57=>?_) (fun h57=>?_)
    ·
     refine a_ fun K22 hK22=>b_ (L_y (y_ Z (show _=some (scA 0 0 none 0 0) by kernel_rfl)) Z (L_o (B_ S10 0 Z Z Z cx_ Z (bq_ _ _ _ _ _) fun w22 S22=>Lan Z Z (hK22 _ _ (l_ (ur (X_ Z Z Z (S22.blk 0 Z) Tryz.underlying179 Z (by exact cx_) ?_)))))));have hst:=hrd.stop (by omega);rw [if_pos (by omega)] at hst;exact ⟨_,rfl,S22.like0,none,0,[],sepL [],by rw [aS_ hq0 hst (by decide)];rfl,⟨fun r hr=>(List.not_mem_nil hr).elim,List.Pairwise.nil⟩,(fun i ⟨r,hr,_⟩=>(List.not_mem_nil hr).elim),(fun W _=>⟨Rs.nil _ 4,fun o ho=>(List.not_mem_nil ho).elim⟩),by rw [aS_ hq0 hst (by decide)];rfl⟩
    ·
     refine j_ (hK20 _ _ (a_ fun K23 hK23=>b_ (L_y (W_ Tryz.underlying179 Z cx_ Z (S10.blk 2 Z) (show _=(scA ((vaN l 0 0 4000).1:Int) ((vaN l (vaN l 0 0 4000).2.1 (vaN l 0 0 4000).2.2 4000).1:Int) A1 ops.length c1).toList∧_ from ⟨rfl,rfl⟩)) Z (L_o (B_ S10 0 Z Z Z cx_ Z (bq_ _ _ _ _ _) fun w23 S23=>Lan Z Z (hK23 _ _ (l_ (ur (X_ Z Z Z (S23.blk 0 Z) Tryz.underlying179 Z (by exact cx_) ?_)))))))));have hst:=hrd.stop (by omega);rw [if_neg (by omega)] at hst;have S24:Zx.St w0 noM [row 221 4 A1 ops.length c1 (ops.flatMap opf),fam (ps.map bK_)] w23:=S23.sel [3,4] (by decide);exact ⟨_,rfl,S23.like0,A1,c1,ops,sepL [row 221 4 A1 ops.length c1 (ops.flatMap opf),fam (ps.map bK_)],by rw [hj_ hq0 hst],S24.getAll,(fun i hi=>by obtain ⟨r,hr,hd⟩:=hi;have h:=(S24.res r hr).2 i hd;exact ⟨h.2.resolve_right (fun q=>q),h.1⟩),(fun W h=>⟨bF_ (h.1 (row 221 4 A1 ops.length c1 (ops.flatMap opf)) (List.mem_cons_self ..)).1,okO_of hin (h.1 (fam (ps.map bK_)) (List.mem_cons_of_mem _ (List.mem_cons_self ..))).1⟩),by rw [hj_ hq0 hst]⟩
end Del
end Go.Proofs.YtgaklngnfecdaaaGreat
