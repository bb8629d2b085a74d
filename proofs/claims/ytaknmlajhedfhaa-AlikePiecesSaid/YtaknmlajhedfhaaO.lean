/-
  The program: Pieces.
-/
import Derived.Test.YtaknmlajhedfhaaN
import Derived.Shelf.SlSortCmp.NoneTotal
namespace Go.Proofs
open Go.Shelf Go.RowKit Go.Lib Go.Sort
def Ytaknmlajhedfhaa.sortL_ren : Go.Shelf.Ren := ⟨fun | 6 => 21 | 15 => 30 | 14 => 29 | 28 => 42 | 29 => 43 | 20 => 34 | 21 => 35 | 22 => 36 | 23 => 37 | 24 => 38 | 25 => 39 | 26 => 40 | 27 => 41 | 46 => 53 | 47 => 54 | 48 => 55 | 49 => 56 | 50 => 57 | 57 => 61 | n => n, fun | 22 => 28 | 24 => 33 | 25 => 52 | 3 => 3 | 39 => 61 | 0 => 0 | 53 => 74 | 55 => 76 | 4 => 4 | 46 => 67 | 45 => 66 | 50 => 71 | 5 => 5 | 9 => 9 | 66 => 82 | 70 => 86 | 76 => 90 | 77 => 91 | n => n, fun | n => n⟩
theorem Ytaknmlajhedfhaa.sortL : Go.Proofs.SlLaysF0.n6 Try.prog Ytaknmlajhedfhaa.sortL_ren := {
  mixed := by kernel_rfl,
  f6 := ⟨Try.f21.name, by decide, Try.func21.trans (congrArg some (by kernel_rfl))⟩,
  f14 := ⟨Try.f29.name, by decide, Try.func29.trans (congrArg some (by kernel_rfl))⟩,
  f15 := Try.func30.trans (congrArg some (by kernel_rfl)),
  f20 := ⟨Try.f34.name, by decide, Try.func34.trans (congrArg some (by kernel_rfl))⟩,
  f21 := ⟨Try.f35.name, by decide, Try.func35.trans (congrArg some (by kernel_rfl))⟩,
  f22 := ⟨Try.f36.name, by decide, Try.func36.trans (congrArg some (by kernel_rfl))⟩,
  f23 := ⟨Try.f37.name, by decide, Try.func37.trans (congrArg some (by kernel_rfl))⟩,
  f24 := ⟨Try.f38.name, by decide, Try.func38.trans (congrArg some (by kernel_rfl))⟩,
  f25 := ⟨Try.f39.name, by decide, Try.func39.trans (congrArg some (by kernel_rfl))⟩,
  f26 := ⟨Try.f40.name, by decide, Try.func40.trans (congrArg some (by kernel_rfl))⟩,
  f27 := ⟨Try.f41.name, by decide, Try.func41.trans (congrArg some (by kernel_rfl))⟩,
  f28 := Try.func42.trans (congrArg some (by kernel_rfl)),
  f29 := Try.func43.trans (congrArg some (by kernel_rfl)),
  f46 := ⟨Try.f53.name, by decide, Try.func53.trans (congrArg some (by kernel_rfl))⟩,
  f47 := Try.func54.trans (congrArg some (by kernel_rfl)),
  f48 := Try.func55.trans (congrArg some (by kernel_rfl)),
  f49 := ⟨Try.f56.name, by decide, Try.func56.trans (congrArg some (by kernel_rfl))⟩,
  f50 := ⟨Try.f57.name, by decide, Try.func57.trans (congrArg some (by kernel_rfl))⟩,
  f57 := ⟨Try.f61.name, by decide, Try.func61.trans (congrArg some (by kernel_rfl))⟩,
  t0 := Try.underlying0,
  a0 := Try.isAgg0,
  z0 := Try.sizeOf0,
  v0 := Try.zeroValue0,
  t3 := Try.underlying3,
  a3 := Try.isAgg3,
  z3 := Try.sizeOf3,
  v3 := Try.zeroValue3,
  t4 := Try.underlying4,
  a4 := Try.isAgg4,
  z4 := Try.sizeOf4,
  v4 := Try.zeroValue4,
  t5 := Try.underlying5,
  a5 := Try.isAgg5,
  z5 := Try.sizeOf5,
  v5 := Try.zeroValue5,
  t9 := Try.underlying9,
  a9 := Try.isAgg9,
  z9 := Try.sizeOf9,
  v9 := Try.zeroValue9,
  t22 := Try.underlying28,
  a22 := Try.isAgg28,
  z22 := Try.sizeOf28,
  v22 := Try.zeroValue28,
  t25 := Try.underlying52,
  a25 := Try.isAgg52,
  z25 := Try.sizeOf52,
  v25 := Try.zeroValue52,
  t39 := Try.underlying61,
  a39 := Try.isAgg61,
  z39 := Try.sizeOf61,
  v39 := Try.zeroValue61,
  t45 := Try.underlying66,
  a45 := Try.isAgg66,
  z45 := Try.sizeOf66,
  v45 := Try.zeroValue66,
  t46 := Try.underlying67,
  a46 := Try.isAgg67,
  z46 := Try.sizeOf67,
  v46 := Try.zeroValue67,
  t50 := Try.underlying71,
  a50 := Try.isAgg71,
  z50 := Try.sizeOf71,
  v50 := Try.zeroValue71,
  t53 := Try.underlying74,
  a53 := Try.isAgg74,
  z53 := Try.sizeOf74,
  v53 := Try.zeroValue74,
  t55 := Try.underlying76,
  a55 := Try.isAgg76,
  z55 := Try.sizeOf76,
  v55 := Try.zeroValue76,
  t66 := Try.underlying82,
  a66 := Try.isAgg82,
  z66 := Try.sizeOf82,
  v66 := Try.zeroValue82,
  t70 := Try.underlying86,
  a70 := Try.isAgg86,
  z70 := Try.sizeOf86,
  v70 := Try.zeroValue86,
  t76 := Try.underlying90,
  a76 := Try.isAgg90,
  z76 := Try.sizeOf90,
  v76 := Try.zeroValue90,
  t77 := Try.underlying91,
  a77 := Try.isAgg91,
  z77 := Try.sizeOf91,
  v77 := Try.zeroValue91 }
end Go.Proofs
namespace Go.Proofs.Ytaknmlajhedfhaa
open Go.Sort
open Go.RowKit Zk Zx
set_option linter.unusedVariables false
set_option linter.unusedSimpArgs false

theorem pcf_one2 (x : PC) : ∀ v ∈ pcf x, v.oneCell' = true := fun v hv => by
  simp only [pcf, List.mem_cons, List.not_mem_nil, or_false] at hv
  rcases hv with rfl | rfl <;> rfl
/-- The library's sort, of pieces. -/
theorem sortP (b n c : Nat) (ys : List PC) (w0 : World) (hn : ys.length = n) (h : w0.ownsRow 0 33 2 (.slice (some ⟨b, 0, none⟩) n c) n (ys.flatMap pcf)) (hsz : n < 4611686018427387904) :
    Calls Try.prog 21 #[.slice (some ⟨b, 0, none⟩) n c, .func (.func 22) #[] #[]] w0 fun e w' => ∃ u, e = .returned u ∧ ∃ zs : List PC, zs.Perm ys ∧ (∀ i j (hi : i < zs.length) (hj : j < zs.length), i < j → bl zs[j].t zs[i].t = false) ∧
      Turned w0 w' (row 33 2 (some ⟨b, 0, none⟩) n c (ys.flatMap pcf)) (row 33 2 (some ⟨b, 0, none⟩) n c (zs.flatMap pcf)) := by
  have eg : ∀ args w, (callFunc 22 args).run Try.prog w = .ok (.enter 22 args) w := enters_of Try.func22 (by kernel_rfl) rfl
  obtain ⟨hH, hb⟩ := own_holds (enc := pcf) (k := 2) (d := ys.toArray) (fun _ => rfl) (by decide) (by simpa using hn) h
  have hcon := AnyQ.slices_SortFunc Ytaknmlajhedfhaa.sortL 2 Try.isAgg33 Try.sizeOf33 pcf (fun _ => rfl) pcf_one2 (fun x y => Lib.compareBytes x.t y.t) swoP 22 #[] b 0 c ys.toArray w0 eg (cmpLays22 b 0 _ w0) hH hb (by simpa using (by omega : ys.length < 4611686018427387904))
  have e1 : ys.toArray.size = n := by simpa using hn
  rw [e1] at hcon
  refine hcon.mono fun e w' ⟨he, d', m, os, hp, hs, hw⟩ => ⟨_, he, d'.toList, ?_, fun i j hi hj hij => ?_, ?_⟩
  · have h3 := hp.2.2
    have h4 : d'.size = n := by rw [hp.1]; exact e1
    rw [show (d'.extract 0 n) = d' by rw [← h4]; simp, show ys.toArray.extract 0 n = ys.toArray by rw [← e1]; simp] at h3
    exact h3
  · have h4 : d'.size = n := by rw [hp.1]; exact e1
    have h5 := hs i j (Nat.zero_le _) hij (by simpa [h4] using hj)
    unfold ltOf at h5
    rw [cmp_bl] at h5
    rw [getElem!_pos d' i (by simpa using hi), getElem!_pos d' j (by simpa using hj)] at h5
    exact h5
  · subst hw
    obtain ⟨hg, ho⟩ := own_sorted (enc := pcf) (k := 2) (fun _ => rfl) (by decide) h (d' := d') (by rw [hp.1]; exact e1) m os
    exact ⟨hg.os, hg.tape, hg.output, hg.size, fun i hi hne => hg.block i hi (fun e => hne (by injection e with e; rw [e]; rfl)), ho, fun i hi => .inl hi⟩


/-- The same, whatever the slice. -/
theorem sortPA (A : Option Addr) (n c : Nat) (ys : List PC) (w0 : World) (hn : ys.length = n) (h : w0.ownsRow 0 33 2 (.slice A n c) n (ys.flatMap pcf)) (hsz : n < 4611686018427387904) :
    Calls Try.prog 21 #[.slice A n c, .func (.func 22) #[] #[]] w0 fun e w' => ∃ u, e = .returned u ∧ ∃ zs : List PC, zs.Perm ys ∧ (∀ i j (hi : i < zs.length) (hj : j < zs.length), i < j → bl zs[j].t zs[i].t = false) ∧
      Turned w0 w' (row 33 2 A n c (ys.flatMap pcf)) (row 33 2 A n c (zs.flatMap pcf)) := by
  rcases h.2 with ⟨h1, h2⟩ | ⟨b, cap, cur, h1, _⟩
  · cases h1
    have e0 : ys = [] := List.eq_nil_of_length_eq_zero (by omega)
    subst e0
    exact (AnyF.slices_SortFunc_none Ytaknmlajhedfhaa.sortL none 0 (.func (.func 22) #[] #[]) w0).mono fun e w' ⟨he, hw⟩ => ⟨_, he, [], .refl _, (fun i j hi => by cases hi), by subst hw; exact Turned.refl h⟩
  · cases h1
    exact sortP b n c ys w0 hn h hsz
theorem nodup_len {α : Type} [DecidableEq α] : ∀ (a b : List α), a.Nodup → (∀ x ∈ a, x ∈ b) → a.length ≤ b.length
  | [], b, _, _ => Nat.zero_le _
  | x :: a, b, hn, h => by
    rw [List.nodup_cons] at hn
    have hx := h x List.mem_cons_self
    have ih := nodup_len a (b.erase x) hn.2 fun y hy => (List.mem_erase_of_ne (fun e => by subst e; exact hn.1 hy)).2 (h y (List.mem_cons_of_mem _ hy))
    rw [List.length_erase_of_mem hx] at ih
    have := List.length_pos_of_mem hx
    rw [List.length_cons]
    omega
theorem VIS.len {L : List (List UInt8)} {left : Lit → Bool} {ys : List PC} (h : VIS L left ys) : ys.length ≤ L.length := by
  have := nodup_len (ys.map PC.t) L h.1 fun t ht => by
    obtain ⟨x, hx, rfl⟩ := List.mem_map.1 ht
    exact (h.2.1 x hx).1
  rwa [List.length_map] at this
theorem cuts_len (l : List UInt8) : (cuts l).length ≤ l.length := by
  have := cutF_len l []
  unfold cuts
  simpa using this


set_option maxRecDepth 100000 in
theorem ppieces (A : Option Addr) (n cc : Nat) (l : List UInt8) (w0 : World) (hb : Rs w0 1 A n cc (bL l)) (hn : n ≤ 4398046511104) :
    Calls Try.prog 13 #[.slice A n cc] w0 fun e w' => ∃ u, e = .returned u ∧ Like w0 w' ∧ ∃ A m c xs, u = .slice A m c ∧ w'.ownsRow w0.heap.size 33 2 (.slice A m c) m (xs.flatMap pcf) ∧ PS xs (cuts l) := by
  refine enter1 (env := [(0, .slice A n cc)]) [.slice A n cc] Try.func13 rfl Try.ntmps13 rfl rfl ?_
  have hln := hb.lenb; have S0 := St.start w0 noM
  refine T_seq fun K1 hK1 => ?_
  refine T_region ?_
  refine L_y (y_assign rfl) rfl ?_
  refine L_nil ?_
  refine hK1 _ _ ?_
  refine T_seq fun K2 hK2 => ?_
  refine T_region ?_
  have S1 := S0.nilrow 33 2
  refine L_y (y_assign rfl) rfl ?_
  refine L_nil ?_
  refine hK2 _ _ ?_
  refine T_seq fun K3 hK3 => ?_
  refine T_seq fun K4 hK4 => ?_
  refine T_region ?_
  refine L_y (y_move rfl) rfl ?_
  refine L_o (o_call Try.func20 rfl rfl (counts A n cc l w0 (S1.rd hb) (by omega)) rfl rfl ?_)
  rintro e2 w2 ⟨v2, rfl, l2, b7, D7, k7, rfl, hb7, hh7, hD7, hk7⟩
  refine ⟨_, rfl, ?_⟩
  have S2 := S1.new l2 _ hh7 (mapR_new hb7 hh7)
  refine L_o (o_range S2 1 rfl (Maps.string_keyed Try.underlying9) Try.underlying48 rfl rfl fun r3 w3 S3 => ?_)
  refine L_nil ?_
  refine hK4 _ _ ?_
  refine T_block ?_
  refine T_loop5 [(8, _)] (fun (left : Lit → Bool) (cnt : Nat) (ys : List PC) (A1 : Option Addr) (c1 : Nat) => [(3, .slice A1 ys.length c1)]) (fun (left : Lit → Bool) (cnt : Nat) (ys : List PC) (A1 : Option Addr) (c1 : Nat) => cnt) (fun (left : Lit → Bool) (cnt : Nat) (ys : List PC) (A1 : Option Addr) (c1 : Nat) (w : World) => St w0 noM [row 33 2 A1 ys.length c1 (ys.flatMap pcf), rngR Try.prog 9 3 b7 r3 k7 D7 left cnt] w ∧ VIS (cuts l) left ys) (Maps.has D7) (Maps.size D7) [] none 0 (Sub.cons rfl (by first | rfl | exact congrArg (Value.int _) (by omega)) (Sub.nil _)) (Sub.cons rfl rfl (Sub.nil _)) ?_ ?_
  ·
    exact ⟨S3, VIS.start hD7⟩
  ·
    intro left cnt ys A1 c1 w4 hrel
    obtain ⟨S4, hvis⟩ := hrel
    refine T_seq fun K5 hK5 => ?_
    refine T_region ?_
    refine L_o (o_next S4 1 rfl (Maps.string_keyed Try.underlying9) Try.underlying9 Try.underlying3 rfl rfl (fun hl => ?_) (fun s5 k5 cnt5 w5 hl hat hs hlt S5 hen => ?_))
    ·
      refine L_y (y_extract rfl rfl) rfl ?_
      refine L_nil ?_
      refine hK5 _ _ ?_
      refine T_seq fun K6 hK6 => ?_
      refine T_false rfl ?_
      refine T_exit ?_
      refine hK3 _ _ ?_
      refine T_seq fun K7 hK7 => ?_
      refine T_region ?_
      refine L_y (y_move rfl) rfl ?_
      refine L_o (o_call Try.func21 rfl rfl (sortPA A1 ys.length c1 ys w4 rfl (S4.get 0 rfl) (by have := hvis.len; have := cuts_len l; omega)) rfl rfl ?_)
      rintro e6 w6 ⟨v6, rfl, zs, hp, hs, T6⟩
      refine ⟨_, rfl, ?_⟩
      have S6 := S4.turn 0 rfl T6
      refine L_nil ?_
      refine hK7 _ _ ?_
      refine T_seq fun K8 hK8 => ?_
      refine T_region ?_
      refine L_y (y_move rfl) rfl ?_
      refine L_y (y_assign rfl) rfl ?_
      refine L_nil ?_
      refine hK8 _ _ ?_
      refine T_ret ?_
      repeat (first | with_reducible refine up_then ?_ | with_reducible refine up_in ?_)
      refine ret1 rfl rfl ?_
      exact ⟨_, rfl, S6.like0, _, _, _, zs, rfl, S6.own 0 rfl, hvis.sorted hl hp hs⟩
    ·
      have hhas := Maps.has_true_of_atKey hat
      have hmem := hD7.mem_of hhas
      have hkc : k5 = (((cuts l).count s5.data.toList : Nat) : Int) := by have h1 := hat (.lit (.int .i64 0)); rw [hD7.at_] at h1; simpa using h1.symm
      subst hkc
      have hvis2 := hvis.step hl hmem rfl
      have hyl := hvis2.len
      have hcl := cuts_len l
      rw [List.length_append] at hyl
      simp only [List.length_cons, List.length_nil] at hyl
      refine L_y (y_extract rfl rfl) rfl ?_
      refine L_nil ?_
      refine hK5 _ _ ?_
      refine T_seq fun K9 hK9 => ?_
      refine T_true rfl ?_
      refine T_skip ?_
      refine hK9 _ _ ?_
      refine T_block ?_
      refine T_seq fun K10 hK10 => ?_
      refine T_region ?_
      refine L_o (o_entry rfl hen rfl ?_)
      refine L_y (y_extract rfl rfl) rfl ?_
      refine L_y (y_extract rfl rfl) rfl ?_
      refine L_y (y_assign rfl) rfl ?_
      refine L_y (y_assign rfl) rfl ?_
      refine L_nil ?_
      refine hK10 _ _ ?_
      refine T_region ?_
      refine L_y (y_move rfl) rfl ?_
      refine L_y (y_move rfl) rfl ?_
      refine L_y (y_move rfl) rfl ?_
      refine L_y (y_build rfl (show _ = some #[Value.string s5, Value.int .i64 (((cuts l).count s5.data.toList : Nat) : Int)] by kernel_rfl)) rfl ?_
      refine L_o (o_bsl [_, _] te28 zz33 S5 rfl rfl rfl rfl rfl rfl rfl rfl fun b8 w8 S8 => ?_)
      refine L_o (o_app te28 S8 0 rfl rfl rfl (by first | exact S8.row 0 rfl | exact S8.row 2 rfl) (fun u hu => by simp at hu; rcases hu with rfl | rfl <;> rfl) rfl (by omega) (by omega) fun A9 c9 w9 S9 => ?_)
      have S9d := S9.drop (rs' := [_, _]) (.cons_cons _ (.cons_cons _ (.cons _ (.refl _))))
      refine L_y (y_assign rfl) rfl ?_
      refine L_nil ?_
      have S91 := S9d.rowc 0 rfl (n' := (ys ++ [(⟨s5.data.toList, (cuts l).count s5.data.toList⟩ : PC)]).length) (xs' := (ys ++ [(⟨s5.data.toList, (cuts l).count s5.data.toList⟩ : PC)]).flatMap pcf) (by simp) (by rw [List.flatMap_append]; exact congrArg _ (by simp [pcf, sV]))
      refine ⟨_, cnt5, ys ++ [(⟨s5.data.toList, (cuts l).count s5.data.toList⟩ : PC)], _, _, hlt, ⟨S91, hvis2⟩, ?_⟩
      exact (Sub.cons rfl (by first | rfl | (rw [List.length_append]; rfl)) (Sub.cons rfl rfl (Sub.nil _)))
end Go.Proofs.Ytaknmlajhedfhaa
