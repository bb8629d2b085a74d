import Derived.Test.YtgaklngnfecdaaaMgJBack4
import Derived.Test.YtgaklngnfecdaaaMgJBack2

/-
  '[]byte(s)': a row of the call's own that bears a mark behind its cells; append onto it.
-/
namespace Go.Proofs.Ytgaklngnfecdaaa.Zx
open Go.RowKit Zk
set_option linter.unusedVariables false
set_option linter.unusedSimpArgs false
/-- A row whose mark, if there is one, lies behind its cells. -/
def OwnM (w : World) (e : TypeId) (A : Option Addr) (n c : Nat) (xs : List Value) : Prop :=
  xs.length = n ∧ ∃ g cur fz, A = some ⟨g, 0, none⟩ ∧ w.heap[g]? = some (.cells cur e fz) ∧ (fz = (0, 0) ∨ cur.size ≤ fz.1) ∧ n ≤ c ∧ c ≤ maxLen ∧ cur.size = c ∧ cur.toList.take n = xs
def rowM (e : TypeId) (A : Option Addr) (n c : Nat) (xs : List Value) : Res where
  dom i := (Value.slice A n c).ownBlock = some i
  holds w := OwnM w e A n c xs
  stable w w' h hh := by
    obtain ⟨h0, g, cur, fz, h1, h2, h3⟩ := hh
    refine ⟨h0, g, cur, fz, h1, ?_, h3⟩
    rw [← h2]
    exact h g (by rw [h1]; rfl)
theorem OwnM.rs {w : World} {e : TypeId} {A : Option Addr} {n c : Nat} {xs : List Value} (h : OwnM w e A n c xs) : Rs w 1 A n c xs := by
  obtain ⟨h0, g, cur, fz, rfl, hg, hfz, hnc, hcm, hcs, htk⟩ := h
  refine ⟨⟨by omega, fun hn => ⟨_, rfl, (Array.getElem?_eq_some_iff.1 hg).1, fun j u hu => ?_⟩⟩, hnc, by unfold maxLen at hcm; exact hcm⟩
  rw [Addr.add_mid, cell_of_row w g _ cur e fz hg, Nat.zero_add]
  rw [← htk, List.getElem?_take] at hu
  split at hu
  · simpa using hu
  · cases hu
section
variable {P : Program} {N : Nat} {Q : Exit → Env → World → Prop} {env : Env} {w w0 : World} {M : Nat → Prop} {rs : List Res} {K : Env → World → Prop} {d : Tmp} {ty : TypeId} {pos : String} {after : Array Edge} {g : Option (Nat × Bool)}
theorem St.rowM (S : St w0 M rs w) (k : Nat) {e n c : Nat} {A : Option Addr} {xs : List Value} (hk : rs[k]? = some (Zx.rowM e A n c xs)) : Rs w 1 A n c xs := OwnM.rs (S.get k hk)
theorem St.frM (S : St w0 noM rs w) (k : Nat) {e n c : Nat} {A : Option Addr} {xs : List Value} (hk : rs[k]? = some (Zx.rowM e A n c xs)) : Fr w0 w 1 A n c xs :=
  ⟨S.rowM k hk, fun ad hn hA => by
    have := ((S.res _ (List.mem_of_getElem? hk)).2 ad.block (by show (Value.slice A n c).ownBlock = _; rw [hA]; rfl)).2
    rcases this with h | h
    · exact h
    · exact h.elim⟩
theorem o_sbytesM {src dt e : TypeId} {x : Operand} {s : ByteArray} (hs : P.underlying src = some .string) (hd : P.underlying dt = some (.slice e)) (he : P.underlying e = some (.int .u8)) (hx : ev env x = some (.string s)) (hlen : s.size ≤ 4611686018427387904) (S : St w0 M rs w) (hdN : Nat.blt d N = true)
    (h : ∀ b c w', Like w w' → St w0 M (rs ++ [rowM e (some ⟨b, 0, none⟩) s.size c (bL s.data.toList)]) w' → K ((d, .slice (some ⟨b, 0, none⟩) s.size c) :: env) w') :
    O P N Q ⟨some d, .convert src dt x, ty, pos, after, g⟩ env w K := fun a ha => by
  have hr := run_bytes_of_string (P := P) w src dt e s hs hd he
  have hcap := grownCap_ge w s.size 0 e
  have hmax := grownCap_le_maxLen w s.size 0 e (by unfold maxLen; omega)
  generalize grownCap w s.size 0 e = cap at *
  have hsz : (bytesRow s cap).size = cap := by unfold bytesRow; simp only [Array.size_append, Array.size_map, Array.size_replicate]; have : s.data.size = s.size := rfl; omega
  have htk : (bytesRow s cap).toList.take s.size = bL s.data.toList := by
    unfold bytesRow
    rw [Array.toList_append, List.take_append_of_le_length (by simp)]
    rw [List.take_of_length_le (by simp)]
    simp [bL]
    intro a _
    rfl
  generalize bytesRow s cap = C at *
  have hl : Like w (w.drew.alloc (.cells C e (C.size, C.size + 1))) := Like.trans (Like.drew w) (like_alloc _ _)
  have hblk : (w.drew.alloc (.cells C e (C.size, C.size + 1))).heap[w.heap.size]? = some (.cells C e (C.size, C.size + 1)) := heap_alloc_new w.drew _
  unfold Oper.wp execOp
  simp only [ha.eval hx, Sem.run_bind, hr, Result.andThen_ok, Sem.run_pure]
  refine ⟨_, ha.put d _ hdN, h _ _ _ hl (S.new hl _ ⟨by simp [size_toList], w.heap.size, C, _, rfl, hblk, .inr (Nat.le_refl _), hcap, hmax, hsz, htk⟩ fun i hi => ?_)⟩
  change (Value.slice (some ⟨w.heap.size, 0, none⟩) s.size cap).ownBlock = some i at hi
  simp only [Value.ownBlock, Option.some.injEq] at hi
  subst hi
  exact ⟨Nat.le_refl _, (Array.getElem?_eq_some_iff.1 hblk).1⟩
theorem storeCellsM (b o : Nat) (t : TypeId) (fz : Nat × Nat) : ∀ (vs : List Value) (i : Nat) (cur : Array Value) (w : World), w.heap[b]? = some (.cells cur t fz) → (fz = (0, 0) ∨ cur.size ≤ fz.1) → o + i + vs.length ≤ cur.size → (∀ v ∈ vs, v.oneCell' = true) →
    (storeCells ⟨b, o, none⟩ vs i).run P w = .ok () (w.setRow b (cur.toList.take (o + i) ++ vs ++ cur.toList.drop (o + i + vs.length)).toArray)
  | [], i, cur, w, hg, _, _, _ => by
    simp only [storeCells, List.append_nil, List.length_nil, Nat.add_zero, List.take_append_drop, Array.toArray_toList]
    rw [setRow_self w b cur t fz hg]
    rfl
  | v :: rest, i, cur, w, hg, hfz, hl, h1 => by
    have hi : o + i < cur.size := by simp at hl; omega
    have hadd : (⟨b, o, none⟩ : Addr).add i = ⟨b, o + i, none⟩ := by unfold Addr.add; split <;> simp_all
    have hcell : w.cell? ⟨b, o + i, none⟩ = some cur[o + i] := by simp [World.cell?, hg, hi]
    have hfro : w.frozen? ⟨b, o + i, none⟩ = false := by
      obtain ⟨lo, hi'⟩ := fz
      rcases hfz with h | h
      · cases h
        simp [World.frozen?, hg]
      · simp only [World.frozen?, hg, Bool.and_eq_false_iff, decide_eq_false_iff_not]
        left
        simp only at h
        omega
    have hst : (store ((⟨b, o, none⟩ : Addr).add i) v).run P w = .ok () (w.setRow b (cur.setIfInBounds (o + i) v)) := by
      rw [hadd, run_store P w _ v _ (h1 v (by simp)), hcell]
      simp [hfro, setCell_eq_setRow w b (o + i) cur t fz v hg]
    have ih := storeCellsM b o t fz rest (i + 1) (cur.setIfInBounds (o + i) v) (w.setRow b (cur.setIfInBounds (o + i) v)) (setRow_heap w b cur _ t _ hg) (by simpa using hfz) (by simp at hl ⊢; omega) (fun x hx => h1 x (by simp [hx]))
    simp only [storeCells, Sem.run_bind, hst, Result.andThen_ok, ih, setRow_setRow]
    congr 3
    have e := list_seg_step cur.toList (o + i) v rest (by simp at hl ⊢; omega)
    simpa [Array.toList_setIfInBounds, Nat.add_assoc] using e
theorem appendRoomM (w : World) (t ty e : TypeId) (i : TypeInfo) (ht : P.underlying t = some (.slice e)) (hi : P.info? e = some i) (hs1 : i.size = 1)
    (b sLen sCap : Nat) (cur : Array Value) (fz : Nat × Nat) (hg : w.heap[b]? = some (.cells cur e fz)) (hfz : fz = (0, 0) ∨ cur.size ≤ fz.1)
    (a : Addr) (m c : Nat) (news : List Value) (hl : news.length = m) (hnews : ∀ j u, news[j]? = some u → w.cell? (a.add j) = some u) (h1 : ∀ u ∈ news, u.oneCell' = true)
    (hroom : sLen + m ≤ sCap) (hfit : sLen + news.length ≤ cur.size) :
    (Builtin.append_ #[t, t] ty #[.slice (some ⟨b, 0, none⟩) sLen sCap, .slice (some a) m c]).run P w =
      .ok (.slice (some ⟨b, 0, none⟩) (sLen + m) sCap) (w.setRow b (cur.toList.take sLen ++ news ++ cur.toList.drop (sLen + news.length)).toArray) := by
  have hf := run_firstCells_some (P := P) w 1 m a m c news (by omega) hnews
  have hst := storeCellsM (P := P) b sLen e fz news 0 cur w hg hfz (by simpa using hfit) h1
  simp only [Nat.add_zero] at hst
  simp [Builtin.append_, run_underlying ht, sizeOf, typeInfo, hi, hs1, Builtin.lenOf, hroom, hf, Addr.add_lit, hst]
theorem run_appM (w : World) (t ty e : TypeId) (i : TypeInfo) (z : Value) (ht : P.underlying t = some (.slice e)) (hi : P.info? e = some i) (hz : i.zero = some z)
    (hsize : i.size = 1) (hzs : z.cells.size = 1) {A : Option Addr} {n c : Nat} {xs : List Value} (hown : OwnM w e A n c xs)
    (A' : Option Addr) (m c' : Nat) (news : List Value) (hr : Reads w w.heap.size 1 A' m news) (h1 : ∀ u ∈ news, u.oneCell' = true)
    (h63 : n + m ≤ maxLen) (hbytes : (n + m) * i.bytes ≤ 140737488355328) :
    ∃ A2 c2 w', (Builtin.append_ #[t, t] ty #[.slice A n c, .slice A' m c']).run P w = .ok (.slice A2 (n + m) c2) w' ∧ OwnM w' e A2 (n + m) c2 (xs ++ news) ∧ w.grownBy w' (Value.slice A n c).ownBlock ∧
      ((Value.slice A2 (n + m) c2).ownBlock = (Value.slice A n c).ownBlock ∨ (Value.slice A2 (n + m) c2).ownBlock = some w.heap.size ∧ w.heap.size < w'.heap.size) := by
  have hown0 := hown
  obtain ⟨h0, b, cur, fz, rfl, hg, hfz, hnc, hcm, hcs, htk⟩ := hown
  have hnl : news.length = m := by have := hr.1; omega
  rcases A' with _ | ad
  · have hm : m = 0 := by
      rcases Nat.eq_zero_or_pos m with h | h
      · exact h
      · obtain ⟨ad, h, _⟩ := hr.2 h
        cases h
    subst hm
    have hn : news = [] := List.eq_nil_of_length_eq_zero hnl
    subst hn
    refine ⟨_, c, w, ?_, by simpa using hown0, World.grownBy.refl w _, .inl rfl⟩
    simp [Builtin.append_, run_underlying ht, sizeOf, typeInfo, hi, Builtin.lenOf, Builtin.firstCells, hnc, storeCells]
  · have hcells : ∀ j u, news[j]? = some u → w.cell? (ad.add j) = some u := by
      intro j u hu
      rcases Nat.eq_zero_or_pos m with hm0 | hm0
      · have : news = [] := List.eq_nil_of_length_eq_zero (by omega)
        rw [this] at hu
        simp at hu
      · obtain ⟨ad', h, _, hc⟩ := hr.2 hm0
        injection h with h
        subst h
        exact hc j u hu
    have hlen : (xs ++ news).length = n + m := by rw [List.length_append]; omega
    by_cases hroom : n + m ≤ c
    · have hr2 := appendRoomM (P := P) w t ty e i ht hi hsize b n c cur fz hg hfz ad m c' news hnl hcells h1 hroom (by omega)
      refine ⟨_, c, _, hr2, ⟨hlen, b, _, fz, rfl, setRow_heap w b cur _ e _ hg, ?_, hroom, hcm, ?_, ?_⟩, ⟨rfl, rfl, rfl, by simp, fun k _ hk => setRow_other w b k _ (fun q => hk (by simp [Value.ownBlock, q]))⟩, .inl rfl⟩
      · rcases hfz with h | h
        · exact .inl h
        · right
          simp only [List.size_toArray, List.length_append, List.length_take, List.length_drop, Array.length_toList]
          omega
      · simp only [List.size_toArray, List.length_append, List.length_take, List.length_drop, Array.length_toList]
        omega
      · rw [htk, ← hlen]
        exact List.take_left
    · have holds : ∀ j u, xs[j]? = some u → w.cell? ((⟨b, 0, none⟩ : Addr).add j) = some u := fun j u hu => by
        rw [Addr.add_mid, cell_of_row w b _ cur e fz hg, Nat.zero_add]
        rw [← htk, List.getElem?_take] at hu
        split at hu
        · simpa using hu
        · cases hu
      have hr2 := run_append_grow (P := P) w t ty e i z ht hi hz ⟨b, 0, none⟩ n c xs (by rw [hsize]; omega) holds ad m c' news (by rw [hsize]; omega) hcells (by omega) (by unfold maxLen at h63; omega) (growslice_fits (by omega) hbytes)
      have hge := grownCap_ge w (n + m) c e
      have hcm2 : grownCap w (n + m) c e ≤ maxLen := grownCap_le_maxLen w (n + m) c e h63
      refine ⟨_, _, _, hr2, ⟨hlen, w.heap.size, _, (0, 0), rfl, heap_alloc_new w.drew _, .inl rfl, hge, hcm2, ?_, ?_⟩, ⟨rfl, rfl, rfl, by simp, fun k hk _ => heap_alloc_old w.drew _ hk⟩, .inr ⟨rfl, by simp⟩⟩
      · simp only [Array.size_append, List.size_toArray, size_zeroCells, hzs]
        omega
      · simp only [Array.toList_append, List.append_assoc]
        rw [← List.append_assoc, ← hlen]
        exact List.take_left
/-- append onto it. -/
theorem o_appM {s x : Operand} {t e : TypeId} {z : Value} {bytes : Nat} (TE : Elem P t e z 1 bytes) (S : St w0 M rs w) (k : Nat) {A : Option Addr} {n c : Nat} {xs : List Value} (hk : rs[k]? = some (rowM e A n c xs))
    (hs : ev env s = some (.slice A n c)) {A' : Option Addr} {m c' : Nat} {news : List Value} (hx : ev env x = some (.slice A' m c')) (hr : Rs w 1 A' m c' news) (h1 : ∀ u ∈ news, u.oneCell' = true)
    (hd : Nat.blt d N = true) (hbytes : (n + m) * bytes ≤ 140737488355328) (h63 : n + m ≤ 9223372036854775807)
    (h : ∀ A2 c2 w', St w0 M (rs.set k (rowM e A2 (n + m) c2 (xs ++ news))) w' → K ((d, .slice A2 (n + m) c2) :: env) w') :
    O P N Q ⟨some d, .call { callee := .builtin .append, args := #[s, x], argTypes := #[t, t] }, ty, pos, after, g⟩ env w K := fun a ha => by
  have hown : OwnM w e A n c xs := S.get k hk
  obtain ⟨i, hi, hz, hsize, hby⟩ := info_parts TE.hi
  obtain ⟨A2, c2, w', hrun, h2, h3, h4⟩ := run_appM (P := P) w t ty e i z TE.ht hi hz hsize TE.hzs hown A' m c' news hr.rd h1 (by unfold maxLen; exact h63) (by rw [hby]; exact hbytes)
  unfold Oper.wp execOp
  simp only [resolve, invoke, builtin, Sem.run_bind, Sem.run_pure, Result.andThen_ok, List.map_toArray, List.map_cons, List.map_nil, ha.eval hs, ha.eval hx, hrun]
  refine ⟨_, ha.put d _ hd, h A2 c2 w' (S.upd k hk h3.os h3.tape h3.output h3.size (fun j hj hn => h3.block j hj (fun e => hn e.symm)) h2 fun j hj => ?_)⟩
  change (Value.slice A2 (n + m) c2).ownBlock = some j at hj
  rcases h4 with h4 | ⟨h4, h5⟩
  · left; rw [h4] at hj; exact hj
  · right
    rw [h4] at hj
    cases hj
    exact ⟨Nat.le_refl _, h5⟩
end
end Go.Proofs.Ytgaklngnfecdaaa.Zx


/-
  Objects as bytes.
-/
namespace Go.Proofs.Ytgaklngnfecdaaa.Obj
open Go.RowKit Zk Zx
open Oid (idf idf_len)
open Tre (nmOk EV enf enf_len mdOk chkE)
open Rev (cutF cutF_some cutF_none)
set_option linter.unusedVariables false
set_option linter.unusedSimpArgs false

def wordB (k : Int) : List UInt8 := if k = 1 then [98, 108, 111, 98] else if k = 2 then [116, 114, 101, 101] else if k = 3 then [99, 111, 109, 109, 105, 116] else if k = 4 then [116, 97, 103] else []
def wordS (k : Int) : ByteArray := ⟨(wordB k).toArray⟩
theorem wordS_1 {k : Int} (h : k = 1) : (⟨#[98, 108, 111, 98]⟩ : ByteArray) = wordS k := by subst h; rfl
theorem wordS_2 {k : Int} (h : k = 2) : (⟨#[116, 114, 101, 101]⟩ : ByteArray) = wordS k := by subst h; rfl
theorem wordS_3 {k : Int} (h : k = 3) : (⟨#[99, 111, 109, 109, 105, 116]⟩ : ByteArray) = wordS k := by subst h; rfl
theorem wordS_4 {k : Int} (h : k = 4) : (⟨#[116, 97, 103]⟩ : ByteArray) = wordS k := by subst h; rfl
theorem wordS_0 {k : Int} (h1 : ¬ k = 1) (h2 : ¬ k = 2) (h3 : ¬ k = 3) (h4 : ¬ k = 4) : (⟨#[]⟩ : ByteArray) = wordS k := by unfold wordS wordB; rw [if_neg h1, if_neg h2, if_neg h3, if_neg h4]
theorem wordS_len (k : Int) : (wordS k).size ≤ 6 := by
  unfold wordS wordB
  rw [Rev.bsz]
  repeat' split
  all_goals decide
theorem word_nil (k : Int) : wordS k = ⟨#[]⟩ ↔ ¬ (1 ≤ k ∧ k ≤ 4) := by
  constructor
  · intro h q
    have hk : k = 1 ∨ k = 2 ∨ k = 3 ∨ k = 4 := by omega
    rcases hk with rfl | rfl | rfl | rfl <;> exact absurd h (by decide)
  · intro h
    exact (wordS_0 (by omega) (by omega) (by omega) (by omega)).symm
def kindS (s : ByteArray) : Int := if wordS 1 = s then 1 else if wordS 2 = s then 2 else if wordS 3 = s then 3 else if wordS 4 = s then 4 else 0
theorem kindS_at {s : ByteArray} {k : Nat} (h1 : 1 ≤ k) (h4 : k ≤ 4) (hn : ∀ j : Nat, 1 ≤ j → j < k → wordS (j : Int) ≠ s) (h : wordS (k : Int) = s) : kindS s = (k : Int) := by
  have hk : k = 1 ∨ k = 2 ∨ k = 3 ∨ k = 4 := by omega
  unfold kindS
  rcases hk with rfl | rfl | rfl | rfl
  · rw [if_pos (show wordS 1 = s from h)]; rfl
  · rw [if_neg (show ¬ wordS 1 = s from hn 1 (by omega) (by omega)), if_pos (show wordS 2 = s from h)]; rfl
  · rw [if_neg (show ¬ wordS 1 = s from hn 1 (by omega) (by omega)), if_neg (show ¬ wordS 2 = s from hn 2 (by omega) (by omega)), if_pos (show wordS 3 = s from h)]; rfl
  · rw [if_neg (show ¬ wordS 1 = s from hn 1 (by omega) (by omega)), if_neg (show ¬ wordS 2 = s from hn 2 (by omega) (by omega)), if_neg (show ¬ wordS 3 = s from hn 3 (by omega) (by omega)), if_pos (show wordS 4 = s from h)]; rfl
theorem kindS_no {s : ByteArray} (hn : ∀ j : Nat, 1 ≤ j → j < 5 → wordS (j : Int) ≠ s) : kindS s = 0 := by
  unfold kindS
  rw [if_neg (show ¬ wordS 1 = s from hn 1 (by omega) (by omega)), if_neg (show ¬ wordS 2 = s from hn 2 (by omega) (by omega)), if_neg (show ¬ wordS 3 = s from hn 3 (by omega) (by omega)), if_neg (show ¬ wordS 4 = s from hn 4 (by omega) (by omega))]
/-- The error of a kind and a body. -/
def objE (k : Int) (b : List UInt8) : Int := if ¬ (1 ≤ k ∧ k ≤ 4) then 19 else if 4000 < b.length then 3 else if k = 2 then treeE b else if k = 3 then Rev.gcode b else if k = 4 then Rev.mcode b else 0
def objB (k : Int) (b : List UInt8) : List UInt8 := wordB k ++ [32] ++ Rev.digS (b.length : Int) ++ [0] ++ b
theorem none_len {w : World} {n c : Nat} {l : List UInt8} (h : Rs w 1 none n c (bL l)) : n = 0 ∧ l = [] := by
  have h0 : n = 0 := by
    rcases Nat.eq_zero_or_pos n with q | q
    · exact q
    · obtain ⟨ad, h1, _⟩ := h.rd.2 q
      cases h1
  exact ⟨h0, List.length_eq_zero_iff.1 (by have := h.lenb; omega)⟩
/-- What Bytes answers. -/
def BytesV (w0 w' : World) (k : Int) (b : List UInt8) (u : Value) : Prop := (objE k b ≠ 0 ∧ u = .tuple #[.slice none 0 0, .int .i64 (objE k b)]) ∨ (objE k b = 0 ∧ ∃ A c, u = .tuple #[.slice A (objB k b).length c, .int .i64 0] ∧ Fr w0 w' 1 A (objB k b).length c (bL (objB k b)))
theorem hdr_list (k : Int) (d : List UInt8) : ((wordS k ++ (⟨#[32]⟩ : ByteArray)) ++ (⟨d.toArray⟩ : ByteArray)).data.toList = wordB k ++ [32] ++ d := by
  simp [wordS]
theorem hdr_size (k : Int) (d : List UInt8) : ((wordS k ++ (⟨#[32]⟩ : ByteArray)) ++ (⟨d.toArray⟩ : ByteArray)).size = (wordB k ++ [32] ++ d).length := by
  rw [← hdr_list]
  exact Array.length_toList.symm
theorem sz32 : (⟨#[32]⟩ : ByteArray).size = 1 := rfl


set_option maxRecDepth 100000 in
theorem clone (A : Option Addr) (n c : Nat) (l : List UInt8) (w0 : World) (hb : Rs w0 1 A n c (bL l)) (hn9 : n ≤ 100000) :
    Calls Try.prog 96 #[.slice A n c] w0 fun e w' => ∃ u, e = .returned u ∧ Like w0 w' ∧ ∃ A' c', u = .slice A' n c' ∧ w'.ownsRow w0.heap.size 5 1 (.slice A' n c') n (bL l) := by
  refine enter1 (env := [(0, .slice A n c)]) [.slice A n c] Try.func96 rfl Try.ntmps96 rfl rfl ?_
  have hcap := hb.cap; have hmax := hb.max
  have S0 := St.start w0 noM
  refine T_seq fun K1 hK1 => ?_
  refine T_region ?_
  refine L_y (y_assign rfl) rfl ?_
  refine L_nil ?_
  refine hK1 _ _ ?_
  refine T_seq fun K2 hK2 => ?_
  refine T_seq fun K3 hK3 => ?_
  refine T_region ?_
  refine L_y (y_move rfl) rfl ?_
  refine L_y (y_seqn Try.underlying27 rfl) rfl ?_
  refine L_nil ?_
  refine hK3 _ _ ?_
  refine T_condB rfl (fun h4 => ?_) (fun h4 => ?_)
  ·
    refine T_seq fun K4 hK4 => ?_
    refine T_region ?_
    refine L_y (y_assign rfl) rfl ?_
    refine L_nil ?_
    refine hK4 _ _ ?_
    refine T_ret ?_
    repeat (first | with_reducible refine up_then ?_ | with_reducible refine up_in ?_)
    refine ret1 rfl rfl ?_
    have h0 : A = none := Option.isNone_iff_eq_none.1 h4
    subst h0
    obtain ⟨rfl, rfl⟩ := none_len hb
    exact ⟨_, rfl, S0.like0, none, 0, rfl, World.ownsRow_nil _ _ _ _⟩
  ·
    refine T_skip ?_
    refine hK2 _ _ ?_
    refine T_seq fun K5 hK5 => ?_
    refine T_region ?_
    refine L_o (o_bsl0 te27 S0 rfl fun b1 w1 l1 S1 => ?_)
    refine L_y (y_move rfl) rfl ?_
    refine L_o (o_app te27 S1 0 rfl rfl rfl (S1.rd hb) (bL_one _) rfl (by omega) (by omega) fun A2 c2 w2 S2 => ?_)
    refine L_y (y_assign rfl) rfl ?_
    refine L_nil ?_
    refine hK5 _ _ ?_
    refine T_ret ?_
    repeat (first | with_reducible refine up_then ?_ | with_reducible refine up_in ?_)
    refine ret1 rfl rfl ?_
    have S93 := S2.rowc 0 rfl (n' := n) (by omega) rfl
    rw [Nat.zero_add]
    exact ⟨_, rfl, S2.like0, _, _, rfl, S93.own 0 rfl⟩


set_option maxRecDepth 100000 in
theorem word_ (k : Int) (w0 : World)  :
    Calls Try.prog 92 #[.int .i64 k] w0 fun e w' => ∃ u, e = .returned u ∧ Like w0 w' ∧ u = .string (wordS k) := by
  refine enter1 (env := [(0, .int .i64 k)]) [.int .i64 k] Try.func92 rfl Try.ntmps92 rfl rfl ?_
  have S0 := St.start w0 noM
  refine T_seq fun K1 hK1 => ?_
  refine T_region ?_
  refine L_y (y_assign rfl) rfl ?_
  refine L_nil ?_
  refine hK1 _ _ ?_
  refine T_seq fun K2 hK2 => ?_
  refine T_seq fun K3 hK3 => ?_
  refine T_region ?_
  refine L_y (y_move rfl) rfl ?_
  refine L_nil ?_
  refine hK3 _ _ ?_
  refine T_block ?_
  refine T_seq fun K4 hK4 => ?_
  refine T_region ?_
  refine L_y (y_eql rfl rfl) rfl ?_
  refine L_y (y_assign rfl) rfl ?_
  refine L_nil ?_
  refine hK4 _ _ ?_
  refine T_cond rfl (fun h4 => ?_) (fun h4 => ?_)
  ·
    refine T_seq fun K5 hK5 => ?_
    refine T_region ?_
    refine L_y (y_assign rfl) rfl ?_
    refine L_nil ?_
    refine hK5 _ _ ?_
    refine T_ret ?_
    repeat (first | with_reducible refine up_then ?_ | with_reducible refine up_in ?_)
    refine ret1 rfl rfl ?_
    exact ⟨_, rfl, S0.like0, congrArg Value.string (wordS_1 h4)⟩
  ·
    refine T_seq fun K6 hK6 => ?_
    refine T_region ?_
    refine L_y (y_eql rfl rfl) rfl ?_
    refine L_y (y_assign rfl) rfl ?_
    refine L_nil ?_
    refine hK6 _ _ ?_
    refine T_cond rfl (fun h6 => ?_) (fun h6 => ?_)
    ·
      refine T_seq fun K7 hK7 => ?_
      refine T_region ?_
      refine L_y (y_assign rfl) rfl ?_
      refine L_nil ?_
      refine hK7 _ _ ?_
      refine T_ret ?_
      repeat (first | with_reducible refine up_then ?_ | with_reducible refine up_in ?_)
      refine ret1 rfl rfl ?_
      exact ⟨_, rfl, S0.like0, congrArg Value.string (wordS_2 h6)⟩
    ·
      refine T_seq fun K8 hK8 => ?_
      refine T_region ?_
      refine L_y (y_eql rfl rfl) rfl ?_
      refine L_y (y_assign rfl) rfl ?_
      refine L_nil ?_
      refine hK8 _ _ ?_
      refine T_cond rfl (fun h8 => ?_) (fun h8 => ?_)
      ·
        refine T_seq fun K9 hK9 => ?_
        refine T_region ?_
        refine L_y (y_assign rfl) rfl ?_
        refine L_nil ?_
        refine hK9 _ _ ?_
        refine T_ret ?_
        repeat (first | with_reducible refine up_then ?_ | with_reducible refine up_in ?_)
        refine ret1 rfl rfl ?_
        exact ⟨_, rfl, S0.like0, congrArg Value.string (wordS_3 h8)⟩
      ·
        refine T_seq fun K10 hK10 => ?_
        refine T_region ?_
        refine L_y (y_eql rfl rfl) rfl ?_
        refine L_y (y_assign rfl) rfl ?_
        refine L_nil ?_
        refine hK10 _ _ ?_
        refine T_cond rfl (fun h10 => ?_) (fun h10 => ?_)
        ·
          refine T_seq fun K11 hK11 => ?_
          refine T_region ?_
          refine L_y (y_assign rfl) rfl ?_
          refine L_nil ?_
          refine hK11 _ _ ?_
          refine T_ret ?_
          repeat (first | with_reducible refine up_then ?_ | with_reducible refine up_in ?_)
          refine ret1 rfl rfl ?_
          exact ⟨_, rfl, S0.like0, congrArg Value.string (wordS_4 h10)⟩
        ·
          refine T_skip ?_
          refine hK2 _ _ ?_
          refine T_seq fun K12 hK12 => ?_
          refine T_region ?_
          refine L_y (y_assign rfl) rfl ?_
          refine L_nil ?_
          refine hK12 _ _ ?_
          refine T_ret ?_
          repeat (first | with_reducible refine up_then ?_ | with_reducible refine up_in ?_)
          refine ret1 rfl rfl ?_
          exact ⟨_, rfl, S0.like0, congrArg Value.string (wordS_0 h4 h6 h8 h10)⟩


set_option maxRecDepth 100000 in
theorem kind_ (s : ByteArray) (w0 : World)  :
    Calls Try.prog 95 #[.string s] w0 fun e w' => ∃ u, e = .returned u ∧ Like w0 w' ∧ u = .int .i64 (kindS s) := by
  refine enter1 (env := [(0, .string s)]) [.string s] Try.func95 rfl Try.ntmps95 rfl rfl ?_
  have S0 := St.start w0 noM
  refine T_seq fun K1 hK1 => ?_
  refine T_region ?_
  refine L_y (y_assign rfl) rfl ?_
  refine L_nil ?_
  refine hK1 _ _ ?_
  refine T_seq fun K2 hK2 => ?_
  refine T_seq fun K3 hK3 => ?_
  refine T_region ?_
  refine L_y (y_assign rfl) rfl ?_
  refine L_nil ?_
  refine hK3 _ _ ?_
  refine T_block ?_
  refine T_loop1 [(0, _)] (fun (k : Nat) => [(3, .int .i64 (k : Int))]) (fun (k : Nat) => 5 - k) (fun (k : Nat) (w : World) => (1 ≤ k ∧ k ≤ 5 ∧ ∀ j : Nat, 1 ≤ j → j < k → wordS (j : Int) ≠ s) ∧ Zx.St w0 noM [] w) 1 (Sub.cons rfl (by first | rfl | exact congrArg (Value.int _) (by omega)) (Sub.nil _)) (Sub.cons rfl rfl (Sub.nil _)) ?_ ?_
  ·
    exact ⟨⟨by omega, by omega, fun j hj hk => by omega⟩, S0⟩
  ·
    intro k w1 hrel
    obtain ⟨⟨h1, h5, hn⟩, S1⟩ := hrel
    refine T_seq fun K4 hK4 => ?_
    refine T_seq fun K5 hK5 => ?_
    refine T_region ?_
    refine L_y (y_move rfl) rfl ?_
    refine L_y (y_leq rfl rfl) rfl ?_
    refine L_nil ?_
    refine hK5 _ _ ?_
    refine T_cond rfl (fun h5 => ?_) (fun h5 => ?_)
    ·
      refine T_skip ?_
      refine hK4 _ _ ?_
      refine T_seq fun K6 hK6 => ?_
      refine T_block ?_
      refine T_seq fun K7 hK7 => ?_
      refine T_region ?_
      refine L_y (y_move rfl) rfl ?_
      refine L_o (o_call Try.func92 rfl rfl (word_ (k : Int) w1) rfl rfl ?_)
      rintro e2 w2 ⟨v2, rfl, l2, rfl⟩
      refine ⟨_, rfl, ?_⟩
      have S2 := S1.like l2
      refine L_y (y_move rfl) rfl ?_
      refine L_y (y_seql rfl rfl) rfl ?_
      refine L_nil ?_
      refine hK7 _ _ ?_
      refine T_cond rfl (fun h11 => ?_) (fun h11 => ?_)
      ·
        refine T_seq fun K8 hK8 => ?_
        refine T_region ?_
        refine L_y (y_move rfl) rfl ?_
        refine L_y (y_assign rfl) rfl ?_
        refine L_nil ?_
        refine hK8 _ _ ?_
        refine T_ret ?_
        repeat (first | with_reducible refine up_then ?_ | with_reducible refine up_in ?_)
        refine ret1 rfl rfl ?_
        exact ⟨_, rfl, S2.like0, congrArg (Value.int _) (kindS_at h1 (by omega) hn h11).symm⟩
      ·
        refine T_skip ?_
        refine hK6 _ _ ?_
        refine T_region ?_
        refine L_y (y_move rfl) rfl ?_
        refine L_y (y_add rfl rfl (i64w (by omega))) rfl ?_
        refine L_y (y_assign rfl) rfl ?_
        refine L_nil ?_
        refine ⟨k + 1, by omega, ⟨⟨by omega, by omega, fun j hj hk => by rcases Nat.lt_or_ge j k with q | q; exact hn j hj q; (have e : j = k := by omega); subst e; exact h11⟩, S2⟩, ?_⟩
        exact (Sub.cons rfl (by first | rfl | exact congrArg (Value.int _) (by omega)) (Sub.cons rfl rfl (Sub.nil _)))
    ·
      refine T_exit ?_
      refine hK2 _ _ ?_
      refine T_seq fun K9 hK9 => ?_
      refine T_region ?_
      refine L_y (y_assign rfl) rfl ?_
      refine L_nil ?_
      refine hK9 _ _ ?_
      refine T_ret ?_
      repeat (first | with_reducible refine up_then ?_ | with_reducible refine up_in ?_)
      refine ret1 rfl rfl ?_
      obtain rfl : k = 5 := by omega
      exact ⟨_, rfl, S1.like0, congrArg (Value.int _) (kindS_no hn).symm⟩


set_option maxRecDepth 100000 in
theorem read (k : Int) (B : Option Addr) (m d : Nat) (b : List UInt8) (w0 : World) (hb : Rs w0 1 B m d (bL b)) :
    Calls Try.prog 137 #[.int .i64 k, .slice B m d] w0 fun e w' => ∃ u, e = .returned u ∧ Like w0 w' ∧ ∃ v, u = .tuple #[v, .int .i64 (objE k b)] := by
  refine enter1 (env := [(0, .int .i64 k), (1, .slice B m d)]) [.int .i64 k, .slice B m d] Try.func137 rfl Try.ntmps137 rfl rfl ?_
  have hl := hb.lenb; have hcap := hb.cap; have hmax := hb.max
  have S0 := St.start w0 noM
  refine T_seq fun K1 hK1 => ?_
  refine T_region ?_
  refine L_y (y_assign rfl) rfl ?_
  refine L_y (y_assign rfl) rfl ?_
  refine L_nil ?_
  refine hK1 _ _ ?_
  refine T_seq fun K2 hK2 => ?_
  refine T_seq fun K3 hK3 => ?_
  refine T_region ?_
  refine L_y (y_move rfl) rfl ?_
  refine L_o (o_call Try.func92 rfl rfl (word_ k w0) rfl rfl ?_)
  rintro e1 w1 ⟨v1, rfl, l1, rfl⟩
  refine ⟨_, rfl, ?_⟩
  have S1 := S0.like l1
  refine L_y (y_seql rfl rfl) rfl ?_
  refine L_nil ?_
  refine hK3 _ _ ?_
  refine T_cond rfl (fun h14 => ?_) (fun h14 => ?_)
  ·
    refine T_seq fun K4 hK4 => ?_
    refine T_region ?_
    refine L_y (y_assign rfl) rfl ?_
    refine L_y (y_assign rfl) rfl ?_
    refine L_nil ?_
    refine hK4 _ _ ?_
    refine T_ret ?_
    repeat (first | with_reducible refine up_then ?_ | with_reducible refine up_in ?_)
    refine ret2 rfl rfl rfl ?_
    have he : objE k b = 19 := by unfold objE; rw [if_pos ((word_nil k).1 h14)]
    exact ⟨_, rfl, S1.like0, _, by first | (rw [he]; done) | (rw [he]; rfl)⟩
  ·
    have hk : 1 ≤ k ∧ k ≤ 4 := Classical.byContradiction fun q => h14 ((word_nil k).2 q)
    refine T_skip ?_
    refine hK2 _ _ ?_
    refine T_seq fun K5 hK5 => ?_
    refine T_seq fun K6 hK6 => ?_
    refine T_region ?_
    refine L_y (y_move rfl) rfl ?_
    refine L_y (y_len Try.underlying27 rfl) rfl ?_
    refine L_y (y_gtr rfl rfl) rfl ?_
    refine L_nil ?_
    refine hK6 _ _ ?_
    refine T_cond rfl (fun h17 => ?_) (fun h17 => ?_)
    ·
      refine T_seq fun K7 hK7 => ?_
      refine T_region ?_
      refine L_y (y_assign rfl) rfl ?_
      refine L_y (y_assign rfl) rfl ?_
      refine L_nil ?_
      refine hK7 _ _ ?_
      refine T_ret ?_
      repeat (first | with_reducible refine up_then ?_ | with_reducible refine up_in ?_)
      refine ret2 rfl rfl rfl ?_
      have he : objE k b = 3 := by unfold objE; rw [if_neg (fun q => q hk), if_pos (by omega)]
      exact ⟨_, rfl, S1.like0, _, by first | (rw [he]; done) | (rw [he]; rfl)⟩
    ·
      refine T_skip ?_
      refine hK5 _ _ ?_
      refine T_seq fun K8 hK8 => ?_
      refine T_seq fun K9 hK9 => ?_
      refine T_region ?_
      refine L_y (y_move rfl) rfl ?_
      refine L_nil ?_
      refine hK9 _ _ ?_
      refine T_block ?_
      refine T_seq fun K10 hK10 => ?_
      refine T_region ?_
      refine L_y (y_eql rfl rfl) rfl ?_
      refine L_y (y_assign rfl) rfl ?_
      refine L_nil ?_
      refine hK10 _ _ ?_
      refine T_cond rfl (fun h19 => ?_) (fun h19 => ?_)
      ·
        refine T_seq fun K11 hK11 => ?_
        refine T_region ?_
        refine L_y (y_move rfl) rfl ?_
        refine L_o (o_call Try.func165 rfl rfl (get B m d b w1 (S1.rd hb) (by omega)) rfl rfl ?_)
        rintro e2 w2 ⟨v2, rfl, l2, A23, k23, c23, rfl⟩
        refine ⟨_, rfl, ?_⟩
        have S2 := S1.like l2
        refine L_y (y_move rfl) rfl ?_
        refine L_y (y_extract rfl rfl) rfl ?_
        refine L_y (y_extract rfl rfl) rfl ?_
        refine L_y (y_assign rfl) rfl ?_
        refine L_y (y_assign rfl) rfl ?_
        refine L_nil ?_
        refine hK11 _ _ ?_
        refine T_seq fun K12 hK12 => ?_
        refine T_region ?_
        refine L_y (y_move rfl) rfl ?_
        refine L_y (y_mkI (by kernel_rfl) rfl) rfl ?_
        refine L_y (y_move rfl) rfl ?_
        refine L_y (y_assign rfl) rfl ?_
        refine L_y (y_assign rfl) rfl ?_
        refine L_nil ?_
        refine hK12 _ _ ?_
        refine T_ret ?_
        repeat (first | with_reducible refine up_then ?_ | with_reducible refine up_in ?_)
        refine ret2 rfl rfl rfl ?_
        have he : objE k b = treeE b := by unfold objE; rw [if_neg (fun q => q hk), if_neg (by omega), if_pos h19]
        exact ⟨_, rfl, S2.like0, _, by first | (rw [he]; done) | (rw [he]; rfl)⟩
      ·
        refine T_seq fun K13 hK13 => ?_
        refine T_region ?_
        refine L_y (y_eql rfl rfl) rfl ?_
        refine L_y (y_assign rfl) rfl ?_
        refine L_nil ?_
        refine hK13 _ _ ?_
        refine T_cond rfl (fun h29 => ?_) (fun h29 => ?_)
        ·
          refine T_seq fun K14 hK14 => ?_
          refine T_region ?_
          refine L_y (y_move rfl) rfl ?_
          refine L_o (o_call Try.func35 rfl rfl (Rev.getB B m d b w1 (S1.rd hb) (by omega)) rfl rfl ?_)
          rintro e3 w3 ⟨v3, rfl, l3, A33, c33, F33, rfl⟩
          refine ⟨_, rfl, ?_⟩
          have S3 := S1.like l3
          refine L_y (y_move rfl) rfl ?_
          refine L_y (y_extract rfl rfl) rfl ?_
          refine L_y (y_extract rfl rfl) rfl ?_
          refine L_o (o_alloc zz26 S3 rfl fun b4 w4 hb4 S4 => ?_)
          refine L_o (o_stW S4 0 rfl rfl rfl (by rw [Rev.cmf_sz]; exact sz26) (by first | (rw [Rev.cmf_sz]; done) | (rw [Rev.cmf_sz]; rfl)) (fun u hu => Rev.cmf_one _ u (by rw [List.toList_toArray] at hu; exact hu)) fun w5 S5 => ?_)
          refine L_y (y_assign rfl) rfl ?_
          refine L_nil ?_
          refine hK14 _ _ ?_
          refine T_seq fun K15 hK15 => ?_
          refine T_region ?_
          refine L_y (y_ldW Try.underlying26 rfl sz26 rfl (S5.blk 0 rfl) (Rev.cm_whole _)) rfl ?_
          refine L_y (y_mkI (by kernel_rfl) rfl) rfl ?_
          refine L_y (y_move rfl) rfl ?_
          refine L_y (y_assign rfl) rfl ?_
          refine L_y (y_assign rfl) rfl ?_
          refine L_nil ?_
          refine hK15 _ _ ?_
          refine T_ret ?_
          repeat (first | with_reducible refine up_then ?_ | with_reducible refine up_in ?_)
          refine ret2 rfl rfl rfl ?_
          have he : objE k b = Rev.gcode b := by unfold objE; rw [if_neg (fun q => q hk), if_neg (by omega), if_neg h19, if_pos h29]
          exact ⟨_, rfl, S5.like0, _, by first | (rw [he]; done) | (rw [he]; rfl)⟩
        ·
          refine T_seq fun K16 hK16 => ?_
          refine T_region ?_
          refine L_y (y_eql rfl rfl) rfl ?_
          refine L_y (y_assign rfl) rfl ?_
          refine L_nil ?_
          refine hK16 _ _ ?_
          refine T_cond rfl (fun h39 => ?_) (fun h39 => ?_)
          ·
            refine T_seq fun K17 hK17 => ?_
            refine T_region ?_
            refine L_y (y_move rfl) rfl ?_
            refine L_o (o_call Try.func41 rfl rfl (Rev.getMB B m d b w1 (S1.rd hb) (by omega)) rfl rfl ?_)
            rintro e6 w6 ⟨v6, rfl, l6, rfl⟩
            refine ⟨_, rfl, ?_⟩
            have S6 := S1.like l6
            refine L_y (y_move rfl) rfl ?_
            refine L_y (y_extract rfl rfl) rfl ?_
            refine L_y (y_extract rfl rfl) rfl ?_
            refine L_o (o_alloc zz74 S6 rfl fun b7 w7 hb7 S7 => ?_)
            refine L_o (o_stW S7 0 rfl rfl rfl (by rw [Rev.mkf_sz]; exact sz74) (by first | (rw [Rev.mkf_sz]; done) | (rw [Rev.mkf_sz]; rfl)) (fun u hu => Rev.mkf_one _ u (by rw [List.toList_toArray] at hu; exact hu)) fun w8 S8 => ?_)
            refine L_y (y_assign rfl) rfl ?_
            refine L_nil ?_
            refine hK17 _ _ ?_
            refine T_seq fun K18 hK18 => ?_
            refine T_region ?_
            refine L_y (y_ldW Try.underlying74 rfl sz74 rfl (S8.blk 0 rfl) (Rev.mk_whole _)) rfl ?_
            refine L_y (y_mkI (by kernel_rfl) rfl) rfl ?_
            refine L_y (y_move rfl) rfl ?_
            refine L_y (y_assign rfl) rfl ?_
            refine L_y (y_assign rfl) rfl ?_
            refine L_nil ?_
            refine hK18 _ _ ?_
            refine T_ret ?_
            repeat (first | with_reducible refine up_then ?_ | with_reducible refine up_in ?_)
            refine ret2 rfl rfl rfl ?_
            have he : objE k b = Rev.mcode b := by unfold objE; rw [if_neg (fun q => q hk), if_neg (by omega), if_neg h19, if_neg h29, if_pos h39]
            exact ⟨_, rfl, S8.like0, _, by first | (rw [he]; done) | (rw [he]; rfl)⟩
          ·
            refine T_skip ?_
            refine hK8 _ _ ?_
            refine T_seq fun K19 hK19 => ?_
            refine T_region ?_
            refine L_y (y_move rfl) rfl ?_
            refine L_y (y_mkI (by kernel_rfl) rfl) rfl ?_
            refine L_y (y_assign rfl) rfl ?_
            refine L_y (y_assign rfl) rfl ?_
            refine L_nil ?_
            refine hK19 _ _ ?_
            refine T_ret ?_
            repeat (first | with_reducible refine up_then ?_ | with_reducible refine up_in ?_)
            refine ret2 rfl rfl rfl ?_
            have he : objE k b = 0 := by unfold objE; rw [if_neg (fun q => q hk), if_neg (by omega), if_neg h19, if_neg h29, if_neg h39]
            exact ⟨_, rfl, S1.like0, _, by first | (rw [he]; done) | (rw [he]; rfl)⟩


set_option maxRecDepth 100000 in
theorem check_ (k : Int) (B : Option Addr) (m d : Nat) (b : List UInt8) (w0 : World) (hb : Rs w0 1 B m d (bL b)) :
    Calls Try.prog 91 #[.int .i64 k, .slice B m d] w0 fun e w' => ∃ u, e = .returned u ∧ Like w0 w' ∧ u = .int .i64 (objE k b) := by
  refine enter1 (env := [(0, .int .i64 k), (1, .slice B m d)]) [.int .i64 k, .slice B m d] Try.func91 rfl Try.ntmps91 rfl rfl ?_
  have hl := hb.lenb; have hcap := hb.cap; have hmax := hb.max
  have S0 := St.start w0 noM
  refine T_seq fun K1 hK1 => ?_
  refine T_region ?_
  refine L_y (y_assign rfl) rfl ?_
  refine L_nil ?_
  refine hK1 _ _ ?_
  refine T_seq fun K2 hK2 => ?_
  refine T_region ?_
  refine L_y (y_move rfl) rfl ?_
  refine L_y (y_move rfl) rfl ?_
  refine L_o (o_call Try.func137 rfl rfl (read k B m d b w0 (S0.rd hb)) rfl rfl ?_)
  rintro e1 w1 ⟨v1, rfl, l1, v9, rfl⟩
  refine ⟨_, rfl, ?_⟩
  have S1 := S0.like l1
  refine L_y (y_move rfl) rfl ?_
  refine L_y (y_extract rfl rfl) rfl ?_
  refine L_y (y_extract rfl rfl) rfl ?_
  refine L_y (y_assign rfl) rfl ?_
  refine L_y (y_assign rfl) rfl ?_
  refine L_nil ?_
  refine hK2 _ _ ?_
  refine T_seq fun K3 hK3 => ?_
  refine T_region ?_
  refine L_y (y_move rfl) rfl ?_
  refine L_y (y_assign rfl) rfl ?_
  refine L_nil ?_
  refine hK3 _ _ ?_
  refine T_ret ?_
  repeat (first | with_reducible refine up_then ?_ | with_reducible refine up_in ?_)
  refine ret1 rfl rfl ?_
  exact ⟨_, rfl, S1.like0, rfl⟩


set_option maxRecDepth 100000 in
theorem bytes_ (k : Int) (B : Option Addr) (m d : Nat) (b : List UInt8) (w0 : World) (hb : Rs w0 1 B m d (bL b)) (hm9 : m ≤ 90000) :
    Calls Try.prog 51 #[.int .i64 k, .slice B m d] w0 fun e w' => ∃ u, e = .returned u ∧ Like w0 w' ∧ BytesV w0 w' k b u := by
  refine enter1 (env := [(0, .int .i64 k), (1, .slice B m d)]) [.int .i64 k, .slice B m d] Try.func51 rfl Try.ntmps51 rfl rfl ?_
  have hl := hb.lenb; have hcap := hb.cap; have hmax := hb.max
  have S0 := St.start w0 noM
  refine T_seq fun K1 hK1 => ?_
  refine T_region ?_
  refine L_y (y_assign rfl) rfl ?_
  refine L_y (y_assign rfl) rfl ?_
  refine L_nil ?_
  refine hK1 _ _ ?_
  refine T_seq fun K2 hK2 => ?_
  refine T_seq fun K3 hK3 => ?_
  refine T_region ?_
  refine L_y (y_move rfl) rfl ?_
  refine L_y (y_move rfl) rfl ?_
  refine L_o (o_call Try.func91 rfl rfl (check_ k B m d b w0 (S0.rd hb)) rfl rfl ?_)
  rintro e1 w1 ⟨v1, rfl, l1, rfl⟩
  refine ⟨_, rfl, ?_⟩
  have S1 := S0.like l1
  refine L_y (y_assign rfl) rfl ?_
  refine L_nil ?_
  refine hK3 _ _ ?_
  refine T_seq fun K4 hK4 => ?_
  refine T_region ?_
  refine L_y (y_move rfl) rfl ?_
  refine L_y (y_neq rfl rfl) rfl ?_
  refine L_nil ?_
  refine hK4 _ _ ?_
  refine T_cond rfl (fun h12 => ?_) (fun h12 => ?_)
  ·
    refine T_seq fun K5 hK5 => ?_
    refine T_region ?_
    refine L_y (y_move rfl) rfl ?_
    refine L_y (y_assign rfl) rfl ?_
    refine L_y (y_assign rfl) rfl ?_
    refine L_nil ?_
    refine hK5 _ _ ?_
    refine T_ret ?_
    repeat (first | with_reducible refine up_then ?_ | with_reducible refine up_in ?_)
    refine ret2 rfl rfl rfl ?_
    exact ⟨_, rfl, S1.like0, .inl ⟨h12, rfl⟩⟩
  ·
    refine T_skip ?_
    refine hK2 _ _ ?_
    refine T_seq fun K6 hK6 => ?_
    refine T_region ?_
    refine L_y (y_move rfl) rfl ?_
    refine L_o (o_call Try.func92 rfl rfl (word_ k w1) rfl rfl ?_)
    rintro e2 w2 ⟨v2, rfl, l2, rfl⟩
    refine ⟨_, rfl, ?_⟩
    have S2 := S1.like l2
    refine L_y (y_cat rfl rfl (by have h9 := wordS_len k; rw [sz32]; omega)) rfl ?_
    refine L_y (y_move rfl) rfl ?_
    refine L_y (y_len Try.underlying27 rfl) rfl ?_
    refine L_o (o_call Try.func21 rfl rfl (Rev.digits (m : Int) w2 (by omega)) rfl rfl ?_)
    rintro e3 w3 ⟨v3, rfl, l3, rfl⟩
    refine ⟨_, rfl, ?_⟩
    have S3 := S2.like l3
    have hd9 := Rev.digS_len (n := (m : Int)) (by omega)
    have hw9 := wordS_len k
    have hs1 : (wordS k ++ (⟨#[32]⟩ : ByteArray)).size = (wordS k).size + 1 := by rw [ByteArray.size_append, sz32]
    have hs2 : ((wordS k ++ (⟨#[32]⟩ : ByteArray)) ++ (⟨(Rev.digS (m : Int)).toArray⟩ : ByteArray)).size = (wordS k).size + 1 + (Rev.digS (m : Int)).length := by rw [ByteArray.size_append, hs1, Rev.bsz (Rev.digS (m : Int))]
    refine L_y (y_cat rfl rfl (by rw [hs1, Rev.bsz (Rev.digS (m : Int))]; omega)) rfl ?_
    refine L_o (o_sbytesM Try.underlying9 Try.underlying27 Try.underlying5 rfl (by rw [hs2]; omega) S3 rfl fun bb cc w4 ll S4 => ?_)
    refine L_y (y_assign rfl) rfl ?_
    refine L_nil ?_
    refine hK6 _ _ ?_
    refine T_seq fun K7 hK7 => ?_
    refine T_region ?_
    refine L_y (y_move rfl) rfl ?_
    refine L_o (o_bsl [_] te27 zz5 S4 rfl rfl rfl rfl rfl rfl rfl rfl fun b5 w5 S5 => ?_)
    refine L_o (o_appM te27 S5 0 rfl rfl rfl (S5.row 1 rfl) (by intro u hu; simp at hu; subst hu; rfl) rfl (by rw [hs2]; omega) (by rw [hs2]; omega) fun AA ca w6 S6 => ?_)
    refine L_y (y_move rfl) rfl ?_
    refine L_o (o_appM te27 S6 0 rfl rfl rfl (S6.rd hb) (bL_one _) rfl (by rw [hs2]; omega) (by rw [hs2]; omega) fun AB cb w7 S7 => ?_)
    refine L_y (y_assign rfl) rfl ?_
    refine L_y (y_assign rfl) rfl ?_
    refine L_nil ?_
    refine hK7 _ _ ?_
    refine T_ret ?_
    repeat (first | with_reducible refine up_then ?_ | with_reducible refine up_in ?_)
    refine ret2 rfl rfl rfl ?_
    have he : objE k b = 0 := Classical.byContradiction fun q => h12 q
    have e1 : (((wordS k ++ (⟨#[32]⟩ : ByteArray)) ++ (⟨(Rev.digS (m : Int)).toArray⟩ : ByteArray)).size + 1 + m) = (objB k b).length := by rw [hdr_size]; unfold objB; simp only [List.length_append, List.length_cons, List.length_nil]; rw [hl]
    have e2 : (bL (((wordS k ++ (⟨#[32]⟩ : ByteArray)) ++ (⟨(Rev.digS (m : Int)).toArray⟩ : ByteArray)).data.toList) ++ [Value.int .u8 0]) ++ bL b = bL (objB k b) := by rw [hdr_list]; unfold objB; rw [hl]; unfold bL; simp only [List.map_append, List.map_cons, List.map_nil]; rfl
    have FF := S7.frM 0 rfl
    rw [e1, e2] at FF
    exact ⟨_, rfl, S7.like0, .inr ⟨he, _, _, by rw [e1], FF⟩⟩
end Go.Proofs.Ytgaklngnfecdaaa.Obj


/-
  Bytes as an object.
-/
namespace Go.Proofs.Ytgaklngnfecdaaa.Obj
open Go.RowKit Zk Zx
open Oid (idf idf_len)
open Tre (nmOk EV enf enf_len mdOk chkE)
open Rev (cutF cutF_some cutF_none)
set_option linter.unusedVariables false
set_option linter.unusedSimpArgs false

/-- Bytes as an object: an error, a kind, a body. -/
def splitC (b : List UInt8) : Int × Int × List UInt8 := match cutF 0 (b.take 20) with
  | none => (12, 0, [])
  | some (p, _) => match cutF 32 p with
    | none => (12, 0, [])
    | some (wd, dg) => if kindS ⟨wd.toArray⟩ = 0 then (12, 0, []) else if Rev.numOk dg = false then (12, 0, []) else if (b.drop (p.length + 1)).length < Rev.numV dg then (10, 0, []) else if Rev.numV dg < (b.drop (p.length + 1)).length then (12, 0, [])
      else if objE (kindS ⟨wd.toArray⟩) (b.drop (p.length + 1)) ≠ 0 then (objE (kindS ⟨wd.toArray⟩) (b.drop (p.length + 1)), 0, []) else (0, kindS ⟨wd.toArray⟩, b.drop (p.length + 1))
section
variable {b p q wd dg : List UInt8}
theorem split_z (hz : cutF 0 (b.take 20) = none) : splitC b = (12, 0, []) := by unfold splitC; rw [hz]
theorem split_s (hz : cutF 0 (b.take 20) = some (p, q)) (hs : cutF 32 p = none) : splitC b = (12, 0, []) := by unfold splitC; rw [hz]; simp only []; rw [hs]
theorem split_of (hz : cutF 0 (b.take 20) = some (p, q)) (hs : cutF 32 p = some (wd, dg)) : splitC b = if kindS ⟨wd.toArray⟩ = 0 then (12, 0, []) else if Rev.numOk dg = false then (12, 0, []) else if (b.drop (p.length + 1)).length < Rev.numV dg then (10, 0, []) else if Rev.numV dg < (b.drop (p.length + 1)).length then (12, 0, [])
      else if objE (kindS ⟨wd.toArray⟩) (b.drop (p.length + 1)) ≠ 0 then (objE (kindS ⟨wd.toArray⟩) (b.drop (p.length + 1)), 0, []) else (0, kindS ⟨wd.toArray⟩, b.drop (p.length + 1)) := by unfold splitC; rw [hz]; simp only []; rw [hs]
theorem head_p (hz : cutF 0 (b.take 20) = some (p, q)) : b.take p.length = p ∧ p.length + 1 ≤ b.length ∧ p.length + 1 ≤ 20 := by
  obtain ⟨_, h2, h3⟩ := cut_drop hz
  rw [List.length_take] at h3
  rw [List.take_take, Nat.min_eq_left (by omega)] at h2
  exact ⟨h2, by omega, by omega⟩
theorem take_min (b : List UInt8) {m : Nat} (h : b.length = m) : b.take (min 20 m) = b.take 20 := by
  by_cases h2 : 20 ≤ m
  · rw [Nat.min_eq_left h2]
  · rw [Nat.min_eq_right (by omega), List.take_of_length_le (by omega), List.take_of_length_le (by omega)]
theorem cutV_s {c : UInt8} {s x y : List UInt8} (h : cutF c s = some (x, y)) : Rev.cutV c s = .tuple #[.string ⟨x.toArray⟩, .string ⟨y.toArray⟩, .bool true] := by unfold Rev.cutV; rw [h]
theorem cutV_n {c : UInt8} {s : List UInt8} (h : cutF c s = none) : Rev.cutV c s = .tuple #[.string ⟨s.toArray⟩, .string ⟨#[]⟩, .bool false] := by unfold Rev.cutV; rw [h]
theorem numR_ok {l : List UInt8} (h : Rev.numOk l = true) : Rev.numR l = .tuple #[.int .i64 (Rev.numV l : Int), .int .i64 0] := by unfold Rev.numR; exact if_pos h
theorem numR_no {l : List UInt8} (h : Rev.numOk l = false) : Rev.numR l = .tuple #[.int .i64 0, .int .i64 12] := by unfold Rev.numR; exact if_neg (by rw [h]; decide)
end


set_option maxRecDepth 100000 in
theorem split0 (B : Option Addr) (m d : Nat) (b : List UInt8) (w0 : World) (hb : Rs w0 1 B m d (bL b)) (hm9 : m ≤ 90000) (hz : cutF 0 (b.take 20) = none) :
    Calls Try.prog 52 #[.slice B m d] w0 fun e w' => ∃ u, e = .returned u ∧ Like w0 w' ∧ ∃ A c, u = .tuple #[.int .i64 (splitC b).2.1, .slice A (splitC b).2.2.length c, .int .i64 (splitC b).1] ∧ w'.ownsRow w0.heap.size 5 1 (.slice A (splitC b).2.2.length c) (splitC b).2.2.length (bL (splitC b).2.2) := by
  refine enter1 (env := [(0, .slice B m d)]) [.slice B m d] Try.func52 rfl Try.ntmps52 rfl rfl ?_
  have hl := hb.lenb; have hcap := hb.cap; have hmax := hb.max
  have S0 := St.start w0 noM
  refine T_seq fun K1 hK1 => ?_
  refine T_region ?_
  refine L_y (y_assign rfl) rfl ?_
  refine L_y (y_assign rfl) rfl ?_
  refine L_y (y_assign rfl) rfl ?_
  refine L_nil ?_
  refine hK1 _ _ ?_
  refine T_seq fun K2 hK2 => ?_
  refine T_region ?_
  refine L_y (y_move rfl) rfl ?_
  refine L_y (y_move rfl) rfl ?_
  refine L_y (y_len Try.underlying27 rfl) rfl ?_
  refine L_y (y_min rfl rfl) rfl ?_
  refine L_y (y_sliceH Try.underlying27 sz5 rfl rfl (Nt.mk (by omega) : Nt _ (min 20 m)) (by omega)) rfl ?_
  refine L_o (o_call Try.func93 rfl rfl (bidx _ _ _ (b.take (min 20 m)) 0 w0 ((S0.rd hb).cutb (l := 0) (u := min 20 m) (by omega) (by omega))) rfl rfl ?_)
  rintro e1 w1 ⟨v1, rfl, l1, rfl⟩
  refine ⟨_, rfl, ?_⟩
  have S1 := S0.like l1
  rw [take_min b hl, idx_none hz]
  refine L_y (y_assign rfl) rfl ?_
  refine L_nil ?_
  refine hK2 _ _ ?_
  refine T_seq fun K3 hK3 => ?_
  refine T_seq fun K4 hK4 => ?_
  refine T_region ?_
  refine L_y (y_move rfl) rfl ?_
  refine L_y (y_lss rfl rfl) rfl ?_
  refine L_nil ?_
  refine hK4 _ _ ?_
  refine T_cond rfl (fun h21 => ?_) (fun h21 => ?_)
  ·
    refine T_seq fun K5 hK5 => ?_
    refine T_region ?_
    refine L_y (y_assign rfl) rfl ?_
    refine L_y (y_assign rfl) rfl ?_
    refine L_y (y_assign rfl) rfl ?_
    refine L_nil ?_
    refine hK5 _ _ ?_
    refine T_ret ?_
    repeat (first | with_reducible refine up_then ?_ | with_reducible refine up_in ?_)
    refine ret3 rfl rfl rfl rfl ?_
    have he : splitC b = (12, 0, []) := split_z hz
    exact ⟨_, rfl, S1.like0, none, 0, by rw [he]; rfl, by rw [he]; exact World.ownsRow_nil _ _ _ _⟩
  ·
    omega


set_option maxRecDepth 100000 in
theorem split1 (B : Option Addr) (m d : Nat) (b : List UInt8) (w0 : World) (hb : Rs w0 1 B m d (bL b)) (hm9 : m ≤ 90000) (p q : List UInt8) (hz : cutF 0 (b.take 20) = some (p, q)) (hs : cutF 32 p = none) :
    Calls Try.prog 52 #[.slice B m d] w0 fun e w' => ∃ u, e = .returned u ∧ Like w0 w' ∧ ∃ A c, u = .tuple #[.int .i64 (splitC b).2.1, .slice A (splitC b).2.2.length c, .int .i64 (splitC b).1] ∧ w'.ownsRow w0.heap.size 5 1 (.slice A (splitC b).2.2.length c) (splitC b).2.2.length (bL (splitC b).2.2) := by
  refine enter1 (env := [(0, .slice B m d)]) [.slice B m d] Try.func52 rfl Try.ntmps52 rfl rfl ?_
  have hl := hb.lenb; have hcap := hb.cap; have hmax := hb.max
  obtain ⟨htp, hpl, hp20⟩ := head_p hz
  have hbp : Rs w0 1 (cutA B d 0 1) (p.length - 0) (d - 0) (bL p) := by have h9 := hb.cutb (l := 0) (u := p.length) (by omega) (by omega); rw [List.drop_zero, Nat.sub_zero, htp] at h9; exact h9
  have S0 := St.start w0 noM
  refine T_seq fun K1 hK1 => ?_
  refine T_region ?_
  refine L_y (y_assign rfl) rfl ?_
  refine L_y (y_assign rfl) rfl ?_
  refine L_y (y_assign rfl) rfl ?_
  refine L_nil ?_
  refine hK1 _ _ ?_
  refine T_seq fun K2 hK2 => ?_
  refine T_region ?_
  refine L_y (y_move rfl) rfl ?_
  refine L_y (y_move rfl) rfl ?_
  refine L_y (y_len Try.underlying27 rfl) rfl ?_
  refine L_y (y_min rfl rfl) rfl ?_
  refine L_y (y_sliceH Try.underlying27 sz5 rfl rfl (Nt.mk (by omega) : Nt _ (min 20 m)) (by omega)) rfl ?_
  refine L_o (o_call Try.func93 rfl rfl (bidx _ _ _ (b.take (min 20 m)) 0 w0 ((S0.rd hb).cutb (l := 0) (u := min 20 m) (by omega) (by omega))) rfl rfl ?_)
  rintro e1 w1 ⟨v1, rfl, l1, rfl⟩
  refine ⟨_, rfl, ?_⟩
  have S1 := S0.like l1
  rw [take_min b hl, idx_some hz]
  refine L_y (y_assign rfl) rfl ?_
  refine L_nil ?_
  refine hK2 _ _ ?_
  refine T_seq fun K3 hK3 => ?_
  refine T_seq fun K4 hK4 => ?_
  refine T_region ?_
  refine L_y (y_move rfl) rfl ?_
  refine L_y (y_lss rfl rfl) rfl ?_
  refine L_nil ?_
  refine hK4 _ _ ?_
  refine T_cond rfl (fun h21 => ?_) (fun h21 => ?_)
  ·
    omega
  ·
    refine T_skip ?_
    refine hK3 _ _ ?_
    refine T_seq fun K5 hK5 => ?_
    refine T_region ?_
    refine L_y (y_move rfl) rfl ?_
    refine L_y (y_move rfl) rfl ?_
    refine L_y (y_sliceH Try.underlying27 sz5 rfl rfl (Nt.mk rfl : Nt _ (p.length)) (by omega)) rfl ?_
    refine L_y (y_bstr Try.underlying27 Try.underlying5 Try.underlying9 rfl (S1.rd hbp)) rfl ?_
    refine L_o (o_call Try.func94 rfl rfl (Rev.scut 32 p w1 (by omega)) rfl rfl ?_)
    rintro e2 w2 ⟨v2, rfl, l2, rfl⟩
    refine ⟨_, rfl, ?_⟩
    have S2 := S1.like l2
    rw [cutV_n hs]
    refine L_y (y_move rfl) rfl ?_
    refine L_y (y_extract rfl rfl) rfl ?_
    refine L_y (y_extract rfl rfl) rfl ?_
    refine L_y (y_extract rfl rfl) rfl ?_
    refine L_y (y_assign rfl) rfl ?_
    refine L_y (y_assign rfl) rfl ?_
    refine L_y (y_assign rfl) rfl ?_
    refine L_nil ?_
    refine hK5 _ _ ?_
    refine T_seq fun K6 hK6 => ?_
    refine T_region ?_
    refine L_y (y_move rfl) rfl ?_
    refine L_o (o_call Try.func95 rfl rfl (kind_ ⟨p.toArray⟩ w2) rfl rfl ?_)
    rintro e3 w3 ⟨v3, rfl, l3, rfl⟩
    refine ⟨_, rfl, ?_⟩
    have S3 := S2.like l3
    refine L_y (y_assign rfl) rfl ?_
    refine L_nil ?_
    refine hK6 _ _ ?_
    refine T_seq fun K7 hK7 => ?_
    refine T_region ?_
    refine L_y (y_move rfl) rfl ?_
    refine L_o (o_call Try.func16 rfl rfl (Rev.number ⟨#[]⟩ w3) rfl rfl ?_)
    rintro e4 w4 ⟨v4, rfl, l4, hu4⟩
    refine ⟨_, rfl, ?_⟩
    have S4 := S3.like l4
    rw [show Rev.numR _ = _ from numR_no (by decide)] at hu4
    subst hu4
    refine L_y (y_move rfl) rfl ?_
    refine L_y (y_extract rfl rfl) rfl ?_
    refine L_y (y_extract rfl rfl) rfl ?_
    refine L_y (y_assign rfl) rfl ?_
    refine L_y (y_assign rfl) rfl ?_
    refine L_nil ?_
    refine hK7 _ _ ?_
    refine T_seq fun K8 hK8 => ?_
    refine T_seq fun K9 hK9 => ?_
    refine T_region ?_
    refine L_y (y_move rfl) rfl ?_
    refine L_y ((by first | exact y_notD rfl | exact y_not rfl)) rfl ?_
    refine L_y (y_move rfl) rfl ?_
    refine L_gno rfl rfl rfl ?_
    refine L_gno rfl rfl rfl ?_
    refine L_y ((by first | exact y_pickT rfl rfl | exact y_pickF rfl rfl)) rfl ?_
    refine L_y (y_move rfl) rfl ?_
    refine L_gno rfl rfl rfl ?_
    refine L_gno rfl rfl rfl ?_
    refine L_y ((by first | exact y_pickT rfl rfl | exact y_pickF rfl rfl)) rfl ?_
    refine L_nil ?_
    refine hK9 _ _ ?_
    refine T_true rfl ?_
    refine T_seq fun K10 hK10 => ?_
    refine T_region ?_
    refine L_y (y_assign rfl) rfl ?_
    refine L_y (y_assign rfl) rfl ?_
    refine L_y (y_assign rfl) rfl ?_
    refine L_nil ?_
    refine hK10 _ _ ?_
    refine T_ret ?_
    repeat (first | with_reducible refine up_then ?_ | with_reducible refine up_in ?_)
    refine ret3 rfl rfl rfl rfl ?_
    have he : splitC b = (12, 0, []) := split_s hz hs
    exact ⟨_, rfl, S4.like0, none, 0, by rw [he]; rfl, by rw [he]; exact World.ownsRow_nil _ _ _ _⟩


set_option maxRecDepth 100000 in
theorem split2 (B : Option Addr) (m d : Nat) (b : List UInt8) (w0 : World) (hb : Rs w0 1 B m d (bL b)) (hm9 : m ≤ 90000) (p q : List UInt8) (hz : cutF 0 (b.take 20) = some (p, q)) (wd dg : List UInt8) (hs : cutF 32 p = some (wd, dg)) (hk : Rev.numOk dg = false) :
    Calls Try.prog 52 #[.slice B m d] w0 fun e w' => ∃ u, e = .returned u ∧ Like w0 w' ∧ ∃ A c, u = .tuple #[.int .i64 (splitC b).2.1, .slice A (splitC b).2.2.length c, .int .i64 (splitC b).1] ∧ w'.ownsRow w0.heap.size 5 1 (.slice A (splitC b).2.2.length c) (splitC b).2.2.length (bL (splitC b).2.2) := by
  refine enter1 (env := [(0, .slice B m d)]) [.slice B m d] Try.func52 rfl Try.ntmps52 rfl rfl ?_
  have hl := hb.lenb; have hcap := hb.cap; have hmax := hb.max
  obtain ⟨htp, hpl, hp20⟩ := head_p hz
  have hbp : Rs w0 1 (cutA B d 0 1) (p.length - 0) (d - 0) (bL p) := by have h9 := hb.cutb (l := 0) (u := p.length) (by omega) (by omega); rw [List.drop_zero, Nat.sub_zero, htp] at h9; exact h9
  have S0 := St.start w0 noM
  refine T_seq fun K1 hK1 => ?_
  refine T_region ?_
  refine L_y (y_assign rfl) rfl ?_
  refine L_y (y_assign rfl) rfl ?_
  refine L_y (y_assign rfl) rfl ?_
  refine L_nil ?_
  refine hK1 _ _ ?_
  refine T_seq fun K2 hK2 => ?_
  refine T_region ?_
  refine L_y (y_move rfl) rfl ?_
  refine L_y (y_move rfl) rfl ?_
  refine L_y (y_len Try.underlying27 rfl) rfl ?_
  refine L_y (y_min rfl rfl) rfl ?_
  refine L_y (y_sliceH Try.underlying27 sz5 rfl rfl (Nt.mk (by omega) : Nt _ (min 20 m)) (by omega)) rfl ?_
  refine L_o (o_call Try.func93 rfl rfl (bidx _ _ _ (b.take (min 20 m)) 0 w0 ((S0.rd hb).cutb (l := 0) (u := min 20 m) (by omega) (by omega))) rfl rfl ?_)
  rintro e1 w1 ⟨v1, rfl, l1, rfl⟩
  refine ⟨_, rfl, ?_⟩
  have S1 := S0.like l1
  rw [take_min b hl, idx_some hz]
  refine L_y (y_assign rfl) rfl ?_
  refine L_nil ?_
  refine hK2 _ _ ?_
  refine T_seq fun K3 hK3 => ?_
  refine T_seq fun K4 hK4 => ?_
  refine T_region ?_
  refine L_y (y_move rfl) rfl ?_
  refine L_y (y_lss rfl rfl) rfl ?_
  refine L_nil ?_
  refine hK4 _ _ ?_
  refine T_cond rfl (fun h21 => ?_) (fun h21 => ?_)
  ·
    omega
  ·
    refine T_skip ?_
    refine hK3 _ _ ?_
    refine T_seq fun K5 hK5 => ?_
    refine T_region ?_
    refine L_y (y_move rfl) rfl ?_
    refine L_y (y_move rfl) rfl ?_
    refine L_y (y_sliceH Try.underlying27 sz5 rfl rfl (Nt.mk rfl : Nt _ (p.length)) (by omega)) rfl ?_
    refine L_y (y_bstr Try.underlying27 Try.underlying5 Try.underlying9 rfl (S1.rd hbp)) rfl ?_
    refine L_o (o_call Try.func94 rfl rfl (Rev.scut 32 p w1 (by omega)) rfl rfl ?_)
    rintro e2 w2 ⟨v2, rfl, l2, rfl⟩
    refine ⟨_, rfl, ?_⟩
    have S2 := S1.like l2
    rw [cutV_s hs]
    refine L_y (y_move rfl) rfl ?_
    refine L_y (y_extract rfl rfl) rfl ?_
    refine L_y (y_extract rfl rfl) rfl ?_
    refine L_y (y_extract rfl rfl) rfl ?_
    refine L_y (y_assign rfl) rfl ?_
    refine L_y (y_assign rfl) rfl ?_
    refine L_y (y_assign rfl) rfl ?_
    refine L_nil ?_
    refine hK5 _ _ ?_
    refine T_seq fun K6 hK6 => ?_
    refine T_region ?_
    refine L_y (y_move rfl) rfl ?_
    refine L_o (o_call Try.func95 rfl rfl (kind_ ⟨wd.toArray⟩ w2) rfl rfl ?_)
    rintro e3 w3 ⟨v3, rfl, l3, rfl⟩
    refine ⟨_, rfl, ?_⟩
    have S3 := S2.like l3
    refine L_y (y_assign rfl) rfl ?_
    refine L_nil ?_
    refine hK6 _ _ ?_
    refine T_seq fun K7 hK7 => ?_
    refine T_region ?_
    refine L_y (y_move rfl) rfl ?_
    refine L_o (o_call Try.func16 rfl rfl (Rev.number ⟨dg.toArray⟩ w3) rfl rfl ?_)
    rintro e4 w4 ⟨v4, rfl, l4, hu4⟩
    refine ⟨_, rfl, ?_⟩
    have S4 := S3.like l4
    rw [show Rev.numR _ = _ from numR_no hk] at hu4
    subst hu4
    refine L_y (y_move rfl) rfl ?_
    refine L_y (y_extract rfl rfl) rfl ?_
    refine L_y (y_extract rfl rfl) rfl ?_
    refine L_y (y_assign rfl) rfl ?_
    refine L_y (y_assign rfl) rfl ?_
    refine L_nil ?_
    refine hK7 _ _ ?_
    refine T_seq fun K8 hK8 => ?_
    refine T_seq fun K9 hK9 => ?_
    refine T_region ?_
    refine L_y (y_move rfl) rfl ?_
    refine L_y ((by first | exact y_notD rfl | exact y_not rfl)) rfl ?_
    refine L_y (y_move rfl) rfl ?_
    refine L_gyes rfl rfl ?_
    refine L_y (y_move rfl) rfl ?_
    refine L_gyes rfl rfl ?_
    refine L_y (y_eql rfl rfl) rfl ?_
    refine L_y ((by first | exact y_pickT rfl rfl | exact y_pickF rfl rfl)) rfl ?_
    refine L_y (y_move rfl) rfl ?_
    refine L_split 44 rfl (fun h44 => ?_) (fun h44 => ?_)
    ·
      refine L_gno rfl rfl rfl ?_
      refine L_gno rfl rfl rfl ?_
      refine L_y ((by first | exact y_pickT rfl rfl | exact y_pickF rfl rfl)) rfl ?_
      refine L_nil ?_
      refine hK9 _ _ ?_
      refine T_true rfl ?_
      refine T_seq fun K10 hK10 => ?_
      refine T_region ?_
      refine L_y (y_assign rfl) rfl ?_
      refine L_y (y_assign rfl) rfl ?_
      refine L_y (y_assign rfl) rfl ?_
      refine L_nil ?_
      refine hK10 _ _ ?_
      refine T_ret ?_
      repeat (first | with_reducible refine up_then ?_ | with_reducible refine up_in ?_)
      refine ret3 rfl rfl rfl rfl ?_
      have he : splitC b = (12, 0, []) := by rw [split_of hz hs]; rw [if_pos h44]
      exact ⟨_, rfl, S4.like0, none, 0, by rw [he]; rfl, by rw [he]; exact World.ownsRow_nil _ _ _ _⟩
    ·
      refine L_gyes rfl rfl ?_
      refine L_y (y_move rfl) rfl ?_
      refine L_gyes rfl rfl ?_
      refine L_y (y_neq rfl rfl) rfl ?_
      refine L_y ((by first | exact y_pickT rfl rfl | exact y_pickF rfl rfl)) rfl ?_
      refine L_nil ?_
      refine hK9 _ _ ?_
      refine T_cond rfl (fun h47 => ?_) (fun h47 => ?_)
      ·
        refine T_seq fun K11 hK11 => ?_
        refine T_region ?_
        refine L_y (y_assign rfl) rfl ?_
        refine L_y (y_assign rfl) rfl ?_
        refine L_y (y_assign rfl) rfl ?_
        refine L_nil ?_
        refine hK11 _ _ ?_
        refine T_ret ?_
        repeat (first | with_reducible refine up_then ?_ | with_reducible refine up_in ?_)
        refine ret3 rfl rfl rfl rfl ?_
        have he : splitC b = (12, 0, []) := by rw [split_of hz hs]; rw [if_neg h44, if_pos hk]
        exact ⟨_, rfl, S4.like0, none, 0, by rw [he]; rfl, by rw [he]; exact World.ownsRow_nil _ _ _ _⟩
      ·
        exact absurd (by decide) h47


set_option maxRecDepth 100000 in
theorem split3 (B : Option Addr) (m d : Nat) (b : List UInt8) (w0 : World) (hb : Rs w0 1 B m d (bL b)) (hm9 : m ≤ 90000) (p q : List UInt8) (hz : cutF 0 (b.take 20) = some (p, q)) (wd dg : List UInt8) (hs : cutF 32 p = some (wd, dg)) (hk : Rev.numOk dg = true) :
    Calls Try.prog 52 #[.slice B m d] w0 fun e w' => ∃ u, e = .returned u ∧ Like w0 w' ∧ ∃ A c, u = .tuple #[.int .i64 (splitC b).2.1, .slice A (splitC b).2.2.length c, .int .i64 (splitC b).1] ∧ w'.ownsRow w0.heap.size 5 1 (.slice A (splitC b).2.2.length c) (splitC b).2.2.length (bL (splitC b).2.2) := by
  refine enter1 (env := [(0, .slice B m d)]) [.slice B m d] Try.func52 rfl Try.ntmps52 rfl rfl ?_
  have hl := hb.lenb; have hcap := hb.cap; have hmax := hb.max
  obtain ⟨htp, hpl, hp20⟩ := head_p hz
  have hbp : Rs w0 1 (cutA B d 0 1) (p.length - 0) (d - 0) (bL p) := by have h9 := hb.cutb (l := 0) (u := p.length) (by omega) (by omega); rw [List.drop_zero, Nat.sub_zero, htp] at h9; exact h9
  have S0 := St.start w0 noM
  refine T_seq fun K1 hK1 => ?_
  refine T_region ?_
  refine L_y (y_assign rfl) rfl ?_
  refine L_y (y_assign rfl) rfl ?_
  refine L_y (y_assign rfl) rfl ?_
  refine L_nil ?_
  refine hK1 _ _ ?_
  refine T_seq fun K2 hK2 => ?_
  refine T_region ?_
  refine L_y (y_move rfl) rfl ?_
  refine L_y (y_move rfl) rfl ?_
  refine L_y (y_len Try.underlying27 rfl) rfl ?_
  refine L_y (y_min rfl rfl) rfl ?_
  refine L_y (y_sliceH Try.underlying27 sz5 rfl rfl (Nt.mk (by omega) : Nt _ (min 20 m)) (by omega)) rfl ?_
  refine L_o (o_call Try.func93 rfl rfl (bidx _ _ _ (b.take (min 20 m)) 0 w0 ((S0.rd hb).cutb (l := 0) (u := min 20 m) (by omega) (by omega))) rfl rfl ?_)
  rintro e1 w1 ⟨v1, rfl, l1, rfl⟩
  refine ⟨_, rfl, ?_⟩
  have S1 := S0.like l1
  rw [take_min b hl, idx_some hz]
  refine L_y (y_assign rfl) rfl ?_
  refine L_nil ?_
  refine hK2 _ _ ?_
  refine T_seq fun K3 hK3 => ?_
  refine T_seq fun K4 hK4 => ?_
  refine T_region ?_
  refine L_y (y_move rfl) rfl ?_
  refine L_y (y_lss rfl rfl) rfl ?_
  refine L_nil ?_
  refine hK4 _ _ ?_
  refine T_cond rfl (fun h21 => ?_) (fun h21 => ?_)
  ·
    omega
  ·
    refine T_skip ?_
    refine hK3 _ _ ?_
    refine T_seq fun K5 hK5 => ?_
    refine T_region ?_
    refine L_y (y_move rfl) rfl ?_
    refine L_y (y_move rfl) rfl ?_
    refine L_y (y_sliceH Try.underlying27 sz5 rfl rfl (Nt.mk rfl : Nt _ (p.length)) (by omega)) rfl ?_
    refine L_y (y_bstr Try.underlying27 Try.underlying5 Try.underlying9 rfl (S1.rd hbp)) rfl ?_
    refine L_o (o_call Try.func94 rfl rfl (Rev.scut 32 p w1 (by omega)) rfl rfl ?_)
    rintro e2 w2 ⟨v2, rfl, l2, rfl⟩
    refine ⟨_, rfl, ?_⟩
    have S2 := S1.like l2
    rw [cutV_s hs]
    refine L_y (y_move rfl) rfl ?_
    refine L_y (y_extract rfl rfl) rfl ?_
    refine L_y (y_extract rfl rfl) rfl ?_
    refine L_y (y_extract rfl rfl) rfl ?_
    refine L_y (y_assign rfl) rfl ?_
    refine L_y (y_assign rfl) rfl ?_
    refine L_y (y_assign rfl) rfl ?_
    refine L_nil ?_
    refine hK5 _ _ ?_
    refine T_seq fun K6 hK6 => ?_
    refine T_region ?_
    refine L_y (y_move rfl) rfl ?_
    refine L_o (o_call Try.func95 rfl rfl (kind_ ⟨wd.toArray⟩ w2) rfl rfl ?_)
    rintro e3 w3 ⟨v3, rfl, l3, rfl⟩
    refine ⟨_, rfl, ?_⟩
    have S3 := S2.like l3
    refine L_y (y_assign rfl) rfl ?_
    refine L_nil ?_
    refine hK6 _ _ ?_
    refine T_seq fun K7 hK7 => ?_
    refine T_region ?_
    refine L_y (y_move rfl) rfl ?_
    refine L_o (o_call Try.func16 rfl rfl (Rev.number ⟨dg.toArray⟩ w3) rfl rfl ?_)
    rintro e4 w4 ⟨v4, rfl, l4, hu4⟩
    refine ⟨_, rfl, ?_⟩
    have S4 := S3.like l4
    rw [show Rev.numR _ = _ from numR_ok hk] at hu4
    subst hu4
    refine L_y (y_move rfl) rfl ?_
    refine L_y (y_extract rfl rfl) rfl ?_
    refine L_y (y_extract rfl rfl) rfl ?_
    refine L_y (y_assign rfl) rfl ?_
    refine L_y (y_assign rfl) rfl ?_
    refine L_nil ?_
    refine hK7 _ _ ?_
    refine T_seq fun K8 hK8 => ?_
    refine T_seq fun K9 hK9 => ?_
    refine T_region ?_
    refine L_y (y_move rfl) rfl ?_
    refine L_y ((by first | exact y_notD rfl | exact y_not rfl)) rfl ?_
    refine L_y (y_move rfl) rfl ?_
    refine L_gyes rfl rfl ?_
    refine L_y (y_move rfl) rfl ?_
    refine L_gyes rfl rfl ?_
    refine L_y (y_eql rfl rfl) rfl ?_
    refine L_y ((by first | exact y_pickT rfl rfl | exact y_pickF rfl rfl)) rfl ?_
    refine L_y (y_move rfl) rfl ?_
    refine L_split 44 rfl (fun h44 => ?_) (fun h44 => ?_)
    ·
      refine L_gno rfl rfl rfl ?_
      refine L_gno rfl rfl rfl ?_
      refine L_y ((by first | exact y_pickT rfl rfl | exact y_pickF rfl rfl)) rfl ?_
      refine L_nil ?_
      refine hK9 _ _ ?_
      refine T_true rfl ?_
      refine T_seq fun K10 hK10 => ?_
      refine T_region ?_
      refine L_y (y_assign rfl) rfl ?_
      refine L_y (y_assign rfl) rfl ?_
      refine L_y (y_assign rfl) rfl ?_
      refine L_nil ?_
      refine hK10 _ _ ?_
      refine T_ret ?_
      repeat (first | with_reducible refine up_then ?_ | with_reducible refine up_in ?_)
      refine ret3 rfl rfl rfl rfl ?_
      have he : splitC b = (12, 0, []) := by rw [split_of hz hs]; rw [if_pos h44]
      exact ⟨_, rfl, S4.like0, none, 0, by rw [he]; rfl, by rw [he]; exact World.ownsRow_nil _ _ _ _⟩
    ·
      refine L_gyes rfl rfl ?_
      refine L_y (y_move rfl) rfl ?_
      refine L_gyes rfl rfl ?_
      refine L_y (y_neq rfl rfl) rfl ?_
      refine L_y ((by first | exact y_pickT rfl rfl | exact y_pickF rfl rfl)) rfl ?_
      refine L_nil ?_
      refine hK9 _ _ ?_
      refine T_cond rfl (fun h47 => ?_) (fun h47 => ?_)
      ·
        exact absurd rfl h47
      ·
        refine T_skip ?_
        refine hK8 _ _ ?_
        refine T_seq fun K11 hK11 => ?_
        refine T_region ?_
        refine L_y (y_move rfl) rfl ?_
        refine L_y (y_move rfl) rfl ?_
        refine L_y (y_add rfl rfl (i64w (by omega))) rfl ?_
        have hdl : (b.drop (p.length + 1)).length = m - (p.length + 1) := by rw [List.length_drop, hl]
        refine L_y (y_sliceL Try.underlying27 sz5 rfl rfl (Nt.mk (by omega) : Nt _ (p.length + 1)) (by omega)) rfl ?_
        refine L_y (y_assign rfl) rfl ?_
        refine L_nil ?_
        refine hK11 _ _ ?_
        refine T_seq fun K12 hK12 => ?_
        refine T_block ?_
        refine T_seq fun K13 hK13 => ?_
        refine T_region ?_
        refine L_y (y_move rfl) rfl ?_
        refine L_y (y_len Try.underlying27 rfl) rfl ?_
        refine L_y (y_move rfl) rfl ?_
        refine L_y (y_lss rfl rfl) rfl ?_
        refine L_y (y_assign rfl) rfl ?_
        refine L_nil ?_
        refine hK13 _ _ ?_
        refine T_cond rfl (fun h52 => ?_) (fun h52 => ?_)
        ·
          refine T_seq fun K14 hK14 => ?_
          refine T_region ?_
          refine L_y (y_assign rfl) rfl ?_
          refine L_y (y_assign rfl) rfl ?_
          refine L_y (y_assign rfl) rfl ?_
          refine L_nil ?_
          refine hK14 _ _ ?_
          refine T_ret ?_
          repeat (first | with_reducible refine up_then ?_ | with_reducible refine up_in ?_)
          refine ret3 rfl rfl rfl rfl ?_
          have he : splitC b = (10, 0, []) := by rw [split_of hz hs]; rw [if_neg h44, if_neg (by rw [hk]; decide), if_pos (by omega)]
          exact ⟨_, rfl, S4.like0, none, 0, by rw [he]; rfl, by rw [he]; exact World.ownsRow_nil _ _ _ _⟩
        ·
          refine T_seq fun K15 hK15 => ?_
          refine T_region ?_
          refine L_y (y_move rfl) rfl ?_
          refine L_y (y_len Try.underlying27 rfl) rfl ?_
          refine L_y (y_move rfl) rfl ?_
          refine L_y (y_gtr rfl rfl) rfl ?_
          refine L_y (y_assign rfl) rfl ?_
          refine L_nil ?_
          refine hK15 _ _ ?_
          refine T_cond rfl (fun h57 => ?_) (fun h57 => ?_)
          ·
            refine T_seq fun K16 hK16 => ?_
            refine T_region ?_
            refine L_y (y_assign rfl) rfl ?_
            refine L_y (y_assign rfl) rfl ?_
            refine L_y (y_assign rfl) rfl ?_
            refine L_nil ?_
            refine hK16 _ _ ?_
            refine T_ret ?_
            repeat (first | with_reducible refine up_then ?_ | with_reducible refine up_in ?_)
            refine ret3 rfl rfl rfl rfl ?_
            have he : splitC b = (12, 0, []) := by rw [split_of hz hs]; rw [if_neg h44, if_neg (by rw [hk]; decide), if_neg (by omega), if_pos (by omega)]
            exact ⟨_, rfl, S4.like0, none, 0, by rw [he]; rfl, by rw [he]; exact World.ownsRow_nil _ _ _ _⟩
          ·
            refine T_skip ?_
            refine hK12 _ _ ?_
            refine T_seq fun K17 hK17 => ?_
            refine T_seq fun K18 hK18 => ?_
            refine T_region ?_
            refine L_y (y_move rfl) rfl ?_
            refine L_y (y_move rfl) rfl ?_
            refine L_o (o_call Try.func91 rfl rfl (check_ (kindS ⟨wd.toArray⟩) _ _ _ (b.drop (p.length + 1)) w4 (rs_tail (p.length + 1) (S4.rd hb) (by omega))) rfl rfl ?_)
            rintro e6 w6 ⟨v6, rfl, l6, rfl⟩
            refine ⟨_, rfl, ?_⟩
            have S6 := S4.like l6
            refine L_y (y_assign rfl) rfl ?_
            refine L_nil ?_
            refine hK18 _ _ ?_
            refine T_seq fun K19 hK19 => ?_
            refine T_region ?_
            refine L_y (y_move rfl) rfl ?_
            refine L_y (y_neq rfl rfl) rfl ?_
            refine L_nil ?_
            refine hK19 _ _ ?_
            refine T_cond rfl (fun h66 => ?_) (fun h66 => ?_)
            ·
              refine T_seq fun K20 hK20 => ?_
              refine T_region ?_
              refine L_y (y_move rfl) rfl ?_
              refine L_y (y_assign rfl) rfl ?_
              refine L_y (y_assign rfl) rfl ?_
              refine L_y (y_assign rfl) rfl ?_
              refine L_nil ?_
              refine hK20 _ _ ?_
              refine T_ret ?_
              repeat (first | with_reducible refine up_then ?_ | with_reducible refine up_in ?_)
              refine ret3 rfl rfl rfl rfl ?_
              have he : splitC b = (objE (kindS ⟨wd.toArray⟩) (b.drop (p.length + 1)), 0, []) := by rw [split_of hz hs]; rw [if_neg h44, if_neg (by rw [hk]; decide), if_neg (by omega), if_neg (by omega), if_pos h66]
              exact ⟨_, rfl, S6.like0, none, 0, by rw [he]; rfl, by rw [he]; exact World.ownsRow_nil _ _ _ _⟩
            ·
              refine T_skip ?_
              refine hK17 _ _ ?_
              refine T_seq fun K21 hK21 => ?_
              refine T_region ?_
              refine L_y (y_move rfl) rfl ?_
              refine L_y (y_move rfl) rfl ?_
              refine L_o (o_call Try.func96 rfl rfl (clone _ _ _ (b.drop (p.length + 1)) w6 (rs_tail (p.length + 1) (S6.rd hb) (by omega)) (by omega)) rfl rfl ?_)
              rintro e7 w7 ⟨v7, rfl, l7, A70, c70, rfl, O7⟩
              refine ⟨_, rfl, ?_⟩
              have S7 := S6.adopt l7 O7
              refine L_y (y_assign rfl) rfl ?_
              refine L_y (y_assign rfl) rfl ?_
              refine L_y (y_assign rfl) rfl ?_
              refine L_nil ?_
              refine hK21 _ _ ?_
              refine T_ret ?_
              repeat (first | with_reducible refine up_then ?_ | with_reducible refine up_in ?_)
              refine ret3 rfl rfl rfl rfl ?_
              have he : splitC b = (0, kindS ⟨wd.toArray⟩, b.drop (p.length + 1)) := by rw [split_of hz hs]; rw [if_neg h44, if_neg (by rw [hk]; decide), if_neg (by omega), if_neg (by omega), if_neg h66]
              have S93 := S7.rowc 0 rfl (n' := (b.drop (p.length + 1)).length) hdl.symm rfl
              rw [← hdl]
              exact ⟨_, rfl, S7.like0, _, _, by rw [he], by rw [he]; exact S93.own 0 rfl⟩


theorem split_ (B : Option Addr) (m d : Nat) (b : List UInt8) (w0 : World) (hb : Rs w0 1 B m d (bL b)) (hm9 : m ≤ 90000) : Calls Try.prog 52 #[.slice B m d] w0 fun e w' => ∃ u, e = .returned u ∧ Like w0 w' ∧ ∃ A c, u = .tuple #[.int .i64 (splitC b).2.1, .slice A (splitC b).2.2.length c, .int .i64 (splitC b).1] ∧ w'.ownsRow w0.heap.size 5 1 (.slice A (splitC b).2.2.length c) (splitC b).2.2.length (bL (splitC b).2.2) := by
  cases hz : cutF 0 (b.take 20) with
  | none => exact split0 B m d b w0 hb hm9 hz
  | some pq =>
    obtain ⟨p, q⟩ := pq
    cases hs : cutF 32 p with
    | none => exact split1 B m d b w0 hb hm9 p q hz hs
    | some wg =>
      obtain ⟨wd, dg⟩ := wg
      cases hk : Rev.numOk dg with
      | false => exact split2 B m d b w0 hb hm9 p q hz wd dg hs hk
      | true => exact split3 B m d b w0 hb hm9 p q hz wd dg hs hk
end Go.Proofs.Ytgaklngnfecdaaa.Obj


/-
  The law ObjectBack.
-/
namespace Go.Proofs.Ytgaklngnfecdaaa.Obj
open Go.RowKit Zk Zx
open Oid (idf idf_len)
open Tre (nmOk EV enf enf_len mdOk chkE)
open Rev (cutF cutF_some cutF_none)
set_option linter.unusedVariables false
set_option linter.unusedSimpArgs false

theorem objE_k {k : Int} {b : List UInt8} (h : objE k b = 0) : (1 ≤ k ∧ k ≤ 4) ∧ b.length ≤ 4000 := by
  unfold objE at h
  split at h
  · cases h
  · rename_i h1
    split at h
    · cases h
    · rename_i h2
      exact ⟨Classical.not_not.1 h1, by omega⟩
theorem word_no0 (k : Int) : (0 : UInt8) ∉ wordB k ∧ (32 : UInt8) ∉ wordB k := by
  unfold wordB
  repeat' split
  all_goals decide
theorem wordB_len (k : Int) : (wordB k).length ≤ 6 := by
  unfold wordB
  repeat' split
  all_goals decide
theorem kind_word {k : Int} (h : 1 ≤ k ∧ k ≤ 4) : kindS ⟨(wordB k).toArray⟩ = k := by
  have hk : k = 1 ∨ k = 2 ∨ k = 3 ∨ k = 4 := by omega
  rcases hk with rfl | rfl | rfl | rfl <;> decide
theorem word_kind {s : ByteArray} (h : kindS s ≠ 0) : wordS (kindS s) = s := by
  unfold kindS at h ⊢
  by_cases h1 : wordS 1 = s
  · rw [if_pos h1]; exact h1
  · by_cases h2 : wordS 2 = s
    · rw [if_neg h1, if_pos h2]; exact h2
    · by_cases h3 : wordS 3 = s
      · rw [if_neg h1, if_neg h2, if_pos h3]; exact h3
      · by_cases h4 : wordS 4 = s
        · rw [if_neg h1, if_neg h2, if_neg h3, if_pos h4]; exact h4
        · rw [if_neg h1, if_neg h2, if_neg h3, if_neg h4] at h
          exact absurd rfl h
theorem dgt_no0 (n : Nat) : (0 : UInt8) ∉ Rev.dgt n := fun h => by
  have h1 := Rev.all_dgt n
  rw [List.all_eq_true] at h1
  have := h1 0 h
  revert this
  decide
theorem dgt_small {n : Nat} (h : n ≤ 4000) : (Rev.dgt n).length ≤ 4 := Rev.dgt_len 3 n (by omega)
theorem split_obj {k : Int} {b : List UInt8} (h : objE k b = 0) : splitC (objB k b) = (0, k, b) := by
  obtain ⟨hk, hb⟩ := objE_k h
  have hD := dgt_small hb
  have hW := wordB_len k
  have hw := word_no0 k
  obtain ⟨p, hp⟩ : ∃ p, p = wordB k ++ 32 :: Rev.dgt b.length := ⟨_, rfl⟩
  have hpl : p.length ≤ 11 := by rw [hp, List.length_append, List.length_cons]; omega
  have hO : objB k b = p ++ 0 :: b := by
    unfold objB
    rw [Rev.digS_nat, hp]
    simp
  have h0 : (0 : UInt8) ∉ p := by
    rw [hp]
    intro q
    rcases List.mem_append.1 q with q | q
    · exact hw.1 q
    · rcases List.mem_cons.1 q with q | q
      · revert q; decide
      · exact dgt_no0 _ q
  have ht : (objB k b).take 20 = p ++ 0 :: b.take (19 - p.length) := by
    rw [hO, List.take_append, List.take_of_length_le (by omega), show 20 - p.length = (19 - p.length) + 1 by omega, List.take_succ_cons]
  have hz : cutF 0 ((objB k b).take 20) = some (p, b.take (19 - p.length)) := by rw [ht]; exact Rev.cutF_of h0
  have hs : cutF 32 p = some (wordB k, Rev.dgt b.length) := by rw [hp]; exact Rev.cutF_of hw.2
  have hd : (objB k b).drop (p.length + 1) = b := by rw [hO, ← List.drop_drop, List.drop_append_of_le_length (Nat.le_refl _), List.drop_of_length_le (Nat.le_refl _)]; rfl
  rw [split_of hz hs, hd, kind_word hk, Rev.numV_dgt, if_neg (by omega), if_neg (by rw [Rev.numOk_dgt (by omega)]; decide), if_neg (by omega), if_neg (by omega), if_neg (fun q => q h)]
/-- What Split tells well. -/
theorem back_obj {b : List UInt8} (h : (splitC b).1 = 0) : objE (splitC b).2.1 (splitC b).2.2 = 0 ∧ objB (splitC b).2.1 (splitC b).2.2 = b := by
  cases hz : cutF 0 (b.take 20) with
  | none => rw [split_z hz] at h; cases h
  | some pq =>
    obtain ⟨p, q⟩ := pq
    cases hs : cutF 32 p with
    | none => rw [split_s hz hs] at h; cases h
    | some wg =>
      obtain ⟨wd, dg⟩ := wg
      have ho := split_of hz hs
      by_cases h1 : kindS ⟨wd.toArray⟩ = 0
      · rw [ho, if_pos h1] at h; cases h
      by_cases h2 : Rev.numOk dg = false
      · rw [ho, if_neg h1, if_pos h2] at h; cases h
      by_cases h3 : (b.drop (p.length + 1)).length < Rev.numV dg
      · rw [ho, if_neg h1, if_neg h2, if_pos h3] at h; cases h
      by_cases h4 : Rev.numV dg < (b.drop (p.length + 1)).length
      · rw [ho, if_neg h1, if_neg h2, if_neg h3, if_pos h4] at h; cases h
      by_cases h5 : objE (kindS ⟨wd.toArray⟩) (b.drop (p.length + 1)) ≠ 0
      · rw [ho, if_neg h1, if_neg h2, if_neg h3, if_neg h4, if_pos h5] at h
        exact absurd h h5
      have e : splitC b = (0, kindS ⟨wd.toArray⟩, b.drop (p.length + 1)) := by rw [ho, if_neg h1, if_neg h2, if_neg h3, if_neg h4, if_neg h5]
      rw [e]
      refine ⟨Classical.not_not.1 h5, ?_⟩
      have hw : wordB (kindS ⟨wd.toArray⟩) = wd := by
        have h6 := word_kind h1
        have h7 := congrArg (fun x : ByteArray => x.data.toList) h6
        simpa [wordS] using h7
      have hn : Rev.dgt (b.drop (p.length + 1)).length = dg := by
        rw [show (b.drop (p.length + 1)).length = Rev.numV dg by omega]
        exact Rev.dgt_numV (by cases hq : Rev.numOk dg; exact absurd hq h2; rfl)
      unfold objB
      rw [Rev.digS_nat]
      simp only []
      rw [hw, hn]
      have hp := (cutF_some hs).1
      have hb9 : b.take (p.length + 1) = p ++ [0] := by
        have h8 := (cutF_some hz).1
        obtain ⟨_, h11, h12⟩ := head_p hz
        have h10 : (b.take 20).take (p.length + 1) = p ++ [0] := by rw [h8, List.take_append, List.take_of_length_le (by omega), show p.length + 1 - p.length = 1 by omega]; rfl
        rw [List.take_take, Nat.min_eq_left (by omega)] at h10
        exact h10
      conv => rhs; rw [← List.take_append_drop (p.length + 1) b, hb9]
      rw [show p ++ [0] = wd ++ [32] ++ dg ++ [0] by rw [hp]; simp]
theorem split_bad {b : List UInt8} (h : (splitC b).1 ≠ 0) : splitC b = ((splitC b).1, 0, []) := by
  cases hz : cutF 0 (b.take 20) with
  | none => rw [split_z hz]
  | some pq =>
    obtain ⟨p, q⟩ := pq
    cases hs : cutF 32 p with
    | none => rw [split_s hz hs]
    | some wg =>
      obtain ⟨wd, dg⟩ := wg
      have ho := split_of hz hs
      by_cases h1 : kindS ⟨wd.toArray⟩ = 0
      · rw [ho, if_pos h1]
      by_cases h2 : Rev.numOk dg = false
      · rw [ho, if_neg h1, if_pos h2]
      by_cases h3 : (b.drop (p.length + 1)).length < Rev.numV dg
      · rw [ho, if_neg h1, if_neg h2, if_pos h3]
      by_cases h4 : Rev.numV dg < (b.drop (p.length + 1)).length
      · rw [ho, if_neg h1, if_neg h2, if_neg h3, if_pos h4]
      by_cases h5 : objE (kindS ⟨wd.toArray⟩) (b.drop (p.length + 1)) ≠ 0
      · rw [ho, if_neg h1, if_neg h2, if_neg h3, if_neg h4, if_pos h5]
      · rw [ho, if_neg h1, if_neg h2, if_neg h3, if_neg h4, if_neg h5] at h
        exact absurd rfl h
theorem bytesGood (k : Int) (B : Option Addr) (m d : Nat) (b : List UInt8) (w0 : World) (hb : Rs w0 1 B m d (bL b)) (hm9 : m ≤ 90000) (he : objE k b = 0) : Calls Try.prog 51 #[.int .i64 k, .slice B m d] w0 fun e w' => ∃ u, e = .returned u ∧ Like w0 w' ∧ ∃ A c, u = .tuple #[.slice A (objB k b).length c, .int .i64 0] ∧ Fr w0 w' 1 A (objB k b).length c (bL (objB k b)) :=
  (bytes_ k B m d b w0 hb hm9).mono fun e w' ⟨u, h1, h2, h3⟩ => by
    rcases h3 with ⟨h, _⟩ | ⟨_, A, c, h4, h5⟩
    · exact absurd he h
    · exact ⟨u, h1, h2, A, c, h4, h5⟩
theorem bytesBad (k : Int) (B : Option Addr) (m d : Nat) (b : List UInt8) (w0 : World) (hb : Rs w0 1 B m d (bL b)) (hm9 : m ≤ 90000) (he : objE k b ≠ 0) : Calls Try.prog 51 #[.int .i64 k, .slice B m d] w0 fun e w' => ∃ u, e = .returned u ∧ Like w0 w' ∧ u = .tuple #[.slice none 0 0, .int .i64 (objE k b)] :=
  (bytes_ k B m d b w0 hb hm9).mono fun e w' ⟨u, h1, h2, h3⟩ => by
    rcases h3 with ⟨_, h⟩ | ⟨h, _⟩
    · exact ⟨u, h1, h2, h⟩
    · exact absurd h he
theorem splitGood (k : Int) (B : Option Addr) (m d : Nat) (y b : List UInt8) (w0 : World) (hb : Rs w0 1 B m d (bL b)) (hm9 : m ≤ 90000) (he : splitC b = (0, k, y)) : Calls Try.prog 52 #[.slice B m d] w0 fun e w' => ∃ u, e = .returned u ∧ Like w0 w' ∧ ∃ A c, u = .tuple #[.int .i64 k, .slice A y.length c, .int .i64 0] ∧ w'.ownsRow w0.heap.size 5 1 (.slice A y.length c) y.length (bL y) :=
  (split_ B m d b w0 hb hm9).mono fun e w' ⟨u, h1, h2, A, c, h3, h4⟩ => by
    rw [he] at h3 h4
    exact ⟨u, h1, h2, A, c, h3, h4⟩
theorem objB_len {k : Int} {b : List UInt8} (h : objE k b = 0) : (objB k b).length ≤ b.length + 20 := by
  obtain ⟨hk, hb⟩ := objE_k h
  have hD := dgt_small hb
  have hW := wordB_len k
  unfold objB
  rw [Rev.digS_nat]
  simp only [List.length_append, List.length_cons, List.length_nil]
  omega
theorem hi_ok : objE 1 [104, 105] = 0 := by unfold objE; rw [if_neg (by decide), if_neg (by decide), if_neg (by decide), if_neg (by decide), if_neg (by decide)]
theorem hi_b : objB 1 [104, 105] = [98, 108, 111, 98, 32, 50, 0, 104, 105] := by
  unfold objB
  rw [show (([104, 105] : List UInt8).length : Int) = ((2 : Nat) : Int) from rfl, Rev.digS_nat, Rev.dgt_eq, show 2 / 10 = 0 from rfl, Rev.dg0_zero]
  rfl


set_option maxRecDepth 100000 in
theorem works  (w0 : World)  :
    Calls Try.prog 50 #[] w0 fun e w' => ∃ u, e = .returned u ∧ Like w0 w' ∧ u = .bool true := by
  refine enter1 (env := []) [] Try.func50 rfl Try.ntmps50 rfl rfl ?_
  have S0 := St.start w0 noM
  refine T_seq fun K1 hK1 => ?_
  refine T_region ?_
  refine L_y (y_assign rfl) rfl ?_
  refine L_nil ?_
  refine hK1 _ _ ?_
  refine T_seq fun K2 hK2 => ?_
  refine T_region ?_
  refine L_o (o_bsl [_, _] te27 zz5 S0 rfl rfl rfl rfl rfl rfl rfl rfl fun b1 w1 S1 => ?_)
  refine L_o (o_bconst S1 0 rfl Try.underlying27 Try.underlying5 rfl (by omega) rfl fun w2 S2 => ?_)
  refine L_o (o_call Try.func51 rfl rfl (bytesGood 1 _ 2 _ [104, 105] w2 (S2.fix 0 rfl) (by omega) hi_ok) rfl rfl ?_)
  rintro e3 w3 ⟨v3, rfl, l3, A3, c3, rfl, F3⟩
  refine ⟨_, rfl, ?_⟩
  have S3 := S2.adoptF l3 F3
  refine L_y (y_move rfl) rfl ?_
  refine L_y (y_extract rfl rfl) rfl ?_
  refine L_y (y_extract rfl rfl) rfl ?_
  refine L_y (y_assign rfl) rfl ?_
  refine L_y (y_assign rfl) rfl ?_
  refine L_nil ?_
  refine hK2 _ _ ?_
  refine T_seq fun K3 hK3 => ?_
  refine T_region ?_
  refine L_y (y_move rfl) rfl ?_
  refine L_y (y_eql rfl rfl) rfl ?_
  refine L_y (y_move rfl) rfl ?_
  refine L_split 11 rfl (fun h11 => ?_) (fun h11 => ?_)
  ·
    refine L_gyes rfl rfl ?_
    refine L_y (y_move rfl) rfl ?_
    refine L_gyes rfl rfl ?_
    refine L_y (y_bstr Try.underlying27 Try.underlying5 Try.underlying9 rfl (S3.fix 1 rfl)) rfl ?_
    rw [hi_b]
    refine L_gyes rfl rfl ?_
    refine L_y (y_seql rfl rfl) rfl ?_
    refine L_y ((by first | exact y_pickT rfl rfl | exact y_pickF rfl rfl)) rfl ?_
    refine L_y (y_assign rfl) rfl ?_
    refine L_nil ?_
    refine hK3 _ _ ?_
    refine T_ret ?_
    repeat (first | with_reducible refine up_then ?_ | with_reducible refine up_in ?_)
    refine ret1 rfl rfl ?_
    exact ⟨_, rfl, S3.like0, congrArg Value.bool (decide_eq_true rfl)⟩
  ·
    exact absurd rfl h11


set_option maxRecDepth 100000 in
theorem back1 (k : Int) (B1 : Option Addr) (m1 d1 : Nat) (b1 : List UInt8) (B2 : Option Addr) (m2 d2 : Nat) (b2 : List UInt8) (w0 : World) (hb1 : Rs w0 1 B1 m1 d1 (bL b1)) (hb2 : Rs w0 1 B2 m2 d2 (bL b2)) (he : objE k b1 = 0) :
    Calls Try.prog 13 #[.int .i64 k, .slice B1 m1 d1, .slice B2 m2 d2] w0 fun e w' => ∃ u, e = .returned u ∧ Like w0 w' ∧ u = .bool true := by
  refine enter1 (env := [(0, .int .i64 k), (1, .slice B1 m1 d1), (2, .slice B2 m2 d2)]) [.int .i64 k, .slice B1 m1 d1, .slice B2 m2 d2] Try.func13 rfl Try.ntmps13 rfl rfl ?_
  have hl1 := hb1.lenb; have hc1 := hb1.cap; have hx1 := hb1.max; have hl2 := hb2.lenb; have hc2 := hb2.cap; have hx2 := hb2.max
  have S0 := St.start w0 noM
  refine T_seq fun K1 hK1 => ?_
  refine T_region ?_
  refine L_y (y_assign rfl) rfl ?_
  refine L_nil ?_
  refine hK1 _ _ ?_
  refine T_seq fun K2 hK2 => ?_
  refine T_seq fun K3 hK3 => ?_
  refine T_region ?_
  refine L_y (y_move rfl) rfl ?_
  refine L_y (y_len Try.underlying27 rfl) rfl ?_
  refine L_y (y_gtr rfl rfl) rfl ?_
  refine L_y (y_move rfl) rfl ?_
  refine L_split 20 rfl (fun h20 => ?_) (fun h20 => ?_)
  ·
    refine L_gno rfl rfl rfl ?_
    refine L_gno rfl rfl rfl ?_
    refine L_gno rfl rfl rfl ?_
    refine L_y ((by first | exact y_pickT rfl rfl | exact y_pickF rfl rfl)) rfl ?_
    refine L_nil ?_
    refine hK3 _ _ ?_
    refine T_true rfl ?_
    refine T_seq fun K4 hK4 => ?_
    refine T_region ?_
    refine L_o (o_call Try.func50 rfl rfl (works w0) rfl rfl ?_)
    rintro e2 w2 ⟨v2, rfl, l2, rfl⟩
    refine ⟨_, rfl, ?_⟩
    have S2 := S0.like l2
    refine L_y (y_assign rfl) rfl ?_
    refine L_nil ?_
    refine hK4 _ _ ?_
    refine T_ret ?_
    repeat (first | with_reducible refine up_then ?_ | with_reducible refine up_in ?_)
    refine ret1 rfl rfl ?_
    exact ⟨_, rfl, S2.like0, rfl⟩
  ·
    refine L_gyes rfl rfl ?_
    refine L_y (y_move rfl) rfl ?_
    refine L_gyes rfl rfl ?_
    refine L_y (y_len Try.underlying27 rfl) rfl ?_
    refine L_gyes rfl rfl ?_
    refine L_y (y_gtr rfl rfl) rfl ?_
    refine L_y ((by first | exact y_pickT rfl rfl | exact y_pickF rfl rfl)) rfl ?_
    refine L_nil ?_
    refine hK3 _ _ ?_
    refine T_cond rfl (fun h24 => ?_) (fun h24 => ?_)
    ·
      refine T_seq fun K5 hK5 => ?_
      refine T_region ?_
      refine L_o (o_call Try.func50 rfl rfl (works w0) rfl rfl ?_)
      rintro e3 w3 ⟨v3, rfl, l3, rfl⟩
      refine ⟨_, rfl, ?_⟩
      have S3 := S0.like l3
      refine L_y (y_assign rfl) rfl ?_
      refine L_nil ?_
      refine hK5 _ _ ?_
      refine T_ret ?_
      repeat (first | with_reducible refine up_then ?_ | with_reducible refine up_in ?_)
      refine ret1 rfl rfl ?_
      exact ⟨_, rfl, S3.like0, rfl⟩
    ·
      refine T_skip ?_
      refine hK2 _ _ ?_
      refine T_seq fun K6 hK6 => ?_
      refine T_region ?_
      refine L_y (y_move rfl) rfl ?_
      refine L_y (y_move rfl) rfl ?_
      refine L_o (o_call Try.func51 rfl rfl (bytesGood k B1 m1 d1 b1 w0 (S0.rd hb1) (by omega) he) rfl rfl ?_)
      rintro e4 w4 ⟨v4, rfl, l4, A29, c29, rfl, F4⟩
      refine ⟨_, rfl, ?_⟩
      have S4 := S0.adoptF l4 F4
      refine L_y (y_move rfl) rfl ?_
      refine L_y (y_extract rfl rfl) rfl ?_
      refine L_y (y_extract rfl rfl) rfl ?_
      refine L_y (y_assign rfl) rfl ?_
      refine L_y (y_assign rfl) rfl ?_
      refine L_nil ?_
      refine hK6 _ _ ?_
      refine T_seq fun K7 hK7 => ?_
      refine T_seq fun K8 hK8 => ?_
      refine T_region ?_
      refine L_y (y_move rfl) rfl ?_
      refine L_y (y_eql rfl rfl) rfl ?_
      refine L_nil ?_
      refine hK8 _ _ ?_
      refine T_cond rfl (fun h33 => ?_) (fun h33 => ?_)
      ·
        refine T_seq fun K9 hK9 => ?_
        refine T_region ?_
        refine L_y (y_move rfl) rfl ?_
        refine L_o (o_call Try.func52 rfl rfl (splitGood k _ _ _ b1 (objB k b1) w4 (S4.fix 0 rfl) (by have h9 := objB_len he; omega) (split_obj he)) rfl rfl ?_)
        rintro e5 w5 ⟨v5, rfl, l5, A36, c36, rfl, O5⟩
        refine ⟨_, rfl, ?_⟩
        have S5 := S4.adopt l5 O5
        refine L_y (y_move rfl) rfl ?_
        refine L_y (y_extract rfl rfl) rfl ?_
        refine L_y (y_extract rfl rfl) rfl ?_
        refine L_y (y_extract rfl rfl) rfl ?_
        refine L_y (y_assign rfl) rfl ?_
        refine L_y (y_assign rfl) rfl ?_
        refine L_y (y_assign rfl) rfl ?_
        refine L_nil ?_
        refine hK9 _ _ ?_
        refine T_seq fun K10 hK10 => ?_
        refine T_region ?_
        refine L_y (y_move rfl) rfl ?_
        refine L_y (y_neq rfl rfl) rfl ?_
        refine L_y (y_move rfl) rfl ?_
        refine L_split 42 rfl (fun h42 => ?_) (fun h42 => ?_)
        ·
          exact absurd rfl h42
        ·
          refine L_gyes rfl rfl ?_
          refine L_y (y_move rfl) rfl ?_
          refine L_gyes rfl rfl ?_
          refine L_y (y_move rfl) rfl ?_
          refine L_gyes rfl rfl ?_
          refine L_y (y_neq rfl rfl) rfl ?_
          refine L_y ((by first | exact y_pickT rfl rfl | exact y_pickF rfl rfl)) rfl ?_
          refine L_y (y_move rfl) rfl ?_
          refine L_split 47 rfl (fun h47 => ?_) (fun h47 => ?_)
          ·
            exact absurd rfl h47
          ·
            refine L_gyes rfl rfl ?_
            refine L_y (y_move rfl) rfl ?_
            refine L_gyes rfl rfl ?_
            refine L_y (y_move rfl) rfl ?_
            refine L_gyes rfl rfl ?_
            refine L_o (o_call Try.func18 rfl rfl (Oct.same _ _ _ _ _ _ _ _ w5 (S5.row 1 rfl) (S5.rd hb1)) rfl rfl ?_)
            rintro e8 w8 ⟨v8, rfl, l8, rfl⟩
            refine ⟨_, rfl, ?_⟩
            have S8 := S5.like l8
            refine L_gyes rfl rfl ?_
            refine L_y ((by first | exact y_notD rfl | exact y_not rfl)) rfl ?_
            refine L_y ((by first | exact y_pickT rfl rfl | exact y_pickF rfl rfl)) rfl ?_
            refine L_nil ?_
            refine hK10 _ _ ?_
            refine T_cond rfl (fun h52 => ?_) (fun h52 => ?_)
            ·
              exact absurd rfl h52
            ·
              refine T_skip ?_
              refine hK7 _ _ ?_
              refine T_seq fun K11 hK11 => ?_
              refine T_region ?_
              refine L_y (y_move rfl) rfl ?_
              refine L_o (o_call Try.func52 rfl rfl (split_ B2 m2 d2 b2 w8 (S8.rd hb2) (by omega)) rfl rfl ?_)
              rintro e9 w9 ⟨v9, rfl, l9, A55, c55, rfl, O9⟩
              refine ⟨_, rfl, ?_⟩
              have S9 := S8.adopt l9 O9
              refine L_y (y_move rfl) rfl ?_
              refine L_y (y_extract rfl rfl) rfl ?_
              refine L_y (y_extract rfl rfl) rfl ?_
              refine L_y (y_extract rfl rfl) rfl ?_
              refine L_y (y_assign rfl) rfl ?_
              refine L_y (y_assign rfl) rfl ?_
              refine L_y (y_assign rfl) rfl ?_
              refine L_nil ?_
              refine hK11 _ _ ?_
              refine T_seq fun K12 hK12 => ?_
              refine T_seq fun K13 hK13 => ?_
              refine T_region ?_
              refine L_y (y_move rfl) rfl ?_
              refine L_y (y_neq rfl rfl) rfl ?_
              refine L_nil ?_
              refine hK13 _ _ ?_
              refine T_cond rfl (fun h60 => ?_) (fun h60 => ?_)
              ·
                have hbad := split_bad h60
                rw [hbad]
                refine T_seq fun K14 hK14 => ?_
                refine T_region ?_
                refine L_y (y_move rfl) rfl ?_
                refine L_y (y_eql rfl rfl) rfl ?_
                refine L_y (y_move rfl) rfl ?_
                refine L_split 63 rfl (fun h63 => ?_) (fun h63 => ?_)
                ·
                  refine L_gyes rfl rfl ?_
                  refine L_y (y_move rfl) rfl ?_
                  refine L_gyes rfl rfl ?_
                  refine L_y (y_len Try.underlying27 rfl) rfl ?_
                  refine L_gyes rfl rfl ?_
                  refine L_y (y_eql rfl rfl) rfl ?_
                  refine L_y ((by first | exact y_pickT rfl rfl | exact y_pickF rfl rfl)) rfl ?_
                  refine L_y (y_move rfl) rfl ?_
                  refine L_split 68 rfl (fun h68 => ?_) (fun h68 => ?_)
                  ·
                    refine L_gyes rfl rfl ?_
                    refine L_o (o_call Try.func50 rfl rfl (works w9) rfl rfl ?_)
                    rintro e12 w12 ⟨v12, rfl, l12, rfl⟩
                    refine ⟨_, rfl, ?_⟩
                    have S12 := S9.like l12
                    refine L_y ((by first | exact y_pickT rfl rfl | exact y_pickF rfl rfl)) rfl ?_
                    refine L_y (y_assign rfl) rfl ?_
                    refine L_nil ?_
                    refine hK14 _ _ ?_
                    refine T_ret ?_
                    repeat (first | with_reducible refine up_then ?_ | with_reducible refine up_in ?_)
                    refine ret1 rfl rfl ?_
                    exact ⟨_, rfl, S12.like0, rfl⟩
                  ·
                    exact absurd rfl h68
                ·
                  exact absurd rfl h63
              ·
                have h0 : (splitC b2).1 = 0 := Classical.byContradiction fun q => h60 q
                obtain ⟨hbe, hbb⟩ := back_obj h0
                refine T_skip ?_
                refine hK12 _ _ ?_
                refine T_seq fun K15 hK15 => ?_
                refine T_region ?_
                refine L_y (y_move rfl) rfl ?_
                refine L_y (y_move rfl) rfl ?_
                refine L_o (o_call Try.func51 rfl rfl (bytesGood (splitC b2).2.1 A55 _ c55 (splitC b2).2.2 w9 (S9.row 2 rfl) (by have h9 := (objE_k hbe).2; omega) hbe) rfl rfl ?_)
                rintro e13 w13 ⟨v13, rfl, l13, A74, c74, rfl, F13⟩
                refine ⟨_, rfl, ?_⟩
                have S13 := S9.adoptF l13 F13
                refine L_y (y_move rfl) rfl ?_
                refine L_y (y_extract rfl rfl) rfl ?_
                refine L_y (y_extract rfl rfl) rfl ?_
                refine L_y (y_assign rfl) rfl ?_
                refine L_y (y_assign rfl) rfl ?_
                refine L_nil ?_
                refine hK15 _ _ ?_
                refine T_seq fun K16 hK16 => ?_
                refine T_region ?_
                refine L_y (y_move rfl) rfl ?_
                refine L_y (y_eql rfl rfl) rfl ?_
                refine L_y (y_move rfl) rfl ?_
                refine L_split 79 rfl (fun h79 => ?_) (fun h79 => ?_)
                ·
                  refine L_gyes rfl rfl ?_
                  refine L_y (y_move rfl) rfl ?_
                  refine L_gyes rfl rfl ?_
                  refine L_y (y_move rfl) rfl ?_
                  refine L_gyes rfl rfl ?_
                  refine L_o (o_call Try.func18 rfl rfl (Oct.same _ _ _ _ _ _ _ _ w13 (S13.fix 3 rfl) (S13.rd hb2)) rfl rfl ?_)
                  rintro e15 w15 ⟨v15, rfl, l15, rfl⟩
                  refine ⟨_, rfl, ?_⟩
                  have S15 := S13.like l15
                  refine L_y ((by first | exact y_pickT rfl rfl | exact y_pickF rfl rfl)) rfl ?_
                  refine L_y (y_move rfl) rfl ?_
                  refine L_split 84 rfl (fun h84 => ?_) (fun h84 => ?_)
                  ·
                    refine L_gyes rfl rfl ?_
                    refine L_o (o_call Try.func50 rfl rfl (works w15) rfl rfl ?_)
                    rintro e17 w17 ⟨v17, rfl, l17, rfl⟩
                    refine ⟨_, rfl, ?_⟩
                    have S17 := S15.like l17
                    refine L_y ((by first | exact y_pickT rfl rfl | exact y_pickF rfl rfl)) rfl ?_
                    refine L_y (y_assign rfl) rfl ?_
                    refine L_nil ?_
                    refine hK16 _ _ ?_
                    refine T_ret ?_
                    repeat (first | with_reducible refine up_then ?_ | with_reducible refine up_in ?_)
                    refine ret1 rfl rfl ?_
                    exact ⟨_, rfl, S17.like0, rfl⟩
                  ·
                    exact absurd hbb h84
                ·
                  exact absurd rfl h79
      ·
        exact absurd rfl h33


set_option maxRecDepth 100000 in
theorem back0 (k : Int) (B1 : Option Addr) (m1 d1 : Nat) (b1 : List UInt8) (B2 : Option Addr) (m2 d2 : Nat) (b2 : List UInt8) (w0 : World) (hb1 : Rs w0 1 B1 m1 d1 (bL b1)) (hb2 : Rs w0 1 B2 m2 d2 (bL b2)) (he : objE k b1 ≠ 0) :
    Calls Try.prog 13 #[.int .i64 k, .slice B1 m1 d1, .slice B2 m2 d2] w0 fun e w' => ∃ u, e = .returned u ∧ Like w0 w' ∧ u = .bool true := by
  refine enter1 (env := [(0, .int .i64 k), (1, .slice B1 m1 d1), (2, .slice B2 m2 d2)]) [.int .i64 k, .slice B1 m1 d1, .slice B2 m2 d2] Try.func13 rfl Try.ntmps13 rfl rfl ?_
  have hl1 := hb1.lenb; have hc1 := hb1.cap; have hx1 := hb1.max; have hl2 := hb2.lenb; have hc2 := hb2.cap; have hx2 := hb2.max
  have S0 := St.start w0 noM
  refine T_seq fun K1 hK1 => ?_
  refine T_region ?_
  refine L_y (y_assign rfl) rfl ?_
  refine L_nil ?_
  refine hK1 _ _ ?_
  refine T_seq fun K2 hK2 => ?_
  refine T_seq fun K3 hK3 => ?_
  refine T_region ?_
  refine L_y (y_move rfl) rfl ?_
  refine L_y (y_len Try.underlying27 rfl) rfl ?_
  refine L_y (y_gtr rfl rfl) rfl ?_
  refine L_y (y_move rfl) rfl ?_
  refine L_split 20 rfl (fun h20 => ?_) (fun h20 => ?_)
  ·
    refine L_gno rfl rfl rfl ?_
    refine L_gno rfl rfl rfl ?_
    refine L_gno rfl rfl rfl ?_
    refine L_y ((by first | exact y_pickT rfl rfl | exact y_pickF rfl rfl)) rfl ?_
    refine L_nil ?_
    refine hK3 _ _ ?_
    refine T_true rfl ?_
    refine T_seq fun K4 hK4 => ?_
    refine T_region ?_
    refine L_o (o_call Try.func50 rfl rfl (works w0) rfl rfl ?_)
    rintro e2 w2 ⟨v2, rfl, l2, rfl⟩
    refine ⟨_, rfl, ?_⟩
    have S2 := S0.like l2
    refine L_y (y_assign rfl) rfl ?_
    refine L_nil ?_
    refine hK4 _ _ ?_
    refine T_ret ?_
    repeat (first | with_reducible refine up_then ?_ | with_reducible refine up_in ?_)
    refine ret1 rfl rfl ?_
    exact ⟨_, rfl, S2.like0, rfl⟩
  ·
    refine L_gyes rfl rfl ?_
    refine L_y (y_move rfl) rfl ?_
    refine L_gyes rfl rfl ?_
    refine L_y (y_len Try.underlying27 rfl) rfl ?_
    refine L_gyes rfl rfl ?_
    refine L_y (y_gtr rfl rfl) rfl ?_
    refine L_y ((by first | exact y_pickT rfl rfl | exact y_pickF rfl rfl)) rfl ?_
    refine L_nil ?_
    refine hK3 _ _ ?_
    refine T_cond rfl (fun h24 => ?_) (fun h24 => ?_)
    ·
      refine T_seq fun K5 hK5 => ?_
      refine T_region ?_
      refine L_o (o_call Try.func50 rfl rfl (works w0) rfl rfl ?_)
      rintro e3 w3 ⟨v3, rfl, l3, rfl⟩
      refine ⟨_, rfl, ?_⟩
      have S3 := S0.like l3
      refine L_y (y_assign rfl) rfl ?_
      refine L_nil ?_
      refine hK5 _ _ ?_
      refine T_ret ?_
      repeat (first | with_reducible refine up_then ?_ | with_reducible refine up_in ?_)
      refine ret1 rfl rfl ?_
      exact ⟨_, rfl, S3.like0, rfl⟩
    ·
      refine T_skip ?_
      refine hK2 _ _ ?_
      refine T_seq fun K6 hK6 => ?_
      refine T_region ?_
      refine L_y (y_move rfl) rfl ?_
      refine L_y (y_move rfl) rfl ?_
      refine L_o (o_call Try.func51 rfl rfl (bytesBad k B1 m1 d1 b1 w0 (S0.rd hb1) (by omega) he) rfl rfl ?_)
      rintro e4 w4 ⟨v4, rfl, l4, rfl⟩
      refine ⟨_, rfl, ?_⟩
      have S4 := S0.like l4
      refine L_y (y_move rfl) rfl ?_
      refine L_y (y_extract rfl rfl) rfl ?_
      refine L_y (y_extract rfl rfl) rfl ?_
      refine L_y (y_assign rfl) rfl ?_
      refine L_y (y_assign rfl) rfl ?_
      refine L_nil ?_
      refine hK6 _ _ ?_
      refine T_seq fun K7 hK7 => ?_
      refine T_seq fun K8 hK8 => ?_
      refine T_region ?_
      refine L_y (y_move rfl) rfl ?_
      refine L_y (y_eql rfl rfl) rfl ?_
      refine L_nil ?_
      refine hK8 _ _ ?_
      refine T_cond rfl (fun h33 => ?_) (fun h33 => ?_)
      ·
        exact absurd h33 he
      ·
        refine T_skip ?_
        refine hK7 _ _ ?_
        refine T_seq fun K9 hK9 => ?_
        refine T_region ?_
        refine L_y (y_move rfl) rfl ?_
        refine L_o (o_call Try.func52 rfl rfl (split_ B2 m2 d2 b2 w4 (S4.rd hb2) (by omega)) rfl rfl ?_)
        rintro e5 w5 ⟨v5, rfl, l5, A55, c55, rfl, O5⟩
        refine ⟨_, rfl, ?_⟩
        have S5 := S4.adopt l5 O5
        refine L_y (y_move rfl) rfl ?_
        refine L_y (y_extract rfl rfl) rfl ?_
        refine L_y (y_extract rfl rfl) rfl ?_
        refine L_y (y_extract rfl rfl) rfl ?_
        refine L_y (y_assign rfl) rfl ?_
        refine L_y (y_assign rfl) rfl ?_
        refine L_y (y_assign rfl) rfl ?_
        refine L_nil ?_
        refine hK9 _ _ ?_
        refine T_seq fun K10 hK10 => ?_
        refine T_seq fun K11 hK11 => ?_
        refine T_region ?_
        refine L_y (y_move rfl) rfl ?_
        refine L_y (y_neq rfl rfl) rfl ?_
        refine L_nil ?_
        refine hK11 _ _ ?_
        refine T_cond rfl (fun h60 => ?_) (fun h60 => ?_)
        ·
          have hbad := split_bad h60
          rw [hbad]
          refine T_seq fun K12 hK12 => ?_
          refine T_region ?_
          refine L_y (y_move rfl) rfl ?_
          refine L_y (y_eql rfl rfl) rfl ?_
          refine L_y (y_move rfl) rfl ?_
          refine L_split 63 rfl (fun h63 => ?_) (fun h63 => ?_)
          ·
            refine L_gyes rfl rfl ?_
            refine L_y (y_move rfl) rfl ?_
            refine L_gyes rfl rfl ?_
            refine L_y (y_len Try.underlying27 rfl) rfl ?_
            refine L_gyes rfl rfl ?_
            refine L_y (y_eql rfl rfl) rfl ?_
            refine L_y ((by first | exact y_pickT rfl rfl | exact y_pickF rfl rfl)) rfl ?_
            refine L_y (y_move rfl) rfl ?_
            refine L_split 68 rfl (fun h68 => ?_) (fun h68 => ?_)
            ·
              refine L_gyes rfl rfl ?_
              refine L_o (o_call Try.func50 rfl rfl (works w5) rfl rfl ?_)
              rintro e8 w8 ⟨v8, rfl, l8, rfl⟩
              refine ⟨_, rfl, ?_⟩
              have S8 := S5.like l8
              refine L_y ((by first | exact y_pickT rfl rfl | exact y_pickF rfl rfl)) rfl ?_
              refine L_y (y_assign rfl) rfl ?_
              refine L_nil ?_
              refine hK12 _ _ ?_
              refine T_ret ?_
              repeat (first | with_reducible refine up_then ?_ | with_reducible refine up_in ?_)
              refine ret1 rfl rfl ?_
              exact ⟨_, rfl, S8.like0, rfl⟩
            ·
              exact absurd rfl h68
          ·
            exact absurd rfl h63
        ·
          have h0 : (splitC b2).1 = 0 := Classical.byContradiction fun q => h60 q
          obtain ⟨hbe, hbb⟩ := back_obj h0
          refine T_skip ?_
          refine hK10 _ _ ?_
          refine T_seq fun K13 hK13 => ?_
          refine T_region ?_
          refine L_y (y_move rfl) rfl ?_
          refine L_y (y_move rfl) rfl ?_
          refine L_o (o_call Try.func51 rfl rfl (bytesGood (splitC b2).2.1 A55 _ c55 (splitC b2).2.2 w5 (S5.row 0 rfl) (by have h9 := (objE_k hbe).2; omega) hbe) rfl rfl ?_)
          rintro e9 w9 ⟨v9, rfl, l9, A74, c74, rfl, F9⟩
          refine ⟨_, rfl, ?_⟩
          have S9 := S5.adoptF l9 F9
          refine L_y (y_move rfl) rfl ?_
          refine L_y (y_extract rfl rfl) rfl ?_
          refine L_y (y_extract rfl rfl) rfl ?_
          refine L_y (y_assign rfl) rfl ?_
          refine L_y (y_assign rfl) rfl ?_
          refine L_nil ?_
          refine hK13 _ _ ?_
          refine T_seq fun K14 hK14 => ?_
          refine T_region ?_
          refine L_y (y_move rfl) rfl ?_
          refine L_y (y_eql rfl rfl) rfl ?_
          refine L_y (y_move rfl) rfl ?_
          refine L_split 79 rfl (fun h79 => ?_) (fun h79 => ?_)
          ·
            refine L_gyes rfl rfl ?_
            refine L_y (y_move rfl) rfl ?_
            refine L_gyes rfl rfl ?_
            refine L_y (y_move rfl) rfl ?_
            refine L_gyes rfl rfl ?_
            refine L_o (o_call Try.func18 rfl rfl (Oct.same _ _ _ _ _ _ _ _ w9 (S9.fix 1 rfl) (S9.rd hb2)) rfl rfl ?_)
            rintro e11 w11 ⟨v11, rfl, l11, rfl⟩
            refine ⟨_, rfl, ?_⟩
            have S11 := S9.like l11
            refine L_y ((by first | exact y_pickT rfl rfl | exact y_pickF rfl rfl)) rfl ?_
            refine L_y (y_move rfl) rfl ?_
            refine L_split 84 rfl (fun h84 => ?_) (fun h84 => ?_)
            ·
              refine L_gyes rfl rfl ?_
              refine L_o (o_call Try.func50 rfl rfl (works w11) rfl rfl ?_)
              rintro e13 w13 ⟨v13, rfl, l13, rfl⟩
              refine ⟨_, rfl, ?_⟩
              have S13 := S11.like l13
              refine L_y ((by first | exact y_pickT rfl rfl | exact y_pickF rfl rfl)) rfl ?_
              refine L_y (y_assign rfl) rfl ?_
              refine L_nil ?_
              refine hK14 _ _ ?_
              refine T_ret ?_
              repeat (first | with_reducible refine up_then ?_ | with_reducible refine up_in ?_)
              refine ret1 rfl rfl ?_
              exact ⟨_, rfl, S13.like0, rfl⟩
            ·
              exact absurd hbb h84
          ·
            exact absurd rfl h79


theorem back_law (k : Int) (B1 : Option Addr) (m1 d1 : Nat) (b1 : List UInt8) (B2 : Option Addr) (m2 d2 : Nat) (b2 : List UInt8) (w0 : World) (hb1 : Rs w0 1 B1 m1 d1 (bL b1)) (hb2 : Rs w0 1 B2 m2 d2 (bL b2)) :
    Calls Try.prog 13 #[.int .i64 k, .slice B1 m1 d1, .slice B2 m2 d2] w0 fun e w' => e = .returned (.bool true) ∧ Below w0.heap.size w0 w' := by
  by_cases he : objE k b1 = 0
  · exact (back1 k B1 m1 d1 b1 B2 m2 d2 b2 w0 hb1 hb2 he).mono fun e w' ⟨u, h1, h2, h3⟩ => by subst h3; exact ⟨h1, h2⟩
  · exact (back0 k B1 m1 d1 b1 B2 m2 d2 b2 w0 hb1 hb2 he).mono fun e w' ⟨u, h1, h2, h3⟩ => by subst h3; exact ⟨h1, h2⟩
end Go.Proofs.Ytgaklngnfecdaaa.Obj
