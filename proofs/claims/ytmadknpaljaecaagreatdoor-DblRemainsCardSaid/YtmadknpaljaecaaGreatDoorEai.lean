import GoSem.ClaimJoined
import Derived.LaidByTextLater
import Derived.FnData
import Derived.Test.YtmadknpaljaecaaGreatDoorEag
import Derived.Test.YtmadknpaljaecaaGreatDoorEah
set_option linter.all false
namespace Go.Proofs.YtmadknpaljaecaaGreatDoor.Ev
open Go
set_option linter.unusedVariables false
set_option linter.unusedSimpArgs false

def litAV : Lit → Option AV
  | .bool b => some (.bool b)
  | .int k n => some (.int k n)
  | .float k b => some (.float k b)
  | .string s => some (.str (BStr.ofBytes s))
  | _ => none

def nilAV : TypeDesc → Option AV
  | .pointer _ => some .nilPtr
  | .slice _ => some .nilSl
  | .interface _ => some .nilIf
  | .map _ _ => some .nilMap
  | .func _ _ _ => some .nilFn
  | _ => none

mutual
/-- the cells that a datum tells -/
def dAV (P : Program) : Nat → TypeId → DataW Unit → Option (List AV)
  | 0, _, _ => none
  | n + 1, t, d =>
    match P.underlying t with
    | none => none
    | some td => match d with
      | .lit l => (match td with
        | .bool | .int _ | .float _ | .string => (litAV l).map ([·])
        | _ => none)
      | .nil => (nilAV td).map ([·])
      | .agg ps => (match td with
        | .struct fs => (match dFields P n fs.toList ps 0 with | some l => if l.length = P.cellsOf t then some l else none | none => none)
        | .array _ e => (match dAll P n e ps with | some l => if l.length = P.cellsOf t then some l else none | none => none)
        | _ => none)
      | .ptr d => (match td with
        | .pointer e => if P.cellsOf e ≠ 0 then (dAV P n e d).map fun l => [.iptr false l] else none
        | _ => none)
      | .slice es _ => (match td with
        | .slice e => if P.cellsOf e ≠ 0 ∧ es ≠ [] then (dAll P n e es).map fun l => [.isl false es.length l] else none
        | _ => none)
      | _ => none
def dAll (P : Program) : Nat → TypeId → List (DataW Unit) → Option (List AV)
  | 0, _, _ => none
  | _ + 1, _, [] => some []
  | n + 1, e, d :: r => match dAV P n e d, dAll P n e r with
    | some a, some b => if a.length = P.cellsOf e then some (a ++ b) else none
    | _, _ => none
def dFields (P : Program) : Nat → List Field → List (DataW Unit) → Nat → Option (List AV)
  | 0, _, _, _ => none
  | _ + 1, [], [], _ => some []
  | n + 1, f :: fs, d :: r, off => if f.offset = off then (match dAV P n f.type d, dFields P n fs r (off + P.cellsOf f.type) with
    | some a, some b => if a.length = P.cellsOf f.type then some (a ++ b) else none
    | _, _ => none) else none
  | _ + 1, _, _, _ => none
end
end Go.Proofs.YtmadknpaljaecaaGreatDoor.Ev
namespace Go.Proofs.YtmadknpaljaecaaGreatDoor.Ev
open Go
set_option linter.unusedVariables false
set_option linter.unusedSimpArgs false

theorem mapM_opt_get {α β : Type} {f : α → Option β} : ∀ {l : List α} {m : List β}, l.mapM f = some m → m.length = l.length ∧ ∀ (i : Nat) (a : α), l[i]? = some a → ∃ b : β, m[i]? = some b ∧ f a = some b
  | [], m, h => by simp at h; subst h; simp
  | a :: r, m, h => by
    rw [List.mapM_cons] at h
    simp only [Option.bind_eq_bind, Option.pure_def, Option.bind_eq_some_iff] at h
    obtain ⟨b, hb, bs, hbs, hm⟩ := h
    cases hm
    obtain ⟨h1, h2⟩ := mapM_opt_get hbs
    refine ⟨by simp [h1], fun i x hx => ?_⟩
    cases i with
    | zero => simp at hx; subst hx; exact ⟨b, by simp, hb⟩
    | succ i => simp at hx; obtain ⟨y, hy, hf⟩ := h2 i x hx; exact ⟨y, by simpa using hy, hf⟩

/-- cells behind an address -/
theorem cells_reads {W : World} {a : Addr} {n : Nat} {xs : List Value} (h : W.cells? 0 a n = some xs) (hn : n ≠ 0) (hf : ∀ x ∈ xs, Flat x) :
    a.spot = none ∧ xs.length = n ∧ a.block < W.heap.size ∧ Reads W a.block a.off xs := by
  unfold World.cells? at h
  rw [if_pos (Nat.zero_le _)] at h
  obtain ⟨h1, h2⟩ := mapM_opt_get h
  simp at h1
  obtain ⟨x0, hx0, hc0⟩ := h2 0 0 (by rw [List.getElem?_range (by omega)])
  have hadd0 : a.add 0 = a := by simp [Addr.add]
  rw [hadd0] at hc0
  have hblk : ∃ c e fz, W.heap[a.block]? = some (.cells c e fz) ∧ a.spot = none := by
    unfold World.cell? at hc0
    split at hc0
    · rename_i c e fz hb
      cases hs : a.spot with
      | none => exact ⟨c, e, fz, hb, rfl⟩
      | some s => rw [hs] at hc0; simp at hc0
    · cases hc0
  obtain ⟨c, e, fz, hb, hs⟩ := hblk
  have hlt : a.block < W.heap.size := by
    rcases Nat.lt_or_ge a.block W.heap.size with h | h
    · exact h
    · rw [Array.getElem?_eq_none h] at hb; cases hb
  refine ⟨hs, h1, hlt, c, e, fz, hb, fun i x hx => ⟨?_, hf x (List.mem_of_getElem? hx)⟩⟩
  have hi : i < n := by rw [← h1]; exact (List.getElem?_eq_some_iff.1 hx).1
  obtain ⟨y, hy, hcy⟩ := h2 i i (by simp [hi])
  rw [hx] at hy; cases hy
  obtain ⟨ab, ao, al⟩ := a
  simp only at hs; subst hs
  rw [Addr_add] at hcy
  simp only [World.cell?, hb] at hcy
  simpa using hcy

structure DataOk (P : Program) (E : Env) (W : World) (l : List AV) (cs : List Value) : Prop where
  vals : VRs E W l cs
  flat : ∀ x ∈ cs, Flat x
  clean : ∀ v ∈ l, Clean false v

theorem one_ok {P : Program} {E : Env} {W : World} {v : AV} {x : Value} (h : VR E W v x) (hf : Flat x) (hc : Clean false v) : DataOk P E W [v] [x] :=
  ⟨.cons h .nil, by simpa using hf, by simpa using hc⟩

theorem trod_nil_ok {P : Program} {E : Env} {W : World} {t : TypeId} {td : TypeDesc} {fuel : Nat} {cs : List Value} {p : List MemPlace} {sp : Nat → Bool} {v : AV} (htd : P.underlying t = some td) (hv : nilAV td = some v)
    (h : DataW.trod (fun _ => ()) P W 0 sp false (fuel + 1) t cs = some (.nil, p)) : DataOk P E W [v] cs := by
  unfold DataW.trod at h
  rw [htd] at h
  cases td <;> simp only [nilAV] at hv <;> (try (cases hv; done)) <;> cases hv
  all_goals
    split at h <;> (try (cases h; done)) <;> (try (simp_all; done))
  all_goals first
    | exact one_ok .nilPtr trivial .nilPtr
    | exact one_ok .nilSl trivial .nilSl
    | exact one_ok .nilMap trivial .nilMap
    | exact one_ok .nilFn trivial .nilFn
    | exact one_ok .nilIf trivial .nilIf
    | skip
  · obtain ⟨x, _, h2⟩ := Option.map_eq_some_iff.1 h; cases h2
  · simp only at h
    split at h
    · obtain ⟨x, _, h2⟩ := Option.bind_eq_some_iff.1 h
      obtain ⟨y, _, h3⟩ := Option.map_eq_some_iff.1 h2
      cases h3
    · cases h
  · split at h
    · split at h
      · obtain ⟨x, _, h2⟩ := Option.bind_eq_some_iff.1 h
        simp only at h2
        split at h2
        · cases h2
        · cases h2
      · cases h
    · cases h
  · split at h
    · cases h
    · obtain ⟨x, _, h2⟩ := Option.map_eq_some_iff.1 h; cases h2
    · cases h
end Go.Proofs.YtmadknpaljaecaaGreatDoor.Ev
namespace Go.Proofs.YtmadknpaljaecaaGreatDoor.Ev
open Go
set_option linter.unusedVariables false
set_option linter.unusedSimpArgs false

theorem DataOk.append {P : Program} {E : Env} {W : World} {l m : List AV} {xs ys : List Value} (h : DataOk P E W l xs) (h' : DataOk P E W m ys) : DataOk P E W (l ++ m) (xs ++ ys) :=
  ⟨h.vals.append h'.vals, fun x hx => (List.mem_append.1 hx).elim (h.flat x) (h'.flat x), fun v hv => (List.mem_append.1 hv).elim (h.clean v) (h'.clean v)⟩

theorem lit_ok {P : Program} {E : Env} {W : World} {t : TypeId} {td : TypeDesc} {fuel : Nat} {cs : List Value} {p : List MemPlace} {sp : Nat → Bool} {l : Lit} {v : AV} (htd : P.underlying t = some td)
    (hsc : td = .bool ∨ (∃ k, td = .int k) ∨ (∃ k, td = .float k) ∨ td = .string) (hv : litAV l = some v) (h : DataW.trod (fun _ => ()) P W 0 sp false (fuel + 1) t cs = some (.lit l, p)) : DataOk P E W [v] cs := by
  unfold DataW.trod at h
  rw [htd] at h
  rcases hsc with rfl | ⟨k, rfl⟩ | ⟨k, rfl⟩ | rfl
  · split at h <;> (try (cases h; done)) <;> (try (simp_all; done))
    cases h
    simp only [litAV, Option.some.injEq] at hv; subst hv
    exact one_ok .bool trivial .bool
  · split at h <;> (try (cases h; done)) <;> (try (simp_all; done))
    split at h
    · rename_i hk
      cases h
      simp only [litAV, Option.some.injEq] at hv; subst hv
      rw [hk.1]
      exact one_ok .int trivial .int
    · cases h
  · split at h <;> (try (cases h; done)) <;> (try (simp_all; done))
    split at h
    · rename_i hk
      cases h
      simp only [litAV, Option.some.injEq] at hv; subst hv
      rw [hk.1]
      exact one_ok .float trivial .float
    · cases h
  · split at h <;> (try (cases h; done)) <;> (try (simp_all; done))
    split at h
    · cases h
      simp only [litAV, Option.some.injEq] at hv; subst hv
      exact one_ok (.str rfl) trivial .str
    · cases h

abbrev Trod (P : Program) (W : World) (sp : Nat → Bool) (fuel : Nat) (t : TypeId) (cs : List Value) : Option (DataW Unit × List MemPlace) := DataW.trod (fun _ => ()) P W 0 sp false fuel t cs

theorem Reads.append {W : World} {bl off : Nat} {xs ys : List Value} (h : Reads W bl off xs) (h' : Reads W bl (off + xs.length) ys) : Reads W bl off (xs ++ ys) := by
  obtain ⟨c, e, fz, h1, h2⟩ := h
  obtain ⟨c', e', fz', h1', h2'⟩ := h'
  rw [h1] at h1'; cases h1'
  refine ⟨c, e, fz, h1, fun i x hx => ?_⟩
  rcases Nat.lt_or_ge i xs.length with hi | hi
  · rw [List.getElem?_append_left hi] at hx; exact h2 i x hx
  · rw [List.getElem?_append_right hi] at hx
    have := h2' _ x hx
    rw [show off + xs.length + (i - xs.length) = off + i by omega] at this
    exact this

theorem flatten_chunks {α : Type} (cs : List α) (c : Nat) : ∀ n, ((List.range n).map fun i => (cs.drop (i * c)).take c).flatten = cs.take (n * c)
  | 0 => by simp
  | n + 1 => by
    rw [List.range_succ, List.map_append, List.flatten_append, flatten_chunks cs c n]
    simp only [List.map_cons, List.map_nil, List.flatten_cons, List.flatten_nil, List.append_nil]
    rw [Nat.succ_mul, List.take_add]

theorem reads_flatten {W : World} {bl : Nat} {c : Nat} : ∀ (css : List (List Value)) (off : Nat), css ≠ [] → (∀ x ∈ css, x.length = c) → (∀ i x, css[i]? = some x → Reads W bl (off + i * c) x) → Reads W bl off css.flatten
  | [], _, h, _, _ => absurd rfl h
  | [x], off, _, _, hr => by
    have := hr 0 x rfl
    simpa using this
  | x :: y :: r, off, _, hl, hr => by
    have h0 := hr 0 x rfl
    simp only [Nat.zero_mul, Nat.add_zero] at h0
    have hx : x.length = c := hl x (by simp)
    have := reads_flatten (y :: r) (off + c) (by simp) (fun z hz => hl z (by simp at hz ⊢; exact .inr hz)) fun i z hz => by
      have := hr (i + 1) z (by simpa using hz)
      rw [show off + c + i * c = off + (i + 1) * c by rw [Nat.succ_mul]; omega]
      exact this
    rw [List.flatten_cons]
    exact h0.append (by rw [hx]; exact this)

theorem mapM_range {β : Type} {f : Nat → Option β} {n : Nat} {xs : List β} (h : (List.range n).mapM f = some xs) : xs.length = n ∧ ∀ i x, xs[i]? = some x → f i = some x := by
  obtain ⟨h1, h2⟩ := mapM_opt_get h
  simp at h1
  refine ⟨h1, fun i x hx => ?_⟩
  have hi : i < n := by rw [← h1]; exact (List.getElem?_eq_some_iff.1 hx).1
  obtain ⟨b, hb, hf⟩ := h2 i i (by simp [hi])
  rw [hx] at hb; cases hb; exact hf

theorem dAV_ok {P : Program} {E : Env} {W : World} {sp : Nat → Bool} (hI : ∀ b, b < W.heap.size → E.I b) : ∀ n,
    (∀ t d l, dAV P n t d = some l → ∀ fuel cs p, Trod P W sp fuel t cs = some (d, p) → DataOk P E W l cs) ∧
    (∀ e ds l, dAll P n e ds = some l → ∀ fuel (css : List (List Value)), css.length = ds.length → (∀ (i : Nat) (c : List Value) (d : DataW Unit), css[i]? = some c → ds[i]? = some d → ∃ p, Trod P W sp fuel e c = some (d, p)) →
      DataOk P E W l css.flatten ∧ ∀ c ∈ css, c.length = P.cellsOf e) ∧
    (∀ fs ds off l, dFields P n fs ds off = some l → ∀ fuel (cs : List Value), fs.length = ds.length → (∀ (i : Nat) (f : Field) (d : DataW Unit), fs[i]? = some f → ds[i]? = some d → ∃ p, Trod P W sp fuel f.type ((cs.drop f.offset).take (P.cellsOf f.type)) = some (d, p)) →
      DataOk P E W l ((cs.drop off).take l.length))
  | 0 => ⟨fun t d l h => by simp [dAV] at h, fun e ds l h => by simp [dAll] at h, fun fs ds off l h => by simp [dFields] at h⟩
  | n + 1 => by
    obtain ⟨ih1, ih2, ih3⟩ := dAV_ok (P := P) (E := E) (W := W) (sp := sp) hI n
    refine ⟨?_, ?_, ?_⟩
    · intro t d l h fuel cs p ht
      cases fuel with
      | zero => simp [Trod, DataW.trod] at ht
      | succ fuel =>
      simp only [dAV] at h
      split at h
      · cases h
      rename_i td htd
      cases d with
      | lit lt =>
        simp only at h
        have hsc : td = .bool ∨ (∃ k, td = .int k) ∨ (∃ k, td = .float k) ∨ td = .string := by
          cases td <;> simp at h ⊢
        have h2 : (litAV lt).map ([·]) = some l := by
          rcases hsc with rfl | ⟨k, rfl⟩ | ⟨k, rfl⟩ | rfl <;> exact h
        obtain ⟨v, hv, rfl⟩ := Option.map_eq_some_iff.1 h2
        exact lit_ok htd hsc hv ht
      | nil =>
        simp only at h
        obtain ⟨v, hv, rfl⟩ := Option.map_eq_some_iff.1 h
        exact trod_nil_ok htd hv ht
      | agg ps =>
        simp only at h
        unfold Trod DataW.trod at ht
        rw [htd] at ht
        cases td <;> simp only at h <;> (try (cases h; done))
        · rename_i m e
          split at h
          · rename_i l' hl
            split at h
            · rename_i hlen
              cases h
              split at ht <;> (try (simp_all; done))
              rename_i cs _ _ m' e' e1
              split at ht
              · rename_i hcs
                obtain ⟨xs, hxs, he⟩ := Option.map_eq_some_iff.1 ht
                cases he
                injection e1 with e1; injection e1 with e0 e1; subst e0 e1
                obtain ⟨g1, g2⟩ := mapM_range hxs
                obtain ⟨k1, k2⟩ := ih2 e (xs.map (·.1)) l hl fuel ((List.range m).map fun i => (cs.drop (i * P.cellsOf e)).take (P.cellsOf e)) (by simp [g1]) fun i c d hc hd => by
                  rw [List.getElem?_map] at hd
                  obtain ⟨x, hx, rfl⟩ := Option.map_eq_some_iff.1 hd
                  rw [List.getElem?_map] at hc
                  obtain ⟨j, hj, rfl⟩ := Option.map_eq_some_iff.1 hc
                  have hj2 : j = i := by
                    obtain ⟨hlt, he⟩ := List.getElem?_eq_some_iff.1 hj
                    simpa using he.symm
                  subst hj2
                  exact ⟨x.2, g2 j x hx⟩
                rw [flatten_chunks] at k1
                have hl2 := k1.vals.length
                rw [List.length_take] at hl2
                rw [List.take_of_length_le (by omega)] at k1
                exact k1
              · cases ht
            · cases h
          · cases h
        · rename_i fs
          split at h
          · rename_i l' hl
            split at h
            · rename_i hlen
              cases h
              split at ht <;> (try (simp_all; done))
              rename_i cs _ _ fs' e1
              split at ht
              · rename_i hcs
                obtain ⟨xs, hxs, he⟩ := Option.map_eq_some_iff.1 ht
                cases he
                injection e1 with e1; injection e1 with e1; subst e1
                obtain ⟨g1, g2⟩ := mapM_opt_get hxs
                have := ih3 fs.toList (xs.map (·.1)) 0 l hl fuel cs (by simpa using g1.symm) fun i f d hf hd => by
                  obtain ⟨b, hb, hfb⟩ := g2 i f hf
                  rw [List.getElem?_map, hb] at hd
                  cases hd
                  exact ⟨b.2, hfb⟩
                rw [List.drop_zero, List.take_of_length_le (by omega)] at this
                exact this
              · cases ht
            · cases h
          · cases h
      | ptr d =>
        simp only at h
        unfold Trod DataW.trod at ht
        rw [htd] at ht
        cases td <;> simp only at h <;> (try (cases h; done))
        rename_i e
        split at h
        · rename_i h0
          obtain ⟨l', hl, rfl⟩ := Option.map_eq_some_iff.1 h
          split at ht <;> (try (cases ht; done)) <;> (try (simp_all; done))
          rename_i e' a e1
          injection e1 with e1; injection e1 with e1; subst e1
          obtain ⟨x, hx, he⟩ := Option.map_eq_some_iff.1 ht
          cases he
          obtain ⟨xs, hxs, htr⟩ := Option.bind_eq_some_iff.1 hx
          have ok := ih1 e _ l' hl fuel xs x.2 htr
          obtain ⟨r1, r2, r3, r4⟩ := cells_reads hxs h0 ok.flat
          obtain ⟨ab, ao, asp⟩ := a
          simp only at r1 r3 r4
          subst r1
          exact one_ok (.iptr (.inl (hI _ r3)) ok.clean r4 ok.vals) trivial (.iptr (fun e => by cases e) ok.clean)
        · cases h
      | slice es sp' =>
        simp only at h
        unfold Trod DataW.trod at ht
        rw [htd] at ht
        cases td <;> simp only at h <;> (try (cases h; done))
        rename_i e
        split at h
        · rename_i h0
          obtain ⟨l', hl, rfl⟩ := Option.map_eq_some_iff.1 h
          split at ht <;> (try (cases ht; done)) <;> (try (simp_all; done))
          rename_i e' a len cap e1
          injection e1 with e1; injection e1 with e1; subst e1
          simp only at ht
          split at ht
          · rename_i hle
            obtain ⟨elems, hel, ht2⟩ := Option.bind_eq_some_iff.1 ht
            obtain ⟨rest, hrest, ht3⟩ := Option.map_eq_some_iff.1 ht2
            injection ht3 with ht3 _
            injection ht3 with hes _
            obtain ⟨g1, g2⟩ := mapM_range hel
            have g3 : ∀ i x, elems[i]? = some x → ∃ xs, W.cells? 0 (a.add (i * P.cellsOf e)) (P.cellsOf e) = some xs ∧ Trod P W sp fuel e xs = some x := fun i x hx => by
              obtain ⟨xs, h1, h2⟩ := Option.bind_eq_some_iff.1 (g2 i x hx)
              exact ⟨xs, h1, h2⟩
            let css : List (List Value) := (List.range len).map fun i => ((W.cells? 0 (a.add (i * P.cellsOf e)) (P.cellsOf e)).getD [])
            have hcss : ∀ i c, css[i]? = some c → i < len ∧ c = (W.cells? 0 (a.add (i * P.cellsOf e)) (P.cellsOf e)).getD [] := fun i c hc => by
              rw [List.getElem?_map] at hc
              obtain ⟨j, hj, rfl⟩ := Option.map_eq_some_iff.1 hc
              obtain ⟨hlt, he⟩ := List.getElem?_eq_some_iff.1 hj
              simp at he hlt
              subst he
              exact ⟨hlt, rfl⟩
            obtain ⟨k1, k2⟩ := ih2 e es l' hl fuel css (by rw [← hes]; simp [css, g1]) fun i c d hc hd => by
              obtain ⟨hlt, rfl⟩ := hcss i c hc
              rw [← hes, List.getElem?_map] at hd
              obtain ⟨x, hx, rfl⟩ := Option.map_eq_some_iff.1 hd
              obtain ⟨xs, h1, h2⟩ := g3 i x hx
              rw [h1]
              exact ⟨x.2, h2⟩
            have hne : css ≠ [] := fun e0 => h0.2 (by
              have : css.length = 0 := by rw [e0]; rfl
              simp [css] at this
              subst this
              rw [← hes]; simp
              exact List.length_eq_zero_iff.1 g1)
            have each0 : ∀ i c, css[i]? = some c → (a.add (i * P.cellsOf e)).spot = none ∧ a.block < W.heap.size ∧ Reads W a.block (a.add (i * P.cellsOf e)).off c := fun i c hc => by
              obtain ⟨hlt, hce⟩ := hcss i c hc
              have hi : i < elems.length := by omega
              obtain ⟨xs, h1, h2⟩ := g3 i elems[i] (List.getElem?_eq_getElem hi)
              rw [h1] at hce
              simp only [Option.getD_some] at hce
              subst hce
              have hfl : ∀ x ∈ c, Flat x := fun x hx => k1.flat x (List.mem_flatten.2 ⟨c, List.mem_of_getElem? hc, hx⟩)
              obtain ⟨r1, r2, r3, r4⟩ := cells_reads h1 h0.1 hfl
              have hb : (a.add (i * P.cellsOf e)).block = a.block := by unfold Addr.add; split <;> rfl
              rw [hb] at r3 r4
              exact ⟨r1, r3, r4⟩
            obtain ⟨c0, hc0⟩ : ∃ c0, css[0]? = some c0 := by
              cases e0 : css with
              | nil => exact absurd e0 hne
              | cons c0 r => exact ⟨c0, rfl⟩
            have hz : a.spot = none := by
              have := (each0 0 c0 hc0).1
              simpa [Addr.add] using this
            have each : ∀ i c, css[i]? = some c → a.spot = none ∧ a.block < W.heap.size ∧ Reads W a.block (a.off + i * P.cellsOf e) c := fun i c hc => by
              obtain ⟨r1, r3, r4⟩ := each0 i c hc
              obtain ⟨ab, ao, asp⟩ := a
              simp only at hz; subst hz
              rw [Addr_add] at r4
              exact ⟨rfl, r3, r4⟩
            have hall := reads_flatten css a.off hne k2 fun i x hx => (each i x hx).2.2
            obtain ⟨s1, s2, _⟩ := each 0 c0 hc0
            have hlen : es.length = len := by rw [← hes]; simp [g1]
            obtain ⟨ab, ao, asp⟩ := a
            simp only at s1 s2 hall
            subst s1
            rw [hlen]
            exact one_ok (.isl (.inr ⟨.inl (hI _ s2), hall⟩) k1.clean hle.2.1 k1.vals) trivial (.isl (fun e => by cases e) k1.clean)
          · cases ht
        · cases h
      | map en => simp only at h; cases h
      | iface nm d => simp only at h; cases h
      | held x => simp only at h; cases h
    · intro e ds l h fuel css hlen ht
      cases ds with
      | nil =>
        simp only [dAll, Option.some.injEq] at h
        subst h
        have : css = [] := List.length_eq_zero_iff.1 hlen
        subst this
        exact ⟨⟨.nil, by simp, by simp⟩, by simp⟩
      | cons d r =>
        cases css with
        | nil => simp at hlen
        | cons c cr =>
          simp only [dAll] at h
          split at h
          · rename_i a b ha hb
            split at h
            · rename_i hal
              cases h
              obtain ⟨p, hp⟩ := ht 0 c d rfl rfl
              have ok := ih1 e d a ha fuel c p hp
              obtain ⟨k1, k2⟩ := ih2 e r b hb fuel cr (by simpa using hlen) fun i c' d' hc hd => ht (i + 1) c' d' (by simpa using hc) (by simpa using hd)
              refine ⟨by rw [List.flatten_cons]; exact ok.append k1, fun x hx => ?_⟩
              rcases List.mem_cons.1 hx with rfl | hx
              · rw [← hal, ok.vals.length]
              · exact k2 x hx
            · cases h
          · cases h
    · intro fs ds off l h fuel cs hlen ht
      cases fs with
      | nil =>
        cases ds with
        | nil => simp only [dFields, Option.some.injEq] at h; subst h; simp; exact ⟨.nil, by simp, by simp⟩
        | cons => simp at hlen
      | cons f fr =>
        cases ds with
        | nil => simp at hlen
        | cons d r =>
          simp only [dFields] at h
          split at h
          · rename_i hoff
            split at h
            · rename_i a b ha hb
              split at h
              · rename_i hal
                cases h
                obtain ⟨p, hp⟩ := ht 0 f d rfl rfl
                have ok := ih1 f.type d a ha fuel _ p hp
                have k1 := ih3 fr r (off + P.cellsOf f.type) b hb fuel cs (by simpa using hlen) fun i f' d' hf hd => ht (i + 1) f' d' (by simpa using hf) (by simpa using hd)
                have := ok.append k1
                subst hoff
                rw [List.length_append, hal, List.take_add, List.drop_drop]
                exact this
              · cases h
            · cases h
          · cases h
end Go.Proofs.YtmadknpaljaecaaGreatDoor.Ev
namespace Go.Proofs.YtmadknpaljaecaaGreatDoor.Ev
open Go
set_option linter.unusedVariables false
set_option linter.unusedSimpArgs false

/-- the cells of a listed variable; nm: the name of the type tp of the sentinels -/
def gcells (P : Program) (nm : String) (tp : Nat) (n : Nat) (t : TypeId) (d : DataW Unit) : Option (List AV) :=
  match d with
  | .iface name d' => match P.underlying t, name == nm with
    | some (.interface _), true => match P.underlying tp with
      | some (.pointer _) => match dAV P n tp d' with
        | some [v] => some [.iface tp v]
        | _ => none
      | _ => none
    | _, _ => none
  | d => dAV P n t d

theorem okWide_ptr {P : Program} {W : World} {u e : Nat} {v : Value} (hu : P.underlying u = some (.pointer e)) (h : Value.okWide P W .any 0 u v) : ∃ a, v = .pointer a := by
  unfold Value.okWide at h
  rw [hu] at h
  simp only [Cell.okWide, hu, Cell.ok] at h
  split at h <;> simp_all

theorem gcells_ok {P : Program} {E : Env} {W : World} {sp : Nat → Bool} (hI : ∀ b, b < W.heap.size → E.I b) {nm : String} {tp : Nat} (hrow : ∀ u, P.typeName? 3 u = some nm → u = tp) {n : Nat} {t : TypeId} {d : DataW Unit} {l : List AV} (h : gcells P nm tp n t d = some l) {fuel : Nat} {cs : List Value} {p : List MemPlace}
    (ht : Trod P W sp fuel t cs = some (d, p)) (hok : ∀ u v, cs = [.iface u v] → Value.okWide P W .any 0 u v) : DataOk P E W l cs := by
  cases d with
  | iface name d' =>
    simp only [gcells] at h
    split at h
    · rename_i ms htd hty
      have hty := eq_of_beq hty
      subst hty
      split at h
      · rename_i e hu
        split at h
        · rename_i v hv
          cases h
          cases fuel with
          | zero => simp [Trod, DataW.trod] at ht
          | succ fuel =>
          unfold Trod DataW.trod at ht
          rw [htd] at ht
          split at ht <;> (try (cases ht; done)) <;> (try (simp_all; done))
          rename_i u' x _
          split at ht
          · cases ht
          · rename_i nm hnm
            obtain ⟨y, hy, he⟩ := Option.map_eq_some_iff.1 ht
            injection he with he _
            injection he with h1 h2
            subst h1
            have hw := hok u' x rfl
            have : u' = tp := hrow u' hnm
            subst this
            obtain ⟨a, rfl⟩ := okWide_ptr hu hw
            have ok := (dAV_ok (E := E) (sp := sp) hI n).1 u' d' [v] hv fuel _ y.2 (by rw [← h2]; exact hy)
            have hc : (Value.pointer a).cells.toList = [.pointer a] := rfl
            rw [hc] at ok
            cases ok.vals with
            | cons hv1 _ => exact one_ok (.iface hv1) trivial (.iface (ok.clean v (by simp)))
          · cases ht
        · cases h
      · cases h
    · cases h
  | lit x => exact (dAV_ok (E := E) (sp := sp) hI n).1 t _ l h fuel cs p ht
  | nil => exact (dAV_ok (E := E) (sp := sp) hI n).1 t _ l h fuel cs p ht
  | agg x => exact (dAV_ok (E := E) (sp := sp) hI n).1 t _ l h fuel cs p ht
  | ptr x => exact (dAV_ok (E := E) (sp := sp) hI n).1 t _ l h fuel cs p ht
  | slice x y => exact (dAV_ok (E := E) (sp := sp) hI n).1 t _ l h fuel cs p ht
  | map x => exact (dAV_ok (E := E) (sp := sp) hI n).1 t _ l h fuel cs p ht
  | held x => exact (dAV_ok (E := E) (sp := sp) hI n).1 t _ l h fuel cs p ht

theorem laid_mem {P : Program} {W : World} : ∀ {laid : List (String × DataW Unit)} {ps : List MemPlace}, DataW.LaidVars P W laid ps → ∀ {n d}, (n, d) ∈ laid →
    ∃ g t cs fuel p, P.globalNamed n = some g ∧ (P.globals[g]?).map (·.type) = some t ∧ W.var? P n = some cs ∧ Trod P W (fun _ => true) fuel t cs.toList = some (d, p) ∧ ∀ x ∈ MemPlace.row ⟨g, 0, none⟩ cs.size, x ∈ ps
  | [], ps, _, n, d, hm => by simp at hm
  | (n', d') :: r, ps, h, n, d, hm => by
    obtain ⟨g, t, cs, fuel, p, q, h1, h2, h3, h4, h5, h6⟩ := h
    rcases List.mem_cons.1 hm with he | hm
    · cases he
      exact ⟨g, t, cs, fuel, p, h1, h2, h3, h4, fun x hx => by rw [h6]; simp [hx]⟩
    · obtain ⟨g', t', cs', fuel', p', k1, k2, k3, k4, k5⟩ := laid_mem h5 hm
      exact ⟨g', t', cs', fuel', p', k1, k2, k3, k4, fun x hx => by rw [h6]; simp [k5 x hx]⟩

theorem glob_of {P : Program} {E : Env} {W : World} {laid : List (String × DataW Unit)} (h : laidMet P laid W) (hI : ∀ b, b < W.heap.size → E.I b) {n : String} {d : DataW Unit} {g : Nat} {t : TypeId} {N : Nat} {l : List AV} {nm : String} {tp : Nat} (hrow : ∀ u, P.typeName? 3 u = some nm → u = tp)
    (hm : (n, d) ∈ laid) (hg : P.globalNamed n = some g) (ht : (P.globals[g]?).map (·.type) = some t) (hl : gcells P nm tp N t d = some l) :
    VR E W (.iptr false l) (.pointer (some ⟨g, 0, none⟩)) := by
  obtain ⟨ps, hv, _, hps⟩ := h
  obtain ⟨g', t', cs, fuel, p, h1, h2, h3, h4, h5⟩ := laid_mem hv hm
  rw [hg] at h1; cases h1
  rw [ht] at h2; cases h2
  have hblk : ∃ e fz, W.heap[g]? = some (.cells cs e fz) := by
    unfold World.var? at h3
    rw [hg] at h3
    simp only [Option.bind_some] at h3
    split at h3
    · rename_i c e fz hb; cases h3; exact ⟨e, fz, hb⟩
    · cases h3
  obtain ⟨e, fz, hb⟩ := hblk
  have hlt : g < W.heap.size := by
    rcases Nat.lt_or_ge g W.heap.size with h | h
    · exact h
    · rw [Array.getElem?_eq_none h] at hb; cases hb
  have ok := gcells_ok (E := E) hI hrow hl h4 fun u v he => by
    have hc : cs = #[.iface u v] := Array.toList_inj.1 (by simpa using he)
    refine (hps g 0 (h5 _ ?_)).2 u v ?_
    · rw [hc]; simp [MemPlace.row]
    · simp [World.cell?, hb, hc]
  exact .iptr (.inl (hI g hlt)) ok.clean ⟨cs, e, fz, hb, fun i x hx => ⟨by simpa using hx, ok.flat x (List.mem_of_getElem? hx)⟩⟩ ok.vals

theorem clean_of {P : Program} {E : Env} {W : World} {laid : List (String × DataW Unit)} (h : laidMet P laid W) (hI : ∀ b, b < W.heap.size → E.I b) {n : String} {d : DataW Unit} {g : Nat} {t : TypeId} {N : Nat} {l : List AV} {nm : String} {tp : Nat} (hrow : ∀ u, P.typeName? 3 u = some nm → u = tp)
    (hm : (n, d) ∈ laid) (hg : P.globalNamed n = some g) (ht : (P.globals[g]?).map (·.type) = some t) (hl : gcells P nm tp N t d = some l) : Clean false (.iptr false l) := by
  have := glob_of h hI hrow hm hg ht hl
  obtain ⟨bl, off, xs, _, _, hc, _, _⟩ := this.iptr_inv
  exact .iptr (fun e => by cases e) hc
end Go.Proofs.YtmadknpaljaecaaGreatDoor.Ev
namespace Go.Proofs.YtmadknpaljaecaaGreatDoor.Ev
open Go
set_option linter.unusedVariables false
set_option linter.unusedSimpArgs false

/-- clean, asked by program -/
def cleanB : Nat → AV → Bool
  | 0, _ => false
  | n + 1, v => match v with
    | .undef | .bool _ | .int _ _ | .float _ _ | .nan _ | .str _ | .nilPtr | .nilSl | .nilMap | .nilFn | .nilIf => true
    | .agg cs => cs.all (cleanB n)
    | .iptr b cs => !b && cs.all (cleanB n)
    | .isl b _ cs => !b && cs.all (cleanB n)
    | .iface _ v => cleanB n v
    | _ => false
theorem cleanB_sound : ∀ (n : Nat) (v : AV), cleanB n v = true → Clean false v
  | 0, v, h => by simp [cleanB] at h
  | n + 1, v, h => by
    have lst : ∀ cs : List AV, cs.all (cleanB n) = true → ∀ c ∈ cs, Clean false c := fun cs hc c hm => cleanB_sound n c (List.all_eq_true.1 hc c hm)
    unfold cleanB at h
    split at h
    all_goals first
      | constructor; done
      | (cases h; done)
      | skip
    · exact .agg (lst _ h)
    · simp only [Bool.and_eq_true, Bool.not_eq_true'] at h
      rw [h.1]; exact .iptr (fun e => by cases e) (lst _ h.2)
    · simp only [Bool.and_eq_true, Bool.not_eq_true'] at h
      rw [h.1]; exact .isl (fun e => by cases e) (lst _ h.2)
    · exact .iface (cleanB_sound n _ h)

/-- what the evaluator says of a call is so -/
theorem call_ok {P : Program} {C : Ctx} {pur : Nat → Bool} (hctx : CtxOk P C pur) (hglob : ∀ g, Clean false (C.glob g) ∨ C.glob g = .dead) (n : Nat) : CallOk P C (callFn (ex C n) C) :=
  callFn_ok hctx hglob (ex_sound hctx hglob n)
end Go.Proofs.YtmadknpaljaecaaGreatDoor.Ev
namespace Go.Proofs.YtmadknpaljaecaaGreatDoor.Ev.D
open Go Go.Proofs.YtmadknpaljaecaaGreatDoor.Ev
set_option maxRecDepth 100000
def fnsL : List (Nat × XFn) := [(3, X3), (7, X7), (15, X15), (95, X95), (159, X159), (23, X23), (39, X39), (71, X71), (263, X263), (103, X103), (215, X215), (119, X119), (247, X247), (19, X19), (35, X35), (67, X67), (259, X259), (51, X51), (83, X83), (211, X211), (27, X27), (75, X75), (107, X107), (59, X59), (219, X219), (251, X251), (5, X5), (33, X33), (257, X257), (225, X225), (81, X81), (145, X145), (105, X105), (233, X233), (185, X185), (249, X249), (69, X69), (101, X101), (229, X229), (245, X245), (29, X29), (45, X45), (77, X77), (141, X141), (109, X109), (61, X61), (221, X221), (125, X125), (8, X8), (16, X16), (32, X32), (256, X256), (96, X96), (272, X272), (112, X112), (176, X176), (24, X24), (40, X40), (264, X264), (104, X104), (56, X56), (216, X216), (120, X120), (248, X248), (20, X20), (68, X68), (132, X132), (228, X228), (52, X52), (84, X84), (212, X212), (244, X244), (28, X28), (44, X44), (76, X76), (172, X172), (60, X60), (220, X220), (18, X18), (226, X226), (50, X50), (82, X82), (274, X274), (178, X178), (242, X242), (218, X218), (250, X250), (22, X22), (70, X70), (102, X102), (166, X166), (54, X54), (214, X214), (118, X118), (246, X246), (30, X30), (46, X46), (78, X78), (110, X110), (62, X62), (254, X254)]
theorem fnsL_eq : fnsT.toL (fun n => n) = fnsL := by kernel_rfl
theorem all : ∀ p ∈ fnsL, chk Go.Proofs.Tryz.prog pur p.1 = some p.2 := List.forall_mem_cons.2 ⟨c3, List.forall_mem_cons.2 ⟨c7, List.forall_mem_cons.2 ⟨c15, List.forall_mem_cons.2 ⟨c95, List.forall_mem_cons.2 ⟨c159, List.forall_mem_cons.2 ⟨c23, List.forall_mem_cons.2 ⟨c39, List.forall_mem_cons.2 ⟨c71, List.forall_mem_cons.2 ⟨c263, List.forall_mem_cons.2 ⟨c103, List.forall_mem_cons.2 ⟨c215, List.forall_mem_cons.2 ⟨c119, List.forall_mem_cons.2 ⟨c247, List.forall_mem_cons.2 ⟨c19, List.forall_mem_cons.2 ⟨c35, List.forall_mem_cons.2 ⟨c67, List.forall_mem_cons.2 ⟨c259, List.forall_mem_cons.2 ⟨c51, List.forall_mem_cons.2 ⟨c83, List.forall_mem_cons.2 ⟨c211, List.forall_mem_cons.2 ⟨c27, List.forall_mem_cons.2 ⟨c75, List.forall_mem_cons.2 ⟨c107, List.forall_mem_cons.2 ⟨c59, List.forall_mem_cons.2 ⟨c219, List.forall_mem_cons.2 ⟨c251, List.forall_mem_cons.2 ⟨c5, List.forall_mem_cons.2 ⟨c33, List.forall_mem_cons.2 ⟨c257, List.forall_mem_cons.2 ⟨c225, List.forall_mem_cons.2 ⟨c81, List.forall_mem_cons.2 ⟨c145, List.forall_mem_cons.2 ⟨c105, List.forall_mem_cons.2 ⟨c233, List.forall_mem_cons.2 ⟨c185, List.forall_mem_cons.2 ⟨c249, List.forall_mem_cons.2 ⟨c69, List.forall_mem_cons.2 ⟨c101, List.forall_mem_cons.2 ⟨c229, List.forall_mem_cons.2 ⟨c245, List.forall_mem_cons.2 ⟨c29, List.forall_mem_cons.2 ⟨c45, List.forall_mem_cons.2 ⟨c77, List.forall_mem_cons.2 ⟨c141, List.forall_mem_cons.2 ⟨c109, List.forall_mem_cons.2 ⟨c61, List.forall_mem_cons.2 ⟨c221, List.forall_mem_cons.2 ⟨c125, List.forall_mem_cons.2 ⟨c8, List.forall_mem_cons.2 ⟨c16, List.forall_mem_cons.2 ⟨c32, List.forall_mem_cons.2 ⟨c256, List.forall_mem_cons.2 ⟨c96, List.forall_mem_cons.2 ⟨c272, List.forall_mem_cons.2 ⟨c112, List.forall_mem_cons.2 ⟨c176, List.forall_mem_cons.2 ⟨c24, List.forall_mem_cons.2 ⟨c40, List.forall_mem_cons.2 ⟨c264, List.forall_mem_cons.2 ⟨c104, List.forall_mem_cons.2 ⟨c56, List.forall_mem_cons.2 ⟨c216, List.forall_mem_cons.2 ⟨c120, List.forall_mem_cons.2 ⟨c248, List.forall_mem_cons.2 ⟨c20, List.forall_mem_cons.2 ⟨c68, List.forall_mem_cons.2 ⟨c132, List.forall_mem_cons.2 ⟨c228, List.forall_mem_cons.2 ⟨c52, List.forall_mem_cons.2 ⟨c84, List.forall_mem_cons.2 ⟨c212, List.forall_mem_cons.2 ⟨c244, List.forall_mem_cons.2 ⟨c28, List.forall_mem_cons.2 ⟨c44, List.forall_mem_cons.2 ⟨c76, List.forall_mem_cons.2 ⟨c172, List.forall_mem_cons.2 ⟨c60, List.forall_mem_cons.2 ⟨c220, List.forall_mem_cons.2 ⟨c18, List.forall_mem_cons.2 ⟨c226, List.forall_mem_cons.2 ⟨c50, List.forall_mem_cons.2 ⟨c82, List.forall_mem_cons.2 ⟨c274, List.forall_mem_cons.2 ⟨c178, List.forall_mem_cons.2 ⟨c242, List.forall_mem_cons.2 ⟨c218, List.forall_mem_cons.2 ⟨c250, List.forall_mem_cons.2 ⟨c22, List.forall_mem_cons.2 ⟨c70, List.forall_mem_cons.2 ⟨c102, List.forall_mem_cons.2 ⟨c166, List.forall_mem_cons.2 ⟨c54, List.forall_mem_cons.2 ⟨c214, List.forall_mem_cons.2 ⟨c118, List.forall_mem_cons.2 ⟨c246, List.forall_mem_cons.2 ⟨c30, List.forall_mem_cons.2 ⟨c46, List.forall_mem_cons.2 ⟨c78, List.forall_mem_cons.2 ⟨c110, List.forall_mem_cons.2 ⟨c62, List.forall_mem_cons.2 ⟨c254, (by simp)⟩⟩⟩⟩⟩⟩⟩⟩⟩⟩⟩⟩⟩⟩⟩⟩⟩⟩⟩⟩⟩⟩⟩⟩⟩⟩⟩⟩⟩⟩⟩⟩⟩⟩⟩⟩⟩⟩⟩⟩⟩⟩⟩⟩⟩⟩⟩⟩⟩⟩⟩⟩⟩⟩⟩⟩⟩⟩⟩⟩⟩⟩⟩⟩⟩⟩⟩⟩⟩⟩⟩⟩⟩⟩⟩⟩⟩⟩⟩⟩⟩⟩⟩⟩⟩⟩⟩⟩⟩⟩⟩⟩⟩⟩⟩⟩⟩⟩⟩⟩⟩
theorem ctx : CtxOk Go.Proofs.Tryz.prog C pur := ctx_of mixed (fun f fn hf => all (f, fn) (fnsL_eq ▸ T.get_mem fnsT (fun n => n) f fn hf)) (fun f g h => by cases h) (fun f g h => by cases h)
end Go.Proofs.YtmadknpaljaecaaGreatDoor.Ev.D
