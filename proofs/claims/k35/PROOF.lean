import PyProof.Rows.All
import Wide.All
import OpenK.AllK
import Wide.FinOn
import HandS.ForMost
import HandS.Wide
import HandS.Gcd
import HandS.IsInst
import HandS.Style
import HandS.Flow
import KE.KDictKeyed
import KE.KDictDisplayH
import PySem.Challenge.RW_buybook_k35_whole_what_can_be_bought
set_option Elab.async false
set_option linter.all false
set_option maxRecDepth 100000
set_option maxHeartbeats 4000000
namespace BB
open PySem PySem.Spec PyProof.Rows L2
inductive D where
  | non | bl (b : Bool) | int (i : Int) | str (x : Str)
  | tup (ds : List D) | lst (ds : List D)
  | scr (ns : List Int)
  | dat (g b l : D)
  | dic (ks : List (Int × Bool)) (ds : List D)
structure Mo where
  P : Program
  w : World
  K : PySem.W.Frag
  mg : Str → Option Value
  base : Heap
  C : Addr
def b2n (b : Bool) : Int := if b = true then 1 else 0
def keyN (k : Int × Bool) : NestedKey := .tup [.num k.1, .num (b2n k.2)]
def keyV (k : Int × Bool) : HO := .tup [.int k.1, .bl k.2]
abbrev Ent := (Int × Bool) × Addr × V
def EntR (p : Ent) (q : NestedKey × Addr × Value) : Prop := q.1 = keyN p.1 ∧ q.2.1 = p.2.1 ∧ RelV p.2.2 q.2.2
def dicF (P : Program) (w : World) (a : Addr) (es : List Ent) (h : Heap) : Prop :=
  es.length ≤ sizeLine ∧ (a == sysModules) = false ∧ (es.map (·.1)).Nodup ∧ ∃ xs : List (NestedKey × Addr × Value), Paired EntR es xs ∧
    ∃ o en ep, h.get? a = some o ∧ o.ExactDict ∧ o.data = .dict en ep ∧ en.toList = xs.map (entryOfKey (nestedKind P w))
def dicO (P : Program) (w : World) (a : Addr) (es : List Ent) : HO := .ext (dicF P w a es)
mutual
def Rep (M : Mo) (G : Hp) : D → V → Prop
  | .non, v => v = .non
  | .bl b, v => v = .bl b
  | .int i, v => v = .int i
  | .str x, v => v = .str x
  | .tup ds, v => ∃ a xs, v = .ref a ∧ SqT M.K G a xs ∧ Reps M G ds xs
  | .lst ds, v => ∃ a xs, v = .ref a ∧ G a = some (.lst xs) ∧ Reps M G ds xs
  | .scr ns, v => ∃ a, v = .ref a ∧ SqL M.K G a (ns.map V.int)
  | .dat g b l, v => ∃ a dx x y z, v = .ref a ∧ G a = some (.ins M.C dx [("goods", x), ("buys", y), ("links", z)]) ∧ Rep M G g x ∧ Rep M G b y ∧ Rep M G l z
  | .dic ks ds, v => ∃ a es, v = .ref a ∧ G a = some (dicO M.P M.w a es) ∧ (∀ e ∈ es, G e.2.1 = some (keyV e.1)) ∧ es.map (·.1) = ks ∧ Reps M G ds (es.map (·.2.2))
def Reps (M : Mo) (G : Hp) : List D → List V → Prop
  | [], xs => xs = []
  | d :: ds, xs => ∃ x r, xs = x :: r ∧ Rep M G d x ∧ Reps M G ds r
end
theorem same_t {K : PySem.W.Frag} {H H' : Hp} {a : Addr} {xs : List V} (e : Same H H') (h : SqT K H a xs) : SqT K H' a xs := by
  rcases h with (h | ⟨o, h⟩) | h
  · exact .inl (.inl (e _ _ h))
  · exact .inl (.inr ⟨o, e _ _ h⟩)
  · exact .inr h
section
variable {M : Mo} {G G' H H' : Hp}
mutual
theorem Rep.mono (s : Same G G') : ∀ {d : D} {v : V}, Rep M G d v → Rep M G' d v
  | .non, _, h => h
  | .bl _, _, h => h
  | .int _, _, h => h
  | .str _, _, h => h
  | .tup ds, _, h => by
    obtain ⟨a, xs, e, q, r⟩ := h
    exact ⟨a, xs, e, same_t s q, Reps.mono s r⟩
  | .lst ds, _, h => by
    obtain ⟨a, xs, e, q, r⟩ := h
    exact ⟨a, xs, e, s _ _ q, Reps.mono s r⟩
  | .scr ns, _, h => by
    obtain ⟨a, e, q⟩ := h
    exact ⟨a, e, s.seq q⟩
  | .dat g b l, _, h => by
    obtain ⟨a, dx, x, y, z, e, q, r1, r2, r3⟩ := h
    exact ⟨a, dx, x, y, z, e, s _ _ q, Rep.mono s r1, Rep.mono s r2, Rep.mono s r3⟩
  | .dic ks ds, _, h => by
    obtain ⟨a, es, e, q, k, r1, r2⟩ := h
    exact ⟨a, es, e, s _ _ q, fun x hx => s _ _ (k x hx), r1, Reps.mono s r2⟩
theorem Reps.mono (s : Same G G') : ∀ {ds : List D} {xs : List V}, Reps M G ds xs → Reps M G' ds xs
  | [], _, h => h
  | d :: ds, _, h => by
    obtain ⟨x, r, e, h1, h2⟩ := h
    exact ⟨x, r, e, Rep.mono s h1, Reps.mono s h2⟩
end
theorem Reps.length : ∀ {ds : List D} {xs : List V}, Reps M G ds xs → ds.length = xs.length
  | [], _, h => by cases (show _ = _ from h); rfl
  | d :: ds, _, h => by
    obtain ⟨x, r, rfl, h1, h2⟩ := h
    rw [List.length_cons, List.length_cons, Reps.length h2]
theorem Reps.get : ∀ {ds : List D} {xs : List V} {i : Nat} {d : D}, Reps M G ds xs → ds[i]? = some d → ∃ x, xs[i]? = some x ∧ Rep M G d x
  | [], _, _, _, _, e => by simp at e
  | d :: ds, _, 0, _, h, e => by
    obtain ⟨x, r, rfl, h1, h2⟩ := h
    simp at e; subst e
    exact ⟨x, rfl, h1⟩
  | d :: ds, _, i + 1, _, h, e => by
    obtain ⟨x, r, rfl, h1, h2⟩ := h
    obtain ⟨y, e1, e2⟩ := Reps.get (i := i) h2 (by simpa using e)
    exact ⟨y, by simpa using e1, e2⟩
theorem Reps.nil : Reps M G [] [] := rfl
theorem Reps.cons {d : D} {ds : List D} {x : V} {xs : List V} (h : Rep M G d x) (t : Reps M G ds xs) : Reps M G (d :: ds) (x :: xs) := ⟨x, xs, rfl, h, t⟩
theorem Reps.append : ∀ {ds es : List D} {xs ys : List V}, Reps M G ds xs → Reps M G es ys → Reps M G (ds ++ es) (xs ++ ys)
  | [], _, _, _, h, t => by cases (show _ = _ from h); exact t
  | d :: ds, _, _, _, h, t => by
    obtain ⟨x, r, rfl, h1, h2⟩ := h
    exact ⟨x, r ++ _, rfl, h1, Reps.append h2 t⟩
theorem Reps.snoc {ds : List D} {xs : List V} {d : D} {x : V} (h : Reps M G ds xs) (r : Rep M G d x) : Reps M G (ds ++ [d]) (xs ++ [x]) := h.append (.cons r .nil)
theorem Reps.set : ∀ {ds : List D} {xs : List V} {d : D} {x : V} (i : Nat), Reps M G ds xs → Rep M G d x → Reps M G (ds.set i d) (xs.set i x)
  | [], _, _, _, _, h, _ => by cases (show _ = _ from h); exact rfl
  | d :: ds, _, _, _, 0, h, t => by
    obtain ⟨x, r, rfl, h1, h2⟩ := h
    exact ⟨_, r, rfl, t, h2⟩
  | d :: ds, _, _, _, i + 1, h, t => by
    obtain ⟨x, r, rfl, h1, h2⟩ := h
    exact ⟨x, _, rfl, h1, Reps.set i h2 t⟩
theorem Reps.of_get {ds : List D} {xs : List V} : ds.length = xs.length → (∀ (i : Nat) d x, ds[i]? = some d → xs[i]? = some x → Rep M G d x) → Reps M G ds xs := by
  induction ds generalizing xs with
  | nil => intro h _; cases xs with
    | nil => rfl
    | cons _ _ => cases h
  | cons d ds ih => intro h q; cases xs with
    | nil => cases h
    | cons x xs => exact ⟨x, xs, rfl, q 0 d x rfl rfl, ih (by simpa using h) fun i d' x' e1 e2 => q (i + 1) d' x' (by simpa using e1) (by simpa using e2)⟩
theorem Reps.take {ds : List D} {xs : List V} (n : Nat) (h : Reps M G ds xs) : Reps M G (ds.take n) (xs.take n) := by
  refine Reps.of_get (by rw [List.length_take, List.length_take, h.length]) fun i d x e1 e2 => ?_
  rw [List.getElem?_take] at e1 e2
  split at e1
  · obtain ⟨y, q1, q2⟩ := h.get e1
    rw [if_pos (by assumption), q1] at e2
    cases e2; exact q2
  · cases e1
theorem Reps.drop {ds : List D} {xs : List V} (n : Nat) (h : Reps M G ds xs) : Reps M G (ds.drop n) (xs.drop n) := by
  refine Reps.of_get (by rw [List.length_drop, List.length_drop, h.length]) fun i d x e1 e2 => ?_
  rw [List.getElem?_drop] at e1 e2
  obtain ⟨y, q1, q2⟩ := h.get e1
  rw [q1] at e2
  cases e2; exact q2
end
structure Step (H G H' G' : Hp) : Prop where
  ex : Same H H'
  old : ∀ a o, H a = some o → G' a = G a
  sub : Same G' H'
section
variable {M : Mo} {H G H1 G1 H2 G2 : Hp}
theorem Step.refl (s : Same G H) : Step H G H G := ⟨Same.refl H, fun _ _ _ => rfl, s⟩
theorem Step.trans (a : Step H G H1 G1) (b : Step H1 G1 H2 G2) : Step H G H2 G2 :=
  ⟨a.ex.trans b.ex, fun x o h => (b.old x o (a.ex x o h)).trans (a.old x o h), b.sub⟩
theorem Step.same (a : Step H G H1 G1) (s : Same G H) : Same G G1 := fun x o h => (a.old x o (s x o h)).trans h
theorem Step.new {p : Addr} {o : HO} (s : Same G H) (h : H p = none) : Step H G (upd H p o) (upd G p o) := by
  refine ⟨fun b u e => by rw [upd_ne (ne_of_none e h)]; exact e, fun b u e => by rw [upd_ne (ne_of_none e h)], fun b u e => ?_⟩
  by_cases hb : b = p
  · subst hb; rw [upd_same] at e ⊢; exact e
  · rw [upd_ne hb] at e ⊢; exact s b u e
theorem Step.new' {p : Addr} {o : HO} (s : Same G H) (h : H p = none) : Step H G (upd H p o) G := by
  refine ⟨fun b u e => by rw [upd_ne (ne_of_none e h)]; exact e, fun b u e => rfl, fun b u e => ?_⟩
  have hb : b ≠ p := ne_of_none (s b u e) h
  rw [upd_ne hb]; exact s b u e
theorem free_of_same (s : Same G H) {p : Addr} (h : H p = none) : G p = none := by
  cases q : G p with
  | none => rfl
  | some o => rw [s p o q] at h; cases h
theorem Step.free (a : Step H G H1 G1) {l : Addr} (h : H1 l = none) : H l = none := by
  cases q : H l with
  | none => rfl
  | some o => rw [a.ex l o q] at h; cases h
end
end BB
set_option Elab.async false
set_option linter.all false
set_option maxRecDepth 100000
set_option maxHeartbeats 4000000
namespace BB
open PySem PySem.Spec PyProof.Rows L2
inductive Sl where
  | un
  | dat (d : D)
  | own (ds : List D)
  | odic (ks : List (Int × Bool)) (ds : List D)
  | mat (rows : List (List D))
  | ins (a : Addr) (fs : List (Str × D))
abbrev Ro := List Sl
def RowsAt (M : Mo) (G H : Hp) : List (List D) → List Addr → Prop
  | [], as => as = []
  | r :: rs, as => ∃ a t xs, as = a :: t ∧ H a = some (.lst xs) ∧ Reps M G r xs ∧ RowsAt M G H rs t
def FldsAt (M : Mo) (G : Hp) : List (Str × D) → List (Str × V) → Prop
  | [], xs => xs = []
  | (f, d) :: r, xs => ∃ x t, xs = (f, x) :: t ∧ Rep M G d x ∧ FldsAt M G r t
def SlOk (M : Mo) (G H : Hp) (as : List Addr) : Sl → Option V → Prop
  | .un, _ => as = []
  | .dat d, o => as = [] ∧ ∃ v, o = some v ∧ Rep M G d v
  | .own ds, o => ∃ l xs, as = [l] ∧ o = some (.ref l) ∧ H l = some (.lst xs) ∧ Reps M G ds xs
  | .odic ks ds, o => ∃ l es, as = [l] ∧ o = some (.ref l) ∧ H l = some (dicO M.P M.w l es) ∧ (∀ e ∈ es, G e.2.1 = some (keyV e.1)) ∧ es.map (·.1) = ks ∧ Reps M G ds (es.map (·.2.2))
  | .mat rows, o => ∃ l rs, as = l :: rs ∧ o = some (.ref l) ∧ H l = some (.lst (rs.map V.ref)) ∧ RowsAt M G H rows rs ∧ (l :: rs).Nodup
  | .ins a fs, o => ∃ dx xs, as = [a] ∧ o = some (.ref a) ∧ H a = some (.ins M.C dx xs) ∧ FldsAt M G fs xs
structure Wd (M : Mo) (G0 H0 : Hp) (ρ : Ro) (σ : L2.St) (G H : Hp) : Prop where
  len : σ.length = ρ.length
  ex : Same H0 H
  old : ∀ a o, H0 a = some o → G a = G0 a
  sub : Same G H
  sl : ∃ α : Nat → List Addr, (∀ (i : Nat) s o, ρ[i]? = some s → σ[i]? = some o → SlOk M G H (α i) s o) ∧ (∀ i, ∀ a ∈ α i, G a = none ∧ H0 a = none ∧ H a ≠ none) ∧
    ∀ i j, i ≠ j → ∀ a ∈ α i, a ∉ α j
section
variable {M : Mo} {G0 H0 G H G' H' : Hp} {ρ : Ro} {σ : L2.St}
theorem RowsAt.mono (g : Same G G') : ∀ {rows : List (List D)} {as : List Addr}, (∀ a ∈ as, ∀ o, H a = some o → H' a = some o) → RowsAt M G H rows as → RowsAt M G' H' rows as
  | [], _, _, h => h
  | r :: rs, _, k, h => by
    obtain ⟨a, t, xs, rfl, h1, h2, h3⟩ := h
    exact ⟨a, t, xs, rfl, k a (List.mem_cons_self) _ h1, h2.mono g, RowsAt.mono g (fun b hb => k b (List.mem_cons_of_mem _ hb)) h3⟩
theorem FldsAt.mono (g : Same G G') : ∀ {fs : List (Str × D)} {xs : List (Str × V)}, FldsAt M G fs xs → FldsAt M G' fs xs
  | [], _, h => h
  | (f, d) :: r, _, h => by
    obtain ⟨x, t, rfl, h1, h2⟩ := h
    exact ⟨x, t, rfl, h1.mono g, FldsAt.mono g h2⟩
theorem SlOk.mono (g : Same G G') {as : List Addr} (k : ∀ a ∈ as, ∀ o, H a = some o → H' a = some o) {s : Sl} {o : Option V} (h : SlOk M G H as s o) : SlOk M G' H' as s o := by
  cases s with
  | un => exact h
  | dat d => obtain ⟨h1, v, h2, h3⟩ := h; exact ⟨h1, v, h2, h3.mono g⟩
  | own ds => obtain ⟨l, xs, rfl, h2, h3, h4⟩ := h; exact ⟨l, xs, rfl, h2, k l (by simp) _ h3, h4.mono g⟩
  | odic ks ds => obtain ⟨l, es, rfl, h2, h3, h4, h5, h6⟩ := h; exact ⟨l, es, rfl, h2, k l (by simp) _ h3, fun e he => g _ _ (h4 e he), h5, h6.mono g⟩
  | mat rows => obtain ⟨l, rs, rfl, h2, h3, h4, h5⟩ := h; exact ⟨l, rs, rfl, h2, k l (by simp) _ h3, h4.mono g fun a ha => k a (List.mem_cons_of_mem _ ha), h5⟩
  | ins a fs => obtain ⟨dx, xs, rfl, h2, h3, h4⟩ := h; exact ⟨dx, xs, rfl, h2, k a (by simp) _ h3, h4.mono g⟩
theorem Wd.step (w : Wd M G0 H0 ρ σ G H) (st : Step H G H' G') : Wd M G0 H0 ρ σ G' H' := by
  obtain ⟨α, h1, h2, h3⟩ := w.sl
  refine ⟨w.len, w.ex.trans st.ex, fun a o e => (st.old a o (w.ex a o e)).trans (w.old a o e), st.sub, α, fun i s o e1 e2 => ?_, fun i a ha => ?_, h3⟩
  · exact (h1 i s o e1 e2).mono (st.same w.sub) fun a _ o e => st.ex a o e
  · obtain ⟨q1, q2, q3⟩ := h2 i a ha
    cases e : H a with
    | none => exact absurd e q3
    | some o => exact ⟨(st.old a o e).trans q1, q2, by rw [st.ex a o e]; simp⟩
theorem Wd.fin (w : Wd M G0 H0 ρ σ G H) : Step H0 G0 H G := ⟨w.ex, w.old, w.sub⟩
theorem Wd.get (w : Wd M G0 H0 ρ σ G H) {i : Nat} {d : D} (h : ρ[i]? = some (.dat d)) : ∃ v, σ[i]? = some (some v) ∧ Rep M G d v := by
  obtain ⟨α, h1, _⟩ := w.sl
  have hi : i < σ.length := by rw [w.len]; exact (List.getElem?_eq_some_iff.mp h).1
  have e : σ[i]? = some σ[i] := List.getElem?_eq_getElem hi
  obtain ⟨_, v, h2, h3⟩ := h1 i _ _ h e
  exact ⟨v, by rw [e, h2], h3⟩
theorem Wd.put (w : Wd M G0 H0 ρ σ G H) {i : Nat} {s : Sl} {o : Option V} {as : List Addr} (st : Step H G H' G') (hs : SlOk M G' H' as s o) (hn : ∀ a ∈ as, G' a = none ∧ H a = none ∧ H' a ≠ none) :
    Wd M G0 H0 (ρ.set i s) (σ.set i o) G' H' := by
  have w' := w.step st
  obtain ⟨α, h1, h2, h3⟩ := w.sl
  refine ⟨by rw [List.length_set, List.length_set]; exact w.len, w'.ex, w'.old, w'.sub, fun j => if j = i then as else α j, fun j s' o' e1 e2 => ?_, fun j a ha => ?_, fun j k hjk a ha hk => ?_⟩
  · by_cases hj : j = i
    · subst hj
      have hl : j < ρ.length := by have := (List.getElem?_eq_some_iff.mp e1).1; simpa using this
      rw [List.getElem?_set_self hl] at e1
      rw [List.getElem?_set_self (by rw [w.len]; exact hl)] at e2
      cases e1; cases e2
      show SlOk M G' H' (if j = j then as else α j) s o
      rw [if_pos rfl]; exact hs
    · rw [List.getElem?_set_ne (Ne.symm hj)] at e1 e2
      show SlOk M G' H' (if j = i then as else α j) s' o'
      rw [if_neg hj]
      exact (h1 j s' o' e1 e2).mono (st.same w.sub) fun a _ o e => st.ex a o e
  · have ha : a ∈ (if j = i then as else α j) := ha
    by_cases hj : j = i
    · rw [if_pos hj] at ha
      obtain ⟨q1, q2, q3⟩ := hn a ha
      refine ⟨q1, ?_, q3⟩
      cases e : H0 a with
      | none => rfl
      | some o => rw [w.ex a o e] at q2; cases q2
    · rw [if_neg hj] at ha
      obtain ⟨q1, q2, q3⟩ := h2 j a ha
      cases e : H a with
      | none => exact absurd e q3
      | some o => exact ⟨(st.old a o e).trans q1, q2, by rw [st.ex a o e]; simp⟩
  · have ha : a ∈ (if j = i then as else α j) := ha
    have hk : a ∈ (if k = i then as else α k) := hk
    by_cases hj : j = i
    · rw [if_pos hj] at ha
      rw [if_neg (fun z => hjk (hj.trans z.symm))] at hk
      exact (h2 k a hk).2.2 (hn a ha).2.1
    · rw [if_neg hj] at ha
      by_cases hk' : k = i
      · rw [if_pos hk'] at hk
        exact (h2 j a ha).2.2 (hn a hk).2.1
      · rw [if_neg hk'] at hk
        exact h3 j k hjk a ha hk
theorem Wd.putDat (w : Wd M G0 H0 ρ σ G H) {i : Nat} {d : D} {v : V} (hr : Rep M G d v) : Wd M G0 H0 (ρ.set i (.dat d)) (σ.set i (some v)) G H :=
  w.put (as := []) (Step.refl w.sub) ⟨rfl, v, rfl, hr⟩ fun a ha => by simp at ha
theorem Wd.write (w : Wd M G0 H0 ρ σ G H) {i : Nat} {s s' : Sl} {o : Option V} (hs : ρ[i]? = some s) (ho : σ[i]? = some o)
    (f : ∀ as, SlOk M G H as s o → (∀ a ∈ as, G a = none ∧ H a ≠ none) → ∃ a ∈ as, (∀ b, b ≠ a → H' b = H b) ∧ H' a ≠ none ∧ SlOk M G H' as s' o) :
    Wd M G0 H0 (ρ.set i s') σ G H' := by
  obtain ⟨α, h1, h2, h3⟩ := w.sl
  obtain ⟨a, ha, hb, hn, hs'⟩ := f (α i) (h1 i s o hs ho) (fun a ha => ⟨(h2 i a ha).1, (h2 i a ha).2.2⟩)
  have hil : i < ρ.length := (List.getElem?_eq_some_iff.mp hs).1
  have out : ∀ b, H0 b ≠ none ∨ G b ≠ none → H' b = H b := fun b hq => hb b fun z => by
    subst z
    rcases hq with hq | hq
    · exact hq (h2 i b ha).2.1
    · exact hq (h2 i b ha).1
  refine ⟨by rw [List.length_set]; exact w.len, fun b u e => ?_, w.old, fun b u e => ?_, α, fun j t o' e1 e2 => ?_, fun j b hbj => ?_, h3⟩
  · rw [out b (.inl (by rw [e]; simp))]; exact w.ex b u e
  · rw [out b (.inr (by rw [e]; simp))]; exact w.sub b u e
  · by_cases hj : j = i
    · subst hj
      rw [List.getElem?_set_self hil] at e1
      cases e1
      rw [ho] at e2; cases e2
      exact hs'
    · rw [List.getElem?_set_ne (Ne.symm hj)] at e1
      refine (h1 j t o' e1 e2).mono (Same.refl G) fun b hbj u e => ?_
      rw [hb b fun z => h3 j i hj b hbj (by rw [z]; exact ha)]
      exact e
  · obtain ⟨q1, q2, q3⟩ := h2 j b hbj
    refine ⟨q1, q2, ?_⟩
    by_cases hba : b = a
    · rw [hba]; exact hn
    · rw [hb b hba]; exact q3
theorem Wd.forget (w : Wd M G0 H0 ρ σ G H) (i : Nat) (o : Option V) : Wd M G0 H0 (ρ.set i .un) (σ.set i o) G H :=
  w.put (s := .un) (o := o) (as := []) (Step.refl w.sub) rfl fun a ha => by simp at ha
def cln : Sl → Sl
  | .own ds => .dat (.lst ds)
  | .odic ks ds => .dat (.dic ks ds)
  | .mat rows => .dat (.lst (rows.map D.lst))
  | .ins _ _ => .un
  | s => s
theorem rows_clean : ∀ {rows : List (List D)} {rs : List Addr}, RowsAt M G H rows rs → (∀ a ∈ rs, ∀ o, H a = some o → G' a = some o) → Same G G' → Reps M G' (rows.map D.lst) (rs.map V.ref)
  | [], _, h, _, _ => by cases (show _ = _ from h); exact rfl
  | r :: rows, _, h, k, s => by
    obtain ⟨a, t, xs, rfl, h1, h2, h3⟩ := h
    exact ⟨_, _, rfl, ⟨a, xs, rfl, k a List.mem_cons_self _ h1, h2.mono s⟩, rows_clean h3 (fun b hb => k b (List.mem_cons_of_mem _ hb)) s⟩
theorem SlOk.cln' {as : List Addr} {s : Sl} {o : Option V} (h : SlOk M G H as s o) (k : ∀ a ∈ as, ∀ o, H a = some o → G' a = some o) (g : Same G G') (hp : (∃ d, s = .dat d) → as = []) : SlOk M G' H [] (cln s) o := by
  cases s with
  | un => exact rfl
  | dat d => obtain ⟨h1, v, h2, h3⟩ := h; exact ⟨rfl, v, h2, h3.mono g⟩
  | own ds => obtain ⟨l, xs, rfl, h2, h3, h4⟩ := h; exact ⟨rfl, _, h2, l, xs, rfl, k l (by simp) _ h3, h4.mono g⟩
  | odic ks ds => obtain ⟨l, es, rfl, h2, h3, h4, h5, h6⟩ := h; exact ⟨rfl, _, h2, l, es, rfl, k l (by simp) _ h3, fun e he => g _ _ (h4 e he), h5, h6.mono g⟩
  | mat rows => obtain ⟨l, rs, rfl, h2, h3, h4, h5⟩ := h; exact ⟨rfl, _, h2, l, _, rfl, k l (by simp) _ h3, rows_clean h4 (fun a ha => k a (List.mem_cons_of_mem _ ha)) g⟩
  | ins a fs => exact rfl
theorem Wd.freeze (w : Wd M G0 H0 ρ σ G H) (i : Nat) : ∃ G', Step H0 G0 H G' ∧ Wd M G0 H0 (ρ.set i (cln (ρ.getD i .un))) σ G' H := by
  obtain ⟨α, h1, h2, h3⟩ := w.sl
  by_cases hil : i < ρ.length
  · have hs : ρ[i]? = some ρ[i] := List.getElem?_eq_getElem hil
    have hg : ρ.getD i .un = ρ[i] := by rw [List.getD_eq_getElem?_getD, hs]; rfl
    rw [hg]
    have hiσ : i < σ.length := by rw [w.len]; exact hil
    have ho : σ[i]? = some σ[i] := List.getElem?_eq_getElem hiσ
    have gs : Same G (fun a => if a ∈ α i then H a else G a) := fun a o e => by
      show (if a ∈ α i then H a else G a) = some o
      by_cases ha : a ∈ α i
      · rw [(h2 i a ha).1] at e; cases e
      · rw [if_neg ha]; exact e
    have old : ∀ a o, H0 a = some o → (if a ∈ α i then H a else G a) = G0 a := fun a o e => by
      by_cases ha : a ∈ α i
      · rw [(h2 i a ha).2.1] at e; cases e
      · rw [if_neg ha]; exact w.old a o e
    have sub : Same (fun a => if a ∈ α i then H a else G a) H := fun a o e => by
      have e : (if a ∈ α i then H a else G a) = some o := e
      by_cases ha : a ∈ α i
      · rw [if_pos ha] at e; exact e
      · rw [if_neg ha] at e; exact w.sub a o e
    refine ⟨fun a => if a ∈ α i then H a else G a, ⟨w.ex, old, sub⟩, by rw [List.length_set]; exact w.len, w.ex, old, sub, fun j => if j = i then [] else α j, fun j s o e1 e2 => ?_, fun j a ha => ?_, fun j k hjk a ha hk => ?_⟩
    · by_cases hj : j = i
      · subst hj
        rw [List.getElem?_set_self hil] at e1
        cases e1
        show SlOk M _ H (if j = j then [] else α j) _ o
        rw [if_pos rfl]
        refine (h1 j _ o hs e2).cln' (fun a ha u e => ?_) gs fun ⟨d, z⟩ => ?_
        · show (if a ∈ α j then H a else G a) = some u
          rw [if_pos ha]; exact e
        · have q := h1 j _ o hs e2
          rw [z] at q; exact q.1
      · rw [List.getElem?_set_ne (Ne.symm hj)] at e1
        show SlOk M _ H (if j = i then [] else α j) s o
        rw [if_neg hj]
        exact (h1 j s o e1 e2).mono gs fun _ _ _ e => e
    · have ha : a ∈ (if j = i then [] else α j) := ha
      by_cases hj : j = i
      · rw [if_pos hj] at ha; simp at ha
      · rw [if_neg hj] at ha
        refine ⟨?_, (h2 j a ha).2⟩
        show (if a ∈ α i then H a else G a) = none
        rw [if_neg (h3 j i hj a ha)]
        exact (h2 j a ha).1
    · have ha : a ∈ (if j = i then [] else α j) := ha
      have hk : a ∈ (if k = i then [] else α k) := hk
      by_cases hj : j = i
      · rw [if_pos hj] at ha; simp at ha
      · by_cases hk' : k = i
        · rw [if_pos hk'] at hk; simp at hk
        · rw [if_neg hj] at ha; rw [if_neg hk'] at hk
          exact h3 j k hjk a ha hk
  · refine ⟨G, w.fin, ?_⟩
    have e : ρ.set i (cln (ρ.getD i .un)) = ρ := List.set_eq_of_length_le (Nat.le_of_not_lt hil)
    rw [e]; exact w
theorem Wd.lend (w : Wd M G0 H0 ρ σ G H) : ∃ G1, Same G G1 ∧ Wd M G0 H0 (ρ.map cln) σ G1 H ∧ (∀ a o, G1 a = some o → G a = some o ∨ (∀ ts, o ≠ .tup ts) ∧ ∀ ob ts, o ≠ .frz ob ts) := by
  obtain ⟨α, h1, h2, h3⟩ := w.sl
  have hex : ∀ a, (∃ i, a ∈ α i) → G a = none ∧ H0 a = none ∧ H a ≠ none := fun a ⟨i, hi⟩ => h2 i a hi
  classical
  have gs : Same G (fun a => if ∃ i, i < ρ.length ∧ a ∈ α i then H a else G a) := fun a o e => by
    show (if ∃ i, i < ρ.length ∧ a ∈ α i then H a else G a) = some o
    by_cases ha : ∃ i, i < ρ.length ∧ a ∈ α i
    · obtain ⟨i, _, hi⟩ := ha
      rw [(h2 i a hi).1] at e; cases e
    · rw [if_neg ha]; exact e
  refine ⟨fun a => if ∃ i, i < ρ.length ∧ a ∈ α i then H a else G a, gs, ⟨by rw [List.length_map]; exact w.len, w.ex, fun a o e => ?_, fun a o e => ?_, fun _ => [], fun j s o e1 e2 => ?_, fun j a ha => by simp at ha, fun j k hjk a ha hk => by simp at ha⟩, fun a o e => ?_⟩
  · show (if ∃ i, i < ρ.length ∧ a ∈ α i then H a else G a) = G0 a
    by_cases ha : ∃ i, i < ρ.length ∧ a ∈ α i
    · obtain ⟨i, _, hi⟩ := ha
      rw [(h2 i a hi).2.1] at e; cases e
    · rw [if_neg ha]; exact w.old a o e
  · have e : (if ∃ i, i < ρ.length ∧ a ∈ α i then H a else G a) = some o := e
    by_cases ha : ∃ i, i < ρ.length ∧ a ∈ α i
    · rw [if_pos ha] at e; exact e
    · rw [if_neg ha] at e; exact w.sub a o e
  · rw [List.getElem?_map] at e1
    cases q : ρ[j]? with
    | none => rw [q] at e1; cases e1
    | some t =>
      rw [q] at e1
      cases e1
      refine (h1 j t o q e2).cln' (fun a ha u e => ?_) gs fun ⟨d, z⟩ => ?_
      · show (if ∃ i, i < ρ.length ∧ a ∈ α i then H a else G a) = some u
        rw [if_pos ⟨j, (List.getElem?_eq_some_iff.mp q).1, ha⟩]; exact e
      · have q' := h1 j t o q e2
        rw [z] at q'; exact q'.1
  · have e : (if ∃ i, i < ρ.length ∧ a ∈ α i then H a else G a) = some o := e
    by_cases ha : ∃ i, i < ρ.length ∧ a ∈ α i
    · rw [if_pos ha] at e
      obtain ⟨i, hil, hi⟩ := ha
      right
      have hs : ρ[i]? = some ρ[i] := List.getElem?_eq_getElem hil
      have hiσ : i < σ.length := by rw [w.len]; exact hil
      have ho : σ[i]? = some σ[i] := List.getElem?_eq_getElem hiσ
      have q := h1 i _ _ hs ho
      generalize ρ[i] = s at q
      generalize σ[i] = ov at q
      generalize α i = as at q hi
      have key : (∃ xs, H a = some (.lst xs)) ∨ (∃ es, H a = some (dicO M.P M.w a es)) ∨ ∃ C dx fs, H a = some (.ins C dx fs) := by
        cases s with
        | un => cases (show as = [] from q); simp at hi
        | dat d => cases (show as = [] from q.1); simp at hi
        | own ds => obtain ⟨l, xs, rfl, _, h3, _⟩ := q; cases (List.mem_singleton.mp hi); exact .inl ⟨_, h3⟩
        | odic ks ds => obtain ⟨l, es, rfl, _, h3, _⟩ := q; cases (List.mem_singleton.mp hi); exact .inr (.inl ⟨_, h3⟩)
        | mat rows =>
          obtain ⟨l, rs, rfl, _, h3, h4, _⟩ := q
          rcases List.mem_cons.mp hi with e' | hi
          · cases e'; exact .inl ⟨_, h3⟩
          · have all : ∀ (rows : List (List D)) (rs : List Addr), RowsAt M G H rows rs → a ∈ rs → ∃ xs, H a = some (.lst xs) := by
              intro rows
              induction rows with
              | nil => intro rs h hm; cases (show rs = [] from h); simp at hm
              | cons r rows ih =>
                intro rs h hm
                obtain ⟨b, t, xs, rfl, e1, _, e3⟩ := h
                rcases List.mem_cons.mp hm with e' | hm
                · cases e'; exact ⟨xs, e1⟩
                · exact ih t e3 hm
            exact .inl (all rows rs h4 hi)
        | ins b fs => obtain ⟨dx, xs, rfl, _, h3, _⟩ := q; cases (List.mem_singleton.mp hi); exact .inr (.inr ⟨_, _, _, h3⟩)
      rcases key with ⟨xs, k⟩ | ⟨es, k⟩ | ⟨C, dx, fs, k⟩
      all_goals (rw [k] at e; cases e; exact ⟨fun ts z => (by cases z), fun ob ts z => (by cases z)⟩)
    · rw [if_neg ha] at e; exact .inl e
end
mutual
def noL : D → Bool
  | .non | .bl _ | .int _ | .str _ => true
  | .tup ds => noLs ds
  | _ => false
def noLs : List D → Bool
  | [] => true
  | d :: ds => noL d && noLs ds
end
section
variable {M : Mo} {G G' : Hp}
mutual
theorem rep_noL (k : ∀ a xs, SqT M.K G a xs → SqT M.K G' a xs) : ∀ {d : D} {v : V}, noL d = true → Rep M G d v → Rep M G' d v
  | .non, _, _, h => h
  | .bl _, _, _, h => h
  | .int _, _, _, h => h
  | .str _, _, _, h => h
  | .tup ds, _, n, h => by
    obtain ⟨a, xs, e, q, r⟩ := h
    exact ⟨a, xs, e, k a xs q, reps_noL k (by rw [noL] at n; exact n) r⟩
  | .lst ds, _, n, h => by simp [noL] at n
  | .scr ns, _, n, h => by simp [noL] at n
  | .dat g b l, _, n, h => by simp [noL] at n
  | .dic ks ds, _, n, h => by simp [noL] at n
theorem reps_noL (k : ∀ a xs, SqT M.K G a xs → SqT M.K G' a xs) : ∀ {ds : List D} {xs : List V}, noLs ds = true → Reps M G ds xs → Reps M G' ds xs
  | [], _, _, h => h
  | d :: ds, _, n, h => by
    obtain ⟨x, r, e, h1, h2⟩ := h
    rw [noLs, Bool.and_eq_true] at n
    exact ⟨x, r, e, rep_noL k n.1 h1, reps_noL k n.2 h2⟩
end
end
end BB
set_option Elab.async false
set_option linter.all false
set_option maxRecDepth 100000
set_option maxHeartbeats 4000000
namespace BB
open PySem PySem.Spec PyProof.Rows L2
structure Cy where
  M : Mo
  N : List Str
  sc : Scope
  fn : Str → Bool
  k : Nat
structure Cy.has (Γ : Cy) (X : Cx) : Prop where
  P : X.prog = Γ.M.P
  w : X.w = Γ.M.w
  K : X.K = Γ.M.K
  mg : X.mg = Γ.M.mg
  base : X.base = Γ.M.base
  N : X.N = Γ.N
  sc : X.env.scope = Γ.sc
  fn : X.fn = Γ.fn
  room : Room Γ.k X.A
  calm : X.calm = true
  xe : X.xe = fun _ _ => False
def visB (sc : Scope) (x : Str) : Bool := match sc.names.lookup x with
  | some .local => true
  | some .cell => true
  | some .free => true
  | _ => false
def locB (sc : Scope) (fn : Str → Bool) (x : Str) : Bool := match sc.names.lookup x with
  | some .local => true
  | some .cell => fn x
  | _ => false
def glB (sc : Scope) (x : Str) : Bool := match sc.names.lookup x with
  | some .globalImplicit => true
  | _ => false
theorem vis_of {sc : Scope} {x : Str} (h : visB sc x = true) : Vis sc x := by
  unfold visB at h
  split at h <;> first | exact .inl ‹_› | exact .inr (.inl ‹_›) | exact .inr (.inr ‹_›) | cases h
theorem loc_of {sc : Scope} {fn : Str → Bool} {x : Str} (h : locB sc fn x = true) : Loc sc x ∧ (fn x = true ∨ sc.names.lookup x = some .local) := by
  unfold locB at h
  split at h
  · exact ⟨.inl ‹_›, .inr ‹_›⟩
  · exact ⟨.inr ‹_›, .inl h⟩
  · cases h
theorem gl_of {sc : Scope} {x : Str} (h : glB sc x = true) : sc.names.lookup x = some .globalImplicit := by
  unfold glB at h
  split at h
  · assumption
  · cases h
def tF (Γ : Cy) (e : Expr) : TE := fun σ H Q => ∀ X, Γ.has X → ∀ pins s, Inv X pins σ H s → wpAny (model X.prog X.w) X.A (eval e X.env) (EP X pins σ Q) X.xe s
def tT (Γ : Cy) (e : Expr) : TT := fun σ H Q => ∀ X, Γ.has X → ∀ pins s, Inv X pins σ H s → wpAny (model X.prog X.w) X.A (isTrue e X.env (eval e X.env)) (TP X pins σ Q) X.xe s
def tW (Γ : Cy) (e : Expr) : TT := fun σ H Q => ∀ X, Γ.has X → ∀ (whole : Sem Value) pins s, Inv X pins σ H s → wpAny (model X.prog X.w) X.A (isTrue e X.env whole) (TP X pins σ Q) X.xe s
def tA (Γ : Cy) (es : List Expr) : TA := fun σ H Q => ∀ X, Γ.has X → ∀ (pos : Pos) pins s, Inv X pins σ H s → wpAny (model X.prog X.w) X.A (spliced (backTo pos (starEach es X.env))) (AP X pins σ Q) X.xe s
def tS1 (Γ : Cy) (st : Stmt) : TS := fun D σ H => ∀ X, Γ.has X → ∀ pins s, Inv X pins σ H s → wpAny (model X.prog X.w) X.A (exec st X.env) (SP X pins D) X.xe s
def tS (Γ : Cy) (st : List Stmt) : TS := fun D σ H => ∀ X, Γ.has X → ∀ pins s, Inv X pins σ H s → wpAny (model X.prog X.w) X.A (execs st X.env) (SP X pins D) X.xe s
section
variable {Γ : Cy} {X : Cx} {e : Expr} {es : List Expr} {st : Stmt} {ss : List Stmt}
theorem pe_tF (h : Γ.has X) : PE X e (tF Γ e) := ⟨fun pins s σ H Q I q => q X h pins s I⟩
theorem pt_tT (h : Γ.has X) : PT X e (tT Γ e) := ⟨fun pins s σ H Q I q => q X h pins s I⟩
theorem pw_tW (h : Γ.has X) : PW X e (tW Γ e) := ⟨fun wh pins s σ H Q I q => q X h wh pins s I⟩
theorem pa_tA (h : Γ.has X) : PA X es (tA Γ es) := ⟨fun pos pins s σ H Q I q => q X h pos pins s I⟩
theorem ps_tS1 (h : Γ.has X) : PS X st (tS1 Γ st) := ⟨fun pins s σ H D I q => q X h pins s I⟩
theorem pss_tS (h : Γ.has X) : PSs X ss (tS Γ ss) := ⟨fun pins s σ H D I q => q X h pins s I⟩
end
section
variable {Γ : Cy} {e : Expr} {es : List Expr} {st : Stmt} {ss : List Stmt} {σ : L2.St} {H : Hp}
theorem tF_of {t : Cx → TE} {Q : VK} (h : ∀ X, Γ.has X → PE X e (t X)) (q : ∀ X, Γ.has X → t X σ H Q) : tF Γ e σ H Q := fun X hX pins s I => (h X hX).run pins s σ H Q I (q X hX)
theorem tT_of {t : Cx → TT} {Q : Bool → Hp → Prop} (h : ∀ X, Γ.has X → PT X e (t X)) (q : ∀ X, Γ.has X → t X σ H Q) : tT Γ e σ H Q := fun X hX pins s I => (h X hX).run pins s σ H Q I (q X hX)
theorem tW_of {t : Cx → TT} {Q : Bool → Hp → Prop} (h : ∀ X, Γ.has X → PW X e (t X)) (q : ∀ X, Γ.has X → t X σ H Q) : tW Γ e σ H Q := fun X hX wh pins s I => (h X hX).run wh pins s σ H Q I (q X hX)
theorem tA_of {t : Cx → TA} {Q : List V → Hp → Prop} (h : ∀ X, Γ.has X → PA X es (t X)) (q : ∀ X, Γ.has X → t X σ H Q) : tA Γ es σ H Q := fun X hX pos pins s I => (h X hX).run pos pins s σ H Q I (q X hX)
theorem tS1_of {t : Cx → TS} {D : Ends} (h : ∀ X, Γ.has X → PS X st (t X)) (q : ∀ X, Γ.has X → t X D σ H) : tS1 Γ st D σ H := fun X hX pins s I => (h X hX).run pins s σ H D I (q X hX)
theorem tS_of {t : Cx → TS} {D : Ends} (h : ∀ X, Γ.has X → PSs X ss (t X)) (q : ∀ X, Γ.has X → t X D σ H) : tS Γ ss D σ H := fun X hX pins s I => (h X hX).run pins s σ H D I (q X hX)
end
def ED (Γ : Cy) (ρ : Ro) (e : Expr) (d : D) : Prop := ∀ G0 H0 σ G H, Wd Γ.M G0 H0 ρ σ G H → ∀ Q : VK, (∀ v H' G', Step H G H' G' → Rep Γ.M G' d v → Q v H') → tF Γ e σ H Q
def EN (Γ : Cy) (ρ : Ro) (e : Expr) (ds : List D) : Prop := ∀ G0 H0 σ G H, Wd Γ.M G0 H0 ρ σ G H → ∀ Q : VK,
  (∀ l xs H' G', Step H G H' G' → H l = none → G' l = none → H' l = some (.lst xs) → Reps Γ.M G' ds xs → Q (.ref l) H') → tF Γ e σ H Q
def TD (Γ : Cy) (ρ : Ro) (e : Expr) (b : Bool) : Prop := ∀ G0 H0 σ G H, Wd Γ.M G0 H0 ρ σ G H → ∀ Q : Bool → Hp → Prop, (∀ H' G', Step H G H' G' → Q b H') → tT Γ e σ H Q
def TV (Γ : Cy) (ρ : Ro) (e : Expr) (b : Bool) : Prop := ∀ G0 H0 σ G H, Wd Γ.M G0 H0 ρ σ G H → ∀ Q : Bool → Hp → Prop, (∀ H' G', Step H G H' G' → Q b H') → tW Γ e σ H Q
def AD (Γ : Cy) (ρ : Ro) (es : List Expr) (ds : List D) : Prop := ∀ G0 H0 σ G H, Wd Γ.M G0 H0 ρ σ G H → ∀ Q : List V → Hp → Prop, (∀ vs H' G', Step H G H' G' → Reps Γ.M G' ds vs → Q vs H') → tA Γ es σ H Q
section
variable {Γ : Cy} {ρ : Ro} {e a b c o i : Expr} {es : List Expr} {pos pos' : Pos} {d x y z : D} {ds : List D}
theorem ed_var {M : Mo} {N : List Str} {sc : Scope} {fn : Str → Bool} {k : Nat} {i : Nat} {x : Str} (hN : N[i]? = some x) (hv : visB sc x = true) (h : ρ[i]? = some (.dat d))
    (hd : (x == ("__debug__" : Str)) = false := by decide) (hcd : (x == ("__classdict__" : Str)) = false := by decide) : ED ⟨M, N, sc, fn, k⟩ ρ (.Name x pos) d := by
  intro G0 H0 σ G H W Q q
  obtain ⟨v, e1, r⟩ := W.get h
  refine tF_of (t := fun _ => tVar i) (fun X hX => pe_var (by rw [hX.N]; exact hN) (by rw [hX.sc]; exact vis_of hv) hd hcd) fun X hX => ⟨v, e1, q v H G (Step.refl W.sub) r⟩
theorem ed_int {n : Int} {j} : ED Γ ρ (.Constant (.int n) j pos) (.int n) := fun G0 H0 σ G H W Q q => tF_of (t := fun _ => tC (.int n)) (fun X _ => pe_int) fun _ _ => q _ H G (Step.refl W.sub) rfl
theorem ed_bl {n : Bool} {j} : ED Γ ρ (.Constant (.bool n) j pos) (.bl n) := fun G0 H0 σ G H W Q q => tF_of (t := fun _ => tC (.bl n)) (fun X _ => pe_bl) fun _ _ => q _ H G (Step.refl W.sub) rfl
theorem ed_non {j} : ED Γ ρ (.Constant .none j pos) .non := fun G0 H0 σ G H W Q q => tF_of (t := fun _ => tC .non) (fun X _ => pe_non) fun _ _ => q _ H G (Step.refl W.sub) rfl
theorem ed_str {n : Str} {j} : ED Γ ρ (.Constant (.str n) j pos) (.str n) := fun G0 H0 σ G H W Q q => tF_of (t := fun _ => tC (.str n)) (fun X _ => pe_str) fun _ _ => q _ H G (Step.refl W.sub) rfl
def Cst (M : Mo) (x : Str) (d : D) : Prop := ∃ u v, M.mg x = some u ∧ RelV v u ∧ ∀ G, Rep M G d v
theorem ed_cst {M : Mo} {N : List Str} {sc : Scope} {fn : Str → Bool} {k : Nat} {x : Str} (hc : Cst M x d) (hg : glB sc x = true) (hd : (x == ("__debug__" : Str)) = false := by decide) : ED ⟨M, N, sc, fn, k⟩ ρ (.Name x pos) d := by
  intro G0 H0 σ G H W Q q
  obtain ⟨u, v, h1, h2, h3⟩ := hc
  refine tF_of (t := fun _ => tC v) (fun X hX => pe_glob (by show X.env.scope.names.lookup x = _; rw [hX.sc]; exact gl_of hg) (by rw [hX.mg]; exact h1) h2 hd) fun X hX => q v H G (Step.refl W.sub) (h3 G)
theorem ed_bin {t : Cx → TE} {r : PySem.W.Frag → R2} (hp : ∀ X, Γ.has X → PE X e (tOp (r X.K) (tF Γ a) (tF Γ b))) (ha : ED Γ ρ a x) (hb : ED Γ ρ b y)
    (hr : ∀ G H u v (Q : VK), Same G H → Rep Γ.M G x u → Rep Γ.M G y v → (∀ z H' G', Step H G H' G' → Rep Γ.M G' d z → Q z H') → r Γ.M.K u v H Q) : ED Γ ρ e d := by
  intro G0 H0 σ G H W Q q
  refine tF_of (t := fun X => tOp (r X.K) (tF Γ a) (tF Γ b)) hp fun X hX => ?_
  refine ha G0 H0 σ G H W _ fun u H1 G1 s1 r1 => ?_
  have W1 := W.step s1
  refine hb G0 H0 σ G1 H1 W1 _ fun v H2 G2 s2 r2 => ?_
  rw [hX.K]
  refine hr G2 H2 u v Q (W1.step s2).sub (r1.mono (s2.same W1.sub)) r2 fun z H3 G3 s3 r3 => ?_
  exact q z H3 G3 ((s1.trans s2).trans s3) r3
theorem ed_op {op : Operator} {r : PySem.W.Frag → R2} (ho : ∀ X : Cx, X.calm = true → OpR X (binaryOp op) (r X.K)) (ha : ED Γ ρ a x) (hb : ED Γ ρ b y)
    (hr : ∀ G H u v (Q : VK), Same G H → Rep Γ.M G x u → Rep Γ.M G y v → (∀ z H' G', Step H G H' G' → Rep Γ.M G' d z → Q z H') → r Γ.M.K u v H Q) : ED Γ ρ (.BinOp a op b pos) d :=
  ed_bin (t := fun _ => tF Γ a) (r := r) (fun X hX => pe_op (ho X hX.calm) (pe_tF hX) (pe_tF hX)) ha hb hr
theorem ed_opI {op : Operator} {C : Int → Int → Prop} {g : Int → Int → Int} {m n : Int} (ho : ∀ X : Cx, OpR X (binaryOp op) (rI C fun i j => .int (g i j))) (ha : ED Γ ρ a (.int m)) (hb : ED Γ ρ b (.int n)) (hc : C m n) :
    ED Γ ρ (.BinOp a op b pos) (.int (g m n)) :=
  ed_op (r := fun _ => rI C fun i j => .int (g i j)) (fun X _ => ho X) ha hb fun G H u v Q s r1 r2 q => ⟨m, n, r1, r2, hc, q _ H G (Step.refl s) rfl⟩
theorem ed_opI0 {op : Operator} {g : Int → Int → Int} {m n : Int} (ho : ∀ X : Cx, OpR X (binaryOp op) (rI0 fun i j => .int (g i j))) (ha : ED Γ ρ a (.int m)) (hb : ED Γ ρ b (.int n)) :
    ED Γ ρ (.BinOp a op b pos) (.int (g m n)) :=
  ed_op (r := fun _ => rI0 fun i j => .int (g i j)) (fun X _ => ho X) ha hb fun G H u v Q s r1 r2 q => ⟨m, n, r1, r2, q _ H G (Step.refl s) rfl⟩
theorem ed_add {m n : Int} (ha : ED Γ ρ a (.int m)) (hb : ED Γ ρ b (.int n)) : ED Γ ρ (.BinOp a .Add b pos) (.int (m + n)) := ed_opI0 (fun X => op_add) ha hb
theorem ed_sub {m n : Int} (ha : ED Γ ρ a (.int m)) (hb : ED Γ ρ b (.int n)) : ED Γ ρ (.BinOp a .Sub b pos) (.int (m - n)) := ed_opI0 (fun X => op_sub) ha hb
theorem ed_mul {m n : Int} (ha : ED Γ ρ a (.int m)) (hb : ED Γ ρ b (.int n)) (hc : CMulW m n) : ED Γ ρ (.BinOp a .Mult b pos) (.int (m * n)) := ed_opI (fun X => op_mulW) ha hb hc
theorem ed_fdiv {m n : Int} (ha : ED Γ ρ a (.int m)) (hb : ED Γ ρ b (.int n)) (hc : CDivW m n) : ED Γ ρ (.BinOp a .FloorDiv b pos) (.int (m / n)) := ed_opI (fun X => op_fdivW) ha hb hc
theorem ed_fdivS {m n : Int} (ha : ED Γ ρ a (.int m)) (hb : ED Γ ρ b (.int n)) (hc : CDiv m n) : ED Γ ρ (.BinOp a .FloorDiv b pos) (.int (m / n)) := ed_opI (fun X => op_fdiv) ha hb hc
theorem ed_mod {m n : Int} (ha : ED Γ ρ a (.int m)) (hb : ED Γ ρ b (.int n)) (hc : 0 < n) : ED Γ ρ (.BinOp a .Mod b pos) (.int (m % n)) := ed_opI (fun X => op_mod) ha hb hc
theorem ed_pow {m n : Int} (ha : ED Γ ρ a (.int m)) (hb : ED Γ ρ b (.int n)) (hc : CPow m n) : ED Γ ρ (.BinOp a .Pow b pos) (.int (m ^ n.toNat)) := ed_opI (fun X => op_pow) ha hb hc
theorem ed_neg {m : Int} (ha : ED Γ ρ a (.int m)) : ED Γ ρ (.UnaryOp .USub a pos) (.int (-m)) := by
  intro G0 H0 σ G H W Q q
  refine tF_of (t := fun _ => tUn (rU fun i => .int (-i)) (tF Γ a)) (fun X hX => pe_un un_neg (pe_tF hX)) fun X hX => ?_
  exact ha G0 H0 σ G H W _ fun u H1 G1 s1 r1 => ⟨m, r1, q _ H1 G1 s1 rfl⟩
theorem ed_cmp {op : CmpOp} {r : PySem.W.Frag → R2} (ho : ∀ X : Cx, Γ.has X → OpR X (compareOp op) (r X.K)) (ha : ED Γ ρ a x) (hb : ED Γ ρ b y) (hm : behindInMarks op b = false)
    (hr : ∀ G H u v (Q : VK), Same G H → Rep Γ.M G x u → Rep Γ.M G y v → (∀ z H' G', Step H G H' G' → Rep Γ.M G' d z → Q z H') → r Γ.M.K u v H Q) : ED Γ ρ (.Compare a [op] [b] pos) d :=
  ed_bin (t := fun _ => tF Γ a) (r := r) (fun X hX => pe_cmpR (ho X hX) (pe_tF hX) (pe_tF hX) hm) ha hb hr
theorem td_cmp {op : CmpOp} {r : PySem.W.Frag → R2} {k : Bool} (ho : ∀ X : Cx, Γ.has X → OpR X (compareOp op) (r X.K)) (ha : ED Γ ρ a x) (hb : ED Γ ρ b y) (hm : behindInMarks op b = false)
    (hr : ∀ G H u v (Q : VK), Same G H → Rep Γ.M G x u → Rep Γ.M G y v → (∀ z H' G', Step H G H' G' → Rep Γ.M G' (.bl k) z → Q z H') → r Γ.M.K u v H Q) : TD Γ ρ (.Compare a [op] [b] pos) k := by
  intro G0 H0 σ G H W Q q
  refine tT_of (t := fun X => tTest (tOp (r X.K) (tF Γ a) (tF Γ b))) (fun X hX => pt_cmpR (ho X hX) (pe_tF hX) (pe_tF hX) hm) fun X hX => ?_
  refine ha G0 H0 σ G H W _ fun u H1 G1 s1 r1 => ?_
  have W1 := W.step s1
  refine hb G0 H0 σ G1 H1 W1 _ fun v H2 G2 s2 r2 => ?_
  rw [hX.K]
  refine hr G2 H2 u v _ (W1.step s2).sub (r1.mono (s2.same W1.sub)) r2 fun z H3 G3 s3 r3 => ?_
  exact ⟨k, r3, q H3 G3 ((s1.trans s2).trans s3)⟩
theorem ri0_of {g : Int → Int → Bool} {m n : Int} {M : Mo} {G H : Hp} {u v : V} {Q : VK} (s : Same G H) (r1 : Rep M G (.int m) u) (r2 : Rep M G (.int n) v)
    (q : ∀ z H' G', Step H G H' G' → Rep M G' (.bl (g m n)) z → Q z H') : rI0 (fun i j => V.bl (g i j)) u v H Q := ⟨m, n, r1, r2, q _ H G (Step.refl s) rfl⟩
theorem ed_lt {m n : Int} (ha : ED Γ ρ a (.int m)) (hb : ED Γ ρ b (.int n)) : ED Γ ρ (.Compare a [.Lt] [b] pos) (.bl (decide (m < n))) := ed_cmp (r := fun _ => rI0 fun i j => .bl (decide (i < j))) (fun _ _ => op_lt) ha hb (nomark _) fun _ _ _ _ _ s r1 r2 q => ri0_of (g := fun i j => decide (i < j)) s r1 r2 q
theorem ed_le {m n : Int} (ha : ED Γ ρ a (.int m)) (hb : ED Γ ρ b (.int n)) : ED Γ ρ (.Compare a [.LtE] [b] pos) (.bl (decide (m ≤ n))) := ed_cmp (r := fun _ => rI0 fun i j => .bl (decide (i ≤ j))) (fun _ _ => op_le) ha hb (nomark _) fun _ _ _ _ _ s r1 r2 q => ri0_of (g := fun i j => decide (i ≤ j)) s r1 r2 q
theorem td_lt {m n : Int} (ha : ED Γ ρ a (.int m)) (hb : ED Γ ρ b (.int n)) : TD Γ ρ (.Compare a [.Lt] [b] pos) (decide (m < n)) := td_cmp (r := fun _ => rI0 fun i j => .bl (decide (i < j))) (fun _ _ => op_lt) ha hb (nomark _) fun _ _ _ _ _ s r1 r2 q => ri0_of (g := fun i j => decide (i < j)) s r1 r2 q
theorem td_le {m n : Int} (ha : ED Γ ρ a (.int m)) (hb : ED Γ ρ b (.int n)) : TD Γ ρ (.Compare a [.LtE] [b] pos) (decide (m ≤ n)) := td_cmp (r := fun _ => rI0 fun i j => .bl (decide (i ≤ j))) (fun _ _ => op_le) ha hb (nomark _) fun _ _ _ _ _ s r1 r2 q => ri0_of (g := fun i j => decide (i ≤ j)) s r1 r2 q
theorem td_gt {m n : Int} (ha : ED Γ ρ a (.int m)) (hb : ED Γ ρ b (.int n)) : TD Γ ρ (.Compare a [.Gt] [b] pos) (decide (n < m)) := td_cmp (r := fun _ => rI0 fun i j => .bl (decide (j < i))) (fun _ _ => op_gt) ha hb (nomark _) fun _ _ _ _ _ s r1 r2 q => ri0_of (g := fun i j => decide (j < i)) s r1 r2 q
theorem ed_gt {m n : Int} (ha : ED Γ ρ a (.int m)) (hb : ED Γ ρ b (.int n)) : ED Γ ρ (.Compare a [.Gt] [b] pos) (.bl (decide (n < m))) := ed_cmp (r := fun _ => rI0 fun i j => .bl (decide (j < i))) (fun _ _ => op_gt) ha hb (nomark _) fun _ _ _ _ _ s r1 r2 q => ri0_of (g := fun i j => decide (j < i)) s r1 r2 q
theorem td_ge {m n : Int} (ha : ED Γ ρ a (.int m)) (hb : ED Γ ρ b (.int n)) : TD Γ ρ (.Compare a [.GtE] [b] pos) (decide (n ≤ m)) := td_cmp (r := fun _ => rI0 fun i j => .bl (decide (j ≤ i))) (fun _ _ => op_ge) ha hb (nomark _) fun _ _ _ _ _ s r1 r2 q => ri0_of (g := fun i j => decide (j ≤ i)) s r1 r2 q
inductive Sc : D → D → Bool → Prop
  | int (m n : Int) : Sc (.int m) (.int n) (decide (m = n))
  | bl (m n : Bool) : Sc (.bl m) (.bl n) (decide (m = n))
  | str (m n : Str) : Sc (.str m) (.str n) (decide (m = n))
theorem Sc.rd {k : Bool} {M : Mo} {G : Hp} {u v : V} (h : Sc x y k) (r1 : Rep M G x u) (r2 : Rep M G y v) : scal u v = true ∧ decide (u = v) = k := by
  cases h with
  | int m n =>
    cases (show u = V.int m from r1); cases (show v = V.int n from r2)
    exact ⟨rfl, by by_cases e : m = n <;> simp [e]⟩
  | bl m n =>
    cases (show u = V.bl m from r1); cases (show v = V.bl n from r2)
    exact ⟨rfl, by by_cases e : m = n <;> simp [e]⟩
  | str m n =>
    cases (show u = V.str m from r1); cases (show v = V.str n from r2)
    exact ⟨rfl, by by_cases e : m = n <;> simp [e]⟩
theorem ed_eq {k : Bool} (ha : ED Γ ρ a x) (hb : ED Γ ρ b y) (hk : Sc x y k) : ED Γ ρ (.Compare a [.Eq] [b] pos) (.bl k) :=
  ed_cmp (r := fun _ => rEq) (fun _ _ => op_eq) ha hb (nomark _) fun G H u v Q s r1 r2 q => by
    obtain ⟨h1, h2⟩ := hk.rd r1 r2
    exact ⟨h1, by rw [h2]; exact q _ H G (Step.refl s) rfl⟩
theorem td_eq {k : Bool} (ha : ED Γ ρ a x) (hb : ED Γ ρ b y) (hk : Sc x y k) : TD Γ ρ (.Compare a [.Eq] [b] pos) k :=
  td_cmp (r := fun _ => rEq) (fun _ _ => op_eq) ha hb (nomark _) fun G H u v Q s r1 r2 q => by
    obtain ⟨h1, h2⟩ := hk.rd r1 r2
    exact ⟨h1, by rw [h2]; exact q _ H G (Step.refl s) rfl⟩
theorem ed_ne {k : Bool} (ha : ED Γ ρ a x) (hb : ED Γ ρ b y) (hk : Sc x y k) : ED Γ ρ (.Compare a [.NotEq] [b] pos) (.bl (!k)) :=
  ed_cmp (r := fun _ => rNe) (fun _ _ => op_ne) ha hb (nomark _) fun G H u v Q s r1 r2 q => by
    obtain ⟨h1, h2⟩ := hk.rd r1 r2
    exact ⟨h1, by rw [h2]; exact q _ H G (Step.refl s) rfl⟩
theorem td_ne {k : Bool} (ha : ED Γ ρ a x) (hb : ED Γ ρ b y) (hk : Sc x y k) : TD Γ ρ (.Compare a [.NotEq] [b] pos) (!k) :=
  td_cmp (r := fun _ => rNe) (fun _ _ => op_ne) ha hb (nomark _) fun G H u v Q s r1 r2 q => by
    obtain ⟨h1, h2⟩ := hk.rd r1 r2
    exact ⟨h1, by rw [h2]; exact q _ H G (Step.refl s) rfl⟩
def D.isN : D → Bool
  | .non => true
  | _ => false
theorem isN_of {M : Mo} {G : Hp} {u : V} (r : Rep M G x u) : decide (u = V.non) = x.isN := by
  cases x with
  | non => cases (show u = _ from r); rfl
  | bl _ => cases (show u = _ from r); rfl
  | int _ => cases (show u = _ from r); rfl
  | str _ => cases (show u = _ from r); rfl
  | tup ds => obtain ⟨a, xs, rfl, _⟩ := r; rfl
  | lst ds => obtain ⟨a, xs, rfl, _⟩ := r; rfl
  | scr ds => obtain ⟨a, rfl, _⟩ := r; rfl
  | dat g b l => obtain ⟨a, dx, x, y, z, rfl, _⟩ := r; rfl
  | dic ks ds => obtain ⟨a, es, rfl, _⟩ := r; rfl
theorem ed_isN {j p'} (ha : ED Γ ρ a x) : ED Γ ρ (.Compare a [.Is] [.Constant .none j p'] pos) (.bl x.isN) :=
  ed_cmp (r := fun _ => fun x y H Q => y = .non ∧ Q (.bl (decide (x = .non))) H) (fun _ _ => op_isN) ha ed_non (nomark _) fun G H u v Q s r1 r2 q => ⟨r2, by rw [isN_of r1]; exact q _ H G (Step.refl s) rfl⟩
theorem td_isN {j p'} (ha : ED Γ ρ a x) : TD Γ ρ (.Compare a [.Is] [.Constant .none j p'] pos) x.isN :=
  td_cmp (r := fun _ => fun x y H Q => y = .non ∧ Q (.bl (decide (x = .non))) H) (fun _ _ => op_isN) ha ed_non (nomark _) fun G H u v Q s r1 r2 q => ⟨r2, by rw [isN_of r1]; exact q _ H G (Step.refl s) rfl⟩
theorem td_notN {j p'} (ha : ED Γ ρ a x) : TD Γ ρ (.Compare a [.IsNot] [.Constant .none j p'] pos) (!x.isN) :=
  td_cmp (r := fun _ => fun x y H Q => y = .non ∧ Q (.bl (!decide (x = .non))) H) (fun _ _ => op_notN) ha ed_non (nomark _) fun G H u v Q s r1 r2 q => ⟨r2, by rw [isN_of r1]; exact q _ H G (Step.refl s) rfl⟩
end
end BB
set_option Elab.async false
set_option linter.all false
set_option maxRecDepth 100000
set_option maxHeartbeats 4000000
namespace BB
open PySem PySem.Spec PyProof.Rows L2
section
variable {Γ : Cy} {ρ : Ro} {e a b c o i : Expr} {es rest : List Expr} {pos pos' : Pos} {d x y z : D} {ds : List D} {op : BoolOp}
def D.isT : D → Bool
  | .bl b => b
  | _ => false
def D.nb : D → Bool
  | .bl _ => true
  | .non => true
  | _ => false
def rIsT (neg : Bool) : R2 := fun x y H Q => (x = .non ∨ ∃ k, x = .bl k) ∧ y = .bl true ∧ Q (.bl (if neg then !decide (x = .bl true) else decide (x = .bl true))) H
theorem op_isT {X : Cx} : OpR X (compareOp .Is) (rIsT false) := by
  intro pins s σ H x y v u Q I rx ry h
  obtain ⟨hx, rfl, q⟩ := h
  cases (show u = Value.bool true from ry)
  rcases hx with rfl | ⟨k, rfl⟩
  · cases (show v = Value.none from rx)
    exact wpAny_is_other rfl (fun z => by cases z) ⟨.bl false, H, I, rfl, by simpa using q⟩
  · cases (show v = Value.bool k from rx)
    cases k with
    | true => exact wpAny_is_self rfl ⟨.bl true, H, I, rfl, by simpa using q⟩
    | false => exact wpAny_is_other rfl (fun z => by cases z) ⟨.bl false, H, I, rfl, by simpa using q⟩
theorem op_notT {X : Cx} : OpR X (compareOp .IsNot) (rIsT true) := by
  intro pins s σ H x y v u Q I rx ry h
  obtain ⟨hx, rfl, q⟩ := h
  cases (show u = Value.bool true from ry)
  rcases hx with rfl | ⟨k, rfl⟩
  · cases (show v = Value.none from rx)
    exact wpAny_isNot_other rfl (fun z => by cases z) ⟨.bl true, H, I, rfl, by simpa using q⟩
  · cases (show v = Value.bool k from rx)
    cases k with
    | true => exact wpAny_isNot_self rfl ⟨.bl false, H, I, rfl, by simpa using q⟩
    | false => exact wpAny_isNot_other rfl (fun z => by cases z) ⟨.bl true, H, I, rfl, by simpa using q⟩
theorem nb_of {M : Mo} {G : Hp} {u : V} (h : x.nb = true) (r : Rep M G x u) : (u = .non ∨ ∃ k, u = .bl k) ∧ decide (u = V.bl true) = x.isT := by
  cases x with
  | non => cases (show u = _ from r); exact ⟨.inl rfl, rfl⟩
  | bl k => cases (show u = _ from r); refine ⟨.inr ⟨k, rfl⟩, ?_⟩; cases k <;> rfl
  | _ => cases h
theorem ed_isT {j p'} (ha : ED Γ ρ a x) (h : x.nb = true) : ED Γ ρ (.Compare a [.Is] [.Constant (.bool true) j p'] pos) (.bl x.isT) :=
  ed_cmp (r := fun _ => rIsT false) (fun _ _ => op_isT) ha ed_bl (nomark _) fun G H u v Q s r1 r2 q => ⟨(nb_of h r1).1, r2, by rw [(nb_of h r1).2]; exact q _ H G (Step.refl s) rfl⟩
theorem td_isT {j p'} (ha : ED Γ ρ a x) (h : x.nb = true) : TD Γ ρ (.Compare a [.Is] [.Constant (.bool true) j p'] pos) x.isT :=
  td_cmp (r := fun _ => rIsT false) (fun _ _ => op_isT) ha ed_bl (nomark _) fun G H u v Q s r1 r2 q => ⟨(nb_of h r1).1, r2, by rw [(nb_of h r1).2]; exact q _ H G (Step.refl s) rfl⟩
theorem td_notT {j p'} (ha : ED Γ ρ a x) (h : x.nb = true) : TD Γ ρ (.Compare a [.IsNot] [.Constant (.bool true) j p'] pos) (!x.isT) :=
  td_cmp (r := fun _ => rIsT true) (fun _ _ => op_notT) ha ed_bl (nomark _) fun G H u v Q s r1 r2 q => ⟨(nb_of h r1).1, r2, by rw [(nb_of h r1).2]; exact q _ H G (Step.refl s) rfl⟩
theorem ed_one {d : D} (ha : ED Γ ρ a d) : ED Γ ρ (.BoolOp op [a] pos) d := fun G0 H0 σ G H W Q q =>
  tF_of (t := fun _ => tF Γ a) (fun X hX => pe_one (pe_tF hX)) fun X hX => ha G0 H0 σ G H W Q q
theorem ed_and {k l : Bool} (ha : ED Γ ρ a (.bl k)) (hb : k = true → ED Γ ρ (.BoolOp .And (b :: rest) pos) (.bl l)) : ED Γ ρ (.BoolOp .And (a :: b :: rest) pos) (.bl (k && l)) := by
  intro G0 H0 σ G H W Q q
  refine tF_of (t := fun _ => tAndV (tF Γ a) (tF Γ (.BoolOp .And (b :: rest) pos))) (fun X hX => pe_and (pe_tF hX) (pe_tF hX)) fun X hX => ?_
  refine ha G0 H0 σ G H W _ fun u H1 G1 s1 r1 => ⟨k, r1, ?_⟩
  cases k with
  | true => exact hb rfl G0 H0 σ G1 H1 (W.step s1) Q fun v H2 G2 s2 r2 => q v H2 G2 (s1.trans s2) r2
  | false => exact q _ H1 G1 s1 rfl
theorem ed_or {k l : Bool} (ha : ED Γ ρ a (.bl k)) (hb : k = false → ED Γ ρ (.BoolOp .Or (b :: rest) pos) (.bl l)) : ED Γ ρ (.BoolOp .Or (a :: b :: rest) pos) (.bl (k || l)) := by
  intro G0 H0 σ G H W Q q
  refine tF_of (t := fun _ => tOrV (tF Γ a) (tF Γ (.BoolOp .Or (b :: rest) pos))) (fun X hX => pe_or (pe_tF hX) (pe_tF hX)) fun X hX => ?_
  refine ha G0 H0 σ G H W _ fun u H1 G1 s1 r1 => ⟨k, r1, ?_⟩
  cases k with
  | false => exact hb rfl G0 H0 σ G1 H1 (W.step s1) Q fun v H2 G2 s2 r2 => q v H2 G2 (s1.trans s2) r2
  | true => exact q _ H1 G1 s1 rfl
theorem ed_not {k : Bool} (ha : ED Γ ρ a (.bl k)) : ED Γ ρ (.UnaryOp .Not a pos) (.bl (!k)) := by
  intro G0 H0 σ G H W Q q
  refine tF_of (t := fun _ => tNotV (tF Γ a)) (fun X hX => pe_not (pe_tF hX)) fun X hX => ?_
  exact ha G0 H0 σ G H W _ fun u H1 G1 s1 r1 => ⟨k, r1, q _ H1 G1 s1 rfl⟩
theorem td_val {k : Bool} (h : ED Γ ρ e (.bl k)) (he : ∀ env whole, isTrue e env whole = (do let v ← whole; standAt e.pos; holding [v] (truthy v))) : TD Γ ρ e k := by
  intro G0 H0 σ G H W Q q
  refine tT_of (t := fun _ => tB (tF Γ e)) (fun X hX => pt_val (pe_tF hX) (he X.env)) fun X hX => ?_
  exact h G0 H0 σ G H W _ fun u H1 G1 s1 r1 => ⟨k, r1, q H1 G1 s1⟩
theorem td_list (h : ED Γ ρ e (.lst ds)) (he : ∀ env whole, isTrue e env whole = (do let v ← whole; standAt e.pos; holding [v] (truthy v))) : TD Γ ρ e (!ds.isEmpty) := by
  intro G0 H0 σ G H W Q q
  refine tT_of (t := fun X => fun σ H Q => tF Γ e σ H fun x H' => ∃ k, TruV X.K x H' k ∧ Q k H') (fun X hX => pt_truth (pe_tF hX) (he X.env)) fun X hX => ?_
  refine h G0 H0 σ G H W _ fun u H1 G1 s1 r1 => ?_
  obtain ⟨l, xs, rfl, hl, r⟩ := r1
  refine ⟨_, .inl ⟨xs, SqL.of (s1.sub _ _ hl), rfl⟩, ?_⟩
  have e : xs.isEmpty = ds.isEmpty := by
    have := r.length
    cases xs <;> cases ds <;> simp_all
  rw [e]; exact q H1 G1 s1
theorem td_not {k : Bool} (ha : TD Γ ρ a k) : TD Γ ρ (.UnaryOp .Not a pos) (!k) := fun G0 H0 σ G H W Q q =>
  tT_of (t := fun _ => tNot (tT Γ a)) (fun X hX => pt_not (pt_tT hX)) fun X hX => ha G0 H0 σ G H W _ fun H1 G1 s1 => q H1 G1 s1
theorem TV.td {k : Bool} (h : TV Γ ρ e k) : TD Γ ρ e k := fun G0 H0 σ G H W Q q => tT_of (t := fun _ => tW Γ e) (fun X hX => (pw_tW hX).pt) fun X hX => h G0 H0 σ G H W Q q
theorem tv_and1 {k : Bool} (ha : TD Γ ρ a k) : TV Γ ρ (.BoolOp .And [a] pos) k := fun G0 H0 σ G H W Q q => tW_of (t := fun _ => tT Γ a) (fun X hX => pw_and1 (pt_tT hX)) fun X hX => ha G0 H0 σ G H W Q q
theorem tv_or1 {k : Bool} (ha : TD Γ ρ a k) : TV Γ ρ (.BoolOp .Or [a] pos) k := fun G0 H0 σ G H W Q q => tW_of (t := fun _ => tT Γ a) (fun X hX => pw_or1 (pt_tT hX)) fun X hX => ha G0 H0 σ G H W Q q
theorem tv_and {k l : Bool} (ha : TD Γ ρ a k) (hb : k = true → TV Γ ρ (.BoolOp .And (b :: rest) pos) l) : TV Γ ρ (.BoolOp .And (a :: b :: rest) pos) (k && l) := by
  intro G0 H0 σ G H W Q q
  refine tW_of (t := fun _ => tAnd (tT Γ a) (tW Γ (.BoolOp .And (b :: rest) pos))) (fun X hX => pw_and (pt_tT hX) (pw_tW hX)) fun X hX => ?_
  refine ha G0 H0 σ G H W _ fun H1 G1 s1 => ?_
  cases k with
  | true => exact hb rfl G0 H0 σ G1 H1 (W.step s1) Q fun H2 G2 s2 => q H2 G2 (s1.trans s2)
  | false => exact q H1 G1 s1
theorem tv_or {k l : Bool} (ha : TD Γ ρ a k) (hb : k = false → TV Γ ρ (.BoolOp .Or (b :: rest) pos) l) : TV Γ ρ (.BoolOp .Or (a :: b :: rest) pos) (k || l) := by
  intro G0 H0 σ G H W Q q
  refine tW_of (t := fun _ => tOr (tT Γ a) (tW Γ (.BoolOp .Or (b :: rest) pos))) (fun X hX => pw_or (pt_tT hX) (pw_tW hX)) fun X hX => ?_
  refine ha G0 H0 σ G H W _ fun H1 G1 s1 => ?_
  cases k with
  | false => exact hb rfl G0 H0 σ G1 H1 (W.step s1) Q fun H2 G2 s2 => q H2 G2 (s1.trans s2)
  | true => exact q H1 G1 s1
theorem td_chain {m n l : Int} (ha : ED Γ ρ a (.int m)) (hb : ED Γ ρ b (.int n)) (hc : ED Γ ρ c (.int l)) (hm : lastMarks [.LtE, .Lt] [b, c] = false := by with_unfolding_all rfl) :
    TD Γ ρ (.Compare a [.LtE, .Lt] [b, c] pos) (decide (m ≤ n) && decide (n < l)) := by
  intro G0 H0 σ G H W Q q
  refine tT_of (t := fun X => tTest (tChain (rI0 fun i j => .bl (decide (i ≤ j))) (rI0 fun i j => .bl (decide (i < j))) (tF Γ a) (tF Γ b) (tF Γ c))) (fun X hX => pt_chain op_le op_lt (pe_tF hX) (pe_tF hX) (pe_tF hX) hm) fun X hX => ?_
  refine ha G0 H0 σ G H W _ fun u H1 G1 s1 r1 => hb G0 H0 σ G1 H1 (W.step s1) _ fun v H2 G2 s2 r2 => ⟨m, n, r1, r2, decide (m ≤ n), rfl, ?_⟩
  by_cases h : m ≤ n
  · rw [decide_eq_true h, if_pos rfl]
    refine hc G0 H0 σ G2 H2 ((W.step s1).step s2) _ fun w H3 G3 s3 r3 => ⟨n, l, r2, r3, decide (n < l), rfl, ?_⟩
    rw [decide_eq_true h, Bool.true_and] at q
    exact q H3 G3 ((s1.trans s2).trans s3)
  · rw [decide_eq_false h, if_neg (by decide)]
    rw [decide_eq_false h, Bool.false_and] at q
    exact ⟨false, rfl, q H2 G2 (s1.trans s2)⟩
theorem lend_ed (h : ED Γ (ρ.map cln) e d) (hn : noL d = true) : ED Γ ρ e d := by
  intro G0 H0 σ G H W Q q
  obtain ⟨G1, s01, W1, hG1⟩ := W.lend
  refine h G0 H0 σ G1 H W1 Q fun v H' G' st r => ?_
  classical
  refine q v H' (fun a => if H a = none then G' a else G a) ⟨st.ex, fun a o e => ?_, fun a o e => ?_⟩ (rep_noL (fun a xs hq => ?_) hn r)
  · show (if H a = none then G' a else G a) = G a
    rw [if_neg (by rw [e]; simp)]
  · have e : (if H a = none then G' a else G a) = some o := e
    by_cases ha : H a = none
    · rw [if_pos ha] at e; exact st.sub a o e
    · rw [if_neg ha] at e; exact st.ex a o (W.sub a o e)
  · have back : ∀ u, G' a = some u → (∃ ts, u = .tup ts) ∨ (∃ ob ts, u = .frz ob ts) → (if H a = none then G' a else G a) = some u := fun u hu hk => by
      by_cases ha : H a = none
      · rw [if_pos ha]; exact hu
      · rw [if_neg ha]
        cases hh : H a with
        | none => exact absurd hh ha
        | some o' =>
          have e1 : G1 a = some u := (st.old a o' hh).symm.trans hu
          rcases hG1 a u e1 with z | ⟨z1, z2⟩
          · exact z
          · rcases hk with ⟨ts, rfl⟩ | ⟨ob, ts, rfl⟩
            · exact absurd rfl (z1 ts)
            · exact absurd rfl (z2 ob ts)
    rcases hq with (hq | ⟨ob, hq⟩) | hq
    · exact .inl (.inl (back _ hq (.inl ⟨_, rfl⟩)))
    · exact .inl (.inr ⟨ob, back _ hq (.inr ⟨_, _, rfl⟩)⟩)
    · exact .inr hq
theorem lend_td {k : Bool} (h : TD Γ (ρ.map cln) e k) : TD Γ ρ e k := by
  intro G0 H0 σ G H W Q q
  obtain ⟨G1, s01, W1, hG1⟩ := W.lend
  refine h G0 H0 σ G1 H W1 Q fun H' G' st => ?_
  refine q H' G ⟨st.ex, fun _ _ _ => rfl, fun a o e => st.ex a o (W.sub a o e)⟩
theorem ed_ixT {n : Int} (ha : ED Γ ρ a (.tup ds)) (hb : ED Γ ρ b (.int n)) (h : atI ds n = some d) (hs : PlainIx b := by exact fun _ _ => rfl) : ED Γ ρ (.Subscript a b pos) d := by
  refine ed_bin (t := fun _ => tF Γ a) (r := rIxT) (fun X hX => pe_ix ix_tup (pe_tF hX) (pe_tF hX) hs) ha hb fun G H u v Q s r1 r2 q => ?_
  obtain ⟨l, xs, rfl, hl, r⟩ := r1
  cases (show v = V.int n from r2)
  obtain ⟨j, e1, e2⟩ := Option.bind_eq_some_iff.mp h
  obtain ⟨x, e3, r3⟩ := r.get e2
  exact ⟨l, xs, n, x, rfl, rfl, same_t s hl, by unfold atI; rw [← r.length, e1]; exact e3, q x H G (Step.refl s) r3⟩
theorem ed_ixL {n : Int} (ha : ED Γ ρ a (.lst ds)) (hb : ED Γ ρ b (.int n)) (h : atI ds n = some d) (hs : PlainIx b := by exact fun _ _ => rfl) : ED Γ ρ (.Subscript a b pos) d := by
  refine ed_bin (t := fun _ => tF Γ a) (r := rIxL) (fun X hX => pe_ix ix_list (pe_tF hX) (pe_tF hX) hs) ha hb fun G H u v Q s r1 r2 q => ?_
  obtain ⟨l, xs, rfl, hl, r⟩ := r1
  cases (show v = V.int n from r2)
  obtain ⟨j, e1, e2⟩ := Option.bind_eq_some_iff.mp h
  obtain ⟨x, e3, r3⟩ := r.get e2
  exact ⟨l, xs, n, x, rfl, rfl, SqL.of (s _ _ hl), by unfold atI; rw [← r.length, e1]; exact e3, q x H G (Step.refl s) r3⟩
theorem atI_of {ds : List D} {n : Int} {j : Nat} (e : n = (j : Int)) (h : ds[j]? = some d) : atI ds n = some d := by rw [e]; exact atI_nat h
theorem ed_ixO {M : Mo} {N : List Str} {sc : Scope} {fn : Str → Bool} {k : Nat} {n : Int} {i : Nat} {x : Str} {p' : Pos} (hN : N[i]? = some x) (hv : visB sc x = true) (ho : ρ[i]? = some (.own ds)) (hb : ED ⟨M, N, sc, fn, k⟩ ρ b (.int n)) (h : atI ds n = some d)
    (hd : (x == ("__debug__" : Str)) = false := by decide) (hcd : (x == ("__classdict__" : Str)) = false := by decide) (hs : PlainIx b := by exact fun _ _ => rfl) : ED ⟨M, N, sc, fn, k⟩ ρ (.Subscript (.Name x p') b pos) d := by
  intro G0 H0 σ G H W Q q
  refine tF_of (t := fun X => tOp (rIxL X.K) (tVar i) (tF ⟨M, N, sc, fn, k⟩ b)) (fun X hX => pe_ix ix_list (pe_var (by rw [hX.N]; exact hN) (by rw [hX.sc]; exact vis_of hv) hd hcd) (pe_tF hX) hs) fun X hX => ?_
  obtain ⟨α, h1, h2, h3⟩ := W.sl
  have hi : i < σ.length := by rw [W.len]; exact (List.getElem?_eq_some_iff.mp ho).1
  have e0 : σ[i]? = some σ[i] := List.getElem?_eq_getElem hi
  obtain ⟨l, xs, ea, e1, e2, r⟩ := h1 i _ _ ho e0
  refine ⟨.ref l, by rw [e0, e1], hb G0 H0 σ G H W _ fun v H1 G1 s1 r1 => ?_⟩
  cases (show v = V.int n from r1)
  obtain ⟨j, e3, e4⟩ := Option.bind_eq_some_iff.mp h
  obtain ⟨x, e5, r5⟩ := r.get e4
  refine ⟨l, xs, n, x, rfl, rfl, SqL.of (s1.ex _ _ e2), by unfold atI; rw [← r.length, e3]; exact e5, q x H1 G1 s1 (r5.mono (s1.same W.sub))⟩
theorem ad_nil : AD Γ ρ [] [] := fun G0 H0 σ G H W Q q => tA_of (t := fun _ => tNil) (fun X hX => pa_nil) fun X hX => q [] H G (Step.refl W.sub) rfl
theorem ad_cons (ha : ED Γ ρ e d) (hr : AD Γ ρ es ds) (hs : ∀ env, starEach (e :: es) env = (false, eval e env) :: starEach es env := by intro _; rfl) : AD Γ ρ (e :: es) (d :: ds) := by
  intro G0 H0 σ G H W Q q
  refine tA_of (t := fun _ => tCons (tF Γ e) (tA Γ es)) (fun X hX => pa_cons (pe_tF hX) (pa_tA hX) (hs X.env)) fun X hX => ?_
  refine ha G0 H0 σ G H W _ fun v H1 G1 s1 r1 => hr G0 H0 σ G1 H1 (W.step s1) _ fun vs H2 G2 s2 r2 => ?_
  exact q _ H2 G2 (s1.trans s2) (.cons (r1.mono (s2.same (W.step s1).sub)) r2)
theorem ed_tup {x1} (h : AD Γ ρ es ds) (hl : ds.length ≤ 1000) : ED Γ ρ (.Tuple es x1 pos) (.tup ds) := by
  intro G0 H0 σ G H W Q q
  refine tF_of (t := fun _ => tTup (tA Γ es)) (fun X hX => pe_tup (pa_tA hX)) fun X hX => ?_
  refine h G0 H0 σ G H W _ fun vs H1 G1 s1 r1 => ⟨by rw [← r1.length]; exact Nat.le_of_lt (small1000 hl), fun p hp => ?_⟩
  have s2 := Step.new (o := .tup vs) (W.step s1).sub hp
  exact q _ _ _ (s1.trans s2) ⟨p, vs, rfl, .inl (.inl upd_same), r1.mono (s2.same (W.step s1).sub)⟩
theorem EN.ed (h : EN Γ ρ e ds) : ED Γ ρ e (.lst ds) := by
  intro G0 H0 σ G H W Q q
  refine h G0 H0 σ G H W Q fun l xs H' G' st hl hg hx r => ?_
  have gs : Same G' (upd G' l (.lst xs)) := fun a o e => by rw [upd_ne (ne_of_none e hg)]; exact e
  refine q _ H' (upd G' l (.lst xs)) ⟨st.ex, fun a o e => ?_, fun a o e => ?_⟩ ⟨l, xs, rfl, upd_same, r.mono gs⟩
  · rw [upd_ne (ne_of_none e hl)]; exact st.old a o e
  · by_cases ha : a = l
    · subst ha; rw [upd_same] at e; rw [← e]; exact hx
    · rw [upd_ne ha] at e; exact st.sub a o e
theorem en_lst (h : AD Γ ρ es ds) (hl : ds.length ≤ 1000) : EN Γ ρ (.List es pos) ds := by
  intro G0 H0 σ G H W Q q
  refine tF_of (t := fun _ => tLst (tA Γ es)) (fun X hX => pe_lst (pa_tA hX)) fun X hX => ?_
  refine h G0 H0 σ G H W _ fun vs H1 G1 s1 r1 => ⟨by rw [← r1.length]; exact Nat.le_of_lt (small1000 hl), fun p hp => ?_⟩
  have s2 := Step.new' (o := .lst vs) (W.step s1).sub hp
  exact q p vs _ _ (s1.trans s2) (s1.free hp) (free_of_same (W.step s1).sub hp) upd_same (r1.mono (s2.same (W.step s1).sub))
theorem en_cat {es1 : List D} (ha : ED Γ ρ a (.lst ds)) (hb : ED Γ ρ b (.lst es1)) (hl : ds.length + es1.length ≤ 1000) : EN Γ ρ (.BinOp a .Add b pos) (ds ++ es1) := by
  intro G0 H0 σ G H W Q q
  refine tF_of (t := fun _ => tOp rCat (tF Γ a) (tF Γ b)) (fun X hX => pe_op op_cat (pe_tF hX) (pe_tF hX)) fun X hX => ?_
  refine ha G0 H0 σ G H W _ fun u H1 G1 s1 r1 => hb G0 H0 σ G1 H1 (W.step s1) _ fun v H2 G2 s2 r2 => ?_
  have W2 := (W.step s1).step s2
  obtain ⟨l, xs, rfl, hx, r1'⟩ := r1.mono (s2.same (W.step s1).sub)
  obtain ⟨m, ys, rfl, hy, r2'⟩ := r2
  refine ⟨l, m, xs, ys, rfl, rfl, W2.sub _ _ hx, W2.sub _ _ hy, by rw [← r1'.length, ← r2'.length]; exact Nat.le_of_lt (small1000 hl), fun p hp => ?_⟩
  have s3 := Step.new' (o := .lst (xs ++ ys)) W2.sub hp
  have st := (s1.trans s2).trans s3
  exact q p _ _ _ st ((s1.trans s2).free hp) (free_of_same W2.sub hp) upd_same ((r1'.append r2').mono (s3.same W2.sub))
def OD (Γ : Cy) (ρ : Ro) : Option Expr → Option Int → Prop
  | none, n => n = none
  | some e, n => ∃ k, n = some k ∧ ED Γ ρ e (.int k)
def tO (Γ : Cy) : Option Expr → TO
  | none => tNoPart
  | some e => tPart (tF Γ e)
theorem po_tO {X : Cx} (h : Γ.has X) : ∀ oe : Option Expr, PO X oe (tO Γ oe)
  | none => po_none
  | some e => po_some (pe_tF h)
theorem od_run {G0 H0 : Hp} {σ : L2.St} {G H : Hp} {oe : Option Expr} {n : Option Int} (h : OD Γ ρ oe n) (W : Wd Γ.M G0 H0 ρ σ G H) {Q : Option Int → Hp → Prop} (q : ∀ H' G', Step H G H' G' → Q n H') : tO Γ oe σ H Q := by
  cases oe with
  | none => cases (show n = none from h); exact q H G (Step.refl W.sub)
  | some e =>
    obtain ⟨k, rfl, he⟩ := h
    exact he G0 H0 σ G H W _ fun v H1 G1 s1 r1 => ⟨k, r1, q H1 G1 s1⟩
def cutD (ds : List D) (lo hi : Option Int) : List D := (ds.drop (HT.sIx ds.length 0 lo)).take (HT.sIx ds.length ds.length hi - HT.sIx ds.length 0 lo)
theorem en_slice {lo hi : Option Expr} {m n : Option Int} {p2 : Pos} (ha : ED Γ ρ a (.lst ds)) (hl : OD Γ ρ lo m) (hh : OD Γ ρ hi n) : EN Γ ρ (.Subscript a (.Slice lo hi none p2) pos) (cutD ds m n) := by
  intro G0 H0 σ G H W Q q
  refine tF_of (t := fun X => tSl (rSlL X.K) (tF Γ a) (tO Γ lo) (tO Γ hi)) (fun X hX => pe_slice sl_list (pe_tF hX) (po_tO hX lo) (po_tO hX hi)) fun X hX => ?_
  refine ha G0 H0 σ G H W _ fun u H1 G1 s1 r1 => od_run hl (W.step s1) fun H2 G2 s2 => od_run hh ((W.step s1).step s2) fun H3 G3 s3 => ?_
  have W3 := ((W.step s1).step s2).step s3
  have st := (s1.trans s2).trans s3
  obtain ⟨l, xs, rfl, hx, r⟩ := r1.mono ((s2.trans s3).same (W.step s1).sub)
  refine ⟨l, xs, rfl, SqL.of (W3.sub _ _ hx), fun p hp => ?_⟩
  have s4 := Step.new' (o := .lst (cutV xs m n)) W3.sub hp
  refine q p _ _ _ (st.trans s4) (st.free hp) (free_of_same W3.sub hp) upd_same ?_
  unfold cutV cutD
  rw [r.length]
  exact ((r.drop _).take _).mono (s4.same W3.sub)
end
end BB
set_option Elab.async false
set_option linter.all false
set_option maxRecDepth 100000
set_option maxHeartbeats 4000000
namespace BB
open PySem PySem.Spec PyProof.Rows L2
theorem Cy.has.gl {M : Mo} {N : List Str} {sc : Scope} {fn : Str → Bool} {k : Nat} {X : Cx} {x : Str} (hX : (⟨M, N, sc, fn, k⟩ : Cy).has X) (hg : glB sc x = true) : Gl X x := by
  show X.env.scope.names.lookup x = _
  rw [hX.sc]; exact gl_of hg
def spD (M : Mo) (R : List D → D → Prop) : Sp := fun vs H Q _ => ∃ G ds d, Same G H ∧ Reps M G ds vs ∧ R ds d ∧ ∀ v H' G', Step H G H' G' → Rep M G' d v → Q v H'
def spN (M : Mo) (R : List D → List D → Prop) : Sp := fun vs H Q _ => ∃ G ds es, Same G H ∧ Reps M G ds vs ∧ R ds es ∧
  ∀ l xs H', Same H H' → H l = none → H' l = some (.lst xs) → (∀ G', Reps M G' es xs) → Q (.ref l) H'
structure Has (M : Mo) (k : Nat) (x : Str) (R : List D → D → Prop) : Prop where
  ex : ∃ f fd ps, FnOk M.P M.w M.K M.mg M.base CX0 k f fd ps (spD M R) ∧ M.mg x = some (.ref f) ∧ PySem.W.keepIn M.K (.ref f) = true ∧ Binds M.K fd ps []
structure HasN (M : Mo) (k : Nat) (x : Str) (R : List D → List D → Prop) : Prop where
  ex : ∃ f fd ps, FnOk M.P M.w M.K M.mg M.base CX0 k f fd ps (spN M R) ∧ M.mg x = some (.ref f) ∧ PySem.W.keepIn M.K (.ref f) = true ∧ Binds M.K fd ps []
section
variable {Γ : Cy} {ρ : Ro} {e a b c o i : Expr} {es rest : List Expr} {p pos pos' : Pos} {d x y z : D} {ds : List D}
variable {M : Mo} {N : List Str} {sc : Scope} {fn : Str → Bool} {k : Nat} {nm : Str}
theorem ed_call {j : Nat} {R : List D → D → Prop} (h : Has M j nm R) (hj : j ≤ k) (hg : glB sc nm = true) (ha : AD ⟨M, N, sc, fn, k⟩ ρ (e :: es) ds) (hR : R ds d) (hd : (nm == ("__debug__" : Str)) = false := by decide)
    (he : ∀ env, starEach (e :: es) env = (false, eval e env) :: starEach es env := by intro _; rfl) (hpl : ∀ env, (backTo pos (starEach es env)).any (·.1) = false := by intro _; rfl) :
    ED ⟨M, N, sc, fn, k⟩ ρ (.Call (.Name nm p) (e :: es) [] pos) d := by
  intro G0 H0 σ G H W Q q
  obtain ⟨f, fd, ps, F, h1, h2, h3⟩ := h.ex
  refine tF_of (t := fun _ => tCall (spD M R) [] E0 (tA ⟨M, N, sc, fn, k⟩ (e :: es))) (fun X hX => ?_) fun X hX => ?_
  · refine pe_call (k := k) (f := f) (fd := fd) (ps := ps) (CX := CX0) (ds := []) ?_ hX.room (hX.gl hg) (by rw [hX.mg]; exact h1) (by rw [hX.K]; exact h2) (by rw [hX.K]; exact h3) .nil pass0 (pa_tA hX) hd (he _) (hpl _)
    rw [hX.P, hX.w, hX.K, hX.mg, hX.base]
    exact F.mono hj
  · refine ha G0 H0 σ G H W _ fun vs H1 G1 s1 r1 => ?_
    rw [List.append_nil]
    exact ⟨G1, ds, d, (W.step s1).sub, r1, hR, fun v H2 G2 s2 r2 => q v H2 G2 (s1.trans s2) r2⟩
theorem en_call {j : Nat} {R : List D → List D → Prop} {es1 : List D} (h : HasN M j nm R) (hj : j ≤ k) (hg : glB sc nm = true) (ha : AD ⟨M, N, sc, fn, k⟩ (ρ.map cln) (e :: es) ds) (hR : R ds es1) (hd : (nm == ("__debug__" : Str)) = false := by decide)
    (he : ∀ env, starEach (e :: es) env = (false, eval e env) :: starEach es env := by intro _; rfl) (hpl : ∀ env, (backTo pos (starEach es env)).any (·.1) = false := by intro _; rfl) :
    EN ⟨M, N, sc, fn, k⟩ ρ (.Call (.Name nm p) (e :: es) [] pos) es1 := by
  intro G0 H0 σ G H W Q q
  obtain ⟨f, fd, ps, F, h1, h2, h3⟩ := h.ex
  refine tF_of (t := fun _ => tCall (spN M R) [] E0 (tA ⟨M, N, sc, fn, k⟩ (e :: es))) (fun X hX => ?_) fun X hX => ?_
  · refine pe_call (k := k) (f := f) (fd := fd) (ps := ps) (CX := CX0) (ds := []) ?_ hX.room (hX.gl hg) (by rw [hX.mg]; exact h1) (by rw [hX.K]; exact h2) (by rw [hX.K]; exact h3) .nil pass0 (pa_tA hX) hd (he _) (hpl _)
    rw [hX.P, hX.w, hX.K, hX.mg, hX.base]
    exact F.mono hj
  · obtain ⟨G1, s01, W1, hG1⟩ := W.lend
    refine ha G0 H0 σ G1 H W1 _ fun vs H1 G2 s1 r1 => ?_
    rw [List.append_nil]
    refine ⟨G2, ds, es1, (W1.step s1).sub, r1, hR, fun l xs H2 s2 hl hx r2 => ?_⟩
    have hl0 : H l = none := s1.free hl
    have st : Step H G H2 G := ⟨s1.ex.trans s2, fun _ _ _ => rfl, fun a u e => s2 a u (s1.ex a u (W.sub a u e))⟩
    exact q l xs H2 G st hl0 (free_of_same W.sub hl0) hx (r2 G)
theorem ed_blt {r : PySem.W.Frag → List V → Hp → VK → Prop} {id : String} (hc : ∀ X : Cx, X.calm = true → CallR X (.builtin id) (r X.K)) (hm : M.mg nm = none) (hv : bootBuiltins nm = some (.builtin id)) (hg : glB sc nm = true) (ha : AD ⟨M, N, sc, fn, k⟩ ρ (e :: es) ds)
    (hr : ∀ G H vs (Q : VK), Same G H → Reps M G ds vs → (∀ z H' G', Step H G H' G' → Rep M G' d z → Q z H') → r M.K vs H Q) (hn : nm ≠ "__name__" := by decide) (hd : (nm == ("__debug__" : Str)) = false := by decide)
    (he : ∀ env, starEach (e :: es) env = (false, eval e env) :: starEach es env := by intro _; rfl) (hpl : ∀ env, (backTo pos (starEach es env)).any (·.1) = false := by intro _; rfl) :
    ED ⟨M, N, sc, fn, k⟩ ρ (.Call (.Name nm p) (e :: es) [] pos) d := by
  intro G0 H0 σ G H W Q q
  refine tF_of (t := fun X => tCB (r X.K) (tA ⟨M, N, sc, fn, k⟩ (e :: es))) (fun X hX => pe_callB (hc X hX.calm) (hX.gl hg) (by rw [hX.mg]; exact hm) hv (pa_tA hX) hn hd (he _) (hpl _)) fun X hX => ?_
  refine ha G0 H0 σ G H W _ fun vs H1 G1 s1 r1 => ?_
  rw [hX.K]
  exact hr G1 H1 vs Q (W.step s1).sub r1 fun z H2 G2 s2 r2 => q z H2 G2 (s1.trans s2) r2
theorem reps1 {G : Hp} {vs : List V} (h : Reps M G [x] vs) : ∃ v, vs = [v] ∧ Rep M G x v := by
  obtain ⟨v, t, rfl, h1, h2⟩ := h
  cases (show t = [] from h2)
  exact ⟨v, rfl, h1⟩
theorem reps2 {G : Hp} {vs : List V} (h : Reps M G [x, y] vs) : ∃ v w, vs = [v, w] ∧ Rep M G x v ∧ Rep M G y w := by
  obtain ⟨v, t, rfl, h1, h2⟩ := h
  obtain ⟨w, rfl, h3⟩ := reps1 h2
  exact ⟨v, w, rfl, h1, h3⟩
theorem ed_lenL (hm : M.mg "len" = none) (hg : glB sc "len" = true) (ha : ED ⟨M, N, sc, fn, k⟩ ρ e (.lst ds)) (he : ∀ env, starEach [e] env = (false, eval e env) :: starEach [] env := by intro _; rfl) :
    ED ⟨M, N, sc, fn, k⟩ ρ (.Call (.Name "len" p) [e] [] pos) (.int (ds.length : Int)) :=
  ed_blt (r := fun K => fun xs H Q => ∃ p ys, xs = [.ref p] ∧ (SqL K H p ys ∨ SqT K H p ys) ∧ Q (.int ys.length) H) (fun X _ => call_len_seq) hm PySem.boot_len hg (ad_cons ha ad_nil he)
    (fun G H vs Q s r q => by
      obtain ⟨v, rfl, l, xs, rfl, hl, r1⟩ := reps1 r
      exact ⟨l, xs, rfl, .inl (SqL.of (s _ _ hl)), by rw [← r1.length]; exact q _ H G (Step.refl s) rfl⟩) (he := he)
theorem ed_lenT (hm : M.mg "len" = none) (hg : glB sc "len" = true) (ha : ED ⟨M, N, sc, fn, k⟩ ρ e (.tup ds)) (he : ∀ env, starEach [e] env = (false, eval e env) :: starEach [] env := by intro _; rfl) :
    ED ⟨M, N, sc, fn, k⟩ ρ (.Call (.Name "len" p) [e] [] pos) (.int (ds.length : Int)) :=
  ed_blt (r := fun K => fun xs H Q => ∃ p ys, xs = [.ref p] ∧ (SqL K H p ys ∨ SqT K H p ys) ∧ Q (.int ys.length) H) (fun X _ => call_len_seq) hm PySem.boot_len hg (ad_cons ha ad_nil he)
    (fun G H vs Q s r q => by
      obtain ⟨v, rfl, l, xs, rfl, hl, r1⟩ := reps1 r
      exact ⟨l, xs, rfl, .inr (same_t s hl), by rw [← r1.length]; exact q _ H G (Step.refl s) rfl⟩) (he := he)
theorem ed_abs {m : Int} (hm : M.mg "abs" = none) (hg : glB sc "abs" = true) (ha : ED ⟨M, N, sc, fn, k⟩ ρ e (.int m)) (he : ∀ env, starEach [e] env = (false, eval e env) :: starEach [] env := by intro _; rfl) :
    ED ⟨M, N, sc, fn, k⟩ ρ (.Call (.Name "abs" p) [e] [] pos) (.int (if m < 0 then -m else m)) :=
  ed_blt (r := fun _ => fun xs H Q => ∃ i, xs = [.int i] ∧ Q (.int (if i < 0 then -i else i)) H) (fun X _ => call_abs) hm (by decide +kernel) hg (ad_cons ha ad_nil he)
    (fun G H vs Q s r q => by
      obtain ⟨v, rfl, r1⟩ := reps1 r
      exact ⟨m, by rw [show v = V.int m from r1], q _ H G (Step.refl s) rfl⟩) (he := he)
theorem ed_toInt {m : Int} (hm : M.mg "int" = none) (hg : glB sc "int" = true) (ha : ED ⟨M, N, sc, fn, k⟩ ρ e (.int m)) (he : ∀ env, starEach [e] env = (false, eval e env) :: starEach [] env := by intro _; rfl) :
    ED ⟨M, N, sc, fn, k⟩ ρ (.Call (.Name "int" p) [e] [] pos) (.int m) := by
  intro G0 H0 σ G H W Q q
  refine tF_of (t := fun X => tCB (fun xs H Q => (∃ i, xs = [.int i] ∧ Q (.int i) H) ∨ ∃ k, xs = [.bl k] ∧ Q (.int (if k then 1 else 0)) H) (tA ⟨M, N, sc, fn, k⟩ [e])) (fun X hX => pe_callTy call_int1 (hX.gl hg) (by rw [hX.mg]; exact hm) (by decide +kernel) (pa_tA hX) (he := he _)) fun X hX => ?_
  refine ad_cons ha ad_nil he G0 H0 σ G H W _ fun vs H1 G1 s1 r1 => ?_
  obtain ⟨v, rfl, r2⟩ := reps1 r1
  exact .inl ⟨m, by rw [show v = V.int m from r2], q _ H1 G1 s1 rfl⟩
theorem en_list (hm : M.mg "list" = none) (hg : glB sc "list" = true) (ha : ED ⟨M, N, sc, fn, k⟩ ρ e (.lst ds)) (he : ∀ env, starEach [e] env = (false, eval e env) :: starEach [] env := by intro _; rfl) :
    EN ⟨M, N, sc, fn, k⟩ ρ (.Call (.Name "list" p) [e] [] pos) ds := by
  intro G0 H0 σ G H W Q q
  refine tF_of (t := fun X => tCB (fun xs H Q => ∃ p ys, xs = [.ref p] ∧ (SqL X.K H p ys ∨ SqT X.K H p ys) ∧ ∀ l, H l = none → Q (.ref l) (upd H l (.lst ys))) (tA ⟨M, N, sc, fn, k⟩ [e])) (fun X hX => pe_callTy call_list_of (hX.gl hg) (by rw [hX.mg]; exact hm) (by decide +kernel) (pa_tA hX) (he := he _)) fun X hX => ?_
  refine ad_cons ha ad_nil he G0 H0 σ G H W _ fun vs H1 G1 s1 r1 => ?_
  obtain ⟨v, rfl, l, xs, rfl, hl, r⟩ := reps1 r1
  have W1 := W.step s1
  refine ⟨l, xs, rfl, .inl (SqL.of (W1.sub _ _ hl)), fun p hp => ?_⟩
  have s2 := Step.new' (o := .lst xs) W1.sub hp
  exact q p xs _ _ (s1.trans s2) (s1.free hp) (free_of_same W1.sub hp) upd_same (r.mono (s2.same W1.sub))
theorem ed_gcd {m n : Int} (hm : M.mg "gcd" = some (.builtin "math.gcd")) (hg : glB sc "gcd" = true) (ha : ED ⟨M, N, sc, fn, k⟩ ρ a (.int m)) (hb : ED ⟨M, N, sc, fn, k⟩ ρ b (.int n))
    (he : ∀ env, starEach [a, b] env = (false, eval a env) :: starEach [b] env := by intro _; rfl) (he2 : ∀ env, starEach [b] env = (false, eval b env) :: starEach [] env := by intro _; rfl) (hpl : ∀ env, (backTo pos (starEach [b] env)).any (·.1) = false := by intro _; rfl) :
    ED ⟨M, N, sc, fn, k⟩ ρ (.Call (.Name "gcd" p) [a, b] [] pos) (.int ((Nat.gcd m.natAbs n.natAbs : Nat) : Int)) := by
  intro G0 H0 σ G H W Q q
  refine tF_of (t := fun X => tCB rGcd (tA ⟨M, N, sc, fn, k⟩ [a, b])) (fun X hX => pe_callBfun cr_gcd (hX.gl hg) (by rw [hX.mg]; exact hm) (pa_tA hX) (he := he _) (hpl := hpl _)) fun X hX => ?_
  refine ad_cons ha (ad_cons hb ad_nil he2) he G0 H0 σ G H W _ fun vs H1 G1 s1 r1 => ?_
  obtain ⟨v, w, rfl, r2, r3⟩ := reps2 r1
  exact ⟨m, n, by rw [show v = V.int m from r2, show w = V.int n from r3], q _ H1 G1 s1 rfl⟩
def D.ty : D → String
  | .non => "NoneType"
  | .bl _ => "bool"
  | .int _ => "int"
  | .str _ => "str"
  | .tup _ => "tuple"
  | .lst _ => "list"
  | .scr _ => "list"
  | .dat _ _ _ => "?"
  | .dic _ _ => "?"
def D.isd : D → Bool
  | .scr _ | .dat _ _ _ | .dic _ _ => false
  | _ => true
theorem ty_of {G H : Hp} {u : V} (s : Same G H) (r : Rep M G x u) (hx : x.isd = true) : TyX M.K H u (.type x.ty) := by
  cases x with
  | non => cases (show u = _ from r); exact .base .non
  | bl k => cases (show u = _ from r); exact .base (.bl k)
  | int k => cases (show u = _ from r); exact .base (.int k)
  | str k => cases (show u = _ from r); exact .base (.str k)
  | tup ds =>
    obtain ⟨a, xs, rfl, h, _⟩ := r
    rcases h with (h | ⟨o, h⟩) | ⟨o, its, n, h1, h2, _⟩
    · exact .base (.tup (s _ _ h))
    · exact .fTuple (s _ _ h)
    · exact .kTuple h1 h2
  | lst ds => obtain ⟨a, xs, rfl, h, _⟩ := r; exact .base (.lst (s _ _ h))
  | scr ds => cases hx
  | dat g b l => cases hx
  | dic ks ds => cases hx
theorem ed_isi {T : String} {q : Pos} {TN : Str} {bb : Bool} (hm : M.mg "isinstance" = none) (hg : glB sc "isinstance" = true) (hm2 : M.mg TN = none) (hg2 : glB sc TN = true) (hT : bootBuiltins TN = some (.type T)) (ha : ED ⟨M, N, sc, fn, k⟩ ρ e x) (hx : x.isd = true)
    (hk : kitB x.ty T = some bb) (hn : TN ≠ "__name__" := by decide) (hd : (TN == ("__debug__" : Str)) = false := by decide)
    (he : ∀ env, starEach [e, .Name TN q] env = (false, eval e env) :: starEach [.Name TN q] env := by intro _; rfl) :
    ED ⟨M, N, sc, fn, k⟩ ρ (.Call (.Name "isinstance" p) [e, .Name TN q] [] pos) (.bl bb) := by
  intro G0 H0 σ G H W Q qq
  refine tF_of (t := fun X => tCB (rIsi X.K) (tCons (tF ⟨M, N, sc, fn, k⟩ e) (tCons (tC (.ty T)) tNil))) (fun X hX => pe_callB call_isi (hX.gl hg) (by rw [hX.mg]; exact hm) (by decide +kernel)
    (pa_cons (pe_tF hX) (pa_cons (pe_bltn (hX.gl hg2) (by rw [hX.mg]; exact hm2) hT rfl hn hd) pa_nil) (he _)) (he := he _)) fun X hX => ?_
  refine ha G0 H0 σ G H W _ fun v H1 G1 s1 r1 => ?_
  refine ⟨v, .ty T, .type x.ty, .type T, bb, rfl, .ty T, ?_, kit_ty hk, qq _ H1 G1 s1 rfl⟩
  rw [hX.K]
  exact ty_of (W.step s1).sub r1 hx
structure DatC (M : Mo) : Prop where
  cl : Cls M.K M.C
  g : NoAttr M.K M.C "goods"
  b : NoAttr M.K M.C "buys"
  l : NoAttr M.K M.C "links"
theorem ed_fld {g b l : D} {f : Str} (T : DatC M) (ha : ED ⟨M, N, sc, fn, k⟩ ρ e (.dat g b l)) (hf : (f = "goods" ∧ d = g) ∨ (f = "buys" ∧ d = b) ∨ (f = "links" ∧ d = l)) (hb : ∀ env, attributeBase e f env (eval e env) = eval e env := by intro _; rfl) :
    ED ⟨M, N, sc, fn, k⟩ ρ (.Attribute e f pos) d := by
  intro G0 H0 σ G H W Q q
  refine tF_of (t := fun X => tFld X.K (tF ⟨M, N, sc, fn, k⟩ e) f) (fun X hX => pe_fld (pe_tF hX) (hb _)) fun X hX => ?_
  refine ha G0 H0 σ G H W _ fun v H1 G1 s1 r1 => ?_
  obtain ⟨a, dx, x, y, z, rfl, h, rg, rb, rl⟩ := r1
  have h' := (W.step s1).sub _ _ h
  rw [hX.K]
  rcases hf with ⟨rfl, rfl⟩ | ⟨rfl, rfl⟩ | ⟨rfl, rfl⟩
  · exact ⟨a, M.C, dx, _, x, rfl, h', T.cl, T.g, by rfl, q x H1 G1 s1 rg⟩
  · exact ⟨a, M.C, dx, _, y, rfl, h', T.cl, T.b, by rfl, q y H1 G1 s1 rb⟩
  · exact ⟨a, M.C, dx, _, z, rfl, h', T.cl, T.l, by rfl, q z H1 G1 s1 rl⟩
end
def Serves (M : Mo) (G1 : Hp) (J : It) (ds : List D) : Prop := ∀ H', Same G1 H' → (∀ (i : Nat) d, ds[i]? = some d → J.go i H' ∧ ∀ x H'', J.yld i H' x H'' → H'' = H' ∧ Rep M G1 d x) ∧ J.stop ds.length H'
def tI (Γ : Cy) (tg iter : Expr) : TI := fun σ H R => ∀ X, Γ.has X → ∀ pins s, Inv X pins σ H s →
  wpAny (model X.prog X.w) X.A (eval iter X.env) (fun v s1 => wpAny (model X.prog X.w) X.A (pyIter v) (PIE X pins σ tg R) X.xe s1) X.xe s
def tG (Γ : Cy) (tg : Expr) : TG := fun v σ H Q => ∀ X, Γ.has X → ∀ pins s u, Inv X pins σ H s → RelV v u →
  wpAny (model X.prog X.w) X.A (assign tg X.env u) (fun _ s' => ∃ σ' H', Inv X pins σ' H' s' ∧ Q σ' H') X.xe s
def ID (Γ : Cy) (ρ : Ro) (tg iter : Expr) (ds : List D) : Prop := ∀ G0 H0 σ G H, Wd Γ.M G0 H0 ρ σ G H → ∀ R : It → Hp → Prop, (∀ J H1 G1, Step H G H1 G1 → Serves Γ.M G1 J ds → R J H1) → tI Γ tg iter σ H R
def GD (Γ : Cy) (tg : Expr) (is : List Nat) (d : D) (ρ ρ' : Ro) : Prop := ∀ G0 H0 σ G H v, Wd Γ.M G0 H0 ρ σ G H → Rep Γ.M G d v → ∀ Q : L2.St → Hp → Prop,
  (∀ σ', Wd Γ.M G0 H0 ρ' σ' G H → (∀ vs : List Nat, (∀ i ∈ is, i ∈ vs) → wipe σ' vs = wipe σ vs) → Q σ' H) → tG Γ tg v σ H Q
theorem wipe_at (σ : L2.St) : ∀ (vs : List Nat) (j : Nat), (wipe σ vs)[j]? = if j ∈ vs then (σ[j]?).map (fun _ => none) else σ[j]?
  | [], j => by simp [wipe]
  | v :: vs, j => by
    unfold wipe
    by_cases h : v = j
    · subst h
      rw [if_pos (by simp)]
      by_cases hl : v < σ.length
      · rw [List.getElem?_set_self (by rw [wipe_length]; exact hl), List.getElem?_eq_getElem hl]; rfl
      · rw [List.getElem?_eq_none (by rw [List.length_set, wipe_length]; omega), List.getElem?_eq_none (by omega)]; rfl
    · rw [List.getElem?_set_ne h, wipe_at σ vs j]
      have : (j ∈ v :: vs) ↔ (j ∈ vs) := by simp [Ne.symm h]
      simp only [this]
theorem wipe_set {σ : L2.St} {i : Nat} {x : Option V} {vs : List Nat} (h : i ∈ vs) : wipe (σ.set i x) vs = wipe σ vs := by
  refine List.ext_getElem? fun j => ?_
  rw [wipe_at, wipe_at]
  by_cases hj : j ∈ vs
  · rw [if_pos hj, if_pos hj]
    by_cases e : i = j
    · subst e
      by_cases hl : i < σ.length
      · rw [List.getElem?_set_self hl, List.getElem?_eq_getElem hl]; rfl
      · rw [List.getElem?_eq_none (by rw [List.length_set]; omega), List.getElem?_eq_none (by omega)]
    · rw [List.getElem?_set_ne e]
  · rw [if_neg hj, if_neg hj, List.getElem?_set_ne (fun e => hj (by rw [← e]; exact h))]
def wipeR (ρ : Ro) : List Nat → Ro
  | [] => ρ
  | v :: vs => (wipeR ρ vs).set v .un
theorem Wd.wipe {M : Mo} {G0 H0 : Hp} {ρ : Ro} {σ : L2.St} {G H : Hp} (w : Wd M G0 H0 ρ σ G H) : ∀ vs : List Nat, Wd M G0 H0 (wipeR ρ vs) (L2.wipe σ vs) G H
  | [] => w
  | v :: vs => (Wd.wipe w vs).forget v none
section
variable {Γ : Cy} {ρ ρ' : Ro} {e a b c o i tg iter : Expr} {es rest : List Expr} {p pos pos' : Pos} {d x y z : D} {ds : List D}
variable {M : Mo} {N : List Str} {sc : Scope} {fn : Str → Bool} {k : Nat} {nm : Str}
theorem pi_tI {X : Cx} (h : Γ.has X) : PI X tg iter (tI Γ tg iter) := ⟨fun pins s σ H R I q => q X h pins s I⟩
theorem pg_tG {X : Cx} (h : Γ.has X) : PG X tg (tG Γ tg) := ⟨fun pins s σ H v u Q I r q => q X h pins s u I r⟩
theorem tI_of {t : Cx → TI} {σ : L2.St} {H : Hp} {R : It → Hp → Prop} (h : ∀ X, Γ.has X → PI X tg iter (t X)) (q : ∀ X, Γ.has X → t X σ H R) : tI Γ tg iter σ H R := fun X hX pins s I => (h X hX).run pins s σ H R I (q X hX)
theorem tG_of {t : Cx → TG} {v : V} {σ : L2.St} {H : Hp} {Q : L2.St → Hp → Prop} (h : ∀ X, Γ.has X → PG X tg (t X)) (q : ∀ X, Γ.has X → t X v σ H Q) : tG Γ tg v σ H Q := fun X hX pins s u I r => (h X hX).run pins s σ H v u Q I r (q X hX)
theorem id_list (ha : ED Γ ρ e (.lst ds)) : ID Γ ρ tg e ds := by
  intro G0 H0 σ G H W R q
  refine tI_of (t := fun X => iList X.K (tF Γ e)) (fun X hX => pi_list (pe_tF hX)) fun X hX => ?_
  refine ha G0 H0 σ G H W _ fun v H1 G1 s1 r1 => ?_
  obtain ⟨l, xs, rfl, hl, r⟩ := r1
  refine ⟨l, rfl, ⟨xs, SqL.of ((W.step s1).sub _ _ hl)⟩, q _ H1 G1 s1 fun H' s => ⟨fun i d hd => ?_, xs, SqL.of (s _ _ hl), Nat.le_of_eq r.length.symm⟩⟩
  obtain ⟨x, hx, rx⟩ := r.get hd
  refine ⟨⟨xs, x, SqL.of (s _ _ hl), hx⟩, fun y H'' hy => ?_⟩
  obtain ⟨e1, e2⟩ := hy
  refine ⟨e1, ?_⟩
  have := e2 xs (SqL.of (s _ _ hl))
  rw [hx] at this; cases this
  exact rx
theorem id_scr {ns : List Int} (ha : ED Γ ρ e (.scr ns)) : ID Γ ρ tg e (ns.map D.int) := by
  intro G0 H0 σ G H W R q
  refine tI_of (t := fun X => iList X.K (tF Γ e)) (fun X hX => pi_list (pe_tF hX)) fun X hX => ?_
  refine ha G0 H0 σ G H W _ fun v H1 G1 s1 r1 => ?_
  obtain ⟨l, rfl, hl⟩ := r1
  rw [hX.K]
  refine ⟨l, rfl, ⟨_, (W.step s1).sub.seq hl⟩, q _ H1 G1 s1 fun H' s => ⟨fun i d hd => ?_, _, s.seq hl, by rw [List.length_map, List.length_map]; exact Nat.le_refl _⟩⟩
  rw [List.getElem?_map] at hd
  cases hn : ns[i]? with
  | none => rw [hn] at hd; cases hd
  | some n =>
    rw [hn] at hd; cases hd
    have hx : (ns.map V.int)[i]? = some (V.int n) := by rw [List.getElem?_map, hn]; rfl
    refine ⟨⟨_, _, s.seq hl, hx⟩, fun y H'' hy => ?_⟩
    obtain ⟨e1, e2⟩ := hy
    refine ⟨e1, ?_⟩
    have := e2 _ (s.seq hl)
    rw [hx] at this; cases this
    exact rfl
def rngD (n : Nat) : List D := (List.range n).map fun (i : Nat) => .int (i : Int)
theorem rngD_at {n i : Nat} (h : i < n) : (rngD n)[i]? = some (.int (i : Int)) := by unfold rngD; rw [List.getElem?_map, List.getElem?_range h]; rfl
theorem rngD_get {n i : Nat} {d : D} (h : (rngD n)[i]? = some d) : i < n ∧ d = .int (i : Int) := by
  unfold rngD at h
  rw [List.getElem?_map] at h
  by_cases hi : i < n
  · rw [List.getElem?_range hi] at h; cases h; exact ⟨hi, rfl⟩
  · rw [List.getElem?_eq_none (by rw [List.length_range]; omega)] at h; cases h
theorem rngD_len (n : Nat) : (rngD n).length = n := by unfold rngD; rw [List.length_map, List.length_range]
theorem id_range {m : Int} (hm : M.mg "range" = none) (hg : glB sc "range" = true) (ha : ED ⟨M, N, sc, fn, k⟩ ρ e (.int m)) (hlo : -1000 ≤ m) (hhi : m ≤ 100000) (hs : ∀ env, starEach [e] env = [(false, eval e env)] := by intro _; rfl) :
    ID ⟨M, N, sc, fn, k⟩ ρ tg (.Call (.Name "range" p) [e] [] pos) (rngD m.toNat) := by
  intro G0 H0 σ G H W R q
  refine tI_of (t := fun X => iRng1 (tA ⟨M, N, sc, fn, k⟩ [e])) (fun X hX => pi_range1 (hX.gl hg) (by rw [hX.mg]; exact hm) (pa_tA hX) (hs _)) fun X hX => ?_
  refine ad_cons ha ad_nil (fun env => hs env) G0 H0 σ G H W _ fun vs H1 G1 s1 r1 => ?_
  obtain ⟨v, rfl, r2⟩ := reps1 r1
  refine ⟨m, by rw [show v = V.int m from r2], by omega, by omega, q _ H1 G1 s1 fun H' s => ⟨fun i d hd => ?_, Nat.le_of_eq (rngD_len _).symm⟩⟩
  obtain ⟨h1, rfl⟩ := rngD_get hd
  refine ⟨h1, fun x H'' hy => ?_⟩
  obtain ⟨e1, rfl⟩ := hy
  refine ⟨e1, ?_⟩
  show V.int (0 + (i : Int)) = V.int (i : Int)
  rw [Int.zero_add]
theorem gd_name {i : Nat} {x : Str} (hN : N[i]? = some x) (hnd : N.Nodup) (hl : locB sc fn x = true) : GD ⟨M, N, sc, fn, k⟩ (.Name x pos) [i] d ρ (ρ.set i (.dat d)) := by
  intro G0 H0 σ G H v W r Q q
  refine tG_of (t := fun _ => gName i) (fun X hX => pg_name (by rw [hX.N]; exact hnd) (by rw [hX.N]; exact hN) (by rw [hX.sc]; exact (loc_of hl).1) (by rw [hX.fn, hX.sc]; exact (loc_of hl).2)) fun X hX => ?_
  exact q _ (W.putDat r) fun vs h => wipe_set (h i (by simp))
def TGd (Γ : Cy) (ts : List Expr) (is : List Nat) (ds : List D) (ρ ρ' : Ro) : Prop := ∀ G0 H0 σ G H vs, Wd Γ.M G0 H0 ρ σ G H → Reps Γ.M G ds vs → ∀ Q : L2.St → Hp → Prop,
  (∀ σ', Wd Γ.M G0 H0 ρ' σ' G H → (∀ ws : List Nat, (∀ i ∈ is, i ∈ ws) → wipe σ' ws = wipe σ ws) → Q σ' H) → ∀ X, Γ.has X → ∀ pins s us, Inv X pins σ H s → Vals vs us →
  wpAny (model X.prog X.w) X.A (assignInOrder ((assignEach ts X.env).map (·.2)) us) (fun _ s' => ∃ σ' H', Inv X pins σ' H' s' ∧ Q σ' H') X.xe s
theorem tgd_nil : TGd Γ [] [] [] ρ ρ := by
  intro G0 H0 σ G H vs W r Q q X hX pins s us I rv
  cases (show vs = [] from r)
  cases rv
  exact assignInOrder_nil ⟨σ, H, I, q σ W fun _ _ => rfl⟩
theorem tgd_cons {ρ1 : Ro} {ts : List Expr} {is js : List Nat} (h : GD Γ tg is d ρ ρ1) (t : TGd Γ ts js ds ρ1 ρ') (hs : ∀ env, (assignEach (tg :: ts) env).map (·.2) = assign tg env :: (assignEach ts env).map (·.2) := by intro _; rfl) :
    TGd Γ (tg :: ts) (is ++ js) (d :: ds) ρ ρ' := by
  intro G0 H0 σ G H vs W r Q q X hX pins s us I rv
  obtain ⟨v, vr, rfl, r1, r2⟩ := r
  cases rv with
  | cons rv1 rv2 =>
    rw [hs]
    refine assignInOrder_cons (thn (h G0 H0 σ G H v W r1 (fun σ1 H1 => H1 = H ∧ Wd Γ.M G0 H0 ρ1 σ1 G H ∧ ∀ ws : List Nat, (∀ i ∈ is, i ∈ ws) → wipe σ1 ws = wipe σ ws) (fun σ1 W1 hw => ⟨rfl, W1, hw⟩) X hX pins s _ I rv1) fun _ s1 ⟨σ1, H1, I1, e1, W1, hw1⟩ => ?_)
    subst e1
    exact t G0 H0 σ1 G H1 vr W1 r2 Q (fun σ2 W2 hw2 => q σ2 W2 fun ws hws => (hw2 ws fun i hi => hws i (List.mem_append_right _ hi)).trans (hw1 ws fun i hi => hws i (List.mem_append_left _ hi))) X hX pins s1 _ I1 rv2
theorem gd_tup {ts : List Expr} {is : List Nat} {x1 : Nat} (h : TGd Γ ts is ds ρ ρ') (hn : ∀ env, (assignEach ts env).length = ds.length := by intro _; rfl) (hst : ∀ env, (assignEach ts env).findIdx? (·.1) = none := by intro _; rfl) :
    GD Γ (.Tuple ts x1 pos) is (.tup ds) ρ ρ' := by
  intro G0 H0 σ G H v W r Q q X hX pins s u I rv
  obtain ⟨a, xs, rfl, hq, r1⟩ := r
  have hp : PG X (.Tuple ts x1 pos) (gTup X.K ds.length fun vs σ H Q => ∀ pins s us, Inv X pins σ H s → Vals vs us → wpAny (model X.prog X.w) X.A (assignInOrder ((assignEach ts X.env).map (·.2)) us) (fun _ s' => ∃ σ' H', Inv X pins σ' H' s' ∧ Q σ' H') X.xe s) :=
    pg_tup hX.calm ⟨fun pins s σ H vs us Q I rv h => h pins s us I rv⟩ (hn _) (hst _)
  refine hp.run pins s σ H (.ref a) u Q I rv ⟨a, xs, rfl, by rw [hX.K]; exact same_t W.sub hq, r1.length.symm, fun pins s us I rv => ?_⟩
  exact h G0 H0 σ G H xs W r1 Q q X hX pins s us I rv
end
end BB
set_option Elab.async false
set_option linter.all false
set_option maxRecDepth 100000
set_option maxHeartbeats 4000000
namespace BB
open PySem PySem.Spec PyProof.Rows L2
structure WA (M : Mo) (G0 H0 : Hp) (ρ : Ro) (σ : L2.St) (α : Nat → List Addr) (G H : Hp) : Prop where
  len : σ.length = ρ.length
  ex : Same H0 H
  old : ∀ a o, H0 a = some o → G a = G0 a
  sub : Same G H
  s1 : ∀ (i : Nat) s o, ρ[i]? = some s → σ[i]? = some o → SlOk M G H (α i) s o
  s2 : ∀ i, ∀ a ∈ α i, G a = none ∧ H0 a = none ∧ H a ≠ none
  s3 : ∀ i j, i ≠ j → ∀ a ∈ α i, a ∉ α j
section
variable {M : Mo} {G0 H0 G H G' H' : Hp} {ρ : Ro} {σ : L2.St} {α : Nat → List Addr}
theorem Wd.putNew (w : Wd M G0 H0 ρ σ G H) {i : Nat} {l : Addr} {xs : List V} {ds : List D} (st : Step H G H' G') (hl : H l = none) (hg : G' l = none) (hx : H' l = some (.lst xs)) (r : Reps M G' ds xs) : Wd M G0 H0 (ρ.set i (.own ds)) (σ.set i (some (.ref l))) G' H' :=
  w.put (s := .own ds) (as := [l]) st ⟨l, xs, rfl, rfl, hx, r⟩ fun a ha => by cases List.mem_singleton.mp ha; exact ⟨hg, hl, by rw [hx]; simp⟩
theorem Wd.rebase (w : Wd M G0 H0 ρ σ G H) : ∃ U, Wd M G U ρ σ G H ∧ (∀ ρ3 σ3 G3 H3, Wd M G U ρ3 σ3 G3 H3 → Wd M G0 H0 ρ3 σ3 G3 H3 ∧ Same G G3) ∧ (∀ H3 G3, Step U G H3 G3 → Step H0 G0 H3 G3) ∧ Same H0 U := by
  have h0 : ∀ a o, H0 a = some o → (match G a with | some u => some u | none => H0 a) = some o := fun a o e => by
    cases q : G a with
    | none => exact e
    | some u =>
      have e1 := w.sub a u q
      rw [w.ex a o e] at e1
      exact e1.symm
  have hG : ∀ a o, G a = some o → (match G a with | some u => some u | none => H0 a) = some o := fun a o e => by rw [e]
  refine ⟨fun a => match G a with | some u => some u | none => H0 a, ⟨w.len, fun a o e => ?_, fun _ _ _ => rfl, w.sub, ?_⟩, fun ρ3 σ3 G3 H3 w3 => ⟨⟨w3.len, fun a o e => w3.ex a o (h0 a o e), fun a o e => (w3.old a o (h0 a o e)).trans (w.old a o e), w3.sub, ?_⟩, fun a o e => (w3.old a o (hG a o e)).trans e⟩, fun H3 G3 st => ⟨fun a o e => st.ex a o (h0 a o e), fun a o e => (st.old a o (h0 a o e)).trans (w.old a o e), st.sub⟩, h0⟩
  · have e : (match G a with | some u => some u | none => H0 a) = some o := e
    cases q : G a with
    | none => rw [q] at e; exact w.ex a o e
    | some u => rw [q] at e; cases e; exact w.sub a _ q
  · obtain ⟨α, h1, h2, h3⟩ := w.sl
    refine ⟨α, h1, fun i a ha => ?_, h3⟩
    obtain ⟨q1, q2, q3⟩ := h2 i a ha
    exact ⟨q1, by show (match G a with | some u => some u | none => H0 a) = none; rw [q1]; exact q2, q3⟩
  · obtain ⟨α, h1, h2, h3⟩ := w3.sl
    refine ⟨α, h1, fun i a ha => ?_, h3⟩
    obtain ⟨q1, q2, q3⟩ := h2 i a ha
    refine ⟨q1, ?_, q3⟩
    cases e : H0 a with
    | none => rfl
    | some o => rw [h0 a o e] at q2; cases q2
theorem Wd.wa (w : Wd M G0 H0 ρ σ G H) : ∃ α, WA M G0 H0 ρ σ α G H := let ⟨α, h1, h2, h3⟩ := w.sl; ⟨α, w.len, w.ex, w.old, w.sub, h1, h2, h3⟩
theorem WA.wd (w : WA M G0 H0 ρ σ α G H) : Wd M G0 H0 ρ σ G H := ⟨w.len, w.ex, w.old, w.sub, α, w.s1, w.s2, w.s3⟩
theorem WA.step (w : WA M G0 H0 ρ σ α G H) (st : Step H G H' G') : WA M G0 H0 ρ σ α G' H' := by
  refine ⟨w.len, w.ex.trans st.ex, fun a o e => (st.old a o (w.ex a o e)).trans (w.old a o e), st.sub, fun i s o e1 e2 => ?_, fun i a ha => ?_, w.s3⟩
  · exact (w.s1 i s o e1 e2).mono (st.same w.sub) fun a _ o e => st.ex a o e
  · obtain ⟨q1, q2, q3⟩ := w.s2 i a ha
    cases e : H a with
    | none => exact absurd e q3
    | some o => exact ⟨(st.old a o e).trans q1, q2, by rw [st.ex a o e]; simp⟩
theorem WA.other (w : WA M G0 H0 ρ σ α G H) {l : Addr} {o : HO} (h1 : G l = none) (h2 : H0 l = none) (h3 : ∀ i, l ∉ α i) : WA M G0 H0 ρ σ α G (upd H l o) := by
  have ne : ∀ b u, H0 b = some u ∨ G b = some u → b ≠ l := fun b u h z => by
    subst z
    rcases h with h | h
    · rw [h2] at h; cases h
    · rw [h1] at h; cases h
  refine ⟨w.len, fun b u e => by rw [upd_ne (ne b u (.inl e))]; exact w.ex b u e, w.old, fun b u e => by rw [upd_ne (ne b u (.inr e))]; exact w.sub b u e, fun i s o e1 e2 => ?_, fun i a ha => ?_, w.s3⟩
  · exact (w.s1 i s o e1 e2).mono (Same.refl G) fun a ha o e => by rw [upd_ne (fun z => h3 i (by rw [← z]; exact ha))]; exact e
  · obtain ⟨q1, q2, q3⟩ := w.s2 i a ha
    exact ⟨q1, q2, by rw [upd_ne (fun z => h3 i (by rw [← z]; exact ha))]; exact q3⟩
theorem WA.wipe (w : WA M G0 H0 ρ σ α G H) (vs : List Nat) : ∃ β, WA M G0 H0 (wipeR ρ vs) (L2.wipe σ vs) β G H := (w.wd.wipe vs).wa
end
abbrev Cy.blk (Γ : Cy) (cs : Scope) : Cy := ⟨Γ.M, Γ.N, relS cs Γ.sc, fun x => cs.names.lookup x == some .cell, Γ.k⟩
abbrev blkOf (M : Mo) (N : List Str) (sc cs : Scope) (k : Nat) : Cy := ⟨M, N, relS cs sc, fun x => cs.names.lookup x == some .cell, k⟩
theorem has_blk {Γ : Cy} {X : Cx} (h : Γ.has X) (cs : Scope) (s : Shared) (H : Hp) (C : Addr) (cl : List (Str × Addr)) (fp : List Addr) : (Γ.blk cs).has (X.blk s H cs (compEnvC cs cl C X.env) fp) := by
  refine ⟨h.P, h.w, h.K, h.mg, h.base, h.N, ?_, rfl, h.room, h.calm, rfl⟩
  show relS cs X.env.scope = relS cs Γ.sc
  rw [h.sc]
def tTs (Γ : Cy) (ifs : List Expr) : TT := fun σ H Q => ∀ X, Γ.has X → ∀ pins s, Inv X pins σ H s →
  wpAny (model X.prog X.w) X.A (forIn ifs true fun c r => if r = true then do let ok ← isTrue c X.env (eval c X.env); pure (ForInStep.yield ok) else pure (ForInStep.yield r)) (TP X pins σ Q) X.xe s
theorem pts_tTs {Γ : Cy} {X : Cx} {ifs : List Expr} (h : Γ.has X) : PTs X ifs (tTs Γ ifs) := ⟨fun pins s σ H Q I q => q X h pins s I⟩
def TsD (Γ : Cy) (ρ : Ro) (ifs : List Expr) (b : Bool) : Prop := ∀ G0 H0 σ G H, Wd Γ.M G0 H0 ρ σ G H → ∀ Q : Bool → Hp → Prop, (∀ H' G', Step H G H' G' → Q b H') → tTs Γ ifs σ H Q
theorem tsd_nil {Γ : Cy} {ρ : Ro} : TsD Γ ρ [] true := fun G0 H0 σ G H W Q q X hX pins s I => pts_nil.run pins s σ H Q I (q H G (Step.refl W.sub))
theorem tsd_one {Γ : Cy} {ρ : Ro} {c : Expr} {b : Bool} (h : TD Γ ρ c b) : TsD Γ ρ [c] b := fun G0 H0 σ G H W Q q X hX pins s I => (pts_one (pt_tT hX)).run pins s σ H Q I (h G0 H0 σ G H W Q q)
def given (n : Nat) (f : Nat → Bool) (v : Nat → D) : List D := ((List.range n).filter f).map v
theorem given_yes {n : Nat} {f : Nat → Bool} {v : Nat → D} (h : f n = true) : given (n + 1) f v = given n f v ++ [v n] := by
  unfold given
  rw [List.range_succ, List.filter_append, List.map_append, List.filter_cons, if_pos h]
  rfl
theorem given_no {n : Nat} {f : Nat → Bool} {v : Nat → D} (h : f n = false) : given (n + 1) f v = given n f v := by
  unfold given
  rw [List.range_succ, List.filter_append, List.map_append, List.filter_cons, if_neg (by rw [h]; decide)]
  show _ ++ [] = _
  rw [List.append_nil]
theorem given_len (n : Nat) (f : Nat → Bool) (v : Nat → D) : (given n f v).length ≤ n := by
  unfold given
  rw [List.length_map]
  have h := List.length_filter_le f (List.range n)
  rw [List.length_range] at h
  exact h
theorem given_all {n : Nat} {v : Nat → D} : given n (fun _ => true) v = (List.range n).map v := by
  unfold given
  rw [List.filter_eq_self.mpr (fun _ _ => rfl)]
section
variable {Γ : Cy} {ρ ρ' : Ro} {e a b c o i tg iter elt : Expr} {es rest ifs : List Expr} {p pos pos' : Pos} {d x y z : D} {ds : List D} {cs : Scope} {is vs : List Nat} {f : Nat → Bool} {v : Nat → D} {own : List (Str × Nat)}
theorem lc_read (hI : ID Γ ρ tg iter ds) (hB : ∀ (i : Nat) d, ds[i]? = some d → ∃ ρ', GD (Γ.blk cs) tg is d (wipeR ρ vs) ρ' ∧ TsD (Γ.blk cs) ρ' ifs (f i) ∧ (f i = true → ED (Γ.blk cs) ρ' elt (v i))) (his : ∀ i ∈ is, i ∈ vs) (hn : ds.length ≤ 1000)
    {G0 H0 : Hp} {σ : L2.St} {G H : Hp} (W : Wd Γ.M G0 H0 ρ σ G H) {Q : VK} (q : ∀ l xs H' G', Step H G H' G' → H l = none → G' l = none → H' l = some (.lst xs) → Reps Γ.M G' (given ds.length f v) xs → Q (.ref l) H') {X : Cx} (hX : Γ.has X) :
    tLc (tI Γ tg iter) (tG (Γ.blk cs) tg) (tTs (Γ.blk cs) ifs) (tF (Γ.blk cs) elt) vs σ H Q := by
  refine hI G0 H0 σ G H W _ fun J H1 G1 s1 hJ => ?_
  have W1 := W.step s1
  obtain ⟨α, A1⟩ := (W1.wipe vs).wa
  intro Dl hD
  have hDα : ∀ i, Dl ∉ α i := fun i hi => (A1.s2 i Dl hi).2.2 hD
  have hD0 : H0 Dl = none := by
    cases e : H0 Dl with
    | none => rfl
    | some u => rw [W1.ex Dl u e] at hD; cases hD
  have hG1 : G1 Dl = none := free_of_same W1.sub hD
  refine ⟨fun i m H' => m = ds.length - i ∧ i ≤ ds.length ∧ ∃ G' acc, WA Γ.M G0 H0 (wipeR ρ vs) (wipe σ vs) α G' H' ∧ (∀ b u, H1 b = some u → H' b = some u) ∧ (∀ b u, H1 b = some u → G' b = G1 b) ∧ H' Dl = some (.lst acc) ∧ G' Dl = none ∧ Reps Γ.M G' (given i f v) acc,
    ⟨ds.length, by simp, Nat.zero_le _, G1, [], A1.other hG1 hD0 hDα, fun b u e => by rw [upd_ne (ne_of_none e hD)]; exact e, fun _ _ _ => rfl, upd_same, hG1, rfl⟩, ?_⟩
  rintro i m H' ⟨rfl, hi, G', acc, A', k1, k2, hacc, hGD, r⟩
  have sG : Same G1 G' := fun b u e => (k2 b u (W1.sub b u e)).trans e
  obtain ⟨serve, stop⟩ := hJ H' fun b u e => k1 b u (W1.sub b u e)
  by_cases hlt : i < ds.length
  · obtain ⟨go, yld⟩ := serve i ds[i] (List.getElem?_eq_getElem hlt)
    refine .inr ⟨go, fun H'' => ∃ G'' acc, WA Γ.M G0 H0 (wipeR ρ vs) (wipe σ vs) α G'' H'' ∧ (∀ b u, H1 b = some u → H'' b = some u) ∧ (∀ b u, H1 b = some u → G'' b = G1 b) ∧ H'' Dl = some (.lst acc) ∧ G'' Dl = none ∧ Reps Γ.M G'' (given (i + 1) f v) acc,
      fun H'' h => ⟨ds.length - (i + 1), by omega, rfl, hlt, h⟩, fun x H'' hy => ?_⟩
    obtain ⟨e1, rx⟩ := yld x H'' hy
    subst e1
    obtain ⟨ρ', g, t, el⟩ := hB i ds[i] (List.getElem?_eq_getElem hlt)
    refine g G0 H0 (wipe σ vs) G' H'' x A'.wd (rx.mono sG) _ fun σ2 W2 hw2 => ⟨?_, ?_⟩
    · rw [hw2 vs his]
      refine List.ext_getElem? fun j => ?_
      rw [wipe_at, wipe_at]
      by_cases hj : j ∈ vs
      · rw [if_pos hj, if_pos hj, Option.map_map]; rfl
      · rw [if_neg hj, if_neg hj]
    · refine t G0 H0 σ2 G' H'' W2 _ fun H3 G3 s3 => ?_
      have A3 := A'.step s3
      have gD3 : G3 Dl = none := (s3.old Dl _ hacc).trans hGD
      cases hf : f i with
      | false =>
        show ∃ G'' acc, _
        exact ⟨G3, acc, A3, fun b u e => s3.ex b u (k1 b u e), fun b u e => (s3.old b u (k1 b u e)).trans (k2 b u e), s3.ex _ _ hacc, gD3, by rw [given_no hf]; exact r.mono (s3.same A'.sub)⟩
      | true =>
        rw [if_pos rfl]
        refine el hf G0 H0 σ2 G3 H3 (W2.step s3) _ fun y H4 G4 s4 ry => ?_
        have A4 := A3.step s4
        have hD4 : H4 Dl = some (.lst acc) := s4.ex _ _ (s3.ex _ _ hacc)
        have gD4 : G4 Dl = none := (s4.old Dl _ (s3.ex _ _ hacc)).trans gD3
        have hlen := r.length
        have hgl := given_len i f v
        refine ⟨acc, hD4, small1000 (by omega), G4, acc ++ [y], A4.other gD4 hD0 hDα, fun b u e => ?_, fun b u e => ?_, upd_same, gD4, ?_⟩
        · rw [upd_ne (ne_of_none e hD)]; exact s4.ex b u (s3.ex b u (k1 b u e))
        · exact (s4.old b u (s3.ex b u (k1 b u e))).trans ((s3.old b u (k1 b u e)).trans (k2 b u e))
        · rw [given_yes hf]
          exact (r.mono ((s3.trans s4).same A'.sub)).snoc ry
  · have e : i = ds.length := by omega
    subst e
    refine .inl ⟨stop, q Dl acc H' G' ⟨fun b u e => k1 b u (s1.ex b u e), fun b u e => (k2 b u (s1.ex b u e)).trans (s1.old b u e), A'.sub⟩ (s1.free hD) hGD hacc r⟩
theorem en_lc {M : Mo} {N : List Str} {sc : Scope} {fn : Str → Bool} {k : Nat} (own : List (Str × Nat)) (hnd : N.Nodup) (ok : blkC N sc cs own = true) (hI : ID ⟨M, N, sc, fn, k⟩ ρ tg iter ds)
    (hB : ∀ (i : Nat) d, ds[i]? = some d → ∃ ρ', GD (blkOf M N sc cs k) tg is d (wipeR ρ (own.map (·.2))) ρ' ∧ TsD (blkOf M N sc cs k) ρ' ifs (f i) ∧ (f i = true → ED (blkOf M N sc cs k) ρ' elt (v i))) (his : ∀ i ∈ is, i ∈ own.map (·.2)) (hn : ds.length ≤ 1000)
    (hs : ∀ env x, foldedSetIterable iter env x = pure x := by intro _ _; rfl) : EN ⟨M, N, sc, fn, k⟩ ρ (.ListComp elt [⟨tg, iter, ifs, 0⟩] cs pos) (given ds.length f v) := by
  intro G0 H0 σ G H W Q q X hX pins s I
  refine (pe_lc (own := own) hX.calm (by rw [hX.N]; exact hnd) (pi_tI hX) (blkOk_by (by rw [hX.N, hX.sc]; exact ok)) (fun s H C cl fp => pg_tG (has_blk hX cs s H C cl fp)) (fun s H C cl fp => pts_tTs (has_blk hX cs s H C cl fp))
    (fun s H C cl fp => pe_tF (has_blk hX cs s H C cl fp)) (hs X.env)).run pins s σ H Q I ?_
  exact lc_read hI hB his hn W q hX
structure EndsD where
  nx : Ro → Prop
  rt : D → Prop
  bk : Ro → Prop := fun _ => False
  ct : Ro → Prop := fun _ => False
  fr : List D → Prop := fun _ => False
structure Real (M : Mo) (G0 H0 : Hp) (E : EndsD) (D : Ends) : Prop where
  nx : ∀ ρ σ G H, Wd M G0 H0 ρ σ G H → E.nx ρ → D.nx σ H
  rt : ∀ d v H G, Step H0 G0 H G → Rep M G d v → E.rt d → D.rt v H
  bk : ∀ ρ σ G H, Wd M G0 H0 ρ σ G H → E.bk ρ → D.bk σ H
  ct : ∀ ρ σ G H, Wd M G0 H0 ρ σ G H → E.ct ρ → D.ct σ H
  fr : ∀ ds l xs H, Same H0 H → H0 l = none → H l = some (.lst xs) → (∃ G, Reps M G ds xs) → E.fr ds → D.rt (.ref l) H
theorem none_of {H0 H : Hp} {l : Addr} (s : Same H0 H) (h : H l = none) : H0 l = none := by
  cases e : H0 l with
  | none => rfl
  | some o => rw [s l o e] at h; cases h
def W1 (Γ : Cy) (st : Stmt) (E : EndsD) (ρ : Ro) : Prop := ∀ G0 H0 σ G H, Wd Γ.M G0 H0 ρ σ G H → ∀ D, Real Γ.M G0 H0 E D → tS1 Γ st D σ H
def WS (Γ : Cy) (ss : List Stmt) (E : EndsD) (ρ : Ro) : Prop := ∀ G0 H0 σ G H, Wd Γ.M G0 H0 ρ σ G H → ∀ D, Real Γ.M G0 H0 E D → tS Γ ss D σ H
variable {st : Stmt} {ss : List Stmt} {E : EndsD}
theorem ws_nil (h : E.nx ρ) : WS Γ [] E ρ := fun G0 H0 σ G H W D r => tS_of (t := fun _ => tNext) (fun X hX => pss_nil) fun X hX => r.nx ρ σ G H W h
theorem ws_cons (h : W1 Γ st { E with nx := fun ρ' => WS Γ ss E ρ' } ρ) : WS Γ (st :: ss) E ρ := fun G0 H0 σ G H W D r =>
  tS_of (t := fun _ => tSeq (tS1 Γ st) (tS Γ ss)) (fun X hX => pss_cons (ps_tS1 hX) (pss_tS hX)) fun X hX => h G0 H0 σ G H W { D with nx := tS Γ ss D } ⟨fun ρ' σ' G' H' W' h' => h' G0 H0 σ' G' H' W' D r, r.rt, r.bk, r.ct, r.fr⟩
theorem ws_one (h : W1 Γ st E ρ) : WS Γ [st] E ρ := fun G0 H0 σ G H W D r => tS_of (t := fun _ => tS1 Γ st) (fun X hX => pss_one (ps_tS1 hX)) fun X hX => h G0 H0 σ G H W D r
theorem ws_freeze (i : Nat) (h : WS Γ ss E (ρ.set i (cln (ρ.getD i .un)))) : WS Γ ss E ρ := fun G0 H0 σ G H W D r => by
  obtain ⟨G', _, W'⟩ := W.freeze i
  exact h G0 H0 σ G' H W' D r
theorem w1_freeze (i : Nat) (h : W1 Γ st E (ρ.set i (cln (ρ.getD i .un)))) : W1 Γ st E ρ := fun G0 H0 σ G H W D r => by
  obtain ⟨G', _, W'⟩ := W.freeze i
  exact h G0 H0 σ G' H W' D r
theorem WS.imp {E' : EndsD} (h : WS Γ ss E ρ) (h1 : ∀ ρ, E.nx ρ → E'.nx ρ) (h2 : ∀ d, E.rt d → E'.rt d) (h3 : ∀ ρ, E.bk ρ → E'.bk ρ) (h4 : ∀ ρ, E.ct ρ → E'.ct ρ) (h5 : ∀ ds, E.fr ds → E'.fr ds) : WS Γ ss E' ρ := fun G0 H0 σ G H W D r =>
  h G0 H0 σ G H W D ⟨fun ρ σ G H w e => r.nx ρ σ G H w (h1 ρ e), fun d v H G s q e => r.rt d v H G s q (h2 d e), fun ρ σ G H w e => r.bk ρ σ G H w (h3 ρ e), fun ρ σ G H w e => r.ct ρ σ G H w (h4 ρ e), fun ds l xs H s1 s2 s3 s4 e => r.fr ds l xs H s1 s2 s3 s4 (h5 ds e)⟩
theorem w1_pass (h : E.nx ρ) : W1 Γ (.Pass pos) E ρ := fun G0 H0 σ G H W D r => tS1_of (t := fun _ => tNext) (fun X hX => ps_pass) fun X hX => r.nx ρ σ G H W h
theorem w1_break (h : E.bk ρ) : W1 Γ (.Break pos) E ρ := fun G0 H0 σ G H W D r => tS1_of (t := fun _ => tBreak) (fun X hX => ps_break) fun X hX => r.bk ρ σ G H W h
theorem w1_ret (h : ED Γ ρ e d) (hd : E.rt d) : W1 Γ (.Return (some e) pos) E ρ := fun G0 H0 σ G H W D r =>
  tS1_of (t := fun _ => tRet (tF Γ e)) (fun X hX => ps_ret (pe_tF hX)) fun X hX => h G0 H0 σ G H W _ fun v H1 G1 s1 r1 => r.rt d v H1 G1 (W.step s1).fin r1 hd
theorem w1_retN (h : EN Γ ρ e ds) (hd : E.fr ds) : W1 Γ (.Return (some e) pos) E ρ := fun G0 H0 σ G H W D r =>
  tS1_of (t := fun _ => tRet (tF Γ e)) (fun X hX => ps_ret (pe_tF hX)) fun X hX => h G0 H0 σ G H W _ fun l xs H1 G1 s1 hl hg hx r1 => r.fr ds l xs H1 ((W.step s1).ex) (none_of W.ex hl) hx ⟨G1, r1⟩ hd
theorem w1_if {bb : Bool} {ss2 : List Stmt} (hc : TD Γ ρ c bb) (ht : bb = true → WS Γ ss E ρ) (he : bb = false → WS Γ ss2 E ρ) : W1 Γ (.If c ss ss2 pos) E ρ := fun G0 H0 σ G H W D r =>
  tS1_of (t := fun _ => tIfS (tT Γ c) (tS Γ ss) (tS Γ ss2)) (fun X hX => ps_if (pt_tT hX) (pss_tS hX) (pss_tS hX)) fun X hX => hc G0 H0 σ G H W _ fun H1 G1 s1 => by
    cases bb with
    | true => exact ht rfl G0 H0 σ G1 H1 (W.step s1) D r
    | false => exact he rfl G0 H0 σ G1 H1 (W.step s1) D r
theorem w1_set {M : Mo} {N : List Str} {sc : Scope} {fn : Str → Bool} {k : Nat} {i : Nat} {x : Str} (hN : N[i]? = some x) (hnd : N.Nodup) (hl : locB sc fn x = true) (h : ED ⟨M, N, sc, fn, k⟩ ρ e d) (hk : E.nx (ρ.set i (.dat d)))
    (hs : ∀ env, swapsWith e (some (.Name x pos')) pos.line env = pure false := by intro _; rfl) : W1 ⟨M, N, sc, fn, k⟩ (.Assign [.Name x pos'] e pos) E ρ := fun G0 H0 σ G H W D r =>
  tS1_of (t := fun _ => tAsg (tF ⟨M, N, sc, fn, k⟩ e) (gName i)) (fun X hX => ps_set (by rw [hX.N]; exact hnd) (by rw [hX.N]; exact hN) (by rw [hX.sc]; exact (loc_of hl).1) (pe_tF hX) (hs _) (by rw [hX.fn, hX.sc]; exact (loc_of hl).2)) fun X hX =>
    h G0 H0 σ G H W _ fun v H1 G1 s1 r1 => r.nx _ _ G1 H1 ((W.step s1).putDat r1) hk
theorem w1_new {M : Mo} {N : List Str} {sc : Scope} {fn : Str → Bool} {k : Nat} {i : Nat} {x : Str} (hN : N[i]? = some x) (hnd : N.Nodup) (hl : locB sc fn x = true) (h : EN ⟨M, N, sc, fn, k⟩ ρ e ds) (hk : E.nx (ρ.set i (.own ds)))
    (hs : ∀ env, swapsWith e (some (.Name x pos')) pos.line env = pure false := by intro _; rfl) : W1 ⟨M, N, sc, fn, k⟩ (.Assign [.Name x pos'] e pos) E ρ := fun G0 H0 σ G H W D r =>
  tS1_of (t := fun _ => tAsg (tF ⟨M, N, sc, fn, k⟩ e) (gName i)) (fun X hX => ps_set (by rw [hX.N]; exact hnd) (by rw [hX.N]; exact hN) (by rw [hX.sc]; exact (loc_of hl).1) (pe_tF hX) (hs _) (by rw [hX.fn, hX.sc]; exact (loc_of hl).2)) fun X hX =>
    h G0 H0 σ G H W _ fun l xs H1 G1 s1 hl hg hx r1 => r.nx _ _ G1 H1 (W.putNew s1 hl hg hx r1) hk
def compSw (sc : Scope) (cs : Scope) (x : Str) : Bool := (match sc.kind with | .function => true | _ => false) && (match sc.names.lookup x with | some .local => true | _ => false) && !(cs.names.any fun (n, k) => n == x && (k == .local || k == .cell))
theorem w1_newLc {M : Mo} {N : List Str} {sc : Scope} {fn : Str → Bool} {k : Nat} {j : Nat} {x : Str} (own : List (Str × Nat)) (hN : N[j]? = some x) (hnd : N.Nodup) (hsw : compSw sc cs x = true) (hline : (pos'.line == p.line) = true) (ok : blkC N sc cs own = true) (hI : ID ⟨M, N, sc, fn, k⟩ ρ tg iter ds)
    (hB : ∀ (i : Nat) d, ds[i]? = some d → ∃ ρ', GD (blkOf M N sc cs k) tg is d (wipeR ρ (own.map (·.2))) ρ' ∧ TsD (blkOf M N sc cs k) ρ' ifs (f i) ∧ (f i = true → ED (blkOf M N sc cs k) ρ' elt (v i))) (his : ∀ i ∈ is, i ∈ own.map (·.2)) (hn : ds.length ≤ 1000)
    (hk : E.nx (ρ.set j (.own (given ds.length f v)))) (hs : ∀ env x, foldedSetIterable iter env x = pure x := by intro _ _; rfl) : W1 ⟨M, N, sc, fn, k⟩ (.Assign [.Name x pos'] (.ListComp elt [⟨tg, iter, ifs, 0⟩] cs p) pos) E ρ := by
  intro G0 H0 σ G H W D r X hX pins s I
  unfold compSw at hsw
  rw [Bool.and_eq_true, Bool.and_eq_true] at hsw
  obtain ⟨⟨h1, h2⟩, h3⟩ := hsw
  have hkind : X.env.scope.kind = .function := by
    rw [hX.sc]
    show sc.kind = _
    split at h1
    · assumption
    · cases h1
  have hloc : X.env.scope.names.lookup x = some .local := by
    rw [hX.sc]
    show sc.names.lookup x = _
    split at h2
    · assumption
    · cases h2
  refine (ps_setLc (own := own) hX.calm (by rw [hX.N]; exact hnd) (by rw [hX.N]; exact hN) hloc (sw_true hkind hloc hline (by simpa using h3)) (pi_tI hX) (blkOk_by (by rw [hX.N, hX.sc]; exact ok)) (fun s H C cl fp => pg_tG (has_blk hX cs s H C cl fp))
    (fun s H C cl fp => pts_tTs (has_blk hX cs s H C cl fp)) (fun s H C cl fp => pe_tF (has_blk hX cs s H C cl fp)) (hs X.env)).run pins s σ H D I ?_
  exact lc_read hI hB his hn W (fun l xs H1 G1 s1 hl hg hx r1 => r.nx _ _ G1 H1 (W.putNew s1 hl hg hx r1) hk) hX
theorem swaps_no {scope : Scope} {gs : List Comprehension} {x : Str} {l : Nat} {env : Env} (h : (match env.scope.names.lookup x with | some .local => false | _ => true) = true) : swapsWith (.ListComp elt gs scope p) (some (.Name x pos')) l env = pure false := by
  have hk : (env.kindOf x == some .local) = false := by
    unfold Env.kindOf
    cases e : env.scope.names.lookup x with
    | none => rfl
    | some k => rw [e] at h; cases k <;> first | rfl | cases h
  unfold swapsWith
  simp only [hk, Bool.and_false, Bool.false_and]
theorem w1_newLcC {M : Mo} {N : List Str} {sc : Scope} {fn : Str → Bool} {k : Nat} {j : Nat} {x : Str} {gs : List Comprehension} (hN : N[j]? = some x) (hnd : N.Nodup) (hl : locB sc fn x = true) (hc : (match sc.names.lookup x with | some .local => false | _ => true) = true)
    (h : EN ⟨M, N, sc, fn, k⟩ ρ (.ListComp elt gs cs p) ds) (hk : E.nx (ρ.set j (.own ds))) : W1 ⟨M, N, sc, fn, k⟩ (.Assign [.Name x pos'] (.ListComp elt gs cs p) pos) E ρ := fun G0 H0 σ G H W D r =>
  tS1_of (t := fun _ => tAsg (tF ⟨M, N, sc, fn, k⟩ (.ListComp elt gs cs p)) (gName j)) (fun X hX => ps_set (by rw [hX.N]; exact hnd) (by rw [hX.N]; exact hN) (by rw [hX.sc]; exact (loc_of hl).1) (pe_tF hX) (swaps_no (by rw [hX.sc]; exact hc)) (by rw [hX.fn, hX.sc]; exact (loc_of hl).2)) fun X hX =>
    h G0 H0 σ G H W _ fun l xs H1 G1 s1 hl hg hx r1 => r.nx _ _ G1 H1 (W.putNew s1 hl hg hx r1) hk
theorem w1_asg (h : ED Γ ρ e d) (hg : GD Γ tg is d ρ ρ') (hk : E.nx ρ') (hs : ∀ env, swapsWithSole [tg] e pos.line env = pure false := by intro _; rfl) (hw : ∀ env, swappedStores [tg] e env = pure none := by intro _; rfl)
    (h1 : ∀ env, (assignEach [tg] env).map (·.2) = [assign tg env] := by intro _; rfl) : W1 Γ (.Assign [tg] e pos) E ρ := fun G0 H0 σ G H W D r =>
  tS1_of (t := fun _ => tAsg (tF Γ e) (tG Γ tg)) (fun X hX => ps_asg (pe_tF hX) (pg_tG hX) (hs _) (hw _) (h1 _)) fun X hX =>
    h G0 H0 σ G H W _ fun v H1 G1 s1 r1 => hg G0 H0 σ G1 H1 v (W.step s1) r1 _ fun σ' W' _ => r.nx _ _ G1 H1 W' hk
theorem w1_appendB {M : Mo} {N : List Str} {sc : Scope} {fn : Str → Bool} {k : Nat} {i : Nat} {x : Str} {p1 p2 p3 p4 : Pos} (hN : N[i]? = some x) (hv : visB sc x = true) (ho : ρ[i]? = some (.own ds)) (h : ED ⟨M, N, sc, fn, k⟩ ρ e d) (hz : ds.length ≤ 100000)
    (hk : E.nx (ρ.set i (.own (ds ++ [d])))) (hd : (x == ("__debug__" : Str)) = false := by decide) (hcd : (x == ("__classdict__" : Str)) = false := by decide)
    (hp : ∀ X : Cx, ∀ r, PE X (.Name x p1) (tVar i) → PA X [e] (tCons (tF ⟨M, N, sc, fn, k⟩ e) tNil) → MtM X "list.append" r → PE X (.Call (.Attribute (.Name x p1) "append" p2) [e] [] p3) (tBM X.K "list" r (tVar i) (tCons (tF ⟨M, N, sc, fn, k⟩ e) tNil)) := by exact fun X r h1 h2 h3 => pe_bm PySem.F.plainAttrs_list PySem.F.slot_list_append PySem.F.type_list_append h3 h1 h2)
    (he : ∀ env, starEach [e] env = (false, eval e env) :: starEach [] env := by intro _; rfl) (hs : ∀ env, swapsWith (.Call (.Attribute (.Name x p1) "append" p2) [e] [] p3) none p4.line env = pure false := by intro _; rfl) :
    W1 ⟨M, N, sc, fn, k⟩ (.Expr (.Call (.Attribute (.Name x p1) "append" p2) [e] [] p3) p4) E ρ := by
  intro G0 H0 σ G H W D r
  refine tS1_of (t := fun X => tDrop (tBM X.K "list" rAppend (tVar i) (tCons (tF ⟨M, N, sc, fn, k⟩ e) tNil))) (fun X hX => ps_expr (hp X _ (pe_var (by rw [hX.N]; exact hN) (by rw [hX.sc]; exact vis_of hv) hd hcd) (pa_cons (pe_tF hX) pa_nil (he _)) mt_append) (hs _)) fun X hX => ?_
  obtain ⟨α, A⟩ := W.wa
  have hi : i < σ.length := by rw [W.len]; exact (List.getElem?_eq_some_iff.mp ho).1
  have e0 : σ[i]? = some σ[i] := List.getElem?_eq_getElem hi
  obtain ⟨l, xs, ea, e1, e2, r0⟩ := A.s1 i _ _ ho e0
  refine ⟨.ref l, by rw [e0, e1], .inl ⟨rfl, _, SqL.of e2⟩, h G0 H0 σ G H W _ fun v H1 G1 s1 r1 => ?_⟩
  refine ⟨l, xs, v, rfl, rfl, s1.ex _ _ e2, by rw [← r0.length]; exact Nat.lt_of_le_of_lt hz (by decide), ?_⟩
  refine r.nx (ρ.set i (.own (ds ++ [d]))) σ G1 _ ((W.step s1).write (s := .own ds) ho e0 fun as hs hn => ?_) hk
  obtain ⟨l', xs', rfl, e1', e2', r'⟩ := hs
  rw [e1] at e1'; cases e1'
  rw [s1.ex _ _ e2] at e2'; cases e2'
  exact ⟨l, by simp, fun b hb => upd_ne hb, by rw [upd_same]; simp, l, _, rfl, by rw [e1], upd_same, r'.snoc r1⟩
theorem w1_append {M : Mo} {N : List Str} {sc : Scope} {fn : Str → Bool} {k : Nat} {i : Nat} {x : Str} {p1 p2 p3 p4 : Pos} (hN : N[i]? = some x) (hv : visB sc x = true) (ho : ρ[i]? = some (.own ds)) (h : ED ⟨M, N, sc, fn, k⟩ ρ e d) (hz : ds.length ≤ 1000)
    (hk : E.nx (ρ.set i (.own (ds ++ [d])))) (hd : (x == ("__debug__" : Str)) = false := by decide) (hcd : (x == ("__classdict__" : Str)) = false := by decide)
    (hp : ∀ X : Cx, ∀ r, PE X (.Name x p1) (tVar i) → PA X [e] (tCons (tF ⟨M, N, sc, fn, k⟩ e) tNil) → MtM X "list.append" r → PE X (.Call (.Attribute (.Name x p1) "append" p2) [e] [] p3) (tBM X.K "list" r (tVar i) (tCons (tF ⟨M, N, sc, fn, k⟩ e) tNil)) := by exact fun X r h1 h2 h3 => pe_bm PySem.F.plainAttrs_list PySem.F.slot_list_append PySem.F.type_list_append h3 h1 h2)
    (he : ∀ env, starEach [e] env = (false, eval e env) :: starEach [] env := by intro _; rfl) (hs : ∀ env, swapsWith (.Call (.Attribute (.Name x p1) "append" p2) [e] [] p3) none p4.line env = pure false := by intro _; rfl) :
    W1 ⟨M, N, sc, fn, k⟩ (.Expr (.Call (.Attribute (.Name x p1) "append" p2) [e] [] p3) p4) E ρ :=
  w1_appendB hN hv ho h (Nat.le_trans hz (by decide)) hk hd hcd hp he hs
theorem w1_setItem {M : Mo} {N : List Str} {sc : Scope} {fn : Str → Bool} {k : Nat} {j : Nat} {x : Str} {m : Int} {n : Nat} {p1 : Pos} (hN : N[j]? = some x) (hv : visB sc x = true) (ho : ρ[j]? = some (.own ds)) (h : ED ⟨M, N, sc, fn, k⟩ ρ e d) (hi : ED ⟨M, N, sc, fn, k⟩ ρ i (.int m)) (hm : m = (n : Int)) (hlt : n < ds.length)
    (hk : E.nx (ρ.set j (.own (ds.set n d)))) (hd : (x == ("__debug__" : Str)) = false := by decide) (hcd : (x == ("__classdict__" : Str)) = false := by decide)
    (ha : ∀ env v, assign (.Subscript (.Name x p1) i pos') env v = (do
      let ov ← holding [v] (eval (.Name x p1) env)
      let iv ← holding [v, ov] (eval i env)
      standAt pos'
      holding [v, ov, iv] (setItem ov iv v)
      release [v, ov, iv] []) := by intro _ _; rfl)
    (hs : ∀ env, swapsWithSole [.Subscript (.Name x p1) i pos'] e pos.line env = pure false := by intro _; rfl) (hw : ∀ env, swappedStores [.Subscript (.Name x p1) i pos'] e env = pure none := by intro _; rfl)
    (h1 : ∀ env, (assignEach [.Subscript (.Name x p1) i pos'] env).map (·.2) = [assign (.Subscript (.Name x p1) i pos') env] := by intro _; rfl) :
    W1 ⟨M, N, sc, fn, k⟩ (.Assign [.Subscript (.Name x p1) i pos'] e pos) E ρ := by
  intro G0 H0 σ G H W D r
  refine tS1_of (t := fun X => tAsg (tF ⟨M, N, sc, fn, k⟩ e) (gSub (tVar j) (tF ⟨M, N, sc, fn, k⟩ i) rSetL)) (fun X hX => ps_asg (pe_tF hX) (pg_sub (pe_var (by rw [hX.N]; exact hN) (by rw [hX.sc]; exact vis_of hv) hd hcd) (pe_tF hX) set_list (ha _)) (hs _) (hw _) (h1 _)) fun X hX => ?_
  refine h G0 H0 σ G H W _ fun v H1 G1 s1 r1 => ?_
  have W1' := W.step s1
  obtain ⟨α, A⟩ := W1'.wa
  have hj : j < σ.length := by rw [W.len]; exact (List.getElem?_eq_some_iff.mp ho).1
  have e0 : σ[j]? = some σ[j] := List.getElem?_eq_getElem hj
  obtain ⟨l, xs, ea, e1, e2, r0⟩ := A.s1 j _ _ ho e0
  refine ⟨.ref l, by rw [e0, e1], hi G0 H0 σ G1 H1 W1' _ fun u H2 G2 s2 r2 => ?_⟩
  refine ⟨l, xs, m, n, rfl, r2, s2.ex _ _ e2, ?_, ?_⟩
  · rw [hm]
    unfold ixN
    rw [if_pos (by omega), if_pos (by rw [← r0.length]; omega)]
    rfl
  · refine r.nx (ρ.set j (.own (ds.set n d))) σ G2 _ ((W1'.step s2).write (s := .own ds) ho e0 fun as hs hn => ?_) hk
    obtain ⟨l', xs', rfl, e1', e2', r'⟩ := hs
    rw [e1] at e1'; cases e1'
    rw [s2.ex _ _ e2] at e2'; cases e2'
    exact ⟨l, by simp, fun b hb => upd_ne hb, by rw [upd_same]; simp, l, _, rfl, by rw [e1], upd_same, r'.set n (r1.mono (s2.same W1'.sub))⟩
theorem w1_for {body : List Stmt} (Pv : Nat → Ro → Prop) (hI : ID Γ ρ tg iter ds) (h0 : Pv 0 ρ) (hB : ∀ (i : Nat) d ρ1, ds[i]? = some d → Pv i ρ1 → ∃ is ρ2, GD Γ tg is d ρ1 ρ2 ∧ WS Γ body { nx := Pv (i + 1), ct := Pv (i + 1), bk := E.nx, rt := E.rt, fr := E.fr } ρ2)
    (hd : ∀ ρ1, Pv ds.length ρ1 → E.nx ρ1) (hs : ∀ env x, foldedSetIterable iter env x = pure x := by intro _ _; rfl) : W1 Γ (.For tg iter body [] pos) E ρ := by
  intro G0 H0 σ G H W D r
  refine tS1_of (t := fun _ => tFor (tI Γ tg iter) (tG Γ tg) (tS Γ body)) (fun X hX => ps_for (by rw [hX.xe]; exact PassesOwn.never) hX.calm (pi_tI hX) (pg_tG hX) (pss_tS hX) (hs _)) fun X hX => ?_
  refine hI G0 H0 σ G H W _ fun J H1 G1 s1 hJ => ?_
  refine ⟨fun i m σ' H' => m = ds.length - i ∧ i ≤ ds.length ∧ ∃ ρ' G', Wd Γ.M G0 H0 ρ' σ' G' H' ∧ Same G1 G' ∧ Pv i ρ', ⟨ds.length, by simp, Nat.zero_le _, ρ, G1, W.step s1, Same.refl _, h0⟩, ?_⟩
  rintro i m σ' H' ⟨rfl, hi, ρ', G', W', sG, pv⟩
  obtain ⟨serve, stop⟩ := hJ H' (sG.trans W'.sub)
  by_cases hlt : i < ds.length
  · obtain ⟨go, yld⟩ := serve i ds[i] (List.getElem?_eq_getElem hlt)
    refine .inr ⟨go, fun σ2 H2 => ∃ ρ2 G2, Wd Γ.M G0 H0 ρ2 σ2 G2 H2 ∧ Same G1 G2 ∧ Pv (i + 1) ρ2, fun σ2 H2 h => ⟨ds.length - (i + 1), by omega, rfl, hlt, h⟩, fun x H2 hy => ?_⟩
    obtain ⟨e1, rx⟩ := yld x H2 hy
    subst e1
    obtain ⟨is, ρ2, g, w⟩ := hB i ds[i] ρ' (List.getElem?_eq_getElem hlt) pv
    refine g G0 H0 σ' G' H2 x W' (rx.mono sG) _ fun σ2 W2 _ => ?_
    obtain ⟨U, WU, back, backS, backU⟩ := W2.rebase
    refine w G' U σ2 G' H2 WU _ ⟨fun ρ3 σ3 G3 H3 W3 h3 => ?_, fun d v H3 G3 st rr hr => r.rt d v H3 G3 (backS H3 G3 st) rr hr, fun ρ3 σ3 G3 H3 W3 h3 => r.nx ρ3 σ3 G3 H3 (back ρ3 σ3 G3 H3 W3).1 h3, fun ρ3 σ3 G3 H3 W3 h3 => ?_, fun ds l xs H3 s1 s2 s3 s4 e => r.fr ds l xs H3 (backU.trans s1) (none_of backU s2) s3 s4 e⟩
    all_goals
      obtain ⟨b1, b2⟩ := back ρ3 σ3 G3 H3 W3
      exact ⟨ρ3, G3, b1, sG.trans b2, h3⟩
  · have e : i = ds.length := by omega
    subst e
    exact .inl ⟨stop, r.nx ρ' σ' G' H' W' (hd ρ' pv)⟩
end
end BB
set_option linter.all false
namespace BB
abbrev Qt := Int × Int
def q0 : Qt := (0, 1)
def q1 : Qt := (1, 1)
def ratio (p q : Int) : Qt :=
  ((if q < 0 then -p else p) / ((Nat.gcd (if q < 0 then -p else p).natAbs (if q < 0 then -q else q).natAbs : Nat) : Int),
   (if q < 0 then -q else q) / ((Nat.gcd (if q < 0 then -p else p).natAbs (if q < 0 then -q else q).natAbs : Nat) : Int))
def qadd (a b : Qt) : Qt := ratio (a.1 * b.2 + b.1 * a.2) (a.2 * b.2)
def qsub (a b : Qt) : Qt := ratio (a.1 * b.2 - b.1 * a.2) (a.2 * b.2)
def qmul (a b : Qt) : Qt := ratio (a.1 * b.1) (a.2 * b.2)
def qdiv (a b : Qt) : Qt := ratio (a.1 * b.2) (a.2 * b.1)
def qless (a b : Qt) : Bool := decide (a.1 * b.2 < b.1 * a.2)
def qatm (a b : Qt) : Bool := decide (a.1 * b.2 ≤ b.1 * a.2)
def dotN (a b : List Qt) : Nat → Qt
  | 0 => q0
  | n + 1 => qadd (dotN a b n) (qmul (a.getD n q0) (b.getD n q0))
def dot (a b : List Qt) : Qt := dotN a b a.length
abbrev Buy := List Qt × List Qt
abbrev Lk := Nat × Nat × Bool
structure Dt where
  goods : Nat
  buys : List Buy
  links : List Lk
def Dt.n (d : Dt) : Nat := d.buys.length
def Dt.pr (d : Dt) (i : Nat) : List Qt := (d.buys.getD i ([], [])).1
def Dt.am (d : Dt) (i : Nat) : List Qt := (d.buys.getD i ([], [])).2
def cst (d : Dt) (i j : Nat) : Qt := dot (d.pr i) (d.am j)
def spt (d : Dt) (i : Nat) : Qt := dot (d.pr i) (d.am i)
def step0 (d : Dt) (i j : Nat) : Option Bool := if i = j then none else if qatm (cst d i j) (spt d i) then some (qless (cst d i j) (spt d i)) else none
def lk1 (i j : Nat) (r : Option Bool) (l : Lk) : Option Bool := if l.1 = i ∧ l.2.1 = j then some (r == some true || l.2.2) else r
def stepF (d : Dt) (i j : Nat) : Option Bool := d.links.foldl (lk1 i j) (step0 d i j)
abbrev Tb := List (List (Option Bool))
def tb (T : Tb) (i j : Nat) : Option Bool := (T.getD i []).getD j none
def table (d : Dt) : Tb := (List.range d.n).map fun i => (List.range d.n).map fun j => stepF d i j
abbrev Fd := List ((Nat × Bool) × List Nat)
def bfsK (T : Tb) (j : Nat) (s : Bool) (ch : List Nat) (f : Fd) (k : Nat) : Fd :=
  match tb T j k with
  | none => f
  | some one => if (f.lookup (k, s || one)).isSome then f else f ++ [((k, s || one), ch ++ [k])]
def bfsRow (T : Tb) (f : Fd) (a : Nat) : Fd :=
  (List.range T.length).foldl (bfsK T (f.getD a ((0, false), [])).1.1 (f.getD a ((0, false), [])).1.2 (f.getD a ((0, false), [])).2) f
def bfs (T : Tb) : Nat → Fd → Nat → Fd
  | 0, f, _ => f
  | m + 1, f, a => if a < f.length then bfs T m (bfsRow T f a) (a + 1) else f
def findIn (T : Tb) (i : Nat) : Fd := bfs T (2 * T.length + 1) [((i, false), [i])] 0
def lead1 (f : Fd) (j : Nat) : Option Bool := if (f.lookup (j, true)).isSome then some true else if (f.lookup (j, false)).isSome then some false else none
def leads (d : Dt) : Tb := (List.range d.n).map fun i => (List.range d.n).map fun j => lead1 (findIn (table d) i) j
def findChain (d : Dt) (i j : Nat) : Option (List Nat) :=
  match (findIn (table d) i).lookup (j, true) with
  | some c => some c
  | none => (findIn (table d) i).lookup (j, false)
def reach1 (d : Dt) (pr : List Qt) (money : Qt) (i : Nat) (r : List (Option Bool)) (j : Nat) : List (Option Bool) :=
  match tb (leads d) i j with
  | none => r
  | some b => r.set j (some (r.getD j none == some true || (qless (dot pr (d.am i)) money || b)))
def reachI (d : Dt) (pr : List Qt) (money : Qt) (r : List (Option Bool)) (i : Nat) : List (Option Bool) :=
  if qatm (dot pr (d.am i)) money then (List.range d.n).foldl (reach1 d pr money i) r else r
def reached (d : Dt) (pr : List Qt) (money : Qt) : List (Option Bool) := (List.range d.n).foldl (reachI d pr money) (List.replicate d.n none)
def rcHit (d : Dt) (pr : List Qt) (money : Qt) (j i : Nat) : Bool := qatm (dot pr (d.am i)) money && (tb (leads d) i j).isSome
def rcStrict (d : Dt) (pr : List Qt) (money : Qt) (j i : Nat) : Bool := rcHit d pr money j i && (qless (dot pr (d.am i)) money || tb (leads d) i j == some true)
def rcBest (d : Dt) (pr : List Qt) (money : Qt) (j : Nat) : Nat → Option Nat
  | 0 => none
  | n + 1 => if rcHit d pr money j n then some n else rcBest d pr money j n
def reachChain (d : Dt) (pr : List Qt) (money : Qt) (j : Nat) : Option (List Nat) :=
  match (List.range d.n).find? (rcStrict d pr money j) with
  | some i => findChain d i j
  | none => match rcBest d pr money j d.n with
    | some b => findChain d b j
    | none => none
def keepsRow (d : Dt) (j : Nat) (strict : Bool) (basket : List Qt) : Bool :=
  if strict then qless (spt d j) (dot (d.pr j) basket) else qatm (spt d j) (dot (d.pr j) basket)
def broken (d : Dt) (rows : List (Option Bool)) (basket : List Qt) (j : Nat) : Bool :=
  match rows.getD j none with
  | none => false
  | some s => !keepsRow d j s basket
def firstBroken (d : Dt) (rows : List (Option Bool)) (basket : List Qt) : Option Nat := (List.range rows.length).find? (broken d rows basket)
def plane (d : Dt) (ns ws : List Qt) (i : Nat) (basket : List Qt) : Qt := qadd (ns.getD i q0) (qmul (ws.getD i q0) (qsub (dot (d.pr i) basket) (spt d i)))
def notFree (T : Tb) (done : List Bool) (i j : Nat) : Bool := !done.getD j false && (tb T j i).isSome && (tb T i j).isNone
def freeC (T : Tb) (done : List Bool) (i : Nat) : Bool := !done.getD i false && !(List.range T.length).any (notFree T done i)
def classOf (T : Tb) (i : Nat) : List Nat := (List.range T.length).filter fun j => (tb T i j).isSome && (tb T j i).isSome
def nextClass (T : Tb) (done : List Bool) : List Nat :=
  match (List.range T.length).find? (freeC T done) with
  | some i => classOf T i
  | none => []
def best1 (b : Option Qt) (v : Qt) : Option Qt :=
  match b with
  | none => some v
  | some x => if qless v x then some v else some x
def cands (d : Dt) (ns ws : List Qt) (ms : List Nat) (k : Nat) : List Qt := ns.getD k q0 :: ms.map fun j => plane d ns ws k (d.am j)
def bestK (d : Dt) (ns ws : List Qt) (done : List Bool) (ms : List Nat) (b : Option Qt) (k : Nat) : Option Qt :=
  if done.getD k false then (cands d ns ws ms k).foldl best1 b else b
def classNumber (d : Dt) (ns ws : List Qt) (done : List Bool) (ms : List Nat) : Qt :=
  match (List.range done.length).foldl (bestK d ns ws done ms) none with
  | none => q0
  | some b => qsub b q1
def wt1 (d : Dt) (ns : List Qt) (number : Qt) (j k : Nat) : Qt := qdiv (qsub (ns.getD k q0) number) (qsub (cst d j k) (spt d j))
def wtK (d : Dt) (ns : List Qt) (done : List Bool) (number : Qt) (j : Nat) (b : Qt) (k : Nat) : Qt :=
  if done.getD k false then (if qless b (wt1 d ns number j k) then wt1 d ns number j k else b) else b
def memberWeight (d : Dt) (ns : List Qt) (done : List Bool) (number : Qt) (j : Nat) : Qt := (List.range done.length).foldl (wtK d ns done number j) q1
structure Ts where
  ns : List Qt
  ws : List Qt
  done : List Bool
def put1 (ms : List Nat) (number : Qt) (found : List Qt) (t : Ts) (k : Nat) : Ts :=
  ⟨t.ns.set (ms.getD k 0) number, t.ws.set (ms.getD k 0) (found.getD k q0), t.done.set (ms.getD k 0) true⟩
def turn (d : Dt) (T : Tb) (t : Ts) : Ts :=
  (List.range (nextClass T t.done).length).foldl (put1 (nextClass T t.done) (classNumber d t.ns t.ws t.done (nextClass T t.done))
    ((nextClass T t.done).map (memberWeight d t.ns t.done (classNumber d t.ns t.ws t.done (nextClass T t.done))))) t
def turns (d : Dt) (T : Tb) : Nat → Ts
  | 0 => ⟨List.replicate T.length q0, List.replicate T.length q1, List.replicate T.length false⟩
  | n + 1 => turn d T (turns d T n)
def makeTaste (d : Dt) (T : Tb) : List Qt × List Qt := ((turns d T T.length).ns, (turns d T T.length).ws)
inductive Ans where
  | ring (c : List Nat)
  | taste (ns ws : List Qt)
  | row (j : Nat) (c : List Nat)
  | bad
def ringAt (d : Dt) : Option Nat := (List.range d.n).find? fun i => tb (leads d) i i == some true
def check (d : Dt) : Ans :=
  match ringAt d with
  | some i => match findChain d i i with
    | some c => .ring c
    | none => .bad
  | none => .taste (makeTaste d (leads d)).1 (makeTaste d (leads d)).2
def moreD (d : Dt) (pr bs : List Qt) : Dt := ⟨d.goods, d.buys ++ [(pr, bs)], d.links⟩
def buysF (d : Dt) (pr : List Qt) (money : Qt) (bs : List Qt) : Ans :=
  match ringAt d with
  | some i => match findChain d i i with
    | some c => .ring c
    | none => .bad
  | none => match firstBroken d (reached d pr money) bs with
    | some j => match reachChain d pr money j with
      | some c => .row j c
      | none => .bad
    | none => check (moreD d pr bs)
end BB
set_option Elab.async false
set_option linter.all false
set_option maxRecDepth 100000
set_option maxHeartbeats 4000000
namespace BB
open PySem PySem.Spec PyProof.Rows L2
section
variable {Γ : Cy} {ρ ρ' : Ro} {e a b c o i tg iter elt : Expr} {es rest ifs : List Expr} {p pos pos' : Pos} {d x y z : D} {ds : List D} {st : Stmt} {ss : List Stmt} {E : EndsD}
theorem w1_while {body : List Stmt} (Pv : Nat → Ro → Prop) (m0 : Nat) (h0 : Pv m0 ρ) (hB : ∀ (m : Nat) ρ1, Pv m ρ1 → ∃ bb, TD Γ ρ1 c bb ∧ (bb = true → ∃ m', m' < m ∧ WS Γ body { nx := Pv m', ct := Pv m', bk := E.nx, rt := E.rt, fr := E.fr } ρ1) ∧ (bb = false → E.nx ρ1)) :
    W1 Γ (.While c body [] pos) E ρ := by
  intro G0 H0 σ G H W D r
  refine tS1_of (t := fun _ => tWhile (tT Γ c) (tS Γ body)) (fun X hX => ps_while (by rw [hX.xe]; exact PassesOwn.never) (pt_tT hX) (pss_tS hX)) fun X hX => ?_
  refine ⟨fun m σ' H' => ∃ ρ' G', Wd Γ.M G0 H0 ρ' σ' G' H' ∧ Pv m ρ', ⟨m0, ρ, G, W, h0⟩, ?_⟩
  rintro m σ' H' ⟨ρ', G', W', pv⟩
  obtain ⟨bb, ht, h1, h2⟩ := hB m ρ' pv
  refine ht G0 H0 σ' G' H' W' _ fun H1 G1 s1 => ?_
  cases bb with
  | true =>
    obtain ⟨m', hm, w⟩ := h1 rfl
    refine ⟨fun σ2 H2 => ∃ ρ2 G2, Wd Γ.M G0 H0 ρ2 σ2 G2 H2 ∧ Pv m' ρ2, fun σ2 H2 h => ⟨m', hm, h⟩, ?_⟩
    exact w G0 H0 σ' G1 H1 (W'.step s1) _ ⟨fun ρ3 σ3 G3 H3 W3 h3 => ⟨ρ3, G3, W3, h3⟩, r.rt, fun ρ3 σ3 G3 H3 W3 h3 => r.nx ρ3 σ3 G3 H3 W3 h3, fun ρ3 σ3 G3 H3 W3 h3 => ⟨ρ3, G3, W3, h3⟩, r.fr⟩
  | false => exact r.nx ρ' σ' G1 H1 (W'.step s1) (h2 rfl)
def dats (ds : List D) (n : Nat) : Ro := ds.map Sl.dat ++ List.replicate (n - ds.length) .un
theorem wd_start {M : Mo} {G H : Hp} {ds : List D} {vs : List V} {N : List Str} (s : Same G H) (r : Reps M G ds vs) : Wd M G H (dats ds N.length) (L2.start N vs) G H := by
  have hl := r.length
  refine ⟨?_, Same.refl H, fun _ _ _ => rfl, s, fun _ => [], fun i t o e1 e2 => ?_, fun i a ha => by simp at ha, fun i j _ a ha => by simp at ha⟩
  · unfold dats L2.start
    rw [List.length_append, List.length_append, List.length_map, List.length_map, List.length_replicate, List.length_replicate, hl]
  · unfold dats at e1
    unfold L2.start at e2
    by_cases hi : i < ds.length
    · rw [List.getElem?_append_left (by simpa using hi), List.getElem?_map] at e1
      rw [List.getElem?_append_left (by rw [List.length_map]; omega), List.getElem?_map] at e2
      obtain ⟨v, e3, rv⟩ := r.get (List.getElem?_eq_getElem hi)
      rw [List.getElem?_eq_getElem hi] at e1
      rw [e3] at e2
      cases e1; cases e2
      exact ⟨rfl, v, rfl, rv⟩
    · rw [List.getElem?_append_right (by simpa using hi), List.getElem?_replicate] at e1
      split at e1
      · cases e1; exact rfl
      · cases e1
theorem def_ok {M : Mo} {x qual : Str} {st : Stmt} {f : Addr} {fd : FuncData} {N ps : List Str} {k : Nat} {R : List D → D → Prop} (F : Fun M.K x qual st f fd) (S : FnScope N ps (defScope st)) (hlen : ∀ ds d, R ds d → ds.length = ps.length)
    (hb : ∀ ds d, R ds d → WS ⟨M, N, defScope st, fun _ => true, k⟩ (defBody st) { nx := fun _ => d = .non, rt := fun d' => d' = d } (dats ds N.length)) : FnOk M.P M.w M.K M.mg M.base CX0 (k + 1) f fd ps (spD M R) := by
  refine F.ok S (fun vs H Q E h => ?_) fun cdv A outer s H vs Q E hr h => ?_
  · obtain ⟨G, ds, d, _, r, hR, _⟩ := h
    rw [← r.length]; exact hlen ds d hR
  · obtain ⟨G, ds, d, sG, r, hR, q⟩ := h
    refine ⟨tS ⟨M, N, defScope st, fun _ => true, k⟩ (defBody st), pss_tS ⟨rfl, rfl, rfl, rfl, rfl, rfl, rfl, rfl, hr, rfl, rfl⟩, ?_⟩
    refine hb ds d hR G H (L2.start N vs) G H (wd_start sG r) _ ⟨fun ρ σ G1 H1 W e => ?_, fun d' v H1 G1 st rr e => ?_, fun _ _ _ _ _ h => h.elim, fun _ _ _ _ _ h => h.elim, fun _ _ _ _ _ _ _ _ h => h.elim⟩
    · have e : d = .non := e
      subst e
      exact q .non H1 G1 W.fin rfl
    · have e : d' = d := e
      subst e
      exact q v H1 G1 st rr
theorem has_of {M : Mo} {x qual : Str} {st : Stmt} {f : Addr} {fd : FuncData} {N ps : List Str} {k : Nat} {R : List D → D → Prop} (F : Fun M.K x qual st f fd) (S : FnScope N ps (defScope st)) (hm : M.mg x = some (.ref f)) (hbd : Binds M.K fd ps []) (hlen : ∀ ds d, R ds d → ds.length = ps.length)
    (hb : ∀ ds d, R ds d → WS ⟨M, N, defScope st, fun _ => true, k⟩ (defBody st) { nx := fun _ => d = .non, rt := fun d' => d' = d } (dats ds N.length)) : Has M (k + 1) x R :=
  ⟨f, fd, ps, def_ok F S hlen hb, hm, F.kp, hbd⟩
def PInt (ds : List D) : Prop := ∀ d ∈ ds, ∃ n : Int, d = .int n
theorem reps_ints {M : Mo} {G G' : Hp} : ∀ {ds : List D} {vs : List V}, PInt ds → Reps M G ds vs → Reps M G' ds vs
  | [], vs, _, h => h
  | d :: ds, vs, hp, h => by
    obtain ⟨v, t, e, h1, h2⟩ := h
    obtain ⟨n, rfl⟩ := hp d List.mem_cons_self
    exact ⟨v, t, e, h1, reps_ints (fun d hd => hp d (List.mem_cons_of_mem _ hd)) h2⟩
theorem hasN_of {M : Mo} {x qual : Str} {st : Stmt} {f : Addr} {fd : FuncData} {N ps : List Str} {k : Nat} {R : List D → List D → Prop} (F : Fun M.K x qual st f fd) (S : FnScope N ps (defScope st)) (hm : M.mg x = some (.ref f)) (hbd : Binds M.K fd ps []) (hlen : ∀ ds d, R ds d → ds.length = ps.length ∧ PInt d)
    (hb : ∀ ds d, R ds d → WS ⟨M, N, defScope st, fun _ => true, k⟩ (defBody st) { nx := fun _ => False, rt := fun _ => False, fr := fun d' => d' = d } (dats ds N.length)) : HasN M (k + 1) x R := by
  refine ⟨f, fd, ps, F.ok S (fun vs H Q E h => ?_) (fun cdv A outer s H vs Q E hr h => ?_), hm, F.kp, hbd⟩
  · obtain ⟨G, ds, d, _, r, hR, _⟩ := h
    rw [← r.length]; exact (hlen ds d hR).1
  · obtain ⟨G, ds, d, sG, r, hR, q⟩ := h
    refine ⟨tS ⟨M, N, defScope st, fun _ => true, k⟩ (defBody st), pss_tS ⟨rfl, rfl, rfl, rfl, rfl, rfl, rfl, rfl, hr, rfl, rfl⟩, ?_⟩
    refine hb ds d hR G H (L2.start N vs) G H (wd_start sG r) _ ⟨fun _ _ _ _ _ h => h.elim, fun _ _ _ _ _ _ h => h.elim, fun _ _ _ _ _ h => h.elim, fun _ _ _ _ _ h => h.elim, fun es l xs H1 s1 s2 s3 s4 e => ?_⟩
    have e : es = d := e
    subst e
    obtain ⟨G1, r1⟩ := s4
    exact q l xs H1 s1 s2 s3 fun G' => reps_ints (hlen ds es hR).2 r1
mutual
def D.py : D → PyData
  | .non => .none
  | .bl b => .bool b
  | .int i => .int i
  | .str x => .str x
  | .tup ds => .tuple (D.pys ds)
  | .lst ds => .list (D.pys ds)
  | .scr ns => .list (ns.map PyData.int)
  | .dat _ _ _ => .none
  | .dic _ _ => .none
def D.pys : List D → List PyData
  | [] => []
  | d :: ds => d.py :: D.pys ds
end
mutual
def D.pl : D → Bool
  | .non | .bl _ | .int _ | .str _ => true
  | .tup ds => D.pls ds
  | .lst ds => D.pls ds
  | _ => false
def D.pls : List D → Bool
  | [] => true
  | d :: ds => d.pl && D.pls ds
end
mutual
theorem dp_of {M : Mo} {G H : Hp} (s : Same G H) : ∀ {d : D} {v : V}, d.pl = true → Rep M G d v → Dp M.K H v d.py
  | .non, _, _, h => by cases (show _ = _ from h); exact .non
  | .bl _, _, _, h => by cases (show _ = _ from h); exact .bl _
  | .int _, _, _, h => by cases (show _ = _ from h); exact .int _
  | .str _, _, _, h => by cases (show _ = _ from h); exact .str _
  | .tup ds, _, n, h => by
    obtain ⟨a, xs, rfl, q, r⟩ := h
    exact .tup (same_t s q) (dps_of s (by rw [D.pl] at n; exact n) r)
  | .lst ds, _, n, h => by
    obtain ⟨a, xs, rfl, q, r⟩ := h
    exact .lst (SqL.of (s _ _ q)) (dps_of s (by rw [D.pl] at n; exact n) r)
  | .scr ns, _, n, h => by simp [D.pl] at n
  | .dat g b l, _, n, h => by simp [D.pl] at n
  | .dic ks ds, _, n, h => by simp [D.pl] at n
theorem dps_of {M : Mo} {G H : Hp} (s : Same G H) : ∀ {ds : List D} {vs : List V}, D.pls ds = true → Reps M G ds vs → DpAll M.K H vs (D.pys ds)
  | [], _, _, h => by cases (show _ = _ from h); exact .nil
  | d :: ds, _, n, h => by
    obtain ⟨x, r, rfl, h1, h2⟩ := h
    rw [D.pls, Bool.and_eq_true] at n
    exact .cons (dp_of s n.1 h1) (dps_of s n.2 h2)
end
theorem ed_eqD (ha : ED Γ ρ a x) (hb : ED Γ ρ b y) (hx : x.pl = true) (hy : y.pl = true) (sx : SeqAt.shaped x.py = true) (sy : SeqAt.shaped y.py = true) : ED Γ ρ (.Compare a [.Eq] [b] pos) (.bl (PyData.eqv x.py y.py)) :=
  ed_cmp (r := rEqD) (fun _ hX => op_eqD hX.room.units) ha hb (nomark _) fun G H u v Q s r1 r2 q => ⟨_, _, dp_of s hx r1, dp_of s hy r2, sx, sy, q _ H G (Step.refl s) rfl⟩
theorem td_neD (ha : ED Γ ρ a x) (hb : ED Γ ρ b y) (hx : x.pl = true) (hy : y.pl = true) (sx : SeqAt.shaped x.py = true) (sy : SeqAt.shaped y.py = true) : TD Γ ρ (.Compare a [.NotEq] [b] pos) (!PyData.eqv x.py y.py) :=
  td_cmp (r := rNeD) (fun _ hX => op_neD hX.room.units) ha hb (nomark _) fun G H u v Q s r1 r2 q => ⟨_, _, dp_of s hx r1, dp_of s hy r2, sx, sy, q _ H G (Step.refl s) rfl⟩
theorem td_eqD (ha : ED Γ ρ a x) (hb : ED Γ ρ b y) (hx : x.pl = true) (hy : y.pl = true) (sx : SeqAt.shaped x.py = true) (sy : SeqAt.shaped y.py = true) : TD Γ ρ (.Compare a [.Eq] [b] pos) (PyData.eqv x.py y.py) :=
  td_cmp (r := rEqD) (fun _ hX => op_eqD hX.room.units) ha hb (nomark _) fun G H u v Q s r1 r2 q => ⟨_, _, dp_of s hx r1, dp_of s hy r2, sx, sy, q _ H G (Step.refl s) rfl⟩
mutual
def D.pn : D → Bool
  | .non | .bl _ | .int _ => true
  | .tup ds => D.pns ds
  | .lst ds => D.pns ds
  | _ => false
def D.pns : List D → Bool
  | [] => true
  | d :: ds => d.pn && D.pns ds
end
mutual
theorem pl_of_pn : ∀ {d : D}, d.pn = true → d.pl = true ∧ d.py.canLay0 = true
  | .non, _ => ⟨rfl, rfl⟩
  | .bl _, _ => ⟨rfl, rfl⟩
  | .int _, _ => ⟨rfl, rfl⟩
  | .str _, n => by simp [D.pn] at n
  | .tup ds, n => by rw [D.pn] at n; rw [D.pl, D.py, PyData.canLay0]; exact pls_of_pns n
  | .lst ds, n => by rw [D.pn] at n; rw [D.pl, D.py, PyData.canLay0]; exact pls_of_pns n
  | .scr ns, n => by simp [D.pn] at n
  | .dat g b l, n => by simp [D.pn] at n
  | .dic ks ds, n => by simp [D.pn] at n
theorem pls_of_pns : ∀ {ds : List D}, D.pns ds = true → D.pls ds = true ∧ PyData.canLayAll0 (D.pys ds) = true
  | [], _ => ⟨rfl, rfl⟩
  | d :: ds, n => by
    rw [D.pns, Bool.and_eq_true] at n
    rw [D.pls, D.pys, PyData.canLayAll0, Bool.and_eq_true, Bool.and_eq_true]
    exact ⟨⟨(pl_of_pn n.1).1, (pls_of_pns n.2).1⟩, (pl_of_pn n.1).2, (pls_of_pns n.2).2⟩
end
theorem pns_of : ∀ {ds : List D}, (∀ d ∈ ds, d.pn = true) → D.pns ds = true
  | [], _ => rfl
  | d :: ds, h => by rw [D.pns, h d List.mem_cons_self, pns_of fun x hx => h x (List.mem_cons_of_mem _ hx)]; rfl
theorem depths_le {n : Nat} : ∀ {ds : List D}, (∀ d ∈ ds, d.py.depth ≤ n) → PyData.depthAll (D.pys ds) ≤ n
  | [], _ => Nat.zero_le _
  | d :: ds, h => by
    rw [D.pys, PyData.depthAll]
    exact Nat.max_le.mpr ⟨h d List.mem_cons_self, depths_le fun x hx => h x (List.mem_cons_of_mem _ hx)⟩
theorem shaped_of {d : D} (h : d.pn = true) (hd : d.py.depth ≤ 64) : SeqAt.shaped d.py = true := by
  unfold SeqAt.shaped
  rw [(pl_of_pn h).2, decide_eq_true hd]; rfl
theorem eqv_self {d : D} (h : d.pn = true) : PyData.eqv d.py d.py = true := SeqAt.eqv_refl _ (pl_of_pn h).2
abbrev qD (x : Qt) : D := .tup [.int x.1, .int x.2]
theorem eqv_q (x y : Qt) : PyData.eqv (qD x).py (qD y).py = decide (x = y) := by
  obtain ⟨a, b⟩ := x
  obtain ⟨c, d⟩ := y
  have e : decide ((a, b) = (c, d)) = (decide (a = c) && decide (b = d)) := by
    by_cases h1 : a = c <;> by_cases h2 : b = d <;> simp [h1, h2]
  rw [e]
  simp [D.py, D.pys, PyData.eqv, PyData.eqvAll]
  by_cases h1 : a = c <;> by_cases h2 : b = d <;> simp [h1, h2]
theorem shaped_q (x : Qt) : SeqAt.shaped (qD x).py = true := by
  simp [D.py, D.pys, SeqAt.shaped, PyData.canLay0, PyData.canLayAll0, PyData.depth, PyData.depthAll]
end
end BB
set_option Elab.async false
set_option linter.all false
set_option maxRecDepth 100000
set_option maxHeartbeats 4000000
namespace BB
open PySem PySem.Spec PyProof.Rows L2
theorem b2n_inj {a b : Bool} (h : b2n a = b2n b) : a = b := by cases a <;> cases b <;> first | rfl | (exfalso; revert h; decide)
theorem keyN_inj {a b : Int × Bool} (h : keyN a = keyN b) : a = b := by
  obtain ⟨i, x⟩ := a
  obtain ⟨j, y⟩ := b
  unfold keyN at h
  injection h with h
  injection h with h1 h2
  injection h2 with h2 _
  injection h1 with h1
  injection h2 with h2
  have h1 : i = j := h1
  have h2 : x = y := b2n_inj h2
  rw [h1, h2]
theorem keyN_iff {a b : Int × Bool} : keyN a = keyN b ↔ a = b := ⟨keyN_inj, fun e => by rw [e]⟩
theorem dic_mono {P : Program} {w : World} {a : Addr} {es : List Ent} {h1 h2 : Heap} (x : dicF P w a es h1) (k : ∀ o, h1.get? a = some o → h2.get? a = some o) : dicF P w a es h2 := by
  obtain ⟨z1, z2, z3, xs, r, o, en, ep, e, q⟩ := x
  exact ⟨z1, z2, z3, xs, r, o, en, ep, k o e, q⟩
theorem dic_ok {P : Program} {w : World} {H : Hp} {h : Heap} {a : Addr} {es : List Ent} (x : dicF P w a es h) : ObjOk P w H h a (dicO P w a es) := by
  refine ⟨x, ?_, fun h1 h2 q k => dic_mono q k⟩
  obtain ⟨_, _, _, _, _, o, _, _, e, _⟩ := x
  exact ⟨o, e⟩
theorem dic_get {P : Program} {w : World} {H : Hp} {h : Heap} {a : Addr} {es : List Ent} (ok : HOk P w H h) (e : H a = some (dicO P w a es)) : dicF P w a es h := by
  obtain ⟨x, _⟩ := (show ObjOk P w H h a (dicO P w a es) from ok a _ e)
  exact x
theorem keyIs_of {P : Program} {w : World} {H : Hp} {h : Heap} {t : Addr} {k : Int × Bool} (ok : HOk P w H h) (e : H t = some (keyV k)) : (nestedKind P w).is h (keyN k) t := by
  obtain ⟨_, its, r, o, h1, h2, n, h3⟩ := (show ObjOk P w H h t (.tup [.int k.1, .bl k.2]) from ok t _ e)
  obtain ⟨u, w', rfl, ⟨tk, rfl⟩, r2⟩ := vals2 r
  cases r2
  refine ⟨.tup h1 h2 h3 ?_, by show NestedKey.depth (.tup [.num k.1, .num (b2n k.2)]) ≤ 8; simp [NestedKey.depth, NestedKey.depthAll]⟩
  exact .cons (.int k.1 tk) (.cons (.bool rfl) .nil)
theorem dic_of {P : Program} {w : World} {H : Hp} {h : Heap} {a : Addr} {es : List Ent} (ok : HOk P w H h) (x : dicF P w a es h) (hk : ∀ e ∈ es, H e.2.1 = some (keyV e.1)) :
    ∃ xs, Paired EntR es xs ∧ h.DictOfH (nestedKind P w) a xs ∧ es.length ≤ sizeLine ∧ (a == sysModules) = false := by
  obtain ⟨z1, z2, z3, xs, r, o, en, ep, h1, h2, h3, h4⟩ := x
  refine ⟨xs, r, ⟨o, en, ep, h1, h2, h3, h4, ?_, ?_⟩, z1, z2⟩
  · clear h4 z1 z3
    induction r with
    | nil => intro x hx; exact nomatch hx
    | @cons p q ps qs hq t ih =>
      intro x hx
      rcases List.mem_cons.mp hx with e | hx
      · subst e
        obtain ⟨e1, e2, _⟩ := hq
        rw [e1, e2]
        exact keyIs_of ok (hk p List.mem_cons_self)
      · exact ih (fun e he => hk e (List.mem_cons_of_mem _ he)) x hx
  · have e : xs.map (·.1) = (es.map (·.1)).map keyN := by
      clear h4 z1 z3 hk
      induction r with
      | nil => rfl
      | @cons p q ps qs hq t ih => rw [List.map_cons, List.map_cons, List.map_cons, ih, hq.1]
    rw [e]
    unfold List.Nodup at *
    exact List.Pairwise.map _ (fun a b h z => h (keyN_inj z)) z3
def dget : List (Int × Bool) → List D → (Int × Bool) → Option D
  | k :: ks, d :: ds, q => if k = q then some d else dget ks ds q
  | _, _, _ => none
theorem dget_rel {M : Mo} {G : Hp} {q : Int × Bool} : ∀ {es : List Ent} {xs : List (NestedKey × Addr × Value)} {ds : List D}, Paired EntR es xs → Reps M G ds (es.map (·.2.2)) →
    (∀ d, dget (es.map (·.1)) ds q = some d → ∃ p v, atKey xs (keyN q) = some p ∧ RelV v p.2 ∧ Rep M G d v) ∧ (dget (es.map (·.1)) ds q = none → atKey xs (keyN q) = none)
  | [], _, ds, .nil, r => by cases ds <;> exact ⟨fun d h => by simp [dget] at h, fun _ => rfl⟩
  | e :: es, _, [], _, r => by simp [Reps] at r
  | e :: es, _, d :: ds, .cons (b := b) (l₂ := xs) hq t, r => by
    obtain ⟨v, vr, ev, r1, r2⟩ := r
    rw [List.map_cons] at ev
    cases ev
    obtain ⟨i1, i2⟩ := dget_rel (q := q) t r2
    obtain ⟨e1, e2, e3⟩ := hq
    by_cases h : e.1 = q
    · have hb : b.1 = keyN q := by rw [e1, h]
      have hat : atKey (b :: xs) (keyN q) = some b.2 := by simp [atKey, List.find?_cons, hb]
      refine ⟨fun d' hd => ?_, fun hd => ?_⟩
      · rw [List.map_cons, dget, if_pos h] at hd
        cases hd
        exact ⟨b.2, _, hat, e3, r1⟩
      · rw [List.map_cons, dget, if_pos h] at hd
        cases hd
    · have hb : ¬ b.1 = keyN q := by rw [e1]; exact fun z => h (keyN_inj z)
      have hat : atKey (b :: xs) (keyN q) = atKey xs (keyN q) := by simp [atKey, List.find?_cons, hb]
      rw [hat, List.map_cons, dget, if_neg h]
      exact ⟨i1, i2⟩
section
variable {prog : Program} {w : World} {K : Type} [DecidableEq K] {knd : HeapKind prog w K} {A : Around} {E : Value → Shared → Prop}
theorem dict_pairsX {env : Env} {keys : List (Option Expr)} {values : List Expr} {pos : Pos} {s : Shared} {pairs : List (Sem Value × Sem Value)} {Q : Value → Shared → Prop} (hu : knd.room A)
    (hshape : (evalEachOpt keys env).zip ((evalEach values env).map fun v => do let x ← v; standAt pos; pure x) = pairs.map fun p => (some p.1, p.2)) (h0 : pairs ≠ []) (hlen : pairs.length ≤ 15)
    (h : wpAny (model prog w) A (evalPairs pairs) (fun vs s₁ => ∃ ps, CarriesH knd s₁.heap vs ps ∧ s₁.heap.DictOfH knd s.heap.objs.size [] ∧
      ∀ h' tk, h'.DictOfH knd s.heap.objs.size (storedAllH [] ps) → Heap.SameBut s.heap.objs.size s₁.heap h' → Q (.ref s.heap.objs.size) { s₁ with heap := h', toks := tk }) E
      { s with heap := s.heap.push { cls := .type "dict", data := .dict #[] } }) :
    wpAny (model prog w) A (eval (.Dict keys values pos) env) Q E s := by
  rw [arm_eval_Dict, hshape, dictDisplay_pairs pairs h0 (by omega)]
  exact wpAny_bind (wpAny_standAt (wpAny_bind (wpAny_subDictH (knd := knd) (Q := fun d s' => wpAny (model prog w) A (pure (Value.ref d)) Q E s') hu hlen
    (wpAny_mono h (fun vs s₁ h₁ => by obtain ⟨ps, hc, hm, hq⟩ := h₁; exact ⟨ps, hc, hm, fun h' tk a b => wpAny_pure (hq h' tk a b)⟩) fun _ _ e => e))))
end
section
variable {Γ : Cy} {ρ ρ' : Ro} {e a b c o i ek ev : Expr} {p pos pos' : Pos} {d x y z : D} {ds : List D} {E : EndsD} {q : Int × Bool} {ks : List (Int × Bool)}
theorem room8 {k : Nat} {A : Around} (r : Room k A) : (nestedKind P w).room A := by
  have := r.un
  show A.units + 8 < cLine
  omega
theorem room8in {P : Program} {w : World} {k : Nat} {A : Around} (r : Room k A) : (nestedKind P w).room A.in1 := by
  have := r.un
  show A.units + 1 + 8 < cLine
  omega
def tDisp1 (P : Program) (w : World) (tk tv : TE) : TE := fun σ H Q => ∀ p, H p = none → tk σ (upd H p (dicO P w p [])) fun x H1 => tv σ H1 fun y H2 => ∃ k t, x = .ref t ∧ H2 t = some (keyV k) ∧ H2 p = some (dicO P w p []) ∧ Q (.ref p) (upd H2 p (dicO P w p [(k, t, y)]))
theorem pe_disp1 {X : Cx} {k : Nat} {tk tv : TE} (hr : Room k X.A) (hk : PE X ek tk) (hv : PE X ev tv) : PE X (.Dict [some ek] [ev] pos) (tDisp1 X.prog X.w tk tv) := by
  refine ⟨fun pins s σ H Q I h => ?_⟩
  have hn := I.hok.fresh (Nat.le_refl s.heap.objs.size)
  have hb : (s.heap.objs.size == sysModules) = false := beq_eq_false_iff_ne.mpr (Ne.symm (Nat.ne_of_lt I.big))
  have I1 := I.laid (a := s.heap.objs.size) (o := dicO X.prog X.w s.heap.objs.size []) (h' := s.heap.push { cls := .type "dict", data := .dict #[] }) (t' := s.toks) (fun _ _ q => Heap.get?_push_of_some _ q) (Nat.le_refl _)
    (dic_ok ⟨Nat.zero_le _, hb, List.nodup_nil, [], .nil, _, #[], 0, Heap.get?_push_size _ rfl, ⟨rfl, rfl, rfl⟩, rfl, rfl⟩)
  refine dict_pairsX (knd := nestedKind X.prog X.w) (room8 hr) (zip_pairTrees [some ek] [ev] X.env pos rfl rfl) (by simp [pairTrees]) (by simp [pairTrees]) ?_
  refine pairTrees_cons_walk (thn (hk.run pins _ σ _ _ I1 (h _ hn)) fun u s1 ⟨x, H1, I2, rx, q1⟩ => thn (hv.run pins s1 σ H1 _ I2 q1) fun w2 s2 ⟨y, H2, I3, ry, kk, t, ex, ht, hp, q2⟩ => pairTrees_nil_walk ?_)
  subst ex
  obtain rfl : u = Value.ref t := rx
  have hkey := keyIs_of I3.hok ht
  obtain ⟨xs, rel, dd, _, _⟩ := dic_of I3.hok (dic_get I3.hok hp) (fun e he => by cases he)
  cases rel
  refine ⟨[(keyN kk, t, w2)], ⟨rfl, rfl, hkey, True.intro⟩, dd, fun h' tk dd' hs => ⟨.ref s.heap.objs.size, _, ?_, rfl, q2⟩⟩
  obtain ⟨od, en, ep, e1, e2, e3, e4, _, _⟩ := dd'
  refine I3.write (t' := tk) (x := s.heap.objs.size) (e := s.heap.objs.size) (by rw [hp]; exact True.intro) (.inl rfl) (fun b q hb z => (hs.2 b hb).trans z) ⟨od, e1⟩ (dic_ok ⟨?_, hb, ?_, [(keyN kk, t, w2)], .cons ⟨rfl, rfl, ry⟩ .nil, od, en, ep, e1, e2, e3, e4⟩)
  · show 1 ≤ sizeLine; decide
  · simp
theorem w1_newDict {M : Mo} {N : List Str} {sc : Scope} {fn : Str → Bool} {k : Nat} {j : Nat} {x : Str} {n : Int} {bb : Bool} (hN : N[j]? = some x) (hnd : N.Nodup) (hl : locB sc fn x = true) (hk : ED ⟨M, N, sc, fn, k⟩ ρ ek (.tup [.int n, .bl bb])) (hkn : ∀ ds es, ek = .Tuple es ds p → True)
    (hv : ED ⟨M, N, sc, fn, k⟩ ρ ev d) (hkt : ∃ es x1 pe, ek = .Tuple es x1 pe ∧ AD ⟨M, N, sc, fn, k⟩ ρ es [.int n, .bl bb]) (hE : E.nx (ρ.set j (.odic [(n, bb)] [d]))) (hs : ∀ env, swapsWith (.Dict [some ek] [ev] pos) (some (.Name x pos')) p.line env = pure false := by intro _; rfl) :
    W1 ⟨M, N, sc, fn, k⟩ (.Assign [.Name x pos'] (.Dict [some ek] [ev] pos) p) E ρ := by
  intro G0 H0 σ G H W D r
  obtain ⟨es, x1, pe, rfl, hA⟩ := hkt
  refine tS1_of (t := fun X => tAsg (tDisp1 X.prog X.w (tTup (tA ⟨M, N, sc, fn, k⟩ es)) (tF ⟨M, N, sc, fn, k⟩ ev)) (gName j)) (fun X hX => ps_set (by rw [hX.N]; exact hnd) (by rw [hX.N]; exact hN) (by rw [hX.sc]; exact (loc_of hl).1) (pe_disp1 hX.room (pe_tup (pa_tA hX)) (pe_tF hX)) (hs _) (by rw [hX.fn, hX.sc]; exact (loc_of hl).2)) fun X hX => ?_
  intro p0 hp0
  rw [hX.P, hX.w]
  have s0 := Step.new' (o := dicO M.P M.w p0 []) W.sub hp0
  refine hA G0 H0 σ G _ (W.step s0) _ fun vs H1 G1 s1 r1 => ?_
  obtain ⟨v, w', rfl, r2, r3⟩ := reps2 r1
  have r2 : v = .int n := r2
  have r3 : w' = .bl bb := r3
  subst r2 r3
  refine ⟨by show 2 ≤ sizeLine; decide, fun t ht => ?_⟩
  have W1 := (W.step s0).step s1
  have s2 := Step.new (o := keyV (n, bb)) W1.sub ht
  refine hv G0 H0 σ _ _ (W1.step s2) _ fun y H3 G3 s3 r4 => ?_
  have st := ((s0.trans s1).trans s2).trans s3
  have hp1 : H3 p0 = some (dicO M.P M.w p0 []) := s3.ex _ _ (s2.ex _ _ (s1.ex _ _ upd_same))
  refine ⟨(n, bb), t, rfl, s3.ex _ _ upd_same, hp1, ?_⟩
  have gp : G3 p0 = none := by
    have e1 : G1 p0 = G p0 := s1.old p0 _ upd_same
    have e2 : (upd G1 t (keyV (n, bb))) p0 = G1 p0 := s2.old p0 _ (s1.ex _ _ upd_same)
    have e3 : G3 p0 = (upd G1 t (keyV (n, bb))) p0 := s3.old p0 _ (s2.ex _ _ (s1.ex _ _ upd_same))
    rw [e3, e2, e1]; exact free_of_same W.sub hp0
  have st' : Step H G (upd H3 p0 (dicO M.P M.w p0 [((n, bb), t, y)])) G3 := by
    refine ⟨fun b u e => ?_, fun b u e => st.old b u e, fun b u e => ?_⟩
    · rw [upd_ne (ne_of_none e hp0)]; exact st.ex b u e
    · have hb : b ≠ p0 := fun z => by rw [z, gp] at e; cases e
      rw [upd_ne hb]; exact st.sub b u e
  refine r.nx _ _ G3 _ (W.put (s := .odic [(n, bb)] [d]) (as := [p0]) st' ⟨p0, [((n, bb), t, y)], rfl, rfl, upd_same, fun e he => ?_, rfl, ⟨y, [], rfl, r4, rfl⟩⟩ fun a ha => ?_) hE
  · cases List.mem_singleton.mp he
    have : G3 t = some (keyV (n, bb)) := s3.same ((W1.step s2).sub) _ _ upd_same
    exact this
  · cases List.mem_singleton.mp ha
    exact ⟨gp, hp0, by rw [upd_same]; simp⟩
end
end BB
set_option Elab.async false
set_option linter.all false
set_option maxRecDepth 100000
set_option maxHeartbeats 4000000
namespace BB
open PySem PySem.Spec PyProof.Rows L2
def DAt (P : Program) (w : World) (H : Hp) (x y : V) (a : Addr) (es : List Ent) (k : Int × Bool) (t : Addr) : Prop :=
  x = .ref a ∧ y = .ref t ∧ H t = some (keyV k) ∧ H a = some (dicO P w a es) ∧ ∀ e ∈ es, H e.2.1 = some (keyV e.1)
def tDG (P : Program) (w : World) (td ty : TE) : TE := fun σ H Q => td σ H fun x H1 => ty σ H1 fun y H2 => ∃ a es k t v, DAt P w H2 x y a es k t ∧ (∀ xs, Paired EntR es xs → ∃ p, atKey xs (keyN k) = some p ∧ RelV v p.2) ∧ Q v H2
def tDI (P : Program) (w : World) (neg : Bool) (ty td : TE) : TE := fun σ H Q => ty σ H fun y H1 => td σ H1 fun x H2 => ∃ a es k t bo, DAt P w H2 x y a es k t ∧ (∀ xs, Paired EntR es xs → (atKey xs (keyN k)).isSome = bo) ∧ Q (.bl (if neg then !bo else bo)) H2
def sDP (P : Program) (w : World) (td ty tv : TE) : TS := fun D σ H => tv σ H fun v H1 => td σ H1 fun x H2 => ty σ H2 fun y H3 => ∃ a es k t, DAt P w H3 x y a es k t ∧ (∀ xs, Paired EntR es xs → atKey xs (keyN k) = none) ∧ k ∉ es.map (·.1) ∧ es.length < sizeLine ∧ D.nx σ (upd H3 a (dicO P w a (es ++ [(k, t, v)])))
section
variable {X : Cx} {o i e value : Expr} {pos pos' : Pos} {td ty tv : TE} {k : Nat}
theorem pe_dG (hr : Room k X.A) (ho : PE X o td) (hi : PE X i ty) (hs : NoSl i) : PE X (.Subscript o i pos) (tDG X.prog X.w td ty) := by
  refine ⟨fun pins s σ H Q I h => ?_⟩
  refine subD_of PySem.F.slot_dict_getitem.lookup hs (thn (ho.run pins s σ H _ I h) fun u s1 ⟨x, H1, I1, rx, q1⟩ => thn (hi.run pins s1 σ H1 _ I1 q1) fun iv s2 ⟨y, H2, I2, ry, a, es, kk, t, v, ⟨ex, ey, ht, ha, hk⟩, g, q2⟩ => ?_)
  subst ex ey
  obtain rfl : u = Value.ref a := rx
  obtain rfl : iv = Value.ref t := ry
  obtain ⟨xs, rel, dd, _, _⟩ := dic_of I2.hok (dic_get I2.hok ha) hk
  obtain ⟨p, hp, rv⟩ := g xs rel
  exact ⟨dd.typeIs, wpAny_getItem_heap (room8in hr) (keyIs_of I2.hok ht) dd hp ⟨v, H2, I2.tok _, rv, q2⟩⟩
theorem pc_dI (hr : Room k X.A) (hi : PE X i ty) (ho : PE X o td) : PC X .In i o (tDI X.prog X.w false ty td) := by
  refine ⟨fun pins s σ H Q I h => ?_⟩
  refine thn (hi.run pins s σ H _ I h) fun iv s1 ⟨y, H1, I1, ry, q1⟩ => thn (ho.run pins s1 σ H1 _ I1 q1) fun u s2 ⟨x, H2, I2, rx, a, es, kk, t, bo, ⟨ex, ey, ht, ha, hk⟩, g, q2⟩ => ?_
  subst ex ey
  obtain rfl : u = Value.ref a := rx
  obtain rfl : iv = Value.ref t := ry
  obtain ⟨xs, rel, dd, _, hd⟩ := dic_of I2.hok (dic_get I2.hok ha) hk
  refine wpAny_in_heap (room8in hr) (keyIs_of I2.hok ht) hd dd ?_
  rw [g xs rel]
  exact ⟨.bl bo, H2, I2.tok _, rfl, q2⟩
theorem pc_dNI (hr : Room k X.A) (hi : PE X i ty) (ho : PE X o td) : PC X .NotIn i o (tDI X.prog X.w true ty td) := by
  refine ⟨fun pins s σ H Q I h => ?_⟩
  refine thn (hi.run pins s σ H _ I h) fun iv s1 ⟨y, H1, I1, ry, q1⟩ => thn (ho.run pins s1 σ H1 _ I1 q1) fun u s2 ⟨x, H2, I2, rx, a, es, kk, t, bo, ⟨ex, ey, ht, ha, hk⟩, g, q2⟩ => ?_
  subst ex ey
  obtain rfl : u = Value.ref a := rx
  obtain rfl : iv = Value.ref t := ry
  obtain ⟨xs, rel, dd, _, hd⟩ := dic_of I2.hok (dic_get I2.hok ha) hk
  refine wpAny_notIn_heap (room8in hr) (keyIs_of I2.hok ht) hd dd ?_
  rw [g xs rel]
  exact ⟨.bl (!bo), H2, I2.tok _, rfl, q2⟩
theorem ent_snoc {es : List Ent} {xs : List (NestedKey × Addr × Value)} (r : Paired EntR es xs) {k : Int × Bool} {t : Addr} {v : V} {u : Value} (rv : RelV v u) : Paired EntR (es ++ [(k, t, v)]) (xs ++ [(keyN k, t, u)]) := by
  induction r with
  | nil => exact .cons ⟨rfl, rfl, rv⟩ .nil
  | cons h _ ih => exact .cons h ih
theorem ps_dP (hr : Room k X.A) (ho : PE X o td) (hi : PE X i ty) (hv : PE X value tv) (hs : swapsWith value (some (.Subscript o i pos')) pos.line X.env = pure false) : PS X (.Assign [.Subscript o i pos'] value pos) (sDP X.prog X.w td ty tv) := by
  refine ⟨fun pins s σ H D I h => ?_⟩
  refine wpAny_Assign_Subscript (thn (hv.run pins s σ H _ I h) fun r s1 ⟨v, H1, I1, rv, q1⟩ => thn (ho.run pins s1 σ H1 _ I1 q1) fun u s2 ⟨x, H2, I2, rx, q2⟩ => thn (hi.run pins s2 σ H2 _ I2 q2) fun iv s3 ⟨y, H3, I3, ry, a, es, kk, t, ⟨ex, ey, ht, ha, hk⟩, g, hnk, hl, q3⟩ => ?_) hs
  subst ex ey
  obtain rfl : u = Value.ref a := rx
  obtain rfl : iv = Value.ref t := ry
  obtain ⟨z1, z2, z3, _⟩ := dic_get I3.hok ha
  obtain ⟨xs, rel, dd, _, hd⟩ := dic_of I3.hok (dic_get I3.hok ha) hk
  have hlen : es.length = xs.length := Paired.length rel
  refine wpAny_setItem_heap (hsz := by rw [← hlen]; exact z1) (room8in hr) (keyIs_of I3.hok ht) dd fun h' dd' hs => ⟨σ, _, ?_, q3⟩
  rw [storedH_new (g xs rel)] at dd'
  obtain ⟨od, en, ep, e1, e2, e3, e4, _, _⟩ := dd'
  refine I3.write (x := a) (e := a) (by rw [ha]; exact True.intro) (.inl rfl) (fun b q hb z => (hs.2 b hb).trans z) ⟨od, e1⟩ (dic_ok ⟨?_, hd, ?_, _, ent_snoc rel rv, od, en, ep, e1, e2, e3, e4⟩)
  · rw [List.length_append]; exact hl
  · rw [List.map_append, List.nodup_append]
    refine ⟨z3, by simp, fun a ha b hb z => ?_⟩
    have : b = kk := by simpa using hb
    subst this
    subst z
    exact hnk ha
end
section
variable {ρ ρ' : Ro} {e a b c o i ek ev : Expr} {es : List Expr} {p p1 p2 pos pos' : Pos} {d x y z : D} {ds : List D} {E : EndsD} {ks : List (Int × Bool)} {n : Int} {bb : Bool}
variable {M : Mo} {N : List Str} {sc : Scope} {fn : Str → Bool} {k : Nat}
theorem ids_of {G H : Hp} (s : Same G H) {es : List Ent} (h : ∀ e ∈ es, G e.2.1 = some (keyV e.1)) : ∀ e ∈ es, H e.2.1 = some (keyV e.1) := fun e he => s _ _ (h e he)
theorem key_run {G0 H0 : Hp} {σ : L2.St} {G H : Hp} (hA : AD ⟨M, N, sc, fn, k⟩ ρ es [.int n, .bl bb]) (W : Wd M G0 H0 ρ σ G H) {Q : VK} (q : ∀ t H' G', Step H G H' G' → H' t = some (keyV (n, bb)) → G' t = some (keyV (n, bb)) → Q (.ref t) H') : tTup (tA ⟨M, N, sc, fn, k⟩ es) σ H Q := by
  refine hA G0 H0 σ G H W _ fun vs H1 G1 s1 r1 => ?_
  obtain ⟨v, w', rfl, r2, r3⟩ := reps2 r1
  have r2 : v = .int n := r2
  have r3 : w' = .bl bb := r3
  subst r2 r3
  refine ⟨by show 2 ≤ sizeLine; decide, fun t ht => ?_⟩
  have s2 := Step.new (o := keyV (n, bb)) (W.step s1).sub ht
  exact q t _ _ (s1.trans s2) upd_same upd_same
theorem ed_dgetO {j : Nat} {x : Str} {x1 : Nat} (hN : N[j]? = some x) (hv : visB sc x = true) (ho : ρ[j]? = some (.odic ks ds)) (hA : AD ⟨M, N, sc, fn, k⟩ ρ es [.int n, .bl bb]) (h : dget ks ds (n, bb) = some d)
    (hd : (x == ("__debug__" : Str)) = false := by decide) (hcd : (x == ("__classdict__" : Str)) = false := by decide) (hs : NoSl (.Tuple es x1 p2) := by exact fun _ _ => rfl) : ED ⟨M, N, sc, fn, k⟩ ρ (.Subscript (.Name x p1) (.Tuple es x1 p2) pos) d := by
  intro G0 H0 σ G H W Q q
  refine tF_of (t := fun X => tDG X.prog X.w (tVar j) (tTup (tA ⟨M, N, sc, fn, k⟩ es))) (fun X hX => pe_dG hX.room (pe_var (by rw [hX.N]; exact hN) (by rw [hX.sc]; exact vis_of hv) hd hcd) (pe_tup (pa_tA hX)) hs) fun X hX => ?_
  obtain ⟨α, A⟩ := W.wa
  have hi : j < σ.length := by rw [W.len]; exact (List.getElem?_eq_some_iff.mp ho).1
  have e0 : σ[j]? = some σ[j] := List.getElem?_eq_getElem hi
  obtain ⟨l, en, ea, e1, e2, e3, e4, e5⟩ := A.s1 j _ _ ho e0
  subst e4
  refine ⟨.ref l, by rw [e0, e1], key_run hA W fun t H1 G1 s1 ht _ => ?_⟩
  have hex : ∃ v, (∀ xs, Paired EntR en xs → ∃ p, atKey xs (keyN (n, bb)) = some p ∧ RelV v p.2) ∧ Rep M G1 d v := by
    have key : ∀ {es : List Ent} {ds : List D}, Reps M G1 ds (es.map (·.2.2)) → dget (es.map (·.1)) ds (n, bb) = some d → ∃ v, (∀ xs, Paired EntR es xs → ∃ p, atKey xs (keyN (n, bb)) = some p ∧ RelV v p.2) ∧ Rep M G1 d v := by
      intro es
      induction es with
      | nil => intro ds r h; cases ds <;> simp [dget] at h
      | cons e es ih =>
        intro ds r h
        cases ds with
        | nil => simp [dget] at h
        | cons d0 ds =>
          obtain ⟨v, vr, ev, r1, r2⟩ := r
          rw [List.map_cons] at ev
          cases ev
          rw [List.map_cons, dget] at h
          by_cases hq : e.1 = (n, bb)
          · rw [if_pos hq] at h
            cases h
            refine ⟨_, fun xs rx => ?_, r1⟩
            cases rx with
            | @cons _ b' _ _ hh _ =>
              obtain ⟨q1, q2, q3⟩ := hh
              have hb : b'.1 = keyN (n, bb) := by rw [q1, hq]
              exact ⟨b'.2, by simp [atKey, List.find?_cons, hb], q3⟩
          · rw [if_neg hq] at h
            obtain ⟨v', g, r'⟩ := ih r2 h
            refine ⟨v', fun xs rx => ?_, r'⟩
            cases rx with
            | @cons _ b' _ xs' hh tt =>
              obtain ⟨q1, q2, q3⟩ := hh
              have hb : ¬ b'.1 = keyN (n, bb) := by rw [q1]; exact fun z => hq (keyN_inj z)
              obtain ⟨p, hp, rv⟩ := g xs' tt
              exact ⟨p, by rw [← hp]; simp [atKey, List.find?_cons, hb], rv⟩
    exact key (e5.mono (s1.same W.sub)) h
  obtain ⟨v, hv1, hv2⟩ := hex
  rw [hX.P, hX.w]
  exact ⟨l, en, (n, bb), t, v, ⟨rfl, rfl, ht, s1.ex _ _ e2, fun e he => s1.ex _ _ (W.sub _ _ (e3 e he))⟩, hv1, q v H1 G1 s1 hv2⟩
theorem ed_dget {j : Nat} {x : Str} {x1 : Nat} (hN : N[j]? = some x) (hv : visB sc x = true) (ho : ρ[j]? = some (.dat (.dic ks ds))) (hA : AD ⟨M, N, sc, fn, k⟩ ρ es [.int n, .bl bb]) (h : dget ks ds (n, bb) = some d)
    (hd : (x == ("__debug__" : Str)) = false := by decide) (hcd : (x == ("__classdict__" : Str)) = false := by decide) (hs : NoSl (.Tuple es x1 p2) := by exact fun _ _ => rfl) : ED ⟨M, N, sc, fn, k⟩ ρ (.Subscript (.Name x p1) (.Tuple es x1 p2) pos) d := by
  intro G0 H0 σ G H W Q q
  refine tF_of (t := fun X => tDG X.prog X.w (tVar j) (tTup (tA ⟨M, N, sc, fn, k⟩ es))) (fun X hX => pe_dG hX.room (pe_var (by rw [hX.N]; exact hN) (by rw [hX.sc]; exact vis_of hv) hd hcd) (pe_tup (pa_tA hX)) hs) fun X hX => ?_
  obtain ⟨v0, e1, l, en, rfl, e2, e3, e4, e5⟩ := W.get ho
  subst e4
  refine ⟨.ref l, e1, key_run hA W fun t H1 G1 s1 ht _ => ?_⟩
  have st := s1.same W.sub
  rw [hX.P, hX.w]
  have hex := fun xs (rx : Paired EntR en xs) => (dget_rel (q := (n, bb)) rx (e5.mono st)).1 d h
  have hv0 : ∃ v, Rep M G1 d v ∧ ∀ xs, Paired EntR en xs → ∃ p, atKey xs (keyN (n, bb)) = some p ∧ RelV v p.2 := by
    clear hex e2 e3
    have key : ∀ {es : List Ent} {ds : List D}, Reps M G1 ds (es.map (·.2.2)) → dget (es.map (·.1)) ds (n, bb) = some d → ∃ v, Rep M G1 d v ∧ ∀ xs, Paired EntR es xs → ∃ p, atKey xs (keyN (n, bb)) = some p ∧ RelV v p.2 := by
      intro es
      induction es with
      | nil => intro ds r h; cases ds <;> simp [dget] at h
      | cons e es ih =>
        intro ds r h
        cases ds with
        | nil => simp [dget] at h
        | cons d0 ds =>
          obtain ⟨v, vr, ev, r1, r2⟩ := r
          rw [List.map_cons] at ev
          cases ev
          rw [List.map_cons, dget] at h
          by_cases hq : e.1 = (n, bb)
          · rw [if_pos hq] at h
            cases h
            refine ⟨_, r1, fun xs rx => ?_⟩
            cases rx with
            | @cons _ b' _ _ hh _ =>
              obtain ⟨q1, q2, q3⟩ := hh
              have hb : b'.1 = keyN (n, bb) := by rw [q1, hq]
              exact ⟨b'.2, by simp [atKey, List.find?_cons, hb], q3⟩
          · rw [if_neg hq] at h
            obtain ⟨v', r', g⟩ := ih r2 h
            refine ⟨v', r', fun xs rx => ?_⟩
            cases rx with
            | @cons _ b' _ xs' hh tt =>
              obtain ⟨q1, q2, q3⟩ := hh
              have hb : ¬ b'.1 = keyN (n, bb) := by rw [q1]; exact fun z => hq (keyN_inj z)
              obtain ⟨p, hp, rv⟩ := g xs' tt
              exact ⟨p, by rw [← hp]; simp [atKey, List.find?_cons, hb], rv⟩
    exact key (e5.mono st) h
  obtain ⟨v, hv2, hv1⟩ := hv0
  exact ⟨l, en, (n, bb), t, v, ⟨rfl, rfl, ht, s1.ex _ _ (W.sub _ _ e2), fun e he => s1.ex _ _ (W.sub _ _ (e3 e he))⟩, hv1, q v H1 G1 s1 hv2⟩
theorem td_din {j : Nat} {x : Str} {x1 : Nat} (hN : N[j]? = some x) (hv : visB sc x = true) (ho : ρ[j]? = some (.dat (.dic ks ds))) (hA : AD ⟨M, N, sc, fn, k⟩ ρ es [.int n, .bl bb]) (hd : (x == ("__debug__" : Str)) = false := by decide) (hcd : (x == ("__classdict__" : Str)) = false := by decide) :
    TD ⟨M, N, sc, fn, k⟩ ρ (.Compare (.Tuple es x1 p2) [.In] [.Name x p1] pos) (dget ks ds (n, bb)).isSome := by
  intro G0 H0 σ G H W Q q
  refine tT_of (t := fun X => tB (tDI X.prog X.w false (tTup (tA ⟨M, N, sc, fn, k⟩ es)) (tVar j))) (fun X hX => pt_cmp (pc_dI hX.room (pe_tup (pa_tA hX)) (pe_var (by rw [hX.N]; exact hN) (by rw [hX.sc]; exact vis_of hv) hd hcd)) rfl) fun X hX => ?_
  obtain ⟨v0, e1, l, en, rfl, e2, e3, e4, e5⟩ := W.get ho
  subst e4
  unfold tB tDI
  refine key_run hA W fun t H1 G1 s1 ht _ => ?_
  refine ⟨.ref l, e1, ?_⟩
  rw [hX.P, hX.w]
  refine ⟨l, en, (n, bb), t, (dget (en.map (·.1)) ds (n, bb)).isSome, ⟨rfl, rfl, ht, s1.ex _ _ (W.sub _ _ e2), fun e he => s1.ex _ _ (W.sub _ _ (e3 e he))⟩, fun xs rx => ?_, _, rfl, by rw [if_neg (by decide)]; exact q H1 G1 s1⟩
  obtain ⟨g1, g2⟩ := dget_rel (q := (n, bb)) rx e5
  cases hh : dget (en.map (·.1)) ds (n, bb) with
  | none => rw [g2 hh]; rfl
  | some d => obtain ⟨p, v, hp, _⟩ := g1 d hh; rw [hp]; rfl
theorem td_dnin {j : Nat} {x : Str} {x1 : Nat} (hN : N[j]? = some x) (hv : visB sc x = true) (ho : ρ[j]? = some (.dat (.dic ks ds))) (hA : AD ⟨M, N, sc, fn, k⟩ ρ es [.int n, .bl bb]) (hd : (x == ("__debug__" : Str)) = false := by decide) (hcd : (x == ("__classdict__" : Str)) = false := by decide) :
    TD ⟨M, N, sc, fn, k⟩ ρ (.Compare (.Tuple es x1 p2) [.NotIn] [.Name x p1] pos) (!(dget ks ds (n, bb)).isSome) := by
  intro G0 H0 σ G H W Q q
  refine tT_of (t := fun X => tB (tDI X.prog X.w true (tTup (tA ⟨M, N, sc, fn, k⟩ es)) (tVar j))) (fun X hX => pt_cmp (pc_dNI hX.room (pe_tup (pa_tA hX)) (pe_var (by rw [hX.N]; exact hN) (by rw [hX.sc]; exact vis_of hv) hd hcd)) rfl) fun X hX => ?_
  obtain ⟨v0, e1, l, en, rfl, e2, e3, e4, e5⟩ := W.get ho
  subst e4
  unfold tB tDI
  refine key_run hA W fun t H1 G1 s1 ht _ => ?_
  refine ⟨.ref l, e1, ?_⟩
  rw [hX.P, hX.w]
  refine ⟨l, en, (n, bb), t, (dget (en.map (·.1)) ds (n, bb)).isSome, ⟨rfl, rfl, ht, s1.ex _ _ (W.sub _ _ e2), fun e he => s1.ex _ _ (W.sub _ _ (e3 e he))⟩, fun xs rx => ?_, _, rfl, by rw [if_pos rfl]; exact q H1 G1 s1⟩
  obtain ⟨g1, g2⟩ := dget_rel (q := (n, bb)) rx e5
  cases hh : dget (en.map (·.1)) ds (n, bb) with
  | none => rw [g2 hh]; rfl
  | some d => obtain ⟨p, v, hp, _⟩ := g1 d hh; rw [hp]; rfl
theorem dget_none {q : Int × Bool} : ∀ {es : List Ent} {ds : List D} {G : Hp}, Reps M G ds (es.map (·.2.2)) → dget (es.map (·.1)) ds q = none → q ∉ es.map (·.1)
  | [], _, _, _, _ => by simp
  | e :: es, [], _, r, _ => by simp [Reps] at r
  | e :: es, d :: ds, _, r, h => by
    obtain ⟨v, vr, ev, r1, r2⟩ := r
    rw [List.map_cons] at ev
    cases ev
    rw [List.map_cons, dget] at h
    by_cases hq : e.1 = q
    · rw [if_pos hq] at h; cases h
    · rw [if_neg hq] at h
      rw [List.map_cons, List.mem_cons, not_or]
      exact ⟨fun z => hq z.symm, dget_none r2 h⟩
theorem w1_dput {j : Nat} {x : Str} {x1 : Nat} (hN : N[j]? = some x) (hv : visB sc x = true) (ho : ρ[j]? = some (.odic ks ds)) (hE : ED ⟨M, N, sc, fn, k⟩ ρ e d) (hA : AD ⟨M, N, sc, fn, k⟩ ρ es [.int n, .bl bb]) (h : dget ks ds (n, bb) = none) (hz : ds.length ≤ 999)
    (hk : E.nx (ρ.set j (.odic (ks ++ [(n, bb)]) (ds ++ [d])))) (hd : (x == ("__debug__" : Str)) = false := by decide) (hcd : (x == ("__classdict__" : Str)) = false := by decide)
    (hs : ∀ env, swapsWith e (some (.Subscript (.Name x p1) (.Tuple es x1 p2) pos')) pos.line env = pure false := by intro _; rfl) :
    W1 ⟨M, N, sc, fn, k⟩ (.Assign [.Subscript (.Name x p1) (.Tuple es x1 p2) pos'] e pos) E ρ := by
  intro G0 H0 σ G H W D r
  refine tS1_of (t := fun X => sDP X.prog X.w (tVar j) (tTup (tA ⟨M, N, sc, fn, k⟩ es)) (tF ⟨M, N, sc, fn, k⟩ e)) (fun X hX => ps_dP hX.room (pe_var (by rw [hX.N]; exact hN) (by rw [hX.sc]; exact vis_of hv) hd hcd) (pe_tup (pa_tA hX)) (pe_tF hX) (hs _)) fun X hX => ?_
  refine hE G0 H0 σ G H W _ fun v H1 G1 s1 r1 => ?_
  have W1 := W.step s1
  obtain ⟨α, A⟩ := W1.wa
  have hi : j < σ.length := by rw [W.len]; exact (List.getElem?_eq_some_iff.mp ho).1
  have e0 : σ[j]? = some σ[j] := List.getElem?_eq_getElem hi
  obtain ⟨l, en, ea, e1, e2, e3, e4, e5⟩ := A.s1 j _ _ ho e0
  refine ⟨.ref l, by rw [e0, e1], key_run hA W1 fun t H2 G2 s2 ht gt => ?_⟩
  rw [hX.P, hX.w]
  have hlen := e5.length
  rw [List.length_map] at hlen
  have h' : dget (en.map (·.1)) ds (n, bb) = none := by rw [e4]; exact h
  refine ⟨l, en, (n, bb), t, ⟨rfl, rfl, ht, s2.ex _ _ e2, fun e he => s2.ex _ _ (W1.sub _ _ (e3 e he))⟩, fun xs rx => (dget_rel (q := (n, bb)) rx e5).2 h', dget_none e5 h', by rw [← hlen]; exact small1000 (by omega), ?_⟩
  refine r.nx (ρ.set j (.odic (ks ++ [(n, bb)]) (ds ++ [d]))) σ G2 _ ((W1.step s2).write (s := .odic ks ds) ho e0 fun as hs hn => ?_) hk
  obtain ⟨l', en', rfl, e1', e2', e3', e4', e5'⟩ := hs
  rw [e1] at e1'; cases e1'
  rw [s2.ex _ _ e2] at e2'
  have eo : dicO M.P M.w l en = dicO M.P M.w l en' := Option.some.inj e2'
  refine ⟨l, by simp, fun b hb => upd_ne hb, by rw [upd_same]; simp, l, en ++ [((n, bb), t, v)], rfl, by rw [e1], upd_same, fun e he => ?_, by rw [List.map_append, e4]; rfl, ?_⟩
  · rcases List.mem_append.mp he with he | he
    · exact s2.same W1.sub _ _ (e3 e he)
    · cases List.mem_singleton.mp he; exact gt
  · rw [List.map_append]
    exact (e5.mono (s2.same W1.sub)).snoc (r1.mono (s2.same W1.sub))
end
end BB
set_option Elab.async false
set_option linter.all false
set_option maxRecDepth 100000
set_option maxHeartbeats 4000000
namespace BB
open PySem PySem.Spec PyProof.Rows L2
theorem putF_new : ∀ {fs : List (Str × D)} {xs : List (Str × V)} {M : Mo} {G : Hp} {f : Str} {v : V}, FldsAt M G fs xs → f ∉ fs.map (·.1) → putF f v xs = xs ++ [(f, v)]
  | [], _, _, _, _, _, h, _ => by cases (show _ = _ from h); rfl
  | (g, d) :: r, _, M, G, f, v, h, n => by
    obtain ⟨x, t, rfl, h1, h2⟩ := h
    rw [List.map_cons, List.mem_cons, not_or] at n
    show (if g = f then (g, v) :: t else (g, x) :: putF f v t) = _
    rw [if_neg (fun z => n.1 z.symm), putF_new h2 n.2]
    rfl
theorem FldsAt.snoc {M : Mo} {G : Hp} {f : Str} {d : D} {v : V} (hv : Rep M G d v) : ∀ {fs : List (Str × D)} {xs : List (Str × V)}, FldsAt M G fs xs → FldsAt M G (fs ++ [(f, d)]) (xs ++ [(f, v)])
  | [], _, h => by cases (show _ = _ from h); exact ⟨v, [], rfl, hv, rfl⟩
  | (g, d') :: r, _, h => by
    obtain ⟨x, t, rfl, h1, h2⟩ := h
    exact ⟨x, _, rfl, h1, FldsAt.snoc hv h2⟩
theorem FldsAt.length {M : Mo} {G : Hp} : ∀ {fs : List (Str × D)} {xs : List (Str × V)}, FldsAt M G fs xs → fs.length = xs.length
  | [], _, h => by cases (show _ = _ from h); rfl
  | (g, d') :: r, _, h => by
    obtain ⟨x, t, rfl, h1, h2⟩ := h
    rw [List.length_cons, List.length_cons, FldsAt.length h2]
section
variable {ρ ρ' : Ro} {e a b c o i ek ev : Expr} {es : List Expr} {p p1 p2 pos pos' : Pos} {d x y z : D} {ds : List D} {E : EndsD} {n : Int} {bb : Bool}
variable {M : Mo} {N : List Str} {sc : Scope} {fn : Str → Bool} {k : Nat}
theorem w1_fld {j : Nat} {x f : Str} {fs : List (Str × D)} (T : Cls M.K M.C) (hf : NoAttr M.K M.C f) (hN : N[j]? = some x) (hv : visB sc x = true) {sa : Addr} (ho : ρ[j]? = some (.ins sa fs)) (h : ED ⟨M, N, sc, fn, k⟩ ρ e d) (hn : f ∉ fs.map (·.1)) (hz : fs.length ≤ 10)
    (hk : E.nx (ρ.set j (.ins sa (fs ++ [(f, d)])))) (hd : (x == ("__debug__" : Str)) = false := by decide) (hcd : (x == ("__classdict__" : Str)) = false := by decide)
    (hs : ∀ env, swapsWith e (some (.Attribute (.Name x p1) f pos')) pos.line env = pure false := by intro _; rfl) : W1 ⟨M, N, sc, fn, k⟩ (.Assign [.Attribute (.Name x p1) f pos'] e pos) E ρ := by
  intro G0 H0 σ G H W D r
  refine tS1_of (t := fun X => sFld X.K (tVar j) (tF ⟨M, N, sc, fn, k⟩ e) f) (fun X hX => ps_fld (pe_var (by rw [hX.N]; exact hN) (by rw [hX.sc]; exact vis_of hv) hd hcd) (pe_tF hX) (hs _)) fun X hX => ?_
  refine h G0 H0 σ G H W _ fun v H1 G1 s1 r1 => ?_
  have W1 := W.step s1
  obtain ⟨α, A⟩ := W1.wa
  have hj : j < σ.length := by rw [W.len]; exact (List.getElem?_eq_some_iff.mp ho).1
  have e0 : σ[j]? = some σ[j] := List.getElem?_eq_getElem hj
  obtain ⟨dx, xs, ea, e1, e2, r0⟩ := A.s1 j _ _ ho e0
  rw [hX.K]
  refine ⟨.ref sa, by rw [e0, e1], sa, M.C, dx, xs, rfl, e2, T, hf, by rw [← r0.length]; omega, ?_⟩
  refine r.nx (ρ.set j (.ins sa (fs ++ [(f, d)]))) σ G1 _ (W1.write (s := .ins sa fs) ho e0 fun as hs hn' => ?_) hk
  obtain ⟨dx', xs', rfl, e1', e2', r'⟩ := hs
  rw [e2] at e2'; cases e2'
  refine ⟨sa, by simp, fun b hb => upd_ne hb, by rw [upd_same]; simp, dx, xs ++ [(f, v)], rfl, by rw [e1], ?_, r'.snoc r1⟩
  rw [putF_new r' hn]
  exact upd_same
def spI (M : Mo) (R : D → D → D → Prop) : Sp := fun vs H Q _ => ∃ (G : Hp) (a dx : Addr) (v1 v2 v3 : V) (g b l : D), vs = [.ref a, v1, v2, v3] ∧ Same G H ∧ G a = none ∧ H a = some (.ins M.C dx []) ∧ Rep M G g v1 ∧ Rep M G b v2 ∧ Rep M G l v3 ∧ R g b l ∧
  ∀ x y z dx' H' G', Step (fun b => if b = a then none else H b) G H' G' → H' a = some (.ins M.C dx' [("goods", x), ("buys", y), ("links", z)]) → G' a = none → Rep M G' g x → Rep M G' b y → Rep M G' l z → Q .non H'
theorem init_ok {x qual : Str} {st : Stmt} {f : Addr} {fd : FuncData} {ps : List Str} {R : D → D → D → Prop} (F : Fun M.K x qual st f fd) (S : FnScope N ps (defScope st)) (hps : ps.length = 4) (hN4 : 4 ≤ N.length)
    (hb : ∀ a g b l, R g b l → WS ⟨M, N, defScope st, fun _ => true, k⟩ (defBody st) { nx := fun ρ => ρ[0]? = some (.ins a [("goods", g), ("buys", b), ("links", l)]), rt := fun _ => False } ([.ins a [], .dat g, .dat b, .dat l] ++ List.replicate (N.length - 4) .un)) :
    FnOk M.P M.w M.K M.mg M.base CX0 (k + 1) f fd ps (spI M R) := by
  refine F.ok S (fun vs H Q E h => ?_) fun cdv A outer s H vs Q E hr h => ?_
  · obtain ⟨G, a, dx, v1, v2, v3, g, b, l, rfl, _⟩ := h
    rw [hps]; rfl
  · obtain ⟨G, a, dx, v1, v2, v3, g, b, l, rfl, sG, hga, ha, r1, r2, r3, hR, q⟩ := h
    refine ⟨tS ⟨M, N, defScope st, fun _ => true, k⟩ (defBody st), pss_tS ⟨rfl, rfl, rfl, rfl, rfl, rfl, rfl, rfl, hr, rfl, rfl⟩, ?_⟩
    have hH0 : Same (fun b => if b = a then none else H b) H := fun b u e => by
      have e : (if b = a then none else H b) = some u := e
      by_cases hb : b = a
      · rw [if_pos hb] at e; cases e
      · rw [if_neg hb] at e; exact e
    have W : Wd M G (fun b => if b = a then none else H b) ([Sl.ins a [], .dat g, .dat b, .dat l] ++ List.replicate (N.length - 4) .un) (L2.start N [.ref a, v1, v2, v3]) G H := by
      refine ⟨by simp [L2.start], hH0, fun _ _ _ => rfl, sG, fun i => if i = 0 then [a] else [], fun i s o e1 e2 => ?_, fun i b hb => ?_, fun i j hij b hb hb2 => ?_⟩
      · unfold L2.start at e2
        match i with
        | 0 => cases e1; cases e2; exact ⟨dx, [], rfl, rfl, ha, rfl⟩
        | 1 => cases e1; cases e2; exact ⟨rfl, v1, rfl, r1⟩
        | 2 => cases e1; cases e2; exact ⟨rfl, v2, rfl, r2⟩
        | 3 => cases e1; cases e2; exact ⟨rfl, v3, rfl, r3⟩
        | i + 4 =>
          rw [List.getElem?_append_right (by simp)] at e1
          have e1 : (List.replicate (N.length - 4) Sl.un)[i]? = some s := e1
          rw [List.getElem?_replicate] at e1
          split at e1
          · cases e1; exact rfl
          · cases e1
      · have hb : b ∈ (if i = 0 then [a] else []) := hb
        by_cases hi : i = 0
        · rw [if_pos hi] at hb
          cases List.mem_singleton.mp hb
          exact ⟨hga, by show (if a = a then none else H a) = none; rw [if_pos rfl], by rw [ha]; simp⟩
        · rw [if_neg hi] at hb; simp at hb
      · have hb : b ∈ (if i = 0 then [a] else []) := hb
        have hb2 : b ∈ (if j = 0 then [a] else []) := hb2
        by_cases hi : i = 0
        · by_cases hj : j = 0
          · exact hij (hi.trans hj.symm)
          · rw [if_neg hj] at hb2; simp at hb2
        · rw [if_neg hi] at hb; simp at hb
    refine hb a g b l hR G _ _ G H W _ ⟨fun ρ σ G1 H1 W1 e => ?_, fun d' v H1 G1 st rr e => e.elim, fun _ _ _ _ _ h => h.elim, fun _ _ _ _ _ h => h.elim, fun _ _ _ _ _ _ _ _ h => h.elim⟩
    have e : ρ[0]? = some (.ins a [("goods", g), ("buys", b), ("links", l)]) := e
    obtain ⟨α, A⟩ := W1.wa
    have h0 : 0 < σ.length := by rw [W1.len]; exact (List.getElem?_eq_some_iff.mp e).1
    obtain ⟨dx', xs, ea, e1, e2, r0⟩ := A.s1 0 _ _ e (List.getElem?_eq_getElem h0)
    obtain ⟨x, t, rfl, q1, y, t', rfl, q2, z, t'', rfl, q3, q4⟩ := r0
    cases (show t'' = [] from q4)
    exact q x y z dx' H1 G1 W1.fin e2 (A.s2 0 a (by rw [ea]; simp)).1 q1 q2 q3
theorem ed_make {j : Nat} {nm : Str} {R : D → D → D → Prop} {g b l : D} {f : Addr} {fd : FuncData} {ps : List Str} (MK : Mk M.K M.C f) (F : FnOk M.P M.w M.K M.mg M.base CX0 j f fd ps (spI M R)) (hbd : Binds M.K fd ps []) (hm : M.mg nm = some (.ref M.C)) (hj : j + 1 ≤ k) (hg : glB sc nm = true)
    (ha : AD ⟨M, N, sc, fn, k⟩ ρ (e :: es) [g, b, l]) (hR : R g b l) (hd : (nm == ("__debug__" : Str)) = false := by decide) (he : ∀ env, starEach (e :: es) env = (false, eval e env) :: starEach es env := by intro _; rfl) (hpl : ∀ env, (backTo pos (starEach es env)).any (·.1) = false := by intro _; rfl) :
    ED ⟨M, N, sc, fn, k⟩ ρ (.Call (.Name nm p) (e :: es) [] pos) (.dat g b l) := by
  intro G0 H0 σ G H W Q q
  refine tF_of (t := fun _ => tMake M.C (spI M R) [] E0 (tA ⟨M, N, sc, fn, k⟩ (e :: es))) (fun X hX => ?_) fun X hX => ?_
  · refine pe_make (k := j) (f := f) (fd := fd) (ps := ps) (CX := CX0) (ds := []) (by rw [hX.K]; exact MK) ?_ (hX.room.mono hj) (hX.gl hg) (by rw [hX.mg]; exact hm) (by rw [hX.K]; exact hbd) .nil pass0 (pa_tA hX) hd (he _) (hpl _)
    rw [hX.P, hX.w, hX.K, hX.mg, hX.base]
    exact F
  · refine ha G0 H0 σ G H W _ fun vs H1 G1 s1 r1 => ?_
    obtain ⟨v1, t, rfl, q1, v2, t', rfl, q2, v3, t'', rfl, q3, q4⟩ := r1
    cases (show t'' = [] from q4)
    intro x dx hx hdx hne
    have W1 := W.step s1
    have gx : G1 x = none := free_of_same W1.sub hx
    have s2 : Same G1 (upd (upd H1 dx (.own x)) x (.ins M.C dx [])) := fun a o e => by
      rw [upd_ne (ne_of_none (W1.sub a o e) hx), upd_ne (ne_of_none (W1.sub a o e) hdx)]
      exact W1.sub a o e
    refine ⟨G1, x, dx, v1, v2, v3, g, b, l, rfl, s2, gx, upd_same, q1, q2, q3, hR, fun y1 y2 y3 dx2 H2 G2 st hi hgx p1 p2 p3 => ⟨rfl, ?_⟩⟩
    have old : ∀ a o, H1 a = some o → (if a = x then none else (upd (upd H1 dx (.own x)) x (.ins M.C dx [])) a) = some o := fun a o e => by
      have ha : a ≠ x := ne_of_none e hx
      rw [if_neg ha, upd_ne ha, upd_ne (ne_of_none e hdx)]
      exact e
    have gs : Same G2 (upd G2 x (.ins M.C dx2 [("goods", y1), ("buys", y2), ("links", y3)])) := fun a o e => by
      rw [upd_ne (ne_of_none e hgx)]; exact e
    have st2 : Step H1 G1 H2 (upd G2 x (.ins M.C dx2 [("goods", y1), ("buys", y2), ("links", y3)])) := by
      refine ⟨fun a o e => st.ex a o (old a o e), fun a o e => ?_, fun a o e => ?_⟩
      · rw [upd_ne (ne_of_none e hx)]
        exact st.old a o (old a o e)
      · by_cases ha : a = x
        · subst ha; rw [upd_same] at e; rw [← e]; exact hi
        · rw [upd_ne ha] at e; exact st.sub a o e
    exact q _ H2 _ (s1.trans st2) ⟨x, dx2, y1, y2, y3, rfl, upd_same, p1.mono gs, p2.mono gs, p3.mono gs⟩
theorem RowsAt.length {G H : Hp} : ∀ {rows : List (List D)} {rs : List Addr}, RowsAt M G H rows rs → rows.length = rs.length
  | [], _, h => by cases (show _ = _ from h); rfl
  | r :: rows, _, h => by
    obtain ⟨a, t, xs, rfl, h1, h2, h3⟩ := h
    rw [List.length_cons, List.length_cons, RowsAt.length h3]
theorem RowsAt.get {G H : Hp} : ∀ {rows : List (List D)} {rs : List Addr} {i : Nat} {r : List D}, RowsAt M G H rows rs → rows[i]? = some r → ∃ a xs, rs[i]? = some a ∧ H a = some (.lst xs) ∧ Reps M G r xs
  | [], _, _, _, _, e => by simp at e
  | r :: rows, _, 0, _, h, e => by
    obtain ⟨a, t, xs, rfl, h1, h2, h3⟩ := h
    simp at e; subst e
    exact ⟨a, xs, rfl, h1, h2⟩
  | r :: rows, _, i + 1, _, h, e => by
    obtain ⟨a, t, xs, rfl, h1, h2, h3⟩ := h
    obtain ⟨b, ys, q1, q2, q3⟩ := RowsAt.get (i := i) h3 (by simpa using e)
    exact ⟨b, ys, by simpa using q1, q2, q3⟩
theorem RowsAt.snoc {G H : Hp} {r : List D} {a : Addr} {xs : List V} (h1 : H a = some (.lst xs)) (h2 : Reps M G r xs) : ∀ {rows : List (List D)} {rs : List Addr}, RowsAt M G H rows rs → RowsAt M G H (rows ++ [r]) (rs ++ [a])
  | [], _, h => by cases (show _ = _ from h); exact ⟨a, [], xs, rfl, h1, h2, rfl⟩
  | r' :: rows, _, h => by
    obtain ⟨b, t, ys, rfl, q1, q2, q3⟩ := h
    exact ⟨b, _, ys, rfl, q1, q2, RowsAt.snoc h1 h2 q3⟩
theorem RowsAt.set {G H H' : Hp} {r : List D} {a : Addr} {xs : List V} (h1 : H' a = some (.lst xs)) (h2 : Reps M G r xs) (h3 : ∀ b, b ≠ a → H' b = H b) : ∀ {rows : List (List D)} {rs : List Addr} {i : Nat}, RowsAt M G H rows rs → rs.Nodup → rs[i]? = some a → RowsAt M G H' (rows.set i r) rs
  | [], _, _, h, _, e => by cases (show _ = _ from h); simp at e
  | r' :: rows, _, 0, h, nd, e => by
    obtain ⟨b, t, ys, rfl, q1, q2, q3⟩ := h
    simp at e; subst e
    refine ⟨b, t, xs, rfl, h1, h2, q3.mono (Same.refl G) fun c hc o ho => ?_⟩
    rw [h3 c fun z => (List.nodup_cons.mp nd).1 (by rw [← z]; exact hc)]; exact ho
  | r' :: rows, _, i + 1, h, nd, e => by
    obtain ⟨b, t, ys, rfl, q1, q2, q3⟩ := h
    have e' : t[i]? = some a := by simpa using e
    have hb : b ≠ a := fun z => (List.nodup_cons.mp nd).1 (by rw [z]; exact List.mem_of_getElem? e')
    exact ⟨b, t, ys, rfl, by rw [h3 b hb]; exact q1, q2, RowsAt.set h1 h2 h3 q3 (List.nodup_cons.mp nd).2 e'⟩
theorem w1_setMat {j : Nat} {x : Str} {i1 i2 : Expr} {m1 m2 : Int} {n1 n2 : Nat} {rows : List (List D)} {r : List D} {p3 : Pos} (hN : N[j]? = some x) (hv : visB sc x = true) (ho : ρ[j]? = some (.mat rows)) (h : ED ⟨M, N, sc, fn, k⟩ ρ e d) (hi1 : ED ⟨M, N, sc, fn, k⟩ ρ i1 (.int m1)) (hi2 : ED ⟨M, N, sc, fn, k⟩ ρ i2 (.int m2))
    (e1 : m1 = (n1 : Int)) (e2 : m2 = (n2 : Int)) (hr : rows[n1]? = some r) (hlt : n2 < r.length) (hk : E.nx (ρ.set j (.mat (rows.set n1 (r.set n2 d))))) (hd : (x == ("__debug__" : Str)) = false := by decide) (hcd : (x == ("__classdict__" : Str)) = false := by decide) (hs1 : PlainIx i1 := by exact fun _ _ => rfl)
    (ha : ∀ env v, assign (.Subscript (.Subscript (.Name x p1) i1 p3) i2 pos') env v = (do
      let ov ← holding [v] (eval (.Subscript (.Name x p1) i1 p3) env)
      let iv ← holding [v, ov] (eval i2 env)
      standAt pos'
      holding [v, ov, iv] (setItem ov iv v)
      release [v, ov, iv] []) := by intro _ _; rfl)
    (hs : ∀ env, swapsWithSole [.Subscript (.Subscript (.Name x p1) i1 p3) i2 pos'] e pos.line env = pure false := by intro _; rfl) (hw : ∀ env, swappedStores [.Subscript (.Subscript (.Name x p1) i1 p3) i2 pos'] e env = pure none := by intro _; rfl)
    (h1 : ∀ env, (assignEach [.Subscript (.Subscript (.Name x p1) i1 p3) i2 pos'] env).map (·.2) = [assign (.Subscript (.Subscript (.Name x p1) i1 p3) i2 pos') env] := by intro _; rfl) :
    W1 ⟨M, N, sc, fn, k⟩ (.Assign [.Subscript (.Subscript (.Name x p1) i1 p3) i2 pos'] e pos) E ρ := by
  intro G0 H0 σ G H W D rl
  refine tS1_of (t := fun X => tAsg (tF ⟨M, N, sc, fn, k⟩ e) (gSub (tOp (rIxL X.K) (tVar j) (tF ⟨M, N, sc, fn, k⟩ i1)) (tF ⟨M, N, sc, fn, k⟩ i2) rSetL)) (fun X hX => ps_asg (pe_tF hX) (pg_sub (pe_ix ix_list (pe_var (by rw [hX.N]; exact hN) (by rw [hX.sc]; exact vis_of hv) hd hcd) (pe_tF hX) hs1) (pe_tF hX) set_list (ha _)) (hs _) (hw _) (h1 _)) fun X hX => ?_
  refine h G0 H0 σ G H W _ fun v H1 G1 s1 r1 => ?_
  have W1 := W.step s1
  obtain ⟨α, A⟩ := W1.wa
  have hj : j < σ.length := by rw [W.len]; exact (List.getElem?_eq_some_iff.mp ho).1
  have e0 : σ[j]? = some σ[j] := List.getElem?_eq_getElem hj
  obtain ⟨l, rs, ea, q1, q2, q3, q4⟩ := A.s1 j _ _ ho e0
  refine ⟨.ref l, by rw [e0, q1], hi1 G0 H0 σ G1 H1 W1 _ fun u H2 G2 s2 r2 => ?_⟩
  have r2 : u = .int m1 := r2
  subst r2
  obtain ⟨a, xs, ga, hx, rr⟩ := q3.get hr
  refine ⟨l, rs.map V.ref, m1, .ref a, rfl, rfl, SqL.of (s2.ex _ _ q2), by rw [e1]; exact atI_nat (by rw [List.getElem?_map, ga]; rfl), ?_⟩
  refine hi2 G0 H0 σ G2 H2 (W1.step s2) _ fun u H3 G3 s3 r3 => ?_
  have r3 : u = .int m2 := r3
  subst r3
  have st := s2.trans s3
  have hx3 : H3 a = some (.lst xs) := st.ex _ _ hx
  refine ⟨a, xs, m2, n2, rfl, rfl, hx3, ?_, ?_⟩
  · rw [e2]
    unfold ixN
    rw [if_pos (by omega), if_pos (by rw [← rr.length]; omega)]
    rfl
  · refine rl.nx (ρ.set j (.mat (rows.set n1 (r.set n2 d)))) σ G3 _ (((W1.step s2).step s3).write (s := .mat rows) ho e0 fun as hs hn => ?_) hk
    obtain ⟨l', rs', rfl, p1, p2, p3, p4⟩ := hs
    rw [q1] at p1; cases p1
    have p2' := st.ex _ _ q2
    rw [p2] at p2'
    have ers : rs' = rs := by
      have : rs'.map V.ref = rs.map V.ref := by injection p2' with z; injection z
      exact List.map_inj_right (fun a b z => by injection z) |>.mp this
    subst ers
    have hal : a ≠ l := fun z => (List.nodup_cons.mp p4).1 (by rw [← z]; exact List.mem_of_getElem? ga)
    refine ⟨a, List.mem_cons_of_mem _ (List.mem_of_getElem? ga), fun b hb => upd_ne hb, by rw [upd_same]; simp, l, rs', rfl, by rw [q1], by rw [upd_ne hal.symm]; exact p2, ?_, p4⟩
    exact RowsAt.set upd_same ((rr.mono (st.same W1.sub)).set n2 (r1.mono (st.same W1.sub))) (fun b hb => upd_ne hb) p3 (List.nodup_cons.mp p4).2 ga
end
end BB
set_option Elab.async false
set_option linter.all false
set_option maxRecDepth 100000
set_option maxHeartbeats 4000000
namespace BB
open PySem PySem.Spec PyProof.Rows L2
section
variable {Γ : Cy} {ρ ρ' : Ro} {e a b c o i tg iter elt : Expr} {es rest ifs : List Expr} {p pos pos' : Pos} {d x y z : D} {ds : List D} {cs : Scope} {is vs : List Nat} {rows : Nat → List D} {E : EndsD}
theorem lc_readM (hI : ID Γ ρ tg iter ds) (hB : ∀ (i : Nat) d, ds[i]? = some d → ∃ ρ', GD (Γ.blk cs) tg is d (wipeR ρ vs) ρ' ∧ EN (Γ.blk cs) ρ' elt (rows i)) (his : ∀ i ∈ is, i ∈ vs) (hn : ds.length ≤ 1000)
    {G0 H0 : Hp} {σ : L2.St} {G H : Hp} (W : Wd Γ.M G0 H0 ρ σ G H) {Q : VK}
    (q : ∀ l rs H' G', Step H G H' G' → H l = none → H' l = some (.lst (rs.map V.ref)) → RowsAt Γ.M G' H' ((List.range ds.length).map rows) rs → (l :: rs).Nodup → (∀ a ∈ l :: rs, G' a = none ∧ H a = none ∧ H' a ≠ none) → Q (.ref l) H') {X : Cx} (hX : Γ.has X) :
    tLc (tI Γ tg iter) (tG (Γ.blk cs) tg) (tTs (Γ.blk cs) []) (tF (Γ.blk cs) elt) vs σ H Q := by
  refine hI G0 H0 σ G H W _ fun J H1 G1 s1 hJ => ?_
  have W1 := W.step s1
  obtain ⟨α, A1⟩ := (W1.wipe vs).wa
  intro Dl hD
  have hDα : ∀ i, Dl ∉ α i := fun i hi => (A1.s2 i Dl hi).2.2 hD
  have hD0 : H0 Dl = none := by
    cases e : H0 Dl with
    | none => rfl
    | some u => rw [W1.ex Dl u e] at hD; cases hD
  have hG1 : G1 Dl = none := free_of_same W1.sub hD
  refine ⟨fun i m H' => m = ds.length - i ∧ i ≤ ds.length ∧ ∃ G' rs, WA Γ.M G0 H0 (wipeR ρ vs) (wipe σ vs) α G' H' ∧ (∀ b u, H1 b = some u → H' b = some u) ∧ (∀ b u, H1 b = some u → G' b = G1 b) ∧ H' Dl = some (.lst (rs.map V.ref)) ∧ RowsAt Γ.M G' H' ((List.range i).map rows) rs ∧ (Dl :: rs).Nodup ∧ ∀ a ∈ Dl :: rs, G' a = none ∧ H1 a = none ∧ H' a ≠ none,
    ⟨ds.length, by simp, Nat.zero_le _, G1, [], A1.other hG1 hD0 hDα, fun b u e => by rw [upd_ne (ne_of_none e hD)]; exact e, fun _ _ _ => rfl, upd_same, rfl, by simp, fun a ha => by cases List.mem_singleton.mp ha; exact ⟨hG1, hD, by rw [upd_same]; simp⟩⟩, ?_⟩
  rintro i m H' ⟨rfl, hi, G', rs, A', k1, k2, hacc, hrows, hnd, hout⟩
  have sG : Same G1 G' := fun b u e => (k2 b u (W1.sub b u e)).trans e
  obtain ⟨serve, stop⟩ := hJ H' fun b u e => k1 b u (W1.sub b u e)
  by_cases hlt : i < ds.length
  · obtain ⟨go, yld⟩ := serve i ds[i] (List.getElem?_eq_getElem hlt)
    refine .inr ⟨go, fun H'' => ∃ G'' rs, WA Γ.M G0 H0 (wipeR ρ vs) (wipe σ vs) α G'' H'' ∧ (∀ b u, H1 b = some u → H'' b = some u) ∧ (∀ b u, H1 b = some u → G'' b = G1 b) ∧ H'' Dl = some (.lst (rs.map V.ref)) ∧ RowsAt Γ.M G'' H'' ((List.range (i + 1)).map rows) rs ∧ (Dl :: rs).Nodup ∧ ∀ a ∈ Dl :: rs, G'' a = none ∧ H1 a = none ∧ H'' a ≠ none,
      fun H'' h => ⟨ds.length - (i + 1), by omega, rfl, hlt, h⟩, fun x H'' hy => ?_⟩
    obtain ⟨e1, rx⟩ := yld x H'' hy
    subst e1
    obtain ⟨ρ', g, el⟩ := hB i ds[i] (List.getElem?_eq_getElem hlt)
    refine g G0 H0 (wipe σ vs) G' H'' x A'.wd (rx.mono sG) _ fun σ2 W2 hw2 => ⟨?_, ?_⟩
    · rw [hw2 vs his]
      refine List.ext_getElem? fun j => ?_
      rw [wipe_at, wipe_at]
      by_cases hj : j ∈ vs
      · rw [if_pos hj, if_pos hj, Option.map_map]; rfl
      · rw [if_neg hj, if_neg hj]
    · refine tsd_nil (Γ := Γ.blk cs) (ρ := ρ') G0 H0 σ2 G' H'' W2 _ fun H3 G3 s3 => ?_
      rw [if_pos rfl]
      have A3 := A'.step s3
      refine el G0 H0 σ2 G3 H3 (W2.step s3) _ fun r xs H4 G4 s4 hr0 hr1 hr2 rr => ?_
      have A4 := A3.step s4
      have st := s3.trans s4
      have hD4 : H4 Dl = some (.lst (rs.map V.ref)) := st.ex _ _ hacc
      have hlen := hrows.length
      rw [List.length_map, List.length_range] at hlen
      have hr3 : H'' r = none := s3.free hr0
      have hrD : r ≠ Dl := fun z => by rw [z, hacc] at hr3; cases hr3
      have hrs : r ∉ rs := fun z => (hout r (List.mem_cons_of_mem _ z)).2.2 hr3
      have hr1' : H1 r = none := by
        cases e : H1 r with
        | none => rfl
        | some u => rw [k1 r u e] at hr3; cases hr3
      have gD : ∀ a ∈ Dl :: rs, G4 a = none := fun a ha => by
        obtain ⟨q1, q2, q3⟩ := hout a ha
        cases e : H'' a with
        | none => exact absurd e q3
        | some u => exact (st.old a u e).trans q1
      refine ⟨rs.map V.ref, hD4, small1000 (by rw [List.length_map]; omega), G4, rs ++ [r], A4.other (gD Dl List.mem_cons_self) hD0 hDα, fun b u e => ?_, fun b u e => ?_, ?_, ?_, ?_, fun a ha => ?_⟩
      · rw [upd_ne (ne_of_none e hD)]; exact st.ex b u (k1 b u e)
      · exact (st.old b u (k1 b u e)).trans (k2 b u e)
      · rw [upd_same, List.map_append]; rfl
      · rw [List.range_succ, List.map_append]
        refine RowsAt.snoc (by rw [upd_ne hrD]; exact hr2) rr (hrows.mono (st.same A'.sub) fun a ha o e => ?_)
        rw [upd_ne (fun z => (List.nodup_cons.mp hnd).1 (by rw [← z]; exact ha))]
        exact st.ex a o e
      · rw [← List.cons_append, List.nodup_append]
        refine ⟨hnd, by simp, fun a ha b hb z => ?_⟩
        have hb' : b = r := by simpa using hb
        rw [z, hb'] at ha
        rcases List.mem_cons.mp ha with h | h
        · exact hrD h
        · exact hrs h
      · rw [← List.cons_append] at ha
        rcases List.mem_append.mp ha with ha | ha
        · refine ⟨gD a ha, (hout a ha).2.1, ?_⟩
          by_cases z : a = Dl
          · rw [z, upd_same]; simp
          · rw [upd_ne z]
            cases e : H'' a with
            | none => exact absurd e (hout a ha).2.2
            | some u => rw [st.ex a u e]; simp
        · cases List.mem_singleton.mp ha
          exact ⟨hr1, hr1', by rw [upd_ne hrD, hr2]; simp⟩
  · have e : i = ds.length := by omega
    subst e
    refine .inl ⟨stop, q Dl rs H' G' ⟨fun b u e => k1 b u (s1.ex b u e), fun b u e => (k2 b u (s1.ex b u e)).trans (s1.old b u e), A'.sub⟩ (s1.free hD) hacc hrows hnd fun a ha => ?_⟩
    obtain ⟨q1, q2, q3⟩ := hout a ha
    exact ⟨q1, s1.free q2, q3⟩
theorem w1_newMat {M : Mo} {N : List Str} {sc : Scope} {fn : Str → Bool} {k : Nat} {j : Nat} {x : Str} (own : List (Str × Nat)) (hN : N[j]? = some x) (hnd : N.Nodup) (hsw : compSw sc cs x = true) (hline : (pos'.line == p.line) = true) (ok : blkC N sc cs own = true) (hI : ID ⟨M, N, sc, fn, k⟩ ρ tg iter ds)
    (hB : ∀ (i : Nat) d, ds[i]? = some d → ∃ ρ', GD (blkOf M N sc cs k) tg is d (wipeR ρ (own.map (·.2))) ρ' ∧ EN (blkOf M N sc cs k) ρ' elt (rows i)) (his : ∀ i ∈ is, i ∈ own.map (·.2)) (hn : ds.length ≤ 1000)
    (hk : E.nx (ρ.set j (.mat ((List.range ds.length).map rows)))) (hs : ∀ env x, foldedSetIterable iter env x = pure x := by intro _ _; rfl) : W1 ⟨M, N, sc, fn, k⟩ (.Assign [.Name x pos'] (.ListComp elt [⟨tg, iter, [], 0⟩] cs p) pos) E ρ := by
  intro G0 H0 σ G H W D r X hX pins s I
  unfold compSw at hsw
  rw [Bool.and_eq_true, Bool.and_eq_true] at hsw
  obtain ⟨⟨h1, h2⟩, h3⟩ := hsw
  have hkind : X.env.scope.kind = .function := by
    rw [hX.sc]
    show sc.kind = _
    split at h1
    · assumption
    · cases h1
  have hloc : X.env.scope.names.lookup x = some .local := by
    rw [hX.sc]
    show sc.names.lookup x = _
    split at h2
    · assumption
    · cases h2
  refine (ps_setLc (own := own) hX.calm (by rw [hX.N]; exact hnd) (by rw [hX.N]; exact hN) hloc (sw_true hkind hloc hline (by simpa using h3)) (pi_tI hX) (blkOk_by (by rw [hX.N, hX.sc]; exact ok)) (fun s H C cl fp => pg_tG (has_blk hX cs s H C cl fp))
    (fun s H C cl fp => pts_tTs (has_blk hX cs s H C cl fp)) (fun s H C cl fp => pe_tF (has_blk hX cs s H C cl fp)) (hs X.env)).run pins s σ H D I ?_
  exact lc_readM hI hB his hn W (fun l rs H1 G1 s1 hl hx hr hnd' hout => r.nx _ _ G1 H1 (W.put (s := .mat _) (as := l :: rs) s1 ⟨l, rs, rfl, rfl, hx, hr, hnd'⟩ hout) hk) hX
end
end BB
set_option Elab.async false
set_option linter.all false
set_option maxRecDepth 100000
set_option maxHeartbeats 4000000
namespace BB
open PySem PySem.Spec PyProof.Rows L2
def topS (i : Nat) : Stmt := PySem.Challenge.pw_buybook_k35_whole_what_can_be_bought.main.body.getD i (.Pass ⟨0, 0, 0, 0⟩)
abbrev s_ratio : Stmt := topS 7
abbrev N_ratio : List Str := ["p", "q", "common"]
theorem sc_ratio : FnScope N_ratio ["p", "q"] (defScope s_ratio) := ⟨rfl, rfl, rfl, by decide +kernel, rfl, by decide +kernel, by decide +kernel⟩
abbrev s_add : Stmt := topS 8
abbrev N_add : List Str := ["a", "b"]
theorem sc_add : FnScope N_add ["a", "b"] (defScope s_add) := ⟨rfl, rfl, rfl, by decide +kernel, rfl, by decide +kernel, by decide +kernel⟩
abbrev s_sub : Stmt := topS 9
abbrev N_sub : List Str := ["a", "b"]
theorem sc_sub : FnScope N_sub ["a", "b"] (defScope s_sub) := ⟨rfl, rfl, rfl, by decide +kernel, rfl, by decide +kernel, by decide +kernel⟩
abbrev s_mul : Stmt := topS 10
abbrev N_mul : List Str := ["a", "b"]
theorem sc_mul : FnScope N_mul ["a", "b"] (defScope s_mul) := ⟨rfl, rfl, rfl, by decide +kernel, rfl, by decide +kernel, by decide +kernel⟩
abbrev s_div : Stmt := topS 11
abbrev N_div : List Str := ["a", "b"]
theorem sc_div : FnScope N_div ["a", "b"] (defScope s_div) := ⟨rfl, rfl, rfl, by decide +kernel, rfl, by decide +kernel, by decide +kernel⟩
abbrev s_less : Stmt := topS 12
abbrev N_less : List Str := ["a", "b"]
theorem sc_less : FnScope N_less ["a", "b"] (defScope s_less) := ⟨rfl, rfl, rfl, by decide +kernel, rfl, by decide +kernel, by decide +kernel⟩
abbrev s_at_most : Stmt := topS 13
abbrev N_at_most : List Str := ["a", "b"]
theorem sc_at_most : FnScope N_at_most ["a", "b"] (defScope s_at_most) := ⟨rfl, rfl, rfl, by decide +kernel, rfl, by decide +kernel, by decide +kernel⟩
abbrev s_dot : Stmt := topS 15
abbrev N_dot : List Str := ["a", "b", "total", "k"]
theorem sc_dot : FnScope N_dot ["a", "b"] (defScope s_dot) := ⟨rfl, rfl, rfl, by decide +kernel, rfl, by decide +kernel, by decide +kernel⟩
abbrev s_Data_init : Stmt := inClass (topS 17) 0
abbrev N_Data_init : List Str := ["self", "goods", "buys", "links", "prices", "amounts"]
theorem sc_Data_init : FnScope N_Data_init ["self", "goods", "buys", "links"] (defScope s_Data_init) := ⟨rfl, rfl, rfl, by decide +kernel, rfl, by decide +kernel, by decide +kernel⟩
abbrev s_cost : Stmt := topS 18
abbrev N_cost : List Str := ["prices", "amounts"]
theorem sc_cost : FnScope N_cost ["prices", "amounts"] (defScope s_cost) := ⟨rfl, rfl, rfl, by decide +kernel, rfl, by decide +kernel, by decide +kernel⟩
abbrev s_spent : Stmt := topS 19
abbrev N_spent : List Str := ["data", "i", "prices", "amounts"]
theorem sc_spent : FnScope N_spent ["data", "i"] (defScope s_spent) := ⟨rfl, rfl, rfl, by decide +kernel, rfl, by decide +kernel, by decide +kernel⟩
abbrev s_step : Stmt := topS 21
abbrev N_step : List Str := ["data", "i", "j", "result", "price", "money", "first", "second", "strict"]
theorem sc_step : FnScope N_step ["data", "i", "j"] (defScope s_step) := ⟨rfl, rfl, rfl, by decide +kernel, rfl, by decide +kernel, by decide +kernel⟩
abbrev s_step_table : Stmt := topS 22
abbrev N_step_table : List Str := ["data", "count", "j", "i"]
theorem sc_step_table : FnScope N_step_table ["data"] (defScope s_step_table) := ⟨rfl, rfl, rfl, by decide +kernel, rfl, by decide +kernel, by decide +kernel⟩
abbrev s_find_in : Stmt := topS 23
abbrev N_find_in : List Str := ["table", "i", "found", "queue", "at", "j", "strict", "chain", "k", "one"]
theorem sc_find_in : FnScope N_find_in ["table", "i"] (defScope s_find_in) := ⟨rfl, rfl, rfl, by decide +kernel, rfl, by decide +kernel, by decide +kernel⟩
abbrev s_leads : Stmt := topS 24
abbrev N_leads : List Str := ["data", "table", "count", "result", "i", "found", "row", "j"]
theorem sc_leads : FnScope N_leads ["data"] (defScope s_leads) := ⟨rfl, rfl, rfl, by decide +kernel, rfl, by decide +kernel, by decide +kernel⟩
abbrev s_find_chain : Stmt := topS 25
abbrev N_find_chain : List Str := ["data", "i", "j", "found"]
theorem sc_find_chain : FnScope N_find_chain ["data", "i", "j"] (defScope s_find_chain) := ⟨rfl, rfl, rfl, by decide +kernel, rfl, by decide +kernel, by decide +kernel⟩
abbrev s_reached : Stmt := topS 27
abbrev N_reached : List Str := ["data", "prices", "money", "table", "result", "k", "i", "price", "j", "strict"]
theorem sc_reached : FnScope N_reached ["data", "prices", "money"] (defScope s_reached) := ⟨rfl, rfl, rfl, by decide +kernel, rfl, by decide +kernel, by decide +kernel⟩
abbrev s_reach_chain : Stmt := topS 28
abbrev N_reach_chain : List Str := ["data", "prices", "money", "j", "table", "best", "i", "price"]
theorem sc_reach_chain : FnScope N_reach_chain ["data", "prices", "money", "j"] (defScope s_reach_chain) := ⟨rfl, rfl, rfl, by decide +kernel, rfl, by decide +kernel, by decide +kernel⟩
abbrev s_keeps_row : Stmt := topS 29
abbrev N_keeps_row : List Str := ["data", "j", "strict", "basket", "price", "money"]
theorem sc_keeps_row : FnScope N_keeps_row ["data", "j", "strict", "basket"] (defScope s_keeps_row) := ⟨rfl, rfl, rfl, by decide +kernel, rfl, by decide +kernel, by decide +kernel⟩
abbrev s_first_broken : Stmt := topS 30
abbrev N_first_broken : List Str := ["data", "rows", "basket", "j"]
theorem sc_first_broken : FnScope N_first_broken ["data", "rows", "basket"] (defScope s_first_broken) := ⟨rfl, rfl, rfl, by decide +kernel, rfl, by decide +kernel, by decide +kernel⟩
abbrev s_plane : Stmt := topS 32
abbrev N_plane : List Str := ["data", "taste", "i", "basket", "numbers", "weights"]
theorem sc_plane : FnScope N_plane ["data", "taste", "i", "basket"] (defScope s_plane) := ⟨rfl, rfl, rfl, by decide +kernel, rfl, by decide +kernel, by decide +kernel⟩
abbrev s_next_class : Stmt := topS 34
abbrev N_next_class : List Str := ["table", "done", "count", "i", "free", "j"]
theorem sc_next_class : FnScope N_next_class ["table", "done"] (defScope s_next_class) := ⟨rfl, rfl, rfl, by decide +kernel, rfl, by decide +kernel, by decide +kernel⟩
abbrev s_class_number : Stmt := topS 35
abbrev N_class_number : List Str := ["data", "taste", "done", "members", "numbers", "best", "k", "found", "j", "value"]
theorem sc_class_number : FnScope N_class_number ["data", "taste", "done", "members"] (defScope s_class_number) := ⟨rfl, rfl, rfl, by decide +kernel, rfl, by decide +kernel, by decide +kernel⟩
abbrev s_member_weight : Stmt := topS 36
abbrev N_member_weight : List Str := ["data", "numbers", "done", "number", "j", "best", "prices", "money", "k", "value"]
theorem sc_member_weight : FnScope N_member_weight ["data", "numbers", "done", "number", "j"] (defScope s_member_weight) := ⟨rfl, rfl, rfl, by decide +kernel, rfl, by decide +kernel, by decide +kernel⟩
abbrev s_make_taste : Stmt := topS 37
abbrev N_make_taste : List Str := ["data", "table", "count", "numbers", "k", "weights", "done", "_", "members", "number", "found", "j"]
theorem sc_make_taste : FnScope N_make_taste ["data", "table"] (defScope s_make_taste) := ⟨rfl, rfl, rfl, by decide +kernel, rfl, by decide +kernel, by decide +kernel⟩
abbrev s_check : Stmt := topS 38
abbrev N_check : List Str := ["data", "table", "i"]
theorem sc_check : FnScope N_check ["data"] (defScope s_check) := ⟨rfl, rfl, rfl, by decide +kernel, rfl, by decide +kernel, by decide +kernel⟩
abbrev s_buys : Stmt := topS 40
abbrev N_buys : List Str := ["data", "prices", "money", "basket", "found", "j"]
theorem sc_buys : FnScope N_buys ["data", "prices", "money", "basket"] (defScope s_buys) := ⟨rfl, rfl, rfl, by decide +kernel, rfl, by decide +kernel, by decide +kernel⟩
abbrev s_l_is_integer : Stmt := topS 42
abbrev N_l_is_integer : List Str := ["_law_actual"]
theorem sc_l_is_integer : FnScope N_l_is_integer ["_law_actual"] (defScope s_l_is_integer) := ⟨rfl, rfl, rfl, by decide +kernel, rfl, by decide +kernel, by decide +kernel⟩
abbrev s_l_row : Stmt := topS 43
abbrev N_l_row : List Str := ["_law_script", "_law_count", "_law_row_here", "_law_seed", "_law_cell", "_law_number", "_law_k"]
theorem sc_l_row : FnScope N_l_row ["_law_script", "_law_count"] (defScope s_l_row) := ⟨rfl, rfl, rfl, by decide +kernel, rfl, by decide +kernel, by decide +kernel⟩
abbrev s_l_common : Stmt := topS 44
abbrev N_l_common : List Str := ["_law_a", "_law_b", "_law_k", "_law_rest"]
theorem sc_l_common : FnScope N_l_common ["_law_a", "_law_b"] (defScope s_l_common) := ⟨rfl, rfl, rfl, by decide +kernel, rfl, by decide +kernel, by decide +kernel⟩
abbrev s_l_ratio : Stmt := topS 45
abbrev N_l_ratio : List Str := ["_law_p", "_law_q", "_law_common_here"]
theorem sc_l_ratio : FnScope N_l_ratio ["_law_p", "_law_q"] (defScope s_l_ratio) := ⟨rfl, rfl, rfl, by decide +kernel, rfl, by decide +kernel, by decide +kernel⟩
abbrev s_l_is_ratio : Stmt := topS 46
abbrev N_l_is_ratio : List Str := ["_law_actual"]
theorem sc_l_is_ratio : FnScope N_l_is_ratio ["_law_actual"] (defScope s_l_is_ratio) := ⟨rfl, rfl, rfl, by decide +kernel, rfl, by decide +kernel, by decide +kernel⟩
abbrev s_l_are_ratios : Stmt := topS 47
abbrev N_l_are_ratios : List Str := ["_law_actual", "_law_count", "_law_x"]
theorem sc_l_are_ratios : FnScope N_l_are_ratios ["_law_actual", "_law_count"] (defScope s_l_are_ratios) := ⟨rfl, rfl, rfl, by decide +kernel, rfl, by decide +kernel, by decide +kernel⟩
abbrev s_l_plus : Stmt := topS 48
abbrev N_l_plus : List Str := ["_law_a", "_law_b"]
theorem sc_l_plus : FnScope N_l_plus ["_law_a", "_law_b"] (defScope s_l_plus) := ⟨rfl, rfl, rfl, by decide +kernel, rfl, by decide +kernel, by decide +kernel⟩
abbrev s_l_times : Stmt := topS 49
abbrev N_l_times : List Str := ["_law_a", "_law_b"]
theorem sc_l_times : FnScope N_l_times ["_law_a", "_law_b"] (defScope s_l_times) := ⟨rfl, rfl, rfl, by decide +kernel, rfl, by decide +kernel, by decide +kernel⟩
abbrev s_l_minus : Stmt := topS 50
abbrev N_l_minus : List Str := ["_law_a"]
theorem sc_l_minus : FnScope N_l_minus ["_law_a"] (defScope s_l_minus) := ⟨rfl, rfl, rfl, by decide +kernel, rfl, by decide +kernel, by decide +kernel⟩
abbrev s_l_below : Stmt := topS 51
abbrev N_l_below : List Str := ["_law_a", "_law_b"]
theorem sc_l_below : FnScope N_l_below ["_law_a", "_law_b"] (defScope s_l_below) := ⟨rfl, rfl, rfl, by decide +kernel, rfl, by decide +kernel, by decide +kernel⟩
abbrev s_l_same : Stmt := topS 52
abbrev N_l_same : List Str := ["_law_a", "_law_b"]
theorem sc_l_same : FnScope N_l_same ["_law_a", "_law_b"] (defScope s_l_same) := ⟨rfl, rfl, rfl, by decide +kernel, rfl, by decide +kernel, by decide +kernel⟩
abbrev s_l_dot : Stmt := topS 53
abbrev N_l_dot : List Str := ["_law_a", "_law_b", "_law_total", "_law_k"]
theorem sc_l_dot : FnScope N_l_dot ["_law_a", "_law_b"] (defScope s_l_dot) := ⟨rfl, rfl, rfl, by decide +kernel, rfl, by decide +kernel, by decide +kernel⟩
abbrev s_l_price : Stmt := topS 54
abbrev N_l_price : List Str := ["_law_number"]
theorem sc_l_price : FnScope N_l_price ["_law_number"] (defScope s_l_price) := ⟨rfl, rfl, rfl, by decide +kernel, rfl, by decide +kernel, by decide +kernel⟩
abbrev s_l_amount : Stmt := topS 55
abbrev N_l_amount : List Str := ["_law_number"]
theorem sc_l_amount : FnScope N_l_amount ["_law_number"] (defScope s_l_amount) := ⟨rfl, rfl, rfl, by decide +kernel, rfl, by decide +kernel, by decide +kernel⟩
abbrev s_l_buy : Stmt := topS 56
abbrev N_l_buy : List Str := ["_law_row_here", "_law_goods", "_law_prices", "_law_x", "_law_amounts"]
theorem sc_l_buy : FnScope N_l_buy ["_law_row_here", "_law_goods"] (defScope s_l_buy) := ⟨rfl, rfl, rfl, by decide +kernel, rfl, by decide +kernel, by decide +kernel⟩
abbrev s_l_buys : Stmt := topS 57
abbrev N_l_buys : List Str := ["_law_row_here", "_law_goods", "_law_count", "_law_k"]
theorem sc_l_buys : FnScope N_l_buys ["_law_row_here", "_law_goods", "_law_count"] (defScope s_l_buys) := ⟨rfl, rfl, rfl, by decide +kernel, rfl, by decide +kernel, by decide +kernel⟩
abbrev s_l_links : Stmt := topS 58
abbrev N_l_links : List Str := ["_law_row_here", "_law_count", "_law_links_here", "_law_k", "_law_number"]
theorem sc_l_links : FnScope N_l_links ["_law_row_here", "_law_count"] (defScope s_l_links) := ⟨rfl, rfl, rfl, by decide +kernel, rfl, by decide +kernel, by decide +kernel⟩
abbrev s_l_copy : Stmt := topS 59
abbrev N_l_copy : List Str := ["_law_buys_here", "_law_prices", "_law_amounts"]
theorem sc_l_copy : FnScope N_l_copy ["_law_buys_here"] (defScope s_l_copy) := ⟨rfl, rfl, rfl, by decide +kernel, rfl, by decide +kernel, by decide +kernel⟩
abbrev s_l_step : Stmt := topS 60
abbrev N_l_step : List Str := ["_law_buys_here", "_law_links_here", "_law_i", "_law_j", "_law_result", "_law_price_here", "_law_money", "_law_first", "_law_second", "_law_strict"]
theorem sc_l_step : FnScope N_l_step ["_law_buys_here", "_law_links_here", "_law_i", "_law_j"] (defScope s_l_step) := ⟨rfl, rfl, rfl, by decide +kernel, rfl, by decide +kernel, by decide +kernel⟩
abbrev s_l_leads : Stmt := topS 61
abbrev N_l_leads : List Str := ["_law_buys_here", "_law_links_here", "_law_count", "_law_table", "_law_j", "_law_i", "_law_turn", "_law_k", "_law_strict"]
theorem sc_l_leads : FnScope N_l_leads ["_law_buys_here", "_law_links_here"] (defScope s_l_leads) := ⟨rfl, rfl, rfl, by decide +kernel, rfl, by decide +kernel, by decide +kernel⟩
abbrev s_l_has_ring : Stmt := topS 62
abbrev N_l_has_ring : List Str := ["_law_table", "_law_i"]
theorem sc_l_has_ring : FnScope N_l_has_ring ["_law_table"] (defScope s_l_has_ring) := ⟨rfl, rfl, rfl, by decide +kernel, rfl, by decide +kernel, by decide +kernel⟩
abbrev s_l_chain : Stmt := topS 63
abbrev N_l_chain : List Str := ["_law_buys_here", "_law_links_here", "_law_chain_here", "_law_i", "_law_strict", "_law_k", "_law_one"]
theorem sc_l_chain : FnScope N_l_chain ["_law_buys_here", "_law_links_here", "_law_chain_here"] (defScope s_l_chain) := ⟨rfl, rfl, rfl, by decide +kernel, rfl, by decide +kernel, by decide +kernel⟩
abbrev s_l_is_ring : Stmt := topS 64
abbrev N_l_is_ring : List Str := ["_law_buys_here", "_law_links_here", "_law_chain_here"]
theorem sc_l_is_ring : FnScope N_l_is_ring ["_law_buys_here", "_law_links_here", "_law_chain_here"] (defScope s_l_is_ring) := ⟨rfl, rfl, rfl, by decide +kernel, rfl, by decide +kernel, by decide +kernel⟩
abbrev s_l_reached : Stmt := topS 65
abbrev N_l_reached : List Str := ["_law_buys_here", "_law_links_here", "_law_prices", "_law_money", "_law_table", "_law_result", "_law_buy_here", "_law_i", "_law_price_here", "_law_j", "_law_strict"]
theorem sc_l_reached : FnScope N_l_reached ["_law_buys_here", "_law_links_here", "_law_prices", "_law_money"] (defScope s_l_reached) := ⟨rfl, rfl, rfl, by decide +kernel, rfl, by decide +kernel, by decide +kernel⟩
abbrev s_l_keeps : Stmt := topS 66
abbrev N_l_keeps : List Str := ["_law_buys_here", "_law_rows", "_law_basket_here", "_law_weakly", "_law_j", "_law_price_here", "_law_money"]
theorem sc_l_keeps : FnScope N_l_keeps ["_law_buys_here", "_law_rows", "_law_basket_here", "_law_weakly"] (defScope s_l_keeps) := ⟨rfl, rfl, rfl, by decide +kernel, rfl, by decide +kernel, by decide +kernel⟩
abbrev s_l_world : Stmt := topS 67
abbrev N_l_world : List Str := ["_law_row_here", "_law_goods", "_law_count", "_law_buys_here", "_law_links_here", "_law_prices", "_law_x", "_law_money", "_law_exact"]
theorem sc_l_world : FnScope N_l_world ["_law_row_here"] (defScope s_l_world) := ⟨rfl, rfl, rfl, by decide +kernel, rfl, by decide +kernel, by decide +kernel⟩
abbrev s_l_unchanged : Stmt := topS 68
abbrev N_l_unchanged : List Str := ["_law_data", "_law_goods", "_law_buys_here", "_law_links_here", "_law_p", "_law_a"]
theorem sc_l_unchanged : FnScope N_l_unchanged ["_law_data", "_law_goods", "_law_buys_here", "_law_links_here"] (defScope s_l_unchanged) := ⟨rfl, rfl, rfl, by decide +kernel, rfl, by decide +kernel, by decide +kernel⟩
abbrev s_l_basket : Stmt := topS 69
abbrev N_l_basket : List Str := ["_law_row_here", "_law_prices", "_law_money", "_law_goods", "_law_amounts", "_law_x", "_law_total", "_law_part", "_law_result", "_law_one"]
theorem sc_l_basket : FnScope N_l_basket ["_law_row_here", "_law_prices", "_law_money"] (defScope s_l_basket) := ⟨rfl, rfl, rfl, by decide +kernel, rfl, by decide +kernel, by decide +kernel⟩
abbrev s_l_taste : Stmt := topS 70
abbrev N_l_taste : List Str := ["_law_goods", "_law_buys_here", "_law_links_here", "_law_taste_here", "_law_count", "_law_i", "_law_j", "_law_more", "_law_strict"]
theorem sc_l_taste : FnScope N_l_taste ["_law_goods", "_law_buys_here", "_law_links_here", "_law_taste_here"] (defScope s_l_taste) := ⟨rfl, rfl, rfl, by decide +kernel, rfl, by decide +kernel, by decide +kernel⟩
abbrev s_l_row_told : Stmt := topS 71
abbrev N_l_row_told : List Str := ["_law_buys_here", "_law_links_here", "_law_rows", "_law_prices", "_law_money", "_law_basket_here", "_law_actual", "_law_j", "_law_strict", "_law_price_here", "_law_costs", "_law_due"]
theorem sc_l_row_told : FnScope N_l_row_told ["_law_buys_here", "_law_links_here", "_law_rows", "_law_prices", "_law_money", "_law_basket_here", "_law_actual"] (defScope s_l_row_told) := ⟨rfl, rfl, rfl, by decide +kernel, rfl, by decide +kernel, by decide +kernel⟩
abbrev s_law : Stmt := topS 72
abbrev N_law : List Str := ["_law_script", "_law_row_here", "_law_goods", "_law_buys_here", "_law_links_here", "_law_prices", "_law_money", "_law_basket_here", "_law_data", "_law_actual", "_law_table", "_law_rows", "_law_more"]
theorem sc_law : FnScope N_law ["_law_script"] (defScope s_law) := ⟨rfl, rfl, rfl, by decide +kernel, rfl, by decide +kernel, by decide +kernel⟩
end BB
set_option linter.all false
namespace BB
structure FdOk (n : Nat) (f : Fd) : Prop where
  nd : (f.map (·.1)).Nodup
  lt : ∀ e ∈ f, e.1.1 < n
  le : ∀ e ∈ f, e.2.length ≤ f.length
theorem len_le_of_nodup {α : Type} [DecidableEq α] : ∀ {l l' : List α}, l.Nodup → (∀ x ∈ l, x ∈ l') → l.length ≤ l'.length
  | [], _, _, _ => Nat.zero_le _
  | x :: l, l', h, s => by
    obtain ⟨h1, h2⟩ := List.nodup_cons.mp h
    have hx : x ∈ l' := s x List.mem_cons_self
    have ih := len_le_of_nodup (l' := l'.erase x) h2 fun y hy => by
      have hne : y ≠ x := fun e => h1 (e ▸ hy)
      exact (List.mem_erase_of_ne hne).mpr (s y (List.mem_cons_of_mem _ hy))
    rw [List.length_erase_of_mem hx] at ih
    have := List.length_pos_of_mem hx
    rw [List.length_cons]; omega
def keysTo (n : Nat) : List (Nat × Bool) := (List.range n).map (·, false) ++ (List.range n).map (·, true)
theorem FdOk.len {n : Nat} {f : Fd} (h : FdOk n f) : f.length ≤ 2 * n := by
  have := len_le_of_nodup (l' := keysTo n) h.nd fun x hx => by
    obtain ⟨e, he, rfl⟩ := List.mem_map.mp hx
    have := h.lt e he
    unfold keysTo
    obtain ⟨⟨k, b⟩, c⟩ := e
    cases b
    · exact List.mem_append_left _ (List.mem_map.mpr ⟨k, List.mem_range.mpr this, rfl⟩)
    · exact List.mem_append_right _ (List.mem_map.mpr ⟨k, List.mem_range.mpr this, rfl⟩)
  unfold keysTo at this
  simp at this
  omega
theorem lookup_none {f : Fd} {q : Nat × Bool} : f.lookup q = none ↔ q ∉ f.map (·.1) := by
  induction f with
  | nil => simp
  | cons e f ih =>
    obtain ⟨k, c⟩ := e
    rw [List.lookup_cons, List.map_cons, List.mem_cons, not_or]
    cases h : q == k with
    | true =>
      have : q = k := by simpa using h
      simp [this]
    | false =>
      have : q ≠ k := by simpa using h
      show List.lookup q f = none ↔ _
      rw [ih]
      exact ⟨fun x => ⟨this, x⟩, fun x => x.2⟩
theorem lookup_some {f : Fd} {q : Nat × Bool} {c : List Nat} (h : f.lookup q = some c) : (q, c) ∈ f := by
  induction f with
  | nil => simp at h
  | cons e f ih =>
    obtain ⟨k, c'⟩ := e
    rw [List.lookup_cons] at h
    cases hb : q == k with
    | true =>
      rw [hb] at h
      have e1 : q = k := by simpa using hb
      have h : some c' = some c := h
      cases h
      rw [e1]; exact List.mem_cons_self
    | false =>
      rw [hb] at h
      exact List.mem_cons_of_mem _ (ih h)
theorem lookup_mem {f : Fd} (hn : (f.map (·.1)).Nodup) {q : Nat × Bool} {c : List Nat} (h : (q, c) ∈ f) : f.lookup q = some c := by
  induction f with
  | nil => simp at h
  | cons e f ih =>
    obtain ⟨k, c'⟩ := e
    rw [List.map_cons, List.nodup_cons] at hn
    rw [List.lookup_cons]
    rcases List.mem_cons.mp h with e1 | h
    · cases e1; simp
    · have hne : q ≠ k := fun z => hn.1 (by rw [← z]; exact List.mem_map.mpr ⟨_, h, rfl⟩)
      have hb : (q == k) = false := by simpa using hne
      rw [hb]
      exact ih hn.2 h
theorem bfsK_ok {n : Nat} {T : Tb} {j : Nat} {s : Bool} {ch : List Nat} {f : Fd} {k : Nat} (h : FdOk n f) (hk : k < n) (hc : ch.length ≤ f.length) : FdOk n (bfsK T j s ch f k) ∧ f.length ≤ (bfsK T j s ch f k).length := by
  unfold bfsK
  cases tb T j k with
  | none => exact ⟨h, Nat.le_refl _⟩
  | some one =>
    show FdOk n (if (f.lookup (k, s || one)).isSome = true then f else f ++ [((k, s || one), ch ++ [k])]) ∧ f.length ≤ (if (f.lookup (k, s || one)).isSome = true then f else f ++ [((k, s || one), ch ++ [k])]).length
    cases e : f.lookup (k, s || one) with
    | some c => exact ⟨h, Nat.le_refl _⟩
    | none =>
      rw [if_neg (by simp)]
      refine ⟨⟨?_, fun x hx => ?_, fun x hx => ?_⟩, by rw [List.length_append]; omega⟩
      · rw [List.map_append, List.nodup_append]
        refine ⟨h.nd, by simp, fun a ha b hb z => ?_⟩
        have : b = (k, s || one) := by simpa using hb
        subst this; subst z
        exact lookup_none.mp e ha
      · rcases List.mem_append.mp hx with hx | hx
        · exact h.lt x hx
        · cases List.mem_singleton.mp hx; exact hk
      · rw [List.length_append, List.length_singleton]
        rcases List.mem_append.mp hx with hx | hx
        · have := h.le x hx; omega
        · cases List.mem_singleton.mp hx
          rw [List.length_append, List.length_singleton]; omega
def rowTo (T : Tb) (f : Fd) (a k : Nat) : Fd := (List.range k).foldl (bfsK T (f.getD a ((0, false), [])).1.1 (f.getD a ((0, false), [])).1.2 (f.getD a ((0, false), [])).2) f
theorem rowTo_succ (T : Tb) (f : Fd) (a k : Nat) : rowTo T f a (k + 1) = bfsK T (f.getD a ((0, false), [])).1.1 (f.getD a ((0, false), [])).1.2 (f.getD a ((0, false), [])).2 (rowTo T f a k) k := by
  unfold rowTo
  rw [List.range_succ, List.foldl_append]; rfl
theorem rowTo_ok {T : Tb} {f : Fd} {a : Nat} (h : FdOk T.length f) (ha : a < f.length) : ∀ k, k ≤ T.length → FdOk T.length (rowTo T f a k) ∧ f.length ≤ (rowTo T f a k).length
  | 0, _ => ⟨h, Nat.le_refl _⟩
  | k + 1, hk => by
    obtain ⟨h1, h2⟩ := rowTo_ok h ha k (by omega)
    rw [rowTo_succ]
    have hm : f.getD a ((0, false), []) ∈ f := by
      rw [List.getD_eq_getElem?_getD, List.getElem?_eq_getElem ha]
      exact List.getElem_mem ha
    have hc := h.le _ hm
    obtain ⟨h3, h4⟩ := bfsK_ok (T := T) (j := (f.getD a ((0, false), [])).1.1) (s := (f.getD a ((0, false), [])).1.2) (ch := (f.getD a ((0, false), [])).2) h1 (show k < T.length by omega) (by omega)
    exact ⟨h3, by omega⟩
theorem first_ok {n i : Nat} (hi : i < n) : FdOk n [((i, false), [i])] := ⟨by simp, fun e he => by cases List.mem_singleton.mp he; exact hi, fun e he => by cases List.mem_singleton.mp he; simp⟩
theorem bfs_ok {T : Tb} : ∀ (m : Nat) {f : Fd} {a : Nat}, FdOk T.length f → FdOk T.length (bfs T m f a)
  | 0, f, a, h => h
  | m + 1, f, a, h => by
    unfold bfs
    split
    · rename_i ha
      exact bfs_ok m (rowTo_ok h ha T.length (Nat.le_refl _)).1
    · exact h
theorem findIn_ok {T : Tb} {i : Nat} (hi : i < T.length) : FdOk T.length (findIn T i) := bfs_ok _ (first_ok hi)
end BB
set_option Elab.async false
set_option linter.all false
set_option maxRecDepth 100000
set_option maxHeartbeats 4000000
namespace BB
open PySem PySem.Spec PyProof.Rows L2
section
variable {M : Mo} {N : List Str} {sc : Scope} {fn : Str → Bool} {k : Nat} {ρ : Ro} {d : D} {x : Str} {pos pos' : Pos} {e : Expr} {E : EndsD} {ds : List D} {st : Stmt} {ss : List Stmt} {Γ : Cy}
theorem ed_v (i : Nat) (hN : N[i]? = some x) (h : ρ[i]? = some (.dat d)) (hv : visB sc x = true := by decide +kernel) (hd : (x == ("__debug__" : Str)) = false := by decide) (hcd : (x == ("__classdict__" : Str)) = false := by decide) : ED ⟨M, N, sc, fn, k⟩ ρ (.Name x pos) d := ed_var hN hv h hd hcd
theorem gd_n (i : Nat) (hN : N[i]? = some x) (hnd : N.Nodup) (hl : locB sc fn x = true := by decide +kernel) : GD ⟨M, N, sc, fn, k⟩ (.Name x pos) [i] d ρ (ρ.set i (.dat d)) := gd_name hN hnd hl
theorem w1_s (i : Nat) (hN : N[i]? = some x) (hnd : N.Nodup) (h : ED ⟨M, N, sc, fn, k⟩ ρ e d) (hk : E.nx (ρ.set i (.dat d))) (hl : locB sc fn x = true := by decide +kernel)
    (hs : ∀ env, swapsWith e (some (.Name x pos')) pos.line env = pure false := by intro _; rfl) : W1 ⟨M, N, sc, fn, k⟩ (.Assign [.Name x pos'] e pos) E ρ := w1_set hN hnd hl h hk hs
theorem w1_n (i : Nat) (hN : N[i]? = some x) (hnd : N.Nodup) (h : EN ⟨M, N, sc, fn, k⟩ ρ e ds) (hk : E.nx (ρ.set i (.own ds))) (hl : locB sc fn x = true := by decide +kernel)
    (hs : ∀ env, swapsWith e (some (.Name x pos')) pos.line env = pure false := by intro _; rfl) : W1 ⟨M, N, sc, fn, k⟩ (.Assign [.Name x pos'] e pos) E ρ := w1_new hN hnd hl h hk hs
theorem ws_cut (Mid : Ro → Prop) (h : W1 Γ st { E with nx := Mid } ρ) (hk : ∀ ρ', Mid ρ' → WS Γ ss E ρ') : WS Γ (st :: ss) E ρ := ws_cons fun G0 H0 σ G H W D r => h G0 H0 σ G H W D ⟨fun ρ' σ' G' H' W' m => r.nx ρ' σ' G' H' W' (hk ρ' m), r.rt, r.bk, r.ct, r.fr⟩
structure Df (M : Mo) (x : Str) (st : Stmt) (ps : List Str) : Prop where
  ex : ∃ f fd, Fun M.K x x st f fd ∧ M.mg x = some (.ref f) ∧ Binds M.K fd ps []
theorem Df.has {ps : List Str} {R : List D → D → Prop} (h : Df M x st ps) (S : FnScope N ps (defScope st)) (hlen : ∀ ds d, R ds d → ds.length = ps.length)
    (hb : ∀ ds d, R ds d → WS ⟨M, N, defScope st, fun _ => true, k⟩ (defBody st) { nx := fun _ => d = .non, rt := fun d' => d' = d } (dats ds N.length)) : Has M (k + 1) x R := by
  obtain ⟨f, fd, F, hm, hbd⟩ := h.ex
  exact has_of F S hm hbd hlen hb
end
theorem Df.hasN {M : Mo} {N : List Str} {x : Str} {k : Nat} {st : Stmt} {ps : List Str} {R : List D → List D → Prop} (h : Df M x st ps) (S : FnScope N ps (defScope st)) (hlen : ∀ ds d, R ds d → ds.length = ps.length ∧ PInt d)
    (hb : ∀ ds d, R ds d → WS ⟨M, N, defScope st, fun _ => true, k⟩ (defBody st) { nx := fun _ => False, rt := fun _ => False, fr := fun d' => d' = d } (dats ds N.length)) : HasN M (k + 1) x R := by
  obtain ⟨f, fd, F, hm, hbd⟩ := h.ex
  exact hasN_of F S hm hbd hlen hb
structure Tx (M : Mo) : Prop where
  zero : Cst M "ZERO" (qD q0)
  one : Cst M "ONE" (qD q1)
  gcd : M.mg "gcd" = some (.builtin "math.gcd")
  len : M.mg "len" = none
  range : M.mg "range" = none
  int : M.mg "int" = none
  abs : M.mg "abs" = none
  list : M.mg "list" = none
  isi : M.mg "isinstance" = none
  bool : M.mg "bool" = none
  tuple : M.mg "tuple" = none
  dat : DatC M
theorem len_ok {ds : List D} (h : Nat.ble ds.length 1000 = true := by rfl) : ds.length ≤ 1000 := Nat.le_of_ble_eq_true h
def Ok (x : Qt) : Prop := x.1.natAbs < 2 ^ 400000 ∧ 0 < x.2 ∧ x.2.natAbs < 2 ^ 9000
theorem Ok.mul11 {a b : Qt} (ha : Ok a) (hb : Ok b) : CMulW a.1 b.1 := wide_mul ha.1 hb.1 (by decide) (by decide) (by decide)
theorem Ok.mul12 {a b : Qt} (ha : Ok a) (hb : Ok b) : CMulW a.1 b.2 := wide_mul ha.1 hb.2.2 (by decide) (by decide) (by decide)
theorem Ok.mul21 {a b : Qt} (ha : Ok a) (hb : Ok b) : CMulW a.2 b.1 := wide_mul ha.2.2 hb.1 (by decide) (by decide) (by decide)
theorem Ok.mul22 {a b : Qt} (ha : Ok a) (hb : Ok b) : CMulW a.2 b.2 := wide_mul ha.2.2 hb.2.2 (by decide) (by decide) (by decide)
def R_ratio (ds : List D) (d : D) : Prop := ∃ p q : Int, ds = [.int p, .int q] ∧ q ≠ 0 ∧ q.natAbs < 2 ^ 9000 ∧ d = qD (ratio p q)
theorem has_ratio {M : Mo} (T : Tx M) (F : Df M "ratio" s_ratio ["p", "q"]) : Has M 1 "ratio" R_ratio := by
  refine F.has sc_ratio (fun ds d h => by obtain ⟨p, q, rfl, _⟩ := h; rfl) fun ds d h => ?_
  obtain ⟨p, q, rfl, hq, hs, rfl⟩ := h
  have nd := sc_ratio.nd
  refine ws_cut (fun ρ => ρ = [.dat (.int (if q < 0 then -p else p)), .dat (.int (if q < 0 then -q else q)), .un]) (w1_if (td_lt (ed_v 1 rfl rfl) ed_int) (fun hc => ?_) (fun hc => ?_)) ?_
  · have hc : q < 0 := of_decide_eq_true hc
    refine ws_cons (w1_s 0 rfl nd (ed_neg (ed_v 0 rfl rfl)) ?_)
    refine ws_one (w1_s 1 rfl nd (ed_neg (ed_v 1 rfl rfl)) ?_)
    rw [if_pos hc, if_pos hc]; rfl
  · have hc : ¬ q < 0 := of_decide_eq_false hc
    refine ws_nil ?_
    rw [if_neg hc, if_neg hc]; rfl
  · rintro ρ' rfl
    refine ws_cons (w1_s 2 rfl nd (ed_gcd T.gcd (by decide +kernel) (ed_v 0 rfl rfl) (ed_v 1 rfl rfl)) ?_)
    have hq' : (if q < 0 then -q else q).natAbs = q.natAbs := by split <;> omega
    have hpos : 0 < Nat.gcd (if q < 0 then -p else p).natAbs (if q < 0 then -q else q).natAbs := Nat.gcd_pos_of_pos_right _ (by rw [hq']; omega)
    have hcd : ∀ z : Int, CDivW z ((Nat.gcd (if q < 0 then -p else p).natAbs (if q < 0 then -q else q).natAbs : Nat) : Int) := fun z => by
      refine wide_div (b := 9000) (by omega) ?_ (by decide) (by decide)
      refine Nat.lt_of_le_of_lt ?_ hs
      rw [Int.natAbs_natCast]
      refine Nat.le_trans (Nat.gcd_le_right _ ?_) (by rw [hq']; exact Nat.le_refl _)
      rw [hq']; omega
    exact ws_one (w1_ret (ed_tup (ad_cons (ed_fdiv (ed_v 0 rfl rfl) (ed_v 2 rfl rfl) (hcd _)) (ad_cons (ed_fdiv (ed_v 1 rfl rfl) (ed_v 2 rfl rfl) (hcd _)) ad_nil)) len_ok) rfl)
def R_add (ds : List D) (d : D) : Prop := ∃ a b : Qt, ds = [qD a, qD b] ∧ Ok a ∧ Ok b ∧ (a.2 * b.2).natAbs < 2 ^ 9000 ∧ d = qD (qadd a b)
theorem has_add {M : Mo} (T : Tx M) (F : Df M "add" s_add ["a", "b"]) (Hratio : Has M 1 "ratio" R_ratio) : Has M 2 "add" R_add := by
  refine F.has sc_add (fun ds d h => by obtain ⟨p, q, rfl, _⟩ := h; rfl) fun ds d h => ?_
  obtain ⟨a, b, rfl, ha, hb, hs, rfl⟩ := h
  exact ws_one (w1_ret (ed_call Hratio (by decide) (by decide +kernel) (ad_cons (ed_add (ed_mul (ed_ixT (ed_v 0 rfl rfl) ed_int rfl) (ed_ixT (ed_v 1 rfl rfl) ed_int rfl) (ha.mul12 hb)) (ed_mul (ed_ixT (ed_v 1 rfl rfl) ed_int rfl) (ed_ixT (ed_v 0 rfl rfl) ed_int rfl) (hb.mul12 ha)))
    (ad_cons (ed_mul (ed_ixT (ed_v 0 rfl rfl) ed_int rfl) (ed_ixT (ed_v 1 rfl rfl) ed_int rfl) (ha.mul22 hb)) ad_nil)) ⟨_, _, rfl, Int.ne_of_gt (Int.mul_pos ha.2.1 hb.2.1), hs, rfl⟩) rfl)
def R_sub (ds : List D) (d : D) : Prop := ∃ a b : Qt, ds = [qD a, qD b] ∧ Ok a ∧ Ok b ∧ (a.2 * b.2).natAbs < 2 ^ 9000 ∧ d = qD (qsub a b)
theorem has_sub {M : Mo} (T : Tx M) (F : Df M "sub" s_sub ["a", "b"]) (Hratio : Has M 1 "ratio" R_ratio) : Has M 2 "sub" R_sub := by
  refine F.has sc_sub (fun ds d h => by obtain ⟨p, q, rfl, _⟩ := h; rfl) fun ds d h => ?_
  obtain ⟨a, b, rfl, ha, hb, hs, rfl⟩ := h
  exact ws_one (w1_ret (ed_call Hratio (by decide) (by decide +kernel) (ad_cons (ed_sub (ed_mul (ed_ixT (ed_v 0 rfl rfl) ed_int rfl) (ed_ixT (ed_v 1 rfl rfl) ed_int rfl) (ha.mul12 hb)) (ed_mul (ed_ixT (ed_v 1 rfl rfl) ed_int rfl) (ed_ixT (ed_v 0 rfl rfl) ed_int rfl) (hb.mul12 ha)))
    (ad_cons (ed_mul (ed_ixT (ed_v 0 rfl rfl) ed_int rfl) (ed_ixT (ed_v 1 rfl rfl) ed_int rfl) (ha.mul22 hb)) ad_nil)) ⟨_, _, rfl, Int.ne_of_gt (Int.mul_pos ha.2.1 hb.2.1), hs, rfl⟩) rfl)
def R_mul (ds : List D) (d : D) : Prop := ∃ a b : Qt, ds = [qD a, qD b] ∧ Ok a ∧ Ok b ∧ (a.2 * b.2).natAbs < 2 ^ 9000 ∧ d = qD (qmul a b)
theorem has_mul {M : Mo} (T : Tx M) (F : Df M "mul" s_mul ["a", "b"]) (Hratio : Has M 1 "ratio" R_ratio) : Has M 2 "mul" R_mul := by
  refine F.has sc_mul (fun ds d h => by obtain ⟨p, q, rfl, _⟩ := h; rfl) fun ds d h => ?_
  obtain ⟨a, b, rfl, ha, hb, hs, rfl⟩ := h
  exact ws_one (w1_ret (ed_call Hratio (by decide) (by decide +kernel) (ad_cons (ed_mul (ed_ixT (ed_v 0 rfl rfl) ed_int rfl) (ed_ixT (ed_v 1 rfl rfl) ed_int rfl) (ha.mul11 hb))
    (ad_cons (ed_mul (ed_ixT (ed_v 0 rfl rfl) ed_int rfl) (ed_ixT (ed_v 1 rfl rfl) ed_int rfl) (ha.mul22 hb)) ad_nil)) ⟨_, _, rfl, Int.ne_of_gt (Int.mul_pos ha.2.1 hb.2.1), hs, rfl⟩) rfl)
def R_div (ds : List D) (d : D) : Prop := ∃ a b : Qt, ds = [qD a, qD b] ∧ Ok a ∧ Ok b ∧ b.1 ≠ 0 ∧ (a.2 * b.1).natAbs < 2 ^ 9000 ∧ d = qD (qdiv a b)
theorem has_div {M : Mo} (T : Tx M) (F : Df M "div" s_div ["a", "b"]) (Hratio : Has M 1 "ratio" R_ratio) : Has M 2 "div" R_div := by
  refine F.has sc_div (fun ds d h => by obtain ⟨p, q, rfl, _⟩ := h; rfl) fun ds d h => ?_
  obtain ⟨a, b, rfl, ha, hb, h0, hs, rfl⟩ := h
  exact ws_one (w1_ret (ed_call Hratio (by decide) (by decide +kernel) (ad_cons (ed_mul (ed_ixT (ed_v 0 rfl rfl) ed_int rfl) (ed_ixT (ed_v 1 rfl rfl) ed_int rfl) (ha.mul12 hb))
    (ad_cons (ed_mul (ed_ixT (ed_v 0 rfl rfl) ed_int rfl) (ed_ixT (ed_v 1 rfl rfl) ed_int rfl) (ha.mul21 hb)) ad_nil)) ⟨_, _, rfl, Int.mul_ne_zero (Int.ne_of_gt ha.2.1) h0, hs, rfl⟩) rfl)
def R_less (ds : List D) (d : D) : Prop := ∃ a b : Qt, ds = [qD a, qD b] ∧ Ok a ∧ Ok b ∧ d = .bl (qless a b)
theorem has_less {M : Mo} (T : Tx M) (F : Df M "less" s_less ["a", "b"]) : Has M 1 "less" R_less := by
  refine F.has sc_less (fun ds d h => by obtain ⟨p, q, rfl, _⟩ := h; rfl) fun ds d h => ?_
  obtain ⟨a, b, rfl, ha, hb, rfl⟩ := h
  exact ws_one (w1_ret (ed_lt (ed_mul (ed_ixT (ed_v 0 rfl rfl) ed_int rfl) (ed_ixT (ed_v 1 rfl rfl) ed_int rfl) (ha.mul12 hb)) (ed_mul (ed_ixT (ed_v 1 rfl rfl) ed_int rfl) (ed_ixT (ed_v 0 rfl rfl) ed_int rfl) (hb.mul12 ha))) rfl)
def R_atm (ds : List D) (d : D) : Prop := ∃ a b : Qt, ds = [qD a, qD b] ∧ Ok a ∧ Ok b ∧ d = .bl (qatm a b)
theorem has_atm {M : Mo} (T : Tx M) (F : Df M "at_most" s_at_most ["a", "b"]) : Has M 1 "at_most" R_atm := by
  refine F.has sc_at_most (fun ds d h => by obtain ⟨p, q, rfl, _⟩ := h; rfl) fun ds d h => ?_
  obtain ⟨a, b, rfl, ha, hb, rfl⟩ := h
  exact ws_one (w1_ret (ed_le (ed_mul (ed_ixT (ed_v 0 rfl rfl) ed_int rfl) (ed_ixT (ed_v 1 rfl rfl) ed_int rfl) (ha.mul12 hb)) (ed_mul (ed_ixT (ed_v 1 rfl rfl) ed_int rfl) (ed_ixT (ed_v 0 rfl rfl) ed_int rfl) (hb.mul12 ha))) rfl)
end BB
set_option Elab.async false
set_option linter.all false
set_option maxRecDepth 100000
set_option maxHeartbeats 4000000
namespace BB
open PySem PySem.Spec PyProof.Rows L2
abbrev qsD (xs : List Qt) : D := .lst (xs.map qD)
abbrev buyD (b : Buy) : D := .tup [qsD b.1, qsD b.2]
abbrev buysD (bs : List Buy) : D := .lst (bs.map buyD)
abbrev lkD (l : Lk) : D := .tup [.int (l.1 : Int), .int (l.2.1 : Int), .bl l.2.2]
abbrev lksD (ls : List Lk) : D := .lst (ls.map lkD)
abbrev datD (d : Dt) : D := .dat (.int (d.goods : Int)) (buysD d.buys) (lksD d.links)
def obD : Option Bool → D
  | none => .non
  | some b => .bl b
abbrev rowD (r : List (Option Bool)) : D := .lst (r.map obD)
abbrev tabD (T : Tb) : D := .lst (T.map rowD)
abbrev natsD (xs : List Nat) : D := .lst (xs.map fun (n : Nat) => .int (n : Int))
theorem obD_nb (o : Option Bool) : (obD o).nb = true := by cases o <;> rfl
theorem obD_isT (o : Option Bool) : (obD o).isT = (o == some true) := by
  cases o with
  | none => rfl
  | some b => cases b <;> rfl
theorem obD_isN (o : Option Bool) : (obD o).isN = o.isNone := by cases o <;> rfl
theorem at_map {α : Type} {xs : List α} {f : α → D} {i : Nat} (z : α) (h : i < xs.length) : atI (xs.map f) (i : Int) = some (f (xs.getD i z)) := by
  refine atI_nat ?_
  rw [List.getElem?_map, List.getElem?_eq_getElem h, List.getD_eq_getElem?_getD, List.getElem?_eq_getElem h]
  rfl
theorem mapGet {α : Type} {xs : List α} {f : α → D} {i : Nat} {d : D} (h : (xs.map f)[i]? = some d) : ∃ x, xs[i]? = some x ∧ d = f x := by
  rw [List.getElem?_map] at h
  cases e : xs[i]? with
  | none => rw [e] at h; cases h
  | some x => rw [e] at h; cases h; exact ⟨x, rfl, rfl⟩
theorem foldl_take {α β : Type} (f : β → α → β) (b : β) : ∀ (l : List α) (i : Nat) (x : α), l[i]? = some x → (l.take (i + 1)).foldl f b = f ((l.take i).foldl f b) x := by
  intro l i x h
  rw [List.take_add_one, h, List.foldl_append]
  rfl
theorem foldl_range {β : Type} (f : β → Nat → β) (b : β) (i : Nat) : (List.range (i + 1)).foldl f b = f ((List.range i).foldl f b) i := by
  rw [List.range_succ, List.foldl_append]; rfl
structure DotOk (a b : List Qt) : Prop where
  l : a.length ≤ 1000
  le : a.length ≤ b.length
  oa : ∀ k, k < a.length → Ok (a.getD k q0)
  ob : ∀ k, k < a.length → Ok (b.getD k q0)
  ab : ∀ k, k < a.length → ((a.getD k q0).2 * (b.getD k q0).2).natAbs < 2 ^ 9000
  m : ∀ k, k < a.length → Ok (qmul (a.getD k q0) (b.getD k q0))
  t : ∀ k, k < a.length → Ok (dotN a b k)
  tm : ∀ k, k < a.length → ((dotN a b k).2 * (qmul (a.getD k q0) (b.getD k q0)).2).natAbs < 2 ^ 9000
def R_dot (ds : List D) (d : D) : Prop := ∃ a b : List Qt, ds = [qsD a, qsD b] ∧ DotOk a b ∧ d = qD (dot a b)
theorem has_dot {M : Mo} (T : Tx M) (F : Df M "dot" s_dot ["a", "b"]) (Hadd : Has M 2 "add" R_add) (Hmul : Has M 2 "mul" R_mul) : Has M 3 "dot" R_dot := by
  refine F.has sc_dot (fun ds d h => by obtain ⟨p, q, rfl, _⟩ := h; rfl) fun ds d h => ?_
  obtain ⟨a, b, rfl, ok, rfl⟩ := h
  have nd := sc_dot.nd
  have hl := ok.l
  refine ws_cons (w1_s 2 rfl nd (ed_cst T.zero (by decide +kernel)) ?_)
  refine ws_cons (w1_for (fun k ρ => ∃ x, ρ = [.dat (qsD a), .dat (qsD b), .dat (qD (dotN a b k)), x]) (id_range T.range (by decide +kernel) (ed_lenL T.len (by decide +kernel) (ed_v 0 rfl rfl)) (by omega) (by rw [List.length_map]; omega)) ⟨_, rfl⟩ (fun k d ρ hd hP => ?_) (fun ρ hP => ?_))
  · obtain ⟨x, rfl⟩ := hP
    obtain ⟨hk, rfl⟩ := rngD_get hd
    rw [List.length_map] at hk
    have hk : k < a.length := by omega
    have hkb : k < b.length := by have := ok.le; omega
    refine ⟨_, _, gd_n 3 rfl nd, ws_one (w1_s 2 rfl nd (ed_call Hadd (by decide) (by decide +kernel) (ad_cons (ed_v 2 rfl rfl) (ad_cons (ed_call Hmul (by decide) (by decide +kernel) (ad_cons (ed_ixL (ed_v 0 rfl rfl) (ed_v 3 rfl rfl) (at_map q0 hk)) (ad_cons (ed_ixL (ed_v 1 rfl rfl) (ed_v 3 rfl rfl) (at_map q0 hkb)) ad_nil)) ⟨_, _, rfl, ok.oa k hk, ok.ob k hk, ok.ab k hk, rfl⟩) ad_nil)) ⟨_, _, rfl, ok.t k hk, ok.m k hk, ok.tm k hk, rfl⟩) ⟨_, rfl⟩)⟩
  · obtain ⟨x, rfl⟩ := hP
    refine ws_one (w1_ret (ed_v 2 rfl rfl) ?_)
    show qD _ = qD _
    rw [rngD_len, List.length_map]
    rfl
theorem has_cost {M : Mo} (T : Tx M) (F : Df M "cost" s_cost ["prices", "amounts"]) (Hdot : Has M 3 "dot" R_dot) : Has M 4 "cost" R_dot := by
  refine F.has sc_cost (fun ds d h => by obtain ⟨p, q, rfl, _⟩ := h; rfl) fun ds d h => ?_
  obtain ⟨a, b, rfl, ok, rfl⟩ := h
  exact ws_one (w1_ret (ed_call Hdot (by decide) (by decide +kernel) (ad_cons (ed_v 0 rfl rfl) (ad_cons (ed_v 1 rfl rfl) ad_nil)) ⟨_, _, rfl, ok, rfl⟩) rfl)
def R_spent (ds : List D) (d : D) : Prop := ∃ (dt : Dt) (i : Nat), ds = [datD dt, .int (i : Int)] ∧ i < dt.n ∧ DotOk (dt.pr i) (dt.am i) ∧ d = qD (spt dt i)
theorem has_spent {M : Mo} (T : Tx M) (F : Df M "spent" s_spent ["data", "i"]) (Hdot : Has M 3 "dot" R_dot) : Has M 4 "spent" R_spent := by
  refine F.has sc_spent (fun ds d h => by obtain ⟨p, q, rfl, _⟩ := h; rfl) fun ds d h => ?_
  obtain ⟨dt, i, rfl, hi, ok, rfl⟩ := h
  have nd := sc_spent.nd
  refine ws_cons (w1_asg (ed_ixL (ed_fld T.dat (ed_v 0 rfl rfl) (.inr (.inl ⟨rfl, rfl⟩))) (ed_v 1 rfl rfl) (at_map ([], []) hi)) (gd_tup (tgd_cons (gd_n 2 rfl nd) (tgd_cons (gd_n 3 rfl nd) tgd_nil))) ?_)
  exact ws_one (w1_ret (ed_call Hdot (by decide) (by decide +kernel) (ad_cons (ed_v 2 rfl rfl) (ad_cons (ed_v 3 rfl rfl) ad_nil)) ⟨_, _, rfl, ok, rfl⟩) rfl)
structure DtOk (d : Dt) : Prop where
  n : d.n ≤ 100
  l : d.links.length ≤ 100
  dot : ∀ i j, i < d.n → j < d.n → DotOk (d.pr i) (d.am j)
  ok : ∀ i j, i < d.n → j < d.n → Ok (cst d i j)
theorem DtOk.sp {d : Dt} (h : DtOk d) {i : Nat} (hi : i < d.n) : Ok (spt d i) := h.ok i i hi hi
def R_step (ds : List D) (d : D) : Prop := ∃ (dt : Dt) (i j : Nat), ds = [datD dt, .int (i : Int), .int (j : Int)] ∧ i < dt.n ∧ j < dt.n ∧ DtOk dt ∧ d = obD (stepF dt i j)
theorem dec_nat (a b : Nat) : decide ((a : Int) = (b : Int)) = decide (a = b) := by
  by_cases h : a = b
  · rw [decide_eq_true h, decide_eq_true (by omega)]
  · rw [decide_eq_false h, decide_eq_false (by omega)]
theorem has_step {M : Mo} (T : Tx M) (F : Df M "step" s_step ["data", "i", "j"]) (Hcost : Has M 4 "cost" R_dot) (Hspent : Has M 4 "spent" R_spent) (Hat : Has M 1 "at_most" R_atm) (Hless : Has M 1 "less" R_less) : Has M 5 "step" R_step := by
  refine F.has sc_step (fun ds d h => by obtain ⟨p, q, r, rfl, _⟩ := h; rfl) fun ds d h => ?_
  obtain ⟨dt, i, j, rfl, hi, hj, ok, rfl⟩ := h
  have nd := sc_step.nd
  refine ws_cons (w1_s 3 rfl nd ed_non ?_)
  refine ws_cut (fun ρ => ∃ x4 x5 r, ρ = [.dat (datD dt), .dat (.int (i : Int)), .dat (.int (j : Int)), .dat (obD r), x4, x5, .un, .un, .un] ∧ r = step0 dt i j) (w1_if (td_ne (ed_v 1 rfl rfl) (ed_v 2 rfl rfl) (.int _ _)) (fun hc => ?_) (fun hc => ?_)) ?_
  · have hij : i ≠ j := by
      rw [dec_nat] at hc
      simpa using hc
    refine ws_cons (w1_s 4 rfl nd (ed_call Hcost (by decide) (by decide +kernel) (ad_cons (ed_ixT (ed_ixL (ed_fld T.dat (ed_v 0 rfl rfl) (.inr (.inl ⟨rfl, rfl⟩))) (ed_v 1 rfl rfl) (at_map ([], []) hi)) ed_int rfl) (ad_cons (ed_ixT (ed_ixL (ed_fld T.dat (ed_v 0 rfl rfl) (.inr (.inl ⟨rfl, rfl⟩))) (ed_v 2 rfl rfl) (at_map ([], []) hj)) ed_int rfl) ad_nil)) ⟨_, _, rfl, ok.dot i j hi hj, rfl⟩) ?_)
    refine ws_cons (w1_s 5 rfl nd (ed_call Hspent (by decide) (by decide +kernel) (ad_cons (ed_v 0 rfl rfl) (ad_cons (ed_v 1 rfl rfl) ad_nil)) ⟨_, _, rfl, hi, ok.dot i i hi hi, rfl⟩) ?_)
    refine ws_one (w1_if (td_val (ed_call Hat (by decide) (by decide +kernel) (ad_cons (ed_v 4 rfl rfl) (ad_cons (ed_v 5 rfl rfl) ad_nil)) ⟨_, _, rfl, ok.ok i j hi hj, ok.sp hi, rfl⟩) fun _ _ => rfl) (fun hc => ?_) (fun hc => ?_))
    · refine ws_one (w1_s 3 rfl nd (ed_call Hless (by decide) (by decide +kernel) (ad_cons (ed_v 4 rfl rfl) (ad_cons (ed_v 5 rfl rfl) ad_nil)) ⟨_, _, rfl, ok.ok i j hi hj, ok.sp hi, rfl⟩) ?_)
      exact ⟨_, _, some _, rfl, (by unfold step0; rw [if_neg hij, if_pos (show qatm (cst dt i j) (spt dt i) = true from hc)]; rfl)⟩
    · exact ws_nil ⟨_, _, none, rfl, (by unfold step0; rw [if_neg hij, if_neg (by rw [show qatm (cst dt i j) (spt dt i) = false from hc]; decide)])⟩
  · have hij : i = j := by
      rw [dec_nat] at hc
      simpa using hc
    exact ws_nil ⟨_, _, none, rfl, (by unfold step0; rw [if_pos hij])⟩
  · rintro ρ ⟨x4, x5, r, rfl, rfl⟩
    refine ws_cons (w1_for (fun k ρ => ∃ x4 x5 x6 x7 x8, ρ = [.dat (datD dt), .dat (.int (i : Int)), .dat (.int (j : Int)), .dat (obD ((dt.links.take k).foldl (lk1 i j) (step0 dt i j))), x4, x5, x6, x7, x8]) (id_list (ed_fld T.dat (ed_v 0 rfl rfl) (.inr (.inr ⟨rfl, rfl⟩)))) ⟨_, _, _, _, _, rfl⟩ (fun k d ρ hd hP => ?_) (fun ρ hP => ?_))
    · obtain ⟨x4, x5, x6, x7, x8, rfl⟩ := hP
      obtain ⟨l, hl, rfl⟩ := mapGet hd
      refine ⟨_, _, gd_tup (tgd_cons (gd_n 6 rfl nd) (tgd_cons (gd_n 7 rfl nd) (tgd_cons (gd_n 8 rfl nd) tgd_nil))), ?_⟩
      rw [foldl_take _ _ _ _ _ hl]
      generalize (dt.links.take k).foldl (lk1 i j) (step0 dt i j) = r
      refine ws_one (w1_if (tv_and (td_eq (ed_v 6 rfl rfl) (ed_v 1 rfl rfl) (.int _ _)) fun _ => (tv_and1 (td_eq (ed_v 7 rfl rfl) (ed_v 2 rfl rfl) (.int _ _)))).td (fun hc => ?_) (fun hc => ?_))
      · rw [dec_nat, dec_nat, Bool.and_eq_true, decide_eq_true_eq, decide_eq_true_eq] at hc
        refine ws_one (w1_s 3 rfl nd (ed_or (ed_isT (ed_v 3 rfl rfl) (obD_nb r)) fun _ => (ed_one (ed_v 8 rfl rfl))) ?_)
        refine ⟨x4, x5, .dat (.int (l.1 : Int)), .dat (.int (l.2.1 : Int)), .dat (.bl l.2.2), ?_⟩
        rw [obD_isT]
        unfold lk1
        rw [if_pos hc]; rfl
      · rw [dec_nat, dec_nat] at hc
        have hn : ¬ (l.1 = i ∧ l.2.1 = j) := fun z => by rw [decide_eq_true z.1, decide_eq_true z.2] at hc; cases hc
        refine ws_nil ⟨x4, x5, .dat (.int (l.1 : Int)), .dat (.int (l.2.1 : Int)), .dat (.bl l.2.2), ?_⟩
        unfold lk1
        rw [if_neg hn]; rfl
    · obtain ⟨x4, x5, x6, x7, x8, rfl⟩ := hP
      refine ws_one (w1_ret (ed_v 3 rfl rfl) ?_)
      show obD _ = obD _
      rw [List.length_map, List.take_length]; rfl
end BB
set_option Elab.async false
set_option linter.all false
set_option maxRecDepth 100000
set_option maxHeartbeats 4000000
namespace BB
open PySem PySem.Spec PyProof.Rows L2
theorem td_is {Γ : Cy} {ρ : Ro} {e : Expr} {b b' : Bool} (h : TD Γ ρ e b) (q : b = b') : TD Γ ρ e b' := q ▸ h
theorem tv_andF {Γ : Cy} {ρ : Ro} {a b : Expr} {rest : List Expr} {pos : Pos} (ha : TD Γ ρ a false) : TV Γ ρ (.BoolOp .And (a :: b :: rest) pos) false := tv_and (l := false) ha fun z => by cases z
theorem tv_orT {Γ : Cy} {ρ : Ro} {a b : Expr} {rest : List Expr} {pos : Pos} (ha : TD Γ ρ a true) : TV Γ ρ (.BoolOp .Or (a :: b :: rest) pos) true := tv_or (l := false) ha fun z => by cases z
theorem ed_is {Γ : Cy} {ρ : Ro} {e : Expr} {d d' : D} (h : ED Γ ρ e d') (q : d' = d) : ED Γ ρ e d := q ▸ h
theorem en_map {M : Mo} {N : List Str} {sc cs : Scope} {fn : Str → Bool} {k : Nat} {ρ : Ro} {tg iter elt : Expr} {p : Pos} {α : Type} {xs : List α} {f : α → D} (g : α → D) (own : List (Str × Nat)) (hnd : N.Nodup) (hI : ID ⟨M, N, sc, fn, k⟩ ρ tg iter (xs.map f))
    (hB : ∀ (i : Nat) x, xs[i]? = some x → ∃ ρ', GD (blkOf M N sc cs k) tg (own.map (·.2)) (f x) (wipeR ρ (own.map (·.2))) ρ' ∧ ED (blkOf M N sc cs k) ρ' elt (g x)) (hn : xs.length ≤ 1000) (ok : blkC N sc cs own = true := by decide +kernel)
    (hs : ∀ env x, foldedSetIterable iter env x = pure x := by intro _ _; rfl) : EN ⟨M, N, sc, fn, k⟩ ρ (.ListComp elt [⟨tg, iter, [], 0⟩] cs p) (xs.map g) := by
  cases xs with
  | nil =>
    have e := en_lc (f := fun _ => true) (v := fun _ => D.non) own hnd ok hI (fun i d hd => by simp at hd) (fun _ h => h) (by simp) hs (ifs := []) (elt := elt) (pos := p)
    exact e
  | cons x0 xs =>
    have e := en_lc (f := fun _ => true) (v := fun i => g ((x0 :: xs).getD i x0)) own hnd ok hI (fun i d hd => by
      obtain ⟨x, hx, rfl⟩ := mapGet hd
      obtain ⟨ρ', h1, h2⟩ := hB i x hx
      refine ⟨ρ', h1, tsd_nil, fun _ => ?_⟩
      rw [List.getD_eq_getElem?_getD, hx]
      exact h2) (fun _ h => h) (by rw [List.length_map]; exact hn) hs (ifs := []) (elt := elt) (pos := p)
    rw [given_all, List.length_map] at e
    have eq : (List.range (x0 :: xs).length).map (fun i => g ((x0 :: xs).getD i x0)) = (x0 :: xs).map g := by
      refine List.ext_getElem? fun i => ?_
      rw [List.getElem?_map, List.getElem?_map]
      by_cases h : i < (x0 :: xs).length
      · rw [List.getElem?_range h, List.getElem?_eq_getElem h]
        show some (g ((x0 :: xs).getD i x0)) = some (g (x0 :: xs)[i])
        rw [List.getD_eq_getElem?_getD, List.getElem?_eq_getElem h]; rfl
      · rw [List.getElem?_eq_none (by rw [List.length_range]; omega), List.getElem?_eq_none (by omega)]; rfl
    rw [eq] at e
    exact e
abbrev rnD (n : Nat) : List D := (List.range n).map fun (i : Nat) => .int (i : Int)
theorem id_rangeN {M : Mo} {N : List Str} {sc : Scope} {fn : Str → Bool} {k : Nat} {ρ : Ro} {e tg : Expr} {p pos : Pos} {n : Nat} (hm : M.mg "range" = none) (ha : ED ⟨M, N, sc, fn, k⟩ ρ e (.int (n : Int))) (hn : n ≤ 1000) (hg : glB sc "range" = true := by decide +kernel) (hs : ∀ env, starEach [e] env = [(false, eval e env)] := by intro _; rfl) :
    ID ⟨M, N, sc, fn, k⟩ ρ tg (.Call (.Name "range" p) [e] [] pos) (rnD n) := by
  have h := id_range (tg := tg) (p := p) (pos := pos) hm hg ha (by omega) (by omega) hs
  rw [Int.toNat_natCast] at h
  exact h
theorem range_get {n i x : Nat} (h : (List.range n)[i]? = some x) : x = i ∧ i < n := by
  by_cases hi : i < n
  · rw [List.getElem?_range hi] at h; cases h; exact ⟨rfl, hi⟩
  · rw [List.getElem?_eq_none (by rw [List.length_range]; omega)] at h; cases h
def R_init (g b l : D) : Prop := ∃ dt : Dt, g = .int (dt.goods : Int) ∧ b = buysD dt.buys ∧ l = lksD dt.links ∧ dt.n ≤ 100
theorem ok_init {M : Mo} (T : Tx M) {f : Addr} {fd : FuncData} (F : Fun M.K "__init__" "Data.__init__" s_Data_init f fd) : FnOk M.P M.w M.K M.mg M.base CX0 1 f fd ["self", "goods", "buys", "links"] (spI M R_init) := by
  refine init_ok F sc_Data_init rfl (by decide) fun a g b l hR => ?_
  obtain ⟨dt, rfl, rfl, rfl, hn⟩ := hR
  have nd := sc_Data_init.nd
  refine ws_cons (w1_fld (j := 0) T.dat.cl T.dat.g rfl (by decide +kernel) rfl (ed_v 1 rfl rfl) (by simp) (by simp) ?_)
  refine ws_cons (w1_fld (j := 0) T.dat.cl T.dat.b rfl (by decide +kernel) rfl (d := buysD dt.buys) (en_map buyD [("prices", 4), ("amounts", 5)] nd (id_list (ed_v 2 rfl rfl)) (fun i x hx => ?_) (by have : dt.buys.length ≤ 100 := hn; omega)).ed (by simp; decide +kernel) (by simp) ?_)
  · exact ⟨_, gd_tup (tgd_cons (gd_n 4 rfl nd) (tgd_cons (gd_n 5 rfl nd) tgd_nil)), ed_tup (ad_cons (en_list T.list (by decide +kernel) (ed_v 4 rfl rfl)).ed (ad_cons (en_list T.list (by decide +kernel) (ed_v 5 rfl rfl)).ed ad_nil)) len_ok⟩
  refine ws_one (w1_fld (j := 0) T.dat.cl T.dat.l rfl (by decide +kernel) rfl (en_list T.list (by decide +kernel) (ed_v 3 rfl rfl)).ed (by simp; decide +kernel) (by simp) ?_)
  rfl
def R_table (ds : List D) (d : D) : Prop := ∃ dt : Dt, ds = [datD dt] ∧ DtOk dt ∧ d = tabD (table dt)
theorem range_map {α : Type} (f : α → D) (n : Nat) (g : Nat → α) : ((List.range n).map g).map f = (List.range n).map fun i => f (g i) := by rw [List.map_map]; rfl
theorem has_table {M : Mo} (T : Tx M) (F : Df M "step_table" s_step_table ["data"]) (Hstep : Has M 5 "step" R_step) : Has M 6 "step_table" R_table := by
  refine F.has sc_step_table (fun ds d h => by obtain ⟨p, rfl, _⟩ := h; rfl) fun ds d h => ?_
  obtain ⟨dt, rfl, ok, rfl⟩ := h
  have nd := sc_step_table.nd
  have hn := ok.n
  refine ws_cons (w1_s 1 rfl nd (ed_lenL T.len (by decide +kernel) (ed_fld T.dat (ed_v 0 rfl rfl) (.inr (.inl ⟨rfl, rfl⟩)))) ?_)
  have hl : (List.map buyD dt.buys).length = dt.n := List.length_map ..
  rw [hl]
  refine ws_one (w1_ret (d := tabD (table dt)) (ed_is (en_map (fun i => rowD ((List.range dt.n).map fun j => stepF dt i j)) [("i", 3)] nd (id_rangeN T.range (ed_v 1 rfl rfl) (by omega)) (fun i x hx => ?_) (by rw [List.length_range]; omega)).ed ?_) rfl)
  · obtain ⟨rfl, hi⟩ := range_get hx
    refine ⟨_, gd_n 3 rfl nd, ed_is (en_map (fun j => obD (stepF dt x j)) [("j", 2)] nd (id_rangeN T.range (ed_v 1 rfl rfl) (by omega)) (fun j y hy => ?_) (by rw [List.length_range]; omega)).ed ?_⟩
    · obtain ⟨rfl, hj⟩ := range_get hy
      exact ⟨_, gd_n 2 rfl nd, ed_call Hstep (by decide) (by decide +kernel) (ad_cons (ed_v 0 rfl rfl) (ad_cons (ed_v 3 rfl rfl) (ad_cons (ed_v 2 rfl rfl) ad_nil))) ⟨dt, x, y, rfl, hi, hj, ok, rfl⟩⟩
    · show D.lst _ = D.lst _
      rw [List.map_map]; rfl
  · show D.lst _ = D.lst _
    unfold table
    rw [List.map_map]; rfl
def SqTb (T : Tb) : Prop := T.length ≤ 100 ∧ ∀ r ∈ T, r.length = T.length
theorem table_sq {d : Dt} (h : d.n ≤ 100) : SqTb (table d) ∧ (table d).length = d.n := by
  have hl : (table d).length = d.n := by unfold table; rw [List.length_map, List.length_range]
  refine ⟨⟨by omega, fun r hr => ?_⟩, hl⟩
  unfold table at hr
  obtain ⟨i, _, rfl⟩ := List.mem_map.mp hr
  rw [List.length_map, List.length_range, hl]
def fk (f : Fd) : List (Int × Bool) := f.map fun e => ((e.1.1 : Int), e.1.2)
def fv (f : Fd) : List D := f.map fun e => natsD e.2
def keyD (k : Nat × Bool) : D := .tup [.int (k.1 : Int), .bl k.2]
abbrev fdD (f : Fd) : D := .dic (fk f) (fv f)
theorem dget_fd (f : Fd) (k : Nat) (b : Bool) : dget (fk f) (fv f) ((k : Int), b) = (f.lookup (k, b)).map natsD := by
  induction f with
  | nil => rfl
  | cons e f ih =>
    obtain ⟨⟨j, c⟩, ch⟩ := e
    show (if ((j : Int), c) = ((k : Int), b) then some (natsD ch) else dget (fk f) (fv f) ((k : Int), b)) = _
    rw [List.lookup_cons]
    by_cases h : (k, b) = (j, c)
    · cases h
      rw [if_pos rfl, beq_self_eq_true]
      rfl
    · have h1 : ¬ ((j : Int), c) = ((k : Int), b) := fun z => h (by
        have e1 : (j : Int) = (k : Int) := congrArg Prod.fst z
        have e2 : c = b := congrArg Prod.snd z
        rw [show j = k by omega, e2])
      have h2 : ((k, b) == (j, c)) = false := by simpa using h
      rw [if_neg h1, h2]
      exact ih
theorem fd_snoc (f : Fd) (k : Nat) (b : Bool) (c : List Nat) : fk (f ++ [((k, b), c)]) = fk f ++ [((k : Int), b)] ∧ fv (f ++ [((k, b), c)]) = fv f ++ [natsD c] := by
  unfold fk fv
  rw [List.map_append, List.map_append]
  exact ⟨rfl, rfl⟩
theorem tb_at {T : Tb} (h : SqTb T) {i j : Nat} (hi : i < T.length) (hj : j < T.length) : atI (T.map rowD) (i : Int) = some (rowD (T.getD i [])) ∧ atI ((T.getD i []).map obD) (j : Int) = some (obD (tb T i j)) := by
  refine ⟨at_map [] hi, at_map none ?_⟩
  have : T.getD i [] ∈ T := by rw [List.getD_eq_getElem?_getD, List.getElem?_eq_getElem hi]; exact List.getElem_mem hi
  rw [h.2 _ this]; exact hj
def R_find (ds : List D) (d : D) : Prop := ∃ (T : Tb) (i : Nat), ds = [tabD T, .int (i : Int)] ∧ SqTb T ∧ i < T.length ∧ d = fdD (findIn T i)
abbrev findSt (tt : Tb) (i : Nat) (f : Fd) (a j : Nat) (s : Bool) (ch : List Nat) (x8 x9 : Sl) : Ro := [.dat (tabD tt), .dat (.int (i : Int)), .odic (fk f) (fv f), .own (f.map fun e => keyD e.1), .dat (.int (a : Int)), .dat (.int (j : Int)), .dat (.bl s), .dat (natsD ch), x8, x9]
theorem has_find {M : Mo} (T : Tx M) (F : Df M "find_in" s_find_in ["table", "i"]) : Has M 1 "find_in" R_find := by
  refine F.has sc_find_in (fun ds d h => by obtain ⟨p, q, rfl, _⟩ := h; rfl) fun ds d h => ?_
  obtain ⟨tt, i, rfl, sq, hi, rfl⟩ := h
  have nd := sc_find_in.nd
  have hn := sq.1
  refine ws_cons (w1_newDict (j := 2) rfl nd (by decide +kernel) (ed_tup (ad_cons (ed_v 1 rfl rfl) (ad_cons ed_bl ad_nil)) len_ok) (fun _ _ _ => True.intro) (en_lst (ad_cons (ed_v 1 rfl rfl) ad_nil) len_ok).ed ⟨_, _, _, rfl, ad_cons (ed_v 1 rfl rfl) (ad_cons ed_bl ad_nil)⟩ ?_)
  refine ws_cons (w1_n 3 rfl nd (en_lst (ad_cons (ed_tup (ad_cons (ed_v 1 rfl rfl) (ad_cons ed_bl ad_nil)) len_ok) ad_nil) len_ok) ?_)
  refine ws_cons (w1_s 4 rfl nd ed_int ?_)
  refine ws_cons (w1_while (fun m ρ => ∃ (f : Fd) (a : Nat) (x5 x6 x7 x8 x9 : Sl), ρ = [.dat (tabD tt), .dat (.int (i : Int)), .odic (fk f) (fv f), .own (f.map fun e => keyD e.1), .dat (.int (a : Int)), x5, x6, x7, x8, x9] ∧ bfs tt m f a = findIn tt i ∧ FdOk tt.length f ∧ 2 * tt.length + 1 ≤ m + a)
    (2 * tt.length + 1) ⟨[((i, false), [i])], 0, .un, .un, .un, .un, .un, rfl, rfl, first_ok hi, by omega⟩ fun m ρ hP => ?_)
  obtain ⟨f, a, x5, x6, x7, x8, x9, rfl, hb, fok, hm⟩ := hP
  have hfl := fok.len
  refine ⟨decide ((a : Int) < ((f.map fun e => keyD e.1).length : Int)), lend_td (td_lt (ed_v 4 rfl rfl) (ed_lenL T.len (by decide +kernel) (ed_v 3 rfl rfl))), fun hc => ?_, fun hc => ?_⟩
  · rw [List.length_map] at hc
    have ha : a < f.length := by
      have := of_decide_eq_true hc
      omega
    obtain ⟨m', rfl⟩ : ∃ m', m = m' + 1 := ⟨m - 1, by omega⟩
    refine ⟨m', Nat.lt_succ_self _, ?_⟩
    have hb' : bfs tt m' (bfsRow tt f a) (a + 1) = findIn tt i := by
      rw [← hb]
      show _ = if a < f.length then _ else _
      rw [if_pos ha]
    have hm' : f.getD a ((0, false), []) ∈ f := by
      rw [List.getD_eq_getElem?_getD, List.getElem?_eq_getElem ha]; exact List.getElem_mem ha
    have hgk : f[a]? = some (f.getD a ((0, false), [])) := by rw [List.getD_eq_getElem?_getD, List.getElem?_eq_getElem ha]; rfl
    have hlk := lookup_mem fok.nd (q := (f.getD a ((0, false), [])).1) (c := (f.getD a ((0, false), [])).2) hm'
    have hlt := fok.lt _ hm'
    have hle := fok.le _ hm'
    have hrow : ∀ k, rowTo tt f a k = (List.range k).foldl (bfsK tt (f.getD a ((0, false), [])).1.1 (f.getD a ((0, false), [])).1.2 (f.getD a ((0, false), [])).2) f := fun k => rfl
    have hrs := rowTo_succ tt f a
    have hro := @rowTo_ok tt f a fok ha
    have hend : bfsRow tt f a = rowTo tt f a tt.length := rfl
    rw [hend] at hb'
    have h0 : rowTo tt f a 0 = f := rfl
    clear hrow hend hb
    revert hgk hlk hlt hle hrs
    generalize f.getD a ((0, false), []) = en
    obtain ⟨⟨j, s⟩, ch⟩ := en
    intro hgk hlk hlt hle hrs
    have hlt : j < tt.length := hlt
    have hle : ch.length ≤ f.length := hle
    refine ws_cons (w1_asg (ed_ixO (i := 3) rfl (by decide +kernel) rfl (ed_v 4 rfl rfl) (d := keyD (j, s)) (atI_nat (by rw [List.getElem?_map, hgk]; rfl))) (gd_tup (tgd_cons (gd_n 5 rfl nd) (tgd_cons (gd_n 6 rfl nd) tgd_nil))) ?_)
    refine ws_cons (w1_s 7 rfl nd (ed_dgetO (j := 2) rfl (by decide +kernel) rfl (ad_cons (ed_v 5 rfl rfl) (ad_cons (ed_v 6 rfl rfl) ad_nil)) (d := natsD ch) (by rw [dget_fd, hlk]; rfl)) ?_)
    refine ws_cons (w1_for (fun k ρ => ∃ x8 x9, ρ = findSt tt i (rowTo tt f a k) a j s ch x8 x9)
      (id_range T.range (by decide +kernel) (ed_lenL T.len (by decide +kernel) (ed_v 0 rfl rfl)) (by omega) (by rw [List.length_map]; omega)) ⟨x8, x9, rfl⟩ (fun k d ρ hd hP => ?_) (fun ρ hP => ?_))
    · obtain ⟨x8, x9, rfl⟩ := hP
      obtain ⟨hk, rfl⟩ := rngD_get hd
      rw [List.length_map, Int.toNat_natCast] at hk
      obtain ⟨gok, gle⟩ := hro k (by omega)
      have hgl := gok.len
      have hs := hrs k
      revert hs
      generalize rowTo tt f a (k + 1) = g'
      intro hs
      clear hrs hro h0 hb' hgk hlk
      revert hs gok gle hgl
      generalize rowTo tt f a k = g
      intro gok gle hgl hs
      subst hs
      refine ⟨_, _, gd_n 8 rfl nd, ?_⟩
      refine ws_cons (w1_s 9 rfl nd (ed_ixL (ed_ixL (ed_v 0 rfl rfl) (ed_v 5 rfl rfl) (tb_at sq hlt hk).1) (ed_v 8 rfl rfl) (tb_at sq hlt hk).2) ?_)
      unfold bfsK
      generalize tb tt j k = one
      cases one with
      | none =>
        exact ws_one (w1_if (lend_td (tv_andF (td_is (td_notN (ed_v 9 rfl rfl)) rfl)).td) (fun hc => by cases hc) (fun hc => ws_nil ⟨_, _, rfl⟩))
      | some o =>
        refine ws_one (w1_if (lend_td (tv_and (td_notN (ed_v 9 rfl rfl)) fun _ => (tv_and1 (td_dnin (j := 2) rfl (by decide +kernel) rfl (ad_cons (ed_v 8 rfl rfl) (ad_cons (ed_or (ed_v 6 rfl rfl) fun _ => (ed_one (ed_v 9 rfl rfl))) ad_nil))))).td) (fun hc => ?_) (fun hc => ?_))
        · have hc : (true && !(dget (fk g) (fv g) ((k : Int), s || o)).isSome) = true := hc
          rw [dget_fd, Bool.true_and] at hc
          have hnone : g.lookup (k, s || o) = none := by
            cases e : g.lookup (k, s || o) with
            | none => rfl
            | some c => rw [e] at hc; cases hc
          refine ws_cons (w1_dput (j := 2) rfl (by decide +kernel) rfl (en_cat (ed_v 7 rfl rfl) (en_lst (ad_cons (ed_v 8 rfl rfl) ad_nil) len_ok).ed (by rw [List.length_map, List.length_singleton]; omega)).ed (ad_cons (ed_v 8 rfl rfl) (ad_cons (ed_or (ed_v 6 rfl rfl) fun _ => (ed_one (ed_v 9 rfl rfl))) ad_nil)) (by rw [dget_fd, hnone]; rfl) (by unfold fv; rw [List.length_map]; omega) ?_)
          refine ws_one (w1_append (i := 3) rfl (by decide +kernel) rfl (ed_tup (ad_cons (ed_v 8 rfl rfl) (ad_cons (ed_or (ed_v 6 rfl rfl) fun _ => (ed_one (ed_v 9 rfl rfl))) ad_nil)) len_ok) (by rw [List.length_map]; omega) ⟨.dat (.int (k : Int)), .dat (.bl o), ?_⟩)
          show _ = findSt tt i (if (g.lookup (k, s || o)).isSome = true then g else g ++ [((k, s || o), ch ++ [k])]) a j s ch (.dat (.int (k : Int))) (.dat (.bl o))
          rw [hnone, if_neg (by simp)]
          unfold findSt
          rw [(fd_snoc _ _ _ _).1, (fd_snoc _ _ _ _).2, List.map_append, show natsD (ch ++ [k]) = .lst (ch.map (fun (n : Nat) => D.int (n : Int)) ++ [.int (k : Int)]) by unfold natsD; rw [List.map_append]; rfl]
          rfl
        · have hc : (true && !(dget (fk g) (fv g) ((k : Int), s || o)).isSome) = false := hc
          rw [dget_fd, Bool.true_and] at hc
          have hs : (g.lookup (k, s || o)).isSome = true := by
            cases e : g.lookup (k, s || o) with
            | none => rw [e] at hc; cases hc
            | some c => rfl
          refine ws_nil ⟨.dat (.int (k : Int)), .dat (.bl o), ?_⟩
          show _ = findSt tt i (if (g.lookup (k, s || o)).isSome = true then g else g ++ [((k, s || o), ch ++ [k])]) a j s ch (.dat (.int (k : Int))) (.dat (.bl o))
          rw [hs, if_pos rfl]
          rfl
    · obtain ⟨x8, x9, rfl⟩ := hP
      rw [rngD_len, List.length_map, Int.toNat_natCast]
      obtain ⟨gok, gle⟩ := hro tt.length (Nat.le_refl _)
      refine ws_one (w1_s 4 rfl nd (ed_add (ed_v 4 rfl rfl) ed_int) ⟨rowTo tt f a tt.length, a + 1, .dat (.int (j : Int)), .dat (.bl s), .dat (natsD ch), x8, x9, ?_, hb', gok, by omega⟩)
      rw [show ((a + 1 : Nat) : Int) = (a : Int) + 1 by omega]
      rfl
  · rw [List.length_map] at hc
    have ha : ¬ a < f.length := by
      have := of_decide_eq_false hc
      omega
    have he : f = findIn tt i := by
      rw [← hb]
      cases m with
      | zero => rfl
      | succ m => show f = if a < f.length then _ else f; rw [if_neg ha]
    refine ws_freeze 2 (ws_one (w1_ret (ed_v 2 rfl rfl) ?_))
    rw [← he]
end BB
set_option Elab.async false
set_option linter.all false
set_option maxRecDepth 100000
set_option maxHeartbeats 4000000
namespace BB
open PySem PySem.Spec PyProof.Rows L2
theorem w1_map {M : Mo} {N : List Str} {sc cs : Scope} {fn : Str → Bool} {k : Nat} {ρ : Ro} {E : EndsD} {tg iter elt : Expr} {p pos pos' : Pos} {x : Str} {α : Type} {xs : List α} {f : α → D} (j : Nat) (g : α → D) (own : List (Str × Nat)) (hN : N[j]? = some x) (hnd : N.Nodup) (hI : ID ⟨M, N, sc, fn, k⟩ ρ tg iter (xs.map f))
    (hB : ∀ (i : Nat) x, xs[i]? = some x → ∃ ρ', GD (blkOf M N sc cs k) tg (own.map (·.2)) (f x) (wipeR ρ (own.map (·.2))) ρ' ∧ ED (blkOf M N sc cs k) ρ' elt (g x)) (hn : xs.length ≤ 1000)
    (hk : E.nx (ρ.set j (.own (xs.map g)))) (hsw : compSw sc cs x = true := by decide +kernel) (hline : (pos'.line == p.line) = true := by rfl) (ok : blkC N sc cs own = true := by decide +kernel)
    (hs : ∀ env x, foldedSetIterable iter env x = pure x := by intro _ _; rfl) : W1 ⟨M, N, sc, fn, k⟩ (.Assign [.Name x pos'] (.ListComp elt [⟨tg, iter, [], 0⟩] cs p) pos) E ρ := by
  cases xs with
  | nil =>
    exact w1_newLc (f := fun _ => true) (v := fun _ => D.non) own hN hnd hsw hline ok hI (fun i d hd => by simp at hd) (fun _ h => h) (by simp) hk hs
  | cons x0 xs =>
    refine w1_newLc (f := fun _ => true) (v := fun i => g ((x0 :: xs).getD i x0)) own hN hnd hsw hline ok hI (fun i d hd => by
      obtain ⟨x, hx, rfl⟩ := mapGet hd
      obtain ⟨ρ', h1, h2⟩ := hB i x hx
      refine ⟨ρ', h1, tsd_nil, fun _ => ?_⟩
      rw [List.getD_eq_getElem?_getD, hx]
      exact h2) (fun _ h => h) (by rw [List.length_map]; exact hn) ?_ hs
    rw [given_all, List.length_map]
    have eq : (List.range (x0 :: xs).length).map (fun i => g ((x0 :: xs).getD i x0)) = (x0 :: xs).map g := by
      refine List.ext_getElem? fun i => ?_
      rw [List.getElem?_map, List.getElem?_map]
      by_cases h : i < (x0 :: xs).length
      · rw [List.getElem?_range h, List.getElem?_eq_getElem h]
        show some (g ((x0 :: xs).getD i x0)) = some (g (x0 :: xs)[i])
        rw [List.getD_eq_getElem?_getD, List.getElem?_eq_getElem h]; rfl
      · rw [List.getElem?_eq_none (by rw [List.length_range]; omega), List.getElem?_eq_none (by omega)]; rfl
    rw [eq]
    exact hk
theorem range_snoc {α : Type} (g : Nat → α) (n : Nat) : (List.range (n + 1)).map g = (List.range n).map g ++ [g n] := by rw [List.range_succ, List.map_append]; rfl
theorem dget_isSome (f : Fd) (k : Nat) (b : Bool) : (dget (fk f) (fv f) ((k : Int), b)).isSome = (f.lookup (k, b)).isSome := by rw [dget_fd, Option.isSome_map]
theorem leads_sq {d : Dt} (h : d.n ≤ 100) : SqTb (leads d) ∧ (leads d).length = d.n := by
  have hl : (leads d).length = d.n := by unfold leads; rw [List.length_map, List.length_range]
  refine ⟨⟨by omega, fun r hr => ?_⟩, hl⟩
  unfold leads at hr
  obtain ⟨i, _, rfl⟩ := List.mem_map.mp hr
  rw [List.length_map, List.length_range, hl]
def R_leads (ds : List D) (d : D) : Prop := ∃ dt : Dt, ds = [datD dt] ∧ DtOk dt ∧ d = tabD (leads dt)
abbrev ldRow (dt : Dt) (i : Nat) : D := rowD ((List.range dt.n).map fun j => lead1 (findIn (table dt) i) j)
theorem has_leads {M : Mo} (T : Tx M) (F : Df M "leads" s_leads ["data"]) (Htable : Has M 6 "step_table" R_table) (Hfind : Has M 1 "find_in" R_find) : Has M 7 "leads" R_leads := by
  refine F.has sc_leads (fun ds d h => by obtain ⟨p, rfl, _⟩ := h; rfl) fun ds d h => ?_
  obtain ⟨dt, rfl, ok, rfl⟩ := h
  have nd := sc_leads.nd
  have hn := ok.n
  obtain ⟨sq, hsl⟩ := table_sq hn
  have hl : (List.map buyD dt.buys).length = dt.n := List.length_map ..
  refine ws_cons (w1_s 1 rfl nd (ed_call Htable (by decide) (by decide +kernel) (ad_cons (ed_v 0 rfl rfl) ad_nil) ⟨_, rfl, ok, rfl⟩) ?_)
  refine ws_cons (w1_s 2 rfl nd (ed_lenL T.len (by decide +kernel) (ed_fld T.dat (ed_v 0 rfl rfl) (.inr (.inl ⟨rfl, rfl⟩)))) ?_)
  rw [hl]
  refine ws_cons (w1_n 3 rfl nd (en_lst ad_nil (by decide)) ?_)
  refine ws_cons (w1_for (fun i ρ => ∃ x4 x5 x6 x7, ρ = [.dat (datD dt), .dat (tabD (table dt)), .dat (.int (dt.n : Int)), .own ((List.range i).map (ldRow dt)), x4, x5, x6, x7]) (id_range T.range (by decide +kernel) (ed_v 2 rfl rfl) (by omega) (by omega)) ⟨_, _, _, _, rfl⟩ (fun i d ρ hd hP => ?_) (fun ρ hP => ?_))
  · obtain ⟨x4, x5, x6, x7, rfl⟩ := hP
    obtain ⟨hi, rfl⟩ := rngD_get hd
    rw [Int.toNat_natCast] at hi
    refine ⟨_, _, gd_n 4 rfl nd, ?_⟩
    refine ws_cons (w1_s 5 rfl nd (ed_call Hfind (by decide) (by decide +kernel) (ad_cons (ed_v 1 rfl rfl) (ad_cons (ed_v 4 rfl rfl) ad_nil)) ⟨_, _, rfl, sq, by omega, rfl⟩) ?_)
    refine ws_cons (w1_n 6 rfl nd (en_lst ad_nil (by decide)) ?_)
    refine ws_cons (w1_for (fun j ρ => ∃ x7, ρ = [.dat (datD dt), .dat (tabD (table dt)), .dat (.int (dt.n : Int)), .own ((List.range i).map (ldRow dt)), .dat (.int (i : Int)), .dat (fdD (findIn (table dt) i)), .own ((List.range j).map fun j => obD (lead1 (findIn (table dt) i) j)), x7]) (id_range T.range (by decide +kernel) (ed_v 2 rfl rfl) (by omega) (by omega)) ⟨_, rfl⟩ (fun j d ρ hd hP => ?_) (fun ρ hP => ?_))
    · obtain ⟨x7, rfl⟩ := hP
      obtain ⟨hj, rfl⟩ := rngD_get hd
      rw [Int.toNat_natCast] at hj
      refine ⟨_, _, gd_n 7 rfl nd, ?_⟩
      rw [range_snoc]
      have hlen : ((List.range j).map fun j => obD (lead1 (findIn (table dt) i) j)).length ≤ 1000 := by rw [List.length_map, List.length_range]; omega
      revert hlen
      generalize (List.range j).map (fun j => obD (lead1 (findIn (table dt) i) j)) = row
      intro hlen
      unfold lead1
      generalize findIn (table dt) i = f
      refine ws_one (w1_if (td_din (j := 5) rfl (by decide +kernel) rfl (ad_cons (ed_v 7 rfl rfl) (ad_cons ed_bl ad_nil))) (fun hc => ?_) (fun hc => ?_))
      · rw [dget_isSome] at hc
        refine ws_one (w1_append (i := 6) rfl (by decide +kernel) rfl ed_bl hlen ⟨.dat (.int (j : Int)), ?_⟩)
        rw [if_pos hc]; rfl
      · rw [dget_isSome] at hc
        refine ws_one (w1_if (td_din (j := 5) rfl (by decide +kernel) rfl (ad_cons (ed_v 7 rfl rfl) (ad_cons ed_bl ad_nil))) (fun hc2 => ?_) (fun hc2 => ?_))
        · rw [dget_isSome] at hc2
          refine ws_one (w1_append (i := 6) rfl (by decide +kernel) rfl ed_bl hlen ⟨.dat (.int (j : Int)), ?_⟩)
          rw [if_neg (by rw [hc]; decide), if_pos hc2]; rfl
        · rw [dget_isSome] at hc2
          refine ws_one (w1_append (i := 6) rfl (by decide +kernel) rfl ed_non hlen ⟨.dat (.int (j : Int)), ?_⟩)
          rw [if_neg (by rw [hc]; decide), if_neg (by rw [hc2]; decide)]; rfl
    · obtain ⟨x7, rfl⟩ := hP
      rw [rngD_len, Int.toNat_natCast, show ((List.range dt.n).map fun j => obD (lead1 (findIn (table dt) i) j)) = ((List.range dt.n).map fun j => lead1 (findIn (table dt) i) j).map obD by rw [List.map_map]; rfl]
      refine ws_freeze 6 (ws_one (w1_append (i := 3) rfl (by decide +kernel) rfl (ed_v 6 rfl rfl) (by rw [List.length_map, List.length_range]; omega) ⟨.dat (.int (i : Int)), .dat (fdD (findIn (table dt) i)), .dat (ldRow dt i), x7, ?_⟩))
      rw [range_snoc]; rfl
  · obtain ⟨x4, x5, x6, x7, rfl⟩ := hP
    rw [rngD_len, Int.toNat_natCast]
    refine ws_freeze 3 (ws_one (w1_ret (ed_v 3 rfl rfl) ?_))
    show D.lst _ = D.lst _
    unfold leads
    rw [List.map_map]; rfl
def ochD : Option (List Nat) → D
  | none => .non
  | some c => natsD c
def R_chain (ds : List D) (d : D) : Prop := ∃ (dt : Dt) (i j : Nat), ds = [datD dt, .int (i : Int), .int (j : Int)] ∧ DtOk dt ∧ i < dt.n ∧ d = ochD (findChain dt i j)
theorem has_chain {M : Mo} (T : Tx M) (F : Df M "find_chain" s_find_chain ["data", "i", "j"]) (Htable : Has M 6 "step_table" R_table) (Hfind : Has M 1 "find_in" R_find) : Has M 7 "find_chain" R_chain := by
  refine F.has sc_find_chain (fun ds d h => by obtain ⟨p, q, r, rfl, _⟩ := h; rfl) fun ds d h => ?_
  obtain ⟨dt, i, j, rfl, ok, hi, rfl⟩ := h
  have nd := sc_find_chain.nd
  have hn := ok.n
  obtain ⟨sq, hsl⟩ := table_sq hn
  refine ws_cons (w1_s 3 rfl nd (ed_call Hfind (by decide) (by decide +kernel) (ad_cons (ed_call Htable (by decide) (by decide +kernel) (ad_cons (ed_v 0 rfl rfl) ad_nil) ⟨_, rfl, ok, rfl⟩) (ad_cons (ed_v 1 rfl rfl) ad_nil)) ⟨_, _, rfl, sq, by omega, rfl⟩) ?_)
  unfold findChain
  generalize findIn (table dt) i = f
  refine ws_cons (w1_if (td_din (j := 3) rfl (by decide +kernel) rfl (ad_cons (ed_v 2 rfl rfl) (ad_cons ed_bl ad_nil))) (fun hc => ?_) (fun hc => ?_))
  · rw [dget_isSome] at hc
    obtain ⟨c, hc⟩ := Option.isSome_iff_exists.mp hc
    rw [hc]
    exact ws_one (w1_ret (ed_dget (j := 3) rfl (by decide +kernel) rfl (ad_cons (ed_v 2 rfl rfl) (ad_cons ed_bl ad_nil)) (d := natsD c) (by rw [dget_fd, hc]; rfl)) rfl)
  · rw [dget_isSome] at hc
    have hc : f.lookup (j, true) = none := by cases e : f.lookup (j, true) with
      | none => rfl
      | some c => rw [e] at hc; cases hc
    rw [hc]
    refine ws_nil (ws_cons (w1_if (td_din (j := 3) rfl (by decide +kernel) rfl (ad_cons (ed_v 2 rfl rfl) (ad_cons ed_bl ad_nil))) (fun hc => ?_) (fun hc => ?_)))
    · rw [dget_isSome] at hc
      obtain ⟨c, hc⟩ := Option.isSome_iff_exists.mp hc
      rw [hc]
      exact ws_one (w1_ret (ed_dget (j := 3) rfl (by decide +kernel) rfl (ad_cons (ed_v 2 rfl rfl) (ad_cons ed_bl ad_nil)) (d := natsD c) (by rw [dget_fd, hc]; rfl)) rfl)
    · rw [dget_isSome] at hc
      have hc : f.lookup (j, false) = none := by cases e : f.lookup (j, false) with
        | none => rfl
        | some c => rw [e] at hc; cases hc
      rw [hc]
      exact ws_nil (ws_one (w1_ret ed_non rfl))
end BB
set_option Elab.async false
set_option linter.all false
set_option maxRecDepth 100000
set_option maxHeartbeats 4000000
namespace BB
open PySem PySem.Spec PyProof.Rows L2
structure PrOk (dt : Dt) (pr : List Qt) (money : Qt) : Prop where
  dot : ∀ i, i < dt.n → DotOk pr (dt.am i)
  ok : ∀ i, i < dt.n → Ok (BB.dot pr (dt.am i))
  m : Ok money
theorem reach1_len {d : Dt} {pr : List Qt} {m : Qt} {i : Nat} {r : List (Option Bool)} {j : Nat} : (reach1 d pr m i r j).length = r.length := by
  unfold reach1
  split
  · rfl
  · exact List.length_set ..
theorem reachR_len {d : Dt} {pr : List Qt} {m : Qt} {i : Nat} {r : List (Option Bool)} : ∀ k, ((List.range k).foldl (reach1 d pr m i) r).length = r.length
  | 0 => rfl
  | k + 1 => by rw [foldl_range, reach1_len, reachR_len k]
theorem reachI_len {d : Dt} {pr : List Qt} {m : Qt} {i : Nat} {r : List (Option Bool)} : (reachI d pr m r i).length = r.length := by
  unfold reachI
  split
  · exact reachR_len _
  · rfl
theorem reachN_len {d : Dt} {pr : List Qt} {m : Qt} : ∀ k, ((List.range k).foldl (reachI d pr m) (List.replicate d.n none)).length = d.n
  | 0 => List.length_replicate ..
  | k + 1 => by rw [foldl_range, reachI_len, reachN_len k]
theorem set_map {α : Type} (f : α → D) (xs : List α) (i : Nat) (x : α) : (xs.map f).set i (f x) = (xs.set i x).map f := List.map_set.symm
def R_reached (ds : List D) (d : D) : Prop := ∃ (dt : Dt) (pr : List Qt) (m : Qt), ds = [datD dt, qsD pr, qD m] ∧ DtOk dt ∧ PrOk dt pr m ∧ d = rowD (reached dt pr m)
theorem has_reached {M : Mo} (T : Tx M) (F : Df M "reached" s_reached ["data", "prices", "money"]) (Hleads : Has M 7 "leads" R_leads) (Hcost : Has M 4 "cost" R_dot) (Hat : Has M 1 "at_most" R_atm) (Hless : Has M 1 "less" R_less) : Has M 8 "reached" R_reached := by
  refine F.has sc_reached (fun ds d h => by obtain ⟨p, q, r, rfl, _⟩ := h; rfl) fun ds d h => ?_
  obtain ⟨dt, pr, m, rfl, ok, pk, rfl⟩ := h
  have nd := sc_reached.nd
  have hn := ok.n
  obtain ⟨sq, hsl⟩ := leads_sq hn
  have hl : (List.map rowD (leads dt)).length = dt.n := by rw [List.length_map, hsl]
  refine ws_cons (w1_s 3 rfl nd (ed_call Hleads (by decide) (by decide +kernel) (ad_cons (ed_v 0 rfl rfl) ad_nil) ⟨_, rfl, ok, rfl⟩) ?_)
  refine ws_cons (w1_map 4 (fun _ => .non) [("k", 5)] rfl nd (id_rangeN T.range (ed_is (ed_lenL T.len (by decide +kernel) (ed_v 3 rfl rfl)) (by rw [hl])) (by omega)) (fun i x hx => ⟨_, gd_n 5 rfl nd, ed_non⟩) (by rw [List.length_range]; omega) ?_)
  have hr0 : (List.range dt.n).map (fun _ => D.non) = (List.replicate dt.n (none : Option Bool)).map obD := by
    rw [List.map_replicate]
    exact List.eq_replicate_iff.mpr ⟨by rw [List.length_map, List.length_range], fun b hb => by obtain ⟨_, _, rfl⟩ := List.mem_map.mp hb; rfl⟩
  rw [hr0]
  refine ws_cons (w1_for (fun i ρ => ∃ x5 x6 x7 x8 x9, ρ = [.dat (datD dt), .dat (qsD pr), .dat (qD m), .dat (tabD (leads dt)), .own (((List.range i).foldl (reachI dt pr m) (List.replicate dt.n none)).map obD), x5, x6, x7, x8, x9]) (id_range T.range (by decide +kernel) (ed_lenL T.len (by decide +kernel) (ed_v 3 rfl rfl)) (by omega) (by omega)) ⟨_, _, _, _, _, rfl⟩ (fun i d ρ hd hP => ?_) (fun ρ hP => ?_))
  · obtain ⟨x5, x6, x7, x8, x9, rfl⟩ := hP
    obtain ⟨hi, rfl⟩ := rngD_get hd
    rw [hl, Int.toNat_natCast] at hi
    refine ⟨_, _, gd_n 6 rfl nd, ?_⟩
    have hrl := reachN_len (d := dt) (pr := pr) (m := m) i
    rw [foldl_range]
    revert hrl
    generalize (List.range i).foldl (reachI dt pr m) (List.replicate dt.n none) = r
    intro hrl
    refine ws_cons (w1_s 7 rfl nd (ed_call Hcost (by decide) (by decide +kernel) (ad_cons (ed_v 1 rfl rfl) (ad_cons (ed_ixT (ed_ixL (ed_fld T.dat (ed_v 0 rfl rfl) (.inr (.inl ⟨rfl, rfl⟩))) (ed_v 6 rfl rfl) (at_map ([], []) hi)) ed_int rfl) ad_nil)) ⟨_, _, rfl, pk.dot i hi, rfl⟩) ?_)
    refine ws_one (w1_if (td_val (ed_call Hat (by decide) (by decide +kernel) (ad_cons (ed_v 7 rfl rfl) (ad_cons (ed_v 2 rfl rfl) ad_nil)) ⟨_, _, rfl, pk.ok i hi, pk.m, rfl⟩) fun _ _ => rfl) (fun hc => ?_) (fun hc => ?_))
    · refine ws_one (w1_for (fun j ρ => ∃ x8 x9, ρ = [.dat (datD dt), .dat (qsD pr), .dat (qD m), .dat (tabD (leads dt)), .own (((List.range j).foldl (reach1 dt pr m i) r).map obD), x5, .dat (.int (i : Int)), .dat (qD (BB.dot pr (dt.am i))), x8, x9]) (id_range T.range (by decide +kernel) (ed_lenL T.len (by decide +kernel) (ed_v 3 rfl rfl)) (by omega) (by omega)) ⟨_, _, rfl⟩ (fun j d ρ hd hP => ?_) (fun ρ hP => ?_))
      · obtain ⟨x8, x9, rfl⟩ := hP
        obtain ⟨hj, rfl⟩ := rngD_get hd
        rw [hl, Int.toNat_natCast] at hj
        refine ⟨_, _, gd_n 8 rfl nd, ?_⟩
        have hr2 := reachR_len (d := dt) (pr := pr) (m := m) (i := i) (r := r) j
        rw [foldl_range]
        revert hr2
        generalize (List.range j).foldl (reach1 dt pr m i) r = r2
        intro hr2
        have htb := tb_at sq (i := i) (j := j) (by omega) (by omega)
        unfold reach1
        revert htb
        generalize tb (leads dt) i j = o
        intro htb
        cases o with
        | none => exact ws_one (w1_if (td_notN (ed_ixL (ed_ixL (ed_v 3 rfl rfl) (ed_v 6 rfl rfl) htb.1) (ed_v 8 rfl rfl) htb.2)) (fun hc => by cases hc) (fun hc => ws_nil ⟨_, _, rfl⟩))
        | some b =>
          refine ws_one (w1_if (td_notN (ed_ixL (ed_ixL (ed_v 3 rfl rfl) (ed_v 6 rfl rfl) htb.1) (ed_v 8 rfl rfl) htb.2)) (fun hc => ?_) (fun hc => by cases hc))
          refine ws_cons (w1_s 9 rfl nd (ed_or (ed_call Hless (by decide) (by decide +kernel) (ad_cons (ed_v 7 rfl rfl) (ad_cons (ed_v 2 rfl rfl) ad_nil)) ⟨_, _, rfl, pk.ok i hi, pk.m, rfl⟩) fun _ => (ed_one (ed_ixL (ed_ixL (ed_v 3 rfl rfl) (ed_v 6 rfl rfl) htb.1) (ed_v 8 rfl rfl) htb.2))) ?_)
          have hj2 : j < r2.length := by omega
          refine ws_one (w1_setItem (j := 4) rfl (by decide +kernel) rfl (ed_or (ed_isT (ed_ixO (i := 4) rfl (by decide +kernel) rfl (ed_v 8 rfl rfl) (at_map none hj2)) (obD_nb _)) fun _ => (ed_one (ed_v 9 rfl rfl))) (ed_v 8 rfl rfl) rfl (by rw [List.length_map]; exact hj2) ⟨.dat (.int (j : Int)), .dat (.bl (qless (BB.dot pr (dt.am i)) m || b)), ?_⟩)
          rw [obD_isT, show D.bl ((r2.getD j none == some true) || (qless (BB.dot pr (dt.am i)) m || b)) = obD (some ((r2.getD j none == some true) || (qless (BB.dot pr (dt.am i)) m || b))) from rfl, set_map]
          rfl
      · obtain ⟨x8, x9, rfl⟩ := hP
        rw [rngD_len, hl, Int.toNat_natCast]
        refine ⟨x5, .dat (.int (i : Int)), .dat (qD (BB.dot pr (dt.am i))), x8, x9, ?_⟩
        unfold reachI
        rw [if_pos (show qatm (BB.dot pr (dt.am i)) m = true from hc)]
    · refine ws_nil ⟨x5, .dat (.int (i : Int)), .dat (qD (BB.dot pr (dt.am i))), x8, x9, ?_⟩
      unfold reachI
      rw [if_neg (by rw [show qatm (BB.dot pr (dt.am i)) m = false from hc]; decide)]; rfl
  · obtain ⟨x5, x6, x7, x8, x9, rfl⟩ := hP
    rw [rngD_len, hl, Int.toNat_natCast]
    exact ws_freeze 4 (ws_one (w1_ret (ed_v 4 rfl rfl) rfl))
def R_rchain (ds : List D) (d : D) : Prop := ∃ (dt : Dt) (pr : List Qt) (m : Qt) (j : Nat), ds = [datD dt, qsD pr, qD m, .int (j : Int)] ∧ DtOk dt ∧ PrOk dt pr m ∧ j < dt.n ∧ d = ochD (reachChain dt pr m j)
def onD : Option Nat → D
  | none => .non
  | some n => .int (n : Int)
theorem find_no {p : Nat → Bool} {n : Nat} (h : ∀ k, k < n → p k = false) : (List.range n).find? p = none := List.find?_eq_none.mpr fun x hx => by rw [h x (List.mem_range.mp hx)]; decide
theorem find_at {p : Nat → Bool} {n i : Nat} (h : ∀ k, k < i → p k = false) (hi : i < n) (hp : p i = true) : (List.range n).find? p = some i := by
  have : List.range n = List.range i ++ (i :: (List.range (n - i - 1)).map (· + (i + 1))) := by
    refine List.ext_getElem? fun k => ?_
    by_cases hk : k < i
    · rw [List.getElem?_append_left (by rw [List.length_range]; exact hk), List.getElem?_range hk, List.getElem?_range (by omega)]
    · rw [List.getElem?_append_right (by rw [List.length_range]; omega), List.length_range]
      by_cases hk2 : k < n
      · rw [List.getElem?_range hk2]
        by_cases hk3 : k = i
        · subst hk3; simp
        · obtain ⟨z, hz⟩ : ∃ z, k - i = z + 1 := ⟨k - i - 1, by omega⟩
          rw [hz, List.getElem?_cons_succ, List.getElem?_map, List.getElem?_range (by omega)]
          show some k = some (z + (i + 1))
          congr 1; omega
      · rw [List.getElem?_eq_none (by rw [List.length_range]; omega), List.getElem?_eq_none (by rw [List.length_cons, List.length_map, List.length_range]; omega)]
  rw [this, List.find?_append, find_no h, List.find?_cons, hp]
  rfl
theorem has_rchain {M : Mo} (T : Tx M) (F : Df M "reach_chain" s_reach_chain ["data", "prices", "money", "j"]) (Hleads : Has M 7 "leads" R_leads) (Hchain : Has M 7 "find_chain" R_chain) (Hcost : Has M 4 "cost" R_dot) (Hat : Has M 1 "at_most" R_atm) (Hless : Has M 1 "less" R_less) : Has M 8 "reach_chain" R_rchain := by
  refine F.has sc_reach_chain (fun ds d h => by obtain ⟨p, q, r, s, rfl, _⟩ := h; rfl) fun ds d h => ?_
  obtain ⟨dt, pr, m, j, rfl, ok, pk, hj, rfl⟩ := h
  have nd := sc_reach_chain.nd
  have hn := ok.n
  obtain ⟨sq, hsl⟩ := leads_sq hn
  have hl : (List.map rowD (leads dt)).length = dt.n := by rw [List.length_map, hsl]
  refine ws_cons (w1_s 4 rfl nd (ed_call Hleads (by decide) (by decide +kernel) (ad_cons (ed_v 0 rfl rfl) ad_nil) ⟨_, rfl, ok, rfl⟩) ?_)
  refine ws_cons (w1_s 5 rfl nd ed_non ?_)
  refine ws_cons (w1_for (fun i ρ => (∀ k, k < i → rcStrict dt pr m j k = false) ∧ ∃ x6 x7, ρ = [.dat (datD dt), .dat (qsD pr), .dat (qD m), .dat (.int (j : Int)), .dat (tabD (leads dt)), .dat (onD (rcBest dt pr m j i)), x6, x7]) (id_range T.range (by decide +kernel) (ed_lenL T.len (by decide +kernel) (ed_v 4 rfl rfl)) (by omega) (by omega)) ⟨fun k hk => by omega, _, _, rfl⟩ (fun i d ρ hd hP => ?_) (fun ρ hP => ?_))
  · obtain ⟨hno, x6, x7, rfl⟩ := hP
    obtain ⟨hi, rfl⟩ := rngD_get hd
    rw [hl, Int.toNat_natCast] at hi
    refine ⟨_, _, gd_n 6 rfl nd, ?_⟩
    have htb := tb_at sq (i := i) (j := j) (by omega) (by omega)
    refine ws_cons (w1_s 7 rfl nd (ed_call Hcost (by decide) (by decide +kernel) (ad_cons (ed_v 1 rfl rfl) (ad_cons (ed_ixT (ed_ixL (ed_fld T.dat (ed_v 0 rfl rfl) (.inr (.inl ⟨rfl, rfl⟩))) (ed_v 6 rfl rfl) (at_map ([], []) hi)) ed_int rfl) ad_nil)) ⟨_, _, rfl, pk.dot i hi, rfl⟩) ?_)
    refine ws_one (w1_if (bb := rcHit dt pr m j i) (td_is (tv_and (td_val (ed_call Hat (by decide) (by decide +kernel) (ad_cons (ed_v 7 rfl rfl) (ad_cons (ed_v 2 rfl rfl) ad_nil)) ⟨_, _, rfl, pk.ok i hi, pk.m, rfl⟩) fun _ _ => rfl) fun _ => (tv_and1 (td_notN (ed_ixL (ed_ixL (ed_v 4 rfl rfl) (ed_v 6 rfl rfl) htb.1) (ed_v 3 rfl rfl) htb.2)))).td (by rw [obD_isN]; unfold rcHit; cases tb (leads dt) i j <;> rfl)) (fun hc => ?_) (fun hc => ?_))
    · have hb : ∃ b, tb (leads dt) i j = some b := by
        unfold rcHit at hc
        rw [Bool.and_eq_true] at hc
        exact Option.isSome_iff_exists.mp hc.2
      obtain ⟨b, hb⟩ := hb
      rw [hb] at htb
      refine ws_cons (w1_if (bb := rcStrict dt pr m j i) (td_is (tv_or (td_val (ed_call Hless (by decide) (by decide +kernel) (ad_cons (ed_v 7 rfl rfl) (ad_cons (ed_v 2 rfl rfl) ad_nil)) ⟨_, _, rfl, pk.ok i hi, pk.m, rfl⟩) fun _ _ => rfl) fun _ => (tv_or1 (td_val (ed_ixL (ed_ixL (ed_v 4 rfl rfl) (ed_v 6 rfl rfl) htb.1) (ed_v 3 rfl rfl) htb.2) fun _ _ => rfl))).td (by unfold rcStrict; rw [hc, hb]; cases b <;> rfl)) (fun hc2 => ?_) (fun hc2 => ?_))
      · refine ws_one (w1_ret (ed_call Hchain (by decide) (by decide +kernel) (ad_cons (ed_v 0 rfl rfl) (ad_cons (ed_v 6 rfl rfl) (ad_cons (ed_v 3 rfl rfl) ad_nil))) ⟨_, _, _, rfl, ok, hi, rfl⟩) ?_)
        show ochD _ = ochD _
        unfold reachChain
        rw [find_at hno hi hc2]
      · refine ws_nil (ws_one (w1_s 5 rfl nd (ed_v 6 rfl rfl) ⟨fun k hk => ?_, .dat (.int (i : Int)), .dat (qD (BB.dot pr (dt.am i))), ?_⟩))
        · by_cases h : k = i
          · subst h; exact hc2
          · exact hno k (by omega)
        · show _ = [_, _, _, _, _, Sl.dat (onD (if rcHit dt pr m j i then some i else rcBest dt pr m j i)), _, _]
          rw [if_pos hc]; rfl
    · refine ws_nil ⟨fun k hk => ?_, .dat (.int (i : Int)), .dat (qD (BB.dot pr (dt.am i))), ?_⟩
      · by_cases h : k = i
        · subst h; unfold rcStrict; rw [hc]; rfl
        · exact hno k (by omega)
      · show _ = [_, _, _, _, _, Sl.dat (onD (if rcHit dt pr m j i then some i else rcBest dt pr m j i)), _, _]
        rw [if_neg (by rw [hc]; decide)]; rfl
  · obtain ⟨hno, x6, x7, rfl⟩ := hP
    rw [rngD_len, hl, Int.toNat_natCast] at hno ⊢
    have hlt : ∀ n b, rcBest dt pr m j n = some b → b < n := by
      intro n
      induction n with
      | zero => intro b h; cases h
      | succ n ih =>
        intro b h
        have h : (if rcHit dt pr m j n then some n else rcBest dt pr m j n) = some b := h
        split at h
        · cases h; omega
        · have := ih b h; omega
    have hE : reachChain dt pr m j = (match rcBest dt pr m j dt.n with | some b => findChain dt b j | none => none) := by
      unfold reachChain
      rw [find_no hno]
      all_goals rfl
    rw [hE]
    have hlt := hlt dt.n
    revert hlt
    generalize rcBest dt pr m j dt.n = o
    intro hlt
    cases o with
    | none =>
      refine ws_cons (w1_if (td_isN (ed_v 5 rfl rfl)) (fun hc => ?_) (fun hc => by cases hc))
      exact ws_one (w1_ret ed_non rfl)
    | some b =>
      refine ws_cons (w1_if (td_isN (ed_v 5 rfl rfl)) (fun hc => by cases hc) (fun hc => ?_))
      exact ws_nil (ws_one (w1_ret (ed_call Hchain (by decide) (by decide +kernel) (ad_cons (ed_v 0 rfl rfl) (ad_cons (ed_v 5 rfl rfl) (ad_cons (ed_v 3 rfl rfl) ad_nil))) ⟨_, _, _, rfl, ok, hlt b rfl, rfl⟩) rfl))
structure BkOk (dt : Dt) (bs : List Qt) : Prop where
  dot : ∀ i, i < dt.n → DotOk (dt.pr i) bs
  ok : ∀ i, i < dt.n → Ok (BB.dot (dt.pr i) bs)
def R_keeps (ds : List D) (d : D) : Prop := ∃ (dt : Dt) (j : Nat) (s : Bool) (bs : List Qt), ds = [datD dt, .int (j : Int), .bl s, qsD bs] ∧ DtOk dt ∧ BkOk dt bs ∧ j < dt.n ∧ d = .bl (keepsRow dt j s bs)
theorem has_keeps {M : Mo} (T : Tx M) (F : Df M "keeps_row" s_keeps_row ["data", "j", "strict", "basket"]) (Hcost : Has M 4 "cost" R_dot) (Hspent : Has M 4 "spent" R_spent) (Hat : Has M 1 "at_most" R_atm) (Hless : Has M 1 "less" R_less) : Has M 5 "keeps_row" R_keeps := by
  refine F.has sc_keeps_row (fun ds d h => by obtain ⟨p, q, r, s, rfl, _⟩ := h; rfl) fun ds d h => ?_
  obtain ⟨dt, j, s, bs, rfl, ok, bk, hj, rfl⟩ := h
  have nd := sc_keeps_row.nd
  refine ws_cons (w1_s 4 rfl nd (ed_call Hcost (by decide) (by decide +kernel) (ad_cons (ed_ixT (ed_ixL (ed_fld T.dat (ed_v 0 rfl rfl) (.inr (.inl ⟨rfl, rfl⟩))) (ed_v 1 rfl rfl) (at_map ([], []) hj)) ed_int rfl) (ad_cons (ed_v 3 rfl rfl) ad_nil)) ⟨_, _, rfl, bk.dot j hj, rfl⟩) ?_)
  refine ws_cons (w1_s 5 rfl nd (ed_call Hspent (by decide) (by decide +kernel) (ad_cons (ed_v 0 rfl rfl) (ad_cons (ed_v 1 rfl rfl) ad_nil)) ⟨_, _, rfl, hj, ok.dot j j hj hj, rfl⟩) ?_)
  unfold keepsRow
  refine ws_cons (w1_if (td_val (ed_v 2 rfl rfl) fun _ _ => rfl) (fun hc => ?_) (fun hc => ?_))
  · subst hc
    exact ws_one (w1_ret (ed_call Hless (by decide) (by decide +kernel) (ad_cons (ed_v 5 rfl rfl) (ad_cons (ed_v 4 rfl rfl) ad_nil)) ⟨_, _, rfl, ok.sp hj, bk.ok j hj, rfl⟩) rfl)
  · subst hc
    exact ws_nil (ws_one (w1_ret (ed_call Hat (by decide) (by decide +kernel) (ad_cons (ed_v 5 rfl rfl) (ad_cons (ed_v 4 rfl rfl) ad_nil)) ⟨_, _, rfl, ok.sp hj, bk.ok j hj, rfl⟩) rfl))
def R_broken (ds : List D) (d : D) : Prop := ∃ (dt : Dt) (rows : List (Option Bool)) (bs : List Qt), ds = [datD dt, rowD rows, qsD bs] ∧ DtOk dt ∧ BkOk dt bs ∧ rows.length = dt.n ∧ d = onD (firstBroken dt rows bs)
theorem has_broken {M : Mo} (T : Tx M) (F : Df M "first_broken" s_first_broken ["data", "rows", "basket"]) (Hkeeps : Has M 5 "keeps_row" R_keeps) : Has M 6 "first_broken" R_broken := by
  refine F.has sc_first_broken (fun ds d h => by obtain ⟨p, q, r, rfl, _⟩ := h; rfl) fun ds d h => ?_
  obtain ⟨dt, rows, bs, rfl, ok, bk, hlr, rfl⟩ := h
  have nd := sc_first_broken.nd
  have hn := ok.n
  have hl : (List.map obD rows).length = dt.n := by rw [List.length_map, hlr]
  refine ws_cons (w1_for (fun i ρ => (∀ k, k < i → broken dt rows bs k = false) ∧ ∃ x3, ρ = [.dat (datD dt), .dat (rowD rows), .dat (qsD bs), x3]) (id_range T.range (by decide +kernel) (ed_lenL T.len (by decide +kernel) (ed_v 1 rfl rfl)) (by omega) (by omega)) ⟨fun k hk => by omega, _, rfl⟩ (fun i d ρ hd hP => ?_) (fun ρ hP => ?_))
  · obtain ⟨hno, x3, rfl⟩ := hP
    obtain ⟨hi, rfl⟩ := rngD_get hd
    rw [hl, Int.toNat_natCast] at hi
    refine ⟨_, _, gd_n 3 rfl nd, ?_⟩
    have hat := at_map (f := obD) none (show i < rows.length by omega)
    have hbr : broken dt rows bs i = (match rows.getD i none with | none => false | some s => !keepsRow dt i s bs) := rfl
    revert hat hbr
    generalize rows.getD i none = o
    intro hat hbr
    cases o with
    | none =>
      refine ws_one (w1_if (tv_andF (td_is (td_notN (ed_ixL (ed_v 1 rfl rfl) (ed_v 3 rfl rfl) hat)) rfl)).td (fun hc => by cases hc) (fun hc => ws_nil ⟨fun k hk => ?_, _, rfl⟩))
      by_cases h : k = i
      · subst h; exact hbr
      · exact hno k (by omega)
    | some s =>
      refine ws_one (w1_if (bb := broken dt rows bs i) (td_is (tv_and (td_notN (ed_ixL (ed_v 1 rfl rfl) (ed_v 3 rfl rfl) hat)) fun _ => (tv_and1 (td_not (td_val (ed_call Hkeeps (by decide) (by decide +kernel) (ad_cons (ed_v 0 rfl rfl) (ad_cons (ed_v 3 rfl rfl) (ad_cons (ed_ixL (ed_v 1 rfl rfl) (ed_v 3 rfl rfl) hat) (ad_cons (ed_v 2 rfl rfl) ad_nil)))) ⟨_, _, _, _, rfl, ok, bk, hi, rfl⟩) fun _ _ => rfl)))).td (by rw [hbr]; rfl)) (fun hc => ?_) (fun hc => ?_))
      · refine ws_one (w1_ret (ed_v 3 rfl rfl) ?_)
        show _ = onD _
        unfold firstBroken
        rw [find_at hno (by omega) hc]; rfl
      · refine ws_nil ⟨fun k hk => ?_, _, rfl⟩
        by_cases h : k = i
        · subst h; exact hc
        · exact hno k (by omega)
  · obtain ⟨hno, x3, rfl⟩ := hP
    rw [rngD_len, hl, Int.toNat_natCast] at hno
    refine ws_one (w1_ret ed_non ?_)
    show _ = onD _
    unfold firstBroken
    rw [hlr, find_no hno]; rfl
structure PlOk (dt : Dt) (ns ws : List Qt) (i : Nat) (bs : List Qt) : Prop where
  dot : DotOk (dt.pr i) bs
  c : Ok (BB.dot (dt.pr i) bs)
  n : Ok (ns.getD i q0)
  w : Ok (ws.getD i q0)
  cs : ((BB.dot (dt.pr i) bs).2 * (spt dt i).2).natAbs < 2 ^ 9000
  d : Ok (qsub (BB.dot (dt.pr i) bs) (spt dt i))
  wd : ((ws.getD i q0).2 * (qsub (BB.dot (dt.pr i) bs) (spt dt i)).2).natAbs < 2 ^ 9000
  m : Ok (qmul (ws.getD i q0) (qsub (BB.dot (dt.pr i) bs) (spt dt i)))
  nm : ((ns.getD i q0).2 * (qmul (ws.getD i q0) (qsub (BB.dot (dt.pr i) bs) (spt dt i))).2).natAbs < 2 ^ 9000
def R_plane (ds : List D) (d : D) : Prop := ∃ (dt : Dt) (ns ws : List Qt) (i : Nat) (bs : List Qt), ds = [datD dt, .tup [qsD ns, qsD ws], .int (i : Int), qsD bs] ∧ i < dt.n ∧ i < ns.length ∧ i < ws.length ∧ DtOk dt ∧ PlOk dt ns ws i bs ∧ d = qD (plane dt ns ws i bs)
theorem has_plane {M : Mo} (T : Tx M) (F : Df M "plane" s_plane ["data", "taste", "i", "basket"]) (Hcost : Has M 4 "cost" R_dot) (Hspent : Has M 4 "spent" R_spent) (Hadd : Has M 2 "add" R_add) (Hsub : Has M 2 "sub" R_sub) (Hmul : Has M 2 "mul" R_mul) : Has M 5 "plane" R_plane := by
  refine F.has sc_plane (fun ds d h => by obtain ⟨p, q, r, s, t, rfl, _⟩ := h; rfl) fun ds d h => ?_
  obtain ⟨dt, ns, ws, i, bs, rfl, hi, h1, h2, ok, pk, rfl⟩ := h
  have nd := sc_plane.nd
  refine ws_cons (w1_asg (ed_v 1 rfl rfl) (gd_tup (tgd_cons (gd_n 4 rfl nd) (tgd_cons (gd_n 5 rfl nd) tgd_nil))) ?_)
  exact ws_one (w1_ret (ed_call Hadd (by decide) (by decide +kernel) (ad_cons (ed_ixL (ed_v 4 rfl rfl) (ed_v 2 rfl rfl) (at_map q0 h1)) (ad_cons (ed_call Hmul (by decide) (by decide +kernel) (ad_cons (ed_ixL (ed_v 5 rfl rfl) (ed_v 2 rfl rfl) (at_map q0 h2)) (ad_cons (ed_call Hsub (by decide) (by decide +kernel) (ad_cons (ed_call Hcost (by decide) (by decide +kernel) (ad_cons (ed_ixT (ed_ixL (ed_fld T.dat (ed_v 0 rfl rfl) (.inr (.inl ⟨rfl, rfl⟩))) (ed_v 2 rfl rfl) (at_map ([], []) hi)) ed_int rfl) (ad_cons (ed_v 3 rfl rfl) ad_nil)) ⟨_, _, rfl, pk.dot, rfl⟩) (ad_cons (ed_call Hspent (by decide) (by decide +kernel) (ad_cons (ed_v 0 rfl rfl) (ad_cons (ed_v 2 rfl rfl) ad_nil)) ⟨_, _, rfl, hi, ok.dot i i hi hi, rfl⟩) ad_nil)) ⟨_, _, rfl, pk.c, ok.sp hi, pk.cs, rfl⟩) ad_nil)) ⟨_, _, rfl, pk.w, pk.d, pk.wd, rfl⟩) ad_nil)) ⟨_, _, rfl, pk.n, pk.m, pk.nm, rfl⟩) rfl)
end BB
set_option Elab.async false
set_option linter.all false
set_option maxRecDepth 100000
set_option maxHeartbeats 4000000
namespace BB
open PySem PySem.Spec PyProof.Rows L2
abbrev bsD (xs : List Bool) : D := .lst (xs.map .bl)
theorem any_snoc (f : Nat → Bool) (n : Nat) : (List.range (n + 1)).any f = ((List.range n).any f || f n) := by
  rw [List.range_succ, List.any_append]; simp
def R_next (ds : List D) (es : List D) : Prop := ∃ (T : Tb) (done : List Bool), ds = [tabD T, bsD done] ∧ SqTb T ∧ done.length = T.length ∧ es = (nextClass T done).map fun (n : Nat) => .int (n : Int)
theorem has_next {M : Mo} (T : Tx M) (F : Df M "next_class" s_next_class ["table", "done"]) : HasN M 1 "next_class" R_next := by
  refine F.hasN sc_next_class (fun ds d h => by
    obtain ⟨p, q, rfl, _, _, rfl⟩ := h
    refine ⟨rfl, fun d hd => ?_⟩
    obtain ⟨n, _, rfl⟩ := List.mem_map.mp hd
    exact ⟨_, rfl⟩) fun ds d h => ?_
  obtain ⟨tt, done, rfl, sq, hdl, rfl⟩ := h
  have nd := sc_next_class.nd
  have hn := sq.1
  have hl : (List.map rowD tt).length = tt.length := List.length_map ..
  refine ws_cons (w1_s 2 rfl nd (ed_is (ed_lenL T.len (by decide +kernel) (ed_v 0 rfl rfl)) (by rw [hl])) ?_)
  refine ws_cons (w1_for (fun i ρ => (∀ k, k < i → freeC tt done k = false) ∧ ∃ x3 x4 x5, ρ = [.dat (tabD tt), .dat (bsD done), .dat (.int (tt.length : Int)), x3, x4, x5]) (id_range T.range (by decide +kernel) (ed_v 2 rfl rfl) (by omega) (by omega)) ⟨fun k hk => by omega, _, _, _, rfl⟩ (fun i d ρ hd hP => ?_) (fun ρ hP => ?_))
  · obtain ⟨hno, x3, x4, x5, rfl⟩ := hP
    obtain ⟨hi, rfl⟩ := rngD_get hd
    rw [Int.toNat_natCast] at hi
    refine ⟨_, _, gd_n 3 rfl nd, ?_⟩
    refine ws_one (w1_if (td_not (td_val (ed_ixL (ed_v 1 rfl rfl) (ed_v 3 rfl rfl) (at_map false (show i < done.length by omega))) fun _ _ => rfl)) (fun hc => ?_) (fun hc => ?_))
    · refine ws_cons (w1_s 4 rfl nd ed_bl ?_)
      refine ws_cons (w1_for (fun j ρ => ∃ x5, ρ = [.dat (tabD tt), .dat (bsD done), .dat (.int (tt.length : Int)), .dat (.int (i : Int)), .dat (.bl (!(List.range j).any (notFree tt done i))), x5]) (id_range T.range (by decide +kernel) (ed_v 2 rfl rfl) (by omega) (by omega)) ⟨_, rfl⟩ (fun j d ρ hd hP => ?_) (fun ρ hP => ?_))
      · obtain ⟨x5, rfl⟩ := hP
        obtain ⟨hj, rfl⟩ := rngD_get hd
        rw [Int.toNat_natCast] at hj
        refine ⟨_, _, gd_n 5 rfl nd, ?_⟩
        have h1 := tb_at sq hj hi
        have h2 := tb_at sq hi hj
        rw [any_snoc]
        refine ws_one (w1_if (bb := notFree tt done i j) (td_is (tv_and (td_not (td_val (ed_ixL (ed_v 1 rfl rfl) (ed_v 5 rfl rfl) (at_map false (show j < done.length by omega))) fun _ _ => rfl)) fun _ => (tv_and (td_notN (ed_ixL (ed_ixL (ed_v 0 rfl rfl) (ed_v 5 rfl rfl) h1.1) (ed_v 3 rfl rfl) h1.2)) fun _ => (tv_and1 (td_isN (ed_ixL (ed_ixL (ed_v 0 rfl rfl) (ed_v 3 rfl rfl) h2.1) (ed_v 5 rfl rfl) h2.2))))).td (by
          unfold notFree
          rw [obD_isN, obD_isN]
          cases done.getD j false <;> cases tb tt j i <;> cases tb tt i j <;> rfl)) (fun hc => ?_) (fun hc => ?_))
        · refine ws_one (w1_s 4 rfl nd ed_bl ⟨.dat (.int (j : Int)), ?_⟩)
          rw [hc, Bool.or_true]; rfl
        · refine ws_nil ⟨.dat (.int (j : Int)), ?_⟩
          rw [hc, Bool.or_false]; rfl
      · obtain ⟨x5, rfl⟩ := hP
        rw [rngD_len, Int.toNat_natCast]
        have hf : freeC tt done i = !(List.range tt.length).any (notFree tt done i) := by
          unfold freeC
          rw [show (!done.getD i false) = true from hc, Bool.true_and]
        rw [← hf]
        refine ws_one (w1_if (td_val (ed_v 4 rfl rfl) fun _ _ => rfl) (fun hc2 => ?_) (fun hc2 => ?_))
        · refine ws_one (w1_retN (en_lc (f := fun j => (tb tt i j).isSome && (tb tt j i).isSome) (v := fun (j : Nat) => D.int (j : Int)) [("j", 5)] nd (by decide +kernel) (id_rangeN T.range (ed_v 2 rfl rfl) (by omega)) (fun j d hd => by
            obtain ⟨y, hy, rfl⟩ := mapGet hd
            obtain ⟨rfl, hj⟩ := range_get hy
            have h1 := tb_at sq hj hi
            have h2 := tb_at sq hi hj
            refine ⟨_, gd_n 5 rfl nd, tsd_one (td_is (tv_and (td_notN (ed_ixL (ed_ixL (ed_v 0 rfl rfl) (ed_v 3 rfl rfl) h2.1) (ed_v 5 rfl rfl) h2.2)) fun _ => (tv_and1 (td_notN (ed_ixL (ed_ixL (ed_v 0 rfl rfl) (ed_v 5 rfl rfl) h1.1) (ed_v 3 rfl rfl) h1.2)))).td (by rw [obD_isN, obD_isN]; cases tb tt i y <;> cases tb tt y i <;> rfl)), fun _ => (ed_v 5 rfl rfl)⟩) (fun _ h => h) (by rw [List.length_map, List.length_range]; omega)) ?_)
          show given _ _ _ = _
          unfold nextClass given
          rw [find_at hno hi hc2, List.length_map, List.length_range]
          rfl
        · refine ws_nil ⟨fun k hk => ?_, _, _, _, rfl⟩
          by_cases h : k = i
          · subst h; exact hc2
          · exact hno k (by omega)
    · refine ws_nil ⟨fun k hk => ?_, _, _, _, rfl⟩
      by_cases h : k = i
      · subst h; unfold freeC; rw [show (!done.getD k false) = false from hc]; rfl
      · exact hno k (by omega)
  · obtain ⟨hno, x3, x4, x5, rfl⟩ := hP
    rw [rngD_len, Int.toNat_natCast] at hno
    refine ws_one (w1_retN (en_lst ad_nil (by decide)) ?_)
    show [] = _
    unfold nextClass
    rw [find_no hno]; rfl
end BB
set_option Elab.async false
set_option linter.all false
set_option maxRecDepth 100000
set_option maxHeartbeats 4000000
namespace BB
open PySem PySem.Spec PyProof.Rows L2
def oqD : Option Qt → D
  | none => .non
  | some x => qD x
theorem ok_q1 : Ok q1 := ⟨by show (1 : Int).natAbs < 2 ^ 400000; exact Nat.one_lt_two_pow (by omega), by decide, by show (1 : Int).natAbs < 2 ^ 9000; exact Nat.one_lt_two_pow (by omega)⟩
structure CnOk (dt : Dt) (ns ws : List Qt) (done : List Bool) (ms : List Nat) : Prop where
  ln : ns.length = dt.n
  lw : ws.length = dt.n
  ld : done.length = dt.n
  lm : ms.length ≤ 100
  m : ∀ j ∈ ms, j < dt.n
  pl : ∀ k, k < dt.n → done.getD k false = true → ∀ j ∈ ms, PlOk dt ns ws k (dt.am j)
  ok : ∀ k, k < dt.n → done.getD k false = true → ∀ v ∈ cands dt ns ws ms k, Ok v
theorem best1_ok {b : Option Qt} {v : Qt} (hb : ∀ x, b = some x → Ok x) (hv : Ok v) : ∀ x, best1 b v = some x → Ok x := by
  intro x h
  cases b with
  | none => cases h; exact hv
  | some y =>
    have h : (if qless v y then some v else some y) = some x := h
    split at h
    · cases h; exact hv
    · cases h; exact hb _ rfl
theorem bests_ok {b : Option Qt} : ∀ (vs : List Qt), (∀ x, b = some x → Ok x) → (∀ v ∈ vs, Ok v) → ∀ x, vs.foldl best1 b = some x → Ok x
  | [], hb, _ => hb
  | v :: vs, hb, hv => bests_ok (b := best1 b v) vs (best1_ok hb (hv v List.mem_cons_self)) fun w hw => hv w (List.mem_cons_of_mem _ hw)
theorem bestK_ok {dt : Dt} {ns ws : List Qt} {done : List Bool} {ms : List Nat} (C : CnOk dt ns ws done ms) : ∀ k, k ≤ dt.n → ∀ x, (List.range k).foldl (bestK dt ns ws done ms) none = some x → Ok x
  | 0, _, x, h => by cases h
  | k + 1, hk, x, h => by
    rw [foldl_range] at h
    have ih := bestK_ok C k (by omega)
    revert h
    unfold bestK
    split
    · rename_i hd
      exact fun h => bests_ok _ ih (C.ok k (by omega) hd) x h
    · exact ih x
def R_number (ds : List D) (d : D) : Prop := ∃ (dt : Dt) (ns ws : List Qt) (done : List Bool) (ms : List Nat), ds = [datD dt, .tup [qsD ns, qsD ws], bsD done, natsD ms] ∧ DtOk dt ∧ CnOk dt ns ws done ms ∧ d = qD (classNumber dt ns ws done ms)
theorem has_number {M : Mo} (T : Tx M) (F : Df M "class_number" s_class_number ["data", "taste", "done", "members"]) (Hplane : Has M 5 "plane" R_plane) (Hless : Has M 1 "less" R_less) (Hsub : Has M 2 "sub" R_sub) : Has M 6 "class_number" R_number := by
  refine F.has sc_class_number (fun ds d h => by obtain ⟨p, q, r, s, t, rfl, _⟩ := h; rfl) fun ds d h => ?_
  obtain ⟨dt, ns, ws, done, ms, rfl, ok, C, rfl⟩ := h
  have nd := sc_class_number.nd
  have hn := ok.n
  have hm := C.lm
  refine ws_cons (w1_s 4 rfl nd (ed_ixT (ed_v 1 rfl rfl) ed_int rfl) ?_)
  refine ws_cons (w1_s 5 rfl nd ed_non ?_)
  have hl : (List.map D.bl done).length = dt.n := by rw [List.length_map, C.ld]
  refine ws_cons (w1_for (fun k ρ => ∃ x6 x7 x8 x9, ρ = [.dat (datD dt), .dat (.tup [qsD ns, qsD ws]), .dat (bsD done), .dat (natsD ms), .dat (qsD ns), .dat (oqD ((List.range k).foldl (bestK dt ns ws done ms) none)), x6, x7, x8, x9]) (id_range T.range (by decide +kernel) (ed_lenL T.len (by decide +kernel) (ed_v 2 rfl rfl)) (by omega) (by omega)) ⟨_, _, _, _, rfl⟩ (fun k d ρ hd hP => ?_) (fun ρ hP => ?_))
  · obtain ⟨x6, x7, x8, x9, rfl⟩ := hP
    obtain ⟨hk, rfl⟩ := rngD_get hd
    rw [hl, Int.toNat_natCast] at hk
    refine ⟨_, _, gd_n 6 rfl nd, ?_⟩
    have hb := bestK_ok C k (by omega)
    rw [foldl_range]
    revert hb
    generalize (List.range k).foldl (bestK dt ns ws done ms) none = best
    intro hb
    refine ws_one (w1_if (td_val (ed_ixL (ed_v 2 rfl rfl) (ed_v 6 rfl rfl) (at_map false (show k < done.length by have := C.ld; omega))) fun _ _ => rfl) (fun hc => ?_) (fun hc => ?_))
    · have hln := C.ln
      have hlw := C.lw
      refine ws_cons (w1_n 7 rfl nd (en_cat (en_lst (ad_cons (ed_ixL (ed_v 4 rfl rfl) (ed_v 6 rfl rfl) (at_map q0 (show k < ns.length by omega))) ad_nil) len_ok).ed (en_map (fun j => qD (plane dt ns ws k (dt.am j))) [("j", 8)] nd (id_list (ed_v 3 rfl rfl)) (fun i j hj => ?_) (by omega)).ed (by rw [List.length_map, List.length_singleton]; omega)) ?_)
      · have hj : j ∈ ms := List.mem_of_getElem? hj
        have hjn := C.m j hj
        exact ⟨_, gd_n 8 rfl nd, ed_call Hplane (by decide) (by decide +kernel) (ad_cons (ed_v 0 rfl rfl) (ad_cons (ed_v 1 rfl rfl) (ad_cons (ed_v 6 rfl rfl) (ad_cons (ed_ixT (ed_ixL (ed_fld T.dat (ed_v 0 rfl rfl) (.inr (.inl ⟨rfl, rfl⟩))) (ed_v 8 rfl rfl) (at_map ([], []) hjn)) ed_int rfl) ad_nil)))) ⟨_, _, _, _, _, rfl, hk, by omega, by omega, ok, C.pl k hk hc j hj, rfl⟩⟩
      · have hcs : qD (ns.getD k q0) :: ms.map (fun j => qD (plane dt ns ws k (dt.am j))) = (cands dt ns ws ms k).map qD := by
          unfold cands
          rw [List.map_cons, List.map_map]; rfl
        have hco := C.ok k hk hc
        unfold bestK
        rw [if_pos hc]
        show WS _ _ _ [_, _, _, _, _, _, _, .own (qD (ns.getD k q0) :: ms.map (fun j => qD (plane dt ns ws k (dt.am j)))), _, _]
        rw [hcs]
        revert hco
        generalize cands dt ns ws ms k = vs
        intro hco
        refine ws_freeze 7 (ws_one (w1_for (fun i ρ => ∃ x9, ρ = [.dat (datD dt), .dat (.tup [qsD ns, qsD ws]), .dat (bsD done), .dat (natsD ms), .dat (qsD ns), .dat (oqD ((vs.take i).foldl best1 best)), .dat (.int (k : Int)), .dat (qsD vs), x8, x9]) (id_list (ed_v 7 rfl rfl)) ⟨_, rfl⟩ (fun i d ρ hd hP => ?_) (fun ρ hP => ?_)))
        · obtain ⟨x9, rfl⟩ := hP
          obtain ⟨v, hv, rfl⟩ := mapGet hd
          have hvo := hco v (List.mem_of_getElem? hv)
          have hbo := bests_ok (vs.take i) hb fun w hw => hco w (List.mem_of_mem_take hw)
          refine ⟨_, _, gd_n 9 rfl nd, ?_⟩
          rw [foldl_take _ _ _ _ _ hv]
          revert hbo
          generalize (vs.take i).foldl best1 best = b
          intro hbo
          cases b with
          | none =>
            refine ws_one (w1_if (tv_orT (td_is (td_isN (ed_v 5 rfl rfl)) rfl)).td (fun _ => ?_) (fun hc => by cases hc))
            exact ws_one (w1_s 5 rfl nd (ed_v 9 rfl rfl) ⟨.dat (qD v), rfl⟩)
          | some y =>
            refine ws_one (w1_if (bb := qless v y) (td_is (tv_or (td_isN (ed_v 5 rfl rfl)) fun _ => (tv_or1 (td_val (ed_call Hless (by decide) (by decide +kernel) (ad_cons (ed_v 9 rfl rfl) (ad_cons (ed_v 5 rfl rfl) ad_nil)) ⟨_, _, rfl, hvo, hbo y rfl, rfl⟩) fun _ _ => rfl))).td rfl) (fun hc => ?_) (fun hc => ?_))
            · refine ws_one (w1_s 5 rfl nd (ed_v 9 rfl rfl) ⟨.dat (qD v), ?_⟩)
              unfold best1
              show _ = [_, _, _, _, _, Sl.dat (oqD (if qless v y = true then some v else some y)), _, _, _, _]
              rw [if_pos hc]; rfl
            · refine ws_nil ⟨.dat (qD v), ?_⟩
              unfold best1
              show _ = [_, _, _, _, _, Sl.dat (oqD (if qless v y = true then some v else some y)), _, _, _, _]
              rw [if_neg (by rw [hc]; decide)]; rfl
        · obtain ⟨x9, rfl⟩ := hP
          rw [List.length_map, List.take_length]
          exact ⟨.dat (.int (k : Int)), .dat (qsD vs), x8, x9, rfl⟩
    · refine ws_nil ⟨.dat (.int (k : Int)), x7, x8, x9, ?_⟩
      unfold bestK
      rw [if_neg (by rw [show done.getD k false = false from hc]; decide)]; rfl
  · obtain ⟨x6, x7, x8, x9, rfl⟩ := hP
    rw [rngD_len, hl, Int.toNat_natCast]
    have hb := bestK_ok C dt.n (Nat.le_refl _)
    unfold classNumber
    rw [C.ld]
    revert hb
    generalize (List.range dt.n).foldl (bestK dt ns ws done ms) none = best
    intro hb
    cases best with
    | none =>
      refine ws_cons (w1_if (td_isN (ed_v 5 rfl rfl)) (fun hc => ?_) (fun hc => by cases hc))
      exact ws_one (w1_ret (ed_cst T.zero (by decide +kernel)) rfl)
    | some b =>
      have ho := hb b rfl
      refine ws_cons (w1_if (td_isN (ed_v 5 rfl rfl)) (fun hc => by cases hc) (fun hc => ws_nil ?_))
      have e2 : (b.2 * q1.2).natAbs < 2 ^ 9000 := by
        show (b.2 * 1).natAbs < _
        rw [Int.mul_one]; exact ho.2.2
      have o1 : Ok q1 := ok_q1
      exact ws_one (w1_ret (ed_call Hsub (by decide) (by decide +kernel) (ad_cons (ed_v 5 rfl rfl) (ad_cons (ed_cst T.one (by decide +kernel)) ad_nil)) ⟨_, _, rfl, ho, o1, e2, rfl⟩) rfl)
structure MwOk (dt : Dt) (ns : List Qt) (done : List Bool) (number : Qt) (j : Nat) : Prop where
  ln : ns.length = dt.n
  ld : done.length = dt.n
  jl : j < dt.n
  nn : Ok number
  n : ∀ k, k < dt.n → done.getD k false = true → Ok (ns.getD k q0)
  a : ∀ k, k < dt.n → done.getD k false = true → ((ns.getD k q0).2 * number.2).natAbs < 2 ^ 9000
  b : ∀ k, k < dt.n → done.getD k false = true → ((cst dt j k).2 * (spt dt j).2).natAbs < 2 ^ 9000
  c : ∀ k, k < dt.n → done.getD k false = true → Ok (qsub (ns.getD k q0) number)
  d : ∀ k, k < dt.n → done.getD k false = true → Ok (qsub (cst dt j k) (spt dt j))
  z : ∀ k, k < dt.n → done.getD k false = true → (qsub (cst dt j k) (spt dt j)).1 ≠ 0
  e : ∀ k, k < dt.n → done.getD k false = true → ((qsub (ns.getD k q0) number).2 * (qsub (cst dt j k) (spt dt j)).1).natAbs < 2 ^ 9000
  w : ∀ k, k < dt.n → done.getD k false = true → Ok (wt1 dt ns number j k)
theorem wtK_ok {dt : Dt} {ns : List Qt} {done : List Bool} {number : Qt} {j : Nat} (C : MwOk dt ns done number j) : ∀ k, k ≤ dt.n → Ok ((List.range k).foldl (wtK dt ns done number j) q1)
  | 0, _ => ok_q1
  | k + 1, hk => by
    rw [foldl_range]
    have ih := wtK_ok C k (by omega)
    unfold wtK
    split
    · rename_i hd
      split
      · exact C.w k (by omega) hd
      · exact ih
    · exact ih
def R_weight (ds : List D) (d : D) : Prop := ∃ (dt : Dt) (ns : List Qt) (done : List Bool) (number : Qt) (j : Nat), ds = [datD dt, qsD ns, bsD done, qD number, .int (j : Int)] ∧ DtOk dt ∧ MwOk dt ns done number j ∧ d = qD (memberWeight dt ns done number j)
theorem has_weight {M : Mo} (T : Tx M) (F : Df M "member_weight" s_member_weight ["data", "numbers", "done", "number", "j"]) (Hspent : Has M 4 "spent" R_spent) (Hcost : Has M 4 "cost" R_dot) (Hless : Has M 1 "less" R_less) (Hsub : Has M 2 "sub" R_sub) (Hdiv : Has M 2 "div" R_div) : Has M 5 "member_weight" R_weight := by
  refine F.has sc_member_weight (fun ds d h => by obtain ⟨p, q, r, s, t, rfl, _⟩ := h; rfl) fun ds d h => ?_
  obtain ⟨dt, ns, done, number, j, rfl, ok, C, rfl⟩ := h
  have nd := sc_member_weight.nd
  have hn := ok.n
  have hj := C.jl
  have hld := C.ld
  have hln := C.ln
  have hl : (List.map D.bl done).length = dt.n := by rw [List.length_map, C.ld]
  refine ws_cons (w1_s 5 rfl nd (ed_cst T.one (by decide +kernel)) ?_)
  refine ws_cons (w1_s 6 rfl nd (ed_ixT (ed_ixL (ed_fld T.dat (ed_v 0 rfl rfl) (.inr (.inl ⟨rfl, rfl⟩))) (ed_v 4 rfl rfl) (at_map ([], []) hj)) ed_int rfl) ?_)
  refine ws_cons (w1_s 7 rfl nd (ed_call Hspent (by decide) (by decide +kernel) (ad_cons (ed_v 0 rfl rfl) (ad_cons (ed_v 4 rfl rfl) ad_nil)) ⟨_, _, rfl, hj, ok.dot j j hj hj, rfl⟩) ?_)
  refine ws_cons (w1_for (fun k ρ => ∃ x8 x9, ρ = [.dat (datD dt), .dat (qsD ns), .dat (bsD done), .dat (qD number), .dat (.int (j : Int)), .dat (qD ((List.range k).foldl (wtK dt ns done number j) q1)), .dat (qsD (dt.pr j)), .dat (qD (spt dt j)), x8, x9]) (id_range T.range (by decide +kernel) (ed_lenL T.len (by decide +kernel) (ed_v 2 rfl rfl)) (by omega) (by omega)) ⟨_, _, rfl⟩ (fun k d ρ hd hP => ?_) (fun ρ hP => ?_))
  · obtain ⟨x8, x9, rfl⟩ := hP
    obtain ⟨hk, rfl⟩ := rngD_get hd
    rw [hl, Int.toNat_natCast] at hk
    refine ⟨_, _, gd_n 8 rfl nd, ?_⟩
    have hb := wtK_ok C k (by omega)
    rw [foldl_range]
    revert hb
    generalize (List.range k).foldl (wtK dt ns done number j) q1 = best
    intro hb
    refine ws_one (w1_if (td_val (ed_ixL (ed_v 2 rfl rfl) (ed_v 8 rfl rfl) (at_map false (show k < done.length by omega))) fun _ _ => rfl) (fun hc => ?_) (fun hc => ?_))
    · refine ws_cons (w1_s 9 rfl nd (ed_call Hdiv (by decide) (by decide +kernel) (ad_cons (ed_call Hsub (by decide) (by decide +kernel) (ad_cons (ed_ixL (ed_v 1 rfl rfl) (ed_v 8 rfl rfl) (at_map q0 (show k < ns.length by omega))) (ad_cons (ed_v 3 rfl rfl) ad_nil)) ⟨_, _, rfl, C.n k hk hc, C.nn, C.a k hk hc, rfl⟩) (ad_cons (ed_call Hsub (by decide) (by decide +kernel) (ad_cons (ed_call Hcost (by decide) (by decide +kernel) (ad_cons (ed_v 6 rfl rfl) (ad_cons (ed_ixT (ed_ixL (ed_fld T.dat (ed_v 0 rfl rfl) (.inr (.inl ⟨rfl, rfl⟩))) (ed_v 8 rfl rfl) (at_map ([], []) hk)) ed_int rfl) ad_nil)) ⟨_, _, rfl, ok.dot j k hj hk, rfl⟩) (ad_cons (ed_v 7 rfl rfl) ad_nil)) ⟨_, _, rfl, ok.ok j k hj hk, ok.sp hj, C.b k hk hc, rfl⟩) ad_nil)) ⟨_, _, rfl, C.c k hk hc, C.d k hk hc, C.z k hk hc, C.e k hk hc, rfl⟩) ?_)
      show WS _ _ _ [_, _, _, _, _, _, _, _, _, .dat (qD (wt1 dt ns number j k))]
      have ho := C.w k hk hc
      unfold wtK
      rw [if_pos hc]
      revert ho
      generalize wt1 dt ns number j k = v
      intro ho
      refine ws_one (w1_if (td_val (ed_call Hless (by decide) (by decide +kernel) (ad_cons (ed_v 5 rfl rfl) (ad_cons (ed_v 9 rfl rfl) ad_nil)) ⟨_, _, rfl, hb, ho, rfl⟩) fun _ _ => rfl) (fun hc => ?_) (fun hc => ?_))
      · refine ws_one (w1_s 5 rfl nd (ed_v 9 rfl rfl) ⟨.dat (.int (k : Int)), .dat (qD v), ?_⟩)
        rw [if_pos hc]; rfl
      · refine ws_nil ⟨.dat (.int (k : Int)), .dat (qD v), ?_⟩
        rw [if_neg (by rw [hc]; decide)]
    · refine ws_nil ⟨.dat (.int (k : Int)), x9, ?_⟩
      unfold wtK
      rw [if_neg (by rw [show done.getD k false = false from hc]; decide)]
      rfl
  · obtain ⟨x8, x9, rfl⟩ := hP
    rw [rngD_len, hl, Int.toNat_natCast]
    refine ws_one (w1_ret (ed_v 5 rfl rfl) ?_)
    show qD _ = qD _
    unfold memberWeight
    rw [hld]
end BB
set_option Elab.async false
set_option linter.all false
set_option maxRecDepth 100000
set_option maxHeartbeats 4000000
namespace BB
open PySem PySem.Spec PyProof.Rows L2
theorem class_lt {T : Tb} {done : List Bool} : ∀ j ∈ nextClass T done, j < T.length := by
  intro j hj
  unfold nextClass at hj
  split at hj
  · unfold classOf at hj
    exact List.mem_range.mp (List.mem_filter.mp hj).1
  · cases hj
theorem class_len {T : Tb} {done : List Bool} : (nextClass T done).length ≤ T.length := by
  unfold nextClass
  split
  · unfold classOf
    refine Nat.le_trans (List.length_filter_le _ _) ?_
    rw [List.length_range]; exact Nat.le_refl _
  · exact Nat.zero_le _
structure Ts.Len (t : Ts) (n : Nat) : Prop where
  ln : t.ns.length = n
  lw : t.ws.length = n
  ld : t.done.length = n
theorem puts_len {ms : List Nat} {x : Qt} {found : List Qt} {t : Ts} {n : Nat} (h : t.Len n) : ∀ k, ((List.range k).foldl (put1 ms x found) t).Len n
  | 0 => h
  | k + 1 => by
    rw [foldl_range]
    have ih := puts_len (ms := ms) (x := x) (found := found) h k
    exact ⟨by show (List.set _ _ _).length = _; rw [List.length_set]; exact ih.ln, by show (List.set _ _ _).length = _; rw [List.length_set]; exact ih.lw, by show (List.set _ _ _).length = _; rw [List.length_set]; exact ih.ld⟩
theorem turns_len {d : Dt} {T : Tb} : ∀ r, (turns d T r).Len T.length
  | 0 => ⟨List.length_replicate .., List.length_replicate .., List.length_replicate ..⟩
  | r + 1 => puts_len (turns_len r) _
structure TuOk (dt : Dt) (T : Tb) (t : Ts) : Prop where
  cn : CnOk dt t.ns t.ws t.done (nextClass T t.done)
  mw : ∀ j ∈ nextClass T t.done, MwOk dt t.ns t.done (classNumber dt t.ns t.ws t.done (nextClass T t.done)) j
structure MtOk (dt : Dt) (T : Tb) : Prop where
  sq : SqTb T
  l : T.length = dt.n
  t : ∀ r, r < dt.n → TuOk dt T (turns dt T r)
abbrev tasteD (x : List Qt × List Qt) : D := .tup [qsD x.1, qsD x.2]
def R_make (ds : List D) (d : D) : Prop := ∃ (dt : Dt) (T : Tb), ds = [datD dt, tabD T] ∧ DtOk dt ∧ MtOk dt T ∧ d = tasteD (makeTaste dt T)
theorem rep_map {α : Type} (f : α → D) (n : Nat) (x : α) : (List.range n).map (fun _ => f x) = (List.replicate n x).map f := by
  rw [List.map_replicate]
  exact List.eq_replicate_iff.mpr ⟨by rw [List.length_map, List.length_range], fun b hb => by obtain ⟨_, _, rfl⟩ := List.mem_map.mp hb; rfl⟩
theorem has_make {M : Mo} (T : Tx M) (F : Df M "make_taste" s_make_taste ["data", "table"]) (Hnext : HasN M 1 "next_class" R_next) (Hnumber : Has M 6 "class_number" R_number) (Hweight : Has M 5 "member_weight" R_weight) : Has M 7 "make_taste" R_make := by
  refine F.has sc_make_taste (fun ds d h => by obtain ⟨p, q, rfl, _⟩ := h; rfl) fun ds d h => ?_
  obtain ⟨dt, tt, rfl, ok, C, rfl⟩ := h
  have nd := sc_make_taste.nd
  have hn := ok.n
  have hl := C.l
  have sq := C.sq
  refine ws_cons (w1_s 2 rfl nd (ed_is (ed_lenL T.len (by decide +kernel) (ed_v 1 rfl rfl)) (by rw [List.length_map])) ?_)
  refine ws_cons (w1_newLcC (j := 3) rfl nd (by decide +kernel) (by decide +kernel) (en_map (fun _ => qD q0) [("k", 4)] nd (id_rangeN T.range (ed_v 2 rfl rfl) (by omega)) (fun i x hx => ⟨_, gd_n 4 rfl nd, ed_cst T.zero (by decide +kernel)⟩) (by rw [List.length_range]; omega)) ?_)
  refine ws_cons (w1_map 5 (fun _ => qD q1) [("k", 4)] rfl nd (id_rangeN T.range (ed_v 2 rfl rfl) (by omega)) (fun i x hx => ⟨_, gd_n 4 rfl nd, ed_cst T.one (by decide +kernel)⟩) (by rw [List.length_range]; omega) ?_)
  refine ws_cons (w1_newLcC (j := 6) rfl nd (by decide +kernel) (by decide +kernel) (en_map (fun _ => .bl false) [("k", 4)] nd (id_rangeN T.range (ed_v 2 rfl rfl) (by omega)) (fun i x hx => ⟨_, gd_n 4 rfl nd, ed_bl⟩) (by rw [List.length_range]; omega)) ?_)
  refine ws_cons (w1_for (fun r ρ => ∃ x4 x7 x8 x9 x10 x11, ρ = [.dat (datD dt), .dat (tabD tt), .dat (.int (tt.length : Int)), .own ((turns dt tt r).ns.map qD), x4, .own ((turns dt tt r).ws.map qD), .own ((turns dt tt r).done.map .bl), x7, x8, x9, x10, x11]) (id_range T.range (by decide +kernel) (ed_v 2 rfl rfl) (by omega) (by omega)) ?_ (fun r d ρ hd hP => ?_) (fun ρ hP => ?_))
  · refine ⟨.un, .un, .un, .un, .un, .un, ?_⟩
    show _ = [_, _, _, Sl.own ((List.replicate tt.length q0).map qD), _, Sl.own ((List.replicate tt.length q1).map qD), Sl.own ((List.replicate tt.length false).map .bl), _, _, _, _, _]
    rw [← rep_map, ← rep_map, ← rep_map]; rfl
  · obtain ⟨x4, x7, x8, x9, x10, x11, rfl⟩ := hP
    obtain ⟨hr, rfl⟩ := rngD_get hd
    rw [Int.toNat_natCast, hl] at hr
    refine ⟨_, _, gd_n 7 rfl nd, ?_⟩
    obtain ⟨cn, mw⟩ := C.t r hr
    obtain ⟨hns, hws, hdn⟩ := turns_len (d := dt) (T := tt) r
    show WS _ _ { nx := fun ρ => ∃ x4 x7 x8 x9 x10 x11, ρ = [.dat (datD dt), .dat (tabD tt), .dat (.int (tt.length : Int)), .own ((turn dt tt (turns dt tt r)).ns.map qD), x4, .own ((turn dt tt (turns dt tt r)).ws.map qD), .own ((turn dt tt (turns dt tt r)).done.map .bl), x7, x8, x9, x10, x11], ct := fun ρ => ∃ x4 x7 x8 x9 x10 x11, ρ = [.dat (datD dt), .dat (tabD tt), .dat (.int (tt.length : Int)), .own ((turn dt tt (turns dt tt r)).ns.map qD), x4, .own ((turn dt tt (turns dt tt r)).ws.map qD), .own ((turn dt tt (turns dt tt r)).done.map .bl), x7, x8, x9, x10, x11], bk := _, rt := _, fr := _ } _
    revert cn mw hns hws hdn
    generalize turns dt tt r = t
    intro cn mw hns hws hdn
    refine ws_cons (w1_n 8 rfl nd (en_call Hnext (by decide) (by decide +kernel) (ad_cons (ed_v 1 rfl rfl) (ad_cons (ed_v 6 rfl rfl) ad_nil)) ⟨tt, t.done, rfl, sq, hdn, rfl⟩) ?_)
    unfold turn
    have hmlt := class_lt (T := tt) (done := t.done)
    have hmlen := class_len (T := tt) (done := t.done)
    revert cn mw hmlt hmlen
    show _ → _ → _ → _ → WS _ _ _ [_, _, _, _, _, _, _, _, _, _, _, _]
    generalize nextClass tt t.done = ms
    intro cn mw hmlt hmlen
    refine ws_freeze 8 ?_
    refine ws_cons (w1_s 9 rfl nd (lend_ed (ed_call Hnumber (by decide) (by decide +kernel) (ad_cons (ed_v 0 rfl rfl) (ad_cons (ed_tup (ad_cons (ed_v 3 rfl rfl) (ad_cons (ed_v 5 rfl rfl) ad_nil)) len_ok) (ad_cons (ed_v 6 rfl rfl) (ad_cons (ed_v 8 rfl rfl) ad_nil)))) ⟨dt, t.ns, t.ws, t.done, ms, rfl, ok, cn, rfl⟩) rfl) ?_)
    revert mw
    show _ → WS _ _ _ [_, _, _, _, _, _, _, _, _, .dat (qD (classNumber dt t.ns t.ws t.done ms)), _, _]
    generalize classNumber dt t.ns t.ws t.done ms = number
    intro mw
    refine ws_cons (w1_map 10 (fun j => qD (memberWeight dt t.ns t.done number j)) [("j", 11)] rfl nd (id_list (ed_v 8 rfl rfl)) (fun i j hj => ?_) (by omega) ?_)
    · have hj : j ∈ ms := List.mem_of_getElem? hj
      exact ⟨_, gd_n 11 rfl nd, lend_ed (ed_call Hweight (by decide) (by decide +kernel) (ad_cons (ed_v 0 rfl rfl) (ad_cons (ed_v 3 rfl rfl) (ad_cons (ed_v 6 rfl rfl) (ad_cons (ed_v 9 rfl rfl) (ad_cons (ed_v 11 rfl rfl) ad_nil))))) ⟨dt, t.ns, t.done, number, j, rfl, ok, mw j hj, rfl⟩) rfl⟩
    · have hf : ms.map (fun j => qD (memberWeight dt t.ns t.done number j)) = (ms.map (memberWeight dt t.ns t.done number)).map qD := by rw [List.map_map]; rfl
      show WS _ _ _ [_, _, _, _, _, _, _, _, _, _, .own (ms.map fun j => qD (memberWeight dt t.ns t.done number j)), _]
      rw [hf]
      have hfl : (ms.map (memberWeight dt t.ns t.done number)).length = ms.length := List.length_map ..
      revert hfl
      generalize ms.map (memberWeight dt t.ns t.done number) = found
      intro hfl
      have tl : t.Len tt.length := ⟨hns, hws, hdn⟩
      refine ws_freeze 10 (ws_one (w1_for (fun k ρ => ∃ x4, ρ = [.dat (datD dt), .dat (tabD tt), .dat (.int (tt.length : Int)), .own (((List.range k).foldl (put1 ms number found) t).ns.map qD), x4, .own (((List.range k).foldl (put1 ms number found) t).ws.map qD), .own (((List.range k).foldl (put1 ms number found) t).done.map .bl), .dat (.int (r : Int)), .dat (natsD ms), .dat (qD number), .dat (qsD found), x11]) (id_range T.range (by decide +kernel) (ed_lenL T.len (by decide +kernel) (ed_v 8 rfl rfl)) (by omega) (by rw [List.length_map]; omega)) ⟨_, rfl⟩ (fun k d ρ hd hP => ?_) (fun ρ hP => ?_)))
      · obtain ⟨x4, rfl⟩ := hP
        obtain ⟨hk, rfl⟩ := rngD_get hd
        rw [Int.toNat_natCast, List.length_map] at hk
        refine ⟨_, _, gd_n 4 rfl nd, ?_⟩
        rw [foldl_range]
        obtain ⟨pn, pw, pd⟩ := puts_len (ms := ms) (x := number) (found := found) tl k
        revert pn pw pd
        generalize (List.range k).foldl (put1 ms number found) t = u
        intro pn pw pd
        have hmk : ms.getD k 0 < tt.length := hmlt _ (by rw [List.getD_eq_getElem?_getD, List.getElem?_eq_getElem hk]; exact List.getElem_mem hk)
        have hat := at_map (f := fun (n : Nat) => D.int (n : Int)) 0 hk
        have hat2 := at_map (f := qD) q0 (show k < found.length by omega)
        refine ws_cons (w1_setItem (j := 3) rfl (by decide +kernel) rfl (ed_v 9 rfl rfl) (ed_ixL (ed_v 8 rfl rfl) (ed_v 4 rfl rfl) hat) rfl (by rw [List.length_map]; omega) ?_)
        refine ws_cons (w1_setItem (j := 5) rfl (by decide +kernel) rfl (ed_ixL (ed_v 10 rfl rfl) (ed_v 4 rfl rfl) hat2) (ed_ixL (ed_v 8 rfl rfl) (ed_v 4 rfl rfl) hat) rfl (by rw [List.length_map]; omega) ?_)
        refine ws_one (w1_setItem (j := 6) rfl (by decide +kernel) rfl ed_bl (ed_ixL (ed_v 8 rfl rfl) (ed_v 4 rfl rfl) hat) rfl (by rw [List.length_map]; omega) ⟨.dat (.int (k : Int)), ?_⟩)
        rw [set_map, set_map, set_map]
        rfl
      · obtain ⟨x4, rfl⟩ := hP
        rw [rngD_len, Int.toNat_natCast, List.length_map]
        exact ⟨x4, .dat (.int (r : Int)), .dat (natsD ms), .dat (qD number), .dat (qsD found), x11, rfl⟩
  · obtain ⟨x4, x7, x8, x9, x10, x11, rfl⟩ := hP
    rw [rngD_len, Int.toNat_natCast]
    exact ws_freeze 3 (ws_freeze 5 (ws_one (w1_ret (ed_tup (ad_cons (ed_v 3 rfl rfl) (ad_cons (ed_v 5 rfl rfl) ad_nil)) len_ok) rfl)))
def ckD (dt : Dt) : D :=
  match ringAt dt with
  | some i => .tup [.str "ring", ochD (findChain dt i i)]
  | none => .tup [.str "taste", tasteD (makeTaste dt (leads dt))]
def R_check (ds : List D) (d : D) : Prop := ∃ dt : Dt, ds = [datD dt] ∧ DtOk dt ∧ (ringAt dt = none → MtOk dt (leads dt)) ∧ d = ckD dt
theorem has_check {M : Mo} (T : Tx M) (F : Df M "check" s_check ["data"]) (Hleads : Has M 7 "leads" R_leads) (Hchain : Has M 7 "find_chain" R_chain) (Hmake : Has M 7 "make_taste" R_make) : Has M 8 "check" R_check := by
  refine F.has sc_check (fun ds d h => by obtain ⟨p, rfl, _⟩ := h; rfl) fun ds d h => ?_
  obtain ⟨dt, rfl, ok, C, rfl⟩ := h
  have nd := sc_check.nd
  have hn := ok.n
  obtain ⟨sq, hsl⟩ := leads_sq hn
  have hl : (List.map rowD (leads dt)).length = dt.n := by rw [List.length_map, hsl]
  refine ws_cons (w1_s 1 rfl nd (ed_call Hleads (by decide) (by decide +kernel) (ad_cons (ed_v 0 rfl rfl) ad_nil) ⟨_, rfl, ok, rfl⟩) ?_)
  refine ws_cons (w1_for (fun i ρ => (∀ k, k < i → (tb (leads dt) k k == some true) = false) ∧ ∃ x2, ρ = [.dat (datD dt), .dat (tabD (leads dt)), x2]) (id_range T.range (by decide +kernel) (ed_lenL T.len (by decide +kernel) (ed_v 1 rfl rfl)) (by omega) (by omega)) ⟨fun k hk => by omega, _, rfl⟩ (fun i d ρ hd hP => ?_) (fun ρ hP => ?_))
  · obtain ⟨hno, x2, rfl⟩ := hP
    obtain ⟨hi, rfl⟩ := rngD_get hd
    rw [hl, Int.toNat_natCast] at hi
    refine ⟨_, _, gd_n 2 rfl nd, ?_⟩
    have htb := tb_at sq (i := i) (j := i) (by omega) (by omega)
    refine ws_one (w1_if (td_isT (ed_ixL (ed_ixL (ed_v 1 rfl rfl) (ed_v 2 rfl rfl) htb.1) (ed_v 2 rfl rfl) htb.2) (obD_nb _)) (fun hc => ?_) (fun hc => ?_))
    · rw [obD_isT] at hc
      refine ws_one (w1_ret (ed_tup (ad_cons ed_str (ad_cons (ed_call Hchain (by decide) (by decide +kernel) (ad_cons (ed_v 0 rfl rfl) (ad_cons (ed_v 2 rfl rfl) (ad_cons (ed_v 2 rfl rfl) ad_nil))) ⟨_, _, _, rfl, ok, hi, rfl⟩) ad_nil)) len_ok) ?_)
      show _ = ckD dt
      unfold ckD ringAt
      rw [find_at (p := fun i => tb (leads dt) i i == some true) hno hi hc]
    · rw [obD_isT] at hc
      refine ws_nil ⟨fun k hk => ?_, _, rfl⟩
      by_cases h : k = i
      · subst h; exact hc
      · exact hno k (by omega)
  · obtain ⟨hno, x2, rfl⟩ := hP
    rw [rngD_len, hl, Int.toNat_natCast] at hno
    have hr : ringAt dt = none := find_no hno
    refine ws_one (w1_ret (ed_tup (ad_cons ed_str (ad_cons (ed_call Hmake (by decide) (by decide +kernel) (ad_cons (ed_v 0 rfl rfl) (ad_cons (ed_v 1 rfl rfl) ad_nil)) ⟨_, _, rfl, ok, C hr, rfl⟩) ad_nil)) len_ok) ?_)
    show _ = ckD dt
    unfold ckD
    rw [hr]
end BB
set_option Elab.async false
set_option linter.all false
set_option maxRecDepth 100000
set_option maxHeartbeats 4000000
namespace BB
open PySem PySem.Spec PyProof.Rows L2
structure Dx (M : Mo) : Prop where
  ex : ∃ f fd, Mk M.K M.C f ∧ Fun M.K "__init__" "Data.__init__" s_Data_init f fd ∧ Binds M.K fd ["self", "goods", "buys", "links"] []
  mg : M.mg "Data" = some (.ref M.C)
theorem ed_data {M : Mo} (T : Tx M) (X : Dx M) {N : List Str} {sc : Scope} {fn : Str → Bool} {k : Nat} {ρ : Ro} {e : Expr} {es : List Expr} {p pos : Pos} (dt : Dt) (hn : dt.n ≤ 100) (hk : 2 ≤ k)
    (ha : AD ⟨M, N, sc, fn, k⟩ ρ (e :: es) [.int (dt.goods : Int), buysD dt.buys, lksD dt.links]) (hg : glB sc "Data" = true := by decide +kernel) (he : ∀ env, starEach (e :: es) env = (false, eval e env) :: starEach es env := by intro _; rfl) (hpl : ∀ env, (backTo pos (starEach es env)).any (·.1) = false := by intro _; rfl) :
    ED ⟨M, N, sc, fn, k⟩ ρ (.Call (.Name "Data" p) (e :: es) [] pos) (datD dt) := by
  obtain ⟨f, fd, mk, F, hb⟩ := X.ex
  exact ed_make (j := 1) (R := R_init) mk (ok_init T F) hb X.mg hk hg ha ⟨dt, rfl, rfl, rfl, hn⟩ (he := he) (hpl := hpl)
def byD (dt : Dt) (pr : List Qt) (m : Qt) (bs : List Qt) : D :=
  match ringAt dt with
  | some i => .tup [.str "ring", ochD (findChain dt i i)]
  | none => match firstBroken dt (reached dt pr m) bs with
    | some j => .tup [.str "row", .int (j : Int), ochD (reachChain dt pr m j)]
    | none => ckD (moreD dt pr bs)
structure ByOk (dt : Dt) (pr : List Qt) (m : Qt) (bs : List Qt) : Prop where
  ok : DtOk dt
  dot : DotOk pr bs
  me : BB.dot pr bs = m
  pk : PrOk dt pr m
  bk : BkOk dt bs
  mt : ringAt dt = none → MtOk dt (leads dt)
  dn : dt.n ≤ 10
  ok2 : ringAt dt = none → firstBroken dt (reached dt pr m) bs = none → DtOk (moreD dt pr bs)
  mt2 : ringAt dt = none → firstBroken dt (reached dt pr m) bs = none → ringAt (moreD dt pr bs) = none → MtOk (moreD dt pr bs) (leads (moreD dt pr bs))
theorem reached_len {dt : Dt} {pr : List Qt} {m : Qt} : (reached dt pr m).length = dt.n := reachN_len _
def R_buys (ds : List D) (d : D) : Prop := ∃ (dt : Dt) (pr : List Qt) (m : Qt) (bs : List Qt), ds = [datD dt, qsD pr, qD m, qsD bs] ∧ ByOk dt pr m bs ∧ d = byD dt pr m bs
theorem has_buys {M : Mo} (T : Tx M) (X : Dx M) (F : Df M "buys" s_buys ["data", "prices", "money", "basket"]) (Hcost : Has M 4 "cost" R_dot) (Hcheck : Has M 8 "check" R_check) (Hbroken : Has M 6 "first_broken" R_broken) (Hreached : Has M 8 "reached" R_reached) (Hrchain : Has M 8 "reach_chain" R_rchain) : Has M 9 "buys" R_buys := by
  refine F.has sc_buys (fun ds d h => by obtain ⟨p, q, r, s, rfl, _⟩ := h; rfl) fun ds d h => ?_
  obtain ⟨dt, pr, m, bs, rfl, B, rfl⟩ := h
  have nd := sc_buys.nd
  refine ws_cons (w1_if (td_neD (ed_call Hcost (by decide) (by decide +kernel) (ad_cons (ed_v 1 rfl rfl) (ad_cons (ed_v 3 rfl rfl) ad_nil)) ⟨_, _, rfl, B.dot, rfl⟩) (ed_v 2 rfl rfl) rfl rfl (shaped_q _) (shaped_q _)) (fun hc => ?_) (fun hc => ws_nil ?_))
  · rw [eqv_q, B.me, decide_eq_true rfl] at hc
    cases hc
  refine ws_cons (w1_s 4 rfl nd (ed_call Hcheck (by decide) (by decide +kernel) (ad_cons (ed_v 0 rfl rfl) ad_nil) ⟨_, rfl, B.ok, B.mt, rfl⟩) ?_)
  unfold byD
  show WS _ _ _ [_, _, _, _, .dat (ckD dt), _]
  unfold ckD
  have hmt := B.mt
  have ho2 := B.ok2
  have hm2 := B.mt2
  revert hmt ho2 hm2
  generalize ringAt dt = o
  intro hmt ho2 hm2
  cases o with
  | some i =>
    refine ws_cons (w1_if (td_eq (ed_ixT (ed_v 4 rfl rfl) ed_int rfl) ed_str (.str _ _)) (fun hc => ?_) (fun hc => ?_))
    · exact ws_one (w1_ret (ed_v 4 rfl rfl) rfl)
    · exact absurd hc (by decide)
  | none =>
    refine ws_cons (w1_if (td_eq (ed_ixT (ed_v 4 rfl rfl) ed_int rfl) ed_str (.str _ _)) (fun hc => ?_) (fun hc => ws_nil ?_))
    · exact absurd hc (by decide)
    refine ws_cons (w1_s 5 rfl nd (ed_call Hbroken (by decide) (by decide +kernel) (ad_cons (ed_v 0 rfl rfl) (ad_cons (ed_call Hreached (by decide) (by decide +kernel) (ad_cons (ed_v 0 rfl rfl) (ad_cons (ed_v 1 rfl rfl) (ad_cons (ed_v 2 rfl rfl) ad_nil))) ⟨_, _, _, rfl, B.ok, B.pk, rfl⟩) (ad_cons (ed_v 3 rfl rfl) ad_nil))) ⟨_, _, _, rfl, B.ok, B.bk, reached_len, rfl⟩) ?_)
    have hlt : ∀ j, firstBroken dt (reached dt pr m) bs = some j → j < dt.n := fun j h => by
      unfold firstBroken at h
      have := List.mem_of_find?_eq_some h
      rw [reached_len] at this
      exact List.mem_range.mp this
    show WS _ _ _ [_, _, _, _, _, .dat (onD (firstBroken dt (reached dt pr m) bs))]
    revert hlt ho2 hm2
    generalize firstBroken dt (reached dt pr m) bs = o
    intro ho2 hm2 hlt
    cases o with
    | some j =>
      refine ws_cons (w1_if (td_notN (ed_v 5 rfl rfl)) (fun hc => ?_) (fun hc => by cases hc))
      exact ws_one (w1_ret (ed_tup (ad_cons ed_str (ad_cons (ed_v 5 rfl rfl) (ad_cons (ed_call Hrchain (by decide) (by decide +kernel) (ad_cons (ed_v 0 rfl rfl) (ad_cons (ed_v 1 rfl rfl) (ad_cons (ed_v 2 rfl rfl) (ad_cons (ed_v 5 rfl rfl) ad_nil)))) ⟨_, _, _, _, rfl, B.ok, B.pk, hlt j rfl, rfl⟩) ad_nil))) len_ok) rfl)
    | none =>
      refine ws_cons (w1_if (td_notN (ed_v 5 rfl rfl)) (fun hc => by cases hc) (fun hc => ws_nil ?_))
      have hl : (moreD dt pr bs).n ≤ 100 := by
        show (dt.buys ++ [(pr, bs)]).length ≤ 100
        rw [List.length_append, List.length_singleton]
        have : dt.buys.length ≤ 10 := B.dn
        omega
      refine ws_one (w1_ret (ed_call Hcheck (by decide) (by decide +kernel) (ad_cons (ed_data T X (moreD dt pr bs) hl (by decide) (ad_cons (ed_fld T.dat (ed_v 0 rfl rfl) (.inl ⟨rfl, rfl⟩)) (ad_cons (ed_is (en_cat (ed_fld T.dat (ed_v 0 rfl rfl) (.inr (.inl ⟨rfl, rfl⟩))) (en_lst (ad_cons (ed_tup (ad_cons (ed_v 1 rfl rfl) (ad_cons (ed_v 3 rfl rfl) ad_nil)) len_ok) ad_nil) len_ok).ed ?_).ed ?_) (ad_cons (ed_fld T.dat (ed_v 0 rfl rfl) (.inr (.inr ⟨rfl, rfl⟩))) ad_nil)))) ad_nil) ⟨_, rfl, ho2 rfl rfl, hm2 rfl rfl, rfl⟩) rfl)
      · rw [List.length_map, List.length_singleton]
        have : dt.buys.length ≤ 10 := B.dn
        omega
      · show D.lst _ = D.lst _
        unfold moreD
        rw [List.map_append]; rfl
end BB
set_option linter.all false
set_option maxRecDepth 100000
namespace BB
def lplus (a b : Qt) : Qt := (a.1 * b.2 + b.1 * a.2, a.2 * b.2)
def ltimes (a b : Qt) : Qt := (a.1 * b.1, a.2 * b.2)
def lneg (a : Qt) : Qt := (-a.1, a.2)
def lsame (a b : Qt) : Bool := decide (a.1 * b.2 = b.1 * a.2)
def ldotN (a b : List Qt) : Nat → Qt
  | 0 => q0
  | n + 1 => lplus (ldotN a b n) (ltimes (a.getD n q0) (b.getD n q0))
def ldot (a b : List Qt) : Qt := ldotN a b a.length
def lprice (n : Nat) : Qt := if n % 23 = 7 then ratio (1 + (n : Int) * 10007) (1 + (n : Int) / 23) else ratio (1 + (n : Int) % 6) (1 + (n : Int) / 6 % 2)
def lamount (n : Nat) : Qt := if n % 29 = 5 then ratio ((n : Int) * 1009) (1 + (n : Int) / 29) else ratio ((n : Int) % 5) (1 + (n : Int) / 5 % 2)
def lfix (am : List Qt) : List Qt := if am.any (fun x => decide (0 < x.1)) then am else am.set 0 q1
def lbuy (row : List Nat) (g : Nat) : Buy := ((row.take g).map lprice, lfix (((row.drop g).take g).map lamount))
def lbuys (row : List Nat) (g n : Nat) : List Buy := (List.range n).map fun k => lbuy ((row.drop (2 * g * k)).take (2 * g)) g
def llink (row : List Nat) (n k : Nat) : Lk := ((row.getD (k + 1) 0) % n, (row.getD (k + 1) 0) / 7 % n, decide ((row.getD (k + 1) 0) / 49 % 2 = 1))
def llinks (row : List Nat) (n : Nat) : List Lk := if 0 < n then (List.range ((row.getD 0 0) % 7 - 3)).map (llink row n) else []
def Red (x : Qt) : Prop := 0 < x.2 ∧ Nat.gcd x.1.natAbs x.2.natAbs = 1
def digF (c : Int) (row : List Int) : Nat → List Int × Int
  | 0 => (row, c)
  | k + 1 => if 0 < (digF c row k).2 then ((digF c row k).1 ++ [(digF c row k).2 % 10000], (digF c row k).2 / 10000) else digF c row k
def rowCell (st : List Int × Int) (c : Int) : List Int × Int :=
  (if 10 ^ 18 ≤ c then (digF c st.1 60).1 else st.1 ++ [c % 10000], (st.2 * 48271 + c % 1000003 + 11) % 2147483647)
def fillF (st : List Int × Int) : Nat → List Int × Int
  | 0 => st
  | k + 1 => ((fillF st k).1 ++ [((fillF st k).2 * 48271 + 69621 * (k : Int) + 5) % 2147483647 / 7 % 10000], ((fillF st k).2 * 48271 + 69621 * (k : Int) + 5) % 2147483647)
def rowI (ns : List Int) (n : Nat) : List Int := ((fillF (ns.foldl rowCell ([], 17)) n).1).take n
def rowN (ns : List Int) (n : Nat) : List Nat := (rowI ns n).map Int.toNat
def Sml (row : List Int) : Prop := ∀ x ∈ row, 0 ≤ x ∧ x < 10000
theorem Sml.snoc {row : List Int} (h : Sml row) {x : Int} (h1 : 0 ≤ x) (h2 : x < 10000) : Sml (row ++ [x]) := by
  intro y hy
  rcases List.mem_append.mp hy with hy | hy
  · exact h y hy
  · cases List.mem_singleton.mp hy; exact ⟨h1, h2⟩
theorem digF_sml {c : Int} {row : List Int} (h : Sml row) : ∀ k, Sml (digF c row k).1 ∧ (digF c row k).1.length ≤ row.length + k
  | 0 => ⟨h, Nat.le_refl _⟩
  | k + 1 => by
    obtain ⟨h1, h2⟩ := digF_sml (c := c) h k
    unfold digF
    split
    · refine ⟨h1.snoc (by omega) (by omega), ?_⟩
      show List.length (_ ++ _) ≤ _
      rw [List.length_append, List.length_singleton]; omega
    · exact ⟨h1, by omega⟩
theorem rowCell_sml {st : List Int × Int} (h : Sml st.1) (c : Int) : Sml (rowCell st c).1 ∧ (rowCell st c).1.length ≤ st.1.length + 60 := by
  unfold rowCell
  show Sml (if 10 ^ 18 ≤ c then (digF c st.1 60).1 else st.1 ++ [c % 10000]) ∧ (if 10 ^ 18 ≤ c then (digF c st.1 60).1 else st.1 ++ [c % 10000]).length ≤ _
  split
  · exact digF_sml h 60
  · refine ⟨h.snoc (by omega) (by omega), ?_⟩
    rw [List.length_append, List.length_singleton]; omega
theorem cells_sml : ∀ (ns : List Int) (st : List Int × Int), Sml st.1 → Sml (ns.foldl rowCell st).1 ∧ (ns.foldl rowCell st).1.length ≤ st.1.length + 60 * ns.length
  | [], st, h => ⟨h, by simp⟩
  | c :: ns, st, h => by
    obtain ⟨h1, h2⟩ := rowCell_sml h c
    obtain ⟨h3, h4⟩ := cells_sml ns (rowCell st c) h1
    exact ⟨h3, by rw [List.length_cons]; exact Nat.le_trans h4 (by omega)⟩
theorem fill_sml {st : List Int × Int} (h : Sml st.1) : ∀ k, Sml (fillF st k).1 ∧ (fillF st k).1.length = st.1.length + k
  | 0 => ⟨h, rfl⟩
  | k + 1 => by
    obtain ⟨h1, h2⟩ := fill_sml h k
    unfold fillF
    refine ⟨h1.snoc (by omega) (by omega), ?_⟩
    show List.length (_ ++ _) = _
    rw [List.length_append, List.length_singleton, h2]; omega
theorem sml_nil : Sml [] := fun x hx => by cases hx
theorem rowI_sml (ns : List Int) (n : Nat) : Sml (rowI ns n) ∧ (rowI ns n).length = n := by
  obtain ⟨h1, _⟩ := cells_sml ns ([], 17) sml_nil
  obtain ⟨h3, h4⟩ := fill_sml h1 n
  unfold rowI
  exact ⟨fun x hx => h3 x (List.mem_of_mem_take hx), by rw [List.length_take, h4]; omega⟩
theorem rowN_len (ns : List Int) (n : Nat) : (rowN ns n).length = n := by unfold rowN; rw [List.length_map]; exact (rowI_sml ns n).2
theorem rowN_lt (ns : List Int) (n : Nat) : ∀ x ∈ rowN ns n, x < 10000 := by
  intro x hx
  unfold rowN at hx
  obtain ⟨y, hy, rfl⟩ := List.mem_map.mp hx
  have := (rowI_sml ns n).1 y hy
  omega
def ends : Nat → Nat → Nat → Prop
  | 0, _, b => b = 0
  | n + 1, a, b => b = 0 ∨ ends n b (a % b)
def fib : Nat → Nat
  | 0 => 0
  | 1 => 1
  | n + 2 => fib n + fib (n + 1)
theorem fib_add (m : Nat) : ∀ k, fib (m + k + 1) = fib (k + 1) * fib (m + 1) + fib k * fib m ∧ fib (m + k + 2) = fib (k + 2) * fib (m + 1) + fib (k + 1) * fib m
  | 0 => ⟨by simp [fib], by simp [fib]; omega⟩
  | k + 1 => by
    obtain ⟨h1, h2⟩ := fib_add m k
    refine ⟨h2, ?_⟩
    show fib (m + k + 1) + fib (m + k + 2) = (fib (k + 1) + fib (k + 2)) * fib (m + 1) + (fib k + fib (k + 1)) * fib m
    rw [h1, h2, Nat.add_mul, Nat.add_mul]; omega
theorem fib_step (m k : Nat) : fib (k + 1) * fib (m + 1) ≤ fib (m + k + 1) := by rw [(fib_add m k).1]; omega
theorem ends_fib : ∀ (n a b : Nat), b ≤ a → (a < fib (n + 2) ∨ b < fib (n + 1)) → ends n a b
  | 0, a, b, h, hf => by
    show b = 0
    simp [fib] at hf
    omega
  | n + 1, a, b, h, hf => by
    by_cases hb : b = 0
    · exact .inl hb
    refine .inr (ends_fib n b (a % b) (Nat.le_of_lt (Nat.mod_lt _ (by omega))) ?_)
    by_cases h2 : b < fib (n + 2)
    · exact .inl h2
    · rcases hf with hf | hf
      · right
        have e1 : fib (n + 3) = fib (n + 1) + fib (n + 2) := rfl
        have e2 := Nat.div_add_mod a b
        have e3 : 1 ≤ a / b := (Nat.le_div_iff_mul_le (by omega)).mpr (by omega)
        have e4 : b * 1 ≤ b * (a / b) := Nat.mul_le_mul_left b e3
        have hf : a < fib (n + 3) := hf
        omega
      · exact absurd hf h2
theorem ends_big {n a b : Nat} (h : b < fib (n + 2)) : ends (n + 1) a b := by
  by_cases hb : b = 0
  · exact .inl hb
  · exact .inr (ends_fib n b (a % b) (Nat.le_of_lt (Nat.mod_lt _ (by omega))) (.inl h))
theorem fib_1001 : 2 ^ 689 ≤ fib 1001 := by decide +kernel
theorem fib_blocks : ∀ j, 2 ^ (689 * j) ≤ fib (1000 * j + 1)
  | 0 => by decide
  | j + 1 => by
    have h := fib_step (1000 * j) 1000
    rw [show 1000 * (j + 1) + 1 = 1000 * j + 1000 + 1 by omega]
    refine Nat.le_trans ?_ h
    rw [show 689 * (j + 1) = 689 + 689 * j by omega, Nat.pow_add]
    exact Nat.mul_le_mul fib_1001 (fib_blocks j)
theorem euclid {a b : Nat} (h : b < 2 ^ 6200) : ends 9000 a b := by
  refine ends_big (n := 8999) (Nat.lt_of_lt_of_le h ?_)
  refine Nat.le_trans ?_ (fib_blocks 9)
  exact Nat.pow_le_pow_right (by omega) (by omega)
end BB
set_option Elab.async false
set_option linter.all false
set_option maxRecDepth 100000
set_option maxHeartbeats 4000000
namespace BB
open PySem PySem.Spec PyProof.Rows L2
def OkL (x : Qt) : Prop := x.1.natAbs < 2 ^ 400000 ∧ 0 < x.2 ∧ x.2.natAbs < 2 ^ 400000
theorem OkL.mul11 {a b : Qt} (ha : OkL a) (hb : OkL b) : CMulW a.1 b.1 := wide_mul ha.1 hb.1 (by decide) (by decide) (by decide)
theorem OkL.mul12 {a b : Qt} (ha : OkL a) (hb : OkL b) : CMulW a.1 b.2 := wide_mul ha.1 hb.2.2 (by decide) (by decide) (by decide)
theorem OkL.mul22 {a b : Qt} (ha : OkL a) (hb : OkL b) : CMulW a.2 b.2 := wide_mul ha.2.2 hb.2.2 (by decide) (by decide) (by decide)
theorem cm64 {i j : Int} (hi : i.natAbs < 2 ^ 64) (hj : j.natAbs < 2 ^ 64) : CMulW i j := wide_mul hi hj (by decide) (by decide) (by decide)
theorem cd64 {i j : Int} (h0 : 0 < j) (hj : j.natAbs < 2 ^ 64) : CDivW i j := wide_div h0 hj (by decide) (by decide)
theorem ed_isa {M : Mo} {N : List Str} {sc : Scope} {fn : Str → Bool} {k : Nat} {ρ : Ro} {e : Expr} {p pos q : Pos} {TN : Str} {x : D} (t : String) (bb : Bool) (hm : M.mg "isinstance" = none) (hm2 : M.mg TN = none) (ha : ED ⟨M, N, sc, fn, k⟩ ρ e x) (hg : glB sc "isinstance" = true := by decide +kernel) (hg2 : glB sc TN = true := by decide +kernel)
    (hT : bootBuiltins TN = some (.type t) := by decide +kernel) (hx : x.isd = true := by rfl) (hk : kitB x.ty t = some bb := by rfl) (hn : TN ≠ "__name__" := by decide) (hd : (TN == ("__debug__" : Str)) = false := by decide)
    (he : ∀ env, starEach [e, .Name TN q] env = (false, eval e env) :: starEach [.Name TN q] env := by intro _; rfl) : ED ⟨M, N, sc, fn, k⟩ ρ (.Call (.Name "isinstance" p) [e, .Name TN q] [] pos) (.bl bb) := ed_isi hm hg hm2 hg2 hT ha hx hk hn hd he
def R_isint (ds : List D) (d : D) : Prop := ∃ n : Int, ds = [.int n] ∧ d = .bl true
theorem has_isint {M : Mo} (T : Tx M) (F : Df M "_law_is_integer" s_l_is_integer ["_law_actual"]) : Has M 1 "_law_is_integer" R_isint := by
  refine F.has sc_l_is_integer (fun ds d h => by obtain ⟨p, rfl, _⟩ := h; rfl) fun ds d h => ?_
  obtain ⟨n, rfl, rfl⟩ := h
  exact ws_one (w1_ret (ed_and (ed_isa "int" true T.isi T.int (ed_v 0 rfl rfl)) fun _ => (ed_one (ed_not (ed_isa "bool" false T.isi T.bool (ed_v 0 rfl rfl))))) rfl)
def R_lcommon (ds : List D) (d : D) : Prop := ∃ a b : Nat, ds = [.int (a : Int), .int (b : Int)] ∧ b < 2 ^ 6200 ∧ d = .int ((Nat.gcd a b : Nat) : Int)
theorem has_lcommon {M : Mo} (T : Tx M) (F : Df M "_law_common" s_l_common ["_law_a", "_law_b"]) : Has M 1 "_law_common" R_lcommon := by
  refine F.has sc_l_common (fun ds d h => by obtain ⟨p, q, rfl, _⟩ := h; rfl) fun ds d h => ?_
  obtain ⟨a, b, rfl, hb, rfl⟩ := h
  have nd := sc_l_common.nd
  refine ws_cons (w1_for (fun k ρ => ∃ (a' b' : Nat) (x2 x3 : Sl), ρ = [.dat (.int (a' : Int)), .dat (.int (b' : Int)), x2, x3] ∧ Nat.gcd a' b' = Nat.gcd a b ∧ ends (9000 - k) a' b') (id_range T.range (by decide +kernel) ed_int (by decide) (by decide)) ⟨a, b, .un, .un, rfl, rfl, euclid hb⟩ (fun k d ρ hd hP => ?_) (fun ρ hP => ?_))
  · obtain ⟨a', b', x2, x3, rfl, hg, he⟩ := hP
    obtain ⟨hk, rfl⟩ := rngD_get hd
    have hk : k < 9000 := hk
    refine ⟨_, _, gd_n 2 rfl nd, ?_⟩
    refine ws_cons (w1_if (td_eq (ed_v 1 rfl rfl) ed_int (.int _ _)) (fun hc => ?_) (fun hc => ws_nil ?_))
    · have hc : b' = 0 := by
        have := of_decide_eq_true hc
        omega
      subst hc
      rw [Nat.gcd_zero_right] at hg
      subst hg
      exact ws_one (w1_break (ws_one (w1_ret (ed_v 0 rfl rfl) rfl)))
    · have hc : 0 < b' := by
        have := of_decide_eq_false hc
        omega
      obtain ⟨m, hm⟩ : ∃ m, 9000 - k = m + 1 := ⟨9000 - k - 1, by omega⟩
      rw [hm] at he
      have he : b' = 0 ∨ ends m b' (a' % b') := he
      have he : ends m b' (a' % b') := he.resolve_left (by omega)
      refine ws_cons (w1_s 3 rfl nd (ed_is (ed_mod (ed_toInt T.int (by decide +kernel) (ed_v 0 rfl rfl)) (ed_v 1 rfl rfl) (by omega)) (d := .int ((a' % b' : Nat) : Int)) (by rw [Int.natCast_emod])) ?_)
      refine ws_cons (w1_s 0 rfl nd (ed_v 1 rfl rfl) ?_)
      refine ws_one (w1_s 1 rfl nd (ed_v 3 rfl rfl) ⟨b', a' % b', .dat (.int (k : Int)), .dat (.int ((a' % b' : Nat) : Int)), rfl, ?_, ?_⟩)
      · rw [← hg, Nat.gcd_comm b' (a' % b'), ← Nat.gcd_rec, Nat.gcd_comm]
      · rw [show 9000 - (k + 1) = m by omega]; exact he
  · obtain ⟨a', b', x2, x3, rfl, hg, he⟩ := hP
    have hl : (rngD (9000 : Int).toNat).length = 9000 := rngD_len 9000
    rw [hl] at he
    have hc : b' = 0 := he
    subst hc
    rw [Nat.gcd_zero_right] at hg
    subst hg
    exact ws_one (w1_ret (ed_v 0 rfl rfl) rfl)
def R_lratio (ds : List D) (d : D) : Prop := ∃ p q : Int, ds = [.int p, .int q] ∧ 0 < q ∧ q.natAbs < 2 ^ 6200 ∧ d = qD (ratio p q)
theorem abs_nat (p : Int) : (if p < 0 then -p else p) = (p.natAbs : Int) := by omega
theorem has_lratio {M : Mo} (T : Tx M) (F : Df M "_law_ratio" s_l_ratio ["_law_p", "_law_q"]) (Hcommon : Has M 1 "_law_common" R_lcommon) : Has M 2 "_law_ratio" R_lratio := by
  refine F.has sc_l_ratio (fun ds d h => by obtain ⟨p, q, rfl, _⟩ := h; rfl) fun ds d h => ?_
  obtain ⟨p, q, rfl, hq, hs, rfl⟩ := h
  have nd := sc_l_ratio.nd
  obtain ⟨b, rfl⟩ : ∃ b : Nat, q = (b : Int) := ⟨q.toNat, by omega⟩
  rw [Int.natAbs_natCast] at hs
  refine ws_cons (w1_s 2 rfl nd (ed_call Hcommon (by decide) (by decide +kernel) (ad_cons (ed_is (ed_abs T.abs (by decide +kernel) (ed_v 0 rfl rfl)) (d := .int (p.natAbs : Int)) (by rw [abs_nat])) (ad_cons (ed_v 1 rfl rfl) ad_nil)) ⟨_, _, rfl, hs, rfl⟩) ?_)
  have hpos : 0 < Nat.gcd p.natAbs b := Nat.gcd_pos_of_pos_right _ (by omega)
  have hcd : ∀ z : Int, CDivW z ((Nat.gcd p.natAbs b : Nat) : Int) := fun z => by
    refine wide_div (b := 6200) (by omega) ?_ (by decide) (by decide)
    rw [Int.natAbs_natCast]
    exact Nat.lt_of_le_of_lt (Nat.gcd_le_right _ (by omega)) hs
  refine ws_one (w1_ret (ed_tup (ad_cons (ed_fdiv (ed_v 0 rfl rfl) (ed_v 2 rfl rfl) (hcd _)) (ad_cons (ed_fdiv (ed_v 1 rfl rfl) (ed_v 2 rfl rfl) (hcd _)) ad_nil)) len_ok) ?_)
  unfold ratio
  rw [if_neg (by omega), if_neg (by omega), Int.natAbs_natCast]
def R_isratio (ds : List D) (d : D) : Prop := ∃ x : Qt, ds = [qD x] ∧ Red x ∧ x.2.natAbs < 2 ^ 6200 ∧ d = .bl true
theorem has_isratio {M : Mo} (T : Tx M) (F : Df M "_law_is_ratio" s_l_is_ratio ["_law_actual"]) (Hint : Has M 1 "_law_is_integer" R_isint) (Hcommon : Has M 1 "_law_common" R_lcommon) : Has M 2 "_law_is_ratio" R_isratio := by
  refine F.has sc_l_is_ratio (fun ds d h => by obtain ⟨p, rfl, _⟩ := h; rfl) fun ds d h => ?_
  obtain ⟨x, rfl, hr, hs, rfl⟩ := h
  obtain ⟨p, q⟩ := x
  obtain ⟨hq, hg⟩ := hr
  have hq : 0 < q := hq
  have hg : Nat.gcd p.natAbs q.natAbs = 1 := hg
  have hs : q.natAbs < 2 ^ 6200 := hs
  obtain ⟨b, rfl⟩ : ∃ b : Nat, q = (b : Int) := ⟨q.toNat, by omega⟩
  rw [Int.natAbs_natCast] at hs hg
  have nd := sc_l_is_ratio.nd
  refine ws_cons (w1_if (bb := false) (td_is (tv_or (td_not (td_val (ed_isa "tuple" true T.isi T.tuple (ed_v 0 rfl rfl)) fun _ _ => rfl)) fun _ => (tv_or1 (td_ne (ed_lenT T.len (by decide +kernel) (ed_v 0 rfl rfl)) ed_int (.int _ _)))).td (by rfl)) (fun hc => by cases hc) (fun _ => ws_nil ?_))
  refine ws_cons (w1_if (bb := false) (td_is (tv_or (td_not (td_val (ed_call Hint (by decide) (by decide +kernel) (ad_cons (ed_ixT (ed_v 0 rfl rfl) ed_int rfl) ad_nil) ⟨_, rfl, rfl⟩) fun _ _ => rfl)) fun _ => (tv_or (td_not (td_val (ed_call Hint (by decide) (by decide +kernel) (ad_cons (ed_ixT (ed_v 0 rfl rfl) ed_int rfl) ad_nil) ⟨_, rfl, rfl⟩) fun _ _ => rfl)) fun _ => (tv_or1 (td_lt (ed_ixT (ed_v 0 rfl rfl) ed_int rfl) ed_int)))).td (by
    show (false || (false || decide ((b : Int) < 1))) = false
    rw [decide_eq_false (by omega)]; rfl)) (fun hc => by cases hc) (fun _ => ws_nil ?_))
  refine ws_one (w1_ret (ed_eq (ed_call Hcommon (by decide) (by decide +kernel) (ad_cons (ed_is (ed_abs T.abs (by decide +kernel) (ed_ixT (ed_v 0 rfl rfl) ed_int rfl)) (d := .int (p.natAbs : Int)) (by rw [abs_nat])) (ad_cons (ed_ixT (ed_v 0 rfl rfl) ed_int rfl) ad_nil)) ⟨_, _, rfl, hs, rfl⟩) ed_int (.int _ _)) ?_)
  rw [hg]; rfl
def R_areratios (ds : List D) (d : D) : Prop := ∃ xs : List Qt, ds = [qsD xs, .int (xs.length : Int)] ∧ (∀ x ∈ xs, Red x ∧ x.2.natAbs < 2 ^ 6200) ∧ d = .bl true
theorem has_areratios {M : Mo} (T : Tx M) (F : Df M "_law_are_ratios" s_l_are_ratios ["_law_actual", "_law_count"]) (His : Has M 2 "_law_is_ratio" R_isratio) : Has M 3 "_law_are_ratios" R_areratios := by
  refine F.has sc_l_are_ratios (fun ds d h => by obtain ⟨p, rfl, _⟩ := h; rfl) fun ds d h => ?_
  obtain ⟨xs, rfl, hx, rfl⟩ := h
  have nd := sc_l_are_ratios.nd
  refine ws_cons (w1_if (bb := false) (td_is (tv_or (td_not (td_val (ed_isa "list" true T.isi T.list (ed_v 0 rfl rfl)) fun _ _ => rfl)) fun _ => (tv_or1 (td_ne (ed_lenL T.len (by decide +kernel) (ed_v 0 rfl rfl)) (ed_v 1 rfl rfl) (.int _ _)))).td (by rw [List.length_map, decide_eq_true rfl]; rfl)) (fun hc => by cases hc) (fun _ => ws_nil ?_))
  refine ws_cons (w1_for (fun k ρ => ∃ x2, ρ = [.dat (qsD xs), .dat (.int (xs.length : Int)), x2]) (id_list (ed_v 0 rfl rfl)) ⟨_, rfl⟩ (fun k d ρ hd hP => ?_) (fun ρ hP => ?_))
  · obtain ⟨x2, rfl⟩ := hP
    obtain ⟨x, hx', rfl⟩ := mapGet hd
    obtain ⟨h1, h2⟩ := hx x (List.mem_of_getElem? hx')
    refine ⟨_, _, gd_n 2 rfl nd, ?_⟩
    exact ws_one (w1_if (td_not (td_val (ed_call His (by decide) (by decide +kernel) (ad_cons (ed_v 2 rfl rfl) ad_nil) ⟨_, rfl, h1, h2, rfl⟩) fun _ _ => rfl)) (fun hc => by cases hc) (fun _ => ws_nil ⟨_, rfl⟩))
  · obtain ⟨x2, rfl⟩ := hP
    exact ws_one (w1_ret ed_bl rfl)
def R_lbin (f : Qt → Qt → D) (ds : List D) (d : D) : Prop := ∃ a b : Qt, ds = [qD a, qD b] ∧ OkL a ∧ OkL b ∧ d = f a b
theorem has_lplus {M : Mo} (T : Tx M) (F : Df M "_law_plus" s_l_plus ["_law_a", "_law_b"]) : Has M 1 "_law_plus" (R_lbin fun a b => qD (lplus a b)) := by
  refine F.has sc_l_plus (fun ds d h => by obtain ⟨p, q, rfl, _⟩ := h; rfl) fun ds d h => ?_
  obtain ⟨a, b, rfl, ha, hb, rfl⟩ := h
  exact ws_one (w1_ret (ed_tup (ad_cons (ed_add (ed_mul (ed_ixT (ed_v 0 rfl rfl) ed_int rfl) (ed_ixT (ed_v 1 rfl rfl) ed_int rfl) (ha.mul12 hb)) (ed_mul (ed_ixT (ed_v 1 rfl rfl) ed_int rfl) (ed_ixT (ed_v 0 rfl rfl) ed_int rfl) (hb.mul12 ha))) (ad_cons (ed_mul (ed_ixT (ed_v 0 rfl rfl) ed_int rfl) (ed_ixT (ed_v 1 rfl rfl) ed_int rfl) (ha.mul22 hb)) ad_nil)) len_ok) rfl)
theorem has_ltimes {M : Mo} (T : Tx M) (F : Df M "_law_times" s_l_times ["_law_a", "_law_b"]) : Has M 1 "_law_times" (R_lbin fun a b => qD (ltimes a b)) := by
  refine F.has sc_l_times (fun ds d h => by obtain ⟨p, q, rfl, _⟩ := h; rfl) fun ds d h => ?_
  obtain ⟨a, b, rfl, ha, hb, rfl⟩ := h
  exact ws_one (w1_ret (ed_tup (ad_cons (ed_mul (ed_ixT (ed_v 0 rfl rfl) ed_int rfl) (ed_ixT (ed_v 1 rfl rfl) ed_int rfl) (ha.mul11 hb)) (ad_cons (ed_mul (ed_ixT (ed_v 0 rfl rfl) ed_int rfl) (ed_ixT (ed_v 1 rfl rfl) ed_int rfl) (ha.mul22 hb)) ad_nil)) len_ok) rfl)
def R_lneg (ds : List D) (d : D) : Prop := ∃ a : Qt, ds = [qD a] ∧ d = qD (lneg a)
theorem has_lneg {M : Mo} (T : Tx M) (F : Df M "_law_minus" s_l_minus ["_law_a"]) : Has M 1 "_law_minus" R_lneg := by
  refine F.has sc_l_minus (fun ds d h => by obtain ⟨p, rfl, _⟩ := h; rfl) fun ds d h => ?_
  obtain ⟨a, rfl, rfl⟩ := h
  exact ws_one (w1_ret (ed_tup (ad_cons (ed_neg (ed_ixT (ed_v 0 rfl rfl) ed_int rfl)) (ad_cons (ed_ixT (ed_v 0 rfl rfl) ed_int rfl) ad_nil)) len_ok) rfl)
theorem has_lbelow {M : Mo} (T : Tx M) (F : Df M "_law_below" s_l_below ["_law_a", "_law_b"]) : Has M 1 "_law_below" (R_lbin fun a b => .bl (qless a b)) := by
  refine F.has sc_l_below (fun ds d h => by obtain ⟨p, q, rfl, _⟩ := h; rfl) fun ds d h => ?_
  obtain ⟨a, b, rfl, ha, hb, rfl⟩ := h
  exact ws_one (w1_ret (ed_lt (ed_mul (ed_ixT (ed_v 0 rfl rfl) ed_int rfl) (ed_ixT (ed_v 1 rfl rfl) ed_int rfl) (ha.mul12 hb)) (ed_mul (ed_ixT (ed_v 1 rfl rfl) ed_int rfl) (ed_ixT (ed_v 0 rfl rfl) ed_int rfl) (hb.mul12 ha))) rfl)
theorem has_lsame {M : Mo} (T : Tx M) (F : Df M "_law_same" s_l_same ["_law_a", "_law_b"]) : Has M 1 "_law_same" (R_lbin fun a b => .bl (lsame a b)) := by
  refine F.has sc_l_same (fun ds d h => by obtain ⟨p, q, rfl, _⟩ := h; rfl) fun ds d h => ?_
  obtain ⟨a, b, rfl, ha, hb, rfl⟩ := h
  exact ws_one (w1_ret (ed_eq (ed_mul (ed_ixT (ed_v 0 rfl rfl) ed_int rfl) (ed_ixT (ed_v 1 rfl rfl) ed_int rfl) (ha.mul12 hb)) (ed_mul (ed_ixT (ed_v 1 rfl rfl) ed_int rfl) (ed_ixT (ed_v 0 rfl rfl) ed_int rfl) (hb.mul12 ha)) (.int _ _)) rfl)
structure LDotOk (a b : List Qt) : Prop where
  l : a.length ≤ 1000
  le : a.length ≤ b.length
  oa : ∀ k, k < a.length → OkL (a.getD k q0)
  ob : ∀ k, k < a.length → OkL (b.getD k q0)
  m : ∀ k, k < a.length → OkL (ltimes (a.getD k q0) (b.getD k q0))
  t : ∀ k, k ≤ a.length → OkL (ldotN a b k)
def R_ldot (ds : List D) (d : D) : Prop := ∃ a b : List Qt, ds = [qsD a, qsD b] ∧ LDotOk a b ∧ d = qD (ldot a b)
theorem has_ldot {M : Mo} (T : Tx M) (F : Df M "_law_dot" s_l_dot ["_law_a", "_law_b"]) (Hadd : Has M 1 "_law_plus" (R_lbin fun a b => qD (lplus a b))) (Hmul : Has M 1 "_law_times" (R_lbin fun a b => qD (ltimes a b))) : Has M 2 "_law_dot" R_ldot := by
  refine F.has sc_l_dot (fun ds d h => by obtain ⟨p, q, rfl, _⟩ := h; rfl) fun ds d h => ?_
  obtain ⟨a, b, rfl, ok, rfl⟩ := h
  have nd := sc_l_dot.nd
  have hl := ok.l
  refine ws_cons (w1_s 2 rfl nd (ed_tup (ad_cons ed_int (ad_cons ed_int ad_nil)) len_ok) ?_)
  refine ws_cons (w1_for (fun k ρ => ∃ x, ρ = [.dat (qsD a), .dat (qsD b), .dat (qD (ldotN a b k)), x]) (id_range T.range (by decide +kernel) (ed_lenL T.len (by decide +kernel) (ed_v 0 rfl rfl)) (by omega) (by rw [List.length_map]; omega)) ⟨_, rfl⟩ (fun k d ρ hd hP => ?_) (fun ρ hP => ?_))
  · obtain ⟨x, rfl⟩ := hP
    obtain ⟨hk, rfl⟩ := rngD_get hd
    rw [List.length_map] at hk
    have hk : k < a.length := by omega
    have hkb : k < b.length := by have := ok.le; omega
    exact ⟨_, _, gd_n 3 rfl nd, ws_one (w1_s 2 rfl nd (ed_call Hadd (by decide) (by decide +kernel) (ad_cons (ed_v 2 rfl rfl) (ad_cons (ed_call Hmul (by decide) (by decide +kernel) (ad_cons (ed_ixL (ed_v 0 rfl rfl) (ed_v 3 rfl rfl) (at_map q0 hk)) (ad_cons (ed_ixL (ed_v 1 rfl rfl) (ed_v 3 rfl rfl) (at_map q0 hkb)) ad_nil)) ⟨_, _, rfl, ok.oa k hk, ok.ob k hk, rfl⟩) ad_nil)) ⟨_, _, rfl, ok.t k (Nat.le_of_lt hk), ok.m k hk, rfl⟩) ⟨_, rfl⟩)⟩
  · obtain ⟨x, rfl⟩ := hP
    refine ws_one (w1_ret (ed_v 2 rfl rfl) ?_)
    show qD _ = qD _
    rw [rngD_len, List.length_map]
    rfl
end BB
set_option Elab.async false
set_option linter.all false
set_option maxRecDepth 100000
set_option maxHeartbeats 4000000
namespace BB
open PySem PySem.Spec PyProof.Rows L2
theorem ed_i {Γ : Cy} {ρ : Ro} {e : Expr} {m n : Int} (h : ED Γ ρ e (.int m)) (q : m = n) : ED Γ ρ e (.int n) := ed_is h (by rw [q])
abbrev isD (xs : List Int) : List D := xs.map D.int
def R_row (ds : List D) (d : D) : Prop := ∃ ns : List Int, ds = [.scr ns, .int 70] ∧ ns.length ≤ 63 ∧ d = natsD (rowN ns 70)
theorem isD_nat {xs : List Int} (h : Sml xs) : isD xs = (xs.map Int.toNat).map fun (n : Nat) => D.int (n : Int) := by
  rw [List.map_map]
  refine List.map_congr_left fun x hx => ?_
  have := h x hx
  show D.int x = D.int ((x.toNat : Nat) : Int)
  rw [Int.toNat_of_nonneg this.1]
section
variable {Γ : Cy} {ρ : Ro} {a lo hi : Expr} {p2 pos : Pos} {α : Type} {xs : List α} {f : α → D} {m n : Nat}
theorem en_to (ha : ED Γ ρ a (.lst (xs.map f))) (hh : ED Γ ρ hi (.int (n : Int))) : EN Γ ρ (.Subscript a (.Slice none (some hi) none p2) pos) ((xs.take n).map f) := by
  have e := en_slice (lo := none) (hi := some hi) (m := none) (n := some (n : Int)) (p2 := p2) (pos := pos) ha (rfl : OD Γ ρ none none) ⟨_, rfl, hh⟩
  have : cutD (xs.map f) none (some (n : Int)) = (xs.take n).map f := by
    unfold cutD
    rw [HT.sIx_nat, HT.sIx_none, List.drop_zero, Nat.sub_zero, List.map_take]
    refine List.ext_getElem? fun i => ?_
    rw [List.getElem?_take, List.getElem?_take]
    by_cases h : i < n
    · by_cases h2 : i < (xs.map f).length
      · rw [if_pos (by omega), if_pos h]
      · rw [if_neg (by omega), if_pos h, List.getElem?_eq_none (by omega)]
    · rw [if_neg (by omega), if_neg h]
  rw [this] at e
  exact e
theorem en_from (ha : ED Γ ρ a (.lst (xs.map f))) (hl : ED Γ ρ lo (.int (m : Int))) : EN Γ ρ (.Subscript a (.Slice (some lo) none none p2) pos) ((xs.drop m).map f) := by
  have e := en_slice (lo := some lo) (hi := none) (m := some (m : Int)) (n := none) (p2 := p2) (pos := pos) ha ⟨_, rfl, hl⟩ (rfl : OD Γ ρ none none)
  have : cutD (xs.map f) (some (m : Int)) none = (xs.drop m).map f := by
    unfold cutD
    rw [HT.sIx_nat, HT.sIx_none, List.map_drop]
    refine List.ext_getElem? fun i => ?_
    rw [List.getElem?_take, List.getElem?_drop, List.getElem?_drop]
    by_cases h : m + i < (xs.map f).length
    · rw [if_pos (by omega), show min m (xs.map f).length = m by omega]
    · rw [List.getElem?_eq_none (l := xs.map f) (i := m + i) (by omega)]
      by_cases h2 : i < (xs.map f).length - min m (xs.map f).length
      · rw [if_pos h2, List.getElem?_eq_none (by omega)]
      · rw [if_neg h2]
  rw [this] at e
  exact e
theorem en_btw (ha : ED Γ ρ a (.lst (xs.map f))) (hl : ED Γ ρ lo (.int (m : Int))) (hh : ED Γ ρ hi (.int (n : Int))) : EN Γ ρ (.Subscript a (.Slice (some lo) (some hi) none p2) pos) (((xs.drop m).take (n - m)).map f) := by
  have e := en_slice (lo := some lo) (hi := some hi) (m := some (m : Int)) (n := some (n : Int)) (p2 := p2) (pos := pos) ha ⟨_, rfl, hl⟩ ⟨_, rfl, hh⟩
  have : cutD (xs.map f) (some (m : Int)) (some (n : Int)) = ((xs.drop m).take (n - m)).map f := by
    unfold cutD
    rw [HT.sIx_nat, HT.sIx_nat, List.map_take, List.map_drop]
    refine List.ext_getElem? fun i => ?_
    rw [List.getElem?_take, List.getElem?_drop, List.getElem?_take, List.getElem?_drop]
    by_cases h : m + i < (xs.map f).length
    · rw [show min m (xs.map f).length = m by omega]
      by_cases h2 : i < n - m
      · rw [if_pos (by omega), if_pos h2]
      · rw [if_neg (by omega), if_neg h2]
    · rw [List.getElem?_eq_none (l := xs.map f) (i := m + i) (by omega)]
      by_cases h2 : i < min n (xs.map f).length - min m (xs.map f).length
      · rw [if_pos h2, List.getElem?_eq_none (by omega)]; split <;> rfl
      · rw [if_neg h2]; split <;> rfl
  rw [this] at e
  exact e
end
theorem has_row {M : Mo} (T : Tx M) (F : Df M "_law_row" s_l_row ["_law_script", "_law_count"]) : Has M 1 "_law_row" R_row := by
  refine F.has sc_l_row (fun ds d h => by obtain ⟨p, rfl, _⟩ := h; rfl) fun ds d h => ?_
  obtain ⟨ns, rfl, hns, rfl⟩ := h
  have nd := sc_l_row.nd
  refine ws_cons (w1_n 2 rfl nd (en_lst ad_nil (by decide)) ?_)
  refine ws_cons (w1_s 3 rfl nd ed_int ?_)
  refine ws_cons (w1_for (fun i ρ => ∃ x4 x5 x6, ρ = [.dat (.scr ns), .dat (.int 70), .own (isD ((ns.take i).foldl rowCell ([], 17)).1), .dat (.int ((ns.take i).foldl rowCell ([], 17)).2), x4, x5, x6]) (id_scr (ed_v 0 rfl rfl)) ⟨_, _, _, rfl⟩ (fun i d ρ hd hP => ?_) (fun ρ hP => ?_))
  · obtain ⟨x4, x5, x6, rfl⟩ := hP
    obtain ⟨c, hc, rfl⟩ := mapGet hd
    refine ⟨_, _, gd_n 4 rfl nd, ?_⟩
    rw [foldl_take _ _ _ _ _ hc]
    have hi : i < ns.length := (List.getElem?_eq_some_iff.mp hc).1
    obtain ⟨hs, hsl⟩ := cells_sml (ns.take i) ([], 17) sml_nil
    rw [List.length_take] at hsl
    have hseed : 0 ≤ ((ns.take i).foldl rowCell ([], 17)).2 ∧ ((ns.take i).foldl rowCell ([], 17)).2 < 2147483647 := by
      cases i with
      | zero => exact ⟨(by decide : (0 : Int) ≤ 17), (by decide : (17 : Int) < 2147483647)⟩
      | succ i =>
        have hi' : i < ns.length := by omega
        rw [foldl_take _ _ _ _ _ (List.getElem?_eq_getElem hi')]
        unfold rowCell
        exact ⟨Int.emod_nonneg _ (by decide), Int.emod_lt_of_pos _ (by decide)⟩
    revert hs hsl hseed
    generalize (ns.take i).foldl rowCell ([], 17) = st
    intro hs hsl hseed
    obtain ⟨row, seed⟩ := st
    have hsl : row.length ≤ 60 * 63 := by
      have h0 : row.length ≤ ([] : List Int).length + 60 * min i ns.length := hsl
      have h1 : ([] : List Int).length = 0 := rfl
      omega
    have hseed : 0 ≤ seed ∧ seed < 2147483647 := hseed
    refine ws_cons (w1_s 5 rfl nd (ed_toInt T.int (by decide +kernel) (ed_v 4 rfl rfl)) ?_)
    refine ws_cons (w1_s 3 rfl nd (ed_mod (ed_toInt T.int (by decide +kernel) (ed_add (ed_add (ed_mul (ed_v 3 rfl rfl) ed_int (cm64 (by omega) (by decide))) (ed_mod (ed_toInt T.int (by decide +kernel) (ed_v 5 rfl rfl)) ed_int (by decide))) ed_int)) ed_int (by decide)) ?_)
    refine ws_one (w1_if (td_ge (ed_v 5 rfl rfl) (ed_pow ed_int ed_int ⟨by decide, by decide, by decide⟩)) (fun hc => ?_) (fun hc => ?_))
    · have hc : (10 : Int) ^ 18 ≤ c := of_decide_eq_true hc
      refine ws_one (w1_for (fun k ρ => ∃ x6, ρ = [.dat (.scr ns), .dat (.int 70), .own (isD (digF c row k).1), .dat (.int ((seed * 48271 + c % 1000003 + 11) % 2147483647)), .dat (.int c), .dat (.int (digF c row k).2), x6]) (id_range T.range (by decide +kernel) ed_int (by decide) (by decide)) ⟨_, rfl⟩ (fun k d ρ hd hP => ?_) (fun ρ hP => ?_))
      · obtain ⟨x6, rfl⟩ := hP
        obtain ⟨hk, rfl⟩ := rngD_get hd
        have hk : k < 60 := hk
        refine ⟨_, _, gd_n 6 rfl nd, ?_⟩
        obtain ⟨h1, h2⟩ := digF_sml (c := c) hs k
        have e : digF c row (k + 1) = if 0 < (digF c row k).2 then ((digF c row k).1 ++ [(digF c row k).2 % 10000], (digF c row k).2 / 10000) else digF c row k := rfl
        rw [e]
        revert h1 h2
        generalize digF c row k = s
        obtain ⟨r, m⟩ := s
        intro h1 h2
        have h2 : r.length ≤ row.length + k := h2
        refine ws_one (w1_if (td_gt (ed_v 5 rfl rfl) ed_int) (fun hc => ?_) (fun hc => ?_))
        · have hc : 0 < m := of_decide_eq_true hc
          refine ws_cons (w1_appendB (i := 2) rfl (by decide +kernel) rfl (ed_mod (ed_toInt T.int (by decide +kernel) (ed_v 5 rfl rfl)) ed_int (by decide)) (by rw [List.length_map]; show r.length ≤ _; omega) ?_)
          refine ws_one (w1_s 5 rfl nd (ed_fdiv (ed_v 5 rfl rfl) ed_int (cd64 (by decide) (by decide))) ⟨.dat (.int (k : Int)), ?_⟩)
          rw [if_pos hc]
          show _ = [_, _, Sl.own (isD (r ++ [m % 10000])), _, _, _, _]
          unfold isD
          rw [List.map_append]; rfl
        · have hc : ¬ 0 < m := of_decide_eq_false hc
          refine ws_nil ⟨.dat (.int (k : Int)), ?_⟩
          rw [if_neg hc]; rfl
      · obtain ⟨x6, rfl⟩ := hP
        rw [show (rngD (60 : Int).toNat).length = 60 from rngD_len 60]
        refine ⟨.dat (.int c), .dat (.int (digF c row 60).2), x6, ?_⟩
        unfold rowCell
        show _ = [_, _, Sl.own (isD (if 10 ^ 18 ≤ c then (digF c row 60).1 else row ++ [c % 10000])), _, _, _, _]
        rw [if_pos hc]
    · have hc : ¬ (10 : Int) ^ 18 ≤ c := of_decide_eq_false hc
      refine ws_one (w1_appendB (i := 2) rfl (by decide +kernel) rfl (ed_mod (ed_toInt T.int (by decide +kernel) (ed_v 5 rfl rfl)) ed_int (by decide)) (by rw [List.length_map]; show row.length ≤ _; omega) ⟨.dat (.int c), .dat (.int c), x6, ?_⟩)
      unfold rowCell
      show _ = [_, _, Sl.own (isD (if 10 ^ 18 ≤ c then (digF c row 60).1 else row ++ [c % 10000])), _, _, _, _]
      rw [if_neg hc]
      unfold isD
      rw [List.map_append]; rfl
  · obtain ⟨x4, x5, x6, rfl⟩ := hP
    rw [List.length_map, List.take_length]
    obtain ⟨hs, hsl⟩ := cells_sml ns ([], 17) sml_nil
    have hseed : 0 ≤ (ns.foldl rowCell ([], 17)).2 ∧ (ns.foldl rowCell ([], 17)).2 < 2147483647 := by
      cases h : ns.length with
      | zero =>
        have : ns = [] := List.eq_nil_of_length_eq_zero h
        subst this
        exact ⟨by decide, by decide⟩
      | succ i =>
        have hi' : i < ns.length := by omega
        have := foldl_take rowCell ([], 17) ns i _ (List.getElem?_eq_getElem hi')
        rw [show i + 1 = ns.length from h.symm, List.take_length] at this
        rw [this]
        unfold rowCell
        exact ⟨Int.emod_nonneg _ (by decide), Int.emod_lt_of_pos _ (by decide)⟩
    have hE : rowN ns 70 = ((fillF (ns.foldl rowCell ([], 17)) 70).1.take 70).map Int.toNat := rfl
    rw [hE]
    clear hE
    revert hs hsl hseed
    generalize ns.foldl rowCell ([], 17) = st
    intro hs hsl hseed
    have hsl : st.1.length ≤ 60 * 63 := by
      have h1 : ([] : List Int).length = 0 := rfl
      have h0 : st.1.length ≤ ([] : List Int).length + 60 * ns.length := hsl
      omega
    refine ws_cons (w1_for (fun k ρ => ∃ x4 x5 x6, ρ = [.dat (.scr ns), .dat (.int 70), .own (isD (fillF st k).1), .dat (.int (fillF st k).2), x4, x5, x6]) (id_range T.range (by decide +kernel) (ed_v 1 rfl rfl) (by decide) (by decide)) ⟨_, _, _, rfl⟩ (fun k d ρ hd hP => ?_) (fun ρ hP => ?_))
    · obtain ⟨x4, x5, x6, rfl⟩ := hP
      obtain ⟨hk, rfl⟩ := rngD_get hd
      have hk : k < 70 := hk
      refine ⟨_, _, gd_n 6 rfl nd, ?_⟩
      obtain ⟨h1, h2⟩ := fill_sml hs k
      have hsd : 0 ≤ (fillF st k).2 ∧ (fillF st k).2 < 2147483647 := by
        cases k with
        | zero => exact hseed
        | succ k =>
          unfold fillF
          exact ⟨Int.emod_nonneg _ (by decide), Int.emod_lt_of_pos _ (by decide)⟩
      have e : fillF st (k + 1) = ((fillF st k).1 ++ [((fillF st k).2 * 48271 + 69621 * (k : Int) + 5) % 2147483647 / 7 % 10000], ((fillF st k).2 * 48271 + 69621 * (k : Int) + 5) % 2147483647) := rfl
      rw [e]
      revert h1 h2 hsd
      generalize fillF st k = s
      obtain ⟨r, sd⟩ := s
      intro h1 h2 hsd
      have h2 : r.length = st.1.length + k := h2
      have hsd : 0 ≤ sd ∧ sd < 2147483647 := hsd
      refine ws_cons (w1_s 3 rfl nd (ed_mod (ed_toInt T.int (by decide +kernel) (ed_add (ed_add (ed_mul (ed_v 3 rfl rfl) ed_int (cm64 (by omega) (by decide))) (ed_mul ed_int (ed_v 6 rfl rfl) (cm64 (by decide) (by omega)))) ed_int)) ed_int (by decide)) ?_)
      refine ws_one (w1_appendB (i := 2) rfl (by decide +kernel) rfl (ed_mod (ed_fdiv (ed_v 3 rfl rfl) ed_int (cd64 (by decide) (by decide))) ed_int (by decide)) (by rw [List.length_map]; show r.length ≤ _; omega) ⟨x4, x5, .dat (.int (k : Int)), ?_⟩)
      show _ = [_, _, Sl.own (isD (r ++ [(sd * 48271 + 69621 * (k : Int) + 5) % 2147483647 / 7 % 10000])), _, _, _, _]
      unfold isD
      rw [List.map_append]; rfl
    · obtain ⟨x4, x5, x6, rfl⟩ := hP
      rw [show (rngD (70 : Int).toNat).length = 70 from rngD_len 70]
      obtain ⟨h1, h2⟩ := fill_sml hs 70
      refine ws_freeze 2 (ws_one (w1_ret (en_to (n := 70) (xs := (fillF st 70).1) (f := D.int) (ed_v 2 rfl rfl) (ed_v 1 rfl rfl)).ed ?_))
      exact congrArg D.lst (isD_nat fun x hx => h1 x (List.mem_of_mem_take hx))
end BB
set_option Elab.async false
set_option linter.all false
set_option maxRecDepth 100000
set_option maxHeartbeats 4000000
namespace BB
open PySem PySem.Spec PyProof.Rows L2
theorem lt6200 {n : Nat} (h : n < 2 ^ 64) : n < 2 ^ 6200 := Nat.lt_of_lt_of_le h (Nat.pow_le_pow_right (by omega) (by omega))
theorem dec_of {p q : Prop} [Decidable p] [Decidable q] (h : p ↔ q) : decide p = decide q := by
  by_cases hq : q
  · rw [decide_eq_true hq, decide_eq_true (h.mpr hq)]
  · rw [decide_eq_false hq, decide_eq_false fun z => hq (h.mp z)]
def R_lprice (ds : List D) (d : D) : Prop := ∃ n : Nat, ds = [.int (n : Int)] ∧ n < 10000 ∧ d = qD (lprice n)
theorem has_lprice {M : Mo} (T : Tx M) (F : Df M "_law_price" s_l_price ["_law_number"]) (Hr : Has M 2 "_law_ratio" R_lratio) : Has M 3 "_law_price" R_lprice := by
  refine F.has sc_l_price (fun ds d h => by obtain ⟨p, rfl, _⟩ := h; rfl) fun ds d h => ?_
  obtain ⟨n, rfl, hn, rfl⟩ := h
  unfold lprice
  refine ws_cons (w1_if (bb := decide (n % 23 = 7)) (td_is (td_eq (ed_mod (ed_toInt T.int (by decide +kernel) (ed_v 0 rfl rfl)) ed_int (by decide)) ed_int (.int _ _)) (dec_of (by omega))) (fun hc => ?_) (fun hc => ws_nil ?_))
  · rw [if_pos (of_decide_eq_true hc)]
    exact ws_one (w1_ret (ed_call Hr (by decide) (by decide +kernel) (ad_cons (ed_add ed_int (ed_mul (ed_v 0 rfl rfl) ed_int (cm64 (by omega) (by decide)))) (ad_cons (ed_add ed_int (ed_fdiv (ed_v 0 rfl rfl) ed_int (cd64 (by decide) (by decide)))) ad_nil)) ⟨_, _, rfl, by omega, lt6200 (by omega), rfl⟩) rfl)
  · rw [if_neg (of_decide_eq_false hc)]
    exact ws_one (w1_ret (ed_call Hr (by decide) (by decide +kernel) (ad_cons (ed_add ed_int (ed_mod (ed_toInt T.int (by decide +kernel) (ed_v 0 rfl rfl)) ed_int (by decide))) (ad_cons (ed_add ed_int (ed_mod (ed_fdiv (ed_v 0 rfl rfl) ed_int (cd64 (by decide) (by decide))) ed_int (by decide))) ad_nil)) ⟨_, _, rfl, by omega, lt6200 (by omega), rfl⟩) rfl)
def R_lamount (ds : List D) (d : D) : Prop := ∃ n : Nat, ds = [.int (n : Int)] ∧ n < 10000 ∧ d = qD (lamount n)
theorem has_lamount {M : Mo} (T : Tx M) (F : Df M "_law_amount" s_l_amount ["_law_number"]) (Hr : Has M 2 "_law_ratio" R_lratio) : Has M 3 "_law_amount" R_lamount := by
  refine F.has sc_l_amount (fun ds d h => by obtain ⟨p, rfl, _⟩ := h; rfl) fun ds d h => ?_
  obtain ⟨n, rfl, hn, rfl⟩ := h
  unfold lamount
  refine ws_cons (w1_if (bb := decide (n % 29 = 5)) (td_is (td_eq (ed_mod (ed_toInt T.int (by decide +kernel) (ed_v 0 rfl rfl)) ed_int (by decide)) ed_int (.int _ _)) (dec_of (by omega))) (fun hc => ?_) (fun hc => ws_nil ?_))
  · rw [if_pos (of_decide_eq_true hc)]
    exact ws_one (w1_ret (ed_call Hr (by decide) (by decide +kernel) (ad_cons (ed_mul (ed_v 0 rfl rfl) ed_int (cm64 (by omega) (by decide))) (ad_cons (ed_add ed_int (ed_fdiv (ed_v 0 rfl rfl) ed_int (cd64 (by decide) (by decide)))) ad_nil)) ⟨_, _, rfl, by omega, lt6200 (by omega), rfl⟩) rfl)
  · rw [if_neg (of_decide_eq_false hc)]
    exact ws_one (w1_ret (ed_call Hr (by decide) (by decide +kernel) (ad_cons (ed_mod (ed_toInt T.int (by decide +kernel) (ed_v 0 rfl rfl)) ed_int (by decide)) (ad_cons (ed_add ed_int (ed_mod (ed_fdiv (ed_v 0 rfl rfl) ed_int (cd64 (by decide) (by decide))) ed_int (by decide))) ad_nil)) ⟨_, _, rfl, by omega, lt6200 (by omega), rfl⟩) rfl)
abbrev nD (n : Nat) : D := .int (n : Int)
theorem given_empty {n : Nat} {f : Nat → Bool} {v : Nat → D} : (given n f v).isEmpty = !(List.range n).any f := by
  unfold given
  cases h : (List.range n).any f with
  | true =>
    obtain ⟨x, hx, hf⟩ := List.any_eq_true.mp h
    cases e : (List.range n).filter f with
    | nil => exact absurd hf (by have := List.filter_eq_nil_iff.mp e x hx; simpa using this)
    | cons y ys => rfl
  | false =>
    have : (List.range n).filter f = [] := List.filter_eq_nil_iff.mpr fun x hx => by
      have := List.any_eq_false.mp h x hx
      simpa using this
    rw [this]; rfl
theorem any_range {α : Type} (xs : List α) (z : α) (p : α → Bool) : (List.range xs.length).any (fun i => p (xs.getD i z)) = xs.any p := by
  rw [Bool.eq_iff_iff, List.any_eq_true, List.any_eq_true]
  constructor
  · rintro ⟨i, hi, hp⟩
    have hi := List.mem_range.mp hi
    refine ⟨xs.getD i z, ?_, hp⟩
    rw [List.getD_eq_getElem?_getD, List.getElem?_eq_getElem hi]; exact List.getElem_mem hi
  · rintro ⟨x, hx, hp⟩
    obtain ⟨i, hi, e⟩ := List.mem_iff_getElem.mp hx
    refine ⟨i, List.mem_range.mpr hi, ?_⟩
    rw [List.getD_eq_getElem?_getD, List.getElem?_eq_getElem hi, e]; exact hp
def R_lbuy (ds : List D) (d : D) : Prop := ∃ (row : List Nat) (g : Nat), ds = [natsD row, .int (g : Int)] ∧ 1 ≤ g ∧ g ≤ 3 ∧ 2 * g ≤ row.length ∧ row.length ≤ 1000 ∧ (∀ x ∈ row, x < 10000) ∧ d = buyD (lbuy row g)
theorem has_lbuy {M : Mo} (T : Tx M) (F : Df M "_law_buy" s_l_buy ["_law_row_here", "_law_goods"]) (Hp : Has M 3 "_law_price" R_lprice) (Ha : Has M 3 "_law_amount" R_lamount) : Has M 4 "_law_buy" R_lbuy := by
  refine F.has sc_l_buy (fun ds d h => by obtain ⟨p, q, rfl, _⟩ := h; rfl) fun ds d h => ?_
  obtain ⟨row, g, rfl, h1, h3, hg, hl, hs, rfl⟩ := h
  have nd := sc_l_buy.nd
  refine ws_cons (w1_map 2 (fun x => qD (lprice x)) [("_law_x", 3)] rfl nd (id_list (en_to (f := nD) (n := g) (ed_v 0 rfl rfl) (ed_v 1 rfl rfl)).ed) (fun i x hx => ?_) (by rw [List.length_take]; omega) ?_)
  · have hx := hs x (List.mem_of_mem_take (List.mem_of_getElem? hx))
    exact ⟨_, gd_n 3 rfl nd, ed_call Hp (by decide) (by decide +kernel) (ad_cons (ed_v 3 rfl rfl) ad_nil) ⟨_, rfl, hx, rfl⟩⟩
  refine ws_cons (w1_map 4 (fun x => qD (lamount x)) [("_law_x", 3)] rfl nd (id_list (en_btw (f := nD) (m := g) (n := 2 * g) (ed_v 0 rfl rfl) (ed_v 1 rfl rfl) (ed_i (ed_mul ed_int (ed_v 1 rfl rfl) (cm64 (by decide) (by omega))) (by omega))).ed) (fun i x hx => ?_) (by rw [List.length_take, List.length_drop]; omega) ?_)
  · have hx := hs x (List.mem_of_mem_drop (List.mem_of_mem_take (List.mem_of_getElem? hx)))
    exact ⟨_, gd_n 3 rfl nd, ed_call Ha (by decide) (by decide +kernel) (ad_cons (ed_v 3 rfl rfl) ad_nil) ⟨_, rfl, hx, rfl⟩⟩
  show WS _ _ _ [_, _, .own ((row.take g).map fun x => qD (lprice x)), _, .own (((row.drop g).take (2 * g - g)).map fun x => qD (lamount x))]
  have e1 : ((row.take g).map fun x => qD (lprice x)) = ((row.take g).map lprice).map qD := by rw [List.map_map]; rfl
  have e2 : (((row.drop g).take (2 * g - g)).map fun x => qD (lamount x)) = (((row.drop g).take g).map lamount).map qD := by rw [List.map_map, show 2 * g - g = g by omega]; rfl
  rw [e1, e2]
  unfold lbuy
  have hal : (((row.drop g).take g).map lamount).length = g := by rw [List.length_map, List.length_take, List.length_drop]; omega
  revert hal
  generalize ((row.drop g).take g).map lamount = am
  intro hal
  refine ws_freeze 2 (ws_cut (fun ρ => ∃ x3, ρ = [.dat (natsD row), .dat (.int (g : Int)), .dat (qsD ((row.take g).map lprice)), x3, .own ((lfix am).map qD)]) (w1_if (bb := !am.any (fun x => decide (0 < x.1))) (td_is (td_not (lend_td (td_list (en_lc (f := fun i => decide (0 < (am.getD i q0).1)) (v := fun i => qD (am.getD i q0)) [("_law_x", 3)] nd (by decide +kernel) (id_list (ed_v 4 rfl rfl)) (fun i d hd => ?_) (fun _ h => h) (by rw [List.length_map]; omega)).ed fun _ _ => rfl))) (by rw [given_empty, Bool.not_not, List.length_map, any_range am q0 (fun x => decide (0 < x.1))])) (fun hc => ?_) (fun hc => ?_)) ?_)
  · obtain ⟨x, hx, rfl⟩ := mapGet hd
    have e : am.getD i q0 = x := by rw [List.getD_eq_getElem?_getD, hx]; rfl
    rw [e]
    exact ⟨_, gd_n 3 rfl nd, tsd_one (td_gt (ed_ixT (ed_v 3 rfl rfl) ed_int rfl) ed_int), fun _ => ed_v 3 rfl rfl⟩
  · refine ws_one (w1_setItem (j := 4) rfl (by decide +kernel) rfl (ed_tup (ad_cons ed_int (ad_cons ed_int ad_nil)) len_ok) ed_int (n := 0) rfl (by rw [List.length_map]; omega) ⟨.un, ?_⟩)
    unfold lfix
    have hc : (am.any fun x => decide (0 < x.1)) = false := by simpa using hc
    rw [if_neg (by rw [hc]; decide), List.map_set]
    rfl
  · refine ws_nil ⟨.un, ?_⟩
    unfold lfix
    have hc : (am.any fun x => decide (0 < x.1)) = true := by simpa using hc
    rw [if_pos hc]
    rfl
  · rintro ρ ⟨x3, rfl⟩
    exact ws_freeze 4 (ws_one (w1_ret (ed_tup (ad_cons (ed_v 2 rfl rfl) (ad_cons (ed_v 4 rfl rfl) ad_nil)) len_ok) rfl))
def R_lbuys (ds : List D) (d : D) : Prop := ∃ (row : List Nat) (g n : Nat), ds = [natsD row, .int (g : Int), .int (n : Int)] ∧ 1 ≤ g ∧ g ≤ 3 ∧ n ≤ 4 ∧ 24 ≤ row.length ∧ row.length ≤ 1000 ∧ (∀ x ∈ row, x < 10000) ∧ d = buysD (lbuys row g n)
theorem has_lbuys {M : Mo} (T : Tx M) (F : Df M "_law_buys" s_l_buys ["_law_row_here", "_law_goods", "_law_count"]) (Hb : Has M 4 "_law_buy" R_lbuy) : Has M 5 "_law_buys" R_lbuys := by
  refine F.has sc_l_buys (fun ds d h => by obtain ⟨p, q, r, rfl, _⟩ := h; rfl) fun ds d h => ?_
  obtain ⟨row, g, n, rfl, h1, h3, h4, hl, hl2, hs, rfl⟩ := h
  have nd := sc_l_buys.nd
  refine ws_one (w1_ret (ed_is (en_map (fun k => buyD (lbuy ((row.drop (2 * g * k)).take (2 * g)) g)) [("_law_k", 3)] nd (id_rangeN T.range (ed_v 2 rfl rfl) (by omega)) (fun i k hk => ?_) (by rw [List.length_range]; omega)).ed ?_) rfl)
  · obtain ⟨rfl, hi⟩ := range_get hk
    have hk3 : 2 * g * k ≤ 2 * g * 3 := Nat.mul_le_mul_left _ (by omega)
    have hk4 : 2 * g * k ≤ 6 * k := Nat.mul_le_mul_right _ (by omega)
    have e1 : ((2 * g * k : Nat) : Int) = 2 * (g : Int) * (k : Int) := by rw [Int.natCast_mul, Int.natCast_mul]; rfl
    have m1 : CMulW (2 * (g : Int)) (k : Int) := cm64 (by omega) (by omega)
    refine ⟨_, gd_n 3 rfl nd, ed_call Hb (by decide) (by decide +kernel) (ad_cons (en_btw (f := nD) (m := 2 * g * k) (n := 2 * g * k + 2 * g) (ed_v 0 rfl rfl) (ed_i (ed_mul (ed_mul ed_int (ed_v 1 rfl rfl) (cm64 (by decide) (by omega))) (ed_v 3 rfl rfl) m1) (by rw [e1])) (ed_i (ed_add (ed_mul (ed_mul ed_int (ed_v 1 rfl rfl) (cm64 (by decide) (by omega))) (ed_v 3 rfl rfl) m1) (ed_mul ed_int (ed_v 1 rfl rfl) (cm64 (by decide) (by omega)))) (by rw [Int.natCast_add, e1]; omega))).ed (ad_cons (ed_v 1 rfl rfl) ad_nil)) ⟨_, g, rfl, h1, h3, ?_, ?_, ?_, ?_⟩⟩
    · rw [List.length_take, List.length_drop]; omega
    · rw [List.length_take, List.length_drop]; omega
    · exact fun x hx => hs x (List.mem_of_mem_drop (List.mem_of_mem_take hx))
    · rw [show 2 * g * k + 2 * g - 2 * g * k = 2 * g by omega]
  · show D.lst _ = D.lst _
    unfold lbuys
    rw [List.map_map]; rfl
def R_llinks (ds : List D) (d : D) : Prop := ∃ (row : List Nat) (n : Nat), ds = [natsD row, .int (n : Int)] ∧ n ≤ 4 ∧ 5 ≤ row.length ∧ row.length ≤ 1000 ∧ (∀ x ∈ row, x < 10000) ∧ d = lksD (llinks row n)
theorem has_llinks {M : Mo} (T : Tx M) (F : Df M "_law_links" s_l_links ["_law_row_here", "_law_count"]) : Has M 1 "_law_links" R_llinks := by
  refine F.has sc_l_links (fun ds d h => by obtain ⟨p, q, rfl, _⟩ := h; rfl) fun ds d h => ?_
  obtain ⟨row, n, rfl, h4, hl, hl2, hs, rfl⟩ := h
  have nd := sc_l_links.nd
  refine ws_cons (w1_n 2 rfl nd (en_lst ad_nil (by decide)) ?_)
  refine ws_cut (fun ρ => ∃ x3 x4, ρ = [.dat (natsD row), .dat (.int (n : Int)), .own ((llinks row n).map lkD), x3, x4]) (w1_if (td_gt (ed_v 1 rfl rfl) ed_int) (fun hc => ?_) (fun hc => ?_)) ?_
  · have hc : 0 < n := by
      have := of_decide_eq_true hc
      omega
    have he : llinks row n = (List.range ((row.getD 0 0) % 7 - 3)).map (llink row n) := by unfold llinks; rw [if_pos hc]
    rw [he]
    have hr : ((row.getD 0 0 : Nat) : Int) % 7 - 3 = ((row.getD 0 0) % 7 : Nat) - 3 := by omega
    have htn : (((row.getD 0 0 : Nat) : Int) % 7 - 3).toNat = (row.getD 0 0) % 7 - 3 := by omega
    refine ws_one (w1_for (fun k ρ => ∃ x3 x4, ρ = [.dat (natsD row), .dat (.int (n : Int)), .own (((List.range k).map (llink row n)).map lkD), x3, x4]) (id_range T.range (by decide +kernel) (ed_sub (ed_mod (ed_toInt T.int (by decide +kernel) (ed_ixL (ed_v 0 rfl rfl) ed_int (at_map (i := 0) 0 (by omega)))) ed_int (by decide)) ed_int) (by omega) (by omega)) ⟨_, _, rfl⟩ (fun k d ρ hd hP => ?_) (fun ρ hP => ?_))
    · obtain ⟨x3, x4, rfl⟩ := hP
      obtain ⟨hk, rfl⟩ := rngD_get hd
      rw [htn] at hk
      refine ⟨_, _, gd_n 3 rfl nd, ?_⟩
      have hk3 : k + 1 < row.length := by omega
      refine ws_cons (w1_s 4 rfl nd (ed_ixL (ed_v 0 rfl rfl) (ed_i (n := ((k + 1 : Nat) : Int)) (ed_add (ed_v 3 rfl rfl) ed_int) (by omega)) (at_map 0 hk3)) ?_)
      have hx : row.getD (k + 1) 0 < 10000 := hs _ (by rw [List.getD_eq_getElem?_getD, List.getElem?_eq_getElem hk3]; exact List.getElem_mem hk3)
      rw [range_snoc, List.map_append]
      refine ws_one (w1_append (i := 2) rfl (by decide +kernel) rfl (d := lkD (llink row n k)) (ed_tup (ad_cons (ed_i (ed_mod (ed_toInt T.int (by decide +kernel) (ed_v 4 rfl rfl)) (ed_v 1 rfl rfl) (by omega)) ?_) (ad_cons (ed_i (ed_mod (ed_fdiv (ed_v 4 rfl rfl) ed_int (cd64 (by decide) (by decide))) (ed_v 1 rfl rfl) (by omega)) ?_) (ad_cons (ed_is (ed_eq (ed_mod (ed_fdiv (ed_v 4 rfl rfl) ed_int (cd64 (by decide) (by decide))) ed_int (by decide)) ed_int (.int _ _)) ?_) ad_nil))) len_ok) (by rw [List.length_map, List.length_map, List.length_range]; omega) ⟨_, _, rfl⟩)
      · show ((row.getD (k + 1) 0 : Nat) : Int) % (n : Int) = ((row.getD (k + 1) 0 % n : Nat) : Int)
        rw [Int.natCast_emod]
      · show ((row.getD (k + 1) 0 : Nat) : Int) / 7 % (n : Int) = ((row.getD (k + 1) 0 / 7 % n : Nat) : Int)
        rw [Int.natCast_emod, Int.natCast_ediv]; rfl
      · show D.bl _ = D.bl (decide (row.getD (k + 1) 0 / 49 % 2 = 1))
        rw [dec_of (p := ((row.getD (k + 1) 0 : Nat) : Int) / 49 % 2 = 1) (q := row.getD (k + 1) 0 / 49 % 2 = 1) (by omega)]
    · obtain ⟨x3, x4, rfl⟩ := hP
      exact ⟨x3, x4, by rw [rngD_len, htn]⟩
  · have hc : ¬ 0 < n := by
      have := of_decide_eq_false hc
      omega
    refine ws_nil ⟨.un, .un, ?_⟩
    unfold llinks
    rw [if_neg hc]; rfl
  · rintro ρ ⟨x3, x4, rfl⟩
    exact ws_freeze 2 (ws_one (w1_ret (ed_v 2 rfl rfl) rfl))
def R_lcopy (ds : List D) (d : D) : Prop := ∃ bs : List Buy, ds = [buysD bs] ∧ bs.length ≤ 100 ∧ d = buysD bs
theorem has_lcopy {M : Mo} (T : Tx M) (F : Df M "_law_copy" s_l_copy ["_law_buys_here"]) : Has M 1 "_law_copy" R_lcopy := by
  refine F.has sc_l_copy (fun ds d h => by obtain ⟨p, rfl, _⟩ := h; rfl) fun ds d h => ?_
  obtain ⟨bs, rfl, hl, rfl⟩ := h
  have nd := sc_l_copy.nd
  exact ws_one (w1_ret (en_map buyD [("_law_prices", 1), ("_law_amounts", 2)] nd (id_list (ed_v 0 rfl rfl)) (fun i x hx => ⟨_, gd_tup (tgd_cons (gd_n 1 rfl nd) (tgd_cons (gd_n 2 rfl nd) tgd_nil)), ed_tup (ad_cons (en_list T.list (by decide +kernel) (ed_v 1 rfl rfl)).ed (ad_cons (en_list T.list (by decide +kernel) (ed_v 2 rfl rfl)).ed ad_nil)) len_ok⟩) (by omega)).ed rfl)
end BB
set_option linter.all false
namespace BB
def setT (T : Tb) (i j : Nat) (v : Option Bool) : Tb := T.set i ((T.getD i []).set j v)
def diagF (T : Tb) (i : Nat) : Tb := setT T i i (some (tb T i i == some true))
def clos1 (k i : Nat) (T : Tb) (j : Nat) : Tb :=
  match tb T i k, tb T k j with
  | some a, some b => setT T i j (some (tb T i j == some true || (a || b)))
  | _, _ => T
def closI (n k : Nat) (T : Tb) (i : Nat) : Tb := (List.range n).foldl (clos1 k i) T
def closK (n : Nat) (T : Tb) (k : Nat) : Tb := (List.range n).foldl (closI n k) T
def closT (n : Nat) (T : Tb) (_ : Nat) : Tb := (List.range n).foldl (closK n) T
def lleads (T : Tb) : Tb := (List.range (2 * T.length + 1)).foldl (closT T.length) ((List.range T.length).foldl diagF T)
def Sq (n : Nat) (T : Tb) : Prop := T.length = n ∧ ∀ r ∈ T, r.length = n
theorem Sq.row {n : Nat} {T : Tb} (h : Sq n T) {i : Nat} (hi : i < n) : (T.getD i []).length = n := by
  have h1 := h.1
  refine h.2 _ ?_
  rw [List.getD_eq_getElem?_getD, List.getElem?_eq_getElem (by omega)]; exact List.getElem_mem _
theorem Sq.set {n : Nat} {T : Tb} (h : Sq n T) (i j : Nat) (v : Option Bool) : Sq n (setT T i j v) := by
  unfold setT
  refine ⟨by rw [List.length_set]; exact h.1, fun r hr => ?_⟩
  by_cases hi : i < T.length
  · rcases List.mem_or_eq_of_mem_set hr with hr | rfl
    · exact h.2 r hr
    · rw [List.length_set]; exact h.row (by have := h.1; omega)
  · rw [List.set_eq_of_length_le (by omega)] at hr
    exact h.2 r hr
theorem getD_set_self {α : Type} (l : List α) (i : Nat) (x z : α) (h : i < l.length) : (l.set i x).getD i z = x := by
  rw [List.getD_eq_getElem?_getD, List.getElem?_set_self h]; rfl
theorem getD_set_ne {α : Type} (l : List α) (i k : Nat) (x z : α) (h : i ≠ k) : (l.set i x).getD k z = l.getD k z := by
  rw [List.getD_eq_getElem?_getD, List.getElem?_set_ne h, List.getD_eq_getElem?_getD]
theorem tb_set {n : Nat} {T : Tb} (h : Sq n T) {i j : Nat} (hi : i < n) (hj : j < n) (v : Option Bool) (a b : Nat) : tb (setT T i j v) a b = if a = i ∧ b = j then v else tb T a b := by
  unfold tb setT
  have h1 := h.1
  have h2 := h.row hi
  by_cases ha : a = i
  · subst ha
    rw [getD_set_self _ _ _ _ (by omega)]
    by_cases hb : b = j
    · subst hb
      rw [if_pos ⟨rfl, rfl⟩, getD_set_self _ _ _ _ (by omega)]
    · rw [if_neg (fun z => hb z.2), getD_set_ne _ _ _ _ _ (fun z => hb z.symm)]
  · rw [if_neg (fun z => ha z.1), getD_set_ne _ _ _ _ _ (fun z => ha z.symm)]
theorem Sq.diag {n : Nat} {T : Tb} (h : Sq n T) (i : Nat) : Sq n (diagF T i) := h.set i i _
theorem Sq.clos1 {n : Nat} {T : Tb} (h : Sq n T) (k i j : Nat) : Sq n (clos1 k i T j) := by
  unfold BB.clos1
  split
  · exact h.set _ _ _
  · exact h
theorem Sq.fold {n : Nat} {f : Tb → Nat → Tb} (hf : ∀ T i, Sq n T → Sq n (f T i)) : ∀ (l : List Nat) {T : Tb}, Sq n T → Sq n (l.foldl f T)
  | [], _, h => h
  | x :: l, _, h => Sq.fold hf l (hf _ x h)
theorem Sq.closI {n : Nat} {T : Tb} (h : Sq n T) (m k i : Nat) : Sq n (closI m k T i) := Sq.fold (fun T j h => h.clos1 k i j) _ h
theorem Sq.closK {n : Nat} {T : Tb} (h : Sq n T) (m k : Nat) : Sq n (closK m T k) := Sq.fold (fun T i h => h.closI m k i) _ h
theorem Sq.closT {n : Nat} {T : Tb} (h : Sq n T) (m t : Nat) : Sq n (closT m T t) := Sq.fold (fun T k h => h.closK m k) _ h
theorem Sq.lleads {n : Nat} {T : Tb} (h : Sq n T) : Sq n (lleads T) := Sq.fold (fun T t h => h.closT _ t) _ (Sq.fold (fun T i h => h.diag i) _ h)
theorem Sq.table (d : Dt) : Sq d.n (table d) := by
  refine ⟨by unfold BB.table; rw [List.length_map, List.length_range], fun r hr => ?_⟩
  unfold BB.table at hr
  obtain ⟨i, _, rfl⟩ := List.mem_map.mp hr
  rw [List.length_map, List.length_range]
theorem Sq.leads (d : Dt) : Sq d.n (leads d) := by
  refine ⟨by unfold BB.leads; rw [List.length_map, List.length_range], fun r hr => ?_⟩
  unfold BB.leads at hr
  obtain ⟨i, _, rfl⟩ := List.mem_map.mp hr
  rw [List.length_map, List.length_range]
theorem getD_range_map {α : Type} {n : Nat} (f : Nat → α) (z : α) {i : Nat} (hi : i < n) : ((List.range n).map f).getD i z = f i := by
  rw [List.getD_eq_getElem?_getD, List.getElem?_map, List.getElem?_range hi]; rfl
theorem tb_range {n : Nat} (f : Nat → Nat → Option Bool) {i j : Nat} (hi : i < n) (hj : j < n) : tb ((List.range n).map fun i => (List.range n).map fun j => f i j) i j = f i j := by
  unfold tb
  rw [getD_range_map _ [] hi, getD_range_map _ none hj]
theorem Sq.ext {n : Nat} {T U : Tb} (h : Sq n T) (g : Sq n U) (e : ∀ i j, i < n → j < n → tb T i j = tb U i j) : T = U := by
  refine List.ext_getElem? fun i => ?_
  by_cases hi : i < n
  · have h1 := h.1
    have g1 := g.1
    have hr := h.row hi
    have gr := g.row hi
    rw [List.getElem?_eq_getElem (by omega), List.getElem?_eq_getElem (by omega)]
    have e1 : T.getD i [] = T[i]'(by omega) := by rw [List.getD_eq_getElem?_getD, List.getElem?_eq_getElem (by omega)]; rfl
    have e2 : U.getD i [] = U[i]'(by omega) := by rw [List.getD_eq_getElem?_getD, List.getElem?_eq_getElem (by omega)]; rfl
    rw [← e1, ← e2]
    congr 1
    refine List.ext_getElem? fun j => ?_
    by_cases hj : j < n
    · have := e i j hi hj
      unfold tb at this
      rw [List.getD_eq_getElem?_getD (l := T.getD i []), List.getD_eq_getElem?_getD (l := U.getD i []), List.getElem?_eq_getElem (by omega), List.getElem?_eq_getElem (by omega)] at this
      rw [List.getElem?_eq_getElem (by omega), List.getElem?_eq_getElem (by omega)]
      exact congrArg some this
    · rw [List.getElem?_eq_none (by omega), List.getElem?_eq_none (by omega)]
  · rw [List.getElem?_eq_none (by have := h.1; omega), List.getElem?_eq_none (by have := g.1; omega)]
def SV (a b : Qt) : Prop := a.1 * b.2 = b.1 * a.2 ∧ 0 < a.2 ∧ 0 < b.2
def ChOk (d : Dt) (c : List Nat) (s : Bool) : Prop := c ≠ [] ∧ c.length ≤ 100 ∧ (∀ x ∈ c, x < d.n) ∧ (∀ k, k + 1 < c.length → (stepF d (c.getD k 0) (c.getD (k + 1) 0)).isSome = true) ∧ s = (List.range (c.length - 1)).any fun k => stepF d (c.getD k 0) (c.getD (k + 1) 0) == some true
end BB
set_option Elab.async false
set_option linter.all false
set_option maxRecDepth 100000
set_option maxHeartbeats 4000000
namespace BB
open PySem PySem.Spec PyProof.Rows L2
structure LDtOk (d : Dt) : Prop where
  n : d.n ≤ 100
  l : d.links.length ≤ 100
  dot : ∀ i j, i < d.n → j < d.n → LDotOk (d.pr i) (d.am j)
  v : ∀ i j k, i < d.n → j < d.n → k < d.n → qless (ldot (d.pr i) (d.am j)) (ldot (d.pr i) (d.am k)) = qless (cst d i j) (cst d i k)
theorem LDtOk.ok {d : Dt} (h : LDtOk d) {i j : Nat} (hi : i < d.n) (hj : j < d.n) : OkL (ldot (d.pr i) (d.am j)) := (h.dot i j hi hj).t _ (Nat.le_refl _)
theorem qatm_less (a b : Qt) : qatm a b = !qless b a := by
  unfold qatm qless
  by_cases h : a.1 * b.2 ≤ b.1 * a.2
  · rw [decide_eq_true h, decide_eq_false (by omega)]; rfl
  · rw [decide_eq_false h, decide_eq_true (by omega)]; rfl
def R_lstep (ds : List D) (d : D) : Prop := ∃ (dt : Dt) (i j : Nat), ds = [buysD dt.buys, lksD dt.links, .int (i : Int), .int (j : Int)] ∧ i < dt.n ∧ j < dt.n ∧ LDtOk dt ∧ d = obD (stepF dt i j)
theorem has_lstep {M : Mo} (T : Tx M) (F : Df M "_law_step" s_l_step ["_law_buys_here", "_law_links_here", "_law_i", "_law_j"]) (Hdot : Has M 2 "_law_dot" R_ldot) (Hb : Has M 1 "_law_below" (R_lbin fun a b => .bl (qless a b))) : Has M 3 "_law_step" R_lstep := by
  refine F.has sc_l_step (fun ds d h => by obtain ⟨p, q, r, rfl, _⟩ := h; rfl) fun ds d h => ?_
  obtain ⟨dt, i, j, rfl, hi, hj, ok, rfl⟩ := h
  have nd := sc_l_step.nd
  refine ws_cons (w1_s 4 rfl nd ed_non ?_)
  refine ws_cut (fun ρ => ∃ x5 x6 r, ρ = [.dat (buysD dt.buys), .dat (lksD dt.links), .dat (.int (i : Int)), .dat (.int (j : Int)), .dat (obD r), x5, x6, .un, .un, .un] ∧ r = step0 dt i j) (w1_if (td_ne (ed_v 2 rfl rfl) (ed_v 3 rfl rfl) (.int _ _)) (fun hc => ?_) (fun hc => ?_)) ?_
  · have hij : i ≠ j := by
      rw [dec_nat] at hc
      simpa using hc
    refine ws_cons (w1_s 5 rfl nd (ed_call Hdot (by decide) (by decide +kernel) (ad_cons (ed_ixT (ed_ixL (ed_v 0 rfl rfl) (ed_v 2 rfl rfl) (at_map ([], []) hi)) ed_int rfl) (ad_cons (ed_ixT (ed_ixL (ed_v 0 rfl rfl) (ed_v 3 rfl rfl) (at_map ([], []) hj)) ed_int rfl) ad_nil)) ⟨_, _, rfl, ok.dot i j hi hj, rfl⟩) ?_)
    refine ws_cons (w1_s 6 rfl nd (ed_call Hdot (by decide) (by decide +kernel) (ad_cons (ed_ixT (ed_ixL (ed_v 0 rfl rfl) (ed_v 2 rfl rfl) (at_map ([], []) hi)) ed_int rfl) (ad_cons (ed_ixT (ed_ixL (ed_v 0 rfl rfl) (ed_v 2 rfl rfl) (at_map ([], []) hi)) ed_int rfl) ad_nil)) ⟨_, _, rfl, ok.dot i i hi hi, rfl⟩) ?_)
    have e1 := ok.v i i j hi hi hj
    have e2 := ok.v i j i hi hj hi
    refine ws_one (w1_if (bb := qatm (cst dt i j) (spt dt i)) (td_is (td_not (td_val (ed_call Hb (by decide) (by decide +kernel) (ad_cons (ed_v 6 rfl rfl) (ad_cons (ed_v 5 rfl rfl) ad_nil)) ⟨_, _, rfl, ok.ok hi hi, ok.ok hi hj, rfl⟩) fun _ _ => rfl)) (by rw [qatm_less]; exact congrArg not e1)) (fun hc => ?_) (fun hc => ?_))
    · refine ws_one (w1_s 4 rfl nd (ed_call Hb (by decide) (by decide +kernel) (ad_cons (ed_v 5 rfl rfl) (ad_cons (ed_v 6 rfl rfl) ad_nil)) ⟨_, _, rfl, ok.ok hi hj, ok.ok hi hi, rfl⟩) ?_)
      refine ⟨.dat (qD (ldot (dt.pr i) (dt.am j))), .dat (qD (ldot (dt.pr i) (dt.am i))), some (qless (cst dt i j) (spt dt i)), ?_, (by unfold step0; rw [if_neg hij, if_pos hc])⟩
      show [_, _, _, _, Sl.dat (D.bl (qless (ldot (dt.pr i) (dt.am j)) (ldot (dt.pr i) (dt.am i)))), _, _, _, _, _] = _
      rw [e2]; rfl
    · exact ws_nil ⟨_, _, none, rfl, (by unfold step0; rw [if_neg hij, if_neg (by rw [hc]; decide)])⟩
  · have hij : i = j := by
      rw [dec_nat] at hc
      simpa using hc
    exact ws_nil ⟨_, _, none, rfl, (by unfold step0; rw [if_pos hij])⟩
  · rintro ρ ⟨x5, x6, r, rfl, rfl⟩
    refine ws_cons (w1_for (fun k ρ => ∃ x5 x6 x7 x8 x9, ρ = [.dat (buysD dt.buys), .dat (lksD dt.links), .dat (.int (i : Int)), .dat (.int (j : Int)), .dat (obD ((dt.links.take k).foldl (lk1 i j) (step0 dt i j))), x5, x6, x7, x8, x9]) (id_list (ed_v 1 rfl rfl)) ⟨_, _, _, _, _, rfl⟩ (fun k d ρ hd hP => ?_) (fun ρ hP => ?_))
    · obtain ⟨x5, x6, x7, x8, x9, rfl⟩ := hP
      obtain ⟨l, hl, rfl⟩ := mapGet hd
      refine ⟨_, _, gd_tup (tgd_cons (gd_n 7 rfl nd) (tgd_cons (gd_n 8 rfl nd) (tgd_cons (gd_n 9 rfl nd) tgd_nil))), ?_⟩
      rw [foldl_take _ _ _ _ _ hl]
      generalize (dt.links.take k).foldl (lk1 i j) (step0 dt i j) = r
      refine ws_one (w1_if (tv_and (td_eq (ed_v 7 rfl rfl) (ed_v 2 rfl rfl) (.int _ _)) fun _ => (tv_and1 (td_eq (ed_v 8 rfl rfl) (ed_v 3 rfl rfl) (.int _ _)))).td (fun hc => ?_) (fun hc => ?_))
      · rw [dec_nat, dec_nat, Bool.and_eq_true, decide_eq_true_eq, decide_eq_true_eq] at hc
        refine ws_one (w1_s 4 rfl nd (ed_or (ed_isT (ed_v 4 rfl rfl) (obD_nb r)) fun _ => (ed_one (ed_v 9 rfl rfl))) ?_)
        refine ⟨x5, x6, .dat (.int (l.1 : Int)), .dat (.int (l.2.1 : Int)), .dat (.bl l.2.2), ?_⟩
        rw [obD_isT]
        unfold lk1
        rw [if_pos hc]; rfl
      · rw [dec_nat, dec_nat] at hc
        have hn : ¬ (l.1 = i ∧ l.2.1 = j) := fun z => by rw [decide_eq_true z.1, decide_eq_true z.2] at hc; cases hc
        refine ws_nil ⟨x5, x6, .dat (.int (l.1 : Int)), .dat (.int (l.2.1 : Int)), .dat (.bl l.2.2), ?_⟩
        unfold lk1
        rw [if_neg hn]; rfl
    · obtain ⟨x5, x6, x7, x8, x9, rfl⟩ := hP
      refine ws_one (w1_ret (ed_v 4 rfl rfl) ?_)
      show obD _ = obD _
      rw [List.length_map, List.take_length]; rfl
abbrev matR (T : Tb) : List (List D) := T.map fun r => r.map obD
theorem mat_at {n : Nat} {T : Tb} (h : Sq n T) {i j : Nat} (hi : i < n) (hj : j < n) : atI ((matR T).map D.lst) (i : Int) = some (rowD (T.getD i [])) ∧ atI ((T.getD i []).map obD) (j : Int) = some (obD (tb T i j)) := by
  refine ⟨?_, at_map none (by rw [h.row hi]; exact hj)⟩
  have h1 := h.1
  have := at_map (xs := T) (f := rowD) (i := i) [] (by omega)
  rw [show (matR T).map D.lst = T.map rowD by unfold matR; rw [List.map_map]; rfl]
  exact this
theorem mat_get {n : Nat} {T : Tb} (h : Sq n T) {i : Nat} (hi : i < n) : (matR T)[i]? = some ((T.getD i []).map obD) := by
  have h1 := h.1
  unfold matR
  rw [List.getElem?_map, List.getD_eq_getElem?_getD, List.getElem?_eq_getElem (by omega)]; rfl
theorem mat_set (T : Tb) (i j : Nat) (v : Option Bool) : (matR T).set i (((T.getD i []).map obD).set j (obD v)) = matR (setT T i j v) := by
  unfold matR setT
  rw [set_map obD]
  exact List.map_set.symm
def R_lleads (ds : List D) (d : D) : Prop := ∃ dt : Dt, ds = [buysD dt.buys, lksD dt.links] ∧ LDtOk dt ∧ d = tabD (lleads (table dt))
theorem has_lleads {M : Mo} (T : Tx M) (F : Df M "_law_leads" s_l_leads ["_law_buys_here", "_law_links_here"]) (Hstep : Has M 3 "_law_step" R_lstep) : Has M 4 "_law_leads" R_lleads := by
  refine F.has sc_l_leads (fun ds d h => by obtain ⟨p, rfl, _⟩ := h; rfl) fun ds d h => ?_
  obtain ⟨dt, rfl, ok, rfl⟩ := h
  have nd := sc_l_leads.nd
  have hn := ok.n
  refine ws_cons (w1_s 2 rfl nd (ed_i (n := (dt.n : Int)) (ed_lenL T.len (by decide +kernel) (ed_v 0 rfl rfl)) (by rw [List.length_map]; rfl)) ?_)
  refine ws_cons (w1_newMat (rows := fun i => (List.range dt.n).map fun j => obD (stepF dt i j)) (is := [5]) [("_law_i", 5)] (j := 3) rfl nd (by decide +kernel) rfl (by decide +kernel) (id_rangeN T.range (ed_v 2 rfl rfl) (by omega)) (fun i d hd => ?_) (fun _ h => h) (by rw [List.length_map, List.length_range]; omega) ?_)
  · obtain ⟨x, hx, rfl⟩ := mapGet hd
    obtain ⟨rfl, hi⟩ := range_get hx
    refine ⟨_, gd_n 5 rfl nd, en_map (fun j => obD (stepF dt x j)) [("_law_j", 4)] nd (id_rangeN T.range (ed_v 2 rfl rfl) (by omega)) (fun j y hy => ?_) (by rw [List.length_range]; omega)⟩
    obtain ⟨rfl, hj⟩ := range_get hy
    exact ⟨_, gd_n 4 rfl nd, ed_call Hstep (by decide) (by decide +kernel) (ad_cons (ed_v 0 rfl rfl) (ad_cons (ed_v 1 rfl rfl) (ad_cons (ed_v 5 rfl rfl) (ad_cons (ed_v 4 rfl rfl) ad_nil)))) ⟨dt, x, y, rfl, hi, hj, ok, rfl⟩⟩
  have hm : (List.range (rnD dt.n).length).map (fun i => (List.range dt.n).map fun j => obD (stepF dt i j)) = matR (table dt) := by
    unfold matR table
    rw [List.map_map, List.length_map, List.length_range]
    refine List.map_congr_left fun i _ => ?_
    show _ = ((List.range dt.n).map fun j => stepF dt i j).map obD
    rw [List.map_map]; rfl
  show WS _ _ _ [_, _, _, .mat ((List.range (rnD dt.n).length).map (fun i => (List.range dt.n).map fun j => obD (stepF dt i j))), _, _, _, _, _]
  rw [hm]
  have sq := Sq.table dt
  have hE : lleads (table dt) = (List.range (2 * dt.n + 1)).foldl (closT dt.n) ((List.range dt.n).foldl diagF (table dt)) := by unfold lleads; rw [sq.1]
  rw [hE]
  clear hE hm
  revert sq
  generalize table dt = tt
  intro sq
  refine ws_cons (w1_for (fun i ρ => ∃ x4 x5 x6 x7 x8, ρ = [.dat (buysD dt.buys), .dat (lksD dt.links), .dat (.int (dt.n : Int)), .mat (matR ((List.range i).foldl diagF tt)), x4, x5, x6, x7, x8]) (id_range T.range (by decide +kernel) (ed_v 2 rfl rfl) (by omega) (by omega)) ⟨_, _, _, _, _, rfl⟩ (fun i d ρ hd hP => ?_) (fun ρ hP => ?_))
  · obtain ⟨x4, x5, x6, x7, x8, rfl⟩ := hP
    obtain ⟨hi, rfl⟩ := rngD_get hd
    rw [Int.toNat_natCast] at hi
    refine ⟨_, _, gd_n 5 rfl nd, ?_⟩
    have sq1 := Sq.fold (fun T i h => h.diag i) (List.range i) sq
    rw [foldl_range]
    revert sq1
    generalize (List.range i).foldl diagF tt = U
    intro sq1
    have ha := mat_at sq1 hi hi
    refine ws_one (w1_setMat (j := 3) rfl (by decide +kernel) rfl (lend_ed (ed_isT (ed_ixL (ed_ixL (ed_v 3 rfl rfl) (ed_v 5 rfl rfl) ha.1) (ed_v 5 rfl rfl) ha.2) (obD_nb _)) rfl) (ed_v 5 rfl rfl) (ed_v 5 rfl rfl) rfl rfl (mat_get sq1 hi) (by rw [List.length_map, sq1.row hi]; exact hi) ⟨x4, .dat (.int (i : Int)), x6, x7, x8, ?_⟩)
    rw [obD_isT, show D.bl (tb U i i == some true) = obD (some (tb U i i == some true)) from rfl, mat_set]
    rfl
  · obtain ⟨x4, x5, x6, x7, x8, rfl⟩ := hP
    rw [rngD_len, Int.toNat_natCast]
    have sq1 := Sq.fold (fun T i h => h.diag i) (List.range dt.n) sq
    revert sq1
    generalize (List.range dt.n).foldl diagF tt = U
    intro sq1
    have htn : (2 * (dt.n : Int) + 1).toNat = 2 * dt.n + 1 := by omega
    refine ws_cons (w1_for (fun t ρ => ∃ x4 x5 x6 x7 x8, ρ = [.dat (buysD dt.buys), .dat (lksD dt.links), .dat (.int (dt.n : Int)), .mat (matR ((List.range t).foldl (closT dt.n) U)), x4, x5, x6, x7, x8]) (id_range T.range (by decide +kernel) (ed_add (ed_mul ed_int (ed_v 2 rfl rfl) (cm64 (by decide) (by omega))) ed_int) (by omega) (by omega)) ⟨_, _, _, _, _, rfl⟩ (fun t d ρ hd hP => ?_) (fun ρ hP => ?_))
    · obtain ⟨x4, x5, x6, x7, x8, rfl⟩ := hP
      obtain ⟨ht, rfl⟩ := rngD_get hd
      refine ⟨_, _, gd_n 6 rfl nd, ?_⟩
      have sq2 := Sq.fold (fun T i h => h.closT dt.n i) (List.range t) sq1
      rw [foldl_range]
      revert sq2
      generalize (List.range t).foldl (closT dt.n) U = V
      intro sq2
      refine ws_one (w1_for (fun k ρ => ∃ x4 x5 x6 x7 x8, ρ = [.dat (buysD dt.buys), .dat (lksD dt.links), .dat (.int (dt.n : Int)), .mat (matR ((List.range k).foldl (closK dt.n) V)), x4, x5, x6, x7, x8]) (id_range T.range (by decide +kernel) (ed_v 2 rfl rfl) (by omega) (by omega)) ⟨_, _, _, _, _, rfl⟩ (fun k d ρ hd hP => ?_) (fun ρ hP => ?_))
      · obtain ⟨x4, x5, x6, x7, x8, rfl⟩ := hP
        obtain ⟨hk, rfl⟩ := rngD_get hd
        rw [Int.toNat_natCast] at hk
        refine ⟨_, _, gd_n 7 rfl nd, ?_⟩
        have sq3 := Sq.fold (fun T i h => h.closK dt.n i) (List.range k) sq2
        rw [foldl_range]
        revert sq3
        generalize (List.range k).foldl (closK dt.n) V = V2
        intro sq3
        refine ws_one (w1_for (fun i ρ => ∃ x4 x5 x6 x8, ρ = [.dat (buysD dt.buys), .dat (lksD dt.links), .dat (.int (dt.n : Int)), .mat (matR ((List.range i).foldl (closI dt.n k) V2)), x4, x5, x6, .dat (.int (k : Int)), x8]) (id_range T.range (by decide +kernel) (ed_v 2 rfl rfl) (by omega) (by omega)) ⟨_, _, _, _, rfl⟩ (fun i d ρ hd hP => ?_) (fun ρ hP => ?_))
        · obtain ⟨x4, x5, x6, x8, rfl⟩ := hP
          obtain ⟨hi, rfl⟩ := rngD_get hd
          rw [Int.toNat_natCast] at hi
          refine ⟨_, _, gd_n 5 rfl nd, ?_⟩
          have sq4 := Sq.fold (fun T i h => h.closI dt.n k i) (List.range i) sq3
          rw [foldl_range]
          revert sq4
          generalize (List.range i).foldl (closI dt.n k) V2 = V3
          intro sq4
          refine ws_one (w1_for (fun j ρ => ∃ x4 x6 x8, ρ = [.dat (buysD dt.buys), .dat (lksD dt.links), .dat (.int (dt.n : Int)), .mat (matR ((List.range j).foldl (clos1 k i) V3)), x4, .dat (.int (i : Int)), x6, .dat (.int (k : Int)), x8]) (id_range T.range (by decide +kernel) (ed_v 2 rfl rfl) (by omega) (by omega)) ⟨_, _, _, rfl⟩ (fun j d ρ hd hP => ?_) (fun ρ hP => ?_))
          · obtain ⟨x4, x6, x8, rfl⟩ := hP
            obtain ⟨hj, rfl⟩ := rngD_get hd
            rw [Int.toNat_natCast] at hj
            refine ⟨_, _, gd_n 4 rfl nd, ?_⟩
            have sq5 := Sq.fold (fun T j h => h.clos1 k i j) (List.range j) sq4
            rw [foldl_range]
            revert sq5
            generalize (List.range j).foldl (clos1 k i) V3 = V4
            intro sq5
            have a1 := mat_at sq5 hi hk
            have a2 := mat_at sq5 hk hj
            have a3 := mat_at sq5 hi hj
            have e : clos1 k i V4 j = (match tb V4 i k, tb V4 k j with | some a, some b => setT V4 i j (some (tb V4 i j == some true || (a || b))) | _, _ => V4) := rfl
            rw [e]
            clear e
            revert a1 a2
            generalize tb V4 i k = oa
            generalize tb V4 k j = ob
            intro a1 a2
            cases oa with
            | none => exact ws_one (w1_if (lend_td (tv_andF (td_is (td_notN (ed_ixL (ed_ixL (ed_v 3 rfl rfl) (ed_v 5 rfl rfl) a1.1) (ed_v 7 rfl rfl) a1.2)) rfl)).td) (fun hc => by cases hc) (fun hc => ws_nil ⟨_, _, _, rfl⟩))
            | some va =>
              cases ob with
              | none => exact ws_one (w1_if (bb := false) (lend_td (td_is (tv_and (td_notN (ed_ixL (ed_ixL (ed_v 3 rfl rfl) (ed_v 5 rfl rfl) a1.1) (ed_v 7 rfl rfl) a1.2)) fun _ => (tv_and1 (td_notN (ed_ixL (ed_ixL (ed_v 3 rfl rfl) (ed_v 7 rfl rfl) a2.1) (ed_v 4 rfl rfl) a2.2)))).td rfl)) (fun hc => by cases hc) (fun hc => ws_nil ⟨_, _, _, rfl⟩))
              | some vb =>
                refine ws_one (w1_if (bb := true) (lend_td (td_is (tv_and (td_notN (ed_ixL (ed_ixL (ed_v 3 rfl rfl) (ed_v 5 rfl rfl) a1.1) (ed_v 7 rfl rfl) a1.2)) fun _ => (tv_and1 (td_notN (ed_ixL (ed_ixL (ed_v 3 rfl rfl) (ed_v 7 rfl rfl) a2.1) (ed_v 4 rfl rfl) a2.2)))).td rfl)) (fun hc => ?_) (fun hc => by cases hc))
                refine ws_cons (w1_s 8 rfl nd (lend_ed (ed_or (ed_ixL (ed_ixL (ed_v 3 rfl rfl) (ed_v 5 rfl rfl) a1.1) (ed_v 7 rfl rfl) a1.2) fun _ => (ed_one (ed_ixL (ed_ixL (ed_v 3 rfl rfl) (ed_v 7 rfl rfl) a2.1) (ed_v 4 rfl rfl) a2.2))) rfl) ?_)
                refine ws_one (w1_setMat (j := 3) rfl (by decide +kernel) rfl (lend_ed (ed_or (ed_isT (ed_ixL (ed_ixL (ed_v 3 rfl rfl) (ed_v 5 rfl rfl) a3.1) (ed_v 4 rfl rfl) a3.2) (obD_nb _)) fun _ => (ed_one (ed_v 8 rfl rfl))) rfl) (ed_v 5 rfl rfl) (ed_v 4 rfl rfl) rfl rfl (mat_get sq5 hi) (by rw [List.length_map, sq5.row hi]; exact hj) ⟨.dat (.int (j : Int)), x6, .dat (.bl (va || vb)), ?_⟩)
                rw [obD_isT, show D.bl ((tb V4 i j == some true) || (va || vb)) = obD (some ((tb V4 i j == some true) || (va || vb))) from rfl, mat_set]
                rfl
          · obtain ⟨x4, x6, x8, rfl⟩ := hP
            rw [rngD_len, Int.toNat_natCast]
            exact ⟨x4, .dat (.int (i : Int)), x6, x8, rfl⟩
        · obtain ⟨x4, x5, x6, x8, rfl⟩ := hP
          rw [rngD_len, Int.toNat_natCast]
          exact ⟨x4, x5, x6, .dat (.int (k : Int)), x8, rfl⟩
      · obtain ⟨x4, x5, x6, x7, x8, rfl⟩ := hP
        rw [rngD_len, Int.toNat_natCast]
        exact ⟨x4, x5, x6, x7, x8, rfl⟩
    · obtain ⟨x4, x5, x6, x7, x8, rfl⟩ := hP
      rw [rngD_len, htn]
      refine ws_freeze 3 (ws_one (w1_ret (ed_v 3 rfl rfl) ?_))
      show D.lst _ = D.lst _
      unfold matR
      rw [List.map_map]; rfl
end BB
set_option Elab.async false
set_option linter.all false
set_option maxRecDepth 100000
set_option maxHeartbeats 4000000
namespace BB
open PySem PySem.Spec PyProof.Rows L2
def R_hasring (ds : List D) (d : D) : Prop := ∃ T : Tb, ds = [tabD T] ∧ SqTb T ∧ d = .bl ((List.range T.length).any fun i => tb T i i == some true)
theorem has_hasring {M : Mo} (T : Tx M) (F : Df M "_law_has_ring" s_l_has_ring ["_law_table"]) : Has M 1 "_law_has_ring" R_hasring := by
  refine F.has sc_l_has_ring (fun ds d h => by obtain ⟨p, rfl, _⟩ := h; rfl) fun ds d h => ?_
  obtain ⟨tt, rfl, sq, rfl⟩ := h
  have nd := sc_l_has_ring.nd
  have hn := sq.1
  refine ws_cons (w1_for (fun i ρ => (List.range i).any (fun i => tb tt i i == some true) = false ∧ ∃ x1, ρ = [.dat (tabD tt), x1]) (id_range T.range (by decide +kernel) (ed_lenL T.len (by decide +kernel) (ed_v 0 rfl rfl)) (by omega) (by rw [List.length_map]; omega)) ⟨rfl, _, rfl⟩ (fun i d ρ hd hP => ?_) (fun ρ hP => ?_))
  · obtain ⟨hno, x1, rfl⟩ := hP
    obtain ⟨hi, rfl⟩ := rngD_get hd
    rw [List.length_map, Int.toNat_natCast] at hi
    refine ⟨_, _, gd_n 1 rfl nd, ?_⟩
    have a := tb_at sq hi hi
    refine ws_one (w1_if (bb := (tb tt i i == some true)) (td_is (td_isT (ed_ixL (ed_ixL (ed_v 0 rfl rfl) (ed_v 1 rfl rfl) a.1) (ed_v 1 rfl rfl) a.2) (obD_nb _)) (obD_isT _)) (fun hc => ?_) (fun hc => ?_))
    · refine ws_one (w1_ret ed_bl ?_)
      rw [show ((List.range tt.length).any fun i => tb tt i i == some true) = true from List.any_eq_true.mpr ⟨i, List.mem_range.mpr hi, hc⟩]
    · refine ws_nil ⟨?_, _, rfl⟩
      rw [any_snoc, hno, hc]; rfl
  · obtain ⟨hno, x1, rfl⟩ := hP
    rw [rngD_len, List.length_map, Int.toNat_natCast] at hno
    refine ws_one (w1_ret ed_bl ?_)
    rw [hno]
def R_lchain (ds : List D) (d : D) : Prop := ∃ (dt : Dt) (c : List Nat) (s : Bool), ds = [buysD dt.buys, lksD dt.links, natsD c] ∧ LDtOk dt ∧ ChOk dt c s ∧ d = .bl s
theorem has_lchain {M : Mo} (T : Tx M) (F : Df M "_law_chain" s_l_chain ["_law_buys_here", "_law_links_here", "_law_chain_here"]) (Hint : Has M 1 "_law_is_integer" R_isint) (Hstep : Has M 3 "_law_step" R_lstep) : Has M 4 "_law_chain" R_lchain := by
  refine F.has sc_l_chain (fun ds d h => by obtain ⟨p, q, r, rfl, _⟩ := h; rfl) fun ds d h => ?_
  obtain ⟨dt, c, s, rfl, ok, ⟨hne, hcl, hlt, hst, hs⟩, rfl⟩ := h
  have nd := sc_l_chain.nd
  have hpos : 0 < c.length := List.length_pos_iff.mpr hne
  refine ws_cons (w1_if (bb := false) (td_is (tv_or (td_not (td_val (ed_isa "list" true T.isi T.list (ed_v 2 rfl rfl)) fun _ _ => rfl)) fun _ => (tv_or1 (td_eq (ed_lenL T.len (by decide +kernel) (ed_v 2 rfl rfl)) ed_int (.int _ _)))).td (by
    rw [List.length_map, decide_eq_false (by omega)]; rfl)) (fun hc => by cases hc) (fun _ => ws_nil ?_))
  refine ws_cons (w1_for (fun i ρ => ∃ x3, ρ = [.dat (buysD dt.buys), .dat (lksD dt.links), .dat (natsD c), x3, .un, .un, .un]) (id_list (ed_v 2 rfl rfl)) ⟨_, rfl⟩ (fun i d ρ hd hP => ?_) (fun ρ hP => ?_))
  · obtain ⟨x3, rfl⟩ := hP
    obtain ⟨x, hx, rfl⟩ := mapGet hd
    have hx := hlt x (List.mem_of_getElem? hx)
    have hx : x < dt.buys.length := hx
    refine ⟨_, _, gd_n 3 rfl nd, ?_⟩
    exact ws_one (w1_if (bb := false) (td_is (tv_or (td_not (td_val (ed_call Hint (by decide) (by decide +kernel) (ad_cons (ed_v 3 rfl rfl) ad_nil) ⟨_, rfl, rfl⟩) fun _ _ => rfl)) fun _ => (tv_or (td_lt (ed_v 3 rfl rfl) ed_int) fun _ => (tv_or1 (td_ge (ed_v 3 rfl rfl) (ed_lenL T.len (by decide +kernel) (ed_v 0 rfl rfl)))))).td (by
      rw [List.length_map, decide_eq_false (by omega), decide_eq_false (by omega)]; rfl)) (fun hc => by cases hc) (fun _ => ws_nil ⟨_, rfl⟩))
  · obtain ⟨x3, rfl⟩ := hP
    refine ws_cons (w1_s 4 rfl nd ed_bl ?_)
    have htn : ((((c.map fun (n : Nat) => D.int (n : Int)).length : Nat) : Int) - 1).toNat = c.length - 1 := by rw [List.length_map]; omega
    refine ws_cons (w1_for (fun i ρ => ∃ x5 x6, ρ = [.dat (buysD dt.buys), .dat (lksD dt.links), .dat (natsD c), x3, .dat (.bl ((List.range i).any fun k => stepF dt (c.getD k 0) (c.getD (k + 1) 0) == some true)), x5, x6]) (id_range T.range (by decide +kernel) (ed_sub (ed_lenL T.len (by decide +kernel) (ed_v 2 rfl rfl)) ed_int) (by omega) (by rw [List.length_map]; omega)) ⟨_, _, rfl⟩ (fun i d ρ hd hP => ?_) (fun ρ hP => ?_))
    · obtain ⟨x5, x6, rfl⟩ := hP
      obtain ⟨hi, rfl⟩ := rngD_get hd
      rw [htn] at hi
      refine ⟨_, _, gd_n 5 rfl nd, ?_⟩
      have h1 : i < c.length := by omega
      have h2 : i + 1 < c.length := by omega
      have g1 : c.getD i 0 < dt.n := hlt _ (by rw [List.getD_eq_getElem?_getD, List.getElem?_eq_getElem h1]; exact List.getElem_mem h1)
      have g2 : c.getD (i + 1) 0 < dt.n := hlt _ (by rw [List.getD_eq_getElem?_getD, List.getElem?_eq_getElem h2]; exact List.getElem_mem h2)
      refine ws_cons (w1_s 6 rfl nd (ed_call Hstep (by decide) (by decide +kernel) (ad_cons (ed_v 0 rfl rfl) (ad_cons (ed_v 1 rfl rfl) (ad_cons (ed_ixL (ed_v 2 rfl rfl) (ed_v 5 rfl rfl) (at_map 0 h1)) (ad_cons (ed_ixL (ed_v 2 rfl rfl) (ed_i (n := ((i + 1 : Nat) : Int)) (ed_add (ed_v 5 rfl rfl) ed_int) (by omega)) (at_map 0 h2)) ad_nil)))) ⟨dt, _, _, rfl, g1, g2, ok, rfl⟩) ?_)
      obtain ⟨b, hb⟩ := Option.isSome_iff_exists.mp (hst i h2)
      rw [any_snoc]
      show WS _ _ _ [_, _, _, _, _, _, .dat (obD (stepF dt (c.getD i 0) (c.getD (i + 1) 0)))]
      rw [hb]
      generalize (List.range i).any (fun k => stepF dt (c.getD k 0) (c.getD (k + 1) 0) == some true) = acc
      refine ws_cons (w1_if (td_isN (ed_v 6 rfl rfl)) (fun hc => by cases hc) (fun _ => ws_nil ?_))
      refine ws_one (w1_s 4 rfl nd (ed_or (ed_v 4 rfl rfl) fun _ => (ed_one (ed_v 6 rfl rfl))) ⟨.dat (.int (i : Int)), .dat (.bl b), ?_⟩)
      cases b <;> rfl
    · obtain ⟨x5, x6, rfl⟩ := hP
      rw [rngD_len, htn, ← hs]
      exact ws_one (w1_ret (ed_v 4 rfl rfl) rfl)
theorem atI_end (c : List Nat) (h : 0 < c.length) : atI (c.map fun (n : Nat) => D.int (n : Int)) (-1) = some (.int ((c.getD (c.length - 1) 0 : Nat) : Int)) := by
  have e : ixN (c.map fun (n : Nat) => D.int (n : Int)).length (-1) = some (c.length - 1) := by
    unfold ixN
    rw [if_neg (by omega), List.length_map, if_pos (by omega)]
    congr 1; omega
  unfold atI
  rw [e]
  show (c.map fun (n : Nat) => D.int (n : Int))[c.length - 1]? = _
  rw [List.getElem?_map, List.getD_eq_getElem?_getD, List.getElem?_eq_getElem (by omega)]; rfl
def R_isring (ds : List D) (d : D) : Prop := ∃ (dt : Dt) (c : List Nat), ds = [buysD dt.buys, lksD dt.links, natsD c] ∧ LDtOk dt ∧ ChOk dt c true ∧ 1 < c.length ∧ c.getD 0 0 = c.getD (c.length - 1) 0 ∧ d = .bl true
theorem has_isring {M : Mo} (T : Tx M) (F : Df M "_law_is_ring" s_l_is_ring ["_law_buys_here", "_law_links_here", "_law_chain_here"]) (Hchain : Has M 4 "_law_chain" R_lchain) : Has M 5 "_law_is_ring" R_isring := by
  refine F.has sc_l_is_ring (fun ds d h => by obtain ⟨p, q, rfl, _⟩ := h; rfl) fun ds d h => ?_
  obtain ⟨dt, c, rfl, ok, hc, hl, he, rfl⟩ := h
  refine ws_cons (w1_if (td_notT (ed_call Hchain (by decide) (by decide +kernel) (ad_cons (ed_v 0 rfl rfl) (ad_cons (ed_v 1 rfl rfl) (ad_cons (ed_v 2 rfl rfl) ad_nil))) ⟨dt, c, true, rfl, ok, hc, rfl⟩) rfl) (fun hc => by cases hc) (fun _ => ws_nil ?_))
  refine ws_one (w1_ret (ed_and (ed_gt (ed_lenL T.len (by decide +kernel) (ed_v 2 rfl rfl)) ed_int) fun _ => (ed_one (ed_eq (ed_ixL (ed_v 2 rfl rfl) ed_int (at_map (i := 0) 0 (by omega))) (ed_ixL (ed_v 2 rfl rfl) (ed_neg ed_int) (atI_end c (by omega)) (by exact fun _ _ => rfl)) (.int _ _)))) ?_)
  rw [List.length_map, decide_eq_true (by omega), he, decide_eq_true rfl]; rfl
structure LPrOk (dt : Dt) (pr : List Qt) (m : Qt) : Prop where
  dot : ∀ i, i < dt.n → LDotOk pr (dt.am i)
  mo : OkL m
  v : ∀ i, i < dt.n → qless (ldot pr (dt.am i)) m = qless (BB.dot pr (dt.am i)) m
  v2 : ∀ i, i < dt.n → qless m (ldot pr (dt.am i)) = qless m (BB.dot pr (dt.am i))
theorem LPrOk.ok {dt : Dt} {pr : List Qt} {m : Qt} (h : LPrOk dt pr m) {i : Nat} (hi : i < dt.n) : OkL (ldot pr (dt.am i)) := (h.dot i hi).t _ (Nat.le_refl _)
def R_lreached (ds : List D) (d : D) : Prop := ∃ (dt : Dt) (pr : List Qt) (m : Qt), ds = [buysD dt.buys, lksD dt.links, qsD pr, qD m] ∧ LDtOk dt ∧ LPrOk dt pr m ∧ lleads (table dt) = leads dt ∧ d = rowD (reached dt pr m)
theorem has_lreached {M : Mo} (T : Tx M) (F : Df M "_law_reached" s_l_reached ["_law_buys_here", "_law_links_here", "_law_prices", "_law_money"]) (Hleads : Has M 4 "_law_leads" R_lleads) (Hdot : Has M 2 "_law_dot" R_ldot) (Hless : Has M 1 "_law_below" (R_lbin fun a b => .bl (qless a b))) : Has M 5 "_law_reached" R_lreached := by
  refine F.has sc_l_reached (fun ds d h => by obtain ⟨p, q, r, rfl, _⟩ := h; rfl) fun ds d h => ?_
  obtain ⟨dt, pr, m, rfl, ok, pk, cl, rfl⟩ := h
  have nd := sc_l_reached.nd
  have hn := ok.n
  obtain ⟨sq, hsl⟩ := leads_sq hn
  have hl : (List.map buyD dt.buys).length = dt.n := List.length_map ..
  refine ws_cons (w1_s 4 rfl nd (ed_call Hleads (by decide) (by decide +kernel) (ad_cons (ed_v 0 rfl rfl) (ad_cons (ed_v 1 rfl rfl) ad_nil)) ⟨dt, rfl, ok, by rw [cl]⟩) ?_)
  refine ws_cons (w1_map 5 (fun _ => .non) [("_law_buy_here", 6)] rfl nd (id_list (ed_v 0 rfl rfl)) (fun i x hx => ⟨_, gd_n 6 rfl nd, ed_non⟩) (by have : dt.buys.length ≤ 100 := hn; omega) ?_)
  have hr0 : dt.buys.map (fun _ => D.non) = (List.replicate dt.n (none : Option Bool)).map obD := by
    rw [List.map_replicate]
    exact List.eq_replicate_iff.mpr ⟨by rw [List.length_map]; rfl, fun b hb => by obtain ⟨_, _, rfl⟩ := List.mem_map.mp hb; rfl⟩
  show WS _ _ _ [_, _, _, _, _, .own (dt.buys.map (fun _ => D.non)), _, _, _, _, _]
  rw [hr0]
  refine ws_cons (w1_for (fun i ρ => ∃ x6 x7 x8 x9 x10, ρ = [.dat (buysD dt.buys), .dat (lksD dt.links), .dat (qsD pr), .dat (qD m), .dat (tabD (leads dt)), .own (((List.range i).foldl (reachI dt pr m) (List.replicate dt.n none)).map obD), x6, x7, x8, x9, x10]) (id_range T.range (by decide +kernel) (ed_lenL T.len (by decide +kernel) (ed_v 0 rfl rfl)) (by omega) (by omega)) ⟨_, _, _, _, _, rfl⟩ (fun i d ρ hd hP => ?_) (fun ρ hP => ?_))
  · obtain ⟨x6, x7, x8, x9, x10, rfl⟩ := hP
    obtain ⟨hi, rfl⟩ := rngD_get hd
    rw [hl, Int.toNat_natCast] at hi
    refine ⟨_, _, gd_n 7 rfl nd, ?_⟩
    have hrl := reachN_len (d := dt) (pr := pr) (m := m) i
    rw [foldl_range]
    revert hrl
    generalize (List.range i).foldl (reachI dt pr m) (List.replicate dt.n none) = r
    intro hrl
    refine ws_cons (w1_s 8 rfl nd (ed_call Hdot (by decide) (by decide +kernel) (ad_cons (ed_v 2 rfl rfl) (ad_cons (ed_ixT (ed_ixL (ed_v 0 rfl rfl) (ed_v 7 rfl rfl) (at_map ([], []) hi)) ed_int rfl) ad_nil)) ⟨_, _, rfl, pk.dot i hi, rfl⟩) ?_)
    have e1 := pk.v i hi
    refine ws_one (w1_if (bb := qatm (BB.dot pr (dt.am i)) m) (td_is (td_not (td_val (ed_call Hless (by decide) (by decide +kernel) (ad_cons (ed_v 3 rfl rfl) (ad_cons (ed_v 8 rfl rfl) ad_nil)) ⟨_, _, rfl, pk.mo, pk.ok hi, rfl⟩) fun _ _ => rfl)) (by rw [qatm_less]; exact congrArg not (pk.v2 i hi))) (fun hc => ?_) (fun hc => ?_))
    · refine ws_one (w1_for (fun j ρ => ∃ x9 x10, ρ = [.dat (buysD dt.buys), .dat (lksD dt.links), .dat (qsD pr), .dat (qD m), .dat (tabD (leads dt)), .own (((List.range j).foldl (reach1 dt pr m i) r).map obD), x6, .dat (.int (i : Int)), .dat (qD (ldot pr (dt.am i))), x9, x10]) (id_range T.range (by decide +kernel) (ed_lenL T.len (by decide +kernel) (ed_v 0 rfl rfl)) (by omega) (by omega)) ⟨_, _, rfl⟩ (fun j d ρ hd hP => ?_) (fun ρ hP => ?_))
      · obtain ⟨x9, x10, rfl⟩ := hP
        obtain ⟨hj, rfl⟩ := rngD_get hd
        rw [hl, Int.toNat_natCast] at hj
        refine ⟨_, _, gd_n 9 rfl nd, ?_⟩
        have hr2 := reachR_len (d := dt) (pr := pr) (m := m) (i := i) (r := r) j
        rw [foldl_range]
        revert hr2
        generalize (List.range j).foldl (reach1 dt pr m i) r = r2
        intro hr2
        have htb := tb_at sq (i := i) (j := j) (by omega) (by omega)
        unfold reach1
        revert htb
        generalize tb (leads dt) i j = o
        intro htb
        cases o with
        | none => exact ws_one (w1_if (td_notN (ed_ixL (ed_ixL (ed_v 4 rfl rfl) (ed_v 7 rfl rfl) htb.1) (ed_v 9 rfl rfl) htb.2)) (fun hc => by cases hc) (fun hc => ws_nil ⟨_, _, rfl⟩))
        | some b =>
          refine ws_one (w1_if (td_notN (ed_ixL (ed_ixL (ed_v 4 rfl rfl) (ed_v 7 rfl rfl) htb.1) (ed_v 9 rfl rfl) htb.2)) (fun hc => ?_) (fun hc => by cases hc))
          refine ws_cons (w1_s 10 rfl nd (ed_is (ed_or (ed_call Hless (by decide) (by decide +kernel) (ad_cons (ed_v 8 rfl rfl) (ad_cons (ed_v 3 rfl rfl) ad_nil)) ⟨_, _, rfl, pk.ok hi, pk.mo, rfl⟩) fun _ => (ed_one (ed_ixL (ed_ixL (ed_v 4 rfl rfl) (ed_v 7 rfl rfl) htb.1) (ed_v 9 rfl rfl) htb.2))) (show _ = D.bl (qless (BB.dot pr (dt.am i)) m || b) by rw [e1])) ?_)
          have hj2 : j < r2.length := by omega
          refine ws_one (w1_setItem (j := 5) rfl (by decide +kernel) rfl (ed_or (ed_isT (ed_ixO (i := 5) rfl (by decide +kernel) rfl (ed_v 9 rfl rfl) (at_map none hj2)) (obD_nb _)) fun _ => (ed_one (ed_v 10 rfl rfl))) (ed_v 9 rfl rfl) rfl (by rw [List.length_map]; exact hj2) ⟨.dat (.int (j : Int)), .dat (.bl (qless (BB.dot pr (dt.am i)) m || b)), ?_⟩)
          rw [obD_isT, show D.bl ((r2.getD j none == some true) || (qless (BB.dot pr (dt.am i)) m || b)) = obD (some ((r2.getD j none == some true) || (qless (BB.dot pr (dt.am i)) m || b))) from rfl, set_map]
          rfl
      · obtain ⟨x9, x10, rfl⟩ := hP
        rw [rngD_len, hl, Int.toNat_natCast]
        refine ⟨x6, .dat (.int (i : Int)), .dat (qD (ldot pr (dt.am i))), x9, x10, ?_⟩
        unfold reachI
        rw [if_pos hc]
    · refine ws_nil ⟨x6, .dat (.int (i : Int)), .dat (qD (ldot pr (dt.am i))), x9, x10, ?_⟩
      unfold reachI
      rw [if_neg (by rw [hc]; decide)]; rfl
  · obtain ⟨x6, x7, x8, x9, x10, rfl⟩ := hP
    rw [rngD_len, hl, Int.toNat_natCast]
    exact ws_freeze 5 (ws_one (w1_ret (ed_v 5 rfl rfl) rfl))
structure LBkOk (dt : Dt) (bs : List Qt) : Prop where
  dot : ∀ i, i < dt.n → LDotOk (dt.pr i) bs
  v : ∀ i, i < dt.n → qless (ldot (dt.pr i) bs) (ldot (dt.pr i) (dt.am i)) = qless (BB.dot (dt.pr i) bs) (spt dt i)
  v2 : ∀ i, i < dt.n → qless (ldot (dt.pr i) (dt.am i)) (ldot (dt.pr i) bs) = qless (spt dt i) (BB.dot (dt.pr i) bs)
theorem LBkOk.ok {dt : Dt} {bs : List Qt} (h : LBkOk dt bs) {i : Nat} (hi : i < dt.n) : OkL (ldot (dt.pr i) bs) := (h.dot i hi).t _ (Nat.le_refl _)
theorem lsame_less (a b : Qt) : lsame a b = (!qless a b && !qless b a) := by
  unfold lsame qless
  by_cases h : a.1 * b.2 = b.1 * a.2
  · rw [decide_eq_true h, decide_eq_false (by omega), decide_eq_false (by omega)]; rfl
  · rw [decide_eq_false h]
    by_cases h2 : a.1 * b.2 < b.1 * a.2
    · rw [decide_eq_true h2]; rfl
    · rw [decide_eq_false h2, decide_eq_true (by omega)]; rfl
def R_lkeeps (ds : List D) (d : D) : Prop := ∃ (dt : Dt) (rows : List (Option Bool)) (bs : List Qt), ds = [buysD dt.buys, rowD rows, qsD bs, .bl false] ∧ LDtOk dt ∧ LBkOk dt bs ∧ rows.length = dt.n ∧ d = .bl (firstBroken dt rows bs).isNone
theorem has_lkeeps {M : Mo} (T : Tx M) (F : Df M "_law_keeps" s_l_keeps ["_law_buys_here", "_law_rows", "_law_basket_here", "_law_weakly"]) (Hdot : Has M 2 "_law_dot" R_ldot) (Hless : Has M 1 "_law_below" (R_lbin fun a b => .bl (qless a b))) (Hsame : Has M 1 "_law_same" (R_lbin fun a b => .bl (lsame a b))) : Has M 3 "_law_keeps" R_lkeeps := by
  refine F.has sc_l_keeps (fun ds d h => by obtain ⟨p, q, r, rfl, _⟩ := h; rfl) fun ds d h => ?_
  obtain ⟨dt, rows, bs, rfl, ok, bk, hlr, rfl⟩ := h
  have nd := sc_l_keeps.nd
  have hn := ok.n
  have hl : (List.map buyD dt.buys).length = dt.n := List.length_map ..
  refine ws_cons (w1_for (fun i ρ => (∀ k, k < i → broken dt rows bs k = false) ∧ ∃ x4 x5 x6, ρ = [.dat (buysD dt.buys), .dat (rowD rows), .dat (qsD bs), .dat (.bl false), x4, x5, x6]) (id_range T.range (by decide +kernel) (ed_lenL T.len (by decide +kernel) (ed_v 0 rfl rfl)) (by omega) (by omega)) ⟨fun k hk => by omega, _, _, _, rfl⟩ (fun i d ρ hd hP => ?_) (fun ρ hP => ?_))
  · obtain ⟨hno, x4, x5, x6, rfl⟩ := hP
    obtain ⟨hi, rfl⟩ := rngD_get hd
    rw [hl, Int.toNat_natCast] at hi
    refine ⟨_, _, gd_n 4 rfl nd, ?_⟩
    have hat := at_map (f := obD) none (show i < rows.length by omega)
    have hbr : broken dt rows bs i = (match rows.getD i none with | none => false | some s => !keepsRow dt i s bs) := rfl
    revert hat hbr
    generalize rows.getD i none = o
    intro hat hbr
    cases o with
    | none =>
      refine ws_one (w1_if (td_notN (ed_ixL (ed_v 1 rfl rfl) (ed_v 4 rfl rfl) hat)) (fun hc => by cases hc) (fun hc => ws_nil ⟨fun k hk => ?_, _, _, _, rfl⟩))
      by_cases h : k = i
      · subst h; exact hbr
      · exact hno k (by omega)
    | some s =>
      refine ws_one (w1_if (td_notN (ed_ixL (ed_v 1 rfl rfl) (ed_v 4 rfl rfl) hat)) (fun hc => ?_) (fun hc => by cases hc))
      refine ws_cons (w1_s 5 rfl nd (ed_call Hdot (by decide) (by decide +kernel) (ad_cons (ed_ixT (ed_ixL (ed_v 0 rfl rfl) (ed_v 4 rfl rfl) (at_map ([], []) hi)) ed_int rfl) (ad_cons (ed_v 2 rfl rfl) ad_nil)) ⟨_, _, rfl, bk.dot i hi, rfl⟩) ?_)
      refine ws_cons (w1_s 6 rfl nd (ed_call Hdot (by decide) (by decide +kernel) (ad_cons (ed_ixT (ed_ixL (ed_v 0 rfl rfl) (ed_v 4 rfl rfl) (at_map ([], []) hi)) ed_int rfl) (ad_cons (ed_ixT (ed_ixL (ed_v 0 rfl rfl) (ed_v 4 rfl rfl) (at_map ([], []) hi)) ed_int rfl) ad_nil)) ⟨_, _, rfl, ok.dot i i hi hi, rfl⟩) ?_)
      have e1 := bk.v i hi
      have e2 := bk.v2 i hi
      refine ws_one (w1_if (bb := broken dt rows bs i) (td_is (tv_or (td_val (ed_call Hless (by decide) (by decide +kernel) (ad_cons (ed_v 5 rfl rfl) (ad_cons (ed_v 6 rfl rfl) ad_nil)) ⟨_, _, rfl, bk.ok hi, ok.ok hi hi, rfl⟩) fun _ _ => rfl) fun _ => (tv_or1 (tv_and (td_val (ed_ixL (ed_v 1 rfl rfl) (ed_v 4 rfl rfl) hat) fun _ _ => rfl) fun _ => (tv_and (td_not (td_val (ed_v 3 rfl rfl) fun _ _ => rfl)) fun _ => (tv_and1 (td_val (ed_call Hsame (by decide) (by decide +kernel) (ad_cons (ed_v 5 rfl rfl) (ad_cons (ed_v 6 rfl rfl) ad_nil)) ⟨_, _, rfl, bk.ok hi, ok.ok hi hi, rfl⟩) fun _ _ => rfl)))).td)).td (by
        rw [hbr]
        show (qless (ldot (dt.pr i) bs) (ldot (dt.pr i) (dt.am i)) || (s && (!false && lsame (ldot (dt.pr i) bs) (ldot (dt.pr i) (dt.am i))))) = !keepsRow dt i s bs
        rw [lsame_less, e1, e2]
        unfold keepsRow
        rw [qatm_less]
        cases s with
        | false => cases qless (BB.dot (dt.pr i) bs) (spt dt i) <;> rfl
        | true =>
          have hx : qless (BB.dot (dt.pr i) bs) (spt dt i) = true → qless (spt dt i) (BB.dot (dt.pr i) bs) = false := fun h => by
            unfold qless at h ⊢
            have := of_decide_eq_true h
            exact decide_eq_false (by omega)
          revert hx
          cases qless (BB.dot (dt.pr i) bs) (spt dt i) <;> cases qless (spt dt i) (BB.dot (dt.pr i) bs) <;> intro hx <;> first | rfl | (exact absurd (hx rfl) (by decide)))) (fun hc => ?_) (fun hc => ?_))
      · refine ws_one (w1_ret ed_bl ?_)
        show _ = D.bl _
        unfold firstBroken
        rw [find_at hno (by omega) hc]; rfl
      · refine ws_nil ⟨fun k hk => ?_, _, _, _, rfl⟩
        by_cases h : k = i
        · subst h; exact hc
        · exact hno k (by omega)
  · obtain ⟨hno, x4, x5, x6, rfl⟩ := hP
    rw [rngD_len, hl, Int.toNat_natCast] at hno
    refine ws_one (w1_ret ed_bl ?_)
    show _ = D.bl _
    unfold firstBroken
    rw [hlr, find_no hno]; rfl
end BB
set_option linter.all false
namespace BB
def wG (row : List Nat) : Nat := 1 + row.getD 0 0 % 3
def wN (row : List Nat) : Nat := row.getD 1 0 % 5
def wB (row : List Nat) : List Buy := lbuys (row.drop 2) (wG row) (wN row)
def wL (row : List Nat) : List Lk := llinks (row.drop 40) (wN row)
def wP (row : List Nat) : List Qt := ((row.drop 46).take (wG row)).map lprice
def wA (row : List Nat) : List Qt := ((wB row).getD (row.getD 52 0 % wN row) ([], [])).2
def wM (row : List Nat) : Qt :=
  if 0 < wN row ∧ row.getD 51 0 % 2 = 0 then ratio (ldot (wP row) (wA row)).1 (ldot (wP row) (wA row)).2
  else ratio (1 + (row.getD 50 0 : Int) % 30) (1 + (row.getD 50 0 : Int) / 30 % 3)
def bA (row : List Nat) (pr : List Qt) : List Qt := (row.take pr.length).map lamount
def bA2 (row : List Nat) (pr : List Qt) : List Qt := if (ldot pr (bA row pr)).1 = 0 then (bA row pr).set 0 q1 else bA row pr
def bPart (row : List Nat) (pr : List Qt) (m : Qt) : Qt := (m.1 * (ldot pr (bA2 row pr)).2, m.2 * (ldot pr (bA2 row pr)).1)
def bOne (p x : Qt) : Qt := ratio (ltimes p x).1 (ltimes p x).2
def lbasket (row : List Nat) (pr : List Qt) (m : Qt) : List Qt := (bA2 row pr).map (bOne (bPart row pr m))
def wD (row : List Nat) : Dt := ⟨wG row, wB row, wL row⟩
end BB
set_option Elab.async false
set_option linter.all false
set_option maxRecDepth 100000
set_option maxHeartbeats 4000000
namespace BB
open PySem PySem.Spec PyProof.Rows L2
theorem lst_py {ds : List D} {n : Nat} (h : ∀ d ∈ ds, d.pn = true ∧ d.py.depth ≤ n) : (D.lst ds).pn = true ∧ (D.lst ds).py.depth ≤ n + 1 := by
  refine ⟨by rw [D.pn]; exact pns_of fun d hd => (h d hd).1, ?_⟩
  rw [D.py, PyData.depth]
  have := depths_le fun d hd => (h d hd).2
  omega
theorem tup_py {ds : List D} {n : Nat} (h : ∀ d ∈ ds, d.pn = true ∧ d.py.depth ≤ n) : (D.tup ds).pn = true ∧ (D.tup ds).py.depth ≤ n + 1 := by
  refine ⟨by rw [D.pn]; exact pns_of fun d hd => (h d hd).1, ?_⟩
  rw [D.py, PyData.depth]
  have := depths_le fun d hd => (h d hd).2
  omega
theorem q_py (x : Qt) : (qD x).pn = true ∧ (qD x).py.depth ≤ 1 := tup_py (n := 0) fun d hd => by
  rcases List.mem_cons.mp hd with rfl | hd
  · exact ⟨rfl, by rw [D.py, PyData.depth]; exact Nat.le_refl _⟩
  · rcases List.mem_cons.mp hd with rfl | hd
    · exact ⟨rfl, by rw [D.py, PyData.depth]; exact Nat.le_refl _⟩
    · cases hd
theorem qs_py (xs : List Qt) : (qsD xs).pn = true ∧ (qsD xs).py.depth ≤ 2 := lst_py fun d hd => by
  obtain ⟨x, _, rfl⟩ := List.mem_map.mp hd
  exact q_py x
theorem buys_py (bs : List Buy) : (buysD bs).pn = true ∧ (buysD bs).py.depth ≤ 4 := lst_py fun d hd => by
  obtain ⟨x, _, rfl⟩ := List.mem_map.mp hd
  refine tup_py fun d hd => ?_
  rcases List.mem_cons.mp hd with rfl | hd
  · exact qs_py _
  · rcases List.mem_cons.mp hd with rfl | hd
    · exact qs_py _
    · cases hd
theorem lks_py (ls : List Lk) : (lksD ls).pn = true ∧ (lksD ls).py.depth ≤ 2 := lst_py fun d hd => by
  obtain ⟨x, _, rfl⟩ := List.mem_map.mp hd
  refine tup_py fun d hd => ?_
  rcases List.mem_cons.mp hd with rfl | hd
  · exact ⟨rfl, by rw [D.py, PyData.depth]; exact Nat.le_refl _⟩
  · rcases List.mem_cons.mp hd with rfl | hd
    · exact ⟨rfl, by rw [D.py, PyData.depth]; exact Nat.le_refl _⟩
    · rcases List.mem_cons.mp hd with rfl | hd
      · exact ⟨rfl, by rw [D.py, PyData.depth]; exact Nat.le_refl _⟩
      · cases hd
theorem ed_eqS {Γ : Cy} {ρ : Ro} {a b : Expr} {pos : Pos} {x : D} (ha : ED Γ ρ a x) (hb : ED Γ ρ b x) (h : x.pn = true ∧ x.py.depth ≤ 60) : ED Γ ρ (.Compare a [.Eq] [b] pos) (.bl true) := by
  have hp := (pl_of_pn h.1).1
  have hs := shaped_of h.1 (by omega)
  have e := ed_eqD (pos := pos) ha hb hp hp hs hs
  rw [eqv_self h.1] at e
  exact e
def R_unch (ds : List D) (d : D) : Prop := ∃ dt : Dt, ds = [datD dt, .int (dt.goods : Int), buysD dt.buys, lksD dt.links] ∧ dt.n ≤ 100 ∧ d = .bl true
theorem has_unch {M : Mo} (T : Tx M) (F : Df M "_law_unchanged" s_l_unchanged ["_law_data", "_law_goods", "_law_buys_here", "_law_links_here"]) : Has M 1 "_law_unchanged" R_unch := by
  refine F.has sc_l_unchanged (fun ds d h => by obtain ⟨p, rfl, _⟩ := h; rfl) fun ds d h => ?_
  obtain ⟨dt, rfl, hn, rfl⟩ := h
  have nd := sc_l_unchanged.nd
  have b := buys_py dt.buys
  have l := lks_py dt.links
  refine ws_one (w1_ret (ed_is (ed_and (ed_eq (ed_fld T.dat (ed_v 0 rfl rfl) (.inl ⟨rfl, rfl⟩)) (ed_v 1 rfl rfl) (.int _ _)) fun _ => (ed_and (ed_eqS (ed_fld T.dat (ed_v 0 rfl rfl) (.inr (.inr ⟨rfl, rfl⟩))) (ed_v 3 rfl rfl) ⟨l.1, Nat.le_trans l.2 (by decide)⟩) fun _ => (ed_one (ed_eqS (en_map buyD [("_law_p", 4), ("_law_a", 5)] nd (id_list (ed_fld T.dat (ed_v 0 rfl rfl) (.inr (.inl ⟨rfl, rfl⟩)))) (fun i x hx => ⟨_, gd_tup (tgd_cons (gd_n 4 rfl nd) (tgd_cons (gd_n 5 rfl nd) tgd_nil)), ed_tup (ad_cons (ed_v 4 rfl rfl) (ad_cons (ed_v 5 rfl rfl) ad_nil)) len_ok⟩) (by have : dt.buys.length ≤ 100 := hn; omega)).ed (ed_v 2 rfl rfl) ⟨b.1, Nat.le_trans b.2 (by decide)⟩)))) ?_) rfl)
  rw [decide_eq_true rfl]; rfl
structure WdOk (row : List Nat) : Prop where
  len : row.length = 70
  lt : ∀ x ∈ row, x < 10000
  dot : 0 < wN row → LDotOk (wP row) (wA row)
  e0 : 0 < wN row → 0 < (ldot (wP row) (wA row)).2
  e2 : 0 < wN row → (ldot (wP row) (wA row)).2.natAbs < 2 ^ 6200
abbrev worldD (row : List Nat) : D := .tup [.int (wG row : Int), buysD (wB row), lksD (wL row), qsD (wP row), qD (wM row)]
def R_world (ds : List D) (d : D) : Prop := ∃ row : List Nat, ds = [natsD row] ∧ WdOk row ∧ d = worldD row
theorem has_world {M : Mo} (T : Tx M) (F : Df M "_law_world" s_l_world ["_law_row_here"]) (Hbuys : Has M 5 "_law_buys" R_lbuys) (Hlinks : Has M 1 "_law_links" R_llinks) (Hp : Has M 3 "_law_price" R_lprice) (Hr : Has M 2 "_law_ratio" R_lratio) (Hdot : Has M 2 "_law_dot" R_ldot) : Has M 6 "_law_world" R_world := by
  refine F.has sc_l_world (fun ds d h => by obtain ⟨p, rfl, _⟩ := h; rfl) fun ds d h => ?_
  obtain ⟨row, rfl, W, rfl⟩ := h
  have nd := sc_l_world.nd
  have hlen := W.len
  have hlt := W.lt
  have hG : 1 ≤ wG row ∧ wG row ≤ 3 := by unfold wG; omega
  have hN : wN row ≤ 4 := by unfold wN; omega
  have at_ : ∀ i, i < 70 → atI (row.map nD) ((i : Nat) : Int) = some (nD (row.getD i 0)) := fun i hi => at_map 0 (by omega)
  have lt_ : ∀ i, i < 70 → row.getD i 0 < 10000 := fun i hi => hlt _ (by rw [List.getD_eq_getElem?_getD, List.getElem?_eq_getElem (by omega)]; exact List.getElem_mem _)
  refine ws_cons (w1_s 1 rfl nd (ed_i (n := (wG row : Int)) (ed_add ed_int (ed_mod (ed_toInt T.int (by decide +kernel) (ed_ixL (ed_v 0 rfl rfl) ed_int (at_ 0 (by omega)))) ed_int (by decide))) (by unfold wG; omega)) ?_)
  refine ws_cons (w1_s 2 rfl nd (ed_i (n := (wN row : Int)) (ed_mod (ed_toInt T.int (by decide +kernel) (ed_ixL (ed_v 0 rfl rfl) ed_int (at_ 1 (by omega)))) ed_int (by decide)) (by unfold wN; omega)) ?_)
  refine ws_cons (w1_s 3 rfl nd (d := buysD (wB row)) (ed_call Hbuys (by decide) (by decide +kernel) (ad_cons (en_from (f := nD) (m := 2) (ed_v 0 rfl rfl) ed_int).ed (ad_cons (ed_v 1 rfl rfl) (ad_cons (ed_v 2 rfl rfl) ad_nil))) ⟨row.drop 2, wG row, wN row, rfl, hG.1, hG.2, hN, by rw [List.length_drop]; omega, by rw [List.length_drop]; omega, fun x hx => hlt x (List.mem_of_mem_drop hx), rfl⟩) ?_)
  refine ws_cons (w1_s 4 rfl nd (d := lksD (wL row)) (ed_call Hlinks (by decide) (by decide +kernel) (ad_cons (en_from (f := nD) (m := 40) (ed_v 0 rfl rfl) ed_int).ed (ad_cons (ed_v 2 rfl rfl) ad_nil)) ⟨row.drop 40, wN row, rfl, hN, by rw [List.length_drop]; omega, by rw [List.length_drop]; omega, fun x hx => hlt x (List.mem_of_mem_drop hx), rfl⟩) ?_)
  refine ws_cons (w1_map 5 (fun x => qD (lprice x)) [("_law_x", 6)] rfl nd (id_list (en_btw (f := nD) (m := 46) (n := 46 + wG row) (ed_v 0 rfl rfl) ed_int (ed_i (ed_add ed_int (ed_v 1 rfl rfl)) (by omega))).ed) (fun i x hx => ?_) (by rw [List.length_take, List.length_drop]; omega) ?_)
  · have hx := hlt x (List.mem_of_mem_drop (List.mem_of_mem_take (List.mem_of_getElem? hx)))
    exact ⟨_, gd_n 6 rfl nd, ed_call Hp (by decide) (by decide +kernel) (ad_cons (ed_v 6 rfl rfl) ad_nil) ⟨_, rfl, hx, rfl⟩⟩
  have hpr : ((row.drop 46).take (46 + wG row - 46)).map (fun x => qD (lprice x)) = (wP row).map qD := by
    unfold wP
    rw [List.map_map, show 46 + wG row - 46 = wG row by omega]; rfl
  show WS _ _ _ [_, _, _, _, _, .own (((row.drop 46).take (46 + wG row - 46)).map (fun x => qD (lprice x))), _, _, _]
  rw [hpr]
  refine ws_freeze 5 ?_
  have l50 := lt_ 50 (by omega)
  refine ws_cons (w1_s 7 rfl nd (ed_call Hr (by decide) (by decide +kernel) (ad_cons (ed_add ed_int (ed_mod (ed_toInt T.int (by decide +kernel) (ed_ixL (ed_v 0 rfl rfl) ed_int (at_ 50 (by omega)))) ed_int (by decide))) (ad_cons (ed_add ed_int (ed_mod (ed_fdiv (ed_ixL (ed_v 0 rfl rfl) ed_int (at_ 50 (by omega))) ed_int (cd64 (by decide) (by decide))) ed_int (by decide))) ad_nil)) ⟨_, _, rfl, by omega, lt6200 (by omega), rfl⟩) ?_)
  refine ws_cut (fun ρ => ∃ x8, ρ = [.dat (natsD row), .dat (.int (wG row : Int)), .dat (.int (wN row : Int)), .dat (buysD (wB row)), .dat (lksD (wL row)), .dat (qsD (wP row)), .un, .dat (qD (wM row)), x8]) (w1_if (bb := decide (0 < wN row ∧ row.getD 51 0 % 2 = 0)) (td_is (tv_and (td_gt (ed_v 2 rfl rfl) ed_int) fun _ => (tv_and1 (td_eq (ed_mod (ed_toInt T.int (by decide +kernel) (ed_ixL (ed_v 0 rfl rfl) ed_int (at_ 51 (by omega)))) ed_int (by decide)) ed_int (.int _ _)))).td ?_) (fun hc => ?_) (fun hc => ?_)) ?_
  · rw [Bool.decide_and]
    congr 1
    · exact dec_of (by omega)
    · exact dec_of (by omega)
  · have hc := of_decide_eq_true hc
    have hb : row.getD 52 0 % wN row < (wB row).length := by
      unfold wB lbuys
      rw [List.length_map, List.length_range]
      exact Nat.mod_lt _ hc.1
    refine ws_cons (w1_s 8 rfl nd (d := qD (ldot (wP row) (wA row))) (ed_call Hdot (by decide) (by decide +kernel) (ad_cons (ed_v 5 rfl rfl) (ad_cons (ed_ixT (ed_ixL (ed_v 3 rfl rfl) (ed_i (n := ((row.getD 52 0 % wN row : Nat) : Int)) (ed_mod (ed_toInt T.int (by decide +kernel) (ed_ixL (ed_v 0 rfl rfl) ed_int (at_ 52 (by omega)))) (ed_v 2 rfl rfl) (by have := hc.1; omega)) (by rw [Int.natCast_emod])) (at_map ([], []) hb)) ed_int rfl) ad_nil)) ⟨wP row, wA row, rfl, W.dot hc.1, rfl⟩) ?_)
    refine ws_one (w1_s 7 rfl nd (ed_call Hr (by decide) (by decide +kernel) (ad_cons (ed_ixT (ed_v 8 rfl rfl) ed_int rfl) (ad_cons (ed_ixT (ed_v 8 rfl rfl) ed_int rfl) ad_nil)) ⟨_, _, rfl, W.e0 hc.1, W.e2 hc.1, rfl⟩) ⟨.dat (qD (ldot (wP row) (wA row))), ?_⟩)
    unfold wM
    rw [if_pos hc]; rfl
  · have hc := of_decide_eq_false hc
    refine ws_nil ⟨.un, ?_⟩
    unfold wM
    rw [if_neg hc]; rfl
  · rintro ρ ⟨x8, rfl⟩
    exact ws_one (w1_ret (ed_tup (ad_cons (ed_v 1 rfl rfl) (ad_cons (ed_v 3 rfl rfl) (ad_cons (ed_v 4 rfl rfl) (ad_cons (ed_v 5 rfl rfl) (ad_cons (ed_v 7 rfl rfl) ad_nil))))) len_ok) rfl)
structure BsOk (row : List Nat) (pr : List Qt) (m : Qt) : Prop where
  l1 : 1 ≤ pr.length
  l2 : pr.length ≤ row.length
  l3 : pr.length ≤ 3
  lt : ∀ x ∈ row, x < 10000
  d1 : LDotOk pr (bA row pr)
  d2 : LDotOk pr (bA2 row pr)
  mo : OkL m
  ao : OkL (ldot pr (bA2 row pr))
  po : OkL (bPart row pr m)
  xo : ∀ x ∈ bA2 row pr, OkL x
  t0 : ∀ x ∈ bA2 row pr, 0 < (ltimes (bPart row pr m) x).2
  t2 : ∀ x ∈ bA2 row pr, (ltimes (bPart row pr m) x).2.natAbs < 2 ^ 6200
  m2 : CMulW m.2 (ldot pr (bA2 row pr)).1
def R_basket (ds : List D) (d : D) : Prop := ∃ (row : List Nat) (pr : List Qt) (m : Qt), ds = [natsD row, qsD pr, qD m] ∧ BsOk row pr m ∧ d = qsD (lbasket row pr m)
theorem has_basket {M : Mo} (T : Tx M) (F : Df M "_law_basket" s_l_basket ["_law_row_here", "_law_prices", "_law_money"]) (Ha : Has M 3 "_law_amount" R_lamount) (Hr : Has M 2 "_law_ratio" R_lratio) (Hdot : Has M 2 "_law_dot" R_ldot) (Ht : Has M 1 "_law_times" (R_lbin fun a b => qD (ltimes a b))) : Has M 4 "_law_basket" R_basket := by
  refine F.has sc_l_basket (fun ds d h => by obtain ⟨p, q, r, rfl, _⟩ := h; rfl) fun ds d h => ?_
  obtain ⟨row, pr, m, rfl, B, rfl⟩ := h
  have nd := sc_l_basket.nd
  have h1 := B.l1
  have h2 := B.l2
  have h3 := B.l3
  refine ws_cons (w1_s 3 rfl nd (ed_i (n := (pr.length : Int)) (ed_lenL T.len (by decide +kernel) (ed_v 1 rfl rfl)) (by rw [List.length_map])) ?_)
  refine ws_cons (w1_map 4 (fun x => qD (lamount x)) [("_law_x", 5)] rfl nd (id_list (en_to (f := nD) (n := pr.length) (ed_v 0 rfl rfl) (ed_v 3 rfl rfl)).ed) (fun i x hx => ?_) (by rw [List.length_take]; omega) ?_)
  · have hx := B.lt x (List.mem_of_mem_take (List.mem_of_getElem? hx))
    exact ⟨_, gd_n 5 rfl nd, ed_call Ha (by decide) (by decide +kernel) (ad_cons (ed_v 5 rfl rfl) ad_nil) ⟨_, rfl, hx, rfl⟩⟩
  have ha : (row.take pr.length).map (fun x => qD (lamount x)) = (bA row pr).map qD := by unfold bA; rw [List.map_map]; rfl
  show WS _ _ _ [_, _, _, _, .own ((row.take pr.length).map (fun x => qD (lamount x))), _, _, _, _, _]
  rw [ha]
  have hal : (bA row pr).length = pr.length := by unfold bA; rw [List.length_map, List.length_take]; omega
  refine ws_cons (w1_s 6 rfl nd (lend_ed (ed_call Hdot (by decide) (by decide +kernel) (ad_cons (ed_v 1 rfl rfl) (ad_cons (ed_v 4 rfl rfl) ad_nil)) ⟨pr, bA row pr, rfl, B.d1, rfl⟩) rfl) ?_)
  refine ws_cut (fun ρ => ∃ x5, ρ = [.dat (natsD row), .dat (qsD pr), .dat (qD m), .dat (.int (pr.length : Int)), .own ((bA2 row pr).map qD), x5, .dat (qD (ldot pr (bA2 row pr))), .un, .un, .un]) (w1_if (td_eq (ed_ixT (ed_v 6 rfl rfl) ed_int rfl) ed_int (.int _ _)) (fun hc => ?_) (fun hc => ?_)) ?_
  · have hc : (ldot pr (bA row pr)).1 = 0 := of_decide_eq_true hc
    have e : bA2 row pr = (bA row pr).set 0 q1 := by unfold bA2; rw [if_pos hc]
    have hd := B.d2
    rw [e] at hd ⊢
    refine ws_cons (w1_setItem (j := 4) rfl (by decide +kernel) rfl (d := qD q1) (ed_tup (ad_cons ed_int (ad_cons ed_int ad_nil)) len_ok) ed_int (n := 0) rfl (by rw [List.length_map]; omega) ?_)
    rw [set_map]
    exact ws_one (w1_s 6 rfl nd (lend_ed (ed_call Hdot (by decide) (by decide +kernel) (ad_cons (ed_v 1 rfl rfl) (ad_cons (ed_v 4 rfl rfl) ad_nil)) ⟨pr, (bA row pr).set 0 q1, rfl, hd, rfl⟩) rfl) ⟨.un, rfl⟩)
  · have hc : ¬ (ldot pr (bA row pr)).1 = 0 := of_decide_eq_false hc
    have e : bA2 row pr = bA row pr := by unfold bA2; rw [if_neg hc]
    rw [e]
    exact ws_nil ⟨.un, rfl⟩
  · rintro ρ ⟨x5, rfl⟩
    have ao := B.ao
    refine ws_freeze 4 ?_
    refine ws_cons (w1_s 7 rfl nd (d := qD (bPart row pr m)) (ed_tup (ad_cons (ed_mul (ed_ixT (ed_v 2 rfl rfl) ed_int rfl) (ed_ixT (ed_v 6 rfl rfl) ed_int rfl) (B.mo.mul12 ao)) (ad_cons (ed_mul (ed_ixT (ed_v 2 rfl rfl) ed_int rfl) (ed_ixT (ed_v 6 rfl rfl) ed_int rfl) B.m2) ad_nil)) len_ok) ?_)
    refine ws_cons (w1_n 8 rfl nd (en_lst ad_nil (by decide)) ?_)
    have hl2 : (bA2 row pr).length = pr.length := by unfold bA2; split; rw [List.length_set]; exact hal; exact hal
    refine ws_cons (w1_for (fun i ρ => ∃ x5 x9, ρ = [.dat (natsD row), .dat (qsD pr), .dat (qD m), .dat (.int (pr.length : Int)), .dat (qsD (bA2 row pr)), x5, .dat (qD (ldot pr (bA2 row pr))), .dat (qD (bPart row pr m)), .own ((((bA2 row pr).take i).map (bOne (bPart row pr m))).map qD), x9]) (id_list (ed_v 4 rfl rfl)) ⟨_, _, rfl⟩ (fun i d ρ hd hP => ?_) (fun ρ hP => ?_))
    · obtain ⟨x5, x9, rfl⟩ := hP
      obtain ⟨x, hx, rfl⟩ := mapGet hd
      have hm : x ∈ bA2 row pr := List.mem_of_getElem? hx
      refine ⟨_, _, gd_n 5 rfl nd, ?_⟩
      refine ws_cons (w1_s 9 rfl nd (ed_call Ht (by decide) (by decide +kernel) (ad_cons (ed_v 7 rfl rfl) (ad_cons (ed_v 5 rfl rfl) ad_nil)) ⟨_, _, rfl, B.po, B.xo x hm, rfl⟩) ?_)
      refine ws_one (w1_append (i := 8) rfl (by decide +kernel) rfl (d := qD (bOne (bPart row pr m) x)) (ed_call Hr (by decide) (by decide +kernel) (ad_cons (ed_ixT (ed_v 9 rfl rfl) ed_int rfl) (ad_cons (ed_ixT (ed_v 9 rfl rfl) ed_int rfl) ad_nil)) ⟨_, _, rfl, B.t0 x hm, B.t2 x hm, rfl⟩) (by rw [List.length_map, List.length_map, List.length_take]; omega) ⟨.dat (qD x), .dat (qD (ltimes (bPart row pr m) x)), ?_⟩)
      rw [List.take_add_one, hx, List.map_append, List.map_append]
      rfl
    · obtain ⟨x5, x9, rfl⟩ := hP
      rw [List.length_map, List.take_length]
      exact ws_freeze 8 (ws_one (w1_ret (ed_v 8 rfl rfl) rfl))
end BB
set_option Elab.async false
set_option linter.all false
set_option maxRecDepth 100000
set_option maxHeartbeats 4000000
namespace BB
open PySem PySem.Spec PyProof.Rows L2
def lmore (dt : Dt) (i j : Nat) : Qt := lplus (ldot (dt.pr i) (dt.am j)) (lneg (ldot (dt.pr i) (dt.am i)))
def lplane (dt : Dt) (ns ws : List Qt) (i j : Nat) : Qt := lplus (ns.getD i q0) (ltimes (ws.getD i q0) (lmore dt i j))
structure TsOk (dt : Dt) (ns ws : List Qt) : Prop where
  ok : LDtOk dt
  ln : ns.length = dt.n
  lw : ws.length = dt.n
  rn : ∀ x ∈ ns, Red x ∧ x.2.natAbs < 2 ^ 6200
  rw : ∀ x ∈ ws, Red x ∧ x.2.natAbs < 2 ^ 6200
  wp : ∀ i, i < dt.n → 0 < (ws.getD i q0).1
  no : ∀ i, i < dt.n → OkL (ns.getD i q0)
  wo : ∀ i, i < dt.n → OkL (ws.getD i q0)
  mo : ∀ i j, i < dt.n → j < dt.n → OkL (lmore dt i j)
  to : ∀ i j, i < dt.n → j < dt.n → OkL (ltimes (ws.getD i q0) (lmore dt i j))
  po : ∀ i j, i < dt.n → j < dt.n → OkL (lplane dt ns ws i j)
  v : ∀ i j, i < dt.n → j < dt.n → qless (lplane dt ns ws i j) (ns.getD j q0) = false
  lk : ∀ l ∈ dt.links, l.1 < dt.n ∧ l.2.1 < dt.n ∧ qless (ns.getD l.1 q0) (ns.getD l.2.1 q0) = false ∧ (l.2.2 = true → ns.getD l.1 q0 ≠ ns.getD l.2.1 q0)
theorem OkL.neg {x : Qt} (h : OkL x) : OkL (lneg x) := ⟨by show (-x.1).natAbs < _; rw [Int.natAbs_neg]; exact h.1, h.2⟩
def R_taste (ds : List D) (d : D) : Prop := ∃ (dt : Dt) (ns ws : List Qt), ds = [.int (dt.goods : Int), buysD dt.buys, lksD dt.links, tasteD (ns, ws)] ∧ TsOk dt ns ws ∧ d = .bl true
theorem has_taste {M : Mo} (T : Tx M) (F : Df M "_law_taste" s_l_taste ["_law_goods", "_law_buys_here", "_law_links_here", "_law_taste_here"]) (Hare : Has M 3 "_law_are_ratios" R_areratios) (Hdot : Has M 2 "_law_dot" R_ldot) (Hless : Has M 1 "_law_below" (R_lbin fun a b => .bl (qless a b))) (Hplus : Has M 1 "_law_plus" (R_lbin fun a b => qD (lplus a b))) (Ht : Has M 1 "_law_times" (R_lbin fun a b => qD (ltimes a b))) (Hneg : Has M 1 "_law_minus" R_lneg) : Has M 4 "_law_taste" R_taste := by
  refine F.has sc_l_taste (fun ds d h => by obtain ⟨p, q, r, rfl, _⟩ := h; rfl) fun ds d h => ?_
  obtain ⟨dt, ns, ws, rfl, B, rfl⟩ := h
  have nd := sc_l_taste.nd
  have ok := B.ok
  have hn := ok.n
  have hnl := B.ln
  have hwl := B.lw
  refine ws_cons (w1_if (bb := false) (td_is (tv_or (td_not (td_val (ed_isa "tuple" true T.isi T.tuple (ed_v 3 rfl rfl)) fun _ _ => rfl)) fun _ => (tv_or1 (td_ne (ed_lenT T.len (by decide +kernel) (ed_v 3 rfl rfl)) ed_int (.int _ _)))).td (by rfl)) (fun hc => by cases hc) (fun _ => ws_nil ?_))
  refine ws_cons (w1_s 4 rfl nd (ed_i (n := (dt.n : Int)) (ed_lenL T.len (by decide +kernel) (ed_v 1 rfl rfl)) (by rw [List.length_map]; rfl)) ?_)
  refine ws_cons (w1_if (bb := false) (td_is (tv_or (td_not (td_val (ed_call Hare (by decide) (by decide +kernel) (ad_cons (ed_ixT (ed_v 3 rfl rfl) ed_int rfl) (ad_cons (ed_v 4 rfl rfl) ad_nil)) ⟨ns, by rw [hnl], B.rn, rfl⟩) fun _ _ => rfl)) fun _ => (tv_or1 (td_not (td_val (ed_call Hare (by decide) (by decide +kernel) (ad_cons (ed_ixT (ed_v 3 rfl rfl) ed_int rfl) (ad_cons (ed_v 4 rfl rfl) ad_nil)) ⟨ws, by rw [hwl], B.rw, rfl⟩) fun _ _ => rfl)))).td (by rfl)) (fun hc => by cases hc) (fun _ => ws_nil ?_))
  refine ws_cons (w1_for (fun i ρ => ∃ x5 x6 x7, ρ = [.dat (.int (dt.goods : Int)), .dat (buysD dt.buys), .dat (lksD dt.links), .dat (tasteD (ns, ws)), .dat (.int (dt.n : Int)), x5, x6, x7, .un]) (id_range T.range (by decide +kernel) (ed_v 4 rfl rfl) (by omega) (by omega)) ⟨_, _, _, rfl⟩ (fun i d ρ hd hP => ?_) (fun ρ hP => ?_))
  · obtain ⟨x5, x6, x7, rfl⟩ := hP
    obtain ⟨hi, rfl⟩ := rngD_get hd
    rw [Int.toNat_natCast] at hi
    refine ⟨_, _, gd_n 5 rfl nd, ?_⟩
    have wi := at_map (f := qD) q0 (show i < ws.length by omega)
    have ni := at_map (f := qD) q0 (show i < ns.length by omega)
    refine ws_cons (w1_if (bb := false) (td_is (td_le (ed_ixT (ed_ixL (ed_ixT (ed_v 3 rfl rfl) ed_int rfl) (ed_v 5 rfl rfl) wi) ed_int rfl) ed_int) (decide_eq_false (by have := B.wp i hi; omega))) (fun hc => by cases hc) (fun _ => ws_nil ?_))
    refine ws_one (w1_for (fun j ρ => ∃ x6 x7, ρ = [.dat (.int (dt.goods : Int)), .dat (buysD dt.buys), .dat (lksD dt.links), .dat (tasteD (ns, ws)), .dat (.int (dt.n : Int)), .dat (.int (i : Int)), x6, x7, .un]) (id_range T.range (by decide +kernel) (ed_v 4 rfl rfl) (by omega) (by omega)) ⟨_, _, rfl⟩ (fun j d ρ hd hP => ?_) (fun ρ hP => ?_))
    · obtain ⟨x6, x7, rfl⟩ := hP
      obtain ⟨hj, rfl⟩ := rngD_get hd
      rw [Int.toNat_natCast] at hj
      refine ⟨_, _, gd_n 6 rfl nd, ?_⟩
      have nj := at_map (f := qD) q0 (show j < ns.length by omega)
      refine ws_cons (w1_s 7 rfl nd (d := qD (lmore dt i j)) (ed_call Hplus (by decide) (by decide +kernel) (ad_cons (ed_call Hdot (by decide) (by decide +kernel) (ad_cons (ed_ixT (ed_ixL (ed_v 1 rfl rfl) (ed_v 5 rfl rfl) (at_map ([], []) hi)) ed_int rfl) (ad_cons (ed_ixT (ed_ixL (ed_v 1 rfl rfl) (ed_v 6 rfl rfl) (at_map ([], []) hj)) ed_int rfl) ad_nil)) ⟨_, _, rfl, ok.dot i j hi hj, rfl⟩) (ad_cons (ed_call Hneg (by decide) (by decide +kernel) (ad_cons (ed_call Hdot (by decide) (by decide +kernel) (ad_cons (ed_ixT (ed_ixL (ed_v 1 rfl rfl) (ed_v 5 rfl rfl) (at_map ([], []) hi)) ed_int rfl) (ad_cons (ed_ixT (ed_ixL (ed_v 1 rfl rfl) (ed_v 5 rfl rfl) (at_map ([], []) hi)) ed_int rfl) ad_nil)) ⟨_, _, rfl, ok.dot i i hi hi, rfl⟩) ad_nil) ⟨_, rfl, rfl⟩) ad_nil)) ⟨_, _, rfl, ok.ok hi hj, (ok.ok hi hi).neg, rfl⟩) ?_)
      refine ws_one (w1_if (bb := false) (td_is (td_val (ed_call Hless (by decide) (by decide +kernel) (ad_cons (ed_call Hplus (by decide) (by decide +kernel) (ad_cons (ed_ixL (ed_ixT (ed_v 3 rfl rfl) ed_int rfl) (ed_v 5 rfl rfl) ni) (ad_cons (ed_call Ht (by decide) (by decide +kernel) (ad_cons (ed_ixL (ed_ixT (ed_v 3 rfl rfl) ed_int rfl) (ed_v 5 rfl rfl) wi) (ad_cons (ed_v 7 rfl rfl) ad_nil)) ⟨_, _, rfl, B.wo i hi, B.mo i j hi hj, rfl⟩) ad_nil)) ⟨_, _, rfl, B.no i hi, B.to i j hi hj, rfl⟩) (ad_cons (ed_ixL (ed_ixT (ed_v 3 rfl rfl) ed_int rfl) (ed_v 6 rfl rfl) nj) ad_nil)) ⟨_, _, rfl, B.po i j hi hj, B.no j hj, rfl⟩) fun _ _ => rfl) (B.v i j hi hj)) (fun hc => by cases hc) (fun _ => ws_nil ⟨_, _, rfl⟩))
    · obtain ⟨x6, x7, rfl⟩ := hP
      exact ⟨.dat (.int (i : Int)), x6, x7, rfl⟩
  · obtain ⟨x5, x6, x7, rfl⟩ := hP
    refine ws_cons (w1_for (fun k ρ => ∃ x5 x6 x8, ρ = [.dat (.int (dt.goods : Int)), .dat (buysD dt.buys), .dat (lksD dt.links), .dat (tasteD (ns, ws)), .dat (.int (dt.n : Int)), x5, x6, x7, x8]) (id_list (ed_v 2 rfl rfl)) ⟨_, _, _, rfl⟩ (fun k d ρ hd hP => ?_) (fun ρ hP => ?_))
    · obtain ⟨x5, x6, x8, rfl⟩ := hP
      obtain ⟨l, hl, rfl⟩ := mapGet hd
      obtain ⟨g1, g2, g3, g4⟩ := B.lk l (List.mem_of_getElem? hl)
      refine ⟨_, _, gd_tup (tgd_cons (gd_n 5 rfl nd) (tgd_cons (gd_n 6 rfl nd) (tgd_cons (gd_n 8 rfl nd) tgd_nil))), ?_⟩
      have n1 := at_map (f := qD) q0 (show l.1 < ns.length by omega)
      have n2 := at_map (f := qD) q0 (show l.2.1 < ns.length by omega)
      refine ws_one (w1_if (bb := false) (td_is (tv_or (td_val (ed_call Hless (by decide) (by decide +kernel) (ad_cons (ed_ixL (ed_ixT (ed_v 3 rfl rfl) ed_int rfl) (ed_v 5 rfl rfl) n1) (ad_cons (ed_ixL (ed_ixT (ed_v 3 rfl rfl) ed_int rfl) (ed_v 6 rfl rfl) n2) ad_nil)) ⟨_, _, rfl, B.no _ g1, B.no _ g2, rfl⟩) fun _ _ => rfl) fun _ => (tv_or1 (tv_and (td_val (ed_v 8 rfl rfl) fun _ _ => rfl) fun _ => (tv_and1 (td_eqD (ed_ixL (ed_ixT (ed_v 3 rfl rfl) ed_int rfl) (ed_v 5 rfl rfl) n1) (ed_ixL (ed_ixT (ed_v 3 rfl rfl) ed_int rfl) (ed_v 6 rfl rfl) n2) rfl rfl (shaped_q _) (shaped_q _)))).td)).td (by
        rw [eqv_q, g3, Bool.false_or]
        cases hb : l.2.2 with
        | false => rfl
        | true => rw [decide_eq_false (g4 hb)]; rfl)) (fun hc => by cases hc) (fun _ => ws_nil ⟨_, _, _, rfl⟩))
    · obtain ⟨x5, x6, x8, rfl⟩ := hP
      exact ws_one (w1_ret ed_bl rfl)
structure RwOk (dt : Dt) (pr : List Qt) (m : Qt) (bs : List Qt) (rows : List (Option Bool)) (j : Nat) (c : List Nat) : Prop where
  ok : LDtOk dt
  pk : LPrOk dt pr m
  bk : LBkOk dt bs
  lr : rows.length = dt.n
  jl : j < dt.n
  br : broken dt rows bs j = true
  ch : ∃ s, ChOk dt c s ∧ (rows.getD j none = some true → s = false → qless (BB.dot pr (dt.am (c.getD 0 0))) m = true)
  z : c.getD (c.length - 1) 0 = j
  a : qless m (BB.dot pr (dt.am (c.getD 0 0))) = false
abbrev rowAnsD (j : Nat) (c : List Nat) : D := .tup [.str "row", .int (j : Int), natsD c]
def R_told (ds : List D) (d : D) : Prop := ∃ (dt : Dt) (pr : List Qt) (m : Qt) (bs : List Qt) (rows : List (Option Bool)) (j : Nat) (c : List Nat), ds = [buysD dt.buys, lksD dt.links, rowD rows, qsD pr, qD m, qsD bs, rowAnsD j c] ∧ RwOk dt pr m bs rows j c ∧ d = .bl true
theorem has_told {M : Mo} (T : Tx M) (F : Df M "_law_row_told" s_l_row_told ["_law_buys_here", "_law_links_here", "_law_rows", "_law_prices", "_law_money", "_law_basket_here", "_law_actual"]) (Hint : Has M 1 "_law_is_integer" R_isint) (Hchain : Has M 4 "_law_chain" R_lchain) (Hdot : Has M 2 "_law_dot" R_ldot) (Hless : Has M 1 "_law_below" (R_lbin fun a b => .bl (qless a b))) (Hsame : Has M 1 "_law_same" (R_lbin fun a b => .bl (lsame a b))) : Has M 5 "_law_row_told" R_told := by
  refine F.has sc_l_row_told (fun ds d h => by obtain ⟨a1, a2, a3, a4, a5, a6, a7, rfl, _⟩ := h; rfl) fun ds d h => ?_
  obtain ⟨dt, pr, m, bs, rows, j, c, rfl, B, rfl⟩ := h
  have nd := sc_l_row_told.nd
  have ok := B.ok
  have pk := B.pk
  have bk := B.bk
  have hj := B.jl
  have hlr := B.lr
  obtain ⟨s, ch, hst⟩ := B.ch
  have hc0 : 0 < c.length := List.length_pos_iff.mpr ch.1
  have hz := B.z
  have hj2 : j < dt.buys.length := hj
  have hat := at_map (f := obD) none (show j < rows.length by omega)
  have hbr := B.br
  unfold broken at hbr
  revert hat hbr hst
  generalize rows.getD j none = o
  intro hst hat hbr
  cases o with
  | none => cases hbr
  | some rs =>
    have hbr : (!keepsRow dt j rs bs) = true := hbr
    refine ws_cons (w1_if (bb := false) (td_is (tv_or (td_ne (ed_lenT T.len (by decide +kernel) (ed_v 6 rfl rfl)) ed_int (.int _ _)) fun _ => (tv_or (td_not (td_val (ed_call Hint (by decide) (by decide +kernel) (ad_cons (ed_ixT (ed_v 6 rfl rfl) ed_int rfl) ad_nil) ⟨_, rfl, rfl⟩) fun _ _ => rfl)) fun _ => (tv_or1 (td_not (td_chain ed_int (ed_ixT (ed_v 6 rfl rfl) ed_int rfl) (ed_lenL T.len (by decide +kernel) (ed_v 0 rfl rfl))))))).td (by
      rw [List.length_map, decide_eq_true (show (0 : Int) ≤ (j : Int) by omega), decide_eq_true (show (j : Int) < (dt.buys.length : Int) by omega)]; rfl)) (fun hc => by cases hc) (fun _ => ws_nil ?_))
    refine ws_cons (w1_s 7 rfl nd (ed_ixT (ed_v 6 rfl rfl) ed_int rfl) ?_)
    refine ws_cons (w1_if (td_isN (ed_ixL (ed_v 2 rfl rfl) (ed_v 7 rfl rfl) hat)) (fun hc => by cases hc) (fun _ => ws_nil ?_))
    refine ws_cons (w1_s 8 rfl nd (ed_call Hchain (by decide) (by decide +kernel) (ad_cons (ed_v 0 rfl rfl) (ad_cons (ed_v 1 rfl rfl) (ad_cons (ed_ixT (ed_v 6 rfl rfl) ed_int rfl) ad_nil))) ⟨dt, c, s, rfl, ok, ch, rfl⟩) ?_)
    refine ws_cons (w1_if (bb := false) (td_is (tv_or (td_isN (ed_v 8 rfl rfl)) fun _ => (tv_or1 (td_ne (ed_ixL (ed_ixT (ed_v 6 rfl rfl) ed_int rfl) (ed_neg ed_int) (atI_end c hc0) (by exact fun _ _ => rfl)) (ed_v 7 rfl rfl) (.int _ _)))).td (by rw [hz, decide_eq_true rfl]; rfl)) (fun hc => by cases hc) (fun _ => ws_nil ?_))
    have h0 : c.getD 0 0 < dt.n := ch.2.2.1 _ (by rw [List.getD_eq_getElem?_getD, List.getElem?_eq_getElem hc0]; exact List.getElem_mem hc0)
    refine ws_cons (w1_s 9 rfl nd (ed_call Hdot (by decide) (by decide +kernel) (ad_cons (ed_v 3 rfl rfl) (ad_cons (ed_ixT (ed_ixL (ed_v 0 rfl rfl) (ed_ixL (ed_ixT (ed_v 6 rfl rfl) ed_int rfl) ed_int (at_map (i := 0) 0 hc0)) (at_map ([], []) h0)) ed_int rfl) ad_nil)) ⟨_, _, rfl, pk.dot _ h0, rfl⟩) ?_)
    refine ws_cons (w1_if (bb := false) (td_is (td_val (ed_call Hless (by decide) (by decide +kernel) (ad_cons (ed_v 4 rfl rfl) (ad_cons (ed_v 9 rfl rfl) ad_nil)) ⟨_, _, rfl, pk.mo, pk.ok h0, rfl⟩) fun _ _ => rfl) ((pk.v2 _ h0).trans B.a)) (fun hc => by cases hc) (fun _ => ws_nil ?_))
    have ev := pk.v _ h0
    refine ws_cons (w1_if (bb := false) (td_is (tv_and (td_val (ed_ixL (ed_v 2 rfl rfl) (ed_v 7 rfl rfl) hat) fun _ _ => rfl) fun _ => (tv_and (td_not (td_val (ed_v 8 rfl rfl) fun _ _ => rfl)) fun _ => (tv_and1 (td_not (td_val (ed_call Hless (by decide) (by decide +kernel) (ad_cons (ed_v 9 rfl rfl) (ad_cons (ed_v 4 rfl rfl) ad_nil)) ⟨_, _, rfl, pk.ok h0, pk.mo, rfl⟩) fun _ _ => rfl))))).td (by
      show (rs && (!s && !qless (ldot pr (dt.am (c.getD 0 0))) m)) = false
      rw [ev]
      cases rs with
      | false => rfl
      | true =>
        cases s with
        | true => rfl
        | false => rw [hst rfl rfl]; rfl)) (fun hc => by cases hc) (fun _ => ws_nil ?_))
    refine ws_cons (w1_s 10 rfl nd (ed_call Hdot (by decide) (by decide +kernel) (ad_cons (ed_ixT (ed_ixL (ed_v 0 rfl rfl) (ed_v 7 rfl rfl) (at_map ([], []) hj)) ed_int rfl) (ad_cons (ed_v 5 rfl rfl) ad_nil)) ⟨_, _, rfl, bk.dot j hj, rfl⟩) ?_)
    refine ws_cons (w1_s 11 rfl nd (ed_call Hdot (by decide) (by decide +kernel) (ad_cons (ed_ixT (ed_ixL (ed_v 0 rfl rfl) (ed_v 7 rfl rfl) (at_map ([], []) hj)) ed_int rfl) (ad_cons (ed_ixT (ed_ixL (ed_v 0 rfl rfl) (ed_v 7 rfl rfl) (at_map ([], []) hj)) ed_int rfl) ad_nil)) ⟨_, _, rfl, ok.dot j j hj hj, rfl⟩) ?_)
    have e1 := bk.v j hj
    have e2 := bk.v2 j hj
    refine ws_one (w1_ret (ed_or (ed_call Hless (by decide) (by decide +kernel) (ad_cons (ed_v 10 rfl rfl) (ad_cons (ed_v 11 rfl rfl) ad_nil)) ⟨_, _, rfl, bk.ok hj, ok.ok hj hj, rfl⟩) fun _ => (ed_one (ed_and (ed_isT (ed_ixL (ed_v 2 rfl rfl) (ed_v 7 rfl rfl) hat) (obD_nb _)) fun _ => (ed_one (ed_call Hsame (by decide) (by decide +kernel) (ad_cons (ed_v 10 rfl rfl) (ad_cons (ed_v 11 rfl rfl) ad_nil)) ⟨_, _, rfl, bk.ok hj, ok.ok hj hj, rfl⟩))))) ?_)
    show D.bl (qless (ldot (dt.pr j) bs) (ldot (dt.pr j) (dt.am j)) || ((obD (some rs)).isT && lsame (ldot (dt.pr j) bs) (ldot (dt.pr j) (dt.am j)))) = D.bl true
    rw [obD_isT, lsame_less, e1, e2]
    unfold keepsRow at hbr
    rw [qatm_less] at hbr
    congr 1
    cases rs with
    | false =>
      have hbr : (!!qless (BB.dot (dt.pr j) bs) (spt dt j)) = true := hbr
      rw [Bool.not_not] at hbr
      rw [hbr]; rfl
    | true =>
      have hbr : (!qless (spt dt j) (BB.dot (dt.pr j) bs)) = true := hbr
      rw [show (some true == some true) = true from rfl, hbr, Bool.and_true, Bool.true_and]
      cases qless (BB.dot (dt.pr j) bs) (spt dt j) <;> rfl
structure LawOk (row : List Nat) : Prop where
  wd : WdOk row
  bs : BsOk (row.drop 60) (wP row) (wM row)
  by_ : ByOk (wD row) (wP row) (wM row) (lbasket (row.drop 60) (wP row) (wM row))
  ld : LDtOk (wD row)
  lp : LPrOk (wD row) (wP row) (wM row)
  lb : LBkOk (wD row) (lbasket (row.drop 60) (wP row) (wM row))
  cl : lleads (table (wD row)) = leads (wD row)
  ring : ∀ i, ringAt (wD row) = some i → ∃ c, findChain (wD row) i i = some c ∧ ChOk (wD row) c true ∧ 1 < c.length ∧ c.getD 0 0 = c.getD (c.length - 1) 0
  rowt : ∀ j, ringAt (wD row) = none → firstBroken (wD row) (reached (wD row) (wP row) (wM row)) (lbasket (row.drop 60) (wP row) (wM row)) = some j →
    ∃ c, reachChain (wD row) (wP row) (wM row) j = some c ∧ RwOk (wD row) (wP row) (wM row) (lbasket (row.drop 60) (wP row) (wM row)) (reached (wD row) (wP row) (wM row)) j c
  nr : ringAt (wD row) = none → firstBroken (wD row) (reached (wD row) (wP row) (wM row)) (lbasket (row.drop 60) (wP row) (wM row)) = none → ringAt (moreD (wD row) (wP row) (lbasket (row.drop 60) (wP row) (wM row))) = none
  ts : ringAt (wD row) = none → firstBroken (wD row) (reached (wD row) (wP row) (wM row)) (lbasket (row.drop 60) (wP row) (wM row)) = none →
    TsOk (moreD (wD row) (wP row) (lbasket (row.drop 60) (wP row) (wM row))) (makeTaste (moreD (wD row) (wP row) (lbasket (row.drop 60) (wP row) (wM row))) (leads (moreD (wD row) (wP row) (lbasket (row.drop 60) (wP row) (wM row))))).1
      (makeTaste (moreD (wD row) (wP row) (lbasket (row.drop 60) (wP row) (wM row))) (leads (moreD (wD row) (wP row) (lbasket (row.drop 60) (wP row) (wM row))))).2
def R_law (ds : List D) (d : D) : Prop := ∃ ns : List Int, ds = [.scr ns] ∧ ns.length ≤ 63 ∧ LawOk (rowN ns 70) ∧ d = .bl true
theorem any_find (p : Nat → Bool) : ∀ l : List Nat, l.any p = (l.find? p).isSome
  | [] => rfl
  | x :: l => by
    rw [List.any_cons, List.find?_cons]
    cases p x with
    | true => rfl
    | false => rw [Bool.false_or]; exact any_find p l
theorem has_law {M : Mo} (T : Tx M) (X : Dx M) {f : Addr} {fd : FuncData} (F : Fun M.K "law" "law" s_law f fd) (Hrow : Has M 1 "_law_row" R_row) (Hworld : Has M 6 "_law_world" R_world) (Hbasket : Has M 4 "_law_basket" R_basket) (Hcopy : Has M 1 "_law_copy" R_lcopy) (Hbuys : Has M 9 "buys" R_buys) (Hunch : Has M 1 "_law_unchanged" R_unch) (Hleads : Has M 4 "_law_leads" R_lleads) (Hring : Has M 1 "_law_has_ring" R_hasring) (His : Has M 5 "_law_is_ring" R_isring) (Hreached : Has M 5 "_law_reached" R_lreached) (Hkeeps : Has M 3 "_law_keeps" R_lkeeps) (Htaste : Has M 4 "_law_taste" R_taste) (Htold : Has M 5 "_law_row_told" R_told) : FnOk M.P M.w M.K M.mg M.base CX0 10 f fd ["_law_script"] (spD M R_law) := by
  refine def_ok F sc_law (fun ds d h => by obtain ⟨p, rfl, _⟩ := h; rfl) fun ds d h => ?_
  obtain ⟨ns, rfl, hl, L, rfl⟩ := h
  have nd := sc_law.nd
  refine ws_cons (w1_s 1 rfl nd (ed_call Hrow (by decide) (by decide +kernel) (ad_cons (ed_v 0 rfl rfl) (ad_cons ed_int ad_nil)) ⟨ns, rfl, hl, rfl⟩) ?_)
  revert L
  generalize rowN ns 70 = row
  intro L
  refine ws_cons (w1_asg (ed_call Hworld (by decide) (by decide +kernel) (ad_cons (ed_v 1 rfl rfl) ad_nil) ⟨row, rfl, L.wd, rfl⟩) (gd_tup (tgd_cons (gd_n 2 rfl nd) (tgd_cons (gd_n 3 rfl nd) (tgd_cons (gd_n 4 rfl nd) (tgd_cons (gd_n 5 rfl nd) (tgd_cons (gd_n 6 rfl nd) tgd_nil)))))) ?_)
  refine ws_cons (w1_s 7 rfl nd (ed_call Hbasket (by decide) (by decide +kernel) (ad_cons (en_from (f := nD) (m := 60) (ed_v 1 rfl rfl) ed_int).ed (ad_cons (ed_v 5 rfl rfl) (ad_cons (ed_v 6 rfl rfl) ad_nil))) ⟨row.drop 60, wP row, wM row, rfl, L.bs, rfl⟩) ?_)
  obtain ⟨_, _, B, ld, lp, lb, cl, ring, rowt, nr, ts⟩ := L
  show WS _ _ _ [.dat (.scr ns), .dat (natsD row), .dat (.int ((wD row).goods : Int)), .dat (buysD (wD row).buys), .dat (lksD (wD row).links), .dat (qsD (wP row)), .dat (qD (wM row)), .dat (qsD (lbasket (row.drop 60) (wP row) (wM row))), .un, .un, .un, .un, .un]
  revert B ld lp lb cl ring rowt nr ts
  generalize wD row = dt
  generalize lbasket (row.drop 60) (wP row) (wM row) = bs
  generalize wP row = pr
  generalize wM row = m
  intro B ld lp lb cl ring rowt nr ts
  have hn : dt.n ≤ 10 := B.dn
  have hnb : dt.buys.length ≤ 10 := hn
  refine ws_cons (w1_s 8 rfl nd (d := datD dt) (ed_data T X dt (by omega) (by decide) (ad_cons (ed_v 2 rfl rfl) (ad_cons (ed_call Hcopy (by decide) (by decide +kernel) (ad_cons (ed_v 3 rfl rfl) ad_nil) ⟨dt.buys, rfl, by omega, rfl⟩) (ad_cons (en_list T.list (by decide +kernel) (ed_v 4 rfl rfl)).ed ad_nil)))) ?_)
  refine ws_cons (w1_s 9 rfl nd (ed_call Hbuys (by decide) (by decide +kernel) (ad_cons (ed_v 8 rfl rfl) (ad_cons (en_list T.list (by decide +kernel) (ed_v 5 rfl rfl)).ed (ad_cons (ed_v 6 rfl rfl) (ad_cons (en_list T.list (by decide +kernel) (ed_v 7 rfl rfl)).ed ad_nil)))) ⟨dt, pr, m, bs, rfl, B, rfl⟩) ?_)
  have hT : ∃ es, byD dt pr m bs = .tup es ∧ 2 ≤ es.length := by
    unfold byD
    split
    · exact ⟨_, rfl, Nat.le_refl _⟩
    · split
      · exact ⟨_, rfl, Nat.le_of_ble_eq_true rfl⟩
      · unfold ckD
        split
        · exact ⟨_, rfl, Nat.le_refl _⟩
        · exact ⟨_, rfl, Nat.le_refl _⟩
  obtain ⟨es, hes, hel⟩ := hT
  rw [hes]
  refine ws_cons (w1_if (bb := false) (td_is (tv_or (td_not (td_val (ed_isa "tuple" true T.isi T.tuple (ed_v 9 rfl rfl)) fun _ _ => rfl)) fun _ => (tv_or (td_lt (ed_lenT T.len (by decide +kernel) (ed_v 9 rfl rfl)) ed_int) fun _ => (tv_or1 (td_not (td_val (ed_call Hunch (by decide) (by decide +kernel) (ad_cons (ed_v 8 rfl rfl) (ad_cons (ed_v 2 rfl rfl) (ad_cons (ed_v 3 rfl rfl) (ad_cons (ed_v 4 rfl rfl) ad_nil)))) ⟨dt, rfl, by omega, rfl⟩) fun _ _ => rfl))))).td (by rw [decide_eq_false (by omega)]; rfl)) (fun hc => by cases hc) (fun _ => ws_nil ?_))
  rw [← hes]
  clear hes hel es
  refine ws_cons (w1_s 10 rfl nd (d := tabD (leads dt)) (ed_call Hleads (by decide) (by decide +kernel) (ad_cons (ed_v 3 rfl rfl) (ad_cons (ed_v 4 rfl rfl) ad_nil)) ⟨dt, rfl, ld, by rw [cl]⟩) ?_)
  obtain ⟨sq, hsl⟩ := leads_sq (d := dt) (by omega)
  have hro : ringAt dt = (List.range (leads dt).length).find? fun i => tb (leads dt) i i == some true := by unfold ringAt; rw [hsl]
  refine ws_cons (w1_if (bb := (ringAt dt).isSome) (td_is (td_val (ed_call Hring (by decide) (by decide +kernel) (ad_cons (ed_v 10 rfl rfl) ad_nil) ⟨leads dt, rfl, sq, rfl⟩) fun _ _ => rfl) (by rw [hro]; exact any_find _ _)) (fun hc => ?_) (fun hc => ws_nil ?_))
  · obtain ⟨i, hi⟩ := Option.isSome_iff_exists.mp hc
    obtain ⟨c, h1, h2, h3, h4⟩ := ring i hi
    have e : byD dt pr m bs = .tup [.str "ring", natsD c] := by unfold byD; rw [hi]; show D.tup [_, ochD (findChain dt i i)] = _; rw [h1]; rfl
    rw [e]
    refine ws_one (w1_ret (ed_and (ed_eq (ed_ixT (ed_v 9 rfl rfl) ed_int rfl) ed_str (.str _ _)) fun _ => (ed_and (ed_eq (ed_lenT T.len (by decide +kernel) (ed_v 9 rfl rfl)) ed_int (.int _ _)) fun _ => (ed_one (ed_call His (by decide) (by decide +kernel) (ad_cons (ed_v 3 rfl rfl) (ad_cons (ed_v 4 rfl rfl) (ad_cons (ed_ixT (ed_v 9 rfl rfl) ed_int rfl) ad_nil))) ⟨dt, c, rfl, ld, h2, h3, h4, rfl⟩)))) rfl)
  · have hi : ringAt dt = none := by
      cases h : ringAt dt with
      | none => rfl
      | some i => rw [h] at hc; cases hc
    have rowt := rowt
    have nr := nr hi
    have ts := ts hi
    refine ws_cons (w1_s 11 rfl nd (ed_call Hreached (by decide) (by decide +kernel) (ad_cons (ed_v 3 rfl rfl) (ad_cons (ed_v 4 rfl rfl) (ad_cons (ed_v 5 rfl rfl) (ad_cons (ed_v 6 rfl rfl) ad_nil)))) ⟨dt, pr, m, rfl, ld, lp, cl, rfl⟩) ?_)
    refine ws_cons (w1_if (td_val (ed_call Hkeeps (by decide) (by decide +kernel) (ad_cons (ed_v 3 rfl rfl) (ad_cons (ed_v 11 rfl rfl) (ad_cons (ed_v 7 rfl rfl) (ad_cons ed_bl ad_nil)))) ⟨dt, reached dt pr m, bs, rfl, ld, lb, reached_len, rfl⟩) fun _ _ => rfl) (fun hc => ?_) (fun hc => ws_nil ?_))
    · have hf : firstBroken dt (reached dt pr m) bs = none := Option.isNone_iff_eq_none.mp hc
      have e : byD dt pr m bs = .tup [.str "taste", tasteD (makeTaste (moreD dt pr bs) (leads (moreD dt pr bs)))] := by
        unfold byD
        rw [hi]
        show (match firstBroken dt (reached dt pr m) bs with | some j => D.tup [_, _, _] | none => ckD (moreD dt pr bs)) = _
        rw [hf]
        show ckD _ = _
        unfold ckD
        rw [nr hf]
      rw [e]
      have hb1 : (buysD dt.buys) = D.lst (dt.buys.map buyD) := rfl
      refine ws_cons (w1_n 12 rfl nd (en_cat (ed_v 3 rfl rfl) (en_lst (ad_cons (ed_tup (ad_cons (ed_v 5 rfl rfl) (ad_cons (ed_v 7 rfl rfl) ad_nil)) len_ok) ad_nil) len_ok).ed (by rw [List.length_map, List.length_singleton]; omega)) ?_)
      refine ws_freeze 12 ?_
      have hmb : D.lst (dt.buys.map buyD ++ [buyD (pr, bs)]) = buysD (moreD dt pr bs).buys := by
        unfold moreD
        show _ = D.lst ((dt.buys ++ [(pr, bs)]).map buyD)
        rw [List.map_append]; rfl
      show WS _ _ _ [_, _, _, _, _, _, _, _, _, _, _, _, .dat (D.lst (dt.buys.map buyD ++ [buyD (pr, bs)]))]
      rw [hmb]
      refine ws_one (w1_ret (ed_and (ed_eq (ed_ixT (ed_v 9 rfl rfl) ed_int rfl) ed_str (.str _ _)) fun _ => (ed_and (ed_eq (ed_lenT T.len (by decide +kernel) (ed_v 9 rfl rfl)) ed_int (.int _ _)) fun _ => (ed_one (ed_call Htaste (by decide) (by decide +kernel) (ad_cons (ed_v 2 rfl rfl) (ad_cons (ed_v 12 rfl rfl) (ad_cons (ed_v 4 rfl rfl) (ad_cons (ed_ixT (ed_v 9 rfl rfl) ed_int rfl) ad_nil)))) ⟨moreD dt pr bs, _, _, rfl, ts hf, rfl⟩)))) rfl)
    · have hf : ∃ j, firstBroken dt (reached dt pr m) bs = some j := by
        cases h : firstBroken dt (reached dt pr m) bs with
        | none => rw [h] at hc; cases hc
        | some j => exact ⟨j, rfl⟩
      obtain ⟨j, hf⟩ := hf
      obtain ⟨c, h1, h2⟩ := rowt j hi hf
      have e : byD dt pr m bs = rowAnsD j c := by
        unfold byD
        rw [hi]
        show (match firstBroken dt (reached dt pr m) bs with | some j => D.tup [.str "row", .int (j : Int), ochD (reachChain dt pr m j)] | none => ckD (moreD dt pr bs)) = _
        rw [hf]
        show D.tup [_, _, ochD (reachChain dt pr m j)] = _
        rw [h1]; rfl
      rw [e]
      exact ws_one (w1_ret (ed_and (ed_eq (ed_ixT (ed_v 9 rfl rfl) ed_int rfl) ed_str (.str _ _)) fun _ => (ed_one (ed_call Htold (by decide) (by decide +kernel) (ad_cons (ed_v 3 rfl rfl) (ad_cons (ed_v 4 rfl rfl) (ad_cons (ed_v 11 rfl rfl) (ad_cons (ed_v 5 rfl rfl) (ad_cons (ed_v 6 rfl rfl) (ad_cons (ed_v 7 rfl rfl) (ad_cons (ed_v 9 rfl rfl) ad_nil))))))) ⟨dt, pr, m, bs, reached dt pr m, j, c, rfl, h2, rfl⟩))) rfl)
end BB
set_option Elab.async false
set_option linter.all false
set_option maxRecDepth 100000
set_option maxHeartbeats 4000000
namespace BB
open PySem PySem.Spec PyProof.Rows L2
abbrev KOf {K : PySem.W.Frag} {h : Heap} (_ : K.In h) : PySem.W.Frag := K
def DfK (K : PySem.W.Frag) (mg : Str → Option Value) (x : Str) (st : Stmt) (ps : List Str) : Prop := ∃ f fd, Fun K x x st f fd ∧ mg x = some (.ref f) ∧ Binds K fd ps []
theorem df_mk {K : PySem.W.Frag} {h : Heap} {mg : Str → Option Value} {x : Str} {st : Stmt} (ps : List Str) {f : Addr} {oc : Value} {od an : Option Addr} {osl : Array (Option Value)} {kV doc pm cdv ct : Value} (X : K.In h) (G : h.Ns mainGlobals mg)
    (a : PySem.W.nsIn K mainGlobals x = some (some (.ref f))) (l : K.lookup f = some ⟨oc, od, .func (PySem.W.fnOf x x (defArgs st) (defBody st) (defScope st) .none kV doc pm an cdv ct), osl⟩) (c : PySem.W.codeIn K cdv x = true) (k : PySem.W.keepIn K (.ref f) = true)
    (hb : ∀ (kV doc pm : Value) (an : Option Addr) (cdv ct : Value) (us : List Value), us.length = ps.length → bindArgs (PySem.W.fnOf x x (defArgs st) (defBody st) (defScope st) .none kV doc pm an cdv ct) ⟨us, []⟩ = pure (ps.zip us)) : DfK K mg x st ps :=
  ⟨f, _, fun_mk l c k, PySem.W.mg_of X G a, (fun_mk l c k).binds hb⟩
theorem df_step {goal : Prop} {K : PySem.W.Frag} {h : Heap} {mg : Str → Option Value} {x : Str} {st : Stmt} (ps : List Str) {f : Addr} {oc : Value} {od an : Option Addr} {osl : Array (Option Value)} {kV doc pm cdv ct : Value} (X : K.In h) (G : h.Ns mainGlobals mg)
    (a : PySem.W.nsIn K mainGlobals x = some (some (.ref f))) (l : K.lookup f = some ⟨oc, od, .func (PySem.W.fnOf x x (defArgs st) (defBody st) (defScope st) .none kV doc pm an cdv ct), osl⟩) (c : PySem.W.codeIn K cdv x = true) (k : PySem.W.keepIn K (.ref f) = true)
    (hb : ∀ (kV doc pm : Value) (an : Option Addr) (cdv ct : Value) (us : List Value), us.length = ps.length → bindArgs (PySem.W.fnOf x x (defArgs st) (defBody st) (defScope st) .none kV doc pm an cdv ct) ⟨us, []⟩ = pure (ps.zip us)) (cont : DfK K mg x st ps → goal) : goal := cont (df_mk ps X G a l c k hb)
def CstK (K : PySem.W.Frag) (mg : Str → Option Value) (x : Str) (q : Qt) : Prop := ∃ (a : Addr) (o : Obj) (its : Array Value) (n : Nat), mg x = some (.ref a) ∧ K.lookup a = some o ∧ o.cls = .type "tuple" ∧ o.data = .seq its n ∧ its.size ≤ sizeLine ∧ Vals [.int q.1, .int q.2] its.toList
theorem CstK.cst {M : Mo} {x : Str} {q : Qt} (h : CstK M.K M.mg x q) : Cst M x (qD q) := by
  obtain ⟨a, o, its, n, h1, h2, h3, h4, h5, h6⟩ := h
  exact ⟨.ref a, .ref a, h1, rfl, fun G => ⟨a, [.int q.1, .int q.2], rfl, .inr ⟨o, its, n, h2, h3, h4, h5, h6⟩, ⟨_, _, rfl, rfl, ⟨_, _, rfl, rfl, rfl⟩⟩⟩⟩
structure AllK (K : PySem.W.Frag) (mg : Str → Option Value) (C : Addr) : Prop where
  zero : CstK K mg "ZERO" q0
  one : CstK K mg "ONE" q1
  gcd : mg "gcd" = some (.builtin "math.gcd")
  len : mg "len" = none
  range : mg "range" = none
  int : mg "int" = none
  abs : mg "abs" = none
  list : mg "list" = none
  isi : mg "isinstance" = none
  bool : mg "bool" = none
  tuple : mg "tuple" = none
  cl : Cls K C
  g : NoAttr K C "goods"
  b : NoAttr K C "buys"
  l : NoAttr K C "links"
  dmg : mg "Data" = some (.ref C)
  dex : ∃ f fd, Mk K C f ∧ Fun K "__init__" "Data.__init__" s_Data_init f fd ∧ Binds K fd ["self", "goods", "buys", "links"] []
  d_ratio : DfK K mg "ratio" s_ratio ["p", "q"]
  d_add : DfK K mg "add" s_add ["a", "b"]
  d_sub : DfK K mg "sub" s_sub ["a", "b"]
  d_mul : DfK K mg "mul" s_mul ["a", "b"]
  d_div : DfK K mg "div" s_div ["a", "b"]
  d_less : DfK K mg "less" s_less ["a", "b"]
  d_at_most : DfK K mg "at_most" s_at_most ["a", "b"]
  d_dot : DfK K mg "dot" s_dot ["a", "b"]
  d_cost : DfK K mg "cost" s_cost ["prices", "amounts"]
  d_spent : DfK K mg "spent" s_spent ["data", "i"]
  d_step : DfK K mg "step" s_step ["data", "i", "j"]
  d_step_table : DfK K mg "step_table" s_step_table ["data"]
  d_find_in : DfK K mg "find_in" s_find_in ["table", "i"]
  d_leads : DfK K mg "leads" s_leads ["data"]
  d_find_chain : DfK K mg "find_chain" s_find_chain ["data", "i", "j"]
  d_reached : DfK K mg "reached" s_reached ["data", "prices", "money"]
  d_reach_chain : DfK K mg "reach_chain" s_reach_chain ["data", "prices", "money", "j"]
  d_keeps_row : DfK K mg "keeps_row" s_keeps_row ["data", "j", "strict", "basket"]
  d_first_broken : DfK K mg "first_broken" s_first_broken ["data", "rows", "basket"]
  d_plane : DfK K mg "plane" s_plane ["data", "taste", "i", "basket"]
  d_next_class : DfK K mg "next_class" s_next_class ["table", "done"]
  d_class_number : DfK K mg "class_number" s_class_number ["data", "taste", "done", "members"]
  d_member_weight : DfK K mg "member_weight" s_member_weight ["data", "numbers", "done", "number", "j"]
  d_make_taste : DfK K mg "make_taste" s_make_taste ["data", "table"]
  d_check : DfK K mg "check" s_check ["data"]
  d_buys : DfK K mg "buys" s_buys ["data", "prices", "money", "basket"]
  d_l_is_integer : DfK K mg "_law_is_integer" s_l_is_integer ["_law_actual"]
  d_l_row : DfK K mg "_law_row" s_l_row ["_law_script", "_law_count"]
  d_l_common : DfK K mg "_law_common" s_l_common ["_law_a", "_law_b"]
  d_l_ratio : DfK K mg "_law_ratio" s_l_ratio ["_law_p", "_law_q"]
  d_l_is_ratio : DfK K mg "_law_is_ratio" s_l_is_ratio ["_law_actual"]
  d_l_are_ratios : DfK K mg "_law_are_ratios" s_l_are_ratios ["_law_actual", "_law_count"]
  d_l_plus : DfK K mg "_law_plus" s_l_plus ["_law_a", "_law_b"]
  d_l_times : DfK K mg "_law_times" s_l_times ["_law_a", "_law_b"]
  d_l_minus : DfK K mg "_law_minus" s_l_minus ["_law_a"]
  d_l_below : DfK K mg "_law_below" s_l_below ["_law_a", "_law_b"]
  d_l_same : DfK K mg "_law_same" s_l_same ["_law_a", "_law_b"]
  d_l_dot : DfK K mg "_law_dot" s_l_dot ["_law_a", "_law_b"]
  d_l_price : DfK K mg "_law_price" s_l_price ["_law_number"]
  d_l_amount : DfK K mg "_law_amount" s_l_amount ["_law_number"]
  d_l_buy : DfK K mg "_law_buy" s_l_buy ["_law_row_here", "_law_goods"]
  d_l_buys : DfK K mg "_law_buys" s_l_buys ["_law_row_here", "_law_goods", "_law_count"]
  d_l_links : DfK K mg "_law_links" s_l_links ["_law_row_here", "_law_count"]
  d_l_copy : DfK K mg "_law_copy" s_l_copy ["_law_buys_here"]
  d_l_step : DfK K mg "_law_step" s_l_step ["_law_buys_here", "_law_links_here", "_law_i", "_law_j"]
  d_l_leads : DfK K mg "_law_leads" s_l_leads ["_law_buys_here", "_law_links_here"]
  d_l_has_ring : DfK K mg "_law_has_ring" s_l_has_ring ["_law_table"]
  d_l_chain : DfK K mg "_law_chain" s_l_chain ["_law_buys_here", "_law_links_here", "_law_chain_here"]
  d_l_is_ring : DfK K mg "_law_is_ring" s_l_is_ring ["_law_buys_here", "_law_links_here", "_law_chain_here"]
  d_l_reached : DfK K mg "_law_reached" s_l_reached ["_law_buys_here", "_law_links_here", "_law_prices", "_law_money"]
  d_l_keeps : DfK K mg "_law_keeps" s_l_keeps ["_law_buys_here", "_law_rows", "_law_basket_here", "_law_weakly"]
  d_l_world : DfK K mg "_law_world" s_l_world ["_law_row_here"]
  d_l_unchanged : DfK K mg "_law_unchanged" s_l_unchanged ["_law_data", "_law_goods", "_law_buys_here", "_law_links_here"]
  d_l_basket : DfK K mg "_law_basket" s_l_basket ["_law_row_here", "_law_prices", "_law_money"]
  d_l_taste : DfK K mg "_law_taste" s_l_taste ["_law_goods", "_law_buys_here", "_law_links_here", "_law_taste_here"]
  d_l_row_told : DfK K mg "_law_row_told" s_l_row_told ["_law_buys_here", "_law_links_here", "_law_rows", "_law_prices", "_law_money", "_law_basket_here", "_law_actual"]
theorem law_fn {P : Program} {w : World} {K : PySem.W.Frag} {mg : Str → Option Value} {base : Heap} {C : Addr} (A : AllK K mg C) {f : Addr} {fd : FuncData} (F : Fun K "law" "law" s_law f fd) : FnOk P w K mg base CX0 10 f fd ["_law_script"] (spD ⟨P, w, K, mg, base, C⟩ R_law) := by
  have T : Tx ⟨P, w, K, mg, base, C⟩ := ⟨CstK.cst A.zero, CstK.cst A.one, A.gcd, A.len, A.range, A.int, A.abs, A.list, A.isi, A.bool, A.tuple, ⟨A.cl, A.g, A.b, A.l⟩⟩
  have X : Dx ⟨P, w, K, mg, base, C⟩ := ⟨A.dex, A.dmg⟩
  have h_ratio := has_ratio T ⟨A.d_ratio⟩
  have h_add := has_add T ⟨A.d_add⟩ h_ratio
  have h_sub := has_sub T ⟨A.d_sub⟩ h_ratio
  have h_mul := has_mul T ⟨A.d_mul⟩ h_ratio
  have h_div := has_div T ⟨A.d_div⟩ h_ratio
  have h_less := has_less T ⟨A.d_less⟩
  have h_at_most := has_atm T ⟨A.d_at_most⟩
  have h_dot := has_dot T ⟨A.d_dot⟩ h_add h_mul
  have h_cost := has_cost T ⟨A.d_cost⟩ h_dot
  have h_spent := has_spent T ⟨A.d_spent⟩ h_dot
  have h_step := has_step T ⟨A.d_step⟩ h_cost h_spent h_at_most h_less
  have h_step_table := has_table T ⟨A.d_step_table⟩ h_step
  have h_find_in := has_find T ⟨A.d_find_in⟩
  have h_leads := has_leads T ⟨A.d_leads⟩ h_step_table h_find_in
  have h_find_chain := has_chain T ⟨A.d_find_chain⟩ h_step_table h_find_in
  have h_reached := has_reached T ⟨A.d_reached⟩ h_leads h_cost h_at_most h_less
  have h_reach_chain := has_rchain T ⟨A.d_reach_chain⟩ h_leads h_find_chain h_cost h_at_most h_less
  have h_keeps_row := has_keeps T ⟨A.d_keeps_row⟩ h_cost h_spent h_at_most h_less
  have h_first_broken := has_broken T ⟨A.d_first_broken⟩ h_keeps_row
  have h_plane := has_plane T ⟨A.d_plane⟩ h_cost h_spent h_add h_sub h_mul
  have h_next_class := has_next T ⟨A.d_next_class⟩
  have h_class_number := has_number T ⟨A.d_class_number⟩ h_plane h_less h_sub
  have h_member_weight := has_weight T ⟨A.d_member_weight⟩ h_spent h_cost h_less h_sub h_div
  have h_make_taste := has_make T ⟨A.d_make_taste⟩ h_next_class h_class_number h_member_weight
  have h_check := has_check T ⟨A.d_check⟩ h_leads h_find_chain h_make_taste
  have h_buys := has_buys T X ⟨A.d_buys⟩ h_cost h_check h_first_broken h_reached h_reach_chain
  have h_l_is_integer := has_isint T ⟨A.d_l_is_integer⟩
  have h_l_common := has_lcommon T ⟨A.d_l_common⟩
  have h_l_ratio := has_lratio T ⟨A.d_l_ratio⟩ h_l_common
  have h_l_is_ratio := has_isratio T ⟨A.d_l_is_ratio⟩ h_l_is_integer h_l_common
  have h_l_are_ratios := has_areratios T ⟨A.d_l_are_ratios⟩ h_l_is_ratio
  have h_l_plus := has_lplus T ⟨A.d_l_plus⟩
  have h_l_times := has_ltimes T ⟨A.d_l_times⟩
  have h_l_minus := has_lneg T ⟨A.d_l_minus⟩
  have h_l_below := has_lbelow T ⟨A.d_l_below⟩
  have h_l_same := has_lsame T ⟨A.d_l_same⟩
  have h_l_dot := has_ldot T ⟨A.d_l_dot⟩ h_l_plus h_l_times
  have h_l_row := has_row T ⟨A.d_l_row⟩
  have h_l_price := has_lprice T ⟨A.d_l_price⟩ h_l_ratio
  have h_l_amount := has_lamount T ⟨A.d_l_amount⟩ h_l_ratio
  have h_l_buy := has_lbuy T ⟨A.d_l_buy⟩ h_l_price h_l_amount
  have h_l_buys := has_lbuys T ⟨A.d_l_buys⟩ h_l_buy
  have h_l_links := has_llinks T ⟨A.d_l_links⟩
  have h_l_copy := has_lcopy T ⟨A.d_l_copy⟩
  have h_l_step := has_lstep T ⟨A.d_l_step⟩ h_l_dot h_l_below
  have h_l_leads := has_lleads T ⟨A.d_l_leads⟩ h_l_step
  have h_l_has_ring := has_hasring T ⟨A.d_l_has_ring⟩
  have h_l_chain := has_lchain T ⟨A.d_l_chain⟩ h_l_is_integer h_l_step
  have h_l_is_ring := has_isring T ⟨A.d_l_is_ring⟩ h_l_chain
  have h_l_reached := has_lreached T ⟨A.d_l_reached⟩ h_l_leads h_l_dot h_l_below
  have h_l_keeps := has_lkeeps T ⟨A.d_l_keeps⟩ h_l_dot h_l_below h_l_same
  have h_l_unchanged := has_unch T ⟨A.d_l_unchanged⟩
  have h_l_world := has_world T ⟨A.d_l_world⟩ h_l_buys h_l_links h_l_price h_l_ratio h_l_dot
  have h_l_basket := has_basket T ⟨A.d_l_basket⟩ h_l_amount h_l_ratio h_l_dot h_l_times
  have h_l_taste := has_taste T ⟨A.d_l_taste⟩ h_l_are_ratios h_l_dot h_l_below h_l_plus h_l_times h_l_minus
  have h_l_row_told := has_told T ⟨A.d_l_row_told⟩ h_l_is_integer h_l_chain h_l_dot h_l_below h_l_same
  exact has_law T X F h_l_row h_l_world h_l_basket h_l_copy h_buys h_l_unchanged h_l_leads h_l_has_ring h_l_is_ring h_l_reached h_l_keeps h_l_taste h_l_row_told
def spLaw (K : PySem.W.Frag) : Sp := fun vs H Q _ => ∃ (a : Addr) (ns : List Int), vs = [.ref a] ∧ SqL K H a (ns.map V.int) ∧ ns.length ≤ 63 ∧ ∀ H', Q (.bl true) H'
theorem law_sp {P : Program} {w : World} {K : PySem.W.Frag} {mg : Str → Option Value} {base : Heap} {C : Addr} {f : Addr} {fd : FuncData} {k : Nat} (L : ∀ ns : List Int, LawOk (rowN ns 70)) (F : FnOk P w K mg base CX0 k f fd ["_law_script"] (spD ⟨P, w, K, mg, base, C⟩ R_law)) : FnOk P w K mg base CX0 k f fd ["_law_script"] (spLaw K) :=
  F.imp fun vs H Q E h => by
    obtain ⟨a, ns, rfl, hS, hl, q⟩ := h
    exact ⟨H, [.scr ns], .bl true, Same.refl H, ⟨_, _, rfl, ⟨a, rfl, hS⟩, rfl⟩, ⟨ns, rfl, hl, L ns, rfl⟩, fun v H' G' _ r => by cases (show v = V.bl true from r); exact q H'⟩
theorem cst_mk {K : PySem.W.Frag} {h : Heap} {mg : Str → Option Value} {x : Str} {q : Qt} {a : Addr} {od : Option Addr} {its : Array Value} {n : Nat} {sl : Array (Option Value)} (X : K.In h) (G : h.Ns mainGlobals mg)
    (e : PySem.W.nsIn K mainGlobals x = some (some (.ref a))) (l : K.lookup a = some ⟨.type "tuple", od, .seq its n, sl⟩) (hs : its.size ≤ sizeLine) (hv : Vals [.int q.1, .int q.2] its.toList) : CstK K mg x q := ⟨a, _, its, n, PySem.W.mg_of X G e, l, rfl, rfl, hs, hv⟩
theorem nat_mk {K : PySem.W.Frag} {C : Addr} {f : Str} (h : PySem.W.findIn K (.ref C) f = some none) : NoAttr K C f := h
theorem cst_step {goal : Prop} {K : PySem.W.Frag} {h : Heap} {mg : Str → Option Value} (x : Str) (q : Qt) {a : Addr} {od : Option Addr} {its : Array Value} {n : Nat} {sl : Array (Option Value)} (X : K.In h) (G : h.Ns mainGlobals mg)
    (e : PySem.W.nsIn K mainGlobals x = some (some (.ref a))) (l : K.lookup a = some ⟨.type "tuple", od, .seq its n, sl⟩) (hs : its.size ≤ sizeLine) (hv : Vals [.int q.1, .int q.2] its.toList) (cont : CstK K mg x q → goal) : goal := cont (cst_mk X G e l hs hv)
theorem dex_mk {K : PySem.W.Frag} {C : Addr} {f : Addr} {oc : Value} {od an : Option Addr} {osl : Array (Option Value)} {kV doc pm cdv ct : Value} (mk : PySem.W.makesIn K C = true) (a : PySem.W.findIn K (.ref C) "__init__" = some (some (.ref f))) (i : PySem.W.isFn K (.ref f) = true) (kc : PySem.W.keepIn K (.ref C) = true)
    (l : K.lookup f = some ⟨oc, od, .func (PySem.W.fnOf "__init__" "Data.__init__" (defArgs s_Data_init) (defBody s_Data_init) (defScope s_Data_init) .none kV doc pm an cdv ct), osl⟩) (c : PySem.W.codeIn K cdv "Data.__init__" = true) (k : PySem.W.keepIn K (.ref f) = true) :
    ∃ f fd, Mk K C f ∧ Fun K "__init__" "Data.__init__" s_Data_init f fd ∧ Binds K fd ["self", "goods", "buys", "links"] [] :=
  ⟨f, _, ⟨mk, a, i, kc⟩, fun_mk l c k, (fun_mk l c k).binds fun _ _ _ _ _ _ us hl => match us, hl with | [_, _, _, _], _ => rfl⟩
theorem end_mk {P : Program} {w : World} {K : PySem.W.Frag} {h : Heap} {mg : Str → Option Value} {fa C : Addr} (L : ∀ ns : List Int, LawOk (rowN ns 70)) (X : K.In h) (G : h.Ns mainGlobals mg) (hfa : mg "law" = some (.ref fa)) (A : AllK K mg C)
    {f : Addr} {oc : Value} {od an : Option Addr} {osl : Array (Option Value)} {kV doc pm cdv ct : Value}
    (a : PySem.W.nsIn K mainGlobals "law" = some (some (.ref f))) (l : K.lookup f = some ⟨oc, od, .func (PySem.W.fnOf "law" "law" (defArgs s_law) (defBody s_law) (defScope s_law) .none kV doc pm an cdv ct), osl⟩) (c : PySem.W.codeIn K cdv "law" = true) (k : PySem.W.keepIn K (.ref f) = true) :
    ∃ fd : FuncData, (∀ (s : Shared) (u : Value), BindsTo s fd ⟨[u], []⟩ [("_law_script", u)]) ∧ ∀ base : Heap, K.In base → base.Ns mainGlobals mg → FnOk P w K mg base CX0 10 fa fd ["_law_script"] (spLaw K) := by
  have e := hfa.symm.trans (PySem.W.mg_of X G a)
  cases e
  exact ⟨PySem.W.fnOf "law" "law" (defArgs s_law) (defBody s_law) (defScope s_law) .none kV doc pm an cdv ct, fun s v => .of_eq rfl, fun base _ _ => law_sp L (law_fn A (fun_mk l c k))⟩
end BB
set_option linter.all false
namespace BB
def rv (x : Qt) : Rat := (x.1 : Rat) / (x.2 : Rat)
theorem cpos {z : Int} (h : 0 < z) : (0 : Rat) < (z : Rat) := by exact_mod_cast h
theorem cne {z : Int} (h : z ≠ 0) : (z : Rat) ≠ 0 := fun e => h (by exact_mod_cast e)
theorem rv_mul {x : Qt} (h : 0 < x.2) : rv x * (x.2 : Rat) = (x.1 : Rat) := by
  have := cne (Int.ne_of_gt h)
  unfold rv
  grind
theorem lt_rv {a b : Qt} (ha : 0 < a.2) (hb : 0 < b.2) : a.1 * b.2 < b.1 * a.2 ↔ rv a < rv b := by
  have h1 := rv_mul ha
  have h2 := rv_mul hb
  have p1 := cpos ha
  have p2 := cpos hb
  have p3 : (0 : Rat) < (a.2 : Rat) * (b.2 : Rat) := Rat.mul_pos p1 p2
  rw [← Rat.intCast_lt_intCast, Rat.intCast_mul, Rat.intCast_mul, ← h1, ← h2]
  rw [show rv a * (a.2 : Rat) * (b.2 : Rat) = rv a * ((a.2 : Rat) * (b.2 : Rat)) by grind, show rv b * (b.2 : Rat) * (a.2 : Rat) = rv b * ((a.2 : Rat) * (b.2 : Rat)) by grind]
  exact Rat.mul_lt_mul_right p3
theorem qless_rv {a b : Qt} (ha : 0 < a.2) (hb : 0 < b.2) : qless a b = true ↔ rv a < rv b := by
  unfold qless
  rw [decide_eq_true_iff]
  exact lt_rv ha hb
theorem qless_not {a b : Qt} (ha : 0 < a.2) (hb : 0 < b.2) : qless a b = false ↔ rv b ≤ rv a := by
  rw [← Rat.not_lt, ← qless_rv ha hb]
  cases qless a b <;> simp
theorem qatm_rv {a b : Qt} (ha : 0 < a.2) (hb : 0 < b.2) : qatm a b = true ↔ rv a ≤ rv b := by
  rw [← Rat.not_lt, ← qless_rv hb ha]
  unfold qatm qless
  rw [decide_eq_true_iff, decide_eq_true_iff]
  omega
theorem qatm_not {a b : Qt} (ha : 0 < a.2) (hb : 0 < b.2) : qatm a b = false ↔ rv b < rv a := by
  rw [← Rat.not_le, ← qatm_rv ha hb]
  cases qatm a b <;> simp
theorem qless_congr {a b c d : Qt} (ha : 0 < a.2) (hb : 0 < b.2) (hc : 0 < c.2) (hd : 0 < d.2) (e1 : rv a = rv c) (e2 : rv b = rv d) : qless a b = qless c d := by
  rw [Bool.eq_iff_iff, qless_rv ha hb, qless_rv hc hd, e1, e2]
theorem ratio_pos (p : Int) {q : Int} (h : 0 < q) : ratio p q = (p / ((Nat.gcd p.natAbs q.natAbs : Nat) : Int), q / ((Nat.gcd p.natAbs q.natAbs : Nat) : Int)) := by
  unfold ratio
  rw [if_neg (by omega), if_neg (by omega)]
theorem ratio_neg (p : Int) {q : Int} (h : q < 0) : ratio p q = ratio (-p) (-q) := by
  rw [ratio_pos (-p) (show 0 < -q by omega)]
  unfold ratio
  rw [if_pos h, if_pos h]
theorem gcd_dvd_int (p q : Int) : ((Nat.gcd p.natAbs q.natAbs : Nat) : Int) ∣ p ∧ ((Nat.gcd p.natAbs q.natAbs : Nat) : Int) ∣ q :=
  ⟨Int.ofNat_dvd_left.mpr (Nat.gcd_dvd_left _ _), Int.ofNat_dvd_left.mpr (Nat.gcd_dvd_right _ _)⟩
structure RatioIs (p q : Int) (x : Qt) : Prop where
  pos : 0 < x.2
  v : rv x * (q : Rat) = (p : Rat)
  red : Red x
  n : x.1.natAbs ≤ p.natAbs
  d : x.2.natAbs ≤ q.natAbs
  dv : x.2 ∣ q
theorem ratio_is_pos (p : Int) {q : Int} (h : 0 < q) : RatioIs p q (ratio p q) := by
  rw [ratio_pos p h]
  obtain ⟨h1, h2⟩ := gcd_dvd_int p q
  have hg : 0 < Nat.gcd p.natAbs q.natAbs := Nat.gcd_pos_of_pos_right _ (by omega)
  revert h1 h2 hg
  have hgd : ∀ g : Nat, g = Nat.gcd p.natAbs q.natAbs → (g : Int) ∣ p → (g : Int) ∣ q → 0 < g → RatioIs p q (p / (g : Int), q / (g : Int)) := by
    intro g hg h1 h2 hp
    obtain ⟨a, rfl⟩ := h1
    obtain ⟨b, rfl⟩ := h2
    have hg0 : (g : Int) ≠ 0 := by omega
    rw [Int.mul_ediv_cancel_left _ hg0, Int.mul_ediv_cancel_left _ hg0]
    have hb : 0 < b := by
      rcases Int.lt_trichotomy b 0 with z | z | z
      · have := Int.mul_neg_of_pos_of_neg (show (0 : Int) < g by omega) z
        omega
      · subst z; omega
      · exact z
    have hrv := rv_mul (x := (a, b)) hb
    refine ⟨hb, ?_, ⟨hb, ?_⟩, ?_, ?_, Int.dvd_mul_left _ _⟩
    · show rv (a, b) * ((((g : Int) * b : Int)) : Rat) = (((g : Int) * a : Int) : Rat)
      rw [Rat.intCast_mul, Rat.intCast_mul]
      have hrv : rv (a, b) * (b : Rat) = (a : Rat) := hrv
      grind
    · show Nat.gcd a.natAbs b.natAbs = 1
      rw [Int.natAbs_mul, Int.natAbs_mul, Int.natAbs_natCast, Nat.gcd_mul_left] at hg
      have : g * 1 = g * Nat.gcd a.natAbs b.natAbs := by omega
      exact (Nat.eq_of_mul_eq_mul_left hp this).symm
    · show a.natAbs ≤ ((g : Int) * a).natAbs
      rw [Int.natAbs_mul, Int.natAbs_natCast]; exact Nat.le_mul_of_pos_left _ hp
    · show b.natAbs ≤ ((g : Int) * b).natAbs
      rw [Int.natAbs_mul, Int.natAbs_natCast]; exact Nat.le_mul_of_pos_left _ hp
  intro h1 h2 hg
  exact hgd _ rfl h1 h2 hg
theorem ratio_is (p : Int) {q : Int} (h : q ≠ 0) : RatioIs p q (ratio p q) := by
  rcases Int.lt_or_gt_of_ne h with z | z
  · rw [ratio_neg p z]
    have r := ratio_is_pos (-p) (show 0 < -q by omega)
    refine ⟨r.pos, ?_, r.red, ?_, ?_, Int.dvd_neg.mp r.dv⟩
    · have := r.v
      rw [Rat.intCast_neg, Rat.intCast_neg] at this
      grind
    · have := r.n; omega
    · have := r.d; omega
  · exact ratio_is_pos p z
section
variable {a b : Qt}
theorem qadd_is (ha : 0 < a.2) (hb : 0 < b.2) : RatioIs (a.1 * b.2 + b.1 * a.2) (a.2 * b.2) (qadd a b) ∧ rv (qadd a b) = rv a + rv b := by
  have hp := Int.mul_pos ha hb
  have r : RatioIs (a.1 * b.2 + b.1 * a.2) (a.2 * b.2) (qadd a b) := ratio_is _ (Int.ne_of_gt hp)
  refine ⟨r, ?_⟩
  have h := r.v
  have h1 := rv_mul ha
  have h2 := rv_mul hb
  have n1 := cne (Int.ne_of_gt ha)
  have n2 := cne (Int.ne_of_gt hb)
  rw [Rat.intCast_add, Rat.intCast_mul, Rat.intCast_mul, Rat.intCast_mul, ← h1, ← h2] at h
  grind
theorem qsub_is (ha : 0 < a.2) (hb : 0 < b.2) : RatioIs (a.1 * b.2 - b.1 * a.2) (a.2 * b.2) (qsub a b) ∧ rv (qsub a b) = rv a - rv b := by
  have hp := Int.mul_pos ha hb
  have r : RatioIs (a.1 * b.2 - b.1 * a.2) (a.2 * b.2) (qsub a b) := ratio_is _ (Int.ne_of_gt hp)
  refine ⟨r, ?_⟩
  have h := r.v
  have h1 := rv_mul ha
  have h2 := rv_mul hb
  have n1 := cne (Int.ne_of_gt ha)
  have n2 := cne (Int.ne_of_gt hb)
  rw [Rat.intCast_sub, Rat.intCast_mul, Rat.intCast_mul, Rat.intCast_mul, ← h1, ← h2] at h
  grind
theorem qmul_is (ha : 0 < a.2) (hb : 0 < b.2) : RatioIs (a.1 * b.1) (a.2 * b.2) (qmul a b) ∧ rv (qmul a b) = rv a * rv b := by
  have hp := Int.mul_pos ha hb
  have r : RatioIs (a.1 * b.1) (a.2 * b.2) (qmul a b) := ratio_is _ (Int.ne_of_gt hp)
  refine ⟨r, ?_⟩
  have h := r.v
  have h1 := rv_mul ha
  have h2 := rv_mul hb
  have n1 := cne (Int.ne_of_gt ha)
  have n2 := cne (Int.ne_of_gt hb)
  rw [Rat.intCast_mul, Rat.intCast_mul, ← h1, ← h2] at h
  grind
theorem qdiv_is (ha : 0 < a.2) (hb : 0 < b.2) (h0 : b.1 ≠ 0) : RatioIs (a.1 * b.2) (a.2 * b.1) (qdiv a b) ∧ rv (qdiv a b) * rv b = rv a := by
  have hp : a.2 * b.1 ≠ 0 := Int.mul_ne_zero (Int.ne_of_gt ha) h0
  have r : RatioIs (a.1 * b.2) (a.2 * b.1) (qdiv a b) := ratio_is _ hp
  refine ⟨r, ?_⟩
  have h := r.v
  have h1 := rv_mul ha
  have h2 := rv_mul hb
  have n1 := cne (Int.ne_of_gt ha)
  have n2 := cne (Int.ne_of_gt hb)
  rw [Rat.intCast_mul, Rat.intCast_mul, ← h1, ← h2] at h
  grind
theorem rv_lplus (ha : 0 < a.2) (hb : 0 < b.2) : 0 < (lplus a b).2 ∧ rv (lplus a b) = rv a + rv b := by
  have hp : 0 < (lplus a b).2 := Int.mul_pos ha hb
  refine ⟨hp, ?_⟩
  have h : rv (lplus a b) * ((a.2 * b.2 : Int) : Rat) = ((a.1 * b.2 + b.1 * a.2 : Int) : Rat) := rv_mul hp
  have h1 := rv_mul ha
  have h2 := rv_mul hb
  have n1 := cne (Int.ne_of_gt ha)
  have n2 := cne (Int.ne_of_gt hb)
  rw [Rat.intCast_add, Rat.intCast_mul, Rat.intCast_mul, Rat.intCast_mul, ← h1, ← h2] at h
  grind
theorem rv_ltimes (ha : 0 < a.2) (hb : 0 < b.2) : 0 < (ltimes a b).2 ∧ rv (ltimes a b) = rv a * rv b := by
  have hp : 0 < (ltimes a b).2 := Int.mul_pos ha hb
  refine ⟨hp, ?_⟩
  have h : rv (ltimes a b) * ((a.2 * b.2 : Int) : Rat) = ((a.1 * b.1 : Int) : Rat) := rv_mul hp
  have h1 := rv_mul ha
  have h2 := rv_mul hb
  have n1 := cne (Int.ne_of_gt ha)
  have n2 := cne (Int.ne_of_gt hb)
  rw [Rat.intCast_mul, Rat.intCast_mul, ← h1, ← h2] at h
  grind
theorem rv_lneg (ha : 0 < a.2) : 0 < (lneg a).2 ∧ rv (lneg a) = - rv a := by
  have hp : 0 < (lneg a).2 := ha
  refine ⟨hp, ?_⟩
  have h : rv (lneg a) * ((a.2 : Int) : Rat) = ((-a.1 : Int) : Rat) := rv_mul hp
  have h1 := rv_mul ha
  have n1 := cne (Int.ne_of_gt ha)
  rw [Rat.intCast_neg, ← h1] at h
  grind
end
theorem red_eq {a b : Qt} (ha : Red a) (hb : Red b) (e : rv a = rv b) : a = b := by
  obtain ⟨p1, g1⟩ := ha
  obtain ⟨p2, g2⟩ := hb
  have h1 := rv_mul p1
  have h2 := rv_mul p2
  have hc : a.1 * b.2 = b.1 * a.2 := by
    have : ((a.1 * b.2 : Int) : Rat) = ((b.1 * a.2 : Int) : Rat) := by
      rw [Rat.intCast_mul, Rat.intCast_mul, ← h1, ← h2, e]; grind
    exact_mod_cast this
  have hn : a.1.natAbs * b.2.natAbs = b.1.natAbs * a.2.natAbs := by
    rw [← Int.natAbs_mul, ← Int.natAbs_mul, hc]
  have d1 : a.2.natAbs ∣ b.2.natAbs := Nat.Coprime.dvd_of_dvd_mul_left (k := a.2.natAbs) (m := a.1.natAbs) (n := b.2.natAbs) (by unfold Nat.Coprime; rw [Nat.gcd_comm]; exact g1) ⟨b.1.natAbs, by rw [hn, Nat.mul_comm]⟩
  have d2 : b.2.natAbs ∣ a.2.natAbs := Nat.Coprime.dvd_of_dvd_mul_left (k := b.2.natAbs) (m := b.1.natAbs) (n := a.2.natAbs) (by unfold Nat.Coprime; rw [Nat.gcd_comm]; exact g2) ⟨a.1.natAbs, by rw [← hn, Nat.mul_comm]⟩
  have e2 : a.2 = b.2 := by
    have := Nat.dvd_antisymm d1 d2
    omega
  have e1 : a.1 = b.1 := by
    rw [e2] at hc
    exact Int.eq_of_mul_eq_mul_right (Int.ne_of_gt p2) hc
  exact Prod.ext e1 e2
end BB
set_option linter.all false
namespace BB
inductive Wk (f : Nat → Nat → Option Bool) : Nat → Nat → Nat → Bool → Prop where
  | nil (i : Nat) : Wk f 0 i i false
  | snoc {m i j k : Nat} {s b : Bool} : Wk f m i j s → f j k = some b → Wk f (m + 1) i k (s || b)
theorem Wk.cat {f : Nat → Nat → Option Bool} {m n i j k : Nat} {s t : Bool} (h : Wk f m i j s) (g : Wk f n j k t) : Wk f (m + n) i k (s || t) := by
  induction g with
  | nil => rw [Bool.or_false]; exact h
  | snoc _ e ih => rw [← Bool.or_assoc]; exact .snoc (ih h) e
theorem Wk.one {f : Nat → Nat → Option Bool} {i j : Nat} {b : Bool} (h : f i j = some b) : Wk f 1 i j b := by
  have := Wk.snoc (Wk.nil i) h
  rwa [Bool.false_or] at this
theorem Wk.lt {f : Nat → Nat → Option Bool} {n m i j : Nat} {s : Bool} (hf : ∀ a b c, f a b = some c → b < n) (hi : i < n) (h : Wk f m i j s) : j < n := by
  cases h with
  | nil => exact hi
  | snoc _ e => exact hf _ _ _ e
structure Chn (T : Tb) (i : Nat) (e : (Nat × Bool) × List Nat) : Prop where
  ne : e.2 ≠ []
  hd : e.2.getD 0 0 = i
  z : e.2.getD (e.2.length - 1) 0 = e.1.1
  lt : ∀ x ∈ e.2, x < T.length
  st : ∀ k, k + 1 < e.2.length → (tb T (e.2.getD k 0) (e.2.getD (k + 1) 0)).isSome = true
  s : e.1.2 = (List.range (e.2.length - 1)).any fun k => tb T (e.2.getD k 0) (e.2.getD (k + 1) 0) == some true
theorem getD_append_left {l r : List Nat} {k : Nat} (h : k < l.length) : (l ++ r).getD k 0 = l.getD k 0 := by
  rw [List.getD_eq_getElem?_getD, List.getElem?_append_left h, List.getD_eq_getElem?_getD]
theorem getD_snoc {l : List Nat} {x : Nat} : (l ++ [x]).getD l.length 0 = x := by
  rw [List.getD_eq_getElem?_getD, List.getElem?_append_right (Nat.le_refl _)]; simp
theorem Chn.snoc {T : Tb} {i j k : Nat} {s one : Bool} {ch : List Nat} (h : Chn T i ((j, s), ch)) (hk : k < T.length) (ho : tb T j k = some one) : Chn T i ((k, s || one), ch ++ [k]) := by
  have hne : ch ≠ [] := h.ne
  have hp : 0 < ch.length := List.length_pos_iff.mpr hne
  have hz : ch.getD (ch.length - 1) 0 = j := h.z
  refine ⟨by simp, ?_, ?_, ?_, ?_, ?_⟩
  · show (ch ++ [k]).getD 0 0 = i
    rw [getD_append_left hp]; exact h.hd
  · show (ch ++ [k]).getD ((ch ++ [k]).length - 1) 0 = k
    rw [List.length_append, List.length_singleton, Nat.add_sub_cancel]; exact getD_snoc
  · intro x hx
    rcases List.mem_append.mp hx with hx | hx
    · exact h.lt x hx
    · cases List.mem_singleton.mp hx; exact hk
  · intro q hq
    have hq : q + 1 < (ch ++ [k]).length := hq
    rw [List.length_append, List.length_singleton] at hq
    show (tb T ((ch ++ [k]).getD q 0) ((ch ++ [k]).getD (q + 1) 0)).isSome = true
    by_cases e : q + 1 < ch.length
    · rw [getD_append_left e, getD_append_left (by omega)]; exact h.st q e
    · have e2 : q + 1 = ch.length := by omega
      rw [getD_append_left (by omega), e2, getD_snoc, show q = ch.length - 1 by omega, hz, ho]; rfl
  · show (s || one) = (List.range ((ch ++ [k]).length - 1)).any _
    rw [List.length_append, List.length_singleton, Nat.add_sub_cancel, show ch.length = (ch.length - 1) + 1 by omega, List.range_succ, List.any_append]
    have e1 : ((List.range (ch.length - 1)).any fun q => tb T ((ch ++ [k]).getD q 0) ((ch ++ [k]).getD (q + 1) 0) == some true) = s := by
      have hs : s = (List.range (ch.length - 1)).any fun q => tb T (ch.getD q 0) (ch.getD (q + 1) 0) == some true := h.s
      rw [hs]
      rw [Bool.eq_iff_iff, List.any_eq_true, List.any_eq_true]
      constructor
      · rintro ⟨q, hq, e⟩
        have hq2 := List.mem_range.mp hq
        rw [getD_append_left (by omega), getD_append_left (by omega)] at e
        exact ⟨q, hq, e⟩
      · rintro ⟨q, hq, e⟩
        have hq2 := List.mem_range.mp hq
        refine ⟨q, hq, ?_⟩
        rw [getD_append_left (by omega), getD_append_left (by omega)]; exact e
    rw [e1]
    congr 1
    rw [List.any_cons, List.any_nil, Bool.or_false, getD_append_left (by omega), hz, show ch.length - 1 + 1 = ch.length by omega, getD_snoc, ho]
    cases one <;> rfl
structure BfsOk (T : Tb) (i : Nat) (f : Fd) (a : Nat) : Prop where
  ok : FdOk T.length f
  ent : ∀ e ∈ f, Chn T i e
  ex : ∀ q e, q < a → f[q]? = some e → ∀ k b, k < T.length → tb T e.1.1 k = some b → (k, e.1.2 || b) ∈ f.map (·.1)
  le : a ≤ f.length
  st : (i, false) ∈ f.map (·.1)
theorem bfsK_pre {T : Tb} {j : Nat} {s : Bool} {ch : List Nat} {f : Fd} {k : Nat} : ∃ r, bfsK T j s ch f k = f ++ r ∧ ∀ e ∈ r, ∃ one, tb T j k = some one ∧ e = ((k, s || one), ch ++ [k]) := by
  unfold bfsK
  cases h : tb T j k with
  | none => exact ⟨[], by simp, fun e he => by cases he⟩
  | some one =>
    show ∃ r, (if (f.lookup (k, s || one)).isSome = true then f else f ++ [((k, s || one), ch ++ [k])]) = f ++ r ∧ _
    split
    · exact ⟨[], by simp, fun e he => by cases he⟩
    · exact ⟨_, rfl, fun e he => ⟨one, rfl, List.mem_singleton.mp he⟩⟩
theorem bfsK_has {T : Tb} {j : Nat} {s : Bool} {ch : List Nat} {f : Fd} {k : Nat} {one : Bool} (h : tb T j k = some one) : (k, s || one) ∈ (bfsK T j s ch f k).map (·.1) := by
  unfold bfsK
  rw [h]
  show (k, s || one) ∈ List.map (·.1) (if (f.lookup (k, s || one)).isSome = true then f else f ++ [((k, s || one), ch ++ [k])])
  split
  · rename_i e
    obtain ⟨c, hc⟩ := Option.isSome_iff_exists.mp e
    exact List.mem_map.mpr ⟨_, lookup_some hc, rfl⟩
  · rw [List.map_append]; exact List.mem_append_right _ (by simp)
theorem rowTo_pre {T : Tb} {f : Fd} {a : Nat} : ∀ k, k ≤ T.length → ∃ r, rowTo T f a k = f ++ r ∧ (∀ e ∈ r, ∃ q one, q < k ∧ tb T (f.getD a ((0, false), [])).1.1 q = some one ∧ e = ((q, (f.getD a ((0, false), [])).1.2 || one), (f.getD a ((0, false), [])).2 ++ [q])) ∧
    ∀ q one, q < k → tb T (f.getD a ((0, false), [])).1.1 q = some one → (q, (f.getD a ((0, false), [])).1.2 || one) ∈ (rowTo T f a k).map (·.1)
  | 0, _ => ⟨[], (by rw [List.append_nil]; rfl), (fun e he => by cases he), fun q _ hq _ => by omega⟩
  | k + 1, hk => by
    obtain ⟨r, h1, h2, h3⟩ := rowTo_pre (T := T) (f := f) (a := a) k (by omega)
    rw [rowTo_succ]
    obtain ⟨r2, g1, g2⟩ := bfsK_pre (T := T) (j := (f.getD a ((0, false), [])).1.1) (s := (f.getD a ((0, false), [])).1.2) (ch := (f.getD a ((0, false), [])).2) (f := rowTo T f a k) (k := k)
    refine ⟨r ++ r2, by rw [g1, h1, List.append_assoc], fun e he => ?_, fun q one hq ho => ?_⟩
    · rcases List.mem_append.mp he with he | he
      · obtain ⟨q, one, z1, z2, z3⟩ := h2 e he
        exact ⟨q, one, by omega, z2, z3⟩
      · obtain ⟨one, z1, z2⟩ := g2 e he
        exact ⟨k, one, by omega, z1, z2⟩
    · by_cases e : q = k
      · subst e; exact bfsK_has ho
      · rw [g1, List.map_append]
        exact List.mem_append_left _ (h3 q one (by omega) ho)
theorem BfsOk.row {T : Tb} {i : Nat} {f : Fd} {a : Nat} (h : BfsOk T i f a) (ha : a < f.length) : BfsOk T i (bfsRow T f a) (a + 1) := by
  obtain ⟨r, h1, h2, h3⟩ := rowTo_pre (T := T) (f := f) (a := a) T.length (Nat.le_refl _)
  have hrow : bfsRow T f a = rowTo T f a T.length := rfl
  have hm : f.getD a ((0, false), []) ∈ f := by rw [List.getD_eq_getElem?_getD, List.getElem?_eq_getElem ha]; exact List.getElem_mem ha
  have hgk : f[a]? = some (f.getD a ((0, false), [])) := by rw [List.getD_eq_getElem?_getD, List.getElem?_eq_getElem ha]; rfl
  have he := h.ent _ hm
  rw [hrow]
  refine ⟨(rowTo_ok h.ok ha T.length (Nat.le_refl _)).1, fun e hx => ?_, fun q e hq hx k b hk hb => ?_, ?_, ?_⟩
  · rw [h1] at hx
    rcases List.mem_append.mp hx with hx | hx
    · exact h.ent e hx
    · obtain ⟨q, one, z1, z2, rfl⟩ := h2 e hx
      exact Chn.snoc (j := (f.getD a ((0, false), [])).1.1) he z1 z2
  · have hql : q < f.length := by omega
    rw [h1, List.getElem?_append_left hql] at hx
    by_cases hqa : q = a
    · subst hqa
      rw [hgk] at hx
      cases hx
      exact h3 k b hk hb
    · rw [h1, List.map_append]
      exact List.mem_append_left _ (h.ex q e (by omega) hx k b hk hb)
  · rw [h1, List.length_append]; omega
  · rw [h1, List.map_append]; exact List.mem_append_left _ h.st
theorem bfs_all {T : Tb} {i : Nat} : ∀ (m : Nat) {f : Fd} {a : Nat}, BfsOk T i f a → 2 * T.length + 1 ≤ m + a → ∃ a', BfsOk T i (bfs T m f a) a' ∧ a' = (bfs T m f a).length
  | 0, f, a, h, hm => by
    have := h.ok.len
    have := h.le
    omega
  | m + 1, f, a, h, hm => by
    unfold bfs
    split
    · rename_i ha
      exact bfs_all m (h.row ha) (by omega)
    · rename_i ha
      exact ⟨a, h, by have := h.le; omega⟩
theorem find_all {T : Tb} {i : Nat} (hi : i < T.length) : BfsOk T i (findIn T i) (findIn T i).length := by
  have h0 : BfsOk T i [((i, false), [i])] 0 := ⟨first_ok hi, fun e he => by
    cases List.mem_singleton.mp he
    exact ⟨by simp, rfl, rfl, fun x hx => by cases List.mem_singleton.mp hx; exact hi, fun k hk => by simp at hk, by simp⟩, fun q e hq => by omega, Nat.zero_le _, by simp⟩
  obtain ⟨a', h, rfl⟩ := bfs_all (2 * T.length + 1) h0 (by omega)
  exact h
theorem find_key {T : Tb} {i : Nat} (hi : i < T.length) (hT : ∀ a b c, tb T a b = some c → b < T.length) {m j : Nat} {s : Bool} (h : Wk (tb T) m i j s) : (j, s) ∈ (findIn T i).map (·.1) := by
  have B := find_all hi
  induction h with
  | nil => exact B.st
  | snoc _ e ih =>
    obtain ⟨en, hen, hq⟩ := List.mem_map.mp (ih hi B)
    obtain ⟨q, hql, hqe⟩ := List.mem_iff_getElem.mp hen
    have := B.ex q en hql (by rw [List.getElem?_eq_getElem hql, hqe])
    rw [hq] at this
    exact this _ _ (hT _ _ _ e) e
theorem chain_wk {f : Nat → Nat → Option Bool} {c : List Nat} (st : ∀ k, k + 1 < c.length → (f (c.getD k 0) (c.getD (k + 1) 0)).isSome = true) : ∀ m, m + 1 ≤ c.length → Wk f m (c.getD 0 0) (c.getD m 0) ((List.range m).any fun k => f (c.getD k 0) (c.getD (k + 1) 0) == some true)
  | 0, _ => .nil _
  | m + 1, h => by
    have ih := chain_wk st m (by omega)
    obtain ⟨b, hb⟩ := Option.isSome_iff_exists.mp (st m (by omega))
    have := Wk.snoc ih hb
    rw [List.range_succ, List.any_append, List.any_cons, List.any_nil, Bool.or_false, hb]
    have e : (some b == some true) = b := by cases b <;> rfl
    rw [e]; exact this
theorem Chn.wk {T : Tb} {i : Nat} {e : (Nat × Bool) × List Nat} (h : Chn T i e) : Wk (tb T) (e.2.length - 1) i e.1.1 e.1.2 := by
  have hp : 0 < e.2.length := List.length_pos_iff.mpr h.ne
  have := chain_wk h.st (e.2.length - 1) (by omega)
  rw [h.hd, h.z, ← h.s] at this
  exact this
theorem find_wk {T : Tb} {i j : Nat} {s : Bool} (hi : i < T.length) (h : (j, s) ∈ (findIn T i).map (·.1)) : ∃ m, m ≤ 2 * T.length ∧ Wk (tb T) m i j s := by
  have B := find_all hi
  obtain ⟨en, hen, hq⟩ := List.mem_map.mp h
  have w := (B.ent en hen).wk
  have hl := B.ok.le en hen
  have := B.ok.len
  rw [hq] at w
  exact ⟨_, by omega, w⟩
theorem lookup_iff {f : Fd} {q : Nat × Bool} : (f.lookup q).isSome = true ↔ q ∈ f.map (·.1) := by
  cases h : f.lookup q with
  | none =>
    have := lookup_none.mp h
    exact ⟨(fun z => by cases z), fun z => absurd z this⟩
  | some c => exact ⟨fun _ => List.mem_map.mpr ⟨_, lookup_some h, rfl⟩, fun _ => rfl⟩
def Lt (T : Tb) : Prop := ∀ a b c, tb T a b = some c → a < T.length ∧ b < T.length
theorem Sq.lt {n : Nat} {T : Tb} (h : Sq n T) : Lt T := by
  intro a b c e
  have h1 := h.1
  unfold tb at e
  by_cases ha : a < T.length
  · refine ⟨ha, ?_⟩
    have hr := h.row (i := a) (by omega)
    by_cases hb : b < T.length
    · exact hb
    · rw [List.getD_eq_getElem?_getD (l := T.getD a []), List.getElem?_eq_none (by omega)] at e
      cases e
  · rw [List.getD_eq_getElem?_getD (l := T), List.getElem?_eq_none (by omega)] at e
    cases e
theorem lead_true {T : Tb} (hT : Lt T) {i j : Nat} (hi : i < T.length) : lead1 (findIn T i) j = some true ↔ ∃ m, Wk (tb T) m i j true := by
  unfold lead1
  constructor
  · intro h
    split at h
    · rename_i e
      obtain ⟨m, _, w⟩ := find_wk hi (lookup_iff.mp e)
      exact ⟨m, w⟩
    · split at h <;> cases h
  · rintro ⟨m, w⟩
    rw [if_pos (lookup_iff.mpr (find_key hi (fun a b c e => (hT a b c e).2) w))]
theorem lead_some {T : Tb} (hT : Lt T) {i j : Nat} (hi : i < T.length) : (lead1 (findIn T i) j).isSome = true ↔ ∃ m s, Wk (tb T) m i j s := by
  unfold lead1
  constructor
  · intro h
    split at h
    · rename_i e
      obtain ⟨m, _, w⟩ := find_wk hi (lookup_iff.mp e)
      exact ⟨m, _, w⟩
    · split at h
      · rename_i e
        obtain ⟨m, _, w⟩ := find_wk hi (lookup_iff.mp e)
        exact ⟨m, _, w⟩
      · cases h
  · rintro ⟨m, s, w⟩
    have h := lookup_iff.mpr (find_key hi (fun a b c e => (hT a b c e).2) w)
    split
    · rfl
    · rename_i e1
      cases s with
      | true => exact absurd h e1
      | false => rw [if_pos h]; rfl
theorem tb_table {d : Dt} {i j : Nat} (hi : i < d.n) (hj : j < d.n) : tb (table d) i j = stepF d i j := tb_range (fun i j => stepF d i j) hi hj
theorem tb_leads {d : Dt} {i j : Nat} (hi : i < d.n) (hj : j < d.n) : tb (leads d) i j = lead1 (findIn (table d) i) j := tb_range (fun i j => lead1 (findIn (table d) i) j) hi hj
theorem table_len (d : Dt) : (table d).length = d.n := (Sq.table d).1
theorem leads_true {d : Dt} {i j : Nat} (hi : i < d.n) (hj : j < d.n) : tb (leads d) i j = some true ↔ ∃ m, Wk (tb (table d)) m i j true := by
  rw [tb_leads hi hj]
  exact lead_true (Sq.table d).lt (by rw [table_len]; exact hi)
theorem leads_some {d : Dt} {i j : Nat} (hi : i < d.n) (hj : j < d.n) : (tb (leads d) i j).isSome = true ↔ ∃ m s, Wk (tb (table d)) m i j s := by
  rw [tb_leads hi hj]
  exact lead_some (Sq.table d).lt (by rw [table_len]; exact hi)
def cov (o : Option Bool) (s : Bool) : Bool := match o with
  | none => false
  | some v => v || !s
theorem cov_or {o : Option Bool} {v s : Bool} (h : cov o s = true) : cov (some (o == some true || v)) s = true := by
  cases o with
  | none => cases h
  | some w => revert h; cases w <;> cases v <;> cases s <;> decide
structure Snd (T0 T : Tb) : Prop where
  h : ∀ i j s, tb T i j = some s → ∃ m, Wk (tb T0) m i j s
theorem Snd.set {n : Nat} {T0 T : Tb} (h : Snd T0 T) (sq : Sq n T) {i j : Nat} (hi : i < n) (hj : j < n) {v : Bool} (hv : ∃ m, Wk (tb T0) m i j v) : Snd T0 (setT T i j (some v)) := ⟨fun a b s e => by
  rw [tb_set sq hi hj] at e
  by_cases z : a = i ∧ b = j
  · rw [if_pos z] at e
    cases e
    rw [z.1, z.2]; exact hv
  · rw [if_neg z] at e
    exact h.h a b s e⟩
theorem Snd.clos {n : Nat} {T0 T : Tb} (h : Snd T0 T) (sq : Sq n T) {k i j : Nat} (hi : i < n) (hj : j < n) : Snd T0 (clos1 k i T j) := by
  unfold clos1
  split
  · rename_i a b e1 e2
    refine h.set sq hi hj ?_
    cases e : (tb T i j == some true) with
    | true =>
      have e : tb T i j = some true := by simpa using e
      rw [Bool.true_or]
      exact h.h i j true e
    | false =>
      rw [Bool.false_or]
      obtain ⟨m1, w1⟩ := h.h i k a e1
      obtain ⟨m2, w2⟩ := h.h k j b e2
      exact ⟨_, w1.cat w2⟩
  · exact h
def Mono (T U : Tb) : Prop := ∀ i j s, cov (tb T i j) s = true → cov (tb U i j) s = true
theorem Mono.refl (T : Tb) : Mono T T := fun _ _ _ h => h
theorem Mono.trans {T U V : Tb} (h : Mono T U) (g : Mono U V) : Mono T V := fun i j s e => g i j s (h i j s e)
theorem clos1_mono {n : Nat} {T : Tb} (sq : Sq n T) {k i j : Nat} (hi : i < n) (hj : j < n) : Mono T (clos1 k i T j) := by
  intro a b s e
  unfold clos1
  split
  · rw [tb_set sq hi hj]
    split
    · rename_i z
      rw [z.1, z.2] at e
      exact cov_or e
    · exact e
  · exact e
theorem fold_keep {n : Nat} {T0 : Tb} {f : Tb → Nat → Tb} (hf : ∀ T x, x < n → Sq n T → Snd T0 T → Sq n (f T x) ∧ Snd T0 (f T x) ∧ Mono T (f T x)) : ∀ k, k ≤ n → ∀ T, Sq n T → Snd T0 T → Sq n ((List.range k).foldl f T) ∧ Snd T0 ((List.range k).foldl f T) ∧ Mono T ((List.range k).foldl f T)
  | 0, _, T, h1, h2 => ⟨h1, h2, Mono.refl T⟩
  | k + 1, hk, T, h1, h2 => by
    obtain ⟨g1, g2, g3⟩ := fold_keep hf k (by omega) T h1 h2
    rw [List.range_succ, List.foldl_append]
    obtain ⟨e1, e2, e3⟩ := hf _ k (by omega) g1 g2
    exact ⟨e1, e2, g3.trans e3⟩
theorem fold_at {n : Nat} {T0 : Tb} {f : Tb → Nat → Tb} (hf : ∀ T x, x < n → Sq n T → Snd T0 T → Sq n (f T x) ∧ Snd T0 (f T x) ∧ Mono T (f T x)) {x : Nat} (hx : x < n) {P : Tb → Prop} (hP : ∀ T U, Mono T U → P T → P U) {T : Tb} (h1 : Sq n T) (h2 : Snd T0 T) (hs : ∀ U, Sq n U → Snd T0 U → Mono T U → P (f U x)) : P ((List.range n).foldl f T) := by
  have : ∀ k, x < k → k ≤ n → P ((List.range k).foldl f T) := by
    intro k
    induction k with
    | zero => intro h; omega
    | succ k ih =>
      intro h hk
      obtain ⟨g1, g2, g3⟩ := fold_keep hf k (by omega) T h1 h2
      rw [List.range_succ, List.foldl_append]
      by_cases e : x = k
      · subst e; exact hs _ g1 g2 g3
      · obtain ⟨e1, e2, e3⟩ := hf _ k (by omega) g1 g2
        exact hP _ _ e3 (ih (by omega) (by omega))
  exact this n hx (Nat.le_refl _)
section
variable {n : Nat} {T0 : Tb}
theorem clos1_keep {k i : Nat} (hi : i < n) : ∀ T x, x < n → Sq n T → Snd T0 T → Sq n (clos1 k i T x) ∧ Snd T0 (clos1 k i T x) ∧ Mono T (clos1 k i T x) := fun T x hx h1 h2 => ⟨h1.clos1 k i x, h2.clos h1 hi hx, clos1_mono h1 hi hx⟩
theorem closI_keep {k : Nat} : ∀ T x, x < n → Sq n T → Snd T0 T → Sq n (closI n k T x) ∧ Snd T0 (closI n k T x) ∧ Mono T (closI n k T x) := fun T x hx h1 h2 => fold_keep (clos1_keep hx) n (Nat.le_refl _) T h1 h2
theorem closK_keep : ∀ T x, x < n → Sq n T → Snd T0 T → Sq n (closK n T x) ∧ Snd T0 (closK n T x) ∧ Mono T (closK n T x) := fun T x hx h1 h2 => fold_keep closI_keep n (Nat.le_refl _) T h1 h2
theorem closT_keep : ∀ T (x : Nat), Sq n T → Snd T0 T → Sq n (closT n T x) ∧ Snd T0 (closT n T x) ∧ Mono T (closT n T x) := fun T x h1 h2 => fold_keep closK_keep n (Nat.le_refl _) T h1 h2
theorem clos1_gain {T : Tb} (sq : Sq n T) {k i j : Nat} (hi : i < n) (hj : j < n) {s b : Bool} (h1 : cov (tb T i k) s = true) (h2 : cov (tb T k j) b = true) : cov (tb (clos1 k i T j) i j) (s || b) = true := by
  unfold clos1
  cases e1 : tb T i k with
  | none => rw [e1] at h1; cases h1
  | some v =>
    cases e2 : tb T k j with
    | none => rw [e2] at h2; cases h2
    | some w =>
      show cov (tb (setT T i j (some (tb T i j == some true || (v || w)))) i j) (s || b) = true
      rw [tb_set sq hi hj, if_pos ⟨rfl, rfl⟩]
      rw [e1] at h1
      rw [e2] at h2
      clear e1 e2
      revert h1 h2
      generalize (tb T i j == some true) = x
      cases x <;> cases v <;> cases w <;> cases s <;> cases b <;> decide
theorem closT_gain {T : Tb} (sq : Sq n T) (sd : Snd T0 T) {k i j x : Nat} (hk : k < n) (hi : i < n) (hj : j < n) {s b : Bool} (h1 : cov (tb T i k) s = true) (h2 : cov (tb T k j) b = true) : cov (tb (closT n T x) i j) (s || b) = true := by
  have hP : ∀ T U : Tb, Mono T U → cov (tb T i j) (s || b) = true → cov (tb U i j) (s || b) = true := fun T U m h => m _ _ _ h
  refine fold_at (P := fun U => cov (tb U i j) (s || b) = true) closK_keep hk hP sq sd fun U sU dU mU => ?_
  refine fold_at (P := fun U => cov (tb U i j) (s || b) = true) closI_keep hi hP sU dU fun V sV dV mV => ?_
  refine fold_at (P := fun U => cov (tb U i j) (s || b) = true) (clos1_keep hi) hj hP sV dV fun Y sY dY mY => ?_
  exact clos1_gain sY hi hj (((mU.trans mV).trans mY) _ _ _ h1) (((mU.trans mV).trans mY) _ _ _ h2)
end
def Cov (T0 T : Tb) (L : Nat) : Prop := ∀ m i j s, m ≤ L → i < T0.length → Wk (tb T0) m i j s → cov (tb T i j) s = true
theorem turns_cov {n : Nat} {T0 T : Tb} (hT0 : Sq n T0) (h1 : Sq n T) (h2 : Snd T0 T) (h3 : Cov T0 T 1) : ∀ t, Sq n ((List.range t).foldl (closT n) T) ∧ Snd T0 ((List.range t).foldl (closT n) T) ∧ Cov T0 ((List.range t).foldl (closT n) T) (t + 1)
  | 0 => ⟨h1, h2, h3⟩
  | t + 1 => by
    obtain ⟨g1, g2, g3⟩ := turns_cov hT0 h1 h2 h3 t
    rw [List.range_succ, List.foldl_append]
    obtain ⟨e1, e2, e3⟩ := closT_keep (n := n) (T0 := T0) _ t g1 g2
    refine ⟨e1, e2, fun m i j s hm hi w => ?_⟩
    by_cases hm2 : m ≤ t + 1
    · exact e3 _ _ _ (g3 m i j s hm2 hi w)
    · cases w with
      | nil => omega
      | @snoc m' _ k _ s' b w' e =>
        have hn := hT0.1
        have hkj := hT0.lt k j b e
        have c1 := g3 m' i k s' (by omega) hi w'
        have c2 := g3 1 k j b (by omega) hkj.1 (Wk.one e)
        exact closT_gain (x := t) g1 g2 (by omega) (by omega) (by omega) c1 c2
theorem diag_all {n : Nat} {T0 : Tb} (hT0 : Sq n T0) : ∀ k, k ≤ n → Sq n ((List.range k).foldl diagF T0) ∧ Snd T0 ((List.range k).foldl diagF T0) ∧ (∀ i j, ¬ (i = j ∧ i < k) → tb ((List.range k).foldl diagF T0) i j = tb T0 i j) ∧ ∀ i, i < k → tb ((List.range k).foldl diagF T0) i i = some (tb T0 i i == some true)
  | 0, _ => ⟨hT0, ⟨fun i j s e => ⟨1, Wk.one e⟩⟩, fun _ _ _ => rfl, fun i h => by omega⟩
  | k + 1, hk => by
    obtain ⟨g1, g2, g3, g4⟩ := diag_all hT0 k (by omega)
    rw [List.range_succ, List.foldl_append]
    show Sq n (diagF ((List.range k).foldl diagF T0) k) ∧ Snd T0 (diagF ((List.range k).foldl diagF T0) k) ∧ (∀ i j, _ → tb (diagF ((List.range k).foldl diagF T0) k) i j = _) ∧ ∀ i, _ → tb (diagF ((List.range k).foldl diagF T0) k) i i = _
    have hkk : tb ((List.range k).foldl diagF T0) k k = tb T0 k k := g3 k k (by omega)
    revert g1 g2 g3 g4 hkk
    generalize (List.range k).foldl diagF T0 = U
    intro g1 g2 g3 g4 hkk
    unfold diagF
    refine ⟨g1.set _ _ _, g2.set g1 (by omega) (by omega) ?_, fun i j h => ?_, fun i hi => ?_⟩
    · rw [hkk]
      cases e : (tb T0 k k == some true) with
      | false => exact ⟨0, .nil k⟩
      | true => exact ⟨1, Wk.one (by simpa using e)⟩
    · rw [tb_set g1 (by omega) (by omega), if_neg (by omega)]
      exact g3 i j (by omega)
    · rw [tb_set g1 (by omega) (by omega)]
      by_cases e : i = k
      · subst e
        rw [if_pos ⟨rfl, rfl⟩, hkk]
      · rw [if_neg (by omega)]
        exact g4 i (by omega)
theorem lleads_is (d : Dt) : lleads (table d) = leads d := by
  have hs := Sq.table d
  have hl := hs.1
  obtain ⟨g1, g2, g3, g4⟩ := diag_all hs d.n (Nat.le_refl _)
  have hc : Cov (table d) ((List.range d.n).foldl diagF (table d)) 1 := by
    intro m i j s hm hi w
    have hin : i < d.n := by omega
    cases w with
    | nil =>
      rw [g4 i hin]
      cases (tb (table d) i i == some true) <;> rfl
    | snoc w' e =>
      cases w' with
      | nil =>
        by_cases z : i = j
        · subst z
          rw [g4 i hin, e]
          rename_i b
          cases b <;> rfl
        · rw [g3 i j (by omega), e]
          rename_i b
          cases b <;> rfl
      | snoc _ _ => omega
  obtain ⟨e1, e2, e3⟩ := turns_cov hs g1 g2 hc (2 * d.n + 1)
  have hE : lleads (table d) = (List.range (2 * d.n + 1)).foldl (closT d.n) ((List.range d.n).foldl diagF (table d)) := by unfold lleads; rw [hl]
  rw [hE]
  refine Sq.ext e1 (Sq.leads d) fun i j hi hj => ?_
  have hil : i < (table d).length := by omega
  revert e1 e2 e3
  generalize (List.range (2 * d.n + 1)).foldl (closT d.n) ((List.range d.n).foldl diagF (table d)) = U
  intro e1 e2 e3
  have hcov : ∀ m s, Wk (tb (table d)) m i j s → cov (tb U i j) s = true := fun m s w => by
    obtain ⟨m2, hm2, w2⟩ := find_wk hil (find_key hil (fun a b c e => (hs.lt a b c e).2) w)
    exact e3 m2 i j s (by omega) hil w2
  cases eL : tb (leads d) i j with
  | none =>
    cases eU : tb U i j with
    | none => rfl
    | some v =>
      obtain ⟨m, w⟩ := e2.h i j v eU
      have := (leads_some hi hj).mpr ⟨m, v, w⟩
      rw [eL] at this
      cases this
  | some v =>
    cases v with
    | true =>
      obtain ⟨m, w⟩ := (leads_true hi hj).mp eL
      have := hcov m true w
      cases eU : tb U i j with
      | none => rw [eU] at this; cases this
      | some u => rw [eU] at this; cases u with
        | true => rfl
        | false => cases this
    | false =>
      obtain ⟨m, s, w⟩ := (leads_some hi hj).mp (by rw [eL]; rfl)
      have := hcov m s w
      cases eU : tb U i j with
      | none => rw [eU] at this; cases this
      | some u =>
        cases u with
        | false => rfl
        | true =>
          obtain ⟨m, w⟩ := e2.h i j true eU
          have := (leads_true hi hj).mpr ⟨m, w⟩
          rw [eL] at this
          cases this
end BB
set_option linter.all false
namespace BB
theorem qatm_not_less (a b : Qt) : qatm a b = !qless b a := by
  unfold qatm qless
  by_cases h : a.1 * b.2 ≤ b.1 * a.2
  · rw [decide_eq_true h, decide_eq_false (by omega)]; rfl
  · rw [decide_eq_false h, decide_eq_true (by omega)]; rfl
theorem Chn.ch {d : Dt} {i : Nat} {e : (Nat × Bool) × List Nat} (hn : d.n ≤ 10) (h : Chn (table d) i e) (hl : e.2.length ≤ 100) : ChOk d e.2 e.1.2 := by
  have hlt : ∀ x ∈ e.2, x < d.n := fun x hx => by have := h.lt x hx; rw [table_len] at this; exact this
  have hg : ∀ k, k < e.2.length → e.2.getD k 0 < d.n := fun k hk => hlt _ (by rw [List.getD_eq_getElem?_getD, List.getElem?_eq_getElem hk]; exact List.getElem_mem hk)
  refine ⟨h.ne, hl, hlt, fun k hk => ?_, ?_⟩
  · have := h.st k hk
    rw [tb_table (hg k (by omega)) (hg (k + 1) hk)] at this
    exact this
  · rw [h.s, Bool.eq_iff_iff, List.any_eq_true, List.any_eq_true]
    constructor
    · rintro ⟨k, hk, e1⟩
      have hk2 := List.mem_range.mp hk
      rw [tb_table (hg k (by omega)) (hg (k + 1) (by omega))] at e1
      exact ⟨k, hk, e1⟩
    · rintro ⟨k, hk, e1⟩
      have hk2 := List.mem_range.mp hk
      rw [← tb_table (hg k (by omega)) (hg (k + 1) (by omega))] at e1
      exact ⟨k, hk, e1⟩
theorem findChain_is {d : Dt} (hn : d.n ≤ 10) {i j : Nat} (hi : i < d.n) (hj : j < d.n) (h : (tb (leads d) i j).isSome = true) : ∃ c s, findChain d i j = some c ∧ ChOk d c s ∧ c.getD 0 0 = i ∧ c.getD (c.length - 1) 0 = j ∧ (tb (leads d) i j = some true ↔ s = true) := by
  have hil : i < (table d).length := by rw [table_len]; exact hi
  have B := find_all hil
  have hlen := B.ok.len
  rw [table_len] at hlen
  rw [tb_leads hi hj] at h ⊢
  unfold lead1 at h ⊢
  unfold findChain
  cases e1 : (findIn (table d) i).lookup (j, true) with
  | some c =>
    have hm := lookup_some e1
    have E := B.ent _ hm
    have hl := B.ok.le _ hm
    exact ⟨c, true, rfl, E.ch hn (by have : c.length ≤ _ := hl; omega), E.hd, E.z, by simp⟩
  | none =>
    rw [e1] at h
    cases e2 : (findIn (table d) i).lookup (j, false) with
    | none => rw [e2] at h; cases h
    | some c =>
      have hm := lookup_some e2
      have E := B.ent _ hm
      have hl := B.ok.le _ hm
      exact ⟨c, false, rfl, E.ch hn (by have : c.length ≤ _ := hl; omega), E.hd, E.z, by simp⟩
theorem ring_told {d : Dt} (hn : d.n ≤ 10) {i : Nat} (h : ringAt d = some i) : ∃ c, findChain d i i = some c ∧ ChOk d c true ∧ 1 < c.length ∧ c.getD 0 0 = c.getD (c.length - 1) 0 := by
  unfold ringAt at h
  have hi := List.mem_range.mp (List.mem_of_find?_eq_some h)
  have ht : tb (leads d) i i = some true := by simpa using List.find?_some h
  obtain ⟨c, s, h1, h2, h3, h4, h5⟩ := findChain_is hn hi hi (by rw [ht]; rfl)
  have hs := h5.mp ht
  subst hs
  refine ⟨c, h1, h2, ?_, by rw [h3, h4]⟩
  have hst : true = (List.range (c.length - 1)).any _ := h2.2.2.2.2
  obtain ⟨k, hk, _⟩ := List.any_eq_true.mp hst.symm
  have := List.mem_range.mp hk
  omega
theorem any_range_snoc (f : Nat → Bool) (n : Nat) : (List.range (n + 1)).any f = ((List.range n).any f || f n) := by
  rw [List.range_succ, List.any_append]; simp
theorem fold_range_snoc {β : Type} (f : β → Nat → β) (b : β) (i : Nat) : (List.range (i + 1)).foldl f b = f ((List.range i).foldl f b) i := by
  rw [List.range_succ, List.foldl_append]; rfl
section
variable {d : Dt} {pr : List Qt} {m : Qt}
theorem rlen1 {i j : Nat} {r : List (Option Bool)} : (reach1 d pr m i r j).length = r.length := by
  unfold reach1
  split
  · rfl
  · exact List.length_set ..
theorem reach1_get {i j k : Nat} {r : List (Option Bool)} (hk : k < r.length) : (reach1 d pr m i r k).getD j none = if j = k then (match tb (leads d) i k with | none => r.getD k none | some b => some (r.getD k none == some true || (qless (dot pr (d.am i)) m || b))) else r.getD j none := by
  unfold reach1
  by_cases e : j = k
  · subst e
    rw [if_pos rfl]
    cases tb (leads d) i j with
    | none => rfl
    | some b => exact getD_set_self _ _ _ _ hk
  · rw [if_neg e]
    cases tb (leads d) i k with
    | none => rfl
    | some b => exact getD_set_ne _ _ _ _ _ (fun z => e z.symm)
theorem reachR_get {i j : Nat} {r : List (Option Bool)} : ∀ k, k ≤ r.length → ((List.range k).foldl (reach1 d pr m i) r).length = r.length ∧ ((List.range k).foldl (reach1 d pr m i) r).getD j none = if j < k then (match tb (leads d) i j with | none => r.getD j none | some b => some (r.getD j none == some true || (qless (dot pr (d.am i)) m || b))) else r.getD j none
  | 0, _ => ⟨rfl, by rw [if_neg (by omega)]; rfl⟩
  | k + 1, hk => by
    obtain ⟨h1, h2⟩ := reachR_get (i := i) (j := j) (r := r) k (by omega)
    rw [fold_range_snoc]
    refine ⟨rlen1.trans h1, ?_⟩
    have hkl : k < ((List.range k).foldl (reach1 d pr m i) r).length := by omega
    rw [reach1_get hkl]
    by_cases e : j = k
    · subst e
      rw [if_neg (by omega)] at h2
      rw [if_pos rfl, if_pos (by omega), h2]
    · rw [if_neg e, h2]
      by_cases e2 : j < k
      · rw [if_pos e2, if_pos (by omega)]
      · rw [if_neg e2, if_neg (by omega)]
theorem reachI_get {i j : Nat} {r : List (Option Bool)} (hr : r.length = d.n) (hj : j < d.n) : (reachI d pr m r i).length = d.n ∧ (reachI d pr m r i).getD j none = if rcHit d pr m j i then some (r.getD j none == some true || rcStrict d pr m j i) else r.getD j none := by
  unfold reachI
  obtain ⟨h1, h2⟩ := reachR_get (d := d) (pr := pr) (m := m) (i := i) (j := j) (r := r) d.n (by omega)
  rw [if_pos hj] at h2
  unfold rcStrict rcHit
  cases e : qatm (dot pr (d.am i)) m with
  | false => exact ⟨by rw [if_neg (by decide)]; exact hr, by rw [if_neg (by decide)]; rfl⟩
  | true =>
    rw [if_pos rfl]
    refine ⟨h1.trans hr, ?_⟩
    rw [h2]
    cases tb (leads d) i j with
    | none => rfl
    | some b =>
      rw [if_pos (show (true && (some b).isSome) = true from rfl)]
      congr 1
      cases (r.getD j none == some true) <;> cases qless (dot pr (d.am i)) m <;> cases b <;> rfl
theorem reachN_get {j : Nat} (hj : j < d.n) : ∀ k, ((List.range k).foldl (reachI d pr m) (List.replicate d.n none)).length = d.n ∧ ((List.range k).foldl (reachI d pr m) (List.replicate d.n none)).getD j none = if (List.range k).any (rcHit d pr m j) then some ((List.range k).any (rcStrict d pr m j)) else none
  | 0 => ⟨List.length_replicate .., by
    show (List.replicate d.n none).getD j none = none
    rw [List.getD_eq_getElem?_getD, List.getElem?_replicate]
    split <;> rfl⟩
  | k + 1 => by
    obtain ⟨h1, h2⟩ := reachN_get hj k
    rw [fold_range_snoc]
    obtain ⟨g1, g2⟩ := reachI_get (i := k) (pr := pr) (m := m) h1 hj
    refine ⟨g1, ?_⟩
    rw [g2, h2, any_range_snoc, any_range_snoc]
    cases e : rcHit d pr m j k with
    | false =>
      have : rcStrict d pr m j k = false := by unfold rcStrict; rw [e]; rfl
      rw [if_neg (by decide), this]
      cases (List.range k).any (rcHit d pr m j) <;> cases (List.range k).any (rcStrict d pr m j) <;> rfl
    | true =>
      rw [if_pos rfl, Bool.or_true, if_pos rfl]
      congr 1
      cases e2 : (List.range k).any (rcHit d pr m j) with
      | true =>
        rw [if_pos rfl]
        cases (List.range k).any (rcStrict d pr m j) <;> rfl
      | false =>
        rw [if_neg (by decide)]
        have : (List.range k).any (rcStrict d pr m j) = false := List.any_eq_false.mpr fun x hx => by
          have := List.any_eq_false.mp e2 x hx
          unfold rcStrict
          have e3 : rcHit d pr m j x = false := by simpa using this
          rw [e3, Bool.false_and]; decide
        rw [this]; rfl
theorem reached_get {j : Nat} (hj : j < d.n) : (reached d pr m).getD j none = if (List.range d.n).any (rcHit d pr m j) then some ((List.range d.n).any (rcStrict d pr m j)) else none := (reachN_get hj d.n).2
theorem rcBest_hit {j : Nat} : ∀ n, (List.range n).any (rcHit d pr m j) = true → ∃ b, rcBest d pr m j n = some b ∧ b < n ∧ rcHit d pr m j b = true
  | 0, h => by cases h
  | n + 1, h => by
    rw [any_range_snoc] at h
    cases e : rcHit d pr m j n with
    | true =>
      refine ⟨n, ?_, by omega, e⟩
      show (if rcHit d pr m j n = true then some n else rcBest d pr m j n) = some n
      rw [if_pos e]
    | false =>
      rw [e, Bool.or_false] at h
      obtain ⟨b, h1, h2, h3⟩ := rcBest_hit n h
      refine ⟨b, ?_, by omega, h3⟩
      show (if rcHit d pr m j n = true then some n else rcBest d pr m j n) = some b
      rw [if_neg (by rw [e]; decide), h1]
theorem rcHit_is {j i : Nat} (h : rcHit d pr m j i = true) : qatm (dot pr (d.am i)) m = true ∧ (tb (leads d) i j).isSome = true := by
  unfold rcHit at h
  exact Bool.and_eq_true_iff.mp h
theorem row_told (hn : d.n ≤ 10) {j : Nat} (hj : j < d.n) {rs : Bool} (hr : (reached d pr m).getD j none = some rs) : ∃ c s, reachChain d pr m j = some c ∧ ChOk d c s ∧ (rs = true → s = false → qless (dot pr (d.am (c.getD 0 0))) m = true) ∧ c.getD (c.length - 1) 0 = j ∧ qless m (dot pr (d.am (c.getD 0 0))) = false := by
  rw [reached_get hj] at hr
  have hhit : (List.range d.n).any (rcHit d pr m j) = true := by
    cases e : (List.range d.n).any (rcHit d pr m j) with
    | true => rfl
    | false => rw [e, if_neg (by decide)] at hr; cases hr
  rw [if_pos hhit] at hr
  have hrs := Option.some.inj hr
  unfold reachChain
  cases e : (List.range d.n).find? (rcStrict d pr m j) with
  | some i =>
    have hi := List.mem_range.mp (List.mem_of_find?_eq_some e)
    have hst := List.find?_some e
    have hh : rcHit d pr m j i = true := by
      unfold rcStrict at hst
      exact (Bool.and_eq_true_iff.mp hst).1
    obtain ⟨h1, h2⟩ := rcHit_is hh
    obtain ⟨c, s, g1, g2, g3, g4, g5⟩ := findChain_is hn hi hj h2
    refine ⟨c, s, g1, g2, fun _ hs => ?_, g4, ?_⟩
    · rw [g3]
      unfold rcStrict at hst
      rw [hh, Bool.true_and, Bool.or_eq_true] at hst
      rcases hst with hst | hst
      · exact hst
      · have : tb (leads d) i j = some true := by simpa using hst
        rw [g5.mp this] at hs
        cases hs
    · rw [g3]
      rw [qatm_not_less] at h1
      cases q : qless m (dot pr (d.am i)) with
      | false => rfl
      | true => rw [q] at h1; cases h1
  | none =>
    obtain ⟨b, h1, h2, h3⟩ := rcBest_hit d.n hhit
    obtain ⟨g0, g00⟩ := rcHit_is h3
    obtain ⟨c, s, g1, g2, g3, g4, g5⟩ := findChain_is hn h2 hj g00
    refine ⟨c, s, ?_, g2, fun hrt _ => ?_, g4, ?_⟩
    · show (match rcBest d pr m j d.n with | some b => findChain d b j | none => none) = some c
      rw [h1]; exact g1
    · subst hrs
      obtain ⟨x, hx, hp⟩ := List.any_eq_true.mp hrt
      exact absurd hp (List.find?_eq_none.mp e x hx)
    · rw [g3]
      rw [qatm_not_less] at g0
      cases q : qless m (dot pr (d.am b)) with
      | false => rfl
      | true => rw [q] at g0; cases g0
end
def LkOk (d : Dt) : Prop := ∀ l ∈ d.links, l.1 < d.n ∧ l.2.1 < d.n
theorem more_n (d : Dt) (pr bs : List Qt) : (moreD d pr bs).n = d.n + 1 := by
  show (d.buys ++ [(pr, bs)]).length = d.buys.length + 1
  rw [List.length_append, List.length_singleton]
theorem more_old {d : Dt} {pr bs : List Qt} {i : Nat} (h : i < d.n) : (moreD d pr bs).pr i = d.pr i ∧ (moreD d pr bs).am i = d.am i := by
  unfold Dt.pr Dt.am moreD
  have : (d.buys ++ [(pr, bs)]).getD i ([], []) = d.buys.getD i ([], []) := by
    rw [List.getD_eq_getElem?_getD, List.getElem?_append_left h, List.getD_eq_getElem?_getD]
  exact ⟨congrArg Prod.fst this, congrArg Prod.snd this⟩
theorem more_new {d : Dt} {pr bs : List Qt} : (moreD d pr bs).pr d.n = pr ∧ (moreD d pr bs).am d.n = bs := by
  unfold Dt.pr Dt.am moreD
  have : (d.buys ++ [(pr, bs)]).getD d.n ([], []) = (pr, bs) := by
    rw [List.getD_eq_getElem?_getD, show d.n = d.buys.length from rfl, List.getElem?_append_right (Nat.le_refl _), Nat.sub_self]; rfl
  exact ⟨congrArg Prod.fst this, congrArg Prod.snd this⟩
theorem fold_lk {i j : Nat} : ∀ (ls : List Lk) (r : Option Bool), (∀ l ∈ ls, ¬ (l.1 = i ∧ l.2.1 = j)) → ls.foldl (lk1 i j) r = r
  | [], _, _ => rfl
  | l :: ls, r, h => by
    show ls.foldl (lk1 i j) (lk1 i j r l) = r
    have : lk1 i j r l = r := by unfold lk1; rw [if_neg (h l List.mem_cons_self)]
    rw [this]
    exact fold_lk ls r fun l hl => h l (List.mem_cons_of_mem _ hl)
section
variable {d : Dt} {pr bs : List Qt} {m : Qt}
theorem more_step_old {i j : Nat} (hi : i < d.n) (hj : j < d.n) : stepF (moreD d pr bs) i j = stepF d i j := by
  unfold stepF step0 cst spt
  rw [(more_old (pr := pr) (bs := bs) hi).1, (more_old (pr := pr) (bs := bs) hi).2, (more_old (pr := pr) (bs := bs) hj).2]
  rfl
theorem more_step_from (hL : LkOk d) {j : Nat} (hj : j < d.n) : stepF (moreD d pr bs) d.n j = if qatm (dot pr (d.am j)) (dot pr bs) then some (qless (dot pr (d.am j)) (dot pr bs)) else none := by
  unfold stepF
  rw [fold_lk _ _ fun l hl => by have := hL l hl; omega]
  unfold step0 cst spt
  rw [more_new.1, more_new.2, (more_old (pr := pr) (bs := bs) hj).2, if_neg (by omega)]
theorem more_step_to (hL : LkOk d) {j : Nat} (hj : j < d.n) : stepF (moreD d pr bs) j d.n = if qatm (dot (d.pr j) bs) (spt d j) then some (qless (dot (d.pr j) bs) (spt d j)) else none := by
  unfold stepF
  rw [fold_lk _ _ fun l hl => by have := hL l hl; omega]
  unfold step0 cst spt
  rw [more_new.2, (more_old (pr := pr) (bs := bs) hj).1, (more_old (pr := pr) (bs := bs) hj).2, if_neg (by omega)]
theorem more_step_self (hL : LkOk d) : stepF (moreD d pr bs) d.n d.n = none := by
  unfold stepF
  rw [fold_lk _ _ fun l hl => by have := hL l hl; omega]
  unfold step0
  rw [if_pos rfl]
theorem wk_table {e : Dt} {k i j : Nat} {s : Bool} (hi : i < e.n) (h : Wk (tb (table e)) k i j s) : j < e.n := by
  have := Wk.lt (n := (table e).length) (fun a b c z => ((Sq.table e).lt a b c z).2) (by rw [table_len]; exact hi) h
  rw [table_len] at this
  exact this
theorem no_ring_more (hL : LkOk d) (hm : dot pr bs = m) (hr : ringAt d = none) (hk : firstBroken d (reached d pr m) bs = none) : ringAt (moreD d pr bs) = none := by
  have nr : ∀ i, i < d.n → tb (leads d) i i ≠ some true := fun i hi e => by
    have := List.find?_eq_none.mp hr i (List.mem_range.mpr hi)
    rw [e] at this
    exact this rfl
  have hlen : (reached d pr m).length = d.n := by
    cases h : d.n with
    | zero =>
      unfold reached
      rw [h]
      rfl
    | succ k => rw [← h]; exact (reachN_get (d := d) (pr := pr) (m := m) (j := 0) (by omega) d.n).1
  have keep : ∀ j r, j < d.n → (reached d pr m).getD j none = some r → keepsRow d j r bs = true := fun j r hj e => by
    unfold firstBroken at hk
    have := List.find?_eq_none.mp hk j (List.mem_range.mpr (by omega))
    unfold broken at this
    rw [e] at this
    cases q : keepsRow d j r bs with
    | true => rfl
    | false =>
      refine absurd ?_ this
      show (!keepsRow d j r bs) = true
      rw [q]; rfl
  have hn' := more_n d pr bs
  have A : ∀ k y s, Wk (tb (table (moreD d pr bs))) k d.n y s → (y < d.n → ∃ r, (reached d pr m).getD y none = some r ∧ (s = true → r = true)) ∧ (y = d.n → s = false) := by
    intro k y s w
    generalize hx : d.n = x at w
    induction w with
    | nil i => subst hx; exact ⟨fun h => absurd h (Nat.lt_irrefl _), fun _ => rfl⟩
    | @snoc k i y z s b w e ih =>
      subst hx
      obtain ⟨ih1, ih2⟩ := ih rfl
      have hy : y < (moreD d pr bs).n := wk_table (by omega) w
      have hz : z < (moreD d pr bs).n := by have := ((Sq.table (moreD d pr bs)).lt _ _ _ e).2; rw [table_len] at this; exact this
      rw [hn'] at hy hz
      rw [tb_table (by omega) (by omega)] at e
      by_cases hyn : y = d.n
      · subst hyn
        have hs := ih2 rfl
        subst hs
        by_cases hzn : z = d.n
        · subst hzn
          rw [more_step_self hL] at e
          cases e
        · have hz2 : z < d.n := by omega
          refine ⟨fun _ => ?_, fun h => absurd h hzn⟩
          rw [more_step_from hL hz2, hm] at e
          have hq : qatm (dot pr (d.am z)) m = true := by
            cases q : qatm (dot pr (d.am z)) m with
            | true => rfl
            | false => rw [q, if_neg (by decide)] at e; cases e
          rw [if_pos hq] at e
          have hb := Option.some.inj e
          have hzz : (tb (leads d) z z).isSome = true := (leads_some hz2 hz2).mpr ⟨0, false, .nil z⟩
          have hhit : rcHit d pr m z z = true := by unfold rcHit; rw [hq, hzz]; rfl
          rw [reached_get hz2, if_pos (List.any_eq_true.mpr ⟨z, List.mem_range.mpr hz2, hhit⟩)]
          refine ⟨_, rfl, fun hst => List.any_eq_true.mpr ⟨z, List.mem_range.mpr hz2, ?_⟩⟩
          unfold rcStrict
          rw [hhit, hb, Bool.true_and]
          rw [Bool.false_or] at hst
          rw [hst]; rfl
      · have hy2 : y < d.n := by omega
        obtain ⟨r, hr1, hr2⟩ := ih1 hy2
        by_cases hzn : z = d.n
        · subst hzn
          refine ⟨fun h => absurd h (Nat.lt_irrefl _), fun _ => ?_⟩
          rw [more_step_to hL hy2] at e
          have hq : qatm (dot (d.pr y) bs) (spt d y) = true := by
            cases q : qatm (dot (d.pr y) bs) (spt d y) with
            | true => rfl
            | false => rw [q, if_neg (by decide)] at e; cases e
          rw [if_pos hq] at e
          have hb := Option.some.inj e
          have hkp := keep y r hy2 hr1
          unfold keepsRow at hkp
          rw [qatm_not_less] at hq
          cases r with
          | true =>
            have hkp : qless (spt d y) (dot (d.pr y) bs) = true := hkp
            rw [hkp] at hq; cases hq
          | false =>
            have hkp : qatm (spt d y) (dot (d.pr y) bs) = true := hkp
            rw [qatm_not_less] at hkp
            have hs : s = false := by
              cases s with
              | false => rfl
              | true => exact absurd (hr2 rfl) (by decide)
            rw [hs, ← hb]
            cases q : qless (dot (d.pr y) bs) (spt d y) with
            | false => rfl
            | true => rw [q] at hkp; cases hkp
        · have hz2 : z < d.n := by omega
          refine ⟨fun _ => ?_, fun h => absurd h hzn⟩
          rw [more_step_old hy2 hz2] at e
          have e' : tb (table d) y z = some b := by rw [tb_table hy2 hz2]; exact e
          rw [reached_get hy2] at hr1
          have hhy : (List.range d.n).any (rcHit d pr m y) = true := by
            cases q : (List.range d.n).any (rcHit d pr m y) with
            | true => rfl
            | false => rw [q, if_neg (by decide)] at hr1; cases hr1
          rw [if_pos hhy] at hr1
          have hr1 := Option.some.inj hr1
          have hit : ∀ i, i < d.n → rcHit d pr m y i = true → rcHit d pr m z i = true ∧ (b = true → tb (leads d) i z = some true) ∧ (tb (leads d) i y = some true → tb (leads d) i z = some true) := fun i hi h => by
            obtain ⟨h1, h2⟩ := rcHit_is h
            obtain ⟨k1, s1, w1⟩ := (leads_some hi hy2).mp h2
            refine ⟨?_, fun hb => ?_, fun ht => ?_⟩
            · unfold rcHit
              rw [h1, (leads_some hi hz2).mpr ⟨_, _, w1.snoc e'⟩]; rfl
            · subst hb
              refine (leads_true hi hz2).mpr ⟨k1 + 1, ?_⟩
              have := w1.snoc e'
              rwa [Bool.or_true] at this
            · obtain ⟨k2, w2⟩ := (leads_true hi hy2).mp ht
              refine (leads_true hi hz2).mpr ⟨k2 + 1, ?_⟩
              have := w2.snoc e'
              rwa [Bool.true_or] at this
          obtain ⟨i0, hi0, hh0⟩ := List.any_eq_true.mp hhy
          have hi0 := List.mem_range.mp hi0
          obtain ⟨g1, g2, g3⟩ := hit i0 hi0 hh0
          rw [reached_get hz2, if_pos (List.any_eq_true.mpr ⟨i0, List.mem_range.mpr hi0, g1⟩)]
          refine ⟨_, rfl, fun hst => ?_⟩
          rw [Bool.or_eq_true] at hst
          rcases hst with hst | hst
          · have hrt := hr2 hst
            rw [← hr1] at hrt
            obtain ⟨i1, hi1, hs1⟩ := List.any_eq_true.mp hrt
            have hi1 := List.mem_range.mp hi1
            unfold rcStrict at hs1
            rw [Bool.and_eq_true, Bool.or_eq_true] at hs1
            obtain ⟨f1, f2, f3⟩ := hit i1 hi1 hs1.1
            refine List.any_eq_true.mpr ⟨i1, List.mem_range.mpr hi1, ?_⟩
            unfold rcStrict
            rw [f1, Bool.true_and, Bool.or_eq_true]
            rcases hs1.2 with q | q
            · exact .inl q
            · right
              rw [f3 (by simpa using q)]; rfl
          · refine List.any_eq_true.mpr ⟨i0, List.mem_range.mpr hi0, ?_⟩
            unfold rcStrict
            rw [g1, g2 hst, Bool.true_and, Bool.or_eq_true]
            right; rfl
  have B : ∀ k x y s, x < d.n → Wk (tb (table (moreD d pr bs))) k x y s → (y < d.n ∧ Wk (tb (table d)) k x y s) ∨ ∃ k1 k2 s1 s2, Wk (tb (table (moreD d pr bs))) k1 x d.n s1 ∧ Wk (tb (table (moreD d pr bs))) k2 d.n y s2 ∧ s = (s1 || s2) := by
    intro k x y s hx w
    induction w with
    | nil i => exact .inl ⟨hx, .nil i⟩
    | @snoc k i y z s b w e ih =>
      rcases ih hx with ⟨hy, w1⟩ | ⟨k1, k2, s1, s2, w1, w2, rfl⟩
      · have hz : z < (moreD d pr bs).n := by have := ((Sq.table (moreD d pr bs)).lt _ _ _ e).2; rw [table_len] at this; exact this
        rw [hn'] at hz
        by_cases hzn : z = d.n
        · subst hzn
          exact .inr ⟨_, 0, s || b, false, w.snoc e, .nil _, by rw [Bool.or_false]⟩
        · left
          refine ⟨by omega, w1.snoc ?_⟩
          rw [tb_table (by omega) (by omega), more_step_old hy (by omega)] at e
          rw [tb_table hy (by omega)]; exact e
      · exact .inr ⟨k1, _, s1, s2 || b, w1, w2.snoc e, by rw [Bool.or_assoc]⟩
  refine List.find?_eq_none.mpr fun i hi ht => ?_
  have hi := List.mem_range.mp hi
  have ht : tb (leads (moreD d pr bs)) i i = some true := by simpa using ht
  obtain ⟨k, w⟩ := (leads_true hi hi).mp ht
  rw [hn'] at hi
  by_cases hin : i = d.n
  · subst hin
    exact absurd ((A _ _ _ w).2 rfl) (by decide)
  · rcases B _ _ _ _ (by omega) w with ⟨hy, w1⟩ | ⟨k1, k2, s1, s2, w1, w2, hs⟩
    · exact nr i hy ((leads_true hy hy).mpr ⟨k, w1⟩)
    · have := (A _ _ _ (w2.cat w1)).2 rfl
      rw [Bool.or_comm] at hs
      rw [this] at hs
      cases hs
end
end BB
set_option linter.all false
set_option maxRecDepth 100000
namespace BB
def Dq (d : Dt) (i j : Nat) : Qt := qsub (cst d i j) (spt d i)
structure Fit (d : Dt) : Prop where
  n : d.n ≤ 5
  ok : DtOk d
  lk : LkOk d
  nr : ringAt d = none
  dd : ∀ i j, i < d.n → j < d.n → (Dq d i j).2.natAbs ≤ 2 ^ 540
  dn : ∀ i j, i < d.n → j < d.n → (Dq d i j).1.natAbs ≤ 2 ^ 580
  cs : ∀ i j, i < d.n → j < d.n → ((cst d i j).2 * (spt d i).2).natAbs < 2 ^ 9000
section
variable {d : Dt} (H : Fit d)
theorem Fit.cp (H : Fit d) {i j : Nat} (hi : i < d.n) (hj : j < d.n) : 0 < (cst d i j).2 := (H.ok.ok i j hi hj).2.1
theorem Fit.sp (H : Fit d) {i : Nat} (hi : i < d.n) : 0 < (spt d i).2 := H.cp hi hi
def Dv (d : Dt) (i j : Nat) : Rat := rv (cst d i j) - rv (spt d i)
theorem Dv_self (i : Nat) : Dv d i i = 0 := by unfold Dv spt cst; grind
theorem Fit.dq (H : Fit d) {i j : Nat} (hi : i < d.n) (hj : j < d.n) : 0 < (Dq d i j).2 ∧ rv (Dq d i j) = Dv d i j ∧ Red (Dq d i j) := by
  obtain ⟨r, v⟩ := qsub_is (H.cp hi hj) (H.sp hi)
  exact ⟨r.pos, v, r.red⟩
theorem fold_lk_some {i j : Nat} : ∀ (ls : List Lk) (r : Option Bool), r.isSome = true → (ls.foldl (lk1 i j) r).isSome = true ∧ (r = some true → ls.foldl (lk1 i j) r = some true)
  | [], r, h => ⟨h, fun e => e⟩
  | l :: ls, r, h => by
    show (ls.foldl (lk1 i j) (lk1 i j r l)).isSome = true ∧ (r = some true → ls.foldl (lk1 i j) (lk1 i j r l) = some true)
    have h1 : (lk1 i j r l).isSome = true := by unfold lk1; split; rfl; exact h
    obtain ⟨g1, g2⟩ := fold_lk_some ls (lk1 i j r l) h1
    refine ⟨g1, fun e => g2 ?_⟩
    subst e
    unfold lk1
    split <;> rfl
theorem fold_lk_mem {i j : Nat} : ∀ (ls : List Lk) (r : Option Bool) (l : Lk), l ∈ ls → l.1 = i → l.2.1 = j → (ls.foldl (lk1 i j) r).isSome = true ∧ (l.2.2 = true → ls.foldl (lk1 i j) r = some true)
  | l' :: ls, r, l, hm, h1, h2 => by
    show (ls.foldl (lk1 i j) (lk1 i j r l')).isSome = true ∧ (l.2.2 = true → ls.foldl (lk1 i j) (lk1 i j r l') = some true)
    rcases List.mem_cons.mp hm with rfl | hm
    · have e : lk1 i j r l = some (r == some true || l.2.2) := by unfold lk1; rw [if_pos ⟨h1, h2⟩]
      rw [e]
      obtain ⟨g1, g2⟩ := fold_lk_some (i := i) (j := j) ls (some (r == some true || l.2.2)) rfl
      refine ⟨g1, fun z => g2 ?_⟩
      rw [z, Bool.or_true]
    · exact fold_lk_mem ls _ l hm h1 h2
theorem Fit.step_le (H : Fit d) {i j : Nat} (hi : i < d.n) (hj : j < d.n) (hij : i ≠ j) (h : Dv d i j ≤ 0) : (stepF d i j).isSome = true ∧ (Dv d i j < 0 → stepF d i j = some true) := by
  have hq : qatm (cst d i j) (spt d i) = true := (qatm_rv (H.cp hi hj) (H.sp hi)).mpr (by unfold Dv at h; grind)
  have e : step0 d i j = some (qless (cst d i j) (spt d i)) := by unfold step0; rw [if_neg hij, if_pos hq]
  obtain ⟨g1, g2⟩ := fold_lk_some (i := i) (j := j) d.links (step0 d i j) (by rw [e]; rfl)
  refine ⟨g1, fun z => g2 ?_⟩
  rw [e, (qless_rv (H.cp hi hj) (H.sp hi)).mpr (by unfold Dv at z; grind)]
theorem step_lk {i j : Nat} {s : Bool} (h : (i, j, s) ∈ d.links) : (stepF d i j).isSome = true ∧ (s = true → stepF d i j = some true) := fold_lk_mem d.links _ (i, j, s) h rfl rfl
abbrev Lds (d : Dt) (i j : Nat) : Prop := (tb (leads d) i j).isSome = true
theorem le_refl {i : Nat} (hi : i < d.n) : Lds d i i := (leads_some hi hi).mpr ⟨0, false, .nil i⟩
theorem le_trans {i j k : Nat} (hi : i < d.n) (hj : j < d.n) (hk : k < d.n) (h : Lds d i j) (g : Lds d j k) : Lds d i k := by
  obtain ⟨a, s, w⟩ := (leads_some hi hj).mp h
  obtain ⟨b, t, u⟩ := (leads_some hj hk).mp g
  exact (leads_some hi hk).mpr ⟨_, _, w.cat u⟩
theorem le_step {i j : Nat} (hi : i < d.n) (hj : j < d.n) (h : (stepF d i j).isSome = true) : Lds d i j := by
  obtain ⟨b, hb⟩ := Option.isSome_iff_exists.mp h
  exact (leads_some hi hj).mpr ⟨1, b, Wk.one (by rw [tb_table hi hj]; exact hb)⟩
theorem Fit.no_strict (H : Fit d) {i j : Nat} (hi : i < d.n) (hj : j < d.n) (h : Lds d j i) : stepF d i j ≠ some true := by
  intro e
  obtain ⟨a, s, w⟩ := (leads_some hj hi).mp h
  have w1 : Wk (tb (table d)) 1 i j true := Wk.one (by rw [tb_table hi hj]; exact e)
  have := w1.cat w
  rw [Bool.true_or] at this
  have ht := (leads_true hi hi).mpr ⟨_, this⟩
  have := List.find?_eq_none.mp H.nr i (List.mem_range.mpr hi)
  rw [ht] at this
  exact this rfl
theorem Fit.cls_ge (H : Fit d) {i j : Nat} (hi : i < d.n) (hj : j < d.n) (h : Lds d j i) : 0 ≤ Dv d i j := by
  by_cases e : i = j
  · subst e; rw [Dv_self]; exact Rat.le_refl
  · rw [← Rat.not_lt]
    intro z
    exact H.no_strict hi hj h ((H.step_le hi hj e (by grind)).2 z)
theorem Fit.up_gt (H : Fit d) {i j : Nat} (hi : i < d.n) (hj : j < d.n) (h : ¬ Lds d i j) : 0 < Dv d i j := by
  rw [← Rat.not_le]
  intro z
  by_cases e : i = j
  · subst e; exact h (le_refl hi)
  · exact h (le_step hi hj (H.step_le hi hj e z).1)
theorem Fit.lk_up (H : Fit d) {i j : Nat} {s : Bool} (h : (i, j, s) ∈ d.links) : Lds d i j ∧ (s = true → ¬ Lds d j i) := by
  obtain ⟨h1, h2⟩ := H.lk _ h
  obtain ⟨g1, g2⟩ := step_lk h
  exact ⟨le_step h1 h2 g1, fun z q => H.no_strict h1 h2 q (g2 z)⟩
end
theorem filter_lt {α : Type} {p q : α → Bool} : ∀ {l : List α} {x : α}, (∀ y ∈ l, q y = true → p y = true) → x ∈ l → p x = true → q x = false → (l.filter q).length < (l.filter p).length
  | a :: l, x, h, hx, hp, hq => by
    have hle : ∀ {l : List α}, (∀ y ∈ l, q y = true → p y = true) → (l.filter q).length ≤ (l.filter p).length := by
      intro l
      induction l with
      | nil => intro _; exact Nat.le_refl _
      | cons b l ih =>
        intro h
        have ih := ih fun y hy => h y (List.mem_cons_of_mem _ hy)
        rw [List.filter_cons, List.filter_cons]
        cases e : q b with
        | true =>
          rw [if_pos rfl, if_pos (h b List.mem_cons_self e), List.length_cons, List.length_cons]; omega
        | false =>
          rw [if_neg (by decide)]
          split
          · rw [List.length_cons]; omega
          · exact ih
    rw [List.filter_cons, List.filter_cons]
    rcases List.mem_cons.mp hx with rfl | hx
    · rw [hp, hq, if_pos rfl, if_neg (by decide), List.length_cons]
      have := hle (l := l) fun y hy => h y (List.mem_cons_of_mem _ hy)
      omega
    · have ih := filter_lt (l := l) (fun y hy => h y (List.mem_cons_of_mem _ hy)) hx hp hq
      cases e : q a with
      | true =>
        rw [if_pos rfl, if_pos (h a List.mem_cons_self e), List.length_cons, List.length_cons]; omega
      | false =>
        rw [if_neg (by decide)]
        split
        · rw [List.length_cons]; omega
        · exact ih
section
variable {d : Dt} {done : List Bool}
theorem free_is {i : Nat} (h : freeC (leads d) done i = true) : done.getD i false = false ∧ ∀ j, j < d.n → done.getD j false = false → Lds d j i → Lds d i j := by
  unfold freeC at h
  rw [Bool.and_eq_true] at h
  obtain ⟨h1, h2⟩ := h
  refine ⟨by simpa using h1, fun j hj hd hl => ?_⟩
  rw [(Sq.leads d).1] at h2
  have h2 : (List.range d.n).any (notFree (leads d) done i) = false := by simpa using h2
  have := List.any_eq_false.mp h2 j (List.mem_range.mpr hj)
  unfold notFree at this
  rw [hd, hl] at this
  cases e : tb (leads d) i j with
  | some s => show (tb (leads d) i j).isSome = true; rw [e]; rfl
  | none => rw [e] at this; exact absurd rfl this
theorem free_ex {c : Nat} : ∀ {i : Nat}, i < d.n → done.getD i false = false → ((List.range d.n).filter fun j => !done.getD j false && (tb (leads d) j i).isSome).length ≤ c → ∃ i, i < d.n ∧ freeC (leads d) done i = true := by
  induction c with
  | zero =>
    intro i hi hd hc
    have : i ∈ (List.range d.n).filter fun j => !done.getD j false && (tb (leads d) j i).isSome := List.mem_filter.mpr ⟨List.mem_range.mpr hi, by rw [hd, le_refl hi]; rfl⟩
    have := List.length_pos_of_mem this
    omega
  | succ c ih =>
    intro i hi hd hc
    cases e : freeC (leads d) done i with
    | true => exact ⟨i, hi, e⟩
    | false =>
      unfold freeC at e
      rw [hd, (Sq.leads d).1] at e
      have e : (List.range d.n).any (notFree (leads d) done i) = true := by simpa using e
      obtain ⟨j, hj, hn⟩ := List.any_eq_true.mp e
      have hj := List.mem_range.mp hj
      unfold notFree at hn
      rw [Bool.and_eq_true, Bool.and_eq_true] at hn
      obtain ⟨⟨h1, h2⟩, h3⟩ := hn
      have h1 : done.getD j false = false := by simpa using h1
      refine ih hj h1 ?_
      have := filter_lt (p := fun k => !done.getD k false && (tb (leads d) k i).isSome) (q := fun k => !done.getD k false && (tb (leads d) k j).isSome) (l := List.range d.n) (x := i) (fun k hk hq => by
        rw [Bool.and_eq_true] at hq ⊢
        exact ⟨hq.1, le_trans (List.mem_range.mp hk) hj hi hq.2 h2⟩) (List.mem_range.mpr hi) (by rw [hd, le_refl hi]; rfl) (by
        rw [hd]
        cases q : tb (leads d) i j with
        | none => rfl
        | some s => rw [q] at h3; cases h3)
      omega
theorem next_is : (nextClass (leads d) done = [] ∧ ∀ i, i < d.n → done.getD i false = true) ∨ ∃ i, i < d.n ∧ freeC (leads d) done i = true ∧ nextClass (leads d) done = classOf (leads d) i := by
  unfold nextClass
  rw [(Sq.leads d).1]
  cases e : (List.range d.n).find? (freeC (leads d) done) with
  | some i => exact .inr ⟨i, List.mem_range.mp (List.mem_of_find?_eq_some e), List.find?_some e, rfl⟩
  | none =>
    refine .inl ⟨rfl, fun i hi => ?_⟩
    cases hd : done.getD i false with
    | true => rfl
    | false =>
      obtain ⟨k, hk, hf⟩ := free_ex (c := _) hi hd (Nat.le_refl _)
      exact absurd hf (List.find?_eq_none.mp e k (List.mem_range.mpr hk))
theorem mem_class {i j : Nat} : j ∈ classOf (leads d) i ↔ j < d.n ∧ Lds d i j ∧ Lds d j i := by
  unfold classOf
  rw [(Sq.leads d).1, List.mem_filter, List.mem_range, Bool.and_eq_true]
end
end BB
set_option linter.all false
set_option maxRecDepth 100000
namespace BB
def Sz (p q : Nat) (x : Qt) : Prop := x.1.natAbs < 2 ^ p ∧ 0 < x.2 ∧ x.2.natAbs ≤ 2 ^ q
theorem Sz.mono {p q r s : Nat} {x : Qt} (h : Sz p q x) (h1 : p ≤ r) (h2 : q ≤ s) : Sz r s x := ⟨Nat.lt_of_lt_of_le h.1 (Nat.pow_le_pow_right (by omega) h1), h.2.1, Nat.le_trans h.2.2 (Nat.pow_le_pow_right (by omega) h2)⟩
theorem pow_lt {a b : Nat} (h : a < b) : 2 ^ a < 2 ^ b := Nat.pow_lt_pow_right (by omega) h
theorem Sz.ok {p q : Nat} {x : Qt} (h : Sz p q x) (h1 : p ≤ 400000) (h2 : q < 9000) : Ok x := ⟨Nat.lt_of_lt_of_le h.1 (Nat.pow_le_pow_right (by omega) h1), h.2.1, Nat.lt_of_le_of_lt h.2.2 (pow_lt h2)⟩
theorem mul_lt2 {a b p s : Nat} (h : a < 2 ^ p) (g : b ≤ 2 ^ s) : a * b < 2 ^ (p + s) := by
  rw [Nat.pow_add]
  refine Nat.lt_of_le_of_lt (Nat.mul_le_mul_left a g) ?_
  exact Nat.mul_lt_mul_of_lt_of_le h (Nat.le_refl _) (Nat.two_pow_pos s)
theorem mul_le2 {a b p s : Nat} (h : a ≤ 2 ^ p) (g : b ≤ 2 ^ s) : a * b ≤ 2 ^ (p + s) := by
  rw [Nat.pow_add]; exact Nat.mul_le_mul h g
theorem sum_lt2 {a b p q t : Nat} (h : a < 2 ^ p) (g : b < 2 ^ q) (h1 : p + 1 ≤ t) (h2 : q + 1 ≤ t) : a + b < 2 ^ t := by
  have e1 : 2 ^ p ≤ 2 ^ (t - 1) := Nat.pow_le_pow_right (by omega) (by omega)
  have e2 : 2 ^ q ≤ 2 ^ (t - 1) := Nat.pow_le_pow_right (by omega) (by omega)
  have e3 : 2 ^ t = 2 ^ (t - 1) * 2 := by rw [← Nat.pow_succ]; congr 1; omega
  omega
section
variable {p q r s t : Nat} {a b : Qt}
theorem num_add (ha : Sz p q a) (hb : Sz r s b) (h1 : p + s + 1 ≤ t) (h2 : r + q + 1 ≤ t) : (a.1 * b.2 + b.1 * a.2).natAbs < 2 ^ t := by
  refine Nat.lt_of_le_of_lt (Int.natAbs_add_le _ _) ?_
  rw [Int.natAbs_mul, Int.natAbs_mul]
  exact sum_lt2 (mul_lt2 ha.1 hb.2.2) (mul_lt2 hb.1 ha.2.2) h1 h2
theorem num_sub (ha : Sz p q a) (hb : Sz r s b) (h1 : p + s + 1 ≤ t) (h2 : r + q + 1 ≤ t) : (a.1 * b.2 - b.1 * a.2).natAbs < 2 ^ t := by
  refine Nat.lt_of_le_of_lt (Int.natAbs_sub_le _ _) ?_
  rw [Int.natAbs_mul, Int.natAbs_mul]
  exact sum_lt2 (mul_lt2 ha.1 hb.2.2) (mul_lt2 hb.1 ha.2.2) h1 h2
theorem den_mul (ha : Sz p q a) (hb : Sz r s b) : (a.2 * b.2).natAbs ≤ 2 ^ (q + s) := by
  rw [Int.natAbs_mul]; exact mul_le2 ha.2.2 hb.2.2
theorem Sz.add (ha : Sz p q a) (hb : Sz r s b) (h1 : p + s + 1 ≤ t) (h2 : r + q + 1 ≤ t) : Sz t (q + s) (qadd a b) := by
  obtain ⟨i, _⟩ := qadd_is ha.2.1 hb.2.1
  exact ⟨Nat.lt_of_le_of_lt i.n (num_add ha hb h1 h2), i.pos, Nat.le_trans i.d (den_mul ha hb)⟩
theorem Sz.sub (ha : Sz p q a) (hb : Sz r s b) (h1 : p + s + 1 ≤ t) (h2 : r + q + 1 ≤ t) : Sz t (q + s) (qsub a b) := by
  obtain ⟨i, _⟩ := qsub_is ha.2.1 hb.2.1
  exact ⟨Nat.lt_of_le_of_lt i.n (num_sub ha hb h1 h2), i.pos, Nat.le_trans i.d (den_mul ha hb)⟩
theorem Sz.mul (ha : Sz p q a) (hb : Sz r s b) : Sz (p + r) (q + s) (qmul a b) := by
  obtain ⟨i, _⟩ := qmul_is ha.2.1 hb.2.1
  refine ⟨Nat.lt_of_le_of_lt i.n ?_, i.pos, Nat.le_trans i.d (den_mul ha hb)⟩
  rw [Int.natAbs_mul]; exact mul_lt2 ha.1 (Nat.le_of_lt hb.1)
theorem Sz.div (ha : Sz p q a) (hb : Sz r s b) (h0 : b.1 ≠ 0) : Sz (p + s) (q + r) (qdiv a b) := by
  obtain ⟨i, _⟩ := qdiv_is ha.2.1 hb.2.1 h0
  refine ⟨Nat.lt_of_le_of_lt i.n ?_, i.pos, Nat.le_trans i.d ?_⟩
  · rw [Int.natAbs_mul]; exact mul_lt2 ha.1 hb.2.2
  · rw [Int.natAbs_mul]; exact mul_le2 ha.2.2 (Nat.le_of_lt hb.1)
theorem Sz.lplus (ha : Sz p q a) (hb : Sz r s b) (h1 : p + s + 1 ≤ t) (h2 : r + q + 1 ≤ t) : Sz t (q + s) (BB.lplus a b) := ⟨num_add ha hb h1 h2, (rv_lplus ha.2.1 hb.2.1).1, den_mul ha hb⟩
theorem Sz.ltimes (ha : Sz p q a) (hb : Sz r s b) : Sz (p + r) (q + s) (BB.ltimes a b) := by
  refine ⟨?_, (rv_ltimes ha.2.1 hb.2.1).1, den_mul ha hb⟩
  show (a.1 * b.1).natAbs < _
  rw [Int.natAbs_mul]; exact mul_lt2 ha.1 (Nat.le_of_lt hb.1)
theorem Sz.lneg (ha : Sz p q a) : Sz p q (BB.lneg a) := ⟨by show (-a.1).natAbs < _; rw [Int.natAbs_neg]; exact ha.1, ha.2⟩
end
theorem sz_q0 : Sz 0 0 q0 := ⟨by decide, by decide, by decide⟩
theorem sz_q1 : Sz 1 0 q1 := ⟨by decide, by decide, by decide⟩
theorem red_q0 : Red q0 := ⟨by decide, by decide⟩
theorem red_q1 : Red q1 := ⟨by decide, by decide⟩
theorem rv_q0 : rv q0 = 0 := by
  have := rv_mul (x := q0) (by decide)
  have e1 : ((q0.2 : Int) : Rat) = 1 := rfl
  have e2 : ((q0.1 : Int) : Rat) = 0 := rfl
  rw [e1, e2] at this
  grind
theorem rv_q1 : rv q1 = 1 := by
  have := rv_mul (x := q1) (by decide)
  have e1 : ((q1.2 : Int) : Rat) = 1 := rfl
  have e2 : ((q1.1 : Int) : Rat) = 1 := rfl
  rw [e1, e2] at this
  grind
def DnR (N : Nat) (v : Rat) : Prop := ∃ z : Int, v * (N : Rat) = (z : Rat)
theorem DnR.add {N : Nat} {u v : Rat} (h : DnR N u) (g : DnR N v) : DnR N (u + v) := by
  obtain ⟨a, ha⟩ := h
  obtain ⟨b, hb⟩ := g
  refine ⟨a + b, ?_⟩
  rw [Rat.intCast_add]; grind
theorem DnR.sub {N : Nat} {u v : Rat} (h : DnR N u) (g : DnR N v) : DnR N (u - v) := by
  obtain ⟨a, ha⟩ := h
  obtain ⟨b, hb⟩ := g
  refine ⟨a - b, ?_⟩
  rw [Rat.intCast_sub]; grind
theorem DnR.mul {N M : Nat} {u v : Rat} (h : DnR N u) (g : DnR M v) : DnR (N * M) (u * v) := by
  obtain ⟨a, ha⟩ := h
  obtain ⟨b, hb⟩ := g
  refine ⟨a * b, ?_⟩
  rw [Rat.intCast_mul, Rat.natCast_mul]; grind
theorem DnR.one (N : Nat) : DnR N 1 := ⟨(N : Int), by rw [Rat.one_mul]; rfl⟩
theorem DnR.zero (N : Nat) : DnR N 0 := ⟨0, by rw [Rat.zero_mul]; rfl⟩
theorem DnR.more {N : Nat} {u : Rat} (h : DnR N u) (M : Nat) : DnR (N * M) u := by
  have := h.mul (DnR.one M)
  rwa [Rat.mul_one] at this
theorem natAbs_cast {z : Int} (h : 0 < z) : ((z.natAbs : Nat) : Rat) = (z : Rat) := by
  obtain ⟨n, rfl⟩ : ∃ n : Nat, z = (n : Int) := ⟨z.toNat, by omega⟩
  rw [Int.natAbs_natCast]; rfl
theorem DnR.self {x : Qt} (h : 0 < x.2) : DnR x.2.natAbs (rv x) := ⟨x.1, by rw [natAbs_cast h]; exact rv_mul h⟩
theorem DnR.den {N : Nat} {x : Qt} (h : DnR N (rv x)) (hr : Red x) (hN : 0 < N) : x.2.natAbs ≤ N := by
  obtain ⟨z, hz⟩ := h
  obtain ⟨hp, hg⟩ := hr
  have h1 := rv_mul hp
  have e : x.1 * (N : Int) = z * x.2 := by
    have : ((x.1 * (N : Int) : Int) : Rat) = ((z * x.2 : Int) : Rat) := by
      rw [Rat.intCast_mul, Rat.intCast_mul, ← h1, ← hz]
      have : (((N : Nat) : Int) : Rat) = (N : Rat) := rfl
      rw [this]; grind
    exact_mod_cast this
  have en : x.1.natAbs * N = z.natAbs * x.2.natAbs := by
    have := congrArg Int.natAbs e
    rw [Int.natAbs_mul, Int.natAbs_mul, Int.natAbs_natCast] at this
    exact this
  have : x.2.natAbs ∣ N := Nat.Coprime.dvd_of_dvd_mul_left (k := x.2.natAbs) (m := x.1.natAbs) (n := N) (by unfold Nat.Coprime; rw [Nat.gcd_comm]; exact hg) ⟨z.natAbs, by rw [en, Nat.mul_comm]⟩
  exact Nat.le_of_dvd hN this
def Lst (S : Qt → Prop) : Option Qt → Prop
  | none => ∀ v, ¬ S v
  | some x => S x ∧ ∀ v, S v → rv x ≤ rv v
theorem Lst.step {S S' : Qt → Prop} {b : Option Qt} {v : Qt} (h : Lst S b) (hp : ∀ x, S' x → 0 < x.2) (e : ∀ x, S' x ↔ S x ∨ x = v) : Lst S' (best1 b v) := by
  have hv : 0 < v.2 := hp v ((e v).mpr (.inr rfl))
  cases b with
  | none =>
    refine ⟨(e v).mpr (.inr rfl), fun w hw => ?_⟩
    rcases (e w).mp hw with z | rfl
    · exact absurd z (h w)
    · exact Rat.le_refl
  | some x =>
    obtain ⟨h1, h2⟩ := h
    have hx : 0 < x.2 := hp x ((e x).mpr (.inl h1))
    show Lst S' (if qless v x then some v else some x)
    cases q : qless v x with
    | true =>
      rw [if_pos rfl]
      have q := (qless_rv hv hx).mp q
      refine ⟨(e v).mpr (.inr rfl), fun w hw => ?_⟩
      rcases (e w).mp hw with z | rfl
      · have := h2 w z; grind
      · exact Rat.le_refl
    | false =>
      rw [if_neg (by decide)]
      have q := (qless_not hv hx).mp q
      refine ⟨(e x).mpr (.inl h1), fun w hw => ?_⟩
      rcases (e w).mp hw with z | rfl
      · exact h2 w z
      · exact q
theorem Lst.steps : ∀ (vs : List Qt) {S S' : Qt → Prop} {b : Option Qt}, Lst S b → (∀ x, S' x → 0 < x.2) → (∀ x, S' x ↔ S x ∨ x ∈ vs) → Lst S' (vs.foldl best1 b)
  | [], S, S', b, h, _, e => by
    have : S = S' := funext fun x => propext (by rw [e x]; simp)
    rw [← this]; exact h
  | v :: vs, S, S', b, h, hp, e => by
    refine Lst.steps vs (S := fun x => S x ∨ x = v) (h.step (fun x hx => hp x ((e x).mpr (hx.imp id fun z => by rw [z]; exact List.mem_cons_self))) fun x => Iff.rfl) hp fun x => ?_
    rw [e x, List.mem_cons, or_assoc]
section
variable {d : Dt} {ns ws : List Qt} {done : List Bool} {ms : List Nat}
theorem best_is (hp : ∀ k, k < d.n → done.getD k false = true → ∀ c ∈ cands d ns ws ms k, 0 < c.2) : ∀ n, n ≤ d.n → Lst (fun v => ∃ k, k < n ∧ done.getD k false = true ∧ v ∈ cands d ns ws ms k) ((List.range n).foldl (bestK d ns ws done ms) none)
  | 0, _ => fun v h => by obtain ⟨k, hk, _⟩ := h; omega
  | n + 1, hn => by
    have ih := best_is hp n (by omega)
    rw [fold_range_snoc]
    unfold bestK
    split
    · rename_i hd
      refine Lst.steps _ ih (fun x hx => ?_) fun x => ⟨fun h => ?_, fun h => ?_⟩
      · obtain ⟨k, hk, h1, h2⟩ := hx
        exact hp k (by omega) h1 x h2
      · obtain ⟨k, hk, h1, h2⟩ := h
        by_cases z : k = n
        · subst z; exact .inr h2
        · exact .inl ⟨k, by omega, h1, h2⟩
      · rcases h with ⟨k, hk, h1, h2⟩ | h
        · exact ⟨k, by omega, h1, h2⟩
        · exact ⟨n, by omega, hd, h⟩
    · rename_i hd
      have : (fun v => ∃ k, k < n + 1 ∧ done.getD k false = true ∧ v ∈ cands d ns ws ms k) = fun v => ∃ k, k < n ∧ done.getD k false = true ∧ v ∈ cands d ns ws ms k := funext fun v => propext ⟨fun ⟨k, hk, h1, h2⟩ => by
        by_cases z : k = n
        · subst z; exact absurd h1 hd
        · exact ⟨k, by omega, h1, h2⟩, fun ⟨k, hk, h1, h2⟩ => ⟨k, by omega, h1, h2⟩⟩
      rw [this]; exact ih
theorem number_is (hl : done.length = d.n) (hp : ∀ k, k < d.n → done.getD k false = true → ∀ c ∈ cands d ns ws ms k, 0 < c.2) :
    ((∀ k, k < d.n → done.getD k false = false) ∧ classNumber d ns ws done ms = q0) ∨ ∃ k c, k < d.n ∧ done.getD k false = true ∧ c ∈ cands d ns ws ms k ∧ classNumber d ns ws done ms = qsub c q1 ∧ ∀ k', k' < d.n → done.getD k' false = true → ∀ c' ∈ cands d ns ws ms k', rv c ≤ rv c' := by
  have h := best_is hp d.n (Nat.le_refl _)
  unfold classNumber
  rw [hl]
  revert h
  generalize (List.range d.n).foldl (bestK d ns ws done ms) none = b
  intro h
  cases b with
  | none =>
    refine .inl ⟨fun k hk => ?_, rfl⟩
    cases e : done.getD k false with
    | false => rfl
    | true => exact absurd ⟨k, hk, e, List.mem_cons_self⟩ (h (ns.getD k q0))
  | some c =>
    obtain ⟨⟨k, hk, h1, h2⟩, h3⟩ := h
    exact .inr ⟨k, c, hk, h1, h2, rfl, fun k' hk' g1 c' g2 => h3 c' ⟨k', hk', g1, g2⟩⟩
variable {N : Qt} {j : Nat}
theorem wt_is (hp : ∀ k, k < d.n → done.getD k false = true → 0 < (wt1 d ns N j k).2) : ∀ n, n ≤ d.n → ((List.range n).foldl (wtK d ns done N j) q1 = q1 ∨ ∃ k, k < n ∧ done.getD k false = true ∧ (List.range n).foldl (wtK d ns done N j) q1 = wt1 d ns N j k) ∧
    0 < ((List.range n).foldl (wtK d ns done N j) q1).2 ∧ 1 ≤ rv ((List.range n).foldl (wtK d ns done N j) q1) ∧ ∀ k, k < n → done.getD k false = true → rv (wt1 d ns N j k) ≤ rv ((List.range n).foldl (wtK d ns done N j) q1)
  | 0, _ => ⟨.inl rfl, (by decide : (0 : Int) < q1.2), by show 1 ≤ rv q1; rw [rv_q1]; exact Rat.le_refl, fun k hk => by omega⟩
  | n + 1, hn => by
    obtain ⟨h1, h2, h3, h4⟩ := wt_is hp n (by omega)
    rw [fold_range_snoc]
    revert h1 h2 h3 h4
    generalize (List.range n).foldl (wtK d ns done N j) q1 = b
    intro h1 h2 h3 h4
    have keep : (b = q1 ∨ ∃ k, k < n + 1 ∧ done.getD k false = true ∧ b = wt1 d ns N j k) := h1.imp id fun ⟨k, hk, z⟩ => ⟨k, by omega, z⟩
    unfold wtK
    split
    · rename_i hd
      have hv := hp n (by omega) hd
      cases q : qless b (wt1 d ns N j n) with
      | true =>
        rw [if_pos rfl]
        have q := (qless_rv h2 hv).mp q
        refine ⟨.inr ⟨n, by omega, hd, rfl⟩, hv, by grind, fun k hk hdk => ?_⟩
        by_cases z : k = n
        · subst z; exact Rat.le_refl
        · have := h4 k (by omega) hdk; grind
      | false =>
        rw [if_neg (by decide)]
        have q := (qless_not h2 hv).mp q
        refine ⟨keep, h2, h3, fun k hk hdk => ?_⟩
        by_cases z : k = n
        · subst z; exact q
        · exact h4 k (by omega) hdk
    · rename_i hd
      refine ⟨keep, h2, h3, fun k hk hdk => ?_⟩
      by_cases z : k = n
      · subst z; exact absurd hdk hd
      · exact h4 k (by omega) hdk
end
section
variable {ms : List Nat} {N : Qt} {f : Nat → Qt} {t : Ts} {n : Nat}
theorem puts_is (hl : t.Len n) (hm : ∀ j ∈ ms, j < n) : ∀ k, k ≤ ms.length → ∀ j, j < n →
    (((List.range k).foldl (put1 ms N (ms.map f)) t).ns.getD j q0 = if j ∈ ms.take k then N else t.ns.getD j q0) ∧
    (((List.range k).foldl (put1 ms N (ms.map f)) t).ws.getD j q0 = if j ∈ ms.take k then f j else t.ws.getD j q0) ∧
    (((List.range k).foldl (put1 ms N (ms.map f)) t).done.getD j false = if j ∈ ms.take k then true else t.done.getD j false)
  | 0, _, j, _ => by simp
  | k + 1, hk, j, hj => by
    obtain ⟨h1, h2, h3⟩ := puts_is hl hm k (by omega) j hj
    obtain ⟨l1, l2, l3⟩ := puts_len (ms := ms) (x := N) (found := ms.map f) hl k
    have hkl : k < ms.length := by omega
    have htk : ms.take (k + 1) = ms.take k ++ [ms[k]] := by rw [List.take_add_one, List.getElem?_eq_getElem hkl]; rfl
    have hmk : ms.getD k 0 = ms[k] := by rw [List.getD_eq_getElem?_getD, List.getElem?_eq_getElem hkl]; rfl
    have hfk : (ms.map f).getD k q0 = f ms[k] := by rw [List.getD_eq_getElem?_getD, List.getElem?_map, List.getElem?_eq_getElem hkl]; rfl
    have hlt : ms[k] < n := hm _ (List.getElem_mem hkl)
    rw [fold_range_snoc, htk]
    revert h1 h2 h3 l1 l2 l3
    generalize (List.range k).foldl (put1 ms N (ms.map f)) t = u
    intro h1 h2 h3 l1 l2 l3
    unfold put1
    rw [hmk, hfk]
    show ((u.ns.set ms[k] N).getD j q0 = _) ∧ ((u.ws.set ms[k] (f ms[k])).getD j q0 = _) ∧ ((u.done.set ms[k] true).getD j false = _)
    by_cases e : ms[k] = j
    · subst e
      have hin : ms[k] ∈ ms.take k ++ [ms[k]] := List.mem_append_right _ (List.mem_singleton.mpr rfl)
      rw [getD_set_self _ _ _ _ (by omega), getD_set_self _ _ _ _ (by omega), getD_set_self _ _ _ _ (by omega), if_pos hin, if_pos hin, if_pos hin]
      exact ⟨rfl, rfl, rfl⟩
    · rw [getD_set_ne _ _ _ _ _ e, getD_set_ne _ _ _ _ _ e, getD_set_ne _ _ _ _ _ e, h1, h2, h3]
      have : (j ∈ ms.take k ++ [ms[k]]) ↔ j ∈ ms.take k := by
        rw [List.mem_append, List.mem_singleton]
        exact ⟨fun h => h.resolve_right fun z => e z.symm, .inl⟩
      by_cases h : j ∈ ms.take k
      · rw [if_pos h, if_pos (this.mpr h), if_pos h, if_pos (this.mpr h), if_pos h, if_pos (this.mpr h)]
        exact ⟨rfl, rfl, rfl⟩
      · rw [if_neg h, if_neg (fun z => h (this.mp z)), if_neg h, if_neg (fun z => h (this.mp z)), if_neg h, if_neg (fun z => h (this.mp z))]
        exact ⟨rfl, rfl, rfl⟩
end
end BB
set_option linter.all false
set_option maxRecDepth 100000
namespace BB
structure Inv (d : Dt) (r : Nat) (t : Ts) : Prop where
  len : t.Len d.n
  up : ∀ j k, j < d.n → k < d.n → t.done.getD k false = true → Lds d j k → t.done.getD j false = true
  rn : ∀ i, i < d.n → Red (t.ns.getD i q0)
  rw : ∀ i, i < d.n → Red (t.ws.getD i q0)
  wp : ∀ i, i < d.n → 0 < rv (t.ws.getD i q0)
  pair : ∀ i j, i < d.n → j < d.n → t.done.getD i false = true → t.done.getD j false = true → rv (t.ns.getD j q0) ≤ rv (t.ns.getD i q0) + rv (t.ws.getD i q0) * Dv d i j
  lnk : ∀ i j s, (i, j, s) ∈ d.links → t.done.getD i false = true → t.done.getD j false = true → rv (t.ns.getD j q0) ≤ rv (t.ns.getD i q0) ∧ (s = true → rv (t.ns.getD j q0) < rv (t.ns.getD i q0))
  den : ∃ E : Nat, 0 < E ∧ E ≤ 2 ^ (1120 * (r - 1)) ∧ (∀ i, i < d.n → t.done.getD i false = true → DnR E (rv (t.ns.getD i q0))) ∧ ∀ i, i < d.n → t.done.getD i false = true → ∃ v : Nat, 0 < v ∧ v ≤ 2 ^ 580 ∧ DnR (E * v) (rv (t.ws.getD i q0))
  sz : ∀ i, i < d.n → (t.ns.getD i q0).1.natAbs < 2 ^ (1 + 9600 * r) ∧ (t.ws.getD i q0).1.natAbs < 2 ^ (1 + 9600 * r)
  z : r = 0 → ∀ i, i < d.n → t.done.getD i false = false
  cnt : (∀ i, i < d.n → t.done.getD i false = true) ∨ ((List.range d.n).filter fun i => !t.done.getD i false).length + r ≤ d.n
section
variable {d : Dt} {r : Nat} {t : Ts}
theorem Inv.szn (I : Inv d r t) {i : Nat} (hi : i < d.n) (hd : t.done.getD i false = true) : Sz (1 + 9600 * r) (1120 * (r - 1)) (t.ns.getD i q0) := by
  obtain ⟨E, h1, h2, h3, _⟩ := I.den
  exact ⟨(I.sz i hi).1, (I.rn i hi).1, Nat.le_trans ((h3 i hi hd).den (I.rn i hi) h1) h2⟩
theorem Inv.szw (I : Inv d r t) {i : Nat} (hi : i < d.n) (hd : t.done.getD i false = true) : Sz (1 + 9600 * r) (1120 * (r - 1) + 580) (t.ws.getD i q0) := by
  obtain ⟨E, h1, h2, _, h4⟩ := I.den
  obtain ⟨v, g1, g2, g3⟩ := h4 i hi hd
  exact ⟨(I.sz i hi).2, (I.rw i hi).1, Nat.le_trans (g3.den (I.rw i hi) (Nat.mul_pos h1 g1)) (mul_le2 h2 g2)⟩
theorem Fit.szd (H : Fit d) {i j : Nat} (hi : i < d.n) (hj : j < d.n) : Sz 581 540 (Dq d i j) := ⟨Nat.lt_of_le_of_lt (H.dn i j hi hj) (pow_lt (by omega)), (H.dq hi hj).1, H.dd i j hi hj⟩
abbrev plq (d : Dt) (t : Ts) (k j : Nat) : Qt := plane d t.ns t.ws k (d.am j)
theorem plq_is (H : Fit d) (I : Inv d r t) (hr : r ≤ 4) {k j : Nat} (hk : k < d.n) (hj : j < d.n) (hd : t.done.getD k false = true) :
    PlOk d t.ns t.ws k (d.am j) ∧ Sz (1 + 9600 * r + 4481) 7840 (plq d t k j) ∧ rv (plq d t k j) = rv (t.ns.getD k q0) + rv (t.ws.getD k q0) * Dv d k j ∧ Red (plq d t k j) := by
  have sn := I.szn hk hd
  have sw := I.szw hk hd
  have sd := H.szd hk hj
  obtain ⟨d1, d2, d3⟩ := H.dq hk hj
  have sm := sw.mul sd
  have sp := sn.add sm (t := 1 + 9600 * r + 4481) (by omega) (by omega)
  obtain ⟨i1, e1⟩ := qmul_is sw.2.1 sd.2.1
  obtain ⟨i2, e2⟩ := qadd_is sn.2.1 i1.pos
  refine ⟨⟨H.ok.dot k j hk hj, H.ok.ok k j hk hj, sn.ok (by omega) (by omega), sw.ok (by omega) (by omega), H.cs k j hk hj, sd.ok (by omega) (by omega), ?_, sm.ok (by omega) (by omega), ?_⟩, sp.mono (by omega) (by omega), ?_, i2.red⟩
  · exact Nat.lt_of_le_of_lt (den_mul sw sd) (pow_lt (by omega))
  · exact Nat.lt_of_le_of_lt (den_mul sn sm) (pow_lt (by omega))
  · have e3 : rv (plq d t k j) = rv (t.ns.getD k q0) + rv (qmul (t.ws.getD k q0) (Dq d k j)) := e2
    rw [e3, e1, d2]
theorem mem_cands {ms : List Nat} {k : Nat} {c : Qt} : c ∈ cands d t.ns t.ws ms k ↔ c = t.ns.getD k q0 ∨ ∃ j, j ∈ ms ∧ c = plq d t k j := by
  unfold cands
  rw [List.mem_cons, List.mem_map]
  exact or_congr Iff.rfl ⟨fun ⟨j, h1, h2⟩ => ⟨j, h1, h2.symm⟩, fun ⟨j, h1, h2⟩ => ⟨j, h1, h2.symm⟩⟩
theorem cand_is (H : Fit d) (I : Inv d r t) (hr : r ≤ 4) {ms : List Nat} (hm : ∀ j ∈ ms, j < d.n) {k : Nat} (hk : k < d.n) (hd : t.done.getD k false = true) {c : Qt} (hc : c ∈ cands d t.ns t.ws ms k) : Sz (1 + 9600 * r + 4481) 7840 c ∧ Red c := by
  rcases mem_cands.mp hc with rfl | ⟨j, hj, rfl⟩
  · exact ⟨(I.szn hk hd).mono (by omega) (by omega), I.rn k hk⟩
  · obtain ⟨_, h2, _, h4⟩ := plq_is H I hr hk (hm j hj) hd
    exact ⟨h2, h4⟩
theorem Inv.cn (H : Fit d) (I : Inv d r t) (hr : r ≤ 4) {ms : List Nat} (hm : ∀ j ∈ ms, j < d.n) (hl : ms.length ≤ d.n) : CnOk d t.ns t.ws t.done ms :=
  ⟨I.len.ln, I.len.lw, I.len.ld, by have := H.n; omega, hm, fun k hk hd j hj => (plq_is H I hr hk (hm j hj) hd).1, fun k hk hd v hv => (cand_is H I hr hm hk hd hv).1.ok (by omega) (by omega)⟩
structure NumOk (d : Dt) (r : Nat) (t : Ts) (ms : List Nat) (N : Qt) : Prop where
  red : Red N
  n : N.1.natAbs < 2 ^ (1 + 9600 * r + 4482)
  lt : ∀ k, k < d.n → t.done.getD k false = true → rv N ≤ rv (t.ns.getD k q0) - 1 ∧ ∀ j ∈ ms, rv N ≤ rv (plq d t k j) - 1
  den : ∃ E : Nat, 0 < E ∧ E ≤ 2 ^ (1120 * r) ∧ DnR E (rv N) ∧ (∀ i, i < d.n → t.done.getD i false = true → DnR E (rv (t.ns.getD i q0))) ∧ ∀ i, i < d.n → t.done.getD i false = true → ∃ v : Nat, 0 < v ∧ v ≤ 2 ^ 580 ∧ DnR (E * v) (rv (t.ws.getD i q0))
theorem number_ok (H : Fit d) (I : Inv d r t) (hr : r ≤ 4) {ms : List Nat} (hm : ∀ j ∈ ms, j < d.n) : NumOk d r t ms (classNumber d t.ns t.ws t.done ms) := by
  obtain ⟨E, h1, h2, h3, h4⟩ := I.den
  have hcp : ∀ k, k < d.n → t.done.getD k false = true → ∀ c ∈ cands d t.ns t.ws ms k, 0 < c.2 := fun k hk hd c hc => (cand_is H I hr hm hk hd hc).1.2.1
  rcases number_is I.len.ld hcp with ⟨hno, hN⟩ | ⟨k, c, hk, hd, hc, hN, hle⟩
  · rw [hN]
    refine ⟨red_q0, Nat.two_pow_pos _, fun k hk hd => ?_, E, h1, Nat.le_trans h2 (Nat.pow_le_pow_right (by omega) (by omega)), by rw [rv_q0]; exact DnR.zero E, h3, h4⟩
    rw [hno k hk] at hd; cases hd
  · have hr0 : r ≠ 0 := fun z => by rw [I.z z k hk] at hd; cases hd
    obtain ⟨sc, rc⟩ := cand_is H I hr hm hk hd hc
    obtain ⟨i1, e1⟩ := qsub_is sc.2.1 (show 0 < q1.2 by decide)
    rw [hN]
    have hE : ∃ E' : Nat, 0 < E' ∧ E' ≤ 2 ^ (1120 * r) ∧ DnR E' (rv c) ∧ (∀ i, i < d.n → t.done.getD i false = true → DnR E' (rv (t.ns.getD i q0))) ∧ ∀ i, i < d.n → t.done.getD i false = true → ∃ v : Nat, 0 < v ∧ v ≤ 2 ^ 580 ∧ DnR (E' * v) (rv (t.ws.getD i q0)) := by
      rcases mem_cands.mp hc with rfl | ⟨j, hj, rfl⟩
      · exact ⟨E, h1, Nat.le_trans h2 (Nat.pow_le_pow_right (by omega) (by omega)), h3 k hk hd, h3, h4⟩
      · obtain ⟨v, g1, g2, g3⟩ := h4 k hk hd
        have hjn := hm j hj
        obtain ⟨d1, d2, d3⟩ := H.dq hk hjn
        obtain ⟨_, _, p3, _⟩ := plq_is H I hr hk hjn hd
        have hδ : 0 < (Dq d k j).2.natAbs := by omega
        have hD : DnR (Dq d k j).2.natAbs (Dv d k j) := by rw [← d2]; exact DnR.self d1
        refine ⟨E * v * (Dq d k j).2.natAbs, Nat.mul_pos (Nat.mul_pos h1 g1) hδ, ?_, ?_, fun i hi hdi => ?_, fun i hi hdi => ?_⟩
        · have := mul_le2 (mul_le2 h2 g2) (H.dd k j hk hjn)
          exact Nat.le_trans this (Nat.pow_le_pow_right (by omega) (by omega))
        · rw [p3]
          exact (((h3 k hk hd).more v).more _).add (g3.mul hD)
        · exact ((h3 i hi hdi).more v).more _
        · obtain ⟨u, f1, f2, f3⟩ := h4 i hi hdi
          refine ⟨u, f1, f2, ?_⟩
          have := (f3.more v).more (Dq d k j).2.natAbs
          rw [show E * u * v * (Dq d k j).2.natAbs = E * v * (Dq d k j).2.natAbs * u by rw [Nat.mul_right_comm E u v, Nat.mul_right_comm (E * v) u]] at this
          exact this
    obtain ⟨E', q1', q2', q3', q4', q5'⟩ := hE
    have hcd : c.2.natAbs ≤ 2 ^ 4480 := Nat.le_trans (q3'.den rc q1') (Nat.le_trans q2' (Nat.pow_le_pow_right (by omega) (by omega)))
    have sc2 : Sz (1 + 9600 * r + 4481) 4480 c := ⟨sc.1, sc.2.1, hcd⟩
    refine ⟨i1.red, (sc2.sub sz_q1 (t := 1 + 9600 * r + 4482) (by omega) (by omega)).1, fun k' hk' hd' => ⟨?_, fun j hj => ?_⟩, E', q1', q2', ?_, q4', q5'⟩
    · have := hle k' hk' hd' _ (mem_cands.mpr (.inl rfl))
      rw [e1, rv_q1]; grind
    · have := hle k' hk' hd' _ (mem_cands.mpr (.inr ⟨j, hj, rfl⟩))
      rw [e1, rv_q1]; grind
    · rw [e1, rv_q1]; exact q3'.sub (DnR.one E')
structure WtOk (d : Dt) (r : Nat) (t : Ts) (N : Qt) (j : Nat) (W : Qt) : Prop where
  red : Red W
  n : W.1.natAbs < 2 ^ (1 + 9600 * r + 9600)
  ge : 1 ≤ rv W
  on : ∀ k, k < d.n → t.done.getD k false = true → rv (t.ns.getD k q0) - rv N ≤ rv W * Dv d j k
  den : ∀ E : Nat, DnR E (rv N) → (∀ i, i < d.n → t.done.getD i false = true → DnR E (rv (t.ns.getD i q0))) → ∃ v : Nat, 0 < v ∧ v ≤ 2 ^ 580 ∧ DnR (E * v) (rv W)
theorem weight_ok (H : Fit d) (I : Inv d r t) (hr : r ≤ 4) {ms : List Nat} {N : Qt} (hN : NumOk d r t ms N) {j : Nat} (hj : j < d.n) (hgt : ∀ k, k < d.n → t.done.getD k false = true → 0 < Dv d j k) : MwOk d t.ns t.done N j ∧ WtOk d r t N j (memberWeight d t.ns t.done N j) := by
  obtain ⟨E, h1, h2, h3, h4, h5⟩ := hN.den
  have hNd : N.2.natAbs ≤ 2 ^ 4480 := Nat.le_trans (h3.den hN.red h1) (Nat.le_trans h2 (Nat.pow_le_pow_right (by omega) (by omega)))
  have sN : Sz (1 + 9600 * r + 4482) 4480 N := ⟨hN.n, hN.red.1, hNd⟩
  have A : ∀ k, k < d.n → t.done.getD k false = true → Sz (1 + 9600 * r + 7843) 7840 (qsub (t.ns.getD k q0) N) ∧ rv (qsub (t.ns.getD k q0) N) = rv (t.ns.getD k q0) - rv N ∧ (Dq d j k).1 ≠ 0 := fun k hk hd => by
    have sn := I.szn hk hd
    obtain ⟨i1, e1⟩ := qsub_is sn.2.1 sN.2.1
    refine ⟨(sn.sub sN (t := 1 + 9600 * r + 7843) (by omega) (by omega)).mono (by omega) (by omega), e1, fun z => ?_⟩
    obtain ⟨d1, d2, d3⟩ := H.dq hj hk
    have h := rv_mul d1
    have hg := hgt k hk hd
    rw [z] at h
    have n1 := cne (Int.ne_of_gt d1)
    have : ((0 : Int) : Rat) = 0 := rfl
    rw [this, d2] at h
    rcases Rat.mul_eq_zero.mp h with q | q
    · rw [q] at hg; exact absurd hg (by decide)
    · exact n1 q
  have W1 : ∀ k, k < d.n → t.done.getD k false = true → Sz (1 + 9600 * r + 9600) 8421 (wt1 d t.ns N j k) ∧ rv (wt1 d t.ns N j k) * Dv d j k = rv (t.ns.getD k q0) - rv N ∧ Red (wt1 d t.ns N j k) := fun k hk hd => by
    obtain ⟨a1, a2, a3⟩ := A k hk hd
    have sd := H.szd hj hk
    obtain ⟨d1, d2, d3⟩ := H.dq hj hk
    obtain ⟨i1, e1⟩ := qdiv_is a1.2.1 sd.2.1 a3
    have sw := a1.div sd a3
    rw [a2, d2] at e1
    exact ⟨sw.mono (by omega) (by omega), e1, i1.red⟩
  refine ⟨⟨I.len.ln, I.len.ld, hj, sN.ok (by omega) (by omega), fun k hk hd => (I.szn hk hd).ok (by omega) (by omega), fun k hk hd => ?_, fun k hk hd => H.cs j k hj hk, fun k hk hd => (A k hk hd).1.ok (by omega) (by omega), fun k hk hd => (H.szd hj hk).ok (by omega) (by omega), fun k hk hd => (A k hk hd).2.2, fun k hk hd => ?_, fun k hk hd => (W1 k hk hd).1.ok (by omega) (by omega)⟩, ?_⟩
  · exact Nat.lt_of_le_of_lt (den_mul (I.szn hk hd) sN) (pow_lt (by omega))
  · have a := (A k hk hd).1
    have sd := H.szd hj hk
    show ((qsub (t.ns.getD k q0) N).2 * (Dq d j k).1).natAbs < 2 ^ 9000
    rw [Int.natAbs_mul]
    exact Nat.lt_of_le_of_lt (mul_le2 a.2.2 (Nat.le_of_lt sd.1)) (pow_lt (by omega))
  · obtain ⟨g1, g2, g3, g4⟩ := wt_is (d := d) (ns := t.ns) (done := t.done) (N := N) (j := j) (fun k hk hd => (W1 k hk hd).1.2.1) d.n (Nat.le_refl _)
    have e : memberWeight d t.ns t.done N j = (List.range d.n).foldl (wtK d t.ns t.done N j) q1 := by unfold memberWeight; rw [I.len.ld]
    rw [e]
    revert g1 g2 g3 g4
    generalize (List.range d.n).foldl (wtK d t.ns t.done N j) q1 = W
    intro g1 g2 g3 g4
    refine ⟨?_, ?_, g3, fun k hk hd => ?_, fun E' hE1 hE2 => ?_⟩
    · rcases g1 with rfl | ⟨k, hk, hd, rfl⟩
      · exact red_q1
      · exact (W1 k hk hd).2.2
    · rcases g1 with rfl | ⟨k, hk, hd, rfl⟩
      · exact Nat.lt_of_lt_of_le sz_q1.1 (Nat.pow_le_pow_right (by omega) (by omega))
      · exact (W1 k hk hd).1.1
    · rw [← (W1 k hk hd).2.1]
      exact Rat.mul_le_mul_of_nonneg_right (g4 k hk hd) (Rat.le_of_lt (hgt k hk hd))
    · rcases g1 with rfl | ⟨k, hk, hd, rfl⟩
      · exact ⟨1, by omega, Nat.two_pow_pos _, by rw [rv_q1]; exact DnR.one _⟩
      · obtain ⟨d1, d2, d3⟩ := H.dq hj hk
        have hg := hgt k hk hd
        have hm := rv_mul d1
        have hνpos : 0 < (Dq d j k).1 := by
          have p1 := cpos d1
          have : (0 : Rat) < ((Dq d j k).1 : Rat) := by
            rw [← hm, d2]; exact Rat.mul_pos hg p1
          exact_mod_cast this
        refine ⟨(Dq d j k).1.natAbs, by omega, H.dn j k hj hk, ?_⟩
        have hv : DnR E' (rv (t.ns.getD k q0) - rv N) := (hE2 k hk hd).sub hE1
        obtain ⟨z, hz⟩ := hv
        refine ⟨z * (Dq d j k).2, ?_⟩
        have ew := (W1 k hk hd).2.1
        rw [Rat.natCast_mul, natAbs_cast hνpos, ← hm, d2, Rat.intCast_mul, ← hz, ← ew]
        grind
theorem Inv.start (H : Fit d) : Inv d 0 (turns d (leads d) 0) := by
  have hl := (Sq.leads d).1
  have gn : ∀ i, i < d.n → (turns d (leads d) 0).ns.getD i q0 = q0 := fun i hi => by
    show (List.replicate (leads d).length q0).getD i q0 = q0
    rw [List.getD_eq_getElem?_getD, List.getElem?_replicate]
    split <;> rfl
  have gw : ∀ i, i < d.n → (turns d (leads d) 0).ws.getD i q0 = q1 := fun i hi => by
    show (List.replicate (leads d).length q1).getD i q0 = q1
    rw [List.getD_eq_getElem?_getD, List.getElem?_replicate, if_pos (by omega)]; rfl
  have gd : ∀ i, (turns d (leads d) 0).done.getD i false = false := fun i => by
    show (List.replicate (leads d).length false).getD i false = false
    rw [List.getD_eq_getElem?_getD, List.getElem?_replicate]
    split <;> rfl
  refine ⟨⟨by show (List.replicate _ _).length = _; rw [List.length_replicate, hl], by show (List.replicate _ _).length = _; rw [List.length_replicate, hl], by show (List.replicate _ _).length = _; rw [List.length_replicate, hl]⟩, fun j k _ _ h => ?_, fun i hi => ?_, fun i hi => ?_, fun i hi => ?_, fun i j _ _ h => ?_, fun i j s _ h => ?_, ⟨1, by omega, by decide, fun i _ h => ?_, fun i _ h => ?_⟩, fun i hi => ?_, fun _ i _ => gd i, .inr ?_⟩
  · rw [gd] at h; cases h
  · rw [gn i hi]; exact red_q0
  · rw [gw i hi]; exact red_q1
  · rw [gw i hi, rv_q1]; decide
  · rw [gd] at h; cases h
  · rw [gd] at h; cases h
  · rw [gd] at h; cases h
  · rw [gd] at h; cases h
  · rw [gn i hi, gw i hi]; exact ⟨by decide, by decide⟩
  · have := List.length_filter_le (fun i => !(turns d (leads d) 0).done.getD i false) (List.range d.n)
    rw [List.length_range] at this
    exact this
theorem turn_ok (H : Fit d) (I : Inv d r t) (hr : r ≤ 4) : TuOk d (leads d) t ∧ Inv d (r + 1) (turn d (leads d) t) := by
  have hl := (Sq.leads d).1
  have hmlt : ∀ j ∈ nextClass (leads d) t.done, j < d.n := fun j hj => by have := class_lt j hj; omega
  have hmlen : (nextClass (leads d) t.done).length ≤ d.n := by have := class_len (T := leads d) (done := t.done); omega
  have hcn := I.cn H hr hmlt hmlen
  have hN := number_ok H I hr hmlt
  have hsz : ∀ i, i < d.n → (t.ns.getD i q0).1.natAbs < 2 ^ (1 + 9600 * (r + 1)) ∧ (t.ws.getD i q0).1.natAbs < 2 ^ (1 + 9600 * (r + 1)) := fun i hi => ⟨Nat.lt_of_lt_of_le (I.sz i hi).1 (Nat.pow_le_pow_right (by omega) (by omega)), Nat.lt_of_lt_of_le (I.sz i hi).2 (Nat.pow_le_pow_right (by omega) (by omega))⟩
  rcases next_is (d := d) (done := t.done) with ⟨hms, hall⟩ | ⟨i0, hi0, hfree, hms⟩
  · refine ⟨⟨hcn, fun j hj => by rw [hms] at hj; cases hj⟩, ?_⟩
    have ht : turn d (leads d) t = t := by unfold turn; rw [hms]; rfl
    rw [ht]
    obtain ⟨E, h1, h2, h3, h4⟩ := I.den
    exact ⟨I.len, I.up, I.rn, I.rw, I.wp, I.pair, I.lnk, ⟨E, h1, Nat.le_trans h2 (Nat.pow_le_pow_right (by omega) (by omega)), h3, h4⟩, hsz, fun z => by omega, .inl hall⟩
  · obtain ⟨hun, hfr⟩ := free_is hfree
    have mem : ∀ j, j ∈ nextClass (leads d) t.done ↔ j < d.n ∧ Lds d i0 j ∧ Lds d j i0 := fun j => by rw [hms]; exact mem_class
    have mun : ∀ j, j ∈ nextClass (leads d) t.done → t.done.getD j false = false := fun j hj => by
      cases e : t.done.getD j false with
      | false => rfl
      | true =>
        obtain ⟨h1, h2, _⟩ := (mem j).mp hj
        have := I.up i0 j hi0 h1 e h2
        rw [hun] at this; cases this
    have mgt : ∀ j, j ∈ nextClass (leads d) t.done → ∀ k, k < d.n → t.done.getD k false = true → ¬ Lds d j k := fun j hj k hk hd h => by
      have := I.up j k (hmlt j hj) hk hd h
      rw [mun j hj] at this; cases this
    have hW : ∀ j, j ∈ nextClass (leads d) t.done → MwOk d t.ns t.done (classNumber d t.ns t.ws t.done (nextClass (leads d) t.done)) j ∧ WtOk d r t (classNumber d t.ns t.ws t.done (nextClass (leads d) t.done)) j (memberWeight d t.ns t.done (classNumber d t.ns t.ws t.done (nextClass (leads d) t.done)) j) := fun j hj =>
      weight_ok H I hr hN (hmlt j hj) fun k hk hd => H.up_gt (hmlt j hj) hk (mgt j hj k hk hd)
    refine ⟨⟨hcn, fun j hj => (hW j hj).1⟩, ?_⟩
    have hp := puts_is (N := classNumber d t.ns t.ws t.done (nextClass (leads d) t.done)) (f := memberWeight d t.ns t.done (classNumber d t.ns t.ws t.done (nextClass (leads d) t.done))) I.len hmlt _ (Nat.le_refl (nextClass (leads d) t.done).length)
    have hlen := puts_len (ms := nextClass (leads d) t.done) (x := classNumber d t.ns t.ws t.done (nextClass (leads d) t.done)) (found := (nextClass (leads d) t.done).map (memberWeight d t.ns t.done (classNumber d t.ns t.ws t.done (nextClass (leads d) t.done)))) I.len (nextClass (leads d) t.done).length
    have hW2 : ∀ j, j ∈ nextClass (leads d) t.done → WtOk d r t (classNumber d t.ns t.ws t.done (nextClass (leads d) t.done)) j (memberWeight d t.ns t.done (classNumber d t.ns t.ws t.done (nextClass (leads d) t.done)) j) := fun j hj => (hW j hj).2
    rw [List.take_length] at hp
    show Inv d (r + 1) ((List.range (nextClass (leads d) t.done).length).foldl (put1 (nextClass (leads d) t.done) (classNumber d t.ns t.ws t.done (nextClass (leads d) t.done)) ((nextClass (leads d) t.done).map (memberWeight d t.ns t.done (classNumber d t.ns t.ws t.done (nextClass (leads d) t.done))))) t)
    clear hcn hW hms hmlen
    revert hmlt hN mem mun mgt hp hlen hW2
    generalize nextClass (leads d) t.done = ms
    generalize classNumber d t.ns t.ws t.done ms = N
    intro hmlt hN mem mun mgt hp hlen hW2
    revert hp hlen
    generalize (List.range ms.length).foldl (put1 ms N (ms.map (memberWeight d t.ns t.done N))) t = t'
    intro hp hlen
    have pn : ∀ j, j < d.n → j ∈ ms → t'.ns.getD j q0 = N := fun j hj h => by rw [(hp j hj).1, if_pos h]
    have po : ∀ j, j < d.n → j ∉ ms → t'.ns.getD j q0 = t.ns.getD j q0 := fun j hj h => by rw [(hp j hj).1, if_neg h]
    have wn : ∀ j, j < d.n → j ∈ ms → t'.ws.getD j q0 = memberWeight d t.ns t.done N j := fun j hj h => by rw [(hp j hj).2.1, if_pos h]
    have wo : ∀ j, j < d.n → j ∉ ms → t'.ws.getD j q0 = t.ws.getD j q0 := fun j hj h => by rw [(hp j hj).2.1, if_neg h]
    have dn : ∀ j, j < d.n → j ∈ ms → t'.done.getD j false = true := fun j hj h => by rw [(hp j hj).2.2, if_pos h]
    have dO : ∀ j, j < d.n → j ∉ ms → t'.done.getD j false = t.done.getD j false := fun j hj h => by rw [(hp j hj).2.2, if_neg h]
    have dk : ∀ j, j < d.n → t.done.getD j false = true → j ∉ ms := fun j hj h z => by rw [mun j z] at h; cases h
    obtain ⟨E, h1, h2, h3, h4, h5⟩ := hN.den
    refine ⟨hlen, fun j k hj hk hd hjk => ?_, fun i hi => ?_, fun i hi => ?_, fun i hi => ?_, fun i j hi hj hdi hdj => ?_, fun i j s hl hdi hdj => ?_, ⟨E, h1, by rw [Nat.add_sub_cancel]; exact h2, fun i hi hd => ?_, fun i hi hd => ?_⟩, fun i hi => ?_, fun z => by omega, ?_⟩
    · -- up
      by_cases hjm : j ∈ ms
      · exact dn j hj hjm
      · rw [dO j hj hjm]
        by_cases hkm : k ∈ ms
        · obtain ⟨_, k1, k2⟩ := (mem k).mp hkm
          cases e : t.done.getD j false with
          | true => rfl
          | false =>
            have a1 := le_trans hj hk hi0 hjk k2
            exact absurd ((mem j).mpr ⟨hj, hfr j hj e a1, a1⟩) hjm
        · rw [dO k hk hkm] at hd
          exact I.up j k hj hk hd hjk
    · by_cases h : i ∈ ms
      · rw [pn i hi h]; exact hN.red
      · rw [po i hi h]; exact I.rn i hi
    · by_cases h : i ∈ ms
      · rw [wn i hi h]; exact (hW2 i h).red
      · rw [wo i hi h]; exact I.rw i hi
    · by_cases h : i ∈ ms
      · rw [wn i hi h]
        have := (hW2 i h).ge
        grind
      · rw [wo i hi h]; exact I.wp i hi
    · -- pairs
      by_cases hi' : i ∈ ms
      · by_cases hj' : j ∈ ms
        · rw [pn i hi hi', pn j hj hj', wn i hi hi']
          have g := (hW2 i hi').ge
          have c := H.cls_ge hi hj (le_trans hj hi0 hi ((mem j).mp hj').2.2 ((mem i).mp hi').2.1)
          have : 0 ≤ rv (memberWeight d t.ns t.done N i) * Dv d i j := Rat.mul_nonneg (by grind) c
          grind
        · rw [dO j hj hj'] at hdj
          rw [pn i hi hi', po j hj hj', wn i hi hi']
          have := (hW2 i hi').on j hj hdj
          grind
      · rw [dO i hi hi'] at hdi
        by_cases hj' : j ∈ ms
        · rw [po i hi hi', pn j hj hj', wo i hi hi']
          have := (hN.lt i hi hdi).2 j hj'
          rw [(plq_is H I hr hi hj hdi).2.2.1] at this
          grind
        · rw [dO j hj hj'] at hdj
          rw [po i hi hi', po j hj hj', wo i hi hi']
          exact I.pair i j hi hj hdi hdj
    · -- links
      obtain ⟨hi, hj⟩ := H.lk _ hl
      have hi : i < d.n := hi
      have hj : j < d.n := hj
      obtain ⟨u1, u2⟩ := H.lk_up hl
      by_cases hi' : i ∈ ms
      · by_cases hj' : j ∈ ms
        · rw [pn i hi hi', pn j hj hj']
          refine ⟨Rat.le_refl, fun z => absurd ?_ (u2 z)⟩
          exact le_trans hj hi0 hi ((mem j).mp hj').2.2 ((mem i).mp hi').2.1
        · rw [dO j hj hj'] at hdj
          exact absurd u1 (mgt i hi' j hj hdj)
      · rw [dO i hi hi'] at hdi
        by_cases hj' : j ∈ ms
        · rw [po i hi hi', pn j hj hj']
          have := (hN.lt i hi hdi).1
          exact ⟨by grind, fun _ => by grind⟩
        · rw [dO j hj hj'] at hdj
          rw [po i hi hi', po j hj hj']
          exact I.lnk i j s hl hdi hdj
    · by_cases h : i ∈ ms
      · rw [pn i hi h]; exact h3
      · rw [po i hi h]
        rw [dO i hi h] at hd
        exact h4 i hi hd
    · by_cases h : i ∈ ms
      · rw [wn i hi h]; exact (hW2 i h).den E h3 h4
      · rw [wo i hi h]
        rw [dO i hi h] at hd
        exact h5 i hi hd
    · by_cases h : i ∈ ms
      · rw [pn i hi h, wn i hi h]
        exact ⟨Nat.lt_of_lt_of_le hN.n (Nat.pow_le_pow_right (by omega) (by omega)), Nat.lt_of_lt_of_le (hW2 i h).n (Nat.pow_le_pow_right (by omega) (by omega))⟩
      · rw [po i hi h, wo i hi h]; exact hsz i hi
    · right
      have hm0 : i0 ∈ ms := (mem i0).mpr ⟨hi0, le_refl hi0, le_refl hi0⟩
      rcases I.cnt with hall | hc
      · have := hall i0 hi0
        rw [hun] at this; cases this
      · have := filter_lt (p := fun i => !t.done.getD i false) (q := fun i => !t'.done.getD i false) (l := List.range d.n) (x := i0) (fun y hy hq => by
          have hy := List.mem_range.mp hy
          by_cases h : y ∈ ms
          · rw [dn y hy h] at hq; cases hq
          · rw [dO y hy h] at hq; exact hq) (List.mem_range.mpr hi0) (by rw [hun]; rfl) (by rw [dn i0 hi0 hm0]; rfl)
        omega
theorem turns_ok (H : Fit d) : ∀ r, r ≤ d.n → Inv d r (turns d (leads d) r)
  | 0, _ => Inv.start H
  | r + 1, hr => (turn_ok H (turns_ok H r (by omega)) (by have := H.n; omega)).2
theorem Fit.mt (H : Fit d) : MtOk d (leads d) := ⟨(leads_sq (by have := H.n; omega)).1, (Sq.leads d).1, fun r hr => (turn_ok H (turns_ok H r (by omega)) (by have := H.n; omega)).1⟩
theorem Inv.all (I : Inv d d.n t) : ∀ i, i < d.n → t.done.getD i false = true := fun i hi => by
  rcases I.cnt with h | h
  · exact h i hi
  · cases e : t.done.getD i false with
    | true => rfl
    | false =>
      have : i ∈ (List.range d.n).filter fun i => !t.done.getD i false := List.mem_filter.mpr ⟨List.mem_range.mpr hi, by rw [e]; rfl⟩
      have := List.length_pos_of_mem this
      omega
end
end BB
set_option linter.all false
set_option maxRecDepth 100000
namespace BB
theorem Sz.okL {p q : Nat} {x : Qt} (h : Sz p q x) (h1 : p ≤ 400000) (h2 : q < 400000) : OkL x := ⟨Nat.lt_of_lt_of_le h.1 (Nat.pow_le_pow_right (by omega) h1), h.2.1, Nat.lt_of_le_of_lt h.2.2 (pow_lt h2)⟩
theorem getD_mem {α : Type} {xs : List α} {k : Nat} {z : α} (h : k < xs.length) : xs.getD k z ∈ xs := by
  rw [List.getD_eq_getElem?_getD, List.getElem?_eq_getElem h]; exact List.getElem_mem h
structure Dots (a b : List Qt) (P Q : Nat) : Prop where
  pd : DotOk a b
  ld : LDotOk a b
  sz : Sz (P + 1 + (Q + 1) * 2) (Q * 3) (dot a b)
  lsz : Sz (P + 1 + (Q + 1) * 2) (Q * 3) (BB.ldot a b)
  v : rv (BB.ldot a b) = rv (BB.dot a b)
  red : Red (BB.dot a b)
section
variable {a b : List Qt} {pa qa pb qb : Nat}
theorem dotN_sz (le : a.length ≤ b.length) (ha : ∀ x ∈ a, Sz pa qa x) (hb : ∀ x ∈ b, Sz pb qb x) (hPQ : qa + qb ≤ pa + pb) : ∀ k, k ≤ a.length → Sz (pa + pb + 1 + (qa + qb + 1) * (k - 1)) ((qa + qb) * k) (dotN a b k) ∧ Sz (pa + pb + 1 + (qa + qb + 1) * (k - 1)) ((qa + qb) * k) (ldotN a b k) ∧ rv (ldotN a b k) = rv (dotN a b k) ∧ Red (dotN a b k)
  | 0, _ => ⟨sz_q0.mono (by omega) (by omega), sz_q0.mono (by omega) (by omega), rfl, red_q0⟩
  | k + 1, hk => by
    obtain ⟨h1, h2, h3, h4⟩ := dotN_sz le ha hb hPQ k (by omega)
    have sa := ha _ (getD_mem (k := k) (z := q0) (by omega))
    have sb := hb _ (getD_mem (k := k) (z := q0) (by omega))
    have sm := sa.mul sb
    have sl := sa.ltimes sb
    obtain ⟨m1, m2⟩ := qmul_is sa.2.1 sb.2.1
    obtain ⟨l1, l2⟩ := rv_ltimes sa.2.1 sb.2.1
    obtain ⟨e1, e2⟩ := qadd_is h1.2.1 sm.2.1
    obtain ⟨f1, f2⟩ := rv_lplus h2.2.1 sl.2.1
    show Sz _ _ (qadd (dotN a b k) (qmul (a.getD k q0) (b.getD k q0))) ∧ Sz _ _ (lplus (ldotN a b k) (ltimes (a.getD k q0) (b.getD k q0))) ∧ rv (lplus (ldotN a b k) (ltimes (a.getD k q0) (b.getD k q0))) = rv (qadd (dotN a b k) (qmul (a.getD k q0) (b.getD k q0))) ∧ Red (qadd (dotN a b k) (qmul (a.getD k q0) (b.getD k q0)))
    have hq : (qa + qb) * (k + 1) = (qa + qb) * k + (qa + qb) := Nat.mul_succ _ _
    refine ⟨?_, ?_, by rw [f2, e2, l2, m2, h3], e1.red⟩
    · cases k with
      | zero =>
        have h0 : Sz 0 0 (dotN a b 0) := sz_q0
        exact (h0.add sm (t := pa + pb + 1) (by omega) (by omega)).mono (by omega) (by omega)
      | succ k =>
        have hp : (qa + qb + 1) * (k + 1) = (qa + qb + 1) * k + (qa + qb + 1) := Nat.mul_succ _ _
        have hq2 : (qa + qb) * (k + 1) = (qa + qb) * k + (qa + qb) := Nat.mul_succ _ _
        have hle : (qa + qb) * k ≤ (qa + qb + 1) * k := Nat.mul_le_mul_right _ (by omega)
        have h1 : Sz (pa + pb + 1 + (qa + qb + 1) * k) ((qa + qb) * (k + 1)) (dotN a b (k + 1)) := h1
        show Sz (pa + pb + 1 + (qa + qb + 1) * (k + 1)) ((qa + qb) * (k + 1 + 1)) _
        exact (h1.add sm (t := pa + pb + 1 + (qa + qb + 1) * (k + 1)) (by omega) (by omega)).mono (by omega) (by omega)
    · cases k with
      | zero =>
        have h0 : Sz 0 0 (ldotN a b 0) := sz_q0
        exact (h0.lplus sl (t := pa + pb + 1) (by omega) (by omega)).mono (by omega) (by omega)
      | succ k =>
        have hp : (qa + qb + 1) * (k + 1) = (qa + qb + 1) * k + (qa + qb + 1) := Nat.mul_succ _ _
        have hq2 : (qa + qb) * (k + 1) = (qa + qb) * k + (qa + qb) := Nat.mul_succ _ _
        have hle : (qa + qb) * k ≤ (qa + qb + 1) * k := Nat.mul_le_mul_right _ (by omega)
        have h2 : Sz (pa + pb + 1 + (qa + qb + 1) * k) ((qa + qb) * (k + 1)) (ldotN a b (k + 1)) := h2
        show Sz (pa + pb + 1 + (qa + qb + 1) * (k + 1)) ((qa + qb) * (k + 1 + 1)) _
        exact (h2.lplus sl (t := pa + pb + 1 + (qa + qb + 1) * (k + 1)) (by omega) (by omega)).mono (by omega) (by omega)
theorem dots (le : a.length ≤ b.length) (l3 : a.length ≤ 3) (ha : ∀ x ∈ a, Sz pa qa x) (hb : ∀ x ∈ b, Sz pb qb x) (hPQ : qa + qb ≤ pa + pb) (h1 : pa + pb + 1 + (qa + qb + 1) * 2 ≤ 400000) (h2 : (qa + qb) * 4 < 9000) : Dots a b (pa + pb) (qa + qb) := by
  have up : ∀ k, k ≤ a.length → (qa + qb + 1) * (k - 1) ≤ (qa + qb + 1) * 2 ∧ (qa + qb) * k ≤ (qa + qb) * 3 := fun k hk => ⟨Nat.mul_le_mul_left _ (by omega), Nat.mul_le_mul_left _ (by omega)⟩
  have S := dotN_sz le ha hb hPQ
  have A : ∀ k, k < a.length → Sz pa qa (a.getD k q0) ∧ Sz pb qb (b.getD k q0) := fun k hk => ⟨ha _ (getD_mem hk), hb _ (getD_mem (by omega))⟩
  have sz : ∀ k, k ≤ a.length → Sz (pa + pb + 1 + (qa + qb + 1) * 2) ((qa + qb) * 3) (dotN a b k) := fun k hk => (S k hk).1.mono (by have := (up k hk).1; omega) (up k hk).2
  have lsz : ∀ k, k ≤ a.length → Sz (pa + pb + 1 + (qa + qb + 1) * 2) ((qa + qb) * 3) (ldotN a b k) := fun k hk => (S k hk).2.1.mono (by have := (up k hk).1; omega) (up k hk).2
  refine ⟨⟨by omega, le, fun k hk => (A k hk).1.ok (by omega) (by omega), fun k hk => (A k hk).2.ok (by omega) (by omega), fun k hk => ?_, fun k hk => ((A k hk).1.mul (A k hk).2).ok (by omega) (by omega), fun k hk => (sz k (by omega)).ok (by omega) (by omega), fun k hk => ?_⟩,
    ⟨by omega, le, fun k hk => (A k hk).1.okL (by omega) (by omega), fun k hk => (A k hk).2.okL (by omega) (by omega), fun k hk => ((A k hk).1.ltimes (A k hk).2).okL (by omega) (by omega), fun k hk => (lsz k hk).okL (by omega) (by omega)⟩, sz _ (Nat.le_refl _), lsz _ (Nat.le_refl _), (S _ (Nat.le_refl _)).2.2.1, (S _ (Nat.le_refl _)).2.2.2⟩
  · exact Nat.lt_of_le_of_lt (den_mul (A k hk).1 (A k hk).2) (pow_lt (by omega))
  · exact Nat.lt_of_le_of_lt (den_mul (sz k (by omega)) ((A k hk).1.mul (A k hk).2)) (pow_lt (by omega))
theorem dot_scale {b' : List Qt} {c : Rat} (le : a.length ≤ b.length) (le' : a.length ≤ b'.length) (ha : ∀ x ∈ a, 0 < x.2) (hb : ∀ x ∈ b, 0 < x.2) (hb' : ∀ x ∈ b', 0 < x.2) (h : ∀ k, k < a.length → rv (b'.getD k q0) = c * rv (b.getD k q0)) : ∀ k, k ≤ a.length → 0 < (dotN a b k).2 ∧ 0 < (dotN a b' k).2 ∧ rv (dotN a b' k) = c * rv (dotN a b k)
  | 0, _ => ⟨(by decide : (0 : Int) < q0.2), (by decide : (0 : Int) < q0.2), by show rv q0 = c * rv q0; rw [rv_q0]; grind⟩
  | k + 1, hk => by
    obtain ⟨h1, h2, h3⟩ := dot_scale le le' ha hb hb' h k (by omega)
    have sa := ha _ (getD_mem (k := k) (z := q0) (by omega))
    have sb := hb _ (getD_mem (k := k) (z := q0) (by omega))
    have sb' := hb' _ (getD_mem (k := k) (z := q0) (by omega))
    obtain ⟨m1, m2⟩ := qmul_is sa sb
    obtain ⟨n1, n2⟩ := qmul_is sa sb'
    obtain ⟨e1, e2⟩ := qadd_is h1 m1.pos
    obtain ⟨f1, f2⟩ := qadd_is h2 n1.pos
    refine ⟨e1.pos, f1.pos, ?_⟩
    show rv (qadd (dotN a b' k) (qmul (a.getD k q0) (b'.getD k q0))) = c * rv (qadd (dotN a b k) (qmul (a.getD k q0) (b.getD k q0)))
    rw [f2, e2, n2, m2, h3, h k (by omega)]
    grind
theorem dot_nonneg (le : a.length ≤ b.length) (ha : ∀ x ∈ a, 0 < x.2 ∧ 0 ≤ rv x) (hb : ∀ x ∈ b, 0 < x.2 ∧ 0 ≤ rv x) : ∀ k, k ≤ a.length → 0 < (dotN a b k).2 ∧ 0 ≤ rv (dotN a b k) ∧ (0 < k → rv (a.getD 0 q0) * rv (b.getD 0 q0) ≤ rv (dotN a b k))
  | 0, _ => ⟨(by decide : (0 : Int) < q0.2), by show 0 ≤ rv q0; rw [rv_q0]; exact Rat.le_refl, fun h => by omega⟩
  | k + 1, hk => by
    obtain ⟨h1, h2, h3⟩ := dot_nonneg le ha hb k (by omega)
    obtain ⟨sa, va⟩ := ha _ (getD_mem (k := k) (z := q0) (by omega))
    obtain ⟨sb, vb⟩ := hb _ (getD_mem (k := k) (z := q0) (by omega))
    obtain ⟨m1, m2⟩ := qmul_is sa sb
    obtain ⟨e1, e2⟩ := qadd_is h1 m1.pos
    have hm : 0 ≤ rv (a.getD k q0) * rv (b.getD k q0) := Rat.mul_nonneg va vb
    refine ⟨e1.pos, ?_, fun _ => ?_⟩
    · show 0 ≤ rv (qadd (dotN a b k) (qmul (a.getD k q0) (b.getD k q0)))
      rw [e2, m2]; grind
    · show rv (a.getD 0 q0) * rv (b.getD 0 q0) ≤ rv (qadd (dotN a b k) (qmul (a.getD k q0) (b.getD k q0)))
      rw [e2, m2]
      cases k with
      | zero =>
        have : rv (dotN a b 0) = 0 := rv_q0
        rw [this]; grind
      | succ k =>
        have := h3 (by omega)
        grind
end
structure Gd (d : Dt) (g : Nat) : Prop where
  n : d.n ≤ 5
  g3 : g ≤ 3
  ll : d.links.length ≤ 100
  lk : LkOk d
  lp : ∀ i, i < d.n → (d.pr i).length = g
  la : ∀ i, i < d.n → (d.am i).length = g
  hp : ∀ i, i < d.n → ∀ x ∈ d.pr i, Sz 27 9 x
  ha : ∀ i, i < d.n → ∀ x ∈ d.am i, Sz 168 153 x
  sp : ∀ i, i < d.n → Sz 90 54 (spt d i)
section
variable {d : Dt} {g : Nat}
theorem Gd.dots (G : Gd d g) {i j : Nat} (hi : i < d.n) (hj : j < d.n) : Dots (d.pr i) (d.am j) 195 162 := BB.dots (pa := 27) (qa := 9) (pb := 168) (qb := 153) (by rw [G.lp i hi, G.la j hj]; exact Nat.le_refl _) (by rw [G.lp i hi]; exact G.g3) (G.hp i hi) (G.ha j hj) (by omega) (by omega) (by omega)
theorem Gd.cs (G : Gd d g) {i j : Nat} (hi : i < d.n) (hj : j < d.n) : Sz 522 486 (cst d i j) := (G.dots hi hj).sz
theorem Gd.dt (G : Gd d g) : DtOk d := ⟨by have := G.n; omega, G.ll, fun i j hi hj => (G.dots hi hj).pd, fun i j hi hj => (G.cs hi hj).ok (by omega) (by omega)⟩
theorem Gd.ldt (G : Gd d g) : LDtOk d := ⟨by have := G.n; omega, G.ll, fun i j hi hj => (G.dots hi hj).ld, fun i j k hi hj hk => qless_congr (G.dots hi hj).lsz.2.1 (G.dots hi hk).lsz.2.1 (G.cs hi hj).2.1 (G.cs hi hk).2.1 (G.dots hi hj).v (G.dots hi hk).v⟩
theorem Gd.fit (G : Gd d g) (h : ringAt d = none) : Fit d := by
  have S : ∀ i j, i < d.n → j < d.n → Sz 577 540 (Dq d i j) := fun i j hi hj => (G.cs hi hj).sub (G.sp i hi) (by omega) (by omega)
  refine ⟨G.n, G.dt, G.lk, h, fun i j hi hj => (S i j hi hj).2.2, fun i j hi hj => ?_, fun i j hi hj => ?_⟩
  · exact Nat.le_of_lt (Nat.lt_of_lt_of_le (S i j hi hj).1 (Nat.pow_le_pow_right (by omega) (by omega)))
  · exact Nat.lt_of_le_of_lt (den_mul (G.cs hi hj) (G.sp i hi)) (pow_lt (by omega))
theorem Gd.taste (G : Gd d g) (h : ringAt d = none) : TsOk d (makeTaste d (leads d)).1 (makeTaste d (leads d)).2 := by
  have H := G.fit h
  have I := turns_ok H d.n (Nat.le_refl _)
  have all := I.all
  have hn := G.n
  have e : makeTaste d (leads d) = ((turns d (leads d) d.n).ns, (turns d (leads d) d.n).ws) := by unfold makeTaste; rw [(Sq.leads d).1]
  rw [e]
  show TsOk d (turns d (leads d) d.n).ns (turns d (leads d) d.n).ws
  revert I all
  generalize turns d (leads d) d.n = t
  intro I all
  have sn : ∀ i, i < d.n → Sz 48001 4480 (t.ns.getD i q0) := fun i hi => (I.szn hi (all i hi)).mono (by omega) (by omega)
  have sw : ∀ i, i < d.n → Sz 48001 5060 (t.ws.getD i q0) := fun i hi => (I.szw hi (all i hi)).mono (by omega) (by omega)
  have sm : ∀ i j, i < d.n → j < d.n → Sz 1009 972 (lmore d i j) := fun i j hi hj => (G.dots hi hj).lsz.lplus (G.dots hi hi).lsz.lneg (by omega) (by omega)
  have st : ∀ i j, i < d.n → j < d.n → Sz 49010 6032 (ltimes (t.ws.getD i q0) (lmore d i j)) := fun i j hi hj => (sw i hi).ltimes (sm i j hi hj)
  have spl : ∀ i j, i < d.n → j < d.n → Sz 60000 10512 (lplane d t.ns t.ws i j) := fun i j hi hj => (sn i hi).lplus (st i j hi hj) (by omega) (by omega)
  have vm : ∀ i j, i < d.n → j < d.n → rv (lmore d i j) = Dv d i j := fun i j hi hj => by
    have l1 := (G.dots hi hj)
    have l2 := (G.dots hi hi)
    have e1 := rv_lneg l2.lsz.2.1
    have e2 := rv_lplus l1.lsz.2.1 e1.1
    show rv (lplus (ldot (d.pr i) (d.am j)) (lneg (ldot (d.pr i) (d.am i)))) = rv (cst d i j) - rv (spt d i)
    rw [e2.2, e1.2, l1.v, l2.v]
    show rv (cst d i j) + -rv (spt d i) = _
    grind
  have vp : ∀ i j, i < d.n → j < d.n → rv (lplane d t.ns t.ws i j) = rv (t.ns.getD i q0) + rv (t.ws.getD i q0) * Dv d i j := fun i j hi hj => by
    have e1 := rv_ltimes (sw i hi).2.1 (sm i j hi hj).2.1
    have e2 := rv_lplus (sn i hi).2.1 e1.1
    show rv (lplus _ _) = _
    rw [e2.2, e1.2, vm i j hi hj]
  have big : ∀ {q : Nat} {z : Int}, z.natAbs ≤ 2 ^ q → q < 6200 → z.natAbs < 2 ^ 6200 := fun h1 h2 => Nat.lt_of_le_of_lt h1 (pow_lt h2)
  refine ⟨G.ldt, I.len.ln, I.len.lw, fun x hx => ?_, fun x hx => ?_, fun i hi => ?_, fun i hi => (sn i hi).okL (by omega) (by omega), fun i hi => (sw i hi).okL (by omega) (by omega), fun i j hi hj => (sm i j hi hj).okL (by omega) (by omega), fun i j hi hj => (st i j hi hj).okL (by omega) (by omega), fun i j hi hj => (spl i j hi hj).okL (by omega) (by omega), fun i j hi hj => ?_, fun l hl => ?_⟩
  · obtain ⟨i, hi, e⟩ := List.mem_iff_getElem.mp hx
    have hin : i < d.n := by have := I.len.ln; omega
    have : t.ns.getD i q0 = x := by rw [List.getD_eq_getElem?_getD, List.getElem?_eq_getElem hi, e]; rfl
    rw [← this]
    exact ⟨I.rn i hin, big (sn i hin).2.2 (by omega)⟩
  · obtain ⟨i, hi, e⟩ := List.mem_iff_getElem.mp hx
    have hin : i < d.n := by have := I.len.lw; omega
    have : t.ws.getD i q0 = x := by rw [List.getD_eq_getElem?_getD, List.getElem?_eq_getElem hi, e]; rfl
    rw [← this]
    exact ⟨I.rw i hin, big (sw i hin).2.2 (by omega)⟩
  · have h1 := rv_mul (sw i hi).2.1
    have h2 := I.wp i hi
    have h3 := cpos (sw i hi).2.1
    have : (0 : Rat) < ((t.ws.getD i q0).1 : Rat) := by rw [← h1]; exact Rat.mul_pos h2 h3
    exact_mod_cast this
  · rw [qless_not (spl i j hi hj).2.1 (sn j hj).2.1, vp i j hi hj]
    exact I.pair i j hi hj (all i hi) (all j hj)
  · obtain ⟨l1, l2, s⟩ := l
    obtain ⟨h1, h2⟩ := G.lk _ hl
    have h1 : l1 < d.n := h1
    have h2 : l2 < d.n := h2
    obtain ⟨k1, k2⟩ := I.lnk l1 l2 s hl (all l1 h1) (all l2 h2)
    refine ⟨h1, h2, (qless_not (sn l1 h1).2.1 (sn l2 h2).2.1).mpr k1, fun hs z => ?_⟩
    have := k2 hs
    rw [show t.ns.getD l1 q0 = t.ns.getD l2 q0 from z] at this
    exact absurd this (Rat.lt_irrefl)
end
end BB
set_option linter.all false
set_option maxRecDepth 100000
namespace BB
theorem RatioIs.sz {p q : Int} {x : Qt} (r : RatioIs p q x) {a b : Nat} (h1 : p.natAbs < 2 ^ a) (h2 : q.natAbs ≤ 2 ^ b) : Sz a b x := ⟨Nat.lt_of_le_of_lt r.n h1, r.pos, Nat.le_trans r.d h2⟩
theorem RatioIs.pos_of {p q : Int} {x : Qt} (r : RatioIs p q x) (hq : 0 < q) (hp : 0 < p) : 0 < rv x := by
  rw [← Rat.not_le]
  intro h
  have h1 := Rat.mul_le_mul_of_nonneg_right h (Rat.le_of_lt (cpos hq))
  rw [r.v] at h1
  have := cpos hp
  grind
theorem RatioIs.nonneg_of {p q : Int} {x : Qt} (r : RatioIs p q x) (hq : 0 < q) (hp : 0 ≤ p) : 0 ≤ rv x := by
  by_cases h : p = 0
  · have h1 := r.v
    rw [h] at h1
    have h0 : ((0 : Int) : Rat) = 0 := rfl
    rw [h0] at h1
    rcases Rat.mul_eq_zero.mp h1 with z | z
    · rw [z]; exact Rat.le_refl
    · exact absurd z (cne (Int.ne_of_gt hq))
  · exact Rat.le_of_lt (r.pos_of hq (by omega))
theorem price_is {n : Nat} (h : n < 10000) : Sz 27 9 (lprice n) ∧ 0 < rv (lprice n) := by
  unfold lprice
  split
  · have r := ratio_is (1 + (n : Int) * 10007) (q := 1 + (n : Int) / 23) (by omega)
    exact ⟨r.sz (by omega) (by omega), r.pos_of (by omega) (by omega)⟩
  · have r := ratio_is (1 + (n : Int) % 6) (q := 1 + (n : Int) / 6 % 2) (by omega)
    exact ⟨r.sz (by omega) (by omega), r.pos_of (by omega) (by omega)⟩
theorem amount_is {n : Nat} (h : n < 10000) : Sz 24 9 (lamount n) ∧ 0 ≤ rv (lamount n) := by
  unfold lamount
  split
  · have r := ratio_is ((n : Int) * 1009) (q := 1 + (n : Int) / 29) (by omega)
    exact ⟨r.sz (by omega) (by omega), r.nonneg_of (by omega) (by omega)⟩
  · have r := ratio_is ((n : Int) % 5) (q := 1 + (n : Int) / 5 % 2) (by omega)
    exact ⟨r.sz (by omega) (by omega), r.nonneg_of (by omega) (by omega)⟩
theorem one_is : Sz 24 9 q1 ∧ 0 ≤ rv q1 := ⟨sz_q1.mono (by omega) (by omega), by rw [rv_q1]; decide⟩
theorem amounts_is {xs : List Nat} (h : ∀ x ∈ xs, x < 10000) : ∀ x ∈ xs.map lamount, Sz 24 9 x ∧ 0 ≤ rv x := fun x hx => by
  obtain ⟨n, hn, rfl⟩ := List.mem_map.mp hx
  exact amount_is (h n hn)
theorem prices_is {xs : List Nat} (h : ∀ x ∈ xs, x < 10000) : ∀ x ∈ xs.map lprice, Sz 27 9 x ∧ 0 < rv x := fun x hx => by
  obtain ⟨n, hn, rfl⟩ := List.mem_map.mp hx
  exact price_is (h n hn)
theorem set_is {am : List Qt} (h : ∀ x ∈ am, Sz 24 9 x ∧ 0 ≤ rv x) : ∀ x ∈ am.set 0 q1, Sz 24 9 x ∧ 0 ≤ rv x := fun x hx => by
  rcases List.mem_or_eq_of_mem_set hx with hx | rfl
  · exact h x hx
  · exact one_is
theorem lfix_is {am : List Qt} (h : ∀ x ∈ am, Sz 24 9 x ∧ 0 ≤ rv x) : (lfix am).length = am.length ∧ ∀ x ∈ lfix am, Sz 24 9 x ∧ 0 ≤ rv x := by
  unfold lfix
  split
  · exact ⟨rfl, h⟩
  · exact ⟨List.length_set .., set_is h⟩
section
variable {row : List Nat} (hl : row.length = 70) (hs : ∀ x ∈ row, x < 10000)
theorem wG_is : 1 ≤ wG row ∧ wG row ≤ 3 := by unfold wG; omega
theorem wN_le : wN row ≤ 4 := by unfold wN; omega
theorem wB_len : (wB row).length = wN row := by unfold wB lbuys; rw [List.length_map, List.length_range]
theorem wD_n : (wD row).n = wN row := wB_len
include hl hs in
theorem wP_is : (wP row).length = wG row ∧ ∀ x ∈ wP row, Sz 27 9 x ∧ 0 < rv x := by
  have := wG_is (row := row)
  unfold wP
  refine ⟨by rw [List.length_map, List.length_take, List.length_drop]; omega, prices_is fun x hx => hs x (List.mem_of_mem_drop (List.mem_of_mem_take hx))⟩
include hl hs in
theorem wD_buy {i : Nat} (hi : i < wN row) : ((wD row).pr i).length = wG row ∧ ((wD row).am i).length = wG row ∧ (∀ x ∈ (wD row).pr i, Sz 27 9 x ∧ 0 < rv x) ∧ ∀ x ∈ (wD row).am i, Sz 24 9 x ∧ 0 ≤ rv x := by
  have hg := wG_is (row := row)
  have hn := wN_le (row := row)
  have e : (wB row).getD i ([], []) = lbuy (((row.drop 2).drop (2 * wG row * i)).take (2 * wG row)) (wG row) := by
    unfold wB lbuys
    exact getD_range_map _ _ hi
  have hp : (wD row).pr i = (lbuy (((row.drop 2).drop (2 * wG row * i)).take (2 * wG row)) (wG row)).1 := congrArg Prod.fst e
  have ha : (wD row).am i = (lbuy (((row.drop 2).drop (2 * wG row * i)).take (2 * wG row)) (wG row)).2 := congrArg Prod.snd e
  have hk : 2 * wG row * i ≤ 2 * wG row * 3 := Nat.mul_le_mul_left _ (by omega)
  have hsl : (((row.drop 2).drop (2 * wG row * i)).take (2 * wG row)).length = 2 * wG row := by
    rw [List.length_take, List.length_drop, List.length_drop]; omega
  have hss : ∀ x ∈ ((row.drop 2).drop (2 * wG row * i)).take (2 * wG row), x < 10000 := fun x hx => hs x (List.mem_of_mem_drop (List.mem_of_mem_drop (List.mem_of_mem_take hx)))
  rw [hp, ha]
  revert hsl hss
  generalize ((row.drop 2).drop (2 * wG row * i)).take (2 * wG row) = sl
  intro hsl hss
  unfold lbuy
  obtain ⟨f1, f2⟩ := lfix_is (am := ((sl.drop (wG row)).take (wG row)).map lamount) (amounts_is fun x hx => hss x (List.mem_of_mem_drop (List.mem_of_mem_take hx)))
  refine ⟨?_, ?_, prices_is fun x hx => hss x (List.mem_of_mem_take hx), f2⟩
  · show ((sl.take (wG row)).map lprice).length = _
    rw [List.length_map, List.length_take]; omega
  · show (lfix _).length = _
    rw [f1, List.length_map, List.length_take, List.length_drop]; omega
include hl hs in
theorem wD_lk : LkOk (wD row) ∧ (wD row).links.length ≤ 100 := by
  have e : (wD row).links = llinks (row.drop 40) (wN row) := rfl
  unfold LkOk
  rw [e, wD_n]
  unfold llinks
  split
  · rename_i h
    refine ⟨fun l hlm => ?_, by rw [List.length_map, List.length_range]; omega⟩
    obtain ⟨k, _, rfl⟩ := List.mem_map.mp hlm
    unfold llink
    exact ⟨Nat.mod_lt _ h, Nat.mod_lt _ h⟩
  · exact ⟨(fun l hlm => by cases hlm), Nat.zero_le _⟩
theorem small {a b : List Qt} {g : Nat} (hg : g ≤ 3) (la : a.length = g) (lb : b.length = g) (ha : ∀ x ∈ a, Sz 27 9 x) (hb : ∀ x ∈ b, Sz 24 9 x) : Dots a b 51 18 := dots (pa := 27) (qa := 9) (pb := 24) (qb := 9) (by omega) (by omega) ha hb (by omega) (by omega) (by omega)
theorem large {a b : List Qt} {g : Nat} (hg : g ≤ 3) (la : a.length = g) (lb : b.length = g) (ha : ∀ x ∈ a, Sz 27 9 x) (hb : ∀ x ∈ b, Sz 168 153 x) : Dots a b 195 162 := dots (pa := 27) (qa := 9) (pb := 168) (qb := 153) (by omega) (by omega) ha hb (by omega) (by omega) (by omega)
include hl hs in
theorem wD_gd : Gd (wD row) (wG row) := by
  have hg := wG_is (row := row)
  have hn := wN_le (row := row)
  have B : ∀ i, i < (wD row).n → _ := fun i hi => wD_buy hl hs (by rw [wD_n] at hi; exact hi)
  refine ⟨by rw [wD_n]; omega, hg.2, (wD_lk hl hs).2, (wD_lk hl hs).1, fun i hi => (B i hi).1, fun i hi => (B i hi).2.1, fun i hi x hx => ((B i hi).2.2.1 x hx).1, fun i hi x hx => ((B i hi).2.2.2 x hx).1.mono (by omega) (by omega), fun i hi => ?_⟩
  exact (small hg.2 (B i hi).1 (B i hi).2.1 (fun x hx => ((B i hi).2.2.1 x hx).1) (fun x hx => ((B i hi).2.2.2 x hx).1)).sz
include hl hs in
theorem wPA (h : 0 < wN row) : Dots (wP row) (wA row) 51 18 := by
  have hg := wG_is (row := row)
  have B := wD_buy hl hs (Nat.mod_lt (row.getD 52 0) h)
  have P := wP_is hl hs
  exact small hg.2 P.1 B.2.1 (fun x hx => (P.2 x hx).1) fun x hx => (B.2.2.2 x hx).1
include hl hs in
theorem wM_is : Sz 90 54 (wM row) ∧ Red (wM row) := by
  unfold wM
  split
  · rename_i h
    have D := wPA hl hs h.1
    have r := ratio_is (ldot (wP row) (wA row)).1 (q := (ldot (wP row) (wA row)).2) (Int.ne_of_gt D.lsz.2.1)
    exact ⟨r.sz D.lsz.1 D.lsz.2.2, r.red⟩
  · have r := ratio_is (1 + (row.getD 50 0 : Int) % 30) (q := 1 + (row.getD 50 0 : Int) / 30 % 3) (by omega)
    exact ⟨(r.sz (a := 5) (b := 2) (by omega) (by omega)).mono (by omega) (by omega), r.red⟩
include hl hs in
theorem wd_ok : WdOk row := ⟨hl, hs, fun h => (wPA hl hs h).ld, fun h => (wPA hl hs h).lsz.2.1, fun h => Nat.lt_of_le_of_lt (wPA hl hs h).lsz.2.2 (pow_lt (by omega))⟩
abbrev wQ (row : List Nat) : List Nat := row.drop 60
abbrev wS (row : List Nat) : List Qt := lbasket (wQ row) (wP row) (wM row)
include hl hs in
theorem bA_is : (bA (wQ row) (wP row)).length = wG row ∧ (∀ x ∈ bA (wQ row) (wP row), Sz 24 9 x ∧ 0 ≤ rv x) ∧ (bA2 (wQ row) (wP row)).length = wG row ∧ ∀ x ∈ bA2 (wQ row) (wP row), Sz 24 9 x ∧ 0 ≤ rv x := by
  have hg := wG_is (row := row)
  have P := wP_is hl hs
  have h1 : (bA (wQ row) (wP row)).length = wG row := by
    unfold bA
    rw [List.length_map, List.length_take, List.length_drop, P.1]; omega
  have h2 : ∀ x ∈ bA (wQ row) (wP row), Sz 24 9 x ∧ 0 ≤ rv x := amounts_is fun x hx => hs x (List.mem_of_mem_drop (List.mem_of_mem_take hx))
  refine ⟨h1, h2, ?_, ?_⟩
  · unfold bA2; split
    · rw [List.length_set]; exact h1
    · exact h1
  · unfold bA2; split
    · exact set_is h2
    · exact h2
include hl hs in
theorem wT_is : Dots (wP row) (bA (wQ row) (wP row)) 51 18 ∧ Dots (wP row) (bA2 (wQ row) (wP row)) 51 18 ∧ 0 < rv (dot (wP row) (bA2 (wQ row) (wP row))) := by
  have hg := wG_is (row := row)
  have P := wP_is hl hs
  obtain ⟨a1, a2, a3, a4⟩ := bA_is hl hs
  have D1 := small hg.2 P.1 a1 (fun x hx => (P.2 x hx).1) fun x hx => (a2 x hx).1
  have D2 := small hg.2 P.1 a3 (fun x hx => (P.2 x hx).1) fun x hx => (a4 x hx).1
  refine ⟨D1, D2, ?_⟩
  have nn := dot_nonneg (a := wP row) (b := bA (wQ row) (wP row)) (by omega) (fun x hx => ⟨(P.2 x hx).1.2.1, Rat.le_of_lt (P.2 x hx).2⟩) (fun x hx => ⟨(a2 x hx).1.2.1, (a2 x hx).2⟩) _ (Nat.le_refl _)
  have n2 := dot_nonneg (a := wP row) (b := bA2 (wQ row) (wP row)) (by omega) (fun x hx => ⟨(P.2 x hx).1.2.1, Rat.le_of_lt (P.2 x hx).2⟩) (fun x hx => ⟨(a4 x hx).1.2.1, (a4 x hx).2⟩) _ (Nat.le_refl _)
  by_cases h : (ldot (wP row) (bA (wQ row) (wP row))).1 = 0
  · have e : bA2 (wQ row) (wP row) = (bA (wQ row) (wP row)).set 0 q1 := by unfold bA2; rw [if_pos h]
    have g0 : (bA2 (wQ row) (wP row)).getD 0 q0 = q1 := by rw [e]; exact getD_set_self _ _ _ _ (by omega)
    have := n2.2.2 (by omega)
    rw [g0, rv_q1] at this
    have p0 := (P.2 _ (getD_mem (k := 0) (z := q0) (by omega))).2
    have e2 : rv (dotN (wP row) (bA2 (wQ row) (wP row)) (wP row).length) = rv (dot (wP row) (bA2 (wQ row) (wP row))) := rfl
    rw [e2] at this
    grind
  · have e : bA2 (wQ row) (wP row) = bA (wQ row) (wP row) := by unfold bA2; rw [if_neg h]
    rw [e]
    have e2 : 0 ≤ rv (dot (wP row) (bA (wQ row) (wP row))) := nn.2.1
    rcases Rat.le_iff_lt_or_eq.mp e2 with z | z
    · exact z
    · exfalso
      apply h
      have h1 := rv_mul D1.lsz.2.1
      rw [D1.v, ← z, Rat.zero_mul] at h1
      have : (((ldot (wP row) (bA (wQ row) (wP row))).1 : Int) : Rat) = ((0 : Int) : Rat) := h1.symm
      exact_mod_cast this
theorem num_pos {x : Qt} (h : 0 < x.2) (hv : 0 < rv x) : 0 < x.1 := by
  have h1 := rv_mul h
  have h3 := cpos h
  have : (0 : Rat) < (x.1 : Rat) := by rw [← h1]; exact Rat.mul_pos hv h3
  exact_mod_cast this
include hl hs in
theorem part_is : 0 < (ldot (wP row) (bA2 (wQ row) (wP row))).1 ∧ Sz 144 144 (bPart (wQ row) (wP row) (wM row)) ∧ rv (bPart (wQ row) (wP row) (wM row)) * rv (dot (wP row) (bA2 (wQ row) (wP row))) = rv (wM row) := by
  obtain ⟨_, D, hp⟩ := wT_is hl hs
  obtain ⟨M1, M2⟩ := wM_is hl hs
  have hT : 0 < (ldot (wP row) (bA2 (wQ row) (wP row))).1 := num_pos D.lsz.2.1 (by rw [D.v]; exact hp)
  have hd : 0 < (wM row).2 * (ldot (wP row) (bA2 (wQ row) (wP row))).1 := Int.mul_pos M1.2.1 hT
  refine ⟨hT, ⟨?_, hd, ?_⟩, ?_⟩
  · show ((wM row).1 * (ldot (wP row) (bA2 (wQ row) (wP row))).2).natAbs < _
    rw [Int.natAbs_mul]
    exact mul_lt2 (p := 90) (s := 54) M1.1 D.lsz.2.2
  · show ((wM row).2 * (ldot (wP row) (bA2 (wQ row) (wP row))).1).natAbs ≤ _
    rw [Int.natAbs_mul]
    exact mul_le2 (p := 54) (s := 90) M1.2.2 (Nat.le_of_lt D.lsz.1)
  · have h1 : rv (bPart (wQ row) (wP row) (wM row)) * (((wM row).2 * (ldot (wP row) (bA2 (wQ row) (wP row))).1 : Int) : Rat) = (((wM row).1 * (ldot (wP row) (bA2 (wQ row) (wP row))).2 : Int) : Rat) := rv_mul (x := bPart (wQ row) (wP row) (wM row)) hd
    have h2 := rv_mul M1.2.1
    have h3 := rv_mul D.lsz.2.1
    rw [D.v] at h3
    have n1 := cne (Int.ne_of_gt M1.2.1)
    have n2 := cne (Int.ne_of_gt D.lsz.2.1)
    rw [Rat.intCast_mul, Rat.intCast_mul, ← h2, ← h3] at h1
    grind
include hl hs in
theorem one_bs {x : Qt} (h : Sz 24 9 x) : Sz 168 153 (bOne (bPart (wQ row) (wP row) (wM row)) x) ∧ Red (bOne (bPart (wQ row) (wP row) (wM row)) x) ∧ rv (bOne (bPart (wQ row) (wP row) (wM row)) x) = rv (bPart (wQ row) (wP row) (wM row)) * rv x ∧ 0 < (ltimes (bPart (wQ row) (wP row) (wM row)) x).2 ∧ (ltimes (bPart (wQ row) (wP row) (wM row)) x).2.natAbs ≤ 2 ^ 153 := by
  obtain ⟨_, S, _⟩ := part_is hl hs
  have st := S.ltimes h
  obtain ⟨v1, v2⟩ := rv_ltimes S.2.1 h.2.1
  have r := ratio_is (ltimes (bPart (wQ row) (wP row) (wM row)) x).1 (q := (ltimes (bPart (wQ row) (wP row) (wM row)) x).2) (Int.ne_of_gt v1)
  refine ⟨r.sz st.1 st.2.2, r.red, ?_, v1, st.2.2⟩
  have h1 := r.v
  have h2 := rv_mul v1
  have n1 := cne (Int.ne_of_gt v1)
  rw [← v2]
  show rv (ratio _ _) = _
  have : (rv (ratio (ltimes (bPart (wQ row) (wP row) (wM row)) x).1 (ltimes (bPart (wQ row) (wP row) (wM row)) x).2) - rv (ltimes (bPart (wQ row) (wP row) (wM row)) x)) * (((ltimes (bPart (wQ row) (wP row) (wM row)) x).2 : Int) : Rat) = 0 := by grind
  rcases Rat.mul_eq_zero.mp this with z | z
  · grind
  · exact absurd z n1
include hl hs in
theorem wS_is : (wS row).length = wG row ∧ (∀ x ∈ wS row, Sz 168 153 x) ∧ dot (wP row) (wS row) = wM row := by
  have hg := wG_is (row := row)
  have P := wP_is hl hs
  obtain ⟨a1, a2, a3, a4⟩ := bA_is hl hs
  obtain ⟨M1, M2⟩ := wM_is hl hs
  have hlen : (wS row).length = wG row := by
    show ((bA2 (wQ row) (wP row)).map _).length = _
    rw [List.length_map]; exact a3
  have hsz : ∀ x ∈ wS row, Sz 168 153 x := fun x hx => by
    obtain ⟨y, hy, rfl⟩ := List.mem_map.mp (show x ∈ (bA2 (wQ row) (wP row)).map (bOne (bPart (wQ row) (wP row) (wM row))) from hx)
    exact (one_bs hl hs (a4 y hy).1).1
  refine ⟨hlen, hsz, ?_⟩
  have D := large hg.2 P.1 hlen (fun x hx => (P.2 x hx).1) hsz
  refine red_eq D.red M2 ?_
  have sc := dot_scale (a := wP row) (b := bA2 (wQ row) (wP row)) (b' := wS row) (c := rv (bPart (wQ row) (wP row) (wM row))) (by omega) (by omega) (fun x hx => (P.2 x hx).1.2.1) (fun x hx => (a4 x hx).1.2.1) (fun x hx => (hsz x hx).2.1) (fun k hk => by
    have hk2 : k < (bA2 (wQ row) (wP row)).length := by omega
    have e : (wS row).getD k q0 = bOne (bPart (wQ row) (wP row) (wM row)) ((bA2 (wQ row) (wP row)).getD k q0) := by
      show ((bA2 (wQ row) (wP row)).map _).getD k q0 = _
      rw [List.getD_eq_getElem?_getD, List.getElem?_map, List.getD_eq_getElem?_getD, List.getElem?_eq_getElem hk2]; rfl
    rw [e]
    exact (one_bs hl hs (a4 _ (getD_mem hk2)).1).2.2.1) _ (Nat.le_refl _)
  have e2 : rv (dot (wP row) (wS row)) = rv (bPart (wQ row) (wP row) (wM row)) * rv (dot (wP row) (bA2 (wQ row) (wP row))) := sc.2.2
  rw [e2]
  exact (part_is hl hs).2.2
include hl hs in
theorem bs_ok : BsOk (wQ row) (wP row) (wM row) := by
  have hg := wG_is (row := row)
  have P := wP_is hl hs
  obtain ⟨a1, a2, a3, a4⟩ := bA_is hl hs
  obtain ⟨D1, D2, _⟩ := wT_is hl hs
  obtain ⟨M1, M2⟩ := wM_is hl hs
  obtain ⟨p1, p2, _⟩ := part_is hl hs
  refine ⟨by omega, by rw [P.1, List.length_drop]; omega, by omega, fun x hx => hs x (List.mem_of_mem_drop hx), D1.ld, D2.ld, M1.okL (by omega) (by omega), D2.lsz.okL (by omega) (by omega), p2.okL (by omega) (by omega), fun x hx => (a4 x hx).1.okL (by omega) (by omega), fun x hx => (one_bs hl hs (a4 x hx).1).2.2.2.1, fun x hx => ?_, ?_⟩
  · exact Nat.lt_of_le_of_lt (one_bs hl hs (a4 x hx).1).2.2.2.2 (pow_lt (by omega))
  · exact L2.wide_mul (a := 55) (b := 90) (Nat.lt_of_le_of_lt M1.2.2 (pow_lt (by omega))) D2.lsz.1 (by decide) (by decide) (by decide)
include hl hs in
theorem more_gd : Gd (moreD (wD row) (wP row) (wS row)) (wG row) := by
  have hg := wG_is (row := row)
  have hn := wN_le (row := row)
  have P := wP_is hl hs
  have G := wD_gd hl hs
  obtain ⟨s1, s2, s3⟩ := wS_is hl hs
  have hN := more_n (wD row) (wP row) (wS row)
  have hd := wD_n (row := row)
  have cases_ : ∀ i, i < (moreD (wD row) (wP row) (wS row)).n → i < (wD row).n ∨ i = (wD row).n := fun i hi => by omega
  refine ⟨by omega, hg.2, G.ll, fun l hlm => by have := G.lk l hlm; omega, fun i hi => ?_, fun i hi => ?_, fun i hi => ?_, fun i hi => ?_, fun i hi => ?_⟩
  · rcases cases_ i hi with h | rfl
    · rw [(more_old h).1]; exact G.lp i h
    · rw [more_new.1]; exact P.1
  · rcases cases_ i hi with h | rfl
    · rw [(more_old h).2]; exact G.la i h
    · rw [more_new.2]; exact s1
  · rcases cases_ i hi with h | rfl
    · rw [(more_old h).1]; exact G.hp i h
    · rw [more_new.1]; exact fun x hx => (P.2 x hx).1
  · rcases cases_ i hi with h | rfl
    · rw [(more_old h).2]; exact G.ha i h
    · rw [more_new.2]; exact s2
  · rcases cases_ i hi with h | rfl
    · have := G.sp i h
      unfold spt at this ⊢
      rw [(more_old h).1, (more_old h).2]; exact this
    · unfold spt
      rw [more_new.1, more_new.2, s3]; exact (wM_is hl hs).1
include hl hs in
theorem pr_dots {i : Nat} (hi : i < (wD row).n) : Dots (wP row) ((wD row).am i) 51 18 := by
  have hg := wG_is (row := row)
  have P := wP_is hl hs
  rw [wD_n] at hi
  have B := wD_buy hl hs hi
  exact small hg.2 P.1 B.2.1 (fun x hx => (P.2 x hx).1) fun x hx => (B.2.2.2 x hx).1
include hl hs in
theorem bk_dots {i : Nat} (hi : i < (wD row).n) : Dots ((wD row).pr i) (wS row) 195 162 := by
  have hg := wG_is (row := row)
  have S := wS_is hl hs
  rw [wD_n] at hi
  have B := wD_buy hl hs hi
  exact large hg.2 B.1 S.1 (fun x hx => (B.2.2.1 x hx).1) S.2.1
include hl hs in
theorem law_ok : LawOk row := by
  have hg := wG_is (row := row)
  have hn := wN_le (row := row)
  have hd := wD_n (row := row)
  have P := wP_is hl hs
  have G := wD_gd hl hs
  have G2 := more_gd hl hs
  have S := wS_is hl hs
  have M := wM_is hl hs
  have hm : OkL (wM row) := M.1.okL (by omega) (by omega)
  have lp : LPrOk (wD row) (wP row) (wM row) := ⟨fun i hi => (pr_dots hl hs hi).ld, hm, fun i hi => qless_congr (pr_dots hl hs hi).lsz.2.1 M.1.2.1 (pr_dots hl hs hi).sz.2.1 M.1.2.1 (pr_dots hl hs hi).v rfl, fun i hi => qless_congr M.1.2.1 (pr_dots hl hs hi).lsz.2.1 M.1.2.1 (pr_dots hl hs hi).sz.2.1 rfl (pr_dots hl hs hi).v⟩
  have lb : LBkOk (wD row) (wS row) := ⟨fun i hi => (bk_dots hl hs hi).ld, fun i hi => qless_congr (bk_dots hl hs hi).lsz.2.1 (G.dots hi hi).lsz.2.1 (bk_dots hl hs hi).sz.2.1 (G.dots hi hi).sz.2.1 (bk_dots hl hs hi).v (G.dots hi hi).v, fun i hi => qless_congr (G.dots hi hi).lsz.2.1 (bk_dots hl hs hi).lsz.2.1 (G.dots hi hi).sz.2.1 (bk_dots hl hs hi).sz.2.1 (G.dots hi hi).v (bk_dots hl hs hi).v⟩
  have nr : ringAt (wD row) = none → firstBroken (wD row) (reached (wD row) (wP row) (wM row)) (wS row) = none → ringAt (moreD (wD row) (wP row) (wS row)) = none := fun h1 h2 => no_ring_more G.lk S.2.2 h1 h2
  refine ⟨wd_ok hl hs, bs_ok hl hs, ⟨G.dt, ?_, S.2.2, ⟨fun i hi => (pr_dots hl hs hi).pd, fun i hi => (pr_dots hl hs hi).sz.ok (by omega) (by omega), M.1.ok (by omega) (by omega)⟩, ⟨fun i hi => (bk_dots hl hs hi).pd, fun i hi => (bk_dots hl hs hi).sz.ok (by omega) (by omega)⟩, fun h => (G.fit h).mt, by omega, fun _ _ => G2.dt, fun _ _ h => (G2.fit h).mt⟩, G.ldt, lp, lb, lleads_is _, fun i hi => ring_told (by omega) hi, fun j hr hf => ?_, nr, fun h1 h2 => G2.taste (nr h1 h2)⟩
  · exact (large hg.2 P.1 S.1 (fun x hx => (P.2 x hx).1) S.2.1).pd
  · have hj : j < (wD row).n := by
      unfold firstBroken at hf
      have := List.mem_range.mp (List.mem_of_find?_eq_some hf)
      rw [reached_len] at this
      exact this
    have hbr : broken (wD row) (reached (wD row) (wP row) (wM row)) (wS row) j = true := List.find?_some hf
    have hrs : ∃ rs, (reached (wD row) (wP row) (wM row)).getD j none = some rs := by
      unfold broken at hbr
      cases e : (reached (wD row) (wP row) (wM row)).getD j none with
      | none => rw [e] at hbr; cases hbr
      | some rs => exact ⟨rs, rfl⟩
    obtain ⟨rs, hrs⟩ := hrs
    obtain ⟨c, s, h1, h2, h3, h4, h5⟩ := row_told (pr := wP row) (m := wM row) (by omega) hj hrs
    exact ⟨c, h1, ⟨G.ldt, lp, lb, reached_len, hj, hbr, ⟨s, h2, fun e1 e2 => h3 (by rw [hrs] at e1; exact Option.some.inj e1) e2⟩, h4, h5⟩⟩
end
theorem lawOk (ns : List Int) : LawOk (rowN ns 70) := law_ok (rowN_len ns 70) (rowN_lt ns 70)
end BB
set_option Elab.async false
set_option linter.all false
set_option maxRecDepth 100000
open PySem PySem.W PyProof.Rows
set_option maxHeartbeats 0 in
theorem PySem.Challenge.cw_buybook_k35_whole_what_can_be_bought_holds : PySem.Challenge.rw_buybook_k35_whole_what_can_be_bought.Holds := by
  w_on; o_law; k_head; (case hw => w_witness2)
  k_fill
  refine L2.walk_of (l := PySem.Challenge.rw_buybook_k35_whole_what_can_be_bought) (n := 63) (k := 10) (x := "_law_script") (CX := fun _ => L2.CX0) (sp := fun w => BB.spLaw _) rfl (by decide) rfl ⟨rfl, by decide, by decide⟩ (fun w h Y => PySem.W.kIn_of Y) ?F (fun _ _ a ns hl _ hS => ⟨a, ns, rfl, hS, hl, fun _ => rfl⟩) (fun _ _ _ _ _ h => h)
  case F =>
    intro w mg fa h KX G hmg
    refine' BB.df_step (x := "ratio") (st := BB.s_ratio) ["p", "q"] KX G ?a ?l ?c ?k (fun _ _ _ _ _ _ us hl => match us, hl with | [_, _], _ => rfl) ?_
    (case a => k_is)
    (case l => k_is)
    (case c => k_is)
    (case k => k_is)
    intro d_ratio
    refine' BB.df_step (x := "add") (st := BB.s_add) ["a", "b"] KX G ?a ?l ?c ?k (fun _ _ _ _ _ _ us hl => match us, hl with | [_, _], _ => rfl) ?_
    (case a => k_is)
    (case l => k_is)
    (case c => k_is)
    (case k => k_is)
    intro d_add
    refine' BB.df_step (x := "sub") (st := BB.s_sub) ["a", "b"] KX G ?a ?l ?c ?k (fun _ _ _ _ _ _ us hl => match us, hl with | [_, _], _ => rfl) ?_
    (case a => k_is)
    (case l => k_is)
    (case c => k_is)
    (case k => k_is)
    intro d_sub
    refine' BB.df_step (x := "mul") (st := BB.s_mul) ["a", "b"] KX G ?a ?l ?c ?k (fun _ _ _ _ _ _ us hl => match us, hl with | [_, _], _ => rfl) ?_
    (case a => k_is)
    (case l => k_is)
    (case c => k_is)
    (case k => k_is)
    intro d_mul
    refine' BB.df_step (x := "div") (st := BB.s_div) ["a", "b"] KX G ?a ?l ?c ?k (fun _ _ _ _ _ _ us hl => match us, hl with | [_, _], _ => rfl) ?_
    (case a => k_is)
    (case l => k_is)
    (case c => k_is)
    (case k => k_is)
    intro d_div
    refine' BB.df_step (x := "less") (st := BB.s_less) ["a", "b"] KX G ?a ?l ?c ?k (fun _ _ _ _ _ _ us hl => match us, hl with | [_, _], _ => rfl) ?_
    (case a => k_is)
    (case l => k_is)
    (case c => k_is)
    (case k => k_is)
    intro d_less
    refine' BB.df_step (x := "at_most") (st := BB.s_at_most) ["a", "b"] KX G ?a ?l ?c ?k (fun _ _ _ _ _ _ us hl => match us, hl with | [_, _], _ => rfl) ?_
    (case a => k_is)
    (case l => k_is)
    (case c => k_is)
    (case k => k_is)
    intro d_at_most
    refine' BB.df_step (x := "dot") (st := BB.s_dot) ["a", "b"] KX G ?a ?l ?c ?k (fun _ _ _ _ _ _ us hl => match us, hl with | [_, _], _ => rfl) ?_
    (case a => k_is)
    (case l => k_is)
    (case c => k_is)
    (case k => k_is)
    intro d_dot
    refine' BB.df_step (x := "cost") (st := BB.s_cost) ["prices", "amounts"] KX G ?a ?l ?c ?k (fun _ _ _ _ _ _ us hl => match us, hl with | [_, _], _ => rfl) ?_
    (case a => k_is)
    (case l => k_is)
    (case c => k_is)
    (case k => k_is)
    intro d_cost
    refine' BB.df_step (x := "spent") (st := BB.s_spent) ["data", "i"] KX G ?a ?l ?c ?k (fun _ _ _ _ _ _ us hl => match us, hl with | [_, _], _ => rfl) ?_
    (case a => k_is)
    (case l => k_is)
    (case c => k_is)
    (case k => k_is)
    intro d_spent
    refine' BB.df_step (x := "step") (st := BB.s_step) ["data", "i", "j"] KX G ?a ?l ?c ?k (fun _ _ _ _ _ _ us hl => match us, hl with | [_, _, _], _ => rfl) ?_
    (case a => k_is)
    (case l => k_is)
    (case c => k_is)
    (case k => k_is)
    intro d_step
    refine' BB.df_step (x := "step_table") (st := BB.s_step_table) ["data"] KX G ?a ?l ?c ?k (fun _ _ _ _ _ _ us hl => match us, hl with | [_], _ => rfl) ?_
    (case a => k_is)
    (case l => k_is)
    (case c => k_is)
    (case k => k_is)
    intro d_step_table
    refine' BB.df_step (x := "find_in") (st := BB.s_find_in) ["table", "i"] KX G ?a ?l ?c ?k (fun _ _ _ _ _ _ us hl => match us, hl with | [_, _], _ => rfl) ?_
    (case a => k_is)
    (case l => k_is)
    (case c => k_is)
    (case k => k_is)
    intro d_find_in
    refine' BB.df_step (x := "leads") (st := BB.s_leads) ["data"] KX G ?a ?l ?c ?k (fun _ _ _ _ _ _ us hl => match us, hl with | [_], _ => rfl) ?_
    (case a => k_is)
    (case l => k_is)
    (case c => k_is)
    (case k => k_is)
    intro d_leads
    refine' BB.df_step (x := "find_chain") (st := BB.s_find_chain) ["data", "i", "j"] KX G ?a ?l ?c ?k (fun _ _ _ _ _ _ us hl => match us, hl with | [_, _, _], _ => rfl) ?_
    (case a => k_is)
    (case l => k_is)
    (case c => k_is)
    (case k => k_is)
    intro d_find_chain
    refine' BB.df_step (x := "reached") (st := BB.s_reached) ["data", "prices", "money"] KX G ?a ?l ?c ?k (fun _ _ _ _ _ _ us hl => match us, hl with | [_, _, _], _ => rfl) ?_
    (case a => k_is)
    (case l => k_is)
    (case c => k_is)
    (case k => k_is)
    intro d_reached
    refine' BB.df_step (x := "reach_chain") (st := BB.s_reach_chain) ["data", "prices", "money", "j"] KX G ?a ?l ?c ?k (fun _ _ _ _ _ _ us hl => match us, hl with | [_, _, _, _], _ => rfl) ?_
    (case a => k_is)
    (case l => k_is)
    (case c => k_is)
    (case k => k_is)
    intro d_reach_chain
    refine' BB.df_step (x := "keeps_row") (st := BB.s_keeps_row) ["data", "j", "strict", "basket"] KX G ?a ?l ?c ?k (fun _ _ _ _ _ _ us hl => match us, hl with | [_, _, _, _], _ => rfl) ?_
    (case a => k_is)
    (case l => k_is)
    (case c => k_is)
    (case k => k_is)
    intro d_keeps_row
    refine' BB.df_step (x := "first_broken") (st := BB.s_first_broken) ["data", "rows", "basket"] KX G ?a ?l ?c ?k (fun _ _ _ _ _ _ us hl => match us, hl with | [_, _, _], _ => rfl) ?_
    (case a => k_is)
    (case l => k_is)
    (case c => k_is)
    (case k => k_is)
    intro d_first_broken
    refine' BB.df_step (x := "plane") (st := BB.s_plane) ["data", "taste", "i", "basket"] KX G ?a ?l ?c ?k (fun _ _ _ _ _ _ us hl => match us, hl with | [_, _, _, _], _ => rfl) ?_
    (case a => k_is)
    (case l => k_is)
    (case c => k_is)
    (case k => k_is)
    intro d_plane
    refine' BB.df_step (x := "next_class") (st := BB.s_next_class) ["table", "done"] KX G ?a ?l ?c ?k (fun _ _ _ _ _ _ us hl => match us, hl with | [_, _], _ => rfl) ?_
    (case a => k_is)
    (case l => k_is)
    (case c => k_is)
    (case k => k_is)
    intro d_next_class
    refine' BB.df_step (x := "class_number") (st := BB.s_class_number) ["data", "taste", "done", "members"] KX G ?a ?l ?c ?k (fun _ _ _ _ _ _ us hl => match us, hl with | [_, _, _, _], _ => rfl) ?_
    (case a => k_is)
    (case l => k_is)
    (case c => k_is)
    (case k => k_is)
    intro d_class_number
    refine' BB.df_step (x := "member_weight") (st := BB.s_member_weight) ["data", "numbers", "done", "number", "j"] KX G ?a ?l ?c ?k (fun _ _ _ _ _ _ us hl => match us, hl with | [_, _, _, _, _], _ => rfl) ?_
    (case a => k_is)
    (case l => k_is)
    (case c => k_is)
    (case k => k_is)
    intro d_member_weight
    refine' BB.df_step (x := "make_taste") (st := BB.s_make_taste) ["data", "table"] KX G ?a ?l ?c ?k (fun _ _ _ _ _ _ us hl => match us, hl with | [_, _], _ => rfl) ?_
    (case a => k_is)
    (case l => k_is)
    (case c => k_is)
    (case k => k_is)
    intro d_make_taste
    refine' BB.df_step (x := "check") (st := BB.s_check) ["data"] KX G ?a ?l ?c ?k (fun _ _ _ _ _ _ us hl => match us, hl with | [_], _ => rfl) ?_
    (case a => k_is)
    (case l => k_is)
    (case c => k_is)
    (case k => k_is)
    intro d_check
    refine' BB.df_step (x := "buys") (st := BB.s_buys) ["data", "prices", "money", "basket"] KX G ?a ?l ?c ?k (fun _ _ _ _ _ _ us hl => match us, hl with | [_, _, _, _], _ => rfl) ?_
    (case a => k_is)
    (case l => k_is)
    (case c => k_is)
    (case k => k_is)
    intro d_buys
    refine' BB.df_step (x := "_law_is_integer") (st := BB.s_l_is_integer) ["_law_actual"] KX G ?a ?l ?c ?k (fun _ _ _ _ _ _ us hl => match us, hl with | [_], _ => rfl) ?_
    (case a => k_is)
    (case l => k_is)
    (case c => k_is)
    (case k => k_is)
    intro d_l_is_integer
    refine' BB.df_step (x := "_law_row") (st := BB.s_l_row) ["_law_script", "_law_count"] KX G ?a ?l ?c ?k (fun _ _ _ _ _ _ us hl => match us, hl with | [_, _], _ => rfl) ?_
    (case a => k_is)
    (case l => k_is)
    (case c => k_is)
    (case k => k_is)
    intro d_l_row
    refine' BB.df_step (x := "_law_common") (st := BB.s_l_common) ["_law_a", "_law_b"] KX G ?a ?l ?c ?k (fun _ _ _ _ _ _ us hl => match us, hl with | [_, _], _ => rfl) ?_
    (case a => k_is)
    (case l => k_is)
    (case c => k_is)
    (case k => k_is)
    intro d_l_common
    refine' BB.df_step (x := "_law_ratio") (st := BB.s_l_ratio) ["_law_p", "_law_q"] KX G ?a ?l ?c ?k (fun _ _ _ _ _ _ us hl => match us, hl with | [_, _], _ => rfl) ?_
    (case a => k_is)
    (case l => k_is)
    (case c => k_is)
    (case k => k_is)
    intro d_l_ratio
    refine' BB.df_step (x := "_law_is_ratio") (st := BB.s_l_is_ratio) ["_law_actual"] KX G ?a ?l ?c ?k (fun _ _ _ _ _ _ us hl => match us, hl with | [_], _ => rfl) ?_
    (case a => k_is)
    (case l => k_is)
    (case c => k_is)
    (case k => k_is)
    intro d_l_is_ratio
    refine' BB.df_step (x := "_law_are_ratios") (st := BB.s_l_are_ratios) ["_law_actual", "_law_count"] KX G ?a ?l ?c ?k (fun _ _ _ _ _ _ us hl => match us, hl with | [_, _], _ => rfl) ?_
    (case a => k_is)
    (case l => k_is)
    (case c => k_is)
    (case k => k_is)
    intro d_l_are_ratios
    refine' BB.df_step (x := "_law_plus") (st := BB.s_l_plus) ["_law_a", "_law_b"] KX G ?a ?l ?c ?k (fun _ _ _ _ _ _ us hl => match us, hl with | [_, _], _ => rfl) ?_
    (case a => k_is)
    (case l => k_is)
    (case c => k_is)
    (case k => k_is)
    intro d_l_plus
    refine' BB.df_step (x := "_law_times") (st := BB.s_l_times) ["_law_a", "_law_b"] KX G ?a ?l ?c ?k (fun _ _ _ _ _ _ us hl => match us, hl with | [_, _], _ => rfl) ?_
    (case a => k_is)
    (case l => k_is)
    (case c => k_is)
    (case k => k_is)
    intro d_l_times
    refine' BB.df_step (x := "_law_minus") (st := BB.s_l_minus) ["_law_a"] KX G ?a ?l ?c ?k (fun _ _ _ _ _ _ us hl => match us, hl with | [_], _ => rfl) ?_
    (case a => k_is)
    (case l => k_is)
    (case c => k_is)
    (case k => k_is)
    intro d_l_minus
    refine' BB.df_step (x := "_law_below") (st := BB.s_l_below) ["_law_a", "_law_b"] KX G ?a ?l ?c ?k (fun _ _ _ _ _ _ us hl => match us, hl with | [_, _], _ => rfl) ?_
    (case a => k_is)
    (case l => k_is)
    (case c => k_is)
    (case k => k_is)
    intro d_l_below
    refine' BB.df_step (x := "_law_same") (st := BB.s_l_same) ["_law_a", "_law_b"] KX G ?a ?l ?c ?k (fun _ _ _ _ _ _ us hl => match us, hl with | [_, _], _ => rfl) ?_
    (case a => k_is)
    (case l => k_is)
    (case c => k_is)
    (case k => k_is)
    intro d_l_same
    refine' BB.df_step (x := "_law_dot") (st := BB.s_l_dot) ["_law_a", "_law_b"] KX G ?a ?l ?c ?k (fun _ _ _ _ _ _ us hl => match us, hl with | [_, _], _ => rfl) ?_
    (case a => k_is)
    (case l => k_is)
    (case c => k_is)
    (case k => k_is)
    intro d_l_dot
    refine' BB.df_step (x := "_law_price") (st := BB.s_l_price) ["_law_number"] KX G ?a ?l ?c ?k (fun _ _ _ _ _ _ us hl => match us, hl with | [_], _ => rfl) ?_
    (case a => k_is)
    (case l => k_is)
    (case c => k_is)
    (case k => k_is)
    intro d_l_price
    refine' BB.df_step (x := "_law_amount") (st := BB.s_l_amount) ["_law_number"] KX G ?a ?l ?c ?k (fun _ _ _ _ _ _ us hl => match us, hl with | [_], _ => rfl) ?_
    (case a => k_is)
    (case l => k_is)
    (case c => k_is)
    (case k => k_is)
    intro d_l_amount
    refine' BB.df_step (x := "_law_buy") (st := BB.s_l_buy) ["_law_row_here", "_law_goods"] KX G ?a ?l ?c ?k (fun _ _ _ _ _ _ us hl => match us, hl with | [_, _], _ => rfl) ?_
    (case a => k_is)
    (case l => k_is)
    (case c => k_is)
    (case k => k_is)
    intro d_l_buy
    refine' BB.df_step (x := "_law_buys") (st := BB.s_l_buys) ["_law_row_here", "_law_goods", "_law_count"] KX G ?a ?l ?c ?k (fun _ _ _ _ _ _ us hl => match us, hl with | [_, _, _], _ => rfl) ?_
    (case a => k_is)
    (case l => k_is)
    (case c => k_is)
    (case k => k_is)
    intro d_l_buys
    refine' BB.df_step (x := "_law_links") (st := BB.s_l_links) ["_law_row_here", "_law_count"] KX G ?a ?l ?c ?k (fun _ _ _ _ _ _ us hl => match us, hl with | [_, _], _ => rfl) ?_
    (case a => k_is)
    (case l => k_is)
    (case c => k_is)
    (case k => k_is)
    intro d_l_links
    refine' BB.df_step (x := "_law_copy") (st := BB.s_l_copy) ["_law_buys_here"] KX G ?a ?l ?c ?k (fun _ _ _ _ _ _ us hl => match us, hl with | [_], _ => rfl) ?_
    (case a => k_is)
    (case l => k_is)
    (case c => k_is)
    (case k => k_is)
    intro d_l_copy
    refine' BB.df_step (x := "_law_step") (st := BB.s_l_step) ["_law_buys_here", "_law_links_here", "_law_i", "_law_j"] KX G ?a ?l ?c ?k (fun _ _ _ _ _ _ us hl => match us, hl with | [_, _, _, _], _ => rfl) ?_
    (case a => k_is)
    (case l => k_is)
    (case c => k_is)
    (case k => k_is)
    intro d_l_step
    refine' BB.df_step (x := "_law_leads") (st := BB.s_l_leads) ["_law_buys_here", "_law_links_here"] KX G ?a ?l ?c ?k (fun _ _ _ _ _ _ us hl => match us, hl with | [_, _], _ => rfl) ?_
    (case a => k_is)
    (case l => k_is)
    (case c => k_is)
    (case k => k_is)
    intro d_l_leads
    refine' BB.df_step (x := "_law_has_ring") (st := BB.s_l_has_ring) ["_law_table"] KX G ?a ?l ?c ?k (fun _ _ _ _ _ _ us hl => match us, hl with | [_], _ => rfl) ?_
    (case a => k_is)
    (case l => k_is)
    (case c => k_is)
    (case k => k_is)
    intro d_l_has_ring
    refine' BB.df_step (x := "_law_chain") (st := BB.s_l_chain) ["_law_buys_here", "_law_links_here", "_law_chain_here"] KX G ?a ?l ?c ?k (fun _ _ _ _ _ _ us hl => match us, hl with | [_, _, _], _ => rfl) ?_
    (case a => k_is)
    (case l => k_is)
    (case c => k_is)
    (case k => k_is)
    intro d_l_chain
    refine' BB.df_step (x := "_law_is_ring") (st := BB.s_l_is_ring) ["_law_buys_here", "_law_links_here", "_law_chain_here"] KX G ?a ?l ?c ?k (fun _ _ _ _ _ _ us hl => match us, hl with | [_, _, _], _ => rfl) ?_
    (case a => k_is)
    (case l => k_is)
    (case c => k_is)
    (case k => k_is)
    intro d_l_is_ring
    refine' BB.df_step (x := "_law_reached") (st := BB.s_l_reached) ["_law_buys_here", "_law_links_here", "_law_prices", "_law_money"] KX G ?a ?l ?c ?k (fun _ _ _ _ _ _ us hl => match us, hl with | [_, _, _, _], _ => rfl) ?_
    (case a => k_is)
    (case l => k_is)
    (case c => k_is)
    (case k => k_is)
    intro d_l_reached
    refine' BB.df_step (x := "_law_keeps") (st := BB.s_l_keeps) ["_law_buys_here", "_law_rows", "_law_basket_here", "_law_weakly"] KX G ?a ?l ?c ?k (fun _ _ _ _ _ _ us hl => match us, hl with | [_, _, _, _], _ => rfl) ?_
    (case a => k_is)
    (case l => k_is)
    (case c => k_is)
    (case k => k_is)
    intro d_l_keeps
    refine' BB.df_step (x := "_law_world") (st := BB.s_l_world) ["_law_row_here"] KX G ?a ?l ?c ?k (fun _ _ _ _ _ _ us hl => match us, hl with | [_], _ => rfl) ?_
    (case a => k_is)
    (case l => k_is)
    (case c => k_is)
    (case k => k_is)
    intro d_l_world
    refine' BB.df_step (x := "_law_unchanged") (st := BB.s_l_unchanged) ["_law_data", "_law_goods", "_law_buys_here", "_law_links_here"] KX G ?a ?l ?c ?k (fun _ _ _ _ _ _ us hl => match us, hl with | [_, _, _, _], _ => rfl) ?_
    (case a => k_is)
    (case l => k_is)
    (case c => k_is)
    (case k => k_is)
    intro d_l_unchanged
    refine' BB.df_step (x := "_law_basket") (st := BB.s_l_basket) ["_law_row_here", "_law_prices", "_law_money"] KX G ?a ?l ?c ?k (fun _ _ _ _ _ _ us hl => match us, hl with | [_, _, _], _ => rfl) ?_
    (case a => k_is)
    (case l => k_is)
    (case c => k_is)
    (case k => k_is)
    intro d_l_basket
    refine' BB.df_step (x := "_law_taste") (st := BB.s_l_taste) ["_law_goods", "_law_buys_here", "_law_links_here", "_law_taste_here"] KX G ?a ?l ?c ?k (fun _ _ _ _ _ _ us hl => match us, hl with | [_, _, _, _], _ => rfl) ?_
    (case a => k_is)
    (case l => k_is)
    (case c => k_is)
    (case k => k_is)
    intro d_l_taste
    refine' BB.df_step (x := "_law_row_told") (st := BB.s_l_row_told) ["_law_buys_here", "_law_links_here", "_law_rows", "_law_prices", "_law_money", "_law_basket_here", "_law_actual"] KX G ?a ?l ?c ?k (fun _ _ _ _ _ _ us hl => match us, hl with | [_, _, _, _, _, _, _], _ => rfl) ?_
    (case a => k_is)
    (case l => k_is)
    (case c => k_is)
    (case k => k_is)
    intro d_l_row_told
    refine' BB.cst_step "ZERO" BB.q0 KX G ?a ?l ?s ?v ?_
    (case a => k_is)
    (case l => k_is)
    (case s => decide)
    (case v => exact .cons ⟨_, rfl⟩ (.cons ⟨_, rfl⟩ .nil))
    intro dZ
    refine' BB.cst_step "ONE" BB.q1 KX G ?a ?l ?s ?v ?_
    (case a => k_is)
    (case l => k_is)
    (case s => decide)
    (case v => exact .cons ⟨_, rfl⟩ (.cons ⟨_, rfl⟩ .nil))
    intro dO
    refine' BB.end_mk BB.lawOk KX G hmg ⟨dZ, dO, PySem.W.mg_of KX G ?zg, PySem.W.mg_none_of KX G ?z1, PySem.W.mg_none_of KX G ?z2, PySem.W.mg_none_of KX G ?z3, PySem.W.mg_none_of KX G ?z4, PySem.W.mg_none_of KX G ?z5, PySem.W.mg_none_of KX G ?z6, PySem.W.mg_none_of KX G ?z7, PySem.W.mg_none_of KX G ?z8, ⟨?pg, ?hd, ?po, ?sa⟩, BB.nat_mk ?nG, BB.nat_mk ?nB, BB.nat_mk ?nL, PySem.W.mg_of KX G ?aC, BB.dex_mk ?mk ?di ?ii ?kc ?dl ?dc ?dk, d_ratio, d_add, d_sub, d_mul, d_div, d_less, d_at_most, d_dot, d_cost, d_spent, d_step, d_step_table, d_find_in, d_leads, d_find_chain, d_reached, d_reach_chain, d_keeps_row, d_first_broken, d_plane, d_next_class, d_class_number, d_member_weight, d_make_taste, d_check, d_buys, d_l_is_integer, d_l_row, d_l_common, d_l_ratio, d_l_is_ratio, d_l_are_ratios, d_l_plus, d_l_times, d_l_minus, d_l_below, d_l_same, d_l_dot, d_l_price, d_l_amount, d_l_buy, d_l_buys, d_l_links, d_l_copy, d_l_step, d_l_leads, d_l_has_ring, d_l_chain, d_l_is_ring, d_l_reached, d_l_keeps, d_l_world, d_l_unchanged, d_l_basket, d_l_taste, d_l_row_told⟩ ?aL ?lL ?cL ?kL
    (case aC => k_is)
    (case zg => k_is)
    (case z1 => k_is)
    (case z2 => k_is)
    (case z3 => k_is)
    (case z4 => k_is)
    (case z5 => k_is)
    (case z6 => k_is)
    (case z7 => k_is)
    (case z8 => k_is)
    (case pg => k_is)
    (case hd => k_is)
    (case po => k_is)
    (case sa => k_is)
    (case nG => k_is)
    (case nB => k_is)
    (case nL => k_is)
    (case mk => k_is)
    (case di => k_is)
    (case ii => k_is)
    (case kc => k_is)
    (case dl => k_is)
    (case dc => k_is)
    (case dk => k_is)
    (case aL => k_is)
    (case lL => k_is)
    (case cL => k_is)
    (case kL => k_is)

