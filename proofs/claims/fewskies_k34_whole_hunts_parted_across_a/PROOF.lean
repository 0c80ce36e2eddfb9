import PyProof.Rows.All
import Wide.All
import OpenK.AllK
import Wide.FinOn
import HandS.ForMost
import HandS.ForExc
import HandS.IsInst
import HandS.Wide
import HandS.SortInts
import HandS.Lambda
import HandS.EndTab
import HandS.WideBits
import HandS.WordsExc
import HandS.TupAny
import HandS.Zip
import HandS.TupMul
import HandS.Deep
import HandS.Style
import PySem.Challenge.RW_fewskies_k34_whole_hunts_parted_across_a
set_option Elab.async false
set_option linter.all false
set_option maxRecDepth 100000
set_option maxHeartbeats 4000000
/-! The data layer, 1: data in a frozen heap, slots that own a list, readings over data. -/
namespace DL
open PySem PySem.Spec PyProof.Rows L2

abbrev D := PyData
abbrev St := L2.St

/-! ### data in a heap F that nobody changes -/
mutual
inductive Dq (K : PySem.W.Frag) (F : Hp) : V → D → Prop
  | non : Dq K F .non .none
  | bl (b : Bool) : Dq K F (.bl b) (.bool b)
  | int (i : Int) : Dq K F (.int i) (.int i)
  | str (x : Str) : Dq K F (.str x) (.str x)
  | lst {a : Addr} {xs : List V} {ds : List D} : F a = some (.lst xs) → DqL K F xs ds → Dq K F (.ref a) (.list ds)
  | tup {a : Addr} {xs : List V} {ds : List D} : SqT K F a xs → DqL K F xs ds → Dq K F (.ref a) (.tuple ds)
inductive DqL (K : PySem.W.Frag) (F : Hp) : List V → List D → Prop
  | nil : DqL K F [] []
  | cons {v : V} {vs : List V} {d : D} {ds : List D} : Dq K F v d → DqL K F vs ds → DqL K F (v :: vs) (d :: ds)
end
theorem sqT_mono {K : PySem.W.Frag} {F F' : Hp} {a : Addr} {xs : List V} (e : Same F F') (h : SqT K F a xs) : SqT K F' a xs := by
  rcases h with (h | ⟨o, h⟩) | h
  · exact .inl (.inl (e _ _ h))
  · exact .inl (.inr ⟨o, e _ _ h⟩)
  · exact .inr h
mutual
theorem Dq.mono {K : PySem.W.Frag} {F F' : Hp} (e : Same F F') : ∀ (d : D) (v : V), Dq K F v d → Dq K F' v d
  | .none, _, h => by cases h; exact .non
  | .bool b, _, h => by cases h; exact .bl b
  | .int i, _, h => by cases h; exact .int i
  | .str x, _, h => by cases h; exact .str x
  | .list ds, _, h => by
    cases h with
    | lst h1 h2 => exact .lst (e _ _ h1) (DqL.mono e ds _ h2)
  | .tuple ds, _, h => by
    cases h with
    | tup h1 h2 => exact .tup (sqT_mono e h1) (DqL.mono e ds _ h2)
  | .dict _, _, h => by cases h
theorem DqL.mono {K : PySem.W.Frag} {F F' : Hp} (e : Same F F') : ∀ (ds : List D) (vs : List V), DqL K F vs ds → DqL K F' vs ds
  | [], _, h => by cases h; exact .nil
  | d :: ds, _, h => by
    cases h with
    | cons h1 h2 => exact .cons (Dq.mono e d _ h1) (DqL.mono e ds _ h2)
end
mutual
theorem Dq.dp {K : PySem.W.Frag} {F : Hp} : ∀ (d : D) (v : V), Dq K F v d → Dp K F v d
  | .none, _, h => by cases h; exact .non
  | .bool b, _, h => by cases h; exact .bl b
  | .int i, _, h => by cases h; exact .int i
  | .str x, _, h => by cases h; exact .str x
  | .list ds, _, h => by
    cases h with
    | lst h1 h2 => exact .lst (SqL.of h1) (DqL.dp ds _ h2)
  | .tuple ds, _, h => by
    cases h with
    | tup h1 h2 => exact .tup h1 (DqL.dp ds _ h2)
  | .dict _, _, h => by cases h
theorem DqL.dp {K : PySem.W.Frag} {F : Hp} : ∀ (ds : List D) (vs : List V), DqL K F vs ds → DpAll K F vs ds
  | [], _, h => by cases h; exact .nil
  | d :: ds, _, h => by
    cases h with
    | cons h1 h2 => exact .cons (Dq.dp d _ h1) (DqL.dp ds _ h2)
end
section
variable {K : PySem.W.Frag} {F F' : Hp}
theorem Dq.up {v : V} {d : D} (h : Dq K F v d) (e : Same F F') : Dq K F' v d := Dq.mono e d v h
theorem DqL.up {vs : List V} {ds : List D} (h : DqL K F vs ds) (e : Same F F') : DqL K F' vs ds := DqL.mono e ds vs h
theorem DqL.len : ∀ {vs : List V} {ds : List D}, DqL K F vs ds → vs.length = ds.length
  | _, _, .nil => rfl
  | _, _, .cons _ t => by rw [List.length_cons, List.length_cons, DqL.len t]
theorem DqL.at : ∀ {vs : List V} {ds : List D} {i : Nat} {v : V}, DqL K F vs ds → vs[i]? = some v → ∃ d, ds[i]? = some d ∧ Dq K F v d
  | _, _, _, _, .nil, e => by simp at e
  | _, _, 0, _, .cons h _, e => by simp at e; subst e; exact ⟨_, rfl, h⟩
  | _, _, i + 1, v, .cons _ t, e => by
    obtain ⟨d, h1, h2⟩ := DqL.at (i := i) (v := v) t (by simpa using e)
    exact ⟨d, by simpa using h1, h2⟩
theorem DqL.back : ∀ {vs : List V} {ds : List D} {i : Nat} {d : D}, DqL K F vs ds → ds[i]? = some d → ∃ v, vs[i]? = some v ∧ Dq K F v d
  | _, _, _, _, .nil, e => by simp at e
  | _, _, 0, _, .cons h _, e => by simp at e; subst e; exact ⟨_, rfl, h⟩
  | _, _, i + 1, d, .cons _ t, e => by
    obtain ⟨v, h1, h2⟩ := DqL.back (i := i) (d := d) t (by simpa using e)
    exact ⟨v, by simpa using h1, h2⟩
theorem DqL.app : ∀ {vs ws : List V} {ds es : List D}, DqL K F vs ds → DqL K F ws es → DqL K F (vs ++ ws) (ds ++ es)
  | _, _, _, _, .nil, s => s
  | _, _, _, _, .cons h t, s => .cons h (DqL.app t s)
theorem DqL.take : ∀ {vs : List V} {ds : List D} (n : Nat), DqL K F vs ds → DqL K F (vs.take n) (ds.take n)
  | _, _, 0, _ => .nil
  | _, _, _ + 1, .nil => .nil
  | _, _, n + 1, .cons h t => .cons h (DqL.take n t)
theorem DqL.drop : ∀ {vs : List V} {ds : List D} (n : Nat), DqL K F vs ds → DqL K F (vs.drop n) (ds.drop n)
  | _, _, 0, h => h
  | _, _, _ + 1, .nil => .nil
  | _, _, n + 1, .cons _ t => DqL.drop n t
theorem DqL.set {v : V} {d : D} (h : Dq K F v d) : ∀ {vs : List V} {ds : List D} (i : Nat), DqL K F vs ds → DqL K F (vs.set i v) (ds.set i d)
  | _, _, _, .nil => .nil
  | _, _, 0, .cons _ t => .cons h t
  | _, _, i + 1, .cons q t => .cons q (DqL.set h i t)
theorem DqL.snoc {vs : List V} {ds : List D} {v : V} {d : D} (h : DqL K F vs ds) (q : Dq K F v d) : DqL K F (vs ++ [v]) (ds ++ [d]) := h.app (.cons q .nil)
theorem DqL.ints : ∀ (ns : List Int), DqL K F (ns.map V.int) (ns.map PyData.int)
  | [] => .nil
  | n :: ns => .cons (.int n) (DqL.ints ns)
theorem DqL.of_ints : ∀ {ns : List Int} {vs : List V}, DqL K F vs (ns.map PyData.int) → vs = ns.map V.int
  | [], _, h => by cases h; rfl
  | n :: ns, _, h => by
    cases h with
    | cons h1 h2 => cases h1; rw [DqL.of_ints h2]; rfl
theorem DqL.of_bools : ∀ {bs : List Bool} {vs : List V}, DqL K F vs (bs.map PyData.bool) → vs = bs.map V.bl
  | [], _, h => by cases h; rfl
  | n :: ns, _, h => by
    cases h with
    | cons h1 h2 => cases h1; rw [DqL.of_bools h2]; rfl
end

/-! ### the state of the drawing hand -/
structure Hd where
  cells : List Int
  at_ : Int
  left : Int
  mix : Int
  many : Int
  deriving Inhabited
def HandAt (K : PySem.W.Frag) (F H : Hp) (p : Addr) (h : Hd) : Prop :=
  F p = none ∧ ∃ c, H p = some (.lst [.ref c, .int h.at_, .int h.left, .int h.mix, .int h.many]) ∧ F c = some (.lst (h.cells.map V.int))

/-! ### where a def began: the frozen heap, the whole heap, the hand's place -/
structure Bs where
  F : Hp
  H : Hp
  hp : Option Addr
  T : List (Addr × Str)
def Bs.to (B : Bs) (F H : Hp) : Bs := ⟨F, H, B.hp, B.T⟩
structure Ev (K : PySem.W.Frag) (B : Bs) (F H : Hp) (h : Hd) : Prop where
  sF : Same B.F F
  sH : Same F H
  keep : ∀ p o, B.H p = some o → B.hp ≠ some p → (∀ ps, o ≠ .tbl ps) → H p = some o
  live : ∀ p, B.H p ≠ none → H p ≠ none
  unf : ∀ p o, B.H p = some o → B.F p = none → F p = none
  hand : ∀ p, B.hp = some p → (∃ o, B.H p = some o) ∧ HandAt K F H p h
  tab : LamX.Tabs B.T H
theorem Ev.refl {K : PySem.W.Frag} {F H : Hp} {hp : Option Addr} {T : List (Addr × Str)} {h : Hd} (s : Same F H) (hh : ∀ p, hp = some p → HandAt K F H p h) (t : LamX.Tabs T H) : Ev K ⟨F, H, hp, T⟩ F H h :=
  ⟨Same.refl F, s, fun _ _ e _ _ => e, fun _ e => e, fun _ _ _ e => e, fun p e => ⟨let ⟨_, c, q, _⟩ := hh p e; ⟨_, q⟩, hh p e⟩, t⟩
theorem lst_nt {xs : List V} : ∀ ps, HO.lst xs ≠ .tbl ps := fun _ z => by cases z
/-- tables stay where what was no table and no code is written -/
theorem tabs_upd {T : List (Addr × Str)} {H : Hp} {p : Addr} {o : HO} (t : LamX.Tabs T H) (h : H p = none ∨ ∃ xs, H p = some (.lst xs)) : LamX.Tabs T (upd H p o) := by
  intro q hq
  obtain ⟨ps, h1, h2, h3⟩ := t q hq
  have ne : ∀ {b : Addr} {u : HO}, H b = some u → (∀ xs, u ≠ .lst xs) → b ≠ p := fun {b u} e n z => by
    subst z
    rcases h with h | ⟨xs, h⟩
    · rw [h] at e; cases e
    · rw [h] at e; exact n xs (Option.some.inj e).symm
  refine ⟨ps, by rw [upd_ne (ne h1 (fun xs z => by cases z))]; exact h1, h2, fun pos cv hc => ?_⟩
  obtain ⟨c, e1, e2⟩ := h3 pos cv hc
  exact ⟨c, e1, by rw [upd_ne (ne e2 (fun xs z => by unfold LamX.CodeO at z; cases z))]; exact e2⟩

/-! ### what the slots hold -/
inductive Sv where
  | no
  | d (x : D)
  | own (xs : List D)
  | pk (x : D)
  | scr (ns : List Int)
  | hand
structure Sd where
  env : List Sv
  h : Hd
def at' : List Sv → Nat → Sv
  | [], _ => .no
  | x :: _, 0 => x
  | _ :: r, i + 1 => at' r i
theorem at'_get : ∀ {l : List Sv} {i : Nat}, at' l i = .no ∨ l[i]? = some (at' l i)
  | [], _ => .inl rfl
  | _ :: _, 0 => .inr rfl
  | _ :: r, i + 1 => by
    show at' r i = .no ∨ r[i]? = some (at' r i)
    exact at'_get
theorem at'_of : ∀ {l : List Sv} {i : Nat} {v : Sv}, l[i]? = some v → at' l i = v
  | [], _, _, e => by simp at e
  | _ :: _, 0, _, e => by simp at e; exact e
  | _ :: r, i + 1, v, e => at'_of (l := r) (by simpa using e)
def Pk (K : PySem.W.Frag) (hp : Option Addr) (F H : Hp) (v : V) (x : D) : Prop :=
  Dq K F v x ∨ ∃ p vs xs, v = .ref p ∧ x = .list xs ∧ F p = none ∧ H p = some (.lst vs) ∧ hp ≠ some p ∧ DqL K F vs xs
def SlotOk (K : PySem.W.Frag) (B : Bs) (F H : Hp) (o : Option (Option V)) : Sv → Prop
  | .no => True
  | .d x => ∃ v, o = some (some v) ∧ Dq K F v x
  | .own xs => ∃ p vs, o = some (some (.ref p)) ∧ B.H p = none ∧ F p = none ∧ H p = some (.lst vs) ∧ DqL K F vs xs
  | .pk x => ∃ v, o = some (some v) ∧ (Dq K F v x ∨ ∃ p vs xs, v = .ref p ∧ x = .list xs ∧ B.F p = none ∧ B.H p = some (.lst vs) ∧ B.hp ≠ some p ∧ DqL K F vs xs)
  | .scr ns => ∃ a, o = some (some (.ref a)) ∧ SqL K F a (ns.map V.int)
  | .hand => ∃ p, o = some (some (.ref p)) ∧ B.hp = some p
structure Rp (K : PySem.W.Frag) (B : Bs) (F H : Hp) (σ : St) (S : Sd) : Prop where
  ev : Ev K B F H S.h
  sl : ∀ (i : Nat) v, S.env[i]? = some v → SlotOk K B F H σ[i]? v
  ap : ∀ (i j : Nat) xs ys, i ≠ j → S.env[i]? = some (.own xs) → S.env[j]? = some (.own ys) → σ[i]? ≠ σ[j]?
  ln : S.env.length = σ.length
section
variable {K : PySem.W.Frag} {B : Bs} {F F' H H' : Hp} {σ : St} {S S' : Sd} {h' : Hd}
theorem Rp.sH (r : Rp K B F H σ S) : Same F H := r.ev.sH
/-- own lists stay -/
def Kept (B : Bs) (F H F' H' : Hp) : Prop := ∀ p xs, B.H p = none → F p = none → H p = some (.lst xs) → F' p = none ∧ H' p = some (.lst xs)
theorem SlotOk.step {o : Option (Option V)} {v : Sv} (x : SlotOk K B F H o v) (s : Same F F') (k : Kept B F H F' H') : SlotOk K B F' H' o v := by
  cases v with
  | no => trivial
  | d y =>
    obtain ⟨w, e, q⟩ := x
    exact ⟨w, e, q.up s⟩
  | own xs =>
    obtain ⟨p, vs, e, b, f, g, q⟩ := x
    obtain ⟨f', g'⟩ := k p _ b f g
    exact ⟨p, vs, e, b, f', g', q.up s⟩
  | pk y =>
    obtain ⟨w, e, q⟩ := x
    refine ⟨w, e, ?_⟩
    rcases q with q | ⟨p, vs, xs, a1, a2, a3, a4, a5, a6⟩
    · exact .inl (q.up s)
    · exact .inr ⟨p, vs, xs, a1, a2, a3, a4, a5, a6.up s⟩
  | scr ns => obtain ⟨a, e, q⟩ := x; exact ⟨a, e, s.seq q⟩
  | hand => exact x
theorem Rp.step (r : Rp K B F H σ S) (s : Same F F') (e : Ev K B F' H' h') (k : Kept B F H F' H') : Rp K B F' H' σ { S with h := h' } :=
  ⟨e, fun i v q => (r.sl i v q).step s k, r.ap, r.ln⟩
theorem Rp.pk (r : Rp K B F H σ S) {v : V} {x : D} (h : (Dq K F v x ∨ ∃ p vs xs, v = .ref p ∧ x = .list xs ∧ B.F p = none ∧ B.H p = some (.lst vs) ∧ B.hp ≠ some p ∧ DqL K F vs xs)) : Pk K B.hp F H v x := by
  rcases h with q | ⟨p, vs, xs, a1, a2, a3, a4, a5, a6⟩
  · exact .inl q
  · exact .inr ⟨p, vs, xs, a1, a2, r.ev.unf p _ a4 a3, r.ev.keep p _ a4 a5 lst_nt, a5, a6⟩
theorem live_upd {H : Hp} {p q : Addr} {o : HO} (h : H q ≠ none) : upd H p o q ≠ none := by
  by_cases e : q = p
  · subst e; rw [upd_same]; exact fun w => nomatch w
  · rw [upd_ne e]; exact h
/-- a new object is laid and frozen -/
theorem Rp.laid (r : Rp K B F H σ S) {p : Addr} {o : HO} (n : H p = none) : Rp K B (upd F p o) (upd H p o) σ S := by
  have nF : F p = none := r.sH.free n
  have np : ∀ q u, H q = some u → q ≠ p := fun q u e => ne_of_none e n
  have nf : ∀ q u, F q = some u → q ≠ p := fun q u e => ne_of_none e nF
  have sF : Same F (upd F p o) := fun q u e => by rw [upd_ne (nf q u e)]; exact e
  have sH : Same H (upd H p o) := fun q u e => by rw [upd_ne (np q u e)]; exact e
  have bp : ∀ q u, B.H q = some u → q ≠ p := fun q u e z => r.ev.live q (by rw [e]; exact fun w => nomatch w) (by rw [z]; exact n)
  refine ⟨⟨r.ev.sF.trans sF, fun q u e => ?_, fun q u e hq nt => sH _ _ (r.ev.keep q u e hq nt), fun q e => live_upd (r.ev.live q e), fun q u e f => ?_, fun q e => ?_, tabs_upd r.ev.tab (.inl n)⟩, fun i v e => (r.sl i v e).step sF fun q u b f g => ?_, r.ap, r.ln⟩
  · by_cases hq : q = p
    · subst hq; rw [upd_same] at e ⊢; exact e
    · rw [upd_ne hq] at e ⊢; exact r.sH _ _ e
  · rw [upd_ne (bp q u e)]; exact r.ev.unf q u e f
  · obtain ⟨a, b, c, h1, h2⟩ := r.ev.hand q e
    obtain ⟨ob, h0⟩ := a
    exact ⟨⟨ob, h0⟩, by rw [upd_ne (bp q ob h0)]; exact b, c, sH _ _ h1, sF _ _ h2⟩
  · have hq : q ≠ p := np q _ g
    rw [upd_ne hq, upd_ne hq]
    exact ⟨f, g⟩
/-- a new object is laid, not frozen -/
theorem Rp.laidH (r : Rp K B F H σ S) {p : Addr} {o : HO} (n : H p = none) : Rp K B F (upd H p o) σ S := by
  have np : ∀ q u, H q = some u → q ≠ p := fun q u e => ne_of_none e n
  have sH : Same H (upd H p o) := fun q u e => by rw [upd_ne (np q u e)]; exact e
  refine ⟨⟨r.ev.sF, r.sH.trans sH, fun q u e hq nt => sH _ _ (r.ev.keep q u e hq nt), fun q e => live_upd (r.ev.live q e), r.ev.unf, fun q e => ?_, tabs_upd r.ev.tab (.inl n)⟩, fun i v e => (r.sl i v e).step (Same.refl F) fun q u b f g => ⟨f, sH _ _ g⟩, r.ap, r.ln⟩
  obtain ⟨a, b, c, h1, h2⟩ := r.ev.hand q e
  exact ⟨a, b, c, sH _ _ h1, h2⟩
/-- the base is behind: what is new is not of the base -/
theorem Rp.freeB (r : Rp K B F H σ S) {p : Addr} (n : H p = none) : B.H p = none := by
  cases q : B.H p with
  | none => rfl
  | some o => exact absurd n (r.ev.live p (by rw [q]; exact fun w => nomatch w))
/-- a list that no slot owns and that is not frozen becomes frozen -/
theorem Rp.freeze (r : Rp K B F H σ S) {p : Addr} {vs : List V} (bp : B.H p = none) (fp : F p = none) (hp : H p = some (.lst vs))
    (na : ∀ (i : Nat) xs, S.env[i]? = some (.own xs) → σ[i]? ≠ some (some (.ref p))) : Rp K B (upd F p (.lst vs)) H σ S := by
  have nf : ∀ q u, F q = some u → q ≠ p := fun q u e => ne_of_none e fp
  have sF : Same F (upd F p (.lst vs)) := fun q u e => by rw [upd_ne (nf q u e)]; exact e
  have nb : ∀ q u, B.H q = some u → q ≠ p := fun q u e => ne_of_none e bp
  refine ⟨⟨r.ev.sF.trans sF, fun q u e => ?_, r.ev.keep, r.ev.live, fun q u e f => ?_, fun q e => ?_, r.ev.tab⟩, fun i v e => ?_, r.ap, r.ln⟩
  · by_cases hq : q = p
    · subst hq; rw [upd_same] at e; rw [hp]; exact e
    · rw [upd_ne hq] at e; exact r.sH _ _ e
  · rw [upd_ne (nb q u e)]; exact r.ev.unf q u e f
  · obtain ⟨⟨ob, h0⟩, b, c, h1, h2⟩ := r.ev.hand q e
    exact ⟨⟨ob, h0⟩, by rw [upd_ne (nb q ob h0)]; exact b, c, h1, sF _ _ h2⟩
  · have x := r.sl i v e
    cases v with
    | own xs =>
      obtain ⟨q, ws, e1, b1, f1, g1, d1⟩ := x
      have hq : q ≠ p := fun z => na i xs e (by rw [e1, z])
      exact ⟨q, ws, e1, b1, by rw [upd_ne hq]; exact f1, g1, d1.up sF⟩
    | no => trivial
    | d y => obtain ⟨w, e1, q⟩ := x; exact ⟨w, e1, q.up sF⟩
    | pk y =>
      obtain ⟨w, e1, q⟩ := x
      refine ⟨w, e1, ?_⟩
      rcases q with q | ⟨q1, vs1, xs1, a1, a2, a3, a4, a5, a6⟩
      · exact .inl (q.up sF)
      · exact .inr ⟨q1, vs1, xs1, a1, a2, a3, a4, a5, a6.up sF⟩
    | scr ns => obtain ⟨a, e1, q⟩ := x; exact ⟨a, e1, sF.seq q⟩
    | hand => exact x
/-- a slot gets a value -/
theorem Rp.put (r : Rp K B F H σ S) {i : Nat} {v : V} {x : D} (q : Dq K F v x) : Rp K B F H (σ.set i (some v)) { S with env := S.env.set i (.d x) } := by
  refine ⟨r.ev, fun j w e => ?_, fun j k xs ys n e1 e2 => ?_, by rw [List.length_set, List.length_set]; exact r.ln⟩
  · have e : (S.env.set i (.d x))[j]? = some w := e
    by_cases hj : i = j
    · subst hj
      have hi : i < S.env.length := by
        have := (List.getElem?_eq_some_iff.mp e).1
        simpa using this
      rw [List.getElem?_set_self hi] at e
      cases e
      exact ⟨v, by rw [List.getElem?_set_self (by rw [← r.ln]; exact hi)], q⟩
    · rw [List.getElem?_set_ne hj] at e
      rw [List.getElem?_set_ne hj]
      exact r.sl j w e
  · have e1 : (S.env.set i (.d x))[j]? = some (.own xs) := e1
    have e2 : (S.env.set i (.d x))[k]? = some (.own ys) := e2
    have hne : ∀ {m : Nat} {zs : List D}, (S.env.set i (.d x))[m]? = some (.own zs) → i ≠ m := fun {m zs} e z => by
      subst z
      have hi : i < S.env.length := by
        have := (List.getElem?_eq_some_iff.mp e).1
        simpa using this
      rw [List.getElem?_set_self hi] at e
      cases e
    have n1 := hne e1
    have n2 := hne e2
    rw [List.getElem?_set_ne n1] at e1
    rw [List.getElem?_set_ne n2] at e2
    rw [List.getElem?_set_ne n1, List.getElem?_set_ne n2]
    exact r.ap j k xs ys n e1 e2
/-- a slot is forgotten -/
theorem Rp.drop (r : Rp K B F H σ S) (i : Nat) : Rp K B F H σ { S with env := S.env.set i .no } := by
  refine ⟨r.ev, fun j w e => ?_, fun j k xs ys n e1 e2 => ?_, by rw [List.length_set]; exact r.ln⟩
  · have e : (S.env.set i .no)[j]? = some w := e
    by_cases hj : i = j
    · subst hj
      have hi : i < S.env.length := by
        have := (List.getElem?_eq_some_iff.mp e).1
        simpa using this
      rw [List.getElem?_set_self hi] at e
      cases e
      trivial
    · rw [List.getElem?_set_ne hj] at e
      exact r.sl j w e
  · have e1 : (S.env.set i .no)[j]? = some (.own xs) := e1
    have e2 : (S.env.set i .no)[k]? = some (.own ys) := e2
    have hne : ∀ {m : Nat} {zs : List D}, (S.env.set i Sv.no)[m]? = some (.own zs) → i ≠ m := fun {m zs} e z => by
      subst z
      have hi : i < S.env.length := by
        have := (List.getElem?_eq_some_iff.mp e).1
        simpa using this
      rw [List.getElem?_set_self hi] at e
      cases e
    rw [List.getElem?_set_ne (hne e1)] at e1
    rw [List.getElem?_set_ne (hne e2)] at e2
    exact r.ap j k xs ys n e1 e2
/-- a slot gets a list of its own -/
theorem Rp.putOwn (r : Rp K B F H σ S) {i : Nat} {p : Addr} {vs : List V} {xs : List D} (bp : B.H p = none) (fp : F p = none) (hp : H p = some (.lst vs)) (q : DqL K F vs xs)
    (na : ∀ (i : Nat) xs, S.env[i]? = some (.own xs) → σ[i]? ≠ some (some (.ref p))) : Rp K B F H (σ.set i (some (.ref p))) { S with env := S.env.set i (.own xs) } := by
  refine ⟨r.ev, fun j w e => ?_, fun j k ys zs n e1 e2 => ?_, by rw [List.length_set, List.length_set]; exact r.ln⟩
  · have e : (S.env.set i (.own xs))[j]? = some w := e
    by_cases hj : i = j
    · subst hj
      have hi : i < S.env.length := by
        have := (List.getElem?_eq_some_iff.mp e).1
        simpa using this
      rw [List.getElem?_set_self hi] at e
      cases e
      exact ⟨p, vs, by rw [List.getElem?_set_self (by rw [← r.ln]; exact hi)], bp, fp, hp, q⟩
    · rw [List.getElem?_set_ne hj] at e
      rw [List.getElem?_set_ne hj]
      exact r.sl j w e
  · have e1 : (S.env.set i (.own xs))[j]? = some (.own ys) := e1
    have e2 : (S.env.set i (.own xs))[k]? = some (.own zs) := e2
    have lt : ∀ {m : Nat} {zs : List D}, (S.env.set i (.own xs))[m]? = some (.own zs) → m < S.env.length := fun {m zs} e => by
      have := (List.getElem?_eq_some_iff.mp e).1
      simpa using this
    by_cases hj : i = j
    · subst hj
      rw [List.getElem?_set_ne n] at e2
      rw [List.getElem?_set_self (by rw [← r.ln]; exact lt e1), List.getElem?_set_ne n]
      exact (na k zs e2).symm
    · by_cases hk : i = k
      · subst hk
        rw [List.getElem?_set_ne hj] at e1
        rw [List.getElem?_set_self (by rw [← r.ln]; exact lt e2), List.getElem?_set_ne hj]
        exact na j ys e1
      · rw [List.getElem?_set_ne hj] at e1 ⊢
        rw [List.getElem?_set_ne hk] at e2 ⊢
        exact r.ap j k ys zs n e1 e2
/-- an own list changes -/
theorem Rp.write (r : Rp K B F H σ S) {i : Nat} {p : Addr} {ws : List V} {xs ys : List D} (e : S.env[i]? = some (.own xs)) (eσ : σ[i]? = some (some (.ref p))) (q : DqL K F ws ys) :
    Rp K B F (upd H p (.lst ws)) σ { S with env := S.env.set i (.own ys) } := by
  obtain ⟨p', vs', e1, b1, f1, g1, d1⟩ := r.sl i _ e
  have hpp : p' = p := by
    rw [eσ] at e1
    cases e1; rfl
  subst hpp
  have hi : i < S.env.length := (List.getElem?_eq_some_iff.mp e).1
  have nb : ∀ q u, B.H q = some u → q ≠ p' := fun q u e => ne_of_none e b1
  have nf : ∀ q u, F q = some u → q ≠ p' := fun q u e => ne_of_none e f1
  have own : ∀ {m : Nat} {zs : List D}, (S.env.set i (.own ys))[m]? = some (.own zs) → ∃ zs', S.env[m]? = some (.own zs') := fun {m zs} e2 => by
    by_cases hm : i = m
    · subst hm; exact ⟨_, e⟩
    · rw [List.getElem?_set_ne hm] at e2; exact ⟨_, e2⟩
  refine ⟨⟨r.ev.sF, fun q u e => by rw [upd_ne (nf q u e)]; exact r.sH _ _ e, fun q u e hq nt => by rw [upd_ne (nb q u e)]; exact r.ev.keep q u e hq nt, fun q e => live_upd (r.ev.live q e), r.ev.unf, fun q e => ?_, tabs_upd r.ev.tab (.inr ⟨_, g1⟩)⟩, fun j w e2 => ?_, fun j k zs us n e1 e2 => ?_, by rw [List.length_set]; exact r.ln⟩
  · obtain ⟨⟨ob, h0⟩, b, c, h1, h2⟩ := r.ev.hand q e
    exact ⟨⟨ob, h0⟩, b, c, by rw [upd_ne (nb q ob h0)]; exact h1, h2⟩
  · have e2 : (S.env.set i (.own ys))[j]? = some w := e2
    by_cases hj : i = j
    · subst hj
      rw [List.getElem?_set_self hi] at e2
      cases e2
      exact ⟨p', ws, eσ, b1, f1, upd_same, q⟩
    · rw [List.getElem?_set_ne hj] at e2
      have x := r.sl j w e2
      cases w with
      | own zs =>
        obtain ⟨q2, us, a1, a2, a3, a4, a5⟩ := x
        have hq : q2 ≠ p' := fun z => r.ap j i zs xs (Ne.symm hj) e2 e (by rw [a1, eσ, z])
        exact ⟨q2, us, a1, a2, a3, by rw [upd_ne hq]; exact a4, a5⟩
      | no => trivial
      | d y => exact x
      | pk y => exact x
      | scr ns => exact x
      | hand => exact x
  · obtain ⟨z1, q1⟩ := own e1
    obtain ⟨z2, q2⟩ := own e2
    exact r.ap j k z1 z2 n q1 q2
end

/-! ### readings over data -/
abbrev TD := Sd → (D → Sd → Prop) → Prop
abbrev TDT := Sd → (Bool → Sd → Prop) → Prop
abbrev TDA := Sd → (List D → Sd → Prop) → Prop
/-- a new list that nobody owns yet -/
abbrev TDN := Sd → (List D → Sd → Prop) → Prop
abbrev Vw := Sd → Option D
abbrev TDK := Sd → (Vw → Sd → Prop) → Prop
structure Es where
  nx : Sd → Prop
  rt : D → Sd → Prop
  bk : Sd → Prop
  ct : Sd → Prop
abbrev TDS := Sd → Es → Prop

def HE (K : PySem.W.Frag) (mg : Str → Option Value) (E : XK) (ke : Str → Prop) (B : Bs) : Prop := ∀ c cls d F' H' h', ke c → mg c = some cls → Ev K B F' H' h' → E cls d H'
def View (K : PySem.W.Frag) (B : Bs) (σ : St) (F : Hp) (v : V) (w : Vw) : Prop := ∀ F' H' S' x, Same F F' → Rp K B F' H' σ S' → w S' = some x → Pk K B.hp F' H' v x

/-- a wish about exceptions: E by the callees' way, ke by names -/
structure Wx where
  E : XK
  ke : Str → Prop

section
variable (K : PySem.W.Frag) (mg : Str → Option Value) (W : Wx)
def tE (m : TD) : TE := fun σ H Q => ∃ B F S k, HE K mg W.E W.ke B ∧ Rp K B F H σ S ∧ m S k ∧ ∀ x S' v F' H', k x S' → Same F F' → Rp K B F' H' σ S' → Dq K F' v x → Q v H'
def tT (m : TDT) : TT := fun σ H Q => ∃ B F S k, HE K mg W.E W.ke B ∧ Rp K B F H σ S ∧ m S k ∧ ∀ b S' F' H', k b S' → Same F F' → Rp K B F' H' σ S' → Q b H'
def tA (m : TDA) : TA := fun σ H Q => ∃ B F S k, HE K mg W.E W.ke B ∧ Rp K B F H σ S ∧ m S k ∧ ∀ xs S' vs F' H', k xs S' → Same F F' → Rp K B F' H' σ S' → DqL K F' vs xs → Q vs H'
def tN (m : TDN) : TE := fun σ H Q => ∃ B F S k, HE K mg W.E W.ke B ∧ Rp K B F H σ S ∧ m S k ∧ ∀ xs S' p vs F' H', k xs S' → Same F F' → Rp K B F' H' σ S' → B.H p = none → F' p = none → H' p = some (.lst vs) → DqL K F' vs xs →
  (∀ (i : Nat) ys, S'.env[i]? = some (.own ys) → σ[i]? ≠ some (some (.ref p))) → Q (.ref p) H'
def tK (m : TDK) : TE := fun σ H Q => ∃ B F S k, HE K mg W.E W.ke B ∧ Rp K B F H σ S ∧ m S k ∧ ∀ w S' v F' H', k w S' → Same F F' → Rp K B F' H' σ S' → View K B σ F' v w → Q v H'
def tS (m : TDS) : TS := fun Dk σ H => ∃ B F S k, HE K mg W.E W.ke B ∧ Rp K B F H σ S ∧ m S k ∧
  (∀ S' σ' F' H', k.nx S' → Same F F' → Rp K B F' H' σ' S' → Dk.nx σ' H') ∧ (∀ x S' v F' H', k.rt x S' → Same F F' → Ev K B F' H' S'.h → Dq K F' v x → Dk.rt v H') ∧
  (∀ S' σ' F' H', k.bk S' → Same F F' → Rp K B F' H' σ' S' → Dk.bk σ' H') ∧ (∀ S' σ' F' H', k.ct S' → Same F F' → Rp K B F' H' σ' S' → Dk.ct σ' H')
end
abbrev DE (X : Cx) (W : Wx) (e : Expr) (m : TD) : Prop := PE X e (tE X.K X.mg W m)
abbrev DT (X : Cx) (W : Wx) (e : Expr) (m : TDT) : Prop := PT X e (tT X.K X.mg W m)
abbrev DA (X : Cx) (W : Wx) (es : List Expr) (m : TDA) : Prop := PA X es (tA X.K X.mg W m)
abbrev DN (X : Cx) (W : Wx) (e : Expr) (m : TDN) : Prop := PE X e (tN X.K X.mg W m)
abbrev DK (X : Cx) (W : Wx) (e : Expr) (m : TDK) : Prop := PE X e (tK X.K X.mg W m)
abbrev DS (X : Cx) (W : Wx) (s : Stmt) (m : TDS) : Prop := PS X s (tS X.K X.mg W m)
abbrev DB (X : Cx) (W : Wx) (s : List Stmt) (m : TDS) : Prop := PSs X s (tS X.K X.mg W m)
section
variable {X : Cx}
theorem PE.of {e : Expr} {t t' : TE} (p : PE X e t) (r : ∀ σ H Q, t' σ H Q → t σ H Q) : PE X e t' := ⟨fun pins s σ H Q I h => p.run pins s σ H Q I (r σ H Q h)⟩
theorem PT.of {e : Expr} {t t' : TT} (p : PT X e t) (r : ∀ σ H Q, t' σ H Q → t σ H Q) : PT X e t' := ⟨fun pins s σ H Q I h => p.run pins s σ H Q I (r σ H Q h)⟩
theorem PA.of {e : List Expr} {t t' : TA} (p : PA X e t) (r : ∀ σ H Q, t' σ H Q → t σ H Q) : PA X e t' := ⟨fun pos pins s σ H Q I h => p.run pos pins s σ H Q I (r σ H Q h)⟩
theorem PS.of {e : Stmt} {t t' : TS} (p : PS X e t) (r : ∀ D σ H, t' D σ H → t D σ H) : PS X e t' := ⟨fun pins s σ H D I h => p.run pins s σ H D I (r D σ H h)⟩
theorem PSs.of {e : List Stmt} {t t' : TS} (p : PSs X e t) (r : ∀ D σ H, t' D σ H → t D σ H) : PSs X e t' := ⟨fun pins s σ H D I h => p.run pins s σ H D I (r D σ H h)⟩
end
end DL

set_option Elab.async false
set_option linter.all false
set_option maxRecDepth 100000
set_option maxHeartbeats 4000000
/-! The data layer, 2: expressions. -/
namespace DL
open PySem PySem.Spec PyProof.Rows L2

theorem Pk.dp {K : PySem.W.Frag} {hp : Option Addr} {F H : Hp} {v : V} {x : D} (h : Pk K hp F H v x) (s : Same F H) : Dp K H v x := by
  rcases h with q | ⟨p, vs, xs, rfl, rfl, _, h1, _, h2⟩
  · exact (q.up s).dp
  · exact .lst (SqL.of h1) (h2.up s).dp
/-- an answer known as a truth value -/
def onB (x : D) (f : Bool → Prop) : Prop := match x with
  | .bool b => f b
  | _ => False
def br (b : Bool) (p q : Prop) : Prop := match b with
  | true => p
  | false => q
theorem onB_elim {x : D} {f : Bool → Prop} (h : onB x f) : ∃ b, x = .bool b ∧ f b := by
  cases x <;> first | exact ⟨_, rfl, h⟩ | exact h.elim
theorem br_if {b : Bool} {p q : Prop} (h : br b p q) : if b = true then p else q := by
  cases b with
  | true => rw [if_pos rfl]; exact h
  | false => rw [if_neg Bool.false_ne_true]; exact h
theorem Dq.bool_inv {K : PySem.W.Frag} {F : Hp} {v : V} {b : Bool} (h : Dq K F v (.bool b)) : v = .bl b := by cases h; rfl
theorem Dq.int_inv {K : PySem.W.Frag} {F : Hp} {v : V} {i : Int} (h : Dq K F v (.int i)) : v = .int i := by cases h; rfl
theorem Dq.str_inv {K : PySem.W.Frag} {F : Hp} {v : V} {i : Str} (h : Dq K F v (.str i)) : v = .str i := by cases h; rfl
theorem Dq.non_inv {K : PySem.W.Frag} {F : Hp} {v : V} (h : Dq K F v .none) : v = .non := by cases h; rfl
theorem Dq.tup_inv {K : PySem.W.Frag} {F : Hp} {v : V} {xs : List D} (h : Dq K F v (.tuple xs)) : ∃ a vs, v = .ref a ∧ SqT K F a vs ∧ DqL K F vs xs := by
  cases h with
  | tup h1 h2 => exact ⟨_, _, rfl, h1, h2⟩
theorem Dq.lst_inv {K : PySem.W.Frag} {F : Hp} {v : V} {xs : List D} (h : Dq K F v (.list xs)) : ∃ a vs, v = .ref a ∧ F a = some (.lst vs) ∧ DqL K F vs xs := by
  cases h with
  | lst h1 h2 => exact ⟨_, _, rfl, h1, h2⟩
theorem Pk.lst_inv {K : PySem.W.Frag} {hp : Option Addr} {F H : Hp} {v : V} {xs : List D} (s : Same F H) (h : Pk K hp F H v (.list xs)) : ∃ a vs, v = .ref a ∧ H a = some (.lst vs) ∧ DqL K F vs xs := by
  rcases h with q | ⟨p, vs, ys, rfl, e, _, h1, _, h2⟩
  · obtain ⟨a, vs, rfl, h1, h2⟩ := q.lst_inv
    exact ⟨a, vs, rfl, s _ _ h1, h2⟩
  · cases e
    exact ⟨p, vs, rfl, h1, h2⟩
theorem Pk.of_nl {K : PySem.W.Frag} {hp : Option Addr} {F H : Hp} {v : V} {x : D} (h : Pk K hp F H v x) (n : ∀ xs, x ≠ .list xs) : Dq K F v x := by
  rcases h with q | ⟨p, vs, ys, rfl, e, _, h1, _, h2⟩
  · exact q
  · exact absurd e (n ys)
theorem set_same {σ : St} {i : Nat} {v : V} (e : σ[i]? = some (some v)) : σ.set i (some v) = σ := by
  apply List.ext_getElem?
  intro j
  by_cases hj : i = j
  · subst hj
    rw [List.getElem?_set_self (List.getElem?_eq_some_iff.mp e).1, e]
  · rw [List.getElem?_set_ne hj]

section
variable {K : PySem.W.Frag} {B : Bs} {F H : Hp} {σ : St} {S : Sd}
/-- an own slot is frozen -/
theorem Rp.frzSlot (r : Rp K B F H σ S) {i : Nat} {xs : List D} (e : S.env[i]? = some (.own xs)) :
    ∃ p vs, σ[i]? = some (some (.ref p)) ∧ Same F (upd F p (.lst vs)) ∧ Rp K B (upd F p (.lst vs)) H σ { S with env := S.env.set i (.d (.list xs)) } ∧ Dq K (upd F p (.lst vs)) (.ref p) (.list xs) := by
  obtain ⟨p, vs, e1, b1, f1, g1, d1⟩ := r.sl i _ e
  have sF : Same F (upd F p (.lst vs)) := fun q u z => by rw [upd_ne (ne_of_none z f1)]; exact z
  have r2 := (r.drop i).freeze b1 f1 g1 (fun j ys e2 => ?_)
  · have q : Dq K (upd F p (.lst vs)) (.ref p) (.list xs) := .lst upd_same (d1.up sF)
    have r3 := r2.put (i := i) q
    rw [set_same e1] at r3
    have e4 : (S.env.set i Sv.no).set i (.d (.list xs)) = S.env.set i (.d (.list xs)) := by rw [List.set_set]
    rw [show (({ S with env := S.env.set i Sv.no } : Sd).env.set i (.d (.list xs))) = S.env.set i (.d (.list xs)) from e4] at r3
    exact ⟨p, vs, e1, sF, r3, q⟩
  · have e2 : (S.env.set i Sv.no)[j]? = some (.own ys) := e2
    by_cases hj : i = j
    · subst hj
      rw [List.getElem?_set_self (List.getElem?_eq_some_iff.mp e).1] at e2
      cases e2
    · rw [List.getElem?_set_ne hj] at e2
      rw [← e1]
      exact r.ap j i ys xs (Ne.symm hj) e2 e
end

section
variable {X : Cx} {W : Wx} {pos : Pos}
/-! ### names, constants -/
def mVar (i : Nat) : TD := fun S k => match at' S.env i with
  | .d x => k x S
  | .own xs => k (.list xs) { S with env := S.env.set i (.d (.list xs)) }
  | _ => False
theorem d_var (i : Nat) {x : Str} (hN : X.N[i]? = some x := by rfl) (hv : Vis X.env.scope x := by first | exact Or.inl rfl | exact Or.inr (Or.inl rfl) | exact Or.inr (Or.inr rfl)) (hd : (x == ("__debug__" : Str)) = false := by decide)
    (hcd : (x == ("__classdict__" : Str)) = false := by decide) : DE X W (.Name x pos) (mVar i) := by
  refine PE.of (pe_var (i := i) hN hv hd hcd) fun σ H Q h => ?_
  obtain ⟨B, F, S, k, he, r, h, hk⟩ := h
  have g := at'_get (l := S.env) (i := i)
  unfold mVar at h
  cases e : at' S.env i with
  | d y =>
    rw [e] at h g
    rcases g with g | g
    · cases g
    · obtain ⟨v, ev, q⟩ := r.sl i _ g
      exact ⟨v, ev, hk _ _ v F H h (Same.refl F) r q⟩
  | own xs =>
    rw [e] at h g
    rcases g with g | g
    · cases g
    · obtain ⟨p, vs, e1, s, r2, q⟩ := r.frzSlot g
      exact ⟨.ref p, e1, hk _ _ _ _ H h s r2 q⟩
  | no => rw [e] at h; exact h.elim
  | pk y => rw [e] at h; exact h.elim
  | scr ns => rw [e] at h; exact h.elim
  | hand => rw [e] at h; exact h.elim
/-- a slot that is read where it stands -/
def pkOf : Sv → Option D
  | .d x => some x
  | .own xs => some (.list xs)
  | .pk x => some x
  | _ => none
def mSlot (i : Nat) : TDK := fun S k => match pkOf (at' S.env i) with
  | some _ => k (fun S' => pkOf (at' S'.env i)) S
  | none => False
theorem slot_val {K : PySem.W.Frag} {B : Bs} {F H : Hp} {σ : St} {S : Sd} {i : Nat} {x : D} (r : Rp K B F H σ S) (e : pkOf (at' S.env i) = some x) : ∃ v, σ[i]? = some (some v) ∧ Pk K B.hp F H v x := by
  have g := at'_get (l := S.env) (i := i)
  cases e2 : at' S.env i with
  | d y =>
    rw [e2] at e g
    cases e
    rcases g with g | g
    · cases g
    · obtain ⟨v, ev, q⟩ := r.sl i _ g
      exact ⟨v, ev, .inl q⟩
  | own xs =>
    rw [e2] at e g
    cases e
    rcases g with g | g
    · cases g
    · obtain ⟨p, vs, e1, b1, f1, g1, d1⟩ := r.sl i _ g
      refine ⟨.ref p, e1, .inr ⟨p, vs, xs, rfl, rfl, f1, g1, fun z => ?_, d1⟩⟩
      obtain ⟨⟨o, h0⟩, _⟩ := r.ev.hand p z
      rw [b1] at h0; cases h0
  | pk y =>
    rw [e2] at e g
    cases e
    rcases g with g | g
    · cases g
    · obtain ⟨v, ev, q⟩ := r.sl i _ g
      exact ⟨v, ev, r.pk q⟩
  | no => rw [e2] at e; cases e
  | scr ns => rw [e2] at e; cases e
  | hand => rw [e2] at e; cases e
theorem dk_slot (i : Nat) {x : Str} (hN : X.N[i]? = some x := by rfl) (hv : Vis X.env.scope x := by first | exact Or.inl rfl | exact Or.inr (Or.inl rfl) | exact Or.inr (Or.inr rfl)) (hd : (x == ("__debug__" : Str)) = false := by decide)
    (hcd : (x == ("__classdict__" : Str)) = false := by decide) : DK X W (.Name x pos) (mSlot i) := by
  refine PE.of (pe_var (i := i) hN hv hd hcd) fun σ H Q h => ?_
  obtain ⟨B, F, S, k, he, r, h, hk⟩ := h
  unfold mSlot at h
  cases e : pkOf (at' S.env i) with
  | none => rw [e] at h; exact h.elim
  | some y =>
    rw [e] at h
    obtain ⟨v, ev, q⟩ := slot_val r e
    refine ⟨v, ev, hk _ _ v F H h (Same.refl F) r fun F' H' S' z s r' e' => ?_⟩
    obtain ⟨v', ev', q'⟩ := slot_val r' e'
    rw [ev] at ev'
    cases ev'
    exact q'
def mVw (m : TD) : TDK := fun S k => m S fun x S1 => k (fun _ => some x) S1
theorem dk_any {e : Expr} {m : TD} (h : DE X W e m) : DK X W e (mVw m) := by
  refine PE.of h fun σ H Q h => ?_
  obtain ⟨B, F, S, k, he, r, h, hk⟩ := h
  refine ⟨B, F, S, _, he, r, h, fun x S' v F' H' hx s r' q => hk _ _ v F' H' hx s r' fun F2 H2 S2 y s2 r2 e2 => ?_⟩
  cases e2
  exact .inl (q.up s2)
def mC (x : D) : TD := fun S k => k x S
theorem d_cst {e : Expr} {v : V} {x : D} (p : PE X e (tC v)) (h : ∀ K F, Dq K F v x) : DE X W e (mC x) := by
  refine PE.of p fun σ H Q h' => ?_
  obtain ⟨B, F, S, k, he, r, h', hk⟩ := h'
  exact hk _ _ v F H h' (Same.refl F) r (h _ _)
theorem d_int {i : Int} {j : Nat} : DE X W (.Constant (.int i) j pos) (mC (.int i)) := d_cst pe_int fun _ _ => .int i
theorem d_bl {i : Bool} {j : Nat} : DE X W (.Constant (.bool i) j pos) (mC (.bool i)) := d_cst pe_bl fun _ _ => .bl i
theorem d_non {j : Nat} : DE X W (.Constant .none j pos) (mC .none) := d_cst pe_non fun _ _ => .non
theorem d_str {i : Str} {j : Nat} : DE X W (.Constant (.str i) j pos) (mC (.str i)) := d_cst pe_str fun _ _ => .str i
theorem d_gint {x : Str} {n : Int} {t : Tok} (hm : X.mg x = some (.int n t)) (hg : Gl X x := by rfl) (hd : (x == ("__debug__" : Str)) = false := by decide) : DE X W (.Name x pos) (mC (.int n)) :=
  d_cst (pe_glob (v := .int n) hg hm ⟨t, rfl⟩ hd) fun _ _ => .int n

/-! ### operators -/
abbrev OD := D → D → (D → Prop) → Prop
/-- what a rule by values asks, from data -/
def OpD (K : PySem.W.Frag) (r : R2) (f : OD) : Prop := ∀ (B : Bs) (F H : Hp) (σ : St) (S : Sd) (v u : V) (x y : D) (k : D → Prop) (Q : VK), Rp K B F H σ S → Dq K F v x → Dq K F u y → f x y k →
  (∀ z w F' H', k z → Same F F' → Rp K B F' H' σ S → Dq K F' w z → Q w H') → r v u H Q
def OpDK (K : PySem.W.Frag) (r : R2) (f : OD) : Prop := ∀ (B : Bs) (F H : Hp) (σ : St) (S : Sd) (v u : V) (x y : D) (k : D → Prop) (Q : VK), Rp K B F H σ S → Pk K B.hp F H v x → Dq K F u y → f x y k →
  (∀ z w F' H', k z → Same F F' → Rp K B F' H' σ S → Dq K F' w z → Q w H') → r v u H Q
def OpDK2 (K : PySem.W.Frag) (r : R2) (f : OD) : Prop := ∀ (B : Bs) (F H : Hp) (σ : St) (S : Sd) (v u : V) (x y : D) (k : D → Prop) (Q : VK), Rp K B F H σ S → Dq K F v x → Pk K B.hp F H u y → f x y k →
  (∀ z w F' H', k z → Same F F' → Rp K B F' H' σ S → Dq K F' w z → Q w H') → r v u H Q
def mOp (f : OD) (ma mb : TD) : TD := fun S k => ma S fun x S1 => mb S1 fun y S2 => f x y fun z => k z S2
def mOpK (f : OD) (ma : TDK) (mb : TD) : TD := fun S k => ma S fun w S1 => mb S1 fun y S2 => match w S2 with
  | some x => f x y fun z => k z S2
  | none => False
def mOpK2 (f : OD) (ma : TD) (mb : TDK) : TD := fun S k => ma S fun x S1 => mb S1 fun w S2 => match w S2 with
  | some y => f x y fun z => k z S2
  | none => False
variable {a b c : Expr} {ma mb mc : TD} {r : R2} {f : OD}
theorem t_op (hf : OpD X.K r f) : ∀ σ H Q, tE X.K X.mg W (mOp f ma mb) σ H Q → tOp r (tE X.K X.mg W ma) (tE X.K X.mg W mb) σ H Q := by
  rintro σ H Q ⟨B, F, S, k, he, r, h, hk⟩
  refine ⟨B, F, S, _, he, r, h, fun x S1 v F1 H1 h1 s1 r1 q1 => ?_⟩
  refine ⟨B, F1, S1, _, he, r1, h1, fun y S2 u F2 H2 h2 s2 r2 q2 => ?_⟩
  exact hf B F2 H2 σ S2 v u x y _ Q r2 (q1.up s2) q2 h2 fun z w F' H' hz s r' q => hk z S2 w F' H' hz (s1.trans (s2.trans s)) r' q
theorem t_opK {mk : TDK} (hf : OpDK X.K r f) : ∀ σ H Q, tE X.K X.mg W (mOpK f mk mb) σ H Q → tOp r (tK X.K X.mg W mk) (tE X.K X.mg W mb) σ H Q := by
  rintro σ H Q ⟨B, F, S, k, he, r, h, hk⟩
  refine ⟨B, F, S, _, he, r, h, fun w S1 v F1 H1 h1 s1 r1 q1 => ?_⟩
  refine ⟨B, F1, S1, _, he, r1, h1, fun y S2 u F2 H2 h2 s2 r2 q2 => ?_⟩
  cases e : w S2 with
  | none => rw [e] at h2; exact h2.elim
  | some x =>
    rw [e] at h2
    exact hf B F2 H2 σ S2 v u x y _ Q r2 (q1 F2 H2 S2 x s2 r2 e) q2 h2 fun z w F' H' hz s r' q => hk z S2 w F' H' hz (s1.trans (s2.trans s)) r' q
theorem t_opK2 {mk : TDK} (hf : OpDK2 X.K r f) : ∀ σ H Q, tE X.K X.mg W (mOpK2 f ma mk) σ H Q → tOp r (tE X.K X.mg W ma) (tK X.K X.mg W mk) σ H Q := by
  rintro σ H Q ⟨B, F, S, k, he, r, h, hk⟩
  refine ⟨B, F, S, _, he, r, h, fun x S1 v F1 H1 h1 s1 r1 q1 => ?_⟩
  refine ⟨B, F1, S1, _, he, r1, h1, fun w S2 u F2 H2 h2 s2 r2 q2 => ?_⟩
  cases e : w S2 with
  | none => rw [e] at h2; exact h2.elim
  | some y =>
    rw [e] at h2
    exact hf B F2 H2 σ S2 v u x y _ Q r2 (q1.up s2) (q2 F2 H2 S2 y (Same.refl F2) r2 e) h2 fun z w F' H' hz s r' q => hk z S2 w F' H' hz (s1.trans (s2.trans s)) r' q
theorem d_op {op : Operator} (ho : OpR X (binaryOp op) r) (hf : OpD X.K r f) (ha : DE X W a ma) (hb : DE X W b mb) : DE X W (.BinOp a op b pos) (mOp f ma mb) := PE.of (pe_op ho ha hb) (t_op hf)
/-- small numbers -/
def big (n : Nat) : Bool := n.ble 1000000
theorem big_le {n : Nat} (h : big n = true) : n ≤ sizeLine := Nat.le_trans (Nat.le_of_ble_eq_true h) (by rw [sizeLine_eq]; decide)
theorem big_lt {n : Nat} (h : big n = true) : n < sizeLine := Nat.lt_of_le_of_lt (Nat.le_of_ble_eq_true h) (by rw [sizeLine_eq]; decide)
section
variable {K : PySem.W.Frag} {B : Bs} {F H : Hp} {σ : St} {S : Sd}
/-- a new frozen object, as a value -/
theorem new_tup (r : Rp K B F H σ S) {vs : List V} {xs : List D} (q : DqL K F vs xs) {p : Addr} (n : H p = none) {k : D → Prop} {Q : VK} (h : k (.tuple xs)) (hk : ∀ z w F' H', k z → Same F F' → Rp K B F' H' σ S → Dq K F' w z → Q w H') : Q (.ref p) (upd H p (.tup vs)) := by
  have nF := r.sH.free n
  have s : Same F (upd F p (.tup vs)) := fun q u z => by rw [upd_ne (ne_of_none z nF)]; exact z
  exact hk _ _ _ _ h s (r.laid n) (.tup (SqT.of upd_same) (q.up s))
theorem new_lst (r : Rp K B F H σ S) {vs : List V} {xs : List D} (q : DqL K F vs xs) {p : Addr} (n : H p = none) {k : D → Prop} {Q : VK} (h : k (.list xs)) (hk : ∀ z w F' H', k z → Same F F' → Rp K B F' H' σ S → Dq K F' w z → Q w H') : Q (.ref p) (upd H p (.lst vs)) := by
  have nF := r.sH.free n
  have s : Same F (upd F p (.lst vs)) := fun q u z => by rw [upd_ne (ne_of_none z nF)]; exact z
  exact hk _ _ _ _ h s (r.laid n) (.lst upd_same (q.up s))
end
def addD : OD := fun x y k => match x, y with
  | .int i, .int j => k (.int (i + j))
  | .list xs, .list ys => big (xs.length + ys.length) = true ∧ k (.list (xs ++ ys))
  | .tuple xs, .tuple ys => big (xs.length + ys.length) = true ∧ k (.tuple (xs ++ ys))
  | _, _ => False
def rAddA (K : PySem.W.Frag) : R2 := fun x y H Q => (rI0 fun i j => .int (i + j)) x y H Q ∨ rCat x y H Q ∨ rCatA K x y H Q
theorem od_add : OpD X.K (rAddA X.K) addD := by
  intro B F H σ S v u x y k Q r hx hy h hk
  cases x with
  | int i =>
    cases y with
    | int j =>
      cases hx; cases hy
      exact .inl ⟨i, j, rfl, rfl, hk _ _ F H h (Same.refl F) r (.int _)⟩
    | _ => exact (show False from h).elim
  | list xs =>
    cases y with
    | list ys =>
      obtain ⟨h1, h2⟩ := h
      obtain ⟨a, vs, rfl, ha, da⟩ := hx.lst_inv
      obtain ⟨b, ws, rfl, hb, db⟩ := hy.lst_inv
      refine .inr (.inl ⟨a, b, vs, ws, rfl, rfl, r.sH _ _ ha, r.sH _ _ hb, ?_, fun p n => new_lst r (da.app db) n h2 hk⟩)
      rw [da.len, db.len]; exact big_le h1
    | _ => exact (show False from h).elim
  | tuple xs =>
    cases y with
    | tuple ys =>
      obtain ⟨h1, h2⟩ := h
      obtain ⟨a, vs, rfl, ha, da⟩ := hx.tup_inv
      obtain ⟨b, ws, rfl, hb, db⟩ := hy.tup_inv
      refine .inr (.inr ⟨a, b, vs, ws, rfl, rfl, sqT_mono r.sH ha, sqT_mono r.sH hb, ?_, fun z => ?_, fun _ z => ?_, fun _ z p n => new_tup r (da.app db) n h2 hk⟩)
      · rw [da.len, db.len]; exact big_le h1
      · subst z
        cases da
        exact hk _ _ F H h2 (Same.refl F) r hy
      · subst z
        cases db
        rw [List.append_nil] at h2
        exact hk _ _ F H h2 (Same.refl F) r hx
    | _ => exact (show False from h).elim
  | _ => exact (show False from h).elim
theorem d_add (ha : DE X W a ma) (hb : DE X W b mb) : DE X W (.BinOp a .Add b pos) (mOp addD ma mb) := d_op (op_add.or (op_cat.or op_catA)) od_add ha hb
def intD (f : Int → Int → D) (C : Int → Int → Prop) : OD := fun x y k => match x, y with
  | .int i, .int j => C i j ∧ k (f i j)
  | _, _ => False
def intD0 (f : Int → Int → D) : OD := fun x y k => match x, y with
  | .int i, .int j => k (f i j)
  | _, _ => False
theorem intD_inv {f : Int → Int → D} {C : Int → Int → Prop} {x y : D} {k : D → Prop} (h : intD f C x y k) : ∃ i j, x = .int i ∧ y = .int j ∧ C i j ∧ k (f i j) := by
  cases x <;> first | exact (show False from h).elim | (cases y <;> first | exact (show False from h).elim | exact ⟨_, _, rfl, rfl, h⟩)
theorem intD0_inv {f : Int → Int → D} {x y : D} {k : D → Prop} (h : intD0 f x y k) : ∃ i j, x = .int i ∧ y = .int j ∧ k (f i j) := by
  cases x <;> first | exact (show False from h).elim | (cases y <;> first | exact (show False from h).elim | exact ⟨_, _, rfl, rfl, h⟩)
theorem od_int {g : Int → Int → Int} {C : Int → Int → Prop} {C' : Int → Int → Prop} (hc : ∀ i j, C i j → C' i j) : OpD X.K (rI C' fun i j => .int (g i j)) (intD (fun i j => .int (g i j)) C) := by
  intro B F H σ S v u x y k Q r hx hy h hk
  obtain ⟨i, j, rfl, rfl, h1, h2⟩ := intD_inv h
  cases hx; cases hy
  exact ⟨i, j, rfl, rfl, hc _ _ h1, hk _ _ F H h2 (Same.refl F) r (.int _)⟩
theorem od_int0 {g : Int → Int → Int} : OpD X.K (rI0 fun i j => .int (g i j)) (intD0 (fun i j => .int (g i j))) := by
  intro B F H σ S v u x y k Q r hx hy h hk
  obtain ⟨i, j, rfl, rfl, h2⟩ := intD0_inv h
  cases hx; cases hy
  exact ⟨i, j, rfl, rfl, hk _ _ F H h2 (Same.refl F) r (.int _)⟩
theorem od_intB {g : Int → Int → Bool} : OpD X.K (rI0 fun i j => .bl (g i j)) (intD0 (fun i j => .bool (g i j))) := by
  intro B F H σ S v u x y k Q r hx hy h hk
  obtain ⟨i, j, rfl, rfl, h2⟩ := intD0_inv h
  cases hx; cases hy
  exact ⟨i, j, rfl, rfl, hk _ _ F H h2 (Same.refl F) r (.bl _)⟩
def subD : OD := intD0 fun i j => .int (i - j)
theorem d_sub (ha : DE X W a ma) (hb : DE X W b mb) : DE X W (.BinOp a .Sub b pos) (mOp subD ma mb) := d_op op_sub od_int0 ha hb
/-- bounded by a power of two -/
def bt (i : Int) : Prop := i.natAbs.log2 < 60000000
def modD : OD := intD (fun i j => .int (i % j)) fun _ j => 0 < j
theorem d_mod (ha : DE X W a ma) (hb : DE X W b mb) : DE X W (.BinOp a .Mod b pos) (mOp modD ma mb) := d_op op_mod (od_int fun _ _ h => h) ha hb
/-- the floor of a quotient -/
def fdvI (i j : Int) : Int := if j < 0 then (-i) / (-j) else i / j
theorem fdv_eq (i : Int) {j : Int} (h : j ≠ 0) : Int.fdiv i j = fdvI i j := by
  unfold fdvI
  by_cases c : j < 0
  · rw [if_pos c, ← Int.fdiv_eq_ediv_of_nonneg (-i) (by omega : 0 ≤ -j), Int.neg_fdiv_neg]
  · rw [if_neg c, Int.fdiv_eq_ediv_of_nonneg i (by omega)]
theorem op_fdivN : OpR X (binaryOp .FloorDiv) (rI (fun _ j => j ≠ 0 ∧ j.natAbs.log2 < 9000) fun i j => .int (fdvI i j)) := opI fun i j _ _ _ _ _ hc q => by
  exact floordiv_int hc.1 (by rw [fdv_eq i hc.1]; exact q) (.inl (PyProof.noPylong_of_log2 hc.2))
def fdvD : OD := intD (fun i j => .int (fdvI i j)) fun _ j => j ≠ 0 ∧ j.natAbs.log2 < 9000
theorem d_fdv (ha : DE X W a ma) (hb : DE X W b mb) : DE X W (.BinOp a .FloorDiv b pos) (mOp fdvD ma mb) := d_op op_fdivN (od_int fun _ _ h => h) ha hb
def powD : OD := intD (fun i j => .int (i ^ j.toNat)) CPow
theorem d_pow (ha : DE X W a ma) (hb : DE X W b mb) : DE X W (.BinOp a .Pow b pos) (mOp powD ma mb) := d_op op_pow (od_int fun _ _ h => h) ha hb
/-! ints: products -/
def mulD : OD := intD (fun i j => .int (i * j)) fun i j => bt i ∧ bt j
theorem d_mul (ha : DE X W a ma) (hb : DE X W b mb) : DE X W (.BinOp a .Mult b pos) (mOp mulD ma mb) := d_op op_mulX (od_int fun i j h => by
  have h1 : i.natAbs.log2 < 60000000 := h.1
  have h2 : j.natAbs.log2 < 60000000 := h.2
  have b : ∀ x : Int, Builtin.Int.intBits x ≤ x.natAbs.log2 + 1 := fun x => by
    unfold Builtin.Int.intBits
    split <;> omega
  have b1 := b i
  have b2 := b j
  unfold CMulX
  omega) ha hb
def negD (m : TD) : TD := fun S k => m S fun x S1 => match x with
  | .int i => k (.int (-i)) S1
  | _ => False
theorem d_neg (ha : DE X W a ma) : DE X W (.UnaryOp .USub a pos) (negD ma) := by
  refine PE.of (pe_un un_neg ha) fun σ H Q h => ?_
  obtain ⟨B, F, S, k, he, r, h, hk⟩ := h
  refine ⟨B, F, S, _, he, r, h, fun x S1 v F1 H1 h1 s1 r1 q1 => ?_⟩
  cases x with
  | int i => cases q1; exact ⟨i, rfl, hk _ _ _ F1 H1 h1 s1 r1 (.int _)⟩
  | _ => exact (show False from h1).elim

/-! ### comparisons -/
theorem d_cmp {op : CmpOp} (ho : OpR X (compareOp op) r) (hf : OpD X.K r f) (ha : DE X W a ma) (hb : DE X W b mb) (hm : behindInMarks op b = false) : DE X W (.Compare a [op] [b] pos) (mOp f ma mb) := PE.of (pe_cmpR ho ha hb hm) (t_op hf)
theorem d_cmpK {op : CmpOp} {mk : TDK} (ho : OpR X (compareOp op) r) (hf : OpDK X.K r f) (ha : DK X W a mk) (hb : DE X W b mb) (hm : behindInMarks op b = false) : DE X W (.Compare a [op] [b] pos) (mOpK f mk mb) := PE.of (pe_cmpR ho ha hb hm) (t_opK hf)
theorem d_cmpK2 {op : CmpOp} {mk : TDK} (ho : OpR X (compareOp op) r) (hf : OpDK2 X.K r f) (ha : DE X W a ma) (hb : DK X W b mk) (hm : behindInMarks op b = false) : DE X W (.Compare a [op] [b] pos) (mOpK2 f ma mk) := PE.of (pe_cmpR ho ha hb hm) (t_opK2 hf)
def mTst (m : TD) : TDT := fun S k => m S fun x S1 => onB x fun b => k b S1
theorem t_tst : ∀ {t : TE} {m : TD}, (∀ σ H Q, tE X.K X.mg W m σ H Q → t σ H Q) → ∀ σ H Q, tT X.K X.mg W (mTst m) σ H Q → tTest t σ H Q := by
  rintro t m ht σ H Q ⟨B, F, S, k, he, r, h, hk⟩
  refine ht σ H _ ⟨B, F, S, _, he, r, h, fun x S1 v F1 H1 h1 s1 r1 q1 => ?_⟩
  obtain ⟨b, rfl, h2⟩ := onB_elim h1
  exact ⟨b, q1.bool_inv, hk b S1 F1 H1 h2 s1 r1⟩
theorem dt_cmp {op : CmpOp} (ho : OpR X (compareOp op) r) (hf : OpD X.K r f) (ha : DE X W a ma) (hb : DE X W b mb) (hm : behindInMarks op b = false) : DT X W (.Compare a [op] [b] pos) (mTst (mOp f ma mb)) := PT.of (pt_cmpR ho ha hb hm) (t_tst (t_op hf))
theorem dt_cmpK {op : CmpOp} {mk : TDK} (ho : OpR X (compareOp op) r) (hf : OpDK X.K r f) (ha : DK X W a mk) (hb : DE X W b mb) (hm : behindInMarks op b = false) : DT X W (.Compare a [op] [b] pos) (mTst (mOpK f mk mb)) := PT.of (pt_cmpR ho ha hb hm) (t_tst (t_opK hf))
theorem dt_cmpK2 {op : CmpOp} {mk : TDK} (ho : OpR X (compareOp op) r) (hf : OpDK2 X.K r f) (ha : DE X W a ma) (hb : DK X W b mk) (hm : behindInMarks op b = false) : DT X W (.Compare a [op] [b] pos) (mTst (mOpK2 f ma mk)) := PT.of (pt_cmpR ho ha hb hm) (t_tst (t_opK2 hf))
theorem dt_val {e : Expr} {m : TD} (h : DE X W e m) (he : ∀ whole, isTrue e X.env whole = (do let v ← whole; standAt e.pos; holding [v] (truthy v)) := by intro _; rfl) : DT X W e (mTst m) := PT.of (pt_val h he) (t_tst fun _ _ _ h => h)
def ltD : OD := intD0 fun i j => .bool (decide (i < j))
def leD : OD := intD0 fun i j => .bool (decide (i ≤ j))
def gtD : OD := intD0 fun i j => .bool (decide (j < i))
def geD : OD := intD0 fun i j => .bool (decide (j ≤ i))
theorem d_lt (ha : DE X W a ma) (hb : DE X W b mb) : DE X W (.Compare a [.Lt] [b] pos) (mOp ltD ma mb) := d_cmp op_lt od_intB ha hb (nomark _)
theorem d_le (ha : DE X W a ma) (hb : DE X W b mb) : DE X W (.Compare a [.LtE] [b] pos) (mOp leD ma mb) := d_cmp op_le od_intB ha hb (nomark _)
theorem d_gt (ha : DE X W a ma) (hb : DE X W b mb) : DE X W (.Compare a [.Gt] [b] pos) (mOp gtD ma mb) := d_cmp op_gt od_intB ha hb (nomark _)
theorem d_ge (ha : DE X W a ma) (hb : DE X W b mb) : DE X W (.Compare a [.GtE] [b] pos) (mOp geD ma mb) := d_cmp op_ge od_intB ha hb (nomark _)
theorem dt_lt (ha : DE X W a ma) (hb : DE X W b mb) : DT X W (.Compare a [.Lt] [b] pos) (mTst (mOp ltD ma mb)) := dt_cmp op_lt od_intB ha hb (nomark _)
theorem dt_le (ha : DE X W a ma) (hb : DE X W b mb) : DT X W (.Compare a [.LtE] [b] pos) (mTst (mOp leD ma mb)) := dt_cmp op_le od_intB ha hb (nomark _)
theorem dt_gt (ha : DE X W a ma) (hb : DE X W b mb) : DT X W (.Compare a [.Gt] [b] pos) (mTst (mOp gtD ma mb)) := dt_cmp op_gt od_intB ha hb (nomark _)
theorem dt_ge (ha : DE X W a ma) (hb : DE X W b mb) : DT X W (.Compare a [.GtE] [b] pos) (mTst (mOp geD ma mb)) := dt_cmp op_ge od_intB ha hb (nomark _)
/-- == of data -/
def eqOk (x y : D) : Bool := x.canLay0 && y.canLay0 && x.depth.ble 60 && y.depth.ble 60
def eqD : OD := fun x y k => match x, y with
  | .int i, .int j => k (.bool (i == j))
  | .str i, .str j => k (.bool (i == j))
  | x, y => eqOk x y = true ∧ k (.bool (PyData.eqv x y))
def neD : OD := fun x y k => match x, y with
  | .int i, .int j => k (.bool (!(i == j)))
  | .str i, .str j => k (.bool (!(i == j)))
  | x, y => eqOk x y = true ∧ k (.bool (!PyData.eqv x y))
theorem eqOk_l {x y : D} (h : eqOk x y = true) : SeqAt.shaped x = true ∧ SeqAt.shaped y = true := by
  unfold eqOk at h
  simp only [Bool.and_eq_true] at h
  obtain ⟨⟨⟨h1, h2⟩, h3⟩, h4⟩ := h
  have e3 := Nat.le_of_ble_eq_true h3
  have e4 := Nat.le_of_ble_eq_true h4
  unfold SeqAt.shaped
  rw [h1, h2, decide_eq_true (show x.depth ≤ 64 by omega), decide_eq_true (show y.depth ≤ 64 by omega)]
  exact ⟨rfl, rfl⟩
theorem eqD_alt {x y : D} {k : D → Prop} (h : eqD x y k) : (∃ i j, x = .str i ∧ y = .str j ∧ k (.bool (i == j))) ∨ (SeqAt.shaped x = true ∧ SeqAt.shaped y = true ∧ k (.bool (PyData.eqv x y))) := by
  have gen : eqOk x y = true ∧ k (.bool (PyData.eqv x y)) → SeqAt.shaped x = true ∧ SeqAt.shaped y = true ∧ k (.bool (PyData.eqv x y)) := fun h => ⟨(eqOk_l h.1).1, (eqOk_l h.1).2, h.2⟩
  unfold eqD at h
  cases x <;> first | exact .inr (gen h) | (cases y <;> first | exact .inr (gen h) | exact .inr ⟨rfl, rfl, h⟩ | exact .inl ⟨_, _, rfl, rfl, h⟩)
theorem neD_alt {x y : D} {k : D → Prop} (h : neD x y k) : (∃ i j, x = .str i ∧ y = .str j ∧ k (.bool (!(i == j)))) ∨ (SeqAt.shaped x = true ∧ SeqAt.shaped y = true ∧ k (.bool (!PyData.eqv x y))) := by
  have gen : eqOk x y = true ∧ k (.bool (!PyData.eqv x y)) → SeqAt.shaped x = true ∧ SeqAt.shaped y = true ∧ k (.bool (!PyData.eqv x y)) := fun h => ⟨(eqOk_l h.1).1, (eqOk_l h.1).2, h.2⟩
  unfold neD at h
  cases x <;> first | exact .inr (gen h) | (cases y <;> first | exact .inr (gen h) | exact .inr ⟨rfl, rfl, h⟩ | exact .inl ⟨_, _, rfl, rfl, h⟩)
theorem pk_str {K : PySem.W.Frag} {hp : Option Addr} {F H : Hp} {v : V} {i : Str} (h : Pk K hp F H v (.str i)) : v = .str i := (h.of_nl (fun _ e => by cases e)).str_inv
theorem od_eq : OpDK X.K (fun x y H Q => rEq x y H Q ∨ rEqD X.K x y H Q) eqD := by
  intro B F H σ S v u x y k Q r hx hy h hk
  rcases eqD_alt h with ⟨i, j, rfl, rfl, h3⟩ | ⟨h1, h2, h3⟩
  · cases pk_str hx; cases hy.str_inv
    refine .inl ⟨rfl, ?_⟩
    rw [dec_str]
    exact hk _ _ F H h3 (Same.refl F) r (.bl _)
  · exact .inr ⟨x, y, hx.dp r.sH, (hy.up r.sH).dp, h1, h2, hk _ _ F H h3 (Same.refl F) r (.bl _)⟩
theorem od_ne : OpDK X.K (fun x y H Q => rNe x y H Q ∨ rNeD X.K x y H Q) neD := by
  intro B F H σ S v u x y k Q r hx hy h hk
  rcases neD_alt h with ⟨i, j, rfl, rfl, h3⟩ | ⟨h1, h2, h3⟩
  · cases pk_str hx; cases hy.str_inv
    refine .inl ⟨rfl, ?_⟩
    rw [dec_str]
    exact hk _ _ F H h3 (Same.refl F) r (.bl _)
  · exact .inr ⟨x, y, hx.dp r.sH, (hy.up r.sH).dp, h1, h2, hk _ _ F H h3 (Same.refl F) r (.bl _)⟩
variable {mk : TDK}
theorem d_eq (hu : X.A.units + 64 < cLine) (ha : DK X W a mk) (hb : DE X W b mb) : DE X W (.Compare a [.Eq] [b] pos) (mOpK eqD mk mb) := d_cmpK (op_eq.or (op_eqD hu)) od_eq ha hb (nomark _)
theorem d_ne (hu : X.A.units + 64 < cLine) (ha : DK X W a mk) (hb : DE X W b mb) : DE X W (.Compare a [.NotEq] [b] pos) (mOpK neD mk mb) := d_cmpK (op_ne.or (op_neD hu)) od_ne ha hb (nomark _)
theorem dt_eq (hu : X.A.units + 64 < cLine) (ha : DK X W a mk) (hb : DE X W b mb) : DT X W (.Compare a [.Eq] [b] pos) (mTst (mOpK eqD mk mb)) := dt_cmpK (op_eq.or (op_eqD hu)) od_eq ha hb (nomark _)
theorem dt_ne (hu : X.A.units + 64 < cLine) (ha : DK X W a mk) (hb : DE X W b mb) : DT X W (.Compare a [.NotEq] [b] pos) (mTst (mOpK neD mk mb)) := dt_cmpK (op_ne.or (op_neD hu)) od_ne ha hb (nomark _)
/-- is None -/
def isN : D → Bool
  | .none => true
  | _ => false
def isD : OD := fun x y k => match y with
  | .none => k (.bool (isN x))
  | _ => False
def isNotD : OD := fun x y k => match y with
  | .none => k (.bool (!isN x))
  | _ => False
theorem isN_ok {K : PySem.W.Frag} {hp : Option Addr} {F H : Hp} {v : V} {x : D} (h : Pk K hp F H v x) : decide (v = .non) = isN x := by
  rcases h with q | ⟨p, vs, xs, rfl, rfl, _⟩
  · cases q <;> first | rfl | exact decide_eq_false (fun z => by cases z)
  · exact decide_eq_false (fun z => by cases z)
theorem od_is : OpDK X.K (fun x y H Q => y = .non ∧ Q (.bl (decide (x = .non))) H) isD := by
  intro B F H σ S v u x y k Q r hx hy h hk
  cases y with
  | none => cases hy; exact ⟨rfl, by rw [isN_ok hx]; exact hk _ _ F H h (Same.refl F) r (.bl _)⟩
  | _ => exact (show False from h).elim
theorem od_isnot : OpDK X.K (fun x y H Q => y = .non ∧ Q (.bl (!decide (x = .non))) H) isNotD := by
  intro B F H σ S v u x y k Q r hx hy h hk
  cases y with
  | none => cases hy; exact ⟨rfl, by rw [isN_ok hx]; exact hk _ _ F H h (Same.refl F) r (.bl _)⟩
  | _ => exact (show False from h).elim
theorem d_is (ha : DK X W a mk) (hb : DE X W b mb) : DE X W (.Compare a [.Is] [b] pos) (mOpK isD mk mb) := d_cmpK op_isN od_is ha hb (nomark _)
theorem d_isnot (ha : DK X W a mk) (hb : DE X W b mb) : DE X W (.Compare a [.IsNot] [b] pos) (mOpK isNotD mk mb) := d_cmpK op_notN od_isnot ha hb (nomark _)
theorem dt_is (ha : DK X W a mk) (hb : DE X W b mb) : DT X W (.Compare a [.Is] [b] pos) (mTst (mOpK isD mk mb)) := dt_cmpK op_isN od_is ha hb (nomark _)
theorem dt_isnot (ha : DK X W a mk) (hb : DE X W b mb) : DT X W (.Compare a [.IsNot] [b] pos) (mTst (mOpK isNotD mk mb)) := dt_cmpK op_notN od_isnot ha hb (nomark _)
/-- a < b < c, ints -/
def mChain (f g : Int → Int → Bool) (ma mb mc : TD) : TD := fun S k => ma S fun x S1 => mb S1 fun y S2 => match x, y with
  | .int i, .int j => br (f i j) (mc S2 fun z S3 => match z with
    | .int l => k (.bool (g j l)) S3
    | _ => False) (k (.bool false) S2)
  | _, _ => False
theorem t_chain {f g : Int → Int → Bool} : ∀ σ H Q, tE X.K X.mg W (mChain f g ma mb mc) σ H Q → tChain (rI0 fun i j => .bl (f i j)) (rI0 fun i j => .bl (g i j)) (tE X.K X.mg W ma) (tE X.K X.mg W mb) (tE X.K X.mg W mc) σ H Q := by
  rintro σ H Q ⟨B, F, S, k, he, r, h, hk⟩
  refine ⟨B, F, S, _, he, r, h, fun x S1 v F1 H1 h1 s1 r1 q1 => ?_⟩
  refine ⟨B, F1, S1, _, he, r1, h1, fun y S2 u F2 H2 h2 s2 r2 q2 => ?_⟩
  cases x with
  | int i =>
    cases y with
    | int j =>
      cases q1; cases q2
      refine ⟨i, j, rfl, rfl, f i j, rfl, ?_⟩
      have h3 := br_if h2
      cases e : f i j with
      | true =>
        rw [e, if_pos rfl] at h3
        rw [if_pos rfl]
        refine ⟨B, F2, S2, _, he, r2, h3, fun z S3 w F3 H3 h4 s3 r3 q3 => ?_⟩
        cases z with
        | int l => cases q3; exact ⟨j, l, rfl, rfl, hk _ _ _ F3 H3 h4 (s1.trans (s2.trans s3)) r3 (.bl _)⟩
        | _ => exact (show False from h4).elim
      | false =>
        rw [e, if_neg Bool.false_ne_true] at h3
        rw [if_neg Bool.false_ne_true]
        exact hk _ _ _ F2 H2 h3 (s1.trans s2) r2 (.bl _)
    | _ => exact (show False from h2).elim
  | _ => cases y <;> exact (show False from h2).elim
end
end DL

set_option Elab.async false
set_option linter.all false
set_option maxRecDepth 100000
set_option maxHeartbeats 4000000
/-! The data layer, 3: and, or, if; argument lists, displays, places, slices, built-ins. -/
namespace DL
open PySem PySem.Spec PyProof.Rows L2

section
variable {X : Cx} {W : Wx} {pos : Pos} {a b c : Expr} {ma mb mc : TD} {rest : List Expr}
theorem d_chain {op op' : CmpOp} {f g : Int → Int → Bool} (ho : OpR X (compareOp op) (rI0 fun i j => .bl (f i j))) (ho' : OpR X (compareOp op') (rI0 fun i j => .bl (g i j))) (ha : DE X W a ma) (hb : DE X W b mb) (hc : DE X W c mc)
    (hm : lastMarks [op, op'] [b, c] = false := by with_unfolding_all rfl) : DE X W (.Compare a [op, op'] [b, c] pos) (mChain f g ma mb mc) := PE.of (pe_chain ho ho' ha hb hc hm) t_chain
theorem dt_chain {op op' : CmpOp} {f g : Int → Int → Bool} (ho : OpR X (compareOp op) (rI0 fun i j => .bl (f i j))) (ho' : OpR X (compareOp op') (rI0 fun i j => .bl (g i j))) (ha : DE X W a ma) (hb : DE X W b mb) (hc : DE X W c mc)
    (hm : lastMarks [op, op'] [b, c] = false := by with_unfolding_all rfl) : DT X W (.Compare a [op, op'] [b, c] pos) (mTst (mChain f g ma mb mc)) := PT.of (pt_chain ho ho' ha hb hc hm) (t_tst t_chain)

/-! ### and, or, not, if .. else -/
def mAndV (ma mb : TD) : TD := fun S k => ma S fun x S1 => onB x fun b => br b (mb S1 k) (k (.bool false) S1)
def mOrV (ma mb : TD) : TD := fun S k => ma S fun x S1 => onB x fun b => br b (k (.bool true) S1) (mb S1 k)
def mNotV (ma : TD) : TD := fun S k => ma S fun x S1 => onB x fun b => k (.bool (!b)) S1
theorem d_one {op : BoolOp} (h : DE X W a ma) : DE X W (.BoolOp op [a] pos) ma := pe_one h
theorem d_and (ha : DE X W a ma) (hb : DE X W (.BoolOp .And (b :: rest) pos) mb) : DE X W (.BoolOp .And (a :: b :: rest) pos) (mAndV ma mb) := by
  refine PE.of (pe_and ha hb) fun σ H Q h => ?_
  obtain ⟨B, F, S, k, he, r, h, hk⟩ := h
  refine ⟨B, F, S, _, he, r, h, fun x S1 v F1 H1 h1 s1 r1 q1 => ?_⟩
  obtain ⟨d, rfl, h2⟩ := onB_elim h1
  refine ⟨d, q1.bool_inv, ?_⟩
  cases d with
  | true => rw [if_pos rfl]; exact ⟨B, F1, S1, k, he, r1, h2, fun x S' v F' H' hx s r q => hk x S' v F' H' hx (s1.trans s) r q⟩
  | false => rw [if_neg Bool.false_ne_true]; exact hk _ _ _ F1 H1 h2 s1 r1 (.bl _)
theorem d_or (ha : DE X W a ma) (hb : DE X W (.BoolOp .Or (b :: rest) pos) mb) : DE X W (.BoolOp .Or (a :: b :: rest) pos) (mOrV ma mb) := by
  refine PE.of (pe_or ha hb) fun σ H Q h => ?_
  obtain ⟨B, F, S, k, he, r, h, hk⟩ := h
  refine ⟨B, F, S, _, he, r, h, fun x S1 v F1 H1 h1 s1 r1 q1 => ?_⟩
  obtain ⟨d, rfl, h2⟩ := onB_elim h1
  refine ⟨d, q1.bool_inv, ?_⟩
  cases d with
  | false => rw [if_neg Bool.false_ne_true]; exact ⟨B, F1, S1, k, he, r1, h2, fun x S' v F' H' hx s r q => hk x S' v F' H' hx (s1.trans s) r q⟩
  | true => rw [if_pos rfl]; exact hk _ _ _ F1 H1 h2 s1 r1 (.bl _)
theorem d_not (ha : DE X W a ma) : DE X W (.UnaryOp .Not a pos) (mNotV ma) := by
  refine PE.of (L2.pe_not ha) fun σ H Q h => ?_
  obtain ⟨B, F, S, k, he, r, h, hk⟩ := h
  refine ⟨B, F, S, _, he, r, h, fun x S1 v F1 H1 h1 s1 r1 q1 => ?_⟩
  obtain ⟨d, rfl, h2⟩ := onB_elim h1
  exact ⟨d, q1.bool_inv, hk _ _ _ F1 H1 h2 s1 r1 (.bl _)⟩
/-! as tests -/
variable {na nb : TDT}
def mAnd (na nb : TDT) : TDT := fun S k => na S fun b S1 => br b (nb S1 k) (k false S1)
def mOr (na nb : TDT) : TDT := fun S k => na S fun b S1 => br b (k true S1) (nb S1 k)
def mNot (na : TDT) : TDT := fun S k => na S fun b S1 => k (!b) S1
abbrev DW (X : Cx) (W : Wx) (e : Expr) (m : TDT) : Prop := PW X e (tT X.K X.mg W m)
theorem PW.of {e : Expr} {t t' : TT} (p : PW X e t) (r : ∀ σ H Q, t' σ H Q → t σ H Q) : PW X e t' := ⟨fun wh pins s σ H Q I h => p.run wh pins s σ H Q I (r σ H Q h)⟩
theorem dw_and1 (ha : DT X W a na) : DW X W (.BoolOp .And [a] pos) na := pw_and1 ha
theorem dw_or1 (ha : DT X W a na) : DW X W (.BoolOp .Or [a] pos) na := pw_or1 ha
theorem dw_and (ha : DT X W a na) (hb : DW X W (.BoolOp .And (b :: rest) pos) nb) : DW X W (.BoolOp .And (a :: b :: rest) pos) (mAnd na nb) := by
  refine PW.of (pw_and ha hb) fun σ H Q h => ?_
  obtain ⟨B, F, S, k, he, r, h, hk⟩ := h
  refine ⟨B, F, S, _, he, r, h, fun d S1 F1 H1 h1 s1 r1 => ?_⟩
  cases d with
  | true => rw [if_pos rfl]; exact ⟨B, F1, S1, k, he, r1, h1, fun x S' F' H' hx s r => hk x S' F' H' hx (s1.trans s) r⟩
  | false => rw [if_neg Bool.false_ne_true]; exact hk _ _ F1 H1 h1 s1 r1
theorem dw_or (ha : DT X W a na) (hb : DW X W (.BoolOp .Or (b :: rest) pos) nb) : DW X W (.BoolOp .Or (a :: b :: rest) pos) (mOr na nb) := by
  refine PW.of (pw_or ha hb) fun σ H Q h => ?_
  obtain ⟨B, F, S, k, he, r, h, hk⟩ := h
  refine ⟨B, F, S, _, he, r, h, fun d S1 F1 H1 h1 s1 r1 => ?_⟩
  cases d with
  | false => rw [if_neg Bool.false_ne_true]; exact ⟨B, F1, S1, k, he, r1, h1, fun x S' F' H' hx s r => hk x S' F' H' hx (s1.trans s) r⟩
  | true => rw [if_pos rfl]; exact hk _ _ F1 H1 h1 s1 r1
theorem dw_pt {e : Expr} {n : TDT} (h : DW X W e n) : DT X W e n := PW.pt h
theorem dt_not (ha : DT X W a na) : DT X W (.UnaryOp .Not a pos) (mNot na) := by
  refine PT.of (pt_not ha) fun σ H Q h => ?_
  obtain ⟨B, F, S, k, he, r, h, hk⟩ := h
  exact ⟨B, F, S, _, he, r, h, fun d S1 F1 H1 h1 s1 r1 => hk _ S1 F1 H1 h1 s1 r1⟩
def mIf (n : TDT) (ma mb : TD) : TD := fun S k => n S fun d S1 => br d (ma S1 k) (mb S1 k)
theorem d_ifExp (hc : DT X W c na) (ha : DE X W a ma) (hb : DE X W b mb) : DE X W (.IfExp c a b pos) (mIf na ma mb) := by
  refine PE.of (pe_ifExp hc ha hb) fun σ H Q h => ?_
  obtain ⟨B, F, S, k, he, r, h, hk⟩ := h
  refine ⟨B, F, S, _, he, r, h, fun d S1 F1 H1 h1 s1 r1 => ?_⟩
  cases d with
  | true => rw [if_pos rfl]; exact ⟨B, F1, S1, k, he, r1, h1, fun x S' v F' H' hx s r q => hk x S' v F' H' hx (s1.trans s) r q⟩
  | false => rw [if_neg Bool.false_ne_true]; exact ⟨B, F1, S1, k, he, r1, h1, fun x S' v F' H' hx s r q => hk x S' v F' H' hx (s1.trans s) r q⟩

/-! ### argument lists of data, displays -/
variable {es : List Expr} {me : TD} {ms : TDA} {e : Expr}
def mNil : TDA := fun S k => k [] S
def mCons (me : TD) (ms : TDA) : TDA := fun S k => me S fun x S1 => ms S1 fun xs S2 => k (x :: xs) S2
theorem da_nil : DA X W [] mNil := by
  refine PA.of pa_nil fun σ H Q h => ?_
  obtain ⟨B, F, S, k, he, r, h, hk⟩ := h
  exact hk _ _ _ F H h (Same.refl F) r .nil
theorem da_cons (h1 : DE X W e me) (h2 : DA X W es ms) (hs : starEach (e :: es) X.env = (false, eval e X.env) :: starEach es X.env := by rfl) : DA X W (e :: es) (mCons me ms) := by
  refine PA.of (pa_cons h1 h2 hs) fun σ H Q h => ?_
  obtain ⟨B, F, S, k, he, r, h, hk⟩ := h
  refine ⟨B, F, S, _, he, r, h, fun x S1 v F1 H1 h1 s1 r1 q1 => ?_⟩
  exact ⟨B, F1, S1, _, he, r1, h1, fun xs S2 vs F2 H2 h2 s2 r2 q2 => hk _ _ _ F2 H2 h2 (s1.trans s2) r2 (.cons (q1.up s2) q2)⟩
def mTup (ms : TDA) : TD := fun S k => ms S fun xs S1 => big xs.length = true ∧ k (.tuple xs) S1
theorem d_tup {x1} (h : DA X W es ms) : DE X W (.Tuple es x1 pos) (mTup ms) := by
  refine PE.of (pe_tup h) fun σ H Q h => ?_
  obtain ⟨B, F, S, k, he, r, h, hk⟩ := h
  refine ⟨B, F, S, _, he, r, h, fun xs S1 vs F1 H1 h1 s1 r1 q1 => ⟨by rw [q1.len]; exact big_le h1.1, fun p n => ?_⟩⟩
  exact new_tup r1 q1 n (k := fun z => k z S1) h1.2 fun z w F' H' hz s r' q => hk z S1 w F' H' hz (s1.trans s) r' q
def mLst (ms : TDA) : TDN := fun S k => ms S fun xs S1 => big xs.length = true ∧ k xs S1
theorem no_own {K : PySem.W.Frag} {B : Bs} {F H : Hp} {σ : St} {S : Sd} (r : Rp K B F H σ S) {p : Addr} (n : H p = none) : ∀ (i : Nat) ys, S.env[i]? = some (.own ys) → σ[i]? ≠ some (some (.ref p)) := fun i ys e z => by
  obtain ⟨q, vs, e1, b1, f1, g1, d1⟩ := r.sl i _ e
  rw [z] at e1
  cases e1
  rw [n] at g1
  cases g1
theorem dn_lst (h : DA X W es ms) : DN X W (.List es pos) (mLst ms) := by
  refine PE.of (pe_lst h) fun σ H Q h => ?_
  obtain ⟨B, F, S, k, he, r, h, hk⟩ := h
  refine ⟨B, F, S, _, he, r, h, fun xs S1 vs F1 H1 h1 s1 r1 q1 => ⟨by rw [q1.len]; exact big_le h1.1, fun p n => ?_⟩⟩
  exact hk xs S1 p vs F1 _ h1.2 s1 (r1.laidH n) (r1.freeB n) (r1.sH.free n) upd_same q1 (no_own r1 n)
/-- a new list taken as data -/
def mFrz (mn : TDN) : TD := fun S k => mn S fun xs S1 => k (.list xs) S1
theorem d_frz {mn : TDN} (h : DN X W e mn) : DE X W e (mFrz mn) := by
  refine PE.of h fun σ H Q h => ?_
  obtain ⟨B, F, S, k, he, r, h, hk⟩ := h
  refine ⟨B, F, S, _, he, r, h, fun xs S' p vs F' H' hx s r' bp fp hp q na => ?_⟩
  have sF : Same F' (upd F' p (.lst vs)) := fun q u z => by rw [upd_ne (ne_of_none z fp)]; exact z
  exact hk _ _ _ _ H' hx (s.trans sF) (r'.freeze bp fp hp na) (.lst upd_same (q.up sF))

/-! ### places -/
def ixL {α : Type} (xs : List α) : Int → Option α
  | .ofNat n => xs[n]?
  | .negSucc m => if m + 1 ≤ xs.length then xs[xs.length - (m + 1)]? else none
theorem ixL_at {α : Type} {xs : List α} {i : Int} {z : α} (h : ixL xs i = some z) : atI xs i = some z := by
  cases i with
  | ofNat n => exact atI_nat h
  | negSucc m =>
    have h : (if m + 1 ≤ xs.length then xs[xs.length - (m + 1)]? else none) = some z := h
    by_cases hm : m + 1 ≤ xs.length
    · rw [if_pos hm] at h
      unfold atI ixN
      have h0 : ¬ (0 : Int) ≤ Int.negSucc m := by omega
      have h1 : -(xs.length : Int) ≤ Int.negSucc m := by omega
      rw [if_neg h0, if_pos h1]
      have e : (Int.negSucc m + (xs.length : Int)).toNat = xs.length - (m + 1) := by omega
      rw [e]
      exact h
    · rw [if_neg hm] at h; cases h
theorem ixL_get {K : PySem.W.Frag} {F : Hp} {vs : List V} {ds : List D} {i : Int} {z : D} (q : DqL K F vs ds) (h : ixL ds i = some z) : ∃ v, atI vs i = some v ∧ Dq K F v z := by
  have l := q.len
  cases i with
  | ofNat n =>
    obtain ⟨v, e, d⟩ := q.back (i := n) h
    exact ⟨v, atI_nat e, d⟩
  | negSucc m =>
    have h : (if m + 1 ≤ ds.length then ds[ds.length - (m + 1)]? else none) = some z := h
    by_cases hm : m + 1 ≤ ds.length
    · rw [if_pos hm] at h
      obtain ⟨v, e, d⟩ := q.back h
      refine ⟨v, ixL_at ?_, d⟩
      show (if m + 1 ≤ vs.length then vs[vs.length - (m + 1)]? else none) = some v
      rw [l, if_pos hm]
      exact e
    · rw [if_neg hm] at h; cases h
def gotD (o : Option D) (k : D → Prop) : Prop := match o with
  | some z => k z
  | none => False
theorem gotD_elim {o : Option D} {k : D → Prop} (h : gotD o k) : ∃ z, o = some z ∧ k z := by
  cases o with
  | none => exact h.elim
  | some z => exact ⟨z, rfl, h⟩
def ixD : OD := fun x y k => match x, y with
  | .list xs, .int i => gotD (ixL xs i) k
  | .tuple xs, .int i => gotD (ixL xs i) k
  | _, _ => False
theorem od_ix : OpDK X.K (fun x y H Q => rIxL X.K x y H Q ∨ rIxT X.K x y H Q) ixD := by
  intro B F H σ S v u x y k Q r hx hy h hk
  cases x with
  | list xs =>
    cases y with
    | int i =>
      cases hy
      obtain ⟨z, ez, hz⟩ := gotD_elim h
      obtain ⟨p, vs, rfl, hp, d⟩ := hx.lst_inv r.sH
      obtain ⟨w, ew, dw⟩ := ixL_get d ez
      exact .inl ⟨p, vs, i, w, rfl, rfl, SqL.of hp, ew, hk _ _ F H hz (Same.refl F) r dw⟩
    | _ => exact (show False from h).elim
  | tuple xs =>
    cases y with
    | int i =>
      cases hy
      obtain ⟨z, ez, hz⟩ := gotD_elim h
      obtain ⟨p, vs, rfl, hp, d⟩ := (hx.of_nl (fun _ e => by cases e)).tup_inv
      obtain ⟨w, ew, dw⟩ := ixL_get d ez
      exact .inr ⟨p, vs, i, w, rfl, rfl, sqT_mono r.sH hp, ew, hk _ _ F H hz (Same.refl F) r dw⟩
    | _ => exact (show False from h).elim
  | _ => cases y <;> exact (show False from h).elim
variable {mk : TDK}
theorem d_ix (ha : DK X W a mk) (hb : DE X W b mb) (hs : PlainIx b := by exact fun _ _ => rfl) : DE X W (.Subscript a b pos) (mOpK ixD mk mb) :=
  PE.of (pe_ix (IxR.or ix_list ix_tup) ha hb hs) (t_opK od_ix)
/-! slices -/
abbrev TDO := Sd → (Option Int → Sd → Prop) → Prop
def tO (K : PySem.W.Frag) (mg : Str → Option Value) (W : Wx) (m : TDO) : TO := fun σ H Q => ∃ B F S k, HE K mg W.E W.ke B ∧ Rp K B F H σ S ∧ m S k ∧ ∀ o S' F' H', k o S' → Same F F' → Rp K B F' H' σ S' → Q o H'
abbrev DO (X : Cx) (W : Wx) (e : Option Expr) (m : TDO) : Prop := PO X e (tO X.K X.mg W m)
theorem PO.of {e : Option Expr} {t t' : TO} (p : PO X e t) (r : ∀ σ H Q, t' σ H Q → t σ H Q) : PO X e t' := ⟨fun pins s σ H Q I h => p.run pins s σ H Q I (r σ H Q h)⟩
def mNoP : TDO := fun S k => k none S
def mP (m : TD) : TDO := fun S k => m S fun x S1 => match x with
  | .int i => k (some i) S1
  | _ => False
theorem do_none : DO X W none mNoP := by
  refine PO.of po_none fun σ H Q h => ?_
  obtain ⟨B, F, S, k, he, r, h, hk⟩ := h
  exact hk _ _ F H h (Same.refl F) r
theorem do_some (h : DE X W e me) : DO X W (some e) (mP me) := by
  refine PO.of (po_some h) fun σ H Q h => ?_
  obtain ⟨B, F, S, k, he, r, h, hk⟩ := h
  refine ⟨B, F, S, _, he, r, h, fun x S1 v F1 H1 h1 s1 r1 q1 => ?_⟩
  cases x with
  | int i => cases q1; exact ⟨i, rfl, hk _ _ F1 H1 h1 s1 r1⟩
  | _ => exact (show False from h1).elim
def cutD (xs : List D) (lo hi : Option Int) : List D := (xs.drop (HT.sIx xs.length 0 lo)).take (HT.sIx xs.length xs.length hi - HT.sIx xs.length 0 lo)
theorem cut_dq {K : PySem.W.Frag} {F : Hp} {vs : List V} {ds : List D} (q : DqL K F vs ds) (lo hi : Option Int) : DqL K F (cutV vs lo hi) (cutD ds lo hi) := by
  unfold cutV cutD
  rw [q.len]
  exact (q.drop _).take _
def mSl (mk : TDK) (ml mh : TDO) : TD := fun S k => mk S fun w S1 => ml S1 fun lo S2 => mh S2 fun hi S3 => match w S3 with
  | some (.list xs) => k (.list (cutD xs lo hi)) S3
  | some (.tuple xs) => k (.tuple (cutD xs lo hi)) S3
  | _ => False
variable {lo hi : Option Expr} {ml mh : TDO} {p2 : Pos}
theorem d_slice (he : DK X W e mk) (hl : DO X W lo ml) (hu : DO X W hi mh) : DE X W (.Subscript e (.Slice lo hi none p2) pos) (mSl mk ml mh) := by
  refine PE.of (pe_slice (SlR.or sl_list sl_tupA) he hl hu) fun σ H Q h => ?_
  obtain ⟨B, F, S, k, he, r, h, hk⟩ := h
  refine ⟨B, F, S, _, he, r, h, fun w S1 v F1 H1 h1 s1 r1 q1 => ?_⟩
  refine ⟨B, F1, S1, _, he, r1, h1, fun o S2 F2 H2 h2 s2 r2 => ?_⟩
  refine ⟨B, F2, S2, _, he, r2, h2, fun o' S3 F3 H3 h3 s3 r3 => ?_⟩
  have s : Same F F3 := s1.trans (s2.trans s3)
  have fin := fun (z : D) (w' : V) (F' H' : Hp) (hz : k z S3) (s' : Same F3 F') (r' : Rp X.K B F' H' σ S3) (q : Dq X.K F' w' z) => hk z S3 w' F' H' hz (s.trans s') r' q
  cases e : w S3 with
  | none => rw [e] at h3; exact h3.elim
  | some x =>
    rw [e] at h3
    have pk := q1 F3 H3 S3 x (s2.trans s3) r3 e
    cases x with
    | list xs =>
      obtain ⟨p, vs, rfl, hp, d⟩ := pk.lst_inv r3.sH
      exact .inl ⟨p, vs, rfl, SqL.of hp, fun q n => new_lst r3 (cut_dq d o o') n (k := fun z => k z S3) h3 fin⟩
    | tuple xs =>
      have dx := pk.of_nl (fun _ e => by cases e)
      obtain ⟨p, vs, rfl, hp, d⟩ := dx.tup_inv
      refine .inr ⟨p, vs, rfl, sqT_mono r3.sH hp, fun w1 => ?_, fun w1 q n => new_tup r3 (cut_dq d o o') n (k := fun z => k z S3) h3 fin⟩
      have e2 : cutD xs o o' = xs := by
        unfold cutD
        rw [← d.len, w1.1, w1.2, List.drop_zero, d.len, Nat.sub_zero, List.take_length]
      have h4 : k (.tuple (cutD xs o o')) S3 := h3
      rw [e2] at h4
      exact hk _ _ _ F3 H3 h4 s r3 dx
    | _ => exact (show False from h3).elim
end
end DL

set_option Elab.async false
set_option linter.all false
set_option maxRecDepth 100000
set_option maxHeartbeats 4000000
/-! The data layer, 4: built-in functions of data. -/
namespace DL
open PySem PySem.Spec PyProof.Rows L2

abbrev FD := List D → (D → Prop) → Prop
abbrev UD := D → (D → Prop) → Prop
def CallD (K : PySem.W.Frag) (r : List V → Hp → VK → Prop) (f : FD) : Prop := ∀ (B : Bs) (F H : Hp) (σ : St) (S : Sd) (vs : List V) (xs : List D) (k : D → Prop) (Q : VK), Rp K B F H σ S → DqL K F vs xs → f xs k →
  (∀ z w F' H', k z → Same F F' → Rp K B F' H' σ S → Dq K F' w z → Q w H') → r vs H Q
def CallK (K : PySem.W.Frag) (r : List V → Hp → VK → Prop) (f : UD) : Prop := ∀ (B : Bs) (F H : Hp) (σ : St) (S : Sd) (v : V) (x : D) (k : D → Prop) (Q : VK), Rp K B F H σ S → Pk K B.hp F H v x → f x k →
  (∀ z w F' H', k z → Same F F' → Rp K B F' H' σ S → Dq K F' w z → Q w H') → r [v] H Q
section
variable {X : Cx} {W : Wx} {pos p : Pos} {a b e : Expr} {ma mb me : TD} {es : List Expr} {ms : TDA} {mk : TDK} {r : List V → Hp → VK → Prop} {id T : String} {x : Str}
def mB (f : FD) (ms : TDA) : TD := fun S k => ms S fun xs S1 => f xs fun z => k z S1
def mBK (f : UD) (mk : TDK) : TD := fun S k => mk S fun w S1 => match w S1 with
  | some x => f x fun z => k z S1
  | none => False
theorem t_B {f : FD} (hf : CallD X.K r f) : ∀ σ H Q, tE X.K X.mg W (mB f ms) σ H Q → tCB r (tA X.K X.mg W ms) σ H Q := by
  rintro σ H Q ⟨B, F, S, k, he, r', h, hk⟩
  refine ⟨B, F, S, _, he, r', h, fun xs S1 vs F1 H1 h1 s1 r1 q1 => ?_⟩
  exact hf B F1 H1 σ S1 vs xs _ Q r1 q1 h1 fun z w F' H' hz s r2 q => hk z S1 w F' H' hz (s1.trans s) r2 q
theorem t_BK {f : UD} (hf : CallK X.K r f) : ∀ σ H Q, tE X.K X.mg W (mBK f mk) σ H Q → tCB r (tCons (tK X.K X.mg W mk) tNil) σ H Q := by
  rintro σ H Q ⟨B, F, S, k, he, r', h, hk⟩
  refine ⟨B, F, S, _, he, r', h, fun w S1 v F1 H1 h1 s1 r1 q1 => ?_⟩
  cases e : w S1 with
  | none => rw [e] at h1; exact h1.elim
  | some x =>
    rw [e] at h1
    exact hf B F1 H1 σ S1 v x _ Q r1 (q1 F1 H1 S1 x (Same.refl F1) r1 e) h1 fun z w F' H' hz s r2 q => hk z S1 w F' H' hz (s1.trans s) r2 q
theorem d_callB {f : FD} (hc : CallR X (.builtin id) r) (hf : CallD X.K r f) (hm : X.mg x = none) (hv : bootBuiltins x = some (.builtin id)) (ha : DA X W (e :: es) ms) (hg : Gl X x := by rfl) (hn : x ≠ "__name__" := by decide) (hdb : (x == ("__debug__" : Str)) = false := by decide)
    (he : starEach (e :: es) X.env = (false, eval e X.env) :: starEach es X.env := by rfl) (hpl : (backTo pos (starEach es X.env)).any (·.1) = false := by rfl) : DE X W (.Call (.Name x p) (e :: es) [] pos) (mB f ms) := PE.of (pe_callB hc hg hm hv ha hn hdb he hpl) (t_B hf)
theorem d_callT {f : FD} (hc : CallR X (.type T) r) (hf : CallD X.K r f) (hm : X.mg x = none) (hv : bootBuiltins x = some (.type T)) (ha : DA X W (e :: es) ms) (hg : Gl X x := by rfl) (hn : x ≠ "__name__" := by decide) (hdb : (x == ("__debug__" : Str)) = false := by decide)
    (he : starEach (e :: es) X.env = (false, eval e X.env) :: starEach es X.env := by rfl) (hpl : (backTo pos (starEach es X.env)).any (·.1) = false := by rfl) : DE X W (.Call (.Name x p) (e :: es) [] pos) (mB f ms) := PE.of (pe_callTy hc hg hm hv ha hn hdb he hpl) (t_B hf)
theorem d_callBK {f : UD} (hc : CallR X (.builtin id) r) (hf : CallK X.K r f) (hm : X.mg x = none) (hv : bootBuiltins x = some (.builtin id)) (ha : DK X W e mk) (hg : Gl X x := by rfl) (hn : x ≠ "__name__" := by decide) (hdb : (x == ("__debug__" : Str)) = false := by decide)
    (he : starEach (e :: []) X.env = (false, eval e X.env) :: starEach [] X.env := by rfl) (hpl : (backTo pos (starEach [] X.env)).any (·.1) = false := by rfl) : DE X W (.Call (.Name x p) [e] [] pos) (mBK f mk) := PE.of (pe_callB hc hg hm hv (pa_cons ha pa_nil he) hn hdb he hpl) (t_BK hf)
theorem d_callTK {f : UD} (hc : CallR X (.type T) r) (hf : CallK X.K r f) (hm : X.mg x = none) (hv : bootBuiltins x = some (.type T)) (ha : DK X W e mk) (hg : Gl X x := by rfl) (hn : x ≠ "__name__" := by decide) (hdb : (x == ("__debug__" : Str)) = false := by decide)
    (he : starEach (e :: []) X.env = (false, eval e X.env) :: starEach [] X.env := by rfl) (hpl : (backTo pos (starEach [] X.env)).any (·.1) = false := by rfl) : DE X W (.Call (.Name x p) [e] [] pos) (mBK f mk) := PE.of (pe_callTy hc hg hm hv (pa_cons ha pa_nil he) hn hdb he hpl) (t_BK hf)
/-! ### len -/
def lenD : UD := fun x k => match x with
  | .list xs => k (.int xs.length)
  | .tuple xs => k (.int xs.length)
  | _ => False
theorem cd_len : CallK X.K (fun xs H Q => ∃ x n, xs = [x] ∧ LenV X.K x H n ∧ Q (.int n) H) lenD := by
  intro B F H σ S v x k Q r hx h hk
  cases x with
  | list xs =>
    obtain ⟨p, vs, rfl, hp, d⟩ := hx.lst_inv r.sH
    exact ⟨_, xs.length, rfl, .inl ⟨vs, SqL.of hp, d.len.symm⟩, hk _ _ F H h (Same.refl F) r (.int _)⟩
  | tuple xs =>
    obtain ⟨p, vs, rfl, hp, d⟩ := (hx.of_nl (fun _ e => by cases e)).tup_inv
    exact ⟨_, xs.length, rfl, .inr ⟨vs, sqT_mono r.sH hp, d.len.symm⟩, hk _ _ F H h (Same.refl F) r (.int _)⟩
  | _ => exact (show False from h).elim
theorem dg_len (hm : X.mg "len" = none) (ha : DK X W e mk) (hg : Gl X "len" := by rfl) (he : starEach (e :: []) X.env = (false, eval e X.env) :: starEach [] X.env := by rfl) (hpl : (backTo pos (starEach [] X.env)).any (·.1) = false := by rfl) : DE X W (.Call (.Name "len" p) [e] [] pos) (mBK lenD mk) :=
  d_callBK call_len cd_len hm PySem.boot_len ha hg (by decide) (by decide) he hpl
/-! ### ints -/
def absI (i : Int) : Int := if i < 0 then -i else i
def absD : FD := fun xs k => match xs with
  | [.int i] => k (.int (absI i))
  | _ => False
theorem cd_abs : CallD X.K (fun xs H Q => ∃ i, xs = [.int i] ∧ Q (.int (if i < 0 then -i else i)) H) absD := by
  intro B F H σ S vs xs k Q r hx h hk
  unfold absD at h
  split at h
  · rename_i i
    cases hx with
    | cons h1 h2 =>
      cases h1; cases h2
      exact ⟨i, rfl, hk _ _ F H h (Same.refl F) r (.int _)⟩
  · exact h.elim
theorem d_abs (hm : X.mg "abs" = none) (ha : DA X W (e :: es) ms) (hg : Gl X "abs" := by rfl) (he : starEach (e :: es) X.env = (false, eval e X.env) :: starEach es X.env := by rfl) (hpl : (backTo pos (starEach es X.env)).any (·.1) = false := by rfl) : DE X W (.Call (.Name "abs" p) (e :: es) [] pos) (mB absD ms) :=
  d_callB call_abs cd_abs hm (by decide +kernel) ha hg (by decide) (by decide) he hpl
def maxI (i j : Int) : Int := if j > i then j else i
def minI (i j : Int) : Int := if j < i then j else i
def int2D (f : Int → Int → Int) : FD := fun xs k => match xs with
  | [.int i, .int j] => k (.int (f i j))
  | _ => False
theorem cd_int2 {f : Int → Int → Int} : CallD X.K (fun xs H Q => ∃ i j, xs = [.int i, .int j] ∧ Q (.int (f i j)) H) (int2D f) := by
  intro B F H σ S vs xs k Q r hx h hk
  unfold int2D at h
  split at h
  · rename_i i j
    cases hx with
    | cons h1 h2 =>
      cases h2 with
      | cons h2 h3 =>
        cases h1; cases h2; cases h3
        exact ⟨i, j, rfl, hk _ _ F H h (Same.refl F) r (.int _)⟩
  · exact h.elim
theorem d_max2 (hc : X.calm = true) (hm : X.mg "max" = none) (ha : DA X W (e :: es) ms) (hg : Gl X "max" := by rfl) (he : starEach (e :: es) X.env = (false, eval e X.env) :: starEach es X.env := by rfl) (hpl : (backTo pos (starEach es X.env)).any (·.1) = false := by rfl) : DE X W (.Call (.Name "max" p) (e :: es) [] pos) (mB (int2D maxI) ms) :=
  d_callB (call_max2 hc) cd_int2 hm (by decide +kernel) ha hg (by decide) (by decide) he hpl
theorem d_min2 (hc : X.calm = true) (hm : X.mg "min" = none) (ha : DA X W (e :: es) ms) (hg : Gl X "min" := by rfl) (he : starEach (e :: es) X.env = (false, eval e X.env) :: starEach es X.env := by rfl) (hpl : (backTo pos (starEach es X.env)).any (·.1) = false := by rfl) : DE X W (.Call (.Name "min" p) (e :: es) [] pos) (mB (int2D minI) ms) :=
  d_callB (call_min2 hc) cd_int2 hm (by decide +kernel) ha hg (by decide) (by decide) he hpl
def intOf : FD := fun xs k => match xs with
  | [.int i] => k (.int i)
  | [.bool b] => k (.int (if b then 1 else 0))
  | _ => False
theorem cd_int : CallD X.K (fun xs H Q => (∃ i, xs = [.int i] ∧ Q (.int i) H) ∨ ∃ k, xs = [.bl k] ∧ Q (.int (if k then 1 else 0)) H) intOf := by
  intro B F H σ S vs xs k Q r hx h hk
  unfold intOf at h
  split at h
  · rename_i i
    cases hx with
    | cons h1 h2 =>
      cases h1; cases h2
      exact .inl ⟨i, rfl, hk _ _ F H h (Same.refl F) r (.int _)⟩
  · rename_i b
    cases hx with
    | cons h1 h2 =>
      cases h1; cases h2
      exact .inr ⟨b, rfl, hk _ _ F H h (Same.refl F) r (.int _)⟩
  · exact h.elim
theorem d_intOf (hm : X.mg "int" = none) (ha : DA X W (e :: es) ms) (hg : Gl X "int" := by rfl) (he : starEach (e :: es) X.env = (false, eval e X.env) :: starEach es X.env := by rfl) (hpl : (backTo pos (starEach es X.env)).any (·.1) = false := by rfl) : DE X W (.Call (.Name "int" p) (e :: es) [] pos) (mB intOf ms) :=
  d_callT call_int1 cd_int hm (by decide +kernel) ha hg (by decide) (by decide) he hpl
/-! ### lists of ints, of truth values -/
def intsOf : List D → Option (List Int)
  | [] => some []
  | .int i :: r => match intsOf r with
    | some ns => some (i :: ns)
    | none => none
  | _ :: _ => none
theorem intsOf_ok : ∀ {xs : List D} {ns : List Int}, intsOf xs = some ns → xs = ns.map PyData.int
  | [], _, h => by cases h; rfl
  | .int i :: r, ns, h => by
    unfold intsOf at h
    split at h
    · rename_i ms e
      cases h
      rw [intsOf_ok e]
      rfl
    · cases h
  | .none :: _, _, h => by cases h
  | .bool _ :: _, _, h => by cases h
  | .str _ :: _, _, h => by cases h
  | .list _ :: _, _, h => by cases h
  | .tuple _ :: _, _, h => by cases h
  | .dict _ :: _, _, h => by cases h
theorem intsOf_map : ∀ ns : List Int, intsOf (ns.map PyData.int) = some ns
  | [] => rfl
  | n :: ns => by
    show (match intsOf (ns.map PyData.int) with | some ms => some (n :: ms) | none => none) = some (n :: ns)
    rw [intsOf_map ns]
def boolsOf : List D → Option (List Bool)
  | [] => some []
  | .bool i :: r => match boolsOf r with
    | some ns => some (i :: ns)
    | none => none
  | _ :: _ => none
theorem boolsOf_ok : ∀ {xs : List D} {ns : List Bool}, boolsOf xs = some ns → xs = ns.map PyData.bool
  | [], _, h => by cases h; rfl
  | .bool i :: r, ns, h => by
    unfold boolsOf at h
    split at h
    · rename_i ms e
      cases h
      rw [boolsOf_ok e]
      rfl
    · cases h
  | .none :: _, _, h => by cases h
  | .int _ :: _, _, h => by cases h
  | .str _ :: _, _, h => by cases h
  | .list _ :: _, _, h => by cases h
  | .tuple _ :: _, _, h => by cases h
  | .dict _ :: _, _, h => by cases h
theorem boolsOf_map : ∀ ns : List Bool, boolsOf (ns.map PyData.bool) = some ns
  | [] => rfl
  | n :: ns => by
    show (match boolsOf (ns.map PyData.bool) with | some ms => some (n :: ms) | none => none) = some (n :: ns)
    rw [boolsOf_map ns]
def gotL {α : Type} (o : Option α) (k : α → Prop) : Prop := match o with
  | some z => k z
  | none => False
theorem gotL_elim {α : Type} {o : Option α} {k : α → Prop} (h : gotL o k) : ∃ z, o = some z ∧ k z := by
  cases o with
  | none => exact h.elim
  | some z => exact ⟨z, rfl, h⟩
def allD : UD := fun x k => match x with
  | .list xs => gotL (boolsOf xs) fun bs => k (.bool (bs.all fun b => b))
  | _ => False
def anyD : UD := fun x k => match x with
  | .list xs => gotL (boolsOf xs) fun bs => k (.bool (bs.any fun b => b))
  | _ => False
theorem cd_all : CallK X.K (rAll X.K) allD := by
  intro B F H σ S v x k Q r hx h hk
  cases x with
  | list xs =>
    obtain ⟨bs, e, h3⟩ := gotL_elim h
    have e2 := boolsOf_ok e
    subst e2
    obtain ⟨p, vs, rfl, hp, d⟩ := hx.lst_inv r.sH
    rw [d.of_bools] at hp
    exact ⟨p, bs, rfl, SqL.of hp, hk _ _ F H h3 (Same.refl F) r (.bl _)⟩
  | _ => exact (show False from h).elim
theorem cd_any : CallK X.K (rAny X.K) anyD := by
  intro B F H σ S v x k Q r hx h hk
  cases x with
  | list xs =>
    obtain ⟨bs, e, h3⟩ := gotL_elim h
    have e2 := boolsOf_ok e
    subst e2
    obtain ⟨p, vs, rfl, hp, d⟩ := hx.lst_inv r.sH
    rw [d.of_bools] at hp
    exact ⟨p, bs, rfl, SqL.of hp, hk _ _ F H h3 (Same.refl F) r (.bl _)⟩
  | _ => exact (show False from h).elim
theorem d_all (hc : X.calm = true) (hm : X.mg "all" = none) (ha : DK X W e mk) (hg : Gl X "all" := by rfl) (he : starEach (e :: []) X.env = (false, eval e X.env) :: starEach [] X.env := by rfl) (hpl : (backTo pos (starEach [] X.env)).any (·.1) = false := by rfl) : DE X W (.Call (.Name "all" p) [e] [] pos) (mBK allD mk) :=
  d_callBK (cr_all hc) cd_all hm (by decide +kernel) ha hg (by decide) (by decide) he hpl
theorem d_any (hc : X.calm = true) (hm : X.mg "any" = none) (ha : DK X W e mk) (hg : Gl X "any" := by rfl) (he : starEach (e :: []) X.env = (false, eval e X.env) :: starEach [] X.env := by rfl) (hpl : (backTo pos (starEach [] X.env)).any (·.1) = false := by rfl) : DE X W (.Call (.Name "any" p) [e] [] pos) (mBK anyD mk) :=
  d_callBK (cr_any hc) cd_any hm (by decide +kernel) ha hg (by decide) (by decide) he hpl
def sumD : UD := fun x k => match x with
  | .list xs => gotL (intsOf xs) fun ns => k (.int ns.sum)
  | _ => False
theorem cd_sum : CallK X.K (rSum X.K) sumD := by
  intro B F H σ S v x k Q r hx h hk
  cases x with
  | list xs =>
    obtain ⟨bs, e, h3⟩ := gotL_elim h
    have e2 := intsOf_ok e
    subst e2
    obtain ⟨p, vs, rfl, hp, d⟩ := hx.lst_inv r.sH
    rw [d.of_ints] at hp
    exact ⟨p, bs, rfl, SqL.of hp, hk _ _ F H h3 (Same.refl F) r (.int _)⟩
  | _ => exact (show False from h).elim
theorem d_sum (hc : X.calm = true) (hm : X.mg "sum" = none) (ha : DK X W e mk) (hg : Gl X "sum" := by rfl) (he : starEach (e :: []) X.env = (false, eval e X.env) :: starEach [] X.env := by rfl) (hpl : (backTo pos (starEach [] X.env)).any (·.1) = false := by rfl) : DE X W (.Call (.Name "sum" p) [e] [] pos) (mBK sumD mk) :=
  d_callBK (cr_sum hc) cd_sum hm (by decide +kernel) ha hg (by decide) (by decide) he hpl
/-- the greatest, the least of a list of ints -/
def maxL : List Int → Int
  | [] => 0
  | [i] => i
  | i :: r => maxI i (maxL r)
def minL : List Int → Int
  | [] => 0
  | [i] => i
  | i :: r => minI i (minL r)
theorem maxL_spec : ∀ ns : List Int, ns ≠ [] → maxL ns ∈ ns ∧ ∀ y ∈ ns, y ≤ maxL ns
  | [], h => absurd rfl h
  | [i], _ => ⟨by simp [maxL], fun y hy => by simp at hy; subst hy; simp [maxL]⟩
  | i :: j :: r, _ => by
    obtain ⟨h1, h2⟩ := maxL_spec (j :: r) (by simp)
    have e : maxL (i :: j :: r) = maxI i (maxL (j :: r)) := rfl
    rw [e]
    unfold maxI
    by_cases c : maxL (j :: r) > i
    · rw [if_pos c]
      refine ⟨List.mem_cons_of_mem _ h1, fun y hy => ?_⟩
      rcases List.mem_cons.mp hy with e | hy
      · omega
      · exact h2 y hy
    · rw [if_neg c]
      refine ⟨List.mem_cons_self, fun y hy => ?_⟩
      rcases List.mem_cons.mp hy with e | hy
      · omega
      · have := h2 y hy; omega
theorem minL_spec : ∀ ns : List Int, ns ≠ [] → minL ns ∈ ns ∧ ∀ y ∈ ns, minL ns ≤ y
  | [], h => absurd rfl h
  | [i], _ => ⟨by simp [minL], fun y hy => by simp at hy; subst hy; simp [minL]⟩
  | i :: j :: r, _ => by
    obtain ⟨h1, h2⟩ := minL_spec (j :: r) (by simp)
    have e : minL (i :: j :: r) = minI i (minL (j :: r)) := rfl
    rw [e]
    unfold minI
    by_cases c : minL (j :: r) < i
    · rw [if_pos c]
      refine ⟨List.mem_cons_of_mem _ h1, fun y hy => ?_⟩
      rcases List.mem_cons.mp hy with e | hy
      · omega
      · exact h2 y hy
    · rw [if_neg c]
      refine ⟨List.mem_cons_self, fun y hy => ?_⟩
      rcases List.mem_cons.mp hy with e | hy
      · omega
      · have := h2 y hy; omega
def maxLD : UD := fun x k => match x with
  | .list xs => gotL (intsOf xs) fun ns => ns.isEmpty = false ∧ k (.int (maxL ns))
  | _ => False
def minLD : UD := fun x k => match x with
  | .list xs => gotL (intsOf xs) fun ns => ns.isEmpty = false ∧ k (.int (minL ns))
  | _ => False
theorem cd_maxL : CallK X.K (rMax X.K) maxLD := by
  intro B F H σ S v x k Q r hx h hk
  cases x with
  | list xs =>
    obtain ⟨ns, e, h0, h3⟩ := gotL_elim h
    have e2 := intsOf_ok e
    subst e2
    obtain ⟨p, vs, rfl, hp, d⟩ := hx.lst_inv r.sH
    rw [d.of_ints] at hp
    have hne : ns ≠ [] := fun z => by subst z; cases h0
    obtain ⟨g1, g2⟩ := maxL_spec ns hne
    refine ⟨p, ns, rfl, SqL.of hp, List.length_pos_iff.mpr hne, fun m h1 h2 => ?_⟩
    have em : m = maxL ns := by
      have a := h2 _ g1
      have b := g2 _ h1
      omega
    subst em
    exact hk _ _ F H h3 (Same.refl F) r (.int _)
  | _ => exact (show False from h).elim
theorem cd_minL : CallK X.K (rMin X.K) minLD := by
  intro B F H σ S v x k Q r hx h hk
  cases x with
  | list xs =>
    obtain ⟨ns, e, h0, h3⟩ := gotL_elim h
    have e2 := intsOf_ok e
    subst e2
    obtain ⟨p, vs, rfl, hp, d⟩ := hx.lst_inv r.sH
    rw [d.of_ints] at hp
    have hne : ns ≠ [] := fun z => by subst z; cases h0
    obtain ⟨g1, g2⟩ := minL_spec ns hne
    refine ⟨p, ns, rfl, SqL.of hp, List.length_pos_iff.mpr hne, fun m h1 h2 => ?_⟩
    have em : m = minL ns := by
      have a := h2 _ g1
      have b := g2 _ h1
      omega
    subst em
    exact hk _ _ F H h3 (Same.refl F) r (.int _)
  | _ => exact (show False from h).elim
theorem d_maxL (hc : X.calm = true) (hm : X.mg "max" = none) (ha : DK X W e mk) (hg : Gl X "max" := by rfl) (he : starEach (e :: []) X.env = (false, eval e X.env) :: starEach [] X.env := by rfl) (hpl : (backTo pos (starEach [] X.env)).any (·.1) = false := by rfl) : DE X W (.Call (.Name "max" p) [e] [] pos) (mBK maxLD mk) :=
  d_callBK (cr_max hc) cd_maxL hm (by decide +kernel) ha hg (by decide) (by decide) he hpl
theorem d_minL (hc : X.calm = true) (hm : X.mg "min" = none) (ha : DK X W e mk) (hg : Gl X "min" := by rfl) (he : starEach (e :: []) X.env = (false, eval e X.env) :: starEach [] X.env := by rfl) (hpl : (backTo pos (starEach [] X.env)).any (·.1) = false := by rfl) : DE X W (.Call (.Name "min" p) [e] [] pos) (mBK minLD mk) :=
  d_callBK (cr_min hc) cd_minL hm (by decide +kernel) ha hg (by decide) (by decide) he hpl
/-! ### sorted, of ints -/
def leB (i j : Int) : Bool := decide (i ≤ j)
def srt (ns : List Int) : List Int := ns.mergeSort leB
theorem leB_trans (a b c : Int) : leB a b = true → leB b c = true → leB a c = true := fun h1 h2 => decide_eq_true (Int.le_trans (of_decide_eq_true h1) (of_decide_eq_true h2))
theorem leB_total (a b : Int) : (leB a b || leB b a) = true := by
  unfold leB
  by_cases h : a ≤ b
  · rw [decide_eq_true h]; rfl
  · rw [decide_eq_true (show b ≤ a by omega), Bool.or_true]
theorem srt_perm (ns : List Int) : (srt ns).Perm ns := List.mergeSort_perm ns leB
theorem srt_sorted (ns : List Int) : (srt ns).Pairwise (· ≤ ·) := (List.pairwise_mergeSort leB_trans leB_total ns).imp fun h => of_decide_eq_true h
theorem sorted_one : ∀ {xs ys : List Int}, xs.Perm ys → xs.Pairwise (· ≤ ·) → ys.Pairwise (· ≤ ·) → xs = ys
  | [], ys, p, _, _ => (List.Perm.nil_eq p).symm ▸ rfl
  | x :: xs, [], p, _, _ => absurd p.symm (by intro q; have := q.length_eq; simp at this)
  | x :: xs, y :: ys, p, h1, h2 => by
    have a1 := List.pairwise_cons.mp h1
    have a2 := List.pairwise_cons.mp h2
    have e : x = y := by
      have m1 : x ∈ y :: ys := p.mem_iff.mp List.mem_cons_self
      have m2 : y ∈ x :: xs := p.mem_iff.mpr List.mem_cons_self
      rcases List.mem_cons.mp m1 with e | m1
      · exact e
      · rcases List.mem_cons.mp m2 with e | m2
        · exact e.symm
        · have := a2.1 x m1
          have := a1.1 y m2
          omega
    subst e
    rw [sorted_one (List.Perm.cons_inv p) a1.2 a2.2]
theorem srt_of {xs ys : List Int} (p : xs.Perm ys) (h : xs.Pairwise (· ≤ ·)) : xs = srt ys := sorted_one (p.trans (srt_perm ys).symm) h (srt_sorted ys)
def sortD : UD := fun x k => match x with
  | .list xs => gotL (intsOf xs) fun ns => k (.list ((srt ns).map PyData.int))
  | _ => False
theorem cd_sort : CallK X.K (rSortedI X.K) sortD := by
  intro B F H σ S v x k Q r hx h hk
  cases x with
  | list xs =>
    obtain ⟨ns, e, h3⟩ := gotL_elim h
    have e2 := intsOf_ok e
    subst e2
    obtain ⟨p, vs, rfl, hp, d⟩ := hx.lst_inv r.sH
    rw [d.of_ints] at hp
    refine ⟨p, ns, rfl, SqL.of hp, fun ns' q h1 h2 n => ?_⟩
    rw [srt_of h1 h2]
    exact new_lst r (DqL.ints _) n h3 hk
  | _ => exact (show False from h).elim
theorem d_sorted (hm : X.mg "sorted" = none) (ha : DK X W e mk) (hg : Gl X "sorted" := by rfl) (he : starEach (e :: []) X.env = (false, eval e X.env) :: starEach [] X.env := by rfl) (hpl : (backTo pos (starEach [] X.env)).any (·.1) = false := by rfl) : DE X W (.Call (.Name "sorted" p) [e] [] pos) (mBK sortD mk) :=
  d_callBK cr_sortedI cd_sort hm (by decide +kernel) ha hg (by decide) (by decide) he hpl
/-! ### tuple, list -/
def tupD : UD := fun x k => match x with
  | .list xs => k (.tuple xs)
  | .tuple xs => k (.tuple xs)
  | _ => False
def lstD : UD := fun x k => match x with
  | .list xs => k (.list xs)
  | .tuple xs => k (.list xs)
  | _ => False
theorem cd_tup : CallK X.K (fun xs H Q => ∃ p ys, xs = [.ref p] ∧ ((SqL X.K H p ys ∧ ∀ l, H l = none → Q (.ref l) (upd H l (.tup ys))) ∨ (SqT X.K H p ys ∧ Q (.ref p) H))) tupD := by
  intro B F H σ S v x k Q r hx h hk
  cases x with
  | list xs =>
    obtain ⟨p, vs, rfl, hp, d⟩ := hx.lst_inv r.sH
    exact ⟨p, vs, rfl, .inl ⟨SqL.of hp, fun l n => new_tup r d n h hk⟩⟩
  | tuple xs =>
    have dx := hx.of_nl (fun _ e => by cases e)
    obtain ⟨p, vs, rfl, hp, d⟩ := dx.tup_inv
    exact ⟨p, vs, rfl, .inr ⟨sqT_mono r.sH hp, hk _ _ F H h (Same.refl F) r dx⟩⟩
  | _ => exact (show False from h).elim
theorem cd_lst : CallK X.K (fun xs H Q => ∃ p ys, xs = [.ref p] ∧ (SqL X.K H p ys ∨ SqT X.K H p ys) ∧ ∀ l, H l = none → Q (.ref l) (upd H l (.lst ys))) lstD := by
  intro B F H σ S v x k Q r hx h hk
  cases x with
  | list xs =>
    obtain ⟨p, vs, rfl, hp, d⟩ := hx.lst_inv r.sH
    exact ⟨p, vs, rfl, .inl (SqL.of hp), fun l n => new_lst r d n h hk⟩
  | tuple xs =>
    have dx := hx.of_nl (fun _ e => by cases e)
    obtain ⟨p, vs, rfl, hp, d⟩ := dx.tup_inv
    exact ⟨p, vs, rfl, .inr (sqT_mono r.sH hp), fun l n => new_lst r d n h hk⟩
  | _ => exact (show False from h).elim
theorem d_tuple (hm : X.mg "tuple" = none) (ha : DK X W e mk) (hg : Gl X "tuple" := by rfl) (he : starEach (e :: []) X.env = (false, eval e X.env) :: starEach [] X.env := by rfl) (hpl : (backTo pos (starEach [] X.env)).any (·.1) = false := by rfl) : DE X W (.Call (.Name "tuple" p) [e] [] pos) (mBK tupD mk) :=
  d_callTK call_tuple_of cd_tup hm (by decide +kernel) ha hg (by decide) (by decide) he hpl
theorem d_list (hm : X.mg "list" = none) (ha : DK X W e mk) (hg : Gl X "list" := by rfl) (he : starEach (e :: []) X.env = (false, eval e X.env) :: starEach [] X.env := by rfl) (hpl : (backTo pos (starEach [] X.env)).any (·.1) = false := by rfl) : DE X W (.Call (.Name "list" p) [e] [] pos) (mBK lstD mk) :=
  d_callTK call_list_of cd_lst hm (by decide +kernel) ha hg (by decide) (by decide) he hpl
/-! ### isinstance of a built-in class -/
def tyName : D → String
  | .none => "NoneType"
  | .bool _ => "bool"
  | .int _ => "int"
  | .str _ => "str"
  | .list _ => "list"
  | .tuple _ => "tuple"
  | .dict _ => "dict"
theorem tyx_of {K : PySem.W.Frag} {hp : Option Addr} {F H : Hp} {v : V} {x : D} (s : Same F H) (h : Pk K hp F H v x) : TyX K H v (.type (tyName x)) := by
  rcases h with q | ⟨p, vs, xs, rfl, rfl, _, h1, _, h2⟩
  · cases q with
    | non => exact .base .non
    | bl b => exact .base (.bl b)
    | int i => exact .base (.int i)
    | str i => exact .base (.str i)
    | lst e _ => exact .base (.lst (s _ _ e))
    | tup e _ =>
      rcases e with (e | ⟨o, e⟩) | ⟨o, its, n, e1, e2, _⟩
      · exact .base (.tup (s _ _ e))
      · exact .fTuple (s _ _ e)
      · exact .kTuple e1 e2
  · exact .base (.lst h1)
def isInt : D → Bool
  | .bool _ => true
  | .int _ => true
  | _ => false
def isBool : D → Bool
  | .bool _ => true
  | _ => false
def isTup : D → Bool
  | .tuple _ => true
  | _ => false
def isLst : D → Bool
  | .list _ => true
  | _ => false
def isStr : D → Bool
  | .str _ => true
  | _ => false
theorem kit_int : ∀ x : D, kitB (tyName x) "int" = some (isInt x)
  | .none => by show kitB "NoneType" "int" = some false; decide +kernel
  | .bool _ => by show kitB "bool" "int" = some true; decide +kernel
  | .int _ => by show kitB "int" "int" = some true; decide +kernel
  | .str _ => by show kitB "str" "int" = some false; decide +kernel
  | .list _ => by show kitB "list" "int" = some false; decide +kernel
  | .tuple _ => by show kitB "tuple" "int" = some false; decide +kernel
  | .dict _ => by show kitB "dict" "int" = some false; decide +kernel
theorem kit_bool : ∀ x : D, kitB (tyName x) "bool" = some (isBool x)
  | .none => by show kitB "NoneType" "bool" = some false; decide +kernel
  | .bool _ => by show kitB "bool" "bool" = some true; decide +kernel
  | .int _ => by show kitB "int" "bool" = some false; decide +kernel
  | .str _ => by show kitB "str" "bool" = some false; decide +kernel
  | .list _ => by show kitB "list" "bool" = some false; decide +kernel
  | .tuple _ => by show kitB "tuple" "bool" = some false; decide +kernel
  | .dict _ => by show kitB "dict" "bool" = some false; decide +kernel
theorem kit_tuple : ∀ x : D, kitB (tyName x) "tuple" = some (isTup x)
  | .none => by show kitB "NoneType" "tuple" = some false; decide +kernel
  | .bool _ => by show kitB "bool" "tuple" = some false; decide +kernel
  | .int _ => by show kitB "int" "tuple" = some false; decide +kernel
  | .str _ => by show kitB "str" "tuple" = some false; decide +kernel
  | .list _ => by show kitB "list" "tuple" = some false; decide +kernel
  | .tuple _ => by show kitB "tuple" "tuple" = some true; decide +kernel
  | .dict _ => by show kitB "dict" "tuple" = some false; decide +kernel
theorem kit_list : ∀ x : D, kitB (tyName x) "list" = some (isLst x)
  | .none => by show kitB "NoneType" "list" = some false; decide +kernel
  | .bool _ => by show kitB "bool" "list" = some false; decide +kernel
  | .int _ => by show kitB "int" "list" = some false; decide +kernel
  | .str _ => by show kitB "str" "list" = some false; decide +kernel
  | .list _ => by show kitB "list" "list" = some true; decide +kernel
  | .tuple _ => by show kitB "tuple" "list" = some false; decide +kernel
  | .dict _ => by show kitB "dict" "list" = some false; decide +kernel
theorem kit_str : ∀ x : D, kitB (tyName x) "str" = some (isStr x)
  | .none => by show kitB "NoneType" "str" = some false; decide +kernel
  | .bool _ => by show kitB "bool" "str" = some false; decide +kernel
  | .int _ => by show kitB "int" "str" = some false; decide +kernel
  | .str _ => by show kitB "str" "str" = some true; decide +kernel
  | .list _ => by show kitB "list" "str" = some false; decide +kernel
  | .tuple _ => by show kitB "tuple" "str" = some false; decide +kernel
  | .dict _ => by show kitB "dict" "str" = some false; decide +kernel
def mIsi (f : D → Bool) (mk : TDK) : TD := fun S k => mk S fun w S1 => match w S1 with
  | some x => k (.bool (f x)) S1
  | none => False
theorem d_isi {T : String} {fB : D → Bool} {tn : Str} {p2 : Pos} (kit : ∀ x : D, kitB (tyName x) T = some (fB x)) (hm : X.mg "isinstance" = none) (hmT : X.mg tn = none) (hvT : bootBuiltins tn = some (.type T)) (ha : DK X W a mk) (hg : Gl X "isinstance" := by rfl) (hgT : Gl X tn := by rfl) (hnT : tn ≠ "__name__" := by decide) (hdT : (tn == ("__debug__" : Str)) = false := by decide)
    (he : starEach (a :: [.Name tn p2]) X.env = (false, eval a X.env) :: starEach [.Name tn p2] X.env := by rfl) (hpl : (backTo pos (starEach [.Name tn p2] X.env)).any (·.1) = false := by rfl) (he2 : starEach (.Name tn p2 :: []) X.env = (false, eval (.Name tn p2) X.env) :: starEach [] X.env := by rfl) : DE X W (.Call (.Name "isinstance" p) [a, .Name tn p2] [] pos) (mIsi fB mk) := by
  refine PE.of (pe_callB call_isi hg hm PyProof.Rows.boot_isinstance (pa_cons ha (pa_cons (pe_bltn (v := .ty T) hgT hmT hvT rfl hnT hdT) pa_nil he2) he) (by decide) (by decide) he hpl) fun σ H Q h => ?_
  obtain ⟨B, F, S, k, he, r', h, hk⟩ := h
  refine ⟨B, F, S, _, he, r', h, fun w S1 v F1 H1 h1 s1 r1 q1 => ?_⟩
  cases e : w S1 with
  | none => rw [e] at h1; exact h1.elim
  | some x =>
    rw [e] at h1
    exact ⟨v, .ty T, _, _, fB x, rfl, .ty T, tyx_of r1.sH (q1 F1 H1 S1 x (Same.refl F1) r1 e), kit_ty (kit x), hk _ _ _ F1 H1 h1 s1 r1 (.bl _)⟩
/-! ### in, not in, of data -/
def inD : OD := fun x y k => match y with
  | .list ys => eqOk x (.list ys) = true ∧ k (.bool (ys.any fun z => PyData.eqv z x))
  | .tuple ys => eqOk x (.tuple ys) = true ∧ k (.bool (ys.any fun z => PyData.eqv z x))
  | _ => False
def notInD : OD := fun x y k => match y with
  | .list ys => eqOk x (.list ys) = true ∧ k (.bool (!ys.any fun z => PyData.eqv z x))
  | .tuple ys => eqOk x (.tuple ys) = true ∧ k (.bool (!ys.any fun z => PyData.eqv z x))
  | _ => False
def rInA (K : PySem.W.Frag) : R2 := fun x y H Q => ∃ d ds, Dp K H x d ∧ (Dp K H y (.list ds) ∨ Dp K H y (.tuple ds)) ∧ SeqAt.shaped d = true ∧ PyData.canLayAll0 ds = true ∧ Q (.bl (ds.any fun z => PyData.eqv z d)) H
def rNotInA (K : PySem.W.Frag) : R2 := fun x y H Q => ∃ d ds, Dp K H x d ∧ (Dp K H y (.list ds) ∨ Dp K H y (.tuple ds)) ∧ SeqAt.shaped d = true ∧ PyData.canLayAll0 ds = true ∧ Q (.bl (!ds.any fun z => PyData.eqv z d)) H
theorem op_inA (hu : X.A.units + 65 < cLine) : OpR X (compareOp .In) (rInA X.K) := by
  intro pins s σ H x y v u Q I rx ry h
  obtain ⟨d, ds, hd, he, sd, se, q⟩ := h
  obtain ⟨as, r1⟩ := Dp.reads I d x v hd rx
  rcases he with he | he
  · obtain ⟨bs, r2⟩ := Dp.reads I (.list ds) y u he ry
    exact SeqAt.in_list_reads r2 r1 se (SeqAt.canLay_of_shaped sd) (room_in_shaped sd hu) ⟨.bl _, H, I, rfl, q⟩
  · obtain ⟨bs, r2⟩ := Dp.reads I (.tuple ds) y u he ry
    exact SeqAt.in_tuple_reads r2 r1 se (SeqAt.canLay_of_shaped sd) (room_in_shaped sd hu) ⟨.bl _, H, I, rfl, q⟩
theorem op_notInA (hu : X.A.units + 65 < cLine) : OpR X (compareOp .NotIn) (rNotInA X.K) := by
  intro pins s σ H x y v u Q I rx ry h
  obtain ⟨d, ds, hd, he, sd, se, q⟩ := h
  obtain ⟨as, r1⟩ := Dp.reads I d x v hd rx
  rcases he with he | he
  · obtain ⟨bs, r2⟩ := Dp.reads I (.list ds) y u he ry
    exact SeqAt.notIn_list_reads r2 r1 se (SeqAt.canLay_of_shaped sd) (room_in_shaped sd hu) ⟨.bl _, H, I, rfl, q⟩
  · obtain ⟨bs, r2⟩ := Dp.reads I (.tuple ds) y u he ry
    exact SeqAt.notIn_tuple_reads r2 r1 se (SeqAt.canLay_of_shaped sd) (room_in_shaped sd hu) ⟨.bl _, H, I, rfl, q⟩
theorem lay_list {xs : List D} (h : SeqAt.shaped (.list xs) = true) : PyData.canLayAll0 xs = true := SeqAt.canLay_of_shaped h
theorem lay_tuple {xs : List D} (h : SeqAt.shaped (.tuple xs) = true) : PyData.canLayAll0 xs = true := SeqAt.canLay_of_shaped h
theorem od_in : OpDK2 X.K (rInA X.K) inD := by
  intro B F H σ S v u x y k Q r hx hy h hk
  cases y with
  | list ys =>
    obtain ⟨h1, h2⟩ := h
    exact ⟨x, ys, (hx.up r.sH).dp, .inl (hy.dp r.sH), (eqOk_l h1).1, lay_list (eqOk_l h1).2, hk _ _ F H h2 (Same.refl F) r (.bl _)⟩
  | tuple ys =>
    obtain ⟨h1, h2⟩ := h
    exact ⟨x, ys, (hx.up r.sH).dp, .inr (hy.dp r.sH), (eqOk_l h1).1, lay_tuple (eqOk_l h1).2, hk _ _ F H h2 (Same.refl F) r (.bl _)⟩
  | _ => exact (show False from h).elim
theorem od_notIn : OpDK2 X.K (rNotInA X.K) notInD := by
  intro B F H σ S v u x y k Q r hx hy h hk
  cases y with
  | list ys =>
    obtain ⟨h1, h2⟩ := h
    exact ⟨x, ys, (hx.up r.sH).dp, .inl (hy.dp r.sH), (eqOk_l h1).1, lay_list (eqOk_l h1).2, hk _ _ F H h2 (Same.refl F) r (.bl _)⟩
  | tuple ys =>
    obtain ⟨h1, h2⟩ := h
    exact ⟨x, ys, (hx.up r.sH).dp, .inr (hy.dp r.sH), (eqOk_l h1).1, lay_tuple (eqOk_l h1).2, hk _ _ F H h2 (Same.refl F) r (.bl _)⟩
  | _ => exact (show False from h).elim
theorem dg_in (hu : X.A.units + 65 < cLine) (ha : DE X W a ma) (hb : DK X W b mk) (hm : behindInMarks .In b = false := by rfl) : DE X W (.Compare a [.In] [b] pos) (mOpK2 inD ma mk) := d_cmpK2 (op_inA hu) od_in ha hb hm
theorem dg_notIn (hu : X.A.units + 65 < cLine) (ha : DE X W a ma) (hb : DK X W b mk) (hm : behindInMarks .NotIn b = false := by rfl) : DE X W (.Compare a [.NotIn] [b] pos) (mOpK2 notInD ma mk) := d_cmpK2 (op_notInA hu) od_notIn ha hb hm
theorem dt_in (hu : X.A.units + 65 < cLine) (ha : DE X W a ma) (hb : DK X W b mk) (hm : behindInMarks .In b = false := by rfl) : DT X W (.Compare a [.In] [b] pos) (mTst (mOpK2 inD ma mk)) := dt_cmpK2 (op_inA hu) od_in ha hb hm
theorem dt_notIn (hu : X.A.units + 65 < cLine) (ha : DE X W a ma) (hb : DK X W b mk) (hm : behindInMarks .NotIn b = false := by rfl) : DT X W (.Compare a [.NotIn] [b] pos) (mTst (mOpK2 notInD ma mk)) := dt_cmpK2 (op_notInA hu) od_notIn ha hb hm
/-! ### repr -/
/-! a bound of a text's length -/
mutual
def rw' : D → Nat
  | .none => 4
  | .bool _ => 5
  | .int _ => 2000
  | .str x => if x.cps.toList.all (fun c => c.blt 1000) = true then 10 * x.length + 2 else 100000000
  | .list xs => rwL xs + 3
  | .tuple xs => rwL xs + 3
  | .dict _ => 100000000
def rwL : List D → Nat
  | [] => 0
  | x :: xs => rw' x + 2 + rwL xs
end
end
mutual
theorem rw_ok : ∀ d : D, d.showable = true → rw' d < 100000000 → d.shown.length ≤ rw' d
  | .none, _, _ => by decide
  | .bool b, _, _ => by cases b <;> decide
  | .int i, h, _ => by
    have h : decide (i.natAbs.log2 < 1920) = true := h
    have e := int_text_length_le (k := 1920) (by decide) (of_decide_eq_true h)
    show (Str.ofString (toString i)).length ≤ 2000
    rw [PySem.ofString_length]; omega
  | .str x, _, h => by
    have h : (if x.cps.toList.all (fun c => c.blt 1000) = true then 10 * x.length + 2 else 100000000) < 100000000 := h
    show (reprText x).length ≤ (if x.cps.toList.all (fun c => c.blt 1000) = true then 10 * x.length + 2 else 100000000)
    by_cases c : x.cps.toList.all (fun c => c.blt 1000) = true
    · rw [if_pos c]
      have e := PySem.StrLaws.reprText_len x (fun z hz => Nat.lt_trans (Nat.le_of_ble_eq_true (List.all_eq_true.mp c z hz)) (by decide))
      have e2 : x.length = x.cps.size := rfl
      omega
    · rw [if_neg c] at h; exact absurd h (by decide)
  | .list xs, h, hl => by
    have h : PyData.showableAll xs = true := h
    have hl : rwL xs + 3 < 100000000 := hl
    have h1 := rwL_ok xs h (by omega)
    have h2 := listText_len_le (PyData.shownAll xs)
    have h3 := PyData.shownAll_length xs
    show (listText (PyData.shownAll xs)).length ≤ rwL xs + 3
    omega
  | .tuple xs, h, hl => by
    have h : PyData.showableAll xs = true := h
    have hl : rwL xs + 3 < 100000000 := hl
    have h1 := rwL_ok xs h (by omega)
    have h2 := tupleText_len_le (PyData.shownAll xs)
    have h3 := PyData.shownAll_length xs
    show (tupleText (PyData.shownAll xs)).length ≤ rwL xs + 3
    omega
  | .dict _, _, hl => absurd (show (100000000 : Nat) < 100000000 from hl) (by decide)
theorem rwL_ok : ∀ xs : List D, PyData.showableAll xs = true → rwL xs < 100000000 → ((PyData.shownAll xs).map (·.length)).sum + 2 * xs.length ≤ rwL xs
  | [], _, _ => Nat.le_refl _
  | x :: xs, h, hl => by
    have h : (x.showable && PyData.showableAll xs) = true := h
    have hl : rw' x + 2 + rwL xs < 100000000 := hl
    rw [Bool.and_eq_true] at h
    have h1 := rw_ok x h.1 (by omega)
    have h2 := rwL_ok xs h.2 (by omega)
    show ((PyData.shown x :: PyData.shownAll xs).map (·.length)).sum + 2 * (xs.length + 1) ≤ rw' x + 2 + rwL xs
    rw [List.map_cons, List.sum_cons]
    omega
end
def reprOk (x : D) : Bool := x.showable && (rw' x).ble 1000000 && x.depth.ble 60 && !x.hasDict
theorem reprOk_l {x : D} (h : reprOk x = true) : x.showable = true ∧ x.shown.length ≤ sizeLine ∧ x.depth ≤ 60 ∧ x.hasDict = false := by
  unfold reprOk at h
  simp only [Bool.and_eq_true, Bool.not_eq_true'] at h
  obtain ⟨⟨⟨h1, h2⟩, h3⟩, h4⟩ := h
  have e2 := Nat.le_of_ble_eq_true h2
  have e3 := rw_ok x h1 (by omega)
  exact ⟨h1, by rw [sizeLine_eq]; omega, Nat.le_of_ble_eq_true h3, h4⟩
def reprD : UD := fun x k => reprOk x = true ∧ k (.str x.shown)
def rRepr (K : PySem.W.Frag) : List V → Hp → VK → Prop := fun xs H Q => ∃ x d, xs = [x] ∧ Dp K H x d ∧ reprOk d = true ∧ Q (.str d.shown) H
section
variable {X : Cx} {W : Wx} {pos p : Pos} {e : Expr} {mk : TDK}
theorem call_repr' (hg : X.A.guards = some []) (hu : X.A.units + 64 < cLine) : CallR X (.builtin "repr") (rRepr X.K) := by
  intro pins s σ H xs us Q I r h
  obtain ⟨x, d, rfl, hd, ok, q⟩ := h
  obtain ⟨u, rfl, rx⟩ := vals1 r
  obtain ⟨h1, h2, h3, h4⟩ := reprOk_l ok
  cases hd with
  | non => cases rx; exact PySem.P.repr_of_none ⟨.str _, H, I.tok _, ⟨_, rfl⟩, q⟩
  | bl b => cases rx; exact PySem.P.repr_of_bool ⟨.str _, H, I.tok _, ⟨_, by cases b <;> rfl⟩, q⟩
  | int i =>
    obtain ⟨t, rfl⟩ := rx
    exact PySem.P.repr_of_int (of_decide_eq_true h1) ⟨.str _, H, I.tok _, ⟨_, rfl⟩, q⟩
  | str i =>
    obtain ⟨t, rfl⟩ := rx
    exact PySem.P.repr_of_str ⟨.str _, H, I.tok _, ⟨_, rfl⟩, q⟩ h2
  | lst hs ha =>
    obtain ⟨as, hr⟩ := Dp.reads I _ _ _ (.lst hs ha) rx
    cases rx
    exact repr_of_reads' hr h1 (PyData.noDict_hsm h4) hg (by omega) (fun _ _ e => e) (fun h' u tk hk => ⟨.str _, H, I.kept (t' := tk) hk, ⟨_, rfl⟩, q⟩) h2
  | tup hs ha =>
    obtain ⟨as, hr⟩ := Dp.reads I _ _ _ (.tup hs ha) rx
    cases rx
    exact repr_of_reads' hr h1 (PyData.noDict_hsm h4) hg (by omega) (fun _ _ e => e) (fun h' u tk hk => ⟨.str _, H, I.kept (t' := tk) hk, ⟨_, rfl⟩, q⟩) h2
theorem cd_repr : CallK X.K (rRepr X.K) reprD := by
  intro B F H σ S v x k Q r hx h hk
  exact ⟨v, x, rfl, hx.dp r.sH, h.1, hk _ _ F H h.2 (Same.refl F) r (.str _)⟩
theorem d_repr (hgd : X.A.guards = some []) (hu : X.A.units + 64 < cLine) (hm : X.mg "repr" = none) (ha : DK X W e mk) (hg : Gl X "repr" := by rfl) (he : starEach (e :: []) X.env = (false, eval e X.env) :: starEach [] X.env := by rfl) (hpl : (backTo pos (starEach [] X.env)).any (·.1) = false := by rfl) : DE X W (.Call (.Name "repr" p) [e] [] pos) (mBK reprD mk) :=
  d_callBK (call_repr' hgd hu) cd_repr hm (by decide +kernel) ha hg (by decide) (by decide) he hpl
end
end DL

set_option Elab.async false
set_option linter.all false
set_option maxRecDepth 100000
set_option maxHeartbeats 4000000
/-! The data layer, 5: statements. -/
namespace DL
open PySem PySem.Spec PyProof.Rows L2

section
variable {K : PySem.W.Frag} {B : Bs} {F F' H H' : Hp} {σ : St} {S : Sd} {h' : Hd}
/-- behind code that began at F, H (a call, a block) -/
theorem Rp.over (r : Rp K B F H σ S) (e : Ev K (B.to F H) F' H' h') : Rp K B F' H' σ { S with h := h' } := by
  have ownne : ∀ p, B.H p = none → B.hp ≠ some p := fun p n z => by
    obtain ⟨⟨o, h0⟩, _⟩ := r.ev.hand p z
    rw [n] at h0; cases h0
  refine ⟨⟨r.ev.sF.trans e.sF, e.sH, fun p o hb hn nt => e.keep p o (r.ev.keep p o hb hn nt) hn nt, fun p hb => e.live p (r.ev.live p hb), fun p o hb hf => ?_, fun p hp' => ⟨(r.ev.hand p hp').1, (e.hand p hp').2⟩, e.tab⟩, fun i v q => (r.sl i v q).step e.sF fun p xs b f g => ⟨e.unf p _ g f, e.keep p _ g (ownne p b) lst_nt⟩, r.ap, r.ln⟩
  · have f := r.ev.unf p o hb hf
    cases q : H p with
    | none => exact absurd q (r.ev.live p (by rw [hb]; exact fun w => nomatch w))
    | some o' => exact e.unf p o' q f
/-- an untracked-by-slots list is written -/
theorem Rp.touch (r : Rp K B F H σ S) {p : Addr} {o : HO} {vs : List V} (bp : B.H p = none) (fp : F p = none) (hp : H p = some (.lst vs)) (na : ∀ (i : Nat) ys, S.env[i]? = some (.own ys) → σ[i]? ≠ some (some (.ref p))) : Rp K B F (upd H p o) σ S := by
  have nb : ∀ q u, B.H q = some u → q ≠ p := fun q u e => ne_of_none e bp
  have nf : ∀ q u, F q = some u → q ≠ p := fun q u e => ne_of_none e fp
  refine ⟨⟨r.ev.sF, fun q u e => by rw [upd_ne (nf q u e)]; exact r.sH _ _ e, fun q u e hq nt => by rw [upd_ne (nb q u e)]; exact r.ev.keep q u e hq nt, fun q e => live_upd (r.ev.live q e), r.ev.unf, fun q e => ?_, tabs_upd r.ev.tab (.inr ⟨_, hp⟩)⟩, fun i v e => ?_, r.ap, r.ln⟩
  · obtain ⟨⟨ob, h0⟩, b, c, h1, h2⟩ := r.ev.hand q e
    exact ⟨⟨ob, h0⟩, b, c, by rw [upd_ne (nb q ob h0)]; exact h1, h2⟩
  · have x := r.sl i v e
    cases v with
    | own xs =>
      obtain ⟨q, ws, e1, b1, f1, g1, d1⟩ := x
      have hq : q ≠ p := fun z => na i xs e (by rw [e1, z])
      exact ⟨q, ws, e1, b1, f1, by rw [upd_ne hq]; exact g1, d1⟩
    | no => trivial
    | d y => exact x
    | pk y => exact x
    | scr ns => exact x
    | hand => exact x
end

/-! ### targets -/
inductive Tg where
  | one (i : Nat)
  | many (is : List Nat)
def tgsL : List Nat → TGs
  | [] => gNil
  | i :: r => gCons (gName i) (tgsL r)
def tgL (K : PySem.W.Frag) : Tg → TG
  | .one i => gName i
  | .many is => gTup K is.length (tgsL is)
def setAll : St → List Nat → List V → St
  | σ, i :: is, v :: vs => setAll (σ.set i (some v)) is vs
  | σ, _, _ => σ
def putAll : List Sv → List Nat → List D → List Sv
  | E, i :: is, x :: xs => putAll (E.set i (.d x)) is xs
  | E, _, _ => E
def tgD (T : Tg) (x : D) (S : Sd) (k : Sd → Prop) : Prop := match T with
  | .one i => k { S with env := S.env.set i (.d x) }
  | .many is => match x with
    | .tuple xs => Nat.beq xs.length is.length = true ∧ k { S with env := putAll S.env is xs }
    | _ => False
theorem tgs_run : ∀ {is : List Nat} {vs : List V} {σ : St} {H : Hp} {Q : St → Hp → Prop}, vs.length = is.length → Q (setAll σ is vs) H → tgsL is vs σ H Q
  | [], [], _, _, _, _, q => ⟨rfl, q⟩
  | [], _ :: _, _, _, _, h, _ => by simp at h
  | _ :: _, [], _, _, _, h, _ => by simp at h
  | i :: is, v :: vs, σ, H, Q, h, q => ⟨v, vs, rfl, tgs_run (by simpa using h) q⟩
theorem Rp.puts {K : PySem.W.Frag} {B : Bs} {F H : Hp} : ∀ {is : List Nat} {vs : List V} {xs : List D} {σ : St} {S : Sd}, Rp K B F H σ S → DqL K F vs xs → Rp K B F H (setAll σ is vs) { S with env := putAll S.env is xs }
  | [], _, _, _, _, r, _ => by simpa [setAll, putAll] using r
  | _ :: _, _, _, _, _, r, .nil => by simpa [setAll, putAll] using r
  | i :: is, _, _, σ, S, r, .cons q t => by
    show Rp K B F H (setAll (σ.set i (some _)) is _) { S with env := putAll (S.env.set i (.d _)) is _ }
    exact Rp.puts (S := { S with env := S.env.set i (.d _) }) (r.put q) t
def tgEnd (T : Tg) (σ : St) (v : V) (vs : List V) : St := match T with
  | .one i => σ.set i (some v)
  | .many is => setAll σ is vs
theorem tg_run {K : PySem.W.Frag} {B : Bs} {F H : Hp} {σ : St} {S : Sd} {T : Tg} {v : V} {x : D} {k : Sd → Prop} {Q : St → Hp → Prop} (r : Rp K B F H σ S) (q : Dq K F v x) (h : tgD T x S k)
    (hk : ∀ S' vs, k S' → Rp K B F H (tgEnd T σ v vs) S' → Q (tgEnd T σ v vs) H) : tgL K T v σ H Q := by
  cases T with
  | one i => exact hk _ [] h (r.put q)
  | many is =>
    cases x with
    | tuple xs =>
      obtain ⟨h1, h2⟩ := h
      obtain ⟨a, vs, rfl, ha, d⟩ := q.tup_inv
      have hl : vs.length = is.length := d.len.trans (Nat.eq_of_beq_eq_true h1)
      exact ⟨a, vs, rfl, sqT_mono r.sH ha, hl, tgs_run hl (hk _ vs h2 (r.puts d))⟩
    | _ => exact (show False from h).elim

section
variable {X : Cx} {W : Wx} {pos pos' p : Pos} {e c tg : Expr} {es : List Expr} {m me mi : TD} {mn : TDN} {ms : TDA} {mc : TDT} {i j : Nat} {x y : Str} {st : Stmt} {rest body a b : List Stmt} {n1 n2 : TDS} {T : Tg}
/-! ### assignment -/
def mSet (i : Nat) (m : TD) : TDS := fun S K => m S fun x S1 => K.nx { S1 with env := S1.env.set i (.d x) }
def mOwn (i : Nat) (mn : TDN) : TDS := fun S K => mn S fun xs S1 => K.nx { S1 with env := S1.env.set i (.own xs) }
def mTgt (T : Tg) (m : TD) : TDS := fun S K => m S fun x S1 => tgD T x S1 K.nx
theorem t_set {t : TE} (ht : ∀ σ H Q, tE X.K X.mg W m σ H Q → t σ H Q) : ∀ D σ H, tS X.K X.mg W (mSet i m) D σ H → tAsg t (gName i) D σ H := by
  rintro D σ H ⟨B, F, S, k, he, r, h, hn, _⟩
  exact ht σ H _ ⟨B, F, S, _, he, r, h, fun x S1 v F1 H1 h1 s1 r1 q1 => hn _ _ F1 H1 h1 s1 (r1.put q1)⟩
theorem t_own {t : TE} (ht : ∀ σ H Q, tN X.K X.mg W mn σ H Q → t σ H Q) : ∀ D σ H, tS X.K X.mg W (mOwn i mn) D σ H → tAsg t (gName i) D σ H := by
  rintro D σ H ⟨B, F, S, k, he, r, h, hn, _⟩
  exact ht σ H _ ⟨B, F, S, _, he, r, h, fun xs S1 p vs F1 H1 h1 s1 r1 b f g q na => hn _ _ F1 H1 h1 s1 (r1.putOwn b f g q na)⟩
theorem ds_set (hN : X.N.Nodup) (he : DE X W e m) (i : Nat) (hi : X.N[i]? = some x := by rfl) (hx : Loc X.env.scope x := by first | exact Or.inl rfl | exact Or.inr rfl) (hs : swapsWith e (some (.Name x pos')) pos.line X.env = pure false := by rfl) (hf : X.fn x = true ∨ X.env.scope.names.lookup x = some .local := by first | exact .inl rfl | exact .inr rfl) :
    DS X W (.Assign [.Name x pos'] e pos) (mSet i m) := PS.of (ps_set hN hi hx he hs hf) (t_set fun _ _ _ h => h)
theorem ds_own (hN : X.N.Nodup) (he : DN X W e mn) (i : Nat) (hi : X.N[i]? = some x := by rfl) (hx : Loc X.env.scope x := by first | exact Or.inl rfl | exact Or.inr rfl) (hs : swapsWith e (some (.Name x pos')) pos.line X.env = pure false := by rfl) (hf : X.fn x = true ∨ X.env.scope.names.lookup x = some .local := by first | exact .inl rfl | exact .inr rfl) :
    DS X W (.Assign [.Name x pos'] e pos) (mOwn i mn) := PS.of (ps_set hN hi hx he hs hf) (t_own fun _ _ _ h => h)
theorem ds_tgt (he : DE X W e m) (hg : PG X tg (tgL X.K T)) (hs : swapsWithSole [tg] e pos.line X.env = pure false := by rfl) (hw : swappedStores [tg] e X.env = pure none := by rfl)
    (h1 : (assignEach [tg] X.env).map (·.2) = [assign tg X.env] := by rfl) : DS X W (.Assign [tg] e pos) (mTgt T m) := by
  refine PS.of (ps_asg he hg hs hw h1) ?_
  rintro D σ H ⟨B, F, S, k, he, r, h, hn, _⟩
  exact ⟨B, F, S, _, he, r, h, fun x S1 v F1 H1 h1 s1 r1 q1 => tg_run r1 q1 h1 fun S' vs hk r2 => hn _ _ F1 H1 hk s1 r2⟩
def mPar (i j : Nat) (ms : TDA) : TDS := fun S K => ms S fun xs S1 => match xs with
  | [x, y] => K.nx { S1 with env := (S1.env.set i (.d x)).set j (.d y) }
  | _ => False
theorem ds_par {ea eb : Expr} {px py pt : Pos} {kt k2 pt2} (hc : X.calm = true) (hN : X.N.Nodup) (ha : DA X W [ea, eb] ms) (i j : Nat) (hi : X.N[i]? = some x := by rfl) (hj : X.N[j]? = some y := by rfl) (hij : i ≠ j := by decide)
    (hx : X.env.scope.names.lookup x = some .local := by rfl) (hy : X.env.scope.names.lookup y = some .local := by rfl)
    (hw : swappedStores [.Tuple [.Name x px, .Name y py] kt pt] (.Tuple [ea, eb] k2 pt2) X.env = pure (some [x, y]) := by rfl)
    (hs : swapsWithSole [.Tuple [.Name x px, .Name y py] kt pt] (.Tuple [ea, eb] k2 pt2) pos.line X.env = pure false := by rfl) :
    DS X W (.Assign [.Tuple [.Name x px, .Name y py] kt pt] (.Tuple [ea, eb] k2 pt2) pos) (mPar i j ms) := by
  refine PS.of (ps_par hc hN hi hj hij hx hy ha hw hs) ?_
  rintro D σ H ⟨B, F, S, k, he, r, h, hn, _⟩
  refine ⟨B, F, S, _, he, r, h, fun xs S1 vs F1 H1 h1 s1 r1 q1 => ?_⟩
  match xs, vs, q1, h1 with
  | [u, v], _, .cons q (.cons q' .nil), h1 => exact ⟨_, _, rfl, hn _ _ F1 H1 h1 s1 ((r1.put q).put q')⟩
  | [], _, _, h1 => exact (show False from h1).elim
  | [_], _, _, h1 => exact (show False from h1).elim
  | _ :: _ :: _ :: _, _, _, h1 => exact (show False from h1).elim
/-! ### return, blocks, if -/
def mRet (m : TD) : TDS := fun S K => m S fun x S1 => K.rt x S1
theorem ds_ret (he : DE X W e m) : DS X W (.Return (some e) pos) (mRet m) := by
  refine PS.of (ps_ret he) ?_
  rintro D σ H ⟨B, F, S, k, he, r, h, _, hr, _⟩
  exact ⟨B, F, S, _, he, r, h, fun x S1 v F1 H1 h1 s1 r1 q1 => hr x S1 v F1 H1 h1 s1 r1.ev q1⟩
def mNext : TDS := fun S K => K.nx S
theorem db_nil : DB X W [] mNext := by
  refine PSs.of pss_nil ?_
  rintro D σ H ⟨B, F, S, k, he, r, h, hn, _⟩
  exact hn _ _ F H h (Same.refl F) r
def mSeq (n1 n2 : TDS) : TDS := fun S K => n1 S ⟨fun S1 => n2 S1 K, K.rt, K.bk, K.ct⟩
theorem db_cons (h1 : DS X W st n1) (h2 : DB X W rest n2) : DB X W (st :: rest) (mSeq n1 n2) := by
  refine PSs.of (pss_cons h1 h2) ?_
  rintro D σ H ⟨B, F, S, k, he, r, h, hn, hr, hb, hc⟩
  refine ⟨B, F, S, _, he, r, h, fun S1 σ1 F1 H1 g1 s1 r1 => ?_, hr, hb, hc⟩
  exact ⟨B, F1, S1, k, he, r1, g1, fun S2 σ2 F2 H2 g s r2 => hn _ _ _ _ g (s1.trans s) r2, fun x S2 v F2 H2 g s r2 q => hr _ _ _ _ _ g (s1.trans s) r2 q, fun S2 σ2 F2 H2 g s r2 => hb _ _ _ _ g (s1.trans s) r2, fun S2 σ2 F2 H2 g s r2 => hc _ _ _ _ g (s1.trans s) r2⟩
theorem db_one (h1 : DS X W st n1) : DB X W [st] n1 := pss_one h1
def mIfS (mc : TDT) (n1 n2 : TDS) : TDS := fun S K => mc S fun b S1 => br b (n1 S1 K) (n2 S1 K)
theorem ds_if (hc : DT X W c mc) (ha : DB X W a n1) (hb : DB X W b n2) : DS X W (.If c a b pos) (mIfS mc n1 n2) := by
  refine PS.of (ps_if hc ha hb) ?_
  rintro D σ H ⟨B, F, S, k, he, r, h, hn, hr, hb, hc⟩
  refine ⟨B, F, S, _, he, r, h, fun d S1 F1 H1 h1 s1 r1 => ?_⟩
  cases d with
  | true =>
    rw [if_pos rfl]
    exact ⟨B, F1, S1, k, he, r1, h1, fun S2 σ2 F2 H2 g s r2 => hn _ _ _ _ g (s1.trans s) r2, fun x S2 v F2 H2 g s r2 q => hr _ _ _ _ _ g (s1.trans s) r2 q, fun S2 σ2 F2 H2 g s r2 => hb _ _ _ _ g (s1.trans s) r2, fun S2 σ2 F2 H2 g s r2 => hc _ _ _ _ g (s1.trans s) r2⟩
  | false =>
    rw [if_neg Bool.false_ne_true]
    exact ⟨B, F1, S1, k, he, r1, h1, fun S2 σ2 F2 H2 g s r2 => hn _ _ _ _ g (s1.trans s) r2, fun x S2 v F2 H2 g s r2 q => hr _ _ _ _ _ g (s1.trans s) r2 q, fun S2 σ2 F2 H2 g s r2 => hb _ _ _ _ g (s1.trans s) r2, fun S2 σ2 F2 H2 g s r2 => hc _ _ _ _ g (s1.trans s) r2⟩
def mBrk : TDS := fun S K => K.bk S
theorem ds_break : DS X W (.Break pos) mBrk := by
  refine PS.of ps_break ?_
  rintro D σ H ⟨B, F, S, k, he, r, h, hn, hr, hb, hc⟩
  exact hb _ _ F H h (Same.refl F) r
/-- never reached -/
def mNever : TDS := fun _ _ => False
theorem ds_never : DS X W st mNever := PS.of ps_never fun D σ H ⟨_, _, _, _, _, _, h, _⟩ => h
/-! ### own lists: append, extend, a place -/
def onOwn (v : Sv) (f : List D → Prop) : Prop := match v with
  | .own xs => f xs
  | _ => False
theorem onOwn_elim {v : Sv} {f : List D → Prop} (h : onOwn v f) : ∃ xs, v = .own xs ∧ f xs := by
  cases v <;> first | exact ⟨_, rfl, h⟩ | exact h.elim
theorem own_at {S : Sd} {i : Nat} {xs : List D} (e : at' S.env i = .own xs) : S.env[i]? = some (.own xs) := by
  have g := at'_get (l := S.env) (i := i)
  rw [e] at g
  rcases g with g | g
  · cases g
  · exact g
def mApp (i : Nat) (m : TD) : TDS := fun S K => onOwn (at' S.env i) fun _ => m S fun y S1 => onOwn (at' S1.env i) fun xs => big xs.length = true ∧ K.nx { S1 with env := S1.env.set i (.own (xs ++ [y])) }
theorem ds_append {ap p2 : Pos} (he : DE X W e m) (i : Nat) (hN : X.N[i]? = some x := by rfl) (hv : Vis X.env.scope x := by first | exact Or.inl rfl | exact Or.inr (Or.inl rfl) | exact Or.inr (Or.inr rfl)) (hd : (x == ("__debug__" : Str)) = false := by decide) (hcd : (x == ("__classdict__" : Str)) = false := by decide)
    (hb : PE X (.Call (.Attribute (.Name x p) "append" ap) [e] [] pos) (tBM X.K "list" rAppend (tVar i) (tCons (tE X.K X.mg W m) tNil))) (hs : swapsWith (.Call (.Attribute (.Name x p) "append" ap) [e] [] pos) none p2.line X.env = pure false := by rfl) :
    DS X W (.Expr (.Call (.Attribute (.Name x p) "append" ap) [e] [] pos) p2) (mApp i m) := by
  refine PS.of (ps_expr hb hs) ?_
  rintro D σ H ⟨B, F, S, k, he, r, h, hn, hr, hb, hc⟩
  obtain ⟨xs0, e0, h⟩ := onOwn_elim h
  obtain ⟨pa, vs, e1, b1, f1, g1, d1⟩ := r.sl i _ (own_at e0)
  refine ⟨.ref pa, e1, .inl ⟨rfl, _, SqL.of g1⟩, B, F, S, _, he, r, h, fun y S1 v F1 H1 h1 s1 r1 q1 => ?_⟩
  obtain ⟨xs, e2, hz, h2⟩ := onOwn_elim h1
  obtain ⟨pb, ws, e3, b3, f3, g3, d3⟩ := r1.sl i _ (own_at e2)
  have hp : pb = pa := by rw [e1] at e3; cases e3; rfl
  subst hp
  refine ⟨pb, ws, v, rfl, rfl, g3, by rw [d3.len]; exact big_lt hz, ?_⟩
  exact hn _ _ F1 _ h2 s1 (r1.write (own_at e2) e1 (d3.snoc q1))
def mExt (i : Nat) (m : TD) : TDS := fun S K => onOwn (at' S.env i) fun _ => m S fun y S1 => match y with
  | .list ys => onOwn (at' S1.env i) fun xs => big (xs.length + ys.length) = true ∧ K.nx { S1 with env := S1.env.set i (.own (xs ++ ys)) }
  | _ => False
theorem ds_extend {ap p2 : Pos} (he : DE X W e m) (i : Nat) (hN : X.N[i]? = some x := by rfl) (hv : Vis X.env.scope x := by first | exact Or.inl rfl | exact Or.inr (Or.inl rfl) | exact Or.inr (Or.inr rfl)) (hd : (x == ("__debug__" : Str)) = false := by decide) (hcd : (x == ("__classdict__" : Str)) = false := by decide)
    (hb : PE X (.Call (.Attribute (.Name x p) "extend" ap) [e] [] pos) (tBM X.K "list" rExtend (tVar i) (tCons (tE X.K X.mg W m) tNil))) (hs : swapsWith (.Call (.Attribute (.Name x p) "extend" ap) [e] [] pos) none p2.line X.env = pure false := by rfl) :
    DS X W (.Expr (.Call (.Attribute (.Name x p) "extend" ap) [e] [] pos) p2) (mExt i m) := by
  refine PS.of (ps_expr hb hs) ?_
  rintro D σ H ⟨B, F, S, k, he, r, h, hn, hr, hb, hc⟩
  obtain ⟨xs0, e0, h⟩ := onOwn_elim h
  obtain ⟨pa, vs, e1, b1, f1, g1, d1⟩ := r.sl i _ (own_at e0)
  refine ⟨.ref pa, e1, .inl ⟨rfl, _, SqL.of g1⟩, B, F, S, _, he, r, h, fun y S1 v F1 H1 h1 s1 r1 q1 => ?_⟩
  cases y with
  | list ys =>
    obtain ⟨xs, e2, hz, h2⟩ := onOwn_elim h1
    obtain ⟨pb, ws, e3, b3, f3, g3, d3⟩ := r1.sl i _ (own_at e2)
    have hp : pb = pa := by rw [e1] at e3; cases e3; rfl
    subst hp
    obtain ⟨q, us, rfl, hq, dq⟩ := q1.lst_inv
    refine ⟨pb, q, ws, us, rfl, rfl, g3, r1.sH _ _ hq, by rw [d3.len, dq.len]; exact big_le hz, ?_⟩
    exact hn _ _ F1 _ h2 s1 (r1.write (own_at e2) e1 (d3.app dq))
  | _ => exact (show False from h1).elim
def mSetIx (i : Nat) (me mi : TD) : TDS := fun S K => me S fun y S1 => onOwn (at' S1.env i) fun _ => mi S1 fun z S2 => match z with
  | .int l => onOwn (at' S2.env i) fun xs => gotL (ixN xs.length l) fun j => K.nx { S2 with env := S2.env.set i (.own (xs.set j y)) }
  | _ => False
theorem ds_setIx {ei : Expr} {tp : Pos} (he : DE X W e me) (hi : DE X W ei mi) (i : Nat) (hN : X.N[i]? = some x := by rfl) (hv : Vis X.env.scope x := by first | exact Or.inl rfl | exact Or.inr (Or.inl rfl) | exact Or.inr (Or.inr rfl)) (hd : (x == ("__debug__" : Str)) = false := by decide) (hcd : (x == ("__classdict__" : Str)) = false := by decide)
    (hg : PG X (.Subscript (.Name x p) ei tp) (gSub (tVar i) (tE X.K X.mg W mi) rSetL)) (hs : swapsWithSole [.Subscript (.Name x p) ei tp] e pos.line X.env = pure false := by rfl) (hw : swappedStores [.Subscript (.Name x p) ei tp] e X.env = pure none := by rfl)
    (h1 : (assignEach [.Subscript (.Name x p) ei tp] X.env).map (·.2) = [assign (.Subscript (.Name x p) ei tp) X.env] := by rfl) : DS X W (.Assign [.Subscript (.Name x p) ei tp] e pos) (mSetIx i me mi) := by
  refine PS.of (ps_asg he hg hs hw h1) ?_
  rintro D σ H ⟨B, F, S, k, he, r, h, hn, hr, hb, hc⟩
  refine ⟨B, F, S, _, he, r, h, fun y S1 v F1 H1 g1 s1 r1 q1 => ?_⟩
  obtain ⟨xs0, e0, g1⟩ := onOwn_elim g1
  obtain ⟨pa, vs, e1, b1, f1, k1, d1⟩ := r1.sl i _ (own_at e0)
  refine ⟨.ref pa, e1, B, F1, S1, _, he, r1, g1, fun z S2 w F2 H2 g2 s2 r2 q2 => ?_⟩
  cases z with
  | int l =>
    obtain ⟨xs, e2, g2⟩ := onOwn_elim g2
    obtain ⟨j, ej, g3⟩ := gotL_elim g2
    obtain ⟨pb, ws, e3, b3, f3, k3, d3⟩ := r2.sl i _ (own_at e2)
    have hp : pb = pa := by rw [e1] at e3; cases e3; rfl
    subst hp
    cases q2
    refine ⟨pb, ws, l, j, rfl, rfl, k3, by rw [d3.len]; exact ej, ?_⟩
    exact hn _ _ F2 _ g3 (s1.trans s2) (r2.write (own_at e2) e1 (d3.set (q1.up s2) j))
  | _ => exact (show False from g2).elim

/-! ### what is walked -/
abbrev TDI := Sd → (List D → Sd → Prop) → Prop
def Yld (K : PySem.W.Frag) (F H H' : Hp) (v : V) (x : D) : Prop := (H' = H ∧ Dq K F v x) ∨ ∃ T vs xs, H T = none ∧ H' = upd H T (.tup vs) ∧ DqL K F vs xs ∧ x = .tuple xs ∧ v = .ref T
def ItOk (K : PySem.W.Frag) (F : Hp) (J : It) (ds : List D) : Prop := ∀ i F' H', Same F F' → Same F' H' → (∀ x, ds[i]? = some x → J.go i H' ∧ ∀ v H'', J.yld i H' v H'' → Yld K F' H' H'' v x) ∧ (ds.length ≤ i → J.stop i H')
def tI (K : PySem.W.Frag) (mg : Str → Option Value) (W : Wx) (m : TDI) : TI := fun σ H R => ∃ B F S k, HE K mg W.E W.ke B ∧ Rp K B F H σ S ∧ m S k ∧ ∀ ds S' J F' H', k ds S' → Same F F' → Rp K B F' H' σ S' → ItOk K F' J ds → R J H'
abbrev DI (X : Cx) (W : Wx) (tg e : Expr) (m : TDI) : Prop := PI X tg e (tI X.K X.mg W m)
theorem PI.of {tg e : Expr} {t t' : TI} (p : PI X tg e t) (r : ∀ σ H R, t' σ H R → t σ H R) : PI X tg e t' := ⟨fun pins s σ H R I h => p.run pins s σ H R I (r σ H R h)⟩
theorem Yld.rp {K : PySem.W.Frag} {B : Bs} {F H H' : Hp} {σ : St} {S : Sd} {v : V} {x : D} (y : Yld K F H H' v x) (r : Rp K B F H σ S) :
    ∃ F', Same F F' ∧ Rp K B F' H' σ S ∧ Dq K F' v x ∧ ∀ p o, H p = some o → F p = none → F' p = none ∧ H' p = some o := by
  rcases y with ⟨rfl, q⟩ | ⟨T, vs, xs, n, rfl, q, rfl, rfl⟩
  · exact ⟨F, Same.refl F, r, q, fun p o h f => ⟨f, h⟩⟩
  · have nF := r.sH.free n
    have s : Same F (upd F T (.tup vs)) := fun q u z => by rw [upd_ne (ne_of_none z nF)]; exact z
    refine ⟨_, s, r.laid n, .tup (SqT.of upd_same) (q.up s), fun p o h f => ?_⟩
    have hp : p ≠ T := ne_of_none h n
    rw [upd_ne hp, upd_ne hp]
    exact ⟨f, h⟩
/-- a list or a tuple is walked -/
theorem pi_seq {l : Expr} {tl : TE} (hl : PE X l tl) : PI X tg l (fun σ H R => tl σ H fun x H1 => ∃ a, x = .ref a ∧ (((∃ xs, SqL X.K H1 a xs) ∧ R (Itl X.K a) H1) ∨ ((∃ xs, SqT X.K H1 a xs) ∧ R (Itt X.K a) H1))) := by
  refine ⟨fun pins s σ H R I h => ?_⟩
  refine thn (hl.run pins s σ H _ I h) fun v s1 ⟨x, H1, I1, r1, q1⟩ => ?_
  obtain ⟨a, e, q⟩ := q1
  subst e
  cases r1
  rcases q with ⟨⟨xs, hq⟩, q⟩ | ⟨⟨xs, hq⟩, q⟩
  · obtain ⟨its, rv, pl, hz⟩ := I1.list hq
    refine wpAny_pyIter_list pl.isList ⟨_, [_], _, _, H1, rfl, I1.kept (t' := s1.toks) fun b o e => Heap.get?_push_of_some _ e, turn_list a _, ⟨_, Heap.get?_push_size _ rfl, rfl, rfl⟩, fun b hb => ?_, q⟩
    rw [List.mem_singleton.mp hb]
    exact I1.fpOk (Nat.le_refl _) (I1.hok.fresh (Nat.le_refl _))
  · obtain ⟨its, rv, pt, hz⟩ := I1.tuple hq
    refine wpAny_pyIter_tuple (show s1.heap.IsTuple a its.toArray from pt) ⟨_, [_], _, _, H1, rfl, I1.kept (t' := s1.toks) fun b o e => Heap.get?_push_of_some _ e, turn_tuple a _, ⟨_, Heap.get?_push_size _ rfl, rfl, rfl⟩, fun b hb => ?_, q⟩
    rw [List.mem_singleton.mp hb]
    exact I1.fpOk (Nat.le_refl _) (I1.hok.fresh (Nat.le_refl _))
def mIter (m : TD) : TDI := fun S k => m S fun x S1 => match x with
  | .list xs => k xs S1
  | .tuple xs => k xs S1
  | _ => False
theorem it_lst {K : PySem.W.Frag} {F : Hp} {a : Addr} {vs : List V} {ds : List D} (h : F a = some (.lst vs)) (d : DqL K F vs ds) : ItOk K F (Itl K a) ds := fun i F' H' s s' => by
  have hq : H' a = some (.lst vs) := s' _ _ (s _ _ h)
  refine ⟨fun x ex => ?_, fun hl => ⟨vs, SqL.of hq, by rw [d.len]; exact hl⟩⟩
  obtain ⟨v, ev, q⟩ := d.back ex
  refine ⟨⟨vs, v, SqL.of hq, ev⟩, fun u H'' y => ?_⟩
  obtain ⟨e1, e2⟩ := y
  have e3 := (e2 vs (SqL.of hq)).symm.trans ev
  cases e3
  exact .inl ⟨e1, q.up s⟩
theorem it_tup {K : PySem.W.Frag} {F : Hp} {a : Addr} {vs : List V} {ds : List D} (h : SqT K F a vs) (d : DqL K F vs ds) : ItOk K F (Itt K a) ds := fun i F' H' s s' => by
  have hq : SqT K H' a vs := sqT_mono s' (sqT_mono s h)
  refine ⟨fun x ex => ?_, fun hl => ⟨vs, hq, by rw [d.len]; exact hl⟩⟩
  obtain ⟨v, ev, q⟩ := d.back ex
  refine ⟨⟨vs, v, hq, ev⟩, fun u H'' y => ?_⟩
  obtain ⟨e1, e2⟩ := y
  have e3 := (e2 vs hq).symm.trans ev
  cases e3
  exact .inl ⟨e1, q.up s⟩
theorem di_seq (he : DE X W e m) : DI X W tg e (mIter m) := by
  refine PI.of (pi_seq he) ?_
  rintro σ H R ⟨B, F, S, k, he, r, h, hk⟩
  refine ⟨B, F, S, _, he, r, h, fun x S1 v F1 H1 h1 s1 r1 q1 => ?_⟩
  cases x with
  | list xs =>
    obtain ⟨a, vs, rfl, ha, d⟩ := q1.lst_inv
    exact ⟨a, rfl, .inl ⟨⟨vs, SqL.of (r1.sH _ _ ha)⟩, hk _ _ _ F1 H1 h1 s1 r1 (it_lst ha d)⟩⟩
  | tuple xs =>
    obtain ⟨a, vs, rfl, ha, d⟩ := q1.tup_inv
    exact ⟨a, rfl, .inr ⟨⟨vs, sqT_mono r1.sH ha⟩, hk _ _ _ F1 H1 h1 s1 r1 (it_tup ha d)⟩⟩
  | _ => exact (show False from h1).elim
/-- lo, lo + 1, .. -/
def rngL (lo : Int) : Nat → List D
  | 0 => []
  | n + 1 => .int lo :: rngL (lo + 1) n
theorem rngL_len : ∀ (n : Nat) (lo : Int), (rngL lo n).length = n
  | 0, _ => rfl
  | n + 1, lo => by show (rngL (lo + 1) n).length + 1 = n + 1; rw [rngL_len n]
theorem rngL_get : ∀ (n : Nat) (lo : Int) (i : Nat) (x : D), (rngL lo n)[i]? = some x → x = .int (lo + i) ∧ i < n
  | 0, _, _, _, h => by simp [rngL] at h
  | n + 1, lo, 0, x, h => by
    have h : some (PyData.int lo) = some x := h
    cases h
    exact ⟨by simp, by omega⟩
  | n + 1, lo, i + 1, x, h => by
    have h : (rngL (lo + 1) n)[i]? = some x := h
    obtain ⟨e, l⟩ := rngL_get n (lo + 1) i x h
    exact ⟨by rw [e]; congr 1; omega, by omega⟩
theorem it_rng {K : PySem.W.Frag} {F : Hp} (lo : Int) (n : Nat) : ItOk K F (Itr lo n) (rngL lo n) := fun i F' H' s s' => by
  refine ⟨fun x ex => ?_, fun hl => by rw [rngL_len] at hl; exact hl⟩
  obtain ⟨e, l⟩ := rngL_get n lo i x ex
  subst e
  refine ⟨l, fun v H'' y => ?_⟩
  obtain ⟨e1, e2⟩ := y
  subst e2
  exact .inl ⟨e1, .int _⟩
def fit62 (i : Int) : Prop := -(2 ^ 62) ≤ i ∧ i < 2 ^ 62
def mRng1 (ms : TDA) : TDI := fun S k => ms S fun xs S1 => match xs with
  | [.int j] => fit62 j ∧ k (rngL 0 j.toNat) S1
  | _ => False
def mRng2 (ms : TDA) : TDI := fun S k => ms S fun xs S1 => match xs with
  | [.int i, .int j] => (fit62 i ∧ fit62 j) ∧ k (rngL i (j - i).toNat) S1
  | _ => False
theorem di_rng1 {ea : Expr} (hm : X.mg "range" = none) (ha : DA X W [ea] ms) (hg : Gl X "range" := by rfl) (hs : starEach [ea] X.env = [(false, eval ea X.env)] := by rfl) : DI X W tg (.Call (.Name "range" p) [ea] [] pos) (mRng1 ms) := by
  refine PI.of (pi_range1 hg hm ha hs) ?_
  rintro σ H R ⟨B, F, S, k, he, r, h, hk⟩
  refine ⟨B, F, S, _, he, r, h, fun xs S1 vs F1 H1 h1 s1 r1 q1 => ?_⟩
  split at h1
  · rename_i j
    obtain ⟨h2, h3⟩ := h1
    match vs, q1 with
    | [_], .cons q .nil => cases q; exact ⟨j, rfl, h2.1, h2.2, hk _ _ _ F1 H1 h3 s1 r1 (it_rng 0 _)⟩
  · exact h1.elim
theorem di_rng2 {ea eb : Expr} (hm : X.mg "range" = none) (ha : DA X W [ea, eb] ms) (hg : Gl X "range" := by rfl) (hs : starEach [ea, eb] X.env = [(false, eval ea X.env), (false, eval eb X.env)] := by rfl) (hs2 : starEach [eb] X.env = [(false, eval eb X.env)] := by rfl) : DI X W tg (.Call (.Name "range" p) [ea, eb] [] pos) (mRng2 ms) := by
  refine PI.of (pi_range2 hg hm ha hs hs2) ?_
  rintro σ H R ⟨B, F, S, k, he, r, h, hk⟩
  refine ⟨B, F, S, _, he, r, h, fun xs S1 vs F1 H1 h1 s1 r1 q1 => ?_⟩
  split at h1
  · rename_i i j
    obtain ⟨h2, h3⟩ := h1
    match vs, q1 with
    | [_, _], .cons q (.cons q' .nil) => cases q; cases q'; exact ⟨i, j, rfl, ⟨h2.1.1, h2.1.2, h2.2.1, h2.2.2⟩, hk _ _ _ F1 H1 h3 s1 r1 (it_rng i _)⟩
  · exact h1.elim
/-- pairs of two lists -/
def zipL : List D → List D → List D
  | x :: xs, y :: ys => .tuple [x, y] :: zipL xs ys
  | _, _ => []
theorem zipL_get : ∀ (xs ys : List D) (i : Nat) (z : D), (zipL xs ys)[i]? = some z → ∃ x y, xs[i]? = some x ∧ ys[i]? = some y ∧ z = .tuple [x, y]
  | [], _, _, _, h => by simp [zipL] at h
  | _ :: _, [], _, _, h => by simp [zipL] at h
  | x :: xs, y :: ys, 0, z, h => by
    have h : some (PyData.tuple [x, y]) = some z := h
    cases h
    exact ⟨x, y, rfl, rfl, rfl⟩
  | x :: xs, y :: ys, i + 1, z, h => zipL_get xs ys i z h
theorem zipL_len : ∀ (xs ys : List D), (zipL xs ys).length = min xs.length ys.length
  | [], _ => by simp [zipL]
  | _ :: _, [] => by simp [zipL]
  | x :: xs, y :: ys => by
    show (zipL xs ys).length + 1 = min (xs.length + 1) (ys.length + 1)
    rw [zipL_len xs ys]; omega
/-- places and items -/
def enumL : Int → List D → List D
  | _, [] => []
  | i, x :: xs => .tuple [.int i, x] :: enumL (i + 1) xs
theorem enumL_len : ∀ (xs : List D) (i : Int), (enumL i xs).length = xs.length
  | [], _ => rfl
  | x :: xs, i => by show (enumL (i + 1) xs).length + 1 = xs.length + 1; rw [enumL_len xs]
theorem enumL_get : ∀ (xs : List D) (i0 : Int) (i : Nat) (z : D), (enumL i0 xs)[i]? = some z → ∃ x, xs[i]? = some x ∧ z = .tuple [.int (i0 + i), x]
  | [], _, _, _, h => by simp [enumL] at h
  | x :: xs, i0, 0, z, h => by
    have h : some (PyData.tuple [.int i0, x]) = some z := h
    cases h
    exact ⟨x, rfl, by simp⟩
  | x :: xs, i0, i + 1, z, h => by
    obtain ⟨y, e1, e2⟩ := enumL_get xs (i0 + 1) i z h
    refine ⟨y, e1, ?_⟩
    rw [e2, show i0 + 1 + (i : Int) = i0 + ((i + 1 : Nat) : Int) by omega]

/-! ### for, while -/
def forD (T : Tg) (n : TDS) : List D → Sd → Es → Prop
  | [], S, K => K.nx S
  | x :: xs, S, K => tgD T x S fun S1 => n S1 ⟨fun S2 => forD T n xs S2 K, K.rt, K.nx, fun S2 => forD T n xs S2 K⟩
def mFor (mi : TDI) (T : Tg) (n : TDS) : TDS := fun S K => mi S fun ds S1 => forD T n ds S1 K
theorem ds_for {iter : Expr} {mi : TDI} (hp : PassesOwn (model X.prog X.w) X.A X.env X.xe) (hc : X.calm = true) (hi : DI X W tg iter mi) (hg : PG X tg (tgL X.K T)) (hb : DB X W body n1) (hs : ∀ x, foldedSetIterable iter X.env x = pure x := by intro _; rfl) :
    DS X W (.For tg iter body [] pos) (mFor mi T n1) := by
  refine PS.of (ps_for hp hc hi hg hb hs) ?_
  rintro D σ H ⟨B, F, S, k, he, r, h, hn, hr, hb, hc⟩
  refine ⟨B, F, S, _, he, r, h, fun ds S1 J F1 H1 h1 s1 r1 ok => ?_⟩
  refine ⟨fun i m σ' H' => ∃ F' S', Same F1 F' ∧ Rp X.K B F' H' σ' S' ∧ i ≤ ds.length ∧ m = ds.length - i ∧ forD T n1 (ds.drop i) S' k, ⟨ds.length, F1, S1, Same.refl F1, r1, Nat.zero_le _, by omega, by rw [List.drop_zero]; exact h1⟩, ?_⟩
  rintro i m σ2 H2 ⟨F2, S2, s2, r2, hl, rfl, h2⟩
  obtain ⟨g1, g2⟩ := ok i F2 H2 s2 r2.sH
  by_cases hlt : i < ds.length
  · have ed : ds.drop i = ds[i] :: ds.drop (i + 1) := List.drop_eq_getElem_cons hlt
    rw [ed] at h2
    obtain ⟨go, y⟩ := g1 ds[i] (List.getElem?_eq_getElem hlt)
    refine .inr ⟨go, fun σ' H' => ∃ F' S', Same F1 F' ∧ Rp X.K B F' H' σ' S' ∧ forD T n1 (ds.drop (i + 1)) S' k, ?_, fun v H3 hy => ?_⟩
    · rintro σ' H' ⟨F', S', s', r', h'⟩
      exact ⟨ds.length - (i + 1), by omega, F', S', s', r', hlt, rfl, h'⟩
    · obtain ⟨F3, s3, r3, q3, _⟩ := (y v H3 hy).rp r2
      refine tg_run r3 q3 h2 fun S4 vs h4 r4 => ?_
      have s13 : Same F1 F3 := s2.trans s3
      refine ⟨B, F3, S4, _, he, r4, h4, fun S5 σ5 F5 H5 g s r5 => ⟨F5, S5, s13.trans s, r5, g⟩, fun x S5 v5 F5 H5 g s r5 q => hr x S5 v5 F5 H5 g (s1.trans (s13.trans s)) r5 q, fun S5 σ5 F5 H5 g s r5 => hn S5 σ5 F5 H5 g (s1.trans (s13.trans s)) r5, fun S5 σ5 F5 H5 g s r5 => ⟨F5, S5, s13.trans s, r5, g⟩⟩
  · have e : i = ds.length := by omega
    subst e
    rw [List.drop_length] at h2
    exact .inl ⟨g2 (Nat.le_refl _), hn _ _ F2 H2 h2 (s1.trans s2) r2⟩
def whileD (mc : TDT) (n : TDS) : Nat → Sd → Es → Prop
  | 0, _, _ => False
  | f + 1, S, K => mc S fun b S1 => br b (n S1 ⟨fun S2 => whileD mc n f S2 K, K.rt, K.nx, fun S2 => whileD mc n f S2 K⟩) (K.nx S1)
def mWhile (mc : TDT) (n : TDS) : TDS := fun S K => ∃ f, whileD mc n f S K
theorem ds_while (hp : PassesOwn (model X.prog X.w) X.A X.env X.xe) (hc : DT X W c mc) (hb : DB X W body n1) : DS X W (.While c body [] pos) (mWhile mc n1) := by
  refine PS.of (ps_while hp hc hb) ?_
  rintro D σ H ⟨B, F, S, k, he, r, ⟨f0, h⟩, hn, hr, hb, hc⟩
  refine ⟨fun m σ' H' => ∃ F' S', Same F F' ∧ Rp X.K B F' H' σ' S' ∧ whileD mc n1 m S' k, ⟨f0, F, S, Same.refl F, r, h⟩, ?_⟩
  rintro m σ2 H2 ⟨F2, S2, s2, r2, h2⟩
  cases m with
  | zero => exact (show False from h2).elim
  | succ m =>
    refine ⟨B, F2, S2, _, he, r2, h2, fun b S3 F3 H3 h3 s3 r3 => ?_⟩
    cases b with
    | true =>
      rw [if_pos rfl]
      refine ⟨fun σ' H' => ∃ F' S', Same F F' ∧ Rp X.K B F' H' σ' S' ∧ whileD mc n1 m S' k, ?_, ?_⟩
      · rintro σ' H' ⟨F', S', s', r', h'⟩
        exact ⟨m, Nat.lt_succ_self m, F', S', s', r', h'⟩
      · have s13 : Same F F3 := s2.trans s3
        exact ⟨B, F3, S3, _, he, r3, h3, fun S5 σ5 F5 H5 g s r5 => ⟨F5, S5, s13.trans s, r5, g⟩, fun x S5 v5 F5 H5 g s r5 q => hr x S5 v5 F5 H5 g (s13.trans s) r5 q, fun S5 σ5 F5 H5 g s r5 => hn S5 σ5 F5 H5 g (s13.trans s) r5, fun S5 σ5 F5 H5 g s r5 => ⟨F5, S5, s13.trans s, r5, g⟩⟩
    | false =>
      rw [if_neg Bool.false_ne_true]
      exact hn _ _ F3 H3 h3 (s2.trans s3) r3
end
end DL

set_option Elab.async false
set_option linter.all false
set_option maxRecDepth 100000
set_option maxHeartbeats 4000000
/-! The data layer, 6: zip, enumerate; comprehensions. -/
namespace DL
open PySem PySem.Spec PyProof.Rows L2
theorem it_zipL {K : PySem.W.Frag} {F : Hp} {a b : Addr} {vs ws : List V} {ds es : List D} (h : F a = some (.lst vs)) (d : DqL K F vs ds) (h' : F b = some (.lst ws)) (d' : DqL K F ws es) : ItOk K F (Itz K a b) (zipL ds es) := fun i F' H' s s' => by
  have ha : SqL K H' a vs := SqL.of (s' _ _ (s _ _ h))
  have hb : SqL K H' b ws := SqL.of (s' _ _ (s _ _ h'))
  refine ⟨fun z ez => ?_, fun hl => ⟨vs, ws, ha, hb, ?_⟩⟩
  · obtain ⟨x, y, e1, e2, rfl⟩ := zipL_get ds es i z ez
    obtain ⟨v, ev, q⟩ := d.back e1
    obtain ⟨w, ew, q'⟩ := d'.back e2
    refine ⟨⟨vs, ws, v, w, ha, hb, ev, ew⟩, fun u H'' yl => ?_⟩
    obtain ⟨T, x', y', rfl, n, rfl, f1, f2⟩ := yl
    have c1 := (f1 vs ha).symm.trans ev
    have c2 := (f2 ws hb).symm.trans ew
    cases c1; cases c2
    exact .inr ⟨T, _, _, n, rfl, .cons (q.up s) (.cons (q'.up s) .nil), rfl, rfl⟩
  · rw [zipL_len] at hl
    rw [d.len, d'.len]
    omega
theorem it_zipT {K : PySem.W.Frag} {F : Hp} {a b : Addr} {vs ws : List V} {ds es : List D} (h : SqT K F a vs) (d : DqL K F vs ds) (h' : SqT K F b ws) (d' : DqL K F ws es) : ItOk K F (RZ.ItzT K a b) (zipL ds es) := fun i F' H' s s' => by
  have ha : SqT K H' a vs := sqT_mono s' (sqT_mono s h)
  have hb : SqT K H' b ws := sqT_mono s' (sqT_mono s h')
  refine ⟨fun z ez => ?_, fun hl => ⟨vs, ws, ha, hb, ?_⟩⟩
  · obtain ⟨x, y, e1, e2, rfl⟩ := zipL_get ds es i z ez
    obtain ⟨v, ev, q⟩ := d.back e1
    obtain ⟨w, ew, q'⟩ := d'.back e2
    refine ⟨⟨vs, ws, v, w, ha, hb, ev, ew⟩, fun u H'' yl => ?_⟩
    obtain ⟨T, x', y', rfl, n, rfl, f1, f2⟩ := yl
    have c1 := (f1 vs ha).symm.trans ev
    have c2 := (f2 ws hb).symm.trans ew
    cases c1; cases c2
    exact .inr ⟨T, _, _, n, rfl, .cons (q.up s) (.cons (q'.up s) .nil), rfl, rfl⟩
  · rw [zipL_len] at hl
    rw [d.len, d'.len]
    omega
theorem it_enum {K : PySem.W.Frag} {F : Hp} {a : Addr} {vs : List V} {ds : List D} (h : F a = some (.lst vs)) (d : DqL K F vs ds) : ItOk K F (Ite K a) (enumL 0 ds) := fun i F' H' s s' => by
  have ha : SqL K H' a vs := SqL.of (s' _ _ (s _ _ h))
  refine ⟨fun z ez => ?_, fun hl => ⟨vs, ha, by rw [enumL_len] at hl; rw [d.len]; exact hl⟩⟩
  obtain ⟨x, e1, rfl⟩ := enumL_get ds 0 i z ez
  obtain ⟨v, ev, q⟩ := d.back e1
  refine ⟨⟨vs, v, ha, ev⟩, fun u H'' yl => ?_⟩
  obtain ⟨T, x', rfl, n, rfl, f1⟩ := yl
  have c1 := (f1 vs ha).symm.trans ev
  cases c1
  rw [Int.zero_add]
  exact .inr ⟨T, _, _, n, rfl, .cons (.int _) (.cons (q.up s) .nil), rfl, rfl⟩
section
variable {X : Cx} {W : Wx} {pos p tpos : Pos} {e e2 elt tg iter c : Expr} {ms : TDA} {elts : List Expr} {kk : Nat} {T : Tg} {mc : TDT} {me : TD} {mi : TDI} {ifs : List Expr}
def mZip (ms : TDA) : TDI := fun S k => ms S fun xs S1 => match xs with
  | [.list xs, .list ys] => k (zipL xs ys) S1
  | [.tuple xs, .tuple ys] => k (zipL xs ys) S1
  | _ => False
theorem di_zip (hm : X.mg "zip" = none) (ha : DA X W [e, e2] ms) (hg : Gl X "zip" := by rfl) (hs : starEach [e, e2] X.env = (false, eval e X.env) :: starEach [e2] X.env := by rfl) (hpl : (backTo pos (starEach [e2] X.env)).any (·.1) = false := by rfl) :
    DI X W (.Tuple elts kk tpos) (.Call (.Name "zip" p) [e, e2] [] pos) (mZip ms) := by
  refine PI.of (RZ.pi_zipA hg hm ha hs hpl) ?_
  rintro σ H R ⟨B, F, S, k, he, r, h, hk⟩
  refine ⟨B, F, S, _, he, r, h, fun xs S1 vs F1 H1 h1 s1 r1 q1 => ?_⟩
  split at h1
  · rename_i xs ys
    match vs, q1 with
    | [_, _], .cons q (.cons q' .nil) =>
      obtain ⟨a, vs, rfl, ha, d⟩ := q.lst_inv
      obtain ⟨b, ws, rfl, hb, d'⟩ := q'.lst_inv
      exact ⟨a, b, vs, ws, rfl, .inl ⟨SqL.of (r1.sH _ _ ha), SqL.of (r1.sH _ _ hb), hk _ _ _ F1 H1 h1 s1 r1 (it_zipL ha d hb d')⟩⟩
  · rename_i xs ys
    match vs, q1 with
    | [_, _], .cons q (.cons q' .nil) =>
      obtain ⟨a, vs, rfl, ha, d⟩ := q.tup_inv
      obtain ⟨b, ws, rfl, hb, d'⟩ := q'.tup_inv
      exact ⟨a, b, vs, ws, rfl, .inr ⟨sqT_mono r1.sH ha, sqT_mono r1.sH hb, hk _ _ _ F1 H1 h1 s1 r1 (it_zipT ha d hb d')⟩⟩
  · exact h1.elim
def mEnum (ms : TDA) : TDI := fun S k => ms S fun xs S1 => match xs with
  | [.list xs] => k (enumL 0 xs) S1
  | _ => False
theorem di_enum (hm : X.mg "enumerate" = none) (ha : DA X W [e] ms) (hg : Gl X "enumerate" := by rfl) (hs : starEach [e] X.env = [(false, eval e X.env)] := by rfl) : DI X W (.Tuple elts kk tpos) (.Call (.Name "enumerate" p) [e] [] pos) (mEnum ms) := by
  refine PI.of (pi_enum hg hm ha hs) ?_
  rintro σ H R ⟨B, F, S, k, he, r, h, hk⟩
  refine ⟨B, F, S, _, he, r, h, fun xs S1 vs F1 H1 h1 s1 r1 q1 => ?_⟩
  split at h1
  · rename_i xs
    match vs, q1 with
    | [_], .cons q .nil =>
      obtain ⟨a, vs, rfl, ha, d⟩ := q.lst_inv
      exact ⟨a, vs, rfl, SqL.of (r1.sH _ _ ha), hk _ _ _ F1 H1 h1 s1 r1 (it_enum ha d)⟩
  · exact h1.elim

/-! ### comprehensions -/
/-- no exception leaves -/
def W0 : Wx := ⟨E0, fun _ => False⟩
theorem he0 {K : PySem.W.Frag} {mg : Str → Option Value} {B : Bs} : HE K mg W0.E W0.ke B := fun _ _ _ _ _ _ h => h.elim
def lockV : Sv → Sv
  | .own xs => .pk (.list xs)
  | v => v
def wipeE (E : List Sv) : List Nat → List Sv
  | [] => E
  | v :: vs => (wipeE E vs).set v .no
/-- the slots within a block: what is owned is read only; the block's own names are forgotten -/
def blkE (E : List Sv) (vs : List Nat) : List Sv := wipeE (E.map lockV) vs
def mYes : TDT := fun S k => k true S
def lcD (T : Tg) (mc : TDT) (me : TD) (E : List Sv) : List D → List D → Hd → (List D → Hd → Prop) → Prop
  | [], acc, h, k => k acc h
  | x :: xs, acc, h, k => tgD T x ⟨E, h⟩ fun S2 => mc S2 fun b S3 => br b (me S3 fun y S4 => big acc.length = true ∧ lcD T mc me E xs (acc ++ [y]) S4.h k) (lcD T mc me E xs acc S3.h k)
def mLc (mi : TDI) (T : Tg) (mc : TDT) (me : TD) (vs : List Nat) : TDN := fun S k => mi S fun ds S1 => lcD T mc me (blkE S1.env vs) ds [] S1.h fun acc h => k acc { S1 with h := h }
section
variable {K : PySem.W.Frag} {B : Bs} {F H : Hp} {σ : St} {S : Sd}
theorem wipeE_len (E : List Sv) : ∀ vs : List Nat, (wipeE E vs).length = E.length
  | [] => rfl
  | v :: vs => by show ((wipeE E vs).set v .no).length = _; rw [List.length_set, wipeE_len E vs]
theorem wipeE_get {E : List Sv} {i : Nat} {v : Sv} : ∀ {vs : List Nat}, (wipeE E vs)[i]? = some v → v = .no ∨ (E[i]? = some v ∧ i ∉ vs)
  | [], h => .inr ⟨h, by simp⟩
  | w :: vs, h => by
    have h : ((wipeE E vs).set w .no)[i]? = some v := h
    by_cases hi : w = i
    · subst hi
      have hl : w < (wipeE E vs).length := by
        have := (List.getElem?_eq_some_iff.mp h).1
        simpa using this
      rw [List.getElem?_set_self hl] at h
      cases h
      exact .inl rfl
    · rw [List.getElem?_set_ne hi] at h
      rcases wipeE_get h with e | ⟨e, n⟩
      · exact .inl e
      · exact .inr ⟨e, by simp only [List.mem_cons, not_or]; exact ⟨fun z => hi z.symm, n⟩⟩
theorem wipe_keep {σ : St} {i : Nat} : ∀ {vs : List Nat}, i ∉ vs → (wipe σ vs)[i]? = σ[i]? := fun h => wipe_out h
/-- the state of a block at a turn -/
theorem Rp.blk (r : Rp K B F H σ S) (vs : List Nat) : Rp K (B.to F H) F H (wipe σ vs) ⟨blkE S.env vs, S.h⟩ := by
  refine ⟨Ev.refl r.sH (fun p e => (r.ev.hand p e).2) r.ev.tab, fun i v e => ?_, fun i j xs ys n e1 e2 => ?_, ?_⟩
  · have e : (wipeE (S.env.map lockV) vs)[i]? = some v := e
    rcases wipeE_get e with rfl | ⟨e, n⟩
    · trivial
    · rw [wipe_keep n]
      rw [List.getElem?_map] at e
      cases q : S.env[i]? with
      | none => rw [q] at e; cases e
      | some w =>
        rw [q] at e
        have e : lockV w = v := Option.some.inj e
        subst e
        have x := r.sl i w q
        cases w with
        | no => trivial
        | d y => exact x
        | own xs =>
          obtain ⟨p, us, e1, b1, f1, g1, d1⟩ := x
          refine ⟨.ref p, e1, .inr ⟨p, us, xs, rfl, rfl, f1, g1, fun z => ?_, d1⟩⟩
          obtain ⟨⟨o, h0⟩, _⟩ := r.ev.hand p z
          rw [b1] at h0; cases h0
        | pk y =>
          obtain ⟨w, e1, q⟩ := x
          refine ⟨w, e1, ?_⟩
          rcases q with q | ⟨p, us, xs, a1, a2, a3, a4, a5, a6⟩
          · exact .inl q
          · exact .inr ⟨p, us, xs, a1, a2, r.ev.unf p _ a4 a3, r.ev.keep p _ a4 a5 lst_nt, a5, a6⟩
        | scr ns => exact x
        | hand => exact x
  · exfalso
    have e1 : (wipeE (S.env.map lockV) vs)[i]? = some (.own xs) := e1
    rcases wipeE_get e1 with z | ⟨e, _⟩
    · cases z
    · rw [List.getElem?_map] at e
      cases q : S.env[i]? with
      | none => rw [q] at e; cases e
      | some w =>
        rw [q] at e
        have e : lockV w = .own xs := Option.some.inj e
        cases w <;> cases e
  · show (wipeE (S.env.map lockV) vs).length = _
    rw [wipeE_len, List.length_map, wipe_length]
    exact r.ln
end
def tgIn (T : Tg) (vs : List Nat) : Bool := match T with
  | .one i => vs.contains i
  | .many is => is.all fun i => vs.contains i
theorem wipe_set {σ : St} {i : Nat} {v : Option V} : ∀ {vs : List Nat}, i ∈ vs → wipe (σ.set i v) vs = wipe σ vs
  | [], h => absurd h (by simp)
  | w :: vs, h => by
    show (wipe (σ.set i v) vs).set w none = (wipe σ vs).set w none
    by_cases hi : i ∈ vs
    · rw [wipe_set hi]
    · have e : i = w := (List.mem_cons.mp h).resolve_right hi
      subst e
      apply List.ext_getElem?
      intro j
      by_cases hj : i = j
      · subst hj
        by_cases hl : i < σ.length
        · rw [List.getElem?_set_self (by rw [wipe_length, List.length_set]; exact hl), List.getElem?_set_self (by rw [wipe_length]; exact hl)]
        · rw [List.getElem?_eq_none (by rw [List.length_set, wipe_length, List.length_set]; omega), List.getElem?_eq_none (by rw [List.length_set, wipe_length]; omega)]
      · rw [List.getElem?_set_ne hj, List.getElem?_set_ne hj]
        have gen : ∀ us : List Nat, i ∉ us → (wipe (σ.set i v) us)[j]? = (wipe σ us)[j]? := by
          intro us
          induction us with
          | nil => intro _; show (σ.set i v)[j]? = σ[j]?; rw [List.getElem?_set_ne hj]
          | cons u us ih =>
            intro hu
            show ((wipe (σ.set i v) us).set u none)[j]? = ((wipe σ us).set u none)[j]?
            by_cases huj : u = j
            · subst huj
              by_cases hl : u < σ.length
              · rw [List.getElem?_set_self (by rw [wipe_length, List.length_set]; exact hl), List.getElem?_set_self (by rw [wipe_length]; exact hl)]
              · rw [List.getElem?_eq_none (by rw [List.length_set, wipe_length, List.length_set]; omega), List.getElem?_eq_none (by rw [List.length_set, wipe_length]; omega)]
            · rw [List.getElem?_set_ne huj, List.getElem?_set_ne huj]
              exact ih fun z => hu (List.mem_cons_of_mem _ z)
        exact gen vs hi
theorem wipe_setAll : ∀ {is : List Nat} {ws : List V} {σ : St} {vs : List Nat}, (∀ i ∈ is, i ∈ vs) → wipe (setAll σ is ws) vs = wipe σ vs
  | [], _, _, _, _ => by simp [setAll]
  | _ :: _, [], _, _, _ => by simp [setAll]
  | i :: is, w :: ws, σ, vs, h => by
    show wipe (setAll (σ.set i (some w)) is ws) vs = wipe σ vs
    rw [wipe_setAll fun j hj => h j (List.mem_cons_of_mem _ hj), wipe_set (h i List.mem_cons_self)]
theorem wipe_tg {T : Tg} {vs : List Nat} {v : V} {ws : List V} {σ : St} (h : tgIn T vs = true) : wipe (tgEnd T σ v ws) vs = wipe σ vs := by
  cases T with
  | one i =>
    have h : vs.contains i = true := h
    exact wipe_set (by simpa using h)
  | many is =>
    have h : (is.all fun i => vs.contains i) = true := h
    exact wipe_setAll fun i hi => by
      have := List.all_eq_true.mp h i hi
      simpa using this
theorem wipe_wipe {σ : St} : ∀ vs us : List Nat, (∀ i ∈ us, i ∈ vs) → wipe (wipe σ us) vs = wipe σ vs
  | vs, [], _ => rfl
  | vs, u :: us, h => by
    show wipe ((wipe σ us).set u none) vs = wipe σ vs
    rw [wipe_set (h u List.mem_cons_self), wipe_wipe vs us fun i hi => h i (List.mem_cons_of_mem _ hi)]
theorem t_lc {vs : List Nat} (hT : tgIn T vs = true) : ∀ σ H Q, tN X.K X.mg W (mLc mi T mc me vs) σ H Q → tLc (tI X.K X.mg W mi) (tgL X.K T) (tT X.K X.mg W0 mc) (tE X.K X.mg W0 me) vs σ H Q := by
  rintro σ H Q ⟨B, F, S, k, he, r, h, hk⟩
  refine ⟨B, F, S, _, he, r, h, fun ds S1 J F1 H1 h1 s1 r1 ok Da nD => ?_⟩
  have bD := r1.freeB nD
  have fD := r1.sH.free nD
  refine ⟨fun i m H' => ∃ F' h' acc vs', Same F1 F' ∧ Rp X.K B F' H' σ { S1 with h := h' } ∧ F' Da = none ∧ H' Da = some (.lst vs') ∧ DqL X.K F' vs' acc ∧ i ≤ ds.length ∧ m = ds.length - i ∧ lcD T mc me (blkE S1.env vs) (ds.drop i) acc h' (fun acc h => k acc { S1 with h := h }),
    ⟨ds.length, F1, S1.h, [], [], Same.refl F1, r1.laidH nD, fD, upd_same, .nil, Nat.zero_le _, by omega, by rw [List.drop_zero]; exact h1⟩, ?_⟩
  rintro i m H2 ⟨F2, h2, acc, vs', s2, r2, f2, g2, d2, hl, rfl, hd⟩
  have noD : ∀ (j : Nat) ys, S1.env[j]? = some (.own ys) → σ[j]? ≠ some (some (.ref Da)) := fun j ys e z => by
    obtain ⟨q, us, e1, _, _, g1, _⟩ := r1.sl j _ e
    rw [z] at e1
    cases e1
    rw [nD] at g1
    cases g1
  obtain ⟨g3, g4⟩ := ok i F2 H2 s2 r2.sH
  by_cases hlt : i < ds.length
  · have ed : ds.drop i = ds[i] :: ds.drop (i + 1) := List.drop_eq_getElem_cons hlt
    rw [ed] at hd
    obtain ⟨go, y⟩ := g3 ds[i] (List.getElem?_eq_getElem hlt)
    refine .inr ⟨go, fun H' => ∃ F' h' acc vs', Same F1 F' ∧ Rp X.K B F' H' σ { S1 with h := h' } ∧ F' Da = none ∧ H' Da = some (.lst vs') ∧ DqL X.K F' vs' acc ∧ lcD T mc me (blkE S1.env vs) (ds.drop (i + 1)) acc h' (fun acc h => k acc { S1 with h := h }), ?_, fun v H3 hy => ?_⟩
    · rintro H' ⟨F', h', acc', ws, a1, a2, a3, a4, a5, a6⟩
      exact ⟨ds.length - (i + 1), by omega, F', h', acc', ws, a1, a2, a3, a4, a5, hlt, rfl, a6⟩
    · obtain ⟨F3, s3, r3, q3, k3⟩ := (y v H3 hy).rp r2
      obtain ⟨f3, g3'⟩ := k3 Da _ g2 f2
      have rb := r3.blk vs
      refine tg_run rb q3 hd fun S4 ws h4 r4 => ?_
      refine ⟨(wipe_tg hT).trans (wipe_wipe vs vs fun _ h => h), ?_⟩
      have noDp : B.hp ≠ some Da := fun z => by
        obtain ⟨⟨o, h0⟩, _⟩ := r1.ev.hand Da z
        rw [bD] at h0; cases h0
      -- back from the block
      have back : ∀ {F5 H5 : Hp} {h5 : Hd}, Ev X.K (B.to F3 H3) F5 H5 h5 → Same F1 F5 ∧ Rp X.K B F5 H5 σ { S1 with h := h5 } ∧ F5 Da = none ∧ H5 Da = some (.lst vs') := fun {F5 H5 h5} e5 => by
        exact ⟨s2.trans (s3.trans e5.sF), r3.over e5, e5.unf Da _ g3' f3, e5.keep Da _ g3' noDp lst_nt⟩
      refine ⟨(B.to F3 H3), F3, S4, _, he0, r4, h4, fun b S5 F5 H5 h5 s5 r5 => ?_⟩
      cases b with
      | true =>
        rw [if_pos rfl]
        refine ⟨(B.to F3 H3), F5, S5, _, he0, r5, h5, fun y6 S6 v6 F6 H6 h6 s6 r6 q6 => ?_⟩
        obtain ⟨hz, h7⟩ := h6
        obtain ⟨b1, b2, b3, b4⟩ := back r6.ev
        refine ⟨vs', b4, by rw [d2.len]; exact big_lt hz, F6, S6.h, acc ++ [y6], vs' ++ [v6], b1, b2.touch bD b3 b4 noD, b3, upd_same, (d2.up (s3.trans (s5.trans s6))).snoc q6, h7⟩
      | false =>
        rw [if_neg Bool.false_ne_true]
        obtain ⟨b1, b2, b3, b4⟩ := back r5.ev
        exact ⟨F5, S5.h, acc, vs', b1, b2, b3, b4, d2.up (s3.trans s5), h5⟩
  · have e : i = ds.length := by omega
    subst e
    rw [List.drop_length] at hd
    exact .inl ⟨g4 (Nat.le_refl _), hk acc _ Da vs' F2 H2 hd (s1.trans s2) r2 bD f2 g2 d2 noD⟩
theorem PTs.of {ifs : List Expr} {t t' : TT} (p : PTs X ifs t) (r : ∀ σ H Q, t' σ H Q → t σ H Q) : PTs X ifs t' := ⟨fun pins s σ H Q I h => p.run pins s σ H Q I (r σ H Q h)⟩
abbrev DTs (X : Cx) (W : Wx) (ifs : List Expr) (m : TDT) : Prop := PTs X ifs (tT X.K X.mg W m)
theorem dts_nil : DTs X W [] mYes := PTs.of pts_nil fun σ H Q ⟨B, F, S, k, he, r, h, hk⟩ => hk _ _ F H h (Same.refl F) r
theorem dts_one (h : DT X W c mc) : DTs X W [c] mc := pts_one h
variable {scope : Scope} {own : List (Str × Nat)} {spos py : Pos} {y : Str}
theorem dn_lc (hc : X.calm = true) (hN : X.N.Nodup) (hi : DI X W tg iter mi) (ok : BlkOk X.N X.env.scope scope own) (hT : tgIn T (own.map (·.2)) = true)
    (hg : ∀ (s : Shared) (H : Hp) (C : Addr) (cl : List (Str × Addr)) (fp : List Addr), PG (X.blk s H scope (compEnvC scope cl C X.env) fp) tg (tgL X.K T))
    (ht : ∀ (s : Shared) (H : Hp) (C : Addr) (cl : List (Str × Addr)) (fp : List Addr), DTs (X.blk s H scope (compEnvC scope cl C X.env) fp) W0 ifs mc)
    (he : ∀ (s : Shared) (H : Hp) (C : Addr) (cl : List (Str × Addr)) (fp : List Addr), DE (X.blk s H scope (compEnvC scope cl C X.env) fp) W0 elt me) (hs : ∀ x, foldedSetIterable iter X.env x = pure x := by intro _; rfl) :
    DN X W (.ListComp elt [⟨tg, iter, ifs, 0⟩] scope pos) (mLc mi T mc me (own.map (·.2))) := PE.of (pe_lc hc hN hi ok hg ht he hs) (t_lc hT)
theorem ds_setLcO (i : Nat) (hc : X.calm = true) (hN : X.N.Nodup) (hi : DI X W tg iter mi) (ok : BlkOk X.N X.env.scope scope own) (hT : tgIn T (own.map (·.2)) = true)
    (hsw : swapsWith (.ListComp elt [⟨tg, iter, ifs, 0⟩] scope pos) (some (.Name y py)) spos.line X.env = pure true)
    (hg : ∀ (s : Shared) (H : Hp) (C : Addr) (cl : List (Str × Addr)) (fp : List Addr), PG (X.blk s H scope (compEnvC scope cl C X.env) fp) tg (tgL X.K T))
    (ht : ∀ (s : Shared) (H : Hp) (C : Addr) (cl : List (Str × Addr)) (fp : List Addr), DTs (X.blk s H scope (compEnvC scope cl C X.env) fp) W0 ifs mc)
    (he : ∀ (s : Shared) (H : Hp) (C : Addr) (cl : List (Str × Addr)) (fp : List Addr), DE (X.blk s H scope (compEnvC scope cl C X.env) fp) W0 elt me) (hy : X.N[i]? = some y := by rfl) (hyl : X.env.scope.names.lookup y = some .local := by rfl) (hs : ∀ x, foldedSetIterable iter X.env x = pure x := by intro _; rfl) :
    DS X W (.Assign [.Name y py] (.ListComp elt [⟨tg, iter, ifs, 0⟩] scope pos) spos) (mOwn i (mLc mi T mc me (own.map (·.2)))) := PS.of (ps_setLc hc hN hy hyl hsw hi ok hg ht he hs) (t_own (t_lc hT))
theorem t_frz {mn : TDN} {t : TE} (ht : ∀ σ H Q, tN X.K X.mg W mn σ H Q → t σ H Q) : ∀ σ H Q, tE X.K X.mg W (mFrz mn) σ H Q → t σ H Q := by
  rintro σ H Q ⟨B, F, S, k, he, r, h, hk⟩
  refine ht σ H Q ⟨B, F, S, _, he, r, h, fun xs S' p vs F' H' hx s r' bp fp hp q na => ?_⟩
  have sF : Same F' (upd F' p (.lst vs)) := fun q u z => by rw [upd_ne (ne_of_none z fp)]; exact z
  exact hk _ _ _ _ H' hx (s.trans sF) (r'.freeze bp fp hp na) (.lst upd_same (q.up sF))
theorem ds_setLc (i : Nat) (hc : X.calm = true) (hN : X.N.Nodup) (hi : DI X W tg iter mi) (ok : BlkOk X.N X.env.scope scope own) (hT : tgIn T (own.map (·.2)) = true)
    (hsw : swapsWith (.ListComp elt [⟨tg, iter, ifs, 0⟩] scope pos) (some (.Name y py)) spos.line X.env = pure true)
    (hg : ∀ (s : Shared) (H : Hp) (C : Addr) (cl : List (Str × Addr)) (fp : List Addr), PG (X.blk s H scope (compEnvC scope cl C X.env) fp) tg (tgL X.K T))
    (ht : ∀ (s : Shared) (H : Hp) (C : Addr) (cl : List (Str × Addr)) (fp : List Addr), DTs (X.blk s H scope (compEnvC scope cl C X.env) fp) W0 ifs mc)
    (he : ∀ (s : Shared) (H : Hp) (C : Addr) (cl : List (Str × Addr)) (fp : List Addr), DE (X.blk s H scope (compEnvC scope cl C X.env) fp) W0 elt me) (hy : X.N[i]? = some y := by rfl) (hyl : X.env.scope.names.lookup y = some .local := by rfl) (hs : ∀ x, foldedSetIterable iter X.env x = pure x := by intro _; rfl) :
    DS X W (.Assign [.Name y py] (.ListComp elt [⟨tg, iter, ifs, 0⟩] scope pos) spos) (mSet i (mFrz (mLc mi T mc me (own.map (·.2))))) := PS.of (ps_setLc hc hN hy hyl hsw hi ok hg ht he hs) (t_set (t_frz (t_lc hT)))
end
end DL

set_option Elab.async false
set_option linter.all false
set_option maxRecDepth 100000
set_option maxHeartbeats 4000000
/-! The data layer, 7: defs and their calls; the hand's fields; the script. -/
namespace DL
open PySem PySem.Spec PyProof.Rows L2

/-! ### what a def promises, where no text is being shown -/
structure FnG (P : Program) (w : World) (K : PySem.W.Frag) (mg : Str → Option Value) (base : Heap) (k : Nat) (f : Addr) (fd : FuncData) (ps : List Str) (sp : Sp) : Prop where
  len : ∀ vs H Q E, sp vs H Q E → vs.length = ps.length
  go : ∀ (A : Around) (outer : List Env) (s : Shared) (H : Hp) (args : Args) (us : List Value) (vs : List V) (Q : VK) (E : XK), Room k A → A.guards = some [] → Env0 P w K mg base A outer s H → BindsTo s fd args (ps.zip us) → Vals vs us → sp vs H Q E →
    codeAny (model P w) A (.call (.ref f) args) (CR (L2.CX P w) outer P w H s Q E) s
section
variable {P : Program} {w : World} {K : PySem.W.Frag} {mg : Str → Option Value} {base : Heap}
theorem FnG.le {j k : Nat} {f : Addr} {fd : FuncData} {ps : List Str} {sp : Sp} (F : FnG P w K mg base j f fd ps sp) (h : j ≤ k) : FnG P w K mg base k f fd ps sp :=
  ⟨F.len, fun A outer s H args us vs Q E hr => F.go A outer s H args us vs Q E (hr.mono h)⟩
theorem FnG.imp {k : Nat} {f : Addr} {fd : FuncData} {ps : List Str} {sp sp' : Sp} (F : FnG P w K mg base k f fd ps sp) (h : ∀ vs H Q E, sp' vs H Q E → sp vs H Q E) : FnG P w K mg base k f fd ps sp' :=
  ⟨fun vs H Q E q => F.len vs H Q E (h _ _ _ _ q), fun A outer s H args us vs Q E hr hg he hb hv hs => F.go A outer s H args us vs Q E hr hg he hb hv (h _ _ _ _ hs)⟩
abbrev bodyCx (P : Program) (w : World) (K : PySem.W.Frag) (mg : Str → Option Value) (base : Heap) (N : List Str) (qual : Str) (st : Stmt) (f : Addr) (cdv : Value) (A : Around) (outer : List Env) (s : Shared) (H : Hp) (E : XK) : Cx :=
  cxOf (L2.CX P w) P w K mg base N qual (defScope st) f cdv A outer s H E
theorem fng_of {x qual : Str} {st : Stmt} {f : Addr} {fd : FuncData} {N ps : List Str} {k : Nat} {sp : Sp} (F : Fun K x qual st f fd) (S : FnScope N ps (defScope st)) (len : ∀ vs H Q E, sp vs H Q E → vs.length = ps.length)
    (hb : ∀ (cdv : Value) (A : Around) (outer : List Env) (s : Shared) (H : Hp) (vs : List V) (Q : VK) (E : XK), Room k (bodyCx P w K mg base N qual st f cdv A outer s H E).A → (bodyCx P w K mg base N qual st f cdv A outer s H E).A.guards = some [] → sp vs H Q E →
      ∃ t, PSs (bodyCx P w K mg base N qual st f cdv A outer s H E) (defBody st) t ∧ t { nx := fun _ H' => Q .non H', rt := Q } (start N vs) H) : FnG P w K mg base (k + 1) f fd ps sp := by
  obtain ⟨oc, od, kV, doc, pm, an, cdv, ct, osl, rfl, lk, hcd⟩ := F.ex
  refine ⟨len, fun A outer s H args us vs Q E hr hg e0 hbd r hsp => ?_⟩
  exact LamX.run_ofS lk hcd S hr e0 hbd r (len _ _ _ _ hsp) fun hr' => hb cdv A outer s H vs Q E hr' hg hsp
end

/-! ### arguments as data -/
def ArOk (K : PySem.W.Frag) (hp : Option Addr) (F H : Hp) (v : V) : Sv → Prop
  | .d x => Dq K F v x
  | .pk x => Pk K hp F H v x
  | .scr ns => ∃ a, v = .ref a ∧ SqL K F a (ns.map V.int)
  | .hand => ∃ p, v = .ref p ∧ hp = some p
  | _ => False
inductive ArsOk (K : PySem.W.Frag) (hp : Option Addr) (F H : Hp) : List V → List Sv → Prop
  | nil : ArsOk K hp F H [] []
  | cons {v : V} {vs : List V} {a : Sv} {as : List Sv} : ArOk K hp F H v a → ArsOk K hp F H vs as → ArsOk K hp F H (v :: vs) (a :: as)
theorem ArsOk.len {K : PySem.W.Frag} {hp : Option Addr} {F H : Hp} : ∀ {vs : List V} {as : List Sv}, ArsOk K hp F H vs as → vs.length = as.length
  | _, _, .nil => rfl
  | _, _, .cons _ t => by rw [List.length_cons, List.length_cons, ArsOk.len t]
theorem ArsOk.back {K : PySem.W.Frag} {hp : Option Addr} {F H : Hp} : ∀ {vs : List V} {as : List Sv} {i : Nat} {a : Sv}, ArsOk K hp F H vs as → as[i]? = some a → ∃ v, vs[i]? = some v ∧ ArOk K hp F H v a
  | _, _, _, _, .nil, e => by simp at e
  | _, _, 0, _, .cons h _, e => by simp at e; subst e; exact ⟨_, rfl, h⟩
  | _, _, i + 1, a, .cons _ t, e => by
    obtain ⟨v, h1, h2⟩ := ArsOk.back (i := i) (a := a) t (by simpa using e)
    exact ⟨v, by simpa using h1, h2⟩
/-- a def as a function of data -/
abbrev FT := List Sv → Hd → (D → Hd → Prop) → Prop
def endK (k : D → Hd → Prop) : Es := ⟨fun S => k .none S.h, fun x S => k x S.h, fun _ => False, fun _ => False⟩
def sd0 (n : Nat) (as : List Sv) (h : Hd) : Sd := ⟨as ++ List.replicate (n - as.length) .no, h⟩
def runT (n : Nat) (b : TDS) : FT := fun as h k => b (sd0 n as h) (endK k)
def spD (K : PySem.W.Frag) (mg : Str → Option Value) (np : Nat) (fT : (Str → Prop) → FT) : Sp := fun vs H Q E => vs.length = np ∧ ∃ F hp T h as k ke, Same F H ∧ (∀ p, hp = some p → HandAt K F H p h) ∧ LamX.Tabs T H ∧ ArsOk K hp F H vs as ∧ fT ke as h k ∧
  (∀ x v F' H' h', k x h' → Ev K ⟨F, H, hp, T⟩ F' H' h' → Dq K F' v x → Q v H') ∧ HE K mg E ke ⟨F, H, hp, T⟩
section
variable {P : Program} {w : World} {K : PySem.W.Frag} {mg : Str → Option Value} {base : Heap}
theorem rp_start {N : List Str} {F H : Hp} {hp : Option Addr} {T : List (Addr × Str)} {h : Hd} {vs : List V} {as : List Sv} (s : Same F H) (hh : ∀ p, hp = some p → HandAt K F H p h) (t : LamX.Tabs T H) (a : ArsOk K hp F H vs as) :
    Rp K ⟨F, H, hp, T⟩ F H (start N vs) (sd0 N.length as h) := by
  have l := a.len
  have inA : ∀ {i : Nat} {v : Sv}, (as ++ List.replicate (N.length - as.length) Sv.no)[i]? = some v → v = .no ∨ ∃ u, (start N vs)[i]? = some (some u) ∧ ArOk K hp F H u v := fun {i v} e => by
    by_cases hi : i < as.length
    · rw [List.getElem?_append_left hi] at e
      obtain ⟨u, e1, q⟩ := a.back e
      refine .inr ⟨u, ?_, q⟩
      unfold L2.start
      rw [List.getElem?_append_left (by rw [List.length_map, l]; exact hi), List.getElem?_map, e1]
      rfl
    · rw [List.getElem?_append_right (by omega), List.getElem?_replicate] at e
      split at e
      · cases e; exact .inl rfl
      · cases e
  refine ⟨Ev.refl s hh t, fun i v e => ?_, fun i j xs ys n e1 e2 => ?_, ?_⟩
  · rcases inA e with rfl | ⟨u, e1, q⟩
    · trivial
    · rw [e1]
      cases v with
      | no => trivial
      | d x => exact ⟨u, rfl, q⟩
      | own xs => exact q.elim
      | pk x => exact ⟨u, rfl, q⟩
      | scr ns => obtain ⟨a, rfl, q⟩ := q; exact ⟨a, rfl, q⟩
      | hand => obtain ⟨p, rfl, q⟩ := q; exact ⟨p, rfl, q⟩
  · rcases inA e1 with z | ⟨u, _, q⟩
    · cases z
    · exact q.elim
  · show (as ++ List.replicate (N.length - as.length) Sv.no).length = (start N vs).length
    unfold L2.start
    rw [List.length_append, List.length_append, List.length_replicate, List.length_replicate, List.length_map, l]
/-- a def by its body over data -/
theorem fn_d {x qual : Str} {st : Stmt} {f : Addr} {fd : FuncData} {N ps : List Str} {k : Nat} {bT : (Str → Prop) → TDS} (F : Fun K x qual st f fd) (S : FnScope N ps (defScope st))
    (hb : ∀ (cdv : Value) (A : Around) (outer : List Env) (s : Shared) (H : Hp) (E : XK) (ke : Str → Prop), Room k (bodyCx P w K mg base N qual st f cdv A outer s H E).A → (bodyCx P w K mg base N qual st f cdv A outer s H E).A.guards = some [] →
      DB (bodyCx P w K mg base N qual st f cdv A outer s H E) ⟨E, ke⟩ (defBody st) (bT ke)) : FnG P w K mg base (k + 1) f fd ps (spD K mg ps.length fun ke => runT N.length (bT ke)) := by
  refine fng_of F S (fun vs H Q E h => h.1) fun cdv A outer s H vs Q E hr hg h => ?_
  obtain ⟨_, F, hp, T, h, as, k, ke, sm, hh, tb, ok, hT, hQ, he⟩ := h
  refine ⟨_, hb cdv A outer s H E ke hr hg, ⟨F, H, hp, T⟩, F, _, _, he, rp_start sm hh tb ok, hT, ?_, ?_, ?_, ?_⟩
  · exact fun S' σ' F' H' hk s' r => hQ _ _ _ _ _ hk r.ev .non
  · exact fun x S' v F' H' hk s' ev q => hQ _ _ _ _ _ hk ev q
  · exact fun S' σ' F' H' hk _ _ => hk.elim
  · exact fun S' σ' F' H' hk _ _ => hk.elim
end

/-! ### calls -/
abbrev Va := Sd → Option Sv
abbrev TDR := Sd → (List Va → Sd → Prop) → Prop
def ArV (K : PySem.W.Frag) (B : Bs) (σ : St) (F : Hp) (v : V) (w : Va) : Prop := ∀ F' H' S' a, Same F F' → Rp K B F' H' σ S' → w S' = some a → ArOk K B.hp F' H' v a
inductive ArVs (K : PySem.W.Frag) (B : Bs) (σ : St) (F : Hp) : List V → List Va → Prop
  | nil : ArVs K B σ F [] []
  | cons {v : V} {vs : List V} {a : Va} {as : List Va} : ArV K B σ F v a → ArVs K B σ F vs as → ArVs K B σ F (v :: vs) (a :: as)
def allV (S : Sd) : List Va → Option (List Sv)
  | [] => some []
  | w :: r => match w S, allV S r with
    | some a, some as => some (a :: as)
    | _, _ => none
theorem allV_ok {K : PySem.W.Frag} {B : Bs} {σ : St} {F H : Hp} {S : Sd} (r : Rp K B F H σ S) : ∀ {vs : List V} {ws : List Va} {as : List Sv}, ArVs K B σ F vs ws → allV S ws = some as → ArsOk K B.hp F H vs as
  | _, _, _, .nil, e => by cases e; exact .nil
  | _, _, _, .cons (a := w) (as := ws) h t, e => by
    unfold allV at e
    split at e
    · rename_i a as e1 e2
      cases e
      exact .cons (h F H S a (Same.refl F) r e1) (allV_ok r t e2)
    · cases e
theorem ArVs.up {K : PySem.W.Frag} {B : Bs} {σ : St} {F F' : Hp} (s : Same F F') : ∀ {vs : List V} {ws : List Va}, ArVs K B σ F vs ws → ArVs K B σ F' vs ws
  | _, _, .nil => .nil
  | _, _, .cons h t => .cons (fun F2 H2 S2 a s2 r2 e2 => h F2 H2 S2 a (s.trans s2) r2 e2) (ArVs.up s t)
def tR (K : PySem.W.Frag) (mg : Str → Option Value) (W : Wx) (m : TDR) : TA := fun σ H Q => ∃ B F S k, HE K mg W.E W.ke B ∧ Rp K B F H σ S ∧ m S k ∧ ∀ ws S' vs F' H', k ws S' → Same F F' → Rp K B F' H' σ S' → ArVs K B σ F' vs ws → Q vs H'
abbrev DR (X : Cx) (W : Wx) (es : List Expr) (m : TDR) : Prop := PA X es (tR X.K X.mg W m)
section
variable {X : Cx} {W : Wx} {pos p : Pos} {e : Expr} {es : List Expr} {me : TD} {mk : TDK} {mr : TDR} {x : Str}
def mrNil : TDR := fun S k => k [] S
def mrD (me : TD) (mr : TDR) : TDR := fun S k => me S fun y S1 => mr S1 fun ws S2 => k ((fun _ => some (.d y)) :: ws) S2
def mrK (mk : TDK) (mr : TDR) : TDR := fun S k => mk S fun v S1 => mr S1 fun ws S2 => k ((fun S' => (v S').map Sv.pk) :: ws) S2
def mrH (i : Nat) (mr : TDR) : TDR := fun S k => match at' S.env i with
  | .hand => mr S fun ws S2 => k ((fun _ => some .hand) :: ws) S2
  | .scr ns => mr S fun ws S2 => k ((fun _ => some (.scr ns)) :: ws) S2
  | _ => False
theorem dr_nil : DR X W [] mrNil := by
  refine PA.of pa_nil fun σ H Q h => ?_
  obtain ⟨B, F, S, k, he, r, h, hk⟩ := h
  exact hk _ _ _ F H h (Same.refl F) r .nil
theorem dr_d (h1 : DE X W e me) (h2 : DR X W es mr) (hs : starEach (e :: es) X.env = (false, eval e X.env) :: starEach es X.env := by rfl) : DR X W (e :: es) (mrD me mr) := by
  refine PA.of (pa_cons h1 h2 hs) fun σ H Q h => ?_
  obtain ⟨B, F, S, k, he, r, h, hk⟩ := h
  refine ⟨B, F, S, _, he, r, h, fun y S1 v F1 H1 h1 s1 r1 q1 => ?_⟩
  refine ⟨B, F1, S1, _, he, r1, h1, fun ws S2 vs F2 H2 h2 s2 r2 q2 => hk _ _ _ F2 H2 h2 (s1.trans s2) r2 (.cons (fun F3 H3 S3 a s3 r3 e3 => ?_) q2)⟩
  cases e3
  exact q1.up (s2.trans s3)
theorem dr_k (h1 : DK X W e mk) (h2 : DR X W es mr) (hs : starEach (e :: es) X.env = (false, eval e X.env) :: starEach es X.env := by rfl) : DR X W (e :: es) (mrK mk mr) := by
  refine PA.of (pa_cons h1 h2 hs) fun σ H Q h => ?_
  obtain ⟨B, F, S, k, he, r, h, hk⟩ := h
  refine ⟨B, F, S, _, he, r, h, fun y S1 v F1 H1 h1 s1 r1 q1 => ?_⟩
  refine ⟨B, F1, S1, _, he, r1, h1, fun ws S2 vs F2 H2 h2 s2 r2 q2 => hk _ _ _ F2 H2 h2 (s1.trans s2) r2 (.cons (fun F3 H3 S3 a s3 r3 e3 => ?_) q2)⟩
  cases e4 : y S3 with
  | none => rw [e4] at e3; cases e3
  | some z =>
    rw [e4] at e3
    have e3 : Sv.pk z = a := Option.some.inj e3
    subst e3
    exact q1 F3 H3 S3 z (s2.trans s3) r3 e4
theorem dr_h (i : Nat) (h2 : DR X W es mr) (hN : X.N[i]? = some x := by rfl) (hv : Vis X.env.scope x := by first | exact Or.inl rfl | exact Or.inr (Or.inl rfl) | exact Or.inr (Or.inr rfl)) (hd : (x == ("__debug__" : Str)) = false := by decide)
    (hcd : (x == ("__classdict__" : Str)) = false := by decide) (hs : starEach (.Name x pos :: es) X.env = (false, eval (.Name x pos) X.env) :: starEach es X.env := by rfl) : DR X W (.Name x pos :: es) (mrH i mr) := by
  refine PA.of (pa_cons (pe_var (i := i) hN hv hd hcd) h2 hs) fun σ H Q h => ?_
  obtain ⟨B, F, S, k, he, r, h, hk⟩ := h
  have g := at'_get (l := S.env) (i := i)
  unfold mrH at h
  cases e : at' S.env i with
  | hand =>
    rw [e] at h g
    rcases g with g | g
    · cases g
    · obtain ⟨q, e1, e2⟩ := r.sl i _ g
      refine ⟨.ref q, e1, B, F, S, _, he, r, h, fun ws S2 vs F2 H2 h2 s2 r2 q2 => hk _ _ _ F2 H2 h2 s2 r2 (.cons (fun F3 H3 S3 a s3 r3 e3 => ?_) q2)⟩
      cases e3
      exact ⟨q, rfl, e2⟩
  | scr ns =>
    rw [e] at h g
    rcases g with g | g
    · cases g
    · obtain ⟨q, e1, e2⟩ := r.sl i _ g
      refine ⟨.ref q, e1, B, F, S, _, he, r, h, fun ws S2 vs F2 H2 h2 s2 r2 q2 => hk _ _ _ F2 H2 h2 s2 r2 (.cons (fun F3 H3 S3 a s3 r3 e3 => ?_) q2)⟩
      cases e3
      exact ⟨q, rfl, (s2.trans s3).seq e2⟩
  | no => rw [e] at h; exact h.elim
  | d y => rw [e] at h; exact h.elim
  | own y => rw [e] at h; exact h.elim
  | pk y => rw [e] at h; exact h.elim
def mCall (np : Nat) (fT : FT) (mr : TDR) : TD := fun S k => mr S fun ws S1 => gotL (allV S1 ws) fun as => Nat.beq as.length np = true ∧ fT as S1.h fun y h' => k y { S1 with h := h' }
variable {k : Nat} {f : Addr} {fd : FuncData} {ps : List Str} {fT : (Str → Prop) → FT}
theorem run_g {sp : Sp} {E : XK} {pins : List (Addr × Obj)} {σ : St} {H : Hp} {s : Shared} {Q : VK} {us : List Value} {vs : List V} (F : FnG X.prog X.w X.K X.mg X.base k f fd ps sp) (hr : Room k X.A) (hgd : X.A.guards = some []) (hb : Binds X.K fd ps []) (hx : Passes (L2.CX X.prog X.w) X E)
    (I : Inv X pins σ H s) (r : Vals vs us) (h : sp vs H Q E) : wpAny (model X.prog X.w) X.A (call (.ref f) us) (EP X pins σ Q) X.xe s := by
  have hl : (us ++ []).length = ps.length := by rw [List.append_nil, ← r.length]; exact F.len _ _ _ _ h
  have hbd := hb s us I.kIn hl
  rw [List.append_nil] at hbd
  refine wpAny_call (codeAny_mono (F.go X.A X.stack s H ⟨us, []⟩ us vs Q E hr hgd I.env0 hbd r h) fun res s2 hq => ?_)
  cases res with
  | error e => exact hx pins σ H s e s2 I hq
  | ok fl =>
    cases fl <;> first | exact I.after hq | exact False.elim hq
variable {np : Nat} {kf : Str → Prop}
theorem call_d {B : Bs} (hw : HE X.K X.mg W.E W.ke B) {σ : St} {F H : Hp} {S : Sd} {Q : VK} {vs : List V} {as : List Sv} {kk : D → Sd → Prop} (r : Rp X.K B F H σ S) (ok : ArsOk X.K B.hp F H vs as) (hl : Nat.beq as.length np = true)
    (hT : fT W.ke as S.h fun y h' => kk y { S with h := h' }) (hk : ∀ y S' v F' H', kk y S' → Same F F' → Rp X.K B F' H' σ S' → Dq X.K F' v y → Q v H') : spD X.K X.mg np fT vs H Q W.E :=
  ⟨ok.len.trans (Nat.eq_of_beq_eq_true hl), F, B.hp, B.T, S.h, as, _, W.ke, r.ev.sH, fun p e => (r.ev.hand p e).2, r.ev.tab, ok, hT, fun y v F' H' h' hy ev q => hk _ _ v F' H' hy ev.sF (r.over (B := B) ev) q,
    fun c cls d F' H' h' hc hm ev => hw c cls d F' H' h' hc hm (r.over (B := B) ev).ev⟩
/-- f(e, ..) of a def of the text -/
theorem dg_call (F : FnG X.prog X.w X.K X.mg X.base k f fd ps (spD X.K X.mg np fT)) (hm : X.mg x = some (.ref f)) (hk : PySem.W.keepIn X.K (.ref f) = true) (hb : Binds X.K fd ps []) (hr : Room k X.A) (hgd : X.A.guards = some []) (hx : Passes (L2.CX X.prog X.w) X W.E) (ha : DR X W (e :: es) mr) (hkf : W.ke = kf := by rfl)
    (hg : Gl X x := by rfl) (hdb : (x == ("__debug__" : Str)) = false := by decide) (he : starEach (e :: es) X.env = (false, eval e X.env) :: starEach es X.env := by rfl) (hpl : (backTo pos (starEach es X.env)).any (·.1) = false := by rfl) : DE X W (.Call (.Name x p) (e :: es) [] pos) (mCall np (fT kf) mr) := by
  subst hkf
  refine ⟨fun pins s σ H Q I h => ?_⟩
  obtain ⟨B, F0, S, kk, hw, r, h, hQ⟩ := h
  refine wpAny_Call_Name_kw (ld_glob I hg hm ?_ hdb)
  refine PySem.W.callWith_K (h₀ := X.base) I.ok.mod.kin hk (thn (ha.run pos pins s σ H (fun vs H1 => spD X.K X.mg np fT vs H1 Q W.E) I ?_) fun us s1 ⟨vs, H1, I1, r1, q⟩ => ⟨I1.kIn, run_g F hr hgd hb hx I1 r1 q⟩) he hpl
  refine ⟨B, F0, S, _, hw, r, h, fun ws S1 vs F1 H1 h1 s1 r1 q1 => ?_⟩
  obtain ⟨as, e1, h2, h3⟩ := gotL_elim h1
  exact call_d hw r1 (allV_ok r1 q1 e1) h2 h3 fun y S' v F' H' hy s' r' q => hQ y S' v F' H' hy (s1.trans s') r' q
theorem dg_call0 (F : FnG X.prog X.w X.K X.mg X.base k f fd ps (spD X.K X.mg np fT)) (hm : X.mg x = some (.ref f)) (hk : PySem.W.keepIn X.K (.ref f) = true) (hb : Binds X.K fd ps []) (hr : Room k X.A) (hgd : X.A.guards = some []) (hx : Passes (L2.CX X.prog X.w) X W.E) (hkf : W.ke = kf := by rfl)
    (hg : Gl X x := by rfl) (hdb : (x == ("__debug__" : Str)) = false := by decide) : DE X W (.Call (.Name x p) [] [] pos) (mCall np (fT kf) mrNil) := by
  subst hkf
  refine ⟨fun pins s σ H Q I h => ?_⟩
  obtain ⟨B, F0, S, kk, hw, r, h, hQ⟩ := h
  refine wpAny_Call_Name_kw (ld_glob I hg hm ?_ hdb)
  unfold mCall mrNil at h
  obtain ⟨as, e1, h2, h3⟩ := gotL_elim h
  exact PySem.W.callWith_K0 I.kIn hk (run_g (us := []) F hr hgd hb hx I .nil (call_d hw r (allV_ok r .nil e1) h2 h3 hQ))

/-! ### the hand's fields -/
def hGet (h : Hd) : Nat → D
  | 0 => .list (h.cells.map PyData.int)
  | 1 => .int h.at_
  | 2 => .int h.left
  | 3 => .int h.mix
  | _ => .int h.many
def hPut (h : Hd) (j : Nat) (i : Int) : Hd := match j with
  | 1 => { h with at_ := i }
  | 2 => { h with left := i }
  | 3 => { h with mix := i }
  | _ => { h with many := i }
def onHand (v : Sv) (f : Prop) : Prop := match v with
  | .hand => f
  | _ => False
theorem onHand_elim {v : Sv} {f : Prop} (h : onHand v f) : v = .hand ∧ f := by
  cases v <;> first | exact ⟨rfl, h⟩ | exact h.elim
def mHix (i j : Nat) : TD := fun S k => onHand (at' S.env i) (k (hGet S.h j) S)
theorem hand_at {K : PySem.W.Frag} {B : Bs} {F H : Hp} {σ : St} {S : Sd} {i : Nat} (r : Rp K B F H σ S) (e : at' S.env i = .hand) : ∃ p c, σ[i]? = some (some (.ref p)) ∧ B.hp = some p ∧ F p = none ∧ H p = some (.lst [.ref c, .int S.h.at_, .int S.h.left, .int S.h.mix, .int S.h.many]) ∧ F c = some (.lst (S.h.cells.map V.int)) := by
  have g := at'_get (l := S.env) (i := i)
  rw [e] at g
  rcases g with g | g
  · cases g
  · obtain ⟨p, e1, e2⟩ := r.sl i _ g
    obtain ⟨_, f, c, h1, h2⟩ := r.ev.hand p e2
    exact ⟨p, c, e1, e2, f, h1, h2⟩
theorem hget_ok {K : PySem.W.Frag} {F : Hp} {c : Addr} {h : Hd} {j : Nat} (hj : Nat.ble j 4 = true) (hc : F c = some (.lst (h.cells.map V.int))) : ∃ v, [V.ref c, .int h.at_, .int h.left, .int h.mix, .int h.many][j]? = some v ∧ Dq K F v (hGet h j) := by
  match j, hj with
  | 0, _ => exact ⟨_, rfl, .lst hc (DqL.ints _)⟩
  | 1, _ => exact ⟨_, rfl, .int _⟩
  | 2, _ => exact ⟨_, rfl, .int _⟩
  | 3, _ => exact ⟨_, rfl, .int _⟩
  | 4, _ => exact ⟨_, rfl, .int _⟩
/-- hand[j] -/
theorem d_handIx (i j : Nat) {jp np : Pos} {jk : Nat} (hj : Nat.ble j 4 = true := by rfl) (hN : X.N[i]? = some x := by rfl) (hv : Vis X.env.scope x := by first | exact Or.inl rfl | exact Or.inr (Or.inl rfl) | exact Or.inr (Or.inr rfl)) (hd : (x == ("__debug__" : Str)) = false := by decide)
    (hcd : (x == ("__classdict__" : Str)) = false := by decide) (hs : PlainIx (.Constant (.int (j : Int)) jk jp) := by exact fun _ _ => rfl) : DE X W (.Subscript (.Name x np) (.Constant (.int (j : Int)) jk jp) pos) (mHix i j) := by
  refine PE.of (pe_ix ix_list (pe_var (i := i) hN hv hd hcd) pe_int hs) fun σ H Q h => ?_
  obtain ⟨B, F, S, k, he, r, h, hk⟩ := h
  obtain ⟨e, h⟩ := onHand_elim h
  obtain ⟨p, c, e1, e2, f, h1, h2⟩ := hand_at r e
  obtain ⟨v, ev, q⟩ := hget_ok (K := X.K) hj h2
  refine ⟨.ref p, e1, p, _, (j : Int), v, rfl, rfl, SqL.of h1, atI_nat ev, hk _ _ v F H h (Same.refl F) r q⟩
def mHset (i j : Nat) (m : TD) : TDS := fun S K => m S fun y S1 => onHand (at' S1.env i) (match y with
  | .int z => K.nx { S1 with h := hPut S1.h j z }
  | _ => False)
theorem Rp.hset {K : PySem.W.Frag} {B : Bs} {F H : Hp} {σ : St} {S : Sd} (r : Rp K B F H σ S) {p c : Addr} {h' : Hd} {o : HO} (e2 : B.hp = some p) (hp : H p = some (.lst [.ref c, .int S.h.at_, .int S.h.left, .int S.h.mix, .int S.h.many])) (f : F p = none) (hc : F c = some (.lst (S.h.cells.map V.int)))
    (ho : o = .lst [.ref c, .int h'.at_, .int h'.left, .int h'.mix, .int h'.many]) (hcl : h'.cells = S.h.cells) : Rp K B F (upd H p o) σ { S with h := h' } := by
  obtain ⟨⟨ob, h0⟩, _⟩ := r.ev.hand p e2
  have nf : ∀ q u, F q = some u → q ≠ p := fun q u e => ne_of_none e f
  refine ⟨⟨r.ev.sF, fun q u e => by rw [upd_ne (nf q u e)]; exact r.sH _ _ e, fun q u e hq nt => ?_, fun q e => live_upd (r.ev.live q e), r.ev.unf, fun q e => ?_, tabs_upd r.ev.tab (.inr ⟨_, hp⟩)⟩, fun i v e => ?_, r.ap, r.ln⟩
  · rw [upd_ne (fun z => hq (by rw [z]; exact e2))]; exact r.ev.keep q u e hq nt
  · have eq : q = p := by rw [e2] at e; exact (Option.some.inj e).symm
    subst eq
    exact ⟨⟨ob, h0⟩, f, c, by rw [upd_same, ho], by rw [hcl]; exact hc⟩
  · have x := r.sl i v e
    cases v with
    | own xs =>
      obtain ⟨q, ws, e1, b1, f1, g1, d1⟩ := x
      have hq : q ≠ p := fun z => by rw [z, h0] at b1; cases b1
      exact ⟨q, ws, e1, b1, f1, by rw [upd_ne hq]; exact g1, d1⟩
    | no => trivial
    | d y => exact x
    | pk y => exact x
    | scr ns => exact x
    | hand => exact x
theorem ds_handSet {e : Expr} {m : TD} {np tp jp : Pos} {jk : Nat} (he : DE X W e m) (i j : Nat) (hj : (Nat.ble 1 j && Nat.ble j 4) = true := by rfl) (hg : PG X (.Subscript (.Name x np) (.Constant (.int (j : Int)) jk jp) tp) (gSub (tVar i) (tC (.int (j : Int))) rSetL))
    (hs : swapsWithSole [.Subscript (.Name x np) (.Constant (.int (j : Int)) jk jp) tp] e pos.line X.env = pure false := by rfl) (hw : swappedStores [.Subscript (.Name x np) (.Constant (.int (j : Int)) jk jp) tp] e X.env = pure none := by rfl)
    (h1 : (assignEach [.Subscript (.Name x np) (.Constant (.int (j : Int)) jk jp) tp] X.env).map (·.2) = [assign (.Subscript (.Name x np) (.Constant (.int (j : Int)) jk jp) tp) X.env] := by rfl) :
    DS X W (.Assign [.Subscript (.Name x np) (.Constant (.int (j : Int)) jk jp) tp] e pos) (mHset i j m) := by
  refine PS.of (ps_asg he hg hs hw h1) ?_
  rintro Dk σ H ⟨B, F, S, k, hw', r, h, hn, hr, hb, hc⟩
  refine ⟨B, F, S, _, hw', r, h, fun y S1 v F1 H1 g1 s1 r1 q1 => ?_⟩
  obtain ⟨e, g1⟩ := onHand_elim g1
  obtain ⟨p, c, e1, e2, f, h1, h2⟩ := hand_at r1 e
  cases y with
  | int z =>
    cases q1
    refine ⟨.ref p, e1, p, _, (j : Int), j, rfl, rfl, h1, ?_, ?_⟩
    · match j, hj with
      | 1, _ => rfl
      | 2, _ => rfl
      | 3, _ => rfl
      | 4, _ => rfl
    · refine hn _ _ F1 _ g1 s1 (r1.hset e2 h1 f h2 ?_ ?_)
      · match j, hj with
        | 1, _ => rfl
        | 2, _ => rfl
        | 3, _ => rfl
        | 4, _ => rfl
      · match j, hj with
        | 1, _ => rfl
        | 2, _ => rfl
        | 3, _ => rfl
        | 4, _ => rfl
  | _ => exact (show False from g1).elim
/-! ### the script's slice -/
def onScr (v : Sv) (f : List Int → Prop) : Prop := match v with
  | .scr ns => f ns
  | _ => False
theorem onScr_elim {v : Sv} {f : List Int → Prop} (h : onScr v f) : ∃ ns, v = .scr ns ∧ f ns := by
  cases v <;> first | exact ⟨_, rfl, h⟩ | exact h.elim
def mScr (i n : Nat) : TD := fun S k => onScr (at' S.env i) fun ns => k (.list ((ns.take n).map PyData.int)) S
theorem d_scr (i n : Nat) {np jp sp : Pos} {jk : Nat} (hN : X.N[i]? = some x := by rfl) (hv : Vis X.env.scope x := by first | exact Or.inl rfl | exact Or.inr (Or.inl rfl) | exact Or.inr (Or.inr rfl)) (hd : (x == ("__debug__" : Str)) = false := by decide)
    (hcd : (x == ("__classdict__" : Str)) = false := by decide) : DE X W (.Subscript (.Name x np) (.Slice none (some (.Constant (.int (n : Int)) jk jp)) none sp) pos) (mScr i n) := by
  refine PE.of (pe_slice sl_list (pe_var (i := i) hN hv hd hcd) po_none (po_some pe_int)) fun σ H Q h => ?_
  obtain ⟨B, F, S, k, he, r, h, hk⟩ := h
  obtain ⟨ns, e, h⟩ := onScr_elim h
  have g := at'_get (l := S.env) (i := i)
  rw [e] at g
  rcases g with g | g
  · cases g
  · obtain ⟨a, e1, q⟩ := r.sl i _ g
    refine ⟨.ref a, e1, (n : Int), rfl, a, _, rfl, r.sH.seq q, fun q' nq => ?_⟩
    have e2 : cutV (ns.map V.int) none (some (n : Int)) = (ns.take n).map V.int := by
      unfold cutV
      rw [HT.sIx_none, HT.sIx_nat, List.drop_zero, Nat.sub_zero, List.length_map, List.map_take, ← List.length_map (f := V.int)]
      by_cases hl : n ≤ (ns.map V.int).length
      · rw [Nat.min_eq_left hl]
      · rw [Nat.min_eq_right (by omega), List.take_length, List.take_of_length_le (by omega)]
    rw [e2]
    exact new_lst r (DqL.ints _) nq (k := fun z => k z S) h fun z w' F' H' hz s' r' q => hk z S w' F' H' hz s' r' q
end
end DL

set_option Elab.async false
set_option linter.all false
set_option maxRecDepth 100000
set_option maxHeartbeats 4000000
/-! The data layer, 8: the law's end. -/
namespace DL
open PySem PySem.Spec PyProof.Rows L2

/-- what is tracked at the start is a sequence or an empty table, none of the module's own -/
def Few (K : PySem.W.Frag) (h : Heap) (H : Hp) : Prop := ∀ b o, H b ≠ none → h.get? b = some o → K.lookup b = none ∧ ((∃ vs n, o.data = .seq vs n) ∨ o.data = .fields #[])
section
variable {P : Program} {w : World} {K : PySem.W.Frag} {mg mb : Str → Option Value} {s : Shared} {H : Hp}
theorem Few.out (f : Few K s.heap H) {b : Addr} {o : Obj} (e : s.heap.get? b = some o) (h : K.lookup b ≠ none ∨ ((∀ vs n, o.data ≠ .seq vs n) ∧ o.data ≠ .fields #[])) : H b = none := by
  cases q : H b with
  | none => rfl
  | some u =>
    obtain ⟨a, c⟩ := f b o (by rw [q]; exact fun z => nomatch z) e
    rcases h with h | ⟨h1, h2⟩
    · exact absurd a h
    · rcases c with ⟨vs, n, c⟩ | c
      · exact absurd c (h1 vs n)
      · exact absurd c h2
theorem Few.names (f : Few K s.heap H) {b : Addr} {m : Str → Option Value} (n : s.heap.Ns b m) : (hidT s.heap H).Ns b m := by
  obtain ⟨o, es, ep, e, d, r⟩ := n
  exact ⟨o, es, ep, hidT_get e (f.out e (.inr ⟨fun vs n z => (by rw [d] at z; cases z), fun z => (by rw [d] at z; cases z)⟩)), d, r⟩
theorem Few.frag (f : Few K s.heap H) (KX : K.In s.heap) : K.In (hidT s.heap H) := fun b o e => hidT_get (KX b o e) (f.out (KX b o e) (.inl (by rw [e]; exact fun z => nomatch z)))
theorem Few.env (f : Few K s.heap H) (KX : K.In s.heap) (hns : s.heap.Ns mainGlobals mg) (hb : s.heap.Ns builtinsNs mb) (hbb : ∀ x : Str, x ≠ "__name__" → mb x = bootBuiltins x) (hlim : s.heap.NoLimit) (hg : s.gens = #[]) (ok : HOk P w H s.heap) :
    Env0 P w K mg (hidT s.heap H) callerA [] s H := by
  obtain ⟨mc, c1, c2⟩ := hlim
  refine ⟨rfl, ⟨f.frag KX, f.names hns, ⟨mb, f.names hb, hbb⟩, mc, f.names c1, c2⟩, fun b o e => of_hidT e, ?_, trivial, fun b z => ?_, ok, AllBare.of_eq hg⟩
  · rw [hidT_size]; exact Nat.le_refl _
  · have z : b ∈ ([] : List Addr) := z
    cases z
theorem Few.tabB (f : Few K s.heap H) (hns : s.heap.Ns mainGlobals mg) (hbm : ∃ (bm : Addr) (ob : Obj), mg "__builtins__" = some (.ref bm) ∧ bm ≠ builtinsNs ∧ s.heap.get? bm = some ob ∧ ob.cls = .type "module" ∧ ob.dict = some builtinsNs ∧ ob.data = .plain)
    {c Q : Addr} (hT : s.heap.get? Q = some { cls := .none, data := .fields #[] }) (C : PySem.W.CodeHd s.heap c Q) : LamX.TabB (hidT s.heap H) mg c Q := by
  obtain ⟨o, us, file, tf, flags, tg, inF, text, tt, g1, g2, g3, g4, g5, g6, g7, g8, g9, g10⟩ := C
  obtain ⟨bm, ob, b1, b2, b3, b4, b5, b6⟩ := hbm
  obtain ⟨og, es, ep, n1, n2, n3⟩ := hns
  have notQ : ∀ {b : Addr} {u : Obj}, s.heap.get? b = some u → u.data ≠ .fields #[] → b ≠ Q := fun {b u} e n z => by
    rw [z, hT] at e
    cases e
    exact n rfl
  have free : ∀ {b : Addr} {u : Obj}, s.heap.get? b = some u → (∀ vs n, u.data ≠ .seq vs n) → u.data ≠ .fields #[] → (hidT s.heap H).get? b = some u := fun {b u} e n1 n2 => hidT_get e (f.out e (.inr ⟨n1, n2⟩))
  have plain1 : ∀ vs n, ob.data ≠ .seq vs n := fun vs n z => by rw [b6] at z; cases z
  have plain2 : ob.data ≠ .fields #[] := fun z => by rw [b6] at z; cases z
  refine ⟨⟨o, us, file, tf, flags, tg, inF, text, tt, free g1 (fun vs n z => ?_) (fun z => ?_), g2, g3, g4, g5, g6, g7, g8, g9, g10⟩, ⟨bm, ob, b1, b2, fun z => ?_, notQ b3 plain2, free b3 plain1 plain2, b4, b5, b6⟩, fun z => ?_⟩
  · rw [g3] at z; cases z
  · rw [g3] at z
    cases z
    simp at g4
  · rw [z, n1] at b3
    cases b3
    rw [n2] at b6; cases b6
  · have := notQ n1 (fun q => by rw [n2] at q; cases q)
    exact this z
end
/-- what the end wants of a call -/
abbrev EndR (s : Shared) : Result → Shared → Prop := fun r s' => r = .ok (.ret (.bool true)) ∧ OldK s.heap s'.heap ∧ s'.os = s.os ∧ AllBare s'.gens
section
variable {P : Program} {w : World} {K : PySem.W.Frag} {mg mb : Str → Option Value} {k : Nat} {fa a : Addr} {cs : List (Addr × Addr)} {fd : FuncData} {x : Str} {sp : Sp} {s : Shared} {vs : List Value} {ns : List Int}
/-- where only the script and the tables T are tracked -/
theorem end_one {H : Hp} {T : List Addr} (KX : K.In s.heap) (hns : s.heap.Ns mainGlobals mg) (hb : s.heap.Ns builtinsNs mb) (hbb : ∀ x : Str, x ≠ "__name__" → mb x = bootBuiltins x) (hlim : s.heap.NoLimit) (hg : s.gens = #[])
    (f : Few K s.heap H) (ok : HOk P w H s.heap) (hT : ∀ q ∈ T, H q = some (.tbl #[]) ∧ PySem.isCodeTable s.heap q) (hO : ∀ b, b ∉ T → H b = none ∨ ∃ o xs, H b = some (.frz o (.lst xs)))
    (hr : Room k callerA) (F : FnG P w K mg (hidT s.heap H) k fa fd [x] sp) (hbd : BindsTo s fd ⟨[.ref a], []⟩ [(x, .ref a)])
    (hsp : sp [.ref a] H (fun v _ => v = .bl true) fun _ _ _ => False) : codeAny (model P w) callerA (.call (.ref fa) ⟨[.ref a], []⟩) (EndR s) s := by
  have e0 := f.env (P := P) (w := w) KX hns hb hbb hlim hg ok
  refine codeAny_mono (F.go callerA [] s H ⟨[.ref a], []⟩ [.ref a] [.ref a] _ _ hr rfl e0 hbd (.cons rfl .nil) hsp) fun r s' h => ?_
  have dead : ∀ {E : Value}, L2.CX P w [] H s (fun _ _ _ => False) E s' → False := fun z => by
    obtain ⟨_, _, _, _, _, _, _, _, _, _, _, _, q⟩ := z
    exact q
  match r, h with
  | .error e, h => exact (dead h).elim
  | .ok .next, h => exact False.elim h
  | .ok .brk, h => exact False.elim h
  | .ok .cont, h => exact False.elim h
  | .ok (.ret u), h =>
    obtain ⟨v, H', os, bare, un, ok', rv, q⟩ := h
    have q : v = .bl true := q
    subst q
    obtain rfl : u = Value.bool true := rv
    have noFs : ∀ b : Addr, b ∉ frs ([] : List Env) := fun b z => by
      have z : b ∈ ([] : List Addr) := z
      cases z
    have noEx : ∀ b : Addr, b ∉ ([] : List Addr) := fun b z => by cases z
    have stay : ∀ b o, b ∉ T → s.heap.get? b = some o → s'.heap.get? b = some o := fun b o n e => by
      rcases hO b n with z | ⟨ob, xs, z⟩
      · exact un.keep b o e z (noFs b) (noEx b)
      · have a1 := (ok b _ z).1
        have a2 := (ok' b _ (un.frzs b ob _ z)).1
        rw [e] at a1
        cases a1
        exact a2
    refine ⟨rfl, ⟨fun b o e => ?_, fun b o e => un.there b o e (noEx b)⟩, os, bare⟩
    by_cases m : b ∈ T
    · obtain ⟨t1, t2⟩ := hT b m
      have t3 : s.heap.get? b = some { cls := .none, data := .fields #[] } := ok b _ t1
      rw [e] at t3
      cases t3
      obtain ⟨more, t4⟩ := un.tbls b #[] t1
      have t5 : s'.heap.get? b = some { cls := .none, data := .fields (#[] ++ more) } := ok' b _ t4
      exact .inr (.inl ⟨t2, rfl, #[], more, rfl, t5⟩)
    · exact .inl (stay b o m e)
/-- the law called, from its promise -/
theorem end_call (KX : K.In s.heap) (hns : s.heap.Ns mainGlobals mg) (hb : s.heap.Ns builtinsNs mb) (hbb : ∀ x : Str, x ≠ "__name__" → mb x = bootBuiltins x) (hlim : s.heap.NoLimit) (hg : s.gens = #[])
    (hT : ∀ p ∈ cs, s.heap.get? p.2 = some { cls := .none, data := .fields #[] }) (nT : ∀ p ∈ cs, K.lookup p.2 = none) (C : ∀ p ∈ cs, PySem.W.CodeHd s.heap p.1 p.2)
    (hbm : ∃ (bm : Addr) (ob : Obj), mg "__builtins__" = some (.ref bm) ∧ bm ≠ builtinsNs ∧ s.heap.get? bm = some ob ∧ ob.cls = .type "module" ∧ ob.dict = some builtinsNs ∧ ob.data = .plain)
    (ha : s.heap.get? a = some { cls := .type "list", data := .seq vs.toArray }) (hi : IntsAre vs ns) (hl : ns.length ≤ sizeLine) (hr : Room k callerA)
    (F : ∀ base : Heap, K.In base → base.Ns mainGlobals mg → (∀ p ∈ cs, LamX.TabB base mg p.1 p.2) → FnG P w K mg base k fa fd [x] sp) (hbd : ∀ (s : Shared) (u : Value), BindsTo s fd ⟨[u], []⟩ [(x, u)])
    (hsp : ∀ H : Hp, (∀ p ∈ cs, H p.2 = some (.tbl #[])) → SqL K H a (ns.map V.int) → sp [.ref a] H (fun v _ => v = .bl true) fun _ _ _ => False) :
    codeAny (model P w) callerA (.call (.ref fa) ⟨[.ref a], []⟩) (EndR s) s := by
  have rv := vals_ints hi
  have lenV := hi.length
  have tabs : ∀ b ∈ cs.map (·.2), s.heap.get? b = some { cls := .none, data := .fields #[] } ∧ K.lookup b = none ∧ PySem.isCodeTable s.heap b := fun b m => by
    obtain ⟨p, m', rfl⟩ := List.mem_map.mp m
    exact ⟨hT p m', nT p m', ((C p m').tab (hT p m')).isCodeTable⟩
  have fin : ∀ H : Hp, (∀ b ∈ cs.map (·.2), H b = some (.tbl #[])) → (∀ b, b ∉ cs.map (·.2) → H b = none ∨ (b = a ∧ K.lookup a = none ∧ H b = some (.frz { cls := .type "list", data := .seq vs.toArray } (.lst (ns.map V.int))))) → SqL K H a (ns.map V.int) → codeAny (model P w) callerA (.call (.ref fa) ⟨[.ref a], []⟩) (EndR s) s := by
    intro H h1 h2 h3
    have few : Few K s.heap H := fun b o n e => by
      by_cases m : b ∈ cs.map (·.2)
      · obtain ⟨t1, t2, _⟩ := tabs b m
        rw [e] at t1
        cases t1
        exact ⟨t2, .inr rfl⟩
      · rcases h2 b m with z | ⟨z1, z2, z3⟩
        · exact absurd z n
        · subst z1
          rw [ha] at e
          cases e
          exact ⟨z2, .inl ⟨_, _, rfl⟩⟩
    refine end_one KX hns hb hbb hlim hg few (fun b u z => ?_) (fun q m => ⟨h1 q m, (tabs q m).2.2⟩) (fun b m => ?_) hr (F _ (few.frag KX) (few.names hns) fun p m => few.tabB hns hbm (hT p m) (C p m)) (hbd s (.ref a)) (hsp H (fun p m => h1 _ (List.mem_map.mpr ⟨p, m, rfl⟩)) h3)
    · by_cases m : b ∈ cs.map (·.2)
      · have := (h1 b m).symm.trans z
        cases this
        exact (tabs b m).1
      · rcases h2 b m with z2 | ⟨z1, _, z2⟩
        · rw [z2] at z; cases z
        · rw [z2] at z
          cases z
          subst z1
          exact ⟨ha, by rw [List.length_map]; exact hl, vs, _, rv, ha⟩
    · rcases h2 b m with z | ⟨_, _, z⟩
      · exact .inl z
      · exact .inr ⟨_, _, z⟩
  have aT : a ∉ cs.map (·.2) := fun m => by
    have t := (tabs a m).1
    rw [ha] at t
    have := congrArg Obj.data (Option.some.inj t)
    cases this
  cases hk : K.lookup a with
  | some o =>
    have e := KX a o hk
    rw [ha] at e
    cases e
    exact fin (fun b => if b ∈ cs.map (·.2) then some (.tbl #[]) else none) (fun b m => if_pos m) (fun b m => .inl (if_neg m)) (.inr ⟨_, vs.toArray, _, hk, rfl, rfl, rfl, by rw [List.size_toArray, lenV]; exact hl, by simpa using rv⟩)
  | none =>
    refine fin (fun b => if b ∈ cs.map (·.2) then some (.tbl #[]) else if b = a then some (.frz { cls := .type "list", data := .seq vs.toArray } (.lst (ns.map V.int))) else none) (fun b m => if_pos m) (fun b m => ?_) (.inl (.inr ⟨_, (if_neg aT).trans (if_pos rfl)⟩))
    by_cases z : b = a
    · subst z
      exact .inr ⟨rfl, hk, (if_neg m).trans (if_pos rfl)⟩
    · exact .inl ((if_neg m).trans (if_neg z))
end
/-- the law's promise -/
def spEnd (K : PySem.W.Frag) (n : Nat) (T : List Addr) : Sp := fun vs H Q _ => vs.length = 1 ∧ ∃ (a : Addr) (ns : List Int), vs = [.ref a] ∧ ns.length ≤ n ∧ (∀ z ∈ ns, Builtin.Int.intBits z ≤ 1048576) ∧ (∀ b ∈ T, H b = some (.tbl #[])) ∧ SqL K H a (ns.map V.int) ∧ ∀ H', Q (.bl true) H'
/-- what is known of the law's promise at the head's heap -/
def LawG (l : PySem.W.OpenLaw) (w : World) (K : PySem.W.Frag) (k n : Nat) (x : Str) (mg : Str → Option Value) (fa : Addr) (h : Heap) : Prop :=
  ∃ (fd : FuncData) (cs : List (Addr × Addr)), (∀ p ∈ cs, h.get? p.2 = some { cls := .none, data := .fields #[] }) ∧ (∀ p ∈ cs, K.lookup p.2 = none) ∧ (∀ p ∈ cs, PySem.W.CodeHd h p.1 p.2) ∧ (∀ (s : Shared) (u : Value), BindsTo s fd ⟨[u], []⟩ [(x, u)]) ∧
    ∀ base : Heap, K.In base → base.Ns mainGlobals mg → (∀ p ∈ cs, LamX.TabB base mg p.1 p.2) → FnG l.prog w K mg base k fa fd [x] (spEnd K n (cs.map (·.2)))
theorem walk_g {l : PySem.W.OpenLaw} {n k : Nat} {q : Program} {loose : List Str} {XP : (Str → Option Value) → Heap → Prop} {YP : World → Heap → Prop} {d : DefRec} {K : Params → PySem.W.Frag} {x : Str}
    (hn : l.most = some n) (hn2 : n ≤ sizeLine) (hdf : d.params.defaults = []) (hr : Room k callerA) (hY : ∀ (w : World) (h : Heap), YP w h → (K w.params).In h)
    (F : ∀ (w : World) (mg : Str → Option Value) (fa : Addr) (h : Heap), YP w h → (K w.params).In h → h.Ns mainGlobals mg → mg d.name = some (.ref fa) → LawG l w (K w.params) k n x mg fa h) :
    PySem.W.WalkO q loose XP YP l.row.toRowW d [] (fun f vs => PySem.call f vs) := by
  refine Att.attach_callB hn hdf fun w s₀ s₁ mg mb fa o pm cd doc a vs ns G Y _ _ _ hmg ho hi hlen hbits hg => ?_
  have KX := hY w _ Y
  obtain ⟨fd, cs, hT, nT, C, hbd, hF⟩ := F w mg fa _ Y KX G.T.g hmg
  exact end_call KX G.T.g G.T.b G.T.builtins G.T.nolimit hg hT nT C G.T.bmain ho hi (Nat.le_trans hlen hn2) hr hF hbd fun H hH hS => ⟨rfl, a, ns, rfl, hlen, hbits, fun b m => by obtain ⟨p, m', rfl⟩ := List.mem_map.mp m; exact hH p m', hS, fun _ => rfl⟩

/-! ### the law's body: the hand is made, then the rest runs on its own base -/
section
variable {P : Program} {w : World} {K : PySem.W.Frag} {mg : Str → Option Value} {base : Heap}
/-- all but the tables -/
def noTab (H : Hp) : Hp := fun b => match H b with
  | some (.tbl _) => none
  | o => o
theorem noTab_same (H : Hp) : Same (noTab H) H := fun b o e => by
  unfold noTab at e
  split at e
  · cases e
  · exact e
theorem noTab_seq {H : Hp} {a : Addr} {xs : List V} (h : SqL K H a xs) : SqL K (noTab H) a xs := by
  rcases h with (h | ⟨o, h⟩) | h
  · exact .inl (.inl (by unfold noTab; rw [h]))
  · exact .inl (.inr ⟨o, by unfold noTab; rw [h]⟩)
  · exact .inr h
/-- the hand as it is made -/
def hand0 (cells : List Int) (m : Int) : D := .list [.list (cells.map PyData.int), .int 0, .int 0, .int m, .int 0]
/-- behind the first statement -/
def handed (N : Nat) (bT : TDS) (S : Sd) : Prop := S.env.length = N ∧ ∃ cells m, at' S.env 1 = .d (hand0 cells m) ∧ runT N bT [.no, .hand] ⟨cells, 0, 0, m, 0⟩ fun y _ => y = .bool true
theorem rp_hand {F H : Hp} {p c : Addr} {T : List (Addr × Str)} {N : Nat} {σ : St} {h : Hd} (s : Same F H) (t : LamX.Tabs T H) (hp : F p = some (.lst [.ref c, .int h.at_, .int h.left, .int h.mix, .int h.many])) (hc : F c = some (.lst (h.cells.map V.int)))
    (e1 : σ[1]? = some (some (.ref p))) (hl : σ.length = N) : Rp K ⟨fun b => if b = p then none else F b, H, some p, T⟩ (fun b => if b = p then none else F b) H σ (sd0 N [.no, .hand] h) := by
  have cp : c ≠ p := fun z => by
    rw [z] at hc
    have e := hp.symm.trans hc
    cases hcl : h.cells with
    | nil => rw [hcl] at e; cases e
    | cons i r => rw [hcl] at e; cases e
  have s2 : Same (fun b => if b = p then none else F b) H := fun b o e => by
    have e : (if b = p then none else F b) = some o := e
    by_cases z : b = p
    · rw [if_pos z] at e; cases e
    · rw [if_neg z] at e; exact s _ _ e
  have two : 2 ≤ N := by
    have := (List.getElem?_eq_some_iff.mp e1).1
    omega
  have at2 : ∀ {i : Nat} {v : Sv}, (sd0 N [.no, .hand] h).env[i]? = some v → v = .no ∨ (i = 1 ∧ v = .hand) := fun {i v} e => by
    have e : ([Sv.no, .hand] ++ List.replicate (N - 2) .no)[i]? = some v := e
    match i, e with
    | 0, e => cases e; exact .inl rfl
    | 1, e => cases e; exact .inr ⟨rfl, rfl⟩
    | i + 2, e =>
      have e : (List.replicate (N - 2) Sv.no)[i]? = some v := e
      rw [List.getElem?_replicate] at e
      split at e
      · cases e; exact .inl rfl
      · cases e
  refine ⟨Ev.refl s2 (fun q e => ?_) t, fun i v e => ?_, fun i j xs ys n q1 q2 => ?_, ?_⟩
  · cases e
    exact ⟨if_pos rfl, c, s _ _ hp, (if_neg cp).trans hc⟩
  · rcases at2 e with rfl | ⟨rfl, rfl⟩
    · trivial
    · exact ⟨p, e1, rfl⟩
  · rcases at2 q1 with z | ⟨_, z⟩ <;> cases z
  · show ([Sv.no, .hand] ++ List.replicate (N - 2) Sv.no).length = σ.length
    rw [List.length_append, List.length_replicate, hl]
    show 2 + (N - 2) = N
    omega
/-- the law: hand = h(script), then the rest -/
theorem fn_law {T : List (Addr × Str)} {x : Str} {st : Stmt} {f : Addr} {fd : FuncData} {N : List Str} {k n : Nat} {mh : TD} {bT : TDS} {s1 : Stmt} {rest : List Stmt} (F : Fun K x x st f fd) (S : FnScope N ["script"] (defScope st)) (hbody : defBody st = s1 :: rest)
    (h1 : ∀ (cdv : Value) (A : Around) (outer : List Env) (s : Shared) (H : Hp) (E : XK), Room k (bodyCx P w K mg base N x st f cdv A outer s H E).A → (bodyCx P w K mg base N x st f cdv A outer s H E).A.guards = some [] →
      DS (bodyCx P w K mg base N x st f cdv A outer s H E) ⟨E, fun _ => False⟩ s1 (mSet 1 mh))
    (h2 : ∀ (cdv : Value) (A : Around) (outer : List Env) (s : Shared) (H : Hp) (E : XK), Room k (bodyCx P w K mg base N x st f cdv A outer s H E).A → (bodyCx P w K mg base N x st f cdv A outer s H E).A.guards = some [] →
      DB (bodyCx P w K mg base N x st f cdv A outer s H E) ⟨E, fun _ => False⟩ rest bT)
    (hm : ∀ ns : List Int, ns.length ≤ n → (∀ z ∈ ns, Builtin.Int.intBits z ≤ 1048576) → mh (sd0 N.length [.scr ns] default) fun y S => handed N.length bT { S with env := S.env.set 1 (.d y) }) :
    FnG P w K mg base (k + 1) f fd ["script"] (spEnd K n (T.map (·.1))) := by
  refine fng_of F S (fun vs H Q E h => h.1) fun cdv A outer s H vs Q E hr hg h => ?_
  obtain ⟨_, a, ns, rfl, hl, hbits, hT, hS, hQ⟩ := h
  rw [hbody]
  refine ⟨_, pss_cons (h1 cdv A outer s H E hr hg) (h2 cdv A outer s H E hr hg), ?_⟩
  have tb : LamX.Tabs T H := fun p m => LamX.TabS.nil (hT _ (List.mem_map.mpr ⟨p, m, rfl⟩))
  have rp : Rp K ⟨noTab H, H, none, T⟩ (noTab H) H (L2.start N [.ref a]) (sd0 N.length [.scr ns] default) := rp_start (noTab_same H) (fun _ z => nomatch z) tb (.cons ⟨a, rfl, noTab_seq hS⟩ .nil)
  have noE : ∀ {B : Bs}, HE K mg E (fun _ => False) B := fun c cls d F' H' h' z => z.elim
  refine ⟨_, noTab H, _, ⟨handed N.length bT, fun _ _ => False, fun _ => False, fun _ => False⟩, noE, rp, hm ns hl hbits, ?_, fun x S' v F' H' hk _ _ _ => hk.elim, fun S' σ' F' H' hk _ _ => hk.elim, fun S' σ' F' H' hk _ _ => hk.elim⟩
  intro S1 σ1 F1 H1 hk s1 r1
  obtain ⟨hlen, cells, m, ey, hrun⟩ := hk
  have g := at'_get (l := S1.env) (i := 1)
  rw [ey] at g
  rcases g with g | g
  · cases g
  · obtain ⟨v, ev, qv⟩ := r1.sl 1 _ g
    obtain ⟨p, vs, rfl, hp, qs⟩ := qv.lst_inv
    match vs, qs with
    | [_, _, _, _, _], .cons q1 (.cons q2 (.cons q3 (.cons q4 (.cons q5 .nil)))) =>
      cases q2; cases q3; cases q4; cases q5
      obtain ⟨c, us, rfl, hc, qi⟩ := q1.lst_inv
      rw [qi.of_ints] at hc
      have rp2 := rp_hand (K := K) (h := ⟨cells, 0, 0, m, 0⟩) r1.sH r1.ev.tab hp hc ev (r1.ln.symm.trans hlen)
      refine ⟨_, _, _, _, noE, rp2, hrun, ?_, ?_, fun S' σ' F' H' hk _ _ => hk.elim, fun S' σ' F' H' hk _ _ => hk.elim⟩
      · intro S' σ' F' H' hk s' r'
        have hk : PyData.none = .bool true := hk
        cases hk
      · intro y S' v F' H' hk s' ev' q
        have hk : y = .bool true := hk
        subst hk
        cases q
        exact hQ _
end
end DL

set_option Elab.async false
set_option linter.all false
set_option maxRecDepth 100000
set_option maxHeartbeats 4000000
/-! The data layer, 9: small rules; the text's defs. -/
namespace DL
open PySem PySem.Spec PyProof.Rows L2
abbrev keN : Str → Prop := fun _ => False
theorem hu65 {A : Around} {k : Nat} (hr : Room k A) : A.units + 65 < cLine := by have := hr.un; omega
abbrev fLt : Int → Int → Bool := fun i j => decide (i < j)
abbrev fLe : Int → Int → Bool := fun i j => decide (i ≤ j)
abbrev fGt : Int → Int → Bool := fun i j => decide (j < i)
abbrev fGe : Int → Int → Bool := fun i j => decide (j ≤ i)
section
variable {X : Cx} {W : Wx} {pos p : Pos} {e : Expr} {m : TD} {ms : TDA} {x y z : Str}
/-- f(..) as a statement -/
def mExpr (m : TD) : TDS := fun S K => m S fun _ S1 => K.nx S1
theorem ds_expr (h : DE X W e m) (hs : swapsWith e none pos.line X.env = pure false := by rfl) : DS X W (.Expr e pos) (mExpr m) := by
  refine PS.of (ps_expr h hs) ?_
  rintro D σ H ⟨B, F, S, k, he, r, h, hn, _⟩
  exact ⟨B, F, S, _, he, r, h, fun y S1 v F1 H1 h1 s1 r1 _ => hn _ _ F1 H1 h1 s1 r1⟩
def mPar3 (i j l : Nat) (ms : TDA) : TDS := fun S K => ms S fun xs S1 => match xs with
  | [x, y, z] => K.nx { S1 with env := ((S1.env.set i (.d x)).set j (.d y)).set l (.d z) }
  | _ => False
theorem ds_par3 {ea eb ec : Expr} {px py pz pt : Pos} {kt k2 pt2} (hc : X.calm = true) (hN : X.N.Nodup) (ha : DA X W [ea, eb, ec] ms) (i j l : Nat) (hi : X.N[i]? = some x := by rfl) (hj : X.N[j]? = some y := by rfl) (hl : X.N[l]? = some z := by rfl) (hij : i ≠ j := by decide) (hil : i ≠ l := by decide) (hjl : j ≠ l := by decide)
    (hx : X.env.scope.names.lookup x = some .local := by rfl) (hy : X.env.scope.names.lookup y = some .local := by rfl) (hz : X.env.scope.names.lookup z = some .local := by rfl)
    (hw : swappedStores [.Tuple [.Name x px, .Name y py, .Name z pz] kt pt] (.Tuple [ea, eb, ec] k2 pt2) X.env = pure (some [x, y, z]) := by rfl)
    (hs : swapsWithSole [.Tuple [.Name x px, .Name y py, .Name z pz] kt pt] (.Tuple [ea, eb, ec] k2 pt2) pos.line X.env = pure false := by rfl) :
    DS X W (.Assign [.Tuple [.Name x px, .Name y py, .Name z pz] kt pt] (.Tuple [ea, eb, ec] k2 pt2) pos) (mPar3 i j l ms) := by
  refine PS.of (ps_par3 hc hN hi hj hl hij hil hjl hx hy hz ha hw hs) ?_
  rintro D σ H ⟨B, F, S, k, he, r, h, hn, _⟩
  refine ⟨B, F, S, _, he, r, h, fun xs S1 vs F1 H1 h1 s1 r1 q1 => ?_⟩
  match xs, vs, q1, h1 with
  | [u, v, w], _, .cons q (.cons q' (.cons q'' .nil)), h1 => exact ⟨_, _, _, rfl, hn _ _ F1 H1 h1 s1 (((r1.put q).put q').put q'')⟩
  | [], _, _, h1 => exact (show False from h1).elim
  | [_], _, _, h1 => exact (show False from h1).elim
  | [_, _], _, _, h1 => exact (show False from h1).elim
  | _ :: _ :: _ :: _ :: _, _, _, h1 => exact (show False from h1).elim
end
/-! ### a def of the text, known -/
structure Dn (K : PySem.W.Frag) (mg : Str → Option Value) (x : Str) (st : Stmt) (ps : List Str) (a : Addr) (fd : FuncData) : Prop where
  F : Fun K x x st a fd
  G : mg x = some (.ref a)
  B : Binds K fd ps []
theorem dn_mk {K : PySem.W.Frag} {mg : Str → Option Value} {h : Heap} {x : Str} {st : Stmt} {ps : List Str} {a : Addr} {oc : Value} {od an : Option Addr} {osl : Array (Option Value)} {kV doc pm cdv ct : Value} (X : K.In h) (G : h.Ns mainGlobals mg)
    (i : PySem.W.nsIn K mainGlobals x = some (some (.ref a))) (l : K.lookup a = some ⟨oc, od, .func (PySem.W.fnOf x x (defArgs st) (defBody st) (defScope st) .none kV doc pm an cdv ct), osl⟩) (c : PySem.W.codeIn K cdv x = true) (k : PySem.W.keepIn K (.ref a) = true)
    (hb : ∀ (kV doc pm : Value) (an : Option Addr) (cdv ct : Value) (us : List Value), us.length = ps.length → bindArgs (PySem.W.fnOf x x (defArgs st) (defBody st) (defScope st) .none kV doc pm an cdv ct) ⟨us, []⟩ = pure (ps.zip us)) :
    Dn K mg x st ps a (PySem.W.fnOf x x (defArgs st) (defBody st) (defScope st) .none kV doc pm an cdv ct) :=
  ⟨fun_mk l c k, PySem.W.mg_of X G i, (fun_mk l c k).binds hb⟩
end DL

set_option Elab.async false
set_option linter.all false
set_option maxRecDepth 100000
set_option maxHeartbeats 4000000
/-! Plain steps over the readings of data. -/
namespace DL
open PySem
theorem br_t {p q : Prop} (h : p) : br true p q := h
theorem br_f {p q : Prop} (h : q) : br false p q := h
theorem br_b {b : Bool} {p q : Prop} (h1 : b = true → p) (h2 : b = false → q) : br b p q := by
  cases b with
  | true => exact h1 rfl
  | false => exact h2 rfl
theorem br_d {c : Prop} [Decidable c] {p q : Prop} (h1 : c → p) (h2 : ¬ c → q) : br (decide c) p q := br_b (fun e => h1 (of_decide_eq_true e)) fun e => h2 (of_decide_eq_false e)
theorem br_y {b : Bool} {p q : Prop} (e : b = true) (h : p) : br b p q := by subst e; exact h
theorem br_n {b : Bool} {p q : Prop} (e : b = false) (h : q) : br b p q := by subst e; exact h
theorem big_of {n : Nat} (h : n ≤ 1000000) : big n = true := Nat.ble_eq_true_of_le h
theorem bt_of {i : Int} {n : Nat} (h : i.natAbs < 2 ^ n) (hn : n ≤ 60000000) : bt i := by
  unfold bt
  by_cases z : i.natAbs = 0
  · rw [z]; decide
  · exact Nat.lt_of_lt_of_le ((Nat.log2_lt z).mpr h) hn
theorem bt_s {i : Int} (h : -1000000000000000000 < i ∧ i < 1000000000000000000) : bt i := bt_of (n := 60) (by
  have : (2 : Nat) ^ 60 = 1152921504606846976 := by decide
  omega) (by decide)
theorem l9 {j : Int} (h : -1000000000000000000 < j ∧ j < 1000000000000000000) : j.natAbs.log2 < 9000 := by
  by_cases z : j.natAbs = 0
  · rw [z]; decide
  · exact Nat.lt_of_lt_of_le ((Nat.log2_lt z).mpr (show j.natAbs < 2 ^ 60 by
      have : (2 : Nat) ^ 60 = 1152921504606846976 := by decide
      omega)) (by decide)
theorem l19 {j : Int} (h : -1000000000000000000 < j ∧ j < 1000000000000000000) : decide (j.natAbs.log2 < 1920) = true := by
  refine decide_eq_true ?_
  by_cases z : j.natAbs = 0
  · rw [z]; decide
  · exact Nat.lt_of_lt_of_le ((Nat.log2_lt z).mpr (show j.natAbs < 2 ^ 60 by
      have : (2 : Nat) ^ 60 = 1152921504606846976 := by decide
      omega)) (by decide)
theorem eq_self {s : Str} : (s == s) = true := by simp
/-- a != a of texts -/
theorem ne_txt {s : Str} {k : D → Prop} (h : k (.bool false)) : neD (.str s) (.str s) k := by
  show k (.bool (!(s == s)))
  rw [eq_self]; exact h
theorem ne_dat {x y : D} {k : D → Prop} (ok : eqOk x y = true) (e : PyData.eqv x y = true) (n : ∀ i j, x = .int i → y = .int j → False) (n2 : ∀ i j, x = .str i → y = .str j → False) (h : k (.bool false)) : neD x y k := by
  have h2 : eqOk x y = true ∧ k (.bool (!PyData.eqv x y)) := ⟨ok, by rw [e]; exact h⟩
  unfold neD
  split
  · exact (n _ _ rfl rfl).elim
  · exact (n2 _ _ rfl rfl).elim
  · exact h2

/-! ### blocks -/
/-- a block whose element tells g -/
theorem lc_map {T : Tg} {me : TD} {E : List Sv} {g : D → D} {h : Hd} : ∀ {xs acc : List D} {k : List D → Hd → Prop}, (∀ x ∈ xs, ∀ (Q : D → Sd → Prop), (∀ S', S'.h = h → Q (g x) S') → tgD T x ⟨E, h⟩ fun S2 => me S2 Q) → acc.length + xs.length ≤ 1000000 → k (acc ++ xs.map g) h → lcD T mYes me E xs acc h k
  | [], acc, k, _, _, hk => by
    have e : acc ++ [].map g = acc := by simp
    rw [e] at hk
    exact hk
  | x :: xs, acc, k, hs, hl, hk => by
    show tgD T x ⟨E, h⟩ fun S2 => me S2 fun y S4 => big acc.length = true ∧ lcD T mYes me E xs (acc ++ [y]) S4.h k
    refine hs x List.mem_cons_self _ fun S' e => ⟨big_of (by simp at hl; omega), ?_⟩
    rw [e]
    refine lc_map (fun y hy => hs y (List.mem_cons_of_mem _ hy)) (by simp at hl ⊢; omega) ?_
    rw [List.append_assoc]
    exact hk
/-- a block with a test that tells p -/
theorem lc_filter {T : Tg} {mc : TDT} {me : TD} {E : List Sv} {p : D → Bool} {g : D → D} {h : Hd} : ∀ {xs acc : List D} {k : List D → Hd → Prop}, (∀ x ∈ xs, ∀ (P : Bool → Sd → Prop), (∀ S', S'.h = h → (∀ Q : D → Sd → Prop, p x = true → (∀ S'', S''.h = h → Q (g x) S'') → me S' Q) → P (p x) S') → tgD T x ⟨E, h⟩ fun S2 => mc S2 P) → acc.length + xs.length ≤ 1000000 → k (acc ++ (xs.filter p).map g) h → lcD T mc me E xs acc h k
  | [], acc, k, _, _, hk => by
    have e : acc ++ ([].filter p).map g = acc := by simp
    rw [e] at hk
    exact hk
  | x :: xs, acc, k, hs, hl, hk => by
    show tgD T x ⟨E, h⟩ fun S2 => mc S2 fun b S3 => br b (me S3 fun y S4 => big acc.length = true ∧ lcD T mc me E xs (acc ++ [y]) S4.h k) (lcD T mc me E xs acc S3.h k)
    refine hs x List.mem_cons_self _ fun S' e hme => ?_
    refine br_b (fun ep => hme _ ep fun S'' e2 => ⟨big_of (by simp at hl; omega), ?_⟩) fun ep => ?_
    · rw [e2]
      refine lc_filter (fun y hy => hs y (List.mem_cons_of_mem _ hy)) (by simp at hl ⊢; omega) ?_
      rw [List.filter_cons_of_pos ep] at hk
      rw [List.append_assoc]
      exact hk
    · rw [e]
      refine lc_filter (fun y hy => hs y (List.mem_cons_of_mem _ hy)) (by simp at hl ⊢; omega) ?_
      rw [List.filter_cons_of_neg (by rw [ep]; exact Bool.false_ne_true)] at hk
      exact hk
/-- a block that may draw: an invariant of the hand and of what was told -/
theorem lc_inv {T : Tg} {me : TD} {E : List Sv} {P : Nat → List D → Hd → Prop} : ∀ {xs acc : List D} {h : Hd} {k : List D → Hd → Prop} (n : Nat), P n acc h → acc.length + xs.length ≤ 1000000 →
    (∀ i acc h x (Q : D → Sd → Prop), P i acc h → xs[i - n]? = some x → n ≤ i → (∀ y S', P (i + 1) (acc ++ [y]) S'.h → Q y S') → tgD T x ⟨E, h⟩ fun S2 => me S2 Q) → (∀ acc h, P (n + xs.length) acc h → k acc h) → lcD T mYes me E xs acc h k
  | [], acc, h, k, n, hp, _, _, hk => hk acc h hp
  | x :: xs, acc, h, k, n, hp, hl, hs, hk => by
    show tgD T x ⟨E, h⟩ fun S2 => me S2 fun y S4 => big acc.length = true ∧ lcD T mYes me E xs (acc ++ [y]) S4.h k
    refine hs n acc h x _ hp (by simp) (Nat.le_refl _) fun y S' hp' => ⟨big_of (by simp at hl; omega), ?_⟩
    refine lc_inv (n + 1) hp' (by simp at hl ⊢; omega) (fun i acc h z Q hpi hz hi hq => hs i acc h z Q hpi ?_ (by omega) hq) fun acc h hp'' => hk acc h ?_
    · have e : i - n = (i - (n + 1)) + 1 := by omega
      rw [e]; exact hz
    · have e : n + (x :: xs).length = n + 1 + xs.length := by simp; omega
      rw [e]; exact hp''
/-- a for without an early end, by an invariant -/
theorem for_inv {T : Tg} {n : TDS} {K : Es} {P : Nat → Sd → Prop} : ∀ {xs : List D} {S : Sd} (i : Nat), P i S → (∀ j S x (K' : Es), P j S → i ≤ j → xs[j - i]? = some x → K'.rt = K.rt → K'.bk = K.nx → (∀ S', P (j + 1) S' → K'.nx S') → tgD T x S fun S1 => n S1 K') → (∀ S, P (i + xs.length) S → K.nx S) → forD T n xs S K
  | [], S, i, hp, _, hk => hk S hp
  | x :: xs, S, i, hp, hs, hk => by
    show tgD T x S fun S1 => n S1 ⟨fun S2 => forD T n xs S2 K, K.rt, K.nx, fun S2 => forD T n xs S2 K⟩
    refine hs i S x _ hp (Nat.le_refl _) (by simp) rfl rfl fun S' hp' => ?_
    refine for_inv (i + 1) hp' (fun j S y K' hpj hj hy e1 e2 hn => hs j S y K' hpj (by omega) ?_ e1 e2 hn) fun S' hp'' => hk S' ?_
    · have e : j - i = (j - (i + 1)) + 1 := by omega
      rw [e]; exact hy
    · have e : i + (x :: xs).length = i + 1 + xs.length := by simp; omega
      rw [e]; exact hp''
theorem rngL_at {lo : Int} {n i : Nat} (h : i < n) : (rngL lo n)[i]? = some (.int (lo + i)) := by
  induction n generalizing lo i with
  | zero => omega
  | succ n ih =>
    cases i with
    | zero => show some (PyData.int lo) = _; simp
    | succ i =>
      show (rngL (lo + 1) n)[i]? = _
      rw [ih (by omega)]
      congr 2
      omega

/-! ### the hand -/
structure HdOk (h : Hd) (b : Nat) : Prop where
  cells : ∀ c ∈ h.cells, 0 ≤ c ∧ c.natAbs < 2 ^ 1048577
  at0 : 0 ≤ h.at_
  left0 : 0 ≤ h.left ∧ h.left.natAbs < 2 ^ 1048577
  mix0 : 0 ≤ h.mix ∧ h.mix < 2147483648
  many0 : 0 ≤ h.many ∧ h.many + b ≤ 1000000000000
theorem HdOk.mono {h : Hd} {b c : Nat} (o : HdOk h b) (l : c ≤ b) : HdOk h c := ⟨o.cells, o.at0, o.left0, o.mix0, o.many0.1, by have := o.many0.2; omega⟩
theorem abs_bits {z : Int} (h : Builtin.Int.intBits z ≤ 1048576) : 0 ≤ absI z ∧ (absI z).natAbs < 2 ^ 1048577 := by
  have e : (absI z).natAbs = z.natAbs := by unfold absI; split <;> omega
  refine ⟨by unfold absI; split <;> omega, ?_⟩
  rw [e]
  by_cases c : z.natAbs = 0
  · rw [c]; exact Nat.two_pow_pos _
  · refine (Nat.log2_lt c).mp ?_
    unfold Builtin.Int.intBits at h
    split at h
    · rename_i q
      have : z = 0 := by simpa using q
      omega
    · omega
theorem bt_cell {c : Int} (h : c.natAbs < 2 ^ 1048577) : bt c := bt_of h (by decide)
end DL

set_option Elab.async false
set_option linter.all false
set_option maxRecDepth 100000
set_option maxHeartbeats 1000000
set_option exponentiation.threshold 2000000
/-! The drawing hand's plain law. -/
namespace DL
open PySem
theorem fdv_pos {i j : Int} (h : 0 < j) : fdvI i j = i / j := by unfold fdvI; rw [if_neg (by omega)]
/-- a modest number -/
def md (c : Int) : Prop := 0 < c ∧ c < 2147483648
theorem md_mod {i c : Int} (h : md c) : 0 ≤ i % c ∧ i % c < 2147483648 := ⟨Int.emod_nonneg _ (by have := h.1; omega), by have := Int.emod_lt_of_pos i h.1; have := h.2; omega⟩
theorem md_div {i c : Int} (h : md c) (b : 0 ≤ i ∧ i < 2147483648) : 0 ≤ fdvI i c ∧ fdvI i c < 2147483648 := by
  rw [fdv_pos h.1]
  have h1 := Int.ediv_le_self c b.1
  have h2 : i / c ≤ i := Int.ediv_le_self c b.1
  exact ⟨Int.ediv_nonneg b.1 (by have := h.1; omega), by omega⟩
theorem mulb {a b : Int} (ha : 0 ≤ a ∧ a < 1000000000000000) (hb : md b) : 0 ≤ a * b := Int.mul_nonneg ha.1 (by have := hb.1; omega)
section
variable {h : Hd} {k : D → Hd → Prop} {m : Int} {b : Nat}
/-! ### a hand: what is made -/
def absX : D → D
  | .int i => .int (absI i)
  | x => x
theorem absX_map (ns : List Int) : (ns.map PyData.int).map absX = (ns.map absI).map PyData.int := by
  rw [List.map_map, List.map_map]; rfl
def handA (c7 m7 : Int) : TDS := mSeq (mSet 1 (mFrz (mLc (mIter (mScr 0 63)) (.one 2) mYes (mB absD (mCons (mB intOf (mCons (mVar 2) mNil)) mNil)) [2])))
    (mRet (mFrz (mLst (mCons (mVar 1) (mCons (mC (.int 0)) (mCons (mC (.int 0)) (mCons (mOp addD (mC (.int c7)) (mOp mulD (mC (.int m7)) (mBK lenD (mSlot 1)))) (mCons (mC (.int 0)) mNil))))))))
theorem handA_ok {ns : List Int} {c7 m7 : Int} (h7 : 0 < c7 ∧ c7 < 1000000000) (h8 : 0 < m7 ∧ m7 < 1000) (hb : ∀ z ∈ ns, Builtin.Int.intBits z ≤ 1048576) (hl : ns.length ≤ 63) (H : ∀ cells m, (∀ b, b ≤ 1000000000000 → HdOk ⟨cells, 0, 0, m, 0⟩ b) → k (hand0 cells m) h) :
    runT 3 (handA c7 m7) [.scr ns] h k := by
  have hl2 : (ns.take 63).length ≤ 63 := by rw [List.length_take]; omega
  refine lc_map (g := absX) (fun x hx Q hQ => ?_) ?_ ?_
  · obtain ⟨z, hz, rfl⟩ := List.mem_map.mp hx
    exact hQ _ rfl
  · rw [List.length_map]; show 0 + _ ≤ _; omega
  · rw [List.nil_append, absX_map]
    refine ⟨⟨bt_s (by omega), bt_s ?_⟩, by rfl, H ((ns.take 63).map absI) (c7 + m7 * (((ns.take 63).map absI).map PyData.int).length) fun b hbd => ⟨fun c hc => ?_, Int.le_refl 0, ⟨Int.le_refl 0, Nat.two_pow_pos _⟩, ?_, ⟨Int.le_refl 0, ?_⟩⟩⟩
    · rw [List.length_map, List.length_map]; omega
    · obtain ⟨z, hz, rfl⟩ := List.mem_map.mp hc
      exact abs_bits (hb z (List.mem_of_mem_take hz))
    · rw [List.length_map, List.length_map]
      have h3 : (0 : Int) ≤ ((ns.take 63).length : Int) := by omega
      have h4 : ((ns.take 63).length : Int) ≤ 63 := by omega
      have h5 : m7 * ((ns.take 63).length : Int) ≤ 1000 * 63 := Int.mul_le_mul (by omega) h4 h3 (by decide)
      have h6 : 0 ≤ m7 * ((ns.take 63).length : Int) := Int.mul_nonneg (by omega) h3
      exact ⟨by show 0 ≤ c7 + _; omega, by show c7 + _ < _; omega⟩
    · show (0 : Int) + b ≤ _; omega
theorem cp18 : L2.CPow 10 18 := by
  unfold L2.CPow
  decide +kernel
/-! ### a draw -/
def drawA (a1 a2 a3 p1 a4 a5 p2 c1 d1 p3 c2 d2 p4 c3 : Int) : TDS :=
  mSeq (mIfS (mAnd (mTst (mOpK eqD (mVw (mHix 0 2)) (mC (.int 0)))) (mTst (mOp ltD (mHix 0 1) (mBK lenD (mVw (mHix 0 0)))))) (mSeq (mSet 2 (mOpK ixD (mVw (mHix 0 0)) (mHix 0 1)))
    (mSeq (mHset 0 1 (mOp addD (mHix 0 1) (mC (.int 1))))
    (mSeq (mHset 0 3 (mOp modD (mB intOf (mCons (mOp addD (mOp addD (mOp mulD (mHix 0 3) (mC (.int a1))) (mOp mulD (mVar 2) (mC (.int a2)))) (mC (.int a3))) mNil)) (mC (.int p1))))
    (mIfS (mTst (mOp geD (mVar 2) (mOp powD (mC (.int 10)) (mC (.int 18))))) (mHset 0 2 (mVar 2)) mNext)))) mNext)
    (mSeq (mIfS (mTst (mOp gtD (mHix 0 2) (mC (.int 0)))) (mSeq (mSet 3 (mOp modD (mB intOf (mCons (mHix 0 2) mNil)) (mVar 1)))
    (mSeq (mHset 0 2 (mOp fdvD (mHix 0 2) (mVar 1)))
    (mRet (mVar 3)))) mNext)
    (mSeq (mHset 0 4 (mOp addD (mHix 0 4) (mC (.int 1))))
    (mSeq (mSet 4 (mOp modD (mB intOf (mCons (mOp mulD (mB intOf (mCons (mOp addD (mHix 0 3) (mOp mulD (mC (.int a4)) (mHix 0 4))) mNil)) (mC (.int a5))) mNil)) (mC (.int p2))))
    (mSeq (mSet 4 (mOp modD (mB intOf (mCons (mOp mulD (mVar 4) (mOp addD (mOp fdvD (mVar 4) (mC (.int c1))) (mC (.int d1)))) mNil)) (mC (.int p3))))
    (mSeq (mSet 4 (mOp modD (mB intOf (mCons (mOp mulD (mVar 4) (mOp addD (mOp fdvD (mVar 4) (mC (.int c2))) (mC (.int d2)))) mNil)) (mC (.int p4))))
    (mRet (mOp modD (mB intOf (mCons (mOp fdvD (mVar 4) (mC (.int c3))) mNil)) (mVar 1))))))))
theorem left_div {l m : Int} (h : 0 ≤ l ∧ l.natAbs < 2 ^ 1048577) (hm : 0 < m) : 0 ≤ fdvI l m ∧ (fdvI l m).natAbs < 2 ^ 1048577 := by
  rw [fdv_pos hm]
  have h3 : 0 ≤ l / m := Int.ediv_nonneg h.1 (by omega)
  have h4 : l / m ≤ l := Int.ediv_le_self _ h.1
  exact ⟨h3, Nat.lt_of_le_of_lt (by omega) h.2⟩
theorem drawA_ok {a1 a2 a3 p1 a4 a5 p2 c1 d1 p3 c2 d2 p4 c3 : Int} (q1 : md a1) (q2 : md a2) (q3 : md a3) (q4 : md p1) (q5 : 0 < a4 ∧ a4 < 100000) (q6 : 0 < a5 ∧ a5 < 100000) (q7 : md p2) (q8 : md c1) (q9 : md d1) (r1 : md p3) (r2 : md c2) (r3 : md d2) (r4 : md p4) (r5 : md c3)
    (o : HdOk h (b + 1)) (hm : 0 < m ∧ m < 1000000000000000) (H : ∀ r h', 0 ≤ r → r < m → HdOk h' b → k (.int r) h') : runT 5 (drawA a1 a2 a3 p1 a4 a5 p2 c1 d1 p3 c2 d2 p4 c3) [.hand, .d (.int m)] h k := by
  have hm0 : m ≠ 0 := by omega
  have mdb : ∀ {c : Int}, md c → -1000000000000000000 < c ∧ c < 1000000000000000000 := fun h => ⟨by have := h.1; omega, by have := h.2; omega⟩
  have mdn : ∀ {c : Int}, md c → c ≠ 0 := fun h => by have := h.1; omega
  have mixed : ∀ (x : Sv) (h : Hd), HdOk h (b + 1) → (mSeq (mHset 0 4 (mOp addD (mHix 0 4) (mC (.int 1))))
    (mSeq (mSet 4 (mOp modD (mB intOf (mCons (mOp mulD (mB intOf (mCons (mOp addD (mHix 0 3) (mOp mulD (mC (.int a4)) (mHix 0 4))) mNil)) (mC (.int a5))) mNil)) (mC (.int p2))))
    (mSeq (mSet 4 (mOp modD (mB intOf (mCons (mOp mulD (mVar 4) (mOp addD (mOp fdvD (mVar 4) (mC (.int c1))) (mC (.int d1)))) mNil)) (mC (.int p3))))
    (mSeq (mSet 4 (mOp modD (mB intOf (mCons (mOp mulD (mVar 4) (mOp addD (mOp fdvD (mVar 4) (mC (.int c2))) (mC (.int d2)))) mNil)) (mC (.int p4))))
    (mRet (mOp modD (mB intOf (mCons (mOp fdvD (mVar 4) (mC (.int c3))) mNil)) (mVar 1))))))) ⟨[.hand, .d (.int m), x, .no, .no], h⟩ (endK k) := fun x h o => by
    obtain ⟨cells, at_, left, mix, many⟩ := h
    have h1 : 0 ≤ mix ∧ mix < 2147483648 := o.mix0
    have h2 : 0 ≤ many ∧ many + (b + 1 : Nat) ≤ 1000000000000 := o.many0
    have s1 : 0 ≤ a4 * (many + 1) := Int.mul_nonneg (by omega) (by omega)
    have s2 : a4 * (many + 1) ≤ 100000 * 1000000000001 := Int.mul_le_mul (by omega) (by omega) (by omega) (by decide)
    have t1 := md_mod (i := (mix + a4 * (many + 1)) * a5) q7
    generalize e1 : (mix + a4 * (many + 1)) * a5 % p2 = y1 at t1
    have t2 := md_div q8 t1
    have t3 := md_mod (i := y1 * (fdvI y1 c1 + d1)) r1
    generalize e2 : y1 * (fdvI y1 c1 + d1) % p3 = y2 at t3
    have t4 := md_div r2 t3
    have t5 := md_mod (i := y2 * (fdvI y2 c2 + d2)) r4
    refine ⟨⟨bt_s (i := a4) (by omega), bt_s (i := many + 1) (by omega)⟩, ⟨bt_s (i := mix + a4 * (many + 1)) (by omega), bt_s (i := a5) (by omega)⟩, q7.1, ?_⟩
    show (mSeq (mSet 4 (mOp modD (mB intOf (mCons (mOp mulD (mVar 4) (mOp addD (mOp fdvD (mVar 4) (mC (.int c1))) (mC (.int d1)))) mNil)) (mC (.int p3))))
      (mSeq (mSet 4 (mOp modD (mB intOf (mCons (mOp mulD (mVar 4) (mOp addD (mOp fdvD (mVar 4) (mC (.int c2))) (mC (.int d2)))) mNil)) (mC (.int p4))))
      (mRet (mOp modD (mB intOf (mCons (mOp fdvD (mVar 4) (mC (.int c3))) mNil)) (mVar 1))))) ⟨[.hand, .d (.int m), x, .no, .d (.int ((mix + a4 * (many + 1)) * a5 % p2))], ⟨cells, at_, left, mix, many + 1⟩⟩ (endK k)
    rw [e1]
    refine ⟨⟨mdn q8, l9 (mdb q8)⟩, ⟨bt_s (i := y1) (by omega), bt_s (i := fdvI y1 c1 + d1) (by have := q9.2; have := q9.1; omega)⟩, r1.1, ?_⟩
    show (mSeq (mSet 4 (mOp modD (mB intOf (mCons (mOp mulD (mVar 4) (mOp addD (mOp fdvD (mVar 4) (mC (.int c2))) (mC (.int d2)))) mNil)) (mC (.int p4))))
      (mRet (mOp modD (mB intOf (mCons (mOp fdvD (mVar 4) (mC (.int c3))) mNil)) (mVar 1)))) ⟨[.hand, .d (.int m), x, .no, .d (.int (y1 * (fdvI y1 c1 + d1) % p3))], ⟨cells, at_, left, mix, many + 1⟩⟩ (endK k)
    rw [e2]
    refine ⟨⟨mdn r2, l9 (mdb r2)⟩, ⟨bt_s (i := y2) (by omega), bt_s (i := fdvI y2 c2 + d2) (by have := r3.2; have := r3.1; omega)⟩, r4.1, ⟨mdn r5, l9 (mdb r5)⟩, hm.1, ?_⟩
    refine H _ ⟨cells, at_, left, mix, many + 1⟩ (Int.emod_nonneg _ hm0) (Int.emod_lt_of_pos _ hm.1) ⟨o.cells, o.at0, o.left0, o.mix0, ?_, ?_⟩
    · show 0 ≤ many + 1; omega
    · show many + 1 + b ≤ _; omega
  have rest : ∀ (x : Sv) (h : Hd), HdOk h (b + 1) → (mSeq (mIfS (mTst (mOp gtD (mHix 0 2) (mC (.int 0)))) (mSeq (mSet 3 (mOp modD (mB intOf (mCons (mHix 0 2) mNil)) (mVar 1)))
    (mSeq (mHset 0 2 (mOp fdvD (mHix 0 2) (mVar 1)))
    (mRet (mVar 3)))) mNext)
    (mSeq (mHset 0 4 (mOp addD (mHix 0 4) (mC (.int 1))))
    (mSeq (mSet 4 (mOp modD (mB intOf (mCons (mOp mulD (mB intOf (mCons (mOp addD (mHix 0 3) (mOp mulD (mC (.int a4)) (mHix 0 4))) mNil)) (mC (.int a5))) mNil)) (mC (.int p2))))
    (mSeq (mSet 4 (mOp modD (mB intOf (mCons (mOp mulD (mVar 4) (mOp addD (mOp fdvD (mVar 4) (mC (.int c1))) (mC (.int d1)))) mNil)) (mC (.int p3))))
    (mSeq (mSet 4 (mOp modD (mB intOf (mCons (mOp mulD (mVar 4) (mOp addD (mOp fdvD (mVar 4) (mC (.int c2))) (mC (.int d2)))) mNil)) (mC (.int p4))))
    (mRet (mOp modD (mB intOf (mCons (mOp fdvD (mVar 4) (mC (.int c3))) mNil)) (mVar 1)))))))) ⟨[.hand, .d (.int m), x, .no, .no], h⟩ (endK k) := fun x h o => by
    refine br_d (fun c => ?_) (fun c => mixed x h o)
    refine ⟨hm.1, ⟨hm0, l9 (by omega)⟩, ?_⟩
    exact H _ _ (Int.emod_nonneg _ hm0) (Int.emod_lt_of_pos _ hm.1) ⟨o.cells, o.at0, left_div o.left0 hm.1, o.mix0, o.many0.1, by have := o.many0.2; show h.many + b ≤ _; omega⟩
  show br (h.left == 0) _ _
  refine br_b (fun c => ?_) (fun c => rest .no h o)
  show br (decide (h.at_ < ((h.cells.map PyData.int).length : Nat))) _ _
  refine br_d (fun d => ?_) (fun d => rest .no h o)
  have a0 := o.at0
  obtain ⟨n, hn⟩ : ∃ n : Nat, h.at_ = n := ⟨h.at_.toNat, by omega⟩
  have hlt : n < h.cells.length := by rw [List.length_map] at d; omega
  have hc := o.cells _ (List.getElem_mem hlt)
  have e0 : ixL (h.cells.map PyData.int) h.at_ = some (.int h.cells[n]) := by
    rw [hn]
    show (h.cells.map PyData.int)[n]? = _
    rw [List.getElem?_map, List.getElem?_eq_getElem hlt]; rfl
  show gotD (ixL (h.cells.map PyData.int) h.at_) _
  rw [e0]
  refine ⟨⟨bt_s (i := h.mix) (by have := o.mix0; omega), bt_s (mdb q1)⟩, ⟨bt_cell hc.2, bt_s (mdb q2)⟩, q4.1, ?_⟩
  have fin : ∀ l : Int, (0 ≤ l ∧ l.natAbs < 2 ^ 1048577) → HdOk ⟨h.cells, h.at_ + 1, l, (h.mix * a1 + h.cells[n] * a2 + a3) % p1, h.many⟩ (b + 1) := fun l hl => ⟨o.cells, by show 0 ≤ h.at_ + 1; omega, hl, md_mod q4, o.many0⟩
  refine ⟨cp18, ?_⟩
  refine br_d (fun c => ?_) (fun c => ?_)
  · exact rest (.d (.int h.cells[n])) _ (fin _ hc)
  · exact rest (.d (.int h.cells[n])) _ (fin _ o.left0)
end
end DL

set_option Elab.async false
set_option linter.all false
set_option maxRecDepth 100000
set_option maxHeartbeats 4000000
namespace Law_k34
open PySem PySem.Spec PyProof.Rows L2 DL
def topS (i : Nat) : Stmt := PySem.Challenge.pw_fewskies_k34_whole_hunts_parted_across_a.main.body.getD i (.Pass ⟨0, 0, 0, 0⟩)
abbrev s_is_integer : Stmt := topS 1
theorem sc_is_integer : FnScope ["thing"] ["thing"] (defScope s_is_integer) := ⟨rfl, rfl, rfl, by decide +kernel, rfl, by decide +kernel, by decide +kernel⟩
abbrev s_is_within : Stmt := topS 2
theorem sc_is_within : FnScope ["thing", "low", "high"] ["thing", "low", "high"] (defScope s_is_within) := ⟨rfl, rfl, rfl, by decide +kernel, rfl, by decide +kernel, by decide +kernel⟩
abbrev s_is_tuple : Stmt := topS 3
theorem sc_is_tuple : FnScope ["thing", "least", "most"] ["thing", "least", "most"] (defScope s_is_tuple) := ⟨rfl, rfl, rfl, by decide +kernel, rfl, by decide +kernel, by decide +kernel⟩
abbrev s_is_dot : Stmt := topS 14
theorem sc_is_dot : FnScope ["thing", "one"] ["thing"] (defScope s_is_dot) := ⟨rfl, rfl, rfl, by decide +kernel, rfl, by decide +kernel, by decide +kernel⟩
abbrev s_check_dot : Stmt := topS 15
theorem sc_check_dot : FnScope ["dot"] ["dot"] (defScope s_check_dot) := ⟨rfl, rfl, rfl, by decide +kernel, rfl, by decide +kernel, by decide +kernel⟩
abbrev s_check_speed : Stmt := topS 16
theorem sc_check_speed : FnScope ["speed"] ["speed"] (defScope s_check_speed) := ⟨rfl, rfl, rfl, by decide +kernel, rfl, by decide +kernel, by decide +kernel⟩
abbrev s_rounded_up : Stmt := topS 17
theorem sc_rounded_up : FnScope ["number", "by"] ["number", "by"] (defScope s_rounded_up) := ⟨rfl, rfl, rfl, by decide +kernel, rfl, by decide +kernel, by decide +kernel⟩
abbrev s_soonest : Stmt := topS 18
theorem sc_soonest : FnScope ["one", "other", "speed"] ["one", "other", "speed"] (defScope s_soonest) := ⟨rfl, rfl, rfl, by decide +kernel, rfl, by decide +kernel, by decide +kernel⟩
abbrev s_check_chase : Stmt := topS 19
theorem sc_check_chase : FnScope ["dot", "way", "other", "speed", "one"] ["dot", "way", "other", "speed"] (defScope s_check_chase) := ⟨rfl, rfl, rfl, by decide +kernel, rfl, by decide +kernel, by decide +kernel⟩
abbrev s_good_times : Stmt := topS 20
theorem sc_good_times : FnScope ["dot", "way", "other", "speed", "found", "time", "across", "down"] ["dot", "way", "other", "speed"] (defScope s_good_times) := ⟨rfl, rfl, rfl, by decide +kernel, rfl, by decide +kernel, by decide +kernel⟩
abbrev s_catch_times : Stmt := topS 21
theorem sc_catch_times : FnScope ["dot", "way", "other", "speed", "found"] ["dot", "way", "other", "speed"] (defScope s_catch_times) := ⟨rfl, rfl, rfl, by decide +kernel, rfl, by decide +kernel, by decide +kernel⟩
abbrev s_where_caught : Stmt := topS 22
theorem sc_where_caught : FnScope ["dot", "way", "other", "speed", "found"] ["dot", "way", "other", "speed"] (defScope s_where_caught) := ⟨rfl, rfl, rfl, by decide +kernel, rfl, by decide +kernel, by decide +kernel⟩
abbrev s__law_hand : Stmt := topS 24
theorem sc__law_hand : FnScope ["script", "cells", "cell"] ["script"] (defScope s__law_hand) := ⟨rfl, rfl, rfl, by decide +kernel, rfl, by decide +kernel, by decide +kernel⟩
abbrev s__law_draw : Stmt := topS 25
theorem sc__law_draw : FnScope ["hand", "many", "cell", "digit", "mixed_here"] ["hand", "many"] (defScope s__law_draw) := ⟨rfl, rfl, rfl, by decide +kernel, rfl, by decide +kernel, by decide +kernel⟩
abbrev s__law_any : Stmt := topS 26
theorem sc__law_any : FnScope ["hand", "some"] ["hand", "some"] (defScope s__law_any) := ⟨rfl, rfl, rfl, by decide +kernel, rfl, by decide +kernel, by decide +kernel⟩
abbrev s__law_dot : Stmt := topS 27
theorem sc__law_dot : FnScope ["hand", "wide"] ["hand"] (defScope s__law_dot) := ⟨rfl, rfl, rfl, by decide +kernel, rfl, by decide +kernel, by decide +kernel⟩
abbrev s__law_up : Stmt := topS 28
theorem sc__law_up : FnScope ["number", "by"] ["number", "by"] (defScope s__law_up) := ⟨rfl, rfl, rfl, by decide +kernel, rfl, by decide +kernel, by decide +kernel⟩
abbrev s__law_side : Stmt := topS 29
theorem sc__law_side : FnScope ["off", "pace", "speed", "first", "last", "far", "by"] ["off", "pace", "speed"] (defScope s__law_side) := ⟨rfl, rfl, rfl, by decide +kernel, rfl, by decide +kernel, by decide +kernel⟩
abbrev s__law_is_right : Stmt := topS 30
theorem sc__law_is_right : FnScope ["hand", "dot", "other", "speed", "drawn", "way", "told", "sides", "own", "due", "place", "at"] ["hand"] (defScope s__law_is_right) := ⟨rfl, rfl, rfl, by decide +kernel, rfl, by decide +kernel, by decide +kernel⟩
abbrev s_law : Stmt := topS 31
theorem sc_law : FnScope ["script", "hand", "lap"] ["script"] (defScope s_law) := ⟨rfl, rfl, rfl, by decide +kernel, rfl, by decide +kernel, by decide +kernel⟩
/-! ### the defs as functions of data -/
def bT_is_integer (ke : Str → Prop) : TDS := (mRet (mAndV (mIsi isInt (mSlot 0)) (mNotV (mIsi isBool (mSlot 0)))))
def fT_is_integer (ke : Str → Prop) : FT := runT 1 (bT_is_integer ke)
def bT_is_within (ke : Str → Prop) : TDS := (mRet (mAndV (mCall 1 (fT_is_integer ke) (mrD (mVar 0) mrNil)) (mChain fLe fLe (mVar 1) (mVar 0) (mVar 2))))
def fT_is_within (ke : Str → Prop) : FT := runT 3 (bT_is_within ke)
def bT_is_tuple (ke : Str → Prop) : TDS := (mRet (mAndV (mIsi isTup (mSlot 0)) (mChain fLe fLe (mVar 1) (mBK lenD (mSlot 0)) (mVar 2))))
def fT_is_tuple (ke : Str → Prop) : FT := runT 3 (bT_is_tuple ke)
def bT_is_dot (ke : Str → Prop) : TDS := (mRet (mAndV (mCall 3 (fT_is_tuple ke) (mrD (mVar 0) (mrD (mC (.int 2)) (mrD (mC (.int 2)) mrNil)))) (mBK allD (mVw (mFrz (mLc (mIter (mVar 0)) (.one 1) mYes (mCall 3 (fT_is_within keN) (mrD (mVar 1) (mrD (mOp subD (mC (.int 0)) (mC (.int 60))) (mrD (mC (.int 60)) mrNil)))) [1]))))))
def fT_is_dot (ke : Str → Prop) : FT := runT 2 (bT_is_dot ke)
def bT_check_dot (ke : Str → Prop) : TDS := (mIfS (mNot (mTst (mCall 1 (fT_is_dot ke) (mrD (mVar 0) mrNil)))) mNever mNext)
def fT_check_dot (ke : Str → Prop) : FT := runT 1 (bT_check_dot ke)
def bT_check_speed (ke : Str → Prop) : TDS := (mIfS (mNot (mTst (mCall 3 (fT_is_within ke) (mrD (mVar 0) (mrD (mC (.int 1)) (mrD (mC (.int 6)) mrNil)))))) mNever mNext)
def fT_check_speed (ke : Str → Prop) : FT := runT 1 (bT_check_speed ke)
def bT_rounded_up (ke : Str → Prop) : TDS := (mRet (mOp fdvD (mOp subD (mOp addD (mVar 0) (mVar 1)) (mC (.int 1))) (mVar 1)))
def fT_rounded_up (ke : Str → Prop) : FT := runT 2 (bT_rounded_up ke)
def q_soonest_3 (ke : Str → Prop) : TDS := (mRet (mCall 2 (fT_rounded_up ke) (mrD (mB (int2D maxI) (mCons (mB absD (mCons (mOp subD (mOpK ixD (mSlot 0) (mC (.int 0))) (mOpK ixD (mSlot 1) (mC (.int 0)))) mNil)) (mCons (mB absD (mCons (mOp subD (mOpK ixD (mSlot 0) (mC (.int 1))) (mOpK ixD (mSlot 1) (mC (.int 1)))) mNil)) mNil))) (mrD (mVar 2) mrNil))))
def q_soonest_2 (ke : Str → Prop) : TDS := mSeq (mExpr (mCall 1 (fT_check_speed ke) (mrD (mVar 2) mrNil))) (q_soonest_3 ke)
def q_soonest_1 (ke : Str → Prop) : TDS := mSeq (mExpr (mCall 1 (fT_check_dot ke) (mrD (mVar 1) mrNil))) (q_soonest_2 ke)
def bT_soonest (ke : Str → Prop) : TDS := mSeq (mExpr (mCall 1 (fT_check_dot ke) (mrD (mVar 0) mrNil))) (q_soonest_1 ke)
def fT_soonest (ke : Str → Prop) : FT := runT 3 (bT_soonest ke)
def q_check_chase_3 (ke : Str → Prop) : TDS := (mExpr (mCall 1 (fT_check_speed ke) (mrD (mVar 3) mrNil)))
def q_check_chase_2 (ke : Str → Prop) : TDS := mSeq (mExpr (mCall 1 (fT_check_dot ke) (mrD (mVar 2) mrNil))) (q_check_chase_3 ke)
def q_check_chase_1 (ke : Str → Prop) : TDS := mSeq (mIfS (mOr (mNot (mTst (mCall 3 (fT_is_tuple ke) (mrD (mVar 1) (mrD (mC (.int 2)) (mrD (mC (.int 2)) mrNil)))))) (mNot (mTst (mBK allD (mVw (mFrz (mLc (mIter (mVar 1)) (.one 4) mYes (mCall 3 (fT_is_within keN) (mrD (mVar 4) (mrD (mOp subD (mC (.int 0)) (mC (.int 9))) (mrD (mC (.int 9)) mrNil)))) [4]))))))) mNever mNext) (q_check_chase_2 ke)
def bT_check_chase (ke : Str → Prop) : TDS := mSeq (mExpr (mCall 1 (fT_check_dot ke) (mrD (mVar 0) mrNil))) (q_check_chase_1 ke)
def fT_check_chase (ke : Str → Prop) : FT := runT 5 (bT_check_chase ke)
def l_good_times_1 (ke : Str → Prop) : TDS := (mSeq (mPar 6 7 (mCons (mOp subD (mOp addD (mOpK ixD (mSlot 0) (mC (.int 0))) (mOp mulD (mVar 5) (mOpK ixD (mSlot 1) (mC (.int 0))))) (mOpK ixD (mSlot 2) (mC (.int 0)))) (mCons (mOp subD (mOp addD (mOpK ixD (mSlot 0) (mC (.int 1))) (mOp mulD (mVar 5) (mOpK ixD (mSlot 1) (mC (.int 1))))) (mOpK ixD (mSlot 2) (mC (.int 1)))) mNil)))
    (mExt 4 (mIf (mTst (mOp leD (mB (int2D maxI) (mCons (mB absD (mCons (mVar 6) mNil)) (mCons (mB absD (mCons (mVar 7) mNil)) mNil))) (mOp mulD (mVar 3) (mVar 5)))) (mFrz (mLst (mCons (mVar 5) mNil))) (mFrz (mLst mNil)))))
def q_good_times_2 (ke : Str → Prop) : TDS := (mRet (mVar 4))
def q_good_times_1 (ke : Str → Prop) : TDS := mSeq (mFor (mRng1 (mCons (mOp addD (mC (.int 400)) (mC (.int 1))) mNil)) (.one 5) (l_good_times_1 ke)) (q_good_times_2 ke)
def bT_good_times (ke : Str → Prop) : TDS := mSeq (mOwn 4 (mLst mNil)) (q_good_times_1 ke)
def fT_good_times (ke : Str → Prop) : FT := runT 8 (bT_good_times ke)
def q_catch_times_2 (ke : Str → Prop) : TDS := (mRet (mIf (mTst (mOp gtD (mBK lenD (mSlot 4)) (mC (.int 0)))) (mTup (mCons (mOpK ixD (mSlot 4) (mC (.int 0))) (mCons (mOpK ixD (mSlot 4) (negD (mC (.int 1)))) mNil))) (mC .none)))
def q_catch_times_1 (ke : Str → Prop) : TDS := mSeq (mSet 4 (mCall 4 (fT_good_times ke) (mrD (mVar 0) (mrD (mVar 1) (mrD (mVar 2) (mrD (mVar 3) mrNil)))))) (q_catch_times_2 ke)
def bT_catch_times (ke : Str → Prop) : TDS := mSeq (mExpr (mCall 4 (fT_check_chase ke) (mrD (mVar 0) (mrD (mVar 1) (mrD (mVar 2) (mrD (mVar 3) mrNil)))))) (q_catch_times_1 ke)
def fT_catch_times (ke : Str → Prop) : FT := runT 5 (bT_catch_times ke)
def q_where_caught_2 (ke : Str → Prop) : TDS := (mRet (mIf (mTst (mOp gtD (mBK lenD (mSlot 4)) (mC (.int 0)))) (mTup (mCons (mOp addD (mOpK ixD (mSlot 0) (mC (.int 0))) (mOp mulD (mOpK ixD (mSlot 4) (mC (.int 0))) (mOpK ixD (mSlot 1) (mC (.int 0))))) (mCons (mOp addD (mOpK ixD (mSlot 0) (mC (.int 1))) (mOp mulD (mOpK ixD (mSlot 4) (mC (.int 0))) (mOpK ixD (mSlot 1) (mC (.int 1))))) mNil))) (mC .none)))
def q_where_caught_1 (ke : Str → Prop) : TDS := mSeq (mSet 4 (mCall 4 (fT_good_times ke) (mrD (mVar 0) (mrD (mVar 1) (mrD (mVar 2) (mrD (mVar 3) mrNil)))))) (q_where_caught_2 ke)
def bT_where_caught (ke : Str → Prop) : TDS := mSeq (mExpr (mCall 4 (fT_check_chase ke) (mrD (mVar 0) (mrD (mVar 1) (mrD (mVar 2) (mrD (mVar 3) mrNil)))))) (q_where_caught_1 ke)
def fT_where_caught (ke : Str → Prop) : FT := runT 5 (bT_where_caught ke)
def q__law_hand_1 (ke : Str → Prop) : TDS := (mRet (mFrz (mLst (mCons (mVar 1) (mCons (mC (.int 0)) (mCons (mC (.int 0)) (mCons (mOp addD (mC (.int 91402)) (mOp mulD (mC (.int 7)) (mBK lenD (mSlot 1)))) (mCons (mC (.int 0)) mNil))))))))
def bT__law_hand (ke : Str → Prop) : TDS := mSeq (mSet 1 (mFrz (mLc (mIter (mScr 0 63)) (.one 2) mYes (mB absD (mCons (mB intOf (mCons (mVar 2) mNil)) mNil)) [2]))) (q__law_hand_1 ke)
def fT__law_hand (ke : Str → Prop) : FT := runT 3 (bT__law_hand ke)
def q__law_draw_6 (ke : Str → Prop) : TDS := (mRet (mOp modD (mB intOf (mCons (mOp fdvD (mVar 4) (mC (.int 16))) mNil)) (mVar 1)))
def q__law_draw_5 (ke : Str → Prop) : TDS := mSeq (mSet 4 (mOp modD (mB intOf (mCons (mOp mulD (mVar 4) (mOp addD (mOp fdvD (mVar 4) (mC (.int 2003))) (mC (.int 40014)))) mNil)) (mC (.int 2147483563)))) (q__law_draw_6 ke)
def q__law_draw_4 (ke : Str → Prop) : TDS := mSeq (mSet 4 (mOp modD (mB intOf (mCons (mOp mulD (mVar 4) (mOp addD (mOp fdvD (mVar 4) (mC (.int 1009))) (mC (.int 69621)))) mNil)) (mC (.int 2147483647)))) (q__law_draw_5 ke)
def q__law_draw_3 (ke : Str → Prop) : TDS := mSeq (mSet 4 (mOp modD (mB intOf (mCons (mOp mulD (mB intOf (mCons (mOp addD (mHix 0 3) (mOp mulD (mC (.int 7919)) (mHix 0 4))) mNil)) (mC (.int 48271))) mNil)) (mC (.int 2147483647)))) (q__law_draw_4 ke)
def q__law_draw_2 (ke : Str → Prop) : TDS := mSeq (mHset 0 4 (mOp addD (mHix 0 4) (mC (.int 1)))) (q__law_draw_3 ke)
def q__law_draw_1 (ke : Str → Prop) : TDS := mSeq (mIfS (mTst (mOp gtD (mHix 0 2) (mC (.int 0)))) (mSeq (mSet 3 (mOp modD (mB intOf (mCons (mHix 0 2) mNil)) (mVar 1)))
    (mSeq (mHset 0 2 (mOp fdvD (mHix 0 2) (mVar 1)))
    (mRet (mVar 3)))) mNext) (q__law_draw_2 ke)
def bT__law_draw (ke : Str → Prop) : TDS := mSeq (mIfS (mAnd (mTst (mOpK eqD (mVw (mHix 0 2)) (mC (.int 0)))) (mTst (mOp ltD (mHix 0 1) (mBK lenD (mVw (mHix 0 0)))))) (mSeq (mSet 2 (mOpK ixD (mVw (mHix 0 0)) (mHix 0 1)))
    (mSeq (mHset 0 1 (mOp addD (mHix 0 1) (mC (.int 1))))
    (mSeq (mHset 0 3 (mOp modD (mB intOf (mCons (mOp addD (mOp addD (mOp mulD (mHix 0 3) (mC (.int 69621))) (mOp mulD (mVar 2) (mC (.int 40692)))) (mC (.int 31))) mNil)) (mC (.int 2147483629))))
    (mIfS (mTst (mOp geD (mVar 2) (mOp powD (mC (.int 10)) (mC (.int 18))))) (mHset 0 2 (mVar 2)) mNext)))) mNext) (q__law_draw_1 ke)
def fT__law_draw (ke : Str → Prop) : FT := runT 5 (bT__law_draw ke)
def bT__law_any (ke : Str → Prop) : TDS := (mRet (mOpK ixD (mSlot 1) (mCall 2 (fT__law_draw ke) (mrH 0 (mrD (mBK lenD (mSlot 1)) mrNil)))))
def fT__law_any (ke : Str → Prop) : FT := runT 2 (bT__law_any ke)
def q__law_dot_1 (ke : Str → Prop) : TDS := (mRet (mTup (mCons (mOp subD (mCall 2 (fT__law_draw ke) (mrH 0 (mrD (mOp addD (mOp mulD (mC (.int 2)) (mVar 1)) (mC (.int 1))) mrNil))) (mVar 1)) (mCons (mOp subD (mCall 2 (fT__law_draw ke) (mrH 0 (mrD (mOp addD (mOp mulD (mC (.int 2)) (mVar 1)) (mC (.int 1))) mrNil))) (mVar 1)) mNil))))
def bT__law_dot (ke : Str → Prop) : TDS := mSeq (mSet 1 (mCall 2 (fT__law_any ke) (mrH 0 (mrD (mFrz (mLst (mCons (mC (.int 60)) (mCons (mC (.int 60)) (mCons (mC (.int 5)) (mCons (mC (.int 1)) mNil)))))) mrNil)))) (q__law_dot_1 ke)
def fT__law_dot (ke : Str → Prop) : FT := runT 2 (bT__law_dot ke)
def bT__law_up (ke : Str → Prop) : TDS := (mRet (mOp fdvD (mOp subD (mOp addD (mVar 0) (mVar 1)) (mC (.int 1))) (mVar 1)))
def fT__law_up (ke : Str → Prop) : FT := runT 2 (bT__law_up ke)
def l__law_side_1 (ke : Str → Prop) : TDS := (mIfS (mTst (mOp gtD (mVar 6) (mC (.int 0)))) (mSet 3 (mB (int2D maxI) (mCons (mVar 3) (mCons (mCall 2 (fT__law_up ke) (mrD (mVar 5) (mrD (mVar 6) mrNil))) mNil)))) (mIfS (mAnd (mTst (mOpK eqD (mSlot 6) (mC (.int 0)))) (mTst (mOp gtD (mVar 5) (mC (.int 0))))) (mRet (mC .none)) (mIfS (mTst (mOp ltD (mVar 6) (mC (.int 0)))) (mSet 4 (mB (int2D minI) (mCons (mVar 4) (mCons (mOp fdvD (mVar 5) (mVar 6)) mNil)))) mNext)))
def q__law_side_2 (ke : Str → Prop) : TDS := (mRet (mIf (mTst (mOp leD (mVar 3) (mVar 4))) (mTup (mCons (mVar 3) (mCons (mVar 4) mNil))) (mC .none)))
def q__law_side_1 (ke : Str → Prop) : TDS := mSeq (mFor (mIter (mTup (mCons (mTup (mCons (mVar 0) (mCons (mOp subD (mVar 2) (mVar 1)) mNil))) (mCons (mTup (mCons (mOp subD (mC (.int 0)) (mVar 0)) (mCons (mOp addD (mVar 2) (mVar 1)) mNil))) mNil)))) (.many [5, 6]) (l__law_side_1 ke)) (q__law_side_2 ke)
def bT__law_side (ke : Str → Prop) : TDS := mSeq (mTgt (.many [3, 4]) (mTup (mCons (mC (.int 0)) (mCons (mC (.int 400)) mNil)))) (q__law_side_1 ke)
def fT__law_side (ke : Str → Prop) : FT := runT 7 (bT__law_side ke)
def q__law_is_right_16 (ke : Str → Prop) : TDS := (mRet (mOpK eqD (mVw (mCall 4 (fT_catch_times ke) (mrD (mVar 1) (mrD (mTup (mCons (mC (.int 0)) (mCons (mC (.int 0)) mNil))) (mrD (mVar 2) (mrD (mVar 3) mrNil)))))) (mTup (mCons (mCall 3 (fT_soonest ke) (mrD (mVar 1) (mrD (mVar 2) (mrD (mVar 3) mrNil)))) (mCons (mC (.int 400)) mNil)))))
def q__law_is_right_15 (ke : Str → Prop) : TDS := mSeq (mIfS (mTst (mOpK neD (mVw (mBK reprD (mVw (mCall 4 (fT_catch_times ke) (mrD (mVar 2) (mrD (mTup (mCons (mOp subD (mC (.int 0)) (mOpK ixD (mSlot 5) (mC (.int 0)))) (mCons (mOp subD (mC (.int 0)) (mOpK ixD (mSlot 5) (mC (.int 1)))) mNil))) (mrD (mVar 1) (mrD (mVar 3) mrNil)))))))) (mBK reprD (mSlot 9)))) (mRet (mC (.bool false))) mNext) (q__law_is_right_16 ke)
def q__law_is_right_14 (ke : Str → Prop) : TDS := mSeq (mIfS (mTst (mOpK neD (mVw (mBK reprD (mVw (mCall 4 (fT_catch_times ke) (mrD (mTup (mCons (mOp subD (mC (.int 0)) (mOpK ixD (mSlot 1) (mC (.int 0)))) (mCons (mOpK ixD (mSlot 1) (mC (.int 1))) mNil))) (mrD (mTup (mCons (mOp subD (mC (.int 0)) (mOpK ixD (mSlot 5) (mC (.int 0)))) (mCons (mOpK ixD (mSlot 5) (mC (.int 1))) mNil))) (mrD (mTup (mCons (mOp subD (mC (.int 0)) (mOpK ixD (mSlot 2) (mC (.int 0)))) (mCons (mOpK ixD (mSlot 2) (mC (.int 1))) mNil))) (mrD (mVar 3) mrNil)))))))) (mBK reprD (mSlot 9)))) (mRet (mC (.bool false))) mNext) (q__law_is_right_15 ke)
def q__law_is_right_13 (ke : Str → Prop) : TDS := mSeq (mIfS (mTst (mOpK neD (mVw (mBK reprD (mVw (mCall 4 (fT_catch_times ke) (mrD (mTup (mCons (mOpK ixD (mSlot 1) (mC (.int 1))) (mCons (mOpK ixD (mSlot 1) (mC (.int 0))) mNil))) (mrD (mTup (mCons (mOpK ixD (mSlot 5) (mC (.int 1))) (mCons (mOpK ixD (mSlot 5) (mC (.int 0))) mNil))) (mrD (mTup (mCons (mOpK ixD (mSlot 2) (mC (.int 1))) (mCons (mOpK ixD (mSlot 2) (mC (.int 0))) mNil))) (mrD (mVar 3) mrNil)))))))) (mBK reprD (mSlot 9)))) (mRet (mC (.bool false))) mNext) (q__law_is_right_14 ke)
def q__law_is_right_12 (ke : Str → Prop) : TDS := mSeq (mIfS (mTst (mOpK neD (mVw (mBK reprD (mSlot 10))) (mBK reprD (mVw (mIf (mTst (mOpK isD (mSlot 9) (mC .none))) (mC .none) (mTup (mCons (mOp addD (mOpK ixD (mSlot 1) (mC (.int 0))) (mOp mulD (mOpK ixD (mSlot 9) (mC (.int 0))) (mOpK ixD (mSlot 5) (mC (.int 0))))) (mCons (mOp addD (mOpK ixD (mSlot 1) (mC (.int 1))) (mOp mulD (mOpK ixD (mSlot 9) (mC (.int 0))) (mOpK ixD (mSlot 5) (mC (.int 1))))) mNil)))))))) (mRet (mC (.bool false))) mNext) (q__law_is_right_13 ke)
def q__law_is_right_11 (ke : Str → Prop) : TDS := mSeq (mSet 10 (mCall 4 (fT_where_caught ke) (mrD (mVar 1) (mrD (mVar 5) (mrD (mVar 2) (mrD (mVar 3) mrNil)))))) (q__law_is_right_12 ke)
def q__law_is_right_10 (ke : Str → Prop) : TDS := mSeq (mIfS (mTst (mOpK neD (mVw (mBK reprD (mSlot 6))) (mBK reprD (mSlot 9)))) (mRet (mC (.bool false))) mNext) (q__law_is_right_11 ke)
def q__law_is_right_9 (ke : Str → Prop) : TDS := mSeq (mIfS (mAnd (mTst (mOpK2 notInD (mC .none) (mSlot 8))) (mTst (mOp leD (mB (int2D maxI) (mCons (mOpK ixD (mVw (mOpK ixD (mSlot 8) (mC (.int 0)))) (mC (.int 0))) (mCons (mOpK ixD (mVw (mOpK ixD (mSlot 8) (mC (.int 1)))) (mC (.int 0))) mNil))) (mB (int2D minI) (mCons (mOpK ixD (mVw (mOpK ixD (mSlot 8) (mC (.int 0)))) (mC (.int 1))) (mCons (mOpK ixD (mVw (mOpK ixD (mSlot 8) (mC (.int 1)))) (mC (.int 1))) mNil)))))) (mSet 9 (mTup (mCons (mB (int2D maxI) (mCons (mOpK ixD (mVw (mOpK ixD (mSlot 8) (mC (.int 0)))) (mC (.int 0))) (mCons (mOpK ixD (mVw (mOpK ixD (mSlot 8) (mC (.int 1)))) (mC (.int 0))) mNil))) (mCons (mB (int2D minI) (mCons (mOpK ixD (mVw (mOpK ixD (mSlot 8) (mC (.int 0)))) (mC (.int 1))) (mCons (mOpK ixD (mVw (mOpK ixD (mSlot 8) (mC (.int 1)))) (mC (.int 1))) mNil))) mNil)))) mNext) (q__law_is_right_10 ke)
def q__law_is_right_8 (ke : Str → Prop) : TDS := mSeq (mSet 9 (mC .none)) (q__law_is_right_9 ke)
def q__law_is_right_7 (ke : Str → Prop) : TDS := mSeq (mIfS (mTst (mOpK neD (mVw (mBK reprD (mSlot 7))) (mBK reprD (mSlot 8)))) (mRet (mC (.bool false))) mNext) (q__law_is_right_8 ke)
def q__law_is_right_6 (ke : Str → Prop) : TDS := mSeq (mSet 8 (mFrz (mLc (mIter (mTup (mCons (mC (.int 0)) (mCons (mC (.int 1)) mNil)))) (.one 11) mYes (mCall 3 (fT__law_side keN) (mrD (mOp subD (mOpK ixD (mSlot 1) (mVar 11)) (mOpK ixD (mSlot 2) (mVar 11))) (mrD (mOpK ixD (mSlot 5) (mVar 11)) (mrD (mVar 3) mrNil)))) [11]))) (q__law_is_right_7 ke)
def q__law_is_right_5 (ke : Str → Prop) : TDS := mSeq (mApp 7 (mCall 4 (fT_catch_times ke) (mrD (mTup (mCons (mC (.int 0)) (mCons (mOpK ixD (mSlot 1) (mC (.int 1))) mNil))) (mrD (mTup (mCons (mC (.int 0)) (mCons (mOpK ixD (mSlot 5) (mC (.int 1))) mNil))) (mrD (mTup (mCons (mC (.int 0)) (mCons (mOpK ixD (mSlot 2) (mC (.int 1))) mNil))) (mrD (mVar 3) mrNil)))))) (q__law_is_right_6 ke)
def q__law_is_right_4 (ke : Str → Prop) : TDS := mSeq (mOwn 7 (mLst (mCons (mCall 4 (fT_catch_times ke) (mrD (mTup (mCons (mOpK ixD (mSlot 1) (mC (.int 0))) (mCons (mC (.int 0)) mNil))) (mrD (mTup (mCons (mOpK ixD (mSlot 5) (mC (.int 0))) (mCons (mC (.int 0)) mNil))) (mrD (mTup (mCons (mOpK ixD (mSlot 2) (mC (.int 0))) (mCons (mC (.int 0)) mNil))) (mrD (mVar 3) mrNil))))) mNil))) (q__law_is_right_5 ke)
def q__law_is_right_3 (ke : Str → Prop) : TDS := mSeq (mSet 6 (mCall 4 (fT_catch_times ke) (mrD (mVar 1) (mrD (mVar 5) (mrD (mVar 2) (mrD (mVar 3) mrNil)))))) (q__law_is_right_4 ke)
def q__law_is_right_2 (ke : Str → Prop) : TDS := mSeq (mSet 5 (mCall 2 (fT__law_any ke) (mrH 0 (mrD (mFrz (mLst (mCons (mTup (mCons (mC (.int 0)) (mCons (mC (.int 0)) mNil))) (mCons (mTup (mCons (mVar 3) (mCons (mOp subD (mC (.int 0)) (mVar 3)) mNil))) (mCons (mVar 4) (mCons (mVar 4) (mCons (mVar 4) mNil))))))) mrNil)))) (q__law_is_right_3 ke)
def q__law_is_right_1 (ke : Str → Prop) : TDS := mSeq (mSet 4 (mTup (mCons (mOp subD (mCall 2 (fT__law_draw ke) (mrH 0 (mrD (mC (.int 19)) mrNil))) (mC (.int 9))) (mCons (mOp subD (mCall 2 (fT__law_draw ke) (mrH 0 (mrD (mC (.int 19)) mrNil))) (mC (.int 9))) mNil)))) (q__law_is_right_2 ke)
def bT__law_is_right (ke : Str → Prop) : TDS := mSeq (mTgt (.many [1, 2, 3]) (mTup (mCons (mCall 1 (fT__law_dot ke) (mrH 0 mrNil)) (mCons (mCall 1 (fT__law_dot ke) (mrH 0 mrNil)) (mCons (mOp addD (mC (.int 1)) (mCall 2 (fT__law_draw ke) (mrH 0 (mrD (mC (.int 6)) mrNil)))) mNil))))) (q__law_is_right_1 ke)
def fT__law_is_right (ke : Str → Prop) : FT := runT 12 (bT__law_is_right ke)
def mh : TD := (mCall 1 (fT__law_hand keN) (mrH 0 mrNil))
def q_law_2 : TDS := (mRet (mBK allD (mVw (mFrz (mLc (mRng1 (mCons (mC (.int 8)) mNil)) (.one 2) mYes (mCall 1 (fT__law_is_right keN) (mrH 1 mrNil)) [2])))))
def q_law_1 : TDS := mSeq (mIfS (mOr (mTst (mOpK neD (mVw (mCall 4 (fT_catch_times keN) (mrD (mTup (mCons (negD (mC (.int 10))) (mCons (mC (.int 0)) mNil))) (mrD (mTup (mCons (mC (.int 9)) (mCons (mC (.int 0)) mNil))) (mrD (mTup (mCons (mC (.int 0)) (mCons (mC (.int 0)) mNil))) (mrD (mC (.int 1)) mrNil)))))) (mTup (mCons (mC (.int 1)) (mCons (mC (.int 1)) mNil))))) (mTst (mOpK isNotD (mVw (mCall 4 (fT_catch_times keN) (mrD (mTup (mCons (mC (.int 0)) (mCons (mC (.int 5)) mNil))) (mrD (mTup (mCons (mC (.int 9)) (mCons (mC (.int 0)) mNil))) (mrD (mTup (mCons (mC (.int 0)) (mCons (mC (.int 0)) mNil))) (mrD (mC (.int 2)) mrNil)))))) (mC .none)))) (mRet (mC (.bool false))) mNext) (q_law_2)
def bT_law : TDS := mSeq (mIfS (mOr (mTst (mOpK neD (mVw (mCall 4 (fT_catch_times keN) (mrD (mTup (mCons (mC (.int 10)) (mCons (mC (.int 0)) mNil))) (mrD (mTup (mCons (negD (mC (.int 2))) (mCons (mC (.int 1)) mNil))) (mrD (mTup (mCons (mC (.int 0)) (mCons (mC (.int 0)) mNil))) (mrD (mC (.int 3)) mrNil)))))) (mTup (mCons (mC (.int 2)) (mCons (mC (.int 400)) mNil))))) (mTst (mOpK neD (mVw (mCall 4 (fT_catch_times keN) (mrD (mTup (mCons (mC (.int 1)) (mCons (mC (.int 0)) mNil))) (mrD (mTup (mCons (mC (.int 5)) (mCons (mC (.int 0)) mNil))) (mrD (mTup (mCons (mC (.int 0)) (mCons (mC (.int 0)) mNil))) (mrD (mC (.int 6)) mrNil)))))) (mTup (mCons (mC (.int 1)) (mCons (mC (.int 400)) mNil)))))) (mRet (mC (.bool false))) mNext) (q_law_1)
/-! ### what the top has written -/
structure Txt (K : PySem.W.Frag) (mg : Str → Option Value) where
  a_is_integer : Addr
  f_is_integer : FuncData
  h_is_integer : Dn K mg "is_integer" s_is_integer ["thing"] a_is_integer f_is_integer
  a_is_within : Addr
  f_is_within : FuncData
  h_is_within : Dn K mg "is_within" s_is_within ["thing", "low", "high"] a_is_within f_is_within
  a_is_tuple : Addr
  f_is_tuple : FuncData
  h_is_tuple : Dn K mg "is_tuple" s_is_tuple ["thing", "least", "most"] a_is_tuple f_is_tuple
  a_is_dot : Addr
  f_is_dot : FuncData
  h_is_dot : Dn K mg "is_dot" s_is_dot ["thing"] a_is_dot f_is_dot
  a_check_dot : Addr
  f_check_dot : FuncData
  h_check_dot : Dn K mg "check_dot" s_check_dot ["dot"] a_check_dot f_check_dot
  a_check_speed : Addr
  f_check_speed : FuncData
  h_check_speed : Dn K mg "check_speed" s_check_speed ["speed"] a_check_speed f_check_speed
  a_rounded_up : Addr
  f_rounded_up : FuncData
  h_rounded_up : Dn K mg "rounded_up" s_rounded_up ["number", "by"] a_rounded_up f_rounded_up
  a_soonest : Addr
  f_soonest : FuncData
  h_soonest : Dn K mg "soonest" s_soonest ["one", "other", "speed"] a_soonest f_soonest
  a_check_chase : Addr
  f_check_chase : FuncData
  h_check_chase : Dn K mg "check_chase" s_check_chase ["dot", "way", "other", "speed"] a_check_chase f_check_chase
  a_good_times : Addr
  f_good_times : FuncData
  h_good_times : Dn K mg "good_times" s_good_times ["dot", "way", "other", "speed"] a_good_times f_good_times
  a_catch_times : Addr
  f_catch_times : FuncData
  h_catch_times : Dn K mg "catch_times" s_catch_times ["dot", "way", "other", "speed"] a_catch_times f_catch_times
  a_where_caught : Addr
  f_where_caught : FuncData
  h_where_caught : Dn K mg "where_caught" s_where_caught ["dot", "way", "other", "speed"] a_where_caught f_where_caught
  a__law_hand : Addr
  f__law_hand : FuncData
  h__law_hand : Dn K mg "_law_hand" s__law_hand ["script"] a__law_hand f__law_hand
  a__law_draw : Addr
  f__law_draw : FuncData
  h__law_draw : Dn K mg "_law_draw" s__law_draw ["hand", "many"] a__law_draw f__law_draw
  a__law_any : Addr
  f__law_any : FuncData
  h__law_any : Dn K mg "_law_any" s__law_any ["hand", "some"] a__law_any f__law_any
  a__law_dot : Addr
  f__law_dot : FuncData
  h__law_dot : Dn K mg "_law_dot" s__law_dot ["hand"] a__law_dot f__law_dot
  a__law_up : Addr
  f__law_up : FuncData
  h__law_up : Dn K mg "_law_up" s__law_up ["number", "by"] a__law_up f__law_up
  a__law_side : Addr
  f__law_side : FuncData
  h__law_side : Dn K mg "_law_side" s__law_side ["off", "pace", "speed"] a__law_side f__law_side
  a__law_is_right : Addr
  f__law_is_right : FuncData
  h__law_is_right : Dn K mg "_law_is_right" s__law_is_right ["hand"] a__law_is_right f__law_is_right
  a_law : Addr
  f_law : FuncData
  h_law : Dn K mg "law" s_law ["script"] a_law f_law
  z_isinstance : mg "isinstance" = none
  z_bool : mg "bool" = none
  z_int : mg "int" = none
  z_len : mg "len" = none
  z_tuple : mg "tuple" = none
  z_all : mg "all" = none
  z_abs : mg "abs" = none
  z_max : mg "max" = none
  z_range : mg "range" = none
  z_min : mg "min" = none
  z_repr : mg "repr" = none
  t_FARTHEST : Tok
  c_FARTHEST : mg "FARTHEST" = some (.int 60 t_FARTHEST)
  t_FASTEST : Tok
  c_FASTEST : mg "FASTEST" = some (.int 6 t_FASTEST)
  t_FASTEST_SHIP : Tok
  c_FASTEST_SHIP : mg "FASTEST_SHIP" = some (.int 9 t_FASTEST_SHIP)
  t_LAST : Tok
  c_LAST : mg "LAST" = some (.int 400 t_LAST)
section
variable {P : Program} {w : World} {K : PySem.W.Frag} {mg : Str → Option Value} {base : Heap}
theorem px_body {N : List Str} {qual : Str} {st : Stmt} {f : Addr} {cdv : Value} {A : Around} {outer : List Env} {s : Shared} {H : Hp} {E : XK} : Passes (L2.CX P w) (bodyCx P w K mg base N qual st f cdv A outer s H E) E := passes_call (takes_of rfl rfl rfl rfl) fun _ _ _ _ h => h
set_option maxHeartbeats 0
theorem g_is_integer (T : Txt K mg) : FnG P w K mg base 1 T.a_is_integer T.f_is_integer ["thing"] (spD K mg 1 fT_is_integer) :=
  fn_d (k := 0) (bT := bT_is_integer) T.h_is_integer.F sc_is_integer fun cdv A outer s H E ke hr hgd => (db_one (ds_ret (d_and (d_isi kit_int T.z_isinstance T.z_int (by decide +kernel) (dk_slot 0)) (d_one (d_not (d_isi kit_bool T.z_isinstance T.z_bool (by decide +kernel) (dk_slot 0)))))))
theorem g_is_within (T : Txt K mg) : FnG P w K mg base 2 T.a_is_within T.f_is_within ["thing", "low", "high"] (spD K mg 3 fT_is_within) :=
  fn_d (k := 1) (bT := bT_is_within) T.h_is_within.F sc_is_within fun cdv A outer s H E ke hr hgd => (db_one (ds_ret (d_and (dg_call (g_is_integer T) T.h_is_integer.G T.h_is_integer.F.kp T.h_is_integer.B (hr.mono (by decide)) hgd px_body (dr_d (d_var 0) dr_nil)) (d_one (d_chain (f := fLe) (g := fLe) op_le op_le (d_var 1) (d_var 0) (d_var 2))))))
theorem g_is_tuple (T : Txt K mg) : FnG P w K mg base 1 T.a_is_tuple T.f_is_tuple ["thing", "least", "most"] (spD K mg 3 fT_is_tuple) :=
  fn_d (k := 0) (bT := bT_is_tuple) T.h_is_tuple.F sc_is_tuple fun cdv A outer s H E ke hr hgd => (db_one (ds_ret (d_and (d_isi kit_tuple T.z_isinstance T.z_tuple (by decide +kernel) (dk_slot 0)) (d_one (d_chain (f := fLe) (g := fLe) op_le op_le (d_var 1) (dg_len T.z_len (dk_slot 0)) (d_var 2))))))
theorem g_is_dot (T : Txt K mg) : FnG P w K mg base 3 T.a_is_dot T.f_is_dot ["thing"] (spD K mg 1 fT_is_dot) :=
  fn_d (k := 2) (bT := bT_is_dot) T.h_is_dot.F sc_is_dot fun cdv A outer s H E ke hr hgd => (db_one (ds_ret (d_and (dg_call (g_is_tuple T) T.h_is_tuple.G T.h_is_tuple.F.kp T.h_is_tuple.B (hr.mono (by decide)) hgd px_body (dr_d (d_var 0) (dr_d d_int (dr_d d_int dr_nil)))) (d_one (d_all rfl T.z_all (dk_any (d_frz (dn_lc rfl sc_is_dot.nd (di_seq (d_var 0)) (blkOk_by (own := [("one", 1)]) (by rfl)) rfl (fun _ _ _ _ _ => (pg_name (i := 1) sc_is_dot.nd rfl (by first | exact .inl rfl | exact .inr rfl))) (fun _ _ _ _ _ => dts_nil) (fun _ _ _ _ _ => (dg_call (g_is_within T) T.h_is_within.G T.h_is_within.F.kp T.h_is_within.B (hr.mono (by decide)) hgd passL (dr_d (d_var 1) (dr_d (d_sub d_int (d_gint T.c_FARTHEST)) (dr_d (d_gint T.c_FARTHEST) dr_nil)))))))))))))
theorem g_check_dot (T : Txt K mg) : FnG P w K mg base 4 T.a_check_dot T.f_check_dot ["dot"] (spD K mg 1 fT_check_dot) :=
  fn_d (k := 3) (bT := bT_check_dot) T.h_check_dot.F sc_check_dot fun cdv A outer s H E ke hr hgd => (db_one (ds_if (dt_not (dt_val (dg_call (g_is_dot T) T.h_is_dot.G T.h_is_dot.F.kp T.h_is_dot.B (hr.mono (by decide)) hgd px_body (dr_d (d_var 0) dr_nil)))) (db_one ds_never) db_nil))
theorem g_check_speed (T : Txt K mg) : FnG P w K mg base 3 T.a_check_speed T.f_check_speed ["speed"] (spD K mg 1 fT_check_speed) :=
  fn_d (k := 2) (bT := bT_check_speed) T.h_check_speed.F sc_check_speed fun cdv A outer s H E ke hr hgd => (db_one (ds_if (dt_not (dt_val (dg_call (g_is_within T) T.h_is_within.G T.h_is_within.F.kp T.h_is_within.B (hr.mono (by decide)) hgd px_body (dr_d (d_var 0) (dr_d d_int (dr_d (d_gint T.c_FASTEST) dr_nil)))))) (db_one ds_never) db_nil))
theorem g_rounded_up (T : Txt K mg) : FnG P w K mg base 1 T.a_rounded_up T.f_rounded_up ["number", "by"] (spD K mg 2 fT_rounded_up) :=
  fn_d (k := 0) (bT := bT_rounded_up) T.h_rounded_up.F sc_rounded_up fun cdv A outer s H E ke hr hgd => (db_one (ds_ret (d_fdv (d_sub (d_add (d_var 0) (d_var 1)) d_int) (d_var 1))))
theorem g_soonest (T : Txt K mg) : FnG P w K mg base 5 T.a_soonest T.f_soonest ["one", "other", "speed"] (spD K mg 3 fT_soonest) :=
  fn_d (k := 4) (bT := bT_soonest) T.h_soonest.F sc_soonest fun cdv A outer s H E ke hr hgd => (db_cons (ds_expr (dg_call (g_check_dot T) T.h_check_dot.G T.h_check_dot.F.kp T.h_check_dot.B (hr.mono (by decide)) hgd px_body (dr_d (d_var 0) dr_nil)))
    (db_cons (ds_expr (dg_call (g_check_dot T) T.h_check_dot.G T.h_check_dot.F.kp T.h_check_dot.B (hr.mono (by decide)) hgd px_body (dr_d (d_var 1) dr_nil)))
    (db_cons (ds_expr (dg_call (g_check_speed T) T.h_check_speed.G T.h_check_speed.F.kp T.h_check_speed.B (hr.mono (by decide)) hgd px_body (dr_d (d_var 2) dr_nil)))
    (db_one (ds_ret (dg_call (g_rounded_up T) T.h_rounded_up.G T.h_rounded_up.F.kp T.h_rounded_up.B (hr.mono (by decide)) hgd px_body (dr_d (d_max2 rfl T.z_max (da_cons (d_abs T.z_abs (da_cons (d_sub (d_ix (dk_slot 0) d_int) (d_ix (dk_slot 1) d_int)) da_nil)) (da_cons (d_abs T.z_abs (da_cons (d_sub (d_ix (dk_slot 0) d_int) (d_ix (dk_slot 1) d_int)) da_nil)) da_nil))) (dr_d (d_var 2) dr_nil))))))))
theorem g_check_chase (T : Txt K mg) : FnG P w K mg base 5 T.a_check_chase T.f_check_chase ["dot", "way", "other", "speed"] (spD K mg 4 fT_check_chase) :=
  fn_d (k := 4) (bT := bT_check_chase) T.h_check_chase.F sc_check_chase fun cdv A outer s H E ke hr hgd => (db_cons (ds_expr (dg_call (g_check_dot T) T.h_check_dot.G T.h_check_dot.F.kp T.h_check_dot.B (hr.mono (by decide)) hgd px_body (dr_d (d_var 0) dr_nil)))
    (db_cons (ds_if (dw_pt (dw_or (dt_not (dt_val (dg_call (g_is_tuple T) T.h_is_tuple.G T.h_is_tuple.F.kp T.h_is_tuple.B (hr.mono (by decide)) hgd px_body (dr_d (d_var 1) (dr_d d_int (dr_d d_int dr_nil)))))) (dw_or1 (dt_not (dt_val (d_all rfl T.z_all (dk_any (d_frz (dn_lc rfl sc_check_chase.nd (di_seq (d_var 1)) (blkOk_by (own := [("one", 4)]) (by rfl)) rfl (fun _ _ _ _ _ => (pg_name (i := 4) sc_check_chase.nd rfl (by first | exact .inl rfl | exact .inr rfl))) (fun _ _ _ _ _ => dts_nil) (fun _ _ _ _ _ => (dg_call (g_is_within T) T.h_is_within.G T.h_is_within.F.kp T.h_is_within.B (hr.mono (by decide)) hgd passL (dr_d (d_var 4) (dr_d (d_sub d_int (d_gint T.c_FASTEST_SHIP)) (dr_d (d_gint T.c_FASTEST_SHIP) dr_nil)))))))))))))) (db_one ds_never) db_nil)
    (db_cons (ds_expr (dg_call (g_check_dot T) T.h_check_dot.G T.h_check_dot.F.kp T.h_check_dot.B (hr.mono (by decide)) hgd px_body (dr_d (d_var 2) dr_nil)))
    (db_one (ds_expr (dg_call (g_check_speed T) T.h_check_speed.G T.h_check_speed.F.kp T.h_check_speed.B (hr.mono (by decide)) hgd px_body (dr_d (d_var 3) dr_nil)))))))
theorem g_good_times (T : Txt K mg) : FnG P w K mg base 1 T.a_good_times T.f_good_times ["dot", "way", "other", "speed"] (spD K mg 4 fT_good_times) :=
  fn_d (k := 0) (bT := bT_good_times) T.h_good_times.F sc_good_times fun cdv A outer s H E ke hr hgd => (db_cons (ds_own sc_good_times.nd (dn_lst da_nil) 4)
    (db_cons (ds_for (passes_of rfl) rfl (di_rng1 T.z_range (da_cons (d_add (d_gint T.c_LAST) d_int) da_nil)) (pg_name (i := 5) sc_good_times.nd rfl (by first | exact .inl rfl | exact .inr rfl)) (db_cons (ds_par rfl sc_good_times.nd (da_cons (d_sub (d_add (d_ix (dk_slot 0) d_int) (d_mul (d_var 5) (d_ix (dk_slot 1) d_int))) (d_ix (dk_slot 2) d_int)) (da_cons (d_sub (d_add (d_ix (dk_slot 0) d_int) (d_mul (d_var 5) (d_ix (dk_slot 1) d_int))) (d_ix (dk_slot 2) d_int)) da_nil)) 6 7)
    (db_one (ds_extend (d_ifExp (dt_le (d_max2 rfl T.z_max (da_cons (d_abs T.z_abs (da_cons (d_var 6) da_nil)) (da_cons (d_abs T.z_abs (da_cons (d_var 7) da_nil)) da_nil))) (d_mul (d_var 3) (d_var 5))) (d_frz (dn_lst (da_cons (d_var 5) da_nil))) (d_frz (dn_lst da_nil))) 4 rfl (by first | exact Or.inl rfl | exact Or.inr (Or.inl rfl) | exact Or.inr (Or.inr rfl)) (by decide) (by decide) (pe_bm PySem.F.plainAttrs_list PySem.F.slot_list_extend PySem.F.type_list_extend mt_extend (pv 4) (pa_cons (d_ifExp (dt_le (d_max2 rfl T.z_max (da_cons (d_abs T.z_abs (da_cons (d_var 6) da_nil)) (da_cons (d_abs T.z_abs (da_cons (d_var 7) da_nil)) da_nil))) (d_mul (d_var 3) (d_var 5))) (d_frz (dn_lst (da_cons (d_var 5) da_nil))) (d_frz (dn_lst da_nil))) pa_nil))))))
    (db_one (ds_ret (d_var 4)))))
theorem g_catch_times (T : Txt K mg) : FnG P w K mg base 6 T.a_catch_times T.f_catch_times ["dot", "way", "other", "speed"] (spD K mg 4 fT_catch_times) :=
  fn_d (k := 5) (bT := bT_catch_times) T.h_catch_times.F sc_catch_times fun cdv A outer s H E ke hr hgd => (db_cons (ds_expr (dg_call (g_check_chase T) T.h_check_chase.G T.h_check_chase.F.kp T.h_check_chase.B (hr.mono (by decide)) hgd px_body (dr_d (d_var 0) (dr_d (d_var 1) (dr_d (d_var 2) (dr_d (d_var 3) dr_nil))))))
    (db_cons (ds_set sc_catch_times.nd (dg_call (g_good_times T) T.h_good_times.G T.h_good_times.F.kp T.h_good_times.B (hr.mono (by decide)) hgd px_body (dr_d (d_var 0) (dr_d (d_var 1) (dr_d (d_var 2) (dr_d (d_var 3) dr_nil))))) 4)
    (db_one (ds_ret (d_ifExp (dt_gt (dg_len T.z_len (dk_slot 4)) d_int) (d_tup (da_cons (d_ix (dk_slot 4) d_int) (da_cons (d_ix (dk_slot 4) (d_neg d_int)) da_nil))) d_non)))))
theorem g_where_caught (T : Txt K mg) : FnG P w K mg base 6 T.a_where_caught T.f_where_caught ["dot", "way", "other", "speed"] (spD K mg 4 fT_where_caught) :=
  fn_d (k := 5) (bT := bT_where_caught) T.h_where_caught.F sc_where_caught fun cdv A outer s H E ke hr hgd => (db_cons (ds_expr (dg_call (g_check_chase T) T.h_check_chase.G T.h_check_chase.F.kp T.h_check_chase.B (hr.mono (by decide)) hgd px_body (dr_d (d_var 0) (dr_d (d_var 1) (dr_d (d_var 2) (dr_d (d_var 3) dr_nil))))))
    (db_cons (ds_set sc_where_caught.nd (dg_call (g_good_times T) T.h_good_times.G T.h_good_times.F.kp T.h_good_times.B (hr.mono (by decide)) hgd px_body (dr_d (d_var 0) (dr_d (d_var 1) (dr_d (d_var 2) (dr_d (d_var 3) dr_nil))))) 4)
    (db_one (ds_ret (d_ifExp (dt_gt (dg_len T.z_len (dk_slot 4)) d_int) (d_tup (da_cons (d_add (d_ix (dk_slot 0) d_int) (d_mul (d_ix (dk_slot 4) d_int) (d_ix (dk_slot 1) d_int))) (da_cons (d_add (d_ix (dk_slot 0) d_int) (d_mul (d_ix (dk_slot 4) d_int) (d_ix (dk_slot 1) d_int))) da_nil))) d_non)))))
theorem g__law_hand (T : Txt K mg) : FnG P w K mg base 1 T.a__law_hand T.f__law_hand ["script"] (spD K mg 1 fT__law_hand) :=
  fn_d (k := 0) (bT := bT__law_hand) T.h__law_hand.F sc__law_hand fun cdv A outer s H E ke hr hgd => (db_cons (ds_setLc 1 rfl sc__law_hand.nd (di_seq (d_scr 0 63)) (blkOk_by (own := [("cell", 2)]) (by rfl)) rfl rfl (fun _ _ _ _ _ => (pg_name (i := 2) sc__law_hand.nd rfl (by first | exact .inl rfl | exact .inr rfl))) (fun _ _ _ _ _ => dts_nil) (fun _ _ _ _ _ => (d_abs T.z_abs (da_cons (d_intOf T.z_int (da_cons (d_var 2) da_nil)) da_nil))))
    (db_one (ds_ret (d_frz (dn_lst (da_cons (d_var 1) (da_cons d_int (da_cons d_int (da_cons (d_add d_int (d_mul d_int (dg_len T.z_len (dk_slot 1)))) (da_cons d_int da_nil))))))))))
theorem g__law_draw (T : Txt K mg) : FnG P w K mg base 1 T.a__law_draw T.f__law_draw ["hand", "many"] (spD K mg 2 fT__law_draw) :=
  fn_d (k := 0) (bT := bT__law_draw) T.h__law_draw.F sc__law_draw fun cdv A outer s H E ke hr hgd => (db_cons (ds_if (dw_pt (dw_and (dt_eq hr.units (dk_any (d_handIx 0 2)) d_int) (dw_and1 (dt_lt (d_handIx 0 1) (dg_len T.z_len (dk_any (d_handIx 0 0))))))) (db_cons (ds_set sc__law_draw.nd (d_ix (dk_any (d_handIx 0 0)) (d_handIx 0 1)) 2)
    (db_cons (ds_handSet (d_add (d_handIx 0 1) d_int) 0 1 rfl (pg_sub (pv 0) pe_int set_list (fun _ => rfl)))
    (db_cons (ds_handSet (d_mod (d_intOf T.z_int (da_cons (d_add (d_add (d_mul (d_handIx 0 3) d_int) (d_mul (d_var 2) d_int)) d_int) da_nil)) d_int) 0 3 rfl (pg_sub (pv 0) pe_int set_list (fun _ => rfl)))
    (db_one (ds_if (dt_ge (d_var 2) (d_pow d_int d_int)) (db_one (ds_handSet (d_var 2) 0 2 rfl (pg_sub (pv 0) pe_int set_list (fun _ => rfl)))) db_nil))))) db_nil)
    (db_cons (ds_if (dt_gt (d_handIx 0 2) d_int) (db_cons (ds_set sc__law_draw.nd (d_mod (d_intOf T.z_int (da_cons (d_handIx 0 2) da_nil)) (d_var 1)) 3)
    (db_cons (ds_handSet (d_fdv (d_handIx 0 2) (d_var 1)) 0 2 rfl (pg_sub (pv 0) pe_int set_list (fun _ => rfl)))
    (db_one (ds_ret (d_var 3))))) db_nil)
    (db_cons (ds_handSet (d_add (d_handIx 0 4) d_int) 0 4 rfl (pg_sub (pv 0) pe_int set_list (fun _ => rfl)))
    (db_cons (ds_set sc__law_draw.nd (d_mod (d_intOf T.z_int (da_cons (d_mul (d_intOf T.z_int (da_cons (d_add (d_handIx 0 3) (d_mul d_int (d_handIx 0 4))) da_nil)) d_int) da_nil)) d_int) 4)
    (db_cons (ds_set sc__law_draw.nd (d_mod (d_intOf T.z_int (da_cons (d_mul (d_var 4) (d_add (d_fdv (d_var 4) d_int) d_int)) da_nil)) d_int) 4)
    (db_cons (ds_set sc__law_draw.nd (d_mod (d_intOf T.z_int (da_cons (d_mul (d_var 4) (d_add (d_fdv (d_var 4) d_int) d_int)) da_nil)) d_int) 4)
    (db_one (ds_ret (d_mod (d_intOf T.z_int (da_cons (d_fdv (d_var 4) d_int) da_nil)) (d_var 1))))))))))
theorem g__law_any (T : Txt K mg) : FnG P w K mg base 2 T.a__law_any T.f__law_any ["hand", "some"] (spD K mg 2 fT__law_any) :=
  fn_d (k := 1) (bT := bT__law_any) T.h__law_any.F sc__law_any fun cdv A outer s H E ke hr hgd => (db_one (ds_ret (d_ix (dk_slot 1) (dg_call (g__law_draw T) T.h__law_draw.G T.h__law_draw.F.kp T.h__law_draw.B (hr.mono (by decide)) hgd px_body (dr_h 0 (dr_d (dg_len T.z_len (dk_slot 1)) dr_nil))))))
theorem g__law_dot (T : Txt K mg) : FnG P w K mg base 3 T.a__law_dot T.f__law_dot ["hand"] (spD K mg 1 fT__law_dot) :=
  fn_d (k := 2) (bT := bT__law_dot) T.h__law_dot.F sc__law_dot fun cdv A outer s H E ke hr hgd => (db_cons (ds_set sc__law_dot.nd (dg_call (g__law_any T) T.h__law_any.G T.h__law_any.F.kp T.h__law_any.B (hr.mono (by decide)) hgd px_body (dr_h 0 (dr_d (d_frz (dn_lst (da_cons d_int (da_cons d_int (da_cons d_int (da_cons d_int da_nil)))))) dr_nil))) 1)
    (db_one (ds_ret (d_tup (da_cons (d_sub (dg_call (g__law_draw T) T.h__law_draw.G T.h__law_draw.F.kp T.h__law_draw.B (hr.mono (by decide)) hgd px_body (dr_h 0 (dr_d (d_add (d_mul d_int (d_var 1)) d_int) dr_nil))) (d_var 1)) (da_cons (d_sub (dg_call (g__law_draw T) T.h__law_draw.G T.h__law_draw.F.kp T.h__law_draw.B (hr.mono (by decide)) hgd px_body (dr_h 0 (dr_d (d_add (d_mul d_int (d_var 1)) d_int) dr_nil))) (d_var 1)) da_nil))))))
theorem g__law_up (T : Txt K mg) : FnG P w K mg base 1 T.a__law_up T.f__law_up ["number", "by"] (spD K mg 2 fT__law_up) :=
  fn_d (k := 0) (bT := bT__law_up) T.h__law_up.F sc__law_up fun cdv A outer s H E ke hr hgd => (db_one (ds_ret (d_fdv (d_sub (d_add (d_var 0) (d_var 1)) d_int) (d_var 1))))
theorem g__law_side (T : Txt K mg) : FnG P w K mg base 2 T.a__law_side T.f__law_side ["off", "pace", "speed"] (spD K mg 3 fT__law_side) :=
  fn_d (k := 1) (bT := bT__law_side) T.h__law_side.F sc__law_side fun cdv A outer s H E ke hr hgd => (db_cons (ds_tgt (d_tup (da_cons d_int (da_cons d_int da_nil))) (pg_tup rfl (pgs_cons (pg_name (i := 3) sc__law_side.nd rfl (by first | exact .inl rfl | exact .inr rfl)) (pgs_cons (pg_name (i := 4) sc__law_side.nd rfl (by first | exact .inl rfl | exact .inr rfl)) pgs_nil))))
    (db_cons (ds_for (passes_of rfl) rfl (di_seq (d_tup (da_cons (d_tup (da_cons (d_var 0) (da_cons (d_sub (d_var 2) (d_var 1)) da_nil))) (da_cons (d_tup (da_cons (d_sub d_int (d_var 0)) (da_cons (d_add (d_var 2) (d_var 1)) da_nil))) da_nil)))) (pg_tup rfl (pgs_cons (pg_name (i := 5) sc__law_side.nd rfl (by first | exact .inl rfl | exact .inr rfl)) (pgs_cons (pg_name (i := 6) sc__law_side.nd rfl (by first | exact .inl rfl | exact .inr rfl)) pgs_nil))) (db_one (ds_if (dt_gt (d_var 6) d_int) (db_one (ds_set sc__law_side.nd (d_max2 rfl T.z_max (da_cons (d_var 3) (da_cons (dg_call (g__law_up T) T.h__law_up.G T.h__law_up.F.kp T.h__law_up.B (hr.mono (by decide)) hgd px_body (dr_d (d_var 5) (dr_d (d_var 6) dr_nil))) da_nil))) 3)) (db_one (ds_if (dw_pt (dw_and (dt_eq hr.units (dk_slot 6) d_int) (dw_and1 (dt_gt (d_var 5) d_int)))) (db_one (ds_ret d_non)) (db_one (ds_if (dt_lt (d_var 6) d_int) (db_one (ds_set sc__law_side.nd (d_min2 rfl T.z_min (da_cons (d_var 4) (da_cons (d_fdv (d_var 5) (d_var 6)) da_nil))) 4)) db_nil)))))))
    (db_one (ds_ret (d_ifExp (dt_le (d_var 3) (d_var 4)) (d_tup (da_cons (d_var 3) (da_cons (d_var 4) da_nil))) d_non)))))
theorem g__law_is_right (T : Txt K mg) : FnG P w K mg base 7 T.a__law_is_right T.f__law_is_right ["hand"] (spD K mg 1 fT__law_is_right) :=
  fn_d (k := 6) (bT := bT__law_is_right) T.h__law_is_right.F sc__law_is_right fun cdv A outer s H E ke hr hgd => (db_cons (ds_tgt (d_tup (da_cons (dg_call (g__law_dot T) T.h__law_dot.G T.h__law_dot.F.kp T.h__law_dot.B (hr.mono (by decide)) hgd px_body (dr_h 0 dr_nil)) (da_cons (dg_call (g__law_dot T) T.h__law_dot.G T.h__law_dot.F.kp T.h__law_dot.B (hr.mono (by decide)) hgd px_body (dr_h 0 dr_nil)) (da_cons (d_add d_int (dg_call (g__law_draw T) T.h__law_draw.G T.h__law_draw.F.kp T.h__law_draw.B (hr.mono (by decide)) hgd px_body (dr_h 0 (dr_d d_int dr_nil)))) da_nil)))) (pg_tup rfl (pgs_cons (pg_name (i := 1) sc__law_is_right.nd rfl (by first | exact .inl rfl | exact .inr rfl)) (pgs_cons (pg_name (i := 2) sc__law_is_right.nd rfl (by first | exact .inl rfl | exact .inr rfl)) (pgs_cons (pg_name (i := 3) sc__law_is_right.nd rfl (by first | exact .inl rfl | exact .inr rfl)) pgs_nil)))))
    (db_cons (ds_set sc__law_is_right.nd (d_tup (da_cons (d_sub (dg_call (g__law_draw T) T.h__law_draw.G T.h__law_draw.F.kp T.h__law_draw.B (hr.mono (by decide)) hgd px_body (dr_h 0 (dr_d d_int dr_nil))) d_int) (da_cons (d_sub (dg_call (g__law_draw T) T.h__law_draw.G T.h__law_draw.F.kp T.h__law_draw.B (hr.mono (by decide)) hgd px_body (dr_h 0 (dr_d d_int dr_nil))) d_int) da_nil))) 4)
    (db_cons (ds_set sc__law_is_right.nd (dg_call (g__law_any T) T.h__law_any.G T.h__law_any.F.kp T.h__law_any.B (hr.mono (by decide)) hgd px_body (dr_h 0 (dr_d (d_frz (dn_lst (da_cons (d_tup (da_cons d_int (da_cons d_int da_nil))) (da_cons (d_tup (da_cons (d_var 3) (da_cons (d_sub d_int (d_var 3)) da_nil))) (da_cons (d_var 4) (da_cons (d_var 4) (da_cons (d_var 4) da_nil))))))) dr_nil))) 5)
    (db_cons (ds_set sc__law_is_right.nd (dg_call (g_catch_times T) T.h_catch_times.G T.h_catch_times.F.kp T.h_catch_times.B (hr.mono (by decide)) hgd px_body (dr_d (d_var 1) (dr_d (d_var 5) (dr_d (d_var 2) (dr_d (d_var 3) dr_nil))))) 6)
    (db_cons (ds_own sc__law_is_right.nd (dn_lst (da_cons (dg_call (g_catch_times T) T.h_catch_times.G T.h_catch_times.F.kp T.h_catch_times.B (hr.mono (by decide)) hgd px_body (dr_d (d_tup (da_cons (d_ix (dk_slot 1) d_int) (da_cons d_int da_nil))) (dr_d (d_tup (da_cons (d_ix (dk_slot 5) d_int) (da_cons d_int da_nil))) (dr_d (d_tup (da_cons (d_ix (dk_slot 2) d_int) (da_cons d_int da_nil))) (dr_d (d_var 3) dr_nil))))) da_nil)) 7)
    (db_cons (ds_append (dg_call (g_catch_times T) T.h_catch_times.G T.h_catch_times.F.kp T.h_catch_times.B (hr.mono (by decide)) hgd px_body (dr_d (d_tup (da_cons d_int (da_cons (d_ix (dk_slot 1) d_int) da_nil))) (dr_d (d_tup (da_cons d_int (da_cons (d_ix (dk_slot 5) d_int) da_nil))) (dr_d (d_tup (da_cons d_int (da_cons (d_ix (dk_slot 2) d_int) da_nil))) (dr_d (d_var 3) dr_nil))))) 7 rfl (by first | exact Or.inl rfl | exact Or.inr (Or.inl rfl) | exact Or.inr (Or.inr rfl)) (by decide) (by decide) (pe_bm PySem.F.plainAttrs_list PySem.F.slot_list_append PySem.F.type_list_append mt_append (pv 7) (pa_cons (dg_call (g_catch_times T) T.h_catch_times.G T.h_catch_times.F.kp T.h_catch_times.B (hr.mono (by decide)) hgd px_body (dr_d (d_tup (da_cons d_int (da_cons (d_ix (dk_slot 1) d_int) da_nil))) (dr_d (d_tup (da_cons d_int (da_cons (d_ix (dk_slot 5) d_int) da_nil))) (dr_d (d_tup (da_cons d_int (da_cons (d_ix (dk_slot 2) d_int) da_nil))) (dr_d (d_var 3) dr_nil))))) pa_nil)))
    (db_cons (ds_setLc 8 rfl sc__law_is_right.nd (di_seq (d_tup (da_cons d_int (da_cons d_int da_nil)))) (blkOk_by (own := [("at", 11)]) (by rfl)) rfl rfl (fun _ _ _ _ _ => (pg_name (i := 11) sc__law_is_right.nd rfl (by first | exact .inl rfl | exact .inr rfl))) (fun _ _ _ _ _ => dts_nil) (fun _ _ _ _ _ => (dg_call (g__law_side T) T.h__law_side.G T.h__law_side.F.kp T.h__law_side.B (hr.mono (by decide)) hgd passL (dr_d (d_sub (d_ix (dk_slot 1) (d_var 11)) (d_ix (dk_slot 2) (d_var 11))) (dr_d (d_ix (dk_slot 5) (d_var 11)) (dr_d (d_var 3) dr_nil))))))
    (db_cons (ds_if (dt_ne hr.units (dk_any (d_repr hgd hr.units T.z_repr (dk_slot 7))) (d_repr hgd hr.units T.z_repr (dk_slot 8))) (db_one (ds_ret d_bl)) db_nil)
    (db_cons (ds_set sc__law_is_right.nd d_non 9)
    (db_cons (ds_if (dw_pt (dw_and (dt_notIn (hu65 hr) d_non (dk_slot 8)) (dw_and1 (dt_le (d_max2 rfl T.z_max (da_cons (d_ix (dk_any (d_ix (dk_slot 8) d_int)) d_int) (da_cons (d_ix (dk_any (d_ix (dk_slot 8) d_int)) d_int) da_nil))) (d_min2 rfl T.z_min (da_cons (d_ix (dk_any (d_ix (dk_slot 8) d_int)) d_int) (da_cons (d_ix (dk_any (d_ix (dk_slot 8) d_int)) d_int) da_nil))))))) (db_one (ds_set sc__law_is_right.nd (d_tup (da_cons (d_max2 rfl T.z_max (da_cons (d_ix (dk_any (d_ix (dk_slot 8) d_int)) d_int) (da_cons (d_ix (dk_any (d_ix (dk_slot 8) d_int)) d_int) da_nil))) (da_cons (d_min2 rfl T.z_min (da_cons (d_ix (dk_any (d_ix (dk_slot 8) d_int)) d_int) (da_cons (d_ix (dk_any (d_ix (dk_slot 8) d_int)) d_int) da_nil))) da_nil))) 9)) db_nil)
    (db_cons (ds_if (dt_ne hr.units (dk_any (d_repr hgd hr.units T.z_repr (dk_slot 6))) (d_repr hgd hr.units T.z_repr (dk_slot 9))) (db_one (ds_ret d_bl)) db_nil)
    (db_cons (ds_set sc__law_is_right.nd (dg_call (g_where_caught T) T.h_where_caught.G T.h_where_caught.F.kp T.h_where_caught.B (hr.mono (by decide)) hgd px_body (dr_d (d_var 1) (dr_d (d_var 5) (dr_d (d_var 2) (dr_d (d_var 3) dr_nil))))) 10)
    (db_cons (ds_if (dt_ne hr.units (dk_any (d_repr hgd hr.units T.z_repr (dk_slot 10))) (d_repr hgd hr.units T.z_repr (dk_any (d_ifExp (dt_is (dk_slot 9) d_non) d_non (d_tup (da_cons (d_add (d_ix (dk_slot 1) d_int) (d_mul (d_ix (dk_slot 9) d_int) (d_ix (dk_slot 5) d_int))) (da_cons (d_add (d_ix (dk_slot 1) d_int) (d_mul (d_ix (dk_slot 9) d_int) (d_ix (dk_slot 5) d_int))) da_nil))))))) (db_one (ds_ret d_bl)) db_nil)
    (db_cons (ds_if (dt_ne hr.units (dk_any (d_repr hgd hr.units T.z_repr (dk_any (dg_call (g_catch_times T) T.h_catch_times.G T.h_catch_times.F.kp T.h_catch_times.B (hr.mono (by decide)) hgd px_body (dr_d (d_tup (da_cons (d_ix (dk_slot 1) d_int) (da_cons (d_ix (dk_slot 1) d_int) da_nil))) (dr_d (d_tup (da_cons (d_ix (dk_slot 5) d_int) (da_cons (d_ix (dk_slot 5) d_int) da_nil))) (dr_d (d_tup (da_cons (d_ix (dk_slot 2) d_int) (da_cons (d_ix (dk_slot 2) d_int) da_nil))) (dr_d (d_var 3) dr_nil)))))))) (d_repr hgd hr.units T.z_repr (dk_slot 9))) (db_one (ds_ret d_bl)) db_nil)
    (db_cons (ds_if (dt_ne hr.units (dk_any (d_repr hgd hr.units T.z_repr (dk_any (dg_call (g_catch_times T) T.h_catch_times.G T.h_catch_times.F.kp T.h_catch_times.B (hr.mono (by decide)) hgd px_body (dr_d (d_tup (da_cons (d_sub d_int (d_ix (dk_slot 1) d_int)) (da_cons (d_ix (dk_slot 1) d_int) da_nil))) (dr_d (d_tup (da_cons (d_sub d_int (d_ix (dk_slot 5) d_int)) (da_cons (d_ix (dk_slot 5) d_int) da_nil))) (dr_d (d_tup (da_cons (d_sub d_int (d_ix (dk_slot 2) d_int)) (da_cons (d_ix (dk_slot 2) d_int) da_nil))) (dr_d (d_var 3) dr_nil)))))))) (d_repr hgd hr.units T.z_repr (dk_slot 9))) (db_one (ds_ret d_bl)) db_nil)
    (db_cons (ds_if (dt_ne hr.units (dk_any (d_repr hgd hr.units T.z_repr (dk_any (dg_call (g_catch_times T) T.h_catch_times.G T.h_catch_times.F.kp T.h_catch_times.B (hr.mono (by decide)) hgd px_body (dr_d (d_var 2) (dr_d (d_tup (da_cons (d_sub d_int (d_ix (dk_slot 5) d_int)) (da_cons (d_sub d_int (d_ix (dk_slot 5) d_int)) da_nil))) (dr_d (d_var 1) (dr_d (d_var 3) dr_nil)))))))) (d_repr hgd hr.units T.z_repr (dk_slot 9))) (db_one (ds_ret d_bl)) db_nil)
    (db_one (ds_ret (d_eq hr.units (dk_any (dg_call (g_catch_times T) T.h_catch_times.G T.h_catch_times.F.kp T.h_catch_times.B (hr.mono (by decide)) hgd px_body (dr_d (d_var 1) (dr_d (d_tup (da_cons d_int (da_cons d_int da_nil))) (dr_d (d_var 2) (dr_d (d_var 3) dr_nil)))))) (d_tup (da_cons (dg_call (g_soonest T) T.h_soonest.G T.h_soonest.F.kp T.h_soonest.B (hr.mono (by decide)) hgd px_body (dr_d (d_var 1) (dr_d (d_var 2) (dr_d (d_var 3) dr_nil)))) (da_cons d_int da_nil))))))))))))))))))))))
theorem g_law {Tl : List (Addr × Str)} (T : Txt K mg) (hm : ∀ ns : List Int, ns.length ≤ 63 → (∀ z ∈ ns, Builtin.Int.intBits z ≤ 1048576) → mh (sd0 3 [.scr ns] default) fun y S => handed 3 bT_law { S with env := S.env.set 1 (.d y) }) :
    FnG P w K mg base 8 T.a_law T.f_law ["script"] (spEnd K 63 (Tl.map (·.1))) := by
  refine fn_law (k := 7) (mh := mh) (bT := bT_law) T.h_law.F sc_law rfl (fun cdv A outer s H E hr hgd => ?_) (fun cdv A outer s H E hr hgd => ?_) hm
  · exact (ds_set sc_law.nd (dg_call (g__law_hand T) T.h__law_hand.G T.h__law_hand.F.kp T.h__law_hand.B (hr.mono (by decide)) hgd px_body (dr_h 0 dr_nil)) 1)
  · exact (db_cons (ds_if (dw_pt (dw_or (dt_ne hr.units (dk_any (dg_call (g_catch_times T) T.h_catch_times.G T.h_catch_times.F.kp T.h_catch_times.B (hr.mono (by decide)) hgd px_body (dr_d (d_tup (da_cons d_int (da_cons d_int da_nil))) (dr_d (d_tup (da_cons (d_neg d_int) (da_cons d_int da_nil))) (dr_d (d_tup (da_cons d_int (da_cons d_int da_nil))) (dr_d d_int dr_nil)))))) (d_tup (da_cons d_int (da_cons d_int da_nil)))) (dw_or1 (dt_ne hr.units (dk_any (dg_call (g_catch_times T) T.h_catch_times.G T.h_catch_times.F.kp T.h_catch_times.B (hr.mono (by decide)) hgd px_body (dr_d (d_tup (da_cons d_int (da_cons d_int da_nil))) (dr_d (d_tup (da_cons d_int (da_cons d_int da_nil))) (dr_d (d_tup (da_cons d_int (da_cons d_int da_nil))) (dr_d d_int dr_nil)))))) (d_tup (da_cons d_int (da_cons d_int da_nil))))))) (db_one (ds_ret d_bl)) db_nil)
    (db_cons (ds_if (dw_pt (dw_or (dt_ne hr.units (dk_any (dg_call (g_catch_times T) T.h_catch_times.G T.h_catch_times.F.kp T.h_catch_times.B (hr.mono (by decide)) hgd px_body (dr_d (d_tup (da_cons (d_neg d_int) (da_cons d_int da_nil))) (dr_d (d_tup (da_cons d_int (da_cons d_int da_nil))) (dr_d (d_tup (da_cons d_int (da_cons d_int da_nil))) (dr_d d_int dr_nil)))))) (d_tup (da_cons d_int (da_cons d_int da_nil)))) (dw_or1 (dt_isnot (dk_any (dg_call (g_catch_times T) T.h_catch_times.G T.h_catch_times.F.kp T.h_catch_times.B (hr.mono (by decide)) hgd px_body (dr_d (d_tup (da_cons d_int (da_cons d_int da_nil))) (dr_d (d_tup (da_cons d_int (da_cons d_int da_nil))) (dr_d (d_tup (da_cons d_int (da_cons d_int da_nil))) (dr_d d_int dr_nil)))))) d_non)))) (db_one (ds_ret d_bl)) db_nil)
    (db_one (ds_ret (d_all rfl T.z_all (dk_any (d_frz (dn_lc rfl sc_law.nd (di_rng1 T.z_range (da_cons d_int da_nil)) (blkOk_by (own := [("lap", 2)]) (by rfl)) rfl (fun _ _ _ _ _ => (pg_name (i := 2) sc_law.nd rfl (by first | exact .inl rfl | exact .inr rfl))) (fun _ _ _ _ _ => dts_nil) (fun _ _ _ _ _ => (dg_call (g__law_is_right T) T.h__law_is_right.G T.h__law_is_right.F.kp T.h__law_is_right.B (hr.mono (by decide)) hgd passL (dr_h 1 dr_nil)))))))))))
/-- the head's facts -/
def txt {h : Heap} (X : K.In h) (G : h.Ns mainGlobals mg) {a_is_integer : Addr} {od_is_integer an_is_integer : Option Addr} {sl_is_integer : Array (Option Value)} {oc_is_integer kV_is_integer dc_is_integer pm_is_integer cd_is_integer ct_is_integer : Value} {a_is_within : Addr} {od_is_within an_is_within : Option Addr} {sl_is_within : Array (Option Value)} {oc_is_within kV_is_within dc_is_within pm_is_within cd_is_within ct_is_within : Value} {a_is_tuple : Addr} {od_is_tuple an_is_tuple : Option Addr} {sl_is_tuple : Array (Option Value)} {oc_is_tuple kV_is_tuple dc_is_tuple pm_is_tuple cd_is_tuple ct_is_tuple : Value} {a_is_dot : Addr} {od_is_dot an_is_dot : Option Addr} {sl_is_dot : Array (Option Value)} {oc_is_dot kV_is_dot dc_is_dot pm_is_dot cd_is_dot ct_is_dot : Value} {a_check_dot : Addr} {od_check_dot an_check_dot : Option Addr} {sl_check_dot : Array (Option Value)} {oc_check_dot kV_check_dot dc_check_dot pm_check_dot cd_check_dot ct_check_dot : Value} {a_check_speed : Addr} {od_check_speed an_check_speed : Option Addr} {sl_check_speed : Array (Option Value)} {oc_check_speed kV_check_speed dc_check_speed pm_check_speed cd_check_speed ct_check_speed : Value} {a_rounded_up : Addr} {od_rounded_up an_rounded_up : Option Addr} {sl_rounded_up : Array (Option Value)} {oc_rounded_up kV_rounded_up dc_rounded_up pm_rounded_up cd_rounded_up ct_rounded_up : Value} {a_soonest : Addr} {od_soonest an_soonest : Option Addr} {sl_soonest : Array (Option Value)} {oc_soonest kV_soonest dc_soonest pm_soonest cd_soonest ct_soonest : Value} {a_check_chase : Addr} {od_check_chase an_check_chase : Option Addr} {sl_check_chase : Array (Option Value)} {oc_check_chase kV_check_chase dc_check_chase pm_check_chase cd_check_chase ct_check_chase : Value} {a_good_times : Addr} {od_good_times an_good_times : Option Addr} {sl_good_times : Array (Option Value)} {oc_good_times kV_good_times dc_good_times pm_good_times cd_good_times ct_good_times : Value} {a_catch_times : Addr} {od_catch_times an_catch_times : Option Addr} {sl_catch_times : Array (Option Value)} {oc_catch_times kV_catch_times dc_catch_times pm_catch_times cd_catch_times ct_catch_times : Value} {a_where_caught : Addr} {od_where_caught an_where_caught : Option Addr} {sl_where_caught : Array (Option Value)} {oc_where_caught kV_where_caught dc_where_caught pm_where_caught cd_where_caught ct_where_caught : Value} {a__law_hand : Addr} {od__law_hand an__law_hand : Option Addr} {sl__law_hand : Array (Option Value)} {oc__law_hand kV__law_hand dc__law_hand pm__law_hand cd__law_hand ct__law_hand : Value} {a__law_draw : Addr} {od__law_draw an__law_draw : Option Addr} {sl__law_draw : Array (Option Value)} {oc__law_draw kV__law_draw dc__law_draw pm__law_draw cd__law_draw ct__law_draw : Value} {a__law_any : Addr} {od__law_any an__law_any : Option Addr} {sl__law_any : Array (Option Value)} {oc__law_any kV__law_any dc__law_any pm__law_any cd__law_any ct__law_any : Value} {a__law_dot : Addr} {od__law_dot an__law_dot : Option Addr} {sl__law_dot : Array (Option Value)} {oc__law_dot kV__law_dot dc__law_dot pm__law_dot cd__law_dot ct__law_dot : Value} {a__law_up : Addr} {od__law_up an__law_up : Option Addr} {sl__law_up : Array (Option Value)} {oc__law_up kV__law_up dc__law_up pm__law_up cd__law_up ct__law_up : Value} {a__law_side : Addr} {od__law_side an__law_side : Option Addr} {sl__law_side : Array (Option Value)} {oc__law_side kV__law_side dc__law_side pm__law_side cd__law_side ct__law_side : Value} {a__law_is_right : Addr} {od__law_is_right an__law_is_right : Option Addr} {sl__law_is_right : Array (Option Value)} {oc__law_is_right kV__law_is_right dc__law_is_right pm__law_is_right cd__law_is_right ct__law_is_right : Value} {a_law : Addr} {od_law an_law : Option Addr} {sl_law : Array (Option Value)} {oc_law kV_law dc_law pm_law cd_law ct_law : Value} {u_FARTHEST : Tok} {u_FASTEST : Tok} {u_FASTEST_SHIP : Tok} {u_LAST : Tok}
    (i_is_integer : PySem.W.nsIn K mainGlobals "is_integer" = some (some (.ref a_is_integer)))
    (l_is_integer : K.lookup a_is_integer = some ⟨oc_is_integer, od_is_integer, .func (PySem.W.fnOf "is_integer" "is_integer" (defArgs s_is_integer) (defBody s_is_integer) (defScope s_is_integer) .none kV_is_integer dc_is_integer pm_is_integer an_is_integer cd_is_integer ct_is_integer), sl_is_integer⟩)
    (c_is_integer : PySem.W.codeIn K cd_is_integer "is_integer" = true)
    (k_is_integer : PySem.W.keepIn K (.ref a_is_integer) = true)
    (i_is_within : PySem.W.nsIn K mainGlobals "is_within" = some (some (.ref a_is_within)))
    (l_is_within : K.lookup a_is_within = some ⟨oc_is_within, od_is_within, .func (PySem.W.fnOf "is_within" "is_within" (defArgs s_is_within) (defBody s_is_within) (defScope s_is_within) .none kV_is_within dc_is_within pm_is_within an_is_within cd_is_within ct_is_within), sl_is_within⟩)
    (c_is_within : PySem.W.codeIn K cd_is_within "is_within" = true)
    (k_is_within : PySem.W.keepIn K (.ref a_is_within) = true)
    (i_is_tuple : PySem.W.nsIn K mainGlobals "is_tuple" = some (some (.ref a_is_tuple)))
    (l_is_tuple : K.lookup a_is_tuple = some ⟨oc_is_tuple, od_is_tuple, .func (PySem.W.fnOf "is_tuple" "is_tuple" (defArgs s_is_tuple) (defBody s_is_tuple) (defScope s_is_tuple) .none kV_is_tuple dc_is_tuple pm_is_tuple an_is_tuple cd_is_tuple ct_is_tuple), sl_is_tuple⟩)
    (c_is_tuple : PySem.W.codeIn K cd_is_tuple "is_tuple" = true)
    (k_is_tuple : PySem.W.keepIn K (.ref a_is_tuple) = true)
    (i_is_dot : PySem.W.nsIn K mainGlobals "is_dot" = some (some (.ref a_is_dot)))
    (l_is_dot : K.lookup a_is_dot = some ⟨oc_is_dot, od_is_dot, .func (PySem.W.fnOf "is_dot" "is_dot" (defArgs s_is_dot) (defBody s_is_dot) (defScope s_is_dot) .none kV_is_dot dc_is_dot pm_is_dot an_is_dot cd_is_dot ct_is_dot), sl_is_dot⟩)
    (c_is_dot : PySem.W.codeIn K cd_is_dot "is_dot" = true)
    (k_is_dot : PySem.W.keepIn K (.ref a_is_dot) = true)
    (i_check_dot : PySem.W.nsIn K mainGlobals "check_dot" = some (some (.ref a_check_dot)))
    (l_check_dot : K.lookup a_check_dot = some ⟨oc_check_dot, od_check_dot, .func (PySem.W.fnOf "check_dot" "check_dot" (defArgs s_check_dot) (defBody s_check_dot) (defScope s_check_dot) .none kV_check_dot dc_check_dot pm_check_dot an_check_dot cd_check_dot ct_check_dot), sl_check_dot⟩)
    (c_check_dot : PySem.W.codeIn K cd_check_dot "check_dot" = true)
    (k_check_dot : PySem.W.keepIn K (.ref a_check_dot) = true)
    (i_check_speed : PySem.W.nsIn K mainGlobals "check_speed" = some (some (.ref a_check_speed)))
    (l_check_speed : K.lookup a_check_speed = some ⟨oc_check_speed, od_check_speed, .func (PySem.W.fnOf "check_speed" "check_speed" (defArgs s_check_speed) (defBody s_check_speed) (defScope s_check_speed) .none kV_check_speed dc_check_speed pm_check_speed an_check_speed cd_check_speed ct_check_speed), sl_check_speed⟩)
    (c_check_speed : PySem.W.codeIn K cd_check_speed "check_speed" = true)
    (k_check_speed : PySem.W.keepIn K (.ref a_check_speed) = true)
    (i_rounded_up : PySem.W.nsIn K mainGlobals "rounded_up" = some (some (.ref a_rounded_up)))
    (l_rounded_up : K.lookup a_rounded_up = some ⟨oc_rounded_up, od_rounded_up, .func (PySem.W.fnOf "rounded_up" "rounded_up" (defArgs s_rounded_up) (defBody s_rounded_up) (defScope s_rounded_up) .none kV_rounded_up dc_rounded_up pm_rounded_up an_rounded_up cd_rounded_up ct_rounded_up), sl_rounded_up⟩)
    (c_rounded_up : PySem.W.codeIn K cd_rounded_up "rounded_up" = true)
    (k_rounded_up : PySem.W.keepIn K (.ref a_rounded_up) = true)
    (i_soonest : PySem.W.nsIn K mainGlobals "soonest" = some (some (.ref a_soonest)))
    (l_soonest : K.lookup a_soonest = some ⟨oc_soonest, od_soonest, .func (PySem.W.fnOf "soonest" "soonest" (defArgs s_soonest) (defBody s_soonest) (defScope s_soonest) .none kV_soonest dc_soonest pm_soonest an_soonest cd_soonest ct_soonest), sl_soonest⟩)
    (c_soonest : PySem.W.codeIn K cd_soonest "soonest" = true)
    (k_soonest : PySem.W.keepIn K (.ref a_soonest) = true)
    (i_check_chase : PySem.W.nsIn K mainGlobals "check_chase" = some (some (.ref a_check_chase)))
    (l_check_chase : K.lookup a_check_chase = some ⟨oc_check_chase, od_check_chase, .func (PySem.W.fnOf "check_chase" "check_chase" (defArgs s_check_chase) (defBody s_check_chase) (defScope s_check_chase) .none kV_check_chase dc_check_chase pm_check_chase an_check_chase cd_check_chase ct_check_chase), sl_check_chase⟩)
    (c_check_chase : PySem.W.codeIn K cd_check_chase "check_chase" = true)
    (k_check_chase : PySem.W.keepIn K (.ref a_check_chase) = true)
    (i_good_times : PySem.W.nsIn K mainGlobals "good_times" = some (some (.ref a_good_times)))
    (l_good_times : K.lookup a_good_times = some ⟨oc_good_times, od_good_times, .func (PySem.W.fnOf "good_times" "good_times" (defArgs s_good_times) (defBody s_good_times) (defScope s_good_times) .none kV_good_times dc_good_times pm_good_times an_good_times cd_good_times ct_good_times), sl_good_times⟩)
    (c_good_times : PySem.W.codeIn K cd_good_times "good_times" = true)
    (k_good_times : PySem.W.keepIn K (.ref a_good_times) = true)
    (i_catch_times : PySem.W.nsIn K mainGlobals "catch_times" = some (some (.ref a_catch_times)))
    (l_catch_times : K.lookup a_catch_times = some ⟨oc_catch_times, od_catch_times, .func (PySem.W.fnOf "catch_times" "catch_times" (defArgs s_catch_times) (defBody s_catch_times) (defScope s_catch_times) .none kV_catch_times dc_catch_times pm_catch_times an_catch_times cd_catch_times ct_catch_times), sl_catch_times⟩)
    (c_catch_times : PySem.W.codeIn K cd_catch_times "catch_times" = true)
    (k_catch_times : PySem.W.keepIn K (.ref a_catch_times) = true)
    (i_where_caught : PySem.W.nsIn K mainGlobals "where_caught" = some (some (.ref a_where_caught)))
    (l_where_caught : K.lookup a_where_caught = some ⟨oc_where_caught, od_where_caught, .func (PySem.W.fnOf "where_caught" "where_caught" (defArgs s_where_caught) (defBody s_where_caught) (defScope s_where_caught) .none kV_where_caught dc_where_caught pm_where_caught an_where_caught cd_where_caught ct_where_caught), sl_where_caught⟩)
    (c_where_caught : PySem.W.codeIn K cd_where_caught "where_caught" = true)
    (k_where_caught : PySem.W.keepIn K (.ref a_where_caught) = true)
    (i__law_hand : PySem.W.nsIn K mainGlobals "_law_hand" = some (some (.ref a__law_hand)))
    (l__law_hand : K.lookup a__law_hand = some ⟨oc__law_hand, od__law_hand, .func (PySem.W.fnOf "_law_hand" "_law_hand" (defArgs s__law_hand) (defBody s__law_hand) (defScope s__law_hand) .none kV__law_hand dc__law_hand pm__law_hand an__law_hand cd__law_hand ct__law_hand), sl__law_hand⟩)
    (c__law_hand : PySem.W.codeIn K cd__law_hand "_law_hand" = true)
    (k__law_hand : PySem.W.keepIn K (.ref a__law_hand) = true)
    (i__law_draw : PySem.W.nsIn K mainGlobals "_law_draw" = some (some (.ref a__law_draw)))
    (l__law_draw : K.lookup a__law_draw = some ⟨oc__law_draw, od__law_draw, .func (PySem.W.fnOf "_law_draw" "_law_draw" (defArgs s__law_draw) (defBody s__law_draw) (defScope s__law_draw) .none kV__law_draw dc__law_draw pm__law_draw an__law_draw cd__law_draw ct__law_draw), sl__law_draw⟩)
    (c__law_draw : PySem.W.codeIn K cd__law_draw "_law_draw" = true)
    (k__law_draw : PySem.W.keepIn K (.ref a__law_draw) = true)
    (i__law_any : PySem.W.nsIn K mainGlobals "_law_any" = some (some (.ref a__law_any)))
    (l__law_any : K.lookup a__law_any = some ⟨oc__law_any, od__law_any, .func (PySem.W.fnOf "_law_any" "_law_any" (defArgs s__law_any) (defBody s__law_any) (defScope s__law_any) .none kV__law_any dc__law_any pm__law_any an__law_any cd__law_any ct__law_any), sl__law_any⟩)
    (c__law_any : PySem.W.codeIn K cd__law_any "_law_any" = true)
    (k__law_any : PySem.W.keepIn K (.ref a__law_any) = true)
    (i__law_dot : PySem.W.nsIn K mainGlobals "_law_dot" = some (some (.ref a__law_dot)))
    (l__law_dot : K.lookup a__law_dot = some ⟨oc__law_dot, od__law_dot, .func (PySem.W.fnOf "_law_dot" "_law_dot" (defArgs s__law_dot) (defBody s__law_dot) (defScope s__law_dot) .none kV__law_dot dc__law_dot pm__law_dot an__law_dot cd__law_dot ct__law_dot), sl__law_dot⟩)
    (c__law_dot : PySem.W.codeIn K cd__law_dot "_law_dot" = true)
    (k__law_dot : PySem.W.keepIn K (.ref a__law_dot) = true)
    (i__law_up : PySem.W.nsIn K mainGlobals "_law_up" = some (some (.ref a__law_up)))
    (l__law_up : K.lookup a__law_up = some ⟨oc__law_up, od__law_up, .func (PySem.W.fnOf "_law_up" "_law_up" (defArgs s__law_up) (defBody s__law_up) (defScope s__law_up) .none kV__law_up dc__law_up pm__law_up an__law_up cd__law_up ct__law_up), sl__law_up⟩)
    (c__law_up : PySem.W.codeIn K cd__law_up "_law_up" = true)
    (k__law_up : PySem.W.keepIn K (.ref a__law_up) = true)
    (i__law_side : PySem.W.nsIn K mainGlobals "_law_side" = some (some (.ref a__law_side)))
    (l__law_side : K.lookup a__law_side = some ⟨oc__law_side, od__law_side, .func (PySem.W.fnOf "_law_side" "_law_side" (defArgs s__law_side) (defBody s__law_side) (defScope s__law_side) .none kV__law_side dc__law_side pm__law_side an__law_side cd__law_side ct__law_side), sl__law_side⟩)
    (c__law_side : PySem.W.codeIn K cd__law_side "_law_side" = true)
    (k__law_side : PySem.W.keepIn K (.ref a__law_side) = true)
    (i__law_is_right : PySem.W.nsIn K mainGlobals "_law_is_right" = some (some (.ref a__law_is_right)))
    (l__law_is_right : K.lookup a__law_is_right = some ⟨oc__law_is_right, od__law_is_right, .func (PySem.W.fnOf "_law_is_right" "_law_is_right" (defArgs s__law_is_right) (defBody s__law_is_right) (defScope s__law_is_right) .none kV__law_is_right dc__law_is_right pm__law_is_right an__law_is_right cd__law_is_right ct__law_is_right), sl__law_is_right⟩)
    (c__law_is_right : PySem.W.codeIn K cd__law_is_right "_law_is_right" = true)
    (k__law_is_right : PySem.W.keepIn K (.ref a__law_is_right) = true)
    (i_law : PySem.W.nsIn K mainGlobals "law" = some (some (.ref a_law)))
    (l_law : K.lookup a_law = some ⟨oc_law, od_law, .func (PySem.W.fnOf "law" "law" (defArgs s_law) (defBody s_law) (defScope s_law) .none kV_law dc_law pm_law an_law cd_law ct_law), sl_law⟩)
    (c_law : PySem.W.codeIn K cd_law "law" = true)
    (k_law : PySem.W.keepIn K (.ref a_law) = true)
    (y_isinstance : PySem.W.nsIn K mainGlobals "isinstance" = some none)
    (y_bool : PySem.W.nsIn K mainGlobals "bool" = some none)
    (y_int : PySem.W.nsIn K mainGlobals "int" = some none)
    (y_len : PySem.W.nsIn K mainGlobals "len" = some none)
    (y_tuple : PySem.W.nsIn K mainGlobals "tuple" = some none)
    (y_all : PySem.W.nsIn K mainGlobals "all" = some none)
    (y_abs : PySem.W.nsIn K mainGlobals "abs" = some none)
    (y_max : PySem.W.nsIn K mainGlobals "max" = some none)
    (y_range : PySem.W.nsIn K mainGlobals "range" = some none)
    (y_min : PySem.W.nsIn K mainGlobals "min" = some none)
    (y_repr : PySem.W.nsIn K mainGlobals "repr" = some none)
    (v_FARTHEST : PySem.W.nsIn K mainGlobals "FARTHEST" = some (some (.int 60 u_FARTHEST)))
    (v_FASTEST : PySem.W.nsIn K mainGlobals "FASTEST" = some (some (.int 6 u_FASTEST)))
    (v_FASTEST_SHIP : PySem.W.nsIn K mainGlobals "FASTEST_SHIP" = some (some (.int 9 u_FASTEST_SHIP)))
    (v_LAST : PySem.W.nsIn K mainGlobals "LAST" = some (some (.int 400 u_LAST))) : Txt K mg where
  a_is_integer := a_is_integer
  f_is_integer := PySem.W.fnOf "is_integer" "is_integer" (defArgs s_is_integer) (defBody s_is_integer) (defScope s_is_integer) .none kV_is_integer dc_is_integer pm_is_integer an_is_integer cd_is_integer ct_is_integer
  h_is_integer := dn_mk X G i_is_integer l_is_integer c_is_integer k_is_integer fun _ _ _ _ _ _ us hl => match us, hl with | [_], _ => rfl
  a_is_within := a_is_within
  f_is_within := PySem.W.fnOf "is_within" "is_within" (defArgs s_is_within) (defBody s_is_within) (defScope s_is_within) .none kV_is_within dc_is_within pm_is_within an_is_within cd_is_within ct_is_within
  h_is_within := dn_mk X G i_is_within l_is_within c_is_within k_is_within fun _ _ _ _ _ _ us hl => match us, hl with | [_, _, _], _ => rfl
  a_is_tuple := a_is_tuple
  f_is_tuple := PySem.W.fnOf "is_tuple" "is_tuple" (defArgs s_is_tuple) (defBody s_is_tuple) (defScope s_is_tuple) .none kV_is_tuple dc_is_tuple pm_is_tuple an_is_tuple cd_is_tuple ct_is_tuple
  h_is_tuple := dn_mk X G i_is_tuple l_is_tuple c_is_tuple k_is_tuple fun _ _ _ _ _ _ us hl => match us, hl with | [_, _, _], _ => rfl
  a_is_dot := a_is_dot
  f_is_dot := PySem.W.fnOf "is_dot" "is_dot" (defArgs s_is_dot) (defBody s_is_dot) (defScope s_is_dot) .none kV_is_dot dc_is_dot pm_is_dot an_is_dot cd_is_dot ct_is_dot
  h_is_dot := dn_mk X G i_is_dot l_is_dot c_is_dot k_is_dot fun _ _ _ _ _ _ us hl => match us, hl with | [_], _ => rfl
  a_check_dot := a_check_dot
  f_check_dot := PySem.W.fnOf "check_dot" "check_dot" (defArgs s_check_dot) (defBody s_check_dot) (defScope s_check_dot) .none kV_check_dot dc_check_dot pm_check_dot an_check_dot cd_check_dot ct_check_dot
  h_check_dot := dn_mk X G i_check_dot l_check_dot c_check_dot k_check_dot fun _ _ _ _ _ _ us hl => match us, hl with | [_], _ => rfl
  a_check_speed := a_check_speed
  f_check_speed := PySem.W.fnOf "check_speed" "check_speed" (defArgs s_check_speed) (defBody s_check_speed) (defScope s_check_speed) .none kV_check_speed dc_check_speed pm_check_speed an_check_speed cd_check_speed ct_check_speed
  h_check_speed := dn_mk X G i_check_speed l_check_speed c_check_speed k_check_speed fun _ _ _ _ _ _ us hl => match us, hl with | [_], _ => rfl
  a_rounded_up := a_rounded_up
  f_rounded_up := PySem.W.fnOf "rounded_up" "rounded_up" (defArgs s_rounded_up) (defBody s_rounded_up) (defScope s_rounded_up) .none kV_rounded_up dc_rounded_up pm_rounded_up an_rounded_up cd_rounded_up ct_rounded_up
  h_rounded_up := dn_mk X G i_rounded_up l_rounded_up c_rounded_up k_rounded_up fun _ _ _ _ _ _ us hl => match us, hl with | [_, _], _ => rfl
  a_soonest := a_soonest
  f_soonest := PySem.W.fnOf "soonest" "soonest" (defArgs s_soonest) (defBody s_soonest) (defScope s_soonest) .none kV_soonest dc_soonest pm_soonest an_soonest cd_soonest ct_soonest
  h_soonest := dn_mk X G i_soonest l_soonest c_soonest k_soonest fun _ _ _ _ _ _ us hl => match us, hl with | [_, _, _], _ => rfl
  a_check_chase := a_check_chase
  f_check_chase := PySem.W.fnOf "check_chase" "check_chase" (defArgs s_check_chase) (defBody s_check_chase) (defScope s_check_chase) .none kV_check_chase dc_check_chase pm_check_chase an_check_chase cd_check_chase ct_check_chase
  h_check_chase := dn_mk X G i_check_chase l_check_chase c_check_chase k_check_chase fun _ _ _ _ _ _ us hl => match us, hl with | [_, _, _, _], _ => rfl
  a_good_times := a_good_times
  f_good_times := PySem.W.fnOf "good_times" "good_times" (defArgs s_good_times) (defBody s_good_times) (defScope s_good_times) .none kV_good_times dc_good_times pm_good_times an_good_times cd_good_times ct_good_times
  h_good_times := dn_mk X G i_good_times l_good_times c_good_times k_good_times fun _ _ _ _ _ _ us hl => match us, hl with | [_, _, _, _], _ => rfl
  a_catch_times := a_catch_times
  f_catch_times := PySem.W.fnOf "catch_times" "catch_times" (defArgs s_catch_times) (defBody s_catch_times) (defScope s_catch_times) .none kV_catch_times dc_catch_times pm_catch_times an_catch_times cd_catch_times ct_catch_times
  h_catch_times := dn_mk X G i_catch_times l_catch_times c_catch_times k_catch_times fun _ _ _ _ _ _ us hl => match us, hl with | [_, _, _, _], _ => rfl
  a_where_caught := a_where_caught
  f_where_caught := PySem.W.fnOf "where_caught" "where_caught" (defArgs s_where_caught) (defBody s_where_caught) (defScope s_where_caught) .none kV_where_caught dc_where_caught pm_where_caught an_where_caught cd_where_caught ct_where_caught
  h_where_caught := dn_mk X G i_where_caught l_where_caught c_where_caught k_where_caught fun _ _ _ _ _ _ us hl => match us, hl with | [_, _, _, _], _ => rfl
  a__law_hand := a__law_hand
  f__law_hand := PySem.W.fnOf "_law_hand" "_law_hand" (defArgs s__law_hand) (defBody s__law_hand) (defScope s__law_hand) .none kV__law_hand dc__law_hand pm__law_hand an__law_hand cd__law_hand ct__law_hand
  h__law_hand := dn_mk X G i__law_hand l__law_hand c__law_hand k__law_hand fun _ _ _ _ _ _ us hl => match us, hl with | [_], _ => rfl
  a__law_draw := a__law_draw
  f__law_draw := PySem.W.fnOf "_law_draw" "_law_draw" (defArgs s__law_draw) (defBody s__law_draw) (defScope s__law_draw) .none kV__law_draw dc__law_draw pm__law_draw an__law_draw cd__law_draw ct__law_draw
  h__law_draw := dn_mk X G i__law_draw l__law_draw c__law_draw k__law_draw fun _ _ _ _ _ _ us hl => match us, hl with | [_, _], _ => rfl
  a__law_any := a__law_any
  f__law_any := PySem.W.fnOf "_law_any" "_law_any" (defArgs s__law_any) (defBody s__law_any) (defScope s__law_any) .none kV__law_any dc__law_any pm__law_any an__law_any cd__law_any ct__law_any
  h__law_any := dn_mk X G i__law_any l__law_any c__law_any k__law_any fun _ _ _ _ _ _ us hl => match us, hl with | [_, _], _ => rfl
  a__law_dot := a__law_dot
  f__law_dot := PySem.W.fnOf "_law_dot" "_law_dot" (defArgs s__law_dot) (defBody s__law_dot) (defScope s__law_dot) .none kV__law_dot dc__law_dot pm__law_dot an__law_dot cd__law_dot ct__law_dot
  h__law_dot := dn_mk X G i__law_dot l__law_dot c__law_dot k__law_dot fun _ _ _ _ _ _ us hl => match us, hl with | [_], _ => rfl
  a__law_up := a__law_up
  f__law_up := PySem.W.fnOf "_law_up" "_law_up" (defArgs s__law_up) (defBody s__law_up) (defScope s__law_up) .none kV__law_up dc__law_up pm__law_up an__law_up cd__law_up ct__law_up
  h__law_up := dn_mk X G i__law_up l__law_up c__law_up k__law_up fun _ _ _ _ _ _ us hl => match us, hl with | [_, _], _ => rfl
  a__law_side := a__law_side
  f__law_side := PySem.W.fnOf "_law_side" "_law_side" (defArgs s__law_side) (defBody s__law_side) (defScope s__law_side) .none kV__law_side dc__law_side pm__law_side an__law_side cd__law_side ct__law_side
  h__law_side := dn_mk X G i__law_side l__law_side c__law_side k__law_side fun _ _ _ _ _ _ us hl => match us, hl with | [_, _, _], _ => rfl
  a__law_is_right := a__law_is_right
  f__law_is_right := PySem.W.fnOf "_law_is_right" "_law_is_right" (defArgs s__law_is_right) (defBody s__law_is_right) (defScope s__law_is_right) .none kV__law_is_right dc__law_is_right pm__law_is_right an__law_is_right cd__law_is_right ct__law_is_right
  h__law_is_right := dn_mk X G i__law_is_right l__law_is_right c__law_is_right k__law_is_right fun _ _ _ _ _ _ us hl => match us, hl with | [_], _ => rfl
  a_law := a_law
  f_law := PySem.W.fnOf "law" "law" (defArgs s_law) (defBody s_law) (defScope s_law) .none kV_law dc_law pm_law an_law cd_law ct_law
  h_law := dn_mk X G i_law l_law c_law k_law fun _ _ _ _ _ _ us hl => match us, hl with | [_], _ => rfl
  z_isinstance := PySem.W.mg_none_of X G y_isinstance
  z_bool := PySem.W.mg_none_of X G y_bool
  z_int := PySem.W.mg_none_of X G y_int
  z_len := PySem.W.mg_none_of X G y_len
  z_tuple := PySem.W.mg_none_of X G y_tuple
  z_all := PySem.W.mg_none_of X G y_all
  z_abs := PySem.W.mg_none_of X G y_abs
  z_max := PySem.W.mg_none_of X G y_max
  z_range := PySem.W.mg_none_of X G y_range
  z_min := PySem.W.mg_none_of X G y_min
  z_repr := PySem.W.mg_none_of X G y_repr
  t_FARTHEST := u_FARTHEST
  c_FARTHEST := PySem.W.mg_of X G v_FARTHEST
  t_FASTEST := u_FASTEST
  c_FASTEST := PySem.W.mg_of X G v_FASTEST
  t_FASTEST_SHIP := u_FASTEST_SHIP
  c_FASTEST_SHIP := PySem.W.mg_of X G v_FASTEST_SHIP
  t_LAST := u_LAST
  c_LAST := PySem.W.mg_of X G v_LAST
theorem law_at {l : PySem.W.OpenLaw} {w : World} {h : Heap} {fa : Addr} (T : Txt K mg) (hf : ∀ (s : Shared) (u : Value), BindsTo s T.f_law ⟨[u], []⟩ [("script", u)]) (hfa : mg "law" = some (.ref fa))
    (hm : ∀ ns : List Int, ns.length ≤ 63 → (∀ z ∈ ns, Builtin.Int.intBits z ≤ 1048576) → mh (sd0 3 [.scr ns] default) fun y S => handed 3 bT_law { S with env := S.env.set 1 (.d y) }) : LawG l w K 8 63 "script" mg fa h := by
  have e := hfa.symm.trans T.h_law.G
  cases e
  exact ⟨T.f_law, [], fun p m => absurd m (by simp), fun p m => absurd m (by simp), fun p m => absurd m (by simp), hf, fun base _ _ _ => g_law (Tl := []) T hm⟩
end
end Law_k34

set_option Elab.async false
set_option linter.all false
set_option maxRecDepth 100000
set_option maxHeartbeats 1000000
set_option exponentiation.threshold 2000000
namespace Law_k34
open PySem DL
section
variable {ke : Str → Prop} {h : Hd} {k : D → Hd → Prop}
theorem is_integer_ok {i : Int} (H : k (.bool true) h) : fT_is_integer ke [.d (.int i)] h k := H
theorem is_within_ok {x lo hi : Int} (H : k (.bool (decide (lo ≤ x) && decide (x ≤ hi))) h) : fT_is_within ke [.d (.int x), .d (.int lo), .d (.int hi)] h k := by
  refine ⟨rfl, is_integer_ok ?_⟩
  refine br_d (fun a => ?_) (fun a => ?_)
  · rw [decide_eq_true a, Bool.true_and] at H; exact H
  · rw [decide_eq_false a, Bool.false_and] at H; exact H
theorem within_in {x lo hi : Int} (a : lo ≤ x ∧ x ≤ hi) (H : k (.bool true) h) : fT_is_within ke [.d (.int x), .d (.int lo), .d (.int hi)] h k := is_within_ok (by rw [decide_eq_true a.1, decide_eq_true a.2]; exact H)
theorem is_pair_ok {x y : D} (H : k (.bool true) h) : fT_is_tuple ke [.d (.tuple [x, y]), .d (.int 2), .d (.int 2)] h k := H
theorem draw_ok {m : Int} {b : Nat} (o : HdOk h (b + 1)) (hm : 0 < m ∧ m < 1000000000000000) (H : ∀ r h', 0 ≤ r → r < m → HdOk h' b → k (.int r) h') : fT__law_draw ke [.hand, .d (.int m)] h k :=
  drawA_ok (by unfold md; omega) (by unfold md; omega) (by unfold md; omega) (by unfold md; omega) (by omega) (by omega) (by unfold md; omega) (by unfold md; omega) (by unfold md; omega) (by unfold md; omega) (by unfold md; omega) (by unfold md; omega) (by unfold md; omega) (by unfold md; omega) o hm H
theorem any_ok {xs : List D} {b : Nat} (o : HdOk h (b + 1)) (hl : 0 < xs.length ∧ xs.length < 1000) (H : ∀ (x : D) h', x ∈ xs → HdOk h' b → k x h') : fT__law_any ke [.hand, .d (.list xs)] h k := by
  refine ⟨rfl, draw_ok o (by omega) fun r h' r0 r1 o' => ?_⟩
  obtain ⟨n, rfl⟩ : ∃ n : Nat, r = n := ⟨r.toNat, by omega⟩
  have hn : n < xs.length := by omega
  show gotD (xs[n]?) _
  rw [List.getElem?_eq_getElem hn]
  exact H _ h' (List.getElem_mem hn) o'
/-! dots, speeds -/
def dot (a b : Int) : D := .tuple [.int a, .int b]
def In (n a : Int) : Prop := -n ≤ a ∧ a ≤ n
theorem pair_in {n : Int} {E : List Sv} {a b : Int} {i : Nat} {lo hi : TD} {np : Nat} (ha : In n a) (hb : In n b) : True := trivial
theorem is_dot_ok {a b : Int} (ha : In 60 a) (hb : In 60 b) (H : k (.bool true) h) : fT_is_dot ke [.d (dot a b)] h k := by
  refine ⟨rfl, is_pair_ok ?_⟩
  refine ⟨rfl, within_in ⟨by have := ha.1; show (0 : Int) - 60 ≤ a; omega, ha.2⟩ ⟨rfl, ?_⟩⟩
  exact ⟨rfl, within_in ⟨by have := hb.1; show (0 : Int) - 60 ≤ b; omega, hb.2⟩ ⟨rfl, H⟩⟩
theorem check_dot_ok {a b : Int} (ha : In 60 a) (hb : In 60 b) (H : k .none h) : fT_check_dot ke [.d (dot a b)] h k := ⟨rfl, is_dot_ok ha hb H⟩
theorem check_speed_ok {v : Int} (hv : 1 ≤ v ∧ v ≤ 6) (H : k .none h) : fT_check_speed ke [.d (.int v)] h k := ⟨rfl, within_in hv H⟩
theorem check_chase_ok {a b x y c d v : Int} (ha : In 60 a) (hb : In 60 b) (hx : In 9 x) (hy : In 9 y) (hc : In 60 c) (hd : In 60 d) (hv : 1 ≤ v ∧ v ≤ 6) (H : k .none h) : fT_check_chase ke [.d (dot a b), .d (dot x y), .d (dot c d), .d (.int v)] h k := by
  refine ⟨rfl, check_dot_ok ha hb ?_⟩
  refine ⟨rfl, is_pair_ok ?_⟩
  refine ⟨rfl, within_in ⟨by have := hx.1; show (0 : Int) - 9 ≤ x; omega, hx.2⟩ ⟨rfl, ?_⟩⟩
  refine ⟨rfl, within_in ⟨by have := hy.1; show (0 : Int) - 9 ≤ y; omega, hy.2⟩ ⟨rfl, ?_⟩⟩
  exact ⟨rfl, check_dot_ok hc hd ⟨rfl, check_speed_ok hv H⟩⟩
/-! the good times -/
def pg (a b x y c d v : Int) (t : Int) : Bool := decide (maxI (absI (a + t * x - c)) (absI (b + t * y - d)) ≤ v * t)
def filt (p : Int → Bool) (n : Nat) : List Int := ((List.range n).map Int.ofNat).filter p
theorem filt_succ (p : Int → Bool) (n : Nat) : filt p (n + 1) = filt p n ++ (if p n then [(n : Int)] else []) := by
  unfold filt
  rw [List.range_succ, List.map_append, List.filter_append]
  congr 1
  show List.filter p [(n : Int)] = _
  by_cases c : p n = true
  · rw [List.filter_cons_of_pos c, if_pos c]; rfl
  · rw [List.filter_cons_of_neg c, if_neg c]; rfl
theorem filt_len (p : Int → Bool) (n : Nat) : (filt p n).length ≤ n := by
  unfold filt
  refine Nat.le_trans (List.length_filter_le _ _) ?_
  simp
theorem good_ok {a b x y c d v : Int} (ha : In 60 a) (hb : In 60 b) (hx : In 9 x) (hy : In 9 y) (hc : In 60 c) (hd : In 60 d) (hv : 1 ≤ v ∧ v ≤ 6) (H : k (.list ((filt (pg a b x y c d v) 401).map PyData.int)) h) :
    fT_good_times ke [.d (dot a b), .d (dot x y), .d (dot c d), .d (.int v)] h k := by
  obtain ⟨x1, x2⟩ := hx
  obtain ⟨y1, y2⟩ := hy
  refine ⟨rfl, ⟨by unfold fit62; decide, ?_⟩⟩
  refine for_inv (P := fun i S => i ≤ 401 ∧ ∃ s5 s6 s7, S = ⟨[.d (dot a b), .d (dot x y), .d (dot c d), .d (.int v), .own ((filt (pg a b x y c d v) i).map PyData.int), s5, s6, s7], h⟩) 0 ⟨by omega, .no, .no, .no, rfl⟩ ?_ ?_
  · rintro j S z K' ⟨hj, s5, s6, s7, rfl⟩ _ hz _ _ hn
    obtain ⟨rfl, hlt⟩ := rngL_get _ _ _ _ hz
    have hlt : j < 401 := by
      have e : ((400 : Int) + 1).toNat = 401 := by decide
      omega
    have et : (0 : Int) + ((j - 0 : Nat) : Int) = (j : Int) := by omega
    rw [et]
    refine ⟨⟨bt_s (by omega), bt_s (by omega)⟩, ⟨bt_s (by omega), bt_s (by omega)⟩, ⟨bt_s (by omega), bt_s (by omega)⟩, ?_⟩
    have hs := filt_succ (pg a b x y c d v) j
    have hl := filt_len (pg a b x y c d v) j
    refine br_d (fun q => ⟨rfl, big_of ?_, hn _ ⟨by omega, ?_⟩⟩) (fun q => ⟨rfl, big_of ?_, hn _ ⟨by omega, ?_⟩⟩)
    · rw [List.length_map]; show _ + 1 ≤ _; omega
    · have e : pg a b x y c d v j = true := decide_eq_true q
      rw [hs, if_pos e, List.map_append]; exact ⟨_, _, _, rfl⟩
    · rw [List.length_map]; show _ + 0 ≤ _; omega
    · have e : pg a b x y c d v j = false := decide_eq_false q
      rw [hs, e, if_neg Bool.false_ne_true, List.map_append]; exact ⟨_, _, _, rfl⟩
  · rintro S ⟨_, s5, s6, s7, rfl⟩
    rw [rngL_len]
    exact H
/-! intervals of times -/
abbrev O := Option (Int × Int)
def tup : O → D
  | none => .none
  | some (f, g) => .tuple [.int f, .int g]
structure Iv (p : Int → Bool) (o : O) : Prop where
  out : o = none → ∀ t, 0 ≤ t → t ≤ 400 → p t = false
  inn : ∀ f g, o = some (f, g) → (0 ≤ f ∧ f ≤ g ∧ g ≤ 400) ∧ ∀ t, 0 ≤ t → t ≤ 400 → (p t = true ↔ f ≤ t ∧ t ≤ g)
theorem filt_mem {p : Int → Bool} {n : Nat} {t : Int} : t ∈ filt p n ↔ (0 ≤ t ∧ t < n) ∧ p t = true := by
  unfold filt
  rw [List.mem_filter, List.mem_map]
  constructor
  · rintro ⟨⟨i, hi, rfl⟩, h⟩
    have := List.mem_range.mp hi
    exact ⟨⟨by show (0 : Int) ≤ (i : Int); omega, by show (i : Int) < n; omega⟩, h⟩
  · rintro ⟨⟨h1, h2⟩, h⟩
    exact ⟨⟨t.toNat, List.mem_range.mpr (by omega), by show ((t.toNat : Nat) : Int) = t; omega⟩, h⟩
theorem filt_up (p : Int → Bool) (n : Nat) : (filt p n).Pairwise (· < ·) := by
  unfold filt
  refine List.Pairwise.filter _ ?_
  rw [List.pairwise_map]
  exact List.pairwise_lt_range.imp fun h => by show (_ : Int) < _; exact Int.ofNat_lt.mpr h
theorem first_at : ∀ {l : List Int} {f : Int}, l.Pairwise (· < ·) → f ∈ l → (∀ t ∈ l, f ≤ t) → l[0]? = some f
  | [], _, _, h, _ => by simp at h
  | x :: l, f, h1, h2, h3 => by
    have h4 := h3 x List.mem_cons_self
    rcases List.mem_cons.mp h2 with e | e
    · rw [e]; rfl
    · have := (List.pairwise_cons.mp h1).1 f e
      omega
theorem last_at : ∀ {l : List Int} {g : Int}, l.Pairwise (· < ·) → g ∈ l → (∀ t ∈ l, t ≤ g) → l[l.length - 1]? = some g
  | [], _, _, h, _ => by simp at h
  | [x], g, h1, h2, h3 => by simp at h2; subst h2; rfl
  | x :: y :: l, g, h1, h2, h3 => by
    have h4 := List.pairwise_cons.mp h1
    have e : (x :: y :: l).length - 1 = (y :: l).length - 1 + 1 := by simp
    rw [e]
    refine last_at (l := y :: l) h4.2 ?_ fun t ht => h3 t (List.mem_cons_of_mem _ ht)
    rcases List.mem_cons.mp h2 with e | e
    · have := h4.1 y List.mem_cons_self
      have := h3 y (List.mem_cons_of_mem _ List.mem_cons_self)
      omega
    · exact e
theorem iv_none {p : Int → Bool} (h : Iv p none) : filt p 401 = [] := by
  refine List.eq_nil_iff_forall_not_mem.mpr fun t ht => ?_
  obtain ⟨⟨h1, h2⟩, h3⟩ := filt_mem.mp ht
  rw [h.out rfl t h1 (by omega)] at h3
  cases h3
theorem iv_some {p : Int → Bool} {f g : Int} (h : Iv p (some (f, g))) : (filt p 401)[0]? = some f ∧ (filt p 401)[(filt p 401).length - 1]? = some g ∧ 0 < (filt p 401).length := by
  obtain ⟨⟨h1, h2, h3⟩, h4⟩ := h.inn f g rfl
  have mf : f ∈ filt p 401 := filt_mem.mpr ⟨⟨h1, by omega⟩, (h4 f h1 (by omega)).mpr ⟨by omega, h2⟩⟩
  have mg : g ∈ filt p 401 := filt_mem.mpr ⟨⟨by omega, by omega⟩, (h4 g (by omega) h3).mpr ⟨h2, by omega⟩⟩
  have all : ∀ t ∈ filt p 401, f ≤ t ∧ t ≤ g := fun t ht => by
    obtain ⟨⟨a1, a2⟩, a3⟩ := filt_mem.mp ht
    exact (h4 t a1 (by omega)).mp a3
  exact ⟨first_at (filt_up p 401) mf fun t ht => (all t ht).1, last_at (filt_up p 401) mg fun t ht => (all t ht).2, List.length_pos_of_mem mf⟩
theorem catch_ok {a b x y c d v : Int} {o : O} (ha : In 60 a) (hb : In 60 b) (hx : In 9 x) (hy : In 9 y) (hc : In 60 c) (hd : In 60 d) (hv : 1 ≤ v ∧ v ≤ 6) (ho : Iv (pg a b x y c d v) o) (H : k (tup o) h) :
    fT_catch_times ke [.d (dot a b), .d (dot x y), .d (dot c d), .d (.int v)] h k := by
  refine ⟨rfl, check_chase_ok ha hb hx hy hc hd hv ⟨rfl, good_ok ha hb hx hy hc hd hv ?_⟩⟩
  cases o with
  | none => rw [iv_none ho]; exact H
  | some fg =>
    obtain ⟨f, g⟩ := fg
    obtain ⟨e1, e2, e3⟩ := iv_some ho
    generalize filt (pg a b x y c d v) 401 = l at e1 e2 e3
    refine br_d (fun _ => ?_) (fun q => ?_)
    · show gotD ((l.map PyData.int)[0]?) _
      rw [List.getElem?_map, e1]
      show gotD (if 0 + 1 ≤ (l.map PyData.int).length then (l.map PyData.int)[(l.map PyData.int).length - (0 + 1)]? else none) _
      rw [List.length_map, if_pos (by omega), List.getElem?_map, e2]
      exact ⟨rfl, H⟩
    · exact absurd (show (0 : Int) < ((l.map PyData.int).length : Int) by rw [List.length_map]; omega) q
theorem where_ok {a b x y c d v : Int} {o : O} (ha : In 60 a) (hb : In 60 b) (hx : In 9 x) (hy : In 9 y) (hc : In 60 c) (hd : In 60 d) (hv : 1 ≤ v ∧ v ≤ 6) (ho : Iv (pg a b x y c d v) o) (H : k (match o with | none => .none | some (f, _) => dot (a + f * x) (b + f * y)) h) :
    fT_where_caught ke [.d (dot a b), .d (dot x y), .d (dot c d), .d (.int v)] h k := by
  refine ⟨rfl, check_chase_ok ha hb hx hy hc hd hv ⟨rfl, good_ok ha hb hx hy hc hd hv ?_⟩⟩
  cases o with
  | none => rw [iv_none ho]; exact H
  | some fg =>
    obtain ⟨f, g⟩ := fg
    obtain ⟨e1, e2, e3⟩ := iv_some ho
    obtain ⟨⟨h1, h2, h3⟩, _⟩ := ho.inn f g rfl
    obtain ⟨x1, x2⟩ := hx
    obtain ⟨y1, y2⟩ := hy
    generalize filt (pg a b x y c d v) 401 = l at e1 e2 e3
    refine br_d (fun _ => ?_) (fun q => ?_)
    · show gotD ((l.map PyData.int)[0]?) _
      rw [List.getElem?_map, e1]
      refine ⟨⟨bt_s (by omega), bt_s (by omega)⟩, ?_⟩
      show gotD ((l.map PyData.int)[0]?) _
      rw [List.getElem?_map, e1]
      exact ⟨⟨bt_s (by omega), bt_s (by omega)⟩, rfl, H⟩
    · exact absurd (show (0 : Int) < ((l.map PyData.int).length : Int) by rw [List.length_map]; omega) q
/-! one axis -/
def p1 (off w v : Int) (t : Int) : Bool := decide (absI (off + t * w) ≤ v * t)
theorem abs_le {x m : Int} : absI x ≤ m ↔ x ≤ m ∧ -x ≤ m := by unfold absI; split <;> omega
theorem max_le' {x y m : Int} : maxI x y ≤ m ↔ x ≤ m ∧ y ≤ m := by unfold maxI; split <;> omega
theorem pg_iff {a b x y c d v t : Int} : pg a b x y c d v t = true ↔ p1 (a - c) x v t = true ∧ p1 (b - d) y v t = true := by
  unfold pg p1
  rw [decide_eq_true_iff, decide_eq_true_iff, decide_eq_true_iff, max_le', show a + t * x - c = a - c + t * x by omega, show b + t * y - d = b - d + t * y by omega]
theorem p1_iff {off w v t : Int} : p1 off w v t = true ↔ off ≤ (v - w) * t ∧ 0 - off ≤ (v + w) * t := by
  unfold p1
  rw [decide_eq_true_iff, abs_le, Int.sub_mul, Int.add_mul, Int.mul_comm t w]
  omega
def upI (n by_ : Int) : Int := (n + by_ - 1) / by_
theorem up_ok {n m : Int} (hm : 0 < m ∧ m < 1000) (H : k (.int (upI n m)) h) : fT__law_up ke [.d (.int n), .d (.int m)] h k := by
  refine ⟨⟨by omega, l9 (by omega)⟩, ?_⟩
  have e : fdvI (n + m - 1) m = upI n m := fdv_pos hm.1
  show k (.int (fdvI (n + m - 1) m)) h
  rw [e]; exact H
theorem up_le {n m t : Int} (hm : 0 < m) : upI n m ≤ t ↔ n ≤ m * t := by
  unfold upI
  rw [← Int.lt_add_one_iff, Int.ediv_lt_iff_lt_mul hm, Int.add_mul, Int.mul_comm t m]
  omega
def stp (s : Int × Int) (far by_ : Int) : O := if 0 < by_ then some (maxI s.1 (upI far by_), s.2) else if by_ = 0 ∧ 0 < far then none else if by_ < 0 then some (s.1, minI s.2 (fdvI far by_)) else some s
theorem stp_iff {s : Int × Int} {far by_ : Int} : (stp s far by_ = none → ∀ t, ¬ far ≤ by_ * t) ∧ ∀ s', stp s far by_ = some s' → ∀ t, (s'.1 ≤ t ∧ t ≤ s'.2) ↔ (s.1 ≤ t ∧ t ≤ s.2) ∧ far ≤ by_ * t := by
  unfold stp
  by_cases c1 : 0 < by_
  · rw [if_pos c1]
    refine ⟨fun e => (nomatch e), fun s' e t => ?_⟩
    cases e
    rw [show maxI s.1 (upI far by_) ≤ t ↔ s.1 ≤ t ∧ upI far by_ ≤ t from max_le', up_le c1]
    constructor
    · rintro ⟨⟨a, b⟩, c⟩; exact ⟨⟨a, c⟩, b⟩
    · rintro ⟨⟨a, b⟩, c⟩; exact ⟨⟨a, c⟩, b⟩
  · rw [if_neg c1]
    by_cases c2 : by_ = 0 ∧ 0 < far
    · rw [if_pos c2]
      refine ⟨fun _ t => ?_, fun s' e => (nomatch e)⟩
      rw [c2.1, Int.zero_mul]; omega
    · rw [if_neg c2]
      by_cases c3 : by_ < 0
      · rw [if_pos c3]
        refine ⟨fun e => (nomatch e), fun s' e t => ?_⟩
        cases e
        have e1 : fdvI far by_ = (-far) / (-by_) := by unfold fdvI; rw [if_pos c3]
        have e2 : t ≤ fdvI far by_ ↔ far ≤ by_ * t := by
          rw [e1, Int.le_ediv_iff_mul_le (by omega : 0 < -by_), Int.mul_neg, Int.mul_comm t by_]
          omega
        have e3 : t ≤ minI s.2 (fdvI far by_) ↔ t ≤ s.2 ∧ t ≤ fdvI far by_ := by unfold minI; split <;> omega
        show s.1 ≤ t ∧ t ≤ minI s.2 (fdvI far by_) ↔ _
        rw [e3, e2]
        constructor
        · rintro ⟨a, b, c⟩; exact ⟨⟨a, b⟩, c⟩
        · rintro ⟨⟨a, b⟩, c⟩; exact ⟨a, b, c⟩
      · rw [if_neg c3]
        refine ⟨fun e => (nomatch e), fun s' e t => ?_⟩
        cases e
        have e0 : by_ = 0 := by omega
        subst e0
        rw [Int.zero_mul]
        constructor
        · intro q; exact ⟨q, by omega⟩
        · intro q; exact q.1
def sideO (off w v : Int) : O := match stp (0, 400) off (v - w) with
  | none => none
  | some s => match stp s (0 - off) (v + w) with
    | none => none
    | some s => if s.1 ≤ s.2 then some s else none
theorem side_iv (off w v : Int) : Iv (p1 off w v) (sideO off w v) := by
  have a := stp_iff (s := (0, 400)) (far := off) (by_ := v - w)
  unfold sideO
  cases e1 : stp (0, 400) off (v - w) with
  | none =>
    refine ⟨fun _ t h0 h1 => ?_, fun f g e => (nomatch e)⟩
    cases q : p1 off w v t with
    | false => rfl
    | true => exact absurd (p1_iff.mp q).1 (a.1 e1 t)
  | some s =>
    have a2 := a.2 s e1
    have b := stp_iff (s := s) (far := 0 - off) (by_ := v + w)
    show Iv _ (match stp s (0 - off) (v + w) with
      | none => none
      | some s => if s.1 ≤ s.2 then some s else none)
    cases e2 : stp s (0 - off) (v + w) with
    | none =>
      refine ⟨fun _ t h0 h1 => ?_, fun f g e => (nomatch e)⟩
      cases q : p1 off w v t with
      | false => rfl
      | true => exact absurd (p1_iff.mp q).2 (b.1 e2 t)
    | some s' =>
      have b2 := b.2 s' e2
      have key : ∀ t, 0 ≤ t → t ≤ 400 → (p1 off w v t = true ↔ s'.1 ≤ t ∧ t ≤ s'.2) := fun t h0 h1 => by
        rw [b2 t, a2 t, p1_iff]
        constructor
        · rintro ⟨x, y⟩; exact ⟨⟨⟨h0, h1⟩, x⟩, y⟩
        · rintro ⟨⟨_, x⟩, y⟩; exact ⟨x, y⟩
      show Iv _ (if s'.1 ≤ s'.2 then some s' else none)
      by_cases c : s'.1 ≤ s'.2
      · rw [if_pos c]
        have r1 := (b2 s'.1).mp ⟨Int.le_refl _, c⟩
        have r2 := (b2 s'.2).mp ⟨c, Int.le_refl _⟩
        have q1 := ((a2 s'.1).mp r1.1).1
        have q2 := ((a2 s'.2).mp r2.1).1
        refine ⟨fun e => (nomatch e), fun f g e => ?_⟩
        cases e
        exact ⟨⟨q1.1, c, q2.2⟩, key⟩
      · rw [if_neg c]
        refine ⟨fun _ t h0 h1 => ?_, fun f g e => (nomatch e)⟩
        cases q : p1 off w v t with
        | false => rfl
        | true => have := (key t h0 h1).mp q; omega
theorem side_turn {E1 E2 E3 : Sv} {f g far by_ : Int} {K : Es} (hb : -1000 < by_ ∧ by_ < 1000) (h0 : stp (f, g) far by_ = none → K.rt .none ⟨[E1, E2, E3, .d (.int f), .d (.int g), .d (.int far), .d (.int by_)], h⟩)
    (h1 : ∀ s, stp (f, g) far by_ = some s → K.nx ⟨[E1, E2, E3, .d (.int s.1), .d (.int s.2), .d (.int far), .d (.int by_)], h⟩) : l__law_side_1 ke ⟨[E1, E2, E3, .d (.int f), .d (.int g), .d (.int far), .d (.int by_)], h⟩ K := by
  refine br_d (fun c => ?_) (fun c => ?_)
  · refine ⟨rfl, up_ok ⟨c, hb.2⟩ ?_⟩
    exact h1 _ (if_pos c)
  · have e1 : stp (f, g) far by_ = if by_ = 0 ∧ 0 < far then none else if by_ < 0 then some (f, minI g (fdvI far by_)) else some (f, g) := if_neg c
    have out : ¬ (by_ = 0 ∧ 0 < far) → br (decide (by_ < 0)) (mSet 4 (mB (int2D minI) (mCons (mVar 4) (mCons (mOp fdvD (mVar 5) (mVar 6)) mNil))) ⟨[E1, E2, E3, .d (.int f), .d (.int g), .d (.int far), .d (.int by_)], h⟩ K) (K.nx ⟨[E1, E2, E3, .d (.int f), .d (.int g), .d (.int far), .d (.int by_)], h⟩) := fun n => by
      rw [if_neg n] at e1
      refine br_d (fun d => ?_) (fun d => ?_)
      · refine ⟨⟨by omega, l9 (by omega)⟩, ?_⟩
        exact h1 (f, minI g (fdvI far by_)) (by rw [e1, if_pos d])
      · exact h1 (f, g) (by rw [e1, if_neg d])
    refine br_b (b := by_ == 0) (fun d => ?_) (fun d => out fun n => ?_)
    · have d : by_ = 0 := by simpa using d
      refine br_d (fun e => ?_) (fun e => out fun n => e n.2)
      exact h0 (by rw [e1, if_pos ⟨d, e⟩])
    · rw [n.1] at d; cases d
theorem side_ok {off w v : Int} (ho : -1000 < off ∧ off < 1000) (hw : In 9 w) (hv : 1 ≤ v ∧ v ≤ 6) (H : k (tup (sideO off w v)) h) : fT__law_side ke [.d (.int off), .d (.int w), .d (.int v)] h k := by
  obtain ⟨w1, w2⟩ := hw
  refine ⟨rfl, rfl, rfl, rfl, rfl, rfl, ?_⟩
  unfold sideO at H
  refine side_turn (by omega) (fun e => ?_) (fun s e => ?_)
  · rw [e] at H; exact H
  · rw [e] at H
    refine ⟨rfl, side_turn (by omega) (fun e => ?_) (fun s' e => ?_)⟩
    · have H : k (tup (match stp s (0 - off) (v + w) with
        | none => none
        | some s => if s.1 ≤ s.2 then some s else none)) h := H
      rw [e] at H; exact H
    · have H : k (tup (match stp s (0 - off) (v + w) with
        | none => none
        | some s => if s.1 ≤ s.2 then some s else none)) h := H
      rw [e] at H
      have H : k (tup (if s'.1 ≤ s'.2 then some s' else none)) h := H
      refine br_d (fun c => ⟨rfl, ?_⟩) (fun c => ?_)
      · rw [if_pos c] at H; exact H
      · rw [if_neg c] at H; exact H
/-! the law's turn -/
theorem dotd_ok {b : Nat} (o : HdOk h (b + 3)) (H : ∀ x y h', In 60 x → In 60 y → HdOk h' b → k (dot x y) h') : fT__law_dot ke [.hand] h k := by
  refine ⟨rfl, rfl, any_ok (b := b + 2) o ⟨by decide, by decide⟩ fun w h1 hw o1 => ?_⟩
  obtain ⟨n, rfl, hn⟩ : ∃ n : Int, w = .int n ∧ 0 ≤ n ∧ n ≤ 60 := by
    simp only [List.mem_cons, List.not_mem_nil, or_false] at hw
    rcases hw with rfl | rfl | rfl | rfl <;> exact ⟨_, rfl, by decide⟩
  refine ⟨⟨bt_s (by omega), bt_s (by omega)⟩, rfl, draw_ok (b := b + 1) o1 (by omega) fun r h2 r0 r1 o2 => ?_⟩
  refine ⟨⟨bt_s (by omega), bt_s (by omega)⟩, rfl, draw_ok (b := b) o2 (by omega) fun q h3 q0 q1 o3 => ?_⟩
  exact ⟨rfl, H (r - n) (q - n) h3 ⟨by omega, by omega⟩ ⟨by omega, by omega⟩ o3⟩
def bothO : O → O → O
  | some (f, g), some (f', g') => if maxI f f' ≤ minI g g' then some (maxI f f', minI g g') else none
  | _, _ => none
theorem both_iv {p q r : Int → Bool} {o o' : O} (ho : Iv p o) (ho' : Iv q o') (e : ∀ t, 0 ≤ t → t ≤ 400 → (r t = true ↔ p t = true ∧ q t = true)) : Iv r (bothO o o') := by
  have off : (∀ t, 0 ≤ t → t ≤ 400 → ¬ (p t = true ∧ q t = true)) → Iv r none := fun n => ⟨fun _ t h0 h1 => by
    cases z : r t with
    | false => rfl
    | true => exact absurd ((e t h0 h1).mp z) (n t h0 h1), fun f g z => (nomatch z)⟩
  match o, o', ho, ho' with
  | none, _, ho, _ => exact off fun t h0 h1 z => by rw [ho.out rfl t h0 h1] at z; exact Bool.false_ne_true z.1
  | some _, none, _, ho' => exact off fun t h0 h1 z => by rw [ho'.out rfl t h0 h1] at z; exact Bool.false_ne_true z.2
  | some (f, g), some (f', g'), ho, ho' =>
    obtain ⟨a1, a2⟩ := ho.inn f g rfl
    obtain ⟨b1, b2⟩ := ho'.inn f' g' rfl
    have m1 : ∀ t, maxI f f' ≤ t ↔ f ≤ t ∧ f' ≤ t := fun t => max_le'
    have m2 : ∀ t, t ≤ minI g g' ↔ t ≤ g ∧ t ≤ g' := fun t => by unfold minI; split <;> omega
    have key : ∀ t, 0 ≤ t → t ≤ 400 → (r t = true ↔ maxI f f' ≤ t ∧ t ≤ minI g g') := fun t h0 h1 => by
      rw [e t h0 h1, a2 t h0 h1, b2 t h0 h1, m1, m2]
      constructor
      · rintro ⟨⟨x, y⟩, z, w⟩; exact ⟨⟨x, z⟩, y, w⟩
      · rintro ⟨⟨x, z⟩, y, w⟩; exact ⟨⟨x, y⟩, z, w⟩
    show Iv r (if maxI f f' ≤ minI g g' then some (maxI f f', minI g g') else none)
    by_cases c : maxI f f' ≤ minI g g'
    · rw [if_pos c]
      refine ⟨fun z => (nomatch z), fun f1 g1 z => ?_⟩
      cases z
      have x1 := (m1 (maxI f f')).mp (Int.le_refl _)
      have x2 := (m2 (minI g g')).mp (Int.le_refl _)
      exact ⟨⟨by omega, c, by omega⟩, key⟩
    · rw [if_neg c]
      refine ⟨fun _ t h0 h1 => ?_, fun f1 g1 z => (nomatch z)⟩
      cases z : r t with
      | false => rfl
      | true => have := (key t h0 h1).mp z; omega
theorem Iv.of {p q : Int → Bool} {o : O} (ho : Iv p o) (e : ∀ t, 0 ≤ t → t ≤ 400 → (q t = true ↔ p t = true)) : Iv q o :=
  ⟨fun z t h0 h1 => by
    cases y : q t with
    | false => rfl
    | true => exact absurd ((e t h0 h1).mp y) (by rw [ho.out z t h0 h1]; exact Bool.false_ne_true), fun f g z => ⟨(ho.inn f g z).1, fun t h0 h1 => (e t h0 h1).trans ((ho.inn f g z).2 t h0 h1)⟩⟩
theorem repr_of {x : D} (h : x.showable = true) (h2 : ((rw' x).ble 1000000 && x.depth.ble 60 && !x.hasDict) = true) : reprOk x = true := by
  unfold reprOk
  rw [h, Bool.true_and]; exact h2
theorem shown_tup {p : Int → Bool} {o : O} (ho : Iv p o) : (tup o).showable = true := by
  cases o with
  | none => rfl
  | some fg =>
    obtain ⟨f, g⟩ := fg
    obtain ⟨⟨a, b, c⟩, _⟩ := ho.inn f g rfl
    show (decide (f.natAbs.log2 < 1920) && (decide (g.natAbs.log2 < 1920) && true)) = true
    rw [l19 (by omega), l19 (by omega)]; rfl
theorem repr_tup {p : Int → Bool} {o : O} (ho : Iv p o) : reprOk (tup o) = true := by
  refine repr_of (shown_tup ho) ?_
  cases o with
  | none => rfl
  | some fg => rfl
theorem repr_two {p q : Int → Bool} {o o' : O} (ho : Iv p o) (ho' : Iv q o') : reprOk (.list [tup o, tup o']) = true := by
  refine repr_of ?_ ?_
  · show ((tup o).showable && ((tup o').showable && true)) = true
    rw [shown_tup ho, shown_tup ho']; rfl
  · cases o <;> cases o' <;> rfl
/-- catch_times that is told again -/
theorem again {a b x y c d v : Int} {p : Int → Bool} {o : O} (ha : In 60 a) (hb : In 60 b) (hx : In 9 x) (hy : In 9 y) (hc : In 60 c) (hd : In 60 d) (hv : 1 ≤ v ∧ v ≤ 6) (ho : Iv p o) (e : ∀ t, 0 ≤ t → t ≤ 400 → (pg a b x y c d v t = true ↔ p t = true)) (H : k (tup o) h) :
    fT_catch_times ke [.d (dot a b), .d (dot x y), .d (dot c d), .d (.int v)] h k := catch_ok ha hb hx hy hc hd hv (ho.of e) H
theorem mul_in {f x n m : Int} (hf : 0 ≤ f ∧ f ≤ n) (hx : In m x) (hm : 0 ≤ m) : -(n * m) ≤ f * x ∧ f * x ≤ n * m := by
  have a1 : f * x ≤ f * m := Int.mul_le_mul_of_nonneg_left hx.2 hf.1
  have a2 : f * (-m) ≤ f * x := Int.mul_le_mul_of_nonneg_left hx.1 hf.1
  have a3 : f * m ≤ n * m := Int.mul_le_mul_of_nonneg_right hf.2 hm
  rw [Int.mul_neg] at a2
  omega
theorem soonest_ok {a b c d v : Int} (ha : In 60 a) (hb : In 60 b) (hc : In 60 c) (hd : In 60 d) (hv : 1 ≤ v ∧ v ≤ 6) (H : k (.int (upI (maxI (absI (a - c)) (absI (b - d))) v)) h) : fT_soonest ke [.d (dot a b), .d (dot c d), .d (.int v)] h k := by
  refine ⟨rfl, check_dot_ok ha hb ⟨rfl, check_dot_ok hc hd ⟨rfl, check_speed_ok hv ⟨rfl, ⟨by omega, l9 (by omega)⟩, ?_⟩⟩⟩⟩
  have e : fdvI (maxI (absI (a - c)) (absI (b - d)) + v - 1) v = upI (maxI (absI (a - c)) (absI (b - d))) v := fdv_pos (by omega)
  show k (.int (fdvI (maxI (absI (a - c)) (absI (b - d)) + v - 1) v)) h
  rw [e]; exact H
theorem still_iv {a b c d v : Int} (ha : In 60 a) (hb : In 60 b) (hc : In 60 c) (hd : In 60 d) (hv : 1 ≤ v ∧ v ≤ 6) : Iv (pg a b 0 0 c d v) (some (upI (maxI (absI (a - c)) (absI (b - d))) v, 400)) := by
  have b1 : maxI (absI (a - c)) (absI (b - d)) ≤ 120 := by
    rw [max_le', abs_le, abs_le]
    obtain ⟨_, _⟩ := ha; obtain ⟨_, _⟩ := hb; obtain ⟨_, _⟩ := hc; obtain ⟨_, _⟩ := hd
    omega
  have b0 : 0 ≤ maxI (absI (a - c)) (absI (b - d)) := by
    have : 0 ≤ absI (a - c) := by unfold absI; split <;> omega
    unfold maxI; split <;> omega
  have up : ∀ t, upI (maxI (absI (a - c)) (absI (b - d))) v ≤ t ↔ maxI (absI (a - c)) (absI (b - d)) ≤ v * t := fun t => up_le (by omega)
  refine ⟨fun z => (nomatch z), fun f g z => ?_⟩
  cases z
  refine ⟨⟨?_, (up 400).mpr (by omega), by omega⟩, fun t h0 h1 => ?_⟩
  · unfold upI
    exact Int.ediv_nonneg (by omega) (by omega)
  · rw [up t]
    unfold pg
    rw [decide_eq_true_iff, Int.mul_zero, Int.add_zero, Int.add_zero]
    omega
theorem eqv_pair {m n : Int} : PyData.eqv (.tuple [.int m, .int n]) (.tuple [.int m, .int n]) = true := by
  show ((m == m) && ((n == n) && true)) = true
  simp
theorem p1_zero {v t : Int} (hv : 1 ≤ v) (ht : 0 ≤ t) : p1 (0 - 0) 0 v t = true := by
  have := Int.mul_nonneg (show 0 ≤ v by omega) ht
  rw [p1_iff]
  simp only [Int.sub_zero, Int.add_zero]
  omega
theorem p1_flip {off off' w w' v t : Int} (e : off' = -off) (e2 : w' = -w) : p1 off' w' v t = true ↔ p1 off w v t = true := by
  subst e; subst e2
  rw [p1_iff, p1_iff, show v - -w = v + w by omega, show v + -w = v - w by omega]
  omega
section
variable {a b x y c d v : Int} {dr : D}
theorem right_fin {o : O} {sd ow : Sv} (ha : In 60 a) (hb : In 60 b) (hx : In 9 x) (hy : In 9 y) (hc : In 60 c) (hd : In 60 d) (hv : 1 ≤ v ∧ v ≤ 6) (ho : Iv (pg a b x y c d v) o) (H : k (.bool true) h) :
    q__law_is_right_10 ke ⟨[.hand, .d (dot a b), .d (dot c d), .d (.int v), .d dr, .d (dot x y), .d (tup o), sd, ow, .d (tup o), .no, .no], h⟩ (endK k) := by
  have na : ∀ {z n : Int}, In n z → In n (0 - z) := fun q => by obtain ⟨q1, q2⟩ := q; exact ⟨by omega, by omega⟩
  refine ⟨repr_tup ho, repr_tup ho, ne_txt ?_⟩
  refine ⟨rfl, where_ok ha hb hx hy hc hd hv ho ?_⟩
  have next : ∀ pl : Sv, q__law_is_right_13 ke ⟨[.hand, .d (dot a b), .d (dot c d), .d (.int v), .d dr, .d (dot x y), .d (tup o), sd, ow, .d (tup o), pl, .no], h⟩ (endK k) := fun pl => by
    refine ⟨rfl, rfl, rfl, rfl, again hb ha hy hx hd hc hv ho (fun t _ _ => ?_) ⟨repr_tup ho, repr_tup ho, ne_txt ?_⟩⟩
    · rw [pg_iff, pg_iff]; exact And.comm
    refine ⟨rfl, rfl, rfl, rfl, again (na ha) hb (na hx) hy (na hc) hd hv ho (fun t _ _ => ?_) ⟨repr_tup ho, repr_tup ho, ne_txt ?_⟩⟩
    · rw [pg_iff, pg_iff, p1_flip (off := a - c) (w := x) (by omega) (by omega)]
    refine ⟨rfl, rfl, again hc hd (na hx) (na hy) ha hb hv ho (fun t _ _ => ?_) ⟨repr_tup ho, repr_tup ho, ne_txt ?_⟩⟩
    · rw [pg_iff, pg_iff, p1_flip (off := a - c) (off' := c - a) (w := x) (w' := 0 - x) (by omega) (by omega), p1_flip (off := b - d) (off' := d - b) (w := y) (w' := 0 - y) (by omega) (by omega)]
    refine ⟨rfl, rfl, catch_ok ha hb ⟨by omega, by omega⟩ ⟨by omega, by omega⟩ hc hd hv (still_iv ha hb hc hd hv) ⟨rfl, soonest_ok ha hb hc hd hv ⟨rfl, rfl, ?_⟩⟩⟩
    have e : PyData.eqv (tup (some (upI (maxI (absI (a - c)) (absI (b - d))) v, 400))) (.tuple [.int (upI (maxI (absI (a - c)) (absI (b - d))) v), .int 400]) = true := eqv_pair
    show k (.bool (PyData.eqv _ _)) h
    rw [e]; exact H
  cases o with
  | none => exact ⟨rfl, rfl, ne_txt (next _)⟩
  | some fg =>
    obtain ⟨f, g⟩ := fg
    obtain ⟨⟨f0, f1, f2⟩, _⟩ := ho.inn f g rfl
    have m1 := mul_in (n := 400) ⟨f0, by omega⟩ hx (by decide)
    have m2 := mul_in (n := 400) ⟨f0, by omega⟩ hy (by decide)
    have rd : reprOk (dot (a + f * x) (b + f * y)) = true := by
      obtain ⟨_, _⟩ := ha; obtain ⟨_, _⟩ := hb
      refine repr_of ?_ rfl
      show (decide ((a + f * x).natAbs.log2 < 1920) && (decide ((b + f * y).natAbs.log2 < 1920) && true)) = true
      rw [l19 (by omega), l19 (by omega)]; rfl
    obtain ⟨_, _⟩ := hx; obtain ⟨_, _⟩ := hy
    exact ⟨rd, ⟨bt_s (by omega), bt_s (by omega)⟩, ⟨bt_s (by omega), bt_s (by omega)⟩, rfl, rd, ne_txt (next _)⟩
theorem right_mid {o1 o2 : O} {sd : Sv} (ha : In 60 a) (hb : In 60 b) (hx : In 9 x) (hy : In 9 y) (hc : In 60 c) (hd : In 60 d) (hv : 1 ≤ v ∧ v ≤ 6) (i1 : Iv (p1 (a - c) x v) o1) (i2 : Iv (p1 (b - d) y v) o2) (H : k (.bool true) h) :
    q__law_is_right_9 ke ⟨[.hand, .d (dot a b), .d (dot c d), .d (.int v), .d dr, .d (dot x y), .d (tup (bothO o1 o2)), sd, .d (.list [tup o1, tup o2]), .d .none, .no, .no], h⟩ (endK k) := by
  have fin := fun sd ow => right_fin (ke := ke) (dr := dr) (sd := sd) (ow := ow) ha hb hx hy hc hd hv (both_iv i1 i2 fun t _ _ => pg_iff) H
  match o1, o2, fin with
  | none, none, fin => exact ⟨rfl, fin _ _⟩
  | none, some (f, g), fin => exact ⟨rfl, fin _ _⟩
  | some (f, g), none, fin => exact ⟨rfl, fin _ _⟩
  | some (f, g), some (f', g'), fin =>
    refine ⟨rfl, ?_⟩
    have fin : ∀ sd ow : Sv, q__law_is_right_10 ke ⟨[.hand, .d (dot a b), .d (dot c d), .d (.int v), .d dr, .d (dot x y), .d (tup (if maxI f f' ≤ minI g g' then some (maxI f f', minI g g') else none)), sd, ow, .d (tup (if maxI f f' ≤ minI g g' then some (maxI f f', minI g g') else none)), .no, .no], h⟩ (endK k) := fin
    show br (decide (maxI f f' ≤ minI g g')) _ (q__law_is_right_10 ke ⟨[.hand, .d (dot a b), .d (dot c d), .d (.int v), .d dr, .d (dot x y), .d (tup (if maxI f f' ≤ minI g g' then some (maxI f f', minI g g') else none)), _, _, .d .none, .no, .no], h⟩ (endK k))
    refine br_d (fun q => ⟨rfl, ?_⟩) (fun q => ?_)
    · rw [if_pos q] at fin
      show q__law_is_right_10 ke ⟨[.hand, .d (dot a b), .d (dot c d), .d (.int v), .d dr, .d (dot x y), .d (tup (if maxI f f' ≤ minI g g' then some (maxI f f', minI g g') else none)), _, _, .d (.tuple [.int (maxI f f'), .int (minI g g')]), .no, .no], h⟩ (endK k)
      rw [if_pos q]
      exact fin _ _
    · rw [if_neg q] at fin ⊢
      exact fin _ _
theorem right_core (ha : In 60 a) (hb : In 60 b) (hx : In 9 x) (hy : In 9 y) (hc : In 60 c) (hd : In 60 d) (hv : 1 ≤ v ∧ v ≤ 6) (H : k (.bool true) h) :
    q__law_is_right_3 ke ⟨[.hand, .d (dot a b), .d (dot c d), .d (.int v), .d dr, .d (dot x y), .no, .no, .no, .no, .no, .no], h⟩ (endK k) := by
  have i1 := side_iv (a - c) x v
  have i2 := side_iv (b - d) y v
  have z60 : In 60 0 := ⟨by decide, by decide⟩
  have z9 : In 9 0 := ⟨by decide, by decide⟩
  refine ⟨rfl, catch_ok ha hb hx hy hc hd hv (both_iv i1 i2 fun t _ _ => pg_iff) ?_⟩
  refine ⟨rfl, rfl, rfl, rfl, again ha z60 hx z9 hc z60 hv i1 (fun t h0 _ => ?_) ⟨rfl, ?_⟩⟩
  · rw [pg_iff]; exact ⟨fun q => q.1, fun q => ⟨q, p1_zero hv.1 h0⟩⟩
  refine ⟨rfl, rfl, rfl, rfl, again z60 hb z9 hy z60 hd hv i2 (fun t h0 _ => ?_) ⟨rfl, ?_⟩⟩
  · rw [pg_iff]; exact ⟨fun q => q.2, fun q => ⟨p1_zero hv.1 h0, q⟩⟩
  have d1 : -1000 < a - c ∧ a - c < 1000 := by obtain ⟨_, _⟩ := ha; obtain ⟨_, _⟩ := hc; omega
  have d2 : -1000 < b - d ∧ b - d < 1000 := by obtain ⟨_, _⟩ := hb; obtain ⟨_, _⟩ := hd; omega
  refine ⟨rfl, rfl, side_ok d1 hx hv ⟨rfl, rfl, side_ok d2 hy hv ⟨rfl, ?_⟩⟩⟩
  exact ⟨repr_two i1 i2, repr_two i1 i2, ne_txt (right_mid ha hb hx hy hc hd hv i1 i2 H)⟩
end
theorem right_ok {b : Nat} (o : HdOk h (b + 10)) (H : ∀ h', HdOk h' b → k (.bool true) h') : fT__law_is_right ke [.hand] h k := by
  refine ⟨rfl, dotd_ok (b := b + 7) o fun a b1 h1 ha hb o1 => ?_⟩
  refine ⟨rfl, dotd_ok (b := b + 4) o1 fun c d h2 hc hd o2 => ?_⟩
  refine ⟨rfl, draw_ok (b := b + 3) o2 (by omega) fun r h3 r0 r1 o3 => ⟨rfl, rfl, ?_⟩⟩
  refine ⟨rfl, draw_ok (b := b + 2) o3 (by omega) fun u h4 u0 u1 o4 => ?_⟩
  refine ⟨rfl, draw_ok (b := b + 1) o4 (by omega) fun w h5 w0 w1 o5 => ?_⟩
  refine ⟨rfl, rfl, rfl, rfl, rfl, any_ok (b := b) o5 ⟨Nat.zero_lt_succ _, show 5 < 1000 by decide⟩ fun z h6 hz o6 => ?_⟩
  obtain ⟨x, y, rfl, hx, hy⟩ : ∃ x y, z = dot x y ∧ In 9 x ∧ In 9 y := by
    simp only [List.mem_cons, List.not_mem_nil, or_false] at hz
    rcases hz with rfl | rfl | rfl | rfl | rfl
    · exact ⟨_, _, rfl, ⟨by omega, by omega⟩, ⟨by omega, by omega⟩⟩
    · exact ⟨_, _, rfl, ⟨by omega, by omega⟩, ⟨by omega, by omega⟩⟩
    · exact ⟨_, _, rfl, ⟨by omega, by omega⟩, ⟨by omega, by omega⟩⟩
    · exact ⟨_, _, rfl, ⟨by omega, by omega⟩, ⟨by omega, by omega⟩⟩
    · exact ⟨_, _, rfl, ⟨by omega, by omega⟩, ⟨by omega, by omega⟩⟩
  exact right_core ha hb hx hy hc hd ⟨by omega, by omega⟩ (H h6 o6)
theorem told_ok {a b x y c d v : Int} {o : O} (ha : In 60 a) (hb : In 60 b) (hx : In 9 x) (hy : In 9 y) (hc : In 60 c) (hd : In 60 d) (hv : 1 ≤ v ∧ v ≤ 6) (e : bothO (sideO (a - c) x v) (sideO (b - d) y v) = o) (H : k (tup o) h) :
    fT_catch_times ke [.d (dot a b), .d (dot x y), .d (dot c d), .d (.int v)] h k := catch_ok ha hb hx hy hc hd hv (by rw [← e]; exact both_iv (side_iv _ _ _) (side_iv _ _ _) fun t _ _ => pg_iff) H
theorem pure (ns : List Int) (hl : ns.length ≤ 63) (hb : ∀ z ∈ ns, Builtin.Int.intBits z ≤ 1048576) : mh (sd0 3 [.scr ns] default) fun y S => handed 3 bT_law { S with env := S.env.set 1 (.d y) } := by
  refine ⟨rfl, handA_ok (c7 := 91402) (m7 := 7) (by omega) (by omega) hb hl fun cells m ok => ⟨rfl, cells, m, rfl, ?_⟩⟩
  have z60 : ∀ z, -60 ≤ z ∧ z ≤ 60 → In 60 z := fun z q => q
  have z9 : ∀ z, -9 ≤ z ∧ z ≤ 9 → In 9 z := fun z q => q
  refine ⟨rfl, rfl, rfl, rfl, told_ok (o := some (2, 400)) (z60 _ (by omega)) (z60 _ (by omega)) (z9 _ (by omega)) (z9 _ (by omega)) (z60 _ (by omega)) (z60 _ (by omega)) (by omega) (by decide) ⟨rfl, ne_dat rfl rfl (fun _ _ z _ => by cases z) (fun _ _ z _ => by cases z) ?_⟩⟩
  refine ⟨rfl, rfl, rfl, rfl, told_ok (o := some (1, 400)) (z60 _ (by omega)) (z60 _ (by omega)) (z9 _ (by omega)) (z9 _ (by omega)) (z60 _ (by omega)) (z60 _ (by omega)) (by omega) (by decide) ⟨rfl, ne_dat rfl rfl (fun _ _ z _ => by cases z) (fun _ _ z _ => by cases z) ?_⟩⟩
  refine ⟨rfl, rfl, rfl, rfl, told_ok (o := some (1, 1)) (z60 _ (by omega)) (z60 _ (by omega)) (z9 _ (by omega)) (z9 _ (by omega)) (z60 _ (by omega)) (z60 _ (by omega)) (by omega) (by decide) ⟨rfl, ne_dat rfl rfl (fun _ _ z _ => by cases z) (fun _ _ z _ => by cases z) ?_⟩⟩
  refine ⟨rfl, rfl, rfl, rfl, told_ok (o := none) (z60 _ (by omega)) (z60 _ (by omega)) (z9 _ (by omega)) (z9 _ (by omega)) (z60 _ (by omega)) (z60 _ (by omega)) (by omega) (by decide) ?_⟩
  refine ⟨by unfold fit62; decide, ?_⟩
  refine lc_inv (P := fun i acc h => i ≤ 8 ∧ acc = List.replicate i (.bool true) ∧ HdOk h ((8 - i) * 10)) 0 ⟨by decide, rfl, ok _ (by decide)⟩ (by decide) (fun i acc h z Q hp hz hi hq => ?_) (fun acc h hp => ?_)
  · obtain ⟨h1, h2, h3⟩ := hp
    have hlt : i < 8 := by
      have e := (List.getElem?_eq_some_iff.mp hz).1
      rw [rngL_len] at e
      have e2 : (8 : Int).toNat = 8 := rfl
      omega
    refine ⟨rfl, right_ok (b := (8 - (i + 1)) * 10) ?_ fun h' o' => hq _ ⟨_, h'⟩ ⟨by omega, ?_, o'⟩⟩
    · rw [show (8 - (i + 1)) * 10 + 10 = (8 - i) * 10 by omega]; exact h3
    · rw [h2, List.replicate_succ']
  · obtain ⟨h1, h2, h3⟩ := hp
    rw [rngL_len] at h2
    have h2 : acc = List.replicate 8 (.bool true) := h2
    subst h2
    exact (rfl : PyData.bool true = .bool true)
end
end Law_k34

open PySem PySem.W PyProof.Rows
set_option maxHeartbeats 0 in
theorem PySem.Challenge.cw_fewskies_k34_whole_hunts_parted_across_a_holds : PySem.Challenge.rw_fewskies_k34_whole_hunts_parted_across_a.Holds := by
  w_on; o_law; k_head; (case hw => w_witness2)
  k_fill
  refine DL.walk_g (l := PySem.Challenge.rw_fewskies_k34_whole_hunts_parted_across_a) (n := 63) (k := 8) (x := "script") rfl (by decide) rfl ⟨rfl, by decide, by decide⟩ (fun w h Y => PySem.W.kIn_of Y) ?F
  case F =>
    intro w mg fa h Y KX G hmg
    refine' Law_k34.law_at (Law_k34.txt KX G ?i_is_integer ?l_is_integer ?c_is_integer ?k_is_integer ?i_is_within ?l_is_within ?c_is_within ?k_is_within ?i_is_tuple ?l_is_tuple ?c_is_tuple ?k_is_tuple ?i_is_dot ?l_is_dot ?c_is_dot ?k_is_dot ?i_check_dot ?l_check_dot ?c_check_dot ?k_check_dot ?i_check_speed ?l_check_speed ?c_check_speed ?k_check_speed ?i_rounded_up ?l_rounded_up ?c_rounded_up ?k_rounded_up ?i_soonest ?l_soonest ?c_soonest ?k_soonest ?i_check_chase ?l_check_chase ?c_check_chase ?k_check_chase ?i_good_times ?l_good_times ?c_good_times ?k_good_times ?i_catch_times ?l_catch_times ?c_catch_times ?k_catch_times ?i_where_caught ?l_where_caught ?c_where_caught ?k_where_caught ?i__law_hand ?l__law_hand ?c__law_hand ?k__law_hand ?i__law_draw ?l__law_draw ?c__law_draw ?k__law_draw ?i__law_any ?l__law_any ?c__law_any ?k__law_any ?i__law_dot ?l__law_dot ?c__law_dot ?k__law_dot ?i__law_up ?l__law_up ?c__law_up ?k__law_up ?i__law_side ?l__law_side ?c__law_side ?k__law_side ?i__law_is_right ?l__law_is_right ?c__law_is_right ?k__law_is_right ?i_law ?l_law ?c_law ?k_law ?y_isinstance ?y_bool ?y_int ?y_len ?y_tuple ?y_all ?y_abs ?y_max ?y_range ?y_min ?y_repr ?v_FARTHEST ?v_FASTEST ?v_FASTEST_SHIP ?v_LAST) (fun s u => .of_eq rfl) hmg Law_k34.pure
    (case i_is_integer => k_is)
    (case l_is_integer => k_is)
    (case c_is_integer => k_is)
    (case k_is_integer => k_is)
    (case i_is_within => k_is)
    (case l_is_within => k_is)
    (case c_is_within => k_is)
    (case k_is_within => k_is)
    (case i_is_tuple => k_is)
    (case l_is_tuple => k_is)
    (case c_is_tuple => k_is)
    (case k_is_tuple => k_is)
    (case i_is_dot => k_is)
    (case l_is_dot => k_is)
    (case c_is_dot => k_is)
    (case k_is_dot => k_is)
    (case i_check_dot => k_is)
    (case l_check_dot => k_is)
    (case c_check_dot => k_is)
    (case k_check_dot => k_is)
    (case i_check_speed => k_is)
    (case l_check_speed => k_is)
    (case c_check_speed => k_is)
    (case k_check_speed => k_is)
    (case i_rounded_up => k_is)
    (case l_rounded_up => k_is)
    (case c_rounded_up => k_is)
    (case k_rounded_up => k_is)
    (case i_soonest => k_is)
    (case l_soonest => k_is)
    (case c_soonest => k_is)
    (case k_soonest => k_is)
    (case i_check_chase => k_is)
    (case l_check_chase => k_is)
    (case c_check_chase => k_is)
    (case k_check_chase => k_is)
    (case i_good_times => k_is)
    (case l_good_times => k_is)
    (case c_good_times => k_is)
    (case k_good_times => k_is)
    (case i_catch_times => k_is)
    (case l_catch_times => k_is)
    (case c_catch_times => k_is)
    (case k_catch_times => k_is)
    (case i_where_caught => k_is)
    (case l_where_caught => k_is)
    (case c_where_caught => k_is)
    (case k_where_caught => k_is)
    (case i__law_hand => k_is)
    (case l__law_hand => k_is)
    (case c__law_hand => k_is)
    (case k__law_hand => k_is)
    (case i__law_draw => k_is)
    (case l__law_draw => k_is)
    (case c__law_draw => k_is)
    (case k__law_draw => k_is)
    (case i__law_any => k_is)
    (case l__law_any => k_is)
    (case c__law_any => k_is)
    (case k__law_any => k_is)
    (case i__law_dot => k_is)
    (case l__law_dot => k_is)
    (case c__law_dot => k_is)
    (case k__law_dot => k_is)
    (case i__law_up => k_is)
    (case l__law_up => k_is)
    (case c__law_up => k_is)
    (case k__law_up => k_is)
    (case i__law_side => k_is)
    (case l__law_side => k_is)
    (case c__law_side => k_is)
    (case k__law_side => k_is)
    (case i__law_is_right => k_is)
    (case l__law_is_right => k_is)
    (case c__law_is_right => k_is)
    (case k__law_is_right => k_is)
    (case i_law => k_is)
    (case l_law => k_is)
    (case c_law => k_is)
    (case k_law => k_is)
    (case y_isinstance => k_is)
    (case y_bool => k_is)
    (case y_int => k_is)
    (case y_len => k_is)
    (case y_tuple => k_is)
    (case y_all => k_is)
    (case y_abs => k_is)
    (case y_max => k_is)
    (case y_range => k_is)
    (case y_min => k_is)
    (case y_repr => k_is)
    (case v_FARTHEST => k_is)
    (case v_FASTEST => k_is)
    (case v_FASTEST_SHIP => k_is)
    (case v_LAST => k_is)
