import PyProof.Rows.All
import HandS.ForMost
import HandS.ForExc
import HandS.Wide
import HandS.WideBits
import HandS.IsInst
import HandS.Deep
import HandS.TupLe
import KE.DataEq
import HandS.SortInts
import HandS.CallSlots
import KE.DataMinMax
import HandS.Style
import HandS.Flt
import HandS.Defaults
import HandS.Conv
import HandS.ExcInit
import HandS.ExcIs
import HandS.ExcField
import KE.KExcIs
import HandS.ExcValue
import HandS.Zip
import HandS.Text
import HandS.RaiseMore
import HandS.TryElse
import HandS.TryMany
import HandS.Codes
import KE.IntTextLaws
import PySem.Challenge.RW_shadowpost_k71_yards_read_and_shown
import PyProof.Rows.StrJoinMade
import PyProof.Rows.StrDigitsNeg
set_option Elab.async false
set_option linter.all false
set_option maxRecDepth 100000
set_option maxHeartbeats 4000000
set_option autoImplicit false
/-! DLa: data over the hand layer: what a value is as a tree of data, what a frame owns, one relation for a state. -/
namespace DL
open PySem PySem.Spec L2

/-- data: what a value tells, all that hangs on it being left as it is -/
inductive D where
  | non | bl (b : Bool) | int (i : Int) | str (x : Str)
  | tup (xs : List D) | lst (xs : List D) | scr (xs : List D)
  | ins (C : Addr) (ns : List Str) (xs : List D)
  | junk
  | exn (C : Addr) (own : Bool) (ns : List Str) (xs : List D)

/-- whether tuples of the module's own top are data, too (then no tuple is a key) -/
def KC : Bool := true
def KTup (K : PySem.W.Frag) (a : Addr) (vs : List V) : Prop := ∃ (o : Obj) (its : Array Value) (n : Nat), K.lookup a = some o ∧ o.cls = .type "tuple" ∧ o.data = .seq its n ∧ its.size ≤ sizeLine ∧ Vals vs its.toList
def TupAt (K : PySem.W.Frag) (F : Hp) (a : Addr) (vs : List V) : Prop := F a = some (.tup vs) ∨ (KC = true ∧ KTup K a vs)

/-- at a: an exception object of the class C, od its dict -/
def ExAt (F : Hp) (a C : Addr) (od : Option Addr) : Prop := ∃ oe : Obj, F a = some (.ext fun h => h.get? a = some oe) ∧ (oe.cls = .ref C ∧ oe.dict = od) ∧ ∃ fs, oe.data = .fields fs
def ExDx (F : Hp) (own : Bool) (od : Option Addr) (ns : List Str) (vs : List V) : Prop := if own = true then ∃ dx, od = some dx ∧ F dx = some (.xd (ns.zip vs)) else od = none
theorem ExAt.mono {F F' : Hp} {a C : Addr} {od : Option Addr} (e : Same F F') (h : ExAt F a C od) : ExAt F' a C od := by
  obtain ⟨oe, h1, h2⟩ := h
  exact ⟨oe, e _ _ h1, h2⟩
theorem ExDx.mono {F F' : Hp} {own : Bool} {od : Option Addr} {ns : List Str} {vs : List V} (e : Same F F') (h : ExDx F own od ns vs) : ExDx F' own od ns vs := by
  unfold ExDx at *
  by_cases q : own = true
  · rw [if_pos q] at h ⊢
    obtain ⟨dx, h1, h2⟩ := h
    exact ⟨dx, h1, e _ _ h2⟩
  · rw [if_neg q] at h ⊢; exact h
mutual
inductive At (K : PySem.W.Frag) (F : Hp) : V → D → Prop
  | non : At K F .non .non
  | bl (b : Bool) : At K F (.bl b) (.bl b)
  | int (i : Int) : At K F (.int i) (.int i)
  | str (x : Str) : At K F (.str x) (.str x)
  | lst {a : Addr} {vs : List V} {ds : List D} : F a = some (.lst vs) → Ats K F vs ds → At K F (.ref a) (.lst ds)
  | scr {a : Addr} {vs : List V} {ds : List D} : SqL K F a vs → Ats K F vs ds → At K F (.ref a) (.scr ds)
  | tup {a : Addr} {vs : List V} {ds : List D} : TupAt K F a vs → Ats K F vs ds → At K F (.ref a) (.tup ds)
  | junk (a : Addr) : At K F (.ref a) .junk
  | exn {a C : Addr} {od : Option Addr} {own : Bool} {ns : List Str} {vs : List V} {ds : List D} : ExAt F a C od → ExDx F own od ns vs → ns.length = vs.length → Ats K F vs ds → At K F (.ref a) (.exn C own ns ds)
  | ins {a C dx : Addr} {ns : List Str} {vs : List V} {ds : List D} : F a = some (.ins C dx (ns.zip vs)) → ns.length = vs.length → Ats K F vs ds → At K F (.ref a) (.ins C ns ds)
inductive Ats (K : PySem.W.Frag) (F : Hp) : List V → List D → Prop
  | nil : Ats K F [] []
  | cons {v : V} {vs : List V} {d : D} {ds : List D} : At K F v d → Ats K F vs ds → Ats K F (v :: vs) (d :: ds)
end

theorem sameT {K : PySem.W.Frag} {H H' : Hp} {a : Addr} {xs : List V} (e : Same H H') (h : TupAt K H a xs) : SqT K H' a xs := by
  rcases h with h | ⟨_, h⟩
  · exact .inl (.inl (e _ _ h))
  · exact .inr h
theorem sameT0 {K : PySem.W.Frag} {H H' : Hp} {a : Addr} {xs : List V} (e : Same H H') (h : TupAt K H a xs) : TupAt K H' a xs := by
  rcases h with h | h
  · exact .inl (e _ _ h)
  · exact .inr h

section
variable {K : PySem.W.Frag} {F F' H H' : Hp}
mutual
theorem At.mono (e : Same F F') : ∀ (d : D) (v : V), At K F v d → At K F' v d
  | .non, _, h => by cases h; exact .non
  | .bl b, _, h => by cases h; exact .bl b
  | .int i, _, h => by cases h; exact .int i
  | .str x, _, h => by cases h; exact .str x
  | .lst ds, _, h => by
    cases h with
    | lst hs ha => exact .lst (e _ _ hs) (Ats.mono e ds _ ha)
  | .scr ds, _, h => by
    cases h with
    | scr hs ha => exact .scr (e.seq hs) (Ats.mono e ds _ ha)
  | .tup ds, _, h => by
    cases h with
    | tup hs ha => exact .tup (sameT0 e hs) (Ats.mono e ds _ ha)
  | .junk, _, h => by cases h; exact .junk _
  | .exn C own ns ds, _, h => by
    cases h with
    | exn h1 h2 hl ha => exact .exn (h1.mono e) (h2.mono e) hl (Ats.mono e ds _ ha)
  | .ins C ns ds, _, h => by
    cases h with
    | ins hs hl ha => exact .ins (e _ _ hs) hl (Ats.mono e ds _ ha)
theorem Ats.mono (e : Same F F') : ∀ (ds : List D) (vs : List V), Ats K F vs ds → Ats K F' vs ds
  | [], _, h => by cases h; exact .nil
  | d :: ds, _, h => by
    cases h with
    | cons h1 h2 => exact .cons (At.mono e d _ h1) (Ats.mono e ds _ h2)
end
theorem Ats.length : ∀ {vs : List V} {ds : List D}, Ats K F vs ds → vs.length = ds.length
  | _, _, .nil => rfl
  | _, _, .cons _ t => congrArg (· + 1) (Ats.length t)
theorem Ats.get : ∀ {vs : List V} {ds : List D} {i : Nat} {d : D}, Ats K F vs ds → ds[i]? = some d → ∃ v, vs[i]? = some v ∧ At K F v d
  | _, _, _, _, .nil, e => by simp at e
  | _, _, 0, _, .cons h _, e => by
    simp at e
    subst e
    exact ⟨_, rfl, h⟩
  | _, _, i + 1, d, .cons _ t, e => by
    obtain ⟨v, h1, h2⟩ := Ats.get (i := i) (d := d) t (by simpa using e)
    exact ⟨v, by simpa using h1, h2⟩
theorem Ats.get' : ∀ {vs : List V} {ds : List D} {i : Nat} {v : V}, Ats K F vs ds → vs[i]? = some v → ∃ d, ds[i]? = some d ∧ At K F v d
  | _, _, _, _, .nil, e => by simp at e
  | _, _, 0, _, .cons h _, e => by
    simp at e
    subst e
    exact ⟨_, rfl, h⟩
  | _, _, i + 1, v, .cons _ t, e => by
    obtain ⟨d, h1, h2⟩ := Ats.get' (i := i) (v := v) t (by simpa using e)
    exact ⟨d, by simpa using h1, h2⟩
theorem Ats.append : ∀ {vs ws : List V} {ds es : List D}, Ats K F vs ds → Ats K F ws es → Ats K F (vs ++ ws) (ds ++ es)
  | _, _, _, _, .nil, h => h
  | _, _, _, _, .cons a t, h => .cons a (Ats.append t h)
theorem Ats.take : ∀ {vs : List V} {ds : List D} (n : Nat), Ats K F vs ds → Ats K F (vs.take n) (ds.take n)
  | _, _, 0, _ => by simp only [List.take_zero]; exact .nil
  | _, _, n + 1, .nil => .nil
  | _, _, n + 1, .cons a t => .cons a (Ats.take n t)
theorem Ats.drop : ∀ {vs : List V} {ds : List D} (n : Nat), Ats K F vs ds → Ats K F (vs.drop n) (ds.drop n)
  | _, _, 0, h => h
  | _, _, n + 1, .nil => .nil
  | _, _, n + 1, .cons _ t => Ats.drop n t
theorem Ats.one {v : V} {d : D} (h : At K F v d) : Ats K F [v] [d] := .cons h .nil
theorem Ats.rev : ∀ {vs : List V} {ds : List D}, Ats K F vs ds → Ats K F vs.reverse ds.reverse
  | _, _, .nil => .nil
  | _, _, .cons a t => by
    simp only [List.reverse_cons]
    exact (Ats.rev t).append (.one a)
theorem Ats.set : ∀ {vs : List V} {ds : List D} (i : Nat) {v : V} {d : D}, Ats K F vs ds → At K F v d → Ats K F (vs.set i v) (ds.set i d)
  | _, _, _, _, _, .nil, _ => .nil
  | _, _, 0, _, _, .cons _ t, h => .cons h t
  | _, _, i + 1, _, _, .cons a t, h => .cons a (Ats.set i t h)
end

/-! ### what is owned -/
/-- a dict: its address where it is told, whether a walk locks it, whether its keys are tuples, its keys in order -/
structure DB where
  at_ : Option Addr
  lock : Bool
  tk : Bool
  ks : List (List Key)
def HoOf (b : DB) (vs : List V) (u : HO) : Prop := (b.tk = true ∧ u = .dT (b.ks.zip vs)) ∨ (b.tk = false ∧ ∃ kk : List Key, b.ks = kk.map (fun k => [k]) ∧ u = .dK (kk.zip vs))
def DicAt (H : Hp) (p : Addr) (b : DB) (vs : List V) : Prop := ((∀ a, b.at_ = some a → p = a) ∧ b.ks.Nodup) ∧ ∃ u, HoOf b vs u ∧ ((b.lock = false ∧ H p = some u) ∨ (b.lock = true ∧ ∃ o, H p = some (.frz o u)))
theorem DicAt.ne {H : Hp} {p : Addr} {b : DB} {vs : List V} (h : DicAt H p b vs) : H p ≠ none := by
  obtain ⟨_, u, _, ⟨_, h⟩ | ⟨_, o, h⟩⟩ := h <;> rw [h] <;> exact fun z => nomatch z
theorem DicAt.eq {H H' : Hp} {p : Addr} {b : DB} {vs : List V} (h : DicAt H p b vs) (e : H' p = H p) : DicAt H' p b vs := by
  unfold DicAt at *
  rw [e]; exact h
theorem DicAt.rd {H : Hp} {p : Addr} {b : DB} {vs : List V} (h : DicAt H p b vs) : ∃ u, HoOf b vs u ∧ Rd H p u := by
  obtain ⟨_, u, hu, ⟨_, h⟩ | ⟨_, o, h⟩⟩ := h
  · exact ⟨u, hu, .inl h⟩
  · exact ⟨u, hu, .inr ⟨o, h⟩⟩
inductive Val where
  | sh (d : D)
  | lst (xs : List Val)
  | tup (xs : List Val)
  | dic (b : DB) (ds : List D)
mutual
def Val.fz : Val → D
  | .sh d => d
  | .lst xs => .lst (fzs xs)
  | .tup xs => .tup (fzs xs)
  | .dic _ _ => .junk
def fzs : List Val → List D
  | [] => []
  | x :: xs => x.fz :: fzs xs
end
theorem fzs_map (xs : List Val) : fzs xs = xs.map Val.fz := by
  induction xs with
  | nil => rfl
  | cons x xs ih => simp only [fzs, List.map_cons, ih]
theorem fzs_sh (ds : List D) : fzs (ds.map .sh) = ds := by
  induction ds with
  | nil => rfl
  | cons x xs ih => simp only [fzs, List.map_cons, ih, Val.fz]

mutual
inductive Own (K : PySem.W.Frag) (F H : Hp) : V → Val → List Addr → Prop
  | sh {v : V} {d : D} : At K F v d → Own K F H v (.sh d) []
  | lst {p : Addr} {vs : List V} {xs : List Val} {f : List Addr} : F p = none → H p = some (.lst vs) → Owns K F H vs xs f → Own K F H (.ref p) (.lst xs) (p :: f)
  | tup {p : Addr} {vs : List V} {xs : List Val} {f : List Addr} : F p = none → H p = some (.tup vs) → Owns K F H vs xs f → Own K F H (.ref p) (.tup xs) (p :: f)
  | dic {p : Addr} {vs : List V} {b : DB} {ds : List D} : F p = none → DicAt H p b vs → b.ks.length = vs.length → Ats K F vs ds → b.lock = false → Own K F H (.ref p) (.dic b ds) [p]
  | dicL {p : Addr} {vs : List V} {b : DB} {ds : List D} {u : HO} {o : Obj} : HoOf b vs u → F p = some (.frz o u) → b.lock = true → (∀ a, b.at_ = some a → p = a) → b.ks.Nodup → b.ks.length = vs.length → Ats K F vs ds → Own K F H (.ref p) (.dic b ds) []
inductive Owns (K : PySem.W.Frag) (F H : Hp) : List V → List Val → List Addr → Prop
  | nil : Owns K F H [] [] []
  | cons {v : V} {vs : List V} {x : Val} {xs : List Val} {f g : List Addr} : Own K F H v x f → Owns K F H vs xs g → Owns K F H (v :: vs) (x :: xs) (f ++ g)
end
section
variable {K : PySem.W.Frag} {F F' H H' : Hp}
mutual
/-- the heaps grow; what is owned stands -/
theorem Own.mono (e : Same F F') : ∀ (x : Val) (v : V) (f : List Addr), Own K F H v x f → (∀ b ∈ f, F' b = none ∧ H' b = H b) → Own K F' H' v x f
  | .sh d, _, _, h, _ => by
    cases h with
    | sh h => exact .sh (At.mono e d _ h)
  | .lst xs, _, _, h, k => by
    cases h with
    | lst h1 h2 h3 => exact .lst (k _ List.mem_cons_self).1 ((k _ List.mem_cons_self).2.trans h2) (Owns.mono e xs _ _ h3 fun b hb => k b (List.mem_cons_of_mem _ hb))
  | .tup xs, _, _, h, k => by
    cases h with
    | tup h1 h2 h3 => exact .tup (k _ List.mem_cons_self).1 ((k _ List.mem_cons_self).2.trans h2) (Owns.mono e xs _ _ h3 fun b hb => k b (List.mem_cons_of_mem _ hb))
  | .dic b ds, _, _, h, k => by
    cases h with
    | dic h1 h2 h3 h4 h5 => exact .dic (k _ List.mem_cons_self).1 (h2.eq (k _ List.mem_cons_self).2) h3 (Ats.mono e _ _ h4) h5
    | dicL h1 h2 h3 h4 h5 h6 h7 => exact .dicL h1 (e _ _ h2) h3 h4 h5 h6 (Ats.mono e _ _ h7)
theorem Owns.mono (e : Same F F') : ∀ (xs : List Val) (vs : List V) (f : List Addr), Owns K F H vs xs f → (∀ b ∈ f, F' b = none ∧ H' b = H b) → Owns K F' H' vs xs f
  | [], _, _, h, _ => by cases h; exact .nil
  | x :: xs, _, _, h, k => by
    cases h with
    | cons h1 h2 => exact .cons (Own.mono e x _ _ h1 fun b hb => k b (List.mem_append_left _ hb)) (Owns.mono e xs _ _ h2 fun b hb => k b (List.mem_append_right _ hb))
end
mutual
theorem Own.no : ∀ (x : Val) (v : V) (f : List Addr), Own K F H v x f → ∀ b ∈ f, F b = none ∧ H b ≠ none
  | .sh d, _, _, h, b, hb => by cases h; cases hb
  | .lst xs, _, _, h, b, hb => by
    cases h with
    | lst h1 h2 h3 =>
      rcases List.mem_cons.mp hb with e | hb
      · subst e; exact ⟨h1, by rw [h2]; exact fun z => nomatch z⟩
      · exact Owns.no xs _ _ h3 b hb
  | .tup xs, _, _, h, b, hb => by
    cases h with
    | tup h1 h2 h3 =>
      rcases List.mem_cons.mp hb with e | hb
      · subst e; exact ⟨h1, by rw [h2]; exact fun z => nomatch z⟩
      · exact Owns.no xs _ _ h3 b hb
  | .dic bb ds, _, _, h, b, hb => by
    cases h with
    | dic h1 h2 h3 h4 =>
      rw [List.mem_singleton.mp hb]
      exact ⟨h1, h2.ne⟩
    | dicL => cases hb
theorem Owns.no : ∀ (xs : List Val) (vs : List V) (f : List Addr), Owns K F H vs xs f → ∀ b ∈ f, F b = none ∧ H b ≠ none
  | [], _, _, h, b, hb => by cases h; cases hb
  | x :: xs, _, _, h, b, hb => by
    cases h with
    | cons h1 h2 =>
      rcases List.mem_append.mp hb with hb | hb
      · exact Own.no x _ _ h1 b hb
      · exact Owns.no xs _ _ h2 b hb
end
mutual
/-- frozen: all that was owned is left as it is from now on -/
theorem Own.fz (e : Same F F') : ∀ (x : Val) (v : V) (f : List Addr), Own K F H v x f → (∀ b ∈ f, F' b = H b) → At K F' v x.fz
  | .sh d, _, _, h, _ => by
    cases h with
    | sh h => rw [Val.fz]; exact At.mono e d _ h
  | .lst xs, _, _, h, k => by
    cases h with
    | lst h1 h2 h3 =>
      rw [Val.fz]
      exact .lst ((k _ List.mem_cons_self).trans h2) (Owns.fz e xs _ _ h3 fun b hb => k b (List.mem_cons_of_mem _ hb))
  | .tup xs, _, _, h, k => by
    cases h with
    | tup h1 h2 h3 =>
      rw [Val.fz]
      exact .tup (.inl ((k _ List.mem_cons_self).trans h2)) (Owns.fz e xs _ _ h3 fun b hb => k b (List.mem_cons_of_mem _ hb))
  | .dic b ds, v, _, h, _ => by
    rw [Val.fz]
    cases h with
    | dic => exact .junk _
    | dicL => exact .junk _
theorem Owns.fz (e : Same F F') : ∀ (xs : List Val) (vs : List V) (f : List Addr), Owns K F H vs xs f → (∀ b ∈ f, F' b = H b) → Ats K F' vs (fzs xs)
  | [], _, _, h, _ => by cases h; rw [fzs]; exact .nil
  | x :: xs, _, _, h, k => by
    cases h with
    | cons h1 h2 =>
      rw [fzs]
      exact .cons (Own.fz e x _ _ h1 fun b hb => k b (List.mem_append_left _ hb)) (Owns.fz e xs _ _ h2 fun b hb => k b (List.mem_append_right _ hb))
end
theorem Owns.length : ∀ {vs : List V} {xs : List Val} {f : List Addr}, Owns K F H vs xs f → vs.length = xs.length
  | _, _, _, .nil => rfl
  | _, _, _, .cons _ t => congrArg (· + 1) (Owns.length t)
theorem Owns.of_ats : ∀ {vs : List V} {ds : List D}, Ats K F vs ds → Owns K F H vs (ds.map .sh) []
  | _, _, .nil => .nil
  | _, _, .cons a t => .cons (f := []) (g := []) (.sh a) (Owns.of_ats t)
theorem Owns.ats : ∀ {vs : List V} {ds : List D} {f : List Addr}, Owns K F H vs (ds.map .sh) f → Ats K F vs ds ∧ f = []
  | _, [], _, .nil => ⟨.nil, rfl⟩
  | _, d :: ds, _, .cons (.sh a) t => by
    obtain ⟨h1, h2⟩ := Owns.ats t
    exact ⟨.cons a h1, by rw [h2]; rfl⟩
end
end DL

/-! DLb: the state of a frame as data: slots and what is held meanwhile. -/
namespace DL
open PySem PySem.Spec L2
abbrev DEnv := List (Option Val)

/-! ### footprints -/
def Sb (f g : List Addr) : Prop := (∀ b ∈ f, b ∈ g) ∧ (g.Nodup → f.Nodup)
theorem Sb.refl (f : List Addr) : Sb f f := ⟨fun _ h => h, fun h => h⟩
theorem Sb.trans {f g h : List Addr} (a : Sb f g) (b : Sb g h) : Sb f h := ⟨fun x hx => b.1 x (a.1 x hx), fun z => a.2 (b.2 z)⟩
theorem Sb.of_perm {f g : List Addr} (p : f.Perm g) : Sb f g := ⟨fun _ h => p.mem_iff.mp h, fun h => p.nodup_iff.mpr h⟩
theorem Sb.of_sub {f g : List Addr} (p : f.Sublist g) : Sb f g := ⟨fun _ h => p.subset h, fun h => h.sublist p⟩
theorem Sb.app {f f' g g' : List Addr} (a : Sb f f') (b : Sb g g') : Sb (f ++ g) (f' ++ g') := by
  refine ⟨fun x hx => ?_, fun h => ?_⟩
  · rcases List.mem_append.mp hx with h | h
    · exact List.mem_append_left _ (a.1 x h)
    · exact List.mem_append_right _ (b.1 x h)
  · rw [List.nodup_append] at h ⊢
    obtain ⟨h1, h2, h3⟩ := h
    exact ⟨a.2 h1, b.2 h2, fun x hx y hy => h3 x (a.1 x hx) y (b.1 y hy)⟩
theorem Sb.left (f g : List Addr) : Sb f (f ++ g) := .of_sub (List.sublist_append_left f g)
theorem Sb.right (f g : List Addr) : Sb g (f ++ g) := .of_sub (List.sublist_append_right f g)
theorem Sb.comm (f g : List Addr) : Sb (f ++ g) (g ++ f) := .of_perm List.perm_append_comm
theorem Sb.nil (f : List Addr) : Sb [] f := .of_sub (List.nil_sublist f)

/-! ### slots -/
inductive Sl (K : PySem.W.Frag) (F H : Hp) : St → DEnv → List Addr → Prop
  | nil : Sl K F H [] [] []
  | un {y : Option V} {σ : St} {ρ : DEnv} {f : List Addr} : Sl K F H σ ρ f → Sl K F H (y :: σ) (none :: ρ) f
  | bd {v : V} {x : Val} {σ : St} {ρ : DEnv} {f g : List Addr} : Own K F H v x f → Sl K F H σ ρ g → Sl K F H (some v :: σ) (some x :: ρ) (f ++ g)
section
variable {K : PySem.W.Frag} {F F' H H' : Hp}
theorem Sl.mono (e : Same F F') : ∀ {σ : St} {ρ : DEnv} {f : List Addr}, Sl K F H σ ρ f → (∀ b ∈ f, F' b = none ∧ H' b = H b) → Sl K F' H' σ ρ f
  | _, _, _, .nil, _ => .nil
  | _, _, _, .un t, k => .un (Sl.mono e t k)
  | _, _, _, .bd h t, k => .bd (Own.mono e _ _ _ h fun b hb => k b (List.mem_append_left _ hb)) (Sl.mono e t fun b hb => k b (List.mem_append_right _ hb))
theorem Sl.no : ∀ {σ : St} {ρ : DEnv} {f : List Addr}, Sl K F H σ ρ f → ∀ b ∈ f, F b = none ∧ H b ≠ none
  | _, _, _, .nil, _, hb => by cases hb
  | _, _, _, .un t, b, hb => Sl.no t b hb
  | _, _, _, .bd h t, b, hb => by
    rcases List.mem_append.mp hb with hb | hb
    · exact Own.no _ _ _ h b hb
    · exact Sl.no t b hb
theorem Sl.length : ∀ {σ : St} {ρ : DEnv} {f : List Addr}, Sl K F H σ ρ f → σ.length = ρ.length
  | _, _, _, .nil => rfl
  | _, _, _, .un t => congrArg (· + 1) (Sl.length t)
  | _, _, _, .bd _ t => congrArg (· + 1) (Sl.length t)
theorem Sl.drop : ∀ {σ : St} {ρ : DEnv} {f : List Addr} (i : Nat), Sl K F H σ ρ f → ∃ r, Sl K F H σ (ρ.set i none) r ∧ Sb r f
  | _, _, _, _, .nil => ⟨[], .nil, .refl _⟩
  | _, _, _, 0, .un t => ⟨_, .un t, .refl _⟩
  | _, _, _, 0, .bd h t => ⟨_, .un t, .right _ _⟩
  | _, _, _, i + 1, .un t => by
    obtain ⟨r, h1, h2⟩ := Sl.drop i t
    exact ⟨r, .un h1, h2⟩
  | _, _, _, i + 1, .bd h t => by
    obtain ⟨r, h1, h2⟩ := Sl.drop i t
    exact ⟨_, .bd h h1, (Sb.refl _).app h2⟩
theorem Sl.take : ∀ {σ : St} {ρ : DEnv} {f : List Addr} (i : Nat) {x : Val}, Sl K F H σ ρ f → ρ[i]? = some (some x) →
    ∃ v g r, σ[i]? = some (some v) ∧ Own K F H v x g ∧ Sl K F H σ (ρ.set i none) r ∧ Sb (g ++ r) f
  | _, _, _, _, _, .nil, e => by simp at e
  | _, _, _, 0, _, .un t, e => by simp at e
  | _, _, _, 0, _, .bd h t, e => by
    simp at e
    subst e
    exact ⟨_, _, _, rfl, h, .un t, .refl _⟩
  | _, _, _, i + 1, x, .un t, e => by
    obtain ⟨v, g, r, h1, h2, h3, h4⟩ := Sl.take i t (by simpa using e)
    exact ⟨v, g, r, by simpa using h1, h2, .un h3, h4⟩
  | _, _, _, i + 1, x, .bd (f := f1) h t, e => by
    obtain ⟨v, g, r, h1, h2, h3, h4⟩ := Sl.take i t (by simpa using e)
    refine ⟨v, g, f1 ++ r, by simpa using h1, h2, .bd h h3, ?_⟩
    have p : Sb (g ++ (f1 ++ r)) (f1 ++ (g ++ r)) := .of_perm (by
      rw [← List.append_assoc, ← List.append_assoc]
      exact List.Perm.append_right _ List.perm_append_comm)
    exact p.trans ((Sb.refl _).app h4)
theorem Sl.put : ∀ {σ : St} {ρ : DEnv} {r : List Addr} (i : Nat) {v : V} {x : Val} {g : List Addr}, Sl K F H σ ρ r → i < ρ.length → Own K F H v x g →
    ∃ f, Sl K F H (σ.set i (some v)) (ρ.set i (some x)) f ∧ Sb f (g ++ r)
  | _, _, _, _, _, _, _, .nil, e, _ => by simp at e
  | _, _, _, 0, _, _, _, .un t, _, h => ⟨_, .bd h t, .refl _⟩
  | _, _, _, 0, _, _, _, .bd _ t, _, h => ⟨_, .bd h t, (Sb.refl _).app (.right _ _)⟩
  | _, _, _, i + 1, _, _, _, .un t, e, h => by
    obtain ⟨f, h1, h2⟩ := Sl.put i t (by simpa using e) h
    exact ⟨f, .un h1, h2⟩
  | _, _, _, i + 1, _, _, g, .bd (f := f1) (g := g1) h0 t, e, h => by
    obtain ⟨f, h1, h2⟩ := Sl.put i t (by simpa using e) h
    refine ⟨_, .bd h0 h1, ?_⟩
    refine ((Sb.refl f1).app h2).trans (.of_perm ?_)
    rw [← List.append_assoc, ← List.append_assoc]
    exact List.Perm.append_right _ List.perm_append_comm
/-- a slot of which nothing is told may hold anything -/
theorem Sl.any : ∀ {σ : St} {ρ : DEnv} {f : List Addr} (i : Nat) (y : Option V), Sl K F H σ ρ f → ρ[i]? = some none → Sl K F H (σ.set i y) ρ f
  | _, _, _, _, _, .nil, h => by simp at h
  | _, _, _, 0, _, .un t, _ => .un t
  | _, _, _, 0, _, .bd _ t, h => by simp at h
  | _, _, _, i + 1, y, .un t, h => .un (Sl.any i y t (by simpa using h))
  | _, _, _, i + 1, y, .bd a t, h => .bd a (Sl.any i y t (by simpa using h))
/-- .. or be forgotten -/
theorem Sl.less : ∀ {σ σ' : St} {ρ : DEnv} {f : List Addr}, Sl K F H σ ρ f → σ'.length = σ.length → (∀ (i : Nat) v x, σ[i]? = some (some v) → ρ[i]? = some (some x) → σ'[i]? = some (some v)) → Sl K F H σ' ρ f
  | _, [], _, _, .nil, _, _ => .nil
  | _, y' :: σ', _, _, .un t, hl, k => .un (Sl.less t (by simpa using hl) fun i v x h1 h2 => by simpa using k (i + 1) v x (by simpa using h1) (by simpa using h2))
  | _, y' :: σ', _, _, .bd a t, hl, k => by
    have e := k 0 _ _ rfl rfl
    simp at e
    subst e
    exact .bd a (Sl.less t (by simpa using hl) fun i v x h1 h2 => by simpa using k (i + 1) v x (by simpa using h1) (by simpa using h2))
end

/-! ### temporaries -/
section
variable {K : PySem.W.Frag} {F F' H H' : Hp}
theorem Owns.append : ∀ {vs ws : List V} {xs ys : List Val} {f g : List Addr}, Owns K F H vs xs f → Owns K F H ws ys g → ∃ h, Owns K F H (vs ++ ws) (xs ++ ys) h ∧ Sb h (f ++ g) ∧ Sb (f ++ g) h
  | _, _, _, _, _, _, .nil, h => ⟨_, h, .refl _, .refl _⟩
  | _, _, _, _, _, _, .cons (f := f1) a t, h => by
    obtain ⟨h1, h2, h3, h4⟩ := Owns.append t h
    refine ⟨_, .cons a h2, ?_, ?_⟩
    · rw [List.append_assoc]; exact (Sb.refl f1).app h3
    · rw [List.append_assoc]; exact (Sb.refl f1).app h4
theorem Owns.split : ∀ {vs ws : List V} {xs ys : List Val} {h : List Addr}, vs.length = xs.length → Owns K F H (vs ++ ws) (xs ++ ys) h → ∃ f g, Owns K F H vs xs f ∧ Owns K F H ws ys g ∧ Sb (f ++ g) h ∧ Sb h (f ++ g)
  | [], _, [], _, _, _, h => ⟨[], _, .nil, h, .refl _, .refl _⟩
  | v :: vs, _, x :: xs, _, _, e, .cons (f := f1) a t => by
    obtain ⟨f, g, h1, h2, h3, h4⟩ := Owns.split (by simpa using e) t
    refine ⟨_, g, .cons a h1, h2, ?_, ?_⟩
    · rw [List.append_assoc]; exact (Sb.refl f1).app h3
    · rw [List.append_assoc]; exact (Sb.refl f1).app h4
end

/-! ### the state -/
/-- F0: what was left as it is at the start, H0: all that stood then -/
def Stt (K : PySem.W.Frag) (F0 H0 H : Hp) (σ : St) (ρ : DEnv) (vs : List V) (xs : List Val) : Prop :=
  ∃ F f g, Same F0 F ∧ Same H0 H ∧ Same F H ∧ (∀ b, F0 b = none → H0 b ≠ none → F b = none) ∧ Sl K F H σ ρ f ∧ Owns K F H vs xs g ∧ (g ++ f).Nodup ∧ ∀ b ∈ g ++ f, H0 b = none
section
variable {K : PySem.W.Frag} {F0 F1 H0 H H' : Hp} {σ σ' : St} {ρ : DEnv} {vs as ws : List V} {xs bs ys : List Val} {v : V} {x : Val} {d : D} {i : Nat}
theorem Stt.pop (h : Stt K F0 H0 H σ ρ (v :: vs) (x :: xs)) : Stt K F0 H0 H σ ρ vs xs := by
  obtain ⟨F, f, g, h1, h2, h3, h4, h5, h6, h7, h8⟩ := h
  cases h6 with
  | cons a t =>
    rename_i g1 g2
    have s : Sb (g2 ++ f) ((g1 ++ g2) ++ f) := (Sb.right g1 g2).app (Sb.refl f)
    exact ⟨F, f, _, h1, h2, h3, h4, h5, t, s.2 h7, fun b hb => h8 b (s.1 b hb)⟩
/-- a scalar -/
theorem Stt.scal (h : Stt K F0 H0 H σ ρ vs xs) (a : ∀ F, At K F v d) : Stt K F0 H0 H σ ρ (v :: vs) (.sh d :: xs) := by
  obtain ⟨F, f, g, h1, h2, h3, h4, h5, h6, h7, h8⟩ := h
  exact ⟨F, f, g, h1, h2, h3, h4, h5, .cons (f := []) (.sh (a F)) h6, h7, h8⟩
/-- the frozen heap is larger by what is owned at f -/
def frz (F H : Hp) (f : List Addr) : Hp := fun b => if b ∈ f then H b else F b
theorem frz_in {F H : Hp} {f : List Addr} {b : Addr} (h : b ∈ f) : frz F H f b = H b := if_pos h
theorem frz_out {F H : Hp} {f : List Addr} {b : Addr} (h : b ∉ f) : frz F H f b = F b := if_neg h
theorem frz_same {F H : Hp} {f : List Addr} (h : ∀ b ∈ f, F b = none) : Same F (frz F H f) := fun b o e => by
  rw [frz_out fun z => by rw [h b z] at e; cases e]; exact e
theorem frz_sub {F H : Hp} {f : List Addr} (h : Same F H) : Same (frz F H f) H := fun b o e => by
  by_cases hb : b ∈ f
  · rw [frz_in hb] at e; exact e
  · rw [frz_out hb] at e; exact h b o e
/-- the first temporaries are frozen -/
theorem Stt.fzs (hl : as.length = bs.length) (h : Stt K F0 H0 H σ ρ (as ++ vs) (bs ++ xs)) : Stt K F0 H0 H σ ρ (as ++ vs) ((fzs bs).map .sh ++ xs) := by
  obtain ⟨F, f, g, h1, h2, h3, h4, h5, h6, h7, h8⟩ := h
  obtain ⟨g1, g2, a1, a2, s1, s2⟩ := Owns.split hl h6
  have t1 : Sb ((g1 ++ g2) ++ f) (g ++ f) := s1.app (.refl f)
  have nd := t1.2 h7
  have n1 := Owns.no _ _ _ a1
  have e : Same F (frz F H g1) := frz_same fun b hb => (n1 b hb).1
  rw [List.append_assoc, List.nodup_append] at nd
  have dis : ∀ b ∈ g2 ++ f, b ∉ g1 := fun b hb hg => nd.2.2 b hg b hb rfl
  have q : Ats K (frz F H g1) as (DL.fzs bs) := Owns.fz e _ _ _ a1 fun b hb => frz_in hb
  have a2' : Owns K (frz F H g1) H vs xs g2 := Owns.mono e _ _ _ a2 fun b hb => ⟨(frz_out (dis b (List.mem_append_left _ hb))).trans (Owns.no _ _ _ a2 b hb).1, rfl⟩
  have h5' : Sl K (frz F H g1) H σ ρ f := Sl.mono e h5 fun b hb => ⟨(frz_out (dis b (List.mem_append_right _ hb))).trans (Sl.no h5 b hb).1, rfl⟩
  obtain ⟨g3, a3, s3, _⟩ := (Owns.of_ats (H := H) q).append a2'
  have t3 : Sb (g3 ++ f) (g2 ++ f) := Sb.app (by simpa using s3) (.refl f)
  have t4 : Sb (g3 ++ f) (g ++ f) := t3.trans (Sb.trans (by rw [List.append_assoc]; exact .right _ _) t1)
  refine ⟨_, f, g3, h1.trans e, h2, frz_sub h3, fun b z1 z2 => ?_, h5', a3, t4.2 h7, fun b hb => h8 b (t4.1 b hb)⟩
  have hb : b ∉ g1 := fun z => z2 (h8 b (t1.1 b (List.mem_append_left _ (List.mem_append_left _ z))))
  rw [frz_out hb]
  exact h4 b z1 z2
theorem Stt.fz (h : Stt K F0 H0 H σ ρ (v :: vs) (x :: xs)) : Stt K F0 H0 H σ ρ (v :: vs) (.sh x.fz :: xs) :=
  Stt.fzs (as := [v]) (bs := [x]) rfl h
/-- a temporary goes into a slot -/
theorem Stt.store (h : Stt K F0 H0 H σ ρ (v :: vs) (x :: xs)) (hi : i < ρ.length) : Stt K F0 H0 H (σ.set i (some v)) (ρ.set i (some x)) vs xs := by
  obtain ⟨F, f, g, h1, h2, h3, h4, h5, h6, h7, h8⟩ := h
  cases h6 with
  | cons a t =>
    rename_i g1 g2
    obtain ⟨f', k1, k2⟩ := Sl.put i h5 hi a
    have s : Sb (g2 ++ f') ((g1 ++ g2) ++ f) := ((Sb.refl g2).app k2).trans (.of_perm (by
      rw [← List.append_assoc]
      exact List.Perm.append_right _ List.perm_append_comm))
    exact ⟨F, f', g2, h1, h2, h3, h4, k1, t, s.2 h7, fun b hb => h8 b (s.1 b hb)⟩
/-- a slot is forgotten -/
theorem Stt.drop (h : Stt K F0 H0 H σ ρ vs xs) (i : Nat) : Stt K F0 H0 H σ (ρ.set i none) vs xs := by
  obtain ⟨F, f, g, h1, h2, h3, h4, h5, h6, h7, h8⟩ := h
  obtain ⟨r, k1, k2⟩ := Sl.drop i h5
  have s : Sb (g ++ r) (g ++ f) := (Sb.refl g).app k2
  exact ⟨F, r, g, h1, h2, h3, h4, k1, h6, s.2 h7, fun b hb => h8 b (s.1 b hb)⟩
theorem Stt.any (h : Stt K F0 H0 H σ ρ vs xs) (hi : ρ[i]? = some none) (y : Option V) : Stt K F0 H0 H (σ.set i y) ρ vs xs := by
  obtain ⟨F, f, g, h1, h2, h3, h4, h5, h6, h7, h8⟩ := h
  exact ⟨F, f, g, h1, h2, h3, h4, Sl.any i y h5 hi, h6, h7, h8⟩
theorem Stt.len (h : Stt K F0 H0 H σ ρ vs xs) : σ.length = ρ.length := by
  obtain ⟨F, f, g, h1, h2, h3, h4, h5, _⟩ := h
  exact Sl.length h5
theorem Stt.lens (h : Stt K F0 H0 H σ ρ vs xs) : vs.length = xs.length := by
  obtain ⟨F, f, g, h1, h2, h3, h4, h5, h6, _⟩ := h
  exact Owns.length h6
/-- a slot's value is taken out of it -/
theorem Stt.take (h : Stt K F0 H0 H σ ρ vs xs) (e : ρ[i]? = some (some x)) : ∃ v, σ[i]? = some (some v) ∧ Stt K F0 H0 H σ (ρ.set i none) (v :: vs) (x :: xs) := by
  obtain ⟨F, f, g, h1, h2, h3, h4, h5, h6, h7, h8⟩ := h
  obtain ⟨v, g1, r, k1, k2, k3, k4⟩ := Sl.take i h5 e
  have s : Sb ((g1 ++ g) ++ r) (g ++ f) := Sb.trans (.of_perm (by
    rw [List.append_assoc]
    exact (List.Perm.append_left _ List.perm_append_comm).trans (by rw [← List.append_assoc]; exact List.perm_append_comm))) ((Sb.refl g).app k4)
  exact ⟨v, k1, F, r, _, h1, h2, h3, h4, k3, .cons k2 h6, s.2 h7, fun b hb => h8 b (s.1 b hb)⟩
/-- what is shared may be told twice -/
theorem Stt.dup (h : Stt K F0 H0 H σ ρ (v :: vs) (.sh d :: xs)) : Stt K F0 H0 H σ ρ (v :: v :: vs) (.sh d :: .sh d :: xs) := by
  obtain ⟨F, f, g, h1, h2, h3, h4, h5, h6, h7, h8⟩ := h
  cases h6 with
  | cons a t =>
    cases a with
    | sh a => exact ⟨F, f, _, h1, h2, h3, h4, h5, .cons (f := []) (.sh a) (.cons (f := []) (.sh a) t), h7, h8⟩
theorem set_back {ρ : DEnv} {i : Nat} {y x : Option Val} (h : i < ρ.length) : (ρ.set i y).set i x = ρ.set i x := by
  rw [List.set_set]
/-- a name is read: what it held is left as it is from now on -/
theorem Stt.read (h : Stt K F0 H0 H σ ρ vs xs) (e : ρ[i]? = some (some x)) : ∃ v, σ[i]? = some (some v) ∧ Stt K F0 H0 H σ (ρ.set i (some (.sh x.fz))) (v :: vs) (.sh x.fz :: xs) := by
  obtain ⟨v, k1, k2⟩ := h.take e
  refine ⟨v, k1, ?_⟩
  have hl : i < ρ.length := (List.getElem?_eq_some_iff.mp e).1
  have q := (k2.fz.dup).store (i := i) (by simpa using hl)
  rw [List.set_set] at q
  have es : σ.set i (some v) = σ := by
    refine List.ext_getElem? fun j => ?_
    by_cases hj : i = j
    · subst hj
      rw [List.getElem?_set_self (by rw [h.len]; exact hl), k1]
    · rw [List.getElem?_set_ne hj]
  rw [es] at q
  exact q
/-- temporaries change places -/
theorem Stt.turn (hl : as.length = bs.length) (h : Stt K F0 H0 H σ ρ (as ++ v :: vs) (bs ++ x :: xs)) : Stt K F0 H0 H σ ρ (v :: (as ++ vs)) (x :: (bs ++ xs)) := by
  obtain ⟨F, f, g, h1, h2, h3, h4, h5, h6, h7, h8⟩ := h
  obtain ⟨g1, g2, a1, a2, s1, s2⟩ := Owns.split hl h6
  cases a2 with
  | cons b t =>
    rename_i g3 g4
    obtain ⟨g5, a5, s5, _⟩ := a1.append t
    have s : Sb ((g3 ++ g5) ++ f) (g ++ f) := Sb.app (Sb.trans ((Sb.refl g3).app s5) (Sb.trans (.of_perm (by
      rw [← List.append_assoc, ← List.append_assoc]
      exact List.Perm.append_right _ List.perm_append_comm)) s1)) (.refl f)
    exact ⟨F, f, _, h1, h2, h3, h4, h5, .cons b a5, s.2 h7, fun b hb => h8 b (s.1 b hb)⟩
theorem Stt.turn' (hl : as.length = bs.length) (h : Stt K F0 H0 H σ ρ (v :: (as ++ vs)) (x :: (bs ++ xs))) : Stt K F0 H0 H σ ρ (as ++ v :: vs) (bs ++ x :: xs) := by
  obtain ⟨F, f, g, h1, h2, h3, h4, h5, h6, h7, h8⟩ := h
  cases h6 with
  | cons b t =>
    rename_i g3 g4
    obtain ⟨g1, g2, a1, a2, s1, s2⟩ := Owns.split hl t
    obtain ⟨g5, a5, s5, _⟩ := a1.append (.cons b a2)
    have s : Sb (g5 ++ f) ((g3 ++ g4) ++ f) := Sb.app (s5.trans (Sb.trans (.of_perm (by
      rw [← List.append_assoc, ← List.append_assoc]
      exact List.Perm.append_right _ List.perm_append_comm)) ((Sb.refl g3).app s1))) (.refl f)
    exact ⟨F, f, _, h1, h2, h3, h4, h5, a5, s.2 h7, fun b hb => h8 b (s.1 b hb)⟩
theorem nodup_new {p : Addr} {l : List Addr} (h : l.Nodup) (n : p ∉ l) : (p :: l).Nodup := List.nodup_cons.mpr ⟨n, h⟩
/-- a new object that is known as it is -/
theorem Stt.laid {p : Addr} {o : HO} (h : Stt K F0 H0 H σ ρ vs xs) (np : H p = none) : ∃ F f g, Same F0 F ∧ Same H0 (upd H p o) ∧ Same (upd F p o) (upd H p o) ∧ Same F (upd F p o) ∧ (∀ b, F0 b = none → H0 b ≠ none → upd F p o b = none) ∧
    Sl K (upd F p o) (upd H p o) σ ρ f ∧ Owns K (upd F p o) (upd H p o) vs xs g ∧ (g ++ f).Nodup ∧ (∀ b ∈ g ++ f, H0 b = none) ∧ F p = none := by
  obtain ⟨F, f, g, h1, h2, h3, h4, h5, h6, h7, h8⟩ := h
  have nF : F p = none := h3.free np
  have n0 : H0 p = none := h2.free np
  have sF : Same F (upd F p o) := fun b u e => by rw [upd_ne (ne_of_none e nF)]; exact e
  have kp : ∀ b, F b = none → H b ≠ none → upd F p o b = none ∧ upd H p o b = H b := fun b z1 z2 => by
    have : b ≠ p := fun e => by subst e; exact z2 np
    rw [upd_ne this, upd_ne this]
    exact ⟨z1, rfl⟩
  refine ⟨F, f, g, h1, fun b u e => by rw [upd_ne (ne_of_none e n0)]; exact h2 _ _ e, fun b u e => ?_, sF, fun b z1 z2 => ?_, Sl.mono sF h5 fun b hb => kp b (Sl.no h5 b hb).1 (Sl.no h5 b hb).2, Owns.mono sF _ _ _ h6 fun b hb => kp b (Owns.no _ _ _ h6 b hb).1 (Owns.no _ _ _ h6 b hb).2, h7, h8, nF⟩
  · by_cases hb : b = p
    · subst hb; rw [upd_same] at e ⊢; exact e
    · rw [upd_ne hb] at e ⊢; exact h3 _ _ e
  · have : b ≠ p := fun e => by subst e; exact z2 n0
    rw [upd_ne this]
    exact h4 b z1 z2
theorem Stt.newTup {p : Addr} {ds : List D} (hl : as.length = ds.length) (h : Stt K F0 H0 H σ ρ (as ++ vs) (ds.map .sh ++ xs)) (np : H p = none) : Stt K F0 H0 (upd H p (.tup as)) σ ρ (.ref p :: vs) (.sh (.tup ds) :: xs) := by
  obtain ⟨F, f, g, h1, h2, h3, h4, h5, h6, h7, h8, h9, h10⟩ := h.laid (o := .tup as) np
  obtain ⟨g1, g2, a1, a2, s1, s2⟩ := Owns.split (by simpa using hl) h7
  obtain ⟨q1, q2⟩ := a1.ats
  have s : Sb (g2 ++ f) (g ++ f) := Sb.app ((Sb.right g1 g2).trans s1) (.refl f)
  exact ⟨_, f, _, h1.trans h4, h2, h3, h5, h6, .cons (f := []) (.sh (.tup (.inl upd_same) q1)) a2, s.2 h8, fun b hb => h9 b (s.1 b hb)⟩
/-- a new list of one's own -/
theorem Stt.newLst {p : Addr} (hl : as.length = bs.length) (h : Stt K F0 H0 H σ ρ (as ++ vs) (bs ++ xs)) (np : H p = none) : Stt K F0 H0 (upd H p (.lst as)) σ ρ (.ref p :: vs) (.lst bs :: xs) := by
  obtain ⟨F, f, g, h1, h2, h3, h4, h5, h6, h7, h8⟩ := h
  have nF : F p = none := h3.free np
  have n0 : H0 p = none := h2.free np
  have kp : ∀ b, H b ≠ none → b ≠ p := fun b z e => by subst e; exact z np
  have h5' : Sl K F (upd H p (.lst as)) σ ρ f := Sl.mono (Same.refl F) h5 fun b hb => ⟨(Sl.no h5 b hb).1, upd_ne (kp b (Sl.no h5 b hb).2)⟩
  have h6' : Owns K F (upd H p (.lst as)) (as ++ vs) (bs ++ xs) g := Owns.mono (Same.refl F) _ _ _ h6 fun b hb => ⟨(Owns.no _ _ _ h6 b hb).1, upd_ne (kp b (Owns.no _ _ _ h6 b hb).2)⟩
  obtain ⟨g1, g2, a1, a2, s1, s2⟩ := Owns.split hl h6'
  have s : Sb ((g1 ++ g2) ++ f) (g ++ f) := s1.app (.refl f)
  have np' : p ∉ (g1 ++ g2) ++ f := fun z => by
    rcases List.mem_append.mp (s.1 p z) with z | z
    · exact (Owns.no _ _ _ h6 p z).2 np
    · exact (Sl.no h5 p z).2 np
  refine ⟨F, f, (p :: g1) ++ g2, h1, fun b u e => by rw [upd_ne (ne_of_none e n0)]; exact h2 _ _ e, fun b u e => by rw [upd_ne (ne_of_none e nF)]; exact h3 _ _ e, h4, h5', .cons (.lst nF upd_same a1) a2, nodup_new (s.2 h7) np', fun b hb => ?_⟩
  rcases List.mem_cons.mp hb with e | hb
  · subst e; exact n0
  · exact h8 b (s.1 b hb)
/-- a list of one's own, held as a temporary, is changed -/
theorem Stt.editTop (hl : as.length = bs.length) (h : Stt K F0 H0 H σ ρ (as ++ v :: vs) (bs ++ .lst ys :: xs)) : ∃ p ws, v = .ref p ∧ H p = some (.lst ws) ∧ ws.length = ys.length ∧
    ∀ ws' ys' us zs, (∀ F H f, Owns K F H (ws ++ as) (ys ++ bs) f → ∃ f1 f2, Owns K F H ws' ys' f1 ∧ Owns K F H us zs f2 ∧ Sb (f1 ++ f2) f) →
      Stt K F0 H0 (upd H p (.lst ws')) σ ρ (.ref p :: (us ++ vs)) (.lst ys' :: (zs ++ xs)) := by
  obtain ⟨F, f, g, h1, h2, h3, h4, h5, h6, h7, h8⟩ := h.turn hl
  cases h6 with
  | cons b t =>
    rename_i g1 g2
    cases b with
    | lst k1 k2 k3 =>
      rename_i p ws g3
      refine ⟨p, ws, rfl, k2, Owns.length k3, fun ws' ys' us zs hc => ?_⟩
      have nd : (p :: ((g3 ++ g2) ++ f)).Nodup := h7
      have ndp := (List.nodup_cons.mp nd).1
      have ne : ∀ b ∈ (g3 ++ g2) ++ f, b ≠ p := fun b hb e => by subst e; exact ndp hb
      have n0 : H0 p = none := h8 p (List.mem_append_left _ (List.mem_append_left _ List.mem_cons_self))
      have t' : Owns K F (upd H p (.lst ws')) (as ++ vs) (bs ++ xs) g2 := Owns.mono (Same.refl F) _ _ _ t fun b hb => ⟨(Owns.no _ _ _ t b hb).1, upd_ne (ne b (List.mem_append_left _ (List.mem_append_right _ hb)))⟩
      have k3' : Owns K F (upd H p (.lst ws')) ws ys g3 := Owns.mono (Same.refl F) _ _ _ k3 fun b hb => ⟨(Owns.no _ _ _ k3 b hb).1, upd_ne (ne b (List.mem_append_left _ (List.mem_append_left _ hb)))⟩
      have h5' : Sl K F (upd H p (.lst ws')) σ ρ f := Sl.mono (Same.refl F) h5 fun b hb => ⟨(Sl.no h5 b hb).1, upd_ne (ne b (List.mem_append_right _ hb))⟩
      obtain ⟨g4, g5, a1, a2, s1, s2⟩ := Owns.split hl t'
      obtain ⟨g6, c1, c2, c3⟩ := k3'.append a1
      obtain ⟨f1, f2, d1, d2, d3⟩ := hc F _ g6 c1
      obtain ⟨g7, e1, e2, e3⟩ := d2.append a2
      have s : Sb ((f1 ++ g7) ++ f) ((g3 ++ g2) ++ f) := Sb.app (((Sb.refl f1).app e2).trans (Sb.trans (by rw [← List.append_assoc]; exact (d3.trans c2).app (.refl g5)) (by rw [List.append_assoc]; exact (Sb.refl g3).app s1))) (.refl f)
      refine ⟨F, f, (p :: f1) ++ g7, h1, fun b u e => by rw [upd_ne (ne_of_none e n0)]; exact h2 _ _ e, fun b u e => by rw [upd_ne (fun z => by subst z; rw [k1] at e; cases e)]; exact h3 _ _ e, h4, h5', .cons (.lst k1 upd_same d1) e1,
        nodup_new (s.2 (List.nodup_cons.mp nd).2) (fun z => ndp (s.1 p z)), fun b hb => ?_⟩
      rcases List.mem_cons.mp hb with e | hb
      · subst e; exact n0
      · exact h8 b (List.mem_cons_of_mem _ (s.1 b hb))
theorem set_same {σ : St} {i : Nat} {v : V} (h : σ[i]? = some (some v)) : σ.set i (some v) = σ := by
  refine List.ext_getElem? fun j => ?_
  by_cases hj : i = j
  · subst hj
    rw [List.getElem?_set_self (List.getElem?_eq_some_iff.mp h).1, h]
  · rw [List.getElem?_set_ne hj]
/-- a slot's list of one's own is changed -/
theorem Stt.edit (hl : as.length = bs.length) (h : Stt K F0 H0 H σ ρ (as ++ vs) (bs ++ xs)) (e : ρ[i]? = some (some (.lst ys))) : ∃ p ws, σ[i]? = some (some (.ref p)) ∧ H p = some (.lst ws) ∧ ws.length = ys.length ∧
    ∀ ws' ys' us zs, (∀ F H f, Owns K F H (ws ++ as) (ys ++ bs) f → ∃ f1 f2, Owns K F H ws' ys' f1 ∧ Owns K F H us zs f2 ∧ Sb (f1 ++ f2) f) →
      Stt K F0 H0 (upd H p (.lst ws')) σ (ρ.set i (some (.lst ys'))) (us ++ vs) (zs ++ xs) := by
  obtain ⟨v, k1, k2⟩ := h.take e
  obtain ⟨p, ws, rfl, q1, q2, q3⟩ := Stt.editTop hl (k2.turn' hl)
  refine ⟨p, ws, k1, q1, q2, fun ws' ys' us zs hc => ?_⟩
  have q := (q3 ws' ys' us zs hc).store (i := i) (by simpa using (List.getElem?_eq_some_iff.mp e).1)
  rw [List.set_set, set_same k1] at q
  exact q
/-- what is shared is read, and more of it may be told -/
theorem Stt.reads {ds : List D} (hl : as.length = ds.length) (h : Stt K F0 H0 H σ ρ (as ++ vs) (ds.map .sh ++ xs)) : ∃ F, Same F H ∧ Ats K F as ds ∧
    ∀ as' ds', Ats K F as' ds' → Stt K F0 H0 H σ ρ (as' ++ vs) (ds'.map .sh ++ xs) := by
  obtain ⟨F, f, g, h1, h2, h3, h4, h5, h6, h7, h8⟩ := h
  obtain ⟨g1, g2, a1, a2, s1, s2⟩ := Owns.split (by simpa using hl) h6
  refine ⟨F, h3, a1.ats.1, fun as' ds' k => ?_⟩
  obtain ⟨g3, c1, c2, c3⟩ := (Owns.of_ats (H := H) k).append a2
  have s : Sb (g3 ++ f) (g ++ f) := Sb.app (Sb.trans (by simpa using c2) ((Sb.right g1 g2).trans s1)) (.refl f)
  exact ⟨F, f, g3, h1, h2, h3, h4, h5, c1, s.2 h7, fun b hb => h8 b (s.1 b hb)⟩
/-- a call: what the callee leaves as it is -/
theorem Stt.call {ds : List D} (hl : as.length = ds.length) (h : Stt K F0 H0 H σ ρ (as ++ vs) (ds.map .sh ++ xs)) : ∃ F, Same F H ∧ Ats K F as ds ∧
    ∀ H' us zs, Stt K F H H' [] [] us zs → Stt K F0 H0 H' σ ρ (us ++ vs) (zs ++ xs) := by
  obtain ⟨F, f, g, h1, h2, h3, h4, h5, h6, h7, h8⟩ := h
  obtain ⟨g1, g2, a1, a2, s1, s2⟩ := Owns.split (by simpa using hl) h6
  refine ⟨F, h3, a1.ats.1, fun H' us zs k => ?_⟩
  obtain ⟨F', f', g', k1, k2, k3, k4, k5, k6, k7, k8⟩ := k
  cases k5
  have same : ∀ b, H b ≠ none → H' b = H b := fun b z => by
    cases e : H b with
    | none => exact absurd e z
    | some u => exact k2 b u e
  have n5 := Sl.no h5
  have n2 := Owns.no _ _ _ a2
  have h5' : Sl K F' H' σ ρ f := Sl.mono k1 h5 fun b hb => ⟨k4 b (n5 b hb).1 (n5 b hb).2, same b (n5 b hb).2⟩
  have a2' : Owns K F' H' vs xs g2 := Owns.mono k1 _ _ _ a2 fun b hb => ⟨k4 b (n2 b hb).1 (n2 b hb).2, same b (n2 b hb).2⟩
  obtain ⟨g3, c1, c2, c3⟩ := k6.append a2'
  rw [List.append_nil] at k7 k8
  have s : Sb (g2 ++ f) (g ++ f) := Sb.app ((Sb.right g1 g2).trans s1) (.refl f)
  have nold : ∀ b ∈ g2 ++ f, H b ≠ none := fun b hb => by
    rcases List.mem_append.mp hb with z | z
    · exact (n2 b z).2
    · exact (n5 b z).2
  have nd : (g' ++ (g2 ++ f)).Nodup := List.nodup_append.mpr ⟨k7, s.2 h7, fun x hx y hy e => by subst e; exact nold x hy (k8 x hx)⟩
  have t : Sb (g3 ++ f) (g' ++ (g2 ++ f)) := by rw [← List.append_assoc]; exact c2.app (.refl f)
  refine ⟨F', f, g3, h1.trans k1, h2.trans k2, k3, fun b z1 z2 => ?_, h5', c1, t.2 nd, fun b hb => ?_⟩
  · refine k4 b (h4 b z1 z2) fun z => ?_
    cases e : H0 b with
    | none => exact z2 e
    | some u => rw [h2 b u e] at z; cases z
  · rcases List.mem_append.mp (t.1 b hb) with z | z
    · exact h2.free (k8 b z)
    · exact h8 b (s.1 b z)
/-- another ground -/
theorem Stt.rebase (h : Stt K F0 H0 H σ ρ vs xs) : ∃ F, Same F H ∧ Same F0 F ∧ Stt K F H0 H σ ρ vs xs ∧ (∀ (as : List V) (ds : List D), as.length = ds.length → Stt K F0 H0 H σ ρ vs xs → True) ∧
    ∀ H' σ' ρ' vs' xs', Stt K F H0 H' σ' ρ' vs' xs' → Stt K F0 H0 H' σ' ρ' vs' xs' := by
  obtain ⟨F, f, g, h1, h2, h3, h4, h5, h6, h7, h8⟩ := h
  refine ⟨F, h3, h1, ⟨F, f, g, Same.refl F, h2, h3, fun b z _ => z, h5, h6, h7, h8⟩, fun _ _ _ _ => trivial, fun H' σ' ρ' vs' xs' k => ?_⟩
  obtain ⟨F', f', g', k1, k2, k3, k4, k5, k6, k7, k8⟩ := k
  exact ⟨F', f', g', h1.trans k1, k2, k3, fun b z1 z2 => k4 b (h4 b z1 z2) z2, k5, k6, k7, k8⟩
/-- .. at which what is shared is told -/
theorem Stt.rebaseAt {ds : List D} (hl : as.length = ds.length) (h : Stt K F0 H0 H σ ρ (as ++ vs) (ds.map .sh ++ xs)) : ∃ F, Same F H ∧ Ats K F as ds ∧ Stt K F H0 H σ ρ vs xs ∧
    ∀ H' σ' ρ' vs' xs', Stt K F H0 H' σ' ρ' vs' xs' → Stt K F0 H0 H' σ' ρ' vs' xs' := by
  obtain ⟨F, f, g, h1, h2, h3, h4, h5, h6, h7, h8⟩ := h
  obtain ⟨g1, g2, a1, a2, s1, s2⟩ := Owns.split (by simpa using hl) h6
  have s : Sb (g2 ++ f) (g ++ f) := Sb.app ((Sb.right g1 g2).trans s1) (.refl f)
  refine ⟨F, h3, a1.ats.1, ⟨F, f, g2, Same.refl F, h2, h3, fun b z _ => z, h5, a2, s.2 h7, fun b hb => h8 b (s.1 b hb)⟩, fun H' σ' ρ' vs' xs' k => ?_⟩
  obtain ⟨F', f', g', k1, k2, k3, k4, k5, k6, k7, k8⟩ := k
  exact ⟨F', f', g', h1.trans k1, k2, k3, fun b z1 z2 => k4 b (h4 b z1 z2) z2, k5, k6, k7, k8⟩
/-- slots all forgotten -/
theorem Stt.out (h : Stt K F0 H0 H σ ρ vs xs) : Stt K F0 H0 H [] [] vs xs := by
  obtain ⟨F, f, g, h1, h2, h3, h4, h5, h6, h7, h8⟩ := h
  have s : Sb (g ++ []) (g ++ f) := (Sb.refl g).app (.nil f)
  exact ⟨F, [], g, h1, h2, h3, h4, .nil, h6, s.2 h7, fun b hb => h8 b (s.1 b hb)⟩
theorem Stt.less (h : Stt K F0 H0 H σ ρ vs xs) (hl : σ'.length = σ.length) (k : ∀ (i : Nat) v x, σ[i]? = some (some v) → ρ[i]? = some (some x) → σ'[i]? = some (some v)) : Stt K F0 H0 H σ' ρ vs xs := by
  obtain ⟨F, f, g, h1, h2, h3, h4, h5, h6, h7, h8⟩ := h
  exact ⟨F, f, g, h1, h2, h3, h4, Sl.less h5 hl k, h6, h7, h8⟩
theorem Stt.begin {F H : Hp} {ds : List D} (hF : Same F H) (h : Ats K F as ds) (n : Nat) : Stt K F H H (as.map some ++ List.replicate n none) (ds.map (fun d => some (.sh d)) ++ List.replicate n none) [] [] := by
  have nn : ∀ n, Sl K F H (List.replicate n none) (List.replicate n none) [] := fun n => by
    induction n with
    | zero => exact .nil
    | succ n ih => exact .un ih
  have q : ∀ (as : List V) (ds : List D), Ats K F as ds → Sl K F H (as.map some ++ List.replicate n none) (ds.map (fun d => some (.sh d)) ++ List.replicate n none) [] := by
    intro as
    induction as with
    | nil => intro ds h; cases h; exact nn n
    | cons a as ih => intro ds h; cases h with | cons h1 h2 => exact .bd (f := []) (.sh h1) (ih _ h2)
  exact ⟨F, [], [], Same.refl _, Same.refl _, hF, fun _ z _ => z, q _ _ h, .nil, by simp, fun b hb => by cases hb⟩
end
end DL

/-! DLc: what code does to a frame's data, and the rules that it is so. -/
namespace DL
open PySem PySem.Spec L2

/-! ### outcomes -/
structure DExn where
  cls : Addr
  own : Bool
  ns : List Str
  ds : List D
inductive R (α : Type) where
  | ok (a : α) (ρ : DEnv)
  | exc (e : DExn) (ρ : DEnv)
  | bad
def R.bind {α β : Type} : R α → (α → DEnv → R β) → R β
  | .ok a ρ, k => k a ρ
  | .exc e ρ, _ => .exc e ρ
  | .bad, _ => .bad
inductive Fl where
  | nx (ρ : DEnv)
  | rt (x : Val) (ρ : DEnv)
  | bk (ρ : DEnv)
  | ct (ρ : DEnv)
  | exc (e : DExn) (ρ : DEnv)
  | bad
def R.fl {α : Type} : R α → (α → DEnv → Fl) → Fl
  | .ok a ρ, k => k a ρ
  | .exc e ρ, _ => .exc e ρ
  | .bad, _ => .bad
@[simp] theorem R.bind_ok {α β : Type} (a : α) (ρ : DEnv) (k : α → DEnv → R β) : (R.ok a ρ).bind k = k a ρ := id rfl
@[simp] theorem R.bind_exc {α β : Type} (e : DExn) (ρ : DEnv) (k : α → DEnv → R β) : (R.exc e ρ : R α).bind k = .exc e ρ := id rfl
@[simp] theorem R.bind_bad {α β : Type} (k : α → DEnv → R β) : (R.bad : R α).bind k = .bad := id rfl
@[simp] theorem R.fl_ok {α : Type} (a : α) (ρ : DEnv) (k : α → DEnv → Fl) : (R.ok a ρ).fl k = k a ρ := id rfl
@[simp] theorem R.fl_exc {α : Type} (e : DExn) (ρ : DEnv) (k : α → DEnv → Fl) : (R.exc e ρ : R α).fl k = .exc e ρ := id rfl
@[simp] theorem R.fl_bad {α : Type} (k : α → DEnv → Fl) : (R.bad : R α).fl k = .bad := id rfl

/-! ### what is wanted of exceptions -/
def okx (X : Cx) (cls : Value) (d : Option Addr) (σ : St) (H : Hp) : Prop := ∀ u s', XE X (fun c d' σ' H' => c = cls ∧ d' = d ∧ σ' = σ ∧ H' = H) u s' → X.xe u s'
theorem takes_okx {X : Cx} : Takes X (okx X) := fun u s' ⟨a, B, sI, pins, σ, H, cls, d, e, I, nb, up, sky, na, os, ag, w⟩ =>
  w u s' ⟨a, B, sI, pins, σ, H, cls, d, e, I, nb, up, sky, na, os, ag, rfl, rfl, rfl, rfl⟩
theorem okx_of {X : Cx} {W : WX} (tk : Takes X W) {cls : Value} {d : Option Addr} {σ : St} {H : Hp} (h : W cls d σ H) : okx X cls d σ H := fun u s' x =>
  tk u s' (by
    obtain ⟨a, B, sI, pins, σ', H', cls', d', e, I, nb, up, sky, na, os, ag, e1, e2, e3, e4⟩ := x
    subst e1 e2 e3 e4
    exact ⟨a, B, sI, pins, _, _, _, _, e, I, nb, up, sky, na, os, ag, h⟩)
def xdOk (H0 H : Hp) (e : DExn) (dx : Option Addr) (ves : List V) : Prop := if e.own = true then ∃ a, dx = some a ∧ H0 a = none ∧ H a = some (.xd (e.ns.zip ves)) else dx = none
theorem xdOk.less {H0 H1 H : Hp} {e : DExn} {dx : Option Addr} {ves : List V} (s : Same H0 H1) (h : xdOk H1 H e dx ves) : xdOk H0 H e dx ves := by
  unfold xdOk at *
  by_cases q : e.own = true
  · rw [if_pos q] at h ⊢
    obtain ⟨a, h1, h2, h3⟩ := h
    exact ⟨a, h1, s.free h2, h3⟩
  · rw [if_neg q] at h ⊢; exact h
def exOk (X : Cx) (F0 H0 : Hp) (e : DExn) (ρ : DEnv) (vs : List V) (xs : List Val) : Prop :=
  ∀ σ' H' dx ves, Stt X.K F0 H0 H' σ' ρ (ves ++ vs) (e.ds.map .sh ++ xs) → ves.length = e.ds.length → xdOk H0 H' e dx ves → okx X (.ref e.cls) dx σ' H'
theorem exOk.more {X : Cx} {F0 H0 : Hp} {e : DExn} {ρ : DEnv} {vs : List V} {xs : List Val} (h : exOk X F0 H0 e ρ vs xs) {v : V} {x : Val} : exOk X F0 H0 e ρ (v :: vs) (x :: xs) :=
  fun σ' H' dx ves s hl hx => h σ' H' dx ves (Stt.turn (by simpa using hl) s).pop hl hx
theorem exOk.mores {X : Cx} {F0 H0 : Hp} {e : DExn} {ρ : DEnv} {vs : List V} {xs : List Val} (h : exOk X F0 H0 e ρ vs xs) : ∀ {as : List V} {bs : List Val}, as.length = bs.length → exOk X F0 H0 e ρ (as ++ vs) (bs ++ xs)
  | [], [], _ => h
  | _ :: as, _ :: bs, hl => (exOk.mores h (as := as) (bs := bs) (by simpa using hl)).more
def post {α : Type} (X : Cx) (F0 H0 : Hp) (vs : List V) (xs : List Val) (P : α → DEnv → Prop) : R α → Prop
  | .ok a ρ => P a ρ
  | .exc e ρ => exOk X F0 H0 e ρ vs xs
  | .bad => False
theorem post_bind {α β : Type} {X : Cx} {F0 H0 : Hp} {vs : List V} {xs : List Val} {P : β → DEnv → Prop} {r : R α} {k : α → DEnv → R β} (h : post X F0 H0 vs xs P (r.bind k)) : post X F0 H0 vs xs (fun a ρ => post X F0 H0 vs xs P (k a ρ)) r := by
  cases r <;> exact h
theorem post.imp {α : Type} {X : Cx} {F0 H0 : Hp} {vs vs' : List V} {xs xs' : List Val} {P P' : α → DEnv → Prop} {r : R α} (h : post X F0 H0 vs xs P r) (hp : ∀ a ρ, P a ρ → P' a ρ) (he : ∀ e ρ, exOk X F0 H0 e ρ vs xs → exOk X F0 H0 e ρ vs' xs') : post X F0 H0 vs' xs' P' r := by
  cases r with
  | ok a ρ => exact hp _ _ h
  | exc e ρ => exact he _ _ h
  | bad => exact h

/-! ### readings -/
def tE (X : Cx) (f : DEnv → R Val) : TE := fun σ H Q => ∃ F0 H0 ρ vs xs, Stt X.K F0 H0 H σ ρ vs xs ∧ post X F0 H0 vs xs (fun x ρ' => ∀ H' v, Stt X.K F0 H0 H' σ ρ' (v :: vs) (x :: xs) → Q v H') (f ρ)
def tT (X : Cx) (f : DEnv → R Bool) : TT := fun σ H Q => ∃ F0 H0 ρ vs xs, Stt X.K F0 H0 H σ ρ vs xs ∧ post X F0 H0 vs xs (fun b ρ' => ∀ H', Stt X.K F0 H0 H' σ ρ' vs xs → Q b H') (f ρ)
def tA (X : Cx) (f : DEnv → R (List Val)) : TA := fun σ H Q => ∃ F0 H0 ρ vs xs, Stt X.K F0 H0 H σ ρ vs xs ∧ post X F0 H0 vs xs (fun ys ρ' => ∀ H' ws, ws.length = ys.length → Stt X.K F0 H0 H' σ ρ' (ws ++ vs) (ys ++ xs) → Q ws H') (f ρ)
def fpost (X : Cx) (F0 H0 : Hp) (vs : List V) (xs : List Val) (D : Ends) : Fl → Prop
  | .nx ρ => ∀ σ' H', Stt X.K F0 H0 H' σ' ρ vs xs → D.nx σ' H'
  | .rt x ρ => ∀ σ' H' v, Stt X.K F0 H0 H' σ' ρ (v :: vs) (x :: xs) → D.rt v H'
  | .bk ρ => ∀ σ' H', Stt X.K F0 H0 H' σ' ρ vs xs → D.bk σ' H'
  | .ct ρ => ∀ σ' H', Stt X.K F0 H0 H' σ' ρ vs xs → D.ct σ' H'
  | .exc e ρ => exOk X F0 H0 e ρ vs xs
  | .bad => False
def tS (X : Cx) (f : DEnv → Fl) : TS := fun D σ H => ∃ F0 H0 ρ vs xs, Stt X.K F0 H0 H σ ρ vs xs ∧ fpost X F0 H0 vs xs D (f ρ)
def DE (X : Cx) (e : Expr) (f : DEnv → R Val) : Prop := PE X e (tE X f)
def DT (X : Cx) (e : Expr) (f : DEnv → R Bool) : Prop := PT X e (tT X f)
def DA (X : Cx) (es : List Expr) (f : DEnv → R (List Val)) : Prop := PA X es (tA X f)
def DS (X : Cx) (s : Stmt) (f : DEnv → Fl) : Prop := PS X s (tS X f)
def DSs (X : Cx) (s : List Stmt) (f : DEnv → Fl) : Prop := PSs X s (tS X f)
section
variable {X : Cx}
theorem PE.imp {e : Expr} {t t' : TE} (h : PE X e t) (k : ∀ σ H Q, t' σ H Q → t σ H Q) : PE X e t' := ⟨fun pins s σ H Q I q => h.run pins s σ H Q I (k σ H Q q)⟩
theorem PT.imp {e : Expr} {t t' : TT} (h : PT X e t) (k : ∀ σ H Q, t' σ H Q → t σ H Q) : PT X e t' := ⟨fun pins s σ H Q I q => h.run pins s σ H Q I (k σ H Q q)⟩
theorem PW.imp {e : Expr} {t t' : TT} (h : PW X e t) (k : ∀ σ H Q, t' σ H Q → t σ H Q) : PW X e t' := ⟨fun w pins s σ H Q I q => h.run w pins s σ H Q I (k σ H Q q)⟩
theorem PA.imp {e : List Expr} {t t' : TA} (h : PA X e t) (k : ∀ σ H Q, t' σ H Q → t σ H Q) : PA X e t' := ⟨fun p pins s σ H Q I q => h.run p pins s σ H Q I (k σ H Q q)⟩
theorem PS.imp {e : Stmt} {t t' : TS} (h : PS X e t) (k : ∀ D σ H, t' D σ H → t D σ H) : PS X e t' := ⟨fun pins s σ H D I q => h.run pins s σ H D I (k D σ H q)⟩
theorem PSs.imp {e : List Stmt} {t t' : TS} (h : PSs X e t) (k : ∀ D σ H, t' D σ H → t D σ H) : PSs X e t' := ⟨fun pins s σ H D I q => h.run pins s σ H D I (k D σ H q)⟩
end

/-! ### expressions -/
def liftO (o : Option Val) (ρ : DEnv) : R Val := match o with
  | some x => .ok x ρ
  | none => .bad
@[simp] theorem liftO_some (x : Val) (ρ : DEnv) : liftO (some x) ρ = .ok x ρ := id rfl
@[simp] theorem liftO_none (ρ : DEnv) : liftO none ρ = .bad := id rfl
def getV : Option (Option Val) → Option Val
  | some (some x) => some x
  | _ => none
def sVar (i : Nat) : DEnv → R Val := fun ρ => match getV ρ[i]? with
  | some (.sh d) => .ok (.sh d) ρ
  | some x => .ok (.sh x.fz) (ρ.set i (some (.sh x.fz)))
  | none => .bad
def sC (d : D) : DEnv → R Val := fun ρ => .ok (.sh d) ρ
def sOp (g : D → D → Option Val) (a b : DEnv → R Val) : DEnv → R Val := fun ρ => (a ρ).bind fun x ρ1 => (b ρ1).bind fun y ρ2 => liftO (g x.fz y.fz) ρ2
def sUn (g : D → Option Val) (a : DEnv → R Val) : DEnv → R Val := fun ρ => (a ρ).bind fun x ρ1 => liftO (g x.fz) ρ1
def sNil : DEnv → R (List Val) := fun ρ => .ok [] ρ
def sCons (a : DEnv → R Val) (r : DEnv → R (List Val)) : DEnv → R (List Val) := fun ρ => (a ρ).bind fun x ρ1 => (r ρ1).bind fun ys ρ2 => .ok (x :: ys) ρ2
section
variable {X : Cx} {a b e : Expr} {fa fb f : DEnv → R Val} {pos : Pos}
theorem getV_some {o : Option (Option Val)} {x : Val} (h : getV o = some x) : o = some (some x) := by
  match o, h with
  | some (some y), h => rw [Option.some.inj h]
theorem de_var {i : Nat} {x : Str} (h : PE X (.Name x pos) (tVar i)) : DE X (.Name x pos) (sVar i) := by
  refine PE.imp h fun σ H Q ⟨F0, H0, ρ, vs, xs, s, q⟩ => ?_
  unfold sVar at q
  cases e : getV ρ[i]? with
  | none => rw [e] at q; exact q.elim
  | some y =>
    rw [e] at q
    obtain ⟨v, k1, k2⟩ := s.read (getV_some e)
    refine ⟨v, k1, ?_⟩
    cases y with
    | sh d =>
      rw [Val.fz, set_same' (getV_some e)] at k2
      exact q H v k2
    | lst ys => exact q H v k2
    | tup ys => exact q H v k2
    | dic b ds => exact q H v k2
where
  set_same' {ρ : DEnv} {i : Nat} {v : Val} (h : ρ[i]? = some (some v)) : ρ.set i (some v) = ρ := by
    refine List.ext_getElem? fun j => ?_
    by_cases hj : i = j
    · subst hj
      rw [List.getElem?_set_self (List.getElem?_eq_some_iff.mp h).1, h]
    · rw [List.getElem?_set_ne hj]
theorem de_c {v : V} {d : D} (h : PE X e (tC v)) (a : ∀ F, At X.K F v d) : DE X e (sC d) :=
  PE.imp h fun σ H Q ⟨F0, H0, ρ, vs, xs, s, q⟩ => q H v (s.scal a)
theorem de_int {i j} : DE X (.Constant (.int i) j pos) (sC (.int i)) := de_c pe_int fun _ => .int i
theorem de_bl {b j} : DE X (.Constant (.bool b) j pos) (sC (.bl b)) := de_c pe_bl fun _ => .bl b
theorem de_non {j} : DE X (.Constant .none j pos) (sC .non) := de_c pe_non fun _ => .non
theorem de_str {x j} : DE X (.Constant (.str x) j pos) (sC (.str x)) := de_c pe_str fun _ => .str x
/-- an operator on data -/
def OpD (X : Cx) (r : R2) (g : D → D → Option Val) : Prop := ∀ F0 H0 H σ ρ vs xs v w d e Q, Stt X.K F0 H0 H σ ρ (w :: v :: vs) (.sh e :: .sh d :: xs) →
  (∃ x, g d e = some x ∧ ∀ H' u, Stt X.K F0 H0 H' σ ρ (u :: vs) (x :: xs) → Q u H') → r v w H Q
theorem Stt.fz2 {K : PySem.W.Frag} {F0 H0 H : Hp} {σ : St} {ρ : DEnv} {vs : List V} {xs : List Val} {v w : V} {x y : Val} (h : Stt K F0 H0 H σ ρ (w :: v :: vs) (y :: x :: xs)) : Stt K F0 H0 H σ ρ (w :: v :: vs) (.sh y.fz :: .sh x.fz :: xs) :=
  Stt.fzs (as := [w, v]) (bs := [y, x]) rfl h
theorem tE_op {r : R2} {g : D → D → Option Val} (hg : OpD X r g) {σ : St} {H : Hp} {Q : VK} (h : tE X (sOp g fa fb) σ H Q) : tOp r (tE X fa) (tE X fb) σ H Q := by
  obtain ⟨F0, H0, ρ, vs, xs, s, q⟩ := h
  refine ⟨F0, H0, ρ, vs, xs, s, (post_bind q).imp (fun x ρ1 q1 H1 v s1 => ?_) fun _ _ z => z⟩
  refine ⟨F0, H0, ρ1, _, _, s1, (post_bind q1).imp (fun y ρ2 q2 H2 w s2 => ?_) fun _ _ z => z.more⟩
  refine hg F0 H0 H2 σ ρ2 vs xs v w x.fz y.fz Q s2.fz2 ?_
  cases e : g x.fz y.fz with
  | none => rw [e] at q2; exact q2.elim
  | some z => rw [e] at q2; exact ⟨z, rfl, q2⟩
theorem de_op {op : Operator} {r : R2} {g : D → D → Option Val} (ho : OpR X (binaryOp op) r) (hg : OpD X r g) (ha : DE X a fa) (hb : DE X b fb) : DE X (.BinOp a op b pos) (sOp g fa fb) :=
  PE.imp (pe_op ho ha hb) fun σ H Q h => tE_op hg h
theorem de_cmp {op : CmpOp} {r : R2} {g : D → D → Option Val} (ho : OpR X (compareOp op) r) (hg : OpD X r g) (ha : DE X a fa) (hb : DE X b fb) (hm : behindInMarks op b = false) : DE X (.Compare a [op] [b] pos) (sOp g fa fb) :=
  PE.imp (pe_cmpR ho ha hb hm) fun σ H Q h => tE_op hg h
theorem de_ix {r : R2} {g : D → D → Option Val} (ho : IxR X r) (hg : OpD X r g) (ha : DE X a fa) (hb : DE X b fb) (hs : PlainIx b) : DE X (.Subscript a b pos) (sOp g fa fb) :=
  PE.imp (pe_ix ho ha hb hs) fun σ H Q h => tE_op hg h
def UnD (X : Cx) (r : V → Hp → VK → Prop) (g : D → Option Val) : Prop := ∀ F0 H0 H σ ρ vs xs v d Q, Stt X.K F0 H0 H σ ρ (v :: vs) (.sh d :: xs) →
  (∃ x, g d = some x ∧ ∀ H' u, Stt X.K F0 H0 H' σ ρ (u :: vs) (x :: xs) → Q u H') → r v H Q
theorem de_un {op : UnaryOp} {r : V → Hp → VK → Prop} {g : D → Option Val} (ho : UnR X (unaryOp op) r) (hg : UnD X r g) (ha : DE X a fa) : DE X (.UnaryOp op a pos) (sUn g fa) :=
  PE.imp (pe_un ho ha) fun σ H Q ⟨F0, H0, ρ, vs, xs, s, q⟩ => by
    refine ⟨F0, H0, ρ, vs, xs, s, (post_bind q).imp (fun x ρ1 q1 H1 v s1 => ?_) fun _ _ z => z⟩
    refine hg F0 H0 H1 σ ρ1 vs xs v x.fz Q s1.fz ?_
    cases e : g x.fz with
    | none => rw [e] at q1; exact q1.elim
    | some z => rw [e] at q1; exact ⟨z, rfl, q1⟩

/-! ### arguments, displays -/
theorem da_nil : DA X [] sNil := PA.imp pa_nil fun σ H Q ⟨F0, H0, ρ, vs, xs, s, q⟩ => q H [] rfl s
theorem da_cons {es : List Expr} {fs : DEnv → R (List Val)} (ha : DE X e fa) (hr : DA X es fs) (hs : starEach (e :: es) X.env = (false, eval e X.env) :: starEach es X.env := by rfl) : DA X (e :: es) (sCons fa fs) :=
  PA.imp (pa_cons ha hr hs) fun σ H Q ⟨F0, H0, ρ, vs, xs, s, q⟩ => by
    refine ⟨F0, H0, ρ, vs, xs, s, (post_bind q).imp (fun x ρ1 q1 H1 v s1 => ?_) fun _ _ z => z⟩
    refine ⟨F0, H0, ρ1, _, _, s1, (post_bind q1).imp (fun ys ρ2 q2 H2 ws hl s2 => ?_) fun _ _ z => z.more⟩
    exact q2 H2 (v :: ws) (by simp [hl]) (Stt.turn hl s2)
/-- a tuple: data where all in it is -/
def shs : List Val → Option (List D)
  | [] => some []
  | .sh d :: xs => match shs xs with
    | some ds => some (d :: ds)
    | none => none
  | _ :: _ => none
theorem shs_map : ∀ {xs : List Val} {ds : List D}, shs xs = some ds → xs = ds.map .sh
  | [], ds, h => by cases h; rfl
  | .sh d :: xs, ds, h => by
    unfold shs at h
    cases e : shs xs with
    | none => rw [e] at h; cases h
    | some es => rw [e] at h; cases h; rw [shs_map e]; rfl
  | .lst _ :: _, _, h => by cases h
  | .tup _ :: _, _, h => by cases h
def mkT (xs : List Val) : Val := match shs xs with
  | some ds => .sh (.tup ds)
  | none => .tup xs
def sTup (fs : DEnv → R (List Val)) : DEnv → R Val := fun ρ => (fs ρ).bind fun xs ρ1 => if xs.length ≤ 1000 then .ok (mkT xs) ρ1 else .bad
def sLst (fs : DEnv → R (List Val)) : DEnv → R Val := fun ρ => (fs ρ).bind fun xs ρ1 => if xs.length ≤ 1000 then .ok (.lst xs) ρ1 else .bad
end
section
variable {K : PySem.W.Frag} {F0 F1 H0 H H' : Hp} {σ σ' : St} {ρ : DEnv} {vs as ws : List V} {xs bs ys : List Val} {v : V} {x : Val} {d : D} {i : Nat}
theorem Stt.newTupO {p : Addr} (hl : as.length = bs.length) (h : Stt K F0 H0 H σ ρ (as ++ vs) (bs ++ xs)) (np : H p = none) : Stt K F0 H0 (upd H p (.tup as)) σ ρ (.ref p :: vs) (.tup bs :: xs) := by
  obtain ⟨F, f, g, h1, h2, h3, h4, h5, h6, h7, h8⟩ := h
  have nF : F p = none := h3.free np
  have n0 : H0 p = none := h2.free np
  have kp : ∀ b, H b ≠ none → b ≠ p := fun b z e => by subst e; exact z np
  have h5' : Sl K F (upd H p (.tup as)) σ ρ f := Sl.mono (Same.refl F) h5 fun b hb => ⟨(Sl.no h5 b hb).1, upd_ne (kp b (Sl.no h5 b hb).2)⟩
  have h6' : Owns K F (upd H p (.tup as)) (as ++ vs) (bs ++ xs) g := Owns.mono (Same.refl F) _ _ _ h6 fun b hb => ⟨(Owns.no _ _ _ h6 b hb).1, upd_ne (kp b (Owns.no _ _ _ h6 b hb).2)⟩
  obtain ⟨g1, g2, a1, a2, s1, s2⟩ := Owns.split hl h6'
  have s : Sb ((g1 ++ g2) ++ f) (g ++ f) := s1.app (.refl f)
  have np' : p ∉ (g1 ++ g2) ++ f := fun z => by
    rcases List.mem_append.mp (s.1 p z) with z | z
    · exact (Owns.no _ _ _ h6 p z).2 np
    · exact (Sl.no h5 p z).2 np
  refine ⟨F, f, (p :: g1) ++ g2, h1, fun b u e => by rw [upd_ne (ne_of_none e n0)]; exact h2 _ _ e, fun b u e => by rw [upd_ne (ne_of_none e nF)]; exact h3 _ _ e, h4, h5', .cons (.tup nF upd_same a1) a2, nodup_new (s.2 h7) np', fun b hb => ?_⟩
  rcases List.mem_cons.mp hb with e | hb
  · subst e; exact n0
  · exact h8 b (s.1 b hb)
theorem Stt.newT {p : Addr} (hl : as.length = bs.length) (h : Stt K F0 H0 H σ ρ (as ++ vs) (bs ++ xs)) (np : H p = none) : Stt K F0 H0 (upd H p (.tup as)) σ ρ (.ref p :: vs) (mkT bs :: xs) := by
  unfold mkT
  cases e : shs bs with
  | none => exact h.newTupO hl np
  | some ds =>
    have q := shs_map e
    subst q
    exact h.newTup (by simpa using hl) np
end
section
variable {X : Cx} {es : List Expr} {fs : DEnv → R (List Val)} {pos : Pos}
theorem small_of {n : Nat} (h : n ≤ 1000) : n ≤ sizeLine := Nat.le_of_lt (small1000 h)
theorem de_tup {k} (h : DA X es fs) : DE X (.Tuple es k pos) (sTup fs) :=
  PE.imp (pe_tup h) fun σ H Q ⟨F0, H0, ρ, vs, xs, s, q⟩ => by
    refine ⟨F0, H0, ρ, vs, xs, s, (post_bind q).imp (fun ys ρ1 q1 H1 ws hl s1 => ?_) fun _ _ z => z⟩
    split at q1
    · rename_i hz
      exact ⟨by rw [hl]; exact small_of hz, fun p np => q1 _ _ (s1.newT hl np)⟩
    · exact q1.elim
theorem de_lst (h : DA X es fs) : DE X (.List es pos) (sLst fs) :=
  PE.imp (pe_lst h) fun σ H Q ⟨F0, H0, ρ, vs, xs, s, q⟩ => by
    refine ⟨F0, H0, ρ, vs, xs, s, (post_bind q).imp (fun ys ρ1 q1 H1 ws hl s1 => ?_) fun _ _ z => z⟩
    split at q1
    · rename_i hz
      exact ⟨by rw [hl]; exact small_of hz, fun p np => q1 _ _ (s1.newLst hl np)⟩
    · exact q1.elim
end

/-! ### tests -/
def asB : D → Option Bool
  | .bl b => some b
  | _ => none
def liftB (o : Option Bool) (ρ : DEnv) : R Bool := match o with
  | some x => .ok x ρ
  | none => .bad
@[simp] theorem liftB_some (x : Bool) (ρ : DEnv) : liftB (some x) ρ = .ok x ρ := id rfl
@[simp] theorem liftB_none (ρ : DEnv) : liftB none ρ = .bad := id rfl
def sTst (f : DEnv → R Val) : DEnv → R Bool := fun ρ => (f ρ).bind fun x ρ1 => liftB (asB x.fz) ρ1
def sAnd (f g : DEnv → R Bool) : DEnv → R Bool := fun ρ => (f ρ).bind fun b ρ1 => if b = true then g ρ1 else .ok false ρ1
def sOr (f g : DEnv → R Bool) : DEnv → R Bool := fun ρ => (f ρ).bind fun b ρ1 => if b = true then .ok true ρ1 else g ρ1
def sNot (f : DEnv → R Bool) : DEnv → R Bool := fun ρ => (f ρ).bind fun b ρ1 => .ok (!b) ρ1
def sOfT (f : DEnv → R Bool) : DEnv → R Val := fun ρ => (f ρ).bind fun b ρ1 => .ok (.sh (.bl b)) ρ1
def sIfE (c : DEnv → R Bool) (f g : DEnv → R Val) : DEnv → R Val := fun ρ => (c ρ).bind fun b ρ1 => if b = true then f ρ1 else g ρ1
section
variable {X : Cx} {a b c e : Expr} {rest : List Expr} {fa fb f : DEnv → R Val} {ta tb tc : DEnv → R Bool} {pos : Pos}
theorem at_bl {K : PySem.W.Frag} {F0 H0 H : Hp} {σ : St} {ρ : DEnv} {vs : List V} {xs : List Val} {v : V} {x : Val} {b : Bool} (h : Stt K F0 H0 H σ ρ (v :: vs) (x :: xs)) (e : asB x.fz = some b) : v = .bl b := by
  have q := h.fz
  obtain ⟨F, _, hA, _⟩ := Stt.reads (as := [v]) (ds := [x.fz]) rfl q
  cases hA with
  | cons a _ =>
    match hx : x.fz, e, a with
    | .bl b', e, .bl _ => rw [Option.some.inj e]
theorem tB_of {f : DEnv → R Val} {σ : St} {H : Hp} {Q : Bool → Hp → Prop} (h : tT X (sTst f) σ H Q) : tE X f σ H (fun x H1 => ∃ k, x = .bl k ∧ Q k H1) := by
  obtain ⟨F0, H0, ρ, vs, xs, s, q⟩ := h
  refine ⟨F0, H0, ρ, vs, xs, s, (post_bind q).imp (fun x ρ1 q1 H1 v s1 => ?_) fun _ _ z => z⟩
  cases e : asB x.fz with
  | none => rw [e] at q1; exact q1.elim
  | some b =>
    rw [e] at q1
    exact ⟨b, at_bl s1 e, q1 _ s1.pop⟩
theorem dt_val (h : DE X e f) (he : ∀ whole, isTrue e X.env whole = (do let v ← whole; standAt e.pos; holding [v] (truthy v)) := by intro _; rfl) : DT X e (sTst f) :=
  PT.imp (pt_val h he) fun σ H Q h => tB_of h
theorem dt_cmp {op : CmpOp} {r : R2} {g : D → D → Option Val} (ho : OpR X (compareOp op) r) (hg : OpD X r g) (ha : DE X a fa) (hb : DE X b fb) (hm : behindInMarks op b = false) : DT X (.Compare a [op] [b] pos) (sTst (sOp g fa fb)) :=
  PT.imp (pt_cmpR ho ha hb hm) fun σ H Q h => by
    obtain ⟨F0, H0, ρ, vs, xs, s, q⟩ := tB_of h
    exact tE_op hg ⟨F0, H0, ρ, vs, xs, s, q⟩
theorem dt_not (h : DT X a ta) : DT X (.UnaryOp .Not a pos) (sNot ta) :=
  PT.imp (pt_not h) fun σ H Q ⟨F0, H0, ρ, vs, xs, s, q⟩ => ⟨F0, H0, ρ, vs, xs, s, (post_bind q).imp (fun b ρ1 q1 H1 s1 => q1 H1 s1) fun _ _ z => z⟩
/-- and, or as tests -/
def DW (X : Cx) (e : Expr) (f : DEnv → R Bool) : Prop := PW X e (tT X f)
theorem dw_and1 (h : DT X a ta) : DW X (.BoolOp .And [a] pos) ta := pw_and1 h
theorem dw_or1 (h : DT X a ta) : DW X (.BoolOp .Or [a] pos) ta := pw_or1 h
theorem dw_and (ha : DT X a ta) (hb : DW X (.BoolOp .And (b :: rest) pos) tb) : DW X (.BoolOp .And (a :: b :: rest) pos) (sAnd ta tb) :=
  PW.imp (pw_and ha hb) fun σ H Q ⟨F0, H0, ρ, vs, xs, s, q⟩ => ⟨F0, H0, ρ, vs, xs, s, (post_bind q).imp (fun b ρ1 q1 H1 s1 => by
    cases b with
    | true => rw [if_pos rfl] at q1 ⊢; exact ⟨F0, H0, ρ1, vs, xs, s1, q1⟩
    | false => rw [if_neg Bool.false_ne_true] at q1 ⊢; exact q1 H1 s1) fun _ _ z => z⟩
theorem dw_or (ha : DT X a ta) (hb : DW X (.BoolOp .Or (b :: rest) pos) tb) : DW X (.BoolOp .Or (a :: b :: rest) pos) (sOr ta tb) :=
  PW.imp (pw_or ha hb) fun σ H Q ⟨F0, H0, ρ, vs, xs, s, q⟩ => ⟨F0, H0, ρ, vs, xs, s, (post_bind q).imp (fun b ρ1 q1 H1 s1 => by
    cases b with
    | true => rw [if_pos rfl] at q1 ⊢; exact q1 H1 s1
    | false => rw [if_neg Bool.false_ne_true] at q1 ⊢; exact ⟨F0, H0, ρ1, vs, xs, s1, q1⟩) fun _ _ z => z⟩
theorem dt_w (h : DW X e ta) : DT X e ta := PW.pt h
/-- and, or, not as values of truths -/
def sAndV (f : DEnv → R Val) (g : DEnv → R Val) : DEnv → R Val := fun ρ => (f ρ).bind fun x ρ1 => (liftB (asB x.fz) ρ1).bind fun b ρ2 => if b = true then g ρ2 else .ok (.sh (.bl false)) ρ2
def sOrV (f : DEnv → R Val) (g : DEnv → R Val) : DEnv → R Val := fun ρ => (f ρ).bind fun x ρ1 => (liftB (asB x.fz) ρ1).bind fun b ρ2 => if b = true then .ok (.sh (.bl true)) ρ2 else g ρ2
def sNotV (f : DEnv → R Val) : DEnv → R Val := fun ρ => (f ρ).bind fun x ρ1 => (liftB (asB x.fz) ρ1).bind fun b ρ2 => .ok (.sh (.bl (!b))) ρ2
theorem de_one {op} (h : DE X a f) : DE X (.BoolOp op [a] pos) f := pe_one h
theorem de_and (ha : DE X a fa) (hb : DE X (.BoolOp .And (b :: rest) pos) fb) : DE X (.BoolOp .And (a :: b :: rest) pos) (sAndV fa fb) :=
  PE.imp (pe_and ha hb) fun σ H Q ⟨F0, H0, ρ, vs, xs, s, q⟩ => by
    refine ⟨F0, H0, ρ, vs, xs, s, (post_bind q).imp (fun x ρ1 q1 H1 v s1 => ?_) fun _ _ z => z⟩
    cases e : asB x.fz with
    | none => rw [e] at q1; exact q1.elim
    | some k =>
      rw [e] at q1
      refine ⟨k, at_bl s1 e, ?_⟩
      cases k with
      | true => rw [if_pos rfl]; exact ⟨F0, H0, ρ1, vs, xs, s1.pop, q1⟩
      | false => rw [if_neg Bool.false_ne_true]; exact q1 H1 _ (s1.pop.scal fun _ => .bl false)
theorem de_or (ha : DE X a fa) (hb : DE X (.BoolOp .Or (b :: rest) pos) fb) : DE X (.BoolOp .Or (a :: b :: rest) pos) (sOrV fa fb) :=
  PE.imp (pe_or ha hb) fun σ H Q ⟨F0, H0, ρ, vs, xs, s, q⟩ => by
    refine ⟨F0, H0, ρ, vs, xs, s, (post_bind q).imp (fun x ρ1 q1 H1 v s1 => ?_) fun _ _ z => z⟩
    cases e : asB x.fz with
    | none => rw [e] at q1; exact q1.elim
    | some k =>
      rw [e] at q1
      refine ⟨k, at_bl s1 e, ?_⟩
      cases k with
      | false => rw [if_neg Bool.false_ne_true]; exact ⟨F0, H0, ρ1, vs, xs, s1.pop, q1⟩
      | true => rw [if_pos rfl]; exact q1 H1 _ (s1.pop.scal fun _ => .bl true)
theorem de_not (ha : DE X a fa) : DE X (.UnaryOp .Not a pos) (sNotV fa) :=
  PE.imp (pe_not ha) fun σ H Q ⟨F0, H0, ρ, vs, xs, s, q⟩ => by
    refine ⟨F0, H0, ρ, vs, xs, s, (post_bind q).imp (fun x ρ1 q1 H1 v s1 => ?_) fun _ _ z => z⟩
    cases e : asB x.fz with
    | none => rw [e] at q1; exact q1.elim
    | some k =>
      rw [e] at q1
      exact ⟨k, at_bl s1 e, q1 H1 _ (s1.pop.scal fun _ => .bl _)⟩
theorem de_ifE (hc : DT X c tc) (ha : DE X a fa) (hb : DE X b fb) : DE X (.IfExp c a b pos) (sIfE tc fa fb) :=
  PE.imp (pe_ifExp hc ha hb) fun σ H Q ⟨F0, H0, ρ, vs, xs, s, q⟩ => by
    refine ⟨F0, H0, ρ, vs, xs, s, (post_bind q).imp (fun b ρ1 q1 H1 s1 => ?_) fun _ _ z => z⟩
    cases b with
    | true => rw [if_pos rfl] at q1 ⊢; exact ⟨F0, H0, ρ1, vs, xs, s1, q1⟩
    | false => rw [if_neg Bool.false_ne_true] at q1 ⊢; exact ⟨F0, H0, ρ1, vs, xs, s1, q1⟩
end

/-! ### statements -/
def sSkip : DEnv → Fl := fun ρ => .nx ρ
def Fl.seq : Fl → (DEnv → Fl) → Fl
  | .nx ρ, k => k ρ
  | r, _ => r
@[simp] theorem Fl.seq_nx (ρ : DEnv) (k : DEnv → Fl) : (Fl.nx ρ).seq k = k ρ := id rfl
@[simp] theorem Fl.seq_rt (x : Val) (ρ : DEnv) (k : DEnv → Fl) : (Fl.rt x ρ).seq k = .rt x ρ := id rfl
@[simp] theorem Fl.seq_bk (ρ : DEnv) (k : DEnv → Fl) : (Fl.bk ρ).seq k = .bk ρ := id rfl
@[simp] theorem Fl.seq_ct (ρ : DEnv) (k : DEnv → Fl) : (Fl.ct ρ).seq k = .ct ρ := id rfl
@[simp] theorem Fl.seq_exc (e : DExn) (ρ : DEnv) (k : DEnv → Fl) : (Fl.exc e ρ).seq k = .exc e ρ := id rfl
@[simp] theorem Fl.seq_bad (k : DEnv → Fl) : Fl.bad.seq k = .bad := id rfl
def sSeq (s t : DEnv → Fl) : DEnv → Fl := fun ρ => (s ρ).seq t
def sSet (i : Nat) (f : DEnv → R Val) : DEnv → Fl := fun ρ => (f ρ).fl fun x ρ1 => if i < ρ1.length then .nx (ρ1.set i (some x)) else .bad
def sRet (f : DEnv → R Val) : DEnv → Fl := fun ρ => (f ρ).fl fun x ρ1 => .rt x ρ1
def sDo (f : DEnv → R Val) : DEnv → Fl := fun ρ => (f ρ).fl fun _ ρ1 => .nx ρ1
def sIf (c : DEnv → R Bool) (s t : DEnv → Fl) : DEnv → Fl := fun ρ => (c ρ).fl fun b ρ1 => if b = true then s ρ1 else t ρ1
def sBrk : DEnv → Fl := fun ρ => .bk ρ
def sCnt : DEnv → Fl := fun ρ => .ct ρ
theorem post_fl {α : Type} {X : Cx} {F0 H0 : Hp} {vs : List V} {xs : List Val} {D : Ends} {r : R α} {k : α → DEnv → Fl} (h : fpost X F0 H0 vs xs D (r.fl k)) : post X F0 H0 vs xs (fun a ρ => fpost X F0 H0 vs xs D (k a ρ)) r := by
  cases r <;> exact h
section
variable {X : Cx} {e c : Expr} {f : DEnv → R Val} {tc : DEnv → R Bool} {st : Stmt} {rest sa sb : List Stmt} {s t : DEnv → Fl} {pos : Pos}
theorem dss_nil : DSs X [] sSkip := PSs.imp pss_nil fun D σ H ⟨F0, H0, ρ, vs, xs, s, q⟩ => q σ H s
theorem dss_one (h : DS X st s) : DSs X [st] s := pss_one h
theorem dss_cons (h1 : DS X st s) (h2 : DSs X rest t) : DSs X (st :: rest) (sSeq s t) :=
  PSs.imp (pss_cons h1 h2) fun D σ H ⟨F0, H0, ρ, vs, xs, h, q⟩ => by
    refine ⟨F0, H0, ρ, vs, xs, h, ?_⟩
    unfold sSeq at q
    cases e : s ρ with
    | nx ρ' =>
      rw [e] at q
      exact fun σ' H' h' => ⟨F0, H0, ρ', vs, xs, h', q⟩
    | rt x ρ' => rw [e] at q; exact q
    | bk ρ' => rw [e] at q; exact q
    | ct ρ' => rw [e] at q; exact q
    | exc x ρ' => rw [e] at q; exact q
    | bad => rw [e] at q; exact q
theorem ds_set {i : Nat} {x : Str} {pos' : Pos} (hN : X.N.Nodup) (hi : X.N[i]? = some x) (hx : Loc X.env.scope x) (he : DE X e f) (hs : swapsWith e (some (.Name x pos')) pos.line X.env = pure false := by rfl) (hf : X.fn x = true ∨ X.env.scope.names.lookup x = some .local := by first | exact .inl rfl | exact .inr rfl | assumption) :
    DS X (.Assign [.Name x pos'] e pos) (sSet i f) :=
  PS.imp (ps_set hN hi hx he hs hf) fun D σ H ⟨F0, H0, ρ, vs, xs, s, q⟩ => by
    refine ⟨F0, H0, ρ, vs, xs, s, (post_fl q).imp (fun x ρ1 q1 H1 v s1 => ?_) fun _ _ z => z⟩
    split at q1
    · exact q1 _ _ (s1.store (by assumption))
    · exact q1.elim
theorem ds_ret (he : DE X e f) : DS X (.Return (some e) pos) (sRet f) :=
  PS.imp (ps_ret he) fun D σ H ⟨F0, H0, ρ, vs, xs, s, q⟩ => ⟨F0, H0, ρ, vs, xs, s, (post_fl q).imp (fun x ρ1 q1 H1 v s1 => q1 σ H1 v s1) fun _ _ z => z⟩
theorem ds_do (he : DE X e f) (hs : swapsWith e none pos.line X.env = pure false := by rfl) : DS X (.Expr e pos) (sDo f) :=
  PS.imp (ps_expr he hs) fun D σ H ⟨F0, H0, ρ, vs, xs, s, q⟩ => ⟨F0, H0, ρ, vs, xs, s, (post_fl q).imp (fun x ρ1 q1 H1 v s1 => q1 σ H1 s1.pop) fun _ _ z => z⟩
theorem ds_if (hc : DT X c tc) (ha : DSs X sa s) (hb : DSs X sb t) : DS X (.If c sa sb pos) (sIf tc s t) :=
  PS.imp (ps_if hc ha hb) fun D σ H ⟨F0, H0, ρ, vs, xs, h, q⟩ => by
    refine ⟨F0, H0, ρ, vs, xs, h, (post_fl q).imp (fun b ρ1 q1 H1 s1 => ?_) fun _ _ z => z⟩
    cases b with
    | true => rw [if_pos rfl] at q1 ⊢; exact ⟨F0, H0, ρ1, vs, xs, s1, q1⟩
    | false => rw [if_neg Bool.false_ne_true] at q1 ⊢; exact ⟨F0, H0, ρ1, vs, xs, s1, q1⟩
theorem ds_brk : DS X (.Break pos) sBrk := PS.imp ps_break fun D σ H ⟨F0, H0, ρ, vs, xs, s, q⟩ => q σ H s
theorem ds_cnt : DS X (.Continue pos) sCnt := PS.imp ps_continue fun D σ H ⟨F0, H0, ρ, vs, xs, s, q⟩ => q σ H s
theorem ds_pass : DS X (.Pass pos) sSkip := PS.imp ps_pass fun D σ H ⟨F0, H0, ρ, vs, xs, s, q⟩ => q σ H s
/-- some slots are forgotten -/
def forget : List Nat → DEnv → DEnv
  | [], ρ => ρ
  | i :: is, ρ => forget is (ρ.set i none)
theorem Stt.forget {K : PySem.W.Frag} {F0 H0 H : Hp} {σ : St} {vs : List V} {xs : List Val} : ∀ {is : List Nat} {ρ : DEnv}, Stt K F0 H0 H σ ρ vs xs → Stt K F0 H0 H σ (DL.forget is ρ) vs xs
  | [], _, h => h
  | i :: is, _, h => Stt.forget (is := is) (h.drop i)
end
end DL

/-! DLd: targets, loops, comprehensions, defs and their calls. -/
namespace DL
open PySem PySem.Spec L2

section
variable {K : PySem.W.Frag} {F0 F1 H0 H H' : Hp} {σ σ' : St} {ρ : DEnv} {vs as ws : List V} {xs bs ys : List Val} {v : V} {x : Val} {d : D} {i : Nat}
theorem Stt.sub (h : Stt K F0 H0 H σ ρ vs xs) : Same F0 H := by
  obtain ⟨F, f, g, h1, h2, h3, _⟩ := h
  exact h1.trans h3
theorem Stt.sub0 (h : Stt K F0 H0 H σ ρ vs xs) : Same H0 H := by
  obtain ⟨F, f, g, h1, h2, _⟩ := h
  exact h2
theorem Stt.push0 (h : Stt K F0 H0 H σ ρ vs xs) (a : At K F0 v d) : Stt K F0 H0 H σ ρ (v :: vs) (.sh d :: xs) := by
  obtain ⟨F, f, g, h1, h2, h3, h4, h5, h6, h7, h8⟩ := h
  exact ⟨F, f, g, h1, h2, h3, h4, h5, .cons (f := []) (.sh (At.mono h1 _ _ a)) h6, h7, h8⟩
end

/-! ### targets -/
/-- is: the slots that it writes -/
def tG (X : Cx) (is : List Nat) (g : D → DEnv → Option DEnv) : TG := fun v σ H Q => ∃ F0 H0 ρ vs xs d, Stt X.K F0 H0 H σ ρ (v :: vs) (.sh d :: xs) ∧ ∃ ρ', g d ρ = some ρ' ∧
  ∀ σ' H', σ'.length = σ.length → (∀ j, j ∉ is → σ'[j]? = σ[j]?) → Stt X.K F0 H0 H' σ' ρ' vs xs → Q σ' H'
def tGs (X : Cx) (is : List Nat) (g : List D → DEnv → Option DEnv) : TGs := fun ws σ H Q => ∃ F0 H0 ρ vs xs ds, Stt X.K F0 H0 H σ ρ (ws ++ vs) (ds.map .sh ++ xs) ∧ ws.length = ds.length ∧ ∃ ρ', g ds ρ = some ρ' ∧
  ∀ σ' H', σ'.length = σ.length → (∀ j, j ∉ is → σ'[j]? = σ[j]?) → Stt X.K F0 H0 H' σ' ρ' vs xs → Q σ' H'
def DG (X : Cx) (e : Expr) (is : List Nat) (g : D → DEnv → Option DEnv) : Prop := PG X e (tG X is g)
def DGs (X : Cx) (e : List Expr) (is : List Nat) (g : List D → DEnv → Option DEnv) : Prop := PGs X e (tGs X is g)
theorem PG.imp {X : Cx} {e : Expr} {t t' : TG} (h : PG X e t) (k : ∀ v σ H Q, t' v σ H Q → t v σ H Q) : PG X e t' := ⟨fun pins s σ H v u Q I r q => h.run pins s σ H v u Q I r (k v σ H Q q)⟩
theorem PGs.imp {X : Cx} {e : List Expr} {t t' : TGs} (h : PGs X e t) (k : ∀ v σ H Q, t' v σ H Q → t v σ H Q) : PGs X e t' := ⟨fun pins s σ H v u Q I r q => h.run pins s σ H v u Q I r (k v σ H Q q)⟩
theorem PG.or {X : Cx} {e : Expr} {t t' : TG} (h : PG X e t) (h' : PG X e t') : PG X e (fun v σ H Q => t v σ H Q ∨ t' v σ H Q) := ⟨fun pins s σ H v u Q I r q => q.elim (h.run pins s σ H v u Q I r) (h'.run pins s σ H v u Q I r)⟩
def kName (i : Nat) : D → DEnv → Option DEnv := fun d ρ => if i < ρ.length then some (ρ.set i (some (.sh d))) else none
def kNil : List D → DEnv → Option DEnv
  | [], ρ => some ρ
  | _ :: _, _ => none
def kCons (g : D → DEnv → Option DEnv) (r : List D → DEnv → Option DEnv) : List D → DEnv → Option DEnv
  | [], _ => none
  | d :: ds, ρ => (g d ρ).bind fun ρ1 => r ds ρ1
/-- a tuple's or a list's items -/
def kSeq (n : Nat) (r : List D → DEnv → Option DEnv) : D → DEnv → Option DEnv
  | .tup ds, ρ => if ds.length = n then r ds ρ else none
  | .lst ds, ρ => if ds.length = n then r ds ρ else none
  | .scr ds, ρ => if ds.length = n then r ds ρ else none
  | _, _ => none
section
variable {X : Cx} {pos : Pos} {is js : List Nat} {g : D → DEnv → Option DEnv} {gs : List D → DEnv → Option DEnv}
theorem dg_name {i : Nat} {x : Str} (hN : X.N.Nodup) (hi : X.N[i]? = some x) (hx : Loc X.env.scope x) (hf : X.fn x = true ∨ X.env.scope.names.lookup x = some .local := by first | exact .inl rfl | exact .inr rfl | assumption) : DG X (.Name x pos) [i] (kName i) :=
  PG.imp (pg_name hN hi hx hf) fun v σ H Q ⟨F0, H0, ρ, vs, xs, d, s, ρ', e, q⟩ => by
    unfold kName at e
    split at e
    · cases e
      exact q _ _ (by simp) (fun j hj => List.getElem?_set_ne (fun z => hj (by simp [z]))) (s.store (by assumption))
    · cases e
theorem dgs_nil : DGs X [] [] kNil :=
  PGs.imp pgs_nil fun ws σ H Q ⟨F0, H0, ρ, vs, xs, ds, s, hl, ρ', e, q⟩ => by
    match ds, e with
    | [], e =>
      cases e
      obtain rfl : ws = [] := List.length_eq_zero_iff.mp hl
      exact ⟨rfl, q σ H rfl (fun _ _ => rfl) s⟩
theorem dgs_cons {e : Expr} {es : List Expr} (h1 : DG X e is g) (h2 : DGs X es js gs)
    (hs : (assignEach (e :: es) X.env).map (·.2) = assign e X.env :: (assignEach es X.env).map (·.2) := by rfl) : DGs X (e :: es) (is ++ js) (kCons g gs) :=
  PGs.imp (pgs_cons h1 h2 hs) fun ws σ H Q ⟨F0, H0, ρ, vs, xs, ds, s, hl, ρ', e, q⟩ => by
    match ds, e with
    | d :: ds, e =>
      match ws, hl with
      | w :: ws, hl =>
        have hl : ws.length = ds.length := by simpa using hl
        unfold kCons at e
        obtain ⟨ρ1, e1, e2⟩ := Option.bind_eq_some_iff.mp e
        have s : Stt X.K F0 H0 H σ ρ (w :: (ws ++ vs)) (.sh d :: (ds.map .sh ++ xs)) := s
        refine ⟨w, ws, rfl, F0, H0, ρ, ws ++ vs, ds.map .sh ++ xs, d, s, ρ1, e1, fun σ1 H1 l1 k1 s1 => ?_⟩
        exact ⟨F0, H0, ρ1, vs, xs, ds, s1, hl, ρ', e2, fun σ2 H2 l2 k2 s2 => q σ2 H2 (l2.trans l1) (fun j hj => (k2 j fun z => hj (List.mem_append_right _ z)).trans (k1 j fun z => hj (List.mem_append_left _ z))) s2⟩
theorem dg_seq {es : List Expr} {k : Nat} {n : Nat} (hc : X.calm = true) (h : DGs X es is gs)
    (hn : (assignEach es X.env).length = n := by rfl) (hst : (assignEach es X.env).findIdx? (·.1) = none := by rfl) : DG X (.Tuple es k pos) is (kSeq n gs) :=
  PG.imp (PG.or (pg_tup hc h hn hst) (pg_lst hc h hn hst)) fun v σ H Q ⟨F0, H0, ρ, vs, xs, d, s, ρ', e, q⟩ => by
    obtain ⟨F, hF, hA, tell⟩ := Stt.reads (as := [v]) (ds := [d]) rfl s
    cases hA with
    | cons a _ =>
      cases a with
      | @tup _ us ds hs ha =>
        have e' : (if ds.length = n then gs ds ρ else none) = some ρ' := e
        by_cases hd : ds.length = n
        · rw [if_pos hd] at e'
          exact .inl ⟨_, us, rfl, sameT hF hs, ha.length.trans hd, F0, H0, ρ, vs, xs, ds, tell us ds ha, ha.length, ρ', e', q⟩
        · rw [if_neg hd] at e'; cases e'
      | @lst _ us ds hs ha =>
        have e' : (if ds.length = n then gs ds ρ else none) = some ρ' := e
        by_cases hd : ds.length = n
        · rw [if_pos hd] at e'
          exact .inr ⟨_, us, rfl, hF.seq (.of hs), ha.length.trans hd, F0, H0, ρ, vs, xs, ds, tell us ds ha, ha.length, ρ', e', q⟩
        · rw [if_neg hd] at e'; cases e'
      | @scr _ us ds hs ha =>
        have e' : (if ds.length = n then gs ds ρ else none) = some ρ' := e
        by_cases hd : ds.length = n
        · rw [if_pos hd] at e'
          exact .inr ⟨_, us, rfl, hF.seq hs, ha.length.trans hd, F0, H0, ρ, vs, xs, ds, tell us ds ha, ha.length, ρ', e', q⟩
        · rw [if_neg hd] at e'; cases e'
      | junk => cases e
      | exn _ _ _ _ => cases e
      | non => cases e
      | bl _ => cases e
      | int _ => cases e
      | str _ => cases e
      | ins _ _ _ => cases e
def sAsg (f : DEnv → R Val) (g : D → DEnv → Option DEnv) : DEnv → Fl := fun ρ => (f ρ).fl fun x ρ1 => match g x.fz ρ1 with
  | some ρ2 => .nx ρ2
  | none => .bad
theorem ds_asg {tg e : Expr} {f : DEnv → R Val} (he : DE X e f) (hg : DG X tg is g) (hs : swapsWithSole [tg] e pos.line X.env = pure false := by rfl) (hw : swappedStores [tg] e X.env = pure none := by rfl)
    (h1 : (assignEach [tg] X.env).map (·.2) = [assign tg X.env] := by rfl) : DS X (.Assign [tg] e pos) (sAsg f g) :=
  PS.imp (ps_asg he hg hs hw h1) fun D σ H ⟨F0, H0, ρ, vs, xs, s, q⟩ => by
    refine ⟨F0, H0, ρ, vs, xs, s, (post_fl q).imp (fun x ρ1 q1 H1 v s1 => ?_) fun _ _ z => z⟩
    refine ⟨F0, H0, ρ1, vs, xs, x.fz, s1.fz, ?_⟩
    cases e : g x.fz ρ1 with
    | none => rw [e] at q1; exact q1.elim
    | some ρ2 => rw [e] at q1; exact ⟨ρ2, rfl, fun σ' H' _ _ s2 => q1 σ' H' s2⟩
/-- a, b = x, y with names: no tuple is made -/
def sPar (i j : Nat) (f : DEnv → R (List Val)) : DEnv → Fl := fun ρ => (f ρ).fl fun xs ρ1 => match xs with
  | [x, y] => if i < ρ1.length ∧ j < ρ1.length ∧ i ≠ j then .nx ((ρ1.set i (some x)).set j (some y)) else .bad
  | _ => .bad
theorem ds_par {i j : Nat} {x y : Str} {a b : Expr} {f : DEnv → R (List Val)} {px py pt : Pos} {kt k2 pt2} (hc : X.calm = true) (hN : X.N.Nodup) (hi : X.N[i]? = some x) (hj : X.N[j]? = some y) (hij : i ≠ j)
    (hx : X.env.scope.names.lookup x = some .local) (hy : X.env.scope.names.lookup y = some .local) (ha : DA X [a, b] f)
    (hw : swappedStores [.Tuple [.Name x px, .Name y py] kt pt] (.Tuple [a, b] k2 pt2) X.env = pure (some [x, y]))
    (hs : swapsWithSole [.Tuple [.Name x px, .Name y py] kt pt] (.Tuple [a, b] k2 pt2) pos.line X.env = pure false := by rfl) :
    DS X (.Assign [.Tuple [.Name x px, .Name y py] kt pt] (.Tuple [a, b] k2 pt2) pos) (sPar i j f) :=
  PS.imp (ps_par hc hN hi hj hij hx hy ha hw hs) fun D σ H ⟨F0, H0, ρ, vs, xs, s, q⟩ => by
    refine ⟨F0, H0, ρ, vs, xs, s, (post_fl q).imp (fun ys ρ1 q1 H1 ws hl s1 => ?_) fun _ _ z => z⟩
    match ys, ws, hl, s1, q1 with
    | [x, y], [v, w], _, s1, q1 =>
      dsimp only at q1
      split at q1
      · rename_i hh
        refine ⟨v, w, rfl, q1 _ _ ?_⟩
        have s2 := Stt.store (i := j) (Stt.turn (as := [v]) (bs := [x]) rfl s1) hh.2.1
        have s3 := Stt.store (i := i) s2 (by simpa using hh.1)
        rw [List.set_comm _ _ hij.symm, List.set_comm _ _ hij.symm] at s3
        exact s3
      · exact q1.elim
end

/-! ### what is walked -/
def Walk (K : PySem.W.Frag) (F0 : Hp) (J : It) (ds : List D) : Prop := ∀ i H, Same F0 H →
  (∀ d, ds[i]? = some d → J.go i H ∧ ∀ x H', J.yld i H x H' → ∀ H0 σ ρ vs xs, Stt K F0 H0 H σ ρ vs xs → Stt K F0 H0 H' σ ρ (x :: vs) (.sh d :: xs)) ∧ (ds.length ≤ i → J.stop i H)
def tI (X : Cx) (f : DEnv → R (List D)) : TI := fun σ H RR => ∃ F0 H0 ρ vs xs, Stt X.K F0 H0 H σ ρ vs xs ∧ post X F0 H0 vs xs (fun ds ρ' => ∀ F1 H' J, Stt X.K F1 H0 H' σ ρ' vs xs →
  (∀ H' σ' ρ' vs' xs', Stt X.K F1 H0 H' σ' ρ' vs' xs' → Stt X.K F0 H0 H' σ' ρ' vs' xs') → Walk X.K F1 J ds → RR J H') (f ρ)
def DI (X : Cx) (tg e : Expr) (f : DEnv → R (List D)) : Prop := PI X tg e (tI X f)
theorem PI.imp {X : Cx} {tg e : Expr} {t t' : TI} (h : PI X tg e t) (k : ∀ σ H Q, t' σ H Q → t σ H Q) : PI X tg e t' := ⟨fun pins s σ H Q I q => h.run pins s σ H Q I (k σ H Q q)⟩
theorem PI.or {X : Cx} {tg e : Expr} {t t' : TI} (h : PI X tg e t) (h' : PI X tg e t') : PI X tg e (fun σ H Q => t σ H Q ∨ t' σ H Q) := ⟨fun pins s σ H Q I q => q.elim (h.run pins s σ H Q I) (h'.run pins s σ H Q I)⟩
def itemsD : D → Option (List D)
  | .lst ds => some ds
  | .scr ds => some ds
  | .tup ds => some ds
  | _ => none
def liftL (o : Option (List D)) (ρ : DEnv) : R (List D) := match o with
  | some x => .ok x ρ
  | none => .bad
@[simp] theorem liftL_some (x : List D) (ρ : DEnv) : liftL (some x) ρ = .ok x ρ := id rfl
@[simp] theorem liftL_none (ρ : DEnv) : liftL none ρ = .bad := id rfl
theorem walk_list {K : PySem.W.Frag} {F0 : Hp} {a : Addr} {ws : List V} {ds : List D} (hs : SqL K F0 a ws) (ha : Ats K F0 ws ds) : Walk K F0 (Itl K a) ds := fun i H hF => by
  refine ⟨fun d e => ?_, fun hi => ⟨ws, hF.seq hs, by rw [ha.length]; exact hi⟩⟩
  obtain ⟨v, e1, e2⟩ := ha.get e
  refine ⟨⟨ws, v, hF.seq hs, e1⟩, fun x H' hy H0 σ ρ vs xs s => ?_⟩
  obtain ⟨rfl, k⟩ := hy
  have q := (k ws (hF.seq hs)).symm.trans e1
  cases q
  exact s.push0 e2
theorem walk_tup {K : PySem.W.Frag} {F0 : Hp} {a : Addr} {ws : List V} {ds : List D} (hs : TupAt K F0 a ws) (ha : Ats K F0 ws ds) : Walk K F0 (Itt K a) ds := fun i H hF => by
  refine ⟨fun d e => ?_, fun hi => ⟨ws, sameT hF hs, by rw [ha.length]; exact hi⟩⟩
  obtain ⟨v, e1, e2⟩ := ha.get e
  refine ⟨⟨ws, v, sameT hF hs, e1⟩, fun x H' hy H0 σ ρ vs xs s => ?_⟩
  obtain ⟨rfl, k⟩ := hy
  have q := (k ws (sameT hF hs)).symm.trans e1
  cases q
  exact s.push0 e2
def sItems (f : DEnv → R Val) : DEnv → R (List D) := fun ρ => (f ρ).bind fun x ρ1 => liftL (itemsD x.fz) ρ1
theorem PE_Q {X : Cx} {f : DEnv → R Val} {σ : St} {H : Hp} {Q Q' : VK} (h : tE X f σ H Q) (k : ∀ v H, Q v H → Q' v H) : tE X f σ H Q' := by
  obtain ⟨F0, H0, ρ, vs, xs, s, q⟩ := h
  exact ⟨F0, H0, ρ, vs, xs, s, q.imp (fun x ρ1 q1 H' v s1 => k _ _ (q1 H' v s1)) fun _ _ z => z⟩
/-- a list or a tuple is walked -/
theorem pi_seq {X : Cx} {tg l : Expr} {tl : TE} (hl : PE X l tl) : PI X tg l (fun σ H R => tl σ H fun x H1 => ∃ a, x = .ref a ∧ (((∃ xs, SqL X.K H1 a xs) ∧ R (Itl X.K a) H1) ∨ ((∃ xs, SqT X.K H1 a xs) ∧ R (Itt X.K a) H1))) := by
  refine ⟨fun pins s σ H R I h => ?_⟩
  refine thn (hl.run pins s σ H _ I h) fun v s1 ⟨x, H1, I1, r1, q1⟩ => ?_
  obtain ⟨a, e, q⟩ := q1
  subst e
  cases r1
  rcases q with ⟨⟨xs, hq⟩, q⟩ | ⟨⟨xs, hq⟩, q⟩
  · obtain ⟨its, rv, p, hz⟩ := I1.list hq
    refine wpAny_pyIter_list p.isList ?_
    refine ⟨s1.heap.objs.size, [s1.heap.objs.size], _, _, H1, rfl, I1.kept (t' := s1.toks) fun b o e => Heap.get?_push_of_some _ e, turn_list a _, ⟨_, Heap.get?_push_size _ rfl, rfl, rfl⟩, fun b hb => ?_, q⟩
    have e : b = s1.heap.objs.size := by simpa using hb
    subst e
    exact I1.fpOk (Nat.le_refl _) (I1.hok.fresh (Nat.le_refl _))
  · obtain ⟨its, rv, p, hz⟩ := I1.tuple hq
    refine wpAny_pyIter_tuple p ?_
    refine ⟨s1.heap.objs.size, [s1.heap.objs.size], _, _, H1, rfl, I1.kept (t' := s1.toks) fun b o e => Heap.get?_push_of_some _ e, turn_tuple a _, ⟨_, Heap.get?_push_size _ rfl, rfl, rfl⟩, fun b hb => ?_, q⟩
    have e : b = s1.heap.objs.size := by simpa using hb
    subst e
    exact I1.fpOk (Nat.le_refl _) (I1.hok.fresh (Nat.le_refl _))
theorem di_seq {X : Cx} {tg l : Expr} {f : DEnv → R Val} (hl : DE X l f) : DI X tg l (sItems f) :=
  PI.imp (pi_seq hl) fun σ H RR ⟨F0, H0, ρ, vs, xs, s, q⟩ => by
    refine ⟨F0, H0, ρ, vs, xs, s, (post_bind q).imp (fun x ρ1 q1 H1 v s1 => ?_) fun _ _ z => z⟩
    obtain ⟨F, hF, hA, s2, rb⟩ := Stt.rebaseAt (as := [v]) (ds := [x.fz]) rfl s1.fz
    cases hA with
    | cons a _ =>
      cases e : itemsD x.fz with
      | none => rw [e] at q1; exact q1.elim
      | some ds =>
        rw [e] at q1
        match hx : x.fz, e, a with
        | .lst es, e, .lst (vs := us) hs ha =>
          cases e
          exact ⟨_, rfl, .inl ⟨⟨us, hF.seq (.of hs)⟩, q1 F H1 _ s2 rb (walk_list (.of hs) ha)⟩⟩
        | .scr es, e, .scr (vs := us) hs ha =>
          cases e
          exact ⟨_, rfl, .inl ⟨⟨us, hF.seq hs⟩, q1 F H1 _ s2 rb (walk_list hs ha)⟩⟩
        | .tup es, e, .tup (vs := us) hs ha =>
          cases e
          exact ⟨_, rfl, .inr ⟨⟨us, sameT hF hs⟩, q1 F H1 _ s2 rb (walk_tup hs ha)⟩⟩
/-! ranges -/
def rangeL (i : Int) (n : Nat) : List D := (List.range n).map fun (k : Nat) => D.int (i + (k : Int))
theorem walk_range {K : PySem.W.Frag} {F0 : Hp} {i : Int} {n : Nat} : Walk K F0 (Itr i n) (rangeL i n) := fun j H hF => by
  refine ⟨fun d e => ?_, fun hi => (show n ≤ j by simpa [rangeL] using hi)⟩
  unfold rangeL at e
  rw [List.getElem?_map] at e
  cases e1 : (List.range n)[j]? with
  | none => rw [e1] at e; cases e
  | some k =>
    rw [e1] at e
    obtain ⟨h1, h2⟩ := List.getElem?_eq_some_iff.mp e1
    simp at h1 h2
    subst h2
    cases e
    refine ⟨h1, fun x H' hy H0 σ ρ vs xs s => ?_⟩
    obtain ⟨rfl, rfl⟩ := hy
    exact s.scal fun _ => .int _
def bnd62 (i : Int) : Bool := decide (-(2 ^ 62) ≤ i) && decide (i < 2 ^ 62)
def rng1 : List D → Option (List D)
  | [.int j] => if bnd62 j then some (rangeL 0 j.toNat) else none
  | _ => none
def rng2 : List D → Option (List D)
  | [.int i, .int j] => if bnd62 i && bnd62 j then some (rangeL i (j - i).toNat) else none
  | _ => none
theorem rng1_some {ds l : List D} (h : rng1 ds = some l) : ∃ j, ds = [.int j] ∧ bnd62 j = true ∧ l = rangeL 0 j.toNat := by
  unfold rng1 at h
  split at h
  · split at h
    · exact ⟨_, rfl, by assumption, (Option.some.inj h).symm⟩
    · cases h
  · cases h
theorem rng2_some {ds l : List D} (h : rng2 ds = some l) : ∃ i j, ds = [.int i, .int j] ∧ bnd62 i = true ∧ bnd62 j = true ∧ l = rangeL i (j - i).toNat := by
  unfold rng2 at h
  split at h
  · split at h
    · rename_i hb
      rw [Bool.and_eq_true] at hb
      exact ⟨_, _, rfl, hb.1, hb.2, (Option.some.inj h).symm⟩
    · cases h
  · cases h
def sRange (g : List D → Option (List D)) (f : DEnv → R (List Val)) : DEnv → R (List D) := fun ρ => (f ρ).bind fun xs ρ1 => liftL (g (fzs xs)) ρ1
theorem Stt.fzsP {K : PySem.W.Frag} {F0 H0 H : Hp} {σ : St} {ρ : DEnv} {vs as : List V} {xs bs : List Val} (hl : as.length = bs.length) (h : Stt K F0 H0 H σ ρ (as ++ vs) (bs ++ xs)) : as.length = (DL.fzs bs).length ∧ Stt K F0 H0 H σ ρ (as ++ vs) ((DL.fzs bs).map .sh ++ xs) :=
  ⟨by rw [fzs_map, List.length_map]; exact hl, Stt.fzs hl h⟩
theorem Stt.popN {K : PySem.W.Frag} {F0 H0 H : Hp} {σ : St} {ρ : DEnv} {vs : List V} {xs : List Val} : ∀ {as : List V} {bs : List Val}, as.length = bs.length → Stt K F0 H0 H σ ρ (as ++ vs) (bs ++ xs) → Stt K F0 H0 H σ ρ vs xs
  | [], [], _, h => h
  | _ :: _, _ :: _, hl, h => Stt.popN (by simpa using hl) h.pop
theorem bnd_of {i : Int} (h : bnd62 i = true) : -(2 ^ 62) ≤ i ∧ i < 2 ^ 62 := by
  unfold bnd62 at h
  simpa using h
theorem di_range1 {X : Cx} {tg a : Expr} {f : DEnv → R (List Val)} {p pos : Pos} (hg : Gl X "range") (hm : X.mg "range" = none) (ha : DA X [a] f) (hs : starEach [a] X.env = [(false, eval a X.env)] := by rfl) : DI X tg (.Call (.Name "range" p) [a] [] pos) (sRange rng1 f) :=
  PI.imp (pi_range1 hg hm ha hs) fun σ H RR ⟨F0, H0, ρ, vs, xs, s, q⟩ => by
    refine ⟨F0, H0, ρ, vs, xs, s, (post_bind q).imp (fun ys ρ1 q1 H1 ws hl s1 => ?_) fun _ _ z => z⟩
    obtain ⟨hl2, s2⟩ := s1.fzsP hl
    obtain ⟨F, hF, hA, s3, rb⟩ := Stt.rebaseAt hl2 s2
    cases e : rng1 (fzs ys) with
    | none => rw [e] at q1; exact q1.elim
    | some ds =>
      rw [e] at q1
      obtain ⟨j, ej, hb, rfl⟩ := rng1_some e
      rw [ej] at hA
      match ws, hA with
      | [_], .cons (.int _) .nil =>
        obtain ⟨b1, b2⟩ := bnd_of hb
        exact ⟨j, rfl, b1, b2, q1 F H1 _ s3 rb walk_range⟩
theorem di_range2 {X : Cx} {tg a b : Expr} {f : DEnv → R (List Val)} {p pos : Pos} (hg : Gl X "range") (hm : X.mg "range" = none) (ha : DA X [a, b] f) (hs : starEach [a, b] X.env = [(false, eval a X.env), (false, eval b X.env)] := by rfl) (hs2 : starEach [b] X.env = [(false, eval b X.env)] := by rfl) :
    DI X tg (.Call (.Name "range" p) [a, b] [] pos) (sRange rng2 f) :=
  PI.imp (pi_range2 hg hm ha hs hs2) fun σ H RR ⟨F0, H0, ρ, vs, xs, s, q⟩ => by
    refine ⟨F0, H0, ρ, vs, xs, s, (post_bind q).imp (fun ys ρ1 q1 H1 ws hl s1 => ?_) fun _ _ z => z⟩
    obtain ⟨hl2, s2⟩ := s1.fzsP hl
    obtain ⟨F, hF, hA, s3, rb⟩ := Stt.rebaseAt hl2 s2
    cases e : rng2 (fzs ys) with
    | none => rw [e] at q1; exact q1.elim
    | some ds =>
      rw [e] at q1
      obtain ⟨i, j, ej, hb, hb', rfl⟩ := rng2_some e
      rw [ej] at hA
      match ws, hA with
      | [_, _], .cons (.int _) (.cons (.int _) .nil) =>
        obtain ⟨b1, b2⟩ := bnd_of hb
        obtain ⟨b3, b4⟩ := bnd_of hb'
        exact ⟨i, j, rfl, ⟨b1, b2, b3, b4⟩, q1 F H1 _ s3 rb walk_range⟩

/-! ### for -/
def loop (g : D → DEnv → Option DEnv) (b : DEnv → Fl) (fg : List Nat) : List D → DEnv → Fl
  | [], ρ => .nx ρ
  | d :: ds, ρ => match g d ρ with
    | none => .bad
    | some ρ1 => match b ρ1 with
      | .nx ρ2 => loop g b fg ds (forget fg ρ2)
      | .ct ρ2 => loop g b fg ds (forget fg ρ2)
      | .bk ρ2 => .nx (forget fg ρ2)
      | .rt x ρ2 => .rt x ρ2
      | .exc e ρ2 => .exc e ρ2
      | .bad => .bad
def sFor (it : DEnv → R (List D)) (g : D → DEnv → Option DEnv) (b : DEnv → Fl) (fg : List Nat) : DEnv → Fl := fun ρ => (it ρ).fl fun ds ρ1 => loop g b fg ds (forget fg ρ1)
theorem exOk.base {X : Cx} {F0 F1 H0 : Hp} {e : DExn} {ρ : DEnv} {vs : List V} {xs : List Val} (rb : ∀ H' σ' ρ' vs' xs', Stt X.K F1 H0 H' σ' ρ' vs' xs' → Stt X.K F0 H0 H' σ' ρ' vs' xs') (h : exOk X F0 H0 e ρ vs xs) : exOk X F1 H0 e ρ vs xs :=
  fun σ' H' dx ves s hl hx => h σ' H' dx ves (rb _ _ _ _ _ s) hl hx
theorem fpost.base {X : Cx} {F0 F1 H0 : Hp} {D : Ends} {r : Fl} {vs : List V} {xs : List Val} (rb : ∀ H' σ' ρ' vs' xs', Stt X.K F1 H0 H' σ' ρ' vs' xs' → Stt X.K F0 H0 H' σ' ρ' vs' xs') (h : fpost X F0 H0 vs xs D r) : fpost X F1 H0 vs xs D r := by
  cases r with
  | nx ρ => exact fun σ' H' s => h σ' H' (rb _ _ _ _ _ s)
  | rt x ρ => exact fun σ' H' v s => h σ' H' v (rb _ _ _ _ _ s)
  | bk ρ => exact fun σ' H' s => h σ' H' (rb _ _ _ _ _ s)
  | ct ρ => exact fun σ' H' s => h σ' H' (rb _ _ _ _ _ s)
  | exc e ρ => exact exOk.base rb h
  | bad => exact h
section
variable {X : Cx} {tg iter : Expr} {body : List Stmt} {fi : DEnv → R (List D)} {g : D → DEnv → Option DEnv} {b : DEnv → Fl} {is : List Nat} {pos : Pos}
theorem ds_for (fg : List Nat) (hp : PassesOwn (model X.prog X.w) X.A X.env X.xe) (hc : X.calm = true) (hi : DI X tg iter fi) (hg : DG X tg is g) (hb : DSs X body b)
    (hs : ∀ x, foldedSetIterable iter X.env x = pure x := by intro _; rfl) : DS X (.For tg iter body [] pos) (sFor fi g b fg) :=
  PS.imp (ps_for hp hc hi hg hb hs) fun D σ H ⟨F0, H0, ρ, vs, xs, s, q⟩ => by
    refine ⟨F0, H0, ρ, vs, xs, s, (post_fl q).imp (fun ds ρ1 q1 F1 H1 J s1 rb wk => ?_) fun _ _ z => z⟩
    have q2 := fpost.base rb q1
    refine ⟨fun i m σ H => m = ds.length - i ∧ i ≤ ds.length ∧ ∃ ρ, Stt X.K F1 H0 H σ ρ vs xs ∧ fpost X F1 H0 vs xs D (loop g b fg (ds.drop i) ρ), ⟨_, rfl, Nat.zero_le _, _, s1.forget, q2⟩, ?_⟩
    rintro i m σ2 H2 ⟨rfl, hi, ρ2, s2, q3⟩
    obtain ⟨w1, w2⟩ := wk i H2 s2.sub
    by_cases hlt : i < ds.length
    · obtain ⟨go, yl⟩ := w1 ds[i] (List.getElem?_eq_getElem hlt)
      refine .inr ⟨go, fun σ' H' => ∃ ρ, Stt X.K F1 H0 H' σ' ρ vs xs ∧ fpost X F1 H0 vs xs D (loop g b fg (ds.drop (i + 1)) ρ), fun σ' H' ⟨ρ', s', q'⟩ => ⟨ds.length - (i + 1), by omega, rfl, hlt, ρ', s', q'⟩, fun x H' hy => ?_⟩
      have s3 := yl x H' hy H0 σ2 ρ2 vs xs s2
      rw [List.drop_eq_getElem_cons hlt] at q3
      unfold loop at q3
      cases e : g ds[i] ρ2 with
      | none => rw [e] at q3; exact q3.elim
      | some ρ3 =>
        rw [e] at q3
        refine ⟨F1, H0, ρ2, vs, xs, ds[i], s3, ρ3, e, fun σ4 H4 _ _ s4 => ⟨F1, H0, ρ3, vs, xs, s4, ?_⟩⟩
        cases e2 : b ρ3 with
        | nx ρ5 => simp only [e2] at q3; exact fun σ5 H5 s5 => ⟨_, s5.forget, q3⟩
        | ct ρ5 => simp only [e2] at q3; exact fun σ5 H5 s5 => ⟨_, s5.forget, q3⟩
        | bk ρ5 => simp only [e2] at q3; exact fun σ5 H5 s5 => q3 σ5 H5 s5.forget
        | rt y ρ5 => simp only [e2] at q3; exact q3
        | exc y ρ5 => simp only [e2] at q3; exact q3
        | bad => simp only [e2] at q3; exact q3.elim
    · have ei : i = ds.length := by omega
      subst ei
      rw [List.drop_length] at q3
      exact .inl ⟨w2 (Nat.le_refl _), q3 σ2 H2 s2⟩
end

/-! ### while -/
def whileN (c : DEnv → R Bool) (b : DEnv → Fl) (fg : List Nat) : Nat → DEnv → Fl
  | 0, _ => .bad
  | n + 1, ρ => match c ρ with
    | .ok true ρ1 => match b ρ1 with
      | .nx ρ2 => whileN c b fg n (forget fg ρ2)
      | .ct ρ2 => whileN c b fg n (forget fg ρ2)
      | .bk ρ2 => .nx (forget fg ρ2)
      | .rt x ρ2 => .rt x ρ2
      | .exc e ρ2 => .exc e ρ2
      | .bad => .bad
    | .ok false ρ1 => .nx ρ1
    | .exc e ρ1 => .exc e ρ1
    | .bad => .bad
theorem whileN_more (c : DEnv → R Bool) (b : DEnv → Fl) (fg : List Nat) : ∀ n ρ, whileN c b fg n ρ ≠ .bad → whileN c b fg (n + 1) ρ = whileN c b fg n ρ
  | 0, ρ, h => absurd rfl h
  | n + 1, ρ, h => by
    have ih := whileN_more c b fg n
    rw [whileN] at h
    show (match c ρ with
    | .ok true ρ1 => match b ρ1 with
      | .nx ρ2 => whileN c b fg (n + 1) (forget fg ρ2)
      | .ct ρ2 => whileN c b fg (n + 1) (forget fg ρ2)
      | .bk ρ2 => .nx (forget fg ρ2)
      | .rt x ρ2 => .rt x ρ2
      | .exc e ρ2 => .exc e ρ2
      | .bad => .bad
    | .ok false ρ1 => .nx ρ1
    | .exc e ρ1 => .exc e ρ1
    | .bad => .bad) = (match c ρ with
    | .ok true ρ1 => match b ρ1 with
      | .nx ρ2 => whileN c b fg n (forget fg ρ2)
      | .ct ρ2 => whileN c b fg n (forget fg ρ2)
      | .bk ρ2 => .nx (forget fg ρ2)
      | .rt x ρ2 => .rt x ρ2
      | .exc e ρ2 => .exc e ρ2
      | .bad => .bad
    | .ok false ρ1 => .nx ρ1
    | .exc e ρ1 => .exc e ρ1
    | .bad => .bad)
    cases e : c ρ with
    | ok t ρ1 =>
      rw [e] at h
      cases t with
      | true =>
        cases e2 : b ρ1 with
        | nx ρ2 => simp only [e2] at h ⊢; exact ih _ h
        | ct ρ2 => simp only [e2] at h ⊢; exact ih _ h
        | bk ρ2 => simp only [e2]
        | rt x ρ2 => simp only [e2]
        | exc x ρ2 => simp only [e2]
        | bad => simp only [e2]
      | false => rfl
    | exc e ρ1 => rfl
    | bad => rfl
theorem whileN_le (c : DEnv → R Bool) (b : DEnv → Fl) (fg : List Nat) {n m : Nat} {ρ : DEnv} (h : whileN c b fg n ρ ≠ .bad) (hm : n ≤ m) : whileN c b fg m ρ = whileN c b fg n ρ := by
  obtain ⟨k, rfl⟩ := Nat.exists_eq_add_of_le hm
  clear hm
  induction k with
  | zero => rfl
  | succ k ih => rw [← Nat.add_assoc, whileN_more c b fg (n + k) ρ (by rw [ih]; exact h), ih]
open Classical in
noncomputable def sWhile (c : DEnv → R Bool) (b : DEnv → Fl) (fg : List Nat) : DEnv → Fl := fun ρ => if h : ∃ n, whileN c b fg n (forget fg ρ) ≠ .bad then whileN c b fg h.choose (forget fg ρ) else .bad
theorem sWhile_eq {c : DEnv → R Bool} {b : DEnv → Fl} {fg : List Nat} {n : Nat} {ρ : DEnv} (h : whileN c b fg n (forget fg ρ) ≠ .bad) : sWhile c b fg ρ = whileN c b fg n (forget fg ρ) := by
  unfold sWhile
  have hx : ∃ n, whileN c b fg n (forget fg ρ) ≠ .bad := ⟨n, h⟩
  rw [dif_pos hx]
  rcases Nat.le_total n hx.choose with z | z
  · exact whileN_le c b fg h z
  · exact (whileN_le c b fg hx.choose_spec z).symm
section
variable {X : Cx} {ce : Expr} {body : List Stmt} {c : DEnv → R Bool} {b : DEnv → Fl} {pos : Pos}
theorem ds_while (fg : List Nat) (hp : PassesOwn (model X.prog X.w) X.A X.env X.xe) (hc : DT X ce c) (hb : DSs X body b) : DS X (.While ce body [] pos) (sWhile c b fg) :=
  PS.imp (ps_while hp hc hb) fun D σ H ⟨F0, H0, ρ, vs, xs, s, q⟩ => by
    obtain ⟨n, e⟩ : ∃ n, sWhile c b fg ρ = whileN c b fg n (forget fg ρ) := by
      unfold sWhile
      split
      · exact ⟨_, rfl⟩
      · exact ⟨0, rfl⟩
    rw [e] at q
    refine ⟨fun m σ H => ∃ ρ, Stt X.K F0 H0 H σ ρ vs xs ∧ fpost X F0 H0 vs xs D (whileN c b fg m ρ), ⟨n, _, s.forget, q⟩, ?_⟩
    rintro m σ1 H1 ⟨ρ1, s1, q1⟩
    cases m with
    | zero => exact q1.elim
    | succ m =>
      rw [whileN] at q1
      refine ⟨F0, H0, ρ1, vs, xs, s1, ?_⟩
      cases e1 : c ρ1 with
      | bad => rw [e1] at q1; exact q1
      | exc x ρ2 => rw [e1] at q1; exact q1
      | ok t ρ2 =>
        rw [e1] at q1
        intro H2 s2
        cases t with
        | false => rw [if_neg Bool.false_ne_true]; exact q1 σ1 H2 s2
        | true =>
          rw [if_pos rfl]
          refine ⟨fun σ' H' => ∃ ρ, Stt X.K F0 H0 H' σ' ρ vs xs ∧ fpost X F0 H0 vs xs D (whileN c b fg m ρ), fun σ' H' h => ⟨m, Nat.lt_succ_self _, h⟩, F0, H0, ρ2, vs, xs, s2, ?_⟩
          cases e2 : b ρ2 with
          | nx ρ5 => simp only [e2] at q1; exact fun σ5 H5 s5 => ⟨_, s5.forget, q1⟩
          | ct ρ5 => simp only [e2] at q1; exact fun σ5 H5 s5 => ⟨_, s5.forget, q1⟩
          | bk ρ5 => simp only [e2] at q1; exact fun σ5 H5 s5 => q1 σ5 H5 s5.forget
          | rt y ρ5 => simp only [e2] at q1; exact q1
          | exc y ρ5 => simp only [e2] at q1; exact q1
          | bad => simp only [e2] at q1; exact q1.elim
end

/-! ### comprehensions -/
def comp (g : D → DEnv → Option DEnv) (t : DEnv → R Bool) (f : DEnv → R Val) (own : List Nat) : List D → List Val → DEnv → R Val
  | [], acc, ρ => .ok (.lst acc) ρ
  | d :: ds, acc, ρ => match g d ρ with
    | none => .bad
    | some ρ1 => match t ρ1 with
      | .ok true ρ2 => match f ρ2 with
        | .ok x ρ3 => comp g t f own ds (acc ++ [x]) (forget own ρ3)
        | _ => .bad
      | .ok false ρ2 => comp g t f own ds acc (forget own ρ2)
      | _ => .bad
def sComp (it : DEnv → R (List D)) (g : D → DEnv → Option DEnv) (t : DEnv → R Bool) (f : DEnv → R Val) (own : List Nat) : DEnv → R Val := fun ρ => (it ρ).bind fun ds ρ1 => if ds.length ≤ 10000000 then comp g t f own ds [] (forget own ρ1) else .bad
def sYes : DEnv → R Bool := fun ρ => .ok true ρ
theorem forget_none : ∀ {is : List Nat} {ρ : DEnv} {i : Nat} {x : Val}, (forget is ρ)[i]? = some (some x) → i ∉ is ∧ ρ[i]? = some (some x)
  | [], _, _, _, h => ⟨by simp, h⟩
  | j :: is, ρ, i, x, h => by
    obtain ⟨h1, h2⟩ := forget_none (is := is) h
    by_cases e : j = i
    · subst e
      rw [List.getElem?_set] at h2
      split at h2
      · split at h2 <;> cases h2
      · rename_i z; exact absurd rfl z
    · rw [List.getElem?_set_ne e] at h2
      exact ⟨by simp only [List.mem_cons, not_or]; exact ⟨fun z => e z.symm, h1⟩, h2⟩
theorem wipe_out' {σ : St} {i : Nat} : ∀ {is : List Nat}, i ∉ is → (wipe σ is)[i]? = σ[i]?
  | [], _ => rfl
  | j :: is, h => by
    simp only [List.mem_cons, not_or] at h
    unfold wipe
    rw [List.getElem?_set_ne (fun z => h.1 z.symm)]
    exact wipe_out' h.2
theorem wipe_get {σ : St} {i : Nat} : ∀ {is : List Nat}, i ∈ is → i < σ.length → (wipe σ is)[i]? = some none
  | [], h, _ => by cases h
  | j :: is, h, hl => by
    unfold wipe
    by_cases e : j = i
    · subst e
      rw [List.getElem?_set_self (by rw [wipe_length]; exact hl)]
    · rw [List.getElem?_set_ne e]
      exact wipe_get ((List.mem_cons.mp h).resolve_left fun z => e z.symm) hl
theorem wipe_agree {σ σ' : St} {own : List Nat} (hl : σ'.length = σ.length) (k : ∀ j, j ∉ own → σ'[j]? = (wipe σ own)[j]?) : wipe σ' own = wipe σ own := by
  refine List.ext_getElem? fun j => ?_
  by_cases hj : j ∈ own
  · by_cases hlt : j < σ.length
    · rw [wipe_get hj hlt, wipe_get hj (by rw [hl]; exact hlt)]
    · rw [List.getElem?_eq_none (by rw [wipe_length, hl]; omega), List.getElem?_eq_none (by rw [wipe_length]; omega)]
  · rw [wipe_out' hj, k j hj]
/-- the slots agree where something is told -/
theorem Stt.agree {K : PySem.W.Frag} {F0 H0 H : Hp} {σ σ' : St} {ρ : DEnv} {vs : List V} {xs : List Val} {own : List Nat} (h : Stt K F0 H0 H σ' ρ vs xs) (hl : σ'.length = σ.length) (k : ∀ j, j ∉ own → σ'[j]? = σ[j]?) : Stt K F0 H0 H σ (DL.forget own ρ) vs xs :=
  (h.forget (is := own)).less hl.symm fun i v x e1 e2 => by
    obtain ⟨n, _⟩ := forget_none e2
    rw [← k i n]; exact e1
/-- no exception may come -/
def tEN (K : PySem.W.Frag) (f : DEnv → R Val) : TE := fun σ H Q => ∃ F0 H0 ρ vs xs, Stt K F0 H0 H σ ρ vs xs ∧ match f ρ with
  | .ok x ρ' => ∀ H' v, Stt K F0 H0 H' σ ρ' (v :: vs) (x :: xs) → Q v H'
  | _ => False
def tTN (K : PySem.W.Frag) (f : DEnv → R Bool) : TT := fun σ H Q => ∃ F0 H0 ρ vs xs, Stt K F0 H0 H σ ρ vs xs ∧ match f ρ with
  | .ok b ρ' => ∀ H', Stt K F0 H0 H' σ ρ' vs xs → Q b H'
  | _ => False
theorem tEN_tE {X : Cx} {f : DEnv → R Val} {σ : St} {H : Hp} {Q : VK} (h : tEN X.K f σ H Q) : tE X f σ H Q := by
  obtain ⟨F0, H0, ρ, vs, xs, s, q⟩ := h
  refine ⟨F0, H0, ρ, vs, xs, s, ?_⟩
  cases e : f ρ with
  | ok x ρ' => rw [e] at q; exact q
  | exc x ρ' => rw [e] at q; exact q.elim
  | bad => rw [e] at q; exact q
theorem tTN_tT {X : Cx} {f : DEnv → R Bool} {σ : St} {H : Hp} {Q : Bool → Hp → Prop} (h : tTN X.K f σ H Q) : tT X f σ H Q := by
  obtain ⟨F0, H0, ρ, vs, xs, s, q⟩ := h
  refine ⟨F0, H0, ρ, vs, xs, s, ?_⟩
  cases e : f ρ with
  | ok x ρ' => rw [e] at q; exact q
  | exc x ρ' => rw [e] at q; exact q.elim
  | bad => rw [e] at q; exact q
def DTs (X : Cx) (es : List Expr) (f : DEnv → R Bool) : Prop := PTs X es (tT X f)
theorem dts_nil {X : Cx} : DTs X [] sYes := ⟨fun pins s σ H Q I ⟨F0, H0, ρ, vs, xs, st, q⟩ => pts_nil.run pins s σ H Q I (q H st)⟩
theorem dts_one {X : Cx} {c : Expr} {f : DEnv → R Bool} (h : DT X c f) : DTs X [c] f := pts_one h
section
variable {X : Cx} {elt tg iter : Expr} {ifs : List Expr} {scope : Scope} {own : List (Str × Nat)} {pos spos py : Pos} {fi : DEnv → R (List D)} {g : D → DEnv → Option DEnv} {t : DEnv → R Bool} {f : DEnv → R Val} {is : List Nat}
theorem lc_read (hsub : ∀ j, j ∈ is → j ∈ own.map (·.2)) {σ : St} {H : Hp} {Q : VK} (hq : tE X (sComp fi g t f (own.map (·.2))) σ H Q) :
    tLc (tI X fi) (tG X is g) (tTN X.K t) (tEN X.K f) (own.map (·.2)) σ H Q := by
  obtain ⟨F0, H0, ρ, vs, xs, s, q⟩ := hq
  refine ⟨F0, H0, ρ, vs, xs, s, (post_bind q).imp (fun ds ρ1 q1 F1 H1 J s1 rb wk => ?_) fun _ _ z => z⟩
  intro L nL
  split at q1
  rotate_left
  · exact q1.elim
  rename_i hsz
  have big : ∀ n, n ≤ 10000000 → n < sizeLine := fun n h => by rw [sizeLine_eq]; omega
  refine ⟨fun i m H => m = ds.length - i ∧ i ≤ ds.length ∧ ∃ ρ acc, acc.length ≤ i ∧ Stt X.K F1 H0 H σ ρ (.ref L :: vs) (.lst acc :: xs) ∧ (∃ ρ0, ρ = forget (own.map (·.2)) ρ0) ∧ post X F0 H0 vs xs (fun x ρ' => ∀ H' v, Stt X.K F0 H0 H' σ ρ' (v :: vs) (x :: xs) → Q v H') (comp g t f (own.map (·.2)) (ds.drop i) acc ρ),
    ⟨_, rfl, Nat.zero_le _, _, [], Nat.le_refl _, Stt.newLst (as := []) (bs := []) rfl s1.forget nL, ⟨_, rfl⟩, q1⟩, ?_⟩
  rintro i m H2 ⟨rfl, hi, ρ2, acc, hacc, s2, ⟨ρ0, e0⟩, q2⟩
  obtain ⟨w1, w2⟩ := wk i H2 s2.sub
  by_cases hlt : i < ds.length
  · obtain ⟨go, yl⟩ := w1 ds[i] (List.getElem?_eq_getElem hlt)
    refine .inr ⟨go, fun H' => ∃ ρ acc, acc.length ≤ i + 1 ∧ Stt X.K F1 H0 H' σ ρ (.ref L :: vs) (.lst acc :: xs) ∧ (∃ ρ0, ρ = forget (own.map (·.2)) ρ0) ∧ post X F0 H0 vs xs (fun x ρ' => ∀ H' v, Stt X.K F0 H0 H' σ ρ' (v :: vs) (x :: xs) → Q v H') (comp g t f (own.map (·.2)) (ds.drop (i + 1)) acc ρ),
      fun H' h => ⟨ds.length - (i + 1), by omega, rfl, hlt, h⟩, fun x H' hy => ?_⟩
    have s3 := yl x H' hy H0 _ _ _ _ s2
    -- in the block
    have s4 : Stt X.K F1 H0 H' (wipe σ (own.map (·.2))) ρ2 (x :: .ref L :: vs) (.sh ds[i] :: .lst acc :: xs) := by
      refine s3.less (wipe_length _ _) fun j v y e1 e2 => ?_
      rw [e0] at e2
      rw [wipe_out' (forget_none e2).1]; exact e1
    rw [List.drop_eq_getElem_cons hlt] at q2
    unfold comp at q2
    cases e : g ds[i] ρ2 with
    | none => rw [e] at q2; exact q2.elim
    | some ρ3 =>
      simp only [e] at q2
      refine ⟨F1, H0, ρ2, _, _, ds[i], s4, ρ3, e, fun σ5 H5 l5 k5 s5 => ?_⟩
      rw [wipe_length] at l5
      have k5' : ∀ j, j ∉ own.map (·.2) → σ5[j]? = (wipe σ (own.map (·.2)))[j]? := fun j hj => k5 j fun z => hj (hsub j z)
      refine ⟨wipe_agree l5 k5', F1, H0, ρ3, _, _, s5, ?_⟩
      have k6 : ∀ j, j ∉ own.map (·.2) → σ5[j]? = σ[j]? := fun j hj => (k5' j hj).trans (wipe_out' hj)
      cases e2 : t ρ3 with
      | bad => simp only [e2] at q2; exact q2.elim
      | exc z ρ4 => simp only [e2] at q2; exact q2.elim
      | ok b ρ4 =>
        intro H6 s6
        cases b with
        | false =>
          simp only [e2] at q2
          rw [if_neg Bool.false_ne_true]
          exact ⟨_, acc, by omega, s6.agree l5 k6, ⟨_, rfl⟩, q2⟩
        | true =>
          simp only [e2] at q2
          rw [if_pos rfl]
          refine ⟨F1, H0, ρ4, _, _, s6, ?_⟩
          cases e3 : f ρ4 with
          | bad => simp only [e3] at q2; exact q2.elim
          | exc z ρ5 => simp only [e3] at q2; exact q2.elim
          | ok y ρ5 =>
            simp only [e3] at q2
            intro H7 v7 s7
            obtain ⟨p, ws, ep, h7, hl7, ed⟩ := Stt.editTop (as := [v7]) (bs := [y]) rfl s7
            cases ep
            refine ⟨ws, h7, big _ (by omega), _, acc ++ [y], by simp; omega, (ed (ws ++ [v7]) (acc ++ [y]) [] [] fun F H f hO => ⟨f, [], hO, .nil, by rw [List.append_nil]; exact .refl f⟩).agree l5 k6, ⟨_, rfl⟩, q2⟩
  · have ei : i = ds.length := by omega
    subst ei
    rw [List.drop_length] at q2
    exact .inl ⟨w2 (Nat.le_refl _), q2 H2 _ (rb _ _ _ _ _ s2)⟩
theorem de_comp (hc : X.calm = true) (hN : X.N.Nodup) (hi : DI X tg iter fi) (ok : BlkOk X.N X.env.scope scope own) {os : List Nat} (ho : own.map (·.2) = os) (hsub : ∀ j, j ∈ is → j ∈ os)
    (hg : ∀ (s : Shared) (H : Hp) (C : Addr) (cl : List (Str × Addr)) (fp : List Addr), DG (X.blk s H scope (compEnvC scope cl C X.env) fp) tg is g) (ht : ∀ (s : Shared) (H : Hp) (C : Addr) (cl : List (Str × Addr)) (fp : List Addr), DTs (X.blk s H scope (compEnvC scope cl C X.env) fp) ifs t)
    (he : ∀ (s : Shared) (H : Hp) (C : Addr) (cl : List (Str × Addr)) (fp : List Addr), DE (X.blk s H scope (compEnvC scope cl C X.env) fp) elt f) (hs : ∀ x, foldedSetIterable iter X.env x = pure x := by intro _; rfl) :
    DE X (.ListComp elt [⟨tg, iter, ifs, 0⟩] scope pos) (sComp fi g t f os) := by
  subst ho
  exact PE.imp (pe_lc (g := tG X is g) (tt := tTN X.K t) (te := tEN X.K f) hc hN hi ok hg (fun s H C cl fp => ⟨fun pins s' σ H' Q I q => (ht s H C cl fp).run pins s' σ H' Q I (tTN_tT q)⟩) (fun s H C cl fp => ⟨fun pins s' σ H' Q I q => (he s H C cl fp).run pins s' σ H' Q I (tEN_tE q)⟩) hs) fun σ H Q h => lc_read hsub h
theorem ds_setComp {i : Nat} {y : Str} (hc : X.calm = true) (hN : X.N.Nodup) (hy : X.N[i]? = some y) (hyl : X.env.scope.names.lookup y = some .local)
    (hsw : swapsWith (.ListComp elt [⟨tg, iter, ifs, 0⟩] scope pos) (some (.Name y py)) spos.line X.env = pure true) (hi : DI X tg iter fi) (ok : BlkOk X.N X.env.scope scope own) {os : List Nat} (ho : own.map (·.2) = os) (hsub : ∀ j, j ∈ is → j ∈ os)
    (hg : ∀ (s : Shared) (H : Hp) (C : Addr) (cl : List (Str × Addr)) (fp : List Addr), DG (X.blk s H scope (compEnvC scope cl C X.env) fp) tg is g) (ht : ∀ (s : Shared) (H : Hp) (C : Addr) (cl : List (Str × Addr)) (fp : List Addr), DTs (X.blk s H scope (compEnvC scope cl C X.env) fp) ifs t)
    (he : ∀ (s : Shared) (H : Hp) (C : Addr) (cl : List (Str × Addr)) (fp : List Addr), DE (X.blk s H scope (compEnvC scope cl C X.env) fp) elt f) (hs : ∀ x, foldedSetIterable iter X.env x = pure x := by intro _; rfl) :
    DS X (.Assign [.Name y py] (.ListComp elt [⟨tg, iter, ifs, 0⟩] scope pos) spos) (sSet i (sComp fi g t f os)) := by
  subst ho
  refine PS.imp (ps_setLc (g := tG X is g) (tt := tTN X.K t) (te := tEN X.K f) hc hN hy hyl hsw hi ok hg (fun s H C cl fp => ⟨fun pins s' σ H' Q I q => (ht s H C cl fp).run pins s' σ H' Q I (tTN_tT q)⟩) (fun s H C cl fp => ⟨fun pins s' σ H' Q I q => (he s H C cl fp).run pins s' σ H' Q I (tEN_tE q)⟩) hs) fun D σ H ⟨F0, H0, ρ, vs, xs, s, q⟩ => lc_read hsub ⟨F0, H0, ρ, vs, xs, s, (post_fl q).imp (fun x ρ1 q1 H1 v s1 => ?_) fun _ _ z => z⟩
  split at q1
  · exact q1 _ _ (s1.store (by assumption))
  · exact q1.elim
end
end DL

/-! DLe: operators, built-ins, what is one's own. -/
namespace DL
open PySem PySem.Spec L2

/-! ### several rules for one operator -/
def orG (g g' : D → D → Option Val) : D → D → Option Val := fun d e => match g d e with
  | some x => some x
  | none => g' d e
theorem OpD.or {X : Cx} {r r' : R2} {g g' : D → D → Option Val} (h : OpD X r g) (h' : OpD X r' g') : OpD X (fun x y H Q => r x y H Q ∨ r' x y H Q) (orG g g') := fun F0 H0 H σ ρ vs xs v w d e Q s ⟨x, hx, q⟩ => by
  unfold orG at hx
  cases e1 : g d e with
  | some y =>
    rw [e1] at hx
    cases hx
    exact .inl (h F0 H0 H σ ρ vs xs v w d e Q s ⟨_, e1, q⟩)
  | none =>
    rw [e1] at hx
    exact .inr (h' F0 H0 H σ ρ vs xs v w d e Q s ⟨x, hx, q⟩)
section
variable {X : Cx} {K : PySem.W.Frag} {F0 H0 H : Hp} {σ : St} {ρ : DEnv} {vs : List V} {xs : List Val} {v w : V} {d e : D}
theorem Stt.two (s : Stt K F0 H0 H σ ρ (w :: v :: vs) (.sh e :: .sh d :: xs)) : ∃ F, Same F H ∧ At K F v d ∧ At K F w e ∧ (∀ as' ds', Ats K F as' ds' → Stt K F0 H0 H σ ρ (as' ++ vs) (ds'.map .sh ++ xs)) := by
  obtain ⟨F, hF, hA, t⟩ := Stt.reads (as := [w, v]) (ds := [e, d]) rfl s
  cases hA with
  | cons a b =>
    cases b with
    | cons b _ => exact ⟨F, hF, b, a, t⟩
theorem Stt.oneT (s : Stt K F0 H0 H σ ρ (v :: vs) (.sh d :: xs)) : ∃ F, Same F H ∧ At K F v d ∧ (∀ as' ds', Ats K F as' ds' → Stt K F0 H0 H σ ρ (as' ++ vs) (ds'.map .sh ++ xs)) := by
  obtain ⟨F, hF, hA, t⟩ := Stt.reads (as := [v]) (ds := [d]) rfl s
  cases hA with
  | cons a _ => exact ⟨F, hF, a, t⟩
/-- two ints -/
theorem opd_I {C : Int → Int → Prop} [∀ i j, Decidable (C i j)] {f : Int → Int → D} {fv : Int → Int → V} (hf : ∀ F i j, At X.K F (fv i j) (f i j)) :
    OpD X (rI C fv) (fun d e => match d, e with
      | .int i, .int j => if C i j then some (.sh (f i j)) else none
      | _, _ => none) := fun F0 H0 H σ ρ vs xs v w d e Q s ⟨x, hx, q⟩ => by
  obtain ⟨F, hF, a, b, t⟩ := s.two
  match d, e, a, b, hx with
  | .int i, .int j, .int _, .int _, hx =>
    dsimp only at hx
    by_cases hc : C i j
    · rw [if_pos hc] at hx
      cases hx
      exact ⟨i, j, rfl, rfl, hc, q H _ (s.pop.pop.scal fun F => hf F i j)⟩
    · rw [if_neg hc] at hx; cases hx
theorem opd_I0 {f : Int → Int → D} {fv : Int → Int → V} (hf : ∀ F i j, At X.K F (fv i j) (f i j)) :
    OpD X (rI0 fv) (fun d e => match d, e with
      | .int i, .int j => some (.sh (f i j))
      | _, _ => none) := fun F0 H0 H σ ρ vs xs v w d e Q s ⟨x, hx, q⟩ => by
  obtain ⟨F, hF, a, b, t⟩ := s.two
  match d, e, a, b, hx with
  | .int i, .int j, .int _, .int _, hx =>
    cases hx
    exact ⟨i, j, rfl, rfl, q H _ (s.pop.pop.scal fun F => hf F i j)⟩
end

/-! ### arithmetic -/
def addI : D → D → Option Val := fun d e => match d, e with
  | .int i, .int j => some (.sh (.int (i + j)))
  | _, _ => none
def addS : D → D → Option Val := fun d e => match d, e with
  | .str i, .str j => if i.length + j.length ≤ 10000000 then some (.sh (.str (i ++ j))) else none
  | _, _ => none
def addL : D → D → Option Val := fun d e => match d, e with
  | .lst i, .lst j => if i.length + j.length ≤ 10000000 then some (.lst ((i ++ j).map .sh)) else none
  | _, _ => none
def addT : D → D → Option Val := fun d e => match d, e with
  | .tup (i :: is), .tup j => if (i :: is).length + j.length ≤ 10000000 then some (.sh (.tup (i :: is ++ j))) else none
  | _, _ => none
def addD : D → D → Option Val := orG addI (orG addS (orG addL addT))
theorem sz_of {n : Nat} (h : n ≤ 10000000) : n ≤ sizeLine := by rw [sizeLine_eq]; omega
section
variable {X : Cx}
theorem op_addD : ∃ r, OpR X (binaryOp .Add) r ∧ OpD X r addD := by
  refine ⟨_, op_add.or (op_add_str.or (op_cat.or op_catT)), (opd_I0 fun F i j => .int _).or (OpD.or ?_ (OpD.or ?_ ?_))⟩
  · intro F0 H0 H σ ρ vs xs v w d e Q s ⟨x, hx, q⟩
    obtain ⟨F, hF, a, b, t⟩ := s.two
    match d, e, a, b, hx with
    | .str i, .str j, .str _, .str _, hx =>
      have hx : (if i.length + j.length ≤ 10000000 then some (Val.sh (.str (i ++ j))) else none) = some x := hx
      by_cases hc : i.length + j.length ≤ 10000000
      · rw [if_pos hc] at hx
        cases hx
        exact ⟨i, j, rfl, rfl, sz_of hc, q H _ (s.pop.pop.scal fun F => .str _)⟩
      · rw [if_neg hc] at hx; cases hx
  · intro F0 H0 H σ ρ vs xs v w d e Q s ⟨x, hx, q⟩
    obtain ⟨F, hF, a, b, t⟩ := s.two
    match d, e, a, b, hx with
    | .lst i, .lst j, .lst (vs := us) h1 k1, .lst (vs := ws) h2 k2, hx =>
      have hx : (if i.length + j.length ≤ 10000000 then some (Val.lst ((i ++ j).map .sh)) else none) = some x := hx
      by_cases hc : i.length + j.length ≤ 10000000
      · rw [if_pos hc] at hx
        cases hx
        refine ⟨_, _, us, ws, rfl, rfl, hF _ _ h1, hF _ _ h2, by rw [k1.length, k2.length]; exact sz_of hc, fun p np => q _ _ ?_⟩
        exact Stt.newLst (by simp [k1.length, k2.length]) (t (us ++ ws) (i ++ j) (k1.append k2)) np
      · rw [if_neg hc] at hx; cases hx
  · intro F0 H0 H σ ρ vs xs v w d e Q s ⟨x, hx, q⟩
    obtain ⟨F, hF, a, b, t⟩ := s.two
    match d, e, a, b, hx with
    | .tup (i :: is), .tup j, .tup (vs := us) h1 k1, .tup (vs := ws) h2 k2, hx =>
      have hx : (if (i :: is).length + j.length ≤ 10000000 then some (Val.sh (.tup (i :: is ++ j))) else none) = some x := hx
      by_cases hc : (i :: is).length + j.length ≤ 10000000
      · rw [if_pos hc] at hx
        cases hx
        refine ⟨_, _, us, ws, rfl, rfl, sameT hF h1, sameT hF h2, (fun z => by subst z; cases k1), (by rw [k1.length, k2.length]; exact sz_of hc), fun z => ?_, fun z p np => q _ _ ?_⟩
        · subst z
          cases k2
          exact q _ _ (by rw [List.append_nil]; exact s.pop)
        · exact Stt.newTup (by simp [k1.length, k2.length]; omega) (t (us ++ ws) (i :: is ++ j) (k1.append k2)) np
      · rw [if_neg hc] at hx; cases hx
theorem de_add {a b : Expr} {fa fb : DEnv → R Val} {pos : Pos} (ha : DE X a fa) (hb : DE X b fb) : DE X (.BinOp a .Add b pos) (sOp addD fa fb) := let ⟨_, h1, h2⟩ := op_addD; de_op h1 h2 ha hb
end
def subD : D → D → Option Val := fun d e => match d, e with
  | .int i, .int j => some (.sh (.int (i - j)))
  | _, _ => none
def mulOk (i j : Int) : Prop := (-(2 ^ 64) < i ∧ i < 2 ^ 64) ∨ (-(2 ^ 64) < j ∧ j < 2 ^ 64) ∨ i.natAbs.log2 + j.natAbs.log2 < 1000000
theorem mulOk.ok {i j : Int} (h : mulOk i j) : PySem.IntMulOk i j := by
  rcases h with h | h | h
  · exact CMul.ok (.inl h)
  · exact CMul.ok (.inr h)
  · exact CMulW.ok h
instance (i j : Int) : Decidable (mulOk i j) := by unfold mulOk; infer_instance
def mulI : D → D → Option Val := fun d e => match d, e with
  | .int i, .int j => if mulOk i j then some (.sh (.int (i * j))) else none
  | _, _ => none
def mulL : D → D → Option Val := fun d e => match d, e with
  | .lst i, .int j => if i.length * j.toNat ≤ 10000000 ∧ j < 2 ^ 62 ∧ -(2 ^ 62) ≤ j then some (.lst ((List.replicate j.toNat i).flatten.map .sh)) else none
  | _, _ => none
def mulD : D → D → Option Val := orG mulI mulL
def divOk (j : Int) : Prop := j ≠ 0 ∧ j.natAbs.log2 < 9000
instance (j : Int) : Decidable (divOk j) := by unfold divOk; infer_instance
def fdivD : D → D → Option Val := fun d e => match d, e with
  | .int i, .int j => if divOk j then some (.sh (.int (i.fdiv j))) else none
  | _, _ => none
def modD : D → D → Option Val := fun d e => match d, e with
  | .int i, .int j => if j ≠ 0 then some (.sh (.int (i.fmod j))) else none
  | _, _ => none
instance (i j : Int) : Decidable (CPow i j) := by unfold CPow; infer_instance
def powD : D → D → Option Val := fun d e => match d, e with
  | .int i, .int j => if CPow i j then some (.sh (.int (i ^ j.toNat))) else none
  | _, _ => none
def shlD : D → D → Option Val := fun d e => match d, e with
  | .int i, .int j => if CPow i j then some (.sh (.int (i * 2 ^ j.toNat))) else none
  | _, _ => none
def shrD : D → D → Option Val := fun d e => match d, e with
  | .int i, .int j => if 0 ≤ j then some (.sh (.int (i / 2 ^ j.toNat))) else none
  | _, _ => none
def andD : D → D → Option Val := fun d e => match d, e with
  | .int i, .int j => some (.sh (.int (Builtin.bitAnd i j)))
  | _, _ => none
def orD : D → D → Option Val := fun d e => match d, e with
  | .int i, .int j => some (.sh (.int (Builtin.bitOr i j)))
  | _, _ => none
def negD : D → Option Val := fun d => match d with
  | .int i => some (.sh (.int (-i)))
  | _ => none
theorem flat_ats {K : PySem.W.Frag} {F : Hp} {us : List V} {i : List D} (h : Ats K F us i) : ∀ n, Ats K F (List.replicate n us).flatten (List.replicate n i).flatten
  | 0 => .nil
  | n + 1 => by
    rw [List.replicate_succ, List.replicate_succ, List.flatten_cons, List.flatten_cons]
    exact h.append (flat_ats h n)
section
variable {X : Cx} {a b : Expr} {fa fb : DEnv → R Val} {pos : Pos}
theorem op_fdivA : OpR X (binaryOp .FloorDiv) (rI (fun _ j => divOk j) fun i j => .int (i.fdiv j)) := opI fun _ _ _ _ _ _ _ hc q => PyProof.Rows.floordiv_int hc.1 q (.inl (PyProof.noPylong_of_log2 hc.2))
theorem op_mulA : OpR X (binaryOp .Mult) (rI mulOk fun i j => .int (i * j)) := opI fun _ _ _ _ _ _ _ hc q => PyProof.Rows.mul_int q hc.ok
theorem de_sub (ha : DE X a fa) (hb : DE X b fb) : DE X (.BinOp a .Sub b pos) (sOp subD fa fb) := de_op op_sub (opd_I0 fun F i j => .int _) ha hb
theorem op_mulD : ∃ r, OpR X (binaryOp .Mult) r ∧ OpD X r mulD := by
  refine ⟨_, op_mulA.or op_rep, (opd_I fun F i j => .int _).or ?_⟩
  intro F0 H0 H σ ρ vs xs v w d e Q s ⟨x, hx, q⟩
  obtain ⟨F, hF, a, b, t⟩ := s.two
  match d, e, a, b, hx with
  | .lst i, .int j, .lst (vs := us) h1 k1, .int _, hx =>
    have hx : (if i.length * j.toNat ≤ 10000000 ∧ j < 2 ^ 62 ∧ -(2 ^ 62) ≤ j then some (Val.lst ((List.replicate j.toNat i).flatten.map .sh)) else none) = some x := hx
    split at hx
    · rename_i hc
      cases hx
      refine ⟨_, j, us, rfl, rfl, hF _ _ h1, by omega, by omega, by rw [k1.length]; exact sz_of hc.1, fun p np => q _ _ ?_⟩
      have k := flat_ats k1 j.toNat
      exact Stt.newLst (by simp [k.length]) (t _ _ k) np
    · cases hx
theorem de_mul (ha : DE X a fa) (hb : DE X b fb) : DE X (.BinOp a .Mult b pos) (sOp mulD fa fb) := let ⟨_, h1, h2⟩ := op_mulD; de_op h1 h2 ha hb
theorem de_fdiv (ha : DE X a fa) (hb : DE X b fb) : DE X (.BinOp a .FloorDiv b pos) (sOp fdivD fa fb) := de_op op_fdivA (opd_I (C := fun _ j => divOk j) fun F i j => .int _) ha hb
theorem de_mod (ha : DE X a fa) (hb : DE X b fb) : DE X (.BinOp a .Mod b pos) (sOp modD fa fb) := de_op op_modN (opd_I (C := fun _ j => j ≠ 0) fun F i j => .int _) ha hb
theorem de_pow (ha : DE X a fa) (hb : DE X b fb) : DE X (.BinOp a .Pow b pos) (sOp powD fa fb) := de_op op_pow (opd_I fun F i j => .int _) ha hb
theorem de_shl (ha : DE X a fa) (hb : DE X b fb) : DE X (.BinOp a .LShift b pos) (sOp shlD fa fb) := de_op op_shl (opd_I fun F i j => .int _) ha hb
theorem de_shr (ha : DE X a fa) (hb : DE X b fb) : DE X (.BinOp a .RShift b pos) (sOp shrD fa fb) := de_op op_shr (opd_I (C := fun _ j => 0 ≤ j) fun F i j => .int _) ha hb
theorem de_band (ha : DE X a fa) (hb : DE X b fb) : DE X (.BinOp a .BitAnd b pos) (sOp andD fa fb) := de_op op_and (opd_I0 fun F i j => .int _) ha hb
theorem de_bor (ha : DE X a fa) (hb : DE X b fb) : DE X (.BinOp a .BitOr b pos) (sOp orD fa fb) := de_op op_or (opd_I0 fun F i j => .int _) ha hb
theorem de_neg (ha : DE X a fa) : DE X (.UnaryOp .USub a pos) (sUn negD fa) := de_un un_neg (fun F0 H0 H σ ρ vs xs v d Q s ⟨x, hx, q⟩ => by
  obtain ⟨F, hF, a, t⟩ := s.oneT
  match d, a, hx with
  | .int i, .int _, hx =>
    cases hx
    exact ⟨i, rfl, q H _ (s.pop.scal fun F => .int _)⟩) ha
end

/-! ### comparisons -/
def ltD : D → D → Option Val := fun d e => match d, e with
  | .int i, .int j => some (.sh (.bl (decide (i < j))))
  | _, _ => none
def leD : D → D → Option Val := fun d e => match d, e with
  | .int i, .int j => some (.sh (.bl (decide (i ≤ j))))
  | _, _ => none
def gtD : D → D → Option Val := fun d e => match d, e with
  | .int i, .int j => some (.sh (.bl (decide (j < i))))
  | _, _ => none
def geD : D → D → Option Val := fun d e => match d, e with
  | .int i, .int j => some (.sh (.bl (decide (j ≤ i))))
  | _, _ => none
mutual
def D.py : D → PyData
  | .non => .none
  | .bl b => .bool b
  | .int i => .int i
  | .str x => .str x
  | .lst xs => .list (pys xs)
  | .scr xs => .list (pys xs)
  | .tup xs => .tuple (pys xs)
  | .ins _ _ _ => .dict []
  | .junk => .dict []
  | .exn _ _ _ _ => .dict []
def pys : List D → List PyData
  | [] => []
  | x :: xs => x.py :: pys xs
end
/-- data without objects, at most so deep -/
def D.ok : Nat → D → Bool
  | _, .non => true
  | _, .bl _ => true
  | _, .int _ => true
  | _, .str _ => true
  | k + 1, .lst xs => xs.all (D.ok k)
  | k + 1, .scr xs => xs.all (D.ok k)
  | k + 1, .tup xs => xs.all (D.ok k)
  | _, _ => false
def D.eqv (d e : D) : Bool := PyData.eqv d.py e.py
def eqvs (d e : List D) : Bool := PyData.eqvAll (pys d) (pys e)
def eqD : D → D → Option Val := fun d e => if d.ok 20 && e.ok 20 then some (.sh (.bl (d.eqv e))) else none
def neD : D → D → Option Val := fun d e => if d.ok 20 && e.ok 20 then some (.sh (.bl (!d.eqv e))) else none
theorem py_ok : ∀ (k : Nat) (d : D), d.ok k = true → d.py.plain = true ∧ d.py.depth ≤ k := by
  intro k
  induction k with
  | zero =>
    intro d h
    cases d with
    | non => exact ⟨by simp [D.py, PyData.plain], by simp [D.py, PyData.depth]⟩
    | bl b => exact ⟨by simp [D.py, PyData.plain], by simp [D.py, PyData.depth]⟩
    | int i => exact ⟨by simp [D.py, PyData.plain], by simp [D.py, PyData.depth]⟩
    | str x => exact ⟨by simp [D.py, PyData.plain], by simp [D.py, PyData.depth]⟩
    | lst xs => simp [D.ok] at h
    | scr xs => simp [D.ok] at h
    | tup xs => simp [D.ok] at h
    | ins _ _ _ => simp [D.ok] at h
    | junk => simp [D.ok] at h
    | exn _ _ _ _ => simp [D.ok] at h
  | succ k ih =>
    have all : ∀ xs : List D, xs.all (D.ok k) = true → PyData.plainAll (pys xs) = true ∧ PyData.depthAll (pys xs) ≤ k := by
      intro xs
      induction xs with
      | nil => intro _; exact ⟨by simp [pys, PyData.plainAll], by simp [pys, PyData.depthAll]⟩
      | cons x xs ih2 =>
        intro h
        rw [List.all_cons, Bool.and_eq_true] at h
        obtain ⟨h1, h2⟩ := ih x h.1
        obtain ⟨h3, h4⟩ := ih2 h.2
        exact ⟨by simp [pys, PyData.plainAll, h1, h3], by simp only [pys, PyData.depthAll]; omega⟩
    intro d h
    cases d with
    | non => exact ⟨by simp [D.py, PyData.plain], by simp [D.py, PyData.depth]⟩
    | bl b => exact ⟨by simp [D.py, PyData.plain], by simp [D.py, PyData.depth]⟩
    | int i => exact ⟨by simp [D.py, PyData.plain], by simp [D.py, PyData.depth]⟩
    | str x => exact ⟨by simp [D.py, PyData.plain], by simp [D.py, PyData.depth]⟩
    | lst xs =>
      obtain ⟨h1, h2⟩ := all xs h
      exact ⟨by simp only [D.py, PyData.plain, h1], by simp only [D.py, PyData.depth]; omega⟩
    | scr xs =>
      obtain ⟨h1, h2⟩ := all xs h
      exact ⟨by simp only [D.py, PyData.plain, h1], by simp only [D.py, PyData.depth]; omega⟩
    | tup xs =>
      obtain ⟨h1, h2⟩ := all xs h
      exact ⟨by simp only [D.py, PyData.plain, h1], by simp only [D.py, PyData.depth]; omega⟩
    | ins _ _ _ => simp [D.ok] at h
    | junk => simp [D.ok] at h
    | exn _ _ _ _ => simp [D.ok] at h
theorem at_dp {K : PySem.W.Frag} {F H : Hp} (e : Same F H) : ∀ (k : Nat) (d : D) (v : V), d.ok k = true → At K F v d → Dp K H v d.py := by
  intro k
  induction k with
  | zero =>
    intro d v h a
    cases a with
    | non => rw [D.py]; exact .non
    | bl b => rw [D.py]; exact .bl b
    | int i => rw [D.py]; exact .int i
    | str x => rw [D.py]; exact .str x
    | lst _ _ => simp [D.ok] at h
    | scr _ _ => simp [D.ok] at h
    | tup _ _ => simp [D.ok] at h
    | ins _ _ _ => simp [D.ok] at h
    | junk => simp [D.ok] at h
    | exn _ _ _ _ => simp [D.ok] at h
  | succ k ih =>
    have all : ∀ (xs : List D) (vs : List V), xs.all (D.ok k) = true → Ats K F vs xs → DpAll K H vs (pys xs) := by
      intro xs
      induction xs with
      | nil => intro vs _ a; cases a; rw [pys]; exact .nil
      | cons x xs ih2 =>
        intro vs h a
        rw [List.all_cons, Bool.and_eq_true] at h
        cases a with
        | cons a b => rw [pys]; exact .cons (ih _ _ h.1 a) (ih2 _ h.2 b)
    intro d v h a
    cases a with
    | non => rw [D.py]; exact .non
    | bl b => rw [D.py]; exact .bl b
    | int i => rw [D.py]; exact .int i
    | str x => rw [D.py]; exact .str x
    | lst h1 h2 => rw [D.py]; exact .lst (e.seq (.of h1)) (all _ _ h h2)
    | scr h1 h2 => rw [D.py]; exact .lst (e.seq h1) (all _ _ h h2)
    | tup h1 h2 => rw [D.py]; exact .tup (sameT e h1) (all _ _ h h2)
    | ins _ _ _ => simp [D.ok] at h
    | junk => simp [D.ok] at h
    | exn _ _ _ _ => simp [D.ok] at h
def rEqP (K : PySem.W.Frag) (n : Bool) : R2 := fun x y H Q => ∃ d e, Dp K H x d ∧ Dp K H y e ∧ d.plain = true ∧ e.plain = true ∧ d.depth ≤ 20 ∧ Q (.bl (n != PyData.eqv d e)) H
section
variable {X : Cx} {a b : Expr} {fa fb : DEnv → R Val} {pos : Pos}
theorem op_eqP (hu : X.A.units + 64 < cLine) : OpR X (compareOp .Eq) (rEqP X.K false) := by
  intro pins s σ H x y v u Q I rx ry h
  obtain ⟨d, e, hd, he, sd, se, dd, q⟩ := h
  obtain ⟨as, r1⟩ := Dp.reads I d x v hd rx
  obtain ⟨bs, r2⟩ := Dp.reads I e y u he ry
  have hm : min d.depth e.depth ≤ d.depth := Nat.min_le_left _ _
  exact PySem.SeqAt.eq_plain r1 r2 sd se (by omega) ⟨.bl _, H, I, rfl, by simpa using q⟩
theorem op_neP (hu : X.A.units + 64 < cLine) : OpR X (compareOp .NotEq) (rEqP X.K true) := by
  intro pins s σ H x y v u Q I rx ry h
  obtain ⟨d, e, hd, he, sd, se, dd, q⟩ := h
  obtain ⟨as, r1⟩ := Dp.reads I d x v hd rx
  obtain ⟨bs, r2⟩ := Dp.reads I e y u he ry
  have hm : min d.depth e.depth ≤ d.depth := Nat.min_le_left _ _
  exact PySem.SeqAt.ne_plain r1 r2 sd se (by omega) ⟨.bl _, H, I, rfl, by simpa using q⟩
theorem opd_eq : OpD X (rEqP X.K false) eqD := fun F0 H0 H σ ρ vs xs v w d e Q s ⟨x, hx, q⟩ => by
  obtain ⟨F, hF, a, b, t⟩ := s.two
  unfold eqD at hx
  split at hx
  · rename_i hc
    rw [Bool.and_eq_true] at hc
    cases hx
    obtain ⟨p1, p2⟩ := py_ok _ _ hc.1
    obtain ⟨p3, _⟩ := py_ok _ _ hc.2
    exact ⟨_, _, at_dp hF _ _ _ hc.1 a, at_dp hF _ _ _ hc.2 b, p1, p3, p2, q H _ (s.pop.pop.scal fun F => by
      have e : (false != PyData.eqv d.py e.py) = D.eqv d e := by unfold D.eqv; cases PyData.eqv d.py e.py <;> rfl
      rw [e]; exact .bl _)⟩
  · cases hx
theorem opd_ne : OpD X (rEqP X.K true) neD := fun F0 H0 H σ ρ vs xs v w d e Q s ⟨x, hx, q⟩ => by
  obtain ⟨F, hF, a, b, t⟩ := s.two
  unfold neD at hx
  split at hx
  · rename_i hc
    rw [Bool.and_eq_true] at hc
    cases hx
    obtain ⟨p1, p2⟩ := py_ok _ _ hc.1
    obtain ⟨p3, _⟩ := py_ok _ _ hc.2
    exact ⟨_, _, at_dp hF _ _ _ hc.1 a, at_dp hF _ _ _ hc.2 b, p1, p3, p2, q H _ (s.pop.pop.scal fun F => by
      have e : (true != PyData.eqv d.py e.py) = !D.eqv d e := by unfold D.eqv; cases PyData.eqv d.py e.py <;> rfl
      rw [e]; exact .bl _)⟩
  · cases hx
def isND (n : Bool) : D → Option Val := fun d => some (.sh (.bl (n != match d with | .non => true | _ => false)))
theorem at_non {K : PySem.W.Frag} {F : Hp} {v : V} {d : D} (a : At K F v d) : decide (v = .non) = match d with | .non => true | _ => false := by
  cases a <;> simp
end
/-! the rules by name: as values, as tests -/
section
variable {X : Cx} {a b : Expr} {fa fb : DEnv → R Val} {pos : Pos}
theorem de_eq (hu : X.A.units + 64 < cLine) (ha : DE X a fa) (hb : DE X b fb) : DE X (.Compare a [.Eq] [b] pos) (sOp eqD fa fb) := de_cmp (op_eqP hu) opd_eq ha hb (nomark _)
theorem de_ne (hu : X.A.units + 64 < cLine) (ha : DE X a fa) (hb : DE X b fb) : DE X (.Compare a [.NotEq] [b] pos) (sOp neD fa fb) := de_cmp (op_neP hu) opd_ne ha hb (nomark _)
theorem de_lt (ha : DE X a fa) (hb : DE X b fb) : DE X (.Compare a [.Lt] [b] pos) (sOp ltD fa fb) := de_cmp op_lt (opd_I0 fun F i j => .bl _) ha hb (nomark _)
theorem de_le (ha : DE X a fa) (hb : DE X b fb) : DE X (.Compare a [.LtE] [b] pos) (sOp leD fa fb) := de_cmp op_le (opd_I0 fun F i j => .bl _) ha hb (nomark _)
theorem de_gt (ha : DE X a fa) (hb : DE X b fb) : DE X (.Compare a [.Gt] [b] pos) (sOp gtD fa fb) := de_cmp op_gt (opd_I0 fun F i j => .bl _) ha hb (nomark _)
theorem de_ge (ha : DE X a fa) (hb : DE X b fb) : DE X (.Compare a [.GtE] [b] pos) (sOp geD fa fb) := de_cmp op_ge (opd_I0 fun F i j => .bl _) ha hb (nomark _)
theorem dt_eq (hu : X.A.units + 64 < cLine) (ha : DE X a fa) (hb : DE X b fb) : DT X (.Compare a [.Eq] [b] pos) (sTst (sOp eqD fa fb)) := dt_cmp (op_eqP hu) opd_eq ha hb (nomark _)
theorem dt_ne (hu : X.A.units + 64 < cLine) (ha : DE X a fa) (hb : DE X b fb) : DT X (.Compare a [.NotEq] [b] pos) (sTst (sOp neD fa fb)) := dt_cmp (op_neP hu) opd_ne ha hb (nomark _)
theorem dt_lt (ha : DE X a fa) (hb : DE X b fb) : DT X (.Compare a [.Lt] [b] pos) (sTst (sOp ltD fa fb)) := dt_cmp op_lt (opd_I0 fun F i j => .bl _) ha hb (nomark _)
theorem dt_le (ha : DE X a fa) (hb : DE X b fb) : DT X (.Compare a [.LtE] [b] pos) (sTst (sOp leD fa fb)) := dt_cmp op_le (opd_I0 fun F i j => .bl _) ha hb (nomark _)
theorem dt_gt (ha : DE X a fa) (hb : DE X b fb) : DT X (.Compare a [.Gt] [b] pos) (sTst (sOp gtD fa fb)) := dt_cmp op_gt (opd_I0 fun F i j => .bl _) ha hb (nomark _)
theorem dt_ge (ha : DE X a fa) (hb : DE X b fb) : DT X (.Compare a [.GtE] [b] pos) (sTst (sOp geD fa fb)) := dt_cmp op_ge (opd_I0 fun F i j => .bl _) ha hb (nomark _)
theorem tE_un {r : V → Hp → VK → Prop} {g : D → Option Val} (hg : UnD X r g) {σ : L2.St} {H : Hp} {Q : VK} (h : tE X (sUn g fa) σ H Q) : tE X fa σ H (fun x H1 => r x H1 Q) := by
  obtain ⟨F0, H0, ρ, vs, xs, s, q⟩ := h
  refine ⟨F0, H0, ρ, vs, xs, s, (post_bind q).imp (fun x ρ1 q1 H1 v s1 => ?_) fun _ _ z => z⟩
  refine hg F0 H0 H1 σ ρ1 vs xs v x.fz Q s1.fz ?_
  cases e : g x.fz with
  | none => rw [e] at q1; exact q1.elim
  | some z => rw [e] at q1; exact ⟨z, rfl, q1⟩
theorem und_isN : UnD X (fun x H Q => Q (.bl (decide (x = .non))) H) (isND false) := fun F0 H0 H σ ρ vs xs v d Q s ⟨x, hx, q⟩ => by
  obtain ⟨F, hF, a, t⟩ := s.oneT
  cases hx
  exact q H _ (s.pop.scal fun F => by rw [at_non a]; cases d <;> exact .bl _)
theorem und_notN : UnD X (fun x H Q => Q (.bl (!decide (x = .non))) H) (isND true) := fun F0 H0 H σ ρ vs xs v d Q s ⟨x, hx, q⟩ => by
  obtain ⟨F, hF, a, t⟩ := s.oneT
  cases hx
  exact q H _ (s.pop.scal fun F => by rw [at_non a]; cases d <;> exact .bl _)
theorem de_isN {j pos'} (ha : DE X a fa) : DE X (.Compare a [.Is] [.Constant .none j pos'] pos) (sUn (isND false) fa) :=
  PE.imp (pe_cmp (pc_isN ha) (nobehind _ (by decide) (by decide))) fun σ H Q h => tE_un und_isN h
theorem de_notN {j pos'} (ha : DE X a fa) : DE X (.Compare a [.IsNot] [.Constant .none j pos'] pos) (sUn (isND true) fa) :=
  PE.imp (pe_cmp (pc_notN ha) (nobehind _ (by decide) (by decide))) fun σ H Q h => tE_un und_notN h
theorem dt_isN {j pos'} (ha : DE X a fa) : DT X (.Compare a [.Is] [.Constant .none j pos'] pos) (sTst (sUn (isND false) fa)) :=
  PT.imp (pt_cmp (pc_isN ha) (nobehind _ (by decide) (by decide))) fun σ H Q h => tE_un und_isN (tB_of h)
theorem dt_notN {j pos'} (ha : DE X a fa) : DT X (.Compare a [.IsNot] [.Constant .none j pos'] pos) (sTst (sUn (isND true) fa)) :=
  PT.imp (pt_cmp (pc_notN ha) (nobehind _ (by decide) (by decide))) fun σ H Q h => tE_un und_notN (tB_of h)
end

/-! ### chains -/
def sChain (g g' : D → D → Option Val) (fa fb fc : DEnv → R Val) : DEnv → R Val := fun ρ => (fa ρ).bind fun x ρ1 => (fb ρ1).bind fun y ρ2 => (liftO (g x.fz y.fz) ρ2).bind fun z ρ3 => (liftB (asB z.fz) ρ3).bind fun k ρ4 =>
  if k = true then (fc ρ4).bind fun u ρ5 => liftO (g' y.fz u.fz) ρ5 else .ok (.sh (.bl false)) ρ4
section
variable {X : Cx} {a b c : Expr} {fa fb fc : DEnv → R Val} {pos : Pos} {op op' : CmpOp} {f f' : Int → Int → Bool}
def gI (f : Int → Int → Bool) : D → D → Option Val := fun d e => match d, e with
  | .int i, .int j => some (.sh (.bl (f i j)))
  | _, _ => none
theorem tE_chain {σ : L2.St} {H : Hp} {Q : VK} (h : tE X (sChain (gI f) (gI f') fa fb fc) σ H Q) : tChain (rI0 fun i j => .bl (f i j)) (rI0 fun i j => .bl (f' i j)) (tE X fa) (tE X fb) (tE X fc) σ H Q := by
  obtain ⟨F0, H0, ρ, vs, xs, s, q⟩ := h
  refine ⟨F0, H0, ρ, vs, xs, s, (post_bind q).imp (fun x ρ1 q1 H1 v s1 => ?_) fun _ _ z => z⟩
  refine ⟨F0, H0, ρ1, _, _, s1, (post_bind q1).imp (fun y ρ2 q2 H2 w s2 => ?_) fun _ _ z => z.more⟩
  obtain ⟨F, hF, a1, b1, t⟩ := s2.fz2.two
  match hx : x.fz, hy : y.fz, a1, b1, q2 with
  | .int i, .int j, .int _, .int _, q2 =>
    refine ⟨i, j, rfl, rfl, f i j, rfl, ?_⟩
    have q3 : post X F0 H0 vs xs (fun x ρ' => ∀ H' v, Stt X.K F0 H0 H' σ ρ' (v :: vs) (x :: xs) → Q v H') (if f i j = true then (fc ρ2).bind fun u ρ5 => liftO (gI f' (.int j) u.fz) ρ5 else .ok (.sh (.bl false)) ρ2) := q2
    split at q3
    · rename_i hk
      rw [if_pos hk]
      have s3 : Stt X.K F0 H0 H2 σ ρ2 (V.int j :: vs) (.sh (.int j) :: xs) := s2.pop.pop.scal fun _ => .int j
      refine ⟨F0, H0, ρ2, _, _, s3, (post_bind q3).imp (fun u ρ5 q5 H5 w5 s5 => ?_) fun _ _ z => z.more⟩
      obtain ⟨F', hF', a2, b2, t2⟩ := s5.fz.two
      match hu : u.fz, b2, q5 with
      | .int m, .int _, q5 =>
        exact ⟨j, m, rfl, rfl, q5 H5 _ (s5.pop.pop.scal fun _ => .bl _)⟩
      | .non, _, q5 => exact q5.elim
      | .bl _, _, q5 => exact q5.elim
      | .str _, _, q5 => exact q5.elim
      | .lst _, _, q5 => exact q5.elim
      | .scr _, _, q5 => exact q5.elim
      | .tup _, _, q5 => exact q5.elim
      | .ins _ _ _, _, q5 => exact q5.elim
    · rename_i hk
      rw [if_neg hk]
      exact q3 H2 _ (s2.pop.pop.scal fun _ => .bl _)
  | .non, _, _, _, q2 => exact q2.elim
  | .bl _, _, _, _, q2 => exact q2.elim
  | .str _, _, _, _, q2 => exact q2.elim
  | .lst _, _, _, _, q2 => exact q2.elim
  | .scr _, _, _, _, q2 => exact q2.elim
  | .tup _, _, _, _, q2 => exact q2.elim
  | .ins _ _ _, _, _, _, q2 => exact q2.elim
  | .int _, .non, _, _, q2 => exact q2.elim
  | .int _, .bl _, _, _, q2 => exact q2.elim
  | .int _, .str _, _, _, q2 => exact q2.elim
  | .int _, .lst _, _, _, q2 => exact q2.elim
  | .int _, .scr _, _, _, q2 => exact q2.elim
  | .int _, .tup _, _, _, q2 => exact q2.elim
  | .int _, .ins _ _ _, _, _, q2 => exact q2.elim
theorem de_chain (ho : OpR X (compareOp op) (rI0 fun i j => .bl (f i j))) (ho' : OpR X (compareOp op') (rI0 fun i j => .bl (f' i j))) (ha : DE X a fa) (hb : DE X b fb) (hc : DE X c fc)
    (hm : lastMarks [op, op'] [b, c] = false := by with_unfolding_all rfl) : DE X (.Compare a [op, op'] [b, c] pos) (sChain (gI f) (gI f') fa fb fc) :=
  PE.imp (pe_chain ho ho' ha hb hc hm) fun σ H Q h => tE_chain h
theorem dt_chain (ho : OpR X (compareOp op) (rI0 fun i j => .bl (f i j))) (ho' : OpR X (compareOp op') (rI0 fun i j => .bl (f' i j))) (ha : DE X a fa) (hb : DE X b fb) (hc : DE X c fc)
    (hm : lastMarks [op, op'] [b, c] = false := by with_unfolding_all rfl) : DT X (.Compare a [op, op'] [b, c] pos) (sTst (sChain (gI f) (gI f') fa fb fc)) :=
  ⟨fun pins s σ H Q I h => (pt_chain ho ho' ha hb hc hm).run pins s σ H Q I (tE_chain (tB_of h))⟩
end
end DL

/-! DLf: subscripts, slices, built-ins, names that own lists, defs. -/
namespace DL
open PySem PySem.Spec L2

/-! ### subscripts -/
def ixL : D → D → Option Val := fun d e => match d, e with
  | .lst xs, .int i => (atI xs i).map .sh
  | .scr xs, .int i => (atI xs i).map .sh
  | _, _ => none
def ixT : D → D → Option Val := fun d e => match d, e with
  | .tup xs, .int i => (atI xs i).map .sh
  | _, _ => none
def ixS : D → D → Option Val := fun d e => match d, e with
  | .str z, .int i => if z.length ≤ 10000000 then (atI z.cps.toList i).map fun c => .sh (.str ⟨#[c]⟩) else none
  | _, _ => none
def ixD : D → D → Option Val := orG ixL (orG ixT ixS)
theorem ats_at {K : PySem.W.Frag} {F : Hp} {vs : List V} {ds : List D} {i : Int} {d : D} (h : Ats K F vs ds) (e : atI ds i = some d) : ∃ v, atI vs i = some v ∧ At K F v d := by
  unfold atI at e ⊢
  rw [h.length]
  obtain ⟨j, e1, e2⟩ := Option.bind_eq_some_iff.mp e
  obtain ⟨v, k1, k2⟩ := h.get e2
  exact ⟨v, by rw [e1]; exact k1, k2⟩
section
variable {X : Cx} {a b : Expr} {fa fb : DEnv → R Val} {pos : Pos}
theorem opd_ix : OpD X (rIx X.K) ixD := by
  refine OpD.or ?_ (OpD.or ?_ ?_)
  · intro F0 H0 H σ ρ vs xs v w d e Q s ⟨x, hx, q⟩
    obtain ⟨F, hF, a, b, t⟩ := s.two
    match d, e, a, b, hx with
    | .lst ds, .int i, .lst (vs := us) h1 k1, .int _, hx =>
      have hx : (atI ds i).map .sh = some x := hx
      obtain ⟨y, e1, rfl⟩ := Option.map_eq_some_iff.mp hx
      obtain ⟨u, e2, k⟩ := ats_at k1 e1
      exact ⟨_, us, i, u, rfl, rfl, hF.seq (.of h1), e2, q H _ (t [u] [y] (.one k))⟩
    | .scr ds, .int i, .scr (vs := us) h1 k1, .int _, hx =>
      have hx : (atI ds i).map .sh = some x := hx
      obtain ⟨y, e1, rfl⟩ := Option.map_eq_some_iff.mp hx
      obtain ⟨u, e2, k⟩ := ats_at k1 e1
      exact ⟨_, us, i, u, rfl, rfl, hF.seq h1, e2, q H _ (t [u] [y] (.one k))⟩
  · intro F0 H0 H σ ρ vs xs v w d e Q s ⟨x, hx, q⟩
    obtain ⟨F, hF, a, b, t⟩ := s.two
    match d, e, a, b, hx with
    | .tup ds, .int i, .tup (vs := us) h1 k1, .int _, hx =>
      have hx : (atI ds i).map .sh = some x := hx
      obtain ⟨y, e1, rfl⟩ := Option.map_eq_some_iff.mp hx
      obtain ⟨u, e2, k⟩ := ats_at k1 e1
      exact ⟨_, us, i, u, rfl, rfl, sameT hF h1, e2, q H _ (t [u] [y] (.one k))⟩
  · intro F0 H0 H σ ρ vs xs v w d e Q s ⟨x, hx, q⟩
    obtain ⟨F, hF, a, b, t⟩ := s.two
    match d, e, a, b, hx with
    | .str z, .int i, .str _, .int _, hx =>
      have hx : (if z.length ≤ 10000000 then (atI z.cps.toList i).map (fun c => Val.sh (.str ⟨#[c]⟩)) else none) = some x := hx
      split at hx
      · rename_i hz
        obtain ⟨c, e1, rfl⟩ := Option.map_eq_some_iff.mp hx
        exact ⟨z, i, c, rfl, rfl, sz_of hz, e1, q H _ (s.pop.pop.scal fun F => .str _)⟩
      · cases hx
theorem de_ixD (ha : DE X a fa) (hb : DE X b fb) (hs : PlainIx b := by exact fun _ _ => rfl) : DE X (.Subscript a b pos) (sOp ixD fa fb) := de_ix ix_seq opd_ix ha hb hs
end

/-! ### slices -/
def cutD (xs : List D) (lo hi : Option Int) : List D := (xs.drop (HT.sIx xs.length 0 lo)).take (HT.sIx xs.length xs.length hi - HT.sIx xs.length 0 lo)
def slD (lo hi : Option Int) : D → Option Val
  | .lst xs => some (.lst ((cutD xs lo hi).map .sh))
  | .scr xs => some (.lst ((cutD xs lo hi).map .sh))
  | .tup xs => if HT.sIx xs.length 0 lo = 0 ∧ HT.sIx xs.length xs.length hi = xs.length then none else some (.sh (.tup (cutD xs lo hi)))
  | .str z => if z.length ≤ 10000000 then some (.sh (.str (cutS z lo hi))) else none
  | _ => none
/-- a slice's part: left out, or an int -/
def sPart : Option (DEnv → R Val) → DEnv → R (Option Int)
  | none, ρ => .ok none ρ
  | some f, ρ => (f ρ).bind fun x ρ1 => match x.fz with
    | .int i => .ok (some i) ρ1
    | _ => .bad
def sSl (f : DEnv → R Val) (lo hi : Option (DEnv → R Val)) : DEnv → R Val := fun ρ => (f ρ).bind fun x ρ1 => (sPart lo ρ1).bind fun i ρ2 => (sPart hi ρ2).bind fun j ρ3 => liftO (slD i j x.fz) ρ3
section
variable {X : Cx} {e : Expr} {f : DEnv → R Val} {lo hi : Option Expr} {flo fhi : Option (DEnv → R Val)} {pos p2 : Pos}
/-- a part of a slice -/
def DO (X : Cx) (e : Option Expr) (f : Option (DEnv → R Val)) : Prop := PO X e (fun σ H Q => ∃ F0 H0 ρ vs xs, Stt X.K F0 H0 H σ ρ vs xs ∧ post X F0 H0 vs xs (fun i ρ' => ∀ H', Stt X.K F0 H0 H' σ ρ' vs xs → Q i H') (sPart f ρ))
theorem do_none : DO X none none := ⟨fun pins s σ H Q I ⟨F0, H0, ρ, vs, xs, st, q⟩ => po_none.run pins s σ H Q I (q H st)⟩
theorem do_some (h : DE X e f) : DO X (some e) (some f) := ⟨fun pins s σ H Q I ⟨F0, H0, ρ, vs, xs, st, q⟩ => (po_some h).run pins s σ H Q I (by
  refine ⟨F0, H0, ρ, vs, xs, st, (post_bind q).imp (fun x ρ1 q1 H1 v s1 => ?_) fun _ _ z => z⟩
  obtain ⟨F, hF, a, t⟩ := s1.fz.oneT
  match hx : x.fz, a, q1 with
  | .int i, .int _, q1 => exact ⟨i, rfl, q1 H1 s1.pop⟩
  | .non, _, q1 => exact q1.elim
  | .bl _, _, q1 => exact q1.elim
  | .str _, _, q1 => exact q1.elim
  | .lst _, _, q1 => exact q1.elim
  | .scr _, _, q1 => exact q1.elim
  | .tup _, _, q1 => exact q1.elim
  | .ins _ _ _, _, q1 => exact q1.elim)⟩
theorem cut_ats {K : PySem.W.Frag} {F : Hp} {vs : List V} {ds : List D} (h : Ats K F vs ds) (lo hi : Option Int) : Ats K F (cutV vs lo hi) (cutD ds lo hi) := by
  unfold cutV cutD
  rw [h.length]
  exact (h.drop _).take _
theorem de_sl (he : DE X e f) (hl : DO X lo flo) (hh : DO X hi fhi) : DE X (.Subscript e (.Slice lo hi none p2) pos) (sSl f flo fhi) :=
  PE.imp (pe_slice (sl_list.or (sl_tup.or sl_str)) he hl hh) fun σ H Q ⟨F0, H0, ρ, vs, xs, s, q⟩ => by
    refine ⟨F0, H0, ρ, vs, xs, s, (post_bind q).imp (fun x ρ1 q1 H1 v s1 => ?_) fun _ _ z => z⟩
    refine ⟨F0, H0, ρ1, _, _, s1, (post_bind q1).imp (fun i ρ2 q2 H2 s2 => ?_) fun _ _ z => z.more⟩
    refine ⟨F0, H0, ρ2, _, _, s2, (post_bind q2).imp (fun j ρ3 q3 H3 s3 => ?_) fun _ _ z => z.more⟩
    obtain ⟨F, hF, a, t⟩ := s3.fz.oneT
    match hx : x.fz, a, q3 with
    | .lst ds, .lst (vs := us) h1 k1, q3 =>
      have k := cut_ats k1 i j
      exact .inl ⟨_, us, rfl, hF.seq (.of h1), fun p np => q3 _ _ (Stt.newLst (by simpa using k.length) (t _ _ k) np)⟩
    | .scr ds, .scr (vs := us) h1 k1, q3 =>
      have k := cut_ats k1 i j
      exact .inl ⟨_, us, rfl, hF.seq h1, fun p np => q3 _ _ (Stt.newLst (by simpa using k.length) (t _ _ k) np)⟩
    | .tup ds, .tup (vs := us) h1 k1, q3 =>
      have k := cut_ats k1 i j
      have q4 : post X F0 H0 vs xs (fun x ρ' => ∀ H' v, Stt X.K F0 H0 H' σ ρ' (v :: vs) (x :: xs) → Q v H') (liftO (if HT.sIx ds.length 0 i = 0 ∧ HT.sIx ds.length ds.length j = ds.length then none else some (.sh (.tup (cutD ds i j)))) ρ3) := q3
      split at q4
      · exact q4.elim
      · rename_i hc
        exact .inr (.inl ⟨_, us, rfl, sameT hF h1, by rw [k1.length]; exact hc, fun p np => q4 _ _ (Stt.newTup k.length (t _ _ k) np)⟩)
    | .str z, .str _, q3 =>
      have q4 : post X F0 H0 vs xs (fun x ρ' => ∀ H' v, Stt X.K F0 H0 H' σ ρ' (v :: vs) (x :: xs) → Q v H') (liftO (if z.length ≤ 10000000 then some (.sh (.str (cutS z i j))) else none) ρ3) := q3
      split at q4
      · rename_i hz
        exact .inr (.inr ⟨z, rfl, sz_of hz, q4 _ _ (s3.pop.scal fun F => .str _)⟩)
      · exact q4.elim
    | .non, _, q3 => exact q3.elim
    | .bl _, _, q3 => exact q3.elim
    | .int _, _, q3 => exact q3.elim
    | .ins _ _ _, _, q3 => exact q3.elim
end

/-! ### built-ins -/
def CallD (X : Cx) (r : List V → Hp → VK → Prop) (g : List D → Option Val) : Prop := ∀ F0 H0 H σ ρ vs xs ws ds Q, ws.length = ds.length → Stt X.K F0 H0 H σ ρ (ws ++ vs) (ds.map .sh ++ xs) →
  (∃ x, g ds = some x ∧ ∀ H' u, Stt X.K F0 H0 H' σ ρ (u :: vs) (x :: xs) → Q u H') → r ws H Q
def sCB (g : List D → Option Val) (fs : DEnv → R (List Val)) : DEnv → R Val := fun ρ => (fs ρ).bind fun ys ρ1 => liftO (g (fzs ys)) ρ1
section
variable {X : Cx} {x : Str} {p pos : Pos} {e : Expr} {es : List Expr} {fs : DEnv → R (List Val)} {id T : String} {r : List V → Hp → VK → Prop} {g : List D → Option Val}
theorem tE_CB (hg : CallD X r g) {σ : L2.St} {H : Hp} {Q : VK} (h : tE X (sCB g fs) σ H Q) : tCB r (tA X fs) σ H Q := by
  obtain ⟨F0, H0, ρ, vs, xs, s, q⟩ := h
  refine ⟨F0, H0, ρ, vs, xs, s, (post_bind q).imp (fun ys ρ1 q1 H1 ws hl s1 => ?_) fun _ _ z => z⟩
  obtain ⟨hl2, s2⟩ := s1.fzsP hl
  refine hg F0 H0 H1 σ ρ1 vs xs ws (fzs ys) Q hl2 s2 ?_
  cases e : g (fzs ys) with
  | none => rw [e] at q1; exact q1.elim
  | some z => rw [e] at q1; exact ⟨z, rfl, q1⟩
theorem de_callB (hc : CallR X (.builtin id) r) (hgd : CallD X r g) (hg : Gl X x) (hm : X.mg x = none) (hv : bootBuiltins x = some (.builtin id)) (ha : DA X (e :: es) fs) (hn : x ≠ "__name__" := by decide) (hdb : (x == ("__debug__" : Str)) = false := by decide)
    (he : starEach (e :: es) X.env = (false, eval e X.env) :: starEach es X.env := by rfl) (hpl : (backTo pos (starEach es X.env)).any (·.1) = false := by rfl) : DE X (.Call (.Name x p) (e :: es) [] pos) (sCB g fs) :=
  PE.imp (pe_callB hc hg hm hv ha hn hdb he hpl) fun σ H Q h => tE_CB hgd h
theorem de_callTy (hc : CallR X (.type T) r) (hgd : CallD X r g) (hg : Gl X x) (hm : X.mg x = none) (hv : bootBuiltins x = some (.type T)) (ha : DA X (e :: es) fs) (hn : x ≠ "__name__" := by decide) (hdb : (x == ("__debug__" : Str)) = false := by decide)
    (he : starEach (e :: es) X.env = (false, eval e X.env) :: starEach es X.env := by rfl) (hpl : (backTo pos (starEach es X.env)).any (·.1) = false := by rfl) : DE X (.Call (.Name x p) (e :: es) [] pos) (sCB g fs) :=
  PE.imp (pe_callTy hc hg hm hv ha hn hdb he hpl) fun σ H Q h => tE_CB hgd h
end
def orC (g g' : List D → Option Val) : List D → Option Val := fun d => match g d with
  | some x => some x
  | none => g' d
theorem CallD.or {X : Cx} {r r' : List V → Hp → VK → Prop} {g g' : List D → Option Val} (h : CallD X r g) (h' : CallD X r' g') : CallD X (fun xs H Q => r xs H Q ∨ r' xs H Q) (orC g g') := fun F0 H0 H σ ρ vs xs ws ds Q hl s ⟨x, hx, q⟩ => by
  unfold orC at hx
  cases e1 : g ds with
  | some y =>
    rw [e1] at hx
    cases hx
    exact .inl (h F0 H0 H σ ρ vs xs ws ds Q hl s ⟨_, e1, q⟩)
  | none =>
    rw [e1] at hx
    exact .inr (h' F0 H0 H σ ρ vs xs ws ds Q hl s ⟨x, hx, q⟩)
def lenD : D → Option Val
  | .lst xs => some (.sh (.int xs.length))
  | .scr xs => some (.sh (.int xs.length))
  | .tup xs => some (.sh (.int xs.length))
  | .str z => if z.length ≤ 10000000 then some (.sh (.int z.length)) else none
  | _ => none
def g1 (g : D → Option Val) : List D → Option Val
  | [d] => g d
  | _ => none
theorem g1_some {g : D → Option Val} {ds : List D} {x : Val} (h : g1 g ds = some x) : ∃ d, ds = [d] ∧ g d = some x := by
  match ds, h with
  | [d], h => exact ⟨d, rfl, h⟩
section
variable {X : Cx}
/-- a built-in of one argument -/
theorem calld_1 {r : V → Hp → VK → Prop} {g : D → Option Val} (h : UnD X r g) : CallD X (fun xs H Q => ∃ x, xs = [x] ∧ r x H Q) (g1 g) := fun F0 H0 H σ ρ vs xs ws ds Q hl s ⟨x, hx, q⟩ => by
  obtain ⟨d, rfl, hg⟩ := g1_some hx
  match ws, hl with
  | [w], _ => exact ⟨w, rfl, h F0 H0 H σ ρ vs xs w d Q s ⟨x, hg, q⟩⟩
theorem und_len : UnD X (fun x H Q => ∃ n, LenV X.K x H n ∧ Q (.int n) H) lenD := fun F0 H0 H σ ρ vs xs v d Q s ⟨x, hx, q⟩ => by
  obtain ⟨F, hF, a, t⟩ := s.oneT
  match d, a, hx with
  | .lst ds, .lst (vs := us) h1 k1, hx =>
    cases hx
    exact ⟨us.length, .inl ⟨us, hF.seq (.of h1), rfl⟩, q H _ (s.pop.scal fun F => by rw [k1.length]; exact .int _)⟩
  | .scr ds, .scr (vs := us) h1 k1, hx =>
    cases hx
    exact ⟨us.length, .inl ⟨us, hF.seq h1, rfl⟩, q H _ (s.pop.scal fun F => by rw [k1.length]; exact .int _)⟩
  | .tup ds, .tup (vs := us) h1 k1, hx =>
    cases hx
    exact ⟨us.length, .inr ⟨us, sameT hF h1, rfl⟩, q H _ (s.pop.scal fun F => by rw [k1.length]; exact .int _)⟩
  | .str z, .str _, hx =>
    have hx : (if z.length ≤ 10000000 then some (Val.sh (.int z.length)) else none) = some x := hx
    split at hx
    · rename_i hz
      cases hx
      exact ⟨z.length, ⟨sz_of hz, rfl⟩, q H _ (s.pop.scal fun F => .int _)⟩
    · cases hx
theorem call_len1 : CallR X (.builtin "len") (fun xs H Q => ∃ x, xs = [x] ∧ ∃ n, LenV X.K x H n ∧ Q (.int n) H) := fun pins s σ H xs us Q I r ⟨x, e, n, h1, h2⟩ => call_len pins s σ H xs us Q I r ⟨x, n, e, h1, h2⟩
def absD : D → Option Val
  | .int i => some (.sh (.int (if i < 0 then -i else i)))
  | _ => none
theorem und_abs : UnD X (fun x H Q => ∃ i, x = .int i ∧ Q (.int (if i < 0 then -i else i)) H) absD := fun F0 H0 H σ ρ vs xs v d Q s ⟨x, hx, q⟩ => by
  obtain ⟨F, hF, a, t⟩ := s.oneT
  match d, a, hx with
  | .int i, .int _, hx => cases hx; exact ⟨i, rfl, q H _ (s.pop.scal fun F => .int _)⟩
theorem call_abs1 : CallR X (.builtin "abs") (fun xs H Q => ∃ x, xs = [x] ∧ ∃ i, x = .int i ∧ Q (.int (if i < 0 then -i else i)) H) := fun pins s σ H xs us Q I r ⟨x, e, i, h1, h2⟩ => call_abs pins s σ H xs us Q I r ⟨i, by rw [e, h1], h2⟩
def intD : D → Option Val
  | .int i => some (.sh (.int i))
  | .bl k => some (.sh (.int (if k then 1 else 0)))
  | _ => none
theorem und_int : UnD X (fun x H Q => (∃ i, x = .int i ∧ Q (.int i) H) ∨ ∃ k, x = .bl k ∧ Q (.int (if k then 1 else 0)) H) intD := fun F0 H0 H σ ρ vs xs v d Q s ⟨x, hx, q⟩ => by
  obtain ⟨F, hF, a, t⟩ := s.oneT
  match d, a, hx with
  | .int i, .int _, hx => cases hx; exact .inl ⟨i, rfl, q H _ (s.pop.scal fun F => .int _)⟩
  | .bl i, .bl _, hx => cases hx; exact .inr ⟨i, rfl, q H _ (s.pop.scal fun F => .int _)⟩
theorem call_intA : CallR X (.type "int") (fun xs H Q => ∃ x, xs = [x] ∧ ((∃ i, x = .int i ∧ Q (.int i) H) ∨ ∃ k, x = .bl k ∧ Q (.int (if k then 1 else 0)) H)) := fun pins s σ H xs us Q I r ⟨x, e, h⟩ => call_int1 pins s σ H xs us Q I r (by
  rcases h with ⟨i, h1, h2⟩ | ⟨k, h1, h2⟩
  · exact .inl ⟨i, by rw [e, h1], h2⟩
  · exact .inr ⟨k, by rw [e, h1], h2⟩)
def strD : D → Option Val
  | .int i => if i.natAbs.log2 < 1920 then some (.sh (.str (toString i))) else none
  | _ => none
theorem und_str : UnD X (fun x H Q => ∃ i, x = .int i ∧ i.natAbs.log2 < 1920 ∧ Q (.str (toString i)) H) strD := fun F0 H0 H σ ρ vs xs v d Q s ⟨x, hx, q⟩ => by
  obtain ⟨F, hF, a, t⟩ := s.oneT
  match d, a, hx with
  | .int i, .int _, hx =>
    have hx : (if i.natAbs.log2 < 1920 then some (Val.sh (.str (toString i))) else none) = some x := hx
    split at hx
    · cases hx; exact ⟨i, rfl, by assumption, q H _ (s.pop.scal fun F => .str _)⟩
    · cases hx
theorem call_strA : CallR X (.type "str") (fun xs H Q => ∃ x, xs = [x] ∧ ∃ i, x = .int i ∧ i.natAbs.log2 < 1920 ∧ Q (.str (toString i)) H) := fun pins s σ H xs us Q I r ⟨x, e, i, h1, h2, h3⟩ => call_str_int pins s σ H xs us Q I r ⟨i, by rw [e, h1], h2, h3⟩
def listD : D → Option Val
  | .lst xs => some (.lst (xs.map .sh))
  | .scr xs => some (.lst (xs.map .sh))
  | .tup xs => some (.lst (xs.map .sh))
  | _ => none
theorem und_list : UnD X (fun x H Q => ∃ p ys, x = .ref p ∧ (SqL X.K H p ys ∨ SqT X.K H p ys) ∧ ∀ l, H l = none → Q (.ref l) (upd H l (.lst ys))) listD := fun F0 H0 H σ ρ vs xs v d Q s ⟨x, hx, q⟩ => by
  obtain ⟨F, hF, a, t⟩ := s.oneT
  match d, a, hx with
  | .lst ds, .lst (vs := us) h1 k1, hx => cases hx; exact ⟨_, us, rfl, .inl (hF.seq (.of h1)), fun l nl => q _ _ (Stt.newLst (by simpa using k1.length) (t us ds k1) nl)⟩
  | .scr ds, .scr (vs := us) h1 k1, hx => cases hx; exact ⟨_, us, rfl, .inl (hF.seq h1), fun l nl => q _ _ (Stt.newLst (by simpa using k1.length) (t us ds k1) nl)⟩
  | .tup ds, .tup (vs := us) h1 k1, hx => cases hx; exact ⟨_, us, rfl, .inr (sameT hF h1), fun l nl => q _ _ (Stt.newLst (by simpa using k1.length) (t us ds k1) nl)⟩
theorem call_listA : CallR X (.type "list") (fun xs H Q => ∃ x, xs = [x] ∧ ∃ p ys, x = .ref p ∧ (SqL X.K H p ys ∨ SqT X.K H p ys) ∧ ∀ l, H l = none → Q (.ref l) (upd H l (.lst ys))) := fun pins s σ H xs us Q I r ⟨x, e, p, ys, h1, h2, h3⟩ => call_list_of pins s σ H xs us Q I r ⟨p, ys, by rw [e, h1], h2, h3⟩
def tupleD : D → Option Val
  | .lst xs => some (.sh (.tup xs))
  | .scr xs => some (.sh (.tup xs))
  | .tup xs => some (.sh (.tup xs))
  | _ => none
theorem und_tuple : UnD X (fun x H Q => ∃ p ys, x = .ref p ∧ ((SqL X.K H p ys ∧ ∀ l, H l = none → Q (.ref l) (upd H l (.tup ys))) ∨ (SqT X.K H p ys ∧ Q (.ref p) H))) tupleD := fun F0 H0 H σ ρ vs xs v d Q s ⟨x, hx, q⟩ => by
  obtain ⟨F, hF, a, t⟩ := s.oneT
  match d, a, hx with
  | .lst ds, .lst (vs := us) h1 k1, hx => cases hx; exact ⟨_, us, rfl, .inl ⟨hF.seq (.of h1), fun l nl => q _ _ (Stt.newTup k1.length (t us ds k1) nl)⟩⟩
  | .scr ds, .scr (vs := us) h1 k1, hx => cases hx; exact ⟨_, us, rfl, .inl ⟨hF.seq h1, fun l nl => q _ _ (Stt.newTup k1.length (t us ds k1) nl)⟩⟩
  | .tup ds, .tup (vs := us) h1 k1, hx => cases hx; exact ⟨_, us, rfl, .inr ⟨sameT hF h1, q _ _ s⟩⟩
theorem call_tupleA : CallR X (.type "tuple") (fun xs H Q => ∃ x, xs = [x] ∧ ∃ p ys, x = .ref p ∧ ((SqL X.K H p ys ∧ ∀ l, H l = none → Q (.ref l) (upd H l (.tup ys))) ∨ (SqT X.K H p ys ∧ Q (.ref p) H))) := fun pins s σ H xs us Q I r ⟨x, e, p, ys, h1, h2⟩ => call_tuple_of pins s σ H xs us Q I r ⟨p, ys, by rw [e, h1], h2⟩
/-! lists of numbers, of truths -/
def dInts : List D → Option (List Int)
  | [] => some []
  | .int i :: r => (dInts r).map (i :: ·)
  | _ :: _ => none
def dBls : List D → Option (List Bool)
  | [] => some []
  | .bl i :: r => (dBls r).map (i :: ·)
  | _ :: _ => none
theorem ints_ats {K : PySem.W.Frag} {F : Hp} : ∀ {ds : List D} {vs : List V} {ns : List Int}, Ats K F vs ds → dInts ds = some ns → vs = ns.map V.int
  | [], _, ns, .nil, h => by cases h; rfl
  | .int i :: r, _, ns, .cons (.int _) t, h => by
    obtain ⟨ms, e1, e2⟩ := Option.map_eq_some_iff.mp (show (dInts r).map (i :: ·) = some ns from h)
    subst e2
    rw [ints_ats t e1]; rfl
  | .non :: _, _, _, _, h => by cases h
  | .bl _ :: _, _, _, _, h => by cases h
  | .str _ :: _, _, _, _, h => by cases h
  | .lst _ :: _, _, _, _, h => by cases h
  | .scr _ :: _, _, _, _, h => by cases h
  | .tup _ :: _, _, _, _, h => by cases h
  | .ins _ _ _ :: _, _, _, _, h => by cases h
  | .junk :: _, _, _, _, h => by cases h
  | .exn _ _ _ _ :: _, _, _, _, h => by cases h
theorem bls_ats {K : PySem.W.Frag} {F : Hp} : ∀ {ds : List D} {vs : List V} {ns : List Bool}, Ats K F vs ds → dBls ds = some ns → vs = ns.map V.bl
  | [], _, ns, .nil, h => by cases h; rfl
  | .bl i :: r, _, ns, .cons (.bl _) t, h => by
    obtain ⟨ms, e1, e2⟩ := Option.map_eq_some_iff.mp (show (dBls r).map (i :: ·) = some ns from h)
    subst e2
    rw [bls_ats t e1]; rfl
  | .non :: _, _, _, _, h => by cases h
  | .int _ :: _, _, _, _, h => by cases h
  | .str _ :: _, _, _, _, h => by cases h
  | .lst _ :: _, _, _, _, h => by cases h
  | .scr _ :: _, _, _, _, h => by cases h
  | .tup _ :: _, _, _, _, h => by cases h
  | .ins _ _ _ :: _, _, _, _, h => by cases h
  | .junk :: _, _, _, _, h => by cases h
  | .exn _ _ _ _ :: _, _, _, _, h => by cases h
def ofI (f : List Int → Option Val) : D → Option Val
  | .lst xs => (dInts xs).bind f
  | _ => none
def ofB (f : List Bool → Option Val) : D → Option Val
  | .lst xs => (dBls xs).bind f
  | _ => none
theorem ofI_some {K : PySem.W.Frag} {F H : Hp} {f : List Int → Option Val} {d : D} {v : V} {x : Val} (hF : Same F H) (a : At K F v d) (h : ofI f d = some x) : ∃ p ns, v = .ref p ∧ SqL K H p (ns.map V.int) ∧ f ns = some x := by
  match d, a, h with
  | .lst ds, .lst (vs := us) h1 k1, h =>
    obtain ⟨ns, e1, e2⟩ := Option.bind_eq_some_iff.mp (show (dInts ds).bind f = some x from h)
    rw [ints_ats k1 e1] at h1
    exact ⟨_, ns, rfl, hF.seq (.of h1), e2⟩
theorem ofB_some {K : PySem.W.Frag} {F H : Hp} {f : List Bool → Option Val} {d : D} {v : V} {x : Val} (hF : Same F H) (a : At K F v d) (h : ofB f d = some x) : ∃ p ns, v = .ref p ∧ SqL K H p (ns.map V.bl) ∧ f ns = some x := by
  match d, a, h with
  | .lst ds, .lst (vs := us) h1 k1, h =>
    obtain ⟨ns, e1, e2⟩ := Option.bind_eq_some_iff.mp (show (dBls ds).bind f = some x from h)
    rw [bls_ats k1 e1] at h1
    exact ⟨_, ns, rfl, hF.seq (.of h1), e2⟩
def sumD : D → Option Val := ofI fun ns => some (.sh (.int ns.sum))
def allD : D → Option Val := ofB fun bs => some (.sh (.bl (bs.all fun b => b)))
def anyD : D → Option Val := ofB fun bs => some (.sh (.bl (bs.any fun b => b)))
def maxI : List Int → Int
  | [] => 0
  | x :: xs => xs.foldl max x
def minI : List Int → Int
  | [] => 0
  | x :: xs => xs.foldl min x
theorem foldl_max_mem : ∀ (xs : List Int) (x : Int), (xs.foldl max x = x ∨ xs.foldl max x ∈ xs) ∧ x ≤ xs.foldl max x ∧ ∀ y ∈ xs, y ≤ xs.foldl max x
  | [], x => ⟨.inl rfl, Int.le_refl x, fun y h => by cases h⟩
  | a :: xs, x => by
    obtain ⟨h1, h2, h3⟩ := foldl_max_mem xs (max x a)
    rw [List.foldl_cons]
    refine ⟨?_, by omega, fun y hy => ?_⟩
    · rcases h1 with h1 | h1
      · rw [h1]
        by_cases hx : x ≤ a
        · right; rw [Int.max_eq_right hx]; exact List.mem_cons_self
        · left; omega
      · exact .inr (List.mem_cons_of_mem _ h1)
    · rcases List.mem_cons.mp hy with e | hy
      · omega
      · exact h3 y hy
theorem foldl_min_mem : ∀ (xs : List Int) (x : Int), (xs.foldl min x = x ∨ xs.foldl min x ∈ xs) ∧ xs.foldl min x ≤ x ∧ ∀ y ∈ xs, xs.foldl min x ≤ y
  | [], x => ⟨.inl rfl, Int.le_refl x, fun y h => by cases h⟩
  | a :: xs, x => by
    obtain ⟨h1, h2, h3⟩ := foldl_min_mem xs (min x a)
    rw [List.foldl_cons]
    refine ⟨?_, by omega, fun y hy => ?_⟩
    · rcases h1 with h1 | h1
      · rw [h1]
        by_cases hx : a ≤ x
        · right; rw [Int.min_eq_right hx]; exact List.mem_cons_self
        · left; omega
      · exact .inr (List.mem_cons_of_mem _ h1)
    · rcases List.mem_cons.mp hy with e | hy
      · omega
      · exact h3 y hy
theorem max_is {ns : List Int} (h0 : 0 < ns.length) {m : Int} (h1 : m ∈ ns) (h2 : ∀ y, y ∈ ns → y ≤ m) : m = maxI ns := by
  match ns, h0 with
  | x :: xs, _ =>
    obtain ⟨a, b, c⟩ := foldl_max_mem xs x
    have u : xs.foldl max x ≤ m := by
      rcases a with a | a
      · rw [a]; exact h2 x List.mem_cons_self
      · exact h2 _ (List.mem_cons_of_mem _ a)
    have l : m ≤ xs.foldl max x := by
      rcases List.mem_cons.mp h1 with e | h1
      · omega
      · exact c m h1
    show m = xs.foldl max x
    omega
theorem min_is {ns : List Int} (h0 : 0 < ns.length) {m : Int} (h1 : m ∈ ns) (h2 : ∀ y, y ∈ ns → m ≤ y) : m = minI ns := by
  match ns, h0 with
  | x :: xs, _ =>
    obtain ⟨a, b, c⟩ := foldl_min_mem xs x
    have u : m ≤ xs.foldl min x := by
      rcases a with a | a
      · rw [a]; exact h2 x List.mem_cons_self
      · exact h2 _ (List.mem_cons_of_mem _ a)
    have l : xs.foldl min x ≤ m := by
      rcases List.mem_cons.mp h1 with e | h1
      · omega
      · exact c m h1
    show m = xs.foldl min x
    omega
def maxD : D → Option Val := ofI fun ns => if 0 < ns.length then some (.sh (.int (maxI ns))) else none
def minD : D → Option Val := ofI fun ns => if 0 < ns.length then some (.sh (.int (minI ns))) else none
def toL1 (r : List V → Hp → VK → Prop) : V → Hp → VK → Prop := fun x H Q => r [x] H Q
theorem call_1 {r : List V → Hp → VK → Prop} {f : Value} (h : CallR X f r) : CallR X f (fun xs H Q => ∃ x, xs = [x] ∧ toL1 r x H Q) := fun pins s σ H xs us Q I rr ⟨x, e, q⟩ => h pins s σ H xs us Q I rr (by rw [e]; exact q)
theorem und_sum : UnD X (toL1 (rSum X.K)) sumD := fun F0 H0 H σ ρ vs xs v d Q s ⟨x, hx, q⟩ => by
  obtain ⟨F, hF, a, t⟩ := s.oneT
  obtain ⟨p, ns, rfl, h1, h2⟩ := ofI_some hF a hx
  cases h2
  exact ⟨p, ns, rfl, h1, q H _ (s.pop.scal fun F => .int _)⟩
theorem und_all : UnD X (toL1 (rAll X.K)) allD := fun F0 H0 H σ ρ vs xs v d Q s ⟨x, hx, q⟩ => by
  obtain ⟨F, hF, a, t⟩ := s.oneT
  obtain ⟨p, ns, rfl, h1, h2⟩ := ofB_some hF a hx
  cases h2
  exact ⟨p, ns, rfl, h1, q H _ (s.pop.scal fun F => .bl _)⟩
theorem und_any : UnD X (toL1 (rAny X.K)) anyD := fun F0 H0 H σ ρ vs xs v d Q s ⟨x, hx, q⟩ => by
  obtain ⟨F, hF, a, t⟩ := s.oneT
  obtain ⟨p, ns, rfl, h1, h2⟩ := ofB_some hF a hx
  cases h2
  exact ⟨p, ns, rfl, h1, q H _ (s.pop.scal fun F => .bl _)⟩
theorem und_max : UnD X (toL1 (rMax X.K)) maxD := fun F0 H0 H σ ρ vs xs v d Q s ⟨x, hx, q⟩ => by
  obtain ⟨F, hF, a, t⟩ := s.oneT
  obtain ⟨p, ns, rfl, h1, h2⟩ := ofI_some hF a hx
  split at h2
  · rename_i h0
    cases h2
    exact ⟨p, ns, rfl, h1, h0, fun m z1 z2 => q H _ (s.pop.scal fun F => by rw [max_is h0 z1 z2]; exact .int _)⟩
  · cases h2
theorem und_min : UnD X (toL1 (rMin X.K)) minD := fun F0 H0 H σ ρ vs xs v d Q s ⟨x, hx, q⟩ => by
  obtain ⟨F, hF, a, t⟩ := s.oneT
  obtain ⟨p, ns, rfl, h1, h2⟩ := ofI_some hF a hx
  split at h2
  · rename_i h0
    cases h2
    exact ⟨p, ns, rfl, h1, h0, fun m z1 z2 => q H _ (s.pop.scal fun F => by rw [min_is h0 z1 z2]; exact .int _)⟩
  · cases h2
/-! of two arguments -/
def g2 (g : D → D → Option Val) : List D → Option Val
  | [d, e] => g d e
  | _ => none
theorem g2_some {g : D → D → Option Val} {ds : List D} {x : Val} (h : g2 g ds = some x) : ∃ d e, ds = [d, e] ∧ g d e = some x := by
  match ds, h with
  | [d, e], h => exact ⟨d, e, rfl, h⟩
theorem calld_2I {C : Int → Int → Prop} {r : Int → Int → Hp → VK → Prop} {g : D → D → Option Val} (h : ∀ F0 H0 H σ ρ vs xs i j x (Q : VK), Stt X.K F0 H0 H σ ρ vs xs → g (.int i) (.int j) = some x → (∀ H' u, Stt X.K F0 H0 H' σ ρ (u :: vs) (x :: xs) → Q u H') → r i j H Q)
    (hn : ∀ d e x, g d e = some x → ∃ i j, d = .int i ∧ e = .int j) : CallD X (fun xs H Q => ∃ i j, xs = [.int i, .int j] ∧ r i j H Q) (g2 g) := fun F0 H0 H σ ρ vs xs ws ds Q hl s ⟨x, hx, q⟩ => by
  obtain ⟨d, e, rfl, hg⟩ := g2_some hx
  obtain ⟨i, j, rfl, rfl⟩ := hn _ _ _ hg
  match ws, hl with
  | [v, w], _ =>
    obtain ⟨F, hF, hA, t⟩ := Stt.reads (as := [v, w]) (ds := [.int i, .int j]) rfl s
    cases hA with
    | cons a b =>
      cases b with
      | cons b _ =>
        cases a
        cases b
        exact ⟨i, j, rfl, h F0 H0 H σ ρ vs xs i j x Q s.pop.pop hg q⟩
def max2D : D → D → Option Val := fun d e => match d, e with
  | .int i, .int j => some (.sh (.int (if j > i then j else i)))
  | _, _ => none
def min2D : D → D → Option Val := fun d e => match d, e with
  | .int i, .int j => some (.sh (.int (if j < i then j else i)))
  | _, _ => none
instance (i j : Int) : Decidable (CDiv i j) := by unfold CDiv; infer_instance
def divmodD : D → D → Option Val := fun d e => match d, e with
  | .int i, .int j => if CDiv i j then some (.sh (.tup [.int (i / j), .int (i % j)])) else none
  | _, _ => none
theorem ints_of2 {f : Int → Int → Option Val} {d e : D} {x : Val} (h : (match d, e with | .int i, .int j => f i j | _, _ => none) = some x) : ∃ i j, d = .int i ∧ e = .int j := by
  match d, e, h with
  | .int i, .int j, h => exact ⟨i, j, rfl, rfl⟩
theorem calld_max2 : CallD X (fun xs H Q => ∃ i j, xs = [.int i, .int j] ∧ Q (.int (if j > i then j else i)) H) (g2 max2D) :=
  calld_2I (C := fun _ _ => True) (fun F0 H0 H σ ρ vs xs i j x Q s hg q => by cases hg; exact q H _ (s.scal fun F => .int _)) fun d e x h => ints_of2 (f := fun i j => some (.sh (.int (if j > i then j else i)))) h
theorem calld_min2 : CallD X (fun xs H Q => ∃ i j, xs = [.int i, .int j] ∧ Q (.int (if j < i then j else i)) H) (g2 min2D) :=
  calld_2I (C := fun _ _ => True) (fun F0 H0 H σ ρ vs xs i j x Q s hg q => by cases hg; exact q H _ (s.scal fun F => .int _)) fun d e x h => ints_of2 (f := fun i j => some (.sh (.int (if j < i then j else i)))) h
theorem calld_divmod : CallD X (fun xs H Q => ∃ i j, xs = [.int i, .int j] ∧ CDiv i j ∧ ∀ p, H p = none → Q (.ref p) (upd H p (.tup [.int (i / j), .int (i % j)]))) (g2 divmodD) :=
  calld_2I (C := fun _ _ => True) (r := fun i j H Q => CDiv i j ∧ ∀ p, H p = none → Q (.ref p) (upd H p (.tup [.int (i / j), .int (i % j)]))) (fun F0 H0 H σ ρ vs xs i j x Q s hg q => by
    have hg : (if CDiv i j then some (Val.sh (.tup [.int (i / j), .int (i % j)])) else none) = some x := hg
    split at hg
    · cases hg
      exact ⟨by assumption, fun p np => q _ _ (Stt.newTup (as := [.int (i / j), .int (i % j)]) (ds := [.int (i / j), .int (i % j)]) rfl ((s.scal fun _ => .int (i % j)).scal fun _ => .int (i / j)) np)⟩
    · cases hg) fun d e x h => ints_of2 (f := fun i j => if CDiv i j then some (.sh (.tup [.int (i / j), .int (i % j)])) else none) h
end
/-! the rules by name -/
section
variable {X : Cx} {p pos : Pos} {e e2 : Expr} {es : List Expr} {fs : DEnv → R (List Val)} {f : DEnv → R Val}
theorem de_len (hg : Gl X "len") (hm : X.mg "len" = none) (ha : DA X [e] fs) (he : starEach [e] X.env = (false, eval e X.env) :: starEach [] X.env := by rfl) : DE X (.Call (.Name "len" p) [e] [] pos) (sCB (g1 lenD) fs) := de_callB call_len1 (calld_1 und_len) hg hm (by decide +kernel) ha (he := he)
theorem de_abs (hg : Gl X "abs") (hm : X.mg "abs" = none) (ha : DA X [e] fs) (he : starEach [e] X.env = (false, eval e X.env) :: starEach [] X.env := by rfl) : DE X (.Call (.Name "abs" p) [e] [] pos) (sCB (g1 absD) fs) := de_callB call_abs1 (calld_1 und_abs) hg hm (by decide +kernel) ha (he := he)
theorem de_int1 (hg : Gl X "int") (hm : X.mg "int" = none) (ha : DA X [e] fs) (he : starEach [e] X.env = (false, eval e X.env) :: starEach [] X.env := by rfl) : DE X (.Call (.Name "int" p) [e] [] pos) (sCB (g1 intD) fs) := de_callTy call_intA (calld_1 und_int) hg hm (by decide +kernel) ha (he := he)
theorem de_str1 (hg : Gl X "str") (hm : X.mg "str" = none) (ha : DA X [e] fs) (he : starEach [e] X.env = (false, eval e X.env) :: starEach [] X.env := by rfl) : DE X (.Call (.Name "str" p) [e] [] pos) (sCB (g1 strD) fs) := de_callTy call_strA (calld_1 und_str) hg hm (by decide +kernel) ha (he := he)
theorem de_list1 (hg : Gl X "list") (hm : X.mg "list" = none) (ha : DA X [e] fs) (he : starEach [e] X.env = (false, eval e X.env) :: starEach [] X.env := by rfl) : DE X (.Call (.Name "list" p) [e] [] pos) (sCB (g1 listD) fs) := de_callTy call_listA (calld_1 und_list) hg hm (by decide +kernel) ha (he := he)
theorem de_tuple1 (hg : Gl X "tuple") (hm : X.mg "tuple" = none) (ha : DA X [e] fs) (he : starEach [e] X.env = (false, eval e X.env) :: starEach [] X.env := by rfl) : DE X (.Call (.Name "tuple" p) [e] [] pos) (sCB (g1 tupleD) fs) := de_callTy call_tupleA (calld_1 und_tuple) hg hm (by decide +kernel) ha (he := he)
theorem de_sum (hc : X.calm = true) (hg : Gl X "sum") (hm : X.mg "sum" = none) (ha : DA X [e] fs) (he : starEach [e] X.env = (false, eval e X.env) :: starEach [] X.env := by rfl) : DE X (.Call (.Name "sum" p) [e] [] pos) (sCB (g1 sumD) fs) := de_callB (call_1 (cr_sum hc)) (calld_1 und_sum) hg hm (by decide +kernel) ha (he := he)
theorem de_all (hc : X.calm = true) (hg : Gl X "all") (hm : X.mg "all" = none) (ha : DA X [e] fs) (he : starEach [e] X.env = (false, eval e X.env) :: starEach [] X.env := by rfl) : DE X (.Call (.Name "all" p) [e] [] pos) (sCB (g1 allD) fs) := de_callB (call_1 (cr_all hc)) (calld_1 und_all) hg hm (by decide +kernel) ha (he := he)
theorem de_any (hc : X.calm = true) (hg : Gl X "any") (hm : X.mg "any" = none) (ha : DA X [e] fs) (he : starEach [e] X.env = (false, eval e X.env) :: starEach [] X.env := by rfl) : DE X (.Call (.Name "any" p) [e] [] pos) (sCB (g1 anyD) fs) := de_callB (call_1 (cr_any hc)) (calld_1 und_any) hg hm (by decide +kernel) ha (he := he)
theorem de_max1 (hc : X.calm = true) (hg : Gl X "max") (hm : X.mg "max" = none) (ha : DA X [e] fs) (he : starEach [e] X.env = (false, eval e X.env) :: starEach [] X.env := by rfl) : DE X (.Call (.Name "max" p) [e] [] pos) (sCB (g1 maxD) fs) := de_callB (call_1 (cr_max hc)) (calld_1 und_max) hg hm (by decide +kernel) ha (he := he)
theorem de_min1 (hc : X.calm = true) (hg : Gl X "min") (hm : X.mg "min" = none) (ha : DA X [e] fs) (he : starEach [e] X.env = (false, eval e X.env) :: starEach [] X.env := by rfl) : DE X (.Call (.Name "min" p) [e] [] pos) (sCB (g1 minD) fs) := de_callB (call_1 (cr_min hc)) (calld_1 und_min) hg hm (by decide +kernel) ha (he := he)
theorem de_max2 (hc : X.calm = true) (hg : Gl X "max") (hm : X.mg "max" = none) (ha : DA X [e, e2] fs) (he : starEach [e, e2] X.env = (false, eval e X.env) :: starEach [e2] X.env := by rfl) (hpl : (backTo pos (starEach [e2] X.env)).any (·.1) = false := by rfl) : DE X (.Call (.Name "max" p) [e, e2] [] pos) (sCB (g2 max2D) fs) := de_callB (call_max2 hc) calld_max2 hg hm (by decide +kernel) ha (he := he) (hpl := hpl)
theorem de_min2 (hc : X.calm = true) (hg : Gl X "min") (hm : X.mg "min" = none) (ha : DA X [e, e2] fs) (he : starEach [e, e2] X.env = (false, eval e X.env) :: starEach [e2] X.env := by rfl) (hpl : (backTo pos (starEach [e2] X.env)).any (·.1) = false := by rfl) : DE X (.Call (.Name "min" p) [e, e2] [] pos) (sCB (g2 min2D) fs) := de_callB (call_min2 hc) calld_min2 hg hm (by decide +kernel) ha (he := he) (hpl := hpl)
theorem de_divmod (hg : Gl X "divmod") (hm : X.mg "divmod" = none) (ha : DA X [e, e2] fs) (he : starEach [e, e2] X.env = (false, eval e X.env) :: starEach [e2] X.env := by rfl) (hpl : (backTo pos (starEach [e2] X.env)).any (·.1) = false := by rfl) : DE X (.Call (.Name "divmod" p) [e, e2] [] pos) (sCB (g2 divmodD) fs) := de_callB call_divmod calld_divmod hg hm (by decide +kernel) ha (he := he) (hpl := hpl)
end
end DL

/-! DLg: names that own lists; isinstance; in; defs, calls. -/
namespace DL
open PySem PySem.Spec L2

/-! ### a name that owns a list: it is read without being left to others -/
theorem at_le {K : PySem.W.Frag} {F H : Hp} {v : V} {d : D} {x : Val} (hF : Same F H) (a : At K F v d) (h : lenD d = some x) : ∃ n : Nat, LenV K v H n ∧ x = .sh (.int n) := by
  match d, a, h with
  | .lst ds, .lst (vs := us) h1 k1, h => cases h; exact ⟨us.length, .inl ⟨us, hF.seq (.of h1), rfl⟩, by rw [k1.length]⟩
  | .scr ds, .scr (vs := us) h1 k1, h => cases h; exact ⟨us.length, .inl ⟨us, hF.seq h1, rfl⟩, by rw [k1.length]⟩
  | .tup ds, .tup (vs := us) h1 k1, h => cases h; exact ⟨us.length, .inr ⟨us, sameT hF h1, rfl⟩, by rw [k1.length]⟩
  | .str z, .str _, h =>
    have hx : (if z.length ≤ 10000000 then some (Val.sh (.int z.length)) else none) = some x := h
    split at hx
    · rename_i hz
      cases hx
      exact ⟨z.length, ⟨sz_of hz, rfl⟩, rfl⟩
    · cases hx
def sLenV (i : Nat) : DEnv → R Val := fun ρ => match getV ρ[i]? with
  | some (.lst xs) => .ok (.sh (.int xs.length)) ρ
  | some x => liftO (lenD x.fz) ρ
  | none => .bad
def ixV (x : Val) (e : D) : Option D := match x, e with
  | .lst xs, .int i => (atI xs i).bind fun y => match y with
    | .sh d => some d
    | _ => none
  | .tup xs, .int i => (atI xs i).bind fun y => match y with
    | .sh d => some d
    | _ => none
  | .sh d, e => match ixD d e with
    | some (.sh d) => some d
    | _ => none
  | _, _ => none
/-- x[e], x a name -/
def sIxV (i : Nat) (f : DEnv → R Val) : DEnv → R Val := fun ρ => match getV ρ[i]? with
  | none => .bad
  | some _ => (f ρ).bind fun y ρ1 => match getV ρ1[i]? with
    | none => .bad
    | some x => liftO ((ixV x y.fz).map .sh) ρ1
/-- x.append(e) -/
def sApp (i : Nat) (f : DEnv → R Val) : DEnv → Fl := fun ρ => match getV ρ[i]? with
  | some (.lst _) => (f ρ).fl fun y ρ1 => match getV ρ1[i]? with
    | some (.lst xs) => if xs.length < 10000000 then .nx (ρ1.set i (some (.lst (xs ++ [y])))) else .bad
    | _ => .bad
  | _ => .bad
/-- x[k] = e -/
def setIx (i : Nat) (y : Val) (k : D) (ρ : DEnv) : Fl := match getV ρ[i]?, k with
  | some (.lst xs), .int n => match ixN xs.length n with
    | some j => .nx (ρ.set i (some (.lst (xs.set j y))))
    | none => .bad
  | _, _ => .bad
def ownsL (i : Nat) (ρ : DEnv) : Bool := match getV ρ[i]? with
  | some (.lst _) => true
  | _ => false
def sSetIx (i : Nat) (fk fe : DEnv → R Val) : DEnv → Fl := fun ρ => (fe ρ).fl fun y ρ1 => if ownsL i ρ1 = true then (fk ρ1).fl fun k ρ2 => setIx i y k.fz ρ2 else .bad
theorem ownsL_some {i : Nat} {ρ : DEnv} (h : ownsL i ρ = true) : ∃ xs, getV ρ[i]? = some (.lst xs) := by
  unfold ownsL at h
  split at h
  · exact ⟨_, by assumption⟩
  · cases h
theorem setIx_some {i : Nat} {y : Val} {k : D} {ρ : DEnv} : setIx i y k ρ = .bad ∨ ∃ xs n j, getV ρ[i]? = some (.lst xs) ∧ k = .int n ∧ ixN xs.length n = some j ∧ setIx i y k ρ = .nx (ρ.set i (some (.lst (xs.set j y)))) := by
  unfold setIx
  split
  · rename_i xs n e
    cases e2 : ixN xs.length n with
    | none => exact .inl rfl
    | some j => exact .inr ⟨_, _, j, e, rfl, e2, rfl⟩
  · exact .inl rfl
section
variable {K : PySem.W.Frag} {F0 H0 H : Hp} {σ : L2.St} {ρ : DEnv} {vs : List V} {xs ys : List Val} {i : Nat} {x : Val}
theorem Stt.peek (h : Stt K F0 H0 H σ ρ vs xs) (e : ρ[i]? = some (some x)) : ∃ v, σ[i]? = some (some v) ∧ ∃ F f, Same F H ∧ Own K F H v x f ∧ (∀ as ds, Ats K F as ds → Stt K F0 H0 H σ ρ (as ++ vs) (ds.map .sh ++ xs)) := by
  obtain ⟨F, f, g, h1, h2, h3, h4, h5, h6, h7, h8⟩ := h
  obtain ⟨v, g1, r, k1, k2, k3, k4⟩ := Sl.take i h5 e
  refine ⟨v, k1, F, g1, h3, k2, fun as ds k => ?_⟩
  obtain ⟨g3, c1, c2, c3⟩ := (Owns.of_ats (H := H) k).append h6
  have s : Sb (g3 ++ f) (g ++ f) := Sb.app (by simpa using c2) (.refl f)
  exact ⟨F, f, g3, h1, h2, h3, h4, h5, c1, s.2 h7, fun b hb => h8 b (s.1 b hb)⟩
end
theorem owns_at {K : PySem.W.Frag} {F H : Hp} : ∀ {vs : List V} {xs : List Val} {f : List Addr}, Owns K F H vs xs f → ∀ {j : Nat} {d : D}, xs[j]? = some (.sh d) → ∃ v, vs[j]? = some v ∧ At K F v d
  | _, _, _, .nil, _, _, e => by simp at e
  | _, _, _, .cons (.sh a) _, 0, d, e => by simp at e; subst e; exact ⟨_, rfl, a⟩
  | _, _, _, .cons (.lst _ _ _) _, 0, d, e => by simp at e
  | _, _, _, .cons (.tup _ _ _) _, 0, d, e => by simp at e
  | _, _, _, .cons (.dic _ _ _ _ _) _, 0, d, e => by simp at e
  | _, _, _, .cons (.dicL _ _ _ _ _ _ _) _, 0, d, e => by simp at e
  | _, _, _, .cons _ t, j + 1, d, e => by
    obtain ⟨v, h1, h2⟩ := owns_at t (j := j) (d := d) (by simpa using e)
    exact ⟨v, by simpa using h1, h2⟩
section
variable {X : Cx} {a b e : Expr} {fa fb f : DEnv → R Val} {pos p apos : Pos} {x : Str} {i : Nat}
theorem pv_look {σ : L2.St} {v : V} (h : σ[i]? = some (some v)) {H : Hp} {Q : VK} (q : Q v H) : tVar i σ H Q := ⟨v, h, q⟩
theorem de_lenV (hg : Gl X "len") (hm : X.mg "len" = none) {q : Pos} (hx : PE X (.Name x q) (tVar i)) (he : starEach [.Name x q] X.env = (false, eval (.Name x q) X.env) :: starEach [] X.env := by rfl) : DE X (.Call (.Name "len" p) [.Name x q] [] pos) (sLenV i) :=
  PE.imp (pe_callB call_len1 hg hm (by decide +kernel) (pa_cons hx pa_nil he) (he := he)) fun σ H Q ⟨F0, H0, ρ, vs, xs, s, q⟩ => by
    unfold sLenV at q
    cases e : getV ρ[i]? with
    | none => rw [e] at q; exact q.elim
    | some y =>
      rw [e] at q
      obtain ⟨v, k1, F, f, hF, ho, t⟩ := s.peek (getV_some e)
      refine ⟨v, k1, v, rfl, ?_⟩
      cases ho with
      | @sh vv dd a =>
        have q' : post X F0 H0 vs xs (fun x ρ' => ∀ H' v, Stt X.K F0 H0 H' σ ρ' (v :: vs) (x :: xs) → Q v H') (liftO (lenD dd) ρ) := q
        cases e2 : lenD dd with
        | none => rw [e2] at q'; exact q'.elim
        | some z =>
          rw [e2] at q'
          obtain ⟨n, h1, rfl⟩ := at_le hF a e2
          exact ⟨n, h1, q' H _ (s.scal fun _ => .int _)⟩
      | @lst pp us zs ff h1 h2 h3 =>
        exact ⟨us.length, .inl ⟨us, .of h2, rfl⟩, by rw [h3.length]; exact q H _ (s.scal fun _ => .int _)⟩
      | @tup pp us zs ff h1 h2 h3 =>
        have q' : post X F0 H0 vs xs (fun x ρ' => ∀ H' v, Stt X.K F0 H0 H' σ ρ' (v :: vs) (x :: xs) → Q v H') (liftO (lenD (.tup (fzs zs))) ρ) := q
        refine ⟨us.length, .inr ⟨us, .of h2, rfl⟩, q' H _ ?_⟩
        have e3 : us.length = (fzs zs).length := by rw [h3.length, fzs_map, List.length_map]
        rw [e3]
        exact s.scal fun _ => .int _
      | dic => exact (show False from q).elim
      | dicL => exact (show False from q).elim
theorem de_ixV {q : Pos} (hx : PE X (.Name x q) (tVar i)) (hb : DE X b fb) (hs : PlainIx b := by exact fun _ _ => rfl) : DE X (.Subscript (.Name x q) b pos) (sIxV i fb) :=
  PE.imp (pe_ix ix_seq hx hb hs) fun σ H Q ⟨F0, H0, ρ, vs, xs, s, q⟩ => by
    unfold sIxV at q
    cases e0 : getV ρ[i]? with
    | none => rw [e0] at q; exact q.elim
    | some y0 =>
      rw [e0] at q
      obtain ⟨v, k0, _⟩ := s.peek (getV_some e0)
      refine ⟨v, k0, F0, H0, ρ, vs, xs, s, (post_bind q).imp (fun y ρ1 q1 H1 w s1 => ?_) fun _ _ z => z⟩
      cases e : getV ρ1[i]? with
      | none => rw [e] at q1; exact q1.elim
      | some z =>
        rw [e] at q1
        obtain ⟨v', k1, F, f, hF, ho, t⟩ := s1.fz.peek (getV_some e)
        have ev : v' = v := by rw [k0] at k1; cases k1; rfl
        subst ev
        cases e2 : ixV z y.fz with
        | none => simp only [e2] at q1; exact q1.elim
        | some d =>
          simp only [e2] at q1
          have ew : ∀ j, y.fz = .int j → w = .int j := fun j hj => by
            obtain ⟨F', _, a, _⟩ := s1.fz.oneT
            rw [hj] at a
            cases a
            rfl
          cases ho with
          | @lst pp us zs ff h1 h2 h3 =>
            match hy : y.fz, e2 with
            | .int j, e2 =>
              have e3 : ((atI zs j).bind fun y => match y with | .sh d => some d | _ => none) = some d := e2
              obtain ⟨u, e4, e5⟩ := Option.bind_eq_some_iff.mp e3
              cases u with
              | lst _ => cases e5
              | tup _ => cases e5
              | dic _ _ => cases e5
              | sh d' =>
                cases e5
                unfold atI at e4
                obtain ⟨n, e6, e7⟩ := Option.bind_eq_some_iff.mp e4
                obtain ⟨u, e8, a⟩ := owns_at h3 e7
                have s2 := (t [u] _ (.one a))
                refine .inl ⟨pp, us, j, u, rfl, ew j hy, .of h2, ?_, q1 H1 _ ?_⟩
                · unfold atI
                  rw [h3.length, e6]
                  exact e8
                · exact (Stt.turn (as := [u]) (bs := [.sh _]) rfl s2).pop
          | @dicL pp us bb ff uu oo =>
            have e9 : ∀ e : D, ixV (.dic bb ff) e = none := fun e => by cases e <;> rfl
            rw [e9] at e2
            cases e2
          | @dic pp us bb ff =>
            have e9 : ∀ e : D, ixV (.dic bb ff) e = none := fun e => by cases e <;> rfl
            rw [e9] at e2
            cases e2
          | @sh vv dd a =>
            have e3 : (match ixD dd y.fz with | some (.sh d) => some d | _ => none) = some d := e2
            cases e4 : ixD dd y.fz with
            | none => rw [e4] at e3; cases e3
            | some u =>
              rw [e4] at e3
              match u, e3, e4 with
              | .sh d', e3, e4 =>
                cases e3
                have s2 : Stt X.K F0 H0 H1 σ ρ1 (w :: v' :: vs) (.sh y.fz :: .sh dd :: xs) := Stt.turn' (as := [w]) (bs := [.sh y.fz]) rfl (t [v'] [dd] (.one a))
                exact opd_ix F0 H0 H1 σ ρ1 vs xs v' w dd y.fz Q s2 ⟨_, e4, q1⟩
          | @tup pp us zs ff h1 h2 h3 =>
            match hy : y.fz, e2 with
            | .int j, e2 =>
              have e3 : ((atI zs j).bind fun y => match y with | .sh d => some d | _ => none) = some d := e2
              obtain ⟨u, e4, e5⟩ := Option.bind_eq_some_iff.mp e3
              cases u with
              | lst _ => cases e5
              | tup _ => cases e5
              | dic _ _ => cases e5
              | sh d' =>
                cases e5
                unfold atI at e4
                obtain ⟨n, e6, e7⟩ := Option.bind_eq_some_iff.mp e4
                obtain ⟨u, e8, a⟩ := owns_at h3 e7
                have s2 := (t [u] _ (.one a))
                refine .inr (.inl ⟨pp, us, j, u, rfl, ew j hy, .of h2, ?_, q1 H1 _ ?_⟩)
                · unfold atI
                  rw [h3.length, e6]
                  exact e8
                · exact (Stt.turn (as := [u]) (bs := [.sh _]) rfl s2).pop
theorem ds_app {q : Pos} (hb : PE X (.Call (.Attribute (.Name x q) "append" apos) [e] [] p) (tBM X.K "list" rAppend (tVar i) (tCons (tE X fb) tNil)))
    (hs : swapsWith (.Call (.Attribute (.Name x q) "append" apos) [e] [] p) none pos.line X.env = pure false := by rfl) :
    DS X (.Expr (.Call (.Attribute (.Name x q) "append" apos) [e] [] p) pos) (sApp i fb) :=
  PS.imp (ps_expr hb hs) fun D σ H ⟨F0, H0, ρ, vs, xs, s, q⟩ => by
    unfold sApp at q
    match e0 : getV ρ[i]?, q with
    | some (.lst xs0), q =>
      obtain ⟨v, k0, F, f, hF, ho, _⟩ := s.peek (getV_some e0)
      cases ho with
      | @lst pp us zs ff h1 h2 h3 =>
        refine ⟨_, k0, .inl ⟨rfl, us, .of h2⟩, F0, H0, ρ, vs, xs, s, (post_fl q).imp (fun y ρ1 q1 H1 w s1 => ?_) fun _ _ z => z⟩
        match e1 : getV ρ1[i]?, q1 with
        | some (.lst xs1), q1 =>
          have q1 : fpost X F0 H0 vs xs D (if xs1.length < 10000000 then .nx (ρ1.set i (some (.lst (xs1 ++ [y])))) else .bad) := q1
          split at q1
          · rename_i hz
            obtain ⟨p1, ws, c1, c2, c3, c4⟩ := Stt.edit (as := [w]) (bs := [y]) rfl s1 (getV_some e1)
            have ep : p1 = pp := by rw [k0] at c1; cases c1; rfl
            subst ep
            refine ⟨p1, ws, w, rfl, rfl, c2, by rw [c3, sizeLine_eq]; omega, q1 σ _ ?_⟩
            exact c4 (ws ++ [w]) (xs1 ++ [y]) [] [] fun F H f hO => ⟨f, [], hO, .nil, by rw [List.append_nil]; exact .refl f⟩
          · exact q1.elim
theorem owns_set {K : PySem.W.Frag} {F H : Hp} {w : V} {y : Val} : ∀ {vs : List V} {xs : List Val} {f : List Addr} (j : Nat), j < xs.length → Owns K F H (vs ++ [w]) (xs ++ [y]) f → vs.length = xs.length → ∃ f1, Owns K F H (vs.set j w) (xs.set j y) f1 ∧ Sb f1 f
  | [], [], _, _, hj, _, _ => by simp at hj
  | v :: vs, x :: xs, _, 0, _, .cons (f := f1) (g := f2) a t, hl => by
    obtain ⟨g1, g2, h1, h2, h3, _⟩ := Owns.split (by simpa using hl) t
    cases h2 with
    | @cons _ _ _ _ g3 _ b n =>
      cases n
      refine ⟨_, .cons b h1, ?_⟩
      have p : Sb (g3 ++ g1) (g1 ++ (g3 ++ [])) := by rw [List.append_nil]; exact .comm _ _
      exact (p.trans h3).trans (.right _ _)
  | v :: vs, x :: xs, _, j + 1, hj, .cons (f := f1) a t, hl => by
    obtain ⟨f2, h1, h2⟩ := owns_set j (by simpa using hj) t (by simpa using hl)
    exact ⟨_, .cons a h1, (Sb.refl f1).app h2⟩
theorem ds_setIx {q qpos : Pos} (hg : PG X (.Subscript (.Name x q) a qpos) (gSub (tVar i) (tE X fa) rSetL)) (he : DE X e fb)
    (hs : swapsWithSole [.Subscript (.Name x q) a qpos] e pos.line X.env = pure false := by rfl) (hw : swappedStores [.Subscript (.Name x q) a qpos] e X.env = pure none := by rfl)
    (h1 : (assignEach [.Subscript (.Name x q) a qpos] X.env).map (·.2) = [assign (.Subscript (.Name x q) a qpos) X.env] := by rfl)
    :
    DS X (.Assign [.Subscript (.Name x q) a qpos] e pos) (sSetIx i fa fb) :=
  PS.imp (ps_asg he hg hs hw h1) fun D σ H ⟨F0, H0, ρ, vs, xs, s, q⟩ => by
    refine ⟨F0, H0, ρ, vs, xs, s, (post_fl q).imp (fun y ρ1 q1 H1 w s1 => ?_) fun _ _ z => z⟩
    split at q1
    rotate_left
    · exact q1.elim
    rename_i ho1
    obtain ⟨xs0, e0⟩ := ownsL_some ho1
    obtain ⟨v, k0, F, f, hF, ho, _⟩ := s1.peek (getV_some e0)
    cases ho with
    | @lst pp us zs ff h1 h2 h3 =>
      refine ⟨_, k0, F0, H0, ρ1, _, _, s1, (post_fl q1).imp (fun k ρ2 q2 H2 kk s2 => ?_) fun _ _ z => z.more⟩
      rcases setIx_some (i := i) (y := y) (k := k.fz) (ρ := ρ2) with e1 | ⟨xs1, n, j, e1, hk, e2, e3⟩
      · rw [e1] at q2; exact q2.elim
      · rw [e3] at q2
        obtain ⟨F', _, ak, _⟩ := s2.fz.oneT
        rw [hk] at ak
        cases ak
        obtain ⟨p1, ws, c1, c2, c3, c4⟩ := Stt.edit (as := [w]) (bs := [y]) rfl s2.pop (getV_some e1)
        have ep : p1 = pp := by rw [k0] at c1; cases c1; rfl
        subst ep
        have hj := (ixN_seq e2).2.1
        refine ⟨p1, ws, n, j, rfl, rfl, c2, by rw [c3]; exact e2, q2 σ _ ?_⟩
        refine c4 (ws.set j w) (xs1.set j y) [] [] fun F H f hO => ?_
        obtain ⟨f1, o1, o2⟩ := owns_set j hj hO c3
        exact ⟨f1, [], o1, .nil, by rw [List.append_nil]; exact o2⟩
end

/-! ### isinstance of built-in classes -/
inductive BT where
  | int | bool | str | list | tuple
def BT.nm : BT → String
  | .int => "int" | .bool => "bool" | .str => "str" | .list => "list" | .tuple => "tuple"
def D.isB : BT → D → Option Bool
  | .int, .int _ => some true
  | .int, .bl _ => some true
  | .bool, .bl _ => some true
  | .str, .str _ => some true
  | .list, .lst _ => some true
  | .list, .scr _ => some true
  | .tuple, .tup _ => some true
  | _, .ins _ _ _ => none
  | _, .junk => none
  | _, .exn _ _ _ _ => none
  | _, _ => some false
def isiD (T : BT) : D → Option Val := fun d => (d.isB T).map fun b => .sh (.bl b)
section
variable {X : Cx} {e : Expr} {f : DEnv → R Val} {p pos q : Pos}
theorem und_isi (T : BT) : UnD X (fun x H Q => rIsi X.K [x, .ty T.nm] H Q) (isiD T) := fun F0 H0 H σ ρ vs xs v d Q s ⟨x, hx, q⟩ => by
  obtain ⟨F, hF, a, t⟩ := s.oneT
  obtain ⟨b, e1, rfl⟩ := Option.map_eq_some_iff.mp hx
  have fin : ∀ t : String, kitB t T.nm = some b → TyX X.K H v (.type t) → rIsi X.K [v, .ty T.nm] H Q := fun t h1 h2 =>
    ⟨v, .ty T.nm, .type t, .type T.nm, b, rfl, .ty _, h2, kit_ty h1, q H _ (s.pop.scal fun F => .bl _)⟩
  have tl : ∀ {a : Addr} {us : List V}, SqL X.K F a us → TyX X.K H (.ref a) (.type "list") := fun h => by
    rcases hF.seq h with (h | ⟨o, h⟩) | ⟨o, its, n, h1, h2, _⟩
    · exact .base (.lst h)
    · exact .base (.frz h)
    · exact .kList h1 h2
  have tt : ∀ {a : Addr} {us : List V}, TupAt X.K F a us → TyX X.K H (.ref a) (.type "tuple") := fun h => by
    rcases sameT hF h with (h | ⟨o, h⟩) | ⟨o, its, n, h1, h2, _⟩
    · exact .base (.tup h)
    · exact .fTuple h
    · exact .kTuple h1 h2
  cases a with
  | non => exact fin "NoneType" (by cases T <;> cases e1 <;> decide +kernel) (.base .non)
  | bl k => exact fin "bool" (by cases T <;> cases e1 <;> decide +kernel) (.base (.bl k))
  | int i => exact fin "int" (by cases T <;> cases e1 <;> decide +kernel) (.base (.int i))
  | str z => exact fin "str" (by cases T <;> cases e1 <;> decide +kernel) (.base (.str z))
  | lst h1 h2 => exact fin "list" (by cases T <;> cases e1 <;> decide +kernel) (tl (.of h1))
  | scr h1 h2 => exact fin "list" (by cases T <;> cases e1 <;> decide +kernel) (tl h1)
  | tup h1 h2 => exact fin "tuple" (by cases T <;> cases e1 <;> decide +kernel) (tt h1)
  | ins _ _ _ => cases T <;> cases e1
  | junk _ => cases T <;> cases e1
  | exn _ _ _ _ => cases T <;> cases e1
theorem de_isi (T : BT) {y : Str} (hg : Gl X "isinstance") (hm : X.mg "isinstance" = none) (he : DE X e f) (hy : PE X (.Name y q) (tC (.ty T.nm)))
    (h1 : starEach [e, .Name y q] X.env = (false, eval e X.env) :: starEach [.Name y q] X.env := by rfl) (h2 : starEach [.Name y q] X.env = (false, eval (.Name y q) X.env) :: starEach [] X.env := by rfl) (h3 : (backTo pos (starEach [.Name y q] X.env)).any (·.1) = false := by rfl) :
    DE X (.Call (.Name "isinstance" p) [e, .Name y q] [] pos) (sUn (isiD T) f) :=
  PE.imp (pe_callB call_isi hg hm (by decide +kernel) (pa_cons he (pa_cons hy pa_nil h2) h1) (he := h1) (hpl := h3)) fun σ H Q h => tE_un (und_isi T) h
end

/-! ### in -/
def inL (n : Bool) : D → D → Option Val := fun d e => match e with
  | .lst xs => if d.ok 20 && xs.all (D.ok 19) then some (.sh (.bl (n != xs.any fun y => y.eqv d))) else none
  | .tup xs => if d.ok 20 && xs.all (D.ok 19) then some (.sh (.bl (n != xs.any fun y => y.eqv d))) else none
  | _ => none
def inS (n : Bool) : D → D → Option Val := fun d e => match d, e with
  | .str ⟨⟨[c]⟩⟩, .str z => some (.sh (.bl (n != decide (c ∈ z.cps.toList))))
  | _, _ => none
def rInP (K : PySem.W.Frag) (n : Bool) : R2 := fun x y H Q => ∃ d ds, Dp K H x d ∧ (Dp K H y (.list ds) ∨ Dp K H y (.tuple ds)) ∧ d.plain = true ∧ PyData.plainAll ds = true ∧ d.depth ≤ 20 ∧ Q (.bl (n != ds.any fun z => PyData.eqv z d)) H
section
variable {X : Cx} {a b : Expr} {fa fb : DEnv → R Val} {pos : Pos}
theorem op_inP (hu : X.A.units + 64 < cLine) : OpR X (compareOp .In) (rInP X.K false) := by
  intro pins s σ H x y v u Q I rx ry h
  obtain ⟨d, ds, hd, he, sd, se, dd, q⟩ := h
  obtain ⟨as, r1⟩ := Dp.reads I d x v hd rx
  have hm : min (PyData.depthAll ds) d.depth ≤ d.depth := Nat.min_le_right _ _
  rcases he with he | he
  · obtain ⟨bs, r2⟩ := Dp.reads I (.list ds) y u he ry
    exact PySem.SeqAt.in_list_data r2 r1 se sd (by omega) ⟨.bl _, H, I, rfl, by simpa using q⟩
  · obtain ⟨bs, r2⟩ := Dp.reads I (.tuple ds) y u he ry
    exact PySem.SeqAt.in_tuple_data r2 r1 se sd (by omega) ⟨.bl _, H, I, rfl, by simpa using q⟩
theorem op_notInP (hu : X.A.units + 64 < cLine) : OpR X (compareOp .NotIn) (rInP X.K true) := by
  intro pins s σ H x y v u Q I rx ry h
  obtain ⟨d, ds, hd, he, sd, se, dd, q⟩ := h
  obtain ⟨as, r1⟩ := Dp.reads I d x v hd rx
  have hm : min (PyData.depthAll ds) d.depth ≤ d.depth := Nat.min_le_right _ _
  rcases he with he | he
  · obtain ⟨bs, r2⟩ := Dp.reads I (.list ds) y u he ry
    exact PySem.SeqAt.notIn_list_data r2 r1 se sd (by omega) ⟨.bl _, H, I, rfl, by simpa using q⟩
  · obtain ⟨bs, r2⟩ := Dp.reads I (.tuple ds) y u he ry
    exact PySem.SeqAt.notIn_tuple_data r2 r1 se sd (by omega) ⟨.bl _, H, I, rfl, by simpa using q⟩
theorem pys_map (xs : List D) : pys xs = xs.map D.py := by
  induction xs with
  | nil => rfl
  | cons x xs ih => rw [pys, ih, List.map_cons]
theorem opd_in (n : Bool) : OpD X (rInP X.K n) (inL n) := fun F0 H0 H σ ρ vs xs v w d e Q s ⟨x, hx, q⟩ => by
  obtain ⟨F, hF, a, b, t⟩ := s.two
  have any_eq : ∀ ys : List D, ((pys ys).any fun z => PyData.eqv z d.py) = ys.any fun y => y.eqv d := fun ys => by rw [pys_map, List.any_map]; rfl
  match e, b, hx with
  | .lst ys, b, hx =>
    have hx : (if d.ok 20 && ys.all (D.ok 19) then some (Val.sh (.bl (n != ys.any fun y => y.eqv d))) else none) = some x := hx
    split at hx
    · rename_i hc
      rw [Bool.and_eq_true] at hc
      cases hx
      have k : D.ok 20 (.lst ys) = true := hc.2
      obtain ⟨p1, p2⟩ := py_ok _ _ hc.1
      obtain ⟨p3, _⟩ := py_ok _ _ k
      rw [D.py] at p3
      have hd := at_dp hF _ _ _ k b
      rw [D.py] at hd
      exact ⟨_, _, at_dp hF _ _ _ hc.1 a, .inl hd, p1, by simpa [PyData.plain] using p3, p2, q H _ (s.pop.pop.scal fun F => by rw [any_eq]; exact .bl _)⟩
    · cases hx
  | .tup ys, b, hx =>
    have hx : (if d.ok 20 && ys.all (D.ok 19) then some (Val.sh (.bl (n != ys.any fun y => y.eqv d))) else none) = some x := hx
    split at hx
    · rename_i hc
      rw [Bool.and_eq_true] at hc
      cases hx
      have k : D.ok 20 (.tup ys) = true := hc.2
      obtain ⟨p1, p2⟩ := py_ok _ _ hc.1
      obtain ⟨p3, _⟩ := py_ok _ _ k
      rw [D.py] at p3
      have hd := at_dp hF _ _ _ k b
      rw [D.py] at hd
      exact ⟨_, _, at_dp hF _ _ _ hc.1 a, .inr hd, p1, by simpa [PyData.plain] using p3, p2, q H _ (s.pop.pop.scal fun F => by rw [any_eq]; exact .bl _)⟩
    · cases hx
theorem opd_inS (n : Bool) : OpD X (fun x y H Q => ∃ (c : Nat) (z : Str), x = .str ⟨#[c]⟩ ∧ y = .str z ∧ Q (.bl (n != decide (c ∈ z.cps.toList))) H) (inS n) := fun F0 H0 H σ ρ vs xs v w d e Q s ⟨x, hx, q⟩ => by
  obtain ⟨F, hF, a, b, t⟩ := s.two
  match d, e, a, b, hx with
  | .str ⟨⟨[c]⟩⟩, .str z, .str _, .str _, hx =>
    cases hx
    exact ⟨c, z, rfl, rfl, q H _ (s.pop.pop.scal fun F => .bl _)⟩
def inD (n : Bool) : D → D → Option Val := orG (inL n) (inS n)
theorem op_inA (hu : X.A.units + 64 < cLine) : ∃ r, OpR X (compareOp .In) r ∧ OpD X r (inD false) := ⟨_, (op_inP hu).or (fun pins s σ H x y v u Q I rx ry ⟨c, z, h1, h2, h3⟩ => op_in_sign pins s σ H x y v u Q I rx ry ⟨c, z, h1, h2, by simpa using h3⟩), (opd_in false).or (opd_inS false)⟩
theorem op_notInA (hu : X.A.units + 64 < cLine) : ∃ r, OpR X (compareOp .NotIn) r ∧ OpD X r (inD true) := ⟨_, (op_notInP hu).or (fun pins s σ H x y v u Q I rx ry ⟨c, z, h1, h2, h3⟩ => op_notIn_sign pins s σ H x y v u Q I rx ry ⟨c, z, h1, h2, by simpa using h3⟩), (opd_in true).or (opd_inS true)⟩
theorem de_in (hu : X.A.units + 64 < cLine) (ha : DE X a fa) (hb : DE X b fb) (hm : behindInMarks .In b = false := by rfl) : DE X (.Compare a [.In] [b] pos) (sOp (inD false) fa fb) := let ⟨_, h1, h2⟩ := op_inA hu; de_cmp h1 h2 ha hb hm
theorem de_notIn (hu : X.A.units + 64 < cLine) (ha : DE X a fa) (hb : DE X b fb) (hm : behindInMarks .NotIn b = false := by rfl) : DE X (.Compare a [.NotIn] [b] pos) (sOp (inD true) fa fb) := let ⟨_, h1, h2⟩ := op_notInA hu; de_cmp h1 h2 ha hb hm
theorem dt_in (hu : X.A.units + 64 < cLine) (ha : DE X a fa) (hb : DE X b fb) (hm : behindInMarks .In b = false := by rfl) : DT X (.Compare a [.In] [b] pos) (sTst (sOp (inD false) fa fb)) := let ⟨_, h1, h2⟩ := op_inA hu; dt_cmp h1 h2 ha hb hm
theorem dt_notIn (hu : X.A.units + 64 < cLine) (ha : DE X a fa) (hb : DE X b fb) (hm : behindInMarks .NotIn b = false := by rfl) : DT X (.Compare a [.NotIn] [b] pos) (sTst (sOp (inD true) fa fb)) := let ⟨_, h1, h2⟩ := op_notInA hu; dt_cmp h1 h2 ha hb hm
end

/-! ### defs -/
inductive CR where
  | ret (x : Val)
  | exc (e : DExn)
  | bad
def Fl.cr : Fl → CR
  | .nx _ => .ret (.sh .non)
  | .rt x _ => .ret x
  | .exc e _ => .exc e
  | _ => .bad
def crPost (K : PySem.W.Frag) (F H : Hp) (Q : VK) (E : XK) : CR → Prop
  | .ret x => ∀ H' v, Stt K F H H' [] [] [v] [x] → Q v H'
  | .exc e => ∀ H' dx ves, Stt K F H H' [] [] ves (e.ds.map .sh) → ves.length = e.ds.length → xdOk H H' e dx ves → E (.ref e.cls) dx H'
  | .bad => False
/-- the promise of a def that does φ to data -/
def spD (K : PySem.W.Frag) (n : Nat) (φ : List D → CR) : Sp := fun vs H Q E => ∃ F ds, Same F H ∧ Ats K F vs ds ∧ ds.length = n ∧ crPost K F H Q E (φ ds)
theorem spD_len {K : PySem.W.Frag} {n : Nat} {φ : List D → CR} : ∀ vs H Q E, spD K n φ vs H Q E → vs.length = n := fun vs H Q E ⟨F, ds, hF, ha, hn, _⟩ => ha.length.trans hn
def env0 (N : Nat) (ds : List D) : DEnv := ds.map (fun d => some (.sh d)) ++ List.replicate (N - ds.length) none
section
variable {P : Program} {w : World} {K : PySem.W.Frag} {mg : Str → Option Value} {base : Heap}
/-- THE RULE for a def -/
theorem fnD {x qual : Str} {st : Stmt} {f : Addr} {fd : FuncData} {N ps : List Str} {k n : Nat} {s : DEnv → Fl} (F : Fun K x qual st f fd) (S : FnScope N ps (defScope st)) (hn : ps.length = n)
    (hbody : ∀ (cdv : Value) (A : Around) (outer : List PySem.Env) (s0 : Shared) (H : Hp) (E : XK), Room k (A.deeper (PyProof.Rows.envOfC qual (defScope st) s0.heap.objs.size f cdv)) →
      DSs (cxOf (L2.CX P w) P w K mg base N qual (defScope st) f cdv A outer s0 H E) (defBody st) s) :
    FnOk P w K mg base (L2.CX P w) (k + 1) f fd ps (spD K n fun ds => (s (env0 N.length ds)).cr) := by
  refine F.okX S (fun vs H Q E h => (spD_len vs H Q E h).trans hn.symm) fun cdv A outer s0 H vs Q E hr ⟨G, ds, hG, ha, hl, hp⟩ => ⟨_, hbody cdv A outer s0 H E hr, ?_⟩
  refine ⟨G, H, env0 N.length ds, [], [], ?_, ?_⟩
  · have q := Stt.begin hG ha (N.length - ds.length)
    unfold L2.start env0
    rw [ha.length]
    exact q
  · have tk := takes_of (X := cxOf (L2.CX P w) P w K mg base N qual (defScope st) f cdv A outer s0 H E) (E := E) rfl rfl rfl rfl
    have hp : crPost K G H Q E (s (env0 N.length ds)).cr := hp
    cases e : s (env0 N.length ds) with
    | nx ρ' =>
      rw [e] at hp
      exact fun σ' H' s1 => hp H' _ (s1.out.scal fun _ => .non)
    | rt x ρ' =>
      rw [e] at hp
      exact fun σ' H' v s1 => hp H' v s1.out
    | exc x ρ' =>
      rw [e] at hp
      intro σ' H' dx ves s1 hl hx
      rw [List.append_nil, List.append_nil] at s1
      exact okx_of tk (hp H' dx ves s1.out hl hx)
    | bk ρ' => rw [e] at hp; exact hp.elim
    | ct ρ' => rw [e] at hp; exact hp.elim
    | bad => rw [e] at hp; exact hp.elim
end
/-- another function of the same worth -/
theorem spD_imp {P : Program} {w : World} {K : PySem.W.Frag} {mg : Str → Option Value} {base : Heap} {CX : CXT} {k n : Nat} {f : Addr} {fd : FuncData} {ps : List Str} {φ ψ : List D → CR} (F : FnOk P w K mg base CX k f fd ps (spD K n φ)) (h : ∀ ds, ψ ds ≠ .bad → φ ds = ψ ds) : FnOk P w K mg base CX k f fd ps (spD K n ψ) :=
  F.imp fun vs H Q E ⟨G, ds, h1, h2, h3, h4⟩ => ⟨G, ds, h1, h2, h3, by
    rw [h ds (fun z => by rw [z] at h4; exact h4)]
    exact h4⟩
def sCall (φ : List D → CR) (n : Nat) (fs : DEnv → R (List Val)) : DEnv → R Val := fun ρ => (fs ρ).bind fun ys ρ1 => if ys.length = n then match φ (fzs ys) with
  | .ret x => .ok x ρ1
  | .exc e => .exc e ρ1
  | .bad => .bad
  else .bad
section
variable {X : Cx} {k n : Nat} {f : Addr} {fd : FuncData} {ps : List Str} {φ : List D → CR} {x : Str} {p pos : Pos} {e : Expr} {es : List Expr} {fs : DEnv → R (List Val)}
theorem cr_read {F0 H0 H : Hp} {σ : L2.St} {ρ : DEnv} {vs ws : List V} {xs ys : List Val} {Q : VK} (hl : ws.length = ys.length) (s : Stt X.K F0 H0 H σ ρ (ws ++ vs) (ys ++ xs)) (hn : ys.length = n)
    (q : post X F0 H0 vs xs (fun x ρ' => ∀ H' v, Stt X.K F0 H0 H' σ ρ' (v :: vs) (x :: xs) → Q v H') (match φ (fzs ys) with | .ret x => .ok x ρ | .exc e => .exc e ρ | .bad => .bad)) : spD X.K n φ ws H Q (WE (okx X) σ) := by
  obtain ⟨hl2, s2⟩ := s.fzsP hl
  obtain ⟨F, hF, hA, c⟩ := Stt.call hl2 s2
  refine ⟨F, fzs ys, hF, hA, by rw [fzs_map, List.length_map]; exact hn, ?_⟩
  cases e : φ (fzs ys) with
  | ret x => rw [e] at q; exact fun H' v s3 => q H' v (c H' [v] [x] s3)
  | exc x =>
    rw [e] at q
    exact fun H' dx ves s3 hl3 hx => q σ H' dx ves (c H' ves _ s3) hl3 (hx.less s.sub0)
  | bad => rw [e] at q; exact q
theorem de_call (F : FnOk X.prog X.w X.K X.mg X.base (L2.CX X.prog X.w) k f fd ps (spD X.K n φ)) (hr : Room k X.A) (hg : Gl X x) (hm : X.mg x = some (.ref f)) (hk : PySem.W.keepIn X.K (.ref f) = true) (hb : Binds X.K fd ps [])
    (ha : DA X (e :: es) fs) (hdb : (x == ("__debug__" : Str)) = false := by decide) (he : starEach (e :: es) X.env = (false, eval e X.env) :: starEach es X.env := by rfl) (hpl : (backTo pos (starEach es X.env)).any (·.1) = false := by rfl) :
    DE X (.Call (.Name x p) (e :: es) [] pos) (sCall φ n fs) :=
  PE.imp (pe_callS (E := WE (okx X)) F hr hg hm hk hb (fun σ => passAt takes_okx σ) ha hdb he hpl) fun σ H Q ⟨F0, H0, ρ, vs, xs, s, q⟩ => by
    refine ⟨F0, H0, ρ, vs, xs, s, (post_bind q).imp (fun ys ρ1 q1 H1 ws hl s1 => ?_) fun _ _ z => z⟩
    split at q1
    · exact cr_read hl s1 (by assumption) q1
    · exact q1.elim
end
end DL

/-! DLh: more that is walked; a law's start and end. -/
namespace DL
open PySem PySem.Spec L2

/-! ### range with a step -/
def rangeC (i c : Int) (n : Nat) : List D := (List.range n).map fun (k : Nat) => D.int (i + (k : Nat) * c)
theorem walk_rangeC {K : PySem.W.Frag} {F0 : Hp} {i c : Int} {n : Nat} : Walk K F0 (Itc i c n) (rangeC i c n) := fun j H hF => by
  refine ⟨fun d e => ?_, fun hi => (show n ≤ j by simpa [rangeC] using hi)⟩
  unfold rangeC at e
  rw [List.getElem?_map] at e
  cases e1 : (List.range n)[j]? with
  | none => rw [e1] at e; cases e
  | some k =>
    rw [e1] at e
    obtain ⟨h1, h2⟩ := List.getElem?_eq_some_iff.mp e1
    simp at h1 h2
    subst h2
    cases e
    refine ⟨h1, fun x H' hy H0 σ ρ vs xs s => ?_⟩
    obtain ⟨rfl, rfl⟩ := hy
    exact s.scal fun _ => .int _
def rngOk (i j c : Int) : Prop := c ≠ 0 ∧ c.natAbs < 1073741824 ∧ Builtin.Range.small i j c = true ∧ 0 ≤ Builtin.Range.rangeSize i j c
instance (i j c : Int) : Decidable (rngOk i j c) := by unfold rngOk; infer_instance
def rng3 : List D → Option (List D)
  | [.int i, .int j, .int c] => if rngOk i j c then some (rangeC i c (Builtin.Range.rangeSize i j c).toNat) else none
  | _ => none
theorem rng3_some {ds l : List D} (h : rng3 ds = some l) : ∃ i j c, ds = [.int i, .int j, .int c] ∧ rngOk i j c ∧ l = rangeC i c (Builtin.Range.rangeSize i j c).toNat := by
  unfold rng3 at h
  split at h
  · split at h
    · exact ⟨_, _, _, rfl, by assumption, (Option.some.inj h).symm⟩
    · cases h
  · cases h
section
variable {X : Cx} {tg a b c : Expr} {f : DEnv → R (List Val)} {p pos tpos : Pos} {elts : List Expr} {kk : Nat}
theorem di_range3 (hg : Gl X "range") (hm : X.mg "range" = none) (ha : DA X [a, b, c] f)
    (hs : starEach [a, b, c] X.env = (false, eval a X.env) :: starEach [b, c] X.env := by rfl) (hpl : (backTo pos (starEach [b, c] X.env)).any (·.1) = false := by rfl) : DI X tg (.Call (.Name "range" p) [a, b, c] [] pos) (sRange rng3 f) :=
  PI.imp (pi_range3 hg hm ha hs hpl) fun σ H RR ⟨F0, H0, ρ, vs, xs, s, q⟩ => by
    refine ⟨F0, H0, ρ, vs, xs, s, (post_bind q).imp (fun ys ρ1 q1 H1 ws hl s1 => ?_) fun _ _ z => z⟩
    obtain ⟨hl2, s2⟩ := s1.fzsP hl
    obtain ⟨F, hF, hA, s3, rb⟩ := Stt.rebaseAt hl2 s2
    cases e : rng3 (fzs ys) with
    | none => rw [e] at q1; exact q1.elim
    | some ds =>
      rw [e] at q1
      obtain ⟨i, j, c, ej, hb, rfl⟩ := rng3_some e
      rw [ej] at hA
      match ws, hA with
      | [_, _, _], .cons (.int _) (.cons (.int _) (.cons (.int _) .nil)) =>
        exact ⟨i, j, c, _, rfl, ⟨hb.1, hb.2.1, hb.2.2.1, (Int.toNat_of_nonneg hb.2.2.2).symm⟩, q1 F H1 _ s3 rb walk_rangeC⟩

/-! ### zip, enumerate of lists -/
def zipL : List D → List D → List D
  | x :: xs, y :: ys => .tup [x, y] :: zipL xs ys
  | _, _ => []
theorem zipL_get : ∀ {xs ys : List D} {i : Nat} {d : D}, (zipL xs ys)[i]? = some d → ∃ x y, xs[i]? = some x ∧ ys[i]? = some y ∧ d = .tup [x, y]
  | [], _, _, _, h => by simp [zipL] at h
  | _ :: _, [], _, _, h => by simp [zipL] at h
  | x :: xs, y :: ys, 0, d, h => by simp [zipL] at h; exact ⟨x, y, rfl, rfl, h.symm⟩
  | x :: xs, y :: ys, i + 1, d, h => by
    obtain ⟨a, b, h1, h2, h3⟩ := zipL_get (xs := xs) (ys := ys) (i := i) (d := d) (by simpa [zipL] using h)
    exact ⟨a, b, by simpa using h1, by simpa using h2, h3⟩
theorem zipL_len : ∀ (xs ys : List D), (zipL xs ys).length = min xs.length ys.length
  | [], _ => by simp [zipL]
  | _ :: _, [] => by simp [zipL]
  | x :: xs, y :: ys => by simp [zipL, zipL_len xs ys]
theorem walk_zip {K : PySem.W.Frag} {F0 : Hp} {a b : Addr} {us ws : List V} {ds es : List D} (h1 : SqL K F0 a us) (k1 : Ats K F0 us ds) (h2 : SqL K F0 b ws) (k2 : Ats K F0 ws es) : Walk K F0 (Itz K a b) (zipL ds es) := fun i H hF => by
  refine ⟨fun d e => ?_, fun hi => ?_⟩
  · obtain ⟨x, y, e1, e2, rfl⟩ := zipL_get e
    obtain ⟨v, f1, g1⟩ := k1.get e1
    obtain ⟨w, f2, g2⟩ := k2.get e2
    refine ⟨⟨us, ws, v, w, hF.seq h1, hF.seq h2, f1, f2⟩, fun z H' hy H0 σ ρ vs xs s => ?_⟩
    obtain ⟨T, x', y', rfl, nT, rfl, c1, c2⟩ := hy
    have ex := (c1 us (hF.seq h1)).symm.trans f1
    have ey := (c2 ws (hF.seq h2)).symm.trans f2
    have ex := Option.some.inj ex
    have ey := Option.some.inj ey
    subst ex
    subst ey
    exact Stt.newTup (as := [_, _]) (ds := [x, y]) rfl ((s.push0 g2).push0 g1) nT
  · rw [zipL_len] at hi
    refine ⟨us, ws, hF.seq h1, hF.seq h2, ?_⟩
    rw [k1.length, k2.length]
    omega
def enumL (xs : List D) : List D := zipL (rangeL 0 xs.length) xs
theorem walk_enum {K : PySem.W.Frag} {F0 : Hp} {a : Addr} {us : List V} {ds : List D} (h1 : SqL K F0 a us) (k1 : Ats K F0 us ds) : Walk K F0 (Ite K a) (enumL ds) := fun i H hF => by
  refine ⟨fun d e => ?_, fun hi => ?_⟩
  · obtain ⟨x, y, e1, e2, rfl⟩ := zipL_get e
    obtain ⟨w, f2, g2⟩ := k1.get e2
    have hx : x = .int (i : Nat) := by
      unfold rangeL at e1
      rw [List.getElem?_map] at e1
      cases e3 : (List.range ds.length)[i]? with
      | none => rw [e3] at e1; cases e1
      | some k =>
        rw [e3] at e1
        obtain ⟨_, h2⟩ := List.getElem?_eq_some_iff.mp e3
        simp at h2
        subst h2
        cases e1
        simp
    subst hx
    refine ⟨⟨us, w, hF.seq h1, f2⟩, fun z H' hy H0 σ ρ vs xs s => ?_⟩
    obtain ⟨T, x', rfl, nT, rfl, c1⟩ := hy
    have ex := (c1 us (hF.seq h1)).symm.trans f2
    have ex := Option.some.inj ex
    subst ex
    exact Stt.newTup (as := [.int (i : Nat), _]) (ds := [.int (i : Nat), y]) rfl ((s.push0 g2).scal fun _ => .int _) nT
  · unfold enumL at hi
    rw [zipL_len] at hi
    refine ⟨us, hF.seq h1, ?_⟩
    rw [k1.length]
    simp [rangeL] at hi
    exact hi
def zipD : List D → Option (List D)
  | [.lst xs, .lst ys] => some (zipL xs ys)
  | _ => none
def enumD : List D → Option (List D)
  | [.lst xs] => some (enumL xs)
  | _ => none
def sZip (f : DEnv → R (List Val)) : DEnv → R (List D) := sRange zipD f
def sEnumerate (f : DEnv → R (List Val)) : DEnv → R (List D) := sRange enumD f
theorem zipD_some {ds l : List D} (h : zipD ds = some l) : ∃ xs ys, ds = [.lst xs, .lst ys] ∧ l = zipL xs ys := by
  unfold zipD at h
  split at h
  · exact ⟨_, _, rfl, (Option.some.inj h).symm⟩
  · cases h
theorem enumD_some {ds l : List D} (h : enumD ds = some l) : ∃ xs, ds = [.lst xs] ∧ l = enumL xs := by
  unfold enumD at h
  split at h
  · exact ⟨_, rfl, (Option.some.inj h).symm⟩
  · cases h
theorem di_zip (hg : Gl X "zip") (hm : X.mg "zip" = none) (ha : DA X [a, b] f)
    (hs : starEach [a, b] X.env = (false, eval a X.env) :: starEach [b] X.env := by rfl) (hpl : (backTo pos (starEach [b] X.env)).any (·.1) = false := by rfl) : DI X (.Tuple elts kk tpos) (.Call (.Name "zip" p) [a, b] [] pos) (sZip f) :=
  PI.imp (pi_zip hg hm ha hs hpl) fun σ H RR ⟨F0, H0, ρ, vs, xs, s, q⟩ => by
    refine ⟨F0, H0, ρ, vs, xs, s, (post_bind q).imp (fun ys ρ1 q1 H1 ws hl s1 => ?_) fun _ _ z => z⟩
    obtain ⟨hl2, s2⟩ := s1.fzsP hl
    obtain ⟨F, hF, hA, s3, rb⟩ := Stt.rebaseAt hl2 s2
    cases e : zipD (fzs ys) with
    | none => rw [e] at q1; exact q1.elim
    | some ds =>
      rw [e] at q1
      obtain ⟨x1, x2, ej, rfl⟩ := zipD_some e
      rw [ej] at hA
      match ws, hA with
      | [_, _], .cons (.lst (vs := u1) h1 k1) (.cons (.lst (vs := u2) h2 k2) .nil) =>
        exact ⟨_, _, u1, u2, rfl, hF.seq (.of h1), hF.seq (.of h2), q1 F H1 _ s3 rb (walk_zip (.of h1) k1 (.of h2) k2)⟩
theorem di_enumerate (hg : Gl X "enumerate") (hm : X.mg "enumerate" = none) (ha : DA X [a] f) (hs : starEach [a] X.env = [(false, eval a X.env)] := by rfl) : DI X (.Tuple elts kk tpos) (.Call (.Name "enumerate" p) [a] [] pos) (sEnumerate f) :=
  PI.imp (pi_enum hg hm ha hs) fun σ H RR ⟨F0, H0, ρ, vs, xs, s, q⟩ => by
    refine ⟨F0, H0, ρ, vs, xs, s, (post_bind q).imp (fun ys ρ1 q1 H1 ws hl s1 => ?_) fun _ _ z => z⟩
    obtain ⟨hl2, s2⟩ := s1.fzsP hl
    obtain ⟨F, hF, hA, s3, rb⟩ := Stt.rebaseAt hl2 s2
    cases e : enumD (fzs ys) with
    | none => rw [e] at q1; exact q1.elim
    | some ds =>
      rw [e] at q1
      obtain ⟨x1, ej, rfl⟩ := enumD_some e
      rw [ej] at hA
      match ws, hA with
      | [_], .cons (.lst (vs := u1) h1 k1) .nil =>
        exact ⟨_, u1, rfl, hF.seq (.of h1), q1 F H1 _ s3 rb (walk_enum (.of h1) k1)⟩
end

/-! ### the law -/
def spLaw (K : PySem.W.Frag) : Sp := fun vs H Q _ => ∃ (a : Addr) (ns : List Int), vs = [.ref a] ∧ SqL K H a (ns.map V.int) ∧ ns.length ≤ 63 ∧ ∀ H', Q (.bl true) H'
def scrI (ns : List Int) : D := .scr (ns.map .int)
theorem ats_ints {K : PySem.W.Frag} {F : Hp} : ∀ ns : List Int, Ats K F (ns.map V.int) (ns.map .int)
  | [] => .nil
  | n :: ns => .cons (.int n) (ats_ints ns)
theorem law_fn {P : Program} {w : World} {K : PySem.W.Frag} {mg : Str → Option Value} {base : Heap} {CX : CXT} {k : Nat} {f : Addr} {fd : FuncData} {ps : List Str} {φ : List D → CR} (F : FnOk P w K mg base CX k f fd ps (spD K 1 φ))
    (h : ∀ ns : List Int, ns.length ≤ 63 → φ [scrI ns] = .ret (.sh (.bl true))) : FnOk P w K mg base CX k f fd ps (spLaw K) :=
  F.imp fun vs H Q E ⟨a, ns, e, hs, hl, q⟩ => by
    subst e
    refine ⟨H, [scrI ns], Same.refl H, .one (.scr hs (ats_ints ns)), rfl, ?_⟩
    rw [h ns hl]
    intro H' v s
    obtain ⟨F', _, a, _⟩ := s.oneT
    cases a
    exact q H'
theorem cx_false {P : Program} {w : World} {outer : List PySem.Env} {H : Hp} {s : Shared} {e : Value} {s' : Shared} (h : L2.CX P w outer H s (fun _ _ _ => False) e s') : False := by
  obtain ⟨_, _, _, _, _, _, _, _, _, _, _, _, z⟩ := h
  exact z
end DL

/-! DLi: values that nobody changes any more. -/
namespace DL
open PySem PySem.Spec L2
def sFz (f : DEnv → R Val) : DEnv → R Val := fun ρ => (f ρ).bind fun x ρ1 => .ok (.sh x.fz) ρ1
section
variable {X : Cx} {e : Expr} {f : DEnv → R Val}
theorem de_fz (h : DE X e f) : DE X e (sFz f) :=
  PE.imp h fun σ H Q ⟨F0, H0, ρ, vs, xs, s, q⟩ => ⟨F0, H0, ρ, vs, xs, s, (post_bind q).imp (fun x ρ1 q1 H1 v s1 => q1 H1 v s1.fz) fun _ _ z => z⟩
end
/-- what no script comes to -/
def sBad : DEnv → Fl := fun _ => .bad
theorem ds_bad {X : Cx} {st : Stmt} : DS X st sBad := ⟨fun pins s σ H D I ⟨_, _, _, _, _, _, q⟩ => q.elim⟩
theorem de_bad {X : Cx} {e : Expr} : DE X e (fun _ => .bad) := ⟨fun pins s σ H D I ⟨_, _, _, _, _, _, q⟩ => q.elim⟩
/-- what a module's name stands for -/
def IsC (K : PySem.W.Frag) (mg : Str → Option Value) (x : Str) (d : D) : Prop := ∃ v u, mg x = some u ∧ RelV v u ∧ ∀ F, At K F v d
theorem de_gc {X : Cx} {x : Str} {d : D} {pos : Pos} (hg : Gl X x) (h : IsC X.K X.mg x d) (hd : (x == ("__debug__" : Str)) = false := by decide) : DE X (.Name x pos) (sC d) := by
  obtain ⟨v, u, hm, r, a⟩ := h
  exact de_c (pe_glob hg hm r hd) a
section
variable {X : Cx} {tg iter elt : Expr} {ifs : List Expr} {scope : Scope} {pos spos py : Pos} {own : List (Str × Nat)} {fi : DEnv → R (List D)} {g : D → DEnv → Option DEnv} {t : DEnv → R Bool} {f : DEnv → R Val} {is : List Nat}
theorem ds_setCompF {i : Nat} {y : Str} (hc : X.calm = true) (hN : X.N.Nodup) (hy : X.N[i]? = some y) (hyl : X.env.scope.names.lookup y = some .local)
    (hsw : swapsWith (.ListComp elt [⟨tg, iter, ifs, 0⟩] scope pos) (some (.Name y py)) spos.line X.env = pure true) (hi : DI X tg iter fi) (ok : BlkOk X.N X.env.scope scope own) {os : List Nat} (ho : own.map (·.2) = os) (hsub : ∀ j, j ∈ is → j ∈ os)
    (hg : ∀ (s : Shared) (H : Hp) (C : Addr) (cl : List (Str × Addr)) (fp : List Addr), DG (X.blk s H scope (compEnvC scope cl C X.env) fp) tg is g) (ht : ∀ (s : Shared) (H : Hp) (C : Addr) (cl : List (Str × Addr)) (fp : List Addr), DTs (X.blk s H scope (compEnvC scope cl C X.env) fp) ifs t)
    (he : ∀ (s : Shared) (H : Hp) (C : Addr) (cl : List (Str × Addr)) (fp : List Addr), DE (X.blk s H scope (compEnvC scope cl C X.env) fp) elt f) (hs : ∀ x, foldedSetIterable iter X.env x = pure x := by intro _; rfl) :
    DS X (.Assign [.Name y py] (.ListComp elt [⟨tg, iter, ifs, 0⟩] scope pos) spos) (sSet i (sFz (sComp fi g t f os))) := by
  subst ho
  refine PS.imp (ps_setLc (g := tG X is g) (tt := tTN X.K t) (te := tEN X.K f) hc hN hy hyl hsw hi ok hg (fun s H C cl fp => ⟨fun pins s' σ H' Q I q => (ht s H C cl fp).run pins s' σ H' Q I (tTN_tT q)⟩) (fun s H C cl fp => ⟨fun pins s' σ H' Q I q => (he s H C cl fp).run pins s' σ H' Q I (tEN_tE q)⟩) hs) fun D σ H ⟨F0, H0, ρ, vs, xs, s, q⟩ => lc_read hsub ⟨F0, H0, ρ, vs, xs, s, ?_⟩
  have q2 := post_bind (show post X F0 H0 vs xs _ ((sComp fi g t f (own.map (·.2)) ρ).bind fun x ρ1 => R.ok (Val.sh x.fz) ρ1) from post_fl q)
  refine q2.imp (fun x ρ1 q1 H1 v s1 => ?_) fun _ _ z => z
  have q1 : fpost X F0 H0 vs xs D (if i < ρ1.length then Fl.nx (ρ1.set i (some (Val.sh x.fz))) else Fl.bad) := q1
  split at q1
  · exact q1 _ _ (s1.fz.store (by assumption))
  · exact q1.elim
end
end DL

/-! DLj: min and max of tuples; what is lent. -/
namespace DL
open PySem PySem.Spec L2
section
variable {prog : Program} {w : World} {A : Around} {E : Value → Shared → Prop} {s : Shared} {l : Addr} {xs : Array (Int × Tok)}
theorem iter_intTup {Q : Value → Shared → Prop} (hl : s.heap.IsTuple l (intItems xs))
    (h : ∀ s₂ : Shared, s₂ = { s with heap := s.heap.push { cls := .type "tuple_iterator", data := .fields #[.ref l, .int 0 0] } } →
      (s₂.heap.IsTupleIter s.heap.objs.size l 0 ∧ s₂.heap.IsTuple l (intItems xs)) → (∀ b ∈ [s.heap.objs.size, l], b < s₂.heap.objs.size) → l ≠ s.heap.objs.size → Q (.ref s.heap.objs.size) s₂) :
    wpAny (model prog w) A (pyIter (.ref l)) Q E s := by
  have hlt : l < s.heap.objs.size := by obtain ⟨_, e, _⟩ := hl; exact Heap.lt_size e
  refine wpAny_pyIter_tuple hl (h _ rfl ⟨⟨_, Heap.get?_push_size _ rfl, rfl, rfl⟩, hl.push _⟩ (fun b hb => ?_) (Nat.ne_of_lt hlt))
  show b < (s.heap.push _).objs.size
  rw [Heap.size_push]
  rcases List.mem_cons.mp hb with rfl | hb
  · exact Nat.lt_succ_self _
  · rcases List.mem_cons.mp hb with rfl | hb
    · exact Nat.lt_succ_of_lt hlt
    · cases hb
theorem max_intTup {Q : Value → Shared → Prop} (hh : A.handled = none) (hl : s.heap.IsTuple l (intItems xs)) (hne : 0 < xs.size)
    (h : ∀ v h' tk, (intItems xs)[argBest (fun i j => decide (numAt xs i > numAt xs j)) (xs.size - 1)]? = some v → (∀ b o, s.heap.get? b = some o → h'.get? b = some o) → Q v { s with heap := h', toks := tk }) :
    wpAny (model prog w) A (call (.builtin "max") [.ref l]) Q E s := by
  refine call_max_walk (iter_intTup hl fun s₂ e st hfp hlI => ?_)
  subst e
  refine ⟨_, _, _, _, _, _, _, rfl, Walks.tuple (A := A.in1) hh _ l hlI (intItems xs), st, hfp, by simpa [intItems] using hne, CmpOf.ints_gt (numAt xs) (fun _ _ => intItems_at), fun v h' tk hP hk => ?_⟩
  exact h v h' tk (by simpa [intItems] using hP) fun b o e => hk b o (fun hb => absurd (Heap.lt_size e) ((List.mem_singleton.mp hb) ▸ Nat.lt_irrefl _)) (Heap.get?_push_of_some _ e)
theorem min_intTup {Q : Value → Shared → Prop} (hh : A.handled = none) (hl : s.heap.IsTuple l (intItems xs)) (hne : 0 < xs.size)
    (h : ∀ v h' tk, (intItems xs)[argBest (fun i j => decide (numAt xs i < numAt xs j)) (xs.size - 1)]? = some v → (∀ b o, s.heap.get? b = some o → h'.get? b = some o) → Q v { s with heap := h', toks := tk }) :
    wpAny (model prog w) A (call (.builtin "min") [.ref l]) Q E s := by
  refine call_min_walk (iter_intTup hl fun s₂ e st hfp hlI => ?_)
  subst e
  refine ⟨_, _, _, _, _, _, _, rfl, Walks.tuple (A := A.in1) hh _ l hlI (intItems xs), st, hfp, by simpa [intItems] using hne, CmpOf.ints_lt (numAt xs) (fun _ _ => intItems_at), fun v h' tk hP hk => ?_⟩
  exact h v h' tk (by simpa [intItems] using hP) fun b o e => hk b o (fun hb => absurd (Heap.lt_size e) ((List.mem_singleton.mp hb) ▸ Nat.lt_irrefl _)) (Heap.get?_push_of_some _ e)
end
section
open PyProof.Rows
variable {prog : Program} {w : World} {A : Around} {E : Value → Shared → Prop} {s : Shared} {l : Addr} {its : List Value} {ns : List Int} {Q : Value → Shared → Prop}
theorem max_rawT (hh : A.handled = none) (hl : s.heap.IsTuple l its.toArray) (hi : IntsAre its ns) (hne : 0 < ns.length)
    (h : ∀ h' tk M t', (∀ b o, s.heap.get? b = some o → h'.get? b = some o) → M ∈ ns → (∀ a, a ∈ ns → a ≤ M) → Q (.int M t') { s with heap := h', toks := tk }) : wpAny (model prog w) A (call (.builtin "max") [.ref l]) Q E s := by
  obtain ⟨xs, e⟩ := hi.allInts.items
  have hn : numsOf (intItems xs).toList = ns := by rw [← e]; exact hi.numsOf
  rw [nums_intItems] at hn
  subst hn
  rw [e] at hl
  have hsz : 0 < xs.size := by simpa using hne
  refine max_intTup hh hl hsz fun v h' tk hv hk => ?_
  obtain ⟨t, rfl⟩ := intItems_at hv
  obtain ⟨h1, h2⟩ := argBest_gt (numAt xs) (xs.size - 1)
  refine h h' tk _ t hk ?_ fun a ha => ?_
  · rw [numAt_eq]; exact PySem.getD_mem (by rw [List.length_map, Array.length_toList]; omega)
  · obtain ⟨j, hj, rfl⟩ := mem_getD ha
    rw [List.length_map, Array.length_toList] at hj
    rw [← numAt_eq]; exact h2 j (by omega)
theorem min_rawT (hh : A.handled = none) (hl : s.heap.IsTuple l its.toArray) (hi : IntsAre its ns) (hne : 0 < ns.length)
    (h : ∀ h' tk M t', (∀ b o, s.heap.get? b = some o → h'.get? b = some o) → M ∈ ns → (∀ a, a ∈ ns → M ≤ a) → Q (.int M t') { s with heap := h', toks := tk }) : wpAny (model prog w) A (call (.builtin "min") [.ref l]) Q E s := by
  obtain ⟨xs, e⟩ := hi.allInts.items
  have hn : numsOf (intItems xs).toList = ns := by rw [← e]; exact hi.numsOf
  rw [nums_intItems] at hn
  subst hn
  rw [e] at hl
  have hsz : 0 < xs.size := by simpa using hne
  refine min_intTup hh hl hsz fun v h' tk hv hk => ?_
  obtain ⟨t, rfl⟩ := intItems_at hv
  obtain ⟨h1, h2⟩ := argBest_lt (numAt xs) (xs.size - 1)
  refine h h' tk _ t hk ?_ fun a ha => ?_
  · rw [numAt_eq]; exact PySem.getD_mem (by rw [List.length_map, Array.length_toList]; omega)
  · obtain ⟨j, hj, rfl⟩ := mem_getD ha
    rw [List.length_map, Array.length_toList] at hj
    rw [← numAt_eq]; exact h2 j (by omega)
end
section
variable {X : Cx}
def rMaxT (K : PySem.W.Frag) : List V → Hp → VK → Prop := fun vs H Q => ∃ (a : Addr) (ns : List Int), vs = [V.ref a] ∧ SqT K H a (ns.map V.int) ∧ 0 < ns.length ∧ ∀ m, m ∈ ns → (∀ y, y ∈ ns → y ≤ m) → Q (.int m) H
def rMinT (K : PySem.W.Frag) : List V → Hp → VK → Prop := fun vs H Q => ∃ (a : Addr) (ns : List Int), vs = [V.ref a] ∧ SqT K H a (ns.map V.int) ∧ 0 < ns.length ∧ ∀ m, m ∈ ns → (∀ y, y ∈ ns → m ≤ y) → Q (.int m) H
theorem cr_maxT (hc : X.calm = true) : CallR X (.builtin "max") (rMaxT X.K) := by
  intro pins s σ H vs us Q I r h
  obtain ⟨a, ns, rfl, hs, hne, q⟩ := h
  obtain ⟨its, rv, hl, _⟩ := I.tuple hs
  rw [Vals.ref1 r]
  exact max_rawT (I.ok.hd hc) hl rv.ints hne fun h' tk m t' hk h1 h2 => ⟨.int _, H, I.kept hk, ⟨_, rfl⟩, q m h1 h2⟩
theorem cr_minT (hc : X.calm = true) : CallR X (.builtin "min") (rMinT X.K) := by
  intro pins s σ H vs us Q I r h
  obtain ⟨a, ns, rfl, hs, hne, q⟩ := h
  obtain ⟨its, rv, hl, _⟩ := I.tuple hs
  rw [Vals.ref1 r]
  exact min_rawT (I.ok.hd hc) hl rv.ints hne fun h' tk m t' hk h1 h2 => ⟨.int _, H, I.kept hk, ⟨_, rfl⟩, q m h1 h2⟩
theorem CallR.or {f : Value} {r r' : List V → Hp → VK → Prop} (h : CallR X f r) (h' : CallR X f r') : CallR X f (fun xs H Q => r xs H Q ∨ r' xs H Q) := by
  intro pins s σ H vs us Q I rr hq
  rcases hq with hq | hq
  · exact h _ _ _ _ _ _ _ I rr hq
  · exact h' _ _ _ _ _ _ _ I rr hq
def ofT (f : List Int → Option Val) : D → Option Val
  | .tup xs => (dInts xs).bind f
  | _ => none
def maxTD : D → Option Val := ofT fun ns => if 0 < ns.length then some (.sh (.int (maxI ns))) else none
def minTD : D → Option Val := ofT fun ns => if 0 < ns.length then some (.sh (.int (minI ns))) else none
theorem tupI {K : PySem.W.Frag} {F H : Hp} {d : D} {v : V} {x : Val} {f : List Int → Option Val} (hF : Same F H) (a : At K F v d) (h : ofT f d = some x) : ∃ p ns, v = .ref p ∧ SqT K H p (ns.map V.int) ∧ f ns = some x := by
  match d, a, h with
  | .tup ds, .tup (vs := us) h1 k1, h =>
    obtain ⟨ns, e1, e2⟩ := Option.bind_eq_some_iff.mp (show (dInts ds).bind f = some x from h)
    rw [ints_ats k1 e1] at h1
    exact ⟨_, ns, rfl, sameT hF h1, e2⟩
theorem und_maxT : UnD X (toL1 (rMaxT X.K)) maxTD := fun F0 H0 H σ ρ vs xs v d Q s ⟨x, hx, q⟩ => by
  obtain ⟨F, hF, a, t⟩ := s.oneT
  obtain ⟨p, ns, rfl, h1, h2⟩ := tupI hF a hx
  split at h2
  · rename_i h0
    cases h2
    exact ⟨p, ns, rfl, h1, h0, fun m z1 z2 => q H _ (s.pop.scal fun F => by rw [max_is h0 z1 z2]; exact .int _)⟩
  · cases h2
theorem und_minT : UnD X (toL1 (rMinT X.K)) minTD := fun F0 H0 H σ ρ vs xs v d Q s ⟨x, hx, q⟩ => by
  obtain ⟨F, hF, a, t⟩ := s.oneT
  obtain ⟨p, ns, rfl, h1, h2⟩ := tupI hF a hx
  split at h2
  · rename_i h0
    cases h2
    exact ⟨p, ns, rfl, h1, h0, fun m z1 z2 => q H _ (s.pop.scal fun F => by rw [min_is h0 z1 z2]; exact .int _)⟩
  · cases h2
variable {e : Expr} {fs : DEnv → R (List Val)} {p pos : Pos}
theorem de_max1A (hc : X.calm = true) (hg : Gl X "max") (hm : X.mg "max" = none) (ha : DA X [e] fs) (he : starEach [e] X.env = (false, eval e X.env) :: starEach [] X.env := by rfl) : DE X (.Call (.Name "max" p) [e] [] pos) (sCB (orC (g1 maxD) (g1 maxTD)) fs) := de_callB (CallR.or (call_1 (cr_max hc)) (call_1 (cr_maxT hc))) (CallD.or (calld_1 und_max) (calld_1 und_maxT)) hg hm (by decide +kernel) ha (he := he)
theorem de_min1A (hc : X.calm = true) (hg : Gl X "min") (hm : X.mg "min" = none) (ha : DA X [e] fs) (he : starEach [e] X.env = (false, eval e X.env) :: starEach [] X.env := by rfl) : DE X (.Call (.Name "min" p) [e] [] pos) (sCB (orC (g1 minD) (g1 minTD)) fs) := de_callB (CallR.or (call_1 (cr_min hc)) (call_1 (cr_minT hc))) (CallD.or (calld_1 und_min) (calld_1 und_minT)) hg hm (by decide +kernel) ha (he := he)
/-! what is lent: the whole frame stands still while a scalar is found -/
def D.sca : D → Bool
  | .non => true
  | .bl _ => true
  | .int _ => true
  | .str _ => true
  | _ => false
theorem D.sca_at {K : PySem.W.Frag} {F F' : Hp} {v : V} {d : D} (h : d.sca = true) (a : At K F v d) : At K F' v d := by
  match d, h, a with
  | .non, _, a => cases a; exact .non
  | .bl _, _, a => cases a; exact .bl _
  | .int _, _, a => cases a; exact .int _
  | .str _, _, a => cases a; exact .str _
def frO (o : Option Val) : Option Val := o.map fun x => .sh x.fz
def lendR (r : R Val) (ρ : DEnv) : R Val := match r with
  | .ok (.sh d) _ => if d.sca = true then .ok (.sh d) ρ else .bad
  | _ => .bad
def sLend (f : DEnv → R Val) : DEnv → R Val := fun ρ => lendR (f (ρ.map frO)) ρ
theorem Sl.fz {K : PySem.W.Frag} {F F' H : Hp} (e : Same F F') : ∀ {σ : St} {ρ : DEnv} {f : List Addr}, Sl K F H σ ρ f → (∀ b ∈ f, F' b = H b) → Sl K F' H σ (ρ.map frO) []
  | _, _, _, .nil, _ => .nil
  | _, _, _, .un t, k => .un (Sl.fz e t k)
  | _, _, _, .bd h t, k => .bd (f := []) (g := []) (Own.sh (Own.fz e _ _ _ h fun b hb => k b (List.mem_append_left _ hb))) (Sl.fz e t fun b hb => k b (List.mem_append_right _ hb))
theorem Stt.lend {K : PySem.W.Frag} {F0 H0 H : Hp} {σ : St} {ρ : DEnv} {vs : List V} {xs : List Val} (h : Stt K F0 H0 H σ ρ vs xs) : ∃ F1, Stt K F1 H0 H σ (ρ.map frO) [] [] ∧
    ∀ H1 σ1 ρ1 v d, d.sca = true → Stt K F1 H0 H1 σ1 ρ1 [v] [.sh d] → Stt K F0 H0 H1 σ ρ (v :: vs) (.sh d :: xs) := by
  obtain ⟨F, f, g, h1, h2, h3, h4, h5, h6, h7, h8⟩ := h
  have n5 := Sl.no h5
  have n6 := Owns.no _ _ _ h6
  have no : ∀ b ∈ g ++ f, F b = none ∧ H b ≠ none := fun b hb => (List.mem_append.mp hb).elim (n6 b) (n5 b)
  have e : Same F (frz F H (g ++ f)) := frz_same fun b hb => (no b hb).1
  refine ⟨frz F H (g ++ f), ⟨frz F H (g ++ f), [], [], Same.refl _, h2, frz_sub h3, fun b z _ => z, Sl.fz e h5 fun b hb => frz_in (List.mem_append_right _ hb), .nil, by simp, by simp⟩, ?_⟩
  intro H1 σ1 ρ1 v d hd ⟨F', f', g', k1, k2, k3, k4, k5, k6, k7, k8⟩
  have hs : Same (frz F H (g ++ f)) H1 := k1.trans k3
  have hb1 : ∀ b ∈ g ++ f, H1 b = H b := fun b hb => by
    cases e2 : H b with
    | none => exact absurd e2 (no b hb).2
    | some o => exact hs b o (by rw [frz_in hb]; exact e2)
  cases k6 with
  | cons a t =>
    cases a with
    | sh a =>
      exact ⟨F, f, g, h1, k2, e.trans hs, h4, Sl.mono (Same.refl F) h5 fun b hb => ⟨(n5 b hb).1, hb1 b (List.mem_append_right _ hb)⟩,
        Owns.cons (f := []) (Own.sh (D.sca_at hd a)) (Owns.mono (Same.refl F) _ _ _ h6 fun b hb => ⟨(n6 b hb).1, hb1 b (List.mem_append_left _ hb)⟩), h7, h8⟩
theorem de_lend {f : DEnv → R Val} (h : DE X e f) : DE X e (sLend f) :=
  PE.imp h fun σ H Q ⟨F0, H0, ρ, vs, xs, s, q⟩ => by
    obtain ⟨F1, s1, back⟩ := s.lend
    refine ⟨F1, H0, ρ.map frO, [], [], s1, ?_⟩
    have q : post X F0 H0 vs xs _ (lendR (f (ρ.map frO)) ρ) := q
    cases e1 : f (ρ.map frO) with
    | bad => rw [e1] at q; exact q.elim
    | exc _ _ => rw [e1] at q; exact q.elim
    | ok x ρ1 =>
      rw [e1] at q
      match x, q with
      | .sh d, q =>
        have q : post X F0 H0 vs xs _ (if d.sca = true then (R.ok (Val.sh d) ρ : R Val) else .bad) := q
        split at q
        · rename_i hd
          intro H1 v s2
          exact q H1 v (back H1 σ ρ1 v d hd s2)
        · exact q.elim
/-! xs[::-1] -/
def revD : D → Option Val
  | .lst xs => some (.lst (xs.reverse.map .sh))
  | _ => none
theorem de_rev {fa : DEnv → R Val} {k : Nat} {p1 p2 p3 : Pos} (ha : DE X e fa) : DE X (.Subscript e (.Slice none none (some (.UnaryOp .USub (.Constant (.int 1) k p1) p2)) p3) pos) (sUn revD fa) :=
  PE.imp (pe_revL ha) fun σ H Q ⟨F0, H0, ρ, vs, xs, s, q⟩ => by
    refine ⟨F0, H0, ρ, vs, xs, s, (post_bind q).imp (fun x ρ1 q1 H1 v s1 => ?_) fun _ _ z => z⟩
    obtain ⟨F, hF, a, t⟩ := s1.fz.oneT
    cases e1 : revD x.fz with
    | none => rw [e1] at q1; exact q1.elim
    | some z =>
      rw [e1] at q1
      match x.fz, a, e1 with
      | .lst ds, .lst (vs := us) h1 k1, e1 =>
        cases e1
        exact ⟨_, us, rfl, hF.seq (.of h1), fun p np => q1 _ _ (Stt.newLst (by simpa using k1.length) (t us.reverse ds.reverse k1.rev) np)⟩
end
end DL

/-! DLk: texts: walked sign by sign, repeated, joined. -/
namespace DL
open PySem PySem.Spec L2
def signsL (z : Str) : List D := z.cps.toList.map fun c => .str ⟨#[c]⟩
def signsD : D → Option (List D)
  | .str z => some (signsL z)
  | _ => none
def sSigns (f : DEnv → R Val) : DEnv → R (List D) := fun ρ => (f ρ).bind fun x ρ1 => liftL (signsD x.fz) ρ1
theorem walk_signs {K : PySem.W.Frag} {F0 : Hp} {z : Str} : Walk K F0 (Its z) (signsL z) := fun j H hF => by
  refine ⟨fun d e => ?_, fun hi => (show z.cps.size ≤ j by simpa [signsL] using hi)⟩
  unfold signsL at e
  rw [List.getElem?_map] at e
  cases e1 : z.cps.toList[j]? with
  | none => rw [e1] at e; cases e
  | some c =>
    rw [e1] at e
    cases e
    have hj : j < z.cps.toList.length := (List.getElem?_eq_some_iff.mp e1).1
    refine ⟨(show j < z.cps.size by simpa using hj), fun x H' hy H0 σ ρ vs xs s => ?_⟩
    obtain ⟨rfl, c', e2, rfl⟩ := hy
    have e3 : some c' = some c := by rw [← e1, ← e2]; simp
    cases e3
    exact s.scal fun _ => .str _
theorem di_str {X : Cx} {tg l : Expr} {f : DEnv → R Val} (hl : DE X l f) : DI X tg l (sSigns f) :=
  PI.imp (pi_str hl) fun σ H RR ⟨F0, H0, ρ, vs, xs, s, q⟩ => by
    refine ⟨F0, H0, ρ, vs, xs, s, (post_bind q).imp (fun x ρ1 q1 H1 v s1 => ?_) fun _ _ z => z⟩
    obtain ⟨F, hF, hA, s2, rb⟩ := Stt.rebaseAt (as := [v]) (ds := [x.fz]) rfl s1.fz
    cases hA with
    | cons a _ =>
      cases e : signsD x.fz with
      | none => rw [e] at q1; exact q1.elim
      | some ds =>
        rw [e] at q1
        match hx : x.fz, e, a with
        | .str z, e, .str _ =>
          cases e
          exact ⟨z, rfl, q1 F H1 _ s2 rb walk_signs⟩
section
variable {X : Cx}
def CRepS (a : Str) (k : Int) : Prop := a.length * k.toNat ≤ 1000000 ∧ k < 1000000 ∧ -1000000 ≤ k
instance (a : Str) (k : Int) : Decidable (CRepS a k) := by unfold CRepS; infer_instance
theorem CRepS.ok {a : Str} {k : Int} (h : CRepS a k) : MulOk a k := by
  obtain ⟨h1, h2, h3⟩ := h
  refine ⟨?_, fun n _ => ?_, fun n _ => ?_⟩
  · rw [Bool.or_eq_false_iff]
    exact ⟨decide_eq_false (by omega), decide_eq_false (by omega)⟩
  · have hk : 0 < k := by omega
    have h5 : (a.length : Int) * k ≤ 1000000 := by
      have : ((a.length * k.toNat : Nat) : Int) ≤ 1000000 := by omega
      rw [Int.natCast_mul, Int.toNat_of_nonneg (by omega)] at this
      exact this
    have h6 : (a.length : Int) ≤ (2 ^ 63 - 1) / k := (Int.le_ediv_iff_mul_le hk).mpr (by omega)
    omega
  · unfold Builtin.Str.tooLong
    exact decide_eq_false (by rw [sizeLine_eq]; omega)
theorem op_repS : OpR X (binaryOp .Mult) (fun x y H Q => ∃ a k, x = .str a ∧ y = .int k ∧ CRepS a k ∧ Q (.str (Txt.mul a k)) H) := by
  intro pins s σ H x y v u Q I rx ry h
  obtain ⟨a, k, rfl, rfl, hz, q⟩ := h
  obtain ⟨t, rfl⟩ := rx
  obtain ⟨t', rfl⟩ := ry
  exact SB.mul hz.ok fun t' tk => ⟨.str (Txt.mul a k), H, I.tok _, ⟨_, rfl⟩, q⟩
def repS : D → D → Option Val := fun d e => match d, e with
  | .str a, .int k => if CRepS a k then some (.sh (.str (Txt.mul a k))) else none
  | _, _ => none
theorem opd_repS : OpD X (fun x y H Q => ∃ a k, x = .str a ∧ y = .int k ∧ CRepS a k ∧ Q (.str (Txt.mul a k)) H) repS := fun F0 H0 H σ ρ vs xs v w d e Q s ⟨x, hx, q⟩ => by
  obtain ⟨F, hF, a, b, t⟩ := s.two
  match d, e, a, b, hx with
  | .str i, .int j, .str _, .int _, hx =>
    have hx : (if CRepS i j then some (Val.sh (.str (Txt.mul i j))) else none) = some x := hx
    split at hx
    · rename_i hc
      cases hx
      exact ⟨i, j, rfl, rfl, hc, q H _ (s.pop.pop.scal fun F => .str _)⟩
    · cases hx
theorem de_repS {a b : Expr} {fa fb : DEnv → R Val} {pos : Pos} (ha : DE X a fa) (hb : DE X b fb) : DE X (.BinOp a .Mult b pos) (sOp repS fa fb) := de_op op_repS opd_repS ha hb
def dStrs : List D → Option (List Str)
  | [] => some []
  | .str z :: r => (dStrs r).map (z :: ·)
  | _ :: _ => none
theorem strs_ats {K : PySem.W.Frag} {F : Hp} : ∀ {ds : List D} {vs : List V} {ns : List Str}, Ats K F vs ds → dStrs ds = some ns → vs = ns.map V.str
  | [], _, ns, .nil, h => by cases h; rfl
  | .str i :: r, _, ns, .cons (.str _) t, h => by
    obtain ⟨ms, e1, e2⟩ := Option.map_eq_some_iff.mp (show (dStrs r).map (i :: ·) = some ns from h)
    subst e2
    rw [strs_ats t e1]; rfl
  | .non :: _, _, _, _, h => by cases h
  | .bl _ :: _, _, _, _, h => by cases h
  | .int _ :: _, _, _, _, h => by cases h
  | .lst _ :: _, _, _, _, h => by cases h
  | .scr _ :: _, _, _, _, h => by cases h
  | .tup _ :: _, _, _, _, h => by cases h
  | .ins _ _ _ :: _, _, _, _, h => by cases h
def joinD (a : Str) : D → Option Val
  | .lst ds => (dStrs ds).bind fun ys => if (ys.map (·.length)).sum + ys.length * a.length ≤ 10000000 then some (.sh (.str (Txt.join a ys))) else none
  | _ => none
def joinK (d : D) (k : Str → R Val) : R Val := match d with
  | .str a => k a
  | _ => .bad
def sJoin (fa fb : DEnv → R Val) : DEnv → R Val := fun ρ => (fa ρ).bind fun x ρ1 => joinK x.fz fun a => (fb ρ1).bind fun y ρ2 => liftO (joinD a y.fz) ρ2
theorem de_join {o e : Expr} {apos pos : Pos} {fa fb : DEnv → R Val} (ho : DE X o fa) (he : DE X e fb) (hs : starEach [e] X.env = [(false, eval e X.env)] := by rfl)
    (hbase : attributeBase o "join" X.env (eval o X.env) = eval o X.env := by rfl) (hline : (apos.endLine == pos.line) = true := by rfl) : DE X (.Call (.Attribute o "join" apos) [e] [] pos) (sJoin fa fb) :=
  PE.imp (pe_join ho he hs hbase hline) fun σ H Q ⟨F0, H0, ρ, vs, xs, s, q⟩ => by
    refine ⟨F0, H0, ρ, vs, xs, s, (post_bind q).imp (fun x ρ1 q1 H1 v s1 => ?_) fun _ _ z => z⟩
    obtain ⟨F, hF, a, t⟩ := s1.fz.oneT
    match hx : x.fz, a, q1 with
    | .str z, .str _, q1 =>
      have s2 := s1.fz
      rw [hx] at s2
      refine ⟨⟨z, rfl⟩, F0, H0, ρ1, vs, xs, s2.pop, (post_bind q1).imp (fun y ρ2 q2 H2 w s3 => ?_) fun _ _ z => z⟩
      obtain ⟨F2, hF2, a2, t2⟩ := s3.fz.oneT
      cases e1 : joinD z y.fz with
      | none => rw [e1] at q2; exact q2.elim
      | some u =>
        rw [e1] at q2
        match hy : y.fz, a2, e1 with
        | .lst ds, .lst (vs := us) h1 k1, e1 =>
          obtain ⟨ys, e3, e4⟩ := Option.bind_eq_some_iff.mp (show (dStrs ds).bind _ = some u from e1)
          have e4 : (if (ys.map (·.length)).sum + ys.length * z.length ≤ 10000000 then some (Val.sh (.str (Txt.join z ys))) else none) = some u := e4
          split at e4
          · cases e4
            rw [strs_ats k1 e3] at h1
            exact ⟨z, _, ys, rfl, rfl, .inl (hF2.seq (.of h1)), by omega, q2 _ _ (s3.pop.scal fun F => .str _)⟩
          · cases e4
end
end DL

/-! DLl: a list of one's own within a list or tuple of one's own is changed. -/
namespace DL
open PySem PySem.Spec L2
section
variable {K : PySem.W.Frag} {F F0 H0 H : Hp} {σ : St} {ρ : DEnv} {vs : List V} {xs ys zs : List Val} {v : V}
theorem Owns.one {w : V} {d : D} (a : At K F w d) : Owns K F H [w] [.sh d] [] := Owns.cons (f := []) (g := []) (Own.sh a) .nil
theorem owns_app : ∀ (xs : List Val) (vs : List V) (f : List Addr) (j : Nat), Owns K F H vs xs f → f.Nodup → xs[j]? = some (.lst zs) → ∃ q ws, vs[j]? = some (.ref q) ∧ H q = some (.lst ws) ∧ ws.length = zs.length ∧ q ∈ f ∧ F q = none ∧
    ∀ w d, At K F w d → ∃ f', Owns K F (upd H q (.lst (ws ++ [w]))) vs (xs.set j (.lst (zs ++ [.sh d]))) f' ∧ Sb f' f
  | x :: xs, v :: vs, _, 0, .cons (f := f1) (g := f2) a t, nd, e => by
    have e : x = .lst zs := by simpa using e
    subst e
    cases a with
    | @lst p us _ f3 k1 k2 k3 =>
      have nd : (p :: (f3 ++ f2)).Nodup := nd
      have np := (List.nodup_cons.mp nd).1
      have ne : ∀ b ∈ f3 ++ f2, b ≠ p := fun b hb e => by subst e; exact np hb
      refine ⟨p, us, rfl, k2, Owns.length k3, List.mem_cons_self, k1, fun w d hw => ?_⟩
      have k3' : Owns K F (upd H p (.lst (us ++ [w]))) us zs f3 := Owns.mono (Same.refl F) _ _ _ k3 fun b hb => ⟨(Owns.no _ _ _ k3 b hb).1, upd_ne (ne b (List.mem_append_left _ hb))⟩
      have t' : Owns K F (upd H p (.lst (us ++ [w]))) vs xs f2 := Owns.mono (Same.refl F) _ _ _ t fun b hb => ⟨(Owns.no _ _ _ t b hb).1, upd_ne (ne b (List.mem_append_right _ hb))⟩
      obtain ⟨g, c1, c2, c3⟩ := k3'.append (Owns.one (H := upd H p (.lst (us ++ [w]))) hw)
      exact ⟨(p :: g) ++ f2, .cons (.lst k1 upd_same c1) t', ((Sb.refl [p]).app (c2.trans (by rw [List.append_nil]; exact .refl _))).app (.refl f2)⟩
  | x :: xs, v :: vs, _, j + 1, .cons (f := f1) (g := f2) a t, nd, e => by
    obtain ⟨n1, n2, n3⟩ := List.nodup_append.mp nd
    obtain ⟨q, ws, h1, h2, h3, h4, h5, h6⟩ := owns_app xs vs f2 j t n2 (by simpa using e)
    refine ⟨q, ws, by simpa using h1, h2, h3, List.mem_append_right _ h4, h5, fun w d hw => ?_⟩
    obtain ⟨f', c1, c2⟩ := h6 w d hw
    exact ⟨f1 ++ f', .cons (Own.mono (Same.refl F) _ _ _ a fun b hb => ⟨(Own.no _ _ _ a b hb).1, upd_ne (n3 b hb q h4)⟩) c1, (Sb.refl f1).app c2⟩
/-- .. of a tuple -/
theorem Stt.app_tup {j : Nat} (h : Stt K F0 H0 H σ ρ (v :: vs) (.tup ys :: xs)) (ej : ys[j]? = some (.lst zs)) : ∃ p us q ws, v = .ref p ∧ H p = some (.tup us) ∧ us.length = ys.length ∧ us[j]? = some (.ref q) ∧ H q = some (.lst ws) ∧ ws.length = zs.length ∧
    ∀ w d, (∀ F, At K F w d) → Stt K F0 H0 (upd H q (.lst (ws ++ [w]))) σ ρ (v :: vs) (.tup (ys.set j (.lst (zs ++ [.sh d]))) :: xs) := by
  obtain ⟨F, f, g, h1, h2, h3, h4, h5, h6, h7, h8⟩ := h
  cases h6 with
  | cons a t =>
    rename_i g1 g2
    cases a with
    | tup k1 k2 k3 =>
      rename_i p us g3
      have nd : (p :: ((g3 ++ g2) ++ f)).Nodup := h7
      obtain ⟨np, nd2⟩ := List.nodup_cons.mp nd
      have nd3 : g3.Nodup := (List.nodup_append.mp (List.nodup_append.mp nd2).1).1
      obtain ⟨q, ws, e1, e2, e3, e4, e5, e6⟩ := owns_app ys us g3 j k3 nd3 ej
      refine ⟨p, us, q, ws, rfl, k2, Owns.length k3, e1, e2, e3, fun w d hw => ?_⟩
      obtain ⟨g4, c1, c2⟩ := e6 w d (hw F)
      have q0 : H0 q = none := h8 q (List.mem_append_left _ (List.mem_append_left _ (List.mem_cons_of_mem _ e4)))
      have qp : p ≠ q := fun z => np (z ▸ List.mem_append_left _ (List.mem_append_left _ e4))
      have dis2 : ∀ b ∈ g2, b ≠ q := fun b hb z => (List.nodup_append.mp (List.nodup_append.mp nd2).1).2.2 q e4 b hb z.symm
      have dis3 : ∀ b ∈ f, b ≠ q := fun b hb z => (List.nodup_append.mp nd2).2.2 q (List.mem_append_left _ e4) b hb z.symm
      have t' : Owns K F (upd H q (.lst (ws ++ [w]))) vs xs g2 := Owns.mono (Same.refl F) _ _ _ t fun b hb => ⟨(Owns.no _ _ _ t b hb).1, upd_ne (dis2 b hb)⟩
      have h5' : Sl K F (upd H q (.lst (ws ++ [w]))) σ ρ f := Sl.mono (Same.refl F) h5 fun b hb => ⟨(Sl.no h5 b hb).1, upd_ne (dis3 b hb)⟩
      have s : Sb (((p :: g4) ++ g2) ++ f) (((p :: g3) ++ g2) ++ f) := (((Sb.refl [p]).app c2).app (.refl g2)).app (.refl f)
      exact ⟨F, f, (p :: g4) ++ g2, h1, fun b u e => by rw [upd_ne (fun z => by subst z; rw [q0] at e; cases e)]; exact h2 _ _ e, fun b u e => by rw [upd_ne (fun z => by subst z; rw [e5] at e; cases e)]; exact h3 _ _ e, h4, h5',
        Owns.cons (Own.tup k1 (by rw [upd_ne qp]; exact k2) c1) t', s.2 h7, fun b hb => h8 b (s.1 b hb)⟩
/-- .. of a list -/
theorem Stt.app_lst {j : Nat} (h : Stt K F0 H0 H σ ρ (v :: vs) (.lst ys :: xs)) (ej : ys[j]? = some (.lst zs)) : ∃ p us q ws, v = .ref p ∧ H p = some (.lst us) ∧ us.length = ys.length ∧ us[j]? = some (.ref q) ∧ H q = some (.lst ws) ∧ ws.length = zs.length ∧
    ∀ w d, (∀ F, At K F w d) → Stt K F0 H0 (upd H q (.lst (ws ++ [w]))) σ ρ (v :: vs) (.lst (ys.set j (.lst (zs ++ [.sh d]))) :: xs) := by
  obtain ⟨F, f, g, h1, h2, h3, h4, h5, h6, h7, h8⟩ := h
  cases h6 with
  | cons a t =>
    rename_i g1 g2
    cases a with
    | lst k1 k2 k3 =>
      rename_i p us g3
      have nd : (p :: ((g3 ++ g2) ++ f)).Nodup := h7
      obtain ⟨np, nd2⟩ := List.nodup_cons.mp nd
      have nd3 : g3.Nodup := (List.nodup_append.mp (List.nodup_append.mp nd2).1).1
      obtain ⟨q, ws, e1, e2, e3, e4, e5, e6⟩ := owns_app ys us g3 j k3 nd3 ej
      refine ⟨p, us, q, ws, rfl, k2, Owns.length k3, e1, e2, e3, fun w d hw => ?_⟩
      obtain ⟨g4, c1, c2⟩ := e6 w d (hw F)
      have q0 : H0 q = none := h8 q (List.mem_append_left _ (List.mem_append_left _ (List.mem_cons_of_mem _ e4)))
      have qp : p ≠ q := fun z => np (z ▸ List.mem_append_left _ (List.mem_append_left _ e4))
      have dis2 : ∀ b ∈ g2, b ≠ q := fun b hb z => (List.nodup_append.mp (List.nodup_append.mp nd2).1).2.2 q e4 b hb z.symm
      have dis3 : ∀ b ∈ f, b ≠ q := fun b hb z => (List.nodup_append.mp nd2).2.2 q (List.mem_append_left _ e4) b hb z.symm
      have t' : Owns K F (upd H q (.lst (ws ++ [w]))) vs xs g2 := Owns.mono (Same.refl F) _ _ _ t fun b hb => ⟨(Owns.no _ _ _ t b hb).1, upd_ne (dis2 b hb)⟩
      have h5' : Sl K F (upd H q (.lst (ws ++ [w]))) σ ρ f := Sl.mono (Same.refl F) h5 fun b hb => ⟨(Sl.no h5 b hb).1, upd_ne (dis3 b hb)⟩
      have s : Sb (((p :: g4) ++ g2) ++ f) (((p :: g3) ++ g2) ++ f) := (((Sb.refl [p]).app c2).app (.refl g2)).app (.refl f)
      exact ⟨F, f, (p :: g4) ++ g2, h1, fun b u e => by rw [upd_ne (fun z => by subst z; rw [q0] at e; cases e)]; exact h2 _ _ e, fun b u e => by rw [upd_ne (fun z => by subst z; rw [e5] at e; cases e)]; exact h3 _ _ e, h4, h5',
        Owns.cons (Own.lst k1 (by rw [upd_ne qp]; exact k2) c1) t', s.2 h7, fun b hb => h8 b (s.1 b hb)⟩
/-- .. of a tuple, by what lies below it -/
theorem Stt.app2_tup {j : Nat} {w : V} {d : D} (h : Stt K F0 H0 H σ ρ (v :: w :: vs) (.tup ys :: .sh d :: xs)) (ej : ys[j]? = some (.lst zs)) : ∃ p us q ws, v = .ref p ∧ H p = some (.tup us) ∧ us.length = ys.length ∧ us[j]? = some (.ref q) ∧ H q = some (.lst ws) ∧ ws.length = zs.length ∧
    Stt K F0 H0 (upd H q (.lst (ws ++ [w]))) σ ρ (v :: vs) (.tup (ys.set j (.lst (zs ++ [.sh d]))) :: xs) := by
  obtain ⟨F, f, g, h1, h2, h3, h4, h5, h6, h7, h8⟩ := h
  cases h6 with
  | cons a t0 =>
    rename_i g1 g0
    cases t0 with
    | cons aw t =>
    rename_i gw g2
    cases aw with
    | sh aw =>
    cases a with
    | tup k1 k2 k3 =>
      rename_i p us g3
      have nd : (p :: ((g3 ++ g2) ++ f)).Nodup := h7
      obtain ⟨np, nd2⟩ := List.nodup_cons.mp nd
      have nd3 : g3.Nodup := (List.nodup_append.mp (List.nodup_append.mp nd2).1).1
      obtain ⟨q, ws, e1, e2, e3, e4, e5, e6⟩ := owns_app ys us g3 j k3 nd3 ej
      refine ⟨p, us, q, ws, rfl, k2, Owns.length k3, e1, e2, e3, ?_⟩
      obtain ⟨g4, c1, c2⟩ := e6 w d aw
      have q0 : H0 q = none := h8 q (List.mem_append_left _ (List.mem_append_left _ (List.mem_cons_of_mem _ e4)))
      have qp : p ≠ q := fun z => np (z ▸ List.mem_append_left _ (List.mem_append_left _ e4))
      have dis2 : ∀ b ∈ g2, b ≠ q := fun b hb z => (List.nodup_append.mp (List.nodup_append.mp nd2).1).2.2 q e4 b hb z.symm
      have dis3 : ∀ b ∈ f, b ≠ q := fun b hb z => (List.nodup_append.mp nd2).2.2 q (List.mem_append_left _ e4) b hb z.symm
      have t' : Owns K F (upd H q (.lst (ws ++ [w]))) vs xs g2 := Owns.mono (Same.refl F) _ _ _ t fun b hb => ⟨(Owns.no _ _ _ t b hb).1, upd_ne (dis2 b hb)⟩
      have h5' : Sl K F (upd H q (.lst (ws ++ [w]))) σ ρ f := Sl.mono (Same.refl F) h5 fun b hb => ⟨(Sl.no h5 b hb).1, upd_ne (dis3 b hb)⟩
      have s : Sb (((p :: g4) ++ g2) ++ f) (((p :: g3) ++ g2) ++ f) := (((Sb.refl [p]).app c2).app (.refl g2)).app (.refl f)
      exact ⟨F, f, (p :: g4) ++ g2, h1, fun b u e => by rw [upd_ne (fun z => by subst z; rw [q0] at e; cases e)]; exact h2 _ _ e, fun b u e => by rw [upd_ne (fun z => by subst z; rw [e5] at e; cases e)]; exact h3 _ _ e, h4, h5',
        Owns.cons (Own.tup k1 (by rw [upd_ne qp]; exact k2) c1) t', s.2 h7, fun b hb => h8 b (s.1 b hb)⟩
/-- .. of a list, by what lies below it -/
theorem Stt.app2_lst {j : Nat} {w : V} {d : D} (h : Stt K F0 H0 H σ ρ (v :: w :: vs) (.lst ys :: .sh d :: xs)) (ej : ys[j]? = some (.lst zs)) : ∃ p us q ws, v = .ref p ∧ H p = some (.lst us) ∧ us.length = ys.length ∧ us[j]? = some (.ref q) ∧ H q = some (.lst ws) ∧ ws.length = zs.length ∧
    Stt K F0 H0 (upd H q (.lst (ws ++ [w]))) σ ρ (v :: vs) (.lst (ys.set j (.lst (zs ++ [.sh d]))) :: xs) := by
  obtain ⟨F, f, g, h1, h2, h3, h4, h5, h6, h7, h8⟩ := h
  cases h6 with
  | cons a t0 =>
    rename_i g1 g0
    cases t0 with
    | cons aw t =>
    rename_i gw g2
    cases aw with
    | sh aw =>
    cases a with
    | lst k1 k2 k3 =>
      rename_i p us g3
      have nd : (p :: ((g3 ++ g2) ++ f)).Nodup := h7
      obtain ⟨np, nd2⟩ := List.nodup_cons.mp nd
      have nd3 : g3.Nodup := (List.nodup_append.mp (List.nodup_append.mp nd2).1).1
      obtain ⟨q, ws, e1, e2, e3, e4, e5, e6⟩ := owns_app ys us g3 j k3 nd3 ej
      refine ⟨p, us, q, ws, rfl, k2, Owns.length k3, e1, e2, e3, ?_⟩
      obtain ⟨g4, c1, c2⟩ := e6 w d aw
      have q0 : H0 q = none := h8 q (List.mem_append_left _ (List.mem_append_left _ (List.mem_cons_of_mem _ e4)))
      have qp : p ≠ q := fun z => np (z ▸ List.mem_append_left _ (List.mem_append_left _ e4))
      have dis2 : ∀ b ∈ g2, b ≠ q := fun b hb z => (List.nodup_append.mp (List.nodup_append.mp nd2).1).2.2 q e4 b hb z.symm
      have dis3 : ∀ b ∈ f, b ≠ q := fun b hb z => (List.nodup_append.mp nd2).2.2 q (List.mem_append_left _ e4) b hb z.symm
      have t' : Owns K F (upd H q (.lst (ws ++ [w]))) vs xs g2 := Owns.mono (Same.refl F) _ _ _ t fun b hb => ⟨(Owns.no _ _ _ t b hb).1, upd_ne (dis2 b hb)⟩
      have h5' : Sl K F (upd H q (.lst (ws ++ [w]))) σ ρ f := Sl.mono (Same.refl F) h5 fun b hb => ⟨(Sl.no h5 b hb).1, upd_ne (dis3 b hb)⟩
      have s : Sb (((p :: g4) ++ g2) ++ f) (((p :: g3) ++ g2) ++ f) := (((Sb.refl [p]).app c2).app (.refl g2)).app (.refl f)
      exact ⟨F, f, (p :: g4) ++ g2, h1, fun b u e => by rw [upd_ne (fun z => by subst z; rw [q0] at e; cases e)]; exact h2 _ _ e, fun b u e => by rw [upd_ne (fun z => by subst z; rw [e5] at e; cases e)]; exact h3 _ _ e, h4, h5',
        Owns.cons (Own.lst k1 (by rw [upd_ne qp]; exact k2) c1) t', s.2 h7, fun b hb => h8 b (s.1 b hb)⟩
end
/-! x[k].append(c), c a constant -/
def appL (o : Option Val) (d : D) : Option Val := match o with
  | some (.lst zs) => if zs.length < 10000000 then some (.lst (zs ++ [.sh d])) else none
  | _ => none
def appIn (ys : List Val) (i : Int) (d : D) : Option (List Val) := (ixN ys.length i).bind fun j => (appL ys[j]? d).map fun z => ys.set j z
def appIxV (o : Option Val) (n : Nat) (k : D) (d : D) (ρ : DEnv) : Fl := match o, k with
  | some (.tup ys), .int i => match appIn ys i d with
    | some ys' => .nx (ρ.set n (some (.tup ys')))
    | none => .bad
  | some (.lst ys), .int i => match appIn ys i d with
    | some ys' => .nx (ρ.set n (some (.lst ys')))
    | none => .bad
  | _, _ => .bad
def sAppIx (n : Nat) (fk : DEnv → R Val) (d : D) : DEnv → Fl := fun ρ => match getV ρ[n]? with
  | none => .bad
  | some _ => (fk ρ).fl fun y ρ1 => appIxV (getV ρ1[n]?) n y.fz d ρ1
theorem appIn_some {ys ys' : List Val} {i : Int} {d : D} (h : appIn ys i d = some ys') : ∃ j zs, ixN ys.length i = some j ∧ ys[j]? = some (.lst zs) ∧ zs.length < 10000000 ∧ ys' = ys.set j (.lst (zs ++ [.sh d])) := by
  obtain ⟨j, e1, e2⟩ := Option.bind_eq_some_iff.mp h
  obtain ⟨z, e3, e4⟩ := Option.map_eq_some_iff.mp e2
  cases e5 : ys[j]? with
  | none => rw [e5] at e3; cases e3
  | some x =>
    rw [e5] at e3
    match x, e3 with
    | .lst zs, e3 =>
      have e3 : (if zs.length < 10000000 then some (Val.lst (zs ++ [.sh d])) else none) = some z := e3
      split at e3
      · cases e3
        exact ⟨j, zs, e1, e5, by assumption, e4.symm⟩
      · cases e3
section
variable {X : Cx} {i : Nat} {x : Str} {kb e : Expr} {fk : DEnv → R Val} {v : V} {d : D} {apos p p0 pos q : Pos}
theorem ds_appIx (hx : PE X (.Name x q) (tVar i)) (hk : DE X kb fk)
    (hb : PE X (.Call (.Attribute (.Subscript (.Name x q) kb p0) "append" apos) [e] [] p) (tBM X.K "list" rAppend (tOp (rIx X.K) (tVar i) (tE X fk)) (tCons (tC v) tNil))) (hd : ∀ F, At X.K F v d)
    (hs : swapsWith (.Call (.Attribute (.Subscript (.Name x q) kb p0) "append" apos) [e] [] p) none pos.line X.env = pure false := by rfl) :
    DS X (.Expr (.Call (.Attribute (.Subscript (.Name x q) kb p0) "append" apos) [e] [] p) pos) (sAppIx i fk d) :=
  PS.imp (ps_expr hb hs) fun D σ H ⟨F0, H0, ρ, vs, xs, s, q⟩ => by
    unfold sAppIx at q
    cases e0 : getV ρ[i]? with
    | none => rw [e0] at q; exact q.elim
    | some y0 =>
      rw [e0] at q
      obtain ⟨v0, k0, _⟩ := s.peek (getV_some e0)
      refine ⟨v0, k0, F0, H0, ρ, vs, xs, s, (post_fl q).imp (fun y ρ1 q1 H1 w s1 => ?_) fun _ _ z => z⟩
      have ew : ∀ j, y.fz = .int j → w = .int j := fun j hj => by
        obtain ⟨F', _, a, _⟩ := s1.fz.oneT
        rw [hj] at a
        cases a
        rfl
      have s2 := s1.pop
      cases e1 : getV ρ1[i]? with
      | none => rw [e1] at q1; exact q1.elim
      | some x1 =>
        rw [e1] at q1
        obtain ⟨v1, k1, s3⟩ := s2.take (getV_some e1)
        have ev : v1 = v0 := by rw [k0] at k1; cases k1; rfl
        subst ev
        have hlen : i < ρ1.length := (List.getElem?_eq_some_iff.mp (getV_some e1)).1
        match x1, hy : y.fz, q1 with
        | .tup ys, .int n, q1 =>
          have q1 : fpost X F0 H0 vs xs D (match appIn ys n d with
            | some ys' => Fl.nx (ρ1.set i (some (.tup ys')))
            | none => .bad) := q1
          cases e2 : appIn ys n d with
          | none => rw [e2] at q1; exact q1.elim
          | some ys' =>
            rw [e2] at q1
            obtain ⟨j, zs, a1, a2, a3, rfl⟩ := appIn_some e2
            obtain ⟨pp, us, qq, ws, rfl, b1, b2, b3, b4, b5, b6⟩ := Stt.app_tup s3 a2
            refine .inr (.inl ⟨pp, us, n, .ref qq, rfl, ew n hy, .of b1, by unfold atI; rw [b2, a1]; exact b3, .inl ⟨rfl, ws, .of b4⟩, ?_⟩)
            refine ⟨qq, ws, v, rfl, rfl, b4, by rw [b5, sizeLine_eq]; omega, q1 σ _ ?_⟩
            have s5 := (b6 v d hd).store (i := i) (by simpa using hlen)
            rw [List.set_set, set_same k1] at s5
            exact s5
        | .lst ys, .int n, q1 =>
          have q1 : fpost X F0 H0 vs xs D (match appIn ys n d with
            | some ys' => Fl.nx (ρ1.set i (some (.lst ys')))
            | none => .bad) := q1
          cases e2 : appIn ys n d with
          | none => rw [e2] at q1; exact q1.elim
          | some ys' =>
            rw [e2] at q1
            obtain ⟨j, zs, a1, a2, a3, rfl⟩ := appIn_some e2
            obtain ⟨pp, us, qq, ws, rfl, b1, b2, b3, b4, b5, b6⟩ := Stt.app_lst s3 a2
            refine .inl ⟨pp, us, n, .ref qq, rfl, ew n hy, .of b1, by unfold atI; rw [b2, a1]; exact b3, .inl ⟨rfl, ws, .of b4⟩, ?_⟩
            refine ⟨qq, ws, v, rfl, rfl, b4, by rw [b5, sizeLine_eq]; omega, q1 σ _ ?_⟩
            have s5 := (b6 v d hd).store (i := i) (by simpa using hlen)
            rw [List.set_set, set_same k1] at s5
            exact s5
/-- .. c a tuple of constants -/
theorem ds_appIxT {cs : List V} {ds : List D} {ta : TA} (hx : PE X (.Name x q) (tVar i)) (hk : DE X kb fk)
    (hb : PE X (.Call (.Attribute (.Subscript (.Name x q) kb p0) "append" apos) [e] [] p) (tBM X.K "list" rAppend (tOp (rIx X.K) (tVar i) (tE X fk)) ta))
    (hA : ∀ σ H Q, (∀ T, H T = none → Q [.ref T] (upd H T (.tup cs))) → ta σ H Q) (hl : cs.length = ds.length)
    (hpush : ∀ {F0 H0 H : Hp} {σ : St} {ρ : DEnv} {vs : List V} {xs : List Val}, Stt X.K F0 H0 H σ ρ vs xs → Stt X.K F0 H0 H σ ρ (cs ++ vs) (ds.map .sh ++ xs))
    (hs : swapsWith (.Call (.Attribute (.Subscript (.Name x q) kb p0) "append" apos) [e] [] p) none pos.line X.env = pure false := by rfl) :
    DS X (.Expr (.Call (.Attribute (.Subscript (.Name x q) kb p0) "append" apos) [e] [] p) pos) (sAppIx i fk (.tup ds)) :=
  PS.imp (ps_expr hb hs) fun D σ H ⟨F0, H0, ρ, vs, xs, s, q⟩ => by
    unfold sAppIx at q
    cases e0 : getV ρ[i]? with
    | none => rw [e0] at q; exact q.elim
    | some y0 =>
      rw [e0] at q
      obtain ⟨v0, k0, _⟩ := s.peek (getV_some e0)
      refine ⟨v0, k0, F0, H0, ρ, vs, xs, s, (post_fl q).imp (fun y ρ1 q1 H1 w s1 => ?_) fun _ _ z => z⟩
      have ew : ∀ j, y.fz = .int j → w = .int j := fun j hj => by
        obtain ⟨F', _, a, _⟩ := s1.fz.oneT
        rw [hj] at a
        cases a
        rfl
      have s2 := s1.pop
      cases e1 : getV ρ1[i]? with
      | none => rw [e1] at q1; exact q1.elim
      | some x1 =>
        rw [e1] at q1
        obtain ⟨v1, k1, s3⟩ := s2.take (getV_some e1)
        have ev : v1 = v0 := by rw [k0] at k1; cases k1; rfl
        subst ev
        have hlen : i < ρ1.length := (List.getElem?_eq_some_iff.mp (getV_some e1)).1
        match x1, hy : y.fz, q1 with
        | .tup ys, .int n, q1 =>
          have q1 : fpost X F0 H0 vs xs D (match appIn ys n (.tup ds) with
            | some ys' => Fl.nx (ρ1.set i (some (.tup ys')))
            | none => .bad) := q1
          cases e2 : appIn ys n (.tup ds) with
          | none => rw [e2] at q1; exact q1.elim
          | some ys' =>
            rw [e2] at q1
            obtain ⟨j, zs, a1, a2, a3, rfl⟩ := appIn_some e2
            obtain ⟨pp, us, qq, ws, rfl, b1, b2, b3, b4, b5, _⟩ := Stt.app_tup s3 a2
            refine .inr (.inl ⟨pp, us, n, .ref qq, rfl, ew n hy, .of b1, by unfold atI; rw [b2, a1]; exact b3, .inl ⟨rfl, ws, .of b4⟩, ?_⟩)
            refine hA σ H1 _ fun T nT => ?_
            have s4 : Stt X.K F0 H0 (upd H1 T (.tup cs)) σ (ρ1.set i none) (.ref T :: .ref pp :: vs) (.sh (.tup ds) :: .tup ys :: xs) := Stt.newTup (as := cs) (ds := ds) hl (hpush s3) nT
            obtain ⟨pp', us', qq', ws', z1, z2, z3, z4, z5, z6, z7⟩ := Stt.app2_tup (Stt.turn (as := [.ref T]) (bs := [.sh (.tup ds)]) rfl s4) a2
            cases z1
            have np : pp ≠ T := fun z => by subst z; rw [nT] at b1; cases b1
            rw [upd_ne np, b1] at z2
            cases z2
            rw [b3] at z4
            cases z4
            refine ⟨qq, ws', .ref T, rfl, rfl, z5, by rw [z6, sizeLine_eq]; omega, q1 σ _ ?_⟩
            have s5 := z7.store (i := i) (by simpa using hlen)
            rw [List.set_set, set_same k1] at s5
            exact s5
        | .lst ys, .int n, q1 =>
          have q1 : fpost X F0 H0 vs xs D (match appIn ys n (.tup ds) with
            | some ys' => Fl.nx (ρ1.set i (some (.lst ys')))
            | none => .bad) := q1
          cases e2 : appIn ys n (.tup ds) with
          | none => rw [e2] at q1; exact q1.elim
          | some ys' =>
            rw [e2] at q1
            obtain ⟨j, zs, a1, a2, a3, rfl⟩ := appIn_some e2
            obtain ⟨pp, us, qq, ws, rfl, b1, b2, b3, b4, b5, _⟩ := Stt.app_lst s3 a2
            refine .inl ⟨pp, us, n, .ref qq, rfl, ew n hy, .of b1, by unfold atI; rw [b2, a1]; exact b3, .inl ⟨rfl, ws, .of b4⟩, ?_⟩
            refine hA σ H1 _ fun T nT => ?_
            have s4 : Stt X.K F0 H0 (upd H1 T (.tup cs)) σ (ρ1.set i none) (.ref T :: .ref pp :: vs) (.sh (.tup ds) :: .lst ys :: xs) := Stt.newTup (as := cs) (ds := ds) hl (hpush s3) nT
            obtain ⟨pp', us', qq', ws', z1, z2, z3, z4, z5, z6, z7⟩ := Stt.app2_lst (Stt.turn (as := [.ref T]) (bs := [.sh (.tup ds)]) rfl s4) a2
            cases z1
            have np : pp ≠ T := fun z => by subst z; rw [nT] at b1; cases b1
            rw [upd_ne np, b1] at z2
            cases z2
            rw [b3] at z4
            cases z4
            refine ⟨qq, ws', .ref T, rfl, rfl, z5, by rw [z6, sizeLine_eq]; omega, q1 σ _ ?_⟩
            have s5 := z7.store (i := i) (by simpa using hlen)
            rw [List.set_set, set_same k1] at s5
            exact s5
/-! a name's value is handed on as one's own -/
def takeR (o : Option Val) (n : Nat) (ρ : DEnv) : R Val := match o with
  | some x => .ok x (ρ.set n none)
  | none => .bad
def sTake (n : Nat) : DEnv → R Val := fun ρ => takeR (getV ρ[n]?) n ρ
theorem de_take (hx : PE X (.Name x q) (tVar i)) : DE X (.Name x q) (sTake i) :=
  PE.imp hx fun σ H Q ⟨F0, H0, ρ, vs, xs, s, q⟩ => by
    unfold sTake at q
    cases e0 : getV ρ[i]? with
    | none => rw [e0] at q; exact q.elim
    | some y =>
      rw [e0] at q
      obtain ⟨v, k0, s1⟩ := s.take (getV_some e0)
      exact ⟨v, k0, q H v s1⟩
def lendT (r : R Bool) (ρ : DEnv) : R Bool := match r with
  | .ok b _ => .ok b ρ
  | _ => .bad
def sLendT (f : DEnv → R Bool) : DEnv → R Bool := fun ρ => lendT (f (ρ.map frO)) ρ
theorem dt_lend {e : Expr} {f : DEnv → R Bool} (h : DT X e f) : DT X e (sLendT f) :=
  PT.imp h fun σ H Q ⟨F0, H0, ρ, vs, xs, s, q⟩ => by
    obtain ⟨F1, s1, back⟩ := s.lend
    refine ⟨F1, H0, ρ.map frO, [], [], s1, ?_⟩
    have q : post X F0 H0 vs xs _ (lendT (f (ρ.map frO)) ρ) := q
    cases e1 : f (ρ.map frO) with
    | bad => rw [e1] at q; exact q.elim
    | exc _ _ => rw [e1] at q; exact q.elim
    | ok b ρ1 =>
      rw [e1] at q
      intro H1 s2
      exact q H1 (back H1 σ ρ1 .non .non rfl (s2.scal fun _ => .non)).pop
end
end DL

/-! DLm: instances of own classes: attributes, methods by class, making, isinstance. -/
namespace DL
open PySem PySem.Spec L2

theorem all0 {α : Type} {P : α → Prop} : ∀ a ∈ ([] : List α), P a := fun _ h => by cases h
/-! ### attributes -/
def fldD (Cs : List Addr) (f : Str) : D → Option Val := fun d => match d with
  | .ins C ns ds => if C ∈ Cs then ((ns.zip ds).lookup f).map .sh else none
  | _ => none
theorem zip_look {K : PySem.W.Frag} {F : Hp} {f : Str} {d : D} : ∀ {ns : List Str} {vs : List V} {ds : List D}, ns.length = vs.length → Ats K F vs ds → (ns.zip ds).lookup f = some d → ∃ v, (ns.zip vs).lookup f = some v ∧ At K F v d
  | [], _, _, _, _, h => by simp at h
  | n :: ns, [], _, e, _, _ => by simp at e
  | n :: ns, v :: vs, _, e, .cons (d := d') (ds := ds') a t, h => by
    rw [List.zip_cons_cons] at h ⊢
    unfold List.lookup at h ⊢
    by_cases hb : (f == n) = true
    · rw [hb] at h ⊢
      have h : some d' = some d := h
      cases h
      exact ⟨v, rfl, a⟩
    · have hb : (f == n) = false := by simpa using hb
      rw [hb] at h ⊢
      exact zip_look (by simpa using e) t h
theorem zip_none {f : Str} : ∀ {ns : List Str} {vs : List V}, f ∉ ns → (ns.zip vs).lookup f = none
  | [], _, _ => rfl
  | n :: ns, [], _ => rfl
  | n :: ns, v :: vs, h => by
    simp only [List.mem_cons, not_or] at h
    rw [List.zip_cons_cons]
    unfold List.lookup
    have hb : (f == n) = false := beq_eq_false_iff_ne.mpr h.1
    rw [hb]
    exact zip_none h.2
section
variable {X : Cx} {e o : Expr} {fe fo : DEnv → R Val} {f m : Str} {pos p apos pos' : Pos}
theorem de_fld {Cs : List Addr} (hC : ∀ C ∈ Cs, Cls X.K C ∧ NoAttr X.K C f) (he : DE X e fe) (hb : attributeBase e f X.env (eval e X.env) = eval e X.env := by rfl) : DE X (.Attribute e f pos) (sUn (fldD Cs f) fe) :=
  PE.imp (pe_fld he hb) fun σ H Q ⟨F0, H0, ρ, vs, xs, s, q⟩ => by
    refine ⟨F0, H0, ρ, vs, xs, s, (post_bind q).imp (fun x ρ1 q1 H1 v s1 => ?_) fun _ _ z => z⟩
    cases e1 : fldD Cs f x.fz with
    | none => rw [e1] at q1; exact q1.elim
    | some y =>
      rw [e1] at q1
      obtain ⟨F, hF, a, t⟩ := s1.fz.oneT
      match hx : x.fz, e1, a with
      | .ins C ns ds, e1, .ins (vs := us) h1 h2 h3 =>
        have e1 : (if C ∈ Cs then ((ns.zip ds).lookup f).map Val.sh else none) = some y := e1
        split at e1
        · rename_i hc
          obtain ⟨d, e2, rfl⟩ := Option.map_eq_some_iff.mp e1
          obtain ⟨w, e3, e4⟩ := zip_look h2 h3 e2
          exact ⟨_, C, _, _, w, rfl, hF _ _ h1, (hC C hc).1, (hC C hc).2, e3, q1 H1 w (t [w] [d] (.one e4))⟩
        · cases e1

/-! ### a new instance -/
theorem Stt.reset {K : PySem.W.Frag} {F0 H0 H : Hp} {σ : St} {ρ : DEnv} {vs : List V} {xs : List Val} {x : Addr} {o o' : HO} (h : Stt K F0 H0 H σ ρ vs xs) (hx : F0 x = none) (h0 : H0 x = some o) : Stt K F0 (upd H0 x o') (upd H x o') σ ρ vs xs := by
  obtain ⟨F, f, g, h1, h2, h3, h4, h5, h6, h7, h8⟩ := h
  have nF : F x = none := h4 x hx (by rw [h0]; exact fun z => nomatch z)
  have ne : ∀ b ∈ g ++ f, b ≠ x := fun b hb e => by
    subst e
    rw [h8 b hb] at h0
    cases h0
  refine ⟨F, f, g, h1, fun b u e => ?_, fun b u e => by rw [upd_ne (ne_of_none e nF)]; exact h3 _ _ e, fun b z1 z2 => ?_,
    Sl.mono (Same.refl F) h5 fun b hb => ⟨(Sl.no h5 b hb).1, upd_ne (ne b (List.mem_append_right _ hb))⟩, Owns.mono (Same.refl F) _ _ _ h6 fun b hb => ⟨(Owns.no _ _ _ h6 b hb).1, upd_ne (ne b (List.mem_append_left _ hb))⟩, h7, fun b hb => by rw [upd_ne (ne b hb)]; exact h8 b hb⟩
  · by_cases hb : b = x
    · subst hb; rw [upd_same] at e ⊢; exact e
    · rw [upd_ne hb] at e ⊢; exact h2 _ _ e
  · by_cases hb : b = x
    · subst hb; exact nF
    · rw [upd_ne hb] at z2; exact h4 b z1 z2
theorem Stt.born {K : PySem.W.Frag} {F H0 H1 H' : Hp} {σ : St} {ρ : DEnv} {us : List V} {ds : List D} {x dx C : Addr} {ns : List Str} (h : Stt K F H0 H' σ ρ us (ds.map .sh)) (hx0 : H0 x = some (.ins C dx (ns.zip us))) (hk : ∀ b, b ≠ x → b ≠ dx → H0 b = H1 b)
    (sF : Same F H1) (nx : H1 x = none) (ndx : H1 dx = none) (hl : ns.length = us.length) : Stt K F H1 H' [] [] [.ref x] [.sh (.ins C ns ds)] := by
  obtain ⟨Fi, f, g, h1, h2, h3, h4, h5, h6, h7, h8⟩ := h
  have fx : F x = none := sF.free nx
  have nFi : Fi x = none := h4 x fx (by rw [hx0]; exact fun z => nomatch z)
  obtain ⟨a, rfl⟩ := Owns.ats h6
  have hx : H' x = some (.ins C dx (ns.zip us)) := h2 _ _ hx0
  have sFi : Same Fi (upd Fi x (.ins C dx (ns.zip us))) := fun b u e => by rw [upd_ne (ne_of_none e nFi)]; exact e
  refine ⟨upd Fi x (.ins C dx (ns.zip us)), [], [], h1.trans sFi, fun b u e => h2 _ _ (by rw [hk b (ne_of_none e nx) (ne_of_none e ndx)]; exact e), fun b u e => ?_, fun b z1 z2 => ?_, .nil, .cons (f := []) (g := []) (.sh (.ins upd_same hl (Ats.mono sFi _ _ a))) .nil, by simp, fun b hb => by cases hb⟩
  · by_cases hb : b = x
    · subst hb; rw [upd_same] at e; rw [hx]; exact e
    · rw [upd_ne hb] at e; exact h3 _ _ e
  · have nb : b ≠ x := fun e => by subst e; exact z2 nx
    have nd : b ≠ dx := fun e => by subst e; exact z2 ndx
    rw [upd_ne nb]
    exact h4 b z1 (by rw [hk b nb nd]; exact z2)
def inits (X : Cx) : List (Str × (DEnv → R Val)) → TS
  | [] => tNext
  | (f, fe) :: r => tSeq (sFld X.K (tVar 0) (tE X fe) f) (inits X r)
def DInit (X : Cx) (ss : List Stmt) (l : List (Str × (DEnv → R Val))) : Prop := PSs X ss (inits X l)
theorem dinit_nil : DInit X [] [] := pss_nil
theorem dinit_cons {rest : List Stmt} {r : List (Str × (DEnv → R Val))} (hx : PE X o (tVar 0)) (he : DE X e fe) (h : DInit X rest r) (hs : swapsWith e (some (.Attribute o f pos')) pos.line X.env = pure false := by rfl) : DInit X (.Assign [.Attribute o f pos'] e pos :: rest) ((f, fe) :: r) :=
  pss_cons (ps_fld hx he hs) h
theorem dinit_one (hx : PE X o (tVar 0)) (he : DE X e fe) (hs : swapsWith e (some (.Attribute o f pos')) pos.line X.env = pure false := by rfl) : DInit X [.Assign [.Attribute o f pos'] e pos] [(f, fe)] := dinit_cons hx he dinit_nil hs
def runInit : List (Str × (DEnv → R Val)) → DEnv → List Str → List D → Option (List Str × List D)
  | [], _, ns, ds => some (ns, ds)
  | (f, fe) :: r, ρ, ns, ds => if f ∈ ns then none else match fe ρ with
    | .ok y ρ1 => runInit r ρ1 (ns ++ [f]) (ds ++ [y.fz])
    | _ => none
theorem putF_new {f : Str} {v : V} : ∀ {ns : List Str} {ws : List V}, ns.length = ws.length → f ∉ ns → putF f v (ns.zip ws) = (ns ++ [f]).zip (ws ++ [v])
  | [], [], _, _ => rfl
  | n :: ns, w :: ws, e, h => by
    simp only [List.mem_cons, not_or] at h
    show (if n = f then (n, v) :: ns.zip ws else (n, w) :: putF f v (ns.zip ws)) = (n, w) :: (ns ++ [f]).zip (ws ++ [v])
    rw [if_neg (fun z => h.1 z.symm), putF_new (by simpa using e) h.2]
theorem inits_read {F : Hp} {C x dx : Addr} (hC : Cls X.K C) (nF : F x = none) : ∀ (l : List (Str × (DEnv → R Val))) (ρ : DEnv) (ns : List Str) (ds : List D) (ws : List V) (σ : St) (H H0 : Hp) (D : Ends) (ns' : List Str) (ds' : List DL.D), (∀ p ∈ l, NoAttr X.K C p.1) → ns.length = ws.length → ns.length + l.length < 1000 → σ[0]? = some (some (.ref x)) →
    H0 x = some (.ins C dx (ns.zip ws)) → Stt X.K F H0 H σ ρ ws (ds.map .sh) → runInit l ρ ns ds = some (ns', ds') →
    (∀ (H0' H' : Hp) (ws' : List V) (ρ' : DEnv), H0' x = some (.ins C dx (ns'.zip ws')) → (∀ b, b ≠ x → H0' b = H0 b) → ns'.length = ws'.length → Stt X.K F H0' H' σ ρ' ws' (ds'.map .sh) → D.nx σ H') → inits X l D σ H
  | [], ρ, ns, ds, ws, σ, H, H0, D, ns', ds', _, hl, _, _, h0, s, hr, k => by
    cases hr
    exact k H0 H ws ρ h0 (fun _ _ => rfl) hl s
  | (f, fe) :: r, ρ, ns, ds, ws, σ, H, H0, D, ns', ds', hN, hl, hz, hs, h0, s, hr, k => by
    unfold runInit at hr
    split at hr
    · cases hr
    rename_i hf
    cases e1 : fe ρ with
    | exc _ _ => rw [e1] at hr; cases hr
    | bad => rw [e1] at hr; cases hr
    | ok y ρ1 =>
      rw [e1] at hr
      refine ⟨F, H0, ρ, ws, ds.map .sh, s, ?_⟩
      rw [e1]
      intro H1 v s1
      have hx1 : H1 x = some (.ins C dx (ns.zip ws)) := by
        obtain ⟨_, _, _, _, h2, _⟩ := s1
        exact h2 _ _ h0
      have hzl : (ns.zip ws).length < 1000 := by
        rw [List.length_zip]
        simp only [List.length_cons] at hz
        omega
      refine ⟨_, hs, x, C, dx, _, rfl, hx1, hC, hN _ List.mem_cons_self, hzl, ?_⟩
      rw [putF_new hl hf]
      have hl2 : ws.length = ds.length := by simpa using s1.lens
      have s2 : Stt X.K F H0 H1 σ ρ1 (v :: (ws ++ [])) (.sh y.fz :: (ds.map .sh ++ [])) := by
        rw [List.append_nil, List.append_nil]
        exact s1.fz
      have s3 := Stt.turn' (as := ws) (bs := ds.map .sh) (by simpa using hl2) s2
      have s4 : Stt X.K F H0 H1 σ ρ1 (ws ++ [v]) ((ds ++ [y.fz]).map .sh) := by
        rw [List.map_append]
        exact s3
      have s5 := s4.reset (o' := .ins C dx ((ns ++ [f]).zip (ws ++ [v]))) nF h0
      refine inits_read hC nF r ρ1 (ns ++ [f]) (ds ++ [y.fz]) (ws ++ [v]) σ _ _ D ns' ds' (fun p hp => hN p (List.mem_cons_of_mem _ hp)) (by simp [hl]) (by simp only [List.length_cons] at hz; simp; omega) hs upd_same s5 hr fun H0' H' ws' ρ' k1 k2 k3 k4 => ?_
      exact k H0' H' ws' ρ' k1 (fun b hb => (k2 b hb).trans (upd_ne hb)) k3 k4
end
/-- the promise of an __init__ that fills fs -/
def spInit (K : PySem.W.Frag) (fs : List Str) (n : Nat) (φ : List D → Option (List Str × List D)) : Sp := fun vs H Q E => ∃ x dx C rest F H1 ds, vs = .ref x :: rest ∧ H1 x = none ∧ H1 dx = none ∧ dx ≠ x ∧ H = upd (upd H1 dx (.own x)) x (.ins C dx []) ∧ Cls K C ∧ (∀ f ∈ fs, NoAttr K C f) ∧ Same F H1 ∧ Ats K F rest ds ∧ ds.length = n ∧ ∃ p, φ ds = some p ∧
  ∀ H', Stt K F H1 H' [] [] [.ref x] [.sh (.ins C p.1 p.2)] → Q .non H'
theorem Stt.un {K : PySem.W.Frag} {F0 H0 H : Hp} {σ : St} {ρ : DEnv} {vs : List V} {xs : List Val} {y : Option V} (h : Stt K F0 H0 H σ ρ vs xs) : Stt K F0 H0 H (y :: σ) (none :: ρ) vs xs := by
  obtain ⟨F, f, g, h1, h2, h3, h4, h5, h6⟩ := h
  exact ⟨F, f, g, h1, h2, h3, h4, .un h5, h6⟩
section
variable {P : Program} {w : World} {K : PySem.W.Frag} {mg : Str → Option Value} {base : Heap}
theorem fnI {x qual : Str} {st : Stmt} {f : Addr} {fd : FuncData} {N ps : List Str} {k n : Nat} {l : List (Str × (DEnv → R Val))} (F : Fun K x qual st f fd) (S : FnScope N ps (defScope st)) (hn : ps.length = n + 1) (hz : l.length < 1000)
    (hbody : ∀ (cdv : Value) (A : Around) (outer : List PySem.Env) (s0 : Shared) (H : Hp) (E : XK), Room k (A.deeper (PyProof.Rows.envOfC qual (defScope st) s0.heap.objs.size f cdv)) →
      DInit (cxOf (L2.CX P w) P w K mg base N qual (defScope st) f cdv A outer s0 H E) (defBody st) l) :
    FnOk P w K mg base (L2.CX P w) (k + 1) f fd ps (spInit K (l.map Prod.fst) n fun ds => runInit l (none :: env0 (N.length - 1) ds) [] []) := by
  refine F.okX S (fun vs H Q E ⟨x, dx, C, rest, G, H1, ds, e, _, _, _, _, _, _, _, ha, hl, _⟩ => by rw [e, hn, List.length_cons, ha.length, hl]) fun cdv A outer s0 H vs Q E hr ⟨x, dx, C, rest, G, H1, ds, e, nx, ndx, ne, eH, hC, hN, hG, ha, hl, p, hp, q⟩ => ⟨_, hbody cdv A outer s0 H E hr, ?_⟩
  subst e
  have fx : G x = none := hG.free nx
  have sG : Same G H := fun b u z => by
    have z1 := hG _ _ z
    rw [eH, upd_ne (ne_of_none z1 nx), upd_ne (ne_of_none z1 ndx)]
    exact z1
  have hx : H x = some (.ins C dx []) := by rw [eH, upd_same]
  have s1 : Stt K G H H (some (.ref x) :: (rest.map some ++ List.replicate (N.length - 1 - ds.length) none)) (none :: env0 (N.length - 1) ds) [] [] := (Stt.begin sG ha _).un
  have eσ : L2.start N (.ref x :: rest) = some (.ref x) :: (rest.map some ++ List.replicate (N.length - 1 - ds.length) none) := by
    unfold L2.start
    rw [List.length_cons, ha.length, List.map_cons, List.cons_append]
    congr 3
    omega
  rw [eσ]
  obtain ⟨ns', ds'⟩ := p
  refine inits_read (F := G) (H0 := H) (ns := []) (ds := []) (ws := []) (ns' := ns') (ds' := ds') hC fx l _ _ _ _ (fun p hp => hN p.1 (List.mem_map_of_mem hp)) rfl (by simpa using hz) rfl hx s1 hp fun H0' H' ws' ρ' k1 k2 k3 k4 => ?_
  exact q H' (Stt.born k4 k1 (fun b hb hd => by rw [k2 b hb, eH, upd_ne hb, upd_ne hd]) hG nx ndx k3)
end
def sMake (C : Addr) (φ : List D → Option (List Str × List D)) (n : Nat) (fs : DEnv → R (List Val)) : DEnv → R Val := fun ρ => (fs ρ).bind fun ys ρ1 => if ys.length = n then liftO ((φ (fzs ys)).map fun p => .sh (.ins C p.1 p.2)) ρ1 else .bad
def NoX : XK := fun _ _ _ => False
theorem passX {X : Cx} : Passes (L2.CX X.prog X.w) X NoX := fun _ _ _ _ _ _ _ ⟨_, _, _, _, _, _, _, _, _, _, _, _, z⟩ => z.elim
section
variable {X : Cx} {k n : Nat} {C f : Addr} {fd : FuncData} {ps fns : List Str} {φ : List D → Option (List Str × List D)} {x m : Str} {p pos apos : Pos} {e o : Expr} {es : List Expr} {fs : DEnv → R (List Val)} {fo fe : DEnv → R Val}
theorem de_make (M : Mk X.K C f) (cl : Cls X.K C) (hN : ∀ f ∈ fns, NoAttr X.K C f) (F : FnOk X.prog X.w X.K X.mg X.base (L2.CX X.prog X.w) k f fd ps (spInit X.K fns n φ)) (hr : Room (k + 1) X.A) (hg : Gl X x) (hm : X.mg x = some (.ref C)) (hb : Binds X.K fd ps [])
    (ha : DA X (e :: es) fs) (hdb : (x == ("__debug__" : Str)) = false := by decide) (he : starEach (e :: es) X.env = (false, eval e X.env) :: starEach es X.env := by rfl) (hpl : (backTo pos (starEach es X.env)).any (·.1) = false := by rfl) :
    DE X (.Call (.Name x p) (e :: es) [] pos) (sMake C φ n fs) :=
  PE.imp (pe_make M F hr hg hm hb .nil passX ha hdb he hpl) fun σ H Q ⟨F0, H0, ρ, vs, xs, s, q⟩ => by
    refine ⟨F0, H0, ρ, vs, xs, s, (post_bind q).imp (fun ys ρ1 q1 H1 ws hl s1 => ?_) fun _ _ z => z⟩
    intro x dx nx ndx ne
    split at q1
    · rename_i hn
      cases e1 : φ (fzs ys) with
      | none => rw [e1] at q1; exact q1.elim
      | some p =>
        rw [e1] at q1
        obtain ⟨hl2, s2⟩ := s1.fzsP hl
        obtain ⟨F, hF, hA, c⟩ := Stt.call hl2 s2
        exact ⟨x, dx, C, ws, F, H1, fzs ys, by rw [List.append_nil], nx, ndx, ne, rfl, cl, hN, hF, hA, by rw [fzs_map, List.length_map]; exact hn, p, e1, fun H' s3 => ⟨rfl, q1 H' _ (c H' _ _ s3)⟩⟩
    · exact q1.elim

/-! ### methods, by the class -/
def methD (tab : List (Addr × (List D → CR))) (m : Str) : D → Option (List D → CR) := fun d => match d with
  | .ins C ns _ => if m ∈ ns then none else tab.lookup C
  | _ => none
def crM (c : CR) (ρ : DEnv) : R Val := match c with
  | .ret y => .ok y ρ
  | _ => .bad
def sMeth (tab : List (Addr × (List D → CR))) (m : Str) (n : Nat) (fo : DEnv → R Val) (fs : DEnv → R (List Val)) : DEnv → R Val := fun ρ => match fo ρ with
  | .ok x ρ1 => match methD tab m x.fz with
    | some φ => (fs ρ1).bind fun ys ρ2 => if ys.length + 1 = n then crM (φ (x.fz :: fzs ys)) ρ2 else .bad
    | none => .bad
  | _ => .bad
theorem look_mem {α β : Type} [BEq α] [LawfulBEq α] {a : α} {b : β} : ∀ {l : List (α × β)}, l.lookup a = some b → (a, b) ∈ l
  | [], h => by cases h
  | (c, d) :: l, h => by
    unfold List.lookup at h
    by_cases hb : (a == c) = true
    · rw [hb] at h
      have h : some d = some b := h
      cases h
      rw [beq_iff_eq.mp hb]
      exact List.mem_cons_self
    · have hb : (a == c) = false := by simpa using hb
      rw [hb] at h
      exact List.mem_cons_of_mem _ (look_mem h)
theorem de_methT {tab : List (Addr × (List D → CR))} (h : ∀ p ∈ tab, PE X e (tMeth p.1 m (spD X.K n p.2) [] NoX (tE X fo) (tA X fs))) : DE X e (sMeth tab m n fo fs) :=
  ⟨fun pins s σ H Q I ⟨F0, H0, ρ, vs, xs, st, q⟩ => by
    unfold sMeth at q
    cases e0 : fo ρ with
    | exc _ _ => rw [e0] at q; exact q.elim
    | bad => rw [e0] at q; exact q.elim
    | ok x ρ1 =>
      rw [e0] at q
      dsimp only at q
      cases e1 : methD tab m x.fz with
      | none => rw [e1] at q; exact q.elim
      | some φ =>
        rw [e1] at q
        dsimp only at q
        match hx : x.fz, e1 with
        | .ins C ns ds, e1 =>
          have e1 : (if m ∈ ns then none else tab.lookup C) = some φ := e1
          split at e1
          · cases e1
          rename_i hm
          refine (h (C, φ) (look_mem e1)).run pins s σ H Q I ⟨F0, H0, ρ, vs, xs, st, ?_⟩
          rw [e0]
          intro H1 v s1
          have s1 := s1.fz
          rw [hx] at s1 q
          obtain ⟨F, hF, a, t⟩ := s1.oneT
          match v, a, s1 with
          | .ref va, .ins (dx := dx) (vs := us) h1 h2 h3, s1 =>
          refine ⟨va, dx, ns.zip us, rfl, hF _ _ h1, zip_none hm, F0, H0, ρ1, .ref va :: vs, .sh (.ins C ns ds) :: xs, s1, (post_bind q).imp (fun ys ρ2 q2 H2 ws hl s2 => ?_) fun _ _ z => z.more⟩
          split at q2
          · rename_i hn
            have s3 := Stt.turn hl s2
            obtain ⟨hl2, s4⟩ := Stt.fzsP (as := .ref va :: ws) (bs := .sh (.ins C ns ds) :: ys) (by simp [hl]) s3
            obtain ⟨F2, hF2, hA, c⟩ := Stt.call hl2 s4
            refine ⟨F2, _, hF2, by rw [List.append_nil]; exact hA, by rw [fzs_map, List.length_map]; exact hn, ?_⟩
            have q2 : post X F0 H0 vs xs (fun x ρ' => ∀ H' v, Stt X.K F0 H0 H' σ ρ' (v :: vs) (x :: xs) → Q v H') (crM (φ (fzs (.sh (.ins C ns ds) :: ys))) ρ2) := q2
            show crPost X.K F2 H2 Q NoX (φ (fzs (.sh (.ins C ns ds) :: ys)))
            cases e2 : φ (fzs (.sh (.ins C ns ds) :: ys)) with
            | ret y => rw [e2] at q2; exact fun H' v s5 => q2 H' v (c H' [v] [y] s5)
            | exc y => rw [e2] at q2; exact q2.elim
            | bad => rw [e2] at q2; exact q2.elim
          · exact q2.elim⟩
theorem tMeth_nil {C : Addr} {sp : Sp} {σ : St} {H : Hp} {Q : VK} (h : tMeth C m sp [] NoX (tE X fo) (tA X sNil) σ H Q) : tMeth C m sp [] NoX (tE X fo) tNil σ H Q :=
  PE_Q h fun v H1 ⟨a, dx, fs, e1, e2, e3, F0, H0, ρ, vs, xs, s, q⟩ => ⟨a, dx, fs, e1, e2, e3, q H1 [] rfl s⟩

theorem pe_methN {C : Addr} {sp : Sp} (h : PE X e (tMeth C m sp [] NoX (tE X fo) tNil)) : PE X e (tMeth C m sp [] NoX (tE X fo) (tA X sNil)) := PE.imp h fun _ _ _ q => tMeth_nil q
/-! ### isinstance -/
def isiC (tab : List (Addr × Bool)) : D → Option Val := fun d => match d with
  | .ins C _ _ => (tab.lookup C).map fun b => .sh (.bl b)
  | _ => none
structure IsT (K : PySem.W.Frag) (C T : Addr) (b : Bool) : Prop where
  cl : Cls K C
  ha : PySem.W.findIn K (.ref C) "__class__" = some (some (.builtin "object.__class__"))
  hn : PySem.W.specialIn K (.builtin "object.__class__") "__get__" = some (some (.builtin "getset_descriptor.__get__"))
  ht : PySem.W.takesIn K (.builtin "object.__class__") = some true
  hm : PySem.W.mroIn K C (.type "object") = some true
  is : PySem.W.kitOne K (.ref C) (.ref T) = some b
theorem und_isiC {T : Addr} {tab : List (Addr × Bool)} (h : ∀ p ∈ tab, IsT X.K p.1 T p.2) : UnD X (fun x H Q => rIsi X.K [x, .ref T] H Q) (isiC tab) := fun F0 H0 H σ ρ vs xs v d Q s ⟨x, hx, q⟩ => by
  obtain ⟨F, hF, a, t⟩ := s.oneT
  match d, a, hx with
  | .ins C ns ds, .ins (vs := us) h1 h2 h3, hx =>
    obtain ⟨b, e1, rfl⟩ := Option.map_eq_some_iff.mp (show (tab.lookup C).map (fun b => Val.sh (.bl b)) = some x from hx)
    have z := h _ (look_mem e1)
    exact ⟨_, .ref T, .ref C, .ref T, b, rfl, .own _, .base (.ins (hF _ _ h1) z.cl z.ha z.hn z.ht z.hm), z.is, q H _ (s.pop.scal fun F => .bl _)⟩
theorem de_isiC {T : Addr} {tab : List (Addr × Bool)} (h : ∀ p ∈ tab, IsT X.K p.1 T p.2) {y : Str} {q : Pos} (hg : Gl X "isinstance") (hm : X.mg "isinstance" = none) (he : DE X e fe) (hy : PE X (.Name y q) (tC (.ref T)))
    (h1 : starEach [e, .Name y q] X.env = (false, eval e X.env) :: starEach [.Name y q] X.env := by rfl) (h2 : starEach [.Name y q] X.env = (false, eval (.Name y q) X.env) :: starEach [] X.env := by rfl) (h3 : (backTo pos (starEach [.Name y q] X.env)).any (·.1) = false := by rfl) :
    DE X (.Call (.Name "isinstance" p) [e, .Name y q] [] pos) (sUn (isiC tab) fe) :=
  PE.imp (pe_callB call_isi hg hm (by decide +kernel) (pa_cons he (pa_cons hy pa_nil h2) h1) (he := h1) (hpl := h3)) fun σ H Q h' => tE_un (und_isiC h) h'
end
/-! two classes are two: their methods' names differ -/
theorem qual_ne {o1 o2 : Value} {d1 d2 : Option Addr} {s1 s2 : Array (Option Value)} {g1 g2 : FuncData} (hq : g1.qualname ≠ g2.qualname) (h : (some ⟨o1, d1, .func g1, s1⟩ : Option Obj) = some ⟨o2, d2, .func g2, s2⟩) : False := by
  have e := Option.some.inj h
  injection e with _ _ e3 _
  injection e3 with e4
  exact hq (congrArg FuncData.qualname e4)
end DL

/-! DLn: max of three, a list emptied. -/
namespace DL
open PySem PySem.Spec L2
def max3D : D → D → D → Option Val := fun a b c => match a, b, c with
  | .int i, .int j, .int k => some (.sh (.int (max i (max j k))))
  | _, _, _ => none
def g3 (g : D → D → D → Option Val) : List D → Option Val := fun l => match l with
  | [a, b, c] => g a b c
  | _ => none
section
variable {X : Cx} {p pos : Pos} {e e2 e3 : Expr} {fs : DEnv → R (List Val)}
theorem nuMax_int (i j k : Int) : nuMax3 (.int i) (.int j) (.int k) = some (.int (max i (max j k))) := by
  have e1 : ∀ a b : Int, nuMax2 (.int a) (.int b) = some (if decide (a < b) = true then (.int b : V) else .int a) := fun _ _ => rfl
  unfold nuMax3
  rw [e1]
  by_cases h : i < j
  · rw [if_pos (decide_eq_true h)]
    show nuMax2 (.int j) (.int k) = _
    rw [e1]
    by_cases h2 : j < k
    · rw [if_pos (decide_eq_true h2)]; congr 2; omega
    · rw [if_neg (by simpa using h2)]; congr 2; omega
  · rw [if_neg (by simpa using h)]
    show nuMax2 (.int i) (.int k) = _
    rw [e1]
    by_cases h2 : i < k
    · rw [if_pos (decide_eq_true h2)]; congr 2; omega
    · rw [if_neg (by simpa using h2)]; congr 2; omega
theorem max3_some {ds : List D} {x : Val} (h : g3 max3D ds = some x) : ∃ i j k, ds = [.int i, .int j, .int k] ∧ x = .sh (.int (max i (max j k))) := by
  unfold g3 at h
  split at h
  · unfold max3D at h
    split at h
    · exact ⟨_, _, _, rfl, (Option.some.inj h).symm⟩
    · cases h
  · cases h
theorem calld_max3 : CallD X (rNuC3 nuMax3) (g3 max3D) := fun F0 H0 H σ ρ vs xs ws ds Q hl s ⟨x, hx, q⟩ => by
  obtain ⟨i, j, k, rfl, rfl⟩ := max3_some hx
  match ws, hl, s with
  | [u, v, w], _, s =>
    obtain ⟨F, hF, hA, t⟩ := Stt.reads (as := [u, v, w]) (ds := [.int i, .int j, .int k]) rfl s
    cases hA with
    | cons a b =>
      cases b with
      | cons b c =>
        cases c with
        | cons c _ =>
          cases a
          cases b
          cases c
          have s : Stt X.K F0 H0 H σ ρ (.int i :: .int j :: .int k :: vs) (.sh (.int i) :: .sh (.int j) :: .sh (.int k) :: xs) := s
          exact ⟨.int i, .int j, .int k, _, rfl, nuMax_int i j k, q H _ (s.pop.pop.pop.scal fun F => .int _)⟩
theorem de_max3 (hc : X.calm = true) (hg : Gl X "max") (hm : X.mg "max" = none) (ha : DA X [e, e2, e3] fs) (he : starEach [e, e2, e3] X.env = (false, eval e X.env) :: starEach [e2, e3] X.env := by rfl) (hpl : (backTo pos (starEach [e2, e3] X.env)).any (·.1) = false := by rfl) : DE X (.Call (.Name "max" p) [e, e2, e3] [] pos) (sCB (g3 max3D) fs) := de_callB (call_max3Nu hc) calld_max3 hg hm (by decide +kernel) ha (he := he) (hpl := hpl)
end
section
variable {X : Cx} {p pos : Pos} {e e2 e3 : Expr} {fs : DEnv → R (List Val)}
def min3D : D → D → D → Option Val := fun a b c => match a, b, c with
  | .int i, .int j, .int k => some (.sh (.int (min i (min j k))))
  | _, _, _ => none
theorem nuMin_int (i j k : Int) : nuMin3 (.int i) (.int j) (.int k) = some (.int (min i (min j k))) := by
  have e1 : ∀ a b : Int, nuMin2 (.int a) (.int b) = some (if decide (b < a) = true then (.int b : V) else .int a) := fun _ _ => rfl
  unfold nuMin3
  rw [e1]
  by_cases h : j < i
  · rw [if_pos (decide_eq_true h)]
    show nuMin2 (.int j) (.int k) = _
    rw [e1]
    by_cases h2 : k < j
    · rw [if_pos (decide_eq_true h2)]; congr 2; omega
    · rw [if_neg (by simpa using h2)]; congr 2; omega
  · rw [if_neg (by simpa using h)]
    show nuMin2 (.int i) (.int k) = _
    rw [e1]
    by_cases h2 : k < i
    · rw [if_pos (decide_eq_true h2)]; congr 2; omega
    · rw [if_neg (by simpa using h2)]; congr 2; omega
theorem min3_some {ds : List D} {x : Val} (h : g3 min3D ds = some x) : ∃ i j k, ds = [.int i, .int j, .int k] ∧ x = .sh (.int (min i (min j k))) := by
  unfold g3 at h
  split at h
  · unfold min3D at h
    split at h
    · exact ⟨_, _, _, rfl, (Option.some.inj h).symm⟩
    · cases h
  · cases h
theorem calld_min3 : CallD X (rNuC3 nuMin3) (g3 min3D) := fun F0 H0 H σ ρ vs xs ws ds Q hl s ⟨x, hx, q⟩ => by
  obtain ⟨i, j, k, rfl, rfl⟩ := min3_some hx
  match ws, hl, s with
  | [u, v, w], _, s =>
    obtain ⟨F, hF, hA, t⟩ := Stt.reads (as := [u, v, w]) (ds := [.int i, .int j, .int k]) rfl s
    cases hA with
    | cons a b =>
      cases b with
      | cons b c =>
        cases c with
        | cons c _ =>
          cases a
          cases b
          cases c
          have s : Stt X.K F0 H0 H σ ρ (.int i :: .int j :: .int k :: vs) (.sh (.int i) :: .sh (.int j) :: .sh (.int k) :: xs) := s
          exact ⟨.int i, .int j, .int k, _, rfl, nuMin_int i j k, q H _ (s.pop.pop.pop.scal fun F => .int _)⟩
theorem de_min3 (hc : X.calm = true) (hg : Gl X "min") (hm : X.mg "min" = none) (ha : DA X [e, e2, e3] fs) (he : starEach [e, e2, e3] X.env = (false, eval e X.env) :: starEach [e2, e3] X.env := by rfl) (hpl : (backTo pos (starEach [e2, e3] X.env)).any (·.1) = false := by rfl) : DE X (.Call (.Name "min" p) [e, e2, e3] [] pos) (sCB (g3 min3D) fs) := de_callB (call_min3Nu hc) calld_min3 hg hm (by decide +kernel) ha (he := he) (hpl := hpl)
@[simp] theorem g3min_int {i j k : Int} : g3 min3D [.int i, .int j, .int k] = some (.sh (.int (min i (min j k)))) := id rfl
end
/-! x.clear() -/
def rLClear : V → List V → Hp → VK → Prop := fun x vs H Q => ∃ l xs, x = .ref l ∧ vs = [] ∧ H l = some (.lst xs) ∧ Q .non (upd H l (.lst []))
section
variable {X : Cx}
theorem mt_lclear : MtR X "list.clear" rLClear := by
  intro pins s σ H x vs v us Q I rx rv h
  obtain ⟨l, xs, ex, ev, hH, q⟩ := h
  subst ex
  subst ev
  obtain rfl : v = Value.ref l := rx
  have hus := rv.zero
  subst hus
  obtain ⟨z, its, n, r, hl, e⟩ := I.lstM hH
  refine call_meets F.slot_list_clear ⟨_, e, rfl⟩ F.entry_list_clear (F.args_list_clear_1 _) (PySem.AutoSeq1.list_clear_list_0 l its.toArray n (by rw [List.size_toArray]; omega)) ⟨e, ?_⟩
  exact ⟨.non, _, I.lset (its' := []) hH e (by simp) .nil (by simp), rfl, q⟩
def sClear (i : Nat) : DEnv → Fl := fun ρ => match getV ρ[i]? with
  | some (.lst _) => .nx (ρ.set i (some (.lst [])))
  | _ => .bad
theorem ds_clear {i : Nat} {x : Str} {q p pos apos : Pos} (hb : PE X (.Call (.Attribute (.Name x q) "clear" apos) [] [] p) (tBM0 X.K "list" rLClear (tVar i)))
    (hs : swapsWith (.Call (.Attribute (.Name x q) "clear" apos) [] [] p) none pos.line X.env = pure false := by rfl) : DS X (.Expr (.Call (.Attribute (.Name x q) "clear" apos) [] [] p) pos) (sClear i) :=
  PS.imp (ps_expr hb hs) fun D σ H ⟨F0, H0, ρ, vs, xs, s, q⟩ => by
    unfold sClear at q
    match e0 : getV ρ[i]?, q with
    | some (.lst xs0), q =>
      obtain ⟨p1, ws, c1, c2, c3, c4⟩ := Stt.edit (as := []) (bs := []) rfl s (getV_some e0)
      exact ⟨.ref p1, c1, .inl ⟨rfl, ws, .of c2⟩, p1, ws, rfl, rfl, c2, q σ _ (c4 [] [] [] [] fun F H f hO => ⟨[], [], .nil, .nil, .nil f⟩)⟩
end
end DL

/-! DLo: a list of one's own, told by a path of indices from a name, is changed. -/
namespace DL
open PySem PySem.Spec L2
/-! paths in the heap -/
def Pth (H : Hp) : List Int → V → V → Prop
  | [], v, w => v = w
  | j :: js, v, w => ∃ p us u, v = .ref p ∧ (H p = some (.lst us) ∨ H p = some (.tup us)) ∧ atI us j = some u ∧ Pth H js u w
theorem Pth.det {H : Hp} : ∀ {js : List Int} {v w w' : V}, Pth H js v w → Pth H js v w' → w = w'
  | [], _, _, _, h, h' => Eq.trans (Eq.symm h) h'
  | j :: js, _, _, _, ⟨p, us, u, a1, a2, a3, a4⟩, ⟨p', us', u', b1, b2, b3, b4⟩ => by
    subst a1
    cases b1
    have e : us = us' := by
      rcases a2 with a2 | a2 <;> rcases b2 with b2 | b2 <;> rw [a2] at b2 <;> cases b2 <;> rfl
    subst e
    rw [a3] at b3
    cases b3
    exact a4.det b4
theorem Pth.mono {H H' : Hp} (e : Same H H') : ∀ {js : List Int} {v w : V}, Pth H js v w → Pth H' js v w
  | [], _, _, h => h
  | j :: js, _, _, ⟨p, us, u, a1, a2, a3, a4⟩ => ⟨p, us, u, a1, a2.imp (e _ _) (e _ _), a3, a4.mono e⟩
def tIxs (K : PySem.W.Frag) (t : TE) : List Int → TE
  | [] => t
  | j :: js => tIxs K (tOp (rIx K) t (tC (.int j))) js
theorem tIxs_of {K : PySem.W.Frag} {σ : L2.St} {H : Hp} : ∀ (js : List Int) (t : TE) (v w : V) (Q : VK), (∀ Q' : VK, Q' v H → t σ H Q') → Pth H js v w → Q w H → tIxs K t js σ H Q
  | [], t, v, w, Q, ht, h, q => by
    cases h
    exact ht Q q
  | j :: js, t, v, w, Q, ht, ⟨p, us, u, a1, a2, a3, a4⟩, q => by
    refine tIxs_of js _ u w Q (fun Q' q' => ht _ ?_) a4 q
    show rIx K v (.int j) H Q'
    rcases a2 with a2 | a2
    · exact .inl ⟨p, us, j, u, a1, rfl, .of a2, a3, q'⟩
    · exact .inr (.inl ⟨p, us, j, u, a1, rfl, .of a2, a3, q'⟩)
/-! .. in what is owned -/
def editA (f : List Val → Option (List Val)) : List Int → Val → Option Val
  | [], .lst zs => (f zs).map .lst
  | j :: js, .lst ys => (ixN ys.length j).bind fun k => (ys[k]?).bind fun y => (editA f js y).map fun z => .lst (ys.set k z)
  | j :: js, .tup ys => (ixN ys.length j).bind fun k => (ys[k]?).bind fun y => (editA f js y).map fun z => .tup (ys.set k z)
  | _, _ => none
section
variable {K : PySem.W.Frag} {F F0 H0 H : Hp} {σ : L2.St} {ρ : DEnv}
theorem own_at : ∀ (xs : List Val) (vs : List V) (f : List Addr) (k : Nat) (y : Val), Owns K F H vs xs f → f.Nodup → xs[k]? = some y → ∃ w g, vs[k]? = some w ∧ Own K F H w y g ∧ (∀ b ∈ g, b ∈ f) ∧ g.Nodup ∧
    ∀ q ∈ g, ∀ o y' g' e, Own K F (upd H q o) w y' g' → Sb g' (g ++ e) → ∃ f', Owns K F (upd H q o) vs (xs.set k y') f' ∧ Sb f' (f ++ e)
  | x :: xs, v :: vs, _, 0, y, .cons (f := f1) (g := f2) a t, nd, e => by
    have e : x = y := by simpa using e
    subst e
    obtain ⟨n1, n2, n3⟩ := List.nodup_append.mp nd
    refine ⟨v, f1, rfl, a, fun b hb => List.mem_append_left _ hb, n1, fun q hq o y' g' e a' s => ?_⟩
    have t' : Owns K F (upd H q o) vs xs f2 := Owns.mono (Same.refl F) _ _ _ t fun b hb => ⟨(Owns.no _ _ _ t b hb).1, upd_ne (fun z => n3 q hq b hb z.symm)⟩
    refine ⟨g' ++ f2, .cons a' t', (s.app (.refl f2)).trans (Sb.of_perm ?_)⟩
    rw [List.append_assoc, List.append_assoc]
    exact List.Perm.append_left _ List.perm_append_comm
  | x :: xs, v :: vs, _, k + 1, y, .cons (f := f1) (g := f2) a t, nd, e => by
    obtain ⟨n1, n2, n3⟩ := List.nodup_append.mp nd
    obtain ⟨w, g, h1, h2, h3, h4, h5⟩ := own_at xs vs f2 k y t n2 (by simpa using e)
    refine ⟨w, g, by simpa using h1, h2, fun b hb => List.mem_append_right _ (h3 b hb), h4, fun q hq o y' g' e a' s => ?_⟩
    obtain ⟨f', c1, c2⟩ := h5 q hq o y' g' e a' s
    refine ⟨f1 ++ f', .cons (Own.mono (Same.refl F) _ _ _ a fun b hb => ⟨(Own.no _ _ _ a b hb).1, upd_ne (n3 b hb q (h3 q hq))⟩) c1, ?_⟩
    rw [List.append_assoc]
    exact (Sb.refl f1).app c2
theorem own_path {fn : List Val → Option (List Val)} : ∀ (js : List Int) (x : Val) (v : V) (f : List Addr) (x' : Val), Own K F H v x f → f.Nodup → editA fn js x = some x' →
    ∃ q ws zs zs', Pth H js v (.ref q) ∧ H q = some (.lst ws) ∧ ws.length = zs.length ∧ fn zs = some zs' ∧ q ∈ f ∧ F q = none ∧ ∃ g, Owns K F H ws zs g ∧ (∀ b ∈ g, b ∈ f ∧ b ≠ q) ∧
      ∀ ws' g' e, Owns K F (upd H q (.lst ws')) ws' zs' g' → Sb g' (g ++ e) → ∃ f', Own K F (upd H q (.lst ws')) v x' f' ∧ Sb f' (f ++ e)
  | [], .lst zs, _, _, x', .lst (p := p) (vs := ws) (f := g) k1 k2 k3, nd, e => by
    obtain ⟨zs', e1, e2⟩ := Option.map_eq_some_iff.mp e
    subst e2
    have np := (List.nodup_cons.mp nd).1
    refine ⟨p, ws, zs, zs', rfl, k2, Owns.length k3, e1, List.mem_cons_self, k1, g, k3, fun b hb => ⟨List.mem_cons_of_mem _ hb, fun z => by subst z; exact np hb⟩, fun ws' g' e a s => ?_⟩
    exact ⟨p :: g', .lst k1 upd_same a, (Sb.refl [p]).app s⟩
  | j :: js, .lst ys, _, _, x', .lst (p := p) (vs := us) (f := f3) k1 k2 k3, nd, e => by
    have e : ((ixN ys.length j).bind fun k => (ys[k]?).bind fun y => (editA fn js y).map fun z => Val.lst (ys.set k z)) = some x' := e
    obtain ⟨k, e1, e⟩ := Option.bind_eq_some_iff.mp e
    obtain ⟨y, e2, e⟩ := Option.bind_eq_some_iff.mp e
    obtain ⟨y', e3, e4⟩ := Option.map_eq_some_iff.mp e
    subst e4
    obtain ⟨np, nd3⟩ := List.nodup_cons.mp nd
    obtain ⟨w, g, h1, h2, h3, h4, h5⟩ := own_at ys us f3 k y k3 nd3 e2
    obtain ⟨q, ws, zs, zs', c1, c2, c3, c4, c5, c6, g2, c7, c8, c9⟩ := own_path js y w g y' h2 h4 e3
    have qp : p ≠ q := fun z => np (z ▸ h3 q c5)
    refine ⟨q, ws, zs, zs', ⟨p, us, w, rfl, .inl k2, by unfold atI; rw [Owns.length k3, e1]; exact h1, c1⟩, c2, c3, c4, List.mem_cons_of_mem _ (h3 q c5), c6, g2, c7, fun b hb => ⟨List.mem_cons_of_mem _ (h3 b (c8 b hb).1), (c8 b hb).2⟩, fun ws' g' e a s => ?_⟩
    obtain ⟨f', d1, d2⟩ := c9 ws' g' e a s
    obtain ⟨f4, d3, d4⟩ := h5 q c5 _ y' f' e d1 d2
    exact ⟨p :: f4, .lst k1 (by rw [upd_ne qp]; exact k2) d3, (Sb.refl [p]).app d4⟩
  | j :: js, .tup ys, _, _, x', .tup (p := p) (vs := us) (f := f3) k1 k2 k3, nd, e => by
    have e : ((ixN ys.length j).bind fun k => (ys[k]?).bind fun y => (editA fn js y).map fun z => Val.tup (ys.set k z)) = some x' := e
    obtain ⟨k, e1, e⟩ := Option.bind_eq_some_iff.mp e
    obtain ⟨y, e2, e⟩ := Option.bind_eq_some_iff.mp e
    obtain ⟨y', e3, e4⟩ := Option.map_eq_some_iff.mp e
    subst e4
    obtain ⟨np, nd3⟩ := List.nodup_cons.mp nd
    obtain ⟨w, g, h1, h2, h3, h4, h5⟩ := own_at ys us f3 k y k3 nd3 e2
    obtain ⟨q, ws, zs, zs', c1, c2, c3, c4, c5, c6, g2, c7, c8, c9⟩ := own_path js y w g y' h2 h4 e3
    have qp : p ≠ q := fun z => np (z ▸ h3 q c5)
    refine ⟨q, ws, zs, zs', ⟨p, us, w, rfl, .inr k2, by unfold atI; rw [Owns.length k3, e1]; exact h1, c1⟩, c2, c3, c4, List.mem_cons_of_mem _ (h3 q c5), c6, g2, c7, fun b hb => ⟨List.mem_cons_of_mem _ (h3 b (c8 b hb).1), (c8 b hb).2⟩, fun ws' g' e a s => ?_⟩
    obtain ⟨f', d1, d2⟩ := c9 ws' g' e a s
    obtain ⟨f4, d3, d4⟩ := h5 q c5 _ y' f' e d1 d2
    exact ⟨p :: f4, .tup k1 (by rw [upd_ne qp]; exact k2) d3, (Sb.refl [p]).app d4⟩
  | [], .sh _, _, _, _, _, _, e => by cases e
  | [], .tup _, _, _, _, _, _, e => by cases e
  | _ :: _, .sh _, _, _, _, _, _, e => by cases e
def appE (y : Val) (zs : List Val) : Option (List Val) := if zs.length < 10000000 then some (zs ++ [y]) else none
def clrE (zs : List Val) : Option (List Val) := some []
/-- appended: what lies below -/
theorem Stt.path_app {js : List Int} {v w : V} {x y x' : Val} {vs : List V} {xs : List Val} (h : Stt K F0 H0 H σ ρ (v :: w :: vs) (x :: y :: xs)) (e : editA (appE y) js x = some x') :
    ∃ q ws, Pth H js v (.ref q) ∧ H q = some (.lst ws) ∧ ws.length < 10000000 ∧ Stt K F0 H0 (upd H q (.lst (ws ++ [w]))) σ ρ (v :: vs) (x' :: xs) := by
  obtain ⟨F, f, g, h1, h2, h3, h4, h5, h6, h7, h8⟩ := h
  cases h6 with
  | cons a t0 =>
    rename_i g1 g0
    cases t0 with
    | cons aw t =>
    rename_i gw g2
    have nd2 := (List.nodup_append.mp h7)
    have nd3 := List.nodup_append.mp nd2.1
    obtain ⟨q, ws, zs, zs', c1, c2, c3, c4, c5, c6, g3, c7, c8, c9⟩ := own_path js x v g1 x' a nd3.1 e
    unfold appE at c4
    split at c4
    case isFalse => cases c4
    rename_i hlt
    cases c4
    refine ⟨q, ws, c1, c2, by rw [c3]; exact hlt, ?_⟩
    have q0 : H0 q = none := h8 q (List.mem_append_left _ (List.mem_append_left _ c5))
    have disw : ∀ b ∈ gw, b ≠ q := fun b hb z => nd3.2.2 q c5 b (List.mem_append_left _ hb) z.symm
    have dis2 : ∀ b ∈ g2, b ≠ q := fun b hb z => nd3.2.2 q c5 b (List.mem_append_right _ hb) z.symm
    have dis3 : ∀ b ∈ f, b ≠ q := fun b hb z => nd2.2.2 q (List.mem_append_left _ c5) b hb z.symm
    have aw' : Own K F (upd H q (.lst (ws ++ [w]))) w y gw := Own.mono (Same.refl F) _ _ _ aw fun b hb => ⟨(Own.no _ _ _ aw b hb).1, upd_ne (disw b hb)⟩
    have t' : Owns K F (upd H q (.lst (ws ++ [w]))) vs xs g2 := Owns.mono (Same.refl F) _ _ _ t fun b hb => ⟨(Owns.no _ _ _ t b hb).1, upd_ne (dis2 b hb)⟩
    have z' : Owns K F (upd H q (.lst (ws ++ [w]))) ws zs g3 := Owns.mono (Same.refl F) _ _ _ c7 fun b hb => ⟨(Owns.no _ _ _ c7 b hb).1, upd_ne (c8 b hb).2⟩
    have h5' : Sl K F (upd H q (.lst (ws ++ [w]))) σ ρ f := Sl.mono (Same.refl F) h5 fun b hb => ⟨(Sl.no h5 b hb).1, upd_ne (dis3 b hb)⟩
    obtain ⟨g4, d1, d2, d3⟩ := z'.append (Owns.cons aw' .nil)
    rw [List.append_nil] at d2
    obtain ⟨f', d4, d5⟩ := c9 (ws ++ [w]) g4 gw d1 d2
    have s : Sb ((f' ++ g2) ++ f) ((g1 ++ (gw ++ g2)) ++ f) := Sb.app (by rw [← List.append_assoc]; exact d5.app (.refl g2)) (.refl f)
    exact ⟨F, f, f' ++ g2, h1, fun b u e => by rw [upd_ne (fun z => by subst z; rw [q0] at e; cases e)]; exact h2 _ _ e, fun b u e => by rw [upd_ne (fun z => by subst z; rw [c6] at e; cases e)]; exact h3 _ _ e, h4, h5',
      Owns.cons d4 t', s.2 h7, fun b hb => h8 b (s.1 b hb)⟩
/-- emptied -/
theorem Stt.path_clr {js : List Int} {v : V} {x x' : Val} {vs : List V} {xs : List Val} (h : Stt K F0 H0 H σ ρ (v :: vs) (x :: xs)) (e : editA clrE js x = some x') :
    ∃ q ws, Pth H js v (.ref q) ∧ H q = some (.lst ws) ∧ Stt K F0 H0 (upd H q (.lst [])) σ ρ (v :: vs) (x' :: xs) := by
  obtain ⟨F, f, g, h1, h2, h3, h4, h5, h6, h7, h8⟩ := h
  cases h6 with
  | cons a t =>
    rename_i g1 g2
    have nd2 := (List.nodup_append.mp h7)
    have nd3 := List.nodup_append.mp nd2.1
    obtain ⟨q, ws, zs, zs', c1, c2, c3, c4, c5, c6, g3, c7, c8, c9⟩ := own_path js x v g1 x' a nd3.1 e
    cases c4
    refine ⟨q, ws, c1, c2, ?_⟩
    have q0 : H0 q = none := h8 q (List.mem_append_left _ (List.mem_append_left _ c5))
    have dis2 : ∀ b ∈ g2, b ≠ q := fun b hb z => nd3.2.2 q c5 b hb z.symm
    have dis3 : ∀ b ∈ f, b ≠ q := fun b hb z => nd2.2.2 q (List.mem_append_left _ c5) b hb z.symm
    have t' : Owns K F (upd H q (.lst [])) vs xs g2 := Owns.mono (Same.refl F) _ _ _ t fun b hb => ⟨(Owns.no _ _ _ t b hb).1, upd_ne (dis2 b hb)⟩
    have h5' : Sl K F (upd H q (.lst [])) σ ρ f := Sl.mono (Same.refl F) h5 fun b hb => ⟨(Sl.no h5 b hb).1, upd_ne (dis3 b hb)⟩
    obtain ⟨f', d4, d5⟩ := c9 [] [] [] .nil (Sb.nil _)
    rw [List.append_nil] at d5
    have s : Sb ((f' ++ g2) ++ f) ((g1 ++ g2) ++ f) := (d5.app (.refl g2)).app (.refl f)
    exact ⟨F, f, f' ++ g2, h1, fun b u e => by rw [upd_ne (fun z => by subst z; rw [q0] at e; cases e)]; exact h2 _ _ e, fun b u e => by rw [upd_ne (fun z => by subst z; rw [c6] at e; cases e)]; exact h3 _ _ e, h4, h5',
      Owns.cons d4 t', s.2 h7, fun b hb => h8 b (s.1 b hb)⟩
/-- where a path leads, as it stands -/
theorem Stt.path_at {fn : List Val → Option (List Val)} {js : List Int} {v : V} {x x' : Val} {vs : List V} {xs : List Val} (h : Stt K F0 H0 H σ ρ (v :: vs) (x :: xs)) (e : editA fn js x = some x') : ∃ q ws, Pth H js v (.ref q) ∧ H q = some (.lst ws) := by
  obtain ⟨F, f, g, h1, h2, h3, h4, h5, h6, h7, h8⟩ := h
  cases h6 with
  | cons a t =>
    rename_i g1 g2
    have nd2 := (List.nodup_append.mp h7)
    have nd3 := List.nodup_append.mp nd2.1
    obtain ⟨q, ws, zs, zs', c1, c2, _⟩ := own_path js x v g1 x' a nd3.1 e
    exact ⟨q, ws, c1, c2⟩
end
/-! the statements -/
def sClrP (i : Nat) (js : List Int) : DEnv → Fl := fun ρ => match getV ρ[i]? with
  | none => .bad
  | some x => match editA clrE js x with
    | some x' => .nx (ρ.set i (some x'))
    | none => .bad
def sAppP (i : Nat) (js : List Int) (fy : DEnv → Option Val) : DEnv → Fl := fun ρ => match getV ρ[i]? with
  | none => .bad
  | some x => match fy (ρ.set i none) with
    | none => .bad
    | some y => match editA (appE y) js x with
      | some x' => .nx (ρ.set i (some x'))
      | none => .bad
section
variable {X : Cx} {i : Nat} {e rc : Expr} {js : List Int} {pos p apos : Pos}
theorem ds_clrP (hb : PE X (.Call (.Attribute rc "clear" apos) [] [] p) (tBM0 X.K "list" rLClear (tIxs X.K (tVar i) js)))
    (hs : swapsWith (.Call (.Attribute rc "clear" apos) [] [] p) none pos.line X.env = pure false := by rfl) :
    DS X (.Expr (.Call (.Attribute rc "clear" apos) [] [] p) pos) (sClrP i js) :=
  PS.imp (ps_expr hb hs) fun D σ H ⟨F0, H0, ρ, vs, xs, s, q⟩ => by
    unfold sClrP at q
    cases e0 : getV ρ[i]? with
    | none => rw [e0] at q; exact q.elim
    | some x =>
      rw [e0] at q
      have q : fpost X F0 H0 vs xs D (match editA clrE js x with
        | some x' => Fl.nx (ρ.set i (some x'))
        | none => .bad) := q
      cases e1 : editA clrE js x with
      | none => rw [e1] at q; exact q.elim
      | some x' =>
        rw [e1] at q
        have hlen : i < ρ.length := (List.getElem?_eq_some_iff.mp (getV_some e0)).1
        obtain ⟨v, k, s2⟩ := s.take (getV_some e0)
        obtain ⟨qq, ws, c1, c2, s3⟩ := s2.path_clr e1
        refine tIxs_of js _ v (.ref qq) _ (fun Q' q' => ⟨v, k, q'⟩) c1 ⟨.inl ⟨rfl, ws, .of c2⟩, qq, ws, rfl, rfl, c2, q σ _ ?_⟩
        have s5 := s3.store (i := i) (by simpa using hlen)
        rw [List.set_set, set_same k] at s5
        exact s5
def ArgK (X : Cx) (ta : TA) (fy : DEnv → Option Val) : Prop := ∀ {F0 H0 H : Hp} {σ : L2.St} {ρ : DEnv} {vs : List V} {xs : List Val} {y : Val}, Stt X.K F0 H0 H σ ρ vs xs → fy ρ = some y →
  ∀ Q : List V → Hp → Prop, (∀ w H', Same H H' → Stt X.K F0 H0 H' σ ρ (w :: vs) (y :: xs) → Q [w] H') → ta σ H Q
theorem ds_appP {ta : TA} {fy : DEnv → Option Val} (hb : PE X (.Call (.Attribute rc "append" apos) [e] [] p) (tBM X.K "list" rAppend (tIxs X.K (tVar i) js) ta)) (hA : ArgK X ta fy)
    (hs : swapsWith (.Call (.Attribute rc "append" apos) [e] [] p) none pos.line X.env = pure false := by rfl) :
    DS X (.Expr (.Call (.Attribute rc "append" apos) [e] [] p) pos) (sAppP i js fy) :=
  PS.imp (ps_expr hb hs) fun D σ H ⟨F0, H0, ρ, vs, xs, s, q⟩ => by
    unfold sAppP at q
    cases e0 : getV ρ[i]? with
    | none => rw [e0] at q; exact q.elim
    | some x =>
      rw [e0] at q
      have q : fpost X F0 H0 vs xs D (match fy (ρ.set i none) with
        | none => Fl.bad
        | some y => match editA (appE y) js x with
          | some x' => .nx (ρ.set i (some x'))
          | none => .bad) := q
      cases e1 : fy (ρ.set i none) with
      | none => rw [e1] at q; exact q.elim
      | some y =>
        rw [e1] at q
        have q : fpost X F0 H0 vs xs D (match editA (appE y) js x with
          | some x' => Fl.nx (ρ.set i (some x'))
          | none => .bad) := q
        cases e2 : editA (appE y) js x with
        | none => rw [e2] at q; exact q.elim
        | some x' =>
          rw [e2] at q
          have hlen : i < ρ.length := (List.getElem?_eq_some_iff.mp (getV_some e0)).1
          obtain ⟨v, k, s2⟩ := s.take (getV_some e0)
          obtain ⟨qq, ws, c1, c2⟩ := s2.path_at e2
          refine tIxs_of js _ v (.ref qq) _ (fun Q' q' => ⟨v, k, q'⟩) c1 ⟨.inl ⟨rfl, ws, .of c2⟩, hA s2 e1 _ fun w H' hs' s3 => ?_⟩
          have s4 : Stt X.K F0 H0 H' σ (ρ.set i none) (v :: w :: vs) (x :: y :: xs) := Stt.turn (as := [w]) (bs := [y]) rfl s3
          obtain ⟨q2, ws2, d1, d2, d3, s5⟩ := s4.path_app e2
          have eq : V.ref qq = .ref q2 := (c1.mono hs').det d1
          cases eq
          refine ⟨qq, ws2, w, rfl, rfl, d2, by rw [sizeLine_eq]; omega, q σ _ ?_⟩
          have s6 := s5.store (i := i) (by simpa using hlen)
          rw [List.set_set, set_same k] at s6
          exact s6
/-! what is appended -/
def yC (d : D) : DEnv → Option Val := fun _ => some (.sh d)
theorem ak_c {v : V} {d : D} (hd : ∀ F, At X.K F v d) : ArgK X (tCons (tC v) tNil) (yC d) := fun s e Q q => by
  cases e
  exact q _ _ (Same.refl _) (s.scal hd)
def yNl : DEnv → Option Val := fun _ => some (.lst [])
theorem ak_nl : ArgK X (tCons (tLst tNil) tNil) yNl := fun {F0 H0 H σ ρ vs xs y} s e Q q => by
  cases e
  refine ⟨by show 0 ≤ sizeLine; omega, fun T nT => q (.ref T) _ (fun b o e => ?_) (Stt.newLst (as := []) (bs := []) rfl s nT)⟩
  rw [upd_ne (fun z => by subst z; rw [nT] at e; cases e)]
  exact e
def shV1 : Option Val → Option Val
  | some (.sh d) => some (.sh d)
  | _ => none
def yIx (j : Nat) (n : Int) : DEnv → Option Val := fun ρ => match getV ρ[j]? with
  | some (.sh (.lst ds)) => ((ixN ds.length n).bind fun k => ds[k]?).map .sh
  | some (.lst ys) => (ixN ys.length n).bind fun k => shV1 ys[k]?
  | _ => none
theorem ak_ix {j : Nat} {n : Int} : ArgK X (tCons (tOp (rIx X.K) (tVar j) (tC (.int n))) tNil) (yIx j n) := fun {F0 H0 H σ ρ vs xs y} s e Q q => by
  unfold yIx at e
  match e0 : getV ρ[j]?, e with
  | some (.sh (.lst ds)), e =>
    obtain ⟨d, e1, e2⟩ := Option.map_eq_some_iff.mp e
    subst e2
    obtain ⟨k, e3, e4⟩ := Option.bind_eq_some_iff.mp e1
    obtain ⟨v, k1, F, f, k2, k3, k4⟩ := s.peek (getV_some e0)
    cases k3 with
    | sh a =>
      cases a with
      | lst a1 a2 =>
        rename_i a us
        obtain ⟨u, b1, b2⟩ := Ats.get a2 e4
        refine ⟨_, k1, .inl ⟨a, us, n, u, rfl, rfl, .of (k2 _ _ a1), ?_, q u _ (Same.refl _) (k4 [u] [d] (.cons b2 .nil))⟩⟩
        unfold atI
        rw [Ats.length a2, e3]
        exact b1
  | some (.lst ys), e =>
    have e : ((ixN ys.length n).bind fun k => shV1 ys[k]?) = some y := e
    obtain ⟨k, e3, e4⟩ := Option.bind_eq_some_iff.mp e
    match e5 : ys[k]?, e4 with
    | some (.sh d), e4 =>
      cases e4
      obtain ⟨v, k1, F, f, k2, k3, k4⟩ := s.peek (getV_some e0)
      cases k3 with
      | lst a0 a1 a2 =>
        rename_i a us g
        obtain ⟨u, b1, b2⟩ := owns_at a2 e5
        refine ⟨_, k1, .inl ⟨a, us, n, u, rfl, rfl, .of a1, ?_, q u _ (Same.refl _) (k4 [u] [d] (.cons b2 .nil))⟩⟩
        unfold atI
        rw [Owns.length a2, e3]
        exact b1
/-- a number below nought, as it is written -/
theorem pe_nint {e : Expr} {n : Int} {pos : Pos} (h : PE X e (tC (.int n))) : PE X (.UnaryOp .USub e pos) (tC (.int (-n))) := PE.imp (pe_un un_neg h) fun σ H Q q => ⟨n, rfl, q⟩
end
end DL

/-! DLp: defs with defaults; a call that leaves them out, or that names one. -/
namespace DL
open PySem PySem.Spec L2
section
variable {P : Program} {w : World} {K : PySem.W.Frag} {mg : Str → Option Value} {base : Heap} {x qual : Str} {st : Stmt} {f : Addr} {fd : FuncData} {dvs : List V} {ps : List Str}
theorem fund_mk {oc : Value} {od an : Option Addr} {osl : Array (Option Value)} {kV doc pm cdv ct : Value} {T : Addr} {o : Obj} {its : List Value} {n : Nat}
    (l : K.lookup f = some ⟨oc, od, .func (PySem.W.fnOf x qual (defArgs st) (defBody st) (defScope st) (.ref T) kV doc pm an cdv ct), osl⟩)
    (c : PySem.W.codeIn K cdv qual = true) (k : PySem.W.keepIn K (.ref f) = true) (lT : K.lookup T = some o) (oT : o.data = .seq its.toArray n) (hd : dvs ≠ []) (r : Vals dvs its) :
    FunD K x qual (defArgs st) (defBody st) (defScope st) dvs [] f (PySem.W.fnOf x qual (defArgs st) (defBody st) (defScope st) (.ref T) kV doc pm an cdv ct) :=
  ⟨⟨oc, od, .ref T, kV, doc, pm, an, cdv, ct, osl, rfl, l, c, .inr ⟨hd, T, o, its, n, rfl, lT, oT, r⟩, .inl rfl⟩, k⟩
theorem bindsAll (F : FunD K x qual (defArgs st) (defBody st) (defScope st) dvs [] f fd) (hd : dvs ≠ [])
    (h : ∀ (T : Addr) (kV doc pm : Value) (an : Option Addr) (cdv ct : Value) (us its : List Value), us.length = ps.length → its.length = dvs.length →
      ∃ k, bindArgs (PySem.W.fnOf x qual (defArgs st) (defBody st) (defScope st) (.ref T) kV doc pm an cdv ct) ⟨us, []⟩ = seqItems? (.ref T) >>= k ∧ k (some its.toArray) = pure (ps.zip us)) : Binds K fd ps [] := by
  obtain ⟨ds, r, b⟩ := F.binds1 (ps := ps) ps.length dvs.length hd (by omega) fun T kV doc pm an cdv ct us its h1 h2 => by
    rw [← h2, List.drop_length, List.append_nil]
    exact h T kV doc pm an cdv ct us its h1 h2
  rw [List.drop_length] at r
  cases r
  exact b
theorem kb1 (F : FunD K x qual (defArgs st) (defBody st) (defScope st) dvs [] f fd) (n : Nat) (ks : List Str) (hd : dvs ≠ [])
    (h : ∀ (T : Addr) (kV doc pm : Value) (an : Option Addr) (cdv ct : Value) (us its ws : List Value), us.length = n → its.length = dvs.length → ws.length = ks.length →
      ∃ k, bindArgs (PySem.W.fnOf x qual (defArgs st) (defBody st) (defScope st) (.ref T) kV doc pm an cdv ct) ⟨us, ks.zip ws⟩ = seqItems? (.ref T) >>= k ∧ k (some its.toArray) = pure (ps.zip (us ++ ws))) :
    KBn K fd ps n ks (fun us ws => us ++ ws) (fun vs zs => vs ++ zs) := by
  obtain ⟨oc, od, dV, kV, doc, pm, an, cdv, ct, osl, rfl, lk, hcd, hD, hK⟩ := F.ex
  rcases hD with ⟨e, _⟩ | ⟨_, T, o, its, m, rfl, lT, oT, rT⟩
  · exact absurd e hd
  · refine ⟨fun s us ws X l1 l2 => ?_, fun r1 r2 => r1.append r2⟩
    obtain ⟨k, e1, e2⟩ := h T kV doc pm an cdv ct us its ws l1 rT.length.symm l2
    refine BindsTo.of_looks fun M => ?_
    rw [e1]
    exact looks_items X lT oT (.of_pure e2)
/-- the rule for such a def -/
theorem fnDd {N : List Str} {k n : Nat} {s : DEnv → Fl} (F : FunD K x qual (defArgs st) (defBody st) (defScope st) dvs [] f fd) (S : FnScope N ps (defScope st)) (hn : ps.length = n)
    (hbody : ∀ (cdv : Value) (A : Around) (outer : List PySem.Env) (s0 : Shared) (H : Hp) (E : XK), Room k (A.deeper (PyProof.Rows.envOfC qual (defScope st) s0.heap.objs.size f cdv)) →
      DSs (cxOf (L2.CX P w) P w K mg base N qual (defScope st) f cdv A outer s0 H E) (defBody st) s) :
    FnOk P w K mg base (L2.CX P w) (k + 1) f fd ps (spD K n fun ds => (s (env0 N.length ds)).cr) := by
  refine F.ok S (fun vs H Q E h => (spD_len vs H Q E h).trans hn.symm) fun cdv A outer s0 H vs Q E hr ⟨G, ds, hG, ha, hl, hp⟩ => ⟨_, hbody cdv A outer s0 H E hr, ?_⟩
  refine ⟨G, H, env0 N.length ds, [], [], ?_, ?_⟩
  · have q := Stt.begin hG ha (N.length - ds.length)
    unfold L2.start env0
    rw [ha.length]
    exact q
  · have tk := takes_of (X := cxOf (L2.CX P w) P w K mg base N qual (defScope st) f cdv A outer s0 H E) (E := E) rfl rfl rfl rfl
    have hp : crPost K G H Q E (s (env0 N.length ds)).cr := hp
    cases e : s (env0 N.length ds) with
    | nx ρ' =>
      rw [e] at hp
      exact fun σ' H' s1 => hp H' _ (s1.out.scal fun _ => .non)
    | rt x ρ' =>
      rw [e] at hp
      exact fun σ' H' v s1 => hp H' v s1.out
    | exc x ρ' =>
      rw [e] at hp
      intro σ' H' dx ves s1 hl hx
      rw [List.append_nil, List.append_nil] at s1
      exact okx_of tk (hp H' dx ves s1.out hl hx)
    | bk ρ' => rw [e] at hp; exact hp.elim
    | ct ρ' => rw [e] at hp; exact hp.elim
    | bad => rw [e] at hp; exact hp.elim
end
/-- a call that leaves the defaults dd out -/
def sCallD (φ : List D → CR) (n : Nat) (dd : List D) (fs : DEnv → R (List Val)) : DEnv → R Val := fun ρ => (fs ρ).bind fun ys ρ1 => if ys.length + dd.length = n then match φ (fzs ys ++ dd) with
  | .ret x => .ok x ρ1
  | .exc e => .exc e ρ1
  | .bad => .bad
  else .bad
/-- a call that names its last argument -/
def sCallK (φ : List D → CR) (n : Nat) (fs : DEnv → R (List Val)) (fe : DEnv → R Val) : DEnv → R Val := fun ρ => (fs ρ).bind fun ys ρ1 => (fe ρ1).bind fun x ρ2 => if ys.length + 1 = n then crM (φ (fzs (ys ++ [x]))) ρ2 else .bad
section
variable {X : Cx} {k n : Nat} {f : Addr} {fd : FuncData} {ps : List Str} {φ : List D → CR} {x : Str} {p pos kpos : Pos} {e ek : Expr} {es : List Expr} {fs : DEnv → R (List Val)} {fe : DEnv → R Val}
theorem de_callD {dvs : List V} {dd : List D} (F : FnOk X.prog X.w X.K X.mg X.base (L2.CX X.prog X.w) k f fd ps (spD X.K n φ)) (hr : Room k X.A) (hg : Gl X x) (hm : X.mg x = some (.ref f)) (hk : PySem.W.keepIn X.K (.ref f) = true) (hbd : ∃ uds, Vals dvs uds ∧ Binds X.K fd ps uds) (hdd : ∀ F, Ats X.K F dvs dd)
    (ha : DA X (e :: es) fs) (hdb : (x == ("__debug__" : Str)) = false := by decide) (he : starEach (e :: es) X.env = (false, eval e X.env) :: starEach es X.env := by rfl) (hpl : (backTo pos (starEach es X.env)).any (·.1) = false := by rfl) :
    DE X (.Call (.Name x p) (e :: es) [] pos) (sCallD φ n dd fs) := by
  obtain ⟨uds, hd, hb⟩ := hbd
  exact PE.imp (pe_callSD (E := WE (okx X)) F hr hg hm hk hb hd (fun σ => passAt takes_okx σ) ha hdb he hpl) fun σ H Q ⟨F0, H0, ρ, vs, xs, s, q⟩ => by
    refine ⟨F0, H0, ρ, vs, xs, s, (post_bind q).imp (fun ys ρ1 q1 H1 ws hl s1 => ?_) fun _ _ z => z⟩
    split at q1
    · rename_i hn
      obtain ⟨hl2, s2⟩ := s1.fzsP hl
      obtain ⟨F, hF, hA, c⟩ := Stt.call hl2 s2
      refine ⟨F, fzs ys ++ dd, hF, hA.append (hdd F), by rw [List.length_append, fzs_map, List.length_map]; exact hn, ?_⟩
      cases e1 : φ (fzs ys ++ dd) with
      | ret x => rw [e1] at q1; exact fun H' v s3 => q1 H' v (c H' [v] [x] s3)
      | exc x =>
        rw [e1] at q1
        exact fun H' dx ves s3 hl3 hx => q1 σ H' dx ves (c H' ves _ s3) hl3 (hx.less s1.sub0)
      | bad => rw [e1] at q1; exact q1
    · exact q1.elim
theorem de_callK {nm : Str} (F : FnOk X.prog X.w X.K X.mg X.base (L2.CX X.prog X.w) k f fd ps (spD X.K n φ)) (hr : Room k X.A) (hg : Gl X x) (hm : X.mg x = some (.ref f)) (hk : PySem.W.keepIn X.K (.ref f) = true) (hb : KBn X.K fd ps (n - 1) [nm] (fun us ws => us ++ ws) (fun vs zs => vs ++ zs))
    (ha : DA X (e :: es) fs) (hek : DE X ek fe) (hall : (backToKw pos (keywordEach [⟨some nm, ek, kpos⟩] X.env)).all (·.1.isSome) = true := by rfl) (hks : (backToKw pos (keywordEach [⟨some nm, ek, kpos⟩] X.env)).filterMap (·.1) = [nm] := by rfl)
    (hdb : (x == ("__debug__" : Str)) = false := by decide) (he : starEach (e :: es) X.env = (false, eval e X.env) :: starEach es X.env := by rfl)
    (hpl : ((backTo pos (starEach (e :: es) X.env)).any (·.1) || (backToKw pos (keywordEach [⟨some nm, ek, kpos⟩] X.env)).any (·.1.isNone)) = false := by rfl) :
    DE X (.Call (.Name x p) (e :: es) [⟨some nm, ek, kpos⟩] pos) (sCallK φ n fs fe) :=
  PE.imp (pe_callN (E := NoX) F hr hg hm hk hb passX ha (pk_cons hek pk_nil) hall hks hdb he hpl) fun σ H Q ⟨F0, H0, ρ, vs, xs, s, q⟩ => by
    refine ⟨F0, H0, ρ, vs, xs, s, (post_bind q).imp (fun ys ρ1 q1 H1 ws hl s1 => ?_) fun _ _ z => z⟩
    refine ⟨F0, H0, ρ1, _, _, s1, (post_bind q1).imp (fun y ρ2 q2 H2 v s2 => ?_) fun _ _ z => z.mores hl⟩
    split at q2
    · rename_i hn
      have s3 := Stt.turn' hl s2
      have s3 : Stt X.K F0 H0 H2 σ ρ2 ((ws ++ [v]) ++ vs) ((ys ++ [y]) ++ xs) := by rw [List.append_assoc, List.append_assoc]; exact s3
      obtain ⟨hl2, s4⟩ := s3.fzsP (by simp [hl])
      obtain ⟨F, hF, hA, c⟩ := Stt.call hl2 s4
      refine ⟨by omega, rfl, F, fzs (ys ++ [y]), hF, hA, by rw [fzs_map, List.length_map]; simpa using hn, ?_⟩
      cases e1 : φ (fzs (ys ++ [y])) with
      | ret x => rw [e1] at q2; exact fun H' v s3 => q2 H' v (c H' [v] [x] s3)
      | exc x => rw [e1] at q2; exact q2.elim
      | bad => rw [e1] at q2; exact q2.elim
    · exact q2.elim
end
/-! t < u for tuples of ints -/
def ltTD : D → D → Option Val := fun d e => match d, e with
  | .tup xs, .tup ys => (dInts xs).bind fun ns => (dInts ys).map fun ms => .sh (.bl (HT.lexLt ns ms))
  | _, _ => none
section
variable {X : Cx} {a b : Expr} {fa fb : DEnv → R Val} {pos : Pos}
theorem opd_ltT : OpD X (rLtT X.K) ltTD := fun F0 H0 H σ ρ vs xs v w d e Q s ⟨x, hx, q⟩ => by
  obtain ⟨F, hF, a, b, t⟩ := s.two
  match d, e, a, b, hx with
  | .tup ds, .tup es, .tup (vs := us) h1 k1, .tup (vs := ws) h2 k2, hx =>
    obtain ⟨ns, e1, hx⟩ := Option.bind_eq_some_iff.mp (show (dInts ds).bind (fun ns => (dInts es).map fun ms => Val.sh (.bl (HT.lexLt ns ms))) = some x from hx)
    obtain ⟨ms, e2, hx⟩ := Option.map_eq_some_iff.mp hx
    subst hx
    rw [ints_ats k1 e1] at h1
    rw [ints_ats k2 e2] at h2
    exact ⟨_, _, ns, ms, rfl, rfl, sameT hF h1, sameT hF h2, q H _ (s.pop.pop.scal fun F => .bl _)⟩
theorem de_ltT (hu : X.A.units < cLine) (ha : DE X a fa) (hb : DE X b fb) : DE X (.Compare a [.Lt] [b] pos) (sOp ltTD fa fb) := de_cmp (op_ltT hu) opd_ltT ha hb (nomark _)
theorem dt_ltT (hu : X.A.units < cLine) (ha : DE X a fa) (hb : DE X b fb) : DT X (.Compare a [.Lt] [b] pos) (sTst (sOp ltTD fa fb)) := dt_cmp (op_ltT hu) opd_ltT ha hb (nomark _)
end
end DL

/-! DLs: reckoning with what code does to data. -/
namespace DL
open PySem PySem.Spec L2
@[simp high] theorem get_z {α : Type} {a : α} {l : List α} : (a :: l)[0]? = some a := id rfl
@[simp high] theorem get_s {α : Type} {a : α} {l : List α} {n : Nat} : (a :: l)[n + 1]? = l[n]? := id rfl
/-! the ways out of a look, as functions -/
def optF (o : Option DEnv) : Fl := match o with
  | some ρ => .nx ρ
  | none => .bad
@[simp] theorem optF_s {ρ : DEnv} : optF (some ρ) = .nx ρ := id rfl
@[simp] theorem optF_n : optF none = .bad := id rfl
def parF (n m : Nat) (xs : List Val) (ρ : DEnv) : Fl := match xs with
  | [x, y] => if n < ρ.length ∧ m < ρ.length ∧ n ≠ m then .nx ((ρ.set n (some x)).set m (some y)) else .bad
  | _ => .bad
@[simp] theorem parF_ap {n m : Nat} {x y : Val} {ρ : DEnv} : parF n m [x, y] ρ = if n < ρ.length ∧ m < ρ.length ∧ n ≠ m then .nx ((ρ.set n (some x)).set m (some y)) else .bad := id rfl
def rdV (o : Option Val) (n : Nat) (ρ : DEnv) : R Val := match o with
  | some (.sh d) => .ok (.sh d) ρ
  | some x => .ok (.sh x.fz) (ρ.set n (some (.sh x.fz)))
  | none => .bad
@[simp] theorem rdV_sh {d : D} {n : Nat} {ρ : DEnv} : rdV (some (.sh d)) n ρ = .ok (.sh d) ρ := id rfl
@[simp] theorem rdV_l {xs : List Val} {n : Nat} {ρ : DEnv} : rdV (some (.lst xs)) n ρ = .ok (.sh (.lst (fzs xs))) (ρ.set n (some (.sh (.lst (fzs xs))))) := by
  have e : rdV (some (.lst xs)) n ρ = .ok (.sh (Val.lst xs).fz) (ρ.set n (some (.sh (Val.lst xs).fz))) := rfl
  rw [e, Val.fz]
@[simp] theorem rdV_t {xs : List Val} {n : Nat} {ρ : DEnv} : rdV (some (.tup xs)) n ρ = .ok (.sh (.tup (fzs xs))) (ρ.set n (some (.sh (.tup (fzs xs))))) := by
  have e : rdV (some (.tup xs)) n ρ = .ok (.sh (Val.tup xs).fz) (ρ.set n (some (.sh (Val.tup xs).fz))) := rfl
  rw [e, Val.fz]
@[simp] theorem rdV_n {n : Nat} {ρ : DEnv} : rdV none n ρ = .bad := id rfl
def crR (c : CR) (ρ : DEnv) : R Val := match c with
  | .ret x => .ok x ρ
  | .exc e => .exc e ρ
  | .bad => .bad
@[simp] theorem crR_r {x : Val} {ρ : DEnv} : crR (.ret x) ρ = .ok x ρ := id rfl
@[simp] theorem crR_e {e : DExn} {ρ : DEnv} : crR (.exc e) ρ = .exc e ρ := id rfl
@[simp] theorem crR_b {ρ : DEnv} : crR .bad ρ = .bad := id rfl
def lnV (o : Option Val) (ρ : DEnv) : R Val := match o with
  | some (.lst xs) => .ok (.sh (.int xs.length)) ρ
  | some x => liftO (lenD x.fz) ρ
  | none => .bad
@[simp] theorem lnV_l {xs : List Val} {ρ : DEnv} : lnV (some (.lst xs)) ρ = .ok (.sh (.int xs.length)) ρ := id rfl
@[simp] theorem lnV_sh {d : D} {ρ : DEnv} : lnV (some (.sh d)) ρ = liftO (lenD d) ρ := by
  have e : lnV (some (.sh d)) ρ = liftO (lenD (Val.sh d).fz) ρ := rfl
  rw [e, Val.fz]
@[simp] theorem lnV_t {xs : List Val} {ρ : DEnv} : lnV (some (.tup xs)) ρ = liftO (lenD (.tup (fzs xs))) ρ := by
  have e : lnV (some (.tup xs)) ρ = liftO (lenD (Val.tup xs).fz) ρ := rfl
  rw [e, Val.fz]
def ixR (o : Option Val) (y : D) (ρ : DEnv) : R Val := match o with
  | none => .bad
  | some x => liftO ((ixV x y).map .sh) ρ
@[simp] theorem ixR_s {x : Val} {y : D} {ρ : DEnv} : ixR (some x) y ρ = liftO ((ixV x y).map .sh) ρ := id rfl
def ixO (o : Option Val) (k : R Val) : R Val := match o with
  | none => .bad
  | some _ => k
@[simp] theorem ixO_s {x : Val} {k : R Val} : ixO (some x) k = k := id rfl
def shO (o : Option Val) : Option D := match o with
  | some (.sh d) => some d
  | _ => none
@[simp] theorem shO_s {d : D} : shO (some (.sh d)) = some d := id rfl
@[simp] theorem shO_n : shO none = none := id rfl
def shV (x : Val) : Option D := match x with
  | .sh d => some d
  | _ => none
@[simp] theorem shV_s {d : D} : shV (.sh d) = some d := id rfl
def appK (o : Option Val) (k : Fl) : Fl := match o with
  | some (.lst _) => k
  | _ => .bad
@[simp] theorem appK_l {xs : List Val} {k : Fl} : appK (some (.lst xs)) k = k := id rfl
def appF (o : Option Val) (n : Nat) (y : Val) (ρ : DEnv) : Fl := match o with
  | some (.lst xs) => if xs.length < 10000000 then .nx (ρ.set n (some (.lst (xs ++ [y])))) else .bad
  | _ => .bad
@[simp] theorem appF_l {xs : List Val} {n : Nat} {y : Val} {ρ : DEnv} : appF (some (.lst xs)) n y ρ = if xs.length < 10000000 then .nx (ρ.set n (some (.lst (xs ++ [y])))) else .bad := id rfl
def ownsV (o : Option Val) : Bool := match o with
  | some (.lst _) => true
  | _ => false
@[simp] theorem ownsL_ap {n : Nat} {ρ : DEnv} : ownsL n ρ = ownsV (getV ρ[n]?) := id rfl
@[simp] theorem ownsV_l {xs : List Val} : ownsV (some (.lst xs)) = true := id rfl
def setIxV (o : Option Val) (i : Nat) (y : Val) (k : D) (ρ : DEnv) : Fl := match o, k with
  | some (.lst xs), .int n => match ixN xs.length n with
    | some j => .nx (ρ.set i (some (.lst (xs.set j y))))
    | none => .bad
  | _, _ => .bad
@[simp] theorem setIx_ap {i : Nat} {y : Val} {k : D} {ρ : DEnv} : setIx i y k ρ = setIxV (getV ρ[i]?) i y k ρ := id rfl
@[simp] theorem setIxV_l {i : Nat} {y : Val} {n : Int} {xs : List Val} {ρ : DEnv} (h : 0 ≤ n) (h1 : n < (xs.length : Int)) : setIxV (some (.lst xs)) i y (.int n) ρ = .nx (ρ.set i (some (.lst (xs.set n.toNat y)))) := by
  have e : ixN xs.length n = some n.toNat := by unfold ixN; rw [if_pos h, if_pos (by omega)]
  unfold setIxV
  simp only [e]
def intR (d : D) (ρ : DEnv) : R (Option Int) := match d with
  | .int i => .ok (some i) ρ
  | _ => .bad
@[simp] theorem intR_i {i : Int} {ρ : DEnv} : intR (.int i) ρ = .ok (some i) ρ := id rfl
def mkTo (o : Option (List D)) (xs : List Val) : Val := match o with
  | some ds => .sh (.tup ds)
  | none => .tup xs
@[simp] theorem mkTo_s {ds : List D} {xs : List Val} : mkTo (some ds) xs = .sh (.tup ds) := id rfl
@[simp] theorem mkTo_n {xs : List Val} : mkTo none xs = .tup xs := id rfl
def consO (d : D) (o : Option (List D)) : Option (List D) := match o with
  | some ds => some (d :: ds)
  | none => none
@[simp] theorem consO_s {d : D} {ds : List D} : consO d (some ds) = some (d :: ds) := id rfl
@[simp] theorem consO_n {d : D} : consO d none = none := id rfl
def isN (d : D) : Bool := match d with
  | .non => true
  | _ => false
@[simp] theorem isN_n : isN .non = true := id rfl
@[simp] theorem isN_i {i : Int} : isN (.int i) = false := id rfl
@[simp] theorem isN_t {ds : List D} : isN (.tup ds) = false := id rfl
@[simp] theorem isN_l {ds : List D} : isN (.lst ds) = false := id rfl
@[simp] theorem isN_s {z : Str} : isN (.str z) = false := id rfl
@[simp] theorem isN_b {z : Bool} : isN (.bl z) = false := id rfl
@[simp] theorem isN_ins {C : Addr} {ns : List Str} {ds : List D} : isN (.ins C ns ds) = false := id rfl
section
variable {G : D → D → Option Val} {a b c f : DEnv → R Val} {fs : DEnv → R (List Val)} {t u : DEnv → R Bool} {s r : DEnv → Fl} {ρ : DEnv} {i j : Int} {n m : Nat} {d e : D} {x y : Val} {ds es : List D} {xs ys : List Val} {g : D → DEnv → Option DEnv}
@[simp] theorem fz_sh : Val.fz (.sh d) = d := by rw [Val.fz]
@[simp] theorem fz_lst : Val.fz (.lst xs) = .lst (fzs xs) := by rw [Val.fz]
@[simp] theorem fz_tup : Val.fz (.tup xs) = .tup (fzs xs) := by rw [Val.fz]
@[simp] theorem fzs_nil : fzs [] = [] := by rw [fzs]
@[simp] theorem fzs_cons : fzs (x :: xs) = x.fz :: fzs xs := by rw [fzs]
@[simp] theorem fzs_shs : fzs (ds.map .sh) = ds := fzs_sh ds
@[simp] theorem fzs_rep : fzs (List.replicate n x) = List.replicate n x.fz := by simp [fzs_map]
@[simp] theorem fzs_app : fzs (xs ++ ys) = fzs xs ++ fzs ys := by simp [fzs_map]
@[simp] theorem getV_ss : getV (some (some x)) = some x := id rfl
@[simp] theorem getV_sn : getV (some none) = none := id rfl
@[simp] theorem getV_n : getV none = none := id rfl
@[simp] theorem sSeq_ap : sSeq s r ρ = (s ρ).seq r := id rfl
@[simp] theorem sSkip_ap : sSkip ρ = .nx ρ := id rfl
@[simp] theorem sSet_ap : sSet n f ρ = (f ρ).fl fun x ρ1 => if n < ρ1.length then .nx (ρ1.set n (some x)) else .bad := id rfl
@[simp] theorem sFz_ap : sFz f ρ = (f ρ).bind fun x ρ1 => .ok (.sh x.fz) ρ1 := id rfl
@[simp] theorem sRet_ap : sRet f ρ = (f ρ).fl fun x ρ1 => .rt x ρ1 := id rfl
@[simp] theorem sDo_ap : sDo f ρ = (f ρ).fl fun _ ρ1 => .nx ρ1 := id rfl
@[simp] theorem sIf_ap : sIf t s r ρ = (t ρ).fl fun b ρ1 => if b = true then s ρ1 else r ρ1 := id rfl
@[simp] theorem sBrk_ap : sBrk ρ = .bk ρ := id rfl
@[simp] theorem sCnt_ap : sCnt ρ = .ct ρ := id rfl
@[simp] theorem sAsg_ap : sAsg f g ρ = (f ρ).fl fun x ρ1 => optF (g x.fz ρ1) := id rfl
@[simp] theorem sPar_ap : sPar n m fs ρ = (fs ρ).fl fun xs ρ1 => parF n m xs ρ1 := id rfl
@[simp] theorem sVar_ap : sVar n ρ = rdV (getV ρ[n]?) n ρ := id rfl
@[simp] theorem sC_ap : sC d ρ = .ok (.sh d) ρ := id rfl
@[simp] theorem sOp_ap : sOp G a b ρ = (a ρ).bind fun x ρ1 => (b ρ1).bind fun y ρ2 => liftO (G x.fz y.fz) ρ2 := id rfl
@[simp] theorem sUn_ap {G : D → Option Val} : sUn G a ρ = (a ρ).bind fun x ρ1 => liftO (G x.fz) ρ1 := id rfl
@[simp] theorem sNil_ap : sNil ρ = .ok [] ρ := id rfl
@[simp] theorem sCons_ap : sCons a fs ρ = (a ρ).bind fun x ρ1 => (fs ρ1).bind fun ys ρ2 => .ok (x :: ys) ρ2 := id rfl
@[simp] theorem sTup_ap : sTup fs ρ = (fs ρ).bind fun xs ρ1 => if xs.length ≤ 1000 then .ok (mkT xs) ρ1 else .bad := id rfl
@[simp] theorem sLst_ap : sLst fs ρ = (fs ρ).bind fun xs ρ1 => if xs.length ≤ 1000 then .ok (.lst xs) ρ1 else .bad := id rfl
@[simp] theorem sTst_ap : sTst f ρ = (f ρ).bind fun x ρ1 => liftB (asB x.fz) ρ1 := id rfl
@[simp] theorem sAnd_ap : sAnd t u ρ = (t ρ).bind fun b ρ1 => if b = true then u ρ1 else .ok false ρ1 := id rfl
@[simp] theorem sOr_ap : sOr t u ρ = (t ρ).bind fun b ρ1 => if b = true then .ok true ρ1 else u ρ1 := id rfl
@[simp] theorem sNot_ap : sNot t ρ = (t ρ).bind fun b ρ1 => .ok (!b) ρ1 := id rfl
@[simp] theorem sIfE_ap : sIfE t a b ρ = (t ρ).bind fun b' ρ1 => if b' = true then a ρ1 else b ρ1 := id rfl
@[simp] theorem sAndV_ap : sAndV a b ρ = (a ρ).bind fun x ρ1 => (liftB (asB x.fz) ρ1).bind fun k ρ2 => if k = true then b ρ2 else .ok (.sh (.bl false)) ρ2 := id rfl
@[simp] theorem sOrV_ap : sOrV a b ρ = (a ρ).bind fun x ρ1 => (liftB (asB x.fz) ρ1).bind fun k ρ2 => if k = true then .ok (.sh (.bl true)) ρ2 else b ρ2 := id rfl
@[simp] theorem sNotV_ap : sNotV a ρ = (a ρ).bind fun x ρ1 => (liftB (asB x.fz) ρ1).bind fun k ρ2 => .ok (.sh (.bl (!k))) ρ2 := id rfl
@[simp] theorem andR {p : Prop} [Decidable p] {k : Bool} : (if p then (R.ok (.sh (.bl k)) ρ : R Val) else R.ok (.sh (.bl false)) ρ) = R.ok (.sh (.bl (decide p && k))) ρ := by
  by_cases h : p <;> simp [h]
@[simp] theorem orR {p : Prop} [Decidable p] {k : Bool} : (if p then (R.ok (.sh (.bl true)) ρ : R Val) else R.ok (.sh (.bl k)) ρ) = R.ok (.sh (.bl (decide p || k))) ρ := by
  by_cases h : p <;> simp [h]
@[simp] theorem andT {p : Prop} [Decidable p] {k : Bool} : (if p then (R.ok k ρ : R Bool) else R.ok false ρ) = R.ok (decide p && k) ρ := by
  by_cases h : p <;> simp [h]
@[simp] theorem orT {p : Prop} [Decidable p] {k : Bool} : (if p then (R.ok true ρ : R Bool) else R.ok k ρ) = R.ok (decide p || k) ρ := by
  by_cases h : p <;> simp [h]
@[simp] theorem asB_bl {k : Bool} : asB (.bl k) = some k := id rfl
@[simp] theorem sChain_ap {G' : D → D → Option Val} : sChain G G' a b c ρ = (a ρ).bind fun x ρ1 => (b ρ1).bind fun y ρ2 => (liftO (G x.fz y.fz) ρ2).bind fun z ρ3 => (liftB (asB z.fz) ρ3).bind fun k ρ4 =>
  if k = true then (c ρ4).bind fun u ρ5 => liftO (G' y.fz u.fz) ρ5 else .ok (.sh (.bl false)) ρ4 := rfl
@[simp] theorem gI_ap {h : Int → Int → Bool} : gI h (.int i) (.int j) = some (.sh (.bl (h i j))) := id rfl
@[simp] theorem sCall_ap {φ : List D → CR} : sCall φ n fs ρ = (fs ρ).bind fun ys ρ1 => if ys.length = n then crR (φ (fzs ys)) ρ1 else .bad := id rfl
@[simp] theorem sCB_ap {h : List D → Option Val} : sCB h fs ρ = (fs ρ).bind fun ys ρ1 => liftO (h (fzs ys)) ρ1 := id rfl
@[simp] theorem g1_ap {h : D → Option Val} : g1 h [d] = h d := id rfl
@[simp] theorem g2_ap : g2 G [d, e] = G d e := id rfl
@[simp] theorem sLenV_ap : sLenV n ρ = lnV (getV ρ[n]?) ρ := id rfl
@[simp] theorem sIxV_ap : sIxV n f ρ = ixO (getV ρ[n]?) ((f ρ).bind fun y ρ1 => ixR (getV ρ1[n]?) y.fz ρ1) := id rfl
@[simp] theorem ixV_sh : ixV (.sh d) e = shO (ixD d e) := id rfl
@[simp] theorem ixV_lst : ixV (.lst xs) (.int i) = (atI xs i).bind shV := id rfl
@[simp] theorem ixV_tup : ixV (.tup xs) (.int i) = (atI xs i).bind shV := id rfl
@[simp] theorem sApp_ap : sApp n f ρ = appK (getV ρ[n]?) ((f ρ).fl fun y ρ1 => appF (getV ρ1[n]?) n y ρ1) := id rfl
@[simp] theorem sSetIx_ap : sSetIx n a b ρ = (b ρ).fl fun y ρ1 => if ownsL n ρ1 = true then (a ρ1).fl fun k ρ2 => setIx n y k.fz ρ2 else .bad := id rfl
@[simp] theorem sSl_ap {lo hi : Option (DEnv → R Val)} : sSl f lo hi ρ = (f ρ).bind fun x ρ1 => (sPart lo ρ1).bind fun i ρ2 => (sPart hi ρ2).bind fun j ρ3 => liftO (slD i j x.fz) ρ3 := id rfl
@[simp] theorem sPart_n : sPart none ρ = .ok none ρ := id rfl
@[simp] theorem sPart_s : sPart (some f) ρ = (f ρ).bind fun x ρ1 => intR x.fz ρ1 := id rfl
@[simp] theorem kName_ap : kName n d ρ = if n < ρ.length then some (ρ.set n (some (.sh d))) else none := id rfl
@[simp] theorem kNil_ap : kNil [] ρ = some ρ := id rfl
@[simp] theorem kCons_ap {r : List D → DEnv → Option DEnv} : kCons g r (d :: ds) ρ = (g d ρ).bind fun ρ1 => r ds ρ1 := id rfl
@[simp] theorem kSeq_t {r : List D → DEnv → Option DEnv} : kSeq n r (.tup ds) ρ = if ds.length = n then r ds ρ else none := id rfl
@[simp] theorem kSeq_s {r : List D → DEnv → Option DEnv} : kSeq n r (.scr ds) ρ = if ds.length = n then r ds ρ else none := id rfl
@[simp] theorem kSeq_l {r : List D → DEnv → Option DEnv} : kSeq n r (.lst ds) ρ = if ds.length = n then r ds ρ else none := id rfl
@[simp] theorem sItems_ap : sItems f ρ = (f ρ).bind fun x ρ1 => liftL (itemsD x.fz) ρ1 := id rfl
@[simp] theorem itemsD_l : itemsD (.lst ds) = some ds := id rfl
@[simp] theorem itemsD_s : itemsD (.scr ds) = some ds := id rfl
@[simp] theorem itemsD_t : itemsD (.tup ds) = some ds := id rfl
@[simp] theorem sRange_ap {h : List D → Option (List D)} : sRange h fs ρ = (fs ρ).bind fun xs ρ1 => liftL (h (fzs xs)) ρ1 := id rfl
@[simp] theorem sFor_ap {it : DEnv → R (List D)} {is : List Nat} : sFor it g s is ρ = (it ρ).fl fun ds ρ1 => loop g s is ds (forget is ρ1) := id rfl
@[simp] theorem sComp_ap {it : DEnv → R (List D)} {is : List Nat} : sComp it g t f is ρ = (it ρ).bind fun ds ρ1 => if ds.length ≤ 10000000 then comp g t f is ds [] (forget is ρ1) else .bad := id rfl
@[simp] theorem sYes_ap : sYes ρ = .ok true ρ := id rfl
@[simp] theorem forget_nil : forget [] ρ = ρ := id rfl
@[simp] theorem forget_cons {k : Nat} {is : List Nat} : forget (k :: is) ρ = forget is (ρ.set k none) := id rfl
@[simp] theorem cr_nx : (Fl.nx ρ).cr = .ret (.sh .non) := id rfl
@[simp] theorem cr_rt : (Fl.rt x ρ).cr = .ret x := id rfl
@[simp] theorem cr_exc {e : DExn} : (Fl.exc e ρ).cr = .exc e := id rfl
/-! numbers -/
@[simp] theorem addD_int : addD (.int i) (.int j) = some (.sh (.int (i + j))) := id rfl
@[simp] theorem subD_int : subD (.int i) (.int j) = some (.sh (.int (i - j))) := id rfl
@[simp] theorem negD_int : negD (.int i) = some (.sh (.int (-i))) := id rfl
theorem mulD_ok (h : mulOk i j) : mulD (.int i) (.int j) = some (.sh (.int (i * j))) := by
  have e : mulI (.int i) (.int j) = if mulOk i j then some (.sh (.int (i * j))) else none := rfl
  unfold mulD orG
  rw [e, if_pos h]
@[simp] theorem mulD_l (h1 : -18446744073709551616 < i) (h2 : i < 18446744073709551616) : mulD (.int i) (.int j) = some (.sh (.int (i * j))) := mulD_ok (.inl ⟨by omega, by omega⟩)
@[simp] theorem mulD_r (h1 : -18446744073709551616 < j) (h2 : j < 18446744073709551616) : mulD (.int i) (.int j) = some (.sh (.int (i * j))) := mulD_ok (.inr (.inl ⟨by omega, by omega⟩))
theorem log2_small {n k : Nat} (hk : k ≠ 0) (h : n < 2 ^ k) : n.log2 < k := by
  by_cases h0 : n = 0
  · subst h0; simp; omega
  · exact (Nat.log2_lt h0).mpr h
theorem divOk_lit (h0 : 0 < j) (h1 : j < 18446744073709551616) : divOk j := ⟨by omega, Nat.lt_trans (log2_small (k := 64) (by decide) (by omega)) (by decide)⟩
theorem fdivD_ok (h : divOk j) : fdivD (.int i) (.int j) = some (.sh (.int (i.fdiv j))) := by
  have e : fdivD (.int i) (.int j) = if divOk j then some (.sh (.int (i.fdiv j))) else none := rfl
  rw [e, if_pos h]
@[simp] theorem fdivD_pos (h0 : 0 < j) (h1 : j < 18446744073709551616) : fdivD (.int i) (.int j) = some (.sh (.int (i / j))) := by
  rw [fdivD_ok (divOk_lit h0 h1), Int.fdiv_eq_ediv_of_nonneg i (by omega)]
@[simp] theorem modD_pos (h0 : 0 < j) : modD (.int i) (.int j) = some (.sh (.int (i % j))) := by
  have e : modD (.int i) (.int j) = if j ≠ 0 then some (.sh (.int (i.fmod j))) else none := rfl
  rw [e, if_pos (by omega), Int.fmod_eq_emod_of_nonneg i (by omega)]
theorem modD_nz (h0 : j ≠ 0) : modD (.int i) (.int j) = some (.sh (.int (i.fmod j))) := by
  have e : modD (.int i) (.int j) = if j ≠ 0 then some (.sh (.int (i.fmod j))) else none := rfl
  rw [e, if_pos h0]
/-- a number of at most n bits -/
def Bd (n : Nat) (i : Int) : Prop := i.natAbs < 2 ^ n
theorem Bd.mul {n m : Nat} (h : Bd n i) (k : Bd m j) : Bd (n + m) (i * j) := by
  unfold Bd at *
  rw [Int.natAbs_mul, Nat.pow_add]
  by_cases hj : j.natAbs = 0
  · rw [hj, Nat.mul_zero]; exact Nat.mul_pos (Nat.two_pow_pos _) (Nat.two_pow_pos _)
  · exact Nat.lt_of_lt_of_le (Nat.mul_lt_mul_of_pos_right h (by omega)) (Nat.mul_le_mul_left _ (Nat.le_of_lt k))
theorem Bd.le {n m : Nat} (h : Bd n i) (k : n ≤ m) : Bd m i := Nat.lt_of_lt_of_le h (Nat.pow_le_pow_right (by decide) k)
theorem Bd.add {n : Nat} (h : Bd n i) (k : Bd n j) : Bd (n + 1) (i + j) := by
  unfold Bd at *
  rw [Nat.pow_succ]; omega
theorem Bd.sub {n : Nat} (h : Bd n i) (k : Bd n j) : Bd (n + 1) (i - j) := by
  unfold Bd at *
  rw [Nat.pow_succ]; omega
theorem Bd.neg {n : Nat} (h : Bd n i) : Bd n (-i) := by
  unfold Bd at *; omega
theorem mulD_bd {n m : Nat} (h : Bd n i) (k : Bd m j) (hn : n + m ≤ 900000) : mulD (.int i) (.int j) = some (.sh (.int (i * j))) := by
  refine mulD_ok (.inr (.inr ?_))
  have a := log2_small (n := i.natAbs) (k := n + 1) (by omega) (Nat.lt_of_lt_of_le h (Nat.pow_le_pow_right (by decide) (by omega)))
  have b := log2_small (n := j.natAbs) (k := m + 1) (by omega) (Nat.lt_of_lt_of_le k (Nat.pow_le_pow_right (by decide) (by omega)))
  omega
theorem bd_x (h1 : -1000000000000000000000000000000000000000000000000000000000000000000000000000000000000000000000000000000000000000000000000000000000000000000000000000000 ≤ i) (h2 : i ≤ 1000000000000000000000000000000000000000000000000000000000000000000000000000000000000000000000000000000000000000000000000000000000000000000000000000000) : Bd 500 i := by
  unfold Bd
  have : (1000000000000000000000000000000000000000000000000000000000000000000000000000000000000000000000000000000000000000000000000000000000000000000000000000000 : Nat) < 2 ^ 500 := by decide +kernel
  exact Nat.lt_of_le_of_lt (by omega) this
@[simp] theorem mulD_x (h1 : -1000000000000000000000000000000000000000000000000000000000000000000000000000000000000000000000000000000000000000000000000000000000000000000000000000000 ≤ i) (h2 : i ≤ 1000000000000000000000000000000000000000000000000000000000000000000000000000000000000000000000000000000000000000000000000000000000000000000000000000000) (h3 : -1000000000000000000000000000000000000000000000000000000000000000000000000000000000000000000000000000000000000000000000000000000000000000000000000000000 ≤ j) (h4 : j ≤ 1000000000000000000000000000000000000000000000000000000000000000000000000000000000000000000000000000000000000000000000000000000000000000000000000000000) : mulD (.int i) (.int j) = some (.sh (.int (i * j))) := mulD_bd (bd_x h1 h2) (bd_x h3 h4) (by decide)
theorem fdivD_bd {n : Nat} (h0 : 0 < j) (h : Bd n j) (hn : n < 9000) : fdivD (.int i) (.int j) = some (.sh (.int (i / j))) := by
  rw [fdivD_ok ⟨by omega, log2_small (by decide) (Nat.lt_of_lt_of_le h (Nat.pow_le_pow_right (by decide) (Nat.le_of_lt hn)))⟩, Int.fdiv_eq_ediv_of_nonneg i (by omega)]
@[simp] theorem powD_int (h0 : 0 ≤ j) (h1 : j ≤ 1000000) (h2 : -18446744073709551616 < i) (h3 : i < 18446744073709551616) : powD (.int i) (.int j) = some (.sh (.int (i ^ j.toNat))) := by
  have e : powD (.int i) (.int j) = if CPow i j then some (.sh (.int (i ^ j.toNat))) else none := rfl
  rw [e, if_pos ⟨h0, h1, by omega⟩]
@[simp] theorem shlD_int (h0 : 0 ≤ j) (h1 : j ≤ 1000000) (h2 : -18446744073709551616 < i) (h3 : i < 18446744073709551616) : shlD (.int i) (.int j) = some (.sh (.int (i * 2 ^ j.toNat))) := by
  have e : shlD (.int i) (.int j) = if CPow i j then some (.sh (.int (i * 2 ^ j.toNat))) else none := rfl
  rw [e, if_pos ⟨h0, h1, by omega⟩]
@[simp] theorem shrD_int (h0 : 0 ≤ j) : shrD (.int i) (.int j) = some (.sh (.int (i / 2 ^ j.toNat))) := by
  have e : shrD (.int i) (.int j) = if 0 ≤ j then some (.sh (.int (i / 2 ^ j.toNat))) else none := rfl
  rw [e, if_pos h0]
@[simp] theorem andD_int : andD (.int i) (.int j) = some (.sh (.int (Builtin.bitAnd i j))) := id rfl
@[simp] theorem orD_int : orD (.int i) (.int j) = some (.sh (.int (Builtin.bitOr i j))) := id rfl
@[simp] theorem divmodD_int (h0 : 0 < j) (h1 : j < 1073741824) : divmodD (.int i) (.int j) = some (.sh (.tup [.int (i / j), .int (i % j)])) := by
  have e : divmodD (.int i) (.int j) = if CDiv i j then some (.sh (.tup [.int (i / j), .int (i % j)])) else none := rfl
  rw [e, if_pos ⟨h0, h1⟩]
@[simp] theorem absD_int : absD (.int i) = some (.sh (.int (i.natAbs : Int))) := by
  have e : absD (.int i) = some (.sh (.int (if i < 0 then -i else i))) := rfl
  rw [e]; congr 3; split <;> omega
@[simp] theorem intD_int : intD (.int i) = some (.sh (.int i)) := id rfl
@[simp] theorem intD_bl {k : Bool} : intD (.bl k) = some (.sh (.int (if k then 1 else 0))) := id rfl
@[simp] theorem max2D_int : max2D (.int i) (.int j) = some (.sh (.int (if j > i then j else i))) := id rfl
@[simp] theorem min2D_int : min2D (.int i) (.int j) = some (.sh (.int (if j < i then j else i))) := id rfl
@[simp] theorem ltD_int : ltD (.int i) (.int j) = some (.sh (.bl (decide (i < j)))) := id rfl
@[simp] theorem leD_int : leD (.int i) (.int j) = some (.sh (.bl (decide (i ≤ j)))) := id rfl
@[simp] theorem gtD_int : gtD (.int i) (.int j) = some (.sh (.bl (decide (j < i)))) := id rfl
@[simp] theorem geD_int : geD (.int i) (.int j) = some (.sh (.bl (decide (j ≤ i)))) := id rfl
/-! == -/
@[simp] theorem ok_int {k : Nat} : D.ok k (.int i) = true := by cases k <;> rfl
@[simp] theorem ok_bl {k : Nat} {z : Bool} : D.ok k (.bl z) = true := by cases k <;> rfl
@[simp] theorem ok_str {k : Nat} {z : Str} : D.ok k (.str z) = true := by cases k <;> rfl
@[simp] theorem ok_non {k : Nat} : D.ok k .non = true := by cases k <;> rfl
@[simp] theorem ok_lst {k : Nat} : D.ok (k + 1) (.lst ds) = ds.all (D.ok k) := id rfl
@[simp] theorem ok_scr {k : Nat} : D.ok (k + 1) (.scr ds) = ds.all (D.ok k) := id rfl
@[simp] theorem ok_tup {k : Nat} : D.ok (k + 1) (.tup ds) = ds.all (D.ok k) := id rfl
@[simp] theorem ok20_lst : D.ok 20 (.lst ds) = ds.all (D.ok 19) := id rfl
@[simp] theorem ok20_scr : D.ok 20 (.scr ds) = ds.all (D.ok 19) := id rfl
@[simp] theorem ok20_tup : D.ok 20 (.tup ds) = ds.all (D.ok 19) := id rfl
@[simp] theorem ok19_lst : D.ok 19 (.lst ds) = ds.all (D.ok 18) := id rfl
@[simp] theorem ok19_tup : D.ok 19 (.tup ds) = ds.all (D.ok 18) := id rfl
@[simp] theorem ok18_lst : D.ok 18 (.lst ds) = ds.all (D.ok 17) := id rfl
@[simp] theorem ok18_tup : D.ok 18 (.tup ds) = ds.all (D.ok 17) := id rfl
@[simp] theorem ok17_lst : D.ok 17 (.lst ds) = ds.all (D.ok 16) := id rfl
@[simp] theorem ok17_tup : D.ok 17 (.tup ds) = ds.all (D.ok 16) := id rfl
@[simp] theorem ok16_tup : D.ok 16 (.tup ds) = ds.all (D.ok 15) := id rfl
@[simp] theorem eqv_int : D.eqv (.int i) (.int j) = decide (i = j) := by
  unfold D.eqv
  simp only [D.py, PyData.eqv]
  exact Bool.beq_eq_decide_eq i j
@[simp] theorem eqv_str {z w : Str} : D.eqv (.str z) (.str w) = decide (z = w) := by
  unfold D.eqv
  simp only [D.py, PyData.eqv]
  exact Bool.beq_eq_decide_eq z w
@[simp] theorem eqv_bl {z w : Bool} : D.eqv (.bl z) (.bl w) = (z == w) := by
  unfold D.eqv
  simp only [D.py, PyData.eqv]
@[simp] theorem eqv_tup : D.eqv (.tup ds) (.tup es) = eqvs ds es := by
  unfold D.eqv eqvs
  simp only [D.py, PyData.eqv]
@[simp] theorem eqv_lst : D.eqv (.lst ds) (.lst es) = eqvs ds es := by
  unfold D.eqv eqvs
  simp only [D.py, PyData.eqv]
@[simp] theorem eqv_lt : D.eqv (.lst ds) (.tup es) = false := by unfold D.eqv; simp only [D.py, PyData.eqv]
@[simp] theorem eqv_tl : D.eqv (.tup ds) (.lst es) = false := by unfold D.eqv; simp only [D.py, PyData.eqv]
@[simp] theorem eqv_nn : D.eqv .non .non = true := by unfold D.eqv; simp only [D.py, PyData.eqv]
@[simp] theorem eqv_ni : D.eqv .non (.int i) = false := by unfold D.eqv; simp only [D.py, PyData.eqv]
@[simp] theorem eqv_in : D.eqv (.int i) .non = false := by unfold D.eqv; simp only [D.py, PyData.eqv]
@[simp] theorem eqv_nt : D.eqv .non (.tup ds) = false := by unfold D.eqv; simp only [D.py, PyData.eqv]
@[simp] theorem eqv_tn : D.eqv (.tup ds) .non = false := by unfold D.eqv; simp only [D.py, PyData.eqv]
@[simp] theorem eqv_nl : D.eqv .non (.lst ds) = false := by unfold D.eqv; simp only [D.py, PyData.eqv]
@[simp] theorem eqv_ln : D.eqv (.lst ds) .non = false := by unfold D.eqv; simp only [D.py, PyData.eqv]
@[simp] theorem eqvs_nil : eqvs [] [] = true := by unfold eqvs; simp only [pys, PyData.eqvAll]
@[simp] theorem eqvs_cons : eqvs (d :: ds) (e :: es) = (D.eqv d e && eqvs ds es) := by unfold eqvs D.eqv; simp only [pys, PyData.eqvAll]
@[simp] theorem eqvs_nc : eqvs [] (e :: es) = false := by unfold eqvs; simp only [pys, PyData.eqvAll]
@[simp] theorem eqvs_cn : eqvs (d :: ds) [] = false := by unfold eqvs; simp only [pys, PyData.eqvAll]
@[simp] theorem eqD_ap : eqD d e = if d.ok 20 && e.ok 20 then some (.sh (.bl (d.eqv e))) else none := id rfl
@[simp] theorem neD_ap : neD d e = if d.ok 20 && e.ok 20 then some (.sh (.bl (!d.eqv e))) else none := id rfl
@[simp] theorem isND_ap {k : Bool} : isND k d = some (.sh (.bl (k != isN d))) := id rfl
@[simp] theorem isiD_ap {T : BT} : isiD T d = (d.isB T).map fun b => .sh (.bl b) := id rfl
@[simp] theorem isB_ii : D.isB .int (.int i) = some true := id rfl
@[simp] theorem isB_ib {k : Bool} : D.isB .int (.bl k) = some true := id rfl
@[simp] theorem isB_it : D.isB .int (.tup ds) = some false := id rfl
@[simp] theorem isB_il : D.isB .int (.lst ds) = some false := id rfl
@[simp] theorem isB_is {z : Str} : D.isB .int (.str z) = some false := id rfl
@[simp] theorem isB_in : D.isB .int .non = some false := id rfl
@[simp] theorem isB_bi : D.isB .bool (.int i) = some false := id rfl
@[simp] theorem isB_bb {k : Bool} : D.isB .bool (.bl k) = some true := id rfl
@[simp] theorem isB_bt : D.isB .bool (.tup ds) = some false := id rfl
@[simp] theorem isB_bn : D.isB .bool .non = some false := id rfl
@[simp] theorem isB_tt : D.isB .tuple (.tup ds) = some true := id rfl
@[simp] theorem isB_tl : D.isB .tuple (.lst ds) = some false := id rfl
@[simp] theorem isB_tn : D.isB .tuple .non = some false := id rfl
@[simp] theorem isB_ti : D.isB .tuple (.int i) = some false := id rfl
@[simp] theorem isB_ll : D.isB .list (.lst ds) = some true := id rfl
@[simp] theorem isB_lt : D.isB .list (.tup ds) = some false := id rfl
@[simp] theorem isB_ln : D.isB .list .non = some false := id rfl
@[simp] theorem isB_ss {z : Str} : D.isB .str (.str z) = some true := id rfl
@[simp] theorem isB_si : D.isB .str (.int i) = some false := id rfl
@[simp] theorem isB_st : D.isB .str (.tup ds) = some false := id rfl
@[simp] theorem isB_sl : D.isB .str (.lst ds) = some false := id rfl
@[simp] theorem isB_sn : D.isB .str .non = some false := id rfl
@[simp] theorem isB_bs {z : Str} : D.isB .bool (.str z) = some false := id rfl
@[simp] theorem isB_bl2 : D.isB .bool (.lst ds) = some false := id rfl
@[simp] theorem isB_ts {z : Str} : D.isB .tuple (.str z) = some false := id rfl
@[simp] theorem isB_ls {z : Str} : D.isB .list (.str z) = some false := id rfl
@[simp] theorem isB_li : D.isB .list (.int i) = some false := id rfl
/-! lists -/
@[simp] theorem listD_l : listD (.lst ds) = some (.lst (ds.map .sh)) := id rfl
@[simp] theorem listD_s : listD (.scr ds) = some (.lst (ds.map .sh)) := id rfl
@[simp] theorem listD_t : listD (.tup ds) = some (.lst (ds.map .sh)) := id rfl
@[simp] theorem tupleD_l : tupleD (.lst ds) = some (.sh (.tup ds)) := id rfl
@[simp] theorem tupleD_s : tupleD (.scr ds) = some (.sh (.tup ds)) := id rfl
@[simp] theorem tupleD_t : tupleD (.tup ds) = some (.sh (.tup ds)) := id rfl
@[simp] theorem shs_nil : shs [] = some [] := id rfl
@[simp] theorem shs_sh : shs (.sh d :: xs) = consO d (shs xs) := id rfl
@[simp] theorem shs_l : shs (.lst ys :: xs) = none := id rfl
@[simp] theorem shs_t : shs (.tup ys :: xs) = none := id rfl
@[simp] theorem mkT_ap : mkT xs = mkTo (shs xs) xs := id rfl
@[simp] theorem lenD_l : lenD (.lst ds) = some (.sh (.int ds.length)) := id rfl
@[simp] theorem lenD_s : lenD (.scr ds) = some (.sh (.int ds.length)) := id rfl
@[simp] theorem lenD_t : lenD (.tup ds) = some (.sh (.int ds.length)) := id rfl
@[simp] theorem atI_nn {α : Type} {l : List α} (h : 0 ≤ i) : atI l i = l[i.toNat]? := by
  unfold atI ixN
  rw [if_pos h]
  by_cases hl : i < (l.length : Int)
  · rw [if_pos hl]; rfl
  · rw [if_neg hl, List.getElem?_eq_none (by omega)]; rfl
@[simp] theorem ixD_l (h : 0 ≤ i) : ixD (.lst ds) (.int i) = (ds[i.toNat]?).map .sh := by
  have e : ixD (.lst ds) (.int i) = match (atI ds i).map Val.sh with | some x => some x | none => none := rfl
  rw [e, atI_nn h]
  cases ds[i.toNat]? <;> rfl
@[simp] theorem ixD_s (h : 0 ≤ i) : ixD (.scr ds) (.int i) = (ds[i.toNat]?).map .sh := by
  have e : ixD (.scr ds) (.int i) = match (atI ds i).map Val.sh with | some x => some x | none => none := rfl
  rw [e, atI_nn h]
  cases ds[i.toNat]? <;> rfl
@[simp] theorem ixD_t (h : 0 ≤ i) : ixD (.tup ds) (.int i) = (ds[i.toNat]?).map .sh := by
  have e : ixD (.tup ds) (.int i) = match (atI ds i).map Val.sh with | some x => some x | none => none := rfl
  rw [e, atI_nn h]
  cases ds[i.toNat]? <;> rfl
theorem atI_neg {α : Type} {l : List α} (h : i < 0) (h2 : -(l.length : Int) ≤ i) : atI l i = l[(i + l.length).toNat]? := by
  unfold atI ixN
  rw [if_neg (by omega), if_pos h2]; rfl
@[simp] theorem addD_lst (h : ds.length + es.length ≤ 10000000) : addD (.lst ds) (.lst es) = some (.lst ((ds ++ es).map .sh)) := by
  have e : addD (.lst ds) (.lst es) = match (if ds.length + es.length ≤ 10000000 then some (Val.lst ((ds ++ es).map .sh)) else none) with | some x => some x | none => none := rfl
  rw [e, if_pos h]
@[simp] theorem addD_tup (h : (d :: ds).length + es.length ≤ 10000000) : addD (.tup (d :: ds)) (.tup es) = some (.sh (.tup (d :: ds ++ es))) := by
  have e : addD (.tup (d :: ds)) (.tup es) = (if (d :: ds).length + es.length ≤ 10000000 then some (Val.sh (.tup (d :: ds ++ es))) else none) := rfl
  rw [e, if_pos h]
@[simp] theorem mulD_rep (h : ds.length * j.toNat ≤ 10000000 ∧ j < 4611686018427387904 ∧ -4611686018427387904 ≤ j) : mulD (.lst ds) (.int j) = some (.lst ((List.replicate j.toNat ds).flatten.map .sh)) := by
  have e : mulL (.lst ds) (.int j) = if ds.length * j.toNat ≤ 10000000 ∧ j < 2 ^ 62 ∧ -(2 ^ 62) ≤ j then some (Val.lst ((List.replicate j.toNat ds).flatten.map .sh)) else none := rfl
  have e1 : mulI (.lst ds) (.int j) = none := rfl
  unfold mulD orG
  rw [e1, e, if_pos ⟨h.1, by omega, by omega⟩]
@[simp] theorem slD_l {lo hi : Option Int} : slD lo hi (.lst ds) = some (.lst ((cutD ds lo hi).map .sh)) := id rfl
@[simp] theorem slD_s {lo hi : Option Int} : slD lo hi (.scr ds) = some (.lst ((cutD ds lo hi).map .sh)) := id rfl
theorem sIx_nn {n d : Nat} (h : 0 ≤ i) : HT.sIx n d (some i) = min i.toNat n := by
  obtain ⟨k, rfl⟩ := Int.eq_ofNat_of_zero_le h
  exact HT.sIx_nat n d k
theorem cutD_ll (h0 : 0 ≤ i) (h1 : 0 ≤ j) : cutD ds (some i) (some j) = (ds.take j.toNat).drop i.toNat := by
  unfold cutD
  rw [sIx_nn h0, sIx_nn h1, List.drop_take]
  refine List.ext_getElem? fun k => ?_
  simp only [List.getElem?_take, List.getElem?_drop]
  by_cases a : i.toNat ≤ ds.length
  · rw [Nat.min_eq_left a]
    by_cases b : k < j.toNat - i.toNat
    · rw [if_pos b]
      by_cases c : k < min j.toNat ds.length - i.toNat
      · rw [if_pos c]
      · rw [if_neg c, List.getElem?_eq_none (by omega)]
    · rw [if_neg b, if_neg (by omega)]
  · rw [Nat.min_eq_right (show ds.length ≤ i.toNat by omega)]
    rw [if_neg (by omega)]
    split
    · rw [List.getElem?_eq_none (by omega)]
    · rfl
theorem cutD_ln (h0 : 0 ≤ i) : cutD ds (some i) none = ds.drop i.toNat := by
  unfold cutD
  rw [sIx_nn h0, HT.sIx_none]
  refine List.ext_getElem? fun k => ?_
  simp only [List.getElem?_take, List.getElem?_drop]
  by_cases a : i.toNat ≤ ds.length
  · rw [Nat.min_eq_left a]
    split
    · rfl
    · rw [List.getElem?_eq_none (by omega)]
  · rw [Nat.min_eq_right (by omega), if_neg (by omega), List.getElem?_eq_none (by omega)]
theorem cutD_nl (h1 : 0 ≤ j) : cutD ds none (some j) = ds.take j.toNat := by
  unfold cutD
  rw [sIx_nn h1, HT.sIx_none, Nat.sub_zero, List.drop_zero]
  refine List.ext_getElem? fun k => ?_
  simp only [List.getElem?_take]
  split <;> split <;> first | rfl | (rw [List.getElem?_eq_none (by omega)]) | (rw [eq_comm, List.getElem?_eq_none (by omega)])
@[simp] theorem rng1_int (h1 : -4611686018427387904 ≤ i) (h2 : i < 4611686018427387904) : rng1 [.int i] = some (rangeL 0 i.toNat) := by
  have e : rng1 [.int i] = if bnd62 i then some (rangeL 0 i.toNat) else none := rfl
  rw [e, if_pos (by unfold bnd62; rw [Bool.and_eq_true]; exact ⟨decide_eq_true (by omega), decide_eq_true (by omega)⟩)]
@[simp] theorem rng2_int (h1 : -4611686018427387904 ≤ i) (h2 : i < 4611686018427387904) (h3 : -4611686018427387904 ≤ j) (h4 : j < 4611686018427387904) : rng2 [.int i, .int j] = some (rangeL i (j - i).toNat) := by
  have e : rng2 [.int i, .int j] = if bnd62 i && bnd62 j then some (rangeL i (j - i).toNat) else none := rfl
  rw [e, if_pos (by unfold bnd62; simp only [Bool.and_eq_true]; exact ⟨⟨decide_eq_true (by omega), decide_eq_true (by omega)⟩, decide_eq_true (by omega), decide_eq_true (by omega)⟩)]
/-! loops -/
@[simp] theorem loop_nil {is : List Nat} : loop g s is [] ρ = .nx ρ := id rfl
def lpK (o : Option DEnv) (k : DEnv → Fl) : Fl := match o with
  | none => .bad
  | some ρ => k ρ
@[simp] theorem lpK_s {k : DEnv → Fl} : lpK (some ρ) k = k ρ := id rfl
@[simp] theorem lpK_n {k : DEnv → Fl} : lpK none k = .bad := id rfl
def flp (x : Fl) (k e : DEnv → Fl) : Fl := match x with
  | .nx ρ => k ρ
  | .ct ρ => k ρ
  | .bk ρ => e ρ
  | .rt x ρ => .rt x ρ
  | .exc e ρ => .exc e ρ
  | .bad => .bad
@[simp] theorem flp_nx {k e : DEnv → Fl} : flp (.nx ρ) k e = k ρ := id rfl
@[simp] theorem flp_ct {k e : DEnv → Fl} : flp (.ct ρ) k e = k ρ := id rfl
@[simp] theorem flp_bk {k e : DEnv → Fl} : flp (.bk ρ) k e = e ρ := id rfl
@[simp] theorem flp_rt {k e : DEnv → Fl} : flp (.rt x ρ) k e = .rt x ρ := id rfl
@[simp] theorem flp_exc {k e : DEnv → Fl} {z : DExn} : flp (.exc z ρ) k e = .exc z ρ := id rfl
@[simp] theorem flp_bad {k e : DEnv → Fl} : flp .bad k e = .bad := id rfl
theorem loop_cons {is : List Nat} : loop g s is (d :: ds) ρ = lpK (g d ρ) fun ρ1 => flp (s ρ1) (fun ρ2 => loop g s is ds (forget is ρ2)) (fun ρ2 => .nx (forget is ρ2)) := by
  rw [loop]
  cases g d ρ with
  | none => rfl
  | some ρ1 =>
    rw [lpK_s]
    show (match s ρ1 with
      | .nx ρ2 => loop g s is ds (forget is ρ2)
      | .ct ρ2 => loop g s is ds (forget is ρ2)
      | .bk ρ2 => .nx (forget is ρ2)
      | .rt x ρ2 => .rt x ρ2
      | .exc e ρ2 => .exc e ρ2
      | .bad => Fl.bad) = _
    cases s ρ1 <;> rfl
/-- an invariant, told of what is left -/
theorem loop_inv {is : List Nat} (I : List D → DEnv → Prop) : ∀ (ds : List D) (ρ : DEnv), I ds ρ →
    (∀ d ds ρ, I (d :: ds) ρ → ∃ ρ1 ρ2, g d ρ = some ρ1 ∧ (s ρ1 = .nx ρ2 ∨ s ρ1 = .ct ρ2) ∧ I ds (forget is ρ2)) → ∃ ρ', loop g s is ds ρ = .nx ρ' ∧ I [] ρ'
  | [], ρ, h, _ => ⟨ρ, rfl, h⟩
  | d :: ds, ρ, h, k => by
    obtain ⟨ρ1, ρ2, e1, e2, h2⟩ := k d ds ρ h
    obtain ⟨ρ', e3, h3⟩ := loop_inv I ds (forget is ρ2) h2 k
    refine ⟨ρ', ?_, h3⟩
    rw [loop]
    simp only [e1]
    rcases e2 with e2 | e2 <;> simp only [e2, e3]
@[simp] theorem rangeL_0 : rangeL i 0 = [] := id rfl
theorem rangeL_s : rangeL i (n + 1) = .int i :: rangeL (i + 1) n := by
  unfold rangeL
  rw [List.range_succ_eq_map, List.map_cons, List.map_map]
  congr 1
  · simp
  · refine List.map_congr_left fun k _ => ?_
    simp; omega
/-- each turn leaves the state that the next one wants -/
theorem loop_fold {α : Type} {is : List Nat} (st : α → DEnv) (step : α → D → α) (P : α → Prop) : ∀ (ds : List D) (z : α), P z →
    (∀ z d, d ∈ ds → P z → P (step z d) ∧ ∃ ρ1 ρ2, g d (st z) = some ρ1 ∧ (s ρ1 = .nx ρ2 ∨ s ρ1 = .ct ρ2) ∧ forget is ρ2 = st (step z d)) → loop g s is ds (st z) = .nx (st (ds.foldl step z))
  | [], z, _, _ => rfl
  | d :: ds, z, hz, h => by
    obtain ⟨h1, ρ1, ρ2, e1, e2, e3⟩ := h z d List.mem_cons_self hz
    rw [List.foldl_cons, ← loop_fold st step P ds (step z d) h1 fun z' d' hd hz' => h z' d' (List.mem_cons_of_mem _ hd) hz']
    rw [loop]
    simp only [e1]
    rcases e2 with e2 | e2 <;> simp only [e2, e3]
theorem loop_same {is : List Nat} (ds : List D) (h : ∀ d, d ∈ ds → ∃ ρ1 ρ2, g d ρ = some ρ1 ∧ (s ρ1 = .nx ρ2 ∨ s ρ1 = .ct ρ2) ∧ forget is ρ2 = ρ) : loop g s is ds ρ = .nx ρ :=
  (loop_fold (α := Unit) (fun _ => ρ) (fun z _ => z) (fun _ => True) ds () trivial fun z d hd _ => ⟨trivial, h d hd⟩)
theorem loop_fold2 {α : Type} {is : List Nat} (st : α → DEnv) (step : α → D → α) (P : α → Prop) : ∀ (ds : List D) (z : α), P z →
    (∀ z d, d ∈ ds → P z → P (step z d) ∧ (lpK (g d (st z)) fun ρ1 => flp (s ρ1) (fun ρ2 => .nx (forget is ρ2)) fun _ => .bad) = .nx (st (step z d))) → loop g s is ds (st z) = .nx (st (ds.foldl step z))
  | [], z, _, _ => rfl
  | d :: ds, z, hz, h => by
    obtain ⟨h1, e⟩ := h z d List.mem_cons_self hz
    rw [List.foldl_cons, ← loop_fold2 st step P ds (step z d) h1 fun z' d' hd hz' => h z' d' (List.mem_cons_of_mem _ hd) hz']
    rw [loop_cons]
    cases e1 : g d (st z) with
    | none => rw [e1] at e; cases e
    | some ρ1 =>
      rw [e1] at e
      simp only [lpK_s] at e ⊢
      cases e2 : s ρ1 <;> rw [e2] at e <;> simp only [flp_nx, flp_ct, flp_bk, flp_rt, flp_exc, flp_bad, Fl.nx.injEq] at e ⊢
      all_goals first | exact Fl.noConfusion e | rw [e]
theorem loop_same2 {is : List Nat} (h : ∀ d, d ∈ ds → (lpK (g d ρ) fun ρ1 => flp (s ρ1) (fun ρ2 => .nx (forget is ρ2)) fun _ => .bad) = .nx ρ) : loop g s is ds ρ = .nx ρ :=
  (loop_fold2 (α := Unit) (fun _ => ρ) (fun z _ => z) (fun _ => True) ds () trivial fun z d hd _ => ⟨trivial, h d hd⟩)
theorem loop_reln {is : List Nat} (I : Nat → DEnv → Prop) : ∀ (ds : List D) (n : Nat) (ρ : DEnv), I n ρ → (∀ m d ρ, d ∈ ds → m < n + ds.length → I m ρ → ∃ ρ', (lpK (g d ρ) fun ρ1 => flp (s ρ1) (fun ρ2 => .nx (forget is ρ2)) fun _ => .bad) = .nx ρ' ∧ I (m + 1) ρ') → ∃ ρ', loop g s is ds ρ = .nx ρ' ∧ I (n + ds.length) ρ'
  | [], n, ρ, h, _ => ⟨ρ, rfl, h⟩
  | d :: ds, n, ρ, h, k => by
    obtain ⟨ρ1, e, h1⟩ := k n d ρ List.mem_cons_self (by simp) h
    obtain ⟨ρ2, e2, h2⟩ := loop_reln I ds (n + 1) ρ1 h1 fun m d' ρ' hd hm => k m d' ρ' (List.mem_cons_of_mem _ hd) (by simp only [List.length_cons]; omega)
    refine ⟨ρ2, ?_, by rw [List.length_cons, show n + (ds.length + 1) = n + 1 + ds.length by omega]; exact h2⟩
    rw [loop_cons, ← e2]
    cases e1 : g d ρ with
    | none => rw [e1] at e; cases e
    | some ρ3 =>
      rw [e1] at e
      simp only [lpK_s] at e ⊢
      cases e4 : s ρ3 <;> rw [e4] at e <;> simp only [flp_nx, flp_ct, flp_bk, flp_rt, flp_exc, flp_bad, Fl.nx.injEq] at e ⊢
      all_goals first | exact Fl.noConfusion e | rw [e]
theorem loop_rel {is : List Nat} (I : DEnv → Prop) (h0 : I ρ) (h : ∀ d ρ, d ∈ ds → I ρ → ∃ ρ', (lpK (g d ρ) fun ρ1 => flp (s ρ1) (fun ρ2 => .nx (forget is ρ2)) fun _ => .bad) = .nx ρ' ∧ I ρ') : ∃ ρ', loop g s is ds ρ = .nx ρ' ∧ I ρ' :=
  loop_reln (fun _ => I) ds 0 ρ h0 fun _ d ρ hd _ hI => h d ρ hd hI
/-- a walk that may end it -/
def endF (o : Option Val) (ρ ρ' : DEnv) : Fl := match o with
  | none => .nx ρ
  | some x => .rt x ρ'
@[simp] theorem endF_n {ρ ρ' : DEnv} : endF none ρ ρ' = .nx ρ := id rfl
@[simp] theorem endF_s {x : Val} {ρ ρ' : DEnv} : endF (some x) ρ ρ' = .rt x ρ' := id rfl
theorem loop_find {is : List Nat} (R : D → Option Val) : ∀ (ds : List D), (∀ d, d ∈ ds → ∃ ρ', (lpK (g d ρ) fun ρ1 => flp (s ρ1) (fun ρ2 => .nx (forget is ρ2)) fun _ => .bad) = endF (R d) ρ ρ') → ∃ ρ', loop g s is ds ρ = endF (ds.findSome? R) ρ ρ'
  | [], _ => ⟨ρ, rfl⟩
  | d :: ds, h => by
    obtain ⟨ρ1, e⟩ := h d List.mem_cons_self
    obtain ⟨ρ2, e2⟩ := loop_find R ds fun d' hd => h d' (List.mem_cons_of_mem _ hd)
    rw [loop_cons, List.findSome?_cons]
    cases e1 : g d ρ with
    | none => rw [e1] at e; cases hR : R d <;> rw [hR] at e <;> cases e
    | some ρ3 =>
      rw [e1] at e
      simp only [lpK_s] at e ⊢
      cases hR : R d with
      | none =>
        rw [hR] at e
        refine ⟨ρ2, ?_⟩
        cases e4 : s ρ3 <;> rw [e4] at e <;> simp only [flp_nx, flp_ct, flp_bk, flp_rt, flp_exc, flp_bad, endF_n, Fl.nx.injEq] at e ⊢
        all_goals first | exact Fl.noConfusion e | (rw [e]; exact e2)
      | some x =>
        rw [hR] at e
        refine ⟨ρ1, ?_⟩
        cases e4 : s ρ3 <;> rw [e4] at e <;> simp only [flp_nx, flp_ct, flp_bk, flp_rt, flp_exc, flp_bad, endF_s] at e ⊢
        all_goals first | exact Fl.noConfusion e | exact e
def RD (f : Nat → Option Val) : D → Option Val := fun d => match d with
  | .int i => f i.toNat
  | _ => none
theorem findSome_RD (f : Nat → Option Val) (n : Nat) : (rangeL 0 n).findSome? (RD f) = (List.range n).findSome? f := by
  unfold rangeL
  rw [List.findSome?_map]
  congr 1
  funext k
  show f ((0 : Int) + (k : Int)).toNat = f k
  congr 1
  omega
theorem loop_range {is : List Nat} {n : Nat} (f : Nat → Option Val) (h : ∀ k : Nat, k < n → ∃ ρ', (lpK (g (.int (k : Int)) ρ) fun ρ1 => flp (s ρ1) (fun ρ2 => .nx (forget is ρ2)) fun _ => .bad) = endF (f k) ρ ρ') : ∃ ρ', loop g s is (rangeL 0 n) ρ = endF ((List.range n).findSome? f) ρ ρ' := by
  rw [← findSome_RD]
  refine loop_find (RD f) _ fun d hd => ?_
  unfold rangeL at hd
  obtain ⟨k, hk, rfl⟩ := List.mem_map.mp hd
  rw [show (0 : Int) + (k : Int) = (k : Int) by omega]
  exact h k (List.mem_range.mp hk)
theorem comp_map {is : List Nat} (F : D → D) (hg : ∀ d, d ∈ ds → ∃ ρ1 ρ2, g d ρ = some ρ1 ∧ f ρ1 = .ok (.sh (F d)) ρ2 ∧ forget is ρ2 = ρ) : ∀ acc, comp g sYes f is ds acc ρ = .ok (.lst (acc ++ (ds.map F).map .sh)) ρ := by
  induction ds with
  | nil => intro acc; simp [comp]
  | cons d ds ih =>
    intro acc
    obtain ⟨ρ1, ρ2, e1, e2, e3⟩ := hg d List.mem_cons_self
    rw [comp]
    simp only [e1, sYes_ap, e2, e3]
    rw [ih fun d' hd => hg d' (List.mem_cons_of_mem _ hd)]
    simp
def lpR (o : Option DEnv) (k : DEnv → R Val) : R Val := match o with
  | none => .bad
  | some ρ => k ρ
@[simp] theorem lpR_s {k : DEnv → R Val} : lpR (some ρ) k = k ρ := id rfl
@[simp] theorem lpR_n {k : DEnv → R Val} : lpR none k = .bad := id rfl
theorem comp_mapA {α : Type} {is : List Nat} (φ F : α → D) : ∀ (l : List α) (acc : List Val), (∀ a, a ∈ l → (lpR (g (φ a) ρ) fun ρ1 => (f ρ1).bind fun x ρ2 => .ok x (forget is ρ2)) = .ok (.sh (F a)) ρ) → comp g sYes f is (l.map φ) acc ρ = .ok (.lst (acc ++ (l.map F).map .sh)) ρ
  | [], acc, _ => by simp [comp]
  | a :: l, acc, h => by
    have e := h a List.mem_cons_self
    have ih := comp_mapA φ F l (acc ++ [.sh (F a)]) fun b hb => h b (List.mem_cons_of_mem _ hb)
    rw [List.map_cons, comp]
    cases e1 : g (φ a) ρ with
    | none => rw [e1] at e; cases e
    | some ρ1 =>
      rw [e1] at e
      simp only [lpR_s] at e
      simp only [sYes_ap]
      cases e2 : f ρ1 with
      | bad => rw [e2] at e; cases e
      | exc _ _ => rw [e2] at e; cases e
      | ok x ρ2 =>
        rw [e2] at e
        simp only [R.bind_ok, R.ok.injEq] at e
        simp only [e.1, e.2]
        rw [ih]
        simp
theorem comp_filter {is : List Nat} (F : D → D) (p : D → Bool) (hg : ∀ d, d ∈ ds → ∃ ρ1 ρ2, g d ρ = some ρ1 ∧ t ρ1 = .ok (p d) ρ2 ∧ (p d = false → forget is ρ2 = ρ) ∧ (p d = true → ∃ ρ3, f ρ2 = .ok (.sh (F d)) ρ3 ∧ forget is ρ3 = ρ)) : ∀ acc, comp g t f is ds acc ρ = .ok (.lst (acc ++ ((ds.filter p).map F).map .sh)) ρ := by
  induction ds with
  | nil => intro acc; simp [comp]
  | cons d ds ih =>
    intro acc
    obtain ⟨ρ1, ρ2, e1, e2, e3, e4⟩ := hg d List.mem_cons_self
    have ih' := ih fun d' hd => hg d' (List.mem_cons_of_mem _ hd)
    rw [comp]
    simp only [e1, e2]
    cases hp : p d with
    | false => simp only [e3 hp]; rw [ih']; simp [hp]
    | true =>
      obtain ⟨ρ3, e5, e6⟩ := e4 hp
      simp only [e5, e6]
      rw [ih']; simp [hp]
end
@[simp] theorem env0_ap {n : Nat} {ds : List D} : env0 n ds = ds.map (fun d => some (.sh d)) ++ List.replicate (n - ds.length) none := id rfl
/-- the cell of a script -/
def cellI (ns : List Int) (k : Int) : Int := ns.getD k.toNat 0
theorem cellI_get {ns : List Int} {k : Int} (h : k < (ns.length : Int)) (h0 : 0 ≤ k) : ns[k.toNat]? = some (cellI ns k) := by
  unfold cellI
  rw [List.getD_eq_getElem?_getD, List.getElem?_eq_getElem (show k.toNat < ns.length by omega)]; rfl
theorem cellI_el {ns : List Int} {k : Int} (h : k.toNat < ns.length) : ns[k.toNat] = cellI ns k := by
  unfold cellI
  rw [List.getD_eq_getElem?_getD, List.getElem?_eq_getElem h]; rfl
theorem cellI_out {ns : List Int} {k : Int} (h : ¬ k < (ns.length : Int)) (h0 : 0 ≤ k) : cellI ns k = 0 := by
  unfold cellI
  rw [List.getD_eq_getElem?_getD, List.getElem?_eq_none (by omega)]; rfl
/-- a run of a script -/
def segI (ns : List Int) (i j : Nat) : List Int := (ns.take j).drop i
theorem segI_len (ns : List Int) (i j : Nat) : (segI ns i j).length ≤ ns.length := by
  unfold segI
  rw [List.length_drop, List.length_take]; omega
theorem segI_le (ns : List Int) (i j : Nat) : (segI ns i j).length ≤ j - i := by
  unfold segI
  rw [List.length_drop, List.length_take]; omega
theorem slD_scr {ns : List Int} {i j : Int} (h0 : 0 ≤ i) (h1 : 0 ≤ j) : slD (some i) (some j) (scrI ns) = some (.lst ((segI ns i.toNat j.toNat).map fun n => .sh (.int n))) := by
  unfold scrI segI
  rw [slD_s, cutD_ll h0 h1, ← List.map_take, ← List.map_drop, List.map_map]; rfl
theorem slD_scr_n {ns : List Int} {i : Int} (h0 : 0 ≤ i) : slD (some i) none (scrI ns) = some (.lst ((segI ns i.toNat ns.length).map fun n => .sh (.int n))) := by
  unfold scrI segI
  rw [slD_s, cutD_ln h0, List.take_length, ← List.map_drop, List.map_map]; rfl
@[simp] theorem fzs_mi {α : Type} {f : α → D} {l : List α} : fzs (l.map fun n => .sh (f n)) = l.map f := by
  induction l with
  | nil => rw [List.map_nil, fzs_nil]; rfl
  | cons a l ih => rw [List.map_cons, fzs_cons, ih, fz_sh]; rfl
@[simp] theorem fzs_mc {α : Type} {f : α → D} {l : List α} : fzs (l.map (Val.sh ∘ f)) = l.map f := fzs_mi
theorem mem_mapI {l : List Int} {d : D} (h : d ∈ l.map D.int) : ∃ n, d = .int n := by
  obtain ⟨n, _, rfl⟩ := List.mem_map.mp h
  exact ⟨n, rfl⟩
theorem while_done {α : Type} {t : DEnv → R Bool} {s : DEnv → Fl} {is : List Nat} (st : α → DEnv) (step : α → α) (c : α → Bool) (μ : α → Nat) (P : α → Prop) (ht : ∀ z, P z → t (st z) = .ok (c z) (st z))
    (hs : ∀ z, P z → c z = true → P (step z) ∧ μ (step z) < μ z ∧ flp (s (st z)) (fun ρ2 => .nx (forget is ρ2)) (fun _ => .bad) = .nx (st (step z))) (z : α) (ρ : DEnv) (h0 : forget is ρ = st z) (hz : P z) : ∃ z', P z' ∧ c z' = false ∧ sWhile t s is ρ = .nx (st z') := by
  have key : ∀ n z, μ z < n → P z → ∃ z', P z' ∧ c z' = false ∧ whileN t s is n (st z) = .nx (st z') := by
    intro n
    induction n with
    | zero => intro z h; omega
    | succ n ih =>
      intro z h hz
      rw [whileN]
      simp only [ht z hz]
      cases hc : c z with
      | false => exact ⟨z, hz, hc, rfl⟩
      | true =>
        obtain ⟨h1, h2, h3⟩ := hs z hz hc
        simp only
        obtain ⟨z', q1, q2, q3⟩ := ih (step z) (by omega) h1
        refine ⟨z', q1, q2, ?_⟩
        cases e2 : s (st z) <;> rw [e2] at h3 <;> simp only [flp_nx, flp_ct, flp_bk, flp_rt, flp_exc, flp_bad, Fl.nx.injEq] at h3 ⊢
        all_goals first | exact Fl.noConfusion h3 | (rw [h3]; exact q3)
  obtain ⟨z', q1, q2, q3⟩ := key (μ z + 1) z (by omega) hz
  refine ⟨z', q1, q2, ?_⟩
  rw [sWhile_eq (n := μ z + 1)] <;> rw [h0, q3]
  intro e; cases e
theorem gcd_fmod (a b : Int) : Int.gcd b (a.fmod b) = Int.gcd a b := by
  have h : a.fmod b = a - b * a.fdiv b := by have := Int.mul_fdiv_add_fmod a b; omega
  have h2 : a = (a.fmod b) + b * a.fdiv b := by omega
  rw [Int.gcd_comm a b]
  conv => rhs; rw [h2]
  rw [Int.gcd_add_mul_left_right]
theorem natAbs_fmod_lt (a b : Int) (h : b ≠ 0) : (a.fmod b).natAbs < b.natAbs := by
  rcases Int.lt_or_gt_of_ne h with h | h
  · have h1 := Int.emod_nonneg a (show b ≠ 0 by omega)
    have h2 := Int.emod_lt a (show b ≠ 0 by omega)
    rw [Int.fmod_eq_emod]
    split
    · omega
    · rename_i hd
      have h3 : a % b ≠ 0 := fun e => hd (.inr (Int.dvd_of_emod_eq_zero e))
      omega
  · have h1 := Int.fmod_nonneg_of_pos a h
    have h2 := Int.fmod_lt_of_pos a h
    omega
theorem euclid {t : DEnv → R Bool} {s : DEnv → Fl} {is : List Nat} (st : Int → Int → DEnv) (ht : ∀ a b, t (st a b) = .ok (decide (b ≠ 0)) (st a b))
    (hs : ∀ a b, b ≠ 0 → flp (s (st a b)) (fun ρ2 => .nx (forget is ρ2)) (fun _ => .bad) = .nx (st b (a.fmod b))) (a b : Int) (ρ : DEnv) (h0 : forget is ρ = st a b) : ∃ g : Int, g.natAbs = Int.gcd a b ∧ sWhile t s is ρ = .nx (st g 0) := by
  obtain ⟨⟨g, k⟩, h1, h2, h3⟩ := while_done (α := Int × Int) (t := t) (s := s) (is := is) (fun z => st z.1 z.2) (fun z => (z.2, z.1.fmod z.2)) (fun z => decide (z.2 ≠ 0)) (fun z => z.2.natAbs) (fun z => Int.gcd z.1 z.2 = Int.gcd a b) (fun z _ => ht z.1 z.2)
    (fun z hz hc => ⟨by rw [← hz]; exact gcd_fmod _ _, natAbs_fmod_lt _ _ (by simpa using hc), hs z.1 z.2 (by simpa using hc)⟩) (a, b) ρ h0 rfl
  have hk : k = 0 := by simpa using h2
  subst hk
  refine ⟨g, ?_, h3⟩
  rw [← h1]; simp
@[simp] theorem sSigns_ap {f : DEnv → R Val} {ρ : DEnv} : sSigns f ρ = (f ρ).bind fun x ρ1 => liftL (signsD x.fz) ρ1 := id rfl
@[simp] theorem signsD_s {z : Str} : signsD (.str z) = some (signsL z) := id rfl
@[simp] theorem sJoin_ap {fa fb : DEnv → R Val} {ρ : DEnv} : sJoin fa fb ρ = (fa ρ).bind fun x ρ1 => joinK x.fz fun a => (fb ρ1).bind fun y ρ2 => liftO (joinD a y.fz) ρ2 := id rfl
@[simp] theorem joinK_s {z : Str} {k : Str → R Val} : joinK (.str z) k = k z := id rfl
theorem repS_ok {a : Str} {k : Int} (h : CRepS a k) : repS (.str a) (.int k) = some (.sh (.str (Txt.mul a k))) := by
  have e : repS (.str a) (.int k) = if CRepS a k then some (.sh (.str (Txt.mul a k))) else none := rfl
  rw [e, if_pos h]
theorem dStrs_map (l : List Str) : dStrs (l.map .str) = some l := by
  induction l with
  | nil => rfl
  | cons a l ih => rw [List.map_cons, dStrs, ih]; rfl
theorem joinD_map {a : Str} {l : List Str} (h : (l.map (·.length)).sum + l.length * a.length ≤ 10000000) : joinD a (.lst (l.map .str)) = some (.sh (.str (Txt.join a l))) := by
  show (dStrs (l.map .str)).bind _ = _
  rw [dStrs_map]
  show (if _ then _ else _) = _
  rw [if_pos h]
theorem lenD_str {z : Str} (h : z.length ≤ 10000000) : lenD (.str z) = some (.sh (.int z.length)) := by
  have e : lenD (.str z) = if z.length ≤ 10000000 then some (.sh (.int z.length)) else none := rfl
  rw [e, if_pos h]
theorem addD_str {a b : Str} (h : a.length + b.length ≤ 10000000) : addD (.str a) (.str b) = some (.sh (.str (a ++ b))) := by
  have e : addD (.str a) (.str b) = match (if a.length + b.length ≤ 10000000 then some (Val.sh (.str (a ++ b))) else none) with | some x => some x | none => none := rfl
  rw [e, if_pos h]
@[simp] theorem sTake_ap {n : Nat} {ρ : DEnv} : sTake n ρ = takeR (getV ρ[n]?) n ρ := id rfl
@[simp] theorem takeR_s {x : Val} {n : Nat} {ρ : DEnv} : takeR (some x) n ρ = .ok x (ρ.set n none) := id rfl
@[simp] theorem sLendT_ap {f : DEnv → R Bool} {ρ : DEnv} : sLendT f ρ = lendT (f (ρ.map frO)) ρ := id rfl
@[simp] theorem lendT_ok {b : Bool} {ρ ρ1 : DEnv} : lendT (.ok b ρ1) ρ = .ok b ρ := id rfl
def appIxO (o : Option Val) (k : Fl) : Fl := match o with
  | none => .bad
  | some _ => k
@[simp] theorem appIxO_s {x : Val} {k : Fl} : appIxO (some x) k = k := id rfl
@[simp] theorem sAppIx_ap {n : Nat} {fk : DEnv → R Val} {d : D} {ρ : DEnv} : sAppIx n fk d ρ = appIxO (getV ρ[n]?) ((fk ρ).fl fun y ρ1 => appIxV (getV ρ1[n]?) n y.fz d ρ1) := by
  unfold sAppIx appIxO
  cases getV ρ[n]? <;> rfl
theorem appIxV_t {ys ys' : List Val} {n : Nat} {i : Int} {d : D} {ρ : DEnv} (h : appIn ys i d = some ys') : appIxV (some (.tup ys)) n (.int i) d ρ = .nx (ρ.set n (some (.tup ys'))) := by
  unfold appIxV
  simp only [h]
theorem appIxV_l {ys ys' : List Val} {n : Nat} {i : Int} {d : D} {ρ : DEnv} (h : appIn ys i d = some ys') : appIxV (some (.lst ys)) n (.int i) d ρ = .nx (ρ.set n (some (.lst ys'))) := by
  unfold appIxV
  simp only [h]
@[simp] theorem revD_l {ds : List D} : revD (.lst ds) = some (.lst (ds.reverse.map .sh)) := id rfl
@[simp] theorem sLend_ap {f : DEnv → R Val} {ρ : DEnv} : sLend f ρ = lendR (f (ρ.map frO)) ρ := id rfl
@[simp] theorem frO_n : frO none = none := id rfl
@[simp] theorem frO_s {x : Val} : frO (some x) = some (.sh x.fz) := id rfl
@[simp] theorem lendR_i {i : Int} {ρ ρ1 : DEnv} : lendR (.ok (.sh (.int i)) ρ1) ρ = .ok (.sh (.int i)) ρ := id rfl
@[simp] theorem lendR_b {i : Bool} {ρ ρ1 : DEnv} : lendR (.ok (.sh (.bl i)) ρ1) ρ = .ok (.sh (.bl i)) ρ := id rfl
@[simp] theorem lendR_s {i : Str} {ρ ρ1 : DEnv} : lendR (.ok (.sh (.str i)) ρ1) ρ = .ok (.sh (.str i)) ρ := id rfl
@[simp] theorem lendR_n {ρ ρ1 : DEnv} : lendR (.ok (.sh .non) ρ1) ρ = .ok (.sh .non) ρ := id rfl
theorem orC_1 {g h : List D → Option Val} {ds : List D} {x : Val} (e : g ds = some x) : orC g h ds = some x := by
  unfold orC; rw [e]
theorem orC_2 {g h : List D → Option Val} {ds : List D} (e : g ds = none) : orC g h ds = h ds := by
  unfold orC; rw [e]
theorem dInts_map (l : List Int) : dInts (l.map .int) = some l := by
  induction l with
  | nil => rfl
  | cons a l ih => rw [List.map_cons, dInts, ih]; rfl
theorem maxL_map {h : List D → Option Val} {l : List Int} (h0 : 0 < l.length) : orC (g1 maxD) h [.lst (l.map .int)] = some (.sh (.int (maxI l))) := by
  refine orC_1 ?_
  show (dInts (l.map .int)).bind _ = _
  rw [dInts_map]
  show (if 0 < l.length then _ else _) = _
  rw [if_pos h0]
theorem maxI_ge : ∀ {l : List Int} {y : Int}, y ∈ l → y ≤ maxI l
  | a :: l, y, h => by
    obtain ⟨_, h2, h3⟩ := foldl_max_mem l a
    show y ≤ l.foldl max a
    rcases List.mem_cons.mp h with e | h
    · omega
    · exact h3 y h
theorem maxI_mem : ∀ {l : List Int}, l ≠ [] → maxI l ∈ l
  | [], h => absurd rfl h
  | a :: l, _ => by
    obtain ⟨h1, _, _⟩ := foldl_max_mem l a
    show l.foldl max a ∈ a :: l
    rcases h1 with e | h1
    · rw [e]; exact List.mem_cons_self
    · exact List.mem_cons_of_mem _ h1
theorem minL_map {h : List D → Option Val} {l : List Int} (h0 : 0 < l.length) : orC (g1 minD) h [.lst (l.map .int)] = some (.sh (.int (minI l))) := by
  refine orC_1 ?_
  show (dInts (l.map .int)).bind _ = _
  rw [dInts_map]
  show (if 0 < l.length then _ else _) = _
  rw [if_pos h0]
@[simp] theorem minT3 {i j k : Int} : orC (g1 minD) (g1 minTD) [.tup [.int i, .int j, .int k]] = some (.sh (.int (min i (min j k)))) := by rw [← Int.min_assoc]; rfl
@[simp] theorem maxT3 {i j k : Int} : orC (g1 maxD) (g1 maxTD) [.tup [.int i, .int j, .int k]] = some (.sh (.int (max i (max j k)))) := by rw [← Int.max_assoc]; rfl
theorem sumL_map {l : List Int} : sumD (.lst (l.map .int)) = some (.sh (.int l.sum)) := by
  show (dInts (l.map .int)).bind _ = _
  rw [dInts_map]; rfl
theorem dBls_map (l : List Bool) : dBls (l.map .bl) = some l := by
  induction l with
  | nil => rfl
  | cons a l ih => rw [List.map_cons, dBls, ih]; rfl
theorem allL_map {l : List Bool} : allD (.lst (l.map .bl)) = some (.sh (.bl (l.all fun b => b))) := by
  show (dBls (l.map .bl)).bind _ = _
  rw [dBls_map]; rfl
theorem anyL_map {l : List Bool} : anyD (.lst (l.map .bl)) = some (.sh (.bl (l.any fun b => b))) := by
  show (dBls (l.map .bl)).bind _ = _
  rw [dBls_map]; rfl
@[simp] theorem lenD_scr {ns : List Int} : lenD (scrI ns) = some (.sh (.int ns.length)) := by unfold scrI; simp
theorem ixD_scr {ns : List Int} {k : Int} (h : 0 ≤ k) (h1 : k < (ns.length : Int)) : ixD (scrI ns) (.int k) = some (.sh (.int (cellI ns k))) := by
  unfold scrI
  rw [ixD_s h, List.getElem?_map, cellI_get h1 h]; rfl
theorem euclid_nn {t : DEnv → R Bool} {s : DEnv → Fl} {is : List Nat} (st : Int → Int → DEnv) (ht : ∀ a b, t (st a b) = .ok (decide (b ≠ 0)) (st a b))
    (hs : ∀ a b, b ≠ 0 → flp (s (st a b)) (fun ρ2 => .nx (forget is ρ2)) (fun _ => .bad) = .nx (st b (a.fmod b))) (a b : Int) (ρ : DEnv) (h0 : forget is ρ = st a b) (ha : 0 ≤ a) (hb : 0 ≤ b) : sWhile t s is ρ = .nx (st (Int.gcd a b) 0) := by
  obtain ⟨⟨g, k⟩, ⟨h1, h4, h5⟩, h2, h3⟩ := while_done (α := Int × Int) (t := t) (s := s) (is := is) (fun z => st z.1 z.2) (fun z => (z.2, z.1.fmod z.2)) (fun z => decide (z.2 ≠ 0)) (fun z => z.2.natAbs) (fun z => Int.gcd z.1 z.2 = Int.gcd a b ∧ 0 ≤ z.1 ∧ 0 ≤ z.2) (fun z _ => ht z.1 z.2)
    (fun z hz hc => ⟨⟨by rw [← hz.1]; exact gcd_fmod _ _, hz.2.2, Int.fmod_nonneg hz.2.1 hz.2.2⟩, natAbs_fmod_lt _ _ (by simpa using hc), hs z.1 z.2 (by simpa using hc)⟩) (a, b) ρ h0 ⟨rfl, ha, hb⟩
  have hk : k = 0 := by simpa using h2
  subst hk
  have e : g = (Int.gcd a b : Int) := by
    simp at h1 h4
    omega
  rw [h3, e]
theorem mem_rangeC' {i j c : Int} (hc : 0 < c) {d : D} (h : d ∈ rangeC i c (Builtin.Range.rangeSize i j c).toNat) : ∃ x : Int, d = .int x ∧ i ≤ x ∧ x < j := by
  unfold rangeC at h
  simp only [List.mem_map, List.mem_range] at h
  obtain ⟨k, h, rfl⟩ := h
  unfold Builtin.Range.rangeSize at h
  rw [if_pos hc] at h
  split at h
  · have h1 : (k : Int) ≤ (j - i - 1) / c := by omega
    have h2 : (k : Int) * c ≤ (j - i - 1) / c * c := Int.mul_le_mul_of_nonneg_right h1 (by omega)
    have h3 := Int.ediv_mul_le (j - i - 1) (show c ≠ 0 by omega)
    have h4 : 0 ≤ (k : Int) * c := Int.mul_nonneg (by omega) (by omega)
    exact ⟨_, rfl, by omega, by omega⟩
  · omega
theorem rangeC_len {i c : Int} {n : Nat} : (rangeC i c n).length = n := by simp [rangeC]
theorem mem_rangeC {i c : Int} {n : Nat} {d : D} : d ∈ rangeC i c n ↔ ∃ k : Nat, k < n ∧ d = .int (i + k * c) := by
  unfold rangeC
  simp only [List.mem_map, List.mem_range]
  exact ⟨fun ⟨k, h, e⟩ => ⟨k, h, e.symm⟩, fun ⟨k, h, e⟩ => ⟨k, h, e.symm⟩⟩
theorem rng3_int {i j c : Int} (h : rngOk i j c) : rng3 [.int i, .int j, .int c] = some (rangeC i c (Builtin.Range.rangeSize i j c).toNat) := by
  have e : rng3 [.int i, .int j, .int c] = if rngOk i j c then some (rangeC i c (Builtin.Range.rangeSize i j c).toNat) else none := rfl
  rw [e, if_pos h]
theorem mem_rangeL {i : Int} {n : Nat} {d : D} : d ∈ rangeL i n ↔ ∃ k : Nat, k < n ∧ d = .int (i + k) := by
  unfold rangeL
  simp only [List.mem_map, List.mem_range]
  exact ⟨fun ⟨k, h, e⟩ => ⟨k, h, e.symm⟩, fun ⟨k, h, e⟩ => ⟨k, h, e.symm⟩⟩
/-! instances -/
def mtR (r : R Val) (k : Val → DEnv → R Val) : R Val := match r with
  | .ok x ρ => k x ρ
  | _ => .bad
@[simp] theorem mtR_ok {x : Val} {ρ : DEnv} {k : Val → DEnv → R Val} : mtR (.ok x ρ) k = k x ρ := id rfl
def mtO (o : Option (List D → CR)) (k : (List D → CR) → R Val) : R Val := match o with
  | some φ => k φ
  | none => .bad
@[simp] theorem mtO_s {φ : List D → CR} {k : (List D → CR) → R Val} : mtO (some φ) k = k φ := id rfl
@[simp] theorem sMeth_ap {tab : List (Addr × (List D → CR))} {m : Str} {n : Nat} {fo : DEnv → R Val} {fs : DEnv → R (List Val)} {ρ : DEnv} : sMeth tab m n fo fs ρ = mtR (fo ρ) fun x ρ1 => mtO (methD tab m x.fz) fun φ => (fs ρ1).bind fun ys ρ2 => if ys.length + 1 = n then crM (φ (x.fz :: fzs ys)) ρ2 else .bad := id rfl
@[simp] theorem crM_r {y : Val} {ρ : DEnv} : crM (.ret y) ρ = .ok y ρ := id rfl
theorem methD_ins {tab : List (Addr × (List D → CR))} {m : Str} {C : Addr} {ns : List Str} {ds : List D} : methD tab m (.ins C ns ds) = if m ∈ ns then none else tab.lookup C := id rfl
theorem fldD_ins {Cs : List Addr} {f : Str} {C : Addr} {ns : List Str} {ds : List D} : fldD Cs f (.ins C ns ds) = if C ∈ Cs then ((ns.zip ds).lookup f).map .sh else none := id rfl
@[simp] theorem sMake_ap {C : Addr} {φ : List D → Option (List Str × List D)} {n : Nat} {fs : DEnv → R (List Val)} {ρ : DEnv} : sMake C φ n fs ρ = (fs ρ).bind fun ys ρ1 => if ys.length = n then liftO ((φ (fzs ys)).map fun p => .sh (.ins C p.1 p.2)) ρ1 else .bad := id rfl
def runK (r : R Val) (k : Val → DEnv → Option (List Str × List D)) : Option (List Str × List D) := match r with
  | .ok y ρ => k y ρ
  | _ => none
@[simp] theorem runK_ok {x : Val} {ρ : DEnv} {k : Val → DEnv → Option (List Str × List D)} : runK (.ok x ρ) k = k x ρ := id rfl
theorem runInit_cons {f : Str} {fe : DEnv → R Val} {r : List (Str × (DEnv → R Val))} {ρ : DEnv} {ns : List Str} {ds : List D} : runInit ((f, fe) :: r) ρ ns ds = if f ∈ ns then none else runK (fe ρ) fun y ρ1 => runInit r ρ1 (ns ++ [f]) (ds ++ [y.fz]) := id rfl
theorem runInit_nil {ρ : DEnv} {ns : List Str} {ds : List D} : runInit [] ρ ns ds = some (ns, ds) := id rfl
theorem isiC_ins {tab : List (Addr × Bool)} {C : Addr} {ns : List Str} {ds : List D} : isiC tab (.ins C ns ds) = (tab.lookup C).map fun b => .sh (.bl b) := id rfl
theorem loop_turn {g : D → DEnv → Option DEnv} {t : DEnv → Fl} {is : List Nat} {d : D} {ds : List D} {ρ ρ' : DEnv} (h : (lpK (g d ρ) fun ρ1 => flp (t ρ1) (fun ρ2 => .nx (forget is ρ2)) fun _ => .bad) = .nx ρ') : loop g t is (d :: ds) ρ = loop g t is ds ρ' := by
  rw [loop_cons]
  cases e : g d ρ with
  | none => rw [e] at h; cases h
  | some ρ1 =>
    rw [e] at h
    rw [lpK_s] at h ⊢
    cases e2 : t ρ1 with
    | nx ρ2 => rw [e2] at h; rw [flp_nx] at h ⊢; cases h; rfl
    | ct ρ2 => rw [e2] at h; rw [flp_ct] at h ⊢; cases h; rfl
    | bk ρ2 => rw [e2] at h; cases h
    | rt x ρ2 => rw [e2] at h; cases h
    | exc x ρ2 => rw [e2] at h; cases h
    | bad => rw [e2] at h; cases h
section
variable {g : D → DEnv → Option DEnv} {t : DEnv → R Bool} {f : DEnv → R Val} {ρ : DEnv}
theorem comp_filA {α : Type} {is : List Nat} (φ F : α → D) (p : α → Bool) : ∀ (l : List α) (acc : List Val), (∀ a, a ∈ l → ∃ ρ1 ρ2, g (φ a) ρ = some ρ1 ∧ t ρ1 = .ok (p a) ρ2 ∧ (p a = false → forget is ρ2 = ρ) ∧ (p a = true → ∃ ρ3, f ρ2 = .ok (.sh (F a)) ρ3 ∧ forget is ρ3 = ρ)) → comp g t f is (l.map φ) acc ρ = .ok (.lst (acc ++ ((l.filter p).map F).map .sh)) ρ
  | [], acc, _ => by simp [comp]
  | a :: l, acc, h => by
    obtain ⟨ρ1, ρ2, e1, e2, e3, e4⟩ := h a List.mem_cons_self
    rw [List.map_cons, comp]
    simp only [e1, e2]
    cases hp : p a with
    | false =>
      simp only [e3 hp]
      rw [comp_filA φ F p l acc fun b hb => h b (List.mem_cons_of_mem _ hb)]
      simp [hp]
    | true =>
      obtain ⟨ρ3, e5, e6⟩ := e4 hp
      simp only [e5, e6]
      rw [comp_filA φ F p l _ fun b hb => h b (List.mem_cons_of_mem _ hb)]
      simp [hp]
end
@[simp] theorem g3_int {i j k : Int} : g3 max3D [.int i, .int j, .int k] = some (.sh (.int (max i (max j k)))) := id rfl
def clrV (o : Option Val) (n : Nat) (ρ : DEnv) : Fl := match o with
  | some (.lst _) => .nx (ρ.set n (some (.lst [])))
  | _ => .bad
@[simp] theorem sClear_ap {n : Nat} {ρ : DEnv} : sClear n ρ = clrV (getV ρ[n]?) n ρ := id rfl
@[simp] theorem clrV_l {xs : List Val} {n : Nat} {ρ : DEnv} : clrV (some (.lst xs)) n ρ = .nx (ρ.set n (some (.lst []))) := id rfl
@[simp] theorem maxT2 {i j : Int} : orC (g1 maxD) (g1 maxTD) [.tup [.int i, .int j]] = some (.sh (.int (max i j))) := rfl
/-! paths -/
def pthF (o : Option Val) (i : Nat) (ρ : DEnv) : Fl := match o with
  | some x => .nx (ρ.set i (some x))
  | none => .bad
@[simp] theorem pthF_s {x : Val} {i : Nat} {ρ : DEnv} : pthF (some x) i ρ = .nx (ρ.set i (some x)) := id rfl
@[simp] theorem sClrP_ap {i : Nat} {js : List Int} {ρ : DEnv} : sClrP i js ρ = pthF ((getV ρ[i]?).bind (editA clrE js)) i ρ := by
  unfold sClrP
  cases e : getV ρ[i]? with
  | none => rfl
  | some x =>
    show (match editA clrE js x with
      | some x' => Fl.nx (ρ.set i (some x'))
      | none => .bad) = pthF (editA clrE js x) i ρ
    cases editA clrE js x <;> rfl
@[simp] theorem sAppP_ap {i : Nat} {js : List Int} {fy : DEnv → Option Val} {ρ : DEnv} : sAppP i js fy ρ = pthF ((getV ρ[i]?).bind fun x => (fy (ρ.set i none)).bind fun y => editA (appE y) js x) i ρ := by
  unfold sAppP
  cases e : getV ρ[i]? with
  | none => rfl
  | some x =>
    show (match fy (ρ.set i none) with
      | none => Fl.bad
      | some y => match editA (appE y) js x with
        | some x' => Fl.nx (ρ.set i (some x'))
        | none => .bad) = pthF ((fy (ρ.set i none)).bind fun y => editA (appE y) js x) i ρ
    cases e2 : fy (ρ.set i none) with
    | none => rfl
    | some y =>
      show (match editA (appE y) js x with
        | some x' => Fl.nx (ρ.set i (some x'))
        | none => .bad) = pthF (editA (appE y) js x) i ρ
      cases editA (appE y) js x <;> rfl
@[simp] theorem yC_ap {d : D} {ρ : DEnv} : yC d ρ = some (.sh d) := id rfl
@[simp] theorem yNl_ap {ρ : DEnv} : yNl ρ = some (.lst []) := id rfl
def yIxO (o : Option Val) (n : Int) : Option Val := match o with
  | some (.sh (.lst ds)) => ((ixN ds.length n).bind fun k => ds[k]?).map .sh
  | some (.lst ys) => (ixN ys.length n).bind fun k => shV1 ys[k]?
  | _ => none
@[simp] theorem yIx_ap {j : Nat} {n : Int} {ρ : DEnv} : yIx j n ρ = yIxO (getV ρ[j]?) n := id rfl
@[simp] theorem yIxO_sh {ds : List D} {n : Int} : yIxO (some (.sh (.lst ds))) n = ((ixN ds.length n).bind fun k => ds[k]?).map .sh := id rfl
@[simp] theorem yIxO_l {ys : List Val} {n : Int} : yIxO (some (.lst ys)) n = (ixN ys.length n).bind fun k => shV1 ys[k]? := id rfl
@[simp] theorem shV1_s {d : D} : shV1 (some (.sh d)) = some (.sh d) := id rfl
end DL

/-! DLt: reckoning with what stands in DLp and behind. -/
namespace DL
open PySem PySem.Spec L2
section
variable {fs : DEnv → R (List Val)} {fe : DEnv → R Val} {ρ : DEnv} {n : Nat} {φ : List D → CR} {dd xs ys : List D}
@[simp] theorem sCallD_ap : sCallD φ n dd fs ρ = (fs ρ).bind fun ys ρ1 => if ys.length + dd.length = n then crR (φ (fzs ys ++ dd)) ρ1 else .bad := id rfl
@[simp] theorem sCallK_ap : sCallK φ n fs fe ρ = (fs ρ).bind fun ys ρ1 => (fe ρ1).bind fun x ρ2 => if ys.length + 1 = n then crM (φ (fzs (ys ++ [x]))) ρ2 else .bad := id rfl
@[simp] theorem sZip_ap : sZip fs ρ = (fs ρ).bind fun xs ρ1 => liftL (zipD (fzs xs)) ρ1 := id rfl
@[simp] theorem sEnumerate_ap : sEnumerate fs ρ = (fs ρ).bind fun xs ρ1 => liftL (enumD (fzs xs)) ρ1 := id rfl
@[simp] theorem zipD_ll : zipD [.lst xs, .lst ys] = some (zipL xs ys) := id rfl
@[simp] theorem enumD_l : enumD [.lst xs] = some (enumL xs) := id rfl
@[simp] theorem ltTD_2 {i j k l : Int} : ltTD (.tup [.int i, .int j]) (.tup [.int k, .int l]) = some (.sh (.bl (if i = k then decide (j < l) else decide (i < k)))) := by
  have e : ltTD (.tup [.int i, .int j]) (.tup [.int k, .int l]) = some (.sh (.bl (HT.lexLt [i, j] [k, l]))) := rfl
  rw [e, HT.lexLt_cons, HT.lexLt_cons, HT.lexLt_nil_nil]
  by_cases h : i = k
  · rw [if_pos h, if_pos h]
    by_cases h2 : j = l
    · rw [if_pos h2, decide_eq_false (by omega)]
    · rw [if_neg h2]
  · rw [if_neg h, if_neg h]
end
theorem loop_one {g : D → DEnv → Option DEnv} {s : DEnv → Fl} {is : List Nat} {d : D} {ds : List D} {ρ ρ' : DEnv} (h : (lpK (g d ρ) fun ρ1 => flp (s ρ1) (fun ρ2 => .nx (forget is ρ2)) fun _ => .bad) = .nx ρ') : loop g s is (d :: ds) ρ = loop g s is ds ρ' := by
  rw [loop]
  cases e : g d ρ with
  | none => rw [e] at h; cases h
  | some ρ1 =>
    rw [e] at h
    have h : flp (s ρ1) (fun ρ2 => .nx (forget is ρ2)) (fun _ => .bad) = .nx ρ' := h
    cases e2 : s ρ1 with
    | nx ρ2 => rw [e2] at h; cases h; simp only [e2]
    | ct ρ2 => rw [e2] at h; cases h; simp only [e2]
    | bk ρ2 => rw [e2] at h; cases h
    | rt x ρ2 => rw [e2] at h; cases h
    | exc x ρ2 => rw [e2] at h; cases h
    | bad => rw [e2] at h; cases h
theorem comp_mapV {α : Type} {g : D → DEnv → Option DEnv} {f : DEnv → R Val} {ρ : DEnv} {is : List Nat} (φ : α → D) (F : α → Val) : ∀ (l : List α) (acc : List Val), (∀ a, a ∈ l → (lpR (g (φ a) ρ) fun ρ1 => (f ρ1).bind fun x ρ2 => .ok x (forget is ρ2)) = .ok (F a) ρ) → comp g sYes f is (l.map φ) acc ρ = .ok (.lst (acc ++ l.map F)) ρ
  | [], acc, _ => by simp [comp]
  | a :: l, acc, h => by
    have e := h a List.mem_cons_self
    have ih := comp_mapV φ F l (acc ++ [F a]) fun b hb => h b (List.mem_cons_of_mem _ hb)
    rw [List.map_cons, comp]
    cases e1 : g (φ a) ρ with
    | none => rw [e1] at e; cases e
    | some ρ1 =>
      rw [e1] at e
      simp only [lpR_s] at e
      simp only [sYes_ap]
      cases e2 : f ρ1 with
      | bad => rw [e2] at e; cases e
      | exc _ _ => rw [e2] at e; cases e
      | ok x ρ2 =>
        rw [e2] at e
        simp only [R.bind_ok, R.ok.injEq] at e
        simp only [e.1, e.2]
        rw [ih]
        simp
end DL

/-! DLv: own exceptions: their __init__, raise, a try whose catch is looked at later, isinstance, fields. -/
namespace DL
open PySem PySem.Spec L2 PyProof.Rows

/-! ### the base's __init__ -/
structure BaseI (K : PySem.W.Frag) (C : Addr) : Prop where
  rd : PySem.W.readsIn K C (.type "type") = true
  ga : PySem.W.specialIn K (.ref C) "__getattribute__" = some (some (.builtin "type.__getattribute__"))
  at_ : PySem.W.findCls K (.ref C) (.type "type") "__init__" = some (.val (.builtin "ValueError.__init__"))
section
variable {X : Cx} {e : Expr} {es : List Expr} {ta : TA} {p1 p2 pos : Pos} {C : Addr} {y : Str}
theorem pe_binit {pl : Sem Bool} (gl : Gl X y) (my : X.mg y = some (.ref C)) (B : BaseI X.K C) (hy : (y == ("__debug__" : Str)) = false) (args : PA X (e :: es) ta)
    (sh : eval (.Call (.Attribute (.Name y p1) "__init__" p2) (e :: es) [] pos) X.env = (do
      let o ← eval (.Name y p1) X.env
      standAt p2.atName
      let (fn, fst) ← holding [o] (getMethod o "__init__" pl)
      callWith pos fn fst (backTo pos (starEach (e :: es) X.env)) (backToKw pos (keywordEach [] X.env))) := by rfl)
    (st : starEach (e :: es) X.env = (false, eval e X.env) :: starEach es X.env := by rfl) (np : (backTo pos (starEach es X.env)).any (·.1) = false := by rfl) :
    PE X (.Call (.Attribute (.Name y p1) "__init__" p2) (e :: es) [] pos) (tVeI X.K ta) := by
  constructor
  intro pins s σ H Q J hh
  refine PySem.W.methodCall_KW (ld_glob J gl my ?_ hy) sh
  refine PySem.W.method_cls J.kIn B.ga (PySem.W.cls_value J.kIn B.rd B.at_ rfl ?_)
  have J1 := J.tok (s.toks + 1)
  show wpAny _ _ (callWith pos (Value.builtin "ValueError.__init__") [] (backTo pos (starEach (e :: es) X.env)) []) _ _ _
  refine callWith_method1 (thn (args.run pos pins _ σ H _ J1 hh) fun us s2 z => ?_) st np
  obtain ⟨ws, H2, J2, rr, a, D, zs, ew, small, T, ea, q⟩ := z
  cases ew
  match us, rr with
  | u0 :: ur, .cons ra rt =>
    have e0 : u0 = Value.ref a := ra
    cases e0
    have n : ur.length ≤ sizeLine := by
      have := Paired.length rt
      rw [sizeLine_eq]; omega
    exact oinit_ok T J2 ea n fun s3 J3 => ⟨V.non, H2, J3, rfl, q⟩
end

/-! ### an __init__ that asks the base and stores its arguments -/
def spX (K : PySem.W.Frag) (C : Addr) (ns : List Str) : Sp := fun vs H Q _ => ∃ a ws, vs = .ref a :: ws ∧ ws.length = ns.length ∧ H a = some (exo a C none) ∧
  ∀ dx H', H dx = none → dx ≠ a → H' a = some (exo a C (some dx)) → H' dx = some (exd dx (ns.zip ws).reverse) → (∀ b, b ≠ a → b ≠ dx → H' b = H b) → Q .non H'
section
variable {P : Program} {w : World} {K : PySem.W.Frag} {mg : Str → Option Value} {base : Heap} {x qual : Str} {st : Stmt} {f C : Addr} {fd : FuncData} {N ps : List Str} {k : Nat} {f1 f2 : Str}
theorem initX1 (F : Fun K x qual st f fd) (S : FnScope N ps (defScope st)) (hN : N.length = 2) (hn : ps.length = 2) (T : OexC K C) (n1 : PySem.W.findIn K (.ref C) f1 = some none)
    (body : ∀ (cdv : Value) (A : Around) (outer : List PySem.Env) (s0 : Shared) (H : Hp) (E : XK), Room k (A.deeper (envOfC qual (defScope st) s0.heap.objs.size f cdv)) →
      ∃ m, PSs (cxOf (L2.CX P w) P w K mg base N qual (defScope st) f cdv A outer s0 H E) (defBody st) (tSeq (tDrop (tVeI K (tCons (tVar 0) (tCons (tC (.str m)) tNil)))) (tSeq (tOst K f1 (tVar 0) (tVar 1)) tNext))) :
    FnOk P w K mg base (L2.CX P w) (k + 1) f fd ps (spX K C [f1]) := by
  refine F.okX S (fun vs H Q E ⟨a, ws, e, l, _⟩ => by rw [e, List.length_cons, l, hn]; rfl) fun cdv A outer s0 H vs Q E hr ⟨a, ws, e, l, ha, q⟩ => ?_
  obtain ⟨m, hb⟩ := body cdv A outer s0 H E hr
  refine ⟨_, hb, ?_⟩
  match ws, l with
  | [w1], _ =>
    subst e
    have g0 : (start N [V.ref a, w1])[0]? = some (some (.ref a)) := rfl
    have g1 : (start N [V.ref a, w1])[1]? = some (some w1) := rfl
    refine ⟨_, g0, ⟨a, C, [.str m], rfl, by simp, T, ha, _, g1, _, g0, a, C, rfl, T, n1, .inl ⟨ha, fun dx hd hda => ?_⟩⟩⟩
    refine q dx _ hd hda upd_same ?_ fun b b1 b2 => ?_
    · rw [upd_ne hda, upd_same]; rfl
    · rw [upd_ne b1, upd_ne b2]
theorem initX2 (F : Fun K x qual st f fd) (S : FnScope N ps (defScope st)) (hN : N.length = 3) (hn : ps.length = 3) (T : OexC K C) (n1 : PySem.W.findIn K (.ref C) f1 = some none) (n2 : PySem.W.findIn K (.ref C) f2 = some none)
    (body : ∀ (cdv : Value) (A : Around) (outer : List PySem.Env) (s0 : Shared) (H : Hp) (E : XK), Room k (A.deeper (envOfC qual (defScope st) s0.heap.objs.size f cdv)) →
      ∃ m, PSs (cxOf (L2.CX P w) P w K mg base N qual (defScope st) f cdv A outer s0 H E) (defBody st) (tSeq (tDrop (tVeI K (tCons (tVar 0) (tCons (tC (.str m)) tNil)))) (tSeq (tOst K f1 (tVar 0) (tVar 1)) (tSeq (tOst K f2 (tVar 0) (tVar 2)) tNext)))) :
    FnOk P w K mg base (L2.CX P w) (k + 1) f fd ps (spX K C [f1, f2]) := by
  refine F.okX S (fun vs H Q E ⟨a, ws, e, l, _⟩ => by rw [e, List.length_cons, l, hn]; rfl) fun cdv A outer s0 H vs Q E hr ⟨a, ws, e, l, ha, q⟩ => ?_
  obtain ⟨m, hb⟩ := body cdv A outer s0 H E hr
  refine ⟨_, hb, ?_⟩
  match ws, l with
  | [w1, w2], _ =>
    subst e
    have g0 : (start N [V.ref a, w1, w2])[0]? = some (some (.ref a)) := rfl
    have g1 : (start N [V.ref a, w1, w2])[1]? = some (some w1) := rfl
    have g2 : (start N [V.ref a, w1, w2])[2]? = some (some w2) := rfl
    refine ⟨_, g0, ⟨a, C, [.str m], rfl, by simp, T, ha, _, g1, _, g0, a, C, rfl, T, n1, .inl ⟨ha, fun dx hd hda => ?_⟩⟩⟩
    refine ⟨_, g2, _, g0, a, C, rfl, T, n2, .inr ⟨dx, [(f1, w1)], upd_same, by rw [upd_ne hda, upd_same], by simp, ?_⟩⟩
    refine q dx _ hd hda ?_ upd_same fun b b1 b2 => ?_
    · rw [upd_ne hda.symm, upd_same]
    · rw [upd_ne b2, upd_ne b1, upd_ne b2]
end

/-! ### raise -/
theorem zip_snoc {α β : Type} : ∀ {l : List α} {r : List β} {a : α} {b : β}, l.length = r.length → (l ++ [a]).zip (r ++ [b]) = l.zip r ++ [(a, b)]
  | [], [], _, _, _ => rfl
  | x :: l, y :: r, a, b, h => by
    have := zip_snoc (l := l) (r := r) (a := a) (b := b) (by simpa using h)
    rw [List.cons_append, List.cons_append, List.zip_cons_cons, this]; rfl
theorem zip_rev {α β : Type} : ∀ {l : List α} {r : List β}, l.length = r.length → (l.zip r).reverse = l.reverse.zip r.reverse
  | [], [], _ => rfl
  | x :: l, y :: r, h => by
    have h' : l.length = r.length := by simpa using h
    rw [List.zip_cons_cons, List.reverse_cons, List.reverse_cons, List.reverse_cons, zip_snoc (by simpa using h'), zip_rev h']
def sRaise (C : Addr) (ns : List Str) (fs : DEnv → R (List Val)) : DEnv → Fl := fun ρ => (fs ρ).fl fun xs ρ1 => if xs.length = ns.length then .exc ⟨C, true, ns.reverse, (fzs xs).reverse⟩ ρ1 else .bad
def sRaise0 (C : Addr) : DEnv → Fl := fun ρ => .exc ⟨C, false, [], []⟩ ρ
theorem Stt.more {K : PySem.W.Frag} {F0 H0 H : Hp} {σ : L2.St} {ρ : DEnv} {vs : List V} {xs : List Val} {p : Addr} (h : Stt K F0 H0 H σ ρ vs xs) (o : HO) (np : H p = none) : Stt K F0 H0 (upd H p o) σ ρ vs xs := by
  obtain ⟨F, f, g, h1, h2, h3, h4, h5, h6, h7, h8, h9, h10⟩ := h.laid (o := o) np
  exact ⟨_, f, g, h1.trans h4, h2, h3, h5, h6, h7, h8, h9⟩
section
variable {X : Cx} {k : Nat} {fI C : Addr} {fd : FuncData} {ps ns : List Str} {x : Str} {p pos rpos : Pos} {e : Expr} {es : List Expr} {fs : DEnv → R (List Val)}
theorem ds_raise (hc : X.calm = true) (T : OexC X.K C) (at_ : PySem.W.findIn X.K (.ref C) "__init__" = some (some (.ref fI))) (ty : PySem.W.typeIn X.K (.ref fI) = some (.type "function"))
    (F : FnOk X.prog X.w X.K X.mg X.base (L2.CX X.prog X.w) k fI fd ps (spX X.K C ns)) (hr : Room (k + 1) X.A) (hb : Binds X.K fd ps []) (hp : Passes (L2.CX X.prog X.w) X (fun _ _ _ => False)) (hn : ns.length ≤ 900)
    (hg : Gl X x) (hm : X.mg x = some (.ref C)) (ha : DA X (e :: es) fs) (hdb : (x == ("__debug__" : Str)) = false := by decide)
    (he : starEach (e :: es) X.env = (false, eval e X.env) :: starEach es X.env := by rfl) (hpl : (backTo pos (starEach es X.env)).any (·.1) = false := by rfl) :
    DS X (.Raise (some (.Call (.Name x p) (e :: es) [] pos)) none rpos) (sRaise C ns fs) :=
  PS.imp (ps_raise hc takes_okx (pmk_oex T at_ ty F hr hb (.nil) hp hg hm ha hdb he hpl)) fun D σ H ⟨F0, H0, ρ, vs, xs, s, q⟩ => by
    refine ⟨F0, H0, ρ, vs, xs, s, (post_fl q).imp (fun ys ρ1 q1 H1 ws hl s1 => ?_) fun _ _ z => z⟩
    split at q1
    rotate_left
    · exact q1.elim
    rename_i hlen
    refine ⟨by omega, fun a na => ⟨a, ws, by rw [List.append_nil], by omega, upd_same, fun dx H' nd nda e1 e2 e3 => ⟨rfl, dx, _, e1, e2, ?_, ?_⟩⟩⟩
    · rw [upd_ne nda] at nd; exact nd
    rw [upd_ne nda] at nd
    have eH : upd (L2.del H' a) dx (.xd (ns.zip ws).reverse) = upd H1 dx (.xd (ns.zip ws).reverse) := by
      funext b
      by_cases b2 : b = dx
      · rw [b2, upd_same, upd_same]
      · rw [upd_ne b2, upd_ne b2]
        by_cases b1 : b = a
        · rw [b1, del_same, na]
        · rw [del_ne b1, e3 b b1 b2, upd_ne b1]
    rw [eH]
    obtain ⟨hl2, s2⟩ := s1.fzsP hl
    obtain ⟨F, hF, hA, tell⟩ := Stt.reads hl2 s2
    have s3 := (tell _ _ hA.rev).more (.xd (ns.zip ws).reverse) nd
    have q1 : exOk X F0 H0 ⟨C, true, ns.reverse, (fzs ys).reverse⟩ ρ1 vs xs := q1
    refine q1 σ _ (some dx) ws.reverse s3 (by simpa using hl2) ?_
    unfold xdOk
    rw [if_pos rfl]
    refine ⟨dx, rfl, s1.sub0.free nd, ?_⟩
    rw [upd_same]
    rw [zip_rev (by omega)]
end

/-! ### a catch that is looked at later -/
section
variable {X : Cx} {pins : List (Addr × Obj)} {σ : L2.St} {H : Hp} {s sI : Shared} {a : Addr} {oe : Obj}
def held (a : Addr) (oe : Obj) : HO := .ext fun h => h.get? a = some oe
/-- in the suite the exception is tracked, not pinned -/
theorem Inv.held (J : Inv X pins σ H s) (at_ : s.heap.get? a = some oe) (hd : ∃ fs, oe.data = .fields fs) (na : H a = none) (nL : a ≠ X.env.locals) (nI : ∀ b o, sI.heap.get? b = some o → b ≠ a)
    (old : ∀ b o, X.s_0.heap.get? b = some o → b ∉ X.ex → b ≠ a) (pn : ∀ q ∈ X.pn ++ pins, q.1 ≠ a) : Inv (X.suite a (X.pn ++ pins)) [] σ (upd H a (DL.held a oe)) s := by
  have far : ∀ {b : Addr} {u : HO}, H b = some u → b ≠ a := fun {b u} e => ne_of_none e na
  refine ⟨J.ok.suite _ _, J.os, J.bare, ⟨J.base.keep, J.base.slot, ?_, J.base.there, ?_, ?_, ?_⟩, J.loc, J.cell, ?_, ?_, ?_, ?_, J.len⟩
  · intro b o e n hx
    rw [upd_ne (old b o e hx)]
    exact J.base.free b o e n hx
  · intro b xs e
    have z := J.base.tups b xs e
    rw [upd_ne (far z)]; exact z
  · intro b o u e
    have z := J.base.frzs b o u e
    rw [upd_ne (far z)]; exact z
  · intro b ps e
    obtain ⟨more, z⟩ := J.base.tbls b ps e
    exact ⟨more, by rw [upd_ne (far z)]; exact z⟩
  · show upd H a (DL.held a oe) X.env.locals = none
    rw [upd_ne nL.symm]; exact J.free
  · intro x c e
    have ca : c ≠ a := fun z => by
      obtain ⟨v, o, h1, h2⟩ := J.cell x c e
      obtain ⟨fs, h3⟩ := hd
      rw [z, at_] at h1
      cases h1
      rw [h3] at h2; cases h2
    rw [upd_ne ca]; exact J.freeC x c e
  · intro q hq
    have hq : q ∈ X.pn ++ pins := by rw [List.append_nil] at hq; exact hq
    obtain ⟨h1, h2, h3⟩ := J.pin q hq
    exact ⟨h1, by rw [upd_ne (pn q hq)]; exact h2, h3⟩
  · intro b o e
    by_cases ba : b = a
    · rw [ba] at e ⊢
      rw [upd_same] at e
      cases e
      exact ⟨at_, ⟨oe, at_⟩, fun h1 h2 z k => k _ z⟩
    · rw [upd_ne ba] at e
      refine (J.hok b o e).stay (fun c v _ z => z) (fun c z => ?_) fun c xs z => ?_
      · rw [upd_ne (far z)]; exact z
      · rw [upd_ne (far z)]; exact z
theorem Inv.unheld (J : Inv (X.suite a (X.pn ++ pins)) [] σ H s) (ok : X.Ok) : Inv X pins σ H s := by
  refine ⟨ok, J.os, J.bare, J.base, J.loc, J.cell, J.free, J.freeC, ?_, J.hok, J.len⟩
  intro q hq
  exact J.pin q (by rw [List.append_nil]; exact hq)
end
/-- the wish of a body under such a clause -/
def wHeld (K : PySem.W.Frag) (c : Value) (i : Nat) (ts : TS) (Wout : WX) (D : Ends) : WX := fun cls d σ H => ∃ b, PySem.W.exmOne K cls c = some b ∧
  (b = true → ∀ a oe, H a = none → Zc cls d oe → (∃ fs, oe.data = .fields fs) →
    ts ⟨fun σ' H' => D.nx (σ'.set i none) H', D.rt, fun σ' H' => D.bk (σ'.set i none) H', fun σ' H' => D.ct (σ'.set i none) H'⟩ (σ.set i (some (.ref a))) (upd H a (held a oe))) ∧ (b = false → Wout cls d σ H)
section
variable {X : Cx} {x n : Str} {c : Value} {i : Nat} {body suite : List Stmt} {st0 : Stmt} {np hpos pos : Pos} {tb : WX → TS} {ts : TS} {Wout : WX}
theorem ps_catch (ek : X.stack = X.env :: X.outer) (ef : X.env.frame = some X.env.locals) (nd : X.N.Nodup) (gi : X.N[i]? = some n) (kl : X.env.kindOf n = some .local) (nm : Names X x c) (tk : Takes X Wout)
    (B1 : ∀ (W : WX) (pn : List (Addr × Obj)) (xe : Value → Shared → Prop), Takes (X.tr pn xe) W → PassesOwn (model X.prog X.w) X.A X.env xe → PSs (X.tr pn xe) body (tb W))
    (B2 : ∀ (a : Addr) (pn : List (Addr × Obj)), PSs (X.suite a pn) (st0 :: suite) ts) :
    PS X (.Try body [.ExceptHandler (some (.Name x np)) (some n) (st0 :: suite) hpos] [] [] pos) (fun D σ H => tb (wHeld X.K c i ts Wout D) D σ H) := by
  constructor
  intro pins s σ H D I h
  have ok := I.ok
  have fr : X.A.frames = some (X.env :: X.outer) := by rw [ok.frames, ek]
  refine wpAny_Try_except ?_
  refine wpAny_mono ((B1 (wHeld X.K c i ts Wout D) (X.pn ++ pins) (fun er t1 => wpAny (model X.prog X.w) X.A (noteFrame er X.env) (fun _ t2 => wpAny (model X.prog X.w) X.A (setFlight er none)
    (fun _ t3 => wpAny (model X.prog X.w) X.A (handleBy er X.env [.ExceptHandler (some (.Name x np)) (some n) (st0 :: suite) hpos]) (SP X pins D) X.xe t3) X.xe t2) X.xe t1) ?_ PassesOwn.looking).run [] s σ H D (I.toTry _) h) ?_ fun er t he => he
  · rintro u s' ⟨a, B, sI, pins', σ', H', cls, d, eu, J', nb, up, sky, na, os, ag, b, hb, yes, no⟩
    subst eu
    have J : Inv X pins σ' H' sI := J'.ofTry ok
    have sky1 : Sky B (X.env :: X.outer) a (Zc cls d) X.env.locals s'.heap := by
      rw [← ek]
      exact sky
    refine Sky.land Zc.steady fr ef sky1 fun h3 fl3 up3 => ?_
    have J3 : Inv X pins σ' H' { s' with heap := h3 } := J.landed nb fl3.1 (up.trans up3) os ag
    obtain ⟨oe3, fs3, he3, hz3, hd3⟩ := fl3.there
    have nofr : a ∉ frs (X.env :: X.outer) := by
      intro hm
      obtain ⟨_, o', e', hnf⟩ := fl3.2.2.1.mem hm
      rw [he3] at e'
      cases e'
      exact hnf _ hd3
    have nL : a ≠ X.env.locals := fun z => nofr (List.mem_filterMap.mpr ⟨X.env, List.mem_cons_self, by rw [ef, z]⟩)
    have nF : a ∉ X.fs := by
      intro hm
      obtain ⟨ev, h1, h2⟩ := List.mem_filterMap.mp hm
      exact nofr (List.mem_filterMap.mpr ⟨ev, List.mem_cons_of_mem _ h1, h2⟩)
    have nI : ∀ b o, sI.heap.get? b = some o → b ≠ a := by
      intro b o e z
      subst z
      have := nb b o e (by rw [ek]; exact nofr)
      rw [fl3.2.1] at this
      cases this
    have old : ∀ b o, X.s_0.heap.get? b = some o → b ∉ X.ex → b ≠ a := by
      intro b o e hx
      obtain ⟨o', e'⟩ := J.base.there b o e hx
      exact nI b o' e'
    have pn : ∀ q ∈ X.pn ++ pins, q.1 ≠ a := fun q hq => nI _ _ (J.pin q hq).1
    have S3 := J3.suite he3 hd3 na nL nF
    refine wpAny_handleBy_cons (codeAny_handlers_test ?_) (by intro q; cases q)
    have lk : PySem.W.Looks (model X.prog X.w) h3 (typeOf (.ref a)) cls := fun A Q E s k q => wpAny_typeOf_ref (k _ _ he3) (by rw [hz3.1]; exact q)
    have dec := PySem.W.exm_one (M := model X.prog X.w) J3.kIn lk hb
    have ask : ∀ {Q : Value → Shared → Prop} {E : Value → Shared → Prop}, Q c { s' with heap := h3 } → wpAny (model X.prog X.w) (X.A.mark (some (.ref a))) (eval (.Name x np) X.env) Q E { s' with heap := h3 } := by
      intro Q E q
      obtain ⟨hg, hdb, hm⟩ := nm
      rcases hm with hm | ⟨hm, hv, hnn⟩
      · exact ld_glob (X := X.suite a ((a, oe3) :: (X.pn ++ pins))) S3 hg hm q hdb
      · exact ld_blt (X := X.suite a ((a, oe3) :: (X.pn ++ pins))) S3 hg hm hv q hnn hdb
    refine ask (dec.here ?_)
    match b, hb, yes, no with
    | true, hb, yes, _ =>
      refine codeAny_handlers_suite_as (HandSPX.lands_againZ fl3 fun h4 fl4 up4 => ?_)
      have J4 : Inv X pins σ' H' { s' with heap := h4 } := J.landed nb fl4.1 ((up.trans up3).trans up4) os ag
      obtain ⟨oe4, fs4, he4, hz4, hd4⟩ := fl4.there
      have S4 := Inv.held (sI := sI) J4 he4 ⟨fs4, hd4⟩ na nL nI old pn
      refine store_ok (X := X.suite a (X.pn ++ pins)) (v := .ref a) S4 nd gi (.inl kl) rfl (fun s5 S5 => ?_) (.inr kl)
      refine wpAny_mono ((B2 a (X.pn ++ pins)).run [] s5 _ _ _ S5 (yes rfl a oe4 na hz4 ⟨fs4, hd4⟩)) (fun f s6 sp => ?_) fun _ _ z => z.elim
      have fin : ∀ {σ6 : L2.St} {H6 : Hp} {Q : Shared → Prop}, Inv (X.suite a (X.pn ++ pins)) [] σ6 H6 s6 → (∀ s7, Inv X pins (σ6.set i none) H6 s7 → Q s7) →
          wpAny (model X.prog X.w) X.A (do bindName X.env n .none; unbindBehindTheSuite X.env n hpos) (fun _ s7 => Q s7) X.xe s6 := by
        intro σ6 H6 Q S6 hq
        exact gone_ok (Inv.unheld S6 ok) nd gi kl hq
      cases f with
      | next => obtain ⟨σ6, H6, S6, q6⟩ := sp; exact fin S6 fun s7 J7 => ⟨_, _, J7, q6⟩
      | brk => obtain ⟨σ6, H6, S6, q6⟩ := sp; exact fin S6 fun s7 J7 => ⟨_, _, J7, q6⟩
      | cont => obtain ⟨σ6, H6, S6, q6⟩ := sp; exact fin S6 fun s7 J7 => ⟨_, _, J7, q6⟩
      | ret u => obtain ⟨v6, σ6, H6, S6, r6, q6⟩ := sp; exact fin S6 fun s7 J7 => ⟨_, _, _, J7, r6, q6⟩
    | false, hb, _, no =>
      show wpAny _ X.A (handleBy (.ref a) X.env []) _ _ _
      refine wpAny_handleBy_nil ?_
      obtain ⟨k1, k2, k3, oe, vs, T, oT, ts', he, hz, hd, h1, hr⟩ := id fl3
      unfold PySem.passOn
      refine wpAny_bind (wpAny_field he hd h1 ?_)
      rw [if_neg (show ¬ ((Value.ref T == Value.none) = true) by simp)]
      have away : wpAny (model X.prog X.w) X.A (setFlight (.ref a) X.env.frame) (fun _ t4 => wpAny (model X.prog X.w) X.A (throw (.ref a) : Sem Flow) (SP X pins D) X.xe t4) X.xe { s' with heap := h3 } := by
        rw [ef]
        refine HandSPX.setFlight_upZ fl3 fun h4 hh4 up4 => wpAny_throw (tk _ _ ?_)
        exact ⟨a, B, sI, pins, σ', H', cls, d, rfl, J, nb, (up.trans up3).trans up4, .inr (.inr (by rw [ek]; exact hh4)), na, os, ag, no rfl⟩
      first
        | exact wpAny_bind (wpAny_pure (wpAny_bind away))
        | exact wpAny_bind away
  · intro f s1 sp
    cases f with
    | next => obtain ⟨σ1, H1, J1, q⟩ := sp; exact wpAny_execs_nil ⟨σ1, H1, J1.ofTry ok, q⟩
    | brk => obtain ⟨σ1, H1, J1, q⟩ := sp; exact ⟨σ1, H1, J1.ofTry ok, q⟩
    | cont => obtain ⟨σ1, H1, J1, q⟩ := sp; exact ⟨σ1, H1, J1.ofTry ok, q⟩
    | ret u => obtain ⟨v, σ1, H1, J1, r, q⟩ := sp; exact ⟨v, σ1, H1, J1.ofTry ok, r, q⟩
end

/-! ### try, on data -/
/-- what is owned is a list, a tuple or a dict -/
def HO.box : HO → Prop
  | .lst _ => True
  | .tup _ => True
  | .dK _ => True
  | .dT _ => True
  | .frz _ _ => True
  | _ => False
section
variable {K : PySem.W.Frag} {F H : Hp}
mutual
theorem Own.cont : ∀ (x : Val) (v : V) (f : List Addr), Own K F H v x f → ∀ b ∈ f, ∃ u, H b = some u ∧ HO.box u
  | .sh d, _, _, h, b, hb => by cases h; cases hb
  | .lst xs, _, _, h, b, hb => by
    cases h with
    | lst h1 h2 h3 =>
      rcases List.mem_cons.mp hb with e | hb
      · subst e; exact ⟨_, h2, trivial⟩
      · exact Owns.cont xs _ _ h3 b hb
  | .tup xs, _, _, h, b, hb => by
    cases h with
    | tup h1 h2 h3 =>
      rcases List.mem_cons.mp hb with e | hb
      · subst e; exact ⟨_, h2, trivial⟩
      · exact Owns.cont xs _ _ h3 b hb
  | .dic bb ds, _, _, h, b, hb => by
    cases h with
    | dicL => cases hb
    | dic h1 h2 h3 h4 =>
      rw [List.mem_singleton.mp hb]
      obtain ⟨_, u, hu, q⟩ := h2
      rcases q with ⟨_, q⟩ | ⟨_, o, q⟩
      · rcases hu with ⟨_, rfl⟩ | ⟨_, kk, _, rfl⟩
        · exact ⟨_, q, trivial⟩
        · exact ⟨_, q, trivial⟩
      · exact ⟨_, q, trivial⟩
theorem Owns.cont : ∀ (xs : List Val) (vs : List V) (f : List Addr), Owns K F H vs xs f → ∀ b ∈ f, ∃ u, H b = some u ∧ HO.box u
  | [], _, _, h, b, hb => by cases h; cases hb
  | x :: xs, _, _, h, b, hb => by
    cases h with
    | cons h1 h2 =>
      rcases List.mem_append.mp hb with hb | hb
      · exact Own.cont x _ _ h1 b hb
      · exact Owns.cont xs _ _ h2 b hb
end
theorem Sl.cont : ∀ {σ : L2.St} {ρ : DEnv} {f : List Addr}, Sl K F H σ ρ f → ∀ b ∈ f, ∃ u, H b = some u ∧ HO.box u
  | _, _, _, .nil, _, hb => by cases hb
  | _, _, _, .un t, b, hb => Sl.cont t b hb
  | _, _, _, .bd h t, b, hb => by
    rcases List.mem_append.mp hb with hb | hb
    · exact Own.cont _ _ _ h b hb
    · exact Sl.cont t b hb
theorem own_no_xd {b : Addr} {fs : List (Str × V)} (h : ∃ u, H b = some u ∧ HO.box u) (e : H b = some (.xd fs)) : False := by
  obtain ⟨u, h1, h2⟩ := h
  rw [e] at h1
  cases h1
  exact h2
end
def Fl.after (i : Nat) : Fl → Fl
  | .nx ρ => .nx (ρ.set i none)
  | .rt x ρ => .rt x (ρ.set i none)
  | .bk ρ => .bk (ρ.set i none)
  | .ct ρ => .ct (ρ.set i none)
  | _ => .bad
@[simp] theorem Fl.after_nx (i : Nat) (ρ : DEnv) : (Fl.nx ρ).after i = .nx (ρ.set i none) := id rfl
@[simp] theorem Fl.after_rt (i : Nat) (x : Val) (ρ : DEnv) : (Fl.rt x ρ).after i = .rt x (ρ.set i none) := id rfl
def DExn.d (e : DExn) : D := .exn e.cls e.own e.ns e.ds
def lookA {β : Type} : List (Addr × β) → Addr → Option β
  | [], _ => none
  | (a, b) :: r, c => if a = c then some b else lookA r c
theorem lookA_mem {β : Type} : ∀ {l : List (Addr × β)} {c : Addr} {b : β}, lookA l c = some b → (c, b) ∈ l
  | (a, b') :: r, c, b, h => by
    unfold lookA at h
    by_cases e : a = c
    · rw [if_pos e] at h
      cases h
      rw [e]
      exact List.mem_cons_self
    · rw [if_neg e] at h
      exact List.mem_cons_of_mem _ (lookA_mem h)
/-- tb: the classes that may come, and whether the clause takes them -/
def sTry (i : Nat) (tb : List (Addr × Bool)) (fb fs : DEnv → Fl) : DEnv → Fl := fun ρ => match fb ρ with
  | .exc e ρ1 => match lookA tb e.cls with
    | some true => if i < ρ1.length ∧ e.ns.length = e.ds.length then (fs (ρ1.set i (some (.sh e.d)))).after i else .bad
    | some false => .exc e ρ1
    | none => .bad
  | r => r
def exOkW (K : PySem.W.Frag) (W : WX) (F0 H0 : Hp) (e : DExn) (ρ : DEnv) (vs : List V) (xs : List Val) : Prop :=
  ∀ σ' H' dx ves, Stt K F0 H0 H' σ' ρ (ves ++ vs) (e.ds.map .sh ++ xs) → ves.length = e.ds.length → xdOk H0 H' e dx ves → W (.ref e.cls) dx σ' H'
def fpostW (K : PySem.W.Frag) (W : WX) (F0 H0 : Hp) (vs : List V) (xs : List Val) (D : Ends) : Fl → Prop
  | .nx ρ => ∀ σ' H', Stt K F0 H0 H' σ' ρ vs xs → D.nx σ' H'
  | .rt x ρ => ∀ σ' H' v, Stt K F0 H0 H' σ' ρ (v :: vs) (x :: xs) → D.rt v H'
  | .bk ρ => ∀ σ' H', Stt K F0 H0 H' σ' ρ vs xs → D.bk σ' H'
  | .ct ρ => ∀ σ' H', Stt K F0 H0 H' σ' ρ vs xs → D.ct σ' H'
  | .exc e ρ => exOkW K W F0 H0 e ρ vs xs
  | .bad => False
def tSW (K : PySem.W.Frag) (W : WX) (f : DEnv → Fl) : TS := fun D σ H => ∃ F0 H0 ρ vs xs, Stt K F0 H0 H σ ρ vs xs ∧ fpostW K W F0 H0 vs xs D (f ρ)
theorem fpost_W {X : Cx} {W : WX} {F0 H0 : Hp} {vs : List V} {xs : List Val} {D : Ends} {r : Fl} (h : fpostW X.K W F0 H0 vs xs D r) (he : ∀ e ρ, exOkW X.K W F0 H0 e ρ vs xs → exOk X F0 H0 e ρ vs xs) : fpost X F0 H0 vs xs D r := by
  cases r with
  | exc e ρ => exact he e ρ h
  | nx ρ => exact h
  | rt x ρ => exact h
  | bk ρ => exact h
  | ct ρ => exact h
  | bad => exact h
section
variable {K : PySem.W.Frag} {F0 H0 H : Hp} {σ : L2.St} {ρ : DEnv} {vs ves : List V} {xs : List Val} {a : Addr} {i : Nat}
/-- the exception as data -/
theorem Stt.caughtV {e : DExn} {dx : Option Addr} {oe : Obj} (h : Stt K F0 H0 H σ ρ (ves ++ vs) (e.ds.map .sh ++ xs)) (hl : ves.length = e.ds.length) (hx : xdOk H0 H e dx ves) (na : H a = none) (hz : Zc (.ref e.cls) dx oe) (hf : ∃ fs, oe.data = .fields fs)
    (hn : e.ns.length = e.ds.length) : Stt K F0 H0 (upd H a (held a oe)) σ ρ (.ref a :: vs) (.sh e.d :: xs) := by
  -- the dict is known as it is
  have k : ∃ F, Same F H ∧ Ats K F ves e.ds ∧ ExDx F e.own dx e.ns ves ∧ ∃ f g, Same F0 F ∧ Same H0 H ∧ (∀ b, F0 b = none → H0 b ≠ none → F b = none) ∧ Sl K F H σ ρ f ∧ Owns K F H vs xs g ∧ (g ++ f).Nodup ∧ ∀ b ∈ g ++ f, H0 b = none := by
    obtain ⟨F, f, g, h1, h2, h3, h4, h5, h6, h7, h8⟩ := h
    obtain ⟨g1, g2, a1, a2, s1, s2⟩ := Owns.split (by simpa using hl) h6
    have s : Sb (g2 ++ f) (g ++ f) := Sb.app ((Sb.right g1 g2).trans s1) (.refl f)
    by_cases ow : e.own = true
    · have hx := hx
      unfold xdOk at hx
      rw [if_pos ow] at hx
      obtain ⟨x, ex, n0, hx⟩ := hx
      -- x is owned by none
      have nf : x ∉ f := fun z => own_no_xd (Sl.cont h5 x z) hx
      have ng : x ∉ g2 := fun z => own_no_xd (Owns.cont _ _ _ a2 x z) hx
      have up : ∀ b, b ∉ [x] → frz F H [x] b = F b := fun b hb => frz_out hb
      by_cases fx : F x = none
      · have sF : Same F (frz F H [x]) := frz_same fun b hb => by rw [List.mem_singleton.mp hb]; exact fx
        refine ⟨frz F H [x], frz_sub h3, Ats.mono sF _ _ a1.ats.1, ?_, f, g2, h1.trans sF, h2, fun b z1 z2 => ?_, Sl.mono sF h5 fun b hb => ⟨?_, rfl⟩, Owns.mono sF _ _ _ a2 fun b hb => ⟨?_, rfl⟩, s.2 h7, fun b hb => h8 b (s.1 b hb)⟩
        · unfold ExDx
          rw [if_pos ow]
          exact ⟨x, ex, by rw [frz_in List.mem_cons_self]; exact hx⟩
        · rw [up b fun z => z2 (by rw [List.mem_singleton.mp z]; exact n0)]
          exact h4 b z1 z2
        · rw [up b fun z => nf (by rw [← List.mem_singleton.mp z]; exact hb)]
          exact (Sl.no h5 b hb).1
        · rw [up b fun z => ng (by rw [← List.mem_singleton.mp z]; exact hb)]
          exact (Owns.no _ _ _ a2 b hb).1
      · refine ⟨F, h3, a1.ats.1, ?_, f, g2, h1, h2, h4, h5, a2, s.2 h7, fun b hb => h8 b (s.1 b hb)⟩
        unfold ExDx
        rw [if_pos ow]
        refine ⟨x, ex, ?_⟩
        cases z : F x with
        | none => exact absurd z fx
        | some u => rw [← hx, h3 x u z]
    · refine ⟨F, h3, a1.ats.1, ?_, f, g2, h1, h2, h4, h5, a2, s.2 h7, fun b hb => h8 b (s.1 b hb)⟩
      unfold ExDx
      rw [if_neg ow]
      unfold xdOk at hx
      rw [if_neg ow] at hx
      exact hx
  obtain ⟨F, hF, hA, hD, f, g, h1, h2, h4, h5, h6, h7, h8⟩ := k
  have s0 : Stt K F0 H0 H σ ρ vs xs := ⟨F, f, g, h1, h2, hF, h4, h5, h6, h7, h8⟩
  have nF : F a = none := hF.free na
  have n0 : H0 a = none := h2.free na
  have sF : Same F (upd F a (held a oe)) := fun b u e => by rw [upd_ne (ne_of_none e nF)]; exact e
  have kp : ∀ b, F b = none → H b ≠ none → upd F a (held a oe) b = none ∧ upd H a (held a oe) b = H b := fun b z1 z2 => by
    have : b ≠ a := fun z => by subst z; exact z2 na
    rw [upd_ne this, upd_ne this]
    exact ⟨z1, rfl⟩
  refine ⟨upd F a (held a oe), f, [] ++ g, h1.trans sF, fun b u z => by rw [upd_ne (ne_of_none z n0)]; exact h2 _ _ z, fun b u z => ?_, fun b z1 z2 => ?_, Sl.mono sF h5 fun b hb => kp b (Sl.no h5 b hb).1 (Sl.no h5 b hb).2,
    .cons (.sh (.exn (od := dx) ⟨oe, upd_same, hz, hf⟩ (hD.mono sF) (hn.trans hl.symm) (Ats.mono sF _ _ hA))) (Owns.mono sF _ _ _ h6 fun b hb => kp b (Owns.no _ _ _ h6 b hb).1 (Owns.no _ _ _ h6 b hb).2), h7, h8⟩
  · by_cases hb : b = a
    · subst hb; rw [upd_same] at z ⊢; exact z
    · rw [upd_ne hb] at z ⊢; exact hF _ _ z
  · have : b ≠ a := fun z => by subst z; exact z2 n0
    rw [upd_ne this]
    exact h4 b z1 z2
theorem Stt.caught {e : DExn} {dx : Option Addr} {oe : Obj} (h : Stt K F0 H0 H σ ρ (ves ++ vs) (e.ds.map .sh ++ xs)) (hl : ves.length = e.ds.length) (hx : xdOk H0 H e dx ves) (na : H a = none) (hz : Zc (.ref e.cls) dx oe) (hf : ∃ fs, oe.data = .fields fs)
    (hn : e.ns.length = e.ds.length) (hi : i < ρ.length) : Stt K F0 H0 (upd H a (held a oe)) (σ.set i (some (.ref a))) (ρ.set i (some (.sh e.d))) vs xs := (h.caughtV hl hx na hz hf hn).store hi
theorem Stt.gone (h : Stt K F0 H0 H σ ρ vs xs) (i : Nat) : Stt K F0 H0 H (σ.set i none) (ρ.set i none) vs xs := by
  by_cases hi : i < ρ.length
  · exact (h.drop i).any (by rw [List.getElem?_set_self hi]) none
  · have e1 : ρ.set i none = ρ := List.set_eq_of_length_le (by omega)
    have e2 : σ.set i none = σ := List.set_eq_of_length_le (by rw [h.len]; omega)
    rw [e1, e2]; exact h
end

section
variable {X : Cx} {x n : Str} {c : Value} {i : Nat} {body suite : List Stmt} {st0 : Stmt} {np hpos pos : Pos} {fb fs : DEnv → Fl}
theorem ds_try {tab : List (Addr × Bool)} (ek : X.stack = X.env :: X.outer) (ef : X.env.frame = some X.env.locals) (nd : X.N.Nodup) (gi : X.N[i]? = some n) (kl : X.env.kindOf n = some .local) (nm : Names X x c) (ht : ∀ q ∈ tab, PySem.W.exmOne X.K (.ref q.1) c = some q.2)
    (B1 : ∀ (pn : List (Addr × Obj)) (xe : Value → Shared → Prop), PassesOwn (model X.prog X.w) X.A X.env xe → DSs (X.tr pn xe) body fb) (B2 : ∀ (a : Addr) (pn : List (Addr × Obj)), DSs (X.suite a pn) (st0 :: suite) fs) :
    DS X (.Try body [.ExceptHandler (some (.Name x np)) (some n) (st0 :: suite) hpos] [] [] pos) (sTry i tab fb fs) := by
  have b1 : ∀ (W : WX) (pn : List (Addr × Obj)) (xe : Value → Shared → Prop), Takes (X.tr pn xe) W → PassesOwn (model X.prog X.w) X.A X.env xe → PSs (X.tr pn xe) body (tSW X.K W fb) := by
    intro W pn xe tk hp
    refine PSs.imp (B1 pn xe hp) fun D σ H ⟨F0, H0, ρ, vs, xs, s, q⟩ => ⟨F0, H0, ρ, vs, xs, s, fpost_W q fun e ρ' z => ?_⟩
    exact fun σ' H' dx ves s' hl hx => okx_of tk (z σ' H' dx ves s' hl hx)
  have b2 : ∀ (a : Addr) (pn : List (Addr × Obj)), PSs (X.suite a pn) (st0 :: suite) (tSW X.K (fun _ _ _ _ => False) fs) := by
    intro a pn
    refine PSs.imp (B2 a pn) fun D σ H ⟨F0, H0, ρ, vs, xs, s, q⟩ => ⟨F0, H0, ρ, vs, xs, s, fpost_W q fun e ρ' z => ?_⟩
    exact fun σ' H' dx ves s' hl hx => (z σ' H' dx ves s' hl hx).elim
  refine PS.imp (ps_catch ek ef nd gi kl nm takes_okx b1 b2) fun D σ H ⟨F0, H0, ρ, vs, xs, s, q⟩ => ⟨F0, H0, ρ, vs, xs, s, ?_⟩
  unfold sTry at q
  cases e : fb ρ with
  | nx ρ1 => rw [e] at q; exact q
  | rt y ρ1 => rw [e] at q; exact q
  | bk ρ1 => rw [e] at q; exact q
  | ct ρ1 => rw [e] at q; exact q
  | bad => rw [e] at q; exact q
  | exc z ρ1 =>
    simp only [e] at q
    intro σ1 H1 dx ves s1 hl hx
    cases e2 : lookA tab z.cls with
    | none => rw [e2] at q; exact q.elim
    | some b =>
      rw [e2] at q
      refine ⟨b, ht _ (lookA_mem e2), fun hb => ?_, fun hb => ?_⟩
      · subst hb
        simp only at q
        split at q
        rotate_left
        · exact q.elim
        rename_i hh
        intro a oe na hz hf
        have s2 := Stt.caught s1 hl hx na hz hf hh.2 hh.1
        refine ⟨F0, H0, _, vs, xs, s2, ?_⟩
        cases e3 : fs (ρ1.set i (some (.sh z.d))) with
        | nx ρ2 => rw [e3] at q; exact fun σ' H' s3 => q _ _ (s3.gone i)
        | rt y ρ2 => rw [e3] at q; exact fun σ' H' v s3 => q _ _ _ (s3.gone i)
        | bk ρ2 => rw [e3] at q; exact fun σ' H' s3 => q _ _ (s3.gone i)
        | ct ρ2 => rw [e3] at q; exact fun σ' H' s3 => q _ _ (s3.gone i)
        | exc y ρ2 => rw [e3] at q; exact q.elim
        | bad => rw [e3] at q; exact q.elim
      · subst hb
        exact q σ1 H1 dx ves s1 hl hx
end

/-! ### a caught exception is looked at -/
def HeldEx (K : PySem.W.Frag) (H : Hp) (a C : Addr) : Prop := ∃ oe od, H a = some (held a oe) ∧ Zc (.ref C) od oe ∧ (∃ fs, oe.data = .fields fs) ∧ (od = none ∨ ∃ dx fs, od = some dx ∧ H dx = some (.xd fs))
theorem held_of {K : PySem.W.Frag} {F H : Hp} {a C : Addr} {od : Option Addr} {own : Bool} {ns : List Str} {vs : List V} (s : Same F H) (h1 : ExAt F a C od) (h2 : ExDx F own od ns vs) : HeldEx K H a C := by
  obtain ⟨oe, e1, e2, e3⟩ := h1
  refine ⟨oe, od, s _ _ e1, e2, e3, ?_⟩
  unfold ExDx at h2
  split at h2
  · obtain ⟨dx, e4, e5⟩ := h2
    exact .inr ⟨dx, _, e4, s _ _ e5⟩
  · exact .inl h2
theorem HeldEx.inst {X : Cx} {pins : List (Addr × Obj)} {σ : L2.St} {H : Hp} {s : Shared} {a C : Addr} (J : Inv X pins σ H s) (h : HeldEx X.K H a C) : ∃ oe od, PySem.W.InstAt s.heap a oe C od := by
  obtain ⟨oe, od, h1, h2, ⟨fs, h3⟩, h4⟩ := h
  have ob : ObjOk X.prog X.w H s.heap a (.ext fun h => h.get? a = some oe) := J.hok a _ h1
  have nc : PySem.W.notCls oe := by unfold PySem.W.notCls; rw [h3] <;> trivial
  rcases h4 with h4 | ⟨dx, gs, h4, h5⟩
  · exact ⟨oe, none, ob.1, h2.1, nc, by rw [h2.2, h4]; exact trivial⟩
  · have xd : ObjOk X.prog X.w H s.heap dx (.xd gs) := J.hok dx _ h5
    obtain ⟨mA, hns, _⟩ := xd
    obtain ⟨od, ho, _⟩ := lookIn_ns hns
    exact ⟨oe, some od, ob.1, h2.1, nc, by rw [h2.2, h4]; exact ho⟩
structure ExIs (K : PySem.W.Frag) (C : Addr) (t : Value) (b : Bool) : Prop where
  cl : ExcC K C
  is : PySem.W.kitOne K (.ref C) t = some b
structure ExAny (K : PySem.W.Frag) (C : Addr) (ts : List Value) (b : Bool) : Prop where
  cl : ExcC K C
  is : PySem.W.kitAny K (.ref C) ts = some b
def rIsX (K : PySem.W.Frag) : List V → Hp → VK → Prop := fun xs H Q => ∃ a C c t b, xs = [.ref a, c] ∧ ClsV c t ∧ HeldEx K H a C ∧ ExIs K C t b ∧ Q (.bl b) H
def rIsXT (K : PySem.W.Frag) : List V → Hp → VK → Prop := fun xs H Q => ∃ a C tp cs ts b, xs = [.ref a, .ref tp] ∧ H tp = some (.tup cs) ∧ Paired ClsV cs ts ∧ HeldEx K H a C ∧ ExAny K C ts b ∧ Q (.bl b) H
section
variable {X : Cx}
theorem hasC {K : PySem.W.Frag} {C : Addr} (h : ExcC K C) : (PySem.W.clsIn K C).isSome = true := by
  obtain ⟨cd, hc, _⟩ := PySem.W.any_some h.hd
  rw [hc]; rfl
theorem call_isX : CallR X (.builtin "isinstance") (rIsX X.K) := by
  rintro pins s σ H xs us Q J r ⟨a, C, c, t, b, rfl, k, h, z, q⟩
  obtain ⟨u1, u2, rfl, r1, r2⟩ := vals2 r
  cases k.eq r2
  cases (show u1 = Value.ref a from r1)
  obtain ⟨oe, od, A⟩ := h.inst J
  exact PySem.W.kia_one (PySem.W.kitx_exc (hasC z.cl) z.cl.hg z.cl.hk z.cl.hs z.cl.ha z.cl.hn z.cl.ht z.cl.hm) J.kIn A z.is (fun e => nomatch e) fun tk => ⟨.bl b, H, J.tok tk, rfl, q⟩
theorem call_isXT : CallR X (.builtin "isinstance") (rIsXT X.K) := by
  rintro pins s σ H xs us Q J r ⟨a, C, tp, cs, ts, b, rfl, hT, k, h, z, q⟩
  obtain ⟨u1, u2, rfl, r1, r2⟩ := vals2 r
  cases (show u2 = Value.ref tp from r2)
  cases (show u1 = Value.ref a from r1)
  obtain ⟨oe, od, A⟩ := h.inst J
  have ob : ObjOk X.prog X.w H s.heap tp (.tup cs) := J.hok tp _ hT
  obtain ⟨_, its, rv, o, h1, h2, m, h3⟩ := ob
  have e3 := ClsV.all k rv
  subst e3
  obtain ⟨oc, oo, dt, sl⟩ := o
  simp only at h2 h3
  subst h2 h3
  exact PySem.W.kia_tup (PySem.W.kitx_exc (hasC z.cl) z.cl.hg z.cl.hk z.cl.hs z.cl.ha z.cl.hn z.cl.ht z.cl.hm) J.kIn A h1 z.is (fun e => nomatch e) fun tk => ⟨.bl b, H, J.tok tk, rfl, q⟩
end
def isiX (tab : List (Addr × Bool)) : D → Option Val := fun d => match d with
  | .exn C _ _ _ => (lookA tab C).map fun b => .sh (.bl b)
  | _ => none
def xfD (Cs : List Addr) (n : Str) : D → Option Val := fun d => match d with
  | .exn C true ns ds => if C ∈ Cs then ((ns.zip ds).lookup n).map Val.sh else none
  | _ => none
section
variable {X : Cx} {e : Expr} {es : List Expr} {fe : DEnv → R Val} {p pos tpos : Pos} {y : Str} {q : Pos} {t : Value} {ts : List Value} {cs : List V} {c : V} {tab : List (Addr × Bool)} {ta : TA}
theorem de_isX (k : ClsV c t) (h : ∀ r ∈ tab, ExIs X.K r.1 t r.2) (hg : Gl X "isinstance") (hm : X.mg "isinstance" = none) (he : DE X e fe) (hy : PE X (.Name y q) (tC c))
    (h1 : starEach [e, .Name y q] X.env = (false, eval e X.env) :: starEach [.Name y q] X.env := by rfl) (h2 : starEach [.Name y q] X.env = (false, eval (.Name y q) X.env) :: starEach [] X.env := by rfl) (h3 : (backTo pos (starEach [.Name y q] X.env)).any (·.1) = false := by rfl) :
    DE X (.Call (.Name "isinstance" p) [e, .Name y q] [] pos) (sUn (isiX tab) fe) :=
  PE.imp (pe_callB call_isX hg hm (by decide +kernel) (pa_cons he (pa_cons hy pa_nil h2) h1) (he := h1) (hpl := h3)) fun σ H Q ⟨F0, H0, ρ, vs, xs, s, q⟩ => by
    refine ⟨F0, H0, ρ, vs, xs, s, (post_bind q).imp (fun x ρ1 q1 H1 v s1 => ?_) fun _ _ z => z⟩
    cases e1 : isiX tab x.fz with
    | none => rw [e1] at q1; exact q1.elim
    | some z =>
      rw [e1] at q1
      obtain ⟨F, hF, a, t⟩ := s1.fz.oneT
      match hx : x.fz, e1, a with
      | .exn C own ns ds, e1, .exn k1 k2 k3 k4 =>
        obtain ⟨b, e2, rfl⟩ := Option.map_eq_some_iff.mp (show (lookA tab C).map (fun b => Val.sh (.bl b)) = some z from e1)
        exact ⟨_, C, c, _, b, rfl, k, held_of hF k1 k2, h _ (lookA_mem e2), q1 H1 _ (s1.pop.scal fun F => .bl _)⟩
theorem de_isXT {kt} (hk : Paired ClsV cs ts) (hl : cs.length ≤ 1000) (h : ∀ r ∈ tab, ExAny X.K r.1 ts r.2) (hg : Gl X "isinstance") (hm : X.mg "isinstance" = none) (he : DE X e fe) (ht : PE X (.Tuple es kt tpos) (tTup ta)) (hta : ∀ σ H Q, Q cs H → ta σ H Q)
    (h1 : starEach [e, .Tuple es kt tpos] X.env = (false, eval e X.env) :: starEach [.Tuple es kt tpos] X.env := by rfl) (h2 : starEach [.Tuple es kt tpos] X.env = (false, eval (.Tuple es kt tpos) X.env) :: starEach [] X.env := by rfl) (h3 : (backTo pos (starEach [.Tuple es kt tpos] X.env)).any (·.1) = false := by rfl) :
    DE X (.Call (.Name "isinstance" p) [e, .Tuple es kt tpos] [] pos) (sUn (isiX tab) fe) :=
  PE.imp (pe_callB call_isXT hg hm (by decide +kernel) (pa_cons he (pa_cons ht pa_nil h2) h1) (he := h1) (hpl := h3)) fun σ H Q ⟨F0, H0, ρ, vs, xs, s, q⟩ => by
    refine ⟨F0, H0, ρ, vs, xs, s, (post_bind q).imp (fun x ρ1 q1 H1 v s1 => ?_) fun _ _ z => z⟩
    cases e1 : isiX tab x.fz with
    | none => rw [e1] at q1; exact q1.elim
    | some z =>
      rw [e1] at q1
      obtain ⟨F, hF, a, t⟩ := s1.fz.oneT
      match hx : x.fz, e1, a with
      | .exn C own ns ds, e1, .exn k1 k2 k3 k4 =>
        obtain ⟨b, e2, rfl⟩ := Option.map_eq_some_iff.mp (show (lookA tab C).map (fun b => Val.sh (.bl b)) = some z from e1)
        refine hta _ _ _ ⟨by rw [sizeLine_eq]; omega, fun T nT => ⟨_, C, T, cs, ts, b, rfl, upd_same, hk, ?_, h _ (lookA_mem e2), q1 _ _ ((s1.pop.more _ nT).scal fun F => .bl _)⟩⟩
        exact held_of (hF.trans fun b o e => by rw [upd_ne (ne_of_none e nT)]; exact e) k1 k2
/-- e.f -/
def tXh (K : PySem.W.Frag) (n : Str) (te : TE) : TE := fun σ H Q => te σ H fun x H1 => ∃ a C oe dx gs v, x = .ref a ∧ XfC K C ∧ PySem.W.findIn K (.ref C) n = some none ∧ H1 a = some (held a oe) ∧ Zc (.ref C) (some dx) oe ∧ (∃ fs, oe.data = .fields fs) ∧ H1 dx = some (.xd gs) ∧ gs.lookup n = some v ∧ Q v H1
theorem pe_xh {n : Str} {te : TE} (he : PE X e te) (hb : attributeBase e n X.env (eval e X.env) = eval e X.env := by rfl) : PE X (.Attribute e n pos) (tXh X.K n te) := by
  constructor
  intro pins s σ H Q J h
  refine attr_of hb (thn (he.run pins s σ H _ J h) ?_)
  rintro u s1 ⟨x, H1, J1, rx, a, C, oe, dx, gs, v, ex, T, no, ha, hz, ⟨fs, hf⟩, hd, hl, q⟩
  subst ex
  cases (show u = Value.ref a from rx)
  have ob : ObjOk X.prog X.w H1 s1.heap a (.ext fun h => h.get? a = some oe) := J1.hok a _ ha
  have xd : ObjOk X.prog X.w H1 s1.heap dx (.xd gs) := J1.hok dx _ hd
  obtain ⟨mA, hns, hr⟩ := xd
  obtain ⟨od, ho, lk⟩ := lookIn_ns hns
  obtain ⟨w, hw, rw'⟩ := RelO.some_of (v := v) (o := mA n) (by rw [← hl]; exact hr n)
  have nc : PySem.W.notCls oe := by unfold PySem.W.notCls; rw [hf] <;> trivial
  have A : PySem.W.InstAt s1.heap a oe C (some od) := ⟨ob.1, hz.1, nc, by rw [hz.2]; exact ho⟩
  exact HandSPX.exc_get J1.kIn A T.ga T.gg T.exC (PySem.W.findObj_own T.hdC no rfl (by rw [lk, hw])) (handed_of rw') ⟨v, H1, J1.tok _, rw', q⟩
theorem de_xf {Cs : List Addr} {n : Str} (hC : ∀ C ∈ Cs, XfC X.K C ∧ PySem.W.findIn X.K (.ref C) n = some none) (he : DE X e fe) (hb : attributeBase e n X.env (eval e X.env) = eval e X.env := by rfl) : DE X (.Attribute e n pos) (sUn (xfD Cs n) fe) :=
  PE.imp (pe_xh he hb) fun σ H Q ⟨F0, H0, ρ, vs, xs, s, q⟩ => by
    refine ⟨F0, H0, ρ, vs, xs, s, (post_bind q).imp (fun x ρ1 q1 H1 v s1 => ?_) fun _ _ z => z⟩
    cases e1 : xfD Cs n x.fz with
    | none => rw [e1] at q1; exact q1.elim
    | some y =>
      rw [e1] at q1
      obtain ⟨F, hF, a, t⟩ := s1.fz.oneT
      match hx : x.fz, e1, a with
      | .exn C true ns ds, e1, .exn (vs := us) k1 k2 k3 k4 =>
        have e1 : (if C ∈ Cs then ((ns.zip ds).lookup n).map Val.sh else none) = some y := e1
        split at e1
        rotate_left
        · cases e1
        rename_i hc
        obtain ⟨d, e2, rfl⟩ := Option.map_eq_some_iff.mp e1
        obtain ⟨w, e3, e4⟩ := zip_look k3 k4 e2
        obtain ⟨oe, g1, g2, g3⟩ := k1
        unfold ExDx at k2
        rw [if_pos rfl] at k2
        obtain ⟨dx, g4, g5⟩ := k2
        subst g4
        exact ⟨_, C, oe, dx, _, w, rfl, (hC C hc).1, (hC C hc).2, hF _ _ g1, g2, g3, hF _ _ g5, e3, q1 H1 w (t [w] [d] (.one e4))⟩
end

/-! ### list(range(n)) -/
def lrD : D → Option Val
  | .int n => if bnd62 n && decide (n ≤ 1000000) then some (.lst ((rangeL 0 n.toNat).map .sh)) else none
  | _ => none
def sLRange (f : DEnv → R Val) : DEnv → R Val := fun ρ => (f ρ).bind fun x ρ1 => liftO (lrD x.fz) ρ1
section
variable {X : Cx} {a : Expr} {fa : DEnv → R Val} {p p2 pos rpos : Pos}
theorem ats_rg {K : PySem.W.Frag} {F : Hp} (i : Int) : ∀ l : List Nat, Ats K F (l.map fun (k : Nat) => V.int (i + (k : Int))) (l.map fun (k : Nat) => D.int (i + (k : Int)))
  | [] => .nil
  | k :: l => .cons (.int _) (ats_rg i l)
theorem Stt.pushes {K : PySem.W.Frag} {F0 H0 H : Hp} {σ : L2.St} {ρ : DEnv} {vs : List V} {xs : List Val} (h : Stt K F0 H0 H σ ρ vs xs) : ∀ {as : List V} {ds : List D}, (∀ F, Ats K F as ds) → Stt K F0 H0 H σ ρ (as ++ vs) (ds.map .sh ++ xs) := by
  intro as
  induction as with
  | nil =>
    intro ds k
    have e : ds = [] := by cases k H with | nil => rfl
    subst e
    exact h
  | cons a as ih =>
    intro ds k
    match ds, k with
    | [], k => cases k H
    | d :: ds, k =>
      have k1 : ∀ F, At K F a d := fun F => by cases k F with | cons x _ => exact x
      have k2 : ∀ F, Ats K F as ds := fun F => by cases k F with | cons _ y => exact y
      exact (ih k2).scal k1
theorem de_lrange (hc : X.calm = true) (gl : Gl X "list") (ml : X.mg "list" = none) (gr : Gl X "range") (mr : X.mg "range" = none) (ha : DE X a fa) (na : starEach [a] X.env = (false, eval a X.env) :: starEach [] X.env := by rfl)
    (nl : starEach [.Call (.Name "range" p2) [a] [] rpos] X.env = (false, eval (.Call (.Name "range" p2) [a] [] rpos) X.env) :: starEach [] X.env := by rfl) : DE X (.Call (.Name "list" p) [.Call (.Name "range" p2) [a] [] rpos] [] pos) (sLRange fa) :=
  PE.imp (pe_listRg hc gl ml (prg_1 gr mr ha na) nl) fun σ H Q ⟨F0, H0, ρ, vs, xs, s, q⟩ => by
    refine ⟨F0, H0, ρ, vs, xs, s, (post_bind q).imp (fun x ρ1 q1 H1 v s1 => ?_) fun _ _ z => z⟩
    cases e1 : lrD x.fz with
    | none => rw [e1] at q1; exact q1.elim
    | some z =>
      rw [e1] at q1
      obtain ⟨F, hF, a, t⟩ := s1.fz.oneT
      match hx : x.fz, e1, a with
      | .int n, e1, .int _ =>
        have e1 : (if (bnd62 n && decide (n ≤ 1000000)) = true then some (Val.lst ((rangeL 0 n.toNat).map .sh)) else none) = some z := e1
        split at e1
        rotate_left
        · cases e1
        rename_i hb
        rw [Bool.and_eq_true, decide_eq_true_eq] at hb
        obtain ⟨b1, b2⟩ := bnd_of hb.1
        cases e1
        refine ⟨n, rfl, ⟨by omega, by omega, b1, b2, by omega⟩, fun p np => q1 _ _ ?_⟩
        have s2 := s1.pop.pushes (as := rgV 0 n) (ds := rangeL 0 n.toNat) fun F => by
          unfold rgV rangeL
          rw [show n - 0 = n by omega]
          exact ats_rg 0 _
        have hl : (rgV 0 n).length = ((rangeL 0 n.toNat).map Val.sh).length := by rw [rgV_length]; simp [rangeL]
        exact s2.newLst hl np
end

theorem any_no {K : PySem.W.Frag} {t c : Value} {r : List Value} {b : Bool} (h : PySem.W.kitOne K t c = some false) (k : PySem.W.kitAny K t r = some b) : PySem.W.kitAny K t (c :: r) = some b := by
  unfold PySem.W.kitAny
  rw [h]; exact k
theorem any_yes {K : PySem.W.Frag} {t c : Value} {r : List Value} (h : PySem.W.kitOne K t c = some true) : PySem.W.kitAny K t (c :: r) = some true := by
  unfold PySem.W.kitAny
  rw [h]

section
variable {K : PySem.W.Frag} {C T : Addr}
theorem kit_c (hc : PySem.W.isClsIn K T = true) (ht : PySem.W.typeIn K (.ref T) = some (.type "type")) : PySem.W.kitCls K (.ref C) (.ref T) = PySem.W.subIn K (.ref C) (.ref T) := by
  have h1 : (PySem.W.clsIn K T).isSome = true := hc
  have h2 : ((PySem.W.clsIn K T).isSome && PySem.W.typeIn K (.ref T) == some (.type "type")) = true := by rw [h1, ht] <;> rfl
  exact if_pos h2
theorem kit_yes (hc : PySem.W.isClsIn K T = true) (ht : PySem.W.typeIn K (.ref T) = some (.type "type")) (hs : PySem.W.subIn K (.ref C) (.ref T) = some true) : PySem.W.kitOne K (.ref C) (.ref T) = some true := by
  unfold PySem.W.kitOne
  split
  · rfl
  · rw [kit_c hc ht, hs]
theorem kit_no (hc : PySem.W.isClsIn K T = true) (ht : PySem.W.typeIn K (.ref T) = some (.type "type")) (hs : PySem.W.subIn K (.ref C) (.ref T) = some false) (self : PySem.W.subIn K (.ref C) (.ref C) = some true) : PySem.W.kitOne K (.ref C) (.ref T) = some false := by
  unfold PySem.W.kitOne
  split
  · rename_i h
    cases Value.ref.inj (beq_iff_eq.mp h)
    rw [self] at hs
    cases hs
  · rw [kit_c hc ht, hs]
theorem kit_ve (hs : PySem.W.subIn K (.ref C) (.type "ValueError") = some true) : PySem.W.kitOne K (.ref C) (.type "ValueError") = some true := by
  have h1 : PySem.W.kitMeta "ValueError" = true := by decide +kernel
  unfold PySem.W.kitOne
  split
  · rfl
  · show (if PySem.W.kitMeta "ValueError" = true then PySem.W.subIn K (.ref C) (.type "ValueError") else none) = some true
    rw [if_pos h1, hs]
end
end DL

/-! DLw: reckoning with what stands in DLv. -/
namespace DL
open PySem PySem.Spec L2
def tryX (o : Option Bool) (i : Nat) (e : DExn) (fs : DEnv → Fl) (ρ : DEnv) : Fl := match o with
  | some true => if i < ρ.length ∧ e.ns.length = e.ds.length then (fs (ρ.set i (some (.sh e.d)))).after i else .bad
  | some false => .exc e ρ
  | none => .bad
def tryF (i : Nat) (tb : List (Addr × Bool)) (fs : DEnv → Fl) (r : Fl) : Fl := match r with
  | .exc e ρ => tryX (lookA tb e.cls) i e fs ρ
  | r => r
section
variable {fs : DEnv → R (List Val)} {fb gb f : DEnv → Fl} {fa : DEnv → R Val} {ρ : DEnv} {n i : Nat} {e : DExn} {C c : Addr} {ns : List Str} {ds : List D} {tb : List (Addr × Bool)} {b o : Bool} {Cs : List Addr} {x : Val} {nm : Str}
@[simp] theorem sRaise_ap : sRaise C ns fs ρ = (fs ρ).fl fun xs ρ1 => if xs.length = ns.length then .exc ⟨C, true, ns.reverse, (fzs xs).reverse⟩ ρ1 else .bad := id rfl
@[simp] theorem sRaise0_ap : sRaise0 C ρ = .exc ⟨C, false, [], []⟩ ρ := id rfl
@[simp] theorem tryX_t : tryX (some true) i e f ρ = if i < ρ.length ∧ e.ns.length = e.ds.length then (f (ρ.set i (some (.sh e.d)))).after i else .bad := id rfl
@[simp] theorem tryX_f : tryX (some false) i e f ρ = .exc e ρ := id rfl
theorem sTry_ap : sTry i tb fb f ρ = tryF i tb f (fb ρ) := by
  unfold sTry tryF
  cases fb ρ <;> rfl
@[simp] theorem tryF_nx : tryF i tb f (.nx ρ) = .nx ρ := id rfl
@[simp] theorem tryF_rt : tryF i tb f (.rt x ρ) = .rt x ρ := id rfl
@[simp] theorem tryF_exc : tryF i tb f (.exc e ρ) = tryX (lookA tb e.cls) i e f ρ := id rfl
@[simp] theorem lookA_nil : lookA ([] : List (Addr × Bool)) c = none := id rfl
@[simp] theorem lookA_cons : lookA ((C, b) :: tb) c = if C = c then some b else lookA tb c := id rfl
@[simp] theorem d_exn : DExn.d ⟨C, o, ns, ds⟩ = .exn C o ns ds := id rfl
@[simp] theorem isiX_exn : isiX tb (.exn C o ns ds) = (lookA tb C).map fun b => .sh (.bl b) := id rfl
theorem xfD_exn : xfD Cs nm (.exn C true ns ds) = if C ∈ Cs then ((ns.zip ds).lookup nm).map .sh else none := id rfl
@[simp] theorem isN_exn : isN (.exn C o ns ds) = false := id rfl
@[simp] theorem sLRange_ap : sLRange fa ρ = (fa ρ).bind fun x ρ1 => liftO (lrD x.fz) ρ1 := id rfl
theorem lrD_i {k : Int} (h0 : 0 ≤ k) (h : k ≤ 1000000) : lrD (.int k) = some (.lst ((rangeL 0 k.toNat).map .sh)) := by
  have e : lrD (.int k) = if bnd62 k && decide (k ≤ 1000000) then some (.lst ((rangeL 0 k.toNat).map .sh)) else none := rfl
  have b : bnd62 k = true := by
    unfold bnd62
    rw [Bool.and_eq_true, decide_eq_true_eq, decide_eq_true_eq]
    omega
  rw [e, b, decide_eq_true h]; rfl
end
end DL

/-! DLy: exceptions whose class has no __init__; exceptions that are made and held. -/
namespace DL
open PySem PySem.Spec L2 PyProof.Rows
def VEs : List Value := [.type "ValueError", .type "Exception", .type "BaseException", .type "object"]
structure Exc0 (K : PySem.W.Frag) (C : Addr) : Prop where
  x : PySem.W.excIn K C VEs "ValueError.__new__" = true
  kC : PySem.W.keepIn K (.ref C) = true
  eC : PySem.W.subIn K (.ref C) (.type "BaseException") = some true
  tC : PySem.W.typeIn K (.ref C) = some (.type "type")
section
variable {X : Cx} {C : Addr} {x : Str} {p pos rpos : Pos}
/-- X() -/
theorem pmk_none (T : Exc0 X.K C) (gC : X.mg x = some (.ref C)) (hg : Gl X x) (hdb : (x == ("__debug__" : Str)) = false := by decide) : PMk X (.Call (.Name x p) [] [] pos) (fun _ H Q => Q (.ref C) none H) := by
  intro pins s σ H Q J h
  refine wpAny_Call_Name_kw (ld_glob J hg gC ?_ hdb)
  refine PySem.W.callWith_K0 J.kIn T.kC ?_
  obtain ⟨bm, N, nm, qn, bs, hdct, sn, sub, ab, col, dd, k0, k1, k2, k3, k5, mN, hC, hN, hni, OT⟩ := exc_obj J.kIn T.x
  exact wpAny_call_exc_subT F.excBase_ValueError OT hC hN hni (fun h' e hm => mk_of J hm (raises_own T.eC T.tC) h (J.hok.gone hm.new)) (Nat.zero_le _)
theorem ds_raise0 (hc : X.calm = true) (T : Exc0 X.K C) (hg : Gl X x) (gC : X.mg x = some (.ref C)) (hdb : (x == ("__debug__" : Str)) = false := by decide) : DS X (.Raise (some (.Call (.Name x p) [] [] pos)) none rpos) (sRaise0 C) :=
  PS.imp (ps_raise hc takes_okx (pmk_none T gC hg hdb)) fun D σ H ⟨F0, H0, ρ, vs, xs, s, q⟩ => q σ H none [] s rfl (by unfold xdOk; rw [if_neg Bool.false_ne_true])
theorem held_ok {P : Program} {w : World} {H : Hp} {h : Heap} {a : Addr} {oe : Obj} (e : h.get? a = some oe) : ObjOk P w H h a (held a oe) := ⟨e, ⟨oe, e⟩, fun h1 h2 z k => k _ z⟩
/-- what is made is held -/
theorem pe_mk {e : Expr} {t : L2.St → Hp → XK → Prop} (m : PMk X e t) : PE X e (fun σ H Q => t σ H fun cls d H' => ∀ a oe, H' a = none → Zc cls d oe → (∃ fs, oe.data = .fields fs) → Q (.ref a) (upd H' a (held a oe))) := by
  refine ⟨fun pins s σ H Q I h => thn (m pins s σ H _ I h) ?_⟩
  rintro u s1 ⟨a, oe, vs, sI, H', cls, d, eu, J, k, hne, ha, hz, hd, h1, na, os, ag, r, q⟩
  subst eu
  have J2 : Inv X pins σ (upd H' a (held a oe)) { sI with heap := s1.heap, gens := s1.gens, drawn := s1.drawn, toks := s1.toks } :=
    J.call (ch := []) (Un.laidN k hne na) (J.hok.laidN k na (held_ok ha)) ag (fun _ z => nomatch z)
  have e : s1 = { sI with heap := s1.heap, gens := s1.gens, drawn := s1.drawn, toks := s1.toks } := by
    cases s1
    cases sI
    cases os
    rfl
  rw [e]
  exact ⟨.ref a, _, J2, rfl, q a oe na hz ⟨vs, hd⟩⟩
def sMkX0 (C : Addr) : DEnv → R Val := fun ρ => .ok (.sh (.exn C false [] [])) ρ
def sMkX (C : Addr) (ns : List Str) (fs : DEnv → R (List Val)) : DEnv → R Val := fun ρ => (fs ρ).bind fun xs ρ1 => if xs.length = ns.length then .ok (.sh (.exn C true ns.reverse (fzs xs).reverse)) ρ1 else .bad
theorem de_mkX0 (T : Exc0 X.K C) (hg : Gl X x) (gC : X.mg x = some (.ref C)) (hdb : (x == ("__debug__" : Str)) = false := by decide) : DE X (.Call (.Name x p) [] [] pos) (sMkX0 C) :=
  PE.imp (pe_mk (pmk_none T gC hg hdb)) fun σ H Q ⟨F0, H0, ρ, vs, xs, s, q⟩ => by
    intro a oe na hz hf
    have s1 := Stt.caughtV (e := ⟨C, false, [], []⟩) (ves := []) s rfl (by unfold xdOk; rw [if_neg Bool.false_ne_true]) na hz hf rfl
    exact q _ _ s1
variable {k : Nat} {fI : Addr} {fd : FuncData} {ps ns : List Str} {e : Expr} {es : List Expr} {fs : DEnv → R (List Val)}
theorem de_mkX (T : OexC X.K C) (at_ : PySem.W.findIn X.K (.ref C) "__init__" = some (some (.ref fI))) (ty : PySem.W.typeIn X.K (.ref fI) = some (.type "function"))
    (F : FnOk X.prog X.w X.K X.mg X.base (L2.CX X.prog X.w) k fI fd ps (spX X.K C ns)) (hr : Room (k + 1) X.A) (hb : Binds X.K fd ps []) (hp : Passes (L2.CX X.prog X.w) X (fun _ _ _ => False)) (hn : ns.length ≤ 900)
    (hg : Gl X x) (hm : X.mg x = some (.ref C)) (ha : DA X (e :: es) fs) (hdb : (x == ("__debug__" : Str)) = false := by decide)
    (he : starEach (e :: es) X.env = (false, eval e X.env) :: starEach es X.env := by rfl) (hpl : (backTo pos (starEach es X.env)).any (·.1) = false := by rfl) :
    DE X (.Call (.Name x p) (e :: es) [] pos) (sMkX C ns fs) :=
  PE.imp (pe_mk (pmk_oex T at_ ty F hr hb (.nil) hp hg hm ha hdb he hpl)) fun σ H Q ⟨F0, H0, ρ, vs, xs, s, q⟩ => by
    refine ⟨F0, H0, ρ, vs, xs, s, (post_bind q).imp (fun ys ρ1 q1 H1 ws hl s1 => ?_) fun _ _ z => z⟩
    split at q1
    rotate_left
    · exact q1.elim
    rename_i hlen
    refine ⟨by omega, fun a na => ⟨a, ws, by rw [List.append_nil], by omega, upd_same, fun dx H' nd nda e1 e2 e3 => ⟨rfl, dx, _, e1, e2, ?_, ?_⟩⟩⟩
    · rw [upd_ne nda] at nd; exact nd
    rw [upd_ne nda] at nd
    have eH : upd (L2.del H' a) dx (.xd (ns.zip ws).reverse) = upd H1 dx (.xd (ns.zip ws).reverse) := by
      funext b
      by_cases b2 : b = dx
      · rw [b2, upd_same, upd_same]
      · rw [upd_ne b2, upd_ne b2]
        by_cases b1 : b = a
        · rw [b1, del_same, na]
        · rw [del_ne b1, e3 b b1 b2, upd_ne b1]
    rw [eH]
    obtain ⟨hl2, s2⟩ := s1.fzsP hl
    obtain ⟨F, hF, hA, tell⟩ := Stt.reads hl2 s2
    have s3 := (tell _ _ hA.rev).more (.xd (ns.zip ws).reverse) nd
    intro b oe nb hz hf
    refine q1 _ _ (Stt.caughtV (e := ⟨C, true, ns.reverse, (fzs ys).reverse⟩) (ves := ws.reverse) s3 (by simpa using hl2) ?_ nb hz hf ?_)
    · unfold xdOk
      rw [if_pos rfl]
      refine ⟨dx, rfl, s1.sub0.free nd, ?_⟩
      rw [upd_same]
      rw [zip_rev (by omega)]
    · show ns.reverse.length = (fzs ys).reverse.length
      rw [List.length_reverse, List.length_reverse, fzs_map, List.length_map]; omega
end
@[simp] theorem sMkX0_ap {C : Addr} {ρ : DEnv} : sMkX0 C ρ = .ok (.sh (.exn C false [] [])) ρ := id rfl
@[simp] theorem sMkX_ap {C : Addr} {ns : List Str} {fs : DEnv → R (List Val)} {ρ : DEnv} : sMkX C ns fs ρ = (fs ρ).bind fun xs ρ1 => if xs.length = ns.length then .ok (.sh (.exn C true ns.reverse (fzs xs).reverse)) ρ1 else .bad := id rfl
end DL

/-! DLx: what is changed later is lent, under a lock, to an expression that makes a value of its own. -/
namespace DL
open PySem PySem.Spec L2
mutual
/-- as it is seen while it is locked -/
def Val.lk : Val → D
  | .sh d => d
  | .lst xs => .scr (lks xs)
  | .tup xs => .tup (lks xs)
  | .dic _ _ => .junk
def lks : List Val → List D
  | [] => []
  | x :: xs => x.lk :: lks xs
end
mutual
/-- nothing locked hangs on it -/
def D.cln : D → Bool
  | .non => true
  | .bl _ => true
  | .int _ => true
  | .str _ => true
  | .tup ds => clns ds
  | .lst ds => clns ds
  | .scr _ => false
  | .ins _ _ ds => clns ds
  | .junk => false
  | .exn _ _ _ ds => clns ds
def clns : List D → Bool
  | [] => true
  | d :: ds => d.cln && clns ds
end
mutual
def Val.cln : Val → Bool
  | .sh d => d.cln
  | .lst xs => vclns xs
  | .tup xs => vclns xs
  | .dic _ _ => false
def vclns : List Val → Bool
  | [] => true
  | x :: xs => x.cln && vclns xs
end
def Val.inner : Val → Bool
  | .lst _ => true
  | .tup _ => true
  | _ => false
mutual
/-- a list hangs on each tuple of one's own -/
def Val.deep : Val → Bool
  | .sh _ => true
  | .dic _ _ => true
  | .lst xs => deeps xs
  | .tup xs => deeps xs && xs.any Val.inner
def deeps : List Val → Bool
  | [] => true
  | x :: xs => x.deep && deeps xs
end
def isLT : Option HO → Bool
  | some (.lst _) => true
  | some (.tup _) => true
  | _ => false
/-- what the written part says of tracked lists and tuples -/
def KFar (K : PySem.W.Frag) (H : Hp) : Prop := (∀ b vs us, H b = some (.lst vs) → ¬ KTup K b us) ∧ ∀ b vs us, H b = some (.tup vs) → KTup K b us → ∀ (j : Nat) (c : Addr), vs[j]? = some (.ref c) → us[j]? = some (.ref c)
theorem relV_ref {x : V} {c : Addr} (r : RelV x (.ref c)) : x = .ref c := by
  cases x with
  | ref a => cases (show Value.ref c = Value.ref a from r); rfl
  | non => cases (show Value.ref c = Value.none from r)
  | bl b => cases (show Value.ref c = Value.bool b from r)
  | int i => obtain ⟨t, e⟩ := (show ∃ t, Value.ref c = Value.int i t from r); cases e
  | str z => obtain ⟨t, e⟩ := (show ∃ t, Value.ref c = Value.str z t from r); cases e
  | byt z => obtain ⟨t, e⟩ := (show ∃ t, Value.ref c = Value.bytes z t from r); cases e
  | flt z => obtain ⟨t, e⟩ := (show ∃ t, Value.ref c = Value.float z t from r); cases e
  | ty z => cases (show Value.ref c = Value.type z from r)
theorem vals_refAt : ∀ {vs us : List V} {its : List Value} {j : Nat} {c : Addr}, Vals vs its → Vals us its → vs[j]? = some (.ref c) → us[j]? = some (.ref c)
  | _, _, _, _, _, .nil, .nil, h => h
  | _, _, _, 0, c, .cons r _, .cons q _, h => by
    simp at h
    subst h
    cases r
    rw [relV_ref q]; rfl
  | _, _, _, j + 1, c, .cons _ r, .cons _ q, h => by
    have := vals_refAt (j := j) (c := c) r q (by simpa using h)
    simpa using this
theorem kfar_of {X : Cx} {pins : List (Addr × Obj)} {σ : L2.St} {H : Hp} {s : Shared} (I : Inv X pins σ H s) : KFar X.K H := by
  refine ⟨fun b vs us hb => ?_, fun b vs us hb => ?_⟩
  · rintro ⟨o, its, n, h1, h2, h3, h4, h5⟩
    obtain ⟨_, is, m, r, e⟩ := (show ObjOk X.prog X.w H s.heap b (.lst vs) from I.hok b _ hb)
    have e2 := I.kIn b o h1
    rw [e] at e2
    have e3 := Option.some.inj e2
    rw [← e3] at h2
    have e4 := Value.type.inj h2
    exact absurd e4 (by decide)
  · rintro ⟨o, its, n, h1, h2, h3, h4, h5⟩ j c hj
    obtain ⟨_, is, r, o2, e, _, m, e3⟩ := (show ObjOk X.prog X.w H s.heap b (.tup vs) from I.hok b _ hb)
    have e2 := I.kIn b o h1
    rw [e] at e2
    cases e2
    rw [h3] at e3
    cases e3
    exact vals_refAt r (by simpa using h5) hj
/-- the lists L of H are locked in H1 -/
def LkOf (L : List Addr) (H H1 : Hp) : Prop := (∀ b, b ∉ L → H1 b = H b) ∧ ∀ b ∈ L, ∃ o u, H b = some u ∧ H1 b = some (.frz o u)
def unl (L : List Addr) (H H' : Hp) : Hp := fun b => if b ∈ L then H b else H' b
def tLks : List Addr → TE → TE
  | [], t => t
  | _ :: L, t => tLockE (tLks L t)
theorem pe_lks {X : Cx} {e : Expr} {t : TE} (h : PE X e t) : ∀ L, PE X e (tLks L t)
  | [] => h
  | _ :: L => pe_lock (pe_lks h L)
theorem tE_mono {X : Cx} {f : DEnv → R Val} {σ : L2.St} {H : Hp} {Q Q' : VK} (h : tE X f σ H Q) (k : ∀ v H, Q v H → Q' v H) : tE X f σ H Q' := PE_Q h k
theorem lks_intro {X : Cx} {f : DEnv → R Val} {σ : L2.St} : ∀ {L : List Addr} {H : Hp} {Q : VK}, L.Nodup → (∀ b ∈ L, ∃ vs, H b = some (.lst vs)) →
    (∀ H1, LkOf L H H1 → tE X f σ H1 fun v H' => (∀ b ∈ L, H' b = H1 b) ∧ Q v (unl L H H')) → tLks L (tE X f) σ H Q
  | [], H, Q, _, _, k => by
    refine tE_mono (k H ⟨fun _ _ => rfl, fun b hb => by cases hb⟩) fun v H' q => ?_
    have e : unl [] H H' = H' := by funext b; simp [unl]
    rw [e] at q
    exact q.2
  | d :: L, H, Q, hn, hl, k => by
    obtain ⟨nd, hn'⟩ := List.nodup_cons.mp hn
    obtain ⟨vs, hd⟩ := hl d List.mem_cons_self
    refine ⟨d, .lst vs, hd, trivial, fun od => ?_⟩
    refine lks_intro hn' (fun b hb => ?_) fun H1 lk => ?_
    · obtain ⟨us, e⟩ := hl b (List.mem_cons_of_mem _ hb)
      exact ⟨us, by rw [upd_ne (fun z : b = d => nd (by rw [← z]; exact hb))]; exact e⟩
    · have l1 : H1 d = some (.frz od (.lst vs)) := by rw [lk.1 d nd, upd_same]
      refine tE_mono (k H1 ⟨fun b hb => ?_, fun b hb => ?_⟩) fun v H' q => ⟨fun b hb => q.1 b (List.mem_cons_of_mem _ hb), ?_, ?_⟩
      · rw [lk.1 b fun z => hb (List.mem_cons_of_mem _ z), upd_ne fun z : b = d => hb (by rw [z]; exact List.mem_cons_self)]
      · by_cases e : b = d
        · subst e; exact ⟨od, _, hd, l1⟩
        · have hb' : b ∈ L := by
            rcases List.mem_cons.mp hb with z | z
            · exact absurd z e
            · exact z
          obtain ⟨o, u, h1, h2⟩ := lk.2 b hb'
          rw [upd_ne e] at h1
          exact ⟨o, u, h1, h2⟩
      · show unl L _ H' d = _
        unfold unl
        rw [if_neg nd, q.1 d List.mem_cons_self, l1]
      · have e : upd (unl L (upd H d (.frz od (.lst vs))) H') d (.lst vs) = unl (d :: L) H H' := by
          funext b
          by_cases e : b = d
          · subst e
            rw [upd_same]
            unfold unl
            rw [if_pos List.mem_cons_self, hd]
          · rw [upd_ne e]
            unfold unl
            by_cases hb : b ∈ L
            · rw [if_pos hb, if_pos (List.mem_cons_of_mem _ hb), upd_ne e]
            · rw [if_neg hb, if_neg (fun z => (List.mem_cons.mp z).elim e hb)]
        rw [e]; exact q.2

/-! ### what is locked is read -/
section
variable {K : PySem.W.Frag} {F F1 H H1 : Hp} {f : List Addr}
/-- the frozen heap while the lists of f are locked -/
def fLk (F H H1 : Hp) (f : List Addr) : Hp := fun b => if b ∈ f ∧ isLT (H b) = true then H1 b else F b
def isL : Option HO → Bool
  | some (.lst _) => true
  | _ => false
theorem isL_some {o : Option HO} (h : isL o = true) : ∃ vs, o = some (.lst vs) := by
  cases o with
  | none => cases h
  | some u =>
    cases u with
    | lst vs => exact ⟨vs, rfl⟩
    | _ => cases h
theorem isLT_some {o : Option HO} (h : isLT o = true) : (∃ vs, o = some (.lst vs)) ∨ ∃ vs, o = some (.tup vs) := by
  cases o with
  | none => cases h
  | some u =>
    cases u with
    | lst vs => exact .inl ⟨vs, rfl⟩
    | tup vs => exact .inr ⟨vs, rfl⟩
    | _ => cases h
def lOf (H : Hp) (f : List Addr) : List Addr := f.filter fun b => isL (H b)
theorem lOf_mem {b : Addr} : b ∈ lOf H f ↔ b ∈ f ∧ ∃ vs, H b = some (.lst vs) := by
  unfold lOf
  rw [List.mem_filter]
  constructor
  · rintro ⟨h1, h2⟩
    exact ⟨h1, isL_some h2⟩
  · rintro ⟨h1, vs, e⟩
    exact ⟨h1, by rw [e]; rfl⟩
theorem fLk_lst (lk : LkOf (lOf H f) H H1) {b : Addr} {vs : List V} (hb : b ∈ f) (e : H b = some (.lst vs)) : ∃ o, fLk F H H1 f b = some (.frz o (.lst vs)) ∧ H1 b = some (.frz o (.lst vs)) := by
  obtain ⟨o, u, h1, h2⟩ := lk.2 b (lOf_mem.mpr ⟨hb, vs, e⟩)
  rw [e] at h1
  cases h1
  refine ⟨o, ?_, h2⟩
  unfold fLk
  rw [if_pos ⟨hb, by rw [e]; rfl⟩]; exact h2
theorem fLk_tup (lk : LkOf (lOf H f) H H1) {b : Addr} {vs : List V} (hb : b ∈ f) (e : H b = some (.tup vs)) : fLk F H H1 f b = some (.tup vs) ∧ H1 b = some (.tup vs) := by
  have h1 : H1 b = some (.tup vs) := by
    rw [lk.1 b fun z => ?_]
    · exact e
    · obtain ⟨_, us, z⟩ := lOf_mem.mp z
      rw [e] at z; cases z
  refine ⟨?_, h1⟩
  unfold fLk
  rw [if_pos ⟨hb, by rw [e]; rfl⟩]; exact h1
theorem fLk_same (k : ∀ b ∈ f, F b = none) : Same F (fLk F H H1 f) := fun b u e => by
  unfold fLk
  rw [if_neg fun z => by rw [k b z.1] at e; cases e]; exact e
mutual
theorem Own.lk (lk : LkOf (lOf H f) H H1) (sF : Same F (fLk F H H1 f)) : ∀ (x : Val) (v : V) (g : List Addr), Own K F H v x g → (∀ b ∈ g, b ∈ f) → At K (fLk F H H1 f) v x.lk
  | .sh d, _, _, h, _ => by
    cases h with
    | sh h => rw [Val.lk]; exact At.mono sF d _ h
  | .lst xs, _, _, h, k => by
    cases h with
    | lst h1 h2 h3 =>
      rw [Val.lk]
      obtain ⟨o, e1, _⟩ := fLk_lst (F := F) lk (k _ List.mem_cons_self) h2
      exact .scr (.inl (.inr ⟨o, e1⟩)) (Owns.lk lk sF xs _ _ h3 fun b hb => k b (List.mem_cons_of_mem _ hb))
  | .tup xs, _, _, h, k => by
    cases h with
    | tup h1 h2 h3 =>
      rw [Val.lk]
      exact .tup (.inl (fLk_tup (F := F) lk (k _ List.mem_cons_self) h2).1) (Owns.lk lk sF xs _ _ h3 fun b hb => k b (List.mem_cons_of_mem _ hb))
  | .dic b ds, _, _, h, _ => by
    rw [Val.lk]
    cases h with
    | dic => exact .junk _
    | dicL => exact .junk _
theorem Owns.lk (lk : LkOf (lOf H f) H H1) (sF : Same F (fLk F H H1 f)) : ∀ (xs : List Val) (vs : List V) (g : List Addr), Owns K F H vs xs g → (∀ b ∈ g, b ∈ f) → Ats K (fLk F H H1 f) vs (lks xs)
  | [], _, _, h, _ => by cases h; rw [lks]; exact .nil
  | x :: xs, _, _, h, k => by
    cases h with
    | cons h1 h2 =>
      rw [lks]
      exact .cons (Own.lk lk sF x _ _ h1 fun b hb => k b (List.mem_append_left _ hb)) (Owns.lk lk sF xs _ _ h2 fun b hb => k b (List.mem_append_right _ hb))
end
def lkO (o : Option Val) : Option Val := match o with
  | some x => some (.sh x.lk)
  | none => none
theorem Sl.lk (lk : LkOf (lOf H f) H H1) (sF : Same F (fLk F H H1 f)) : ∀ {σ : L2.St} {ρ : DEnv} {g : List Addr}, Sl K F H σ ρ g → (∀ b ∈ g, b ∈ f) → Sl K (fLk F H H1 f) H1 σ (ρ.map lkO) []
  | _, _, _, .nil, _ => .nil
  | _, _, _, .un t, k => .un (Sl.lk lk sF t k)
  | _, _, _, .bd (f := g1) (g := g2) h t, k => .bd (f := []) (g := []) (.sh (Own.lk lk sF _ _ _ h fun b hb => k b (List.mem_append_left _ hb))) (Sl.lk lk sF t fun b hb => k b (List.mem_append_right _ hb))

/-! ### nothing clean hangs on what is locked -/
theorem clns_get : ∀ {ds : List D} {j : Nat} {d : D}, clns ds = true → ds[j]? = some d → d.cln = true
  | [], _, _, _, e => by simp at e
  | d0 :: ds, 0, d, h, e => by
    simp at e
    subst e
    rw [clns, Bool.and_eq_true] at h
    exact h.1
  | d0 :: ds, j + 1, d, h, e => by
    rw [clns, Bool.and_eq_true] at h
    exact clns_get (j := j) h.2 (by simpa using e)
/-- at b: nothing clean -/
def Dirty (K : PySem.W.Frag) (F' : Hp) (v : V) : Prop := ∀ d, At K F' v d → d.cln = false
variable {F' : Hp}
theorem Owns.innerAt : ∀ {xs : List Val} {vs : List V} {g : List Addr}, Owns K F H vs xs g → xs.any Val.inner = true → ∃ (j : Nat) (x : Val) (v : V) (g' : List Addr), xs[j]? = some x ∧ vs[j]? = some v ∧ x.inner = true ∧ Own K F H v x g' ∧ ∀ b ∈ g', b ∈ g
  | [], _, _, _, h => by simp at h
  | x :: xs, _, _, .cons (v := v) (f := f1) (g := f2) a t, h => by
    by_cases e : x.inner = true
    · exact ⟨0, x, v, f1, rfl, rfl, e, a, fun b hb => List.mem_append_left _ hb⟩
    · rw [List.any_cons, Bool.or_eq_true] at h
      obtain ⟨j, y, v', g', h1, h2, h3, h4, h5⟩ := Owns.innerAt t (h.resolve_left e)
      exact ⟨j + 1, y, v', g', by simpa using h1, by simpa using h2, h3, h4, fun b hb => List.mem_append_right _ (h5 b hb)⟩
theorem deeps_get : ∀ {xs : List Val} {j : Nat} {x : Val}, deeps xs = true → xs[j]? = some x → x.deep = true
  | [], _, _, _, e => by simp at e
  | d0 :: ds, 0, d, h, e => by
    simp at e
    subst e
    rw [deeps, Bool.and_eq_true] at h
    exact h.1
  | d0 :: ds, j + 1, d, h, e => by
    rw [deeps, Bool.and_eq_true] at h
    exact deeps_get (j := j) h.2 (by simpa using e)
theorem Own.dirty (lk : LkOf (lOf H f) H H1) (kf : KFar K H) (s' : Same (fLk F H H1 f) F') : ∀ (n : Nat) (x : Val) (v : V) (g : List Addr), sizeOf x ≤ n → Own K F H v x g → (∀ b ∈ g, b ∈ f) → x.deep = true → x.inner = true → Dirty K F' v
  | 0, x, _, _, hn, _, _, _, _ => by
    cases x <;> simp at hn
    all_goals omega
  | n + 1, .lst xs, _, _, _, h, k, dp, _ => by
    cases h with
    | lst h1 h2 h3 =>
      rename_i p vs g
      intro d a
      obtain ⟨o, e1, _⟩ := fLk_lst (F := F) lk (k _ List.mem_cons_self) h2
      have e2 := s' _ _ e1
      cases a with
      | lst hs _ => rw [e2] at hs; cases hs
      | scr _ _ => rw [D.cln]
      | tup ht _ =>
        rcases ht with ht | ⟨_, ht⟩
        · rw [e2] at ht; cases ht
        · exact (kf.1 _ _ _ h2 ht).elim
      | junk _ => rw [D.cln]
      | exn hx _ _ _ =>
        obtain ⟨oe, hx, _⟩ := hx
        rw [e2] at hx; cases hx
      | ins hi _ _ => rw [e2] at hi; cases hi
  | n + 1, .tup xs, _, _, hn, h, k, dp, _ => by
    cases h with
    | tup h1 h2 h3 =>
      rename_i p ws g
      intro d a
      rw [Val.deep, Bool.and_eq_true] at dp
      obtain ⟨j, x, v, g', q1, q2, q3, q4, q5⟩ := Owns.innerAt h3 dp.2
      have hx : sizeOf x ≤ n := by
        have := List.sizeOf_lt_of_mem (List.mem_of_getElem? q1)
        simp at hn
        omega
      have dj := Own.dirty lk kf s' n x v g' hx q4 (fun b hb => k b (List.mem_cons_of_mem _ (q5 b hb))) (deeps_get dp.1 q1) q3
      have e1 := (fLk_tup (F := F) lk (k _ List.mem_cons_self) h2).1
      have e2 := s' _ _ e1
      have vr : ∃ c, v = .ref c := by
        cases q4 with
        | lst _ _ _ => exact ⟨_, rfl⟩
        | tup _ _ _ => exact ⟨_, rfl⟩
        | sh _ => cases q3
        | dic => cases q3
        | dicL => cases q3
      obtain ⟨c, rfl⟩ := vr
      have fin : ∀ {us : List V} {ds : List D}, us[j]? = some (.ref c) → Ats K F' us ds → clns ds = false := fun {us ds} hu ha => by
        obtain ⟨d', g1, g2⟩ := ha.get' hu
        cases e : clns ds with
        | false => rfl
        | true =>
          have := clns_get e g1
          rw [dj d' g2] at this
          cases this
      cases a with
      | lst hs _ => rw [e2] at hs; cases hs
      | scr _ _ => rw [D.cln]
      | tup ht ha =>
        rw [D.cln]
        rcases ht with ht | ⟨_, ht⟩
        · rw [e2] at ht
          cases ht
          exact fin q2 ha
        · exact fin (kf.2 _ _ _ h2 ht j c q2) ha
      | junk _ => rw [D.cln]
      | exn hx _ _ _ =>
        obtain ⟨oe, hx, _⟩ := hx
        rw [e2] at hx; cases hx
      | ins hi _ _ => rw [e2] at hi; cases hi
  | n + 1, .sh d, _, _, _, _, _, _, e => by cases e
  | n + 1, .dic b ds, _, _, _, _, _, _, e => by cases e
/-- all that is locked is dirty -/
theorem Owns.dirt (lk : LkOf (lOf H f) H H1) (kf : KFar K H) (s' : Same (fLk F H H1 f) F') : ∀ (n : Nat), (∀ (x : Val) (v : V) (g : List Addr), sizeOf x ≤ n → Own K F H v x g → (∀ b ∈ g, b ∈ f) → x.deep = true → ∀ b ∈ g, isLT (H b) = true → Dirty K F' (.ref b)) ∧
    ∀ (xs : List Val) (vs : List V) (g : List Addr), sizeOf xs ≤ n → Owns K F H vs xs g → (∀ b ∈ g, b ∈ f) → deeps xs = true → ∀ b ∈ g, isLT (H b) = true → Dirty K F' (.ref b) := by
  intro n
  induction n with
  | zero =>
    refine ⟨fun x v g hn => ?_, fun xs vs g hn => ?_⟩
    · cases x <;> simp at hn
      all_goals omega
    · cases xs <;> simp at hn
  | succ n ih =>
    refine ⟨fun x v g hn h k dp b hb hl => ?_, fun xs vs g hn h k dp b hb hl => ?_⟩
    · have hh := h
      cases h with
      | sh _ => cases hb
      | lst h1 h2 h3 =>
        rename_i p ws xs g
        rcases List.mem_cons.mp hb with e | hb
        · rw [e]
          exact Own.dirty lk kf s' _ _ _ _ (Nat.le_refl _) hh k dp rfl
        · refine ih.2 xs ws g (by simp at hn; omega) h3 (fun b hb => k b (List.mem_cons_of_mem _ hb)) (by rw [Val.deep] at dp; exact dp) b hb hl
      | tup h1 h2 h3 =>
        rename_i p ws xs g
        rcases List.mem_cons.mp hb with e | hb
        · rw [e]
          exact Own.dirty lk kf s' _ _ _ _ (Nat.le_refl _) hh k dp rfl
        · refine ih.2 xs ws g (by simp at hn; omega) h3 (fun b hb => k b (List.mem_cons_of_mem _ hb)) (by rw [Val.deep, Bool.and_eq_true] at dp; exact dp.1) b hb hl
      | dicL => cases hb
      | dic h1 h2 h3 h4 =>
        rw [List.mem_singleton.mp hb] at hl
        exfalso
        obtain ⟨_, u, hu, z⟩ := h2
        rcases hu with ⟨_, rfl⟩ | ⟨_, kk, _, rfl⟩ <;> rcases z with ⟨_, z⟩ | ⟨_, o, z⟩ <;> rw [z] at hl <;> cases hl
    · cases h with
      | nil => cases hb
      | cons h1 h2 =>
        rw [deeps, Bool.and_eq_true] at dp
        simp at hn
        rcases List.mem_append.mp hb with hb | hb
        · exact ih.1 _ _ _ (by omega) h1 (fun b hb => k b (List.mem_append_left _ hb)) dp.1 b hb hl
        · exact ih.2 _ _ _ (by omega) h2 (fun b hb => k b (List.mem_append_right _ hb)) dp.2 b hb hl
def okO (o : Option Val) : Bool := match o with
  | some x => x.deep
  | none => true
theorem Sl.dirt (lk : LkOf (lOf H f) H H1) (kf : KFar K H) (s' : Same (fLk F H H1 f) F') : ∀ {σ : L2.St} {ρ : DEnv} {g : List Addr}, Sl K F H σ ρ g → (∀ b ∈ g, b ∈ f) → ρ.all okO = true → ∀ b ∈ g, isLT (H b) = true → Dirty K F' (.ref b)
  | _, _, _, .nil, _, _, b, hb, _ => by cases hb
  | _, _, _, .un t, k, dp, b, hb, hl => Sl.dirt lk kf s' t k (by
      rw [List.all_cons, Bool.and_eq_true] at dp
      exact dp.2) b hb hl
  | _, _, _, .bd h t, k, dp, b, hb, hl => by
    rw [List.all_cons, Bool.and_eq_true] at dp
    rcases List.mem_append.mp hb with hb | hb
    · exact (Owns.dirt lk kf s' _).1 _ _ _ (Nat.le_refl _) h (fun b hb => k b (List.mem_append_left _ hb)) dp.1 b hb hl
    · exact Sl.dirt lk kf s' t (fun b hb => k b (List.mem_append_right _ hb)) dp.2 b hb hl
def cut (f : List Addr) (F' : Hp) : Hp := fun b => if b ∈ f then none else F' b
theorem cut_out {b : Addr} (h : b ∉ f) : cut f F' b = F' b := if_neg h
theorem cut_in {b : Addr} (h : b ∈ f) : cut f F' b = none := if_pos h
mutual
theorem At.cut (k : ∀ b ∈ f, F' b ≠ none → Dirty K F' (.ref b)) (nx : ∀ b ∈ f, ∀ gs, F' b ≠ some (.xd gs)) : ∀ (d : D) (v : V), At K F' v d → d.cln = true → At K (DL.cut f F') v d
  | .non, _, h, _ => by cases h; exact .non
  | .bl b, _, h, _ => by cases h; exact .bl b
  | .int i, _, h, _ => by cases h; exact .int i
  | .str x, _, h, _ => by cases h; exact .str x
  | .lst ds, _, h, c => by
    have hh := h
    cases h with
    | lst hs ha =>
      rename_i a us
      have na : a ∉ f := fun z => by
        have := k a z (by rw [hs]; exact fun z => nomatch z) _ hh
        rw [this] at c; cases c
      exact .lst ((cut_out na).trans hs) (Ats.cut k nx ds _ ha (by rw [D.cln] at c; exact c))
  | .scr ds, _, h, c => by rw [D.cln] at c; cases c
  | .tup ds, _, h, c => by
    have hh := h
    cases h with
    | tup hs ha =>
      rename_i a us
      rcases hs with hs | hs
      · have na : a ∉ f := fun z => by
          have := k a z (by rw [hs]; exact fun z => nomatch z) _ hh
          rw [this] at c; cases c
        exact .tup (.inl ((cut_out na).trans hs)) (Ats.cut k nx ds _ ha (by rw [D.cln] at c; exact c))
      · exact .tup (.inr hs) (Ats.cut k nx ds _ ha (by rw [D.cln] at c; exact c))
  | .junk, _, h, c => by rw [D.cln] at c; cases c
  | .exn C own ns ds, _, h, c => by
    have hh := h
    cases h with
    | exn h1 h2 hl ha =>
      rename_i a od us
      obtain ⟨oe, e1, e2⟩ := h1
      have na : a ∉ f := fun z => by
        have := k a z (by rw [e1]; exact fun z => nomatch z) _ hh
        rw [this] at c; cases c
      refine .exn ⟨oe, (cut_out na).trans e1, e2⟩ ?_ hl (Ats.cut k nx ds _ ha (by rw [D.cln] at c; exact c))
      unfold ExDx at *
      by_cases q : own = true
      · rw [if_pos q] at h2 ⊢
        obtain ⟨dx, h3, h4⟩ := h2
        exact ⟨dx, h3, (cut_out fun z => nx dx z _ h4).trans h4⟩
      · rw [if_neg q] at h2 ⊢; exact h2
  | .ins C ns ds, _, h, c => by
    have hh := h
    cases h with
    | ins hs hl ha =>
      rename_i a dx us
      have na : a ∉ f := fun z => by
        have := k a z (by rw [hs]; exact fun z => nomatch z) _ hh
        rw [this] at c; cases c
      exact .ins ((cut_out na).trans hs) hl (Ats.cut k nx ds _ ha (by rw [D.cln] at c; exact c))
theorem Ats.cut (k : ∀ b ∈ f, F' b ≠ none → Dirty K F' (.ref b)) (nx : ∀ b ∈ f, ∀ gs, F' b ≠ some (.xd gs)) : ∀ (ds : List D) (vs : List V), Ats K F' vs ds → clns ds = true → Ats K (DL.cut f F') vs ds
  | [], _, h, _ => by cases h; exact .nil
  | d :: ds, _, h, c => by
    rw [clns, Bool.and_eq_true] at c
    cases h with
    | cons h1 h2 => exact .cons (At.cut k nx d _ h1 c.1) (Ats.cut k nx ds _ h2 c.2)
end
mutual
theorem Own.cut {H' H2 : Hp} (k : ∀ b ∈ f, F' b ≠ none → Dirty K F' (.ref b)) (nx : ∀ b ∈ f, ∀ gs, F' b ≠ some (.xd gs)) : ∀ (x : Val) (v : V) (g : List Addr), Own K F' H' v x g → x.cln = true → (∀ b ∈ g, H2 b = H' b) → Own K (DL.cut f F') H2 v x g
  | .sh d, _, _, h, c, _ => by
    cases h with
    | sh h => exact .sh (At.cut k nx d _ h (by rw [Val.cln] at c; exact c))
  | .lst xs, _, _, h, c, e => by
    cases h with
    | lst h1 h2 h3 =>
      refine .lst ?_ ((e _ List.mem_cons_self).trans h2) (Owns.cut k nx xs _ _ h3 (by rw [Val.cln] at c; exact c) fun b hb => e b (List.mem_cons_of_mem _ hb))
      unfold DL.cut
      split
      · rfl
      · exact h1
  | .tup xs, _, _, h, c, e => by
    cases h with
    | tup h1 h2 h3 =>
      refine .tup ?_ ((e _ List.mem_cons_self).trans h2) (Owns.cut k nx xs _ _ h3 (by rw [Val.cln] at c; exact c) fun b hb => e b (List.mem_cons_of_mem _ hb))
      unfold DL.cut
      split
      · rfl
      · exact h1
  | .dic b ds, _, _, h, c, e => by
    cases h with
    | dic => rw [Val.cln] at c; cases c
    | dicL => rw [Val.cln] at c; cases c
theorem Owns.cut {H' H2 : Hp} (k : ∀ b ∈ f, F' b ≠ none → Dirty K F' (.ref b)) (nx : ∀ b ∈ f, ∀ gs, F' b ≠ some (.xd gs)) : ∀ (xs : List Val) (vs : List V) (g : List Addr), Owns K F' H' vs xs g → vclns xs = true → (∀ b ∈ g, H2 b = H' b) → Owns K (DL.cut f F') H2 vs xs g
  | [], _, _, h, _, _ => by cases h; exact .nil
  | x :: xs, _, _, h, c, e => by
    rw [vclns, Bool.and_eq_true] at c
    cases h with
    | cons h1 h2 => exact .cons (Own.cut k nx x _ _ h1 c.1 fun b hb => e b (List.mem_append_left _ hb)) (Owns.cut k nx xs _ _ h2 c.2 fun b hb => e b (List.mem_append_right _ hb))
end
end

/-! ### the expression -/
def lkR (r : R Val) (ρ : DEnv) : R Val := match r with
  | .ok x _ => if x.cln = true then .ok x ρ else .bad
  | .exc _ _ => .bad
  | .bad => .bad
def sLk (f : DEnv → R Val) : DEnv → R Val := fun ρ => if ρ.all okO = true then lkR (f (ρ.map lkO)) ρ else .bad
theorem PE.impI {X : Cx} {e : Expr} {t t' : TE} (h : PE X e t) (k : ∀ pins s σ H Q, Inv X pins σ H s → t' σ H Q → t σ H Q) : PE X e t' := ⟨fun pins s σ H Q I q => h.run pins s σ H Q I (k pins s σ H Q I q)⟩
theorem PE.ex {X : Cx} {e : Expr} {α : Type} {t : α → TE} (h : ∀ a, PE X e (t a)) : PE X e (fun σ H Q => ∃ a, t a σ H Q) := ⟨fun pins s σ H Q I ⟨a, q⟩ => (h a).run pins s σ H Q I q⟩
theorem de_lk {X : Cx} {e : Expr} {f : DEnv → R Val} (h : DE X e f) : DE X e (sLk f) :=
  PE.impI (PE.ex (pe_lks h)) fun pins s σ H Q I ⟨F0, H0, ρ, vs, xs, st, q⟩ => by
    have kf := kfar_of I
    obtain ⟨F, fp, g, h1, h2, h3, h4, h5, h6, h7, h8⟩ := st
    have q : post X F0 H0 vs xs _ (if ρ.all okO = true then lkR (f (ρ.map lkO)) ρ else .bad) := q
    by_cases dp : ρ.all okO = true
    rotate_left
    · rw [if_neg dp] at q; exact q.elim
    rw [if_pos dp] at q
    have nf := Sl.no h5
    have ng := Owns.no _ _ _ h6
    have nd : fp.Nodup := (List.nodup_append.mp h7).2.1
    refine ⟨lOf H fp, lks_intro (nd.sublist List.filter_sublist) (fun b hb => (lOf_mem.mp hb).2) fun H1 lk => ?_⟩
    have hH1 : ∀ b, H b ≠ none → H1 b ≠ none := fun b hb => by
      by_cases hm : b ∈ lOf H fp
      · obtain ⟨o, u, _, e⟩ := lk.2 b hm
        rw [e]; exact fun z => nomatch z
      · rw [lk.1 b hm]; exact hb
    have sF : Same F (fLk F H H1 fp) := fLk_same fun b hb => (nf b hb).1
    have sH : Same (fLk F H H1 fp) H1 := fun b u e => by
      unfold fLk at e
      split at e
      · exact e
      · have hb : b ∉ lOf H fp := fun z => by
          have := (nf b (lOf_mem.mp z).1).1
          rw [this] at e; cases e
        rw [lk.1 b hb]; exact h3 b u e
    refine ⟨fLk F H H1 fp, H1, ρ.map lkO, [], [], ⟨fLk F H H1 fp, [], [], Same.refl _, Same.refl _, sH, fun b z _ => z, Sl.lk lk sF h5 fun _ hb => hb, .nil, by simp, fun b hb => by cases hb⟩, ?_⟩
    cases e1 : f (ρ.map lkO) with
    | bad => rw [e1] at q; exact q.elim
    | exc _ _ => rw [e1] at q; exact q.elim
    | ok x ρ1 =>
      rw [e1] at q
      have q : post X F0 H0 vs xs _ (if x.cln = true then .ok x ρ else .bad) := q
      split at q
      rotate_left
      · exact q.elim
      rename_i hc
      rintro H' v ⟨F', f', g', k1, k2, k3, k4, k5, k6, k7, k8⟩
      refine ⟨fun b hb => ?_, q _ _ ?_⟩
      · obtain ⟨o, u, _, e⟩ := lk.2 b hb
        rw [k2 b _ e, e]
      · have F'no : ∀ b ∈ fp, isLT (H b) = false → F' b = none := fun b hb e => by
          refine k4 b ?_ (hH1 b (nf b hb).2)
          unfold fLk
          rw [if_neg fun z => by rw [z.2] at e; cases e]
          exact (nf b hb).1
        have dirt : ∀ b ∈ fp, F' b ≠ none → Dirty X.K F' (.ref b) := fun b hb hne => by
          cases e : isLT (H b) with
          | false => exact absurd (F'no b hb e) hne
          | true => exact Sl.dirt lk kf k1 h5 (fun _ z => z) dp b hb e
        have nx : ∀ b ∈ fp, ∀ gs, F' b ≠ some (.xd gs) := fun b hb gs e => by
          cases e2 : isLT (H b) with
          | false => rw [F'no b hb e2] at e; cases e
          | true =>
            rcases isLT_some e2 with ⟨ws, e3⟩ | ⟨ws, e3⟩
            · obtain ⟨o, z, _⟩ := fLk_lst (F := F) lk hb e3
              rw [k1 _ _ z] at e; cases e
            · have z := (fLk_tup (F := F) lk hb e3).1
              rw [k1 _ _ z] at e; cases e
        have un : ∀ b, b ∉ lOf H fp → unl (lOf H fp) H H' b = H' b := fun b hb => if_neg hb
        have unf : ∀ b, H b ≠ none → unl (lOf H fp) H H' b = H b := fun b hb => by
          by_cases hm : b ∈ lOf H fp
          · exact if_pos hm
          · rw [un b hm]
            cases e : H b with
            | none => exact absurd e hb
            | some u => exact k2 b u ((lk.1 b hm).trans e)
        have newg : ∀ b ∈ g', b ∉ lOf H fp := fun b hb z => by
          obtain ⟨o, u, _, e⟩ := lk.2 b z
          rw [k8 b (List.mem_append_left _ hb)] at e; cases e
        have Fno : ∀ b, F b = none → b ∉ fp → H b ≠ none → cut fp F' b = none := fun b e1 e2 e3 => by
          rw [cut_out e2]
          refine k4 b ?_ (hH1 b e3)
          unfold fLk
          rw [if_neg fun z => e2 z.1]; exact e1
        have sF2 : Same F (cut fp F') := fun b u e => by
          rw [cut_out fun z => by rw [(nf b z).1] at e; cases e]
          exact k1 b u (sF b u e)
        rw [List.nodup_append] at h7
        cases k6 with
        | cons a t =>
          cases t
          rename_i ga
          have gnew : ∀ b ∈ ga, H b = none := fun b hb => by
            have z := k8 b (List.mem_append_left _ (List.mem_append_left _ hb))
            cases e : H b with
            | none => rfl
            | some u => exact absurd z (hH1 b (by rw [e]; exact fun z => nomatch z))
          have a2 := Own.cut (H2 := unl (lOf H fp) H H') dirt nx _ _ _ a hc fun b hb => un b (newg b (List.mem_append_left _ hb))
          refine ⟨cut fp F', fp, ga ++ g, h1.trans sF2, fun b u e => ?_, fun b u e => ?_, fun b z1 z2 => ?_, Sl.mono sF2 h5 fun b hb => ⟨cut_in hb, unf b (nf b hb).2⟩, .cons a2 (Owns.mono sF2 _ _ _ h6 fun b hb => ⟨?_, unf b (ng b hb).2⟩), ?_, fun b hb => ?_⟩
          · rw [unf b (by rw [h2 b u e]; exact fun z => nomatch z)]; exact h2 b u e
          · have nb : b ∉ fp := fun z => by rw [cut_in z] at e; cases e
            rw [cut_out nb] at e
            rw [un b fun z => nb (lOf_mem.mp z).1]
            exact k3 b u e
          · have e1 := h4 b z1 z2
            refine Fno b e1 (fun z => z2 (h8 b (List.mem_append_right _ z))) ?_
            cases e : H0 b with
            | none => exact absurd e z2
            | some u => rw [h2 b u e]; exact fun z => nomatch z
          · exact Fno b (ng b hb).1 (fun z => h7.2.2 b hb b z rfl) (ng b hb).2
          · have nda : ga.Nodup := by
              have z := (List.nodup_append.mp k7).1
              rw [List.append_nil] at z; exact z
            rw [List.append_assoc, List.nodup_append]
            refine ⟨nda, List.nodup_append.mpr ⟨h7.1, h7.2.1, h7.2.2⟩, fun y hy z hz e => ?_⟩
            subst e
            have := gnew y hy
            rcases List.mem_append.mp hz with hz | hz
            · exact (ng y hz).2 this
            · exact (nf y hz).2 this
          · rw [List.append_assoc] at hb
            rcases List.mem_append.mp hb with hb | hb
            · have := gnew b hb
              cases e : H0 b with
              | none => rfl
              | some u => rw [h2 b u e] at this; cases this
            · exact h8 b hb
@[simp] theorem sLk_ap {f : DEnv → R Val} {ρ : DEnv} : sLk f ρ = if ρ.all okO = true then lkR (f (ρ.map lkO)) ρ else .bad := id rfl
@[simp] theorem lkR_ok {x : Val} {ρ ρ1 : DEnv} : lkR (.ok x ρ1) ρ = if x.cln = true then .ok x ρ else .bad := id rfl
@[simp] theorem lkO_n : lkO none = none := id rfl
@[simp] theorem lkO_s {x : Val} : lkO (some x) = some (.sh x.lk) := id rfl
@[simp] theorem okO_n : okO none = true := id rfl
@[simp] theorem okO_s {x : Val} : okO (some x) = x.deep := id rfl
@[simp] theorem lk_sh {d : D} : Val.lk (.sh d) = d := by rw [Val.lk]
@[simp] theorem lk_lst {xs : List Val} : Val.lk (.lst xs) = .scr (lks xs) := by rw [Val.lk]
@[simp] theorem lk_tup {xs : List Val} : Val.lk (.tup xs) = .tup (lks xs) := by rw [Val.lk]
@[simp] theorem lk_dic {b : DB} {ds : List D} : Val.lk (.dic b ds) = .junk := by rw [Val.lk]
@[simp] theorem lks_nil : lks [] = [] := by rw [lks]
@[simp] theorem lks_cons {x : Val} {xs : List Val} : lks (x :: xs) = x.lk :: lks xs := by rw [lks]
theorem lks_map (xs : List Val) : lks xs = xs.map Val.lk := by
  induction xs with
  | nil => simp
  | cons x xs ih => simp [ih]
@[simp] theorem lks_sh {ds : List D} : lks (ds.map .sh) = ds := by
  rw [lks_map, List.map_map]
  induction ds with
  | nil => rfl
  | cons x xs ih => rw [List.map_cons, ih]; simp
theorem clns_all (ds : List D) : clns ds = ds.all D.cln := by
  induction ds with
  | nil => rw [clns]; rfl
  | cons x xs ih => rw [clns, ih]; rfl
theorem vclns_all (ds : List Val) : vclns ds = ds.all Val.cln := by
  induction ds with
  | nil => rw [vclns]; rfl
  | cons x xs ih => rw [vclns, ih]; rfl
theorem deeps_all (ds : List Val) : deeps ds = ds.all Val.deep := by
  induction ds with
  | nil => rw [deeps]; rfl
  | cons x xs ih => rw [deeps, ih]; rfl
@[simp] theorem deep_sh {d : D} : Val.deep (.sh d) = true := by rw [Val.deep]
@[simp] theorem deep_dic {b : DB} {ds : List D} : Val.deep (.dic b ds) = true := by rw [Val.deep]
@[simp] theorem deep_lst {xs : List Val} : Val.deep (.lst xs) = xs.all Val.deep := by rw [Val.deep, deeps_all]
@[simp] theorem deep_tup {xs : List Val} : Val.deep (.tup xs) = (xs.all Val.deep && xs.any Val.inner) := by rw [Val.deep, deeps_all]
@[simp] theorem inner_sh {d : D} : Val.inner (.sh d) = false := id rfl
@[simp] theorem inner_lst {xs : List Val} : Val.inner (.lst xs) = true := id rfl
@[simp] theorem inner_tup {xs : List Val} : Val.inner (.tup xs) = true := id rfl
@[simp] theorem vcln_sh {d : D} : Val.cln (.sh d) = d.cln := by rw [Val.cln]
@[simp] theorem vcln_lst {xs : List Val} : Val.cln (.lst xs) = xs.all Val.cln := by rw [Val.cln, vclns_all]
@[simp] theorem vcln_tup {xs : List Val} : Val.cln (.tup xs) = xs.all Val.cln := by rw [Val.cln, vclns_all]
@[simp] theorem cln_int {i : Int} : D.cln (.int i) = true := by rw [D.cln]
@[simp] theorem cln_non : D.cln .non = true := by rw [D.cln]
@[simp] theorem cln_bl {b : Bool} : D.cln (.bl b) = true := by rw [D.cln]
@[simp] theorem cln_str {z : Str} : D.cln (.str z) = true := by rw [D.cln]
@[simp] theorem cln_lst {ds : List D} : D.cln (.lst ds) = ds.all D.cln := by rw [D.cln, clns_all]
@[simp] theorem cln_tup {ds : List D} : D.cln (.tup ds) = ds.all D.cln := by rw [D.cln, clns_all]
@[simp] theorem cln_ins {C : Addr} {ns : List Str} {ds : List D} : D.cln (.ins C ns ds) = ds.all D.cln := by rw [D.cln, clns_all]
@[simp] theorem cln_scr {ds : List D} : D.cln (.scr ds) = false := by rw [D.cln]
end DL

namespace DL
open PySem PySem.Spec L2
/-! x += e, x.extend(e), x.index(e) -/
section
variable {X : Cx} {e : Expr} {f : DEnv → R Val} {i : Nat} {x : Str} {pos pos' apos p q : Pos}
def augN (i : Nat) (a : Int) (y : Val) (ρ : DEnv) : Fl := match y with
  | .sh (.int b) => if i < ρ.length then .nx (ρ.set i (some (.sh (.int (a + b))))) else .bad
  | _ => .bad
def sAug (i : Nat) (f : DEnv → R Val) : DEnv → Fl := fun ρ => match getV ρ[i]? with
  | some (.sh (.int a)) => (f ρ).fl fun y ρ1 => augN i a y ρ1
  | _ => .bad
theorem ds_aug (hN : X.N.Nodup) (hi : X.N[i]? = some x) (hx : Loc X.env.scope x) (he : DE X e f) (hf : X.fn x = true ∨ X.env.scope.names.lookup x = some .local := by first | exact .inl rfl | exact .inr rfl | assumption) :
    DS X (.AugAssign (.Name x pos') .Add e pos) (sAug i f) :=
  PS.imp (ps_aug hN hi hx he ip_add hf) fun D σ H ⟨F0, H0, ρ, vs, xs, s, q⟩ => by
    unfold sAug at q
    match e0 : getV ρ[i]?, q with
    | some (.sh (.int a)), q =>
      obtain ⟨v, k0, F, g, hF, ho, _⟩ := s.peek (getV_some e0)
      cases ho with
      | sh at_ =>
        cases at_
        refine ⟨_, k0, F0, H0, ρ, vs, xs, s, (post_fl q).imp (fun y ρ1 q1 H1 w s1 => ?_) fun _ _ z => z⟩
        match y, s1, q1 with
        | .sh (.int b), s1, q1 =>
          have q1 : fpost X F0 H0 vs xs D (if i < ρ1.length then .nx (ρ1.set i (some (.sh (.int (a + b))))) else .bad) := q1
          split at q1
          · rename_i hz
            obtain ⟨F', _, ak, _⟩ := s1.oneT
            cases ak
            exact ⟨a, b, rfl, rfl, q1 _ _ ((s1.pop.scal (v := .int (a + b)) (d := .int (a + b)) fun _ => .int _).store hz)⟩
          · exact q1.elim
theorem Stt.unlist {K : PySem.W.Frag} {F0 H0 H : Hp} {σ : L2.St} {ρ : DEnv} {v : V} {vs : List V} {ys xs : List Val} (h : Stt K F0 H0 H σ ρ (v :: vs) (.lst ys :: xs)) : ∃ b zs, v = .ref b ∧ H b = some (.lst zs) ∧ zs.length = ys.length ∧ Stt K F0 H0 H σ ρ (zs ++ vs) (ys ++ xs) := by
  obtain ⟨F, f, g, h1, h2, h3, h4, h5, h6, h7, h8⟩ := h
  cases h6 with
  | cons a t =>
    rename_i g1 g2
    cases a with
    | lst k1 k2 k3 =>
      rename_i b zs g3
      obtain ⟨g4, a1, a2, _⟩ := k3.append t
      have s : Sb (g4 ++ f) (((b :: g3) ++ g2) ++ f) := Sb.app (a2.trans (Sb.app (Sb.right [b] g3) (.refl g2))) (.refl f)
      exact ⟨b, zs, rfl, k2, Owns.length k3, F, f, g4, h1, h2, h3, h4, h5, a1, s.2 h7, fun c hc => h8 c (s.1 c hc)⟩
def extN (i : Nat) (y : Val) (ρ : DEnv) : Fl := match y, getV ρ[i]? with
  | .lst ys, some (.lst xs) => if xs.length + ys.length < 10000000 then .nx (ρ.set i (some (.lst (xs ++ ys)))) else .bad
  | _, _ => .bad
def sExt (i : Nat) (f : DEnv → R Val) : DEnv → Fl := fun ρ => match getV ρ[i]? with
  | some (.lst _) => (f ρ).fl fun y ρ1 => extN i y ρ1
  | _ => .bad
theorem ds_ext (hb : PE X (.Call (.Attribute (.Name x q) "extend" apos) [e] [] p) (tBM X.K "list" rExtend (tVar i) (tCons (tE X f) tNil)))
    (hs : swapsWith (.Call (.Attribute (.Name x q) "extend" apos) [e] [] p) none pos.line X.env = pure false := by rfl) :
    DS X (.Expr (.Call (.Attribute (.Name x q) "extend" apos) [e] [] p) pos) (sExt i f) :=
  PS.imp (ps_expr hb hs) fun D σ H ⟨F0, H0, ρ, vs, xs, s, q⟩ => by
    unfold sExt at q
    match e0 : getV ρ[i]?, q with
    | some (.lst xs0), q =>
      obtain ⟨v, k0, F, g, hF, ho, _⟩ := s.peek (getV_some e0)
      cases ho with
      | @lst pp us zs ff h1 h2 h3 =>
        refine ⟨_, k0, .inl ⟨rfl, us, .of h2⟩, F0, H0, ρ, vs, xs, s, (post_fl q).imp (fun y ρ1 q1 H1 w s1 => ?_) fun _ _ z => z⟩
        unfold extN at q1
        match y, e1 : getV ρ1[i]?, s1, q1 with
        | .lst ys, some (.lst xs1), s1, q1 =>
          have q1 : fpost X F0 H0 vs xs D (if xs1.length + ys.length < 10000000 then .nx (ρ1.set i (some (.lst (xs1 ++ ys)))) else .bad) := q1
          split at q1
          · rename_i hz
            obtain ⟨b, zs1, rfl, hb1, hlz, s2⟩ := s1.unlist
            obtain ⟨p1, ws, c1, c2, c3, c4⟩ := Stt.edit (as := zs1) (bs := ys) hlz s2 (getV_some e1)
            have ep : p1 = pp := by rw [k0] at c1; cases c1; rfl
            subst ep
            refine ⟨p1, b, ws, zs1, rfl, rfl, c2, hb1, by rw [c3, hlz, sizeLine_eq]; omega, q1 σ _ ?_⟩
            exact c4 (ws ++ zs1) (xs1 ++ ys) [] [] fun F H f hO => ⟨f, [], hO, .nil, by rw [List.append_nil]; exact .refl f⟩
          · exact q1.elim
end
def idxL (ys : List D) (e : D) : Option Val := if e.ok 20 && ys.all (D.ok 19) && e.py.canLay0 && PyData.canLayAll0 (pys ys) then (ys.findIdx? fun y => y.eqv e).map fun j => .sh (.int (j : Nat)) else none
def lstD : D → Option (List D)
  | .lst ys => some ys
  | _ => none
def sIdx (fa fb : DEnv → R Val) : DEnv → R Val := fun ρ => (fa ρ).bind fun x ρ1 => match lstD x.fz with
  | some ys => (fb ρ1).bind fun y ρ2 => liftO (idxL ys y.fz) ρ2
  | none => .bad
theorem lstD_some {d : D} {ys : List D} (h : lstD d = some ys) : d = .lst ys := by
  cases d <;> simp only [lstD] at h <;> cases h
  rfl
section
variable {X : Cx} {a b : Expr} {fa fb : DEnv → R Val} {pos apos p : Pos}
theorem shaped_of {d : PyData} (h1 : d.canLay0 = true) (h2 : d.depth ≤ 64) : PySem.SeqAt.shaped d = true := by
  show (d.canLay0 && decide (d.depth ≤ 64)) = true
  rw [Bool.and_eq_true]
  exact ⟨h1, decide_eq_true h2⟩
theorem canAll {ys : List D} : PyData.canLayAll0 (pys ys) = true → PyData.canLay0 (.list (pys ys)) = true := fun h => by simp only [PyData.canLay0]; exact h
theorem room65 {k : Nat} {A : Around} (r : Room k A) : A.units + 65 < cLine := by have := r.un; omega
theorem idx_first {p : D → Bool} {ys : List D} {j : Nat} (h : ys.findIdx? p = some j) : ∃ hj : j < ys.length, p ys[j] = true ∧ ∀ m (hm : m < j), p (ys[m]'(Nat.lt_trans hm hj)) = false := by
  rw [List.findIdx?_eq_some_iff_getElem] at h
  obtain ⟨h1, h2, h3⟩ := h
  exact ⟨h1, h2, fun m hm => by simpa using h3 m hm⟩
theorem de_index (h : PE X (.Call (.Attribute a "index" apos) [b] [] p) (tBM X.K "list" (rIndexD X.K) (tE X fa) (tCons (tE X fb) tNil))) :
    DE X (.Call (.Attribute a "index" apos) [b] [] p) (sIdx fa fb) :=
  PE.imp h fun σ H Q ⟨F0, H0, ρ, vs, xs, s, q⟩ => by
    refine ⟨F0, H0, ρ, vs, xs, s, (post_bind q).imp (fun x ρ1 q1 H1 v s1 => ?_) fun _ _ z => z⟩
    cases e1 : lstD x.fz with
    | none => rw [e1] at q1; exact q1.elim
    | some ys =>
      rw [e1] at q1
      have s1 := s1.fz
      rw [lstD_some e1] at s1
      have tl : ∃ a us, v = .ref a ∧ SqL X.K H1 a us := by
        obtain ⟨F, hF, a, t⟩ := s1.oneT
        cases a with
        | lst h1 h2 => exact ⟨_, _, rfl, hF.seq (K := X.K) (.of h1)⟩
      obtain ⟨la, us, rfl, hl⟩ := tl
      refine ⟨.inl ⟨rfl, us, hl⟩, F0, H0, ρ1, _, _, s1, (post_bind q1).imp (fun y ρ2 q2 H2 w s2 => ?_) fun _ _ z => z.more⟩
      unfold idxL at q2
      split at q2
      · rename_i hc
        simp only [Bool.and_eq_true] at hc
        obtain ⟨⟨⟨c1, c2⟩, c3⟩, c4⟩ := hc
        cases e2 : ys.findIdx? fun z => z.eqv y.fz with
        | none => rw [e2] at q2; exact q2.elim
        | some j =>
          rw [e2] at q2
          obtain ⟨hj, f1, f2⟩ := idx_first e2
          have s3 := s2.fz2
          rw [Val.fz] at s3
          obtain ⟨F, hF, a, b, t⟩ := s3.two
          have k : D.ok 20 (.lst ys) = true := c2
          obtain ⟨p1, p2⟩ := py_ok _ _ c1
          obtain ⟨p3, p4⟩ := py_ok _ _ k
          have hd := at_dp hF _ _ _ k a
          rw [D.py] at hd p4
          refine ⟨la, w, _, _, j, ys[j].py, rfl, rfl, hd, at_dp hF _ _ _ c1 b, shaped_of (canAll c4) (by omega), shaped_of c3 (by omega), ?_, f1, fun m z' hm hz => ?_, q2 H2 _ (s3.pop.pop.scal fun F => .int _)⟩
          · rw [pys_map, List.getElem?_map, List.getElem?_eq_getElem hj]; rfl
          · rw [pys_map, List.getElem?_map, List.getElem?_eq_getElem (Nat.lt_trans hm hj)] at hz
            cases hz
            exact f2 m hm
      · exact q2.elim
end
/-! zip of two lists or of two tuples -/
theorem walk_zipT {K : PySem.W.Frag} {F0 : Hp} {a b : Addr} {us ws : List V} {ds es : List D} (h1 : TupAt K F0 a us) (k1 : Ats K F0 us ds) (h2 : TupAt K F0 b ws) (k2 : Ats K F0 ws es) : Walk K F0 (RZ.ItzT K a b) (zipL ds es) := fun i H hF => by
  refine ⟨fun d e => ?_, fun hi => ?_⟩
  · obtain ⟨x, y, e1, e2, rfl⟩ := zipL_get e
    obtain ⟨p, f1, g1⟩ := k1.get e1
    obtain ⟨q, f2, g2⟩ := k2.get e2
    refine ⟨⟨us, ws, p, q, sameT hF h1, sameT hF h2, f1, f2⟩, fun z H' hy H0 σ ρ vs xs s => ?_⟩
    obtain ⟨T, x', y', rfl, nT, rfl, c1, c2⟩ := hy
    have ex := Option.some.inj ((c1 us (sameT hF h1)).symm.trans f1)
    have ey := Option.some.inj ((c2 ws (sameT hF h2)).symm.trans f2)
    subst ex
    subst ey
    exact Stt.newTup (as := [_, _]) (ds := [x, y]) rfl ((s.push0 g2).push0 g1) nT
  · rw [zipL_len] at hi
    refine ⟨us, ws, sameT hF h1, sameT hF h2, ?_⟩
    rw [k1.length, k2.length]
    omega
def zipAD : List D → Option (List D)
  | [.lst xs, .lst ys] => some (zipL xs ys)
  | [.tup xs, .tup ys] => some (zipL xs ys)
  | _ => none
def sZipA (f : DEnv → R (List Val)) : DEnv → R (List D) := sRange zipAD f
theorem zipAD_some {ds l : List D} (h : zipAD ds = some l) : ∃ xs ys, (ds = [.lst xs, .lst ys] ∨ ds = [.tup xs, .tup ys]) ∧ l = zipL xs ys := by
  unfold zipAD at h
  split at h
  · exact ⟨_, _, .inl rfl, (Option.some.inj h).symm⟩
  · exact ⟨_, _, .inr rfl, (Option.some.inj h).symm⟩
  · cases h
section
variable {X : Cx} {a b : Expr} {f : DEnv → R (List Val)} {p pos tpos : Pos} {elts : List Expr} {kk : Nat}
theorem di_zipA (hg : Gl X "zip") (hm : X.mg "zip" = none) (ha : DA X [a, b] f)
    (hs : starEach [a, b] X.env = (false, eval a X.env) :: starEach [b] X.env := by rfl) (hpl : (backTo pos (starEach [b] X.env)).any (·.1) = false := by rfl) : DI X (.Tuple elts kk tpos) (.Call (.Name "zip" p) [a, b] [] pos) (sZipA f) :=
  PI.imp (RZ.pi_zipA hg hm ha hs hpl) fun σ H RR ⟨F0, H0, ρ, vs, xs, s, q⟩ => by
    refine ⟨F0, H0, ρ, vs, xs, s, (post_bind q).imp (fun ys ρ1 q1 H1 ws hl s1 => ?_) fun _ _ z => z⟩
    obtain ⟨hl2, s2⟩ := s1.fzsP hl
    obtain ⟨F, hF, hA, s3, rb⟩ := Stt.rebaseAt hl2 s2
    cases e : zipAD (fzs ys) with
    | none => rw [e] at q1; exact q1.elim
    | some ds =>
      rw [e] at q1
      obtain ⟨x1, x2, ej, rfl⟩ := zipAD_some e
      rcases ej with ej | ej
      · rw [ej] at hA
        match ws, hA with
        | [_, _], .cons (.lst (vs := u1) h1 k1) (.cons (.lst (vs := u2) h2 k2) .nil) =>
          exact ⟨_, _, u1, u2, rfl, .inl ⟨hF.seq (.of h1), hF.seq (.of h2), q1 F H1 _ s3 rb (walk_zip (.of h1) k1 (.of h2) k2)⟩⟩
      · rw [ej] at hA
        match ws, hA with
        | [_, _], .cons (.tup (vs := u1) h1 k1) (.cons (.tup (vs := u2) h2 k2) .nil) =>
          exact ⟨_, _, u1, u2, rfl, .inr ⟨sameT hF h1, sameT hF h2, q1 F H1 _ s3 rb (walk_zipT h1 k1 h2 k2)⟩⟩
end
/-! ### reckoning -/
def agO (o : Option Val) (k : Int → Fl) : Fl := match o with
  | some (.sh (.int a)) => k a
  | _ => .bad
@[simp] theorem agO_s {a : Int} {k : Int → Fl} : agO (some (.sh (.int a))) k = k a := id rfl
@[simp] theorem sAug_ap {i : Nat} {f : DEnv → R Val} {ρ : DEnv} : sAug i f ρ = agO (getV ρ[i]?) fun a => (f ρ).fl fun y ρ1 => augN i a y ρ1 := by
  unfold sAug agO
  split <;> rfl
@[simp] theorem augN_s {i : Nat} {a b : Int} {ρ : DEnv} : augN i a (.sh (.int b)) ρ = if i < ρ.length then .nx (ρ.set i (some (.sh (.int (a + b))))) else .bad := id rfl
def exO (o : Option Val) (k : Fl) : Fl := match o with
  | some (.lst _) => k
  | _ => .bad
@[simp] theorem exO_s {xs : List Val} {k : Fl} : exO (some (.lst xs)) k = k := id rfl
@[simp] theorem sExt_ap {i : Nat} {f : DEnv → R Val} {ρ : DEnv} : sExt i f ρ = exO (getV ρ[i]?) ((f ρ).fl fun y ρ1 => extN i y ρ1) := by
  unfold sExt exO
  split <;> rfl
def exT (i : Nat) (ys : List Val) (o : Option Val) (ρ : DEnv) : Fl := match o with
  | some (.lst xs) => if xs.length + ys.length < 10000000 then .nx (ρ.set i (some (.lst (xs ++ ys)))) else .bad
  | _ => .bad
@[simp] theorem extN_s {i : Nat} {ys : List Val} {ρ : DEnv} : extN i (.lst ys) ρ = exT i ys (getV ρ[i]?) ρ := by
  unfold extN exT
  cases getV ρ[i]? with
  | none => rfl
  | some x => cases x <;> rfl
@[simp] theorem exT_s {i : Nat} {xs ys : List Val} {ρ : DEnv} : exT i ys (some (.lst xs)) ρ = if xs.length + ys.length < 10000000 then .nx (ρ.set i (some (.lst (xs ++ ys)))) else .bad := id rfl
def ixK (o : Option (List D)) (k : List D → R Val) : R Val := match o with
  | some ys => k ys
  | none => .bad
@[simp] theorem ixK_s {ys : List D} {k : List D → R Val} : ixK (some ys) k = k ys := id rfl
@[simp] theorem lstD_l {ys : List D} : lstD (.lst ys) = some ys := id rfl
@[simp] theorem sIdx_ap {fa fb : DEnv → R Val} {ρ : DEnv} : sIdx fa fb ρ = (fa ρ).bind fun x ρ1 => ixK (lstD x.fz) fun ys => (fb ρ1).bind fun y ρ2 => liftO (idxL ys y.fz) ρ2 := id rfl
end DL

/-! DN: texts cut and read, try without a name, what is put into a list that hangs on a path. -/
namespace DL
open PySem PySem.Spec L2
section
variable {X : Cx}
/-! ### cutting -/
def splitD (a b : Str) : Option Val := if (b.length == 0) = false ∧ a.length + 2 ≤ 10000000 then some (.lst ((Txt.split a b).map fun z => .sh (.str z))) else none
def sSplit (fa fb : DEnv → R Val) : DEnv → R Val := fun ρ => (fa ρ).bind fun x ρ1 => joinK x.fz fun a => (fb ρ1).bind fun y ρ2 => joinK y.fz fun b => liftO (splitD a b) ρ2
theorem Stt.strs {K : PySem.W.Frag} {F0 H0 H : Hp} {σ : L2.St} {ρ : DEnv} {vs : List V} {xs : List Val} (h : Stt K F0 H0 H σ ρ vs xs) : ∀ ys : List Str, Stt K F0 H0 H σ ρ (ys.map V.str ++ vs) ((ys.map fun z => Val.sh (.str z)) ++ xs)
  | [] => h
  | y :: ys => (Stt.strs h ys).scal fun F => .str y
theorem de_split {o e : Expr} {apos pos : Pos} {fa fb : DEnv → R Val} (ho : DE X o fa) (he : DE X e fb) (hs : starEach [e] X.env = [(false, eval e X.env)] := by rfl)
    (hbase : attributeBase o "split" X.env (eval o X.env) = eval o X.env := by rfl) (hline : (apos.endLine == pos.line) = true := by rfl) : DE X (.Call (.Attribute o "split" apos) [e] [] pos) (sSplit fa fb) :=
  PE.imp (pe_split ho he hs hbase hline) fun σ H Q ⟨F0, H0, ρ, vs, xs, s, q⟩ => by
    refine ⟨F0, H0, ρ, vs, xs, s, (post_bind q).imp (fun x ρ1 q1 H1 v s1 => ?_) fun _ _ z => z⟩
    obtain ⟨F, hF, a, t⟩ := s1.fz.oneT
    match hx : x.fz, a, q1 with
    | .str z, .str _, q1 =>
      have s2 := s1.fz
      rw [hx] at s2
      refine ⟨⟨z, rfl⟩, F0, H0, ρ1, vs, xs, s2.pop, (post_bind q1).imp (fun y ρ2 q2 H2 w s3 => ?_) fun _ _ z => z⟩
      obtain ⟨F2, hF2, a2, t2⟩ := s3.fz.oneT
      match hy : y.fz, a2, q2 with
      | .str b, .str _, q2 =>
        have s4 := s3.fz
        rw [hy] at s4
        have q2 : post X F0 H0 vs xs (fun x ρ' => ∀ H' v, Stt X.K F0 H0 H' σ ρ' (v :: vs) (x :: xs) → Q v H') (liftO (if (b.length == 0) = false ∧ z.length + 2 ≤ 10000000 then some (.lst ((Txt.split z b).map fun z => .sh (.str z))) else none) ρ2) := q2
        split at q2
        · rename_i hh
          refine ⟨z, b, rfl, rfl, hh.1, by rw [sizeLine_eq]; omega, fun p np => q2 _ _ ?_⟩
          exact Stt.newLst (by simp) (s4.pop.strs (Txt.split z b)) np
        · exact q2.elim
@[simp] theorem sSplit_ap {fa fb : DEnv → R Val} {ρ : DEnv} : sSplit fa fb ρ = (fa ρ).bind fun x ρ1 => joinK x.fz fun a => (fb ρ1).bind fun y ρ2 => joinK y.fz fun b => liftO (splitD a b) ρ2 := id rfl
theorem splitD_ok {a b : Str} (hb : (b.length == 0) = false) (ha : a.length + 2 ≤ 10000000) : splitD a b = some (.lst (((Txt.split a b).map D.str).map .sh)) := by
  unfold splitD
  rw [if_pos ⟨hb, ha⟩, List.map_map]; rfl
/-! ### int(text), str(text) -/
def intTD : D → Option Val
  | .str z => if z.length ≤ 640 then (PySem.intText? z).map fun n => .sh (.int n) else none
  | _ => none
theorem und_intT : UnD X (fun x H Q => ∃ a n, x = .str a ∧ PySem.intText? a = some n ∧ a.length ≤ 640 ∧ Q (.int n) H) intTD := fun F0 H0 H σ ρ vs xs v d Q s ⟨x, hx, q⟩ => by
  obtain ⟨F, hF, a, t⟩ := s.oneT
  match d, a, hx with
  | .str z, .str _, hx =>
    have hx : (if z.length ≤ 640 then (PySem.intText? z).map fun n => Val.sh (.int n) else none) = some x := hx
    split at hx
    · obtain ⟨n, e, rfl⟩ := Option.map_eq_some_iff.mp hx
      exact ⟨z, n, rfl, e, by assumption, q H _ (s.pop.scal fun F => .int _)⟩
    · cases hx
theorem call_intT : CallR X (.type "int") (fun xs H Q => ∃ x, xs = [x] ∧ ∃ a n, x = .str a ∧ PySem.intText? a = some n ∧ a.length ≤ 640 ∧ Q (.int n) H) := fun pins s σ H xs us Q I r ⟨x, e, a, n, h1, h2, h3, h4⟩ => call_int_str pins s σ H xs us Q I r ⟨a, n, by rw [e, h1], h2, h3, h4⟩
def strTD : D → Option Val
  | .str z => some (.sh (.str z))
  | _ => none
theorem und_strT : UnD X (fun x H Q => ∃ a, x = .str a ∧ Q (.str a) H) strTD := fun F0 H0 H σ ρ vs xs v d Q s ⟨x, hx, q⟩ => by
  obtain ⟨F, hF, a, t⟩ := s.oneT
  match d, a, hx with
  | .str z, .str _, hx => cases hx; exact ⟨z, rfl, q H _ (s.pop.scal fun F => .str _)⟩
theorem call_strT : CallR X (.type "str") (fun xs H Q => ∃ x, xs = [x] ∧ ∃ a, x = .str a ∧ Q (.str a) H) := fun pins s σ H xs us Q I r ⟨x, e, a, h1, h2⟩ => SkE.call_str_str pins s σ H xs us Q I r ⟨a, by rw [e, h1], h2⟩
variable {p pos : Pos} {e : Expr} {fs : DEnv → R (List Val)}
theorem de_intS (hg : Gl X "int") (hm : X.mg "int" = none) (ha : DA X [e] fs) (he : starEach [e] X.env = (false, eval e X.env) :: starEach [] X.env := by rfl) : DE X (.Call (.Name "int" p) [e] [] pos) (sCB (orC (g1 intD) (g1 intTD)) fs) := de_callTy (CallR.or call_intA call_intT) (CallD.or (calld_1 und_int) (calld_1 und_intT)) hg hm (by decide +kernel) ha (he := he)
theorem de_strS (hg : Gl X "str") (hm : X.mg "str" = none) (ha : DA X [e] fs) (he : starEach [e] X.env = (false, eval e X.env) :: starEach [] X.env := by rfl) : DE X (.Call (.Name "str" p) [e] [] pos) (sCB (orC (g1 strD) (g1 strTD)) fs) := de_callTy (CallR.or call_strA call_strT) (CallD.or (calld_1 und_str) (calld_1 und_strT)) hg hm (by decide +kernel) ha (he := he)
@[simp] theorem orInt_i {i : Int} : orC (g1 intD) (g1 intTD) [.int i] = some (.sh (.int i)) := id rfl
@[simp] theorem orInt_b {b : Bool} : orC (g1 intD) (g1 intTD) [.bl b] = some (.sh (.int (if b then 1 else 0))) := id rfl
theorem orInt_s {z : Str} {n : Int} (h : PySem.intText? z = some n) (hl : z.length ≤ 640) : orC (g1 intD) (g1 intTD) [.str z] = some (.sh (.int n)) := by
  have e : orC (g1 intD) (g1 intTD) [.str z] = if z.length ≤ 640 then (PySem.intText? z).map fun n => .sh (.int n) else none := rfl
  rw [e, if_pos hl, h]; rfl
@[simp] theorem orStr_s {z : Str} : orC (g1 strD) (g1 strTD) [.str z] = some (.sh (.str z)) := id rfl
theorem orStr_i {i : Int} (h : i.natAbs.log2 < 1920) : orC (g1 strD) (g1 strTD) [.int i] = some (.sh (.str (toString i))) := by
  have e : g1 strD [.int i] = if i.natAbs.log2 < 1920 then some (.sh (.str (toString i))) else none := rfl
  unfold orC
  rw [e, if_pos h]
/-! ### a name's value put into a list on a path -/
def yV (j : Nat) : DEnv → Option Val := fun ρ => match getV ρ[j]? with
  | some (.sh d) => some (.sh d)
  | _ => none
theorem ak_v {j : Nat} : ArgK X (tCons (tVar j) tNil) (yV j) := fun {F0 H0 H σ ρ vs xs y} s e Q q => by
  unfold yV at e
  match e0 : getV ρ[j]?, e with
  | some (.sh d), e =>
    cases e
    have e1 := getV_some e0
    obtain ⟨v, k1, s2⟩ := s.read e1
    have e2 : ρ.set j (some (.sh (Val.sh d).fz)) = ρ := by
      refine List.ext_getElem? fun i => ?_
      by_cases hi : j = i
      · subst hi
        rw [List.getElem?_set_self (List.getElem?_eq_some_iff.mp e1).1, e1]
        simp [Val.fz]
      · rw [List.getElem?_set_ne hi]
    rw [e2] at s2
    have s3 : Stt X.K F0 H0 H σ ρ (v :: vs) (.sh d :: xs) := by simpa [Val.fz] using s2
    exact ⟨v, k1, q v H (Same.refl _) s3⟩
end
/-! ### try .. except C: .. else: .. -/
def Fl.cm : Fl → Fl
  | .exc _ _ => .bad
  | r => r
def sTryE (tb : List (Addr × Bool)) (fb fs fo : DEnv → Fl) : DEnv → Fl := fun ρ => match fb ρ with
  | .nx ρ1 => fo ρ1
  | .exc e ρ1 => match lookA tb e.cls with
    | some true => (fs ρ1).cm
    | some false => .exc e ρ1
    | none => .bad
  | r => r
def tryEF (tb : List (Addr × Bool)) (fs fo : DEnv → Fl) (r : Fl) : Fl := match r with
  | .nx ρ1 => fo ρ1
  | .exc e ρ1 => match lookA tb e.cls with
    | some true => (fs ρ1).cm
    | some false => .exc e ρ1
    | none => .bad
  | r => r
theorem sTryE_ap {tb : List (Addr × Bool)} {fb fs fo : DEnv → Fl} {ρ : DEnv} : sTryE tb fb fs fo ρ = tryEF tb fs fo (fb ρ) := id rfl
@[simp] theorem tryEF_nx {tb : List (Addr × Bool)} {fs fo : DEnv → Fl} {ρ : DEnv} : tryEF tb fs fo (.nx ρ) = fo ρ := id rfl
@[simp] theorem tryEF_rt {tb : List (Addr × Bool)} {fs fo : DEnv → Fl} {x : Val} {ρ : DEnv} : tryEF tb fs fo (.rt x ρ) = .rt x ρ := id rfl
theorem tryEF_exc {tb : List (Addr × Bool)} {fs fo : DEnv → Fl} {e : DExn} {ρ : DEnv} : tryEF tb fs fo (.exc e ρ) = match lookA tb e.cls with | some true => (fs ρ).cm | some false => .exc e ρ | none => .bad := id rfl
@[simp] theorem cm_nx {ρ : DEnv} : Fl.cm (.nx ρ) = .nx ρ := id rfl
@[simp] theorem cm_rt {x : Val} {ρ : DEnv} : Fl.cm (.rt x ρ) = .rt x ρ := id rfl
@[simp] theorem eqv_scr0 : D.eqv (.scr []) (.lst []) = true := id rfl
@[simp] theorem eqv_scr1 {d : D} {ds : List D} : D.eqv (.scr (d :: ds)) (.lst []) = false := id rfl
section
variable {X : Cx} {x : Str} {c : Value} {body suite orelse : List Stmt} {st0 : Stmt} {np hpos pos : Pos} {fb fs fo : DEnv → Fl}
theorem ds_tryE {tab : List (Addr × Bool)} (ek : X.stack = X.env :: X.outer) (ef : X.env.frame = some X.env.locals) (nm : Names X x c) (ht : ∀ q ∈ tab, PySem.W.exmOne X.K (.ref q.1) c = some q.2)
    (B1 : ∀ (pn : List (Addr × Obj)) (xe : Value → Shared → Prop), PassesOwn (model X.prog X.w) X.A X.env xe → DSs (X.tr pn xe) body fb) (B2 : ∀ (a : Addr) (pn : List (Addr × Obj)), DSs (X.suite a pn) (st0 :: suite) fs) (B3 : DSs X orelse fo) :
    DS X (.Try body [.ExceptHandler (some (.Name x np)) none (st0 :: suite) hpos] orelse [] pos) (sTryE tab fb fs fo) := by
  have b1 : ∀ (W : WX) (pn : List (Addr × Obj)) (xe : Value → Shared → Prop), Takes (X.tr pn xe) W → PassesOwn (model X.prog X.w) X.A X.env xe → PSs (X.tr pn xe) body (tSW X.K W fb) := by
    intro W pn xe tk hp
    refine PSs.imp (B1 pn xe hp) fun D σ H ⟨F0, H0, ρ, vs, xs, s, q⟩ => ⟨F0, H0, ρ, vs, xs, s, fpost_W q fun e ρ' z => ?_⟩
    exact fun σ' H' dx ves s' hl hx => okx_of tk (z σ' H' dx ves s' hl hx)
  have b2 : ∀ (a : Addr) (pn : List (Addr × Obj)), PSs (X.suite a pn) (st0 :: suite) (tSW X.K (fun _ _ _ _ => False) fs) := by
    intro a pn
    refine PSs.imp (B2 a pn) fun D σ H ⟨F0, H0, ρ, vs, xs, s, q⟩ => ⟨F0, H0, ρ, vs, xs, s, fpost_W q fun e ρ' z => ?_⟩
    exact fun σ' H' dx ves s' hl hx => (z σ' H' dx ves s' hl hx).elim
  refine PS.imp (ps_try_onlyE (ts := fun _ _ _ => tSW X.K (fun _ _ _ _ => False) fs) B3 ek ef nm takes_okx b1 (fun a oe cls d pn _ _ => b2 a _)) fun D σ H ⟨F0, H0, ρ, vs, xs, s, q⟩ => ⟨F0, H0, ρ, vs, xs, s, ?_⟩
  unfold sTryE at q
  cases e : fb ρ with
  | nx ρ1 => rw [e] at q; exact fun σ' H' s' => ⟨F0, H0, ρ1, vs, xs, s', q⟩
  | rt y ρ1 => rw [e] at q; exact q
  | bk ρ1 => rw [e] at q; exact q
  | ct ρ1 => rw [e] at q; exact q
  | bad => rw [e] at q; exact q
  | exc z ρ1 =>
    simp only [e] at q
    intro σ1 H1 dx ves s1 hl hx
    cases e2 : lookA tab z.cls with
    | none => rw [e2] at q; exact q.elim
    | some b =>
      rw [e2] at q
      refine ⟨b, ht _ (lookA_mem e2), fun hb => ?_, fun hb => ?_⟩
      · subst hb
        intro a na
        have s2 : Stt X.K F0 H0 H1 σ1 ρ1 vs xs := Stt.popN (by simpa using hl) s1
        refine ⟨F0, H0, ρ1, vs, xs, s2, ?_⟩
        cases e3 : fs ρ1 with
        | nx ρ2 => rw [e3] at q; exact q
        | rt y ρ2 => rw [e3] at q; exact q
        | bk ρ2 => rw [e3] at q; exact q
        | ct ρ2 => rw [e3] at q; exact q
        | exc y ρ2 => rw [e3] at q; exact q.elim
        | bad => rw [e3] at q; exact q.elim
      · subst hb
        exact q σ1 H1 dx ves s1 hl hx
end
end DL

/-! DP: a loop that changes the lists that hang on what it walks; behind it nothing is told of these. -/
namespace DL
open PySem PySem.Spec L2
section
variable {K : PySem.W.Frag} {F F0 H H0 : Hp} {σ : L2.St} {ρ : DEnv} {vs : List V} {xs : List Val}
theorem owns_out : ∀ {ws : List V} {ys : List Val} {f : List Addr} (i : Nat) (q : Addr) (y : Val), Owns K F H ws ys f → ys[i]? = some y → ws[i]? = some (.ref q) → ∃ f1 f2, Owns K F H ws (ys.set i (.sh .junk)) f1 ∧ Owns K F H [.ref q] [y] f2 ∧ Sb (f1 ++ f2) f
  | _, _, _, 0, q, y, .cons (f := f1) (g := f2) a t, e1, e2 => by
    simp only [List.getElem?_cons_zero, Option.some.injEq] at e1 e2
    subst e1 e2
    refine ⟨_, _, .cons (f := []) (.sh (.junk q)) t, .cons a .nil, ?_⟩
    rw [List.append_nil, List.nil_append]
    exact .comm f2 f1
  | _, _, _, i + 1, q, y, .cons (f := f1) (g := f2) a t, e1, e2 => by
    obtain ⟨g1, g2, h1, h2, h3⟩ := owns_out i q y t (by simpa using e1) (by simpa using e2)
    refine ⟨_, _, .cons a h1, h2, ?_⟩
    rw [List.append_assoc]
    exact (Sb.refl f1).app h3
theorem set_same_d {α : Type} {ρ : List α} {i : Nat} {x : α} (h : ρ[i]? = some x) : ρ.set i x = ρ := by
  refine List.ext_getElem? fun k => ?_
  by_cases hk : i = k
  · subst hk
    rw [List.getElem?_set_self (List.getElem?_eq_some_iff.mp h).1, h]
  · rw [List.getElem?_set_ne hk]
theorem upd_self {p : Addr} {o : HO} (h : H p = some o) : upd H p o = H := by
  funext b
  by_cases e : b = p
  · subst e; rw [upd_same, h]
  · rw [upd_ne e]
/-- an own tuple's parts -/
theorem Stt.untup {v : V} {ys : List Val} (h : Stt K F0 H0 H σ ρ (v :: vs) (.tup ys :: xs)) : ∃ q us, v = .ref q ∧ H q = some (.tup us) ∧ us.length = ys.length ∧ Stt K F0 H0 H σ ρ (us ++ vs) (ys ++ xs) := by
  obtain ⟨F, f, g, h1, h2, h3, h4, h5, h6, h7, h8⟩ := h
  cases h6 with
  | cons b t =>
    rename_i g1 g2
    cases b with
    | tup k1 k2 k3 =>
      rename_i q us g3
      obtain ⟨g4, a1, a2, a3⟩ := k3.append t
      have s : Sb (g4 ++ f) (((q :: g3) ++ g2) ++ f) := Sb.app (a2.trans (Sb.app ⟨fun b hb => List.mem_cons_of_mem _ hb, fun h => (List.nodup_cons.mp h).2⟩ (.refl g2))) (.refl f)
      exact ⟨q, us, rfl, k2, Owns.length k3, F, f, g4, h1, h2, h3, h4, h5, a1, s.2 h7, fun b hb => h8 b (s.1 b hb)⟩
theorem owns_ref : ∀ {ws : List V} {ys : List Val} {f : List Addr} (i : Nat) (zs : List Val), Owns K F H ws ys f → ys[i]? = some (.tup zs) → ∃ q, ws[i]? = some (.ref q)
  | _, _, _, 0, zs, .cons a t, e => by
    simp only [List.getElem?_cons_zero, Option.some.injEq] at e
    subst e
    cases a with
    | tup => exact ⟨_, rfl⟩
  | _, _, _, i + 1, zs, .cons a t, e => by
    obtain ⟨q, h⟩ := owns_ref i zs t (by simpa using e)
    exact ⟨q, by simpa using h⟩
theorem Stt.lst_at {j : Nat} {ys : List Val} (h : Stt K F0 H0 H σ ρ vs xs) (e : ρ[j]? = some (some (.lst ys))) : ∃ p ws, σ[j]? = some (some (.ref p)) ∧ H p = some (.lst ws) ∧ ws.length = ys.length ∧ ∀ (i : Nat) (zs : List Val), ys[i]? = some (.tup zs) → ∃ q, ws[i]? = some (V.ref q) := by
  obtain ⟨v, c1, F', f', c2, c3, c4⟩ := Stt.peek h e
  cases c3 with
  | lst d1 d2 d3 => exact ⟨_, _, c1, d2, Owns.length d3, fun i zs e2 => owns_ref i zs d3 e2⟩
/-- the list that hangs on the i-th tuple of a slot's list is changed, and forgotten -/
theorem Stt.spoil {j i : Nat} {ys zs : List Val} {a b : D} (h : Stt K F0 H0 H σ ρ vs xs) (e : ρ[j]? = some (some (.lst ys))) (e2 : ys[i]? = some (.tup [.sh a, .sh b, .lst zs])) :
    ∃ p ws q v0 v1 r us, σ[j]? = some (some (.ref p)) ∧ H p = some (.lst ws) ∧ ws.length = ys.length ∧ ws[i]? = some (.ref q) ∧ H q = some (.tup [v0, v1, .ref r]) ∧ H r = some (.lst us) ∧ us.length = zs.length ∧ p ≠ r ∧
      Stt K F0 H0 (upd H r (.lst (us ++ [.non]))) σ (ρ.set j (some (.lst (ys.set i (.sh .junk))))) vs xs := by
  have hi : i < ys.length := (List.getElem?_eq_some_iff.mp e2).1
  -- the item is a tuple of one's own
  obtain ⟨p, ws, k1, k2, k3, k4⟩ := Stt.edit (as := []) (bs := []) rfl h e
  have hw : ∃ q, ws[i]? = some (.ref q) := by
    obtain ⟨p', ws', c1, c2, c3, c4⟩ := Stt.lst_at h e
    rw [k1] at c1
    cases c1
    rw [k2] at c2
    cases c2
    exact c4 i _ e2
  obtain ⟨q, hw⟩ := hw
  have s1 := k4 ws (ys.set i (.sh .junk)) [.ref q] [.tup [.sh a, .sh b, .lst zs]] fun F H f hO => by
    rw [List.append_nil, List.append_nil] at hO
    exact owns_out i q _ hO e2 hw
  rw [upd_self k2] at s1
  obtain ⟨q', us3, eq, hq, hl3, s2⟩ := Stt.untup s1
  cases eq
  match us3, hl3 with
  | [v0, v1, v2], _ =>
    obtain ⟨r, us, er, hr, hlr, s3⟩ := Stt.editTop (as := [v0, v1]) (bs := [.sh a, .sh b]) rfl s2
    subst er
    have s4 := s3 (us ++ [.non]) (zs ++ [.sh .non]) [] [] fun F H f hO => by
      obtain ⟨g1, g2, a1, a2, b1, b2⟩ := Owns.split (by simpa using hlr) hO
      obtain ⟨g3, c1, c2, c3⟩ := a1.append (Owns.cons (f := []) (.sh (.non : At K F .non .non)) .nil)
      refine ⟨g3, [], c1, .nil, ?_⟩
      rw [List.append_nil]
      exact c2.trans (by
        have : Sb (g1 ++ ([] ++ [])) (g1 ++ g2) := by simpa using Sb.left g1 g2
        exact this.trans b1)
    have s5 := s4.pop
    refine ⟨p, ws, q, v0, v1, r, us, k1, k2, k3, hw, hq, hr, hlr, fun z => ?_, s5⟩
    subst z
    have hjl : j < ρ.length := (List.getElem?_eq_some_iff.mp e).1
    obtain ⟨p', ws', c1, c2, c3, _⟩ := Stt.lst_at s5 (j := j) (ys := ys.set i (.sh .junk)) (by rw [List.getElem?_set_self hjl])
    rw [k1] at c1
    cases c1
    rw [upd_same] at c2
    have c2 : us ++ [V.non] = ws' := HO.lst.inj (Option.some.inj c2)
    rw [k2] at hr
    have c5 : ws = us := HO.lst.inj (Option.some.inj hr)
    rw [← c2, List.length_append, List.length_singleton, List.length_set, ← c5] at c3
    omega
def isT3 : Val → Bool
  | .tup [.sh _, .sh _, .lst zs] => decide (zs.length < 10000000)
  | _ => false
theorem isT3_eq {x : Val} (h : isT3 x = true) : ∃ a b zs, x = .tup [.sh a, .sh b, .lst zs] ∧ zs.length < 10000000 := by
  unfold isT3 at h
  split at h
  · exact ⟨_, _, _, rfl, of_decide_eq_true h⟩
  · cases h
def jnk (ys : List Val) (i : Nat) : List Val := ((ys.take i).map fun _ => Val.sh .junk) ++ ys.drop i
theorem jnk_0 (ys : List Val) : jnk ys 0 = ys := by simp [jnk]
theorem jnk_n (ys : List Val) : jnk ys ys.length = ys.map fun _ => Val.sh .junk := by simp [jnk]
theorem jnk_len (ys : List Val) (i : Nat) (h : i ≤ ys.length) : (jnk ys i).length = ys.length := by
  unfold jnk
  rw [List.length_append, List.length_map, List.length_take, List.length_drop]; omega
theorem jnk_at (ys : List Val) (i : Nat) (h : i < ys.length) : (jnk ys i)[i]? = ys[i]? := by
  unfold jnk
  rw [List.getElem?_append_right (by rw [List.length_map, List.length_take]; omega), List.length_map, List.length_take, List.getElem?_drop]
  congr 1
  omega
theorem jnk_s (ys : List Val) (i : Nat) (h : i < ys.length) : (jnk ys i).set i (.sh .junk) = jnk ys (i + 1) := by
  unfold jnk
  rw [List.set_append_right _ _ (by rw [List.length_map, List.length_take]; omega), List.length_map, List.length_take]
  have e : i - min i ys.length = 0 := by omega
  rw [e, List.drop_eq_getElem_cons h, List.set_cons_zero, List.take_succ_eq_append_getElem h, List.map_append, List.append_assoc]; rfl
end
def sSpoil (j a b c : Nat) : DEnv → Fl := fun ρ => match getV ρ[j]? with
  | some (.lst ys) => if ys.all isT3 = true ∧ j ≠ a ∧ j ≠ b ∧ j ≠ c ∧ a < ρ.length ∧ b < ρ.length ∧ c < ρ.length then .nx ((forget [a, b, c] ρ).set j (some (.lst (ys.map fun _ => .sh .junk)))) else .bad
  | _ => .bad
section
variable {X : Cx} {j a b c : Nat} {n m l x : Str} {pn pm pl pl2 px pt pe apos cpos pos : Pos} {k ke : Nat}
theorem ds_spoil (hp : PassesOwn (model X.prog X.w) X.A X.env X.xe) (hc : X.calm = true) (hi : PI X (.Tuple [.Name n pn, .Name m pm, .Name l pl] k pt) (.Name x px) (iList X.K (tVar j)))
    (hg : PG X (.Tuple [.Name n pn, .Name m pm, .Name l pl] k pt) (gTup X.K 3 (gCons (gName a) (gCons (gName b) (gCons (gName c) gNil)))))
    (hb : PSs X [.Expr (.Call (.Attribute (.Name l pl2) "append" apos) [.Constant .none ke pe] [] cpos) pos] (tSeq (tDrop (tBM X.K "list" rAppend (tVar c) (tCons (tC .non) tNil))) tNext)) {pf : Pos} :
    DS X (.For (.Tuple [.Name n pn, .Name m pm, .Name l pl] k pt) (.Name x px) [.Expr (.Call (.Attribute (.Name l pl2) "append" apos) [.Constant .none ke pe] [] cpos) pos] [] pf) (sSpoil j a b c) :=
  PS.imp (ps_for hp hc hi hg hb) fun D σ H ⟨F0, H0, ρ, vs, xs, s, q⟩ => by
    unfold sSpoil at q
    match e : getV ρ[j]?, q with
    | some (.lst ys), q =>
      have q : fpost X F0 H0 vs xs D (if ys.all isT3 = true ∧ j ≠ a ∧ j ≠ b ∧ j ≠ c ∧ a < ρ.length ∧ b < ρ.length ∧ c < ρ.length then .nx ((forget [a, b, c] ρ).set j (some (.lst (ys.map fun _ => .sh .junk)))) else .bad) := q
      split at q
      rotate_left
      · exact q.elim
      rename_i hh
      obtain ⟨h3, na, nb, nc, la, lb, lc⟩ := hh
      have e1 := getV_some e
      have hjl : j < ρ.length := (List.getElem?_eq_some_iff.mp e1).1
      obtain ⟨p, ws, k1, k2, k3, _⟩ := Stt.lst_at s e1
      -- what stands between the turns
      have fg : ∀ {σ H ys'}, Stt X.K F0 H0 H σ (ρ.set j (some (.lst ys'))) vs xs → Stt X.K F0 H0 H σ ((forget [a, b, c] ρ).set j (some (.lst ys'))) vs xs := fun {σ H ys'} z => by
        have z2 := z.forget (is := [a, b, c])
        have e2 : forget [a, b, c] (ρ.set j (some (.lst ys'))) = (forget [a, b, c] ρ).set j (some (.lst ys')) := by
          show (((ρ.set j _).set a none).set b none).set c none = (((ρ.set a none).set b none).set c none).set j _
          rw [List.set_comm _ _ na, List.set_comm _ _ nb, List.set_comm _ _ nc]
        rw [e2] at z2
        exact z2
      refine ⟨.ref p, k1, p, rfl, ⟨ws, .of k2⟩, fun i m σ H => m = ys.length - i ∧ i ≤ ys.length ∧ σ[j]? = some (some (.ref p)) ∧ Stt X.K F0 H0 H σ ((forget [a, b, c] ρ).set j (some (.lst (jnk ys i)))) vs xs, ⟨_, rfl, Nat.zero_le _, k1, ?_⟩, ?_⟩
      · refine fg ?_
        rw [jnk_0, set_same_d e1]
        exact s
      rintro i m' σ1 H1 ⟨rfl, hi1, c1, s1⟩
      have hj2 : ((forget [a, b, c] ρ).set j (some (.lst (jnk ys i))))[j]? = some (some (.lst (jnk ys i))) := by
        rw [List.getElem?_set_self (by show j < ((((ρ.set a none).set b none).set c none)).length; simpa using hjl)]
      obtain ⟨p', ws1, d1, d2, d3, _⟩ := Stt.lst_at s1 hj2
      rw [c1] at d1
      cases d1
      rw [jnk_len ys i hi1] at d3
      by_cases hlt : i < ys.length
      · obtain ⟨A, B, zs, hx, hz⟩ := isT3_eq (List.all_eq_true.mp h3 ys[i] (List.getElem_mem hlt))
        obtain ⟨p2, ws2, q2, v0, v1, r, us, f1, f2, f3, f4, f5, f6, f7, f8, f9⟩ := Stt.spoil s1 hj2 (i := i) (by rw [jnk_at ys i hlt, List.getElem?_eq_getElem hlt, hx])
        rw [c1] at f1
        cases f1
        rw [d2] at f2
        cases f2
        refine .inr ⟨⟨ws1, .ref q2, .of d2, f4⟩, fun σ' H' => σ'[j]? = some (some (.ref p)) ∧ Stt X.K F0 H0 H' σ' ((forget [a, b, c] ρ).set j (some (.lst (jnk ys (i + 1))))) vs xs, fun σ' H' ⟨g1, g2⟩ => ⟨ys.length - (i + 1), by omega, rfl, hlt, g1, g2⟩, fun y H' hy => ?_⟩
        obtain ⟨rfl, hy⟩ := hy
        have ey := hy ws1 (.of d2)
        rw [f4] at ey
        cases ey
        refine ⟨q2, [v0, v1, .ref r], rfl, .inl (.inl f5), rfl, v0, _, rfl, v1, _, rfl, .ref r, _, rfl, rfl, ?_⟩
        have hl : σ1.length = ρ.length := by rw [s1.len]; simp [forget]
        refine ⟨.ref r, by rw [List.getElem?_set_self (by simp [hl]; exact lc)], ⟨.inl ⟨rfl, us, .of f6⟩, r, us, .non, rfl, rfl, f6, by rw [f7, sizeLine_eq]; omega, ?_⟩⟩
        rw [List.set_set, jnk_s ys i hlt] at f9
        refine ⟨?_, ?_⟩
        · rw [List.getElem?_set_ne (Ne.symm nc), List.getElem?_set_ne (Ne.symm nb), List.getElem?_set_ne (Ne.symm na)]
          exact c1
        · have none_at : ∀ t, t = a ∨ t = b ∨ t = c → ((forget [a, b, c] ρ).set j (some (.lst (jnk ys (i + 1)))))[t]? = some none := fun t ht => by
            have nt : j ≠ t := by rcases ht with rfl | rfl | rfl <;> assumption
            rw [List.getElem?_set_ne nt]
            show ((((ρ.set a none).set b none).set c none))[t]? = some none
            by_cases t3 : t = c
            · subst t3; rw [List.getElem?_set_self (by simpa using lc)]
            · rw [List.getElem?_set_ne (Ne.symm t3)]
              by_cases t2 : t = b
              · subst t2; rw [List.getElem?_set_self (by simpa using lb)]
              · rw [List.getElem?_set_ne (Ne.symm t2)]
                rcases ht with rfl | h | h
                · rw [List.getElem?_set_self la]
                · exact absurd h t2
                · exact absurd h t3
          exact ((f9.any (none_at a (.inl rfl)) _).any (none_at b (.inr (.inl rfl))) _).any (none_at c (.inr (.inr rfl))) _
      · have ei : i = ys.length := by omega
        subst ei
        refine .inl ⟨⟨ws1, .of d2, by omega⟩, q _ _ ?_⟩
        rw [← jnk_n]
        exact s1
end
end DL


/-! HU: ways in the plane: which of them turn about the middle, and which lie to one side. No program in sight. -/
namespace HU
abbrev P2 := Int × Int
def tn (a b : P2) : Int := a.1 * b.2 - a.2 * b.1
def dt (a b : P2) : Int := a.1 * b.1 + a.2 * b.2
theorem tn_swap (a b : P2) : tn b a = -tn a b := by unfold tn; grind
theorem dt_swap (a b : P2) : dt b a = dt a b := by unfold dt; grind
theorem tn_self (a : P2) : tn a a = 0 := by unfold tn; grind
theorem id1 (a b c : P2) : tn c b * dt a a = dt a b * tn c a + tn a b * dt c a := by unfold tn dt; grind
theorem id2 (a b r : P2) : dt a b * dt r r = dt r a * dt r b + tn r a * tn r b := by unfold tn dt; grind
theorem id3 (a b c r : P2) : tn b c * tn r a + tn c a * tn r b + tn a b * tn r c = 0 := by unfold tn; grind
theorem pos_left {x y : Int} (h : 0 < x * y) (hy : 0 ≤ y) : 0 < x := by
  rcases Int.lt_or_le 0 x with h1 | h1
  · exact h1
  · have := Int.mul_le_mul_of_nonneg_right h1 hy
    omega
theorem nn_left {x y : Int} (h : 0 ≤ x * y) (hy : 0 < y) : 0 ≤ x := by
  rcases Int.lt_or_le x 0 with h1 | h1
  · have := Int.mul_neg_of_neg_of_pos h1 hy
    omega
  · exact h1
theorem sq_nn (x : Int) : 0 ≤ x * x := by
  rcases Int.le_total 0 x with h | h
  · exact Int.mul_nonneg h h
  · exact Int.mul_nonneg_of_nonpos_of_nonpos h h
theorem dt_nn (a : P2) : 0 ≤ dt a a := by
  have h1 := sq_nn a.1
  have h2 := sq_nn a.2
  unfold dt; omega
theorem dt_pos {a : P2} (h : a ≠ (0, 0)) : 0 < dt a a := by
  have h1 := sq_nn a.1
  have h2 := sq_nn a.2
  unfold dt
  rcases Int.lt_or_le 0 (a.1 * a.1 + a.2 * a.2) with h3 | h3
  · exact h3
  · exfalso
    have e1 : a.1 * a.1 = 0 := by omega
    have e2 : a.2 * a.2 = 0 := by omega
    rcases Int.mul_eq_zero.mp e1 with e1 | e1
    all_goals rcases Int.mul_eq_zero.mp e2 with e2 | e2
    all_goals exact h (Prod.ext e1 e2)
def O2 (a b : P2) : Prop := tn a b = 0 ∧ dt a b < 0
def T3 (a b c : P2) : Prop := (0 < tn b c ∧ 0 < tn c a ∧ 0 < tn a b) ∨ (tn b c < 0 ∧ tn c a < 0 ∧ tn a b < 0)
def left (a b : P2) : Prop := 0 < tn a b ∨ (tn a b = 0 ∧ 0 < dt a b)
structure Good (ws : List P2) : Prop where
  nz : ∀ a ∈ ws, a ≠ (0, 0)
  no2 : ∀ a ∈ ws, ∀ b ∈ ws, ¬ O2 a b
  no3 : ∀ a ∈ ws, ∀ b ∈ ws, ∀ c ∈ ws, ¬ T3 a b c
/-- alike ways -/
theorem Good.same {ws : List P2} (g : Good ws) {a b : P2} (ha : a ∈ ws) (hb : b ∈ ws) (h : tn a b = 0) : 0 < dt a b := by
  have h1 : ¬ dt a b < 0 := fun z => g.no2 a ha b hb ⟨h, z⟩
  have h2 := id2 a a b
  have h3 := dt_pos (g.nz a ha)
  have h4 := dt_pos (g.nz b hb)
  rcases Int.lt_or_eq_of_le (show 0 ≤ dt a b by omega) with h5 | h5
  · exact h5
  · exfalso
    have e1 : dt b a = 0 := by rw [dt_swap]; omega
    have e2 : tn b a = 0 := by rw [tn_swap]; omega
    rw [e1, e2] at h2
    have := Int.mul_pos h3 h4
    omega
theorem Good.trans {ws : List P2} (g : Good ws) {a b c : P2} (ha : a ∈ ws) (hb : b ∈ ws) (hc : c ∈ ws) (h1 : 0 ≤ tn a b) (h2 : 0 ≤ tn b c) : 0 ≤ tn a c := by
  rcases Int.lt_or_le (tn a c) 0 with h | h
  · exfalso
    have hca : 0 < tn c a := by rw [tn_swap]; omega
    rcases Int.lt_or_eq_of_le h1 with p1 | p1
    · rcases Int.lt_or_eq_of_le h2 with p2 | p2
      · exact g.no3 a ha b hb c hc (.inl ⟨p2, hca, p1⟩)
      · have d := g.same hb hc p2.symm
        have i := id1 b c a
        rw [← p2] at i
        have q1 : 0 < tn a b := p1
        have q2 := Int.mul_pos d q1
        have q3 : 0 < tn a c * dt b b := by rw [i]; omega
        have := pos_left q3 (dt_nn b)
        omega
    · have d := g.same ha hb p1.symm
      have i := id1 a b c
      rw [← p1] at i
      have q2 := Int.mul_pos d hca
      have q3 : 0 < tn c b * dt a a := by rw [i]; omega
      have := pos_left q3 (dt_nn a)
      have e := tn_swap b c
      omega
  · exact h
/-- the walk to the outermost -/
def outer (s : Int) (b : P2) (ws : List P2) : P2 := ws.foldl (fun b w => if s * tn b w < 0 then w else b) b
theorem outer_mem (s : Int) : ∀ (ws : List P2) (b : P2), outer s b ws = b ∨ outer s b ws ∈ ws
  | [], b => .inl rfl
  | w :: ws, b => by
    unfold outer
    rw [List.foldl_cons]
    rcases outer_mem s ws (if s * tn b w < 0 then w else b) with h | h
    · unfold outer at h
      rw [h]
      split
      · exact .inr List.mem_cons_self
      · exact .inl rfl
    · exact .inr (List.mem_cons_of_mem _ h)
theorem outer_1 {all : List P2} (g : Good all) : ∀ (ws : List P2) (b : P2) (seen : List P2), b ∈ all → (∀ w ∈ ws, w ∈ all) → (∀ v ∈ seen, v ∈ all) → (∀ v ∈ seen, 0 ≤ tn b v) → ∀ v, v ∈ seen ∨ v ∈ ws → 0 ≤ tn (outer 1 b ws) v
  | [], b, seen, hb, hw, hs, h, v, hv => by
    rcases hv with hv | hv
    · exact h v hv
    · cases hv
  | w :: ws, b, seen, hb, hw, hs, h, v, hv => by
    unfold outer
    rw [List.foldl_cons]
    have hwa := hw w List.mem_cons_self
    by_cases c : 1 * tn b w < 0
    · rw [if_pos c]
      refine outer_1 g ws w (w :: seen) hwa (fun u hu => hw u (List.mem_cons_of_mem _ hu)) (fun u hu => ?_) (fun u hu => ?_) v ?_
      · rcases List.mem_cons.mp hu with e | hu
        · rw [e]; exact hwa
        · exact hs u hu
      · rcases List.mem_cons.mp hu with e | hu
        · rw [e, tn_self]; exact Int.le_refl 0
        · refine g.trans hwa hb (hs u hu) ?_ (h u hu)
          rw [tn_swap]; omega
      · rcases hv with hv | hv
        · exact .inl (List.mem_cons_of_mem _ hv)
        · rcases List.mem_cons.mp hv with e | hv
          · exact .inl (e ▸ List.mem_cons_self)
          · exact .inr hv
    · rw [if_neg c]
      refine outer_1 g ws b (w :: seen) hb (fun u hu => hw u (List.mem_cons_of_mem _ hu)) (fun u hu => ?_) (fun u hu => ?_) v ?_
      · rcases List.mem_cons.mp hu with e | hu
        · rw [e]; exact hwa
        · exact hs u hu
      · rcases List.mem_cons.mp hu with e | hu
        · rw [e]; omega
        · exact h u hu
      · rcases hv with hv | hv
        · exact .inl (List.mem_cons_of_mem _ hv)
        · rcases List.mem_cons.mp hv with e | hv
          · exact .inl (e ▸ List.mem_cons_self)
          · exact .inr hv
theorem outer_m {all : List P2} (g : Good all) : ∀ (ws : List P2) (b : P2) (seen : List P2), b ∈ all → (∀ w ∈ ws, w ∈ all) → (∀ v ∈ seen, v ∈ all) → (∀ v ∈ seen, 0 ≤ tn v b) → ∀ v, v ∈ seen ∨ v ∈ ws → 0 ≤ tn v (outer (-1) b ws)
  | [], b, seen, hb, hw, hs, h, v, hv => by
    rcases hv with hv | hv
    · exact h v hv
    · cases hv
  | w :: ws, b, seen, hb, hw, hs, h, v, hv => by
    unfold outer
    rw [List.foldl_cons]
    have hwa := hw w List.mem_cons_self
    by_cases c : -1 * tn b w < 0
    · rw [if_pos c]
      refine outer_m g ws w (w :: seen) hwa (fun u hu => hw u (List.mem_cons_of_mem _ hu)) (fun u hu => ?_) (fun u hu => ?_) v ?_
      · rcases List.mem_cons.mp hu with e | hu
        · rw [e]; exact hwa
        · exact hs u hu
      · rcases List.mem_cons.mp hu with e | hu
        · rw [e, tn_self]; exact Int.le_refl 0
        · exact g.trans (hs u hu) hb hwa (h u hu) (by omega)
      · rcases hv with hv | hv
        · exact .inl (List.mem_cons_of_mem _ hv)
        · rcases List.mem_cons.mp hv with e | hv
          · exact .inl (e ▸ List.mem_cons_self)
          · exact .inr hv
    · rw [if_neg c]
      refine outer_m g ws b (w :: seen) hb (fun u hu => hw u (List.mem_cons_of_mem _ hu)) (fun u hu => ?_) (fun u hu => ?_) v ?_
      · rcases List.mem_cons.mp hu with e | hu
        · rw [e]; exact hwa
        · exact hs u hu
      · rcases List.mem_cons.mp hu with e | hu
        · rw [e, tn_swap]; omega
        · exact h u hu
      · rcases hv with hv | hv
        · exact .inl (List.mem_cons_of_mem _ hv)
        · rcases List.mem_cons.mp hv with e | hv
          · exact .inl (e ▸ List.mem_cons_self)
          · exact .inr hv
theorem outer_left {w : P2} {ws : List P2} (g : Good (w :: ws)) : ∀ v ∈ w :: ws, left (outer 1 w (w :: ws)) v := fun v hv => by
  have hm : outer 1 w (w :: ws) ∈ w :: ws := by
    rcases outer_mem 1 (w :: ws) w with e | e
    · rw [e]; exact List.mem_cons_self
    · exact e
  have h := outer_1 g (w :: ws) w [] List.mem_cons_self (fun _ h => h) (fun v h => by cases h) (fun v h => by cases h) v (.inr hv)
  rcases Int.lt_or_eq_of_le h with h | h
  · exact .inl h
  · exact .inr ⟨h.symm, g.same hm hv h.symm⟩
theorem left_nn {a b : P2} (h : left a b) : 0 ≤ tn a b := by
  rcases h with h | h <;> omega
theorem left_same {a b : P2} (h : left a b) (e : tn a b = 0) : 0 < dt a b := by
  rcases h with h | h
  · omega
  · exact h.2
/-- all on one side -/
theorem good_of_left {ws : List P2} {r : P2} (hr : r ≠ (0, 0)) (h : ∀ v ∈ ws, left r v) : Good ws where
  nz := fun a ha e => by
    have := h a ha
    subst e
    unfold left tn dt at this
    simp at this
  no2 := fun a ha b hb ⟨h1, h2⟩ => by
    have la := h a ha
    have lb := h b hb
    have i := id1 a b r
    rw [h1] at i
    have p1 : 0 ≤ tn r b * dt a a := Int.mul_nonneg (left_nn lb) (dt_nn a)
    have na := left_nn la
    have za : tn r a = 0 := by
      rcases Int.lt_or_eq_of_le na with q | q
      · have := Int.mul_neg_of_neg_of_pos h2 q
        omega
      · exact q.symm
    have da := left_same la za
    have nb : tn r b = 0 := by
      rw [za] at i
      have i2 : tn r b * dt a a = 0 := by omega
      rcases Int.mul_eq_zero.mp i2 with z | z
      · exact z
      · exfalso
        have : a = (0, 0) := by
          refine Classical.byContradiction fun ne => ?_
          have := dt_pos ne
          omega
        subst this
        unfold dt at da; simp at da
    have db := left_same lb nb
    have i3 := id2 a b r
    rw [za, nb] at i3
    have p3 := Int.mul_pos da db
    have p4 : 0 < dt a b * dt r r := by omega
    have := pos_left p4 (dt_nn r)
    omega
  no3 := fun a ha b hb c hc t => by
    have la := h a ha
    have lb := h b hb
    have lc := h c hc
    have i := id3 a b c r
    have na := left_nn la
    have nb := left_nn lb
    have nc := left_nn lc
    have key : ∀ p q s x y z : Int, 0 < p → 0 < q → 0 < s → 0 ≤ x → 0 ≤ y → 0 ≤ z → p * x + q * y + s * z = 0 → x = 0 ∧ y = 0 := by
      intro p q s x y z hp hq hs hx hy hz e
      have e1 := Int.mul_nonneg (Int.le_of_lt hp) hx
      have e2 := Int.mul_nonneg (Int.le_of_lt hq) hy
      have e3 := Int.mul_nonneg (Int.le_of_lt hs) hz
      have f1 : p * x = 0 := by omega
      have f2 : q * y = 0 := by omega
      exact ⟨(Int.mul_eq_zero.mp f1).resolve_left (by omega), (Int.mul_eq_zero.mp f2).resolve_left (by omega)⟩
    have fin : tn r a = 0 → tn r b = 0 → tn a b = 0 := by
      intro za zb
      have i4 := id1 r b a
      rw [zb, tn_swap r a, za] at i4
      have i5 : tn a b * dt r r = 0 := by rw [i4]; simp
      exact (Int.mul_eq_zero.mp i5).resolve_right (by have := dt_pos hr; omega)
    rcases t with ⟨t1, t2, t3⟩ | ⟨t1, t2, t3⟩
    · obtain ⟨za, zb⟩ := key _ _ _ _ _ _ t1 t2 t3 na nb nc i
      have := fin za zb
      omega
    · obtain ⟨za, zb⟩ := key (-tn b c) (-tn c a) (-tn a b) _ _ _ (by omega) (by omega) (by omega) na nb nc (by
        rw [Int.neg_mul, Int.neg_mul, Int.neg_mul]; omega)
      have := fin za zb
      omega
/-- the line between the outermost ones -/
theorem line_pos {w : P2} {ws : List P2} {r l : P2} (g : Good (w :: ws)) (hr : r ∈ w :: ws) (hR : ∀ v ∈ w :: ws, left r v) (hl : l = outer (-1) w (w :: ws)) : ∀ v ∈ w :: ws,
    (tn r l = 0 → 0 < r.1 * v.1 + r.2 * v.2) ∧ (tn r l ≠ 0 → 0 < (l.2 - r.2) * v.1 + (r.1 - l.1) * v.2) := fun v hv => by
  have hlm : l ∈ w :: ws := by
    rw [hl]
    rcases outer_mem (-1) (w :: ws) w with e | e
    · rw [e]; exact List.mem_cons_self
    · exact e
  have hL : 0 ≤ tn v l := by
    rw [hl]
    exact outer_m g (w :: ws) w [] List.mem_cons_self (fun _ h => h) (fun v h => by cases h) (fun v h => by cases h) v (.inr hv)
  have hrv := left_nn (hR v hv)
  have hrz := g.nz r hr
  constructor
  · intro e
    have d := left_same (hR l hlm) e
    have i := id1 r l v
    rw [e] at i
    have z1 : 0 ≤ dt r l * tn v r := by have := Int.mul_nonneg hL (dt_nn r); omega
    have z2 : 0 ≤ tn v r := by rw [Int.mul_comm] at z1; exact nn_left z1 d
    have z3 := tn_swap r v
    exact left_same (hR v hv) (by omega)
  · intro e
    have s : (l.2 - r.2) * v.1 + (r.1 - l.1) * v.2 = tn v l + tn r v := by unfold tn; grind
    rw [s]
    rcases Int.lt_or_le 0 (tn v l + tn r v) with h | h
    · exact h
    · exfalso
      have e1 : tn v l = 0 := by omega
      have e2 : tn r v = 0 := by omega
      have d := left_same (hR v hv) e2
      have i := id1 r v l
      rw [e2, tn_swap v l, e1] at i
      have i2 : dt r v * tn l r = 0 := by omega
      have e3 := (Int.mul_eq_zero.mp i2).resolve_left (by omega)
      rw [tn_swap] at e3
      omega
end HU

/-! HW: weights. No program in sight. -/
namespace HU
def wsum : List Int → List Int → Int
  | q :: Q, x :: X => q * x + wsum Q X
  | _, _ => 0
theorem wsum_set : ∀ (Q X : List Int) (i : Nat) (q : Int), i < Q.length → Q.length = X.length → wsum (Q.set i q) X = wsum Q X + (q - Q.getD i 0) * X.getD i 0
  | [], X, i, q, h, _ => by simp at h
  | a :: Q, [], i, q, h, e => by simp at e
  | a :: Q, x :: X, 0, q, h, e => by
    simp only [List.set_cons_zero, wsum, List.getD_cons_zero]
    grind
  | a :: Q, x :: X, i + 1, q, h, e => by
    simp only [List.set_cons_succ, wsum, List.getD_cons_succ]
    rw [wsum_set Q X i q (by simpa using h) (by simpa using e)]
    grind
theorem wsum_zero : ∀ (n : Nat) (X : List Int), wsum (List.replicate n 0) X = 0
  | 0, _ => rfl
  | n + 1, [] => rfl
  | n + 1, x :: X => by rw [List.replicate_succ, wsum, wsum_zero n X]; simp
def qs (L : List (Nat × Int)) (Q : List Int) : List Int := L.foldl (fun Q z => Q.set z.1 z.2) Q
theorem qs_len : ∀ (L : List (Nat × Int)) (Q : List Int), (qs L Q).length = Q.length
  | [], _ => rfl
  | z :: L, Q => by
    unfold qs
    rw [List.foldl_cons]
    have := qs_len L (Q.set z.1 z.2)
    unfold qs at this
    rw [this, List.length_set]
theorem getD_set_ne {Q : List Int} {i j : Nat} {q : Int} (h : i ≠ j) : (Q.set i q).getD j 0 = Q.getD j 0 := by
  rw [List.getD_eq_getElem?_getD, List.getD_eq_getElem?_getD, List.getElem?_set_ne h]
theorem wsum_qs : ∀ (L : List (Nat × Int)) (Q X : List Int), (L.map (·.1)).Nodup → (∀ z ∈ L, z.1 < Q.length) → Q.length = X.length → (∀ z ∈ L, Q.getD z.1 0 = 0) → wsum (qs L Q) X = wsum Q X + (L.map fun z => z.2 * X.getD z.1 0).sum
  | [], Q, X, _, _, _, _ => by simp [qs]
  | z :: L, Q, X, hn, hl, e, h0 => by
    rw [List.map_cons, List.nodup_cons] at hn
    have h := wsum_qs L (Q.set z.1 z.2) X hn.2 (fun y hy => by rw [List.length_set]; exact hl y (List.mem_cons_of_mem _ hy)) (by rw [List.length_set]; exact e) (fun y hy => by
      rw [getD_set_ne (fun e1 => hn.1 (by rw [e1]; exact List.mem_map_of_mem hy))]
      exact h0 y (List.mem_cons_of_mem _ hy))
    have h2 : qs (z :: L) Q = qs L (Q.set z.1 z.2) := rfl
    rw [h2, h, wsum_set Q X z.1 z.2 (hl z List.mem_cons_self) e, h0 z List.mem_cons_self, List.map_cons, List.sum_cons]
    grind
theorem qs_nn : ∀ (L : List (Nat × Int)) (Q : List Int), (∀ z ∈ L, 0 ≤ z.2) → (∀ q ∈ Q, 0 ≤ q) → ∀ q ∈ qs L Q, 0 ≤ q
  | [], Q, _, h, q, hq => h q hq
  | z :: L, Q, hL, h, q, hq => by
    refine qs_nn L (Q.set z.1 z.2) (fun y hy => hL y (List.mem_cons_of_mem _ hy)) (fun y hy => ?_) q hq
    rcases List.mem_or_eq_of_mem_set hy with h1 | h1
    · exact h y h1
    · rw [h1]; exact hL z List.mem_cons_self
theorem wsum_ones : ∀ (Q : List Int), wsum Q (List.replicate Q.length 1) = Q.sum
  | [] => rfl
  | q :: Q => by rw [List.length_cons, List.replicate_succ, wsum, wsum_ones Q, List.sum_cons]; omega
theorem le_sum : ∀ (Q : List Int), (∀ q ∈ Q, 0 ≤ q) → 0 ≤ Q.sum ∧ ∀ q ∈ Q, q ≤ Q.sum
  | [], _ => ⟨by simp, fun q h => by cases h⟩
  | a :: Q, h => by
    obtain ⟨h1, h2⟩ := le_sum Q fun q hq => h q (List.mem_cons_of_mem _ hq)
    have ha := h a List.mem_cons_self
    rw [List.sum_cons]
    refine ⟨by omega, fun q hq => ?_⟩
    rcases List.mem_cons.mp hq with e | hq
    · omega
    · have := h2 q hq
      omega
/-- in lowest terms -/
def red (q T : Int) : Int × Int := (q / (Int.gcd q T : Int), T / (Int.gcd q T : Int))
theorem red_pos {q T : Int} (h : 0 < T) : 0 < (red q T).2 := Int.ediv_pos_of_pos_of_dvd h (by omega) (Int.gcd_dvd_right q T)
theorem gcdp {q T : Int} (h : 0 < T) : (0 : Int) < Int.gcd q T := by
  have := Int.gcd_pos_of_ne_zero_right q (show T ≠ 0 by omega)
  omega
theorem red_nn {q T : Int} (h : 0 < T) (hq : 0 ≤ q) : 0 ≤ (red q T).1 := Int.ediv_nonneg hq (by omega)
theorem red_le {q T : Int} (h : 0 < T) (hq : 0 ≤ q) : (red q T).1 ≤ q ∧ (red q T).2 ≤ T := by
  have g := gcdp (q := q) h
  exact ⟨Int.ediv_le_self _ hq, Int.ediv_le_self _ (by omega)⟩
theorem red_gcd {q T : Int} (h : 0 < T) : Int.gcd (red q T).1 (red q T).2 = 1 := by
  have g := Int.gcd_pos_of_ne_zero_right q (show T ≠ 0 by omega)
  exact Int.gcd_ediv_gcd_ediv_gcd g
theorem red_mul (q T : Int) : (red q T).1 * T = q * (red q T).2 := by
  unfold red
  have h1 := Int.gcd_dvd_left q T
  have h2 := Int.gcd_dvd_right q T
  generalize (Int.gcd q T : Int) = g at *
  obtain ⟨a, rfl⟩ := h1
  obtain ⟨b, rfl⟩ := h2
  by_cases hg : g = 0
  · subst hg; simp
  · simp only [Int.mul_ediv_cancel_left _ hg]
    grind
theorem red_zero {T : Int} (h : 0 < T) : red 0 T = (0, 1) := by
  unfold red
  rw [Int.gcd_zero_left]
  have e : (T.natAbs : Int) = T := by omega
  rw [e, Int.zero_ediv, Int.ediv_self (by omega)]
theorem range_wsum : ∀ (S X : List Int) (n : Nat), S.length = n → X.length = n → ((List.range n).map fun k => S.getD k 0 * X.getD k 0).sum = wsum S X
  | [], [], 0, _, _ => rfl
  | s :: S, x :: X, n + 1, h1, h2 => by
    have ih := range_wsum S X n (by simpa using h1) (by simpa using h2)
    rw [List.range_succ_eq_map, List.map_cons, List.map_map, List.sum_cons, wsum, ← ih]
    rfl
def prod : List Int → Int
  | [] => 1
  | x :: X => x * prod X
theorem dvd_prod : ∀ (X : List Int) (x : Int), x ∈ X → x ∣ prod X
  | a :: X, x, h => by
    rcases List.mem_cons.mp h with e | h
    · rw [e, prod]; exact Int.dvd_mul_right _ _
    · rw [prod]; exact Int.dvd_trans (dvd_prod X x h) (Int.dvd_mul_left _ _)
def share (C T q : Int) : Int := C / (red q T).2 * (red q T).1
theorem share_mul {C T q : Int} (h : 0 < T) (hd : (red q T).2 ∣ C) : share C T q * T = C * q := by
  unfold share
  have p := red_pos (q := q) h
  have m := red_mul q T
  obtain ⟨k, rfl⟩ := hd
  rw [Int.mul_ediv_cancel_left _ (by omega), Int.mul_assoc, m]
  grind
theorem shares_w {C T : Int} (h : 0 < T) : ∀ (Q X : List Int), (∀ q ∈ Q, (red q T).2 ∣ C) → wsum (Q.map (share C T)) X * T = C * wsum Q X
  | [], X, _ => by simp [wsum]
  | q :: Q, [], _ => by simp [wsum]
  | q :: Q, x :: X, hd => by
    rw [List.map_cons, wsum, wsum, Int.add_mul, shares_w h Q X fun q hq => hd q (List.mem_cons_of_mem _ hq)]
    have := share_mul h (hd q List.mem_cons_self)
    grind
theorem cancelT {a b T : Int} (h : 0 < T) (e : a * T = b * T) : a = b := Int.eq_of_mul_eq_mul_right (by omega) e
end HU

/-! HS: texts, no program in sight: numbers and names as words, rows of words. -/
namespace DL
open PySem PySem.Spec L2
theorem cut_len (z : Str) (lo hi : Option Int) : (cutS z lo hi).length ≤ z.length := by
  unfold cutS
  show (List.toArray _).size ≤ z.cps.size
  rw [List.size_toArray, List.length_take, List.length_drop, Array.length_toList]
  omega
theorem slD_str {z : Str} {lo hi : Option Int} (h : z.length ≤ 1000) : slD lo hi (.str z) = some (.sh (.str (cutS z lo hi))) := by
  have e : slD lo hi (.str z) = if z.length ≤ 10000000 then some (.sh (.str (cutS z lo hi))) else none := rfl
  rw [e, if_pos (by omega)]
theorem in_sign (b : Bool) (c : Nat) (z : Str) : inD b (.str ⟨#[c]⟩) (.str z) = some (.sh (.bl (b != decide (c ∈ z.cps)))) := by
  have e : inD b (.str ⟨#[c]⟩) (.str z) = some (.sh (.bl (b != decide (c ∈ z.cps.toList)))) := rfl
  rw [e]; simp
def allIn (z K : Str) : Bool := z.cps.toList.all fun c => decide (c ∈ K.cps)
def c0 (z : Str) : D := .str ⟨#[z.cps.toList.getD 0 0]⟩
theorem ix0 {z : Str} (h0 : 0 < z.length) (h : z.length ≤ 1000) : ixD (.str z) (.int 0) = some (.sh (c0 z)) := by
  have e : ixD (.str z) (.int 0) = if z.length ≤ 10000000 then (atI z.cps.toList 0).map (fun c => Val.sh (.str ⟨#[c]⟩)) else none := by
    unfold ixD; rfl
  rw [e, if_pos (by omega), atI_nn (by decide)]
  unfold c0
  have hl : 0 < z.cps.toList.length := by rw [Array.length_toList]; exact h0
  rw [List.getD_eq_getElem?_getD]
  show Option.map _ z.cps.toList[0]? = _
  rw [List.getElem?_eq_getElem hl]; rfl
def core (f : Str) : Bool := decide (1 ≤ f.length) && (decide (f.length ≤ 10) && (!(D.eqv (c0 f) (.str (Str.ofString "0"))) && allIn f (Str.ofString "0123456789")))
def fig (z : Str) : Str := if cutS z none (some 1) = Str.ofString "-" then cutS z (some 1) none else z
def isNum (z : Str) : Bool := decide (z = Str.ofString "0") || core (fig z)
theorem okc (z : Str) : D.ok 20 (c0 z) = true := rfl
def isNam (z : Str) : Bool := decide (1 ≤ z.length) && (decide (z.length ≤ 8) && allIn z (Str.ofString "abcdefghijklmnopqrstuvwxyz"))
theorem rep_size (x : Array Nat) : ∀ (n : Nat) (acc : Array Nat), ((List.replicate n x).foldl (· ++ ·) acc).size = acc.size + n * x.size
  | 0, acc => by simp
  | n + 1, acc => by
    rw [List.replicate_succ, List.foldl_cons, rep_size x n, Array.size_append, Nat.succ_mul]
    omega
theorem mul_len (a : Str) (k : Int) : (Txt.mul a k).length ≤ a.length * k.toNat := by
  unfold Txt.mul
  split
  · exact Nat.zero_le _
  · split
    · have : 1 ≤ k.toNat := by omega
      exact Nat.le_mul_of_pos_right _ this
    · show ((List.replicate k.toNat a.cps).foldl (· ++ ·) #[]).size ≤ a.cps.size * k.toNat
      rw [rep_size, Nat.mul_comm]
      simp
theorem app_len (a b : Str) : (a ++ b).length = a.length + b.length := by
  show (a.cps ++ b.cps).size = a.cps.size + b.cps.size
  exact Array.size_append
theorem join_len' (a : Str) : ∀ l : List Str, (Str.join a l).length ≤ (l.map (·.length)).sum + l.length * a.length
  | [] => Nat.zero_le _
  | [x] => by
    show x.length ≤ _
    simp
  | x :: y :: l => by
    have ih := join_len' a (y :: l)
    have e : Str.join a (x :: y :: l) = x ++ a ++ Str.join a (y :: l) := rfl
    rw [e, app_len, app_len]
    simp only [List.map_cons, List.sum_cons, List.length_cons, Nat.add_mul, Nat.one_mul] at ih ⊢
    omega
theorem join_len (a : Str) (l : List Str) : (Txt.join a l).length ≤ (l.map (·.length)).sum + l.length * a.length := by
  show (Builtin.Str.glued a l).length ≤ _
  rw [PySem.StrLaws.glued_eq_join]; exact join_len' a l

/-! ### numbers as words -/
def num (x : Int) : Str := Str.ofString (toString x)
theorem num_pos {x : Int} (h : 0 ≤ x) : (num x).cps.toList = TL.numL x.toNat := by
  have e := TL.tl_num x.toNat
  rw [Int.toNat_of_nonneg h] at e
  exact e
theorem ofString_app (a b : String) : (Str.ofString (a ++ b)).cps.toList = (Str.ofString a).cps.toList ++ (Str.ofString b).cps.toList := by
  simp [Str.ofString_eq_toList, String.toList_append]
theorem num_neg {x : Int} (h : x < 0) : (num x).cps.toList = 45 :: TL.numL (0 - x).toNat := by
  have e := PyProof.Rows.toString_neg (n := x) (by omega)
  have e2 := num_pos (x := 0 - x) (by omega)
  unfold num at e2 ⊢
  rw [e, ofString_app, e2]
  rfl
theorem numL_head : ∀ n : Nat, 1 ≤ n → (TL.numL n).getD 0 0 ≠ 48 := by
  intro n
  induction n using Nat.strongRecOn with
  | _ n ih =>
    intro h1
    by_cases h : n < 10
    · rw [TL.numL_lt h]
      simp
      omega
    · rw [TL.numL_step (by omega)]
      have q := ih (n / 10) (by omega) (by omega)
      have ne := TL.numL_ne (n / 10)
      cases e : TL.numL (n / 10) with
      | nil => exact absurd e ne
      | cons a l => rw [e] at q; simpa using q
theorem digits_in {l : List Nat} (h : NumText.AllDigits l) : ∀ c ∈ l, c ∈ (Str.ofString "0123456789").cps := fun c hc => by
  have h2 : (Str.ofString "0123456789").cps = #[48, 49, 50, 51, 52, 53, 54, 55, 56, 57] := by decide
  have := h c hc
  rw [h2]
  simp
  omega
theorem len_list (z : Str) : z.length = z.cps.toList.length := by rw [Array.length_toList]; rfl
theorem str_ext {a b : Str} (h : a.cps.toList = b.cps.toList) : a = b := by
  cases a; cases b
  congr 1
  exact Array.toList_inj.mp h
theorem core_digits {f : Str} {n : Nat} (h : f.cps.toList = TL.numL n) (h1 : 1 ≤ n) (h2 : n < 10 ^ 10) : core f = true := by
  have hl := TL.numL_len (n := n) (k := 10) (by decide) h2
  have ne := TL.numL_ne n
  have l1 : 1 ≤ (TL.numL n).length := by
    cases e : TL.numL n with
    | nil => exact absurd e ne
    | cons a l => simp
  unfold core
  have e1 := len_list f
  rw [h] at e1
  rw [decide_eq_true (by omega), decide_eq_true (by omega), Bool.true_and, Bool.true_and, Bool.and_eq_true]
  refine ⟨?_, ?_⟩
  · unfold c0
    rw [h]
    have q := numL_head n h1
    generalize (TL.numL n).getD 0 0 = d at *
    have e : D.eqv (.str ⟨#[d]⟩) (.str (Str.ofString "0")) = decide ((⟨#[d]⟩ : Str) = Str.ofString "0") := by simp
    rw [e]
    have : ¬ ((⟨#[d]⟩ : Str) = Str.ofString "0") := fun z => q (by
      have z2 := congrArg (fun s : Str => s.cps.toList) z
      have z3 : (Str.ofString "0").cps.toList = [48] := by decide
      simp only [z3] at z2
      simpa using z2)
    simp [this]
  · unfold allIn
    rw [h, List.all_eq_true]
    intro c hc
    exact decide_eq_true (digits_in (TL.numL_digits n) c hc)
theorem cut_1 (z : Str) : (cutS z none (some 1)).cps.toList = z.cps.toList.take 1 ∧ (cutS z (some 1) none).cps.toList = z.cps.toList.drop 1 := by
  have hl : z.length = z.cps.toList.length := len_list z
  have hz : z.cps.size = z.cps.toList.length := by rw [Array.length_toList]
  unfold cutS
  constructor
  · show List.take _ (List.drop _ z.cps.toList) = _
    rw [HT.sIx_none, show (some (1 : Int)) = some ((1 : Nat) : Int) from rfl, HT.sIx_nat, List.drop_zero]
    by_cases h : 1 ≤ z.cps.toList.length
    · rw [Nat.min_eq_left (by omega)]
    · have e : z.cps.toList = [] := List.length_eq_zero_iff.mp (by omega)
      rw [e]; simp
  · show List.take _ (List.drop _ z.cps.toList) = _
    rw [HT.sIx_none, show (some (1 : Int)) = some ((1 : Nat) : Int) from rfl, HT.sIx_nat]
    by_cases h : 1 ≤ z.cps.toList.length
    · rw [Nat.min_eq_left (by omega)]
      exact List.take_of_length_le (by rw [List.length_drop]; omega)
    · have e : z.cps.toList = [] := List.length_eq_zero_iff.mp (by omega)
      rw [e]; simp
theorem isNum_num {x : Int} (h : -(10 ^ 10) < x) (h2 : x < 10 ^ 10) : isNum (num x) = true := by
  unfold isNum
  rw [Bool.or_eq_true]
  obtain ⟨c1, c2⟩ := cut_1 (num x)
  have z3 : (Str.ofString "-").cps.toList = [45] := by decide
  rcases Int.lt_trichotomy x 0 with hx | hx | hx
  · right
    have e := num_neg hx
    rw [e] at c1 c2
    unfold fig
    rw [if_pos (str_ext (by rw [c1, z3]; rfl))]
    exact core_digits (n := (0 - x).toNat) (by rw [c2]; rfl) (by omega) (by omega)
  · subst hx; left; decide
  · right
    have e := num_pos (x := x) (by omega)
    rw [e] at c1 c2
    unfold fig
    rw [if_neg]
    · exact core_digits e (by omega) (by omega)
    · intro z
      have z2 := congrArg (fun s : Str => s.cps.toList) z
      simp only [c1, z3] at z2
      have d := TL.numL_digits x.toNat
      cases e : TL.numL x.toNat with
      | nil => rw [e] at z2; cases z2
      | cons a l =>
        rw [e] at z2
        simp at z2
        have := d a (by rw [e]; exact List.mem_cons_self)
        omega
theorem int_numI {x : Int} (h : -(10 ^ 10) < x) (h2 : x < 10 ^ 10) : PySem.intText? (num x) = some x := by
  by_cases hx : 0 ≤ x
  · have hl := TL.numL_len (n := x.toNat) (k := 10) (by decide) (by omega)
    have e := TL.int_num (n := x.toNat) (by omega)
    rw [Int.toNat_of_nonneg hx] at e
    exact e
  · have hl := TL.numL_len (n := (0 - x).toNat) (k := 10) (by decide) (by omega)
    have e := PySem.intText_neg (x := num x) (num_neg (by omega)) (TL.numL_digits _) (TL.numL_ne _) (by
      rw [len_list, num_neg (by omega)]
      simp only [List.length_cons]
      omega)
    rw [e, TL.numL_val]
    congr 1
    omega
theorem num_len {x : Int} (h : -(10 ^ 10) < x) (h2 : x < 10 ^ 10) : (num x).length ≤ 11 := by
  rw [len_list]
  by_cases hx : 0 ≤ x
  · rw [num_pos hx]
    have hl := TL.numL_len (n := x.toNat) (k := 10) (by decide) (by omega)
    omega
  · rw [num_neg (by omega)]
    have hl := TL.numL_len (n := (0 - x).toNat) (k := 10) (by decide) (by omega)
    simp only [List.length_cons]
    omega
theorem num_free {x : Int} {c : Nat} (h : c < 45) : c ∉ (num x).cps.toList := by
  by_cases hx : 0 ≤ x
  · rw [num_pos hx]
    exact TL.numL_free (.inl (by omega))
  · rw [num_neg (by omega)]
    intro k
    rcases List.mem_cons.mp k with k | k
    · omega
    · exact TL.numL_free (.inl (by omega)) k
theorem num_small (x : Int) (h : -(10 ^ 20) < x) (h2 : x < 10 ^ 20) : x.natAbs.log2 < 1920 := log2_small (by decide) (Nat.lt_of_lt_of_le (show x.natAbs < 2 ^ 70 by omega) (Nat.pow_le_pow_right (by decide) (by decide)))
theorem num_inj {x y : Int} (h : num x = num y) : x = y := by
  have e := congrArg (fun z : Str => z.cps.toList) h
  by_cases hx : 0 ≤ x <;> by_cases hy : 0 ≤ y
  · simp only [num_pos hx, num_pos hy] at e
    have := TL.numL_inj e
    omega
  · simp only [num_pos hx, num_neg (show y < 0 by omega)] at e
    exact absurd (show 45 ∈ TL.numL x.toNat by rw [e]; exact List.mem_cons_self) (TL.numL_free (.inl (by omega)))
  · simp only [num_pos hy, num_neg (show x < 0 by omega)] at e
    exact absurd (show 45 ∈ TL.numL y.toNat by rw [← e]; exact List.mem_cons_self) (TL.numL_free (.inl (by omega)))
  · simp only [num_neg (show x < 0 by omega), num_neg (show y < 0 by omega)] at e
    have := TL.numL_inj (List.cons.inj e).2
    omega
/-! ### rows of words -/
theorem split_on {c : Nat} {sep : Str} (hs : sep.cps.toList = [c]) (hc : c < 256) {parts : List Str} (hne : parts ≠ []) (hp : ∀ p ∈ parts, c ∉ p.cps.toList) : Txt.split (Txt.join sep parts) sep = parts := by
  refine TL.split_join (s := c) (S := []) hs ?_ hne hp
  have : sep.cps = #[c] := by
    have := congrArg List.toArray hs
    simpa using this
  rw [this]
  simp [hc]
theorem splitD_on {c : Nat} {sep : Str} (hs : sep.cps.toList = [c]) (hc : c < 256) {parts : List Str} (hne : parts ≠ []) (hp : ∀ p ∈ parts, c ∉ p.cps.toList) (hl : (Txt.join sep parts).length + 2 ≤ 10000000) :
    (if (sep.length == 0) = false ∧ (Txt.join sep parts).length + 2 ≤ 10000000 then some (Val.lst ((Txt.split (Txt.join sep parts) sep).map fun z => Val.sh (.str z))) else none) = some (.lst ((parts.map D.str).map .sh)) := by
  have : (sep.length == 0) = false := by rw [len_list, hs]; rfl
  rw [if_pos ⟨this, hl⟩, split_on hs hc hne hp, List.map_map]; rfl
theorem join_list (a : Str) : ∀ l : List Str, (Txt.join a l).cps.toList = TL.joinL a.cps.toList (l.map fun z => z.cps.toList) := fun l => by
  rw [TL.join_eq]
  exact TL.tl_join a l
theorem joinL_mem {a : List Nat} {c : Nat} (hc : c ∉ a) : ∀ {l : List (List Nat)}, (∀ p ∈ l, c ∉ p) → c ∉ TL.joinL a l
  | [], _ => by simp [TL.joinL]
  | [p], h => by simpa [TL.joinL] using h
  | p :: q :: r, h => by
    have ih := joinL_mem hc (l := q :: r) fun z hz => h z (List.mem_cons_of_mem _ hz)
    have hp := h p List.mem_cons_self
    show c ∉ p ++ (a ++ TL.joinL a (q :: r))
    simp only [List.mem_append, not_or]
    exact ⟨hp, hc, ih⟩
theorem join_free {a : Str} {c : Nat} {l : List Str} (hc : c ∉ a.cps.toList) (h : ∀ p ∈ l, c ∉ p.cps.toList) : c ∉ (Txt.join a l).cps.toList := by
  rw [join_list]
  refine joinL_mem hc fun p hp => ?_
  obtain ⟨z, hz, rfl⟩ := List.mem_map.mp hp
  exact h z hz
end DL

namespace My
open PySem PySem.Spec L2 DL
def topS (i : Nat) : Stmt := PySem.Challenge.pw_shadowpost_k71_yards_read_and_shown.main.body.getD i (.Pass ⟨0, 0, 0, 0⟩)
abbrev st_BadRow_init : Stmt := inClass (topS 3) 0
abbrev N_BadRow_init : List Str := ["self", "row"]
abbrev P_BadRow_init : List Str := ["self", "row"]
theorem sc_BadRow_init : FnScope N_BadRow_init P_BadRow_init (defScope st_BadRow_init) := ⟨rfl, rfl, rfl, by decide +kernel, rfl, by decide +kernel, by decide +kernel⟩
abbrev st_is_ray : Stmt := topS 6
abbrev N_is_ray : List Str := ["ray", "a", "b", "c"]
abbrev P_is_ray : List Str := ["ray"]
theorem sc_is_ray : FnScope N_is_ray P_is_ray (defScope st_is_ray) := ⟨rfl, rfl, rfl, by decide +kernel, rfl, by decide +kernel, by decide +kernel⟩
abbrev st_Thing_init : Stmt := inClass (topS 9) 0
abbrev N_Thing_init : List Str := ["self", "numbers"]
abbrev P_Thing_init : List Str := ["self", "numbers"]
theorem sc_Thing_init : FnScope N_Thing_init P_Thing_init (defScope st_Thing_init) := ⟨rfl, rfl, rfl, by decide +kernel, rfl, by decide +kernel, by decide +kernel⟩
abbrev st_Post_word : Stmt := inClass (topS 10) 0
abbrev N_Post_word : List Str := ["self"]
abbrev P_Post_word : List Str := ["self"]
theorem sc_Post_word : FnScope N_Post_word P_Post_word (defScope st_Post_word) := ⟨rfl, rfl, rfl, by decide +kernel, rfl, by decide +kernel, by decide +kernel⟩
abbrev st_Fence_word : Stmt := inClass (topS 11) 0
abbrev N_Fence_word : List Str := ["self"]
abbrev P_Fence_word : List Str := ["self"]
theorem sc_Fence_word : FnScope N_Fence_word P_Fence_word (defScope st_Fence_word) := ⟨rfl, rfl, rfl, by decide +kernel, rfl, by decide +kernel, by decide +kernel⟩
abbrev st_Sail_word : Stmt := inClass (topS 12) 0
abbrev N_Sail_word : List Str := ["self"]
abbrev P_Sail_word : List Str := ["self"]
theorem sc_Sail_word : FnScope N_Sail_word P_Sail_word (defScope st_Sail_word) := ⟨rfl, rfl, rfl, by decide +kernel, rfl, by decide +kernel, by decide +kernel⟩
abbrev st_Cloth_word : Stmt := inClass (topS 13) 0
abbrev N_Cloth_word : List Str := ["self"]
abbrev P_Cloth_word : List Str := ["self"]
theorem sc_Cloth_word : FnScope N_Cloth_word P_Cloth_word (defScope st_Cloth_word) := ⟨rfl, rfl, rfl, by decide +kernel, rfl, by decide +kernel, by decide +kernel⟩
abbrev st_House_word : Stmt := inClass (topS 14) 0
abbrev N_House_word : List Str := ["self"]
abbrev P_House_word : List Str := ["self"]
theorem sc_House_word : FnScope N_House_word P_House_word (defScope st_House_word) := ⟨rfl, rfl, rfl, by decide +kernel, rfl, by decide +kernel, by decide +kernel⟩
abbrev st_are_places : Stmt := topS 17
abbrev N_are_places : List Str := ["numbers", "number"]
abbrev P_are_places : List Str := ["numbers"]
theorem sc_are_places : FnScope N_are_places P_are_places (defScope st_are_places) := ⟨rfl, rfl, rfl, by decide +kernel, rfl, by decide +kernel, by decide +kernel⟩
abbrev st_is_height : Stmt := topS 18
abbrev N_is_height : List Str := ["number", "least"]
abbrev P_is_height : List Str := ["number", "least"]
theorem sc_is_height : FnScope N_is_height P_is_height (defScope st_is_height) := ⟨rfl, rfl, rfl, by decide +kernel, rfl, by decide +kernel, by decide +kernel⟩
abbrev st_made_of : Stmt := topS 25
abbrev N_made_of : List Str := ["word", "signs", "sign"]
abbrev P_made_of : List Str := ["word", "signs"]
theorem sc_made_of : FnScope N_made_of P_made_of (defScope st_made_of) := ⟨rfl, rfl, rfl, by decide +kernel, rfl, by decide +kernel, by decide +kernel⟩
abbrev st_Yard_init : Stmt := inClass (topS 29) 0
abbrev N_Yard_init : List Str := ["self", "width", "height", "things", "days", "name", "times", "turns"]
abbrev P_Yard_init : List Str := ["self", "width", "height", "things", "days"]
theorem sc_Yard_init : FnScope N_Yard_init P_Yard_init (defScope st_Yard_init) := ⟨rfl, rfl, rfl, by decide +kernel, rfl, by decide +kernel, by decide +kernel⟩
abbrev st_show_turn : Stmt := topS 42
abbrev N_show_turn : List Str := ["turn", "number"]
abbrev P_show_turn : List Str := ["turn"]
theorem sc_show_turn : FnScope N_show_turn P_show_turn (defScope st_show_turn) := ⟨rfl, rfl, rfl, by decide +kernel, rfl, by decide +kernel, by decide +kernel⟩
abbrev st_law_part : Stmt := topS 45
abbrev N_law_part : List Str := ["_law_script", "_law_place", "_law_cell"]
abbrev P_law_part : List Str := ["_law_script", "_law_place"]
theorem sc_law_part : FnScope N_law_part P_law_part (defScope st_law_part) := ⟨rfl, rfl, rfl, by decide +kernel, rfl, by decide +kernel, by decide +kernel⟩
abbrev st_law_spread : Stmt := topS 46
abbrev N_law_spread : List Str := ["_law_number", "_law_many", "_law_found", "_law_rest", "_law_k", "_law_digits", "_law_turn", "_law_upper", "_law_lower"]
abbrev P_law_spread : List Str := ["_law_number", "_law_many"]
theorem sc_law_spread : FnScope N_law_spread P_law_spread (defScope st_law_spread) := ⟨rfl, rfl, rfl, by decide +kernel, rfl, by decide +kernel, by decide +kernel⟩
abbrev st_law_joined : Stmt := topS 49
abbrev N_law_joined : List Str := ["_law_words", "_law_word"]
abbrev P_law_joined : List Str := ["_law_words"]
theorem sc_law_joined : FnScope N_law_joined P_law_joined (defScope st_law_joined) := ⟨rfl, rfl, rfl, by decide +kernel, rfl, by decide +kernel, by decide +kernel⟩
abbrev st_law_far : Stmt := topS 51
abbrev N_law_far : List Str := ["_law_words", "_law_number", "_law_found", "_law_k"]
abbrev P_law_far : List Str := ["_law_words", "_law_number"]
theorem sc_law_far : FnScope N_law_far P_law_far (defScope st_law_far) := ⟨rfl, rfl, rfl, by decide +kernel, rfl, by decide +kernel, by decide +kernel⟩
abbrev st_law_names : Stmt := topS 53
abbrev N_law_names : List Str := ["_law_number", "_law_many", "_law_letters", "_law_some", "_law_one", "_law_other", "_law_cut", "_law_k"]
abbrev P_law_names : List Str := ["_law_number", "_law_many"]
theorem sc_law_names : FnScope N_law_names P_law_names (defScope st_law_names) := ⟨rfl, rfl, rfl, by decide +kernel, rfl, by decide +kernel, by decide +kernel⟩
abbrev st_Thing_shown : Stmt := inClass (topS 9) 3
abbrev N_Thing_shown : List Str := ["self", "number"]
abbrev P_Thing_shown : List Str := ["self"]
theorem sc_Thing_shown : FnScope N_Thing_shown P_Thing_shown (defScope st_Thing_shown) := ⟨rfl, rfl, rfl, by decide +kernel, rfl, by decide +kernel, by decide +kernel⟩
abbrev st_is_number : Stmt := topS 26
abbrev N_is_number : List Str := ["word", "figures"]
abbrev P_is_number : List Str := ["word"]
theorem sc_is_number : FnScope N_is_number P_is_number (defScope st_is_number) := ⟨rfl, rfl, rfl, by decide +kernel, rfl, by decide +kernel, by decide +kernel⟩
abbrev st_is_name : Stmt := topS 27
abbrev N_is_name : List Str := ["word"]
abbrev P_is_name : List Str := ["word"]
theorem sc_is_name : FnScope N_is_name P_is_name (defScope st_is_name) := ⟨rfl, rfl, rfl, by decide +kernel, rfl, by decide +kernel, by decide +kernel⟩
abbrev st_law_thing_by : Stmt := topS 47
abbrev N_law_thing_by : List Str := ["_law_number", "_law_width", "_law_height", "_law_xs", "_law_x", "_law_y", "_law_u", "_law_v", "_law_h", "_law_end", "_law_high"]
abbrev P_law_thing_by : List Str := ["_law_number", "_law_width", "_law_height"]
theorem sc_law_thing_by : FnScope N_law_thing_by P_law_thing_by (defScope st_law_thing_by) := ⟨rfl, rfl, rfl, by decide +kernel, rfl, by decide +kernel, by decide +kernel⟩
abbrev st_law_ray_by : Stmt := topS 48
abbrev N_law_ray_by : List Str := ["_law_number", "_law_xs"]
abbrev P_law_ray_by : List Str := ["_law_number"]
theorem sc_law_ray_by : FnScope N_law_ray_by P_law_ray_by (defScope st_law_ray_by) := ⟨rfl, rfl, rfl, by decide +kernel, rfl, by decide +kernel, by decide +kernel⟩
abbrev st_law_yard_text : Stmt := topS 50
abbrev N_law_yard_text : List Str := ["_law_width", "_law_height", "_law_things_here", "_law_days_here", "_law_rows", "_law_name", "_law_often", "_law_turns", "_law_turn", "_law_thing"]
abbrev P_law_yard_text : List Str := ["_law_width", "_law_height", "_law_things_here", "_law_days_here"]
theorem sc_law_yard_text : FnScope N_law_yard_text P_law_yard_text (defScope st_law_yard_text) := ⟨rfl, rfl, rfl, by decide +kernel, rfl, by decide +kernel, by decide +kernel⟩
abbrev st_cloth_of : Stmt := topS 19
abbrev N_cloth_of : List Str := ["numbers", "k"]
abbrev P_cloth_of : List Str := ["numbers"]
theorem sc_cloth_of : FnScope N_cloth_of P_cloth_of (defScope st_cloth_of) := ⟨rfl, rfl, rfl, by decide +kernel, rfl, by decide +kernel, by decide +kernel⟩
abbrev st_stretched : Stmt := topS 20
abbrev N_stretched : List Str := ["word", "numbers", "x", "y", "u", "v", "h"]
abbrev P_stretched : List Str := ["word", "numbers"]
theorem sc_stretched : FnScope N_stretched P_stretched (defScope st_stretched) := ⟨rfl, rfl, rfl, by decide +kernel, rfl, by decide +kernel, by decide +kernel⟩
abbrev st_numbers_of : Stmt := topS 36
abbrev N_numbers_of : List Str := ["words", "at", "word"]
abbrev P_numbers_of : List Str := ["words", "at"]
theorem sc_numbers_of : FnScope N_numbers_of P_numbers_of (defScope st_numbers_of) := ⟨rfl, rfl, rfl, by decide +kernel, rfl, by decide +kernel, by decide +kernel⟩
abbrev st_show_yard : Stmt := topS 43
abbrev N_show_yard : List Str := ["yard", "rows", "name", "times", "turns", "thing", "turn"]
abbrev P_show_yard : List Str := ["yard"]
theorem sc_show_yard : FnScope N_show_yard P_show_yard (defScope st_show_yard) := ⟨rfl, rfl, rfl, by decide +kernel, rfl, by decide +kernel, by decide +kernel⟩
abbrev st_law_things : Stmt := topS 52
abbrev N_law_things : List Str := ["_law_script", "_law_width", "_law_height", "_law_found", "_law_cell", "_law_number", "_law_words"]
abbrev P_law_things : List Str := ["_law_script", "_law_width", "_law_height"]
theorem sc_law_things : FnScope N_law_things P_law_things (defScope st_law_things) := ⟨rfl, rfl, rfl, by decide +kernel, rfl, by decide +kernel, by decide +kernel⟩
abbrev st_law_days : Stmt := topS 54
abbrev N_law_days : List Str := ["_law_script", "_law_number", "_law_many", "_law_names_here", "_law_days_here", "_law_k", "_law_xs", "_law_often", "_law_turns", "_law_j"]
abbrev P_law_days : List Str := ["_law_script"]
theorem sc_law_days : FnScope N_law_days P_law_days (defScope st_law_days) := ⟨rfl, rfl, rfl, by decide +kernel, rfl, by decide +kernel, by decide +kernel⟩
abbrev st_law_same : Stmt := topS 55
abbrev N_law_same : List Str := ["_law_yard", "_law_width", "_law_height", "_law_things_here", "_law_days_here", "_law_k", "_law_day", "_law_thing", "_law_words", "_law_turn"]
abbrev P_law_same : List Str := ["_law_yard", "_law_width", "_law_height", "_law_things_here", "_law_days_here"]
theorem sc_law_same : FnScope N_law_same P_law_same (defScope st_law_same) := ⟨rfl, rfl, rfl, by decide +kernel, rfl, by decide +kernel, by decide +kernel⟩
abbrev st_thing_of : Stmt := topS 21
abbrev N_thing_of : List Str := ["word", "numbers"]
abbrev P_thing_of : List Str := ["word", "numbers"]
theorem sc_thing_of : FnScope N_thing_of P_thing_of (defScope st_thing_of) := ⟨rfl, rfl, rfl, by decide +kernel, rfl, by decide +kernel, by decide +kernel⟩
abbrev st_size_of : Stmt := topS 37
abbrev N_size_of : List Str := ["row", "words", "width", "height"]
abbrev P_size_of : List Str := ["row"]
theorem sc_size_of : FnScope N_size_of P_size_of (defScope st_size_of) := ⟨rfl, rfl, rfl, by decide +kernel, rfl, by decide +kernel, by decide +kernel⟩
abbrev st_day_of : Stmt := topS 38
abbrev N_day_of : List Str := ["words", "days", "at", "times", "day"]
abbrev P_day_of : List Str := ["words", "days", "at"]
theorem sc_day_of : FnScope N_day_of P_day_of (defScope st_day_of) := ⟨rfl, rfl, rfl, by decide +kernel, rfl, by decide +kernel, by decide +kernel⟩
abbrev st_turn_of : Stmt := topS 39
abbrev N_turn_of : List Str := ["words", "days", "at", "ray"]
abbrev P_turn_of : List Str := ["words", "days", "at"]
theorem sc_turn_of : FnScope N_turn_of P_turn_of (defScope st_turn_of) := ⟨rfl, rfl, rfl, by decide +kernel, rfl, by decide +kernel, by decide +kernel⟩
abbrev st_thing_by : Stmt := topS 40
abbrev N_thing_by : List Str := ["words", "things", "days", "at", "numbers", "thing"]
abbrev P_thing_by : List Str := ["words", "things", "days", "at"]
theorem sc_thing_by : FnScope N_thing_by P_thing_by (defScope st_thing_by) := ⟨rfl, rfl, rfl, by decide +kernel, rfl, by decide +kernel, by decide +kernel⟩
abbrev st_read_yard : Stmt := topS 41
abbrev N_read_yard : List Str := ["text", "rows", "width", "height", "things", "days", "at", "words", "turn"]
abbrev P_read_yard : List Str := ["text"]
theorem sc_read_yard : FnScope N_read_yard P_read_yard (defScope st_read_yard) := ⟨rfl, rfl, rfl, by decide +kernel, rfl, by decide +kernel, by decide +kernel⟩
abbrev st_law : Stmt := topS 56
abbrev N_law : List Str := ["_law_script", "_law_width", "_law_height", "_law_things_here", "_law_days_here", "_law_text", "_law_yard", "_law_handed", "_law_later", "_law_made", "_law_name", "_law_often", "_law_turns", "_law_words"]
abbrev P_law : List Str := ["_law_script"]
theorem sc_law : FnScope N_law P_law (defScope st_law) := ⟨rfl, rfl, rfl, by decide +kernel, rfl, by decide +kernel, by decide +kernel⟩
structure Gs where
  u : Unit := ()
  c_Post : Addr
  c_Fence : Addr
  c_Sail : Addr
  c_Cloth : Addr
  c_House : Addr
  c_Yard : Addr
  c_YardError : Addr
  c_BadThing : Addr
  c_BadRow : Addr
  ne_BadThing_BadRow : c_BadThing ≠ c_BadRow
  ne_BadRow_BadThing : c_BadRow ≠ c_BadThing
  ne_Post_Fence : c_Post ≠ c_Fence
  ne_Post_Sail : c_Post ≠ c_Sail
  ne_Post_Cloth : c_Post ≠ c_Cloth
  ne_Post_House : c_Post ≠ c_House
  ne_Post_Yard : c_Post ≠ c_Yard
  ne_Fence_Post : c_Fence ≠ c_Post
  ne_Fence_Sail : c_Fence ≠ c_Sail
  ne_Fence_Cloth : c_Fence ≠ c_Cloth
  ne_Fence_House : c_Fence ≠ c_House
  ne_Fence_Yard : c_Fence ≠ c_Yard
  ne_Sail_Post : c_Sail ≠ c_Post
  ne_Sail_Fence : c_Sail ≠ c_Fence
  ne_Sail_Cloth : c_Sail ≠ c_Cloth
  ne_Sail_House : c_Sail ≠ c_House
  ne_Sail_Yard : c_Sail ≠ c_Yard
  ne_Cloth_Post : c_Cloth ≠ c_Post
  ne_Cloth_Fence : c_Cloth ≠ c_Fence
  ne_Cloth_Sail : c_Cloth ≠ c_Sail
  ne_Cloth_House : c_Cloth ≠ c_House
  ne_Cloth_Yard : c_Cloth ≠ c_Yard
  ne_House_Post : c_House ≠ c_Post
  ne_House_Fence : c_House ≠ c_Fence
  ne_House_Sail : c_House ≠ c_Sail
  ne_House_Cloth : c_House ≠ c_Cloth
  ne_House_Yard : c_House ≠ c_Yard
  ne_Yard_Post : c_Yard ≠ c_Post
  ne_Yard_Fence : c_Yard ≠ c_Fence
  ne_Yard_Sail : c_Yard ≠ c_Sail
  ne_Yard_Cloth : c_Yard ≠ c_Cloth
  ne_Yard_House : c_Yard ≠ c_House
noncomputable def s_is_ray (G : Gs) : DEnv → Fl := (sSeq (sAsg (sVar 0) (kSeq 3 (kCons (kName 1) (kCons (kName 2) (kCons (kName 3) kNil))))) (sRet (sAndV (sOp leD (sCB (g1 absD) (sCons (sVar 1) sNil)) (sC (.int 1000000))) (sAndV (sOp leD (sCB (g1 absD) (sCons (sVar 2) sNil)) (sC (.int 1000000))) (sChain (gI (fun i j => decide (i ≤ j))) (gI (fun i j => decide (i ≤ j))) (sC (.int 1)) (sVar 3) (sC (.int 1000000)))))))
noncomputable def φ_is_ray (G : Gs) (ds : List D) : CR := (s_is_ray G (env0 4 ds)).cr
noncomputable def l_Thing_init (G : Gs) : List (Str × (DEnv → R Val)) := [("numbers", (sCB (g1 tupleD) (sCons (sVar 1) sNil)))]
noncomputable def φ_Thing_init (G : Gs) (ds : List D) : Option (List Str × List D) := runInit (l_Thing_init G) (none :: env0 1 ds) [] []
noncomputable def s_Post_word (G : Gs) : DEnv → Fl := (sRet (sC (.str "post")))
noncomputable def φ_Post_word (G : Gs) (ds : List D) : CR := (s_Post_word G (env0 1 ds)).cr
noncomputable def s_Fence_word (G : Gs) : DEnv → Fl := (sRet (sC (.str "fence")))
noncomputable def φ_Fence_word (G : Gs) (ds : List D) : CR := (s_Fence_word G (env0 1 ds)).cr
noncomputable def s_Sail_word (G : Gs) : DEnv → Fl := (sRet (sC (.str "sail")))
noncomputable def φ_Sail_word (G : Gs) (ds : List D) : CR := (s_Sail_word G (env0 1 ds)).cr
noncomputable def s_Cloth_word (G : Gs) : DEnv → Fl := (sRet (sC (.str "cloth")))
noncomputable def φ_Cloth_word (G : Gs) (ds : List D) : CR := (s_Cloth_word G (env0 1 ds)).cr
noncomputable def s_House_word (G : Gs) : DEnv → Fl := (sRet (sC (.str "house")))
noncomputable def φ_House_word (G : Gs) (ds : List D) : CR := (s_House_word G (env0 1 ds)).cr
noncomputable def e_are_places_1 (G : Gs) : DEnv → R Val := (sChain (gI (fun i j => decide (i ≤ j))) (gI (fun i j => decide (i ≤ j))) (sOp subD (sC (.int 0)) (sC (.int 1000000000))) (sVar 1) (sC (.int 1000000000)))
noncomputable def s_are_places (G : Gs) : DEnv → Fl := (sRet (sFz (sCB (g1 allD) (sCons (sComp (sItems (sVar 0)) (kName 1) sYes (e_are_places_1 G) [1]) sNil))))
noncomputable def φ_are_places (G : Gs) (ds : List D) : CR := (s_are_places G (env0 2 ds)).cr
noncomputable def s_is_height (G : Gs) : DEnv → Fl := (sRet (sChain (gI (fun i j => decide (i ≤ j))) (gI (fun i j => decide (i ≤ j))) (sVar 1) (sVar 0) (sC (.int 1000000000))))
noncomputable def φ_is_height (G : Gs) (ds : List D) : CR := (s_is_height G (env0 2 ds)).cr
noncomputable def b_made_of_1 (G : Gs) : DEnv → Fl := (sIf (sTst (sOp (inD true) (sVar 2) (sVar 1))) (sRet (sC (.bl false))) sSkip)
noncomputable def s_made_of (G : Gs) : DEnv → Fl := (sSeq (sFor (sSigns (sVar 0)) (kName 2) (b_made_of_1 G) [2]) (sRet (sC (.bl true))))
noncomputable def φ_made_of (G : Gs) (ds : List D) : CR := (s_made_of G (env0 3 ds)).cr
noncomputable def e_Yard_init_1 (G : Gs) : DEnv → R Val := (sTup (sCons (sVar 5) (sCons (sVar 6) (sCons (sCB (g1 listD) (sCons (sVar 7) sNil)) sNil))))
noncomputable def l_Yard_init (G : Gs) : List (Str × (DEnv → R Val)) := [("width", (sVar 1)), ("height", (sVar 2)), ("things", (sCB (g1 listD) (sCons (sVar 3) sNil))), ("days", (sComp (sItems (sVar 4)) (kSeq 3 (kCons (kName 5) (kCons (kName 6) (kCons (kName 7) kNil)))) sYes (e_Yard_init_1 G) [5, 6, 7]))]
noncomputable def φ_Yard_init (G : Gs) (ds : List D) : Option (List Str × List D) := runInit (l_Yard_init G) (none :: env0 7 ds) [] []
noncomputable def e_show_turn_1 (G : Gs) : DEnv → R Val := (sCB (orC (g1 strD) (g1 strTD)) (sCons (sVar 1) sNil))
noncomputable def s_show_turn (G : Gs) : DEnv → Fl := (sSeq (sIf (sTst (sUn (isND false) (sVar 0))) (sRet (sC (.str "night"))) sSkip) (sRet (sFz (sJoin (sC (.str " ")) (sOp addD (sLst (sCons (sC (.str "ray")) sNil)) (sComp (sItems (sVar 0)) (kName 1) sYes (e_show_turn_1 G) [1]))))))
noncomputable def φ_show_turn (G : Gs) (ds : List D) : CR := (s_show_turn G (env0 2 ds)).cr
noncomputable def b_law_part_1 (G : Gs) : DEnv → Fl := (sRet (sFz (sCB (g1 absD) (sCons (sVar 2) sNil))))
noncomputable def s_law_part (G : Gs) : DEnv → Fl := (sSeq (sFor (sItems (sSl (sVar 0) (some (sVar 1)) (some (sOp addD (sVar 1) (sC (.int 1)))))) (kName 2) (b_law_part_1 G) [2]) (sRet (sC (.int 0))))
noncomputable def φ_law_part (G : Gs) (ds : List D) : CR := (s_law_part G (env0 3 ds)).cr
noncomputable def b_law_spread_1 (G : Gs) : DEnv → Fl := (sSeq (sAsg (sCB (g2 divmodD) (sCons (sVar 3) (sCons (sOp powD (sC (.int 10)) (sC (.int 9))) sNil))) (kSeq 2 (kCons (kName 3) (kCons (kName 5) kNil)))) (sApp 2 (sVar 5)))
noncomputable def b_law_spread_2 (G : Gs) : DEnv → Fl := (sSeq (sAsg (sCB (g2 divmodD) (sCons (sVar 3) (sCons (sC (.int 4099)) sNil))) (kSeq 2 (kCons (kName 7) (kCons (kName 8) kNil)))) (sSet 3 (sFz (sOp modD (sOp addD (sOp addD (sOp addD (sOp mulD (sVar 8) (sC (.int 240007))) (sOp mulD (sVar 7) (sC (.int 89)))) (sOp mulD (sC (.int 1201)) (sLenV 2))) (sC (.int 11))) (sC (.int 998244353))))))
noncomputable def w_law_spread_3 (G : Gs) : DEnv → R Bool := (sTst (sOp ltD (sLenV 2) (sVar 1)))
noncomputable def b_law_spread_4 (G : Gs) : DEnv → Fl := (sSeq (sFor (sRange rng1 (sCons (sC (.int 2)) sNil)) (kName 6) (b_law_spread_2 G) [7, 8, 6]) (sApp 2 (sOp fdivD (sVar 3) (sC (.int 5)))))
noncomputable def s_law_spread (G : Gs) : DEnv → Fl := (sSeq (sSet 2 (sLst sNil)) (sSeq (sSet 3 (sOp fdivD (sVar 0) (sC (.int 2)))) (sSeq (sFor (sRange rng1 (sCons (sOp mulD (sVar 1) (sOp subD (sC (.int 1)) (sOp modD (sVar 0) (sC (.int 2))))) sNil)) (kName 4) (b_law_spread_1 G) [5, 4]) (sSeq (sSet 3 (sFz (sOp addD (sOp modD (sVar 3) (sC (.int 998244341))) (sC (.int 5))))) (sSeq (sWhile (w_law_spread_3 G) (b_law_spread_4 G) [6, 7, 8]) (sRet (sVar 2)))))))
noncomputable def φ_law_spread (G : Gs) (ds : List D) : CR := (s_law_spread G (env0 9 ds)).cr
noncomputable def e_law_joined_1 (G : Gs) : DEnv → R Val := (sCB (orC (g1 strD) (g1 strTD)) (sCons (sVar 1) sNil))
noncomputable def s_law_joined (G : Gs) : DEnv → Fl := (sRet (sFz (sJoin (sC (.str " ")) (sComp (sItems (sVar 0)) (kName 1) sYes (e_law_joined_1 G) [1]))))
noncomputable def φ_law_joined (G : Gs) (ds : List D) : CR := (s_law_joined G (env0 2 ds)).cr
noncomputable def b_law_far_1 (G : Gs) : DEnv → Fl := (sSeq (sApp 2 (sIxV 0 (sVar 3))) (sIf (sAnd (sTst (sOp eqD (sOp modD (sVar 1) (sC (.int 7))) (sC (.int 3)))) (sAnd (sOr (sTst (sOp neD (sIxV 0 (sC (.int 0))) (sC (.str "cloth")))) (sTst (sOp neD (sOp modD (sVar 3) (sC (.int 3))) (sC (.int 0))))) (sOr (sTst (sOp ltD (sVar 3) (sC (.int 3)))) (sTst (sOp eqD (sIxV 0 (sC (.int 0))) (sC (.str "cloth"))))))) (sSetIx 2 (sVar 3) (sOp subD (sOp addD (sIxV 0 (sVar 3)) (sOp mulD (sOp modD (sOp fdivD (sVar 1) (sC (.int 7))) (sC (.int 1999))) (sOp powD (sC (.int 10)) (sC (.int 6))))) (sOp mulD (sC (.int 999)) (sOp powD (sC (.int 10)) (sC (.int 6)))))) sSkip))
noncomputable def s_law_far (G : Gs) : DEnv → Fl := (sSeq (sSet 2 (sLst (sCons (sIxV 0 (sC (.int 0))) sNil))) (sSeq (sFor (sRange rng2 (sCons (sC (.int 1)) (sCons (sLenV 0) sNil))) (kName 3) (b_law_far_1 G) [3]) (sRet (sVar 2))))
noncomputable def φ_law_far (G : Gs) (ds : List D) : CR := (s_law_far G (env0 4 ds)).cr
noncomputable def e_law_names_1 (G : Gs) : DEnv → R Val := (sOp addD (sOp repS (sVar 4) (sOp addD (sC (.int 1)) (sOp modD (sVar 7) (sC (.int 8))))) (sOp repS (sVar 5) (sOp fdivD (sVar 7) (sC (.int 8)))))
noncomputable def e_law_names_2 (G : Gs) : DEnv → R Val := (sOp addD (sOp addD (sSl (sC (.str "night")) none (some (sVar 6))) (sIxV 2 (sOp modD (sOp addD (sOp fdivD (sVar 0) (sC (.int 14))) (sVar 7)) (sC (.int 26))))) (sSl (sC (.str "ray")) none (some (sOp modD (sVar 6) (sC (.int 3))))))
noncomputable def s_law_names (G : Gs) : DEnv → Fl := (sSeq (sSet 2 (sC (.str "qwertyuiopasdfghjklzxcvbnm"))) (sSeq (sIf (sTst (sOp eqD (sOp modD (sVar 0) (sC (.int 3))) (sC (.int 2)))) (sSeq (sSet 3 (sFz (sLst (sCons (sC (.str "night")) (sCons (sC (.str "ray")) (sCons (sC (.str "day")) (sCons (sC (.str "yard")) (sCons (sC (.str "post")) (sCons (sC (.str "fence")) (sCons (sC (.str "sail")) (sCons (sC (.str "cloth")) (sCons (sC (.str "house")) (sCons (sC (.str "none")) (sCons (sC (.str "off")) (sCons (sC (.str "marks")) sNil))))))))))))))) (sRet (sFz (sSl (sOp addD (sSl (sVar 3) (some (sOp modD (sOp fdivD (sVar 0) (sC (.int 3))) (sC (.int 12)))) none) (sSl (sVar 3) none (some (sOp modD (sOp fdivD (sVar 0) (sC (.int 3))) (sC (.int 12)))))) none (some (sVar 1)))))) sSkip) (sSeq (sIf (sTst (sOp eqD (sOp modD (sVar 0) (sC (.int 2))) (sC (.int 0)))) (sSeq (sSet 4 (sFz (sIxV 2 (sOp modD (sOp fdivD (sVar 0) (sC (.int 2))) (sC (.int 26)))))) (sSeq (sSet 5 (sFz (sIxV 2 (sOp modD (sOp addD (sOp fdivD (sVar 0) (sC (.int 2))) (sC (.int 1))) (sC (.int 26)))))) (sRet (sFz (sComp (sRange rng1 (sCons (sVar 1) sNil)) (kName 7) sYes (e_law_names_1 G) [7]))))) sSkip) (sSeq (sSet 6 (sFz (sOp modD (sOp fdivD (sVar 0) (sC (.int 2))) (sC (.int 7))))) (sRet (sFz (sComp (sRange rng1 (sCons (sVar 1) sNil)) (kName 7) sYes (e_law_names_2 G) [7])))))))
noncomputable def φ_law_names (G : Gs) (ds : List D) : CR := (s_law_names G (env0 8 ds)).cr
noncomputable abbrev tab_word (G : Gs) : List (Addr × (List D → CR)) := [(G.c_Post, φ_Post_word G), (G.c_Fence, φ_Fence_word G), (G.c_Sail, φ_Sail_word G), (G.c_Cloth, φ_Cloth_word G), (G.c_House, φ_House_word G)]
noncomputable def e_Thing_shown_1 (G : Gs) : DEnv → R Val := (sCB (orC (g1 strD) (g1 strTD)) (sCons (sVar 1) sNil))
noncomputable def s_Thing_shown (G : Gs) : DEnv → Fl := (sRet (sFz (sJoin (sC (.str " ")) (sOp addD (sLst (sCons (sMeth (tab_word G) "word" 1 (sVar 0) sNil) sNil)) (sComp (sItems (sUn (fldD [G.c_Post, G.c_Fence, G.c_Sail, G.c_Cloth, G.c_House] "numbers") (sVar 0))) (kName 1) sYes (e_Thing_shown_1 G) [1])))))
noncomputable def φ_Thing_shown (G : Gs) (ds : List D) : CR := (s_Thing_shown G (env0 2 ds)).cr
noncomputable def s_is_number (G : Gs) : DEnv → Fl := (sSeq (sIf (sTst (sOp eqD (sVar 0) (sC (.str "0")))) (sRet (sC (.bl true))) sSkip) (sSeq (sSet 1 (sVar 0)) (sSeq (sIf (sTst (sOp eqD (sSl (sVar 0) none (some (sC (.int 1)))) (sC (.str "-")))) (sSet 1 (sFz (sSl (sVar 0) (some (sC (.int 1))) none))) sSkip) (sRet (sAndV (sChain (gI (fun i j => decide (i ≤ j))) (gI (fun i j => decide (i ≤ j))) (sC (.int 1)) (sLenV 1) (sC (.int 10))) (sAndV (sOp neD (sIxV 1 (sC (.int 0))) (sC (.str "0"))) (sCall (φ_made_of G) 2 (sCons (sVar 1) (sCons (sC (.str "0123456789")) sNil)))))))))
noncomputable def φ_is_number (G : Gs) (ds : List D) : CR := (s_is_number G (env0 2 ds)).cr
noncomputable def s_is_name (G : Gs) : DEnv → Fl := (sRet (sAndV (sChain (gI (fun i j => decide (i ≤ j))) (gI (fun i j => decide (i ≤ j))) (sC (.int 1)) (sLenV 0) (sC (.int 8))) (sCall (φ_made_of G) 2 (sCons (sVar 0) (sCons (sC (.str "abcdefghijklmnopqrstuvwxyz")) sNil)))))
noncomputable def φ_is_name (G : Gs) (ds : List D) : CR := (s_is_name G (env0 1 ds)).cr
noncomputable def s_law_thing_by (G : Gs) : DEnv → Fl := (sSeq (sSet 3 (sFz (sCall (φ_law_spread G) 2 (sCons (sVar 0) (sCons (sC (.int 11)) sNil))))) (sSeq (sSet 4 (sOp subD (sOp modD (sIxV 3 (sC (.int 1))) (sOp addD (sOp mulD (sC (.int 2)) (sVar 1)) (sC (.int 7)))) (sC (.int 4)))) (sSeq (sSet 5 (sOp subD (sOp modD (sIxV 3 (sC (.int 2))) (sOp addD (sOp mulD (sC (.int 2)) (sVar 2)) (sC (.int 7)))) (sC (.int 4)))) (sSeq (sSet 6 (sFz (sOp addD (sOp addD (sVar 4) (sC (.int 1))) (sOp modD (sIxV 3 (sC (.int 3))) (sC (.int 5)))))) (sSeq (sSet 7 (sFz (sOp addD (sOp addD (sVar 5) (sC (.int 1))) (sOp modD (sIxV 3 (sC (.int 4))) (sC (.int 5)))))) (sSeq (sSet 8 (sFz (sOp addD (sC (.int 1)) (sOp modD (sIxV 3 (sC (.int 5))) (sC (.int 8)))))) (sSeq (sIf (sTst (sOp eqD (sOp modD (sIxV 3 (sC (.int 6))) (sC (.int 8))) (sC (.int 5)))) (sSet 8 (sOp subD (sOp powD (sC (.int 10)) (sC (.int 9))) (sOp modD (sIxV 3 (sC (.int 5))) (sC (.int 1000))))) sSkip) (sSeq (sIf (sTst (sOp eqD (sOp modD (sIxV 3 (sC (.int 0))) (sC (.int 5))) (sC (.int 0)))) (sRet (sFz (sLst (sCons (sC (.str "post")) (sCons (sOp subD (sOp modD (sIxV 3 (sC (.int 1))) (sOp addD (sVar 1) (sC (.int 2)))) (sC (.int 1))) (sCons (sOp subD (sOp modD (sIxV 3 (sC (.int 2))) (sOp addD (sVar 2) (sC (.int 2)))) (sC (.int 1))) (sCons (sVar 8) sNil))))))) sSkip) (sSeq (sIf (sTst (sOp eqD (sOp modD (sIxV 3 (sC (.int 0))) (sC (.int 5))) (sC (.int 1)))) (sSeq (sSet 9 (sFz (sOp ixD (sLst (sCons (sTup (sCons (sVar 6) (sCons (sVar 5) sNil))) (sCons (sTup (sCons (sVar 6) (sCons (sVar 7) sNil))) (sCons (sTup (sCons (sVar 4) (sCons (sVar 7) sNil))) (sCons (sTup (sCons (sOp subD (sVar 4) (sC (.int 2))) (sCons (sVar 7) sNil))) sNil))))) (sOp modD (sIxV 3 (sC (.int 7))) (sC (.int 4)))))) (sRet (sFz (sLst (sCons (sC (.str "fence")) (sCons (sVar 4) (sCons (sVar 5) (sCons (sIxV 9 (sC (.int 0))) (sCons (sIxV 9 (sC (.int 1))) (sCons (sVar 8) sNil)))))))))) sSkip) (sSeq (sIf (sTst (sOp eqD (sOp modD (sIxV 3 (sC (.int 0))) (sC (.int 5))) (sC (.int 2)))) (sRet (sFz (sLst (sCons (sC (.str "sail")) (sCons (sVar 4) (sCons (sVar 5) (sCons (sVar 6) (sCons (sVar 7) (sCons (sVar 8) sNil))))))))) sSkip) (sSeq (sIf (sTst (sOp eqD (sOp modD (sIxV 3 (sC (.int 0))) (sC (.int 5))) (sC (.int 3)))) (sRet (sFz (sLst (sCons (sC (.str "house")) (sCons (sVar 4) (sCons (sVar 5) (sCons (sVar 6) (sCons (sVar 7) (sCons (sVar 8) sNil))))))))) sSkip) (sSeq (sSet 10 (sFz (sOp mulD (sOp modD (sIxV 3 (sC (.int 10))) (sC (.int 7))) (sOp modD (sIxV 3 (sC (.int 6))) (sC (.int 2)))))) (sRet (sFz (sLst (sCons (sC (.str "cloth")) (sCons (sVar 4) (sCons (sVar 5) (sCons (sOp modD (sIxV 3 (sC (.int 5))) (sC (.int 7))) (sCons (sVar 6) (sCons (sOp addD (sOp subD (sVar 5) (sC (.int 2))) (sOp modD (sIxV 3 (sC (.int 7))) (sC (.int 5)))) (sCons (sOp modD (sIxV 3 (sC (.int 8))) (sC (.int 7))) (sCons (sOp addD (sOp subD (sVar 4) (sC (.int 3))) (sOp modD (sIxV 3 (sC (.int 9))) (sC (.int 7)))) (sCons (sVar 7) (sCons (sVar 10) sNil)))))))))))))))))))))))))
noncomputable def φ_law_thing_by (G : Gs) (ds : List D) : CR := (s_law_thing_by G (env0 11 ds)).cr
noncomputable def s_law_ray_by (G : Gs) : DEnv → Fl := (sSeq (sSet 1 (sFz (sCall (φ_law_spread G) 2 (sCons (sVar 0) (sCons (sC (.int 4)) sNil))))) (sSeq (sIf (sTst (sOp eqD (sOp modD (sIxV 1 (sC (.int 3))) (sC (.int 6))) (sC (.int 4)))) (sRet (sC .non)) sSkip) (sSeq (sIf (sTst (sOp eqD (sOp modD (sIxV 1 (sC (.int 3))) (sC (.int 6))) (sC (.int 5)))) (sRet (sFz (sTup (sCons (sOp subD (sOp modD (sIxV 1 (sC (.int 0))) (sC (.int 2000001))) (sC (.int 1000000))) (sCons (sOp subD (sOp modD (sIxV 1 (sC (.int 1))) (sC (.int 2000001))) (sC (.int 1000000))) (sCons (sOp addD (sC (.int 1)) (sOp modD (sIxV 1 (sC (.int 2))) (sC (.int 1000000)))) sNil)))))) sSkip) (sRet (sFz (sTup (sCons (sOp subD (sOp modD (sIxV 1 (sC (.int 0))) (sC (.int 7))) (sC (.int 3))) (sCons (sOp subD (sOp modD (sIxV 1 (sC (.int 1))) (sC (.int 7))) (sC (.int 3))) (sCons (sOp addD (sC (.int 1)) (sOp modD (sIxV 1 (sC (.int 2))) (sC (.int 3)))) sNil)))))))))
noncomputable def φ_law_ray_by (G : Gs) (ds : List D) : CR := (s_law_ray_by G (env0 2 ds)).cr
noncomputable def e_law_yard_text_1 (G : Gs) : DEnv → R Val := (sCall (φ_law_joined G) 1 (sCons (sVar 9) sNil))
noncomputable def b_law_yard_text_2 (G : Gs) : DEnv → Fl := (sIf (sTst (sUn (isND false) (sVar 8))) (sApp 4 (sC (.str "night"))) (sApp 4 (sCall (φ_law_joined G) 1 (sCons (sOp addD (sLst (sCons (sC (.str "ray")) sNil)) (sCB (g1 listD) (sCons (sVar 8) sNil))) sNil))))
noncomputable def b_law_yard_text_3 (G : Gs) : DEnv → Fl := (sSeq (sApp 4 (sCall (φ_law_joined G) 1 (sCons (sLst (sCons (sC (.str "day")) (sCons (sVar 5) (sCons (sVar 6) sNil)))) sNil))) (sFor (sItems (sVar 7)) (kName 8) (b_law_yard_text_2 G) [8]))
noncomputable def s_law_yard_text (G : Gs) : DEnv → Fl := (sSeq (sSet 4 (sOp addD (sLst (sCons (sCall (φ_law_joined G) 1 (sCons (sLst (sCons (sC (.str "yard")) (sCons (sVar 0) (sCons (sVar 1) sNil)))) sNil)) sNil)) (sComp (sItems (sVar 2)) (kName 9) sYes (e_law_yard_text_1 G) [9]))) (sSeq (sFor (sItems (sVar 3)) (kSeq 3 (kCons (kName 5) (kCons (kName 6) (kCons (kName 7) kNil)))) (b_law_yard_text_3 G) [8, 5, 6, 7]) (sRet (sFz (sJoin (sC (.str "\n")) (sVar 4))))))
noncomputable def φ_law_yard_text (G : Gs) (ds : List D) : CR := (s_law_yard_text G (env0 10 ds)).cr
noncomputable abbrev tab_shown (G : Gs) : List (Addr × (List D → CR)) := [(G.c_Post, φ_Thing_shown G), (G.c_Fence, φ_Thing_shown G), (G.c_Sail, φ_Thing_shown G), (G.c_Cloth, φ_Thing_shown G), (G.c_House, φ_Thing_shown G)]
noncomputable def b_cloth_of_1 (G : Gs) : DEnv → Fl := (sIf (sOr (sNot (sTst (sCall (φ_are_places G) 1 (sCons (sSl (sVar 0) (some (sVar 1)) (some (sOp addD (sVar 1) (sC (.int 2))))) sNil)))) (sNot (sTst (sCall (φ_is_height G) 2 (sCons (sIxV 0 (sOp addD (sVar 1) (sC (.int 2)))) (sCons (sC (.int 0)) sNil)))))) (sRaise0 G.c_BadThing) sSkip)
noncomputable def s_cloth_of (G : Gs) : DEnv → Fl := (sSeq (sFor (sItems (sTup (sCons (sC (.int 0)) (sCons (sC (.int 3)) (sCons (sC (.int 6)) sNil))))) (kName 1) (b_cloth_of_1 G) [1]) (sRet (sFz (sMake G.c_Cloth (φ_Thing_init G) 1 (sCons (sVar 0) sNil)))))
noncomputable def φ_cloth_of (G : Gs) (ds : List D) : CR := (s_cloth_of G (env0 2 ds)).cr
noncomputable def s_stretched (G : Gs) : DEnv → Fl := (sSeq (sAsg (sVar 1) (kSeq 5 (kCons (kName 2) (kCons (kName 3) (kCons (kName 4) (kCons (kName 5) (kCons (kName 6) kNil))))))) (sSeq (sIf (sOr (sNot (sTst (sCall (φ_are_places G) 1 (sCons (sSl (sVar 1) none (some (sC (.int 4)))) sNil)))) (sNot (sTst (sCall (φ_is_height G) 2 (sCons (sVar 6) (sCons (sC (.int 1)) sNil)))))) (sRaise0 G.c_BadThing) sSkip) (sSeq (sIf (sAnd (sTst (sOp eqD (sVar 0) (sC (.str "fence")))) (sTst (sOp neD (sTup (sCons (sVar 2) (sCons (sVar 3) sNil))) (sTup (sCons (sVar 4) (sCons (sVar 5) sNil)))))) (sRet (sFz (sMake G.c_Fence (φ_Thing_init G) 1 (sCons (sVar 1) sNil)))) sSkip) (sSeq (sIf (sAnd (sTst (sOp eqD (sVar 0) (sC (.str "sail")))) (sAnd (sTst (sOp ltD (sVar 2) (sVar 4))) (sTst (sOp ltD (sVar 3) (sVar 5))))) (sRet (sFz (sMake G.c_Sail (φ_Thing_init G) 1 (sCons (sVar 1) sNil)))) sSkip) (sSeq (sIf (sAnd (sTst (sOp eqD (sVar 0) (sC (.str "house")))) (sAnd (sTst (sOp ltD (sVar 2) (sVar 4))) (sTst (sOp ltD (sVar 3) (sVar 5))))) (sRet (sFz (sMake G.c_House (φ_Thing_init G) 1 (sCons (sVar 1) sNil)))) sSkip) (sRaise0 G.c_BadThing))))))
noncomputable def φ_stretched (G : Gs) (ds : List D) : CR := (s_stretched G (env0 7 ds)).cr
noncomputable def b_numbers_of_1 (G : Gs) : DEnv → Fl := (sIf (sNot (sTst (sCall (φ_is_number G) 1 (sCons (sVar 2) sNil)))) (sRaise G.c_BadRow ["row"] (sCons (sVar 1) sNil)) sSkip)
noncomputable def e_numbers_of_2 (G : Gs) : DEnv → R Val := (sCB (orC (g1 intD) (g1 intTD)) (sCons (sVar 2) sNil))
noncomputable def s_numbers_of (G : Gs) : DEnv → Fl := (sSeq (sFor (sItems (sVar 0)) (kName 2) (b_numbers_of_1 G) [2]) (sRet (sFz (sComp (sItems (sVar 0)) (kName 2) sYes (e_numbers_of_2 G) [2]))))
noncomputable def φ_numbers_of (G : Gs) (ds : List D) : CR := (s_numbers_of G (env0 3 ds)).cr
noncomputable def e_show_yard_1 (G : Gs) : DEnv → R Val := (sMeth (tab_shown G) "shown" 1 (sVar 5) sNil)
noncomputable def e_show_yard_2 (G : Gs) : DEnv → R Val := (sCall (φ_show_turn G) 1 (sCons (sVar 6) sNil))
noncomputable def b_show_yard_3 (G : Gs) : DEnv → Fl := (sSeq (sApp 1 (sOp addD (sOp addD (sOp addD (sC (.str "day ")) (sVar 2)) (sC (.str " "))) (sCB (orC (g1 strD) (g1 strTD)) (sCons (sVar 3) sNil)))) (sExt 1 (sComp (sItems (sVar 4)) (kName 6) sYes (e_show_yard_2 G) [6])))
noncomputable def s_show_yard (G : Gs) : DEnv → Fl := (sSeq (sSet 1 (sLst (sCons (sOp addD (sOp addD (sOp addD (sC (.str "yard ")) (sCB (orC (g1 strD) (g1 strTD)) (sCons (sUn (fldD [G.c_Yard] "width") (sVar 0)) sNil))) (sC (.str " "))) (sCB (orC (g1 strD) (g1 strTD)) (sCons (sUn (fldD [G.c_Yard] "height") (sVar 0)) sNil))) sNil))) (sSeq (sExt 1 (sComp (sItems (sUn (fldD [G.c_Yard] "things") (sVar 0))) (kName 5) sYes (e_show_yard_1 G) [5])) (sSeq (sFor (sItems (sUn (fldD [G.c_Yard] "days") (sVar 0))) (kSeq 3 (kCons (kName 2) (kCons (kName 3) (kCons (kName 4) kNil)))) (b_show_yard_3 G) [2, 3, 4]) (sRet (sFz (sJoin (sC (.str "\n")) (sVar 1)))))))
noncomputable def φ_show_yard (G : Gs) (ds : List D) : CR := (s_show_yard G (env0 7 ds)).cr
noncomputable def b_law_things_1 (G : Gs) : DEnv → Fl := (sSeq (sSet 5 (sFz (sCB (g1 absD) (sCons (sVar 4) sNil)))) (sSeq (sSet 6 (sFz (sCall (φ_law_thing_by G) 3 (sCons (sVar 5) (sCons (sVar 1) (sCons (sVar 2) sNil)))))) (sSeq (sIf (sOr (sTst (sOp eqD (sIxV 6 (sC (.int 0))) (sC (.str "post")))) (sTst (sOp eqD (sIxV 6 (sC (.int 0))) (sC (.str "cloth"))))) (sSet 6 (sFz (sCall (φ_law_far G) 2 (sCons (sVar 6) (sCons (sVar 5) sNil))))) sSkip) (sApp 3 (sVar 6)))))
noncomputable def s_law_things (G : Gs) : DEnv → Fl := (sSeq (sSet 3 (sLst sNil)) (sSeq (sFor (sItems (sSl (sVar 0) (some (sC (.int 3))) (some (sC (.int 43))))) (kName 4) (b_law_things_1 G) [5, 6, 4]) (sRet (sVar 3))))
noncomputable def φ_law_things (G : Gs) (ds : List D) : CR := (s_law_things G (env0 7 ds)).cr
noncomputable def e_law_days_1 (G : Gs) : DEnv → R Val := (sCall (φ_law_ray_by G) 1 (sCons (sOp addD (sOp addD (sIxV 6 (sC (.int 2))) (sOp mulD (sOp mulD (sC (.int 101)) (sVar 9)) (sVar 9))) (sVar 9)) sNil))
noncomputable def b_law_days_2 (G : Gs) : DEnv → Fl := (sSeq (sSet 6 (sFz (sCall (φ_law_spread G) 2 (sCons (sOp addD (sVar 1) (sOp mulD (sOp mulD (sC (.int 7919)) (sVar 5)) (sVar 5))) (sCons (sC (.int 3)) sNil))))) (sSeq (sSet 7 (sFz (sOp ixD (sLst (sCons (sC (.int 1)) (sCons (sC (.int 365)) (sCons (sOp powD (sC (.int 10)) (sC (.int 9))) (sCons (sOp addD (sC (.int 1)) (sOp modD (sIxV 6 (sC (.int 0))) (sOp powD (sC (.int 10)) (sC (.int 9))))) sNil))))) (sOp modD (sIxV 6 (sC (.int 1))) (sC (.int 4)))))) (sSeq (sSet 8 (sFz (sComp (sRange rng1 (sCons (sOp addD (sC (.int 1)) (sOp modD (sOp fdivD (sIxV 6 (sC (.int 0))) (sC (.int 9))) (sC (.int 24)))) sNil)) (kName 9) sYes (e_law_days_1 G) [9]))) (sApp 4 (sTup (sCons (sIxV 3 (sVar 5)) (sCons (sVar 7) (sCons (sVar 8) sNil))))))))
noncomputable def s_law_days (G : Gs) : DEnv → Fl := (sSeq (sSet 1 (sFz (sCall (φ_law_part G) 2 (sCons (sVar 0) (sCons (sC (.int 1)) sNil))))) (sSeq (sSet 2 (sFz (sOp modD (sCall (φ_law_part G) 2 (sCons (sVar 0) (sCons (sC (.int 2)) sNil))) (sC (.int 13))))) (sSeq (sSet 3 (sFz (sCall (φ_law_names G) 2 (sCons (sVar 1) (sCons (sVar 2) sNil))))) (sSeq (sSet 4 (sLst sNil)) (sSeq (sFor (sRange rng1 (sCons (sVar 2) sNil)) (kName 5) (b_law_days_2 G) [6, 7, 8, 5]) (sRet (sVar 4)))))))
noncomputable def φ_law_days (G : Gs) (ds : List D) : CR := (s_law_days G (env0 10 ds)).cr
noncomputable def e_law_same_1 (G : Gs) : DEnv → R Val := (sMeth (tab_shown G) "shown" 1 (sVar 7) sNil)
noncomputable def e_law_same_2 (G : Gs) : DEnv → R Val := (sCall (φ_law_joined G) 1 (sCons (sVar 8) sNil))
noncomputable def e_law_same_3 (G : Gs) : DEnv → R Val := (sOrV (sUn (isND false) (sVar 9)) (sUn (isiD .tuple) (sVar 9)))
noncomputable def b_law_same_4 (G : Gs) : DEnv → Fl := (sSeq (sSet 6 (sFz (sOp ixD (sUn (fldD [G.c_Yard] "days") (sVar 0)) (sVar 5)))) (sSeq (sIf (sOr (sNot (sTst (sUn (isiD .tuple) (sVar 6)))) (sOr (sNot (sTst (sUn (isiD .list) (sIxV 6 (sC (.int 2)))))) (sTst (sOp neD (sVar 6) (sIxV 4 (sVar 5)))))) (sRet (sC (.bl false))) sSkip) (sIf (sNot (sTst (sCB (g1 allD) (sCons (sComp (sItems (sIxV 6 (sC (.int 2)))) (kName 9) sYes (e_law_same_3 G) [9]) sNil)))) (sRet (sC (.bl false))) sSkip)))
noncomputable def s_law_same (G : Gs) : DEnv → Fl := (sSeq (sIf (sOr (sNot (sTst (sUn (isiD .int) (sUn (fldD [G.c_Yard] "width") (sVar 0))))) (sOr (sTst (sOp neD (sUn (fldD [G.c_Yard] "width") (sVar 0)) (sVar 1))) (sTst (sOp neD (sUn (fldD [G.c_Yard] "height") (sVar 0)) (sVar 2))))) (sRet (sC (.bl false))) sSkip) (sSeq (sIf (sNot (sTst (sUn (isiD .list) (sUn (fldD [G.c_Yard] "things") (sVar 0))))) (sRet (sC (.bl false))) sSkip) (sSeq (sIf (sTst (sOp neD (sComp (sItems (sUn (fldD [G.c_Yard] "things") (sVar 0))) (kName 7) sYes (e_law_same_1 G) [7]) (sComp (sItems (sVar 3)) (kName 8) sYes (e_law_same_2 G) [8]))) (sRet (sC (.bl false))) sSkip) (sSeq (sIf (sOr (sNot (sTst (sUn (isiD .list) (sUn (fldD [G.c_Yard] "days") (sVar 0))))) (sTst (sOp neD (sCB (g1 lenD) (sCons (sUn (fldD [G.c_Yard] "days") (sVar 0)) sNil)) (sLenV 4)))) (sRet (sC (.bl false))) sSkip) (sSeq (sFor (sRange rng1 (sCons (sLenV 4) sNil)) (kName 5) (b_law_same_4 G) [6, 5]) (sRet (sC (.bl true))))))))
noncomputable def φ_law_same (G : Gs) (ds : List D) : CR := (s_law_same G (env0 10 ds)).cr
noncomputable def s_thing_of (G : Gs) : DEnv → Fl := (sSeq (sIf (sAnd (sTst (sOp eqD (sVar 0) (sC (.str "post")))) (sTst (sOp eqD (sLenV 1) (sC (.int 3))))) (sIf (sAnd (sTst (sCall (φ_are_places G) 1 (sCons (sSl (sVar 1) none (some (sC (.int 2)))) sNil))) (sTst (sCall (φ_is_height G) 2 (sCons (sIxV 1 (sC (.int 2))) (sCons (sC (.int 1)) sNil))))) (sRet (sFz (sMake G.c_Post (φ_Thing_init G) 1 (sCons (sVar 1) sNil)))) sSkip) sSkip) (sSeq (sIf (sAnd (sTst (sOp eqD (sVar 0) (sC (.str "cloth")))) (sTst (sOp eqD (sLenV 1) (sC (.int 9))))) (sRet (sFz (sCall (φ_cloth_of G) 1 (sCons (sVar 1) sNil)))) sSkip) (sSeq (sIf (sAnd (sTst (sOp (inD false) (sVar 0) (sTup (sCons (sC (.str "fence")) (sCons (sC (.str "sail")) (sCons (sC (.str "house")) sNil)))))) (sTst (sOp eqD (sLenV 1) (sC (.int 5))))) (sRet (sFz (sCall (φ_stretched G) 2 (sCons (sVar 0) (sCons (sVar 1) sNil))))) sSkip) (sRaise0 G.c_BadThing))))
noncomputable def φ_thing_of (G : Gs) (ds : List D) : CR := (s_thing_of G (env0 2 ds)).cr
noncomputable def s_size_of (G : Gs) : DEnv → Fl := (sSeq (sSet 1 (sFz (sSplit (sVar 0) (sC (.str " "))))) (sSeq (sIf (sOr (sTst (sOp neD (sIxV 1 (sC (.int 0))) (sC (.str "yard")))) (sTst (sOp neD (sLenV 1) (sC (.int 3))))) (sRaise G.c_BadRow ["row"] (sCons (sC (.int 0)) sNil)) sSkip) (sSeq (sAsg (sCall (φ_numbers_of G) 2 (sCons (sSl (sVar 1) (some (sC (.int 1))) none) (sCons (sC (.int 0)) sNil))) (kSeq 2 (kCons (kName 2) (kCons (kName 3) kNil)))) (sSeq (sIf (sOr (sNot (sTst (sChain (gI (fun i j => decide (i ≤ j))) (gI (fun i j => decide (i ≤ j))) (sC (.int 1)) (sVar 2) (sC (.int 20))))) (sNot (sTst (sChain (gI (fun i j => decide (i ≤ j))) (gI (fun i j => decide (i ≤ j))) (sC (.int 1)) (sVar 3) (sC (.int 20)))))) (sRaise G.c_BadRow ["row"] (sCons (sC (.int 0)) sNil)) sSkip) (sRet (sFz (sTup (sCons (sVar 2) (sCons (sVar 3) sNil)))))))))
noncomputable def φ_size_of (G : Gs) (ds : List D) : CR := (s_size_of G (env0 4 ds)).cr
noncomputable def e_day_of_1 (G : Gs) : DEnv → R Val := (sIxV 4 (sC (.int 0)))
noncomputable def s_day_of (G : Gs) : DEnv → Fl := (sSeq (sIf (sOr (sTst (sOp eqD (sLenV 1) (sC (.int 12)))) (sOr (sTst (sOp neD (sLenV 0) (sC (.int 3)))) (sNot (sTst (sCall (φ_is_name G) 1 (sCons (sIxV 0 (sC (.int 1))) sNil)))))) (sRaise G.c_BadRow ["row"] (sCons (sVar 2) sNil)) sSkip) (sSeq (sIf (sAnd (sTst (sOp neD (sVar 1) (sLst sNil))) (sTst (sOp eqD (sOp ixD (sIxV 1 (sUn negD (sC (.int 1)))) (sC (.int 2))) (sLst sNil)))) (sRaise G.c_BadRow ["row"] (sCons (sVar 2) sNil)) sSkip) (sSeq (sSet 3 (sFz (sOp ixD (sCall (φ_numbers_of G) 2 (sCons (sSl (sVar 0) (some (sC (.int 2))) none) (sCons (sVar 2) sNil))) (sC (.int 0))))) (sSeq (sIf (sOr (sNot (sTst (sChain (gI (fun i j => decide (i ≤ j))) (gI (fun i j => decide (i ≤ j))) (sC (.int 1)) (sVar 3) (sC (.int 1000000000))))) (sTst (sOp (inD false) (sIxV 0 (sC (.int 1))) (sComp (sItems (sVar 1)) (kName 4) sYes (e_day_of_1 G) [4])))) (sRaise G.c_BadRow ["row"] (sCons (sVar 2) sNil)) sSkip) (sRet (sTup (sCons (sIxV 0 (sC (.int 1))) (sCons (sVar 3) (sCons (sLst sNil) sNil)))))))))
noncomputable def φ_day_of (G : Gs) (ds : List D) : CR := (s_day_of G (env0 5 ds)).cr
noncomputable def s_turn_of (G : Gs) : DEnv → Fl := (sSeq (sIf (sOr (sTst (sOp eqD (sVar 1) (sLst sNil))) (sTst (sOp eqD (sCB (g1 lenD) (sCons (sOp ixD (sIxV 1 (sUn negD (sC (.int 1)))) (sC (.int 2))) sNil)) (sC (.int 24))))) (sRaise G.c_BadRow ["row"] (sCons (sVar 2) sNil)) sSkip) (sSeq (sIf (sTst (sOp eqD (sVar 0) (sLst (sCons (sC (.str "night")) sNil)))) (sRet (sC .non)) sSkip) (sSeq (sIf (sOr (sTst (sOp neD (sIxV 0 (sC (.int 0))) (sC (.str "ray")))) (sTst (sOp neD (sLenV 0) (sC (.int 4))))) (sRaise G.c_BadRow ["row"] (sCons (sVar 2) sNil)) sSkip) (sSeq (sSet 3 (sFz (sCB (g1 tupleD) (sCons (sCall (φ_numbers_of G) 2 (sCons (sSl (sVar 0) (some (sC (.int 1))) none) (sCons (sVar 2) sNil))) sNil)))) (sSeq (sIf (sNot (sTst (sCall (φ_is_ray G) 1 (sCons (sVar 3) sNil)))) (sRaise G.c_BadRow ["row"] (sCons (sVar 2) sNil)) sSkip) (sRet (sVar 3)))))))
noncomputable def φ_turn_of (G : Gs) (ds : List D) : CR := (s_turn_of G (env0 4 ds)).cr
noncomputable def s_thing_by (G : Gs) : DEnv → Fl := (sSeq (sIf (sOr (sTst (sOp neD (sVar 2) (sLst sNil))) (sTst (sOp eqD (sLenV 1) (sC (.int 40))))) (sRaise G.c_BadRow ["row"] (sCons (sVar 3) sNil)) sSkip) (sSeq (sSet 4 (sFz (sCall (φ_numbers_of G) 2 (sCons (sSl (sVar 0) (some (sC (.int 1))) none) (sCons (sVar 3) sNil))))) (sSeq (sSet 5 (sC .non)) (sTryE [(G.c_BadThing, true), (G.c_BadRow, false)] (sSet 5 (sFz (sCall (φ_thing_of G) 2 (sCons (sIxV 0 (sC (.int 0))) (sCons (sVar 4) sNil))))) sBad (sRet (sVar 5))))))
noncomputable def φ_thing_by (G : Gs) (ds : List D) : CR := (s_thing_by G (env0 6 ds)).cr
noncomputable def b_read_yard_1 (G : Gs) : DEnv → Fl := (sSeq (sSet 7 (sFz (sSplit (sIxV 1 (sVar 6)) (sC (.str " "))))) (sIf (sTst (sOp eqD (sIxV 7 (sC (.int 0))) (sC (.str "day")))) (sApp 5 (sLk (sCall (φ_day_of G) 3 (sCons (sVar 7) (sCons (sVar 5) (sCons (sVar 6) sNil)))))) (sIf (sOr (sTst (sOp eqD (sIxV 7 (sC (.int 0))) (sC (.str "ray")))) (sTst (sOp eqD (sIxV 7 (sC (.int 0))) (sC (.str "night"))))) (sSeq (sSet 8 (sFz (sLk (sCall (φ_turn_of G) 3 (sCons (sVar 7) (sCons (sVar 5) (sCons (sVar 6) sNil))))))) (sAppP 5 [-1, 2] (yV 8))) (sApp 4 (sLk (sCall (φ_thing_by G) 4 (sCons (sVar 7) (sCons (sVar 4) (sCons (sVar 5) (sCons (sVar 6) sNil))))))))))
noncomputable def s_read_yard (G : Gs) : DEnv → Fl := (sSeq (sSet 1 (sFz (sSplit (sVar 0) (sC (.str "\n"))))) (sSeq (sAsg (sCall (φ_size_of G) 1 (sCons (sIxV 1 (sC (.int 0))) sNil)) (kSeq 2 (kCons (kName 2) (kCons (kName 3) kNil)))) (sSeq (sSet 4 (sLst sNil)) (sSeq (sSet 5 (sLst sNil)) (sSeq (sFor (sRange rng2 (sCons (sC (.int 1)) (sCons (sLenV 1) sNil))) (kName 6) (b_read_yard_1 G) [7, 8, 6]) (sSeq (sIf (sAnd (sLendT (sTst (sOp neD (sVar 5) (sLst sNil)))) (sLendT (sTst (sOp eqD (sOp ixD (sIxV 5 (sUn negD (sC (.int 1)))) (sC (.int 2))) (sLst sNil))))) (sRaise G.c_BadRow ["row"] (sCons (sLenV 1) sNil)) sSkip) (sRet (sFz (sMake G.c_Yard (φ_Yard_init G) 4 (sCons (sVar 2) (sCons (sVar 3) (sCons (sVar 4) (sCons (sVar 5) sNil)))))))))))))
noncomputable def φ_read_yard (G : Gs) (ds : List D) : CR := (s_read_yard G (env0 9 ds)).cr
noncomputable def e_law_1 (G : Gs) : DEnv → R Val := (sCall (φ_thing_of G) 2 (sCons (sIxV 13 (sC (.int 0))) (sCons (sCB (g1 listD) (sCons (sSl (sVar 13) (some (sC (.int 1))) none) sNil)) sNil)))
noncomputable def e_law_2 (G : Gs) : DEnv → R Val := (sTup (sCons (sVar 10) (sCons (sVar 11) (sCons (sCB (g1 listD) (sCons (sVar 12) sNil)) sNil))))
noncomputable def s_law (G : Gs) : DEnv → Fl := (sSeq (sSet 1 (sFz (sOp addD (sC (.int 1)) (sOp modD (sCall (φ_law_part G) 2 (sCons (sVar 0) (sCons (sC (.int 0)) sNil))) (sC (.int 20)))))) (sSeq (sSet 2 (sFz (sOp addD (sC (.int 1)) (sOp modD (sOp fdivD (sCall (φ_law_part G) 2 (sCons (sVar 0) (sCons (sC (.int 0)) sNil))) (sC (.int 20))) (sC (.int 20)))))) (sSeq (sSet 3 (sFz (sCall (φ_law_things G) 3 (sCons (sVar 0) (sCons (sVar 1) (sCons (sVar 2) sNil)))))) (sSeq (sSet 4 (sFz (sCall (φ_law_days G) 1 (sCons (sVar 0) sNil)))) (sSeq (sSet 5 (sFz (sCall (φ_law_yard_text G) 4 (sCons (sVar 1) (sCons (sVar 2) (sCons (sVar 3) (sCons (sVar 4) sNil))))))) (sSeq (sSet 6 (sFz (sCall (φ_read_yard G) 1 (sCons (sVar 5) sNil)))) (sSeq (sIf (sOr (sNot (sTst (sCall (φ_law_same G) 5 (sCons (sVar 6) (sCons (sVar 1) (sCons (sVar 2) (sCons (sVar 3) (sCons (sVar 4) sNil)))))))) (sTst (sOp neD (sCall (φ_show_yard G) 1 (sCons (sVar 6) sNil)) (sVar 5)))) (sRet (sC (.bl false))) sSkip) (sSeq (sSet 7 (sComp (sItems (sVar 3)) (kName 13) sYes (e_law_1 G) [13])) (sSeq (sSet 8 (sComp (sItems (sVar 4)) (kSeq 3 (kCons (kName 10) (kCons (kName 11) (kCons (kName 12) kNil)))) sYes (e_law_2 G) [10, 11, 12])) (sSeq (sSet 9 (sFz (sLk (sMake G.c_Yard (φ_Yard_init G) 4 (sCons (sVar 1) (sCons (sVar 2) (sCons (sVar 7) (sCons (sVar 8) sNil)))))))) (sSeq (sApp 7 (sC .non)) (sSeq (sSpoil 8 10 11 12) (sSeq (sApp 8 (sC .non)) (sRet (sAndV (sCall (φ_law_same G) 5 (sCons (sVar 9) (sCons (sVar 1) (sCons (sVar 2) (sCons (sVar 3) (sCons (sVar 4) sNil)))))) (sOp eqD (sCall (φ_show_yard G) 1 (sCons (sVar 9) sNil)) (sVar 5)))))))))))))))))
noncomputable def φ_law (G : Gs) (ds : List D) : CR := (s_law G (env0 14 ds)).cr
structure Tx (P : Program) (w : World) (K : PySem.W.Frag) (mg : Str → Option Value) (base : Heap) (G : Gs) where
  a_BadRow_init : Addr
  d_BadRow_init : FuncData
  F_BadRow_init : Fun K "__init__" "BadRow.__init__" st_BadRow_init a_BadRow_init d_BadRow_init
  b_BadRow_init : Binds K d_BadRow_init P_BadRow_init []
  a_is_ray : Addr
  d_is_ray : FuncData
  F_is_ray : Fun K "is_ray" "is_ray" st_is_ray a_is_ray d_is_ray
  b_is_ray : Binds K d_is_ray P_is_ray []
  m_is_ray : mg "is_ray" = some (.ref a_is_ray)
  a_Thing_init : Addr
  d_Thing_init : FuncData
  F_Thing_init : Fun K "__init__" "Thing.__init__" st_Thing_init a_Thing_init d_Thing_init
  b_Thing_init : Binds K d_Thing_init P_Thing_init []
  a_Post_word : Addr
  d_Post_word : FuncData
  F_Post_word : Fun K "word" "Post.word" st_Post_word a_Post_word d_Post_word
  b_Post_word : Binds K d_Post_word P_Post_word []
  a_Fence_word : Addr
  d_Fence_word : FuncData
  F_Fence_word : Fun K "word" "Fence.word" st_Fence_word a_Fence_word d_Fence_word
  b_Fence_word : Binds K d_Fence_word P_Fence_word []
  a_Sail_word : Addr
  d_Sail_word : FuncData
  F_Sail_word : Fun K "word" "Sail.word" st_Sail_word a_Sail_word d_Sail_word
  b_Sail_word : Binds K d_Sail_word P_Sail_word []
  a_Cloth_word : Addr
  d_Cloth_word : FuncData
  F_Cloth_word : Fun K "word" "Cloth.word" st_Cloth_word a_Cloth_word d_Cloth_word
  b_Cloth_word : Binds K d_Cloth_word P_Cloth_word []
  a_House_word : Addr
  d_House_word : FuncData
  F_House_word : Fun K "word" "House.word" st_House_word a_House_word d_House_word
  b_House_word : Binds K d_House_word P_House_word []
  a_are_places : Addr
  d_are_places : FuncData
  F_are_places : Fun K "are_places" "are_places" st_are_places a_are_places d_are_places
  b_are_places : Binds K d_are_places P_are_places []
  m_are_places : mg "are_places" = some (.ref a_are_places)
  a_is_height : Addr
  d_is_height : FuncData
  F_is_height : Fun K "is_height" "is_height" st_is_height a_is_height d_is_height
  b_is_height : Binds K d_is_height P_is_height []
  m_is_height : mg "is_height" = some (.ref a_is_height)
  a_made_of : Addr
  d_made_of : FuncData
  F_made_of : Fun K "made_of" "made_of" st_made_of a_made_of d_made_of
  b_made_of : Binds K d_made_of P_made_of []
  m_made_of : mg "made_of" = some (.ref a_made_of)
  a_Yard_init : Addr
  d_Yard_init : FuncData
  F_Yard_init : Fun K "__init__" "Yard.__init__" st_Yard_init a_Yard_init d_Yard_init
  b_Yard_init : Binds K d_Yard_init P_Yard_init []
  a_show_turn : Addr
  d_show_turn : FuncData
  F_show_turn : Fun K "show_turn" "show_turn" st_show_turn a_show_turn d_show_turn
  b_show_turn : Binds K d_show_turn P_show_turn []
  m_show_turn : mg "show_turn" = some (.ref a_show_turn)
  a_law_part : Addr
  d_law_part : FuncData
  F_law_part : Fun K "_law_part" "_law_part" st_law_part a_law_part d_law_part
  b_law_part : Binds K d_law_part P_law_part []
  m_law_part : mg "_law_part" = some (.ref a_law_part)
  a_law_spread : Addr
  d_law_spread : FuncData
  F_law_spread : Fun K "_law_spread" "_law_spread" st_law_spread a_law_spread d_law_spread
  b_law_spread : Binds K d_law_spread P_law_spread []
  m_law_spread : mg "_law_spread" = some (.ref a_law_spread)
  a_law_joined : Addr
  d_law_joined : FuncData
  F_law_joined : Fun K "_law_joined" "_law_joined" st_law_joined a_law_joined d_law_joined
  b_law_joined : Binds K d_law_joined P_law_joined []
  m_law_joined : mg "_law_joined" = some (.ref a_law_joined)
  a_law_far : Addr
  d_law_far : FuncData
  F_law_far : Fun K "_law_far" "_law_far" st_law_far a_law_far d_law_far
  b_law_far : Binds K d_law_far P_law_far []
  m_law_far : mg "_law_far" = some (.ref a_law_far)
  a_law_names : Addr
  d_law_names : FuncData
  F_law_names : Fun K "_law_names" "_law_names" st_law_names a_law_names d_law_names
  b_law_names : Binds K d_law_names P_law_names []
  m_law_names : mg "_law_names" = some (.ref a_law_names)
  a_Thing_shown : Addr
  d_Thing_shown : FuncData
  F_Thing_shown : Fun K "shown" "Thing.shown" st_Thing_shown a_Thing_shown d_Thing_shown
  b_Thing_shown : Binds K d_Thing_shown P_Thing_shown []
  a_is_number : Addr
  d_is_number : FuncData
  F_is_number : Fun K "is_number" "is_number" st_is_number a_is_number d_is_number
  b_is_number : Binds K d_is_number P_is_number []
  m_is_number : mg "is_number" = some (.ref a_is_number)
  a_is_name : Addr
  d_is_name : FuncData
  F_is_name : Fun K "is_name" "is_name" st_is_name a_is_name d_is_name
  b_is_name : Binds K d_is_name P_is_name []
  m_is_name : mg "is_name" = some (.ref a_is_name)
  a_law_thing_by : Addr
  d_law_thing_by : FuncData
  F_law_thing_by : Fun K "_law_thing_by" "_law_thing_by" st_law_thing_by a_law_thing_by d_law_thing_by
  b_law_thing_by : Binds K d_law_thing_by P_law_thing_by []
  m_law_thing_by : mg "_law_thing_by" = some (.ref a_law_thing_by)
  a_law_ray_by : Addr
  d_law_ray_by : FuncData
  F_law_ray_by : Fun K "_law_ray_by" "_law_ray_by" st_law_ray_by a_law_ray_by d_law_ray_by
  b_law_ray_by : Binds K d_law_ray_by P_law_ray_by []
  m_law_ray_by : mg "_law_ray_by" = some (.ref a_law_ray_by)
  a_law_yard_text : Addr
  d_law_yard_text : FuncData
  F_law_yard_text : Fun K "_law_yard_text" "_law_yard_text" st_law_yard_text a_law_yard_text d_law_yard_text
  b_law_yard_text : Binds K d_law_yard_text P_law_yard_text []
  m_law_yard_text : mg "_law_yard_text" = some (.ref a_law_yard_text)
  a_cloth_of : Addr
  d_cloth_of : FuncData
  F_cloth_of : Fun K "cloth_of" "cloth_of" st_cloth_of a_cloth_of d_cloth_of
  b_cloth_of : Binds K d_cloth_of P_cloth_of []
  m_cloth_of : mg "cloth_of" = some (.ref a_cloth_of)
  a_stretched : Addr
  d_stretched : FuncData
  F_stretched : Fun K "stretched" "stretched" st_stretched a_stretched d_stretched
  b_stretched : Binds K d_stretched P_stretched []
  m_stretched : mg "stretched" = some (.ref a_stretched)
  a_numbers_of : Addr
  d_numbers_of : FuncData
  F_numbers_of : Fun K "numbers_of" "numbers_of" st_numbers_of a_numbers_of d_numbers_of
  b_numbers_of : Binds K d_numbers_of P_numbers_of []
  m_numbers_of : mg "numbers_of" = some (.ref a_numbers_of)
  a_show_yard : Addr
  d_show_yard : FuncData
  F_show_yard : Fun K "show_yard" "show_yard" st_show_yard a_show_yard d_show_yard
  b_show_yard : Binds K d_show_yard P_show_yard []
  m_show_yard : mg "show_yard" = some (.ref a_show_yard)
  a_law_things : Addr
  d_law_things : FuncData
  F_law_things : Fun K "_law_things" "_law_things" st_law_things a_law_things d_law_things
  b_law_things : Binds K d_law_things P_law_things []
  m_law_things : mg "_law_things" = some (.ref a_law_things)
  a_law_days : Addr
  d_law_days : FuncData
  F_law_days : Fun K "_law_days" "_law_days" st_law_days a_law_days d_law_days
  b_law_days : Binds K d_law_days P_law_days []
  m_law_days : mg "_law_days" = some (.ref a_law_days)
  a_law_same : Addr
  d_law_same : FuncData
  F_law_same : Fun K "_law_same" "_law_same" st_law_same a_law_same d_law_same
  b_law_same : Binds K d_law_same P_law_same []
  m_law_same : mg "_law_same" = some (.ref a_law_same)
  a_thing_of : Addr
  d_thing_of : FuncData
  F_thing_of : Fun K "thing_of" "thing_of" st_thing_of a_thing_of d_thing_of
  b_thing_of : Binds K d_thing_of P_thing_of []
  m_thing_of : mg "thing_of" = some (.ref a_thing_of)
  a_size_of : Addr
  d_size_of : FuncData
  F_size_of : Fun K "size_of" "size_of" st_size_of a_size_of d_size_of
  b_size_of : Binds K d_size_of P_size_of []
  m_size_of : mg "size_of" = some (.ref a_size_of)
  a_day_of : Addr
  d_day_of : FuncData
  F_day_of : Fun K "day_of" "day_of" st_day_of a_day_of d_day_of
  b_day_of : Binds K d_day_of P_day_of []
  m_day_of : mg "day_of" = some (.ref a_day_of)
  a_turn_of : Addr
  d_turn_of : FuncData
  F_turn_of : Fun K "turn_of" "turn_of" st_turn_of a_turn_of d_turn_of
  b_turn_of : Binds K d_turn_of P_turn_of []
  m_turn_of : mg "turn_of" = some (.ref a_turn_of)
  a_thing_by : Addr
  d_thing_by : FuncData
  F_thing_by : Fun K "thing_by" "thing_by" st_thing_by a_thing_by d_thing_by
  b_thing_by : Binds K d_thing_by P_thing_by []
  m_thing_by : mg "thing_by" = some (.ref a_thing_by)
  a_read_yard : Addr
  d_read_yard : FuncData
  F_read_yard : Fun K "read_yard" "read_yard" st_read_yard a_read_yard d_read_yard
  b_read_yard : Binds K d_read_yard P_read_yard []
  m_read_yard : mg "read_yard" = some (.ref a_read_yard)
  a_law : Addr
  d_law : FuncData
  F_law : Fun K "law" "law" st_law a_law d_law
  b_law : Binds K d_law P_law []
  m_law : mg "law" = some (.ref a_law)
  mC_Post : mg "Post" = some (.ref G.c_Post)
  mC_Fence : mg "Fence" = some (.ref G.c_Fence)
  mC_Sail : mg "Sail" = some (.ref G.c_Sail)
  mC_Cloth : mg "Cloth" = some (.ref G.c_Cloth)
  mC_House : mg "House" = some (.ref G.c_House)
  mC_Yard : mg "Yard" = some (.ref G.c_Yard)
  mC_YardError : mg "YardError" = some (.ref G.c_YardError)
  mC_BadThing : mg "BadThing" = some (.ref G.c_BadThing)
  mC_BadRow : mg "BadRow" = some (.ref G.c_BadRow)
  x0_BadThing : Exc0 K G.c_BadThing
  ox_BadRow : OexC K G.c_BadRow
  xi_BadRow : PySem.W.findIn K (.ref G.c_BadRow) "__init__" = some (some (.ref a_BadRow_init))
  xt_BadRow : PySem.W.typeIn K (.ref a_BadRow_init) = some (.type "function")
  xn_BadRow_row : PySem.W.findIn K (.ref G.c_BadRow) "row" = some none
  bi_YardError : BaseI K G.c_YardError
  xe_BadThing : ∀ q ∈ [(G.c_BadThing, true), (G.c_BadRow, false)], PySem.W.exmOne K (.ref q.1) (.ref G.c_BadThing) = some q.2
  cl_Post : Cls K G.c_Post
  mk_Post : Mk K G.c_Post a_Thing_init
  ni_Post : ∀ f ∈ (["numbers"] : List Str), NoAttr K G.c_Post f
  cl_Fence : Cls K G.c_Fence
  mk_Fence : Mk K G.c_Fence a_Thing_init
  ni_Fence : ∀ f ∈ (["numbers"] : List Str), NoAttr K G.c_Fence f
  cl_Sail : Cls K G.c_Sail
  mk_Sail : Mk K G.c_Sail a_Thing_init
  ni_Sail : ∀ f ∈ (["numbers"] : List Str), NoAttr K G.c_Sail f
  cl_Cloth : Cls K G.c_Cloth
  mk_Cloth : Mk K G.c_Cloth a_Thing_init
  ni_Cloth : ∀ f ∈ (["numbers"] : List Str), NoAttr K G.c_Cloth f
  cl_House : Cls K G.c_House
  mk_House : Mk K G.c_House a_Thing_init
  ni_House : ∀ f ∈ (["numbers"] : List Str), NoAttr K G.c_House f
  cl_Yard : Cls K G.c_Yard
  mk_Yard : Mk K G.c_Yard a_Yard_init
  ni_Yard : ∀ f ∈ (["width", "height", "things", "days"] : List Str), NoAttr K G.c_Yard f
  fl_days : ∀ C ∈ [G.c_Yard], Cls K C ∧ NoAttr K C "days"
  fl_height : ∀ C ∈ [G.c_Yard], Cls K C ∧ NoAttr K C "height"
  fl_numbers : ∀ C ∈ [G.c_Post, G.c_Fence, G.c_Sail, G.c_Cloth, G.c_House], Cls K C ∧ NoAttr K C "numbers"
  fl_things : ∀ C ∈ [G.c_Yard], Cls K C ∧ NoAttr K C "things"
  fl_width : ∀ C ∈ [G.c_Yard], Cls K C ∧ NoAttr K C "width"
  me_Post_word : Meth K G.c_Post "word" a_Post_word
  me_Post_shown : Meth K G.c_Post "shown" a_Thing_shown
  me_Fence_word : Meth K G.c_Fence "word" a_Fence_word
  me_Fence_shown : Meth K G.c_Fence "shown" a_Thing_shown
  me_Sail_word : Meth K G.c_Sail "word" a_Sail_word
  me_Sail_shown : Meth K G.c_Sail "shown" a_Thing_shown
  me_Cloth_word : Meth K G.c_Cloth "word" a_Cloth_word
  me_Cloth_shown : Meth K G.c_Cloth "shown" a_Thing_shown
  me_House_word : Meth K G.c_House "word" a_House_word
  me_House_shown : Meth K G.c_House "shown" a_Thing_shown
  z_abs : mg "abs" = none
  z_all : mg "all" = none
  z_divmod : mg "divmod" = none
  z_int : mg "int" = none
  z_isinstance : mg "isinstance" = none
  z_len : mg "len" = none
  z_list : mg "list" = none
  z_range : mg "range" = none
  z_str : mg "str" = none
  z_tuple : mg "tuple" = none
  g_DAYS : IsC K mg "DAYS" (.int 12)
  g_FAR : IsC K mg "FAR" (.int 1000000000)
  g_FIGURES : IsC K mg "FIGURES" (.str "0123456789")
  g_LETTERS : IsC K mg "LETTERS" (.str "abcdefghijklmnopqrstuvwxyz")
  g_SIDE : IsC K mg "SIDE" (.int 20)
  g_SLOPE : IsC K mg "SLOPE" (.int 1000000)
  g_THINGS : IsC K mg "THINGS" (.int 40)
  g_TIMES : IsC K mg "TIMES" (.int 1000000000)
  g_TURNS : IsC K mg "TURNS" (.int 24)
section
variable {P : Program} {w : World} {K : PySem.W.Frag} {mg : Str → Option Value} {base : Heap} {G : Gs}
theorem ok_BadRow_init (T : Tx P w K mg base G) : FnOk P w K mg base (L2.CX P w) 1 T.a_BadRow_init T.d_BadRow_init P_BadRow_init (spX K G.c_BadRow ["row"]) :=
  initX1 (N := N_BadRow_init) T.F_BadRow_init sc_BadRow_init rfl rfl T.ox_BadRow T.xn_BadRow_row fun cdv A outer s0 H E hr =>
    ⟨_, pss_cons (ps_expr (pe_binit (C := G.c_YardError) (by rfl) T.mC_YardError T.bi_YardError (by decide) (pa_cons (pv 0) (pa_cons pe_str pa_nil)))) (pss_cons (ps_ost (pv 0) (pv 1)) pss_nil)⟩
theorem ok_is_ray (T : Tx P w K mg base G) : FnOk P w K mg base (L2.CX P w) 1 T.a_is_ray T.d_is_ray P_is_ray (spD K 1 (φ_is_ray G)) :=
  fnD (s := s_is_ray G) (N := N_is_ray) T.F_is_ray sc_is_ray rfl fun cdv A outer s0 H E hr =>
    (dss_cons (ds_asg (de_var (pv 0)) (dg_seq rfl (dgs_cons (dg_name (i := 1) sc_is_ray.nd rfl (.inl rfl)) (dgs_cons (dg_name (i := 2) sc_is_ray.nd rfl (.inl rfl)) (dgs_cons (dg_name (i := 3) sc_is_ray.nd rfl (.inl rfl)) dgs_nil)))))
      (dss_one (ds_ret (de_and (de_le (de_abs (by rfl) T.z_abs (da_cons (de_var (pv 1)) da_nil)) (de_gc (by rfl) T.g_SLOPE)) (de_and (de_le (de_abs (by rfl) T.z_abs (da_cons (de_var (pv 2)) da_nil)) (de_gc (by rfl) T.g_SLOPE)) (de_one (de_chain op_le op_le de_int (de_var (pv 3)) (de_gc (by rfl) T.g_SLOPE))))))))
theorem ok_Thing_init (T : Tx P w K mg base G) : FnOk P w K mg base (L2.CX P w) 1 T.a_Thing_init T.d_Thing_init P_Thing_init (spInit K ["numbers"] 1 (φ_Thing_init G)) :=
  fnI (l := l_Thing_init G) (N := N_Thing_init) T.F_Thing_init sc_Thing_init rfl (by unfold l_Thing_init; simp) fun cdv A outer s0 H E hr =>
    (dinit_cons (pv 0) (de_tuple1 (by rfl) T.z_tuple (da_cons (de_var (pv 1)) da_nil)) dinit_nil)
theorem ok_Post_word (T : Tx P w K mg base G) : FnOk P w K mg base (L2.CX P w) 1 T.a_Post_word T.d_Post_word P_Post_word (spD K 1 (φ_Post_word G)) :=
  fnD (s := s_Post_word G) (N := N_Post_word) T.F_Post_word sc_Post_word rfl fun cdv A outer s0 H E hr =>
    (dss_one (ds_ret de_str))
theorem ok_Fence_word (T : Tx P w K mg base G) : FnOk P w K mg base (L2.CX P w) 1 T.a_Fence_word T.d_Fence_word P_Fence_word (spD K 1 (φ_Fence_word G)) :=
  fnD (s := s_Fence_word G) (N := N_Fence_word) T.F_Fence_word sc_Fence_word rfl fun cdv A outer s0 H E hr =>
    (dss_one (ds_ret de_str))
theorem ok_Sail_word (T : Tx P w K mg base G) : FnOk P w K mg base (L2.CX P w) 1 T.a_Sail_word T.d_Sail_word P_Sail_word (spD K 1 (φ_Sail_word G)) :=
  fnD (s := s_Sail_word G) (N := N_Sail_word) T.F_Sail_word sc_Sail_word rfl fun cdv A outer s0 H E hr =>
    (dss_one (ds_ret de_str))
theorem ok_Cloth_word (T : Tx P w K mg base G) : FnOk P w K mg base (L2.CX P w) 1 T.a_Cloth_word T.d_Cloth_word P_Cloth_word (spD K 1 (φ_Cloth_word G)) :=
  fnD (s := s_Cloth_word G) (N := N_Cloth_word) T.F_Cloth_word sc_Cloth_word rfl fun cdv A outer s0 H E hr =>
    (dss_one (ds_ret de_str))
theorem ok_House_word (T : Tx P w K mg base G) : FnOk P w K mg base (L2.CX P w) 1 T.a_House_word T.d_House_word P_House_word (spD K 1 (φ_House_word G)) :=
  fnD (s := s_House_word G) (N := N_House_word) T.F_House_word sc_House_word rfl fun cdv A outer s0 H E hr =>
    (dss_one (ds_ret de_str))
theorem ok_are_places (T : Tx P w K mg base G) : FnOk P w K mg base (L2.CX P w) 1 T.a_are_places T.d_are_places P_are_places (spD K 1 (φ_are_places G)) :=
  fnD (s := s_are_places G) (N := N_are_places) T.F_are_places sc_are_places rfl fun cdv A outer s0 H E hr =>
    (dss_one (ds_ret (de_fz (de_all rfl (by rfl) T.z_all (da_cons (de_comp rfl sc_are_places.nd (di_seq (de_var (pv 0))) (blkOk_by (own := [("number", 1)]) (N := N_are_places) (sc := _) (by show blkC N_are_places (defScope st_are_places) _ _ = true; decide +kernel)) (os := [1]) rfl (fun _ h => h) (fun _ _ _ _ _ => (dg_name (i := 1) sc_are_places.nd rfl (.inl rfl))) (fun _ _ _ _ _ => dts_nil) (fun _ _ _ _ _ => (de_chain op_le op_le (de_sub de_int (de_gc (by rfl) T.g_FAR)) (de_var (pv 1)) (de_gc (by rfl) T.g_FAR)))) da_nil)))))
theorem ok_is_height (T : Tx P w K mg base G) : FnOk P w K mg base (L2.CX P w) 1 T.a_is_height T.d_is_height P_is_height (spD K 2 (φ_is_height G)) :=
  fnD (s := s_is_height G) (N := N_is_height) T.F_is_height sc_is_height rfl fun cdv A outer s0 H E hr =>
    (dss_one (ds_ret (de_chain op_le op_le (de_var (pv 1)) (de_var (pv 0)) (de_gc (by rfl) T.g_FAR))))
theorem ok_made_of (T : Tx P w K mg base G) : FnOk P w K mg base (L2.CX P w) 1 T.a_made_of T.d_made_of P_made_of (spD K 2 (φ_made_of G)) :=
  fnD (s := s_made_of G) (N := N_made_of) T.F_made_of sc_made_of rfl fun cdv A outer s0 H E hr =>
    (dss_cons (ds_for [2] (passes_of rfl) rfl (di_str (de_var (pv 0))) (dg_name (i := 2) sc_made_of.nd rfl (.inl rfl)) (dss_one (ds_if (dt_notIn hr.units (de_var (pv 2)) (de_var (pv 1))) (dss_one (ds_ret de_bl)) dss_nil)))
      (dss_one (ds_ret de_bl)))
theorem ok_Yard_init (T : Tx P w K mg base G) : FnOk P w K mg base (L2.CX P w) 1 T.a_Yard_init T.d_Yard_init P_Yard_init (spInit K ["width", "height", "things", "days"] 4 (φ_Yard_init G)) :=
  fnI (l := l_Yard_init G) (N := N_Yard_init) T.F_Yard_init sc_Yard_init rfl (by unfold l_Yard_init; simp) fun cdv A outer s0 H E hr =>
    (dinit_cons (pv 0) (de_var (pv 1)) (dinit_cons (pv 0) (de_var (pv 2)) (dinit_cons (pv 0) (de_list1 (by rfl) T.z_list (da_cons (de_var (pv 3)) da_nil)) (dinit_cons (pv 0) (de_comp rfl sc_Yard_init.nd (di_seq (de_var (pv 4))) (blkOk_by (own := [("name", 5), ("times", 6), ("turns", 7)]) (N := N_Yard_init) (sc := _) (by show blkC N_Yard_init (defScope st_Yard_init) _ _ = true; decide +kernel)) (os := [5, 6, 7]) rfl (fun _ h => h) (fun _ _ _ _ _ => (dg_seq rfl (dgs_cons (dg_name (i := 5) sc_Yard_init.nd rfl (.inl rfl)) (dgs_cons (dg_name (i := 6) sc_Yard_init.nd rfl (.inl rfl)) (dgs_cons (dg_name (i := 7) sc_Yard_init.nd rfl (.inl rfl)) dgs_nil))))) (fun _ _ _ _ _ => dts_nil) (fun _ _ _ _ _ => (de_tup (da_cons (de_var (pv 5)) (da_cons (de_var (pv 6)) (da_cons (de_list1 (by rfl) T.z_list (da_cons (de_var (pv 7)) da_nil)) da_nil)))))) dinit_nil))))
theorem ok_show_turn (T : Tx P w K mg base G) : FnOk P w K mg base (L2.CX P w) 1 T.a_show_turn T.d_show_turn P_show_turn (spD K 1 (φ_show_turn G)) :=
  fnD (s := s_show_turn G) (N := N_show_turn) T.F_show_turn sc_show_turn rfl fun cdv A outer s0 H E hr =>
    (dss_cons (ds_if (dt_isN (de_var (pv 0))) (dss_one (ds_ret de_str)) dss_nil)
      (dss_one (ds_ret (de_fz (de_join de_str (de_add (de_lst (da_cons de_str da_nil)) (de_comp rfl sc_show_turn.nd (di_seq (de_var (pv 0))) (blkOk_by (own := [("number", 1)]) (N := N_show_turn) (sc := _) (by show blkC N_show_turn (defScope st_show_turn) _ _ = true; decide +kernel)) (os := [1]) rfl (fun _ h => h) (fun _ _ _ _ _ => (dg_name (i := 1) sc_show_turn.nd rfl (.inl rfl))) (fun _ _ _ _ _ => dts_nil) (fun _ _ _ _ _ => (de_strS (by rfl) T.z_str (da_cons (de_var (pv 1)) da_nil))))))))))
theorem ok_law_part (T : Tx P w K mg base G) : FnOk P w K mg base (L2.CX P w) 1 T.a_law_part T.d_law_part P_law_part (spD K 2 (φ_law_part G)) :=
  fnD (s := s_law_part G) (N := N_law_part) T.F_law_part sc_law_part rfl fun cdv A outer s0 H E hr =>
    (dss_cons (ds_for [2] (passes_of rfl) rfl (di_seq (de_sl (de_var (pv 0)) (do_some (de_var (pv 1))) (do_some (de_add (de_var (pv 1)) de_int)))) (dg_name (i := 2) sc_law_part.nd rfl (.inl rfl)) (dss_one (ds_ret (de_fz (de_abs (by rfl) T.z_abs (da_cons (de_var (pv 2)) da_nil))))))
      (dss_one (ds_ret de_int)))
theorem ok_law_spread (T : Tx P w K mg base G) : FnOk P w K mg base (L2.CX P w) 1 T.a_law_spread T.d_law_spread P_law_spread (spD K 2 (φ_law_spread G)) :=
  fnD (s := s_law_spread G) (N := N_law_spread) T.F_law_spread sc_law_spread rfl fun cdv A outer s0 H E hr =>
    (dss_cons (ds_set (i := 2) sc_law_spread.nd rfl (.inl rfl) (de_lst da_nil))
      (dss_cons (ds_set (i := 3) sc_law_spread.nd rfl (.inl rfl) (de_fdiv (de_var (pv 0)) de_int))
      (dss_cons (ds_for [5, 4] (passes_of rfl) rfl (di_range1 (by rfl) T.z_range (da_cons (de_mul (de_var (pv 1)) (de_sub de_int (de_mod (de_var (pv 0)) de_int))) da_nil)) (dg_name (i := 4) sc_law_spread.nd rfl (.inl rfl)) (dss_cons (ds_asg (de_divmod (by rfl) T.z_divmod (da_cons (de_var (pv 3)) (da_cons (de_pow de_int de_int) da_nil))) (dg_seq rfl (dgs_cons (dg_name (i := 3) sc_law_spread.nd rfl (.inl rfl)) (dgs_cons (dg_name (i := 5) sc_law_spread.nd rfl (.inl rfl)) dgs_nil))))
      (dss_one (ds_app (pe_bm PySem.F.plainAttrs_list PySem.F.slot_list_append PySem.F.type_list_append mt_append (pv 2) (pa_cons (de_var (pv 5)) pa_nil))))))
      (dss_cons (ds_set (i := 3) sc_law_spread.nd rfl (.inl rfl) (de_fz (de_add (de_mod (de_var (pv 3)) de_int) de_int)))
      (dss_cons (ds_while [6, 7, 8] (passes_of rfl) (dt_lt (de_lenV (by rfl) T.z_len (pv 2)) (de_var (pv 1))) (dss_cons (ds_for [7, 8, 6] (passes_of rfl) rfl (di_range1 (by rfl) T.z_range (da_cons de_int da_nil)) (dg_name (i := 6) sc_law_spread.nd rfl (.inl rfl)) (dss_cons (ds_asg (de_divmod (by rfl) T.z_divmod (da_cons (de_var (pv 3)) (da_cons de_int da_nil))) (dg_seq rfl (dgs_cons (dg_name (i := 7) sc_law_spread.nd rfl (.inl rfl)) (dgs_cons (dg_name (i := 8) sc_law_spread.nd rfl (.inl rfl)) dgs_nil))))
      (dss_one (ds_set (i := 3) sc_law_spread.nd rfl (.inl rfl) (de_fz (de_mod (de_add (de_add (de_add (de_mul (de_var (pv 8)) de_int) (de_mul (de_var (pv 7)) de_int)) (de_mul de_int (de_lenV (by rfl) T.z_len (pv 2)))) de_int) de_int))))))
      (dss_one (ds_app (pe_bm PySem.F.plainAttrs_list PySem.F.slot_list_append PySem.F.type_list_append mt_append (pv 2) (pa_cons (de_fdiv (de_var (pv 3)) de_int) pa_nil))))))
      (dss_one (ds_ret (de_var (pv 2)))))))))
theorem ok_law_joined (T : Tx P w K mg base G) : FnOk P w K mg base (L2.CX P w) 1 T.a_law_joined T.d_law_joined P_law_joined (spD K 1 (φ_law_joined G)) :=
  fnD (s := s_law_joined G) (N := N_law_joined) T.F_law_joined sc_law_joined rfl fun cdv A outer s0 H E hr =>
    (dss_one (ds_ret (de_fz (de_join de_str (de_comp rfl sc_law_joined.nd (di_seq (de_var (pv 0))) (blkOk_by (own := [("_law_word", 1)]) (N := N_law_joined) (sc := _) (by show blkC N_law_joined (defScope st_law_joined) _ _ = true; decide +kernel)) (os := [1]) rfl (fun _ h => h) (fun _ _ _ _ _ => (dg_name (i := 1) sc_law_joined.nd rfl (.inl rfl))) (fun _ _ _ _ _ => dts_nil) (fun _ _ _ _ _ => (de_strS (by rfl) T.z_str (da_cons (de_var (pv 1)) da_nil))))))))
theorem ok_law_far (T : Tx P w K mg base G) : FnOk P w K mg base (L2.CX P w) 1 T.a_law_far T.d_law_far P_law_far (spD K 2 (φ_law_far G)) :=
  fnD (s := s_law_far G) (N := N_law_far) T.F_law_far sc_law_far rfl fun cdv A outer s0 H E hr =>
    (dss_cons (ds_set (i := 2) sc_law_far.nd rfl (.inl rfl) (de_lst (da_cons (de_ixV (pv 0) de_int) da_nil)))
      (dss_cons (ds_for [3] (passes_of rfl) rfl (di_range2 (by rfl) T.z_range (da_cons de_int (da_cons (de_lenV (by rfl) T.z_len (pv 0)) da_nil))) (dg_name (i := 3) sc_law_far.nd rfl (.inl rfl)) (dss_cons (ds_app (pe_bm PySem.F.plainAttrs_list PySem.F.slot_list_append PySem.F.type_list_append mt_append (pv 2) (pa_cons (de_ixV (pv 0) (de_var (pv 3))) pa_nil)))
      (dss_one (ds_if (dt_w (dw_and (dt_eq hr.units (de_mod (de_var (pv 1)) de_int) de_int) (dw_and (dt_w (dw_or (dt_ne hr.units (de_ixV (pv 0) de_int) de_str) (dw_or1 (dt_ne hr.units (de_mod (de_var (pv 3)) de_int) de_int)))) (dw_and1 (dt_w (dw_or (dt_lt (de_var (pv 3)) de_int) (dw_or1 (dt_eq hr.units (de_ixV (pv 0) de_int) de_str)))))))) (dss_one (ds_setIx (pg_sub (pv 2) (de_var (pv 3)) set_list) (de_sub (de_add (de_ixV (pv 0) (de_var (pv 3))) (de_mul (de_mod (de_fdiv (de_var (pv 1)) de_int) de_int) (de_pow de_int de_int))) (de_mul de_int (de_pow de_int de_int))))) dss_nil))))
      (dss_one (ds_ret (de_var (pv 2))))))
theorem ok_law_names (T : Tx P w K mg base G) : FnOk P w K mg base (L2.CX P w) 1 T.a_law_names T.d_law_names P_law_names (spD K 2 (φ_law_names G)) :=
  fnD (s := s_law_names G) (N := N_law_names) T.F_law_names sc_law_names rfl fun cdv A outer s0 H E hr =>
    (dss_cons (ds_set (i := 2) sc_law_names.nd rfl (.inr rfl) de_str)
      (dss_cons (ds_if (dt_eq hr.units (de_mod (de_var (pv 0)) de_int) de_int) (dss_cons (ds_set (i := 3) sc_law_names.nd rfl (.inl rfl) (de_fz (de_lst (da_cons de_str (da_cons de_str (da_cons de_str (da_cons de_str (da_cons de_str (da_cons de_str (da_cons de_str (da_cons de_str (da_cons de_str (da_cons de_str (da_cons de_str (da_cons de_str da_nil)))))))))))))))
      (dss_one (ds_ret (de_fz (de_sl (de_add (de_sl (de_var (pv 3)) (do_some (de_mod (de_fdiv (de_var (pv 0)) de_int) de_int)) do_none) (de_sl (de_var (pv 3)) do_none (do_some (de_mod (de_fdiv (de_var (pv 0)) de_int) de_int)))) do_none (do_some (de_var (pv 1)))))))) dss_nil)
      (dss_cons (ds_if (dt_eq hr.units (de_mod (de_var (pv 0)) de_int) de_int) (dss_cons (ds_set (i := 4) sc_law_names.nd rfl (.inr rfl) (de_fz (de_ixV (pv 2) (de_mod (de_fdiv (de_var (pv 0)) de_int) de_int))))
      (dss_cons (ds_set (i := 5) sc_law_names.nd rfl (.inr rfl) (de_fz (de_ixV (pv 2) (de_mod (de_add (de_fdiv (de_var (pv 0)) de_int) de_int) de_int))))
      (dss_one (ds_ret (de_fz (de_comp rfl sc_law_names.nd (di_range1 (by rfl) T.z_range (da_cons (de_var (pv 1)) da_nil)) (blkOk_by (own := [("_law_k", 7)]) (N := N_law_names) (sc := _) (by show blkC N_law_names (defScope st_law_names) _ _ = true; decide +kernel)) (os := [7]) rfl (fun _ h => h) (fun _ _ _ _ _ => (dg_name (i := 7) sc_law_names.nd rfl (.inl rfl))) (fun _ _ _ _ _ => dts_nil) (fun _ _ _ _ _ => (de_add (de_repS (de_var (pv 4)) (de_add de_int (de_mod (de_var (pv 7)) de_int))) (de_repS (de_var (pv 5)) (de_fdiv (de_var (pv 7)) de_int)))))))))) dss_nil)
      (dss_cons (ds_set (i := 6) sc_law_names.nd rfl (.inr rfl) (de_fz (de_mod (de_fdiv (de_var (pv 0)) de_int) de_int)))
      (dss_one (ds_ret (de_fz (de_comp rfl sc_law_names.nd (di_range1 (by rfl) T.z_range (da_cons (de_var (pv 1)) da_nil)) (blkOk_by (own := [("_law_k", 7)]) (N := N_law_names) (sc := _) (by show blkC N_law_names (defScope st_law_names) _ _ = true; decide +kernel)) (os := [7]) rfl (fun _ h => h) (fun _ _ _ _ _ => (dg_name (i := 7) sc_law_names.nd rfl (.inl rfl))) (fun _ _ _ _ _ => dts_nil) (fun _ _ _ _ _ => (de_add (de_add (de_sl de_str do_none (do_some (de_var (pv 6)))) (de_ixV (pv 2) (de_mod (de_add (de_fdiv (de_var (pv 0)) de_int) (de_var (pv 7))) de_int))) (de_sl de_str do_none (do_some (de_mod (de_var (pv 6)) de_int)))))))))))))
theorem ok_Thing_shown (T : Tx P w K mg base G) : FnOk P w K mg base (L2.CX P w) 2 T.a_Thing_shown T.d_Thing_shown P_Thing_shown (spD K 1 (φ_Thing_shown G)) :=
  fnD (s := s_Thing_shown G) (N := N_Thing_shown) T.F_Thing_shown sc_Thing_shown rfl fun cdv A outer s0 H E hr =>
    (dss_one (ds_ret (de_fz (de_join de_str (de_add (de_lst (da_cons (de_methT (List.forall_mem_cons.mpr ⟨(pe_methN (pe_meth0 (de_var (pv 0)) T.cl_Post T.me_Post_word (ok_Post_word T) (hr.mono (by decide)) T.b_Post_word .nil passX)), (List.forall_mem_cons.mpr ⟨(pe_methN (pe_meth0 (de_var (pv 0)) T.cl_Fence T.me_Fence_word (ok_Fence_word T) (hr.mono (by decide)) T.b_Fence_word .nil passX)), (List.forall_mem_cons.mpr ⟨(pe_methN (pe_meth0 (de_var (pv 0)) T.cl_Sail T.me_Sail_word (ok_Sail_word T) (hr.mono (by decide)) T.b_Sail_word .nil passX)), (List.forall_mem_cons.mpr ⟨(pe_methN (pe_meth0 (de_var (pv 0)) T.cl_Cloth T.me_Cloth_word (ok_Cloth_word T) (hr.mono (by decide)) T.b_Cloth_word .nil passX)), (List.forall_mem_cons.mpr ⟨(pe_methN (pe_meth0 (de_var (pv 0)) T.cl_House T.me_House_word (ok_House_word T) (hr.mono (by decide)) T.b_House_word .nil passX)), all0⟩)⟩)⟩)⟩)⟩)) da_nil)) (de_comp rfl sc_Thing_shown.nd (di_seq (de_fld T.fl_numbers (de_var (pv 0)))) (blkOk_by (own := [("number", 1)]) (N := N_Thing_shown) (sc := _) (by show blkC N_Thing_shown (defScope st_Thing_shown) _ _ = true; decide +kernel)) (os := [1]) rfl (fun _ h => h) (fun _ _ _ _ _ => (dg_name (i := 1) sc_Thing_shown.nd rfl (.inl rfl))) (fun _ _ _ _ _ => dts_nil) (fun _ _ _ _ _ => (de_strS (by rfl) T.z_str (da_cons (de_var (pv 1)) da_nil)))))))))
theorem ok_is_number (T : Tx P w K mg base G) : FnOk P w K mg base (L2.CX P w) 2 T.a_is_number T.d_is_number P_is_number (spD K 1 (φ_is_number G)) :=
  fnD (s := s_is_number G) (N := N_is_number) T.F_is_number sc_is_number rfl fun cdv A outer s0 H E hr =>
    (dss_cons (ds_if (dt_eq hr.units (de_var (pv 0)) de_str) (dss_one (ds_ret de_bl)) dss_nil)
      (dss_cons (ds_set (i := 1) sc_is_number.nd rfl (.inl rfl) (de_var (pv 0)))
      (dss_cons (ds_if (dt_eq hr.units (de_sl (de_var (pv 0)) do_none (do_some de_int)) de_str) (dss_one (ds_set (i := 1) sc_is_number.nd rfl (.inl rfl) (de_fz (de_sl (de_var (pv 0)) (do_some de_int) do_none)))) dss_nil)
      (dss_one (ds_ret (de_and (de_chain op_le op_le de_int (de_lenV (by rfl) T.z_len (pv 1)) de_int) (de_and (de_ne hr.units (de_ixV (pv 1) de_int) de_str) (de_one (de_call (ok_made_of T) (hr.mono (by decide)) (by rfl) T.m_made_of T.F_made_of.kp T.b_made_of (da_cons (de_var (pv 1)) (da_cons (de_gc (by rfl) T.g_FIGURES) da_nil)))))))))))
theorem ok_is_name (T : Tx P w K mg base G) : FnOk P w K mg base (L2.CX P w) 2 T.a_is_name T.d_is_name P_is_name (spD K 1 (φ_is_name G)) :=
  fnD (s := s_is_name G) (N := N_is_name) T.F_is_name sc_is_name rfl fun cdv A outer s0 H E hr =>
    (dss_one (ds_ret (de_and (de_chain op_le op_le de_int (de_lenV (by rfl) T.z_len (pv 0)) de_int) (de_one (de_call (ok_made_of T) (hr.mono (by decide)) (by rfl) T.m_made_of T.F_made_of.kp T.b_made_of (da_cons (de_var (pv 0)) (da_cons (de_gc (by rfl) T.g_LETTERS) da_nil)))))))
theorem ok_law_thing_by (T : Tx P w K mg base G) : FnOk P w K mg base (L2.CX P w) 2 T.a_law_thing_by T.d_law_thing_by P_law_thing_by (spD K 3 (φ_law_thing_by G)) :=
  fnD (s := s_law_thing_by G) (N := N_law_thing_by) T.F_law_thing_by sc_law_thing_by rfl fun cdv A outer s0 H E hr =>
    (dss_cons (ds_set (i := 3) sc_law_thing_by.nd rfl (.inl rfl) (de_fz (de_call (ok_law_spread T) (hr.mono (by decide)) (by rfl) T.m_law_spread T.F_law_spread.kp T.b_law_spread (da_cons (de_var (pv 0)) (da_cons de_int da_nil)))))
      (dss_cons (ds_set (i := 4) sc_law_thing_by.nd rfl (.inl rfl) (de_sub (de_mod (de_ixV (pv 3) de_int) (de_add (de_mul de_int (de_var (pv 1))) de_int)) de_int))
      (dss_cons (ds_set (i := 5) sc_law_thing_by.nd rfl (.inl rfl) (de_sub (de_mod (de_ixV (pv 3) de_int) (de_add (de_mul de_int (de_var (pv 2))) de_int)) de_int))
      (dss_cons (ds_set (i := 6) sc_law_thing_by.nd rfl (.inl rfl) (de_fz (de_add (de_add (de_var (pv 4)) de_int) (de_mod (de_ixV (pv 3) de_int) de_int))))
      (dss_cons (ds_set (i := 7) sc_law_thing_by.nd rfl (.inl rfl) (de_fz (de_add (de_add (de_var (pv 5)) de_int) (de_mod (de_ixV (pv 3) de_int) de_int))))
      (dss_cons (ds_set (i := 8) sc_law_thing_by.nd rfl (.inl rfl) (de_fz (de_add de_int (de_mod (de_ixV (pv 3) de_int) de_int))))
      (dss_cons (ds_if (dt_eq hr.units (de_mod (de_ixV (pv 3) de_int) de_int) de_int) (dss_one (ds_set (i := 8) sc_law_thing_by.nd rfl (.inl rfl) (de_sub (de_pow de_int de_int) (de_mod (de_ixV (pv 3) de_int) de_int)))) dss_nil)
      (dss_cons (ds_if (dt_eq hr.units (de_mod (de_ixV (pv 3) de_int) de_int) de_int) (dss_one (ds_ret (de_fz (de_lst (da_cons de_str (da_cons (de_sub (de_mod (de_ixV (pv 3) de_int) (de_add (de_var (pv 1)) de_int)) de_int) (da_cons (de_sub (de_mod (de_ixV (pv 3) de_int) (de_add (de_var (pv 2)) de_int)) de_int) (da_cons (de_var (pv 8)) da_nil)))))))) dss_nil)
      (dss_cons (ds_if (dt_eq hr.units (de_mod (de_ixV (pv 3) de_int) de_int) de_int) (dss_cons (ds_set (i := 9) sc_law_thing_by.nd rfl (.inl rfl) (de_fz (de_ixD (de_lst (da_cons (de_tup (da_cons (de_var (pv 6)) (da_cons (de_var (pv 5)) da_nil))) (da_cons (de_tup (da_cons (de_var (pv 6)) (da_cons (de_var (pv 7)) da_nil))) (da_cons (de_tup (da_cons (de_var (pv 4)) (da_cons (de_var (pv 7)) da_nil))) (da_cons (de_tup (da_cons (de_sub (de_var (pv 4)) de_int) (da_cons (de_var (pv 7)) da_nil))) da_nil))))) (de_mod (de_ixV (pv 3) de_int) de_int))))
      (dss_one (ds_ret (de_fz (de_lst (da_cons de_str (da_cons (de_var (pv 4)) (da_cons (de_var (pv 5)) (da_cons (de_ixV (pv 9) de_int) (da_cons (de_ixV (pv 9) de_int) (da_cons (de_var (pv 8)) da_nil))))))))))) dss_nil)
      (dss_cons (ds_if (dt_eq hr.units (de_mod (de_ixV (pv 3) de_int) de_int) de_int) (dss_one (ds_ret (de_fz (de_lst (da_cons de_str (da_cons (de_var (pv 4)) (da_cons (de_var (pv 5)) (da_cons (de_var (pv 6)) (da_cons (de_var (pv 7)) (da_cons (de_var (pv 8)) da_nil)))))))))) dss_nil)
      (dss_cons (ds_if (dt_eq hr.units (de_mod (de_ixV (pv 3) de_int) de_int) de_int) (dss_one (ds_ret (de_fz (de_lst (da_cons de_str (da_cons (de_var (pv 4)) (da_cons (de_var (pv 5)) (da_cons (de_var (pv 6)) (da_cons (de_var (pv 7)) (da_cons (de_var (pv 8)) da_nil)))))))))) dss_nil)
      (dss_cons (ds_set (i := 10) sc_law_thing_by.nd rfl (.inl rfl) (de_fz (de_mul (de_mod (de_ixV (pv 3) de_int) de_int) (de_mod (de_ixV (pv 3) de_int) de_int))))
      (dss_one (ds_ret (de_fz (de_lst (da_cons de_str (da_cons (de_var (pv 4)) (da_cons (de_var (pv 5)) (da_cons (de_mod (de_ixV (pv 3) de_int) de_int) (da_cons (de_var (pv 6)) (da_cons (de_add (de_sub (de_var (pv 5)) de_int) (de_mod (de_ixV (pv 3) de_int) de_int)) (da_cons (de_mod (de_ixV (pv 3) de_int) de_int) (da_cons (de_add (de_sub (de_var (pv 4)) de_int) (de_mod (de_ixV (pv 3) de_int) de_int)) (da_cons (de_var (pv 7)) (da_cons (de_var (pv 10)) da_nil))))))))))))))))))))))))))
theorem ok_law_ray_by (T : Tx P w K mg base G) : FnOk P w K mg base (L2.CX P w) 2 T.a_law_ray_by T.d_law_ray_by P_law_ray_by (spD K 1 (φ_law_ray_by G)) :=
  fnD (s := s_law_ray_by G) (N := N_law_ray_by) T.F_law_ray_by sc_law_ray_by rfl fun cdv A outer s0 H E hr =>
    (dss_cons (ds_set (i := 1) sc_law_ray_by.nd rfl (.inl rfl) (de_fz (de_call (ok_law_spread T) (hr.mono (by decide)) (by rfl) T.m_law_spread T.F_law_spread.kp T.b_law_spread (da_cons (de_var (pv 0)) (da_cons de_int da_nil)))))
      (dss_cons (ds_if (dt_eq hr.units (de_mod (de_ixV (pv 1) de_int) de_int) de_int) (dss_one (ds_ret de_non)) dss_nil)
      (dss_cons (ds_if (dt_eq hr.units (de_mod (de_ixV (pv 1) de_int) de_int) de_int) (dss_one (ds_ret (de_fz (de_tup (da_cons (de_sub (de_mod (de_ixV (pv 1) de_int) de_int) de_int) (da_cons (de_sub (de_mod (de_ixV (pv 1) de_int) de_int) de_int) (da_cons (de_add de_int (de_mod (de_ixV (pv 1) de_int) de_int)) da_nil))))))) dss_nil)
      (dss_one (ds_ret (de_fz (de_tup (da_cons (de_sub (de_mod (de_ixV (pv 1) de_int) de_int) de_int) (da_cons (de_sub (de_mod (de_ixV (pv 1) de_int) de_int) de_int) (da_cons (de_add de_int (de_mod (de_ixV (pv 1) de_int) de_int)) da_nil))))))))))
theorem ok_law_yard_text (T : Tx P w K mg base G) : FnOk P w K mg base (L2.CX P w) 2 T.a_law_yard_text T.d_law_yard_text P_law_yard_text (spD K 4 (φ_law_yard_text G)) :=
  fnD (s := s_law_yard_text G) (N := N_law_yard_text) T.F_law_yard_text sc_law_yard_text rfl fun cdv A outer s0 H E hr =>
    (dss_cons (ds_set (i := 4) sc_law_yard_text.nd rfl (.inl rfl) (de_add (de_lst (da_cons (de_call (ok_law_joined T) (hr.mono (by decide)) (by rfl) T.m_law_joined T.F_law_joined.kp T.b_law_joined (da_cons (de_lst (da_cons de_str (da_cons (de_var (pv 0)) (da_cons (de_var (pv 1)) da_nil)))) da_nil)) da_nil)) (de_comp rfl sc_law_yard_text.nd (di_seq (de_var (pv 2))) (blkOk_by (own := [("_law_thing", 9)]) (N := N_law_yard_text) (sc := _) (by show blkC N_law_yard_text (defScope st_law_yard_text) _ _ = true; decide +kernel)) (os := [9]) rfl (fun _ h => h) (fun _ _ _ _ _ => (dg_name (i := 9) sc_law_yard_text.nd rfl (.inl rfl))) (fun _ _ _ _ _ => dts_nil) (fun _ _ _ _ _ => (de_call (ok_law_joined T) (hr.mono (by decide)) (by rfl) T.m_law_joined T.F_law_joined.kp T.b_law_joined (da_cons (de_var (pv 9)) da_nil))))))
      (dss_cons (ds_for [8, 5, 6, 7] (passes_of rfl) rfl (di_seq (de_var (pv 3))) (dg_seq rfl (dgs_cons (dg_name (i := 5) sc_law_yard_text.nd rfl (.inl rfl)) (dgs_cons (dg_name (i := 6) sc_law_yard_text.nd rfl (.inl rfl)) (dgs_cons (dg_name (i := 7) sc_law_yard_text.nd rfl (.inl rfl)) dgs_nil)))) (dss_cons (ds_app (pe_bm PySem.F.plainAttrs_list PySem.F.slot_list_append PySem.F.type_list_append mt_append (pv 4) (pa_cons (de_call (ok_law_joined T) (hr.mono (by decide)) (by rfl) T.m_law_joined T.F_law_joined.kp T.b_law_joined (da_cons (de_lst (da_cons de_str (da_cons (de_var (pv 5)) (da_cons (de_var (pv 6)) da_nil)))) da_nil)) pa_nil)))
      (dss_one (ds_for [8] (passes_of rfl) rfl (di_seq (de_var (pv 7))) (dg_name (i := 8) sc_law_yard_text.nd rfl (.inl rfl)) (dss_one (ds_if (dt_isN (de_var (pv 8))) (dss_one (ds_app (pe_bm PySem.F.plainAttrs_list PySem.F.slot_list_append PySem.F.type_list_append mt_append (pv 4) (pa_cons de_str pa_nil)))) (dss_one (ds_app (pe_bm PySem.F.plainAttrs_list PySem.F.slot_list_append PySem.F.type_list_append mt_append (pv 4) (pa_cons (de_call (ok_law_joined T) (hr.mono (by decide)) (by rfl) T.m_law_joined T.F_law_joined.kp T.b_law_joined (da_cons (de_add (de_lst (da_cons de_str da_nil)) (de_list1 (by rfl) T.z_list (da_cons (de_var (pv 8)) da_nil))) da_nil)) pa_nil))))))))))
      (dss_one (ds_ret (de_fz (de_join de_str (de_var (pv 4))))))))
theorem ok_cloth_of (T : Tx P w K mg base G) : FnOk P w K mg base (L2.CX P w) 3 T.a_cloth_of T.d_cloth_of P_cloth_of (spD K 1 (φ_cloth_of G)) :=
  fnD (s := s_cloth_of G) (N := N_cloth_of) T.F_cloth_of sc_cloth_of rfl fun cdv A outer s0 H E hr =>
    (dss_cons (ds_for [1] (passes_of rfl) rfl (di_seq (de_tup (da_cons de_int (da_cons de_int (da_cons de_int da_nil))))) (dg_name (i := 1) sc_cloth_of.nd rfl (.inl rfl)) (dss_one (ds_if (dt_w (dw_or (dt_not (dt_val (de_call (ok_are_places T) (hr.mono (by decide)) (by rfl) T.m_are_places T.F_are_places.kp T.b_are_places (da_cons (de_sl (de_var (pv 0)) (do_some (de_var (pv 1))) (do_some (de_add (de_var (pv 1)) de_int))) da_nil)))) (dw_or1 (dt_not (dt_val (de_call (ok_is_height T) (hr.mono (by decide)) (by rfl) T.m_is_height T.F_is_height.kp T.b_is_height (da_cons (de_ixV (pv 0) (de_add (de_var (pv 1)) de_int)) (da_cons de_int da_nil)))))))) (dss_one (ds_raise0 rfl T.x0_BadThing (by rfl) T.mC_BadThing)) dss_nil)))
      (dss_one (ds_ret (de_fz (de_make T.mk_Cloth T.cl_Cloth T.ni_Cloth (ok_Thing_init T) (hr.mono (by decide)) (by rfl) T.mC_Cloth T.b_Thing_init (da_cons (de_var (pv 0)) da_nil))))))
theorem ok_stretched (T : Tx P w K mg base G) : FnOk P w K mg base (L2.CX P w) 3 T.a_stretched T.d_stretched P_stretched (spD K 2 (φ_stretched G)) :=
  fnD (s := s_stretched G) (N := N_stretched) T.F_stretched sc_stretched rfl fun cdv A outer s0 H E hr =>
    (dss_cons (ds_asg (de_var (pv 1)) (dg_seq rfl (dgs_cons (dg_name (i := 2) sc_stretched.nd rfl (.inl rfl)) (dgs_cons (dg_name (i := 3) sc_stretched.nd rfl (.inl rfl)) (dgs_cons (dg_name (i := 4) sc_stretched.nd rfl (.inl rfl)) (dgs_cons (dg_name (i := 5) sc_stretched.nd rfl (.inl rfl)) (dgs_cons (dg_name (i := 6) sc_stretched.nd rfl (.inl rfl)) dgs_nil)))))))
      (dss_cons (ds_if (dt_w (dw_or (dt_not (dt_val (de_call (ok_are_places T) (hr.mono (by decide)) (by rfl) T.m_are_places T.F_are_places.kp T.b_are_places (da_cons (de_sl (de_var (pv 1)) do_none (do_some de_int)) da_nil)))) (dw_or1 (dt_not (dt_val (de_call (ok_is_height T) (hr.mono (by decide)) (by rfl) T.m_is_height T.F_is_height.kp T.b_is_height (da_cons (de_var (pv 6)) (da_cons de_int da_nil)))))))) (dss_one (ds_raise0 rfl T.x0_BadThing (by rfl) T.mC_BadThing)) dss_nil)
      (dss_cons (ds_if (dt_w (dw_and (dt_eq hr.units (de_var (pv 0)) de_str) (dw_and1 (dt_ne hr.units (de_tup (da_cons (de_var (pv 2)) (da_cons (de_var (pv 3)) da_nil))) (de_tup (da_cons (de_var (pv 4)) (da_cons (de_var (pv 5)) da_nil))))))) (dss_one (ds_ret (de_fz (de_make T.mk_Fence T.cl_Fence T.ni_Fence (ok_Thing_init T) (hr.mono (by decide)) (by rfl) T.mC_Fence T.b_Thing_init (da_cons (de_var (pv 1)) da_nil))))) dss_nil)
      (dss_cons (ds_if (dt_w (dw_and (dt_eq hr.units (de_var (pv 0)) de_str) (dw_and (dt_lt (de_var (pv 2)) (de_var (pv 4))) (dw_and1 (dt_lt (de_var (pv 3)) (de_var (pv 5))))))) (dss_one (ds_ret (de_fz (de_make T.mk_Sail T.cl_Sail T.ni_Sail (ok_Thing_init T) (hr.mono (by decide)) (by rfl) T.mC_Sail T.b_Thing_init (da_cons (de_var (pv 1)) da_nil))))) dss_nil)
      (dss_cons (ds_if (dt_w (dw_and (dt_eq hr.units (de_var (pv 0)) de_str) (dw_and (dt_lt (de_var (pv 2)) (de_var (pv 4))) (dw_and1 (dt_lt (de_var (pv 3)) (de_var (pv 5))))))) (dss_one (ds_ret (de_fz (de_make T.mk_House T.cl_House T.ni_House (ok_Thing_init T) (hr.mono (by decide)) (by rfl) T.mC_House T.b_Thing_init (da_cons (de_var (pv 1)) da_nil))))) dss_nil)
      (dss_one (ds_raise0 rfl T.x0_BadThing (by rfl) T.mC_BadThing)))))))
theorem ok_numbers_of (T : Tx P w K mg base G) : FnOk P w K mg base (L2.CX P w) 3 T.a_numbers_of T.d_numbers_of P_numbers_of (spD K 2 (φ_numbers_of G)) :=
  fnD (s := s_numbers_of G) (N := N_numbers_of) T.F_numbers_of sc_numbers_of rfl fun cdv A outer s0 H E hr =>
    (dss_cons (ds_for [2] (passes_of rfl) rfl (di_seq (de_var (pv 0))) (dg_name (i := 2) sc_numbers_of.nd rfl (.inl rfl)) (dss_one (ds_if (dt_not (dt_val (de_call (ok_is_number T) (hr.mono (by decide)) (by rfl) T.m_is_number T.F_is_number.kp T.b_is_number (da_cons (de_var (pv 2)) da_nil)))) (dss_one (ds_raise rfl T.ox_BadRow T.xi_BadRow T.xt_BadRow (ok_BadRow_init T) (hr.mono (by decide)) T.b_BadRow_init passX (by decide) (by rfl) T.mC_BadRow (da_cons (de_var (pv 1)) da_nil))) dss_nil)))
      (dss_one (ds_ret (de_fz (de_comp rfl sc_numbers_of.nd (di_seq (de_var (pv 0))) (blkOk_by (own := [("word", 2)]) (N := N_numbers_of) (sc := _) (by show blkC N_numbers_of (defScope st_numbers_of) _ _ = true; decide +kernel)) (os := [2]) rfl (fun _ h => h) (fun _ _ _ _ _ => (dg_name (i := 2) sc_numbers_of.nd rfl (.inl rfl))) (fun _ _ _ _ _ => dts_nil) (fun _ _ _ _ _ => (de_intS (by rfl) T.z_int (da_cons (de_var (pv 2)) da_nil))))))))
theorem ok_show_yard (T : Tx P w K mg base G) : FnOk P w K mg base (L2.CX P w) 3 T.a_show_yard T.d_show_yard P_show_yard (spD K 1 (φ_show_yard G)) :=
  fnD (s := s_show_yard G) (N := N_show_yard) T.F_show_yard sc_show_yard rfl fun cdv A outer s0 H E hr =>
    (dss_cons (ds_set (i := 1) sc_show_yard.nd rfl (.inl rfl) (de_lst (da_cons (de_add (de_add (de_add de_str (de_strS (by rfl) T.z_str (da_cons (de_fld T.fl_width (de_var (pv 0))) da_nil))) de_str) (de_strS (by rfl) T.z_str (da_cons (de_fld T.fl_height (de_var (pv 0))) da_nil))) da_nil)))
      (dss_cons (ds_ext (pe_bm PySem.F.plainAttrs_list PySem.F.slot_list_extend PySem.F.type_list_extend mt_extend (pv 1) (pa_cons (de_comp rfl sc_show_yard.nd (di_seq (de_fld T.fl_things (de_var (pv 0)))) (blkOk_by (own := [("thing", 5)]) (N := N_show_yard) (sc := _) (by show blkC N_show_yard (defScope st_show_yard) _ _ = true; decide +kernel)) (os := [5]) rfl (fun _ h => h) (fun _ _ _ _ _ => (dg_name (i := 5) sc_show_yard.nd rfl (.inl rfl))) (fun _ _ _ _ _ => dts_nil) (fun _ _ _ _ _ => (de_methT (List.forall_mem_cons.mpr ⟨(pe_methN (pe_meth0 (de_var (pv 5)) T.cl_Post T.me_Post_shown (ok_Thing_shown T) (hr.mono (by decide)) T.b_Thing_shown .nil passX)), (List.forall_mem_cons.mpr ⟨(pe_methN (pe_meth0 (de_var (pv 5)) T.cl_Fence T.me_Fence_shown (ok_Thing_shown T) (hr.mono (by decide)) T.b_Thing_shown .nil passX)), (List.forall_mem_cons.mpr ⟨(pe_methN (pe_meth0 (de_var (pv 5)) T.cl_Sail T.me_Sail_shown (ok_Thing_shown T) (hr.mono (by decide)) T.b_Thing_shown .nil passX)), (List.forall_mem_cons.mpr ⟨(pe_methN (pe_meth0 (de_var (pv 5)) T.cl_Cloth T.me_Cloth_shown (ok_Thing_shown T) (hr.mono (by decide)) T.b_Thing_shown .nil passX)), (List.forall_mem_cons.mpr ⟨(pe_methN (pe_meth0 (de_var (pv 5)) T.cl_House T.me_House_shown (ok_Thing_shown T) (hr.mono (by decide)) T.b_Thing_shown .nil passX)), all0⟩)⟩)⟩)⟩)⟩)))) pa_nil)))
      (dss_cons (ds_for [2, 3, 4] (passes_of rfl) rfl (di_seq (de_fld T.fl_days (de_var (pv 0)))) (dg_seq rfl (dgs_cons (dg_name (i := 2) sc_show_yard.nd rfl (.inl rfl)) (dgs_cons (dg_name (i := 3) sc_show_yard.nd rfl (.inl rfl)) (dgs_cons (dg_name (i := 4) sc_show_yard.nd rfl (.inl rfl)) dgs_nil)))) (dss_cons (ds_app (pe_bm PySem.F.plainAttrs_list PySem.F.slot_list_append PySem.F.type_list_append mt_append (pv 1) (pa_cons (de_add (de_add (de_add de_str (de_var (pv 2))) de_str) (de_strS (by rfl) T.z_str (da_cons (de_var (pv 3)) da_nil))) pa_nil)))
      (dss_one (ds_ext (pe_bm PySem.F.plainAttrs_list PySem.F.slot_list_extend PySem.F.type_list_extend mt_extend (pv 1) (pa_cons (de_comp rfl sc_show_yard.nd (di_seq (de_var (pv 4))) (blkOk_by (own := [("turn", 6)]) (N := N_show_yard) (sc := _) (by show blkC N_show_yard (defScope st_show_yard) _ _ = true; decide +kernel)) (os := [6]) rfl (fun _ h => h) (fun _ _ _ _ _ => (dg_name (i := 6) sc_show_yard.nd rfl (.inl rfl))) (fun _ _ _ _ _ => dts_nil) (fun _ _ _ _ _ => (de_call (ok_show_turn T) (hr.mono (by decide)) (by rfl) T.m_show_turn T.F_show_turn.kp T.b_show_turn (da_cons (de_var (pv 6)) da_nil)))) pa_nil))))))
      (dss_one (ds_ret (de_fz (de_join de_str (de_var (pv 1)))))))))
theorem ok_law_things (T : Tx P w K mg base G) : FnOk P w K mg base (L2.CX P w) 3 T.a_law_things T.d_law_things P_law_things (spD K 3 (φ_law_things G)) :=
  fnD (s := s_law_things G) (N := N_law_things) T.F_law_things sc_law_things rfl fun cdv A outer s0 H E hr =>
    (dss_cons (ds_set (i := 3) sc_law_things.nd rfl (.inl rfl) (de_lst da_nil))
      (dss_cons (ds_for [5, 6, 4] (passes_of rfl) rfl (di_seq (de_sl (de_var (pv 0)) (do_some de_int) (do_some de_int))) (dg_name (i := 4) sc_law_things.nd rfl (.inl rfl)) (dss_cons (ds_set (i := 5) sc_law_things.nd rfl (.inl rfl) (de_fz (de_abs (by rfl) T.z_abs (da_cons (de_var (pv 4)) da_nil))))
      (dss_cons (ds_set (i := 6) sc_law_things.nd rfl (.inl rfl) (de_fz (de_call (ok_law_thing_by T) (hr.mono (by decide)) (by rfl) T.m_law_thing_by T.F_law_thing_by.kp T.b_law_thing_by (da_cons (de_var (pv 5)) (da_cons (de_var (pv 1)) (da_cons (de_var (pv 2)) da_nil))))))
      (dss_cons (ds_if (dt_w (dw_or (dt_eq hr.units (de_ixV (pv 6) de_int) de_str) (dw_or1 (dt_eq hr.units (de_ixV (pv 6) de_int) de_str)))) (dss_one (ds_set (i := 6) sc_law_things.nd rfl (.inl rfl) (de_fz (de_call (ok_law_far T) (hr.mono (by decide)) (by rfl) T.m_law_far T.F_law_far.kp T.b_law_far (da_cons (de_var (pv 6)) (da_cons (de_var (pv 5)) da_nil)))))) dss_nil)
      (dss_one (ds_app (pe_bm PySem.F.plainAttrs_list PySem.F.slot_list_append PySem.F.type_list_append mt_append (pv 3) (pa_cons (de_var (pv 6)) pa_nil))))))))
      (dss_one (ds_ret (de_var (pv 3))))))
theorem ok_law_days (T : Tx P w K mg base G) : FnOk P w K mg base (L2.CX P w) 3 T.a_law_days T.d_law_days P_law_days (spD K 1 (φ_law_days G)) :=
  fnD (s := s_law_days G) (N := N_law_days) T.F_law_days sc_law_days rfl fun cdv A outer s0 H E hr =>
    (dss_cons (ds_set (i := 1) sc_law_days.nd rfl (.inl rfl) (de_fz (de_call (ok_law_part T) (hr.mono (by decide)) (by rfl) T.m_law_part T.F_law_part.kp T.b_law_part (da_cons (de_var (pv 0)) (da_cons de_int da_nil)))))
      (dss_cons (ds_set (i := 2) sc_law_days.nd rfl (.inl rfl) (de_fz (de_mod (de_call (ok_law_part T) (hr.mono (by decide)) (by rfl) T.m_law_part T.F_law_part.kp T.b_law_part (da_cons (de_var (pv 0)) (da_cons de_int da_nil))) de_int)))
      (dss_cons (ds_set (i := 3) sc_law_days.nd rfl (.inl rfl) (de_fz (de_call (ok_law_names T) (hr.mono (by decide)) (by rfl) T.m_law_names T.F_law_names.kp T.b_law_names (da_cons (de_var (pv 1)) (da_cons (de_var (pv 2)) da_nil)))))
      (dss_cons (ds_set (i := 4) sc_law_days.nd rfl (.inl rfl) (de_lst da_nil))
      (dss_cons (ds_for [6, 7, 8, 5] (passes_of rfl) rfl (di_range1 (by rfl) T.z_range (da_cons (de_var (pv 2)) da_nil)) (dg_name (i := 5) sc_law_days.nd rfl (.inl rfl)) (dss_cons (ds_set (i := 6) sc_law_days.nd rfl (.inr rfl) (de_fz (de_call (ok_law_spread T) (hr.mono (by decide)) (by rfl) T.m_law_spread T.F_law_spread.kp T.b_law_spread (da_cons (de_add (de_var (pv 1)) (de_mul (de_mul de_int (de_var (pv 5))) (de_var (pv 5)))) (da_cons de_int da_nil)))))
      (dss_cons (ds_set (i := 7) sc_law_days.nd rfl (.inl rfl) (de_fz (de_ixD (de_lst (da_cons de_int (da_cons de_int (da_cons (de_pow de_int de_int) (da_cons (de_add de_int (de_mod (de_ixV (pv 6) de_int) (de_pow de_int de_int))) da_nil))))) (de_mod (de_ixV (pv 6) de_int) de_int))))
      (dss_cons (ds_setCompF (i := 8) rfl sc_law_days.nd rfl rfl (sw_true rfl rfl rfl (by decide +kernel)) (di_range1 (by rfl) T.z_range (da_cons (de_add de_int (de_mod (de_fdiv (de_ixV (pv 6) de_int) de_int) de_int)) da_nil)) (blkOk_by (own := [("_law_j", 9)]) (N := N_law_days) (sc := _) (by show blkC N_law_days (defScope st_law_days) _ _ = true; decide +kernel)) (os := [9]) rfl (fun _ h => h) (fun _ _ _ _ _ => (dg_name (i := 9) sc_law_days.nd rfl (.inl rfl))) (fun _ _ _ _ _ => dts_nil) (fun _ _ _ _ _ => (de_call (ok_law_ray_by T) (hr.mono (by decide)) (by rfl) T.m_law_ray_by T.F_law_ray_by.kp T.b_law_ray_by (da_cons (de_add (de_add (de_ixV (pv 6) de_int) (de_mul (de_mul de_int (de_var (pv 9))) (de_var (pv 9)))) (de_var (pv 9))) da_nil))))
      (dss_one (ds_app (pe_bm PySem.F.plainAttrs_list PySem.F.slot_list_append PySem.F.type_list_append mt_append (pv 4) (pa_cons (de_tup (da_cons (de_ixV (pv 3) (de_var (pv 5))) (da_cons (de_var (pv 7)) (da_cons (de_var (pv 8)) da_nil)))) pa_nil))))))))
      (dss_one (ds_ret (de_var (pv 4)))))))))
theorem ok_law_same (T : Tx P w K mg base G) : FnOk P w K mg base (L2.CX P w) 3 T.a_law_same T.d_law_same P_law_same (spD K 5 (φ_law_same G)) :=
  fnD (s := s_law_same G) (N := N_law_same) T.F_law_same sc_law_same rfl fun cdv A outer s0 H E hr =>
    (dss_cons (ds_if (dt_w (dw_or (dt_not (dt_val (de_isi .int (by rfl) T.z_isinstance (de_fld T.fl_width (de_var (pv 0))) (pe_bltn (by rfl) T.z_int (by decide +kernel) rfl)))) (dw_or (dt_ne hr.units (de_fld T.fl_width (de_var (pv 0))) (de_var (pv 1))) (dw_or1 (dt_ne hr.units (de_fld T.fl_height (de_var (pv 0))) (de_var (pv 2))))))) (dss_one (ds_ret de_bl)) dss_nil)
      (dss_cons (ds_if (dt_not (dt_val (de_isi .list (by rfl) T.z_isinstance (de_fld T.fl_things (de_var (pv 0))) (pe_bltn (by rfl) T.z_list (by decide +kernel) rfl)))) (dss_one (ds_ret de_bl)) dss_nil)
      (dss_cons (ds_if (dt_ne hr.units (de_comp rfl sc_law_same.nd (di_seq (de_fld T.fl_things (de_var (pv 0)))) (blkOk_by (own := [("_law_thing", 7)]) (N := N_law_same) (sc := _) (by show blkC N_law_same (defScope st_law_same) _ _ = true; decide +kernel)) (os := [7]) rfl (fun _ h => h) (fun _ _ _ _ _ => (dg_name (i := 7) sc_law_same.nd rfl (.inl rfl))) (fun _ _ _ _ _ => dts_nil) (fun _ _ _ _ _ => (de_methT (List.forall_mem_cons.mpr ⟨(pe_methN (pe_meth0 (de_var (pv 7)) T.cl_Post T.me_Post_shown (ok_Thing_shown T) (hr.mono (by decide)) T.b_Thing_shown .nil passX)), (List.forall_mem_cons.mpr ⟨(pe_methN (pe_meth0 (de_var (pv 7)) T.cl_Fence T.me_Fence_shown (ok_Thing_shown T) (hr.mono (by decide)) T.b_Thing_shown .nil passX)), (List.forall_mem_cons.mpr ⟨(pe_methN (pe_meth0 (de_var (pv 7)) T.cl_Sail T.me_Sail_shown (ok_Thing_shown T) (hr.mono (by decide)) T.b_Thing_shown .nil passX)), (List.forall_mem_cons.mpr ⟨(pe_methN (pe_meth0 (de_var (pv 7)) T.cl_Cloth T.me_Cloth_shown (ok_Thing_shown T) (hr.mono (by decide)) T.b_Thing_shown .nil passX)), (List.forall_mem_cons.mpr ⟨(pe_methN (pe_meth0 (de_var (pv 7)) T.cl_House T.me_House_shown (ok_Thing_shown T) (hr.mono (by decide)) T.b_Thing_shown .nil passX)), all0⟩)⟩)⟩)⟩)⟩)))) (de_comp rfl sc_law_same.nd (di_seq (de_var (pv 3))) (blkOk_by (own := [("_law_words", 8)]) (N := N_law_same) (sc := _) (by show blkC N_law_same (defScope st_law_same) _ _ = true; decide +kernel)) (os := [8]) rfl (fun _ h => h) (fun _ _ _ _ _ => (dg_name (i := 8) sc_law_same.nd rfl (.inl rfl))) (fun _ _ _ _ _ => dts_nil) (fun _ _ _ _ _ => (de_call (ok_law_joined T) (hr.mono (by decide)) (by rfl) T.m_law_joined T.F_law_joined.kp T.b_law_joined (da_cons (de_var (pv 8)) da_nil))))) (dss_one (ds_ret de_bl)) dss_nil)
      (dss_cons (ds_if (dt_w (dw_or (dt_not (dt_val (de_isi .list (by rfl) T.z_isinstance (de_fld T.fl_days (de_var (pv 0))) (pe_bltn (by rfl) T.z_list (by decide +kernel) rfl)))) (dw_or1 (dt_ne hr.units (de_len (by rfl) T.z_len (da_cons (de_fld T.fl_days (de_var (pv 0))) da_nil)) (de_lenV (by rfl) T.z_len (pv 4)))))) (dss_one (ds_ret de_bl)) dss_nil)
      (dss_cons (ds_for [6, 5] (passes_of rfl) rfl (di_range1 (by rfl) T.z_range (da_cons (de_lenV (by rfl) T.z_len (pv 4)) da_nil)) (dg_name (i := 5) sc_law_same.nd rfl (.inl rfl)) (dss_cons (ds_set (i := 6) sc_law_same.nd rfl (.inl rfl) (de_fz (de_ixD (de_fld T.fl_days (de_var (pv 0))) (de_var (pv 5)))))
      (dss_cons (ds_if (dt_w (dw_or (dt_not (dt_val (de_isi .tuple (by rfl) T.z_isinstance (de_var (pv 6)) (pe_bltn (by rfl) T.z_tuple (by decide +kernel) rfl)))) (dw_or (dt_not (dt_val (de_isi .list (by rfl) T.z_isinstance (de_ixV (pv 6) de_int) (pe_bltn (by rfl) T.z_list (by decide +kernel) rfl)))) (dw_or1 (dt_ne hr.units (de_var (pv 6)) (de_ixV (pv 4) (de_var (pv 5)))))))) (dss_one (ds_ret de_bl)) dss_nil)
      (dss_one (ds_if (dt_not (dt_val (de_all rfl (by rfl) T.z_all (da_cons (de_comp rfl sc_law_same.nd (di_seq (de_ixV (pv 6) de_int)) (blkOk_by (own := [("_law_turn", 9)]) (N := N_law_same) (sc := _) (by show blkC N_law_same (defScope st_law_same) _ _ = true; decide +kernel)) (os := [9]) rfl (fun _ h => h) (fun _ _ _ _ _ => (dg_name (i := 9) sc_law_same.nd rfl (.inl rfl))) (fun _ _ _ _ _ => dts_nil) (fun _ _ _ _ _ => (de_or (de_isN (de_var (pv 9))) (de_one (de_isi .tuple (by rfl) T.z_isinstance (de_var (pv 9)) (pe_bltn (by rfl) T.z_tuple (by decide +kernel) rfl)))))) da_nil)))) (dss_one (ds_ret de_bl)) dss_nil)))))
      (dss_one (ds_ret de_bl)))))))
theorem ok_thing_of (T : Tx P w K mg base G) : FnOk P w K mg base (L2.CX P w) 4 T.a_thing_of T.d_thing_of P_thing_of (spD K 2 (φ_thing_of G)) :=
  fnD (s := s_thing_of G) (N := N_thing_of) T.F_thing_of sc_thing_of rfl fun cdv A outer s0 H E hr =>
    (dss_cons (ds_if (dt_w (dw_and (dt_eq hr.units (de_var (pv 0)) de_str) (dw_and1 (dt_eq hr.units (de_lenV (by rfl) T.z_len (pv 1)) de_int)))) (dss_one (ds_if (dt_w (dw_and (dt_val (de_call (ok_are_places T) (hr.mono (by decide)) (by rfl) T.m_are_places T.F_are_places.kp T.b_are_places (da_cons (de_sl (de_var (pv 1)) do_none (do_some de_int)) da_nil))) (dw_and1 (dt_val (de_call (ok_is_height T) (hr.mono (by decide)) (by rfl) T.m_is_height T.F_is_height.kp T.b_is_height (da_cons (de_ixV (pv 1) de_int) (da_cons de_int da_nil))))))) (dss_one (ds_ret (de_fz (de_make T.mk_Post T.cl_Post T.ni_Post (ok_Thing_init T) (hr.mono (by decide)) (by rfl) T.mC_Post T.b_Thing_init (da_cons (de_var (pv 1)) da_nil))))) dss_nil)) dss_nil)
      (dss_cons (ds_if (dt_w (dw_and (dt_eq hr.units (de_var (pv 0)) de_str) (dw_and1 (dt_eq hr.units (de_lenV (by rfl) T.z_len (pv 1)) de_int)))) (dss_one (ds_ret (de_fz (de_call (ok_cloth_of T) (hr.mono (by decide)) (by rfl) T.m_cloth_of T.F_cloth_of.kp T.b_cloth_of (da_cons (de_var (pv 1)) da_nil))))) dss_nil)
      (dss_cons (ds_if (dt_w (dw_and (dt_in hr.units (de_var (pv 0)) (de_tup (da_cons de_str (da_cons de_str (da_cons de_str da_nil))))) (dw_and1 (dt_eq hr.units (de_lenV (by rfl) T.z_len (pv 1)) de_int)))) (dss_one (ds_ret (de_fz (de_call (ok_stretched T) (hr.mono (by decide)) (by rfl) T.m_stretched T.F_stretched.kp T.b_stretched (da_cons (de_var (pv 0)) (da_cons (de_var (pv 1)) da_nil)))))) dss_nil)
      (dss_one (ds_raise0 rfl T.x0_BadThing (by rfl) T.mC_BadThing)))))
theorem ok_size_of (T : Tx P w K mg base G) : FnOk P w K mg base (L2.CX P w) 4 T.a_size_of T.d_size_of P_size_of (spD K 1 (φ_size_of G)) :=
  fnD (s := s_size_of G) (N := N_size_of) T.F_size_of sc_size_of rfl fun cdv A outer s0 H E hr =>
    (dss_cons (ds_set (i := 1) sc_size_of.nd rfl (.inl rfl) (de_fz (de_split (de_var (pv 0)) de_str)))
      (dss_cons (ds_if (dt_w (dw_or (dt_ne hr.units (de_ixV (pv 1) de_int) de_str) (dw_or1 (dt_ne hr.units (de_lenV (by rfl) T.z_len (pv 1)) de_int)))) (dss_one (ds_raise rfl T.ox_BadRow T.xi_BadRow T.xt_BadRow (ok_BadRow_init T) (hr.mono (by decide)) T.b_BadRow_init passX (by decide) (by rfl) T.mC_BadRow (da_cons de_int da_nil))) dss_nil)
      (dss_cons (ds_asg (de_call (ok_numbers_of T) (hr.mono (by decide)) (by rfl) T.m_numbers_of T.F_numbers_of.kp T.b_numbers_of (da_cons (de_sl (de_var (pv 1)) (do_some de_int) do_none) (da_cons de_int da_nil))) (dg_seq rfl (dgs_cons (dg_name (i := 2) sc_size_of.nd rfl (.inl rfl)) (dgs_cons (dg_name (i := 3) sc_size_of.nd rfl (.inl rfl)) dgs_nil))))
      (dss_cons (ds_if (dt_w (dw_or (dt_not (dt_chain op_le op_le de_int (de_var (pv 2)) (de_gc (by rfl) T.g_SIDE))) (dw_or1 (dt_not (dt_chain op_le op_le de_int (de_var (pv 3)) (de_gc (by rfl) T.g_SIDE)))))) (dss_one (ds_raise rfl T.ox_BadRow T.xi_BadRow T.xt_BadRow (ok_BadRow_init T) (hr.mono (by decide)) T.b_BadRow_init passX (by decide) (by rfl) T.mC_BadRow (da_cons de_int da_nil))) dss_nil)
      (dss_one (ds_ret (de_fz (de_tup (da_cons (de_var (pv 2)) (da_cons (de_var (pv 3)) da_nil))))))))))
theorem ok_day_of (T : Tx P w K mg base G) : FnOk P w K mg base (L2.CX P w) 4 T.a_day_of T.d_day_of P_day_of (spD K 3 (φ_day_of G)) :=
  fnD (s := s_day_of G) (N := N_day_of) T.F_day_of sc_day_of rfl fun cdv A outer s0 H E hr =>
    (dss_cons (ds_if (dt_w (dw_or (dt_eq hr.units (de_lenV (by rfl) T.z_len (pv 1)) (de_gc (by rfl) T.g_DAYS)) (dw_or (dt_ne hr.units (de_lenV (by rfl) T.z_len (pv 0)) de_int) (dw_or1 (dt_not (dt_val (de_call (ok_is_name T) (hr.mono (by decide)) (by rfl) T.m_is_name T.F_is_name.kp T.b_is_name (da_cons (de_ixV (pv 0) de_int) da_nil)))))))) (dss_one (ds_raise rfl T.ox_BadRow T.xi_BadRow T.xt_BadRow (ok_BadRow_init T) (hr.mono (by decide)) T.b_BadRow_init passX (by decide) (by rfl) T.mC_BadRow (da_cons (de_var (pv 2)) da_nil))) dss_nil)
      (dss_cons (ds_if (dt_w (dw_and (dt_ne hr.units (de_var (pv 1)) (de_lst da_nil)) (dw_and1 (dt_eq hr.units (de_ixD (de_ixV (pv 1) (de_neg de_int)) de_int) (de_lst da_nil))))) (dss_one (ds_raise rfl T.ox_BadRow T.xi_BadRow T.xt_BadRow (ok_BadRow_init T) (hr.mono (by decide)) T.b_BadRow_init passX (by decide) (by rfl) T.mC_BadRow (da_cons (de_var (pv 2)) da_nil))) dss_nil)
      (dss_cons (ds_set (i := 3) sc_day_of.nd rfl (.inl rfl) (de_fz (de_ixD (de_call (ok_numbers_of T) (hr.mono (by decide)) (by rfl) T.m_numbers_of T.F_numbers_of.kp T.b_numbers_of (da_cons (de_sl (de_var (pv 0)) (do_some de_int) do_none) (da_cons (de_var (pv 2)) da_nil))) de_int)))
      (dss_cons (ds_if (dt_w (dw_or (dt_not (dt_chain op_le op_le de_int (de_var (pv 3)) (de_gc (by rfl) T.g_TIMES))) (dw_or1 (dt_in hr.units (de_ixV (pv 0) de_int) (de_comp rfl sc_day_of.nd (di_seq (de_var (pv 1))) (blkOk_by (own := [("day", 4)]) (N := N_day_of) (sc := _) (by show blkC N_day_of (defScope st_day_of) _ _ = true; decide +kernel)) (os := [4]) rfl (fun _ h => h) (fun _ _ _ _ _ => (dg_name (i := 4) sc_day_of.nd rfl (.inl rfl))) (fun _ _ _ _ _ => dts_nil) (fun _ _ _ _ _ => (de_ixV (pv 4) de_int))))))) (dss_one (ds_raise rfl T.ox_BadRow T.xi_BadRow T.xt_BadRow (ok_BadRow_init T) (hr.mono (by decide)) T.b_BadRow_init passX (by decide) (by rfl) T.mC_BadRow (da_cons (de_var (pv 2)) da_nil))) dss_nil)
      (dss_one (ds_ret (de_tup (da_cons (de_ixV (pv 0) de_int) (da_cons (de_var (pv 3)) (da_cons (de_lst da_nil) da_nil))))))))))
theorem ok_turn_of (T : Tx P w K mg base G) : FnOk P w K mg base (L2.CX P w) 4 T.a_turn_of T.d_turn_of P_turn_of (spD K 3 (φ_turn_of G)) :=
  fnD (s := s_turn_of G) (N := N_turn_of) T.F_turn_of sc_turn_of rfl fun cdv A outer s0 H E hr =>
    (dss_cons (ds_if (dt_w (dw_or (dt_eq hr.units (de_var (pv 1)) (de_lst da_nil)) (dw_or1 (dt_eq hr.units (de_len (by rfl) T.z_len (da_cons (de_ixD (de_ixV (pv 1) (de_neg de_int)) de_int) da_nil)) (de_gc (by rfl) T.g_TURNS))))) (dss_one (ds_raise rfl T.ox_BadRow T.xi_BadRow T.xt_BadRow (ok_BadRow_init T) (hr.mono (by decide)) T.b_BadRow_init passX (by decide) (by rfl) T.mC_BadRow (da_cons (de_var (pv 2)) da_nil))) dss_nil)
      (dss_cons (ds_if (dt_eq hr.units (de_var (pv 0)) (de_lst (da_cons de_str da_nil))) (dss_one (ds_ret de_non)) dss_nil)
      (dss_cons (ds_if (dt_w (dw_or (dt_ne hr.units (de_ixV (pv 0) de_int) de_str) (dw_or1 (dt_ne hr.units (de_lenV (by rfl) T.z_len (pv 0)) de_int)))) (dss_one (ds_raise rfl T.ox_BadRow T.xi_BadRow T.xt_BadRow (ok_BadRow_init T) (hr.mono (by decide)) T.b_BadRow_init passX (by decide) (by rfl) T.mC_BadRow (da_cons (de_var (pv 2)) da_nil))) dss_nil)
      (dss_cons (ds_set (i := 3) sc_turn_of.nd rfl (.inl rfl) (de_fz (de_tuple1 (by rfl) T.z_tuple (da_cons (de_call (ok_numbers_of T) (hr.mono (by decide)) (by rfl) T.m_numbers_of T.F_numbers_of.kp T.b_numbers_of (da_cons (de_sl (de_var (pv 0)) (do_some de_int) do_none) (da_cons (de_var (pv 2)) da_nil))) da_nil))))
      (dss_cons (ds_if (dt_not (dt_val (de_call (ok_is_ray T) (hr.mono (by decide)) (by rfl) T.m_is_ray T.F_is_ray.kp T.b_is_ray (da_cons (de_var (pv 3)) da_nil)))) (dss_one (ds_raise rfl T.ox_BadRow T.xi_BadRow T.xt_BadRow (ok_BadRow_init T) (hr.mono (by decide)) T.b_BadRow_init passX (by decide) (by rfl) T.mC_BadRow (da_cons (de_var (pv 2)) da_nil))) dss_nil)
      (dss_one (ds_ret (de_var (pv 3)))))))))
theorem ok_thing_by (T : Tx P w K mg base G) : FnOk P w K mg base (L2.CX P w) 5 T.a_thing_by T.d_thing_by P_thing_by (spD K 4 (φ_thing_by G)) :=
  fnD (s := s_thing_by G) (N := N_thing_by) T.F_thing_by sc_thing_by rfl fun cdv A outer s0 H E hr =>
    (dss_cons (ds_if (dt_w (dw_or (dt_ne hr.units (de_var (pv 2)) (de_lst da_nil)) (dw_or1 (dt_eq hr.units (de_lenV (by rfl) T.z_len (pv 1)) (de_gc (by rfl) T.g_THINGS))))) (dss_one (ds_raise rfl T.ox_BadRow T.xi_BadRow T.xt_BadRow (ok_BadRow_init T) (hr.mono (by decide)) T.b_BadRow_init passX (by decide) (by rfl) T.mC_BadRow (da_cons (de_var (pv 3)) da_nil))) dss_nil)
      (dss_cons (ds_set (i := 4) sc_thing_by.nd rfl (.inl rfl) (de_fz (de_call (ok_numbers_of T) (hr.mono (by decide)) (by rfl) T.m_numbers_of T.F_numbers_of.kp T.b_numbers_of (da_cons (de_sl (de_var (pv 0)) (do_some de_int) do_none) (da_cons (de_var (pv 3)) da_nil)))))
      (dss_cons (ds_set (i := 5) sc_thing_by.nd rfl (.inl rfl) de_non)
      (dss_one (ds_tryE rfl rfl ⟨by rfl, by decide, .inl T.mC_BadThing⟩ T.xe_BadThing (fun _ _ hp => (dss_one (ds_set (i := 5) sc_thing_by.nd rfl (.inl rfl) (de_fz (de_call (ok_thing_of T) (hr.mono (by decide)) (by rfl) T.m_thing_of T.F_thing_of.kp T.b_thing_of (da_cons (de_ixV (pv 0) de_int) (da_cons (de_var (pv 4)) da_nil))))))) (fun _ _ => (dss_one ds_bad)) (dss_one (ds_ret (de_var (pv 5)))))))))
theorem ok_read_yard (T : Tx P w K mg base G) : FnOk P w K mg base (L2.CX P w) 6 T.a_read_yard T.d_read_yard P_read_yard (spD K 1 (φ_read_yard G)) :=
  fnD (s := s_read_yard G) (N := N_read_yard) T.F_read_yard sc_read_yard rfl fun cdv A outer s0 H E hr =>
    (dss_cons (ds_set (i := 1) sc_read_yard.nd rfl (.inl rfl) (de_fz (de_split (de_var (pv 0)) de_str)))
      (dss_cons (ds_asg (de_call (ok_size_of T) (hr.mono (by decide)) (by rfl) T.m_size_of T.F_size_of.kp T.b_size_of (da_cons (de_ixV (pv 1) de_int) da_nil)) (dg_seq rfl (dgs_cons (dg_name (i := 2) sc_read_yard.nd rfl (.inl rfl)) (dgs_cons (dg_name (i := 3) sc_read_yard.nd rfl (.inl rfl)) dgs_nil))))
      (dss_cons (ds_set (i := 4) sc_read_yard.nd rfl (.inl rfl) (de_lst da_nil))
      (dss_cons (ds_set (i := 5) sc_read_yard.nd rfl (.inl rfl) (de_lst da_nil))
      (dss_cons (ds_for [7, 8, 6] (passes_of rfl) rfl (di_range2 (by rfl) T.z_range (da_cons de_int (da_cons (de_lenV (by rfl) T.z_len (pv 1)) da_nil))) (dg_name (i := 6) sc_read_yard.nd rfl (.inl rfl)) (dss_cons (ds_set (i := 7) sc_read_yard.nd rfl (.inl rfl) (de_fz (de_split (de_ixV (pv 1) (de_var (pv 6))) de_str)))
      (dss_one (ds_if (dt_eq hr.units (de_ixV (pv 7) de_int) de_str) (dss_one (ds_app (pe_bm PySem.F.plainAttrs_list PySem.F.slot_list_append PySem.F.type_list_append mt_append (pv 5) (pa_cons (de_lk (de_call (ok_day_of T) (hr.mono (by decide)) (by rfl) T.m_day_of T.F_day_of.kp T.b_day_of (da_cons (de_var (pv 7)) (da_cons (de_var (pv 5)) (da_cons (de_var (pv 6)) da_nil))))) pa_nil)))) (dss_one (ds_if (dt_w (dw_or (dt_eq hr.units (de_ixV (pv 7) de_int) de_str) (dw_or1 (dt_eq hr.units (de_ixV (pv 7) de_int) de_str)))) (dss_cons (ds_set (i := 8) sc_read_yard.nd rfl (.inl rfl) (de_fz (de_lk (de_call (ok_turn_of T) (hr.mono (by decide)) (by rfl) T.m_turn_of T.F_turn_of.kp T.b_turn_of (da_cons (de_var (pv 7)) (da_cons (de_var (pv 5)) (da_cons (de_var (pv 6)) da_nil)))))))
      (dss_one (ds_appP (i := 5) (js := [-1, 2]) (pe_bm PySem.F.plainAttrs_list PySem.F.slot_list_append PySem.F.type_list_append mt_append (pe_ix ix_seq (pe_ix ix_seq (pv 5) (pe_nint pe_int) (fun _ _ => rfl)) pe_int (fun _ _ => rfl)) (pa_cons (pv 8) pa_nil)) ak_v))) (dss_one (ds_app (pe_bm PySem.F.plainAttrs_list PySem.F.slot_list_append PySem.F.type_list_append mt_append (pv 4) (pa_cons (de_lk (de_call (ok_thing_by T) (hr.mono (by decide)) (by rfl) T.m_thing_by T.F_thing_by.kp T.b_thing_by (da_cons (de_var (pv 7)) (da_cons (de_var (pv 4)) (da_cons (de_var (pv 5)) (da_cons (de_var (pv 6)) da_nil)))))) pa_nil))))))))))
      (dss_cons (ds_if (dt_w (dw_and (dt_lend (dt_ne hr.units (de_var (pv 5)) (de_lst da_nil))) (dw_and1 (dt_lend (dt_eq hr.units (de_ixD (de_ixV (pv 5) (de_neg de_int)) de_int) (de_lst da_nil)))))) (dss_one (ds_raise rfl T.ox_BadRow T.xi_BadRow T.xt_BadRow (ok_BadRow_init T) (hr.mono (by decide)) T.b_BadRow_init passX (by decide) (by rfl) T.mC_BadRow (da_cons (de_lenV (by rfl) T.z_len (pv 1)) da_nil))) dss_nil)
      (dss_one (ds_ret (de_fz (de_make T.mk_Yard T.cl_Yard T.ni_Yard (ok_Yard_init T) (hr.mono (by decide)) (by rfl) T.mC_Yard T.b_Yard_init (da_cons (de_var (pv 2)) (da_cons (de_var (pv 3)) (da_cons (de_var (pv 4)) (da_cons (de_var (pv 5)) da_nil))))))))))))))
theorem ok_law (T : Tx P w K mg base G) : FnOk P w K mg base (L2.CX P w) 7 T.a_law T.d_law P_law (spD K 1 (φ_law G)) :=
  fnD (s := s_law G) (N := N_law) T.F_law sc_law rfl fun cdv A outer s0 H E hr =>
    (dss_cons (ds_set (i := 1) sc_law.nd rfl (.inl rfl) (de_fz (de_add de_int (de_mod (de_call (ok_law_part T) (hr.mono (by decide)) (by rfl) T.m_law_part T.F_law_part.kp T.b_law_part (da_cons (de_var (pv 0)) (da_cons de_int da_nil))) de_int))))
      (dss_cons (ds_set (i := 2) sc_law.nd rfl (.inl rfl) (de_fz (de_add de_int (de_mod (de_fdiv (de_call (ok_law_part T) (hr.mono (by decide)) (by rfl) T.m_law_part T.F_law_part.kp T.b_law_part (da_cons (de_var (pv 0)) (da_cons de_int da_nil))) de_int) de_int))))
      (dss_cons (ds_set (i := 3) sc_law.nd rfl (.inl rfl) (de_fz (de_call (ok_law_things T) (hr.mono (by decide)) (by rfl) T.m_law_things T.F_law_things.kp T.b_law_things (da_cons (de_var (pv 0)) (da_cons (de_var (pv 1)) (da_cons (de_var (pv 2)) da_nil))))))
      (dss_cons (ds_set (i := 4) sc_law.nd rfl (.inl rfl) (de_fz (de_call (ok_law_days T) (hr.mono (by decide)) (by rfl) T.m_law_days T.F_law_days.kp T.b_law_days (da_cons (de_var (pv 0)) da_nil))))
      (dss_cons (ds_set (i := 5) sc_law.nd rfl (.inl rfl) (de_fz (de_call (ok_law_yard_text T) (hr.mono (by decide)) (by rfl) T.m_law_yard_text T.F_law_yard_text.kp T.b_law_yard_text (da_cons (de_var (pv 1)) (da_cons (de_var (pv 2)) (da_cons (de_var (pv 3)) (da_cons (de_var (pv 4)) da_nil)))))))
      (dss_cons (ds_set (i := 6) sc_law.nd rfl (.inl rfl) (de_fz (de_call (ok_read_yard T) (hr.mono (by decide)) (by rfl) T.m_read_yard T.F_read_yard.kp T.b_read_yard (da_cons (de_var (pv 5)) da_nil))))
      (dss_cons (ds_if (dt_w (dw_or (dt_not (dt_val (de_call (ok_law_same T) (hr.mono (by decide)) (by rfl) T.m_law_same T.F_law_same.kp T.b_law_same (da_cons (de_var (pv 6)) (da_cons (de_var (pv 1)) (da_cons (de_var (pv 2)) (da_cons (de_var (pv 3)) (da_cons (de_var (pv 4)) da_nil)))))))) (dw_or1 (dt_ne hr.units (de_call (ok_show_yard T) (hr.mono (by decide)) (by rfl) T.m_show_yard T.F_show_yard.kp T.b_show_yard (da_cons (de_var (pv 6)) da_nil)) (de_var (pv 5)))))) (dss_one (ds_ret de_bl)) dss_nil)
      (dss_cons (ds_setComp (i := 7) rfl sc_law.nd rfl rfl (sw_true rfl rfl rfl (by decide +kernel)) (di_seq (de_var (pv 3))) (blkOk_by (own := [("_law_words", 13)]) (N := N_law) (sc := _) (by show blkC N_law (defScope st_law) _ _ = true; decide +kernel)) (os := [13]) rfl (fun _ h => h) (fun _ _ _ _ _ => (dg_name (i := 13) sc_law.nd rfl (.inl rfl))) (fun _ _ _ _ _ => dts_nil) (fun _ _ _ _ _ => (de_call (ok_thing_of T) (hr.mono (by decide)) (by rfl) T.m_thing_of T.F_thing_of.kp T.b_thing_of (da_cons (de_ixV (pv 13) de_int) (da_cons (de_list1 (by rfl) T.z_list (da_cons (de_sl (de_var (pv 13)) (do_some de_int) do_none) da_nil)) da_nil)))))
      (dss_cons (ds_setComp (i := 8) rfl sc_law.nd rfl rfl (sw_true rfl rfl rfl (by decide +kernel)) (di_seq (de_var (pv 4))) (blkOk_by (own := [("_law_name", 10), ("_law_often", 11), ("_law_turns", 12)]) (N := N_law) (sc := _) (by show blkC N_law (defScope st_law) _ _ = true; decide +kernel)) (os := [10, 11, 12]) rfl (fun _ h => h) (fun _ _ _ _ _ => (dg_seq rfl (dgs_cons (dg_name (i := 10) sc_law.nd rfl (.inl rfl)) (dgs_cons (dg_name (i := 11) sc_law.nd rfl (.inl rfl)) (dgs_cons (dg_name (i := 12) sc_law.nd rfl (.inl rfl)) dgs_nil))))) (fun _ _ _ _ _ => dts_nil) (fun _ _ _ _ _ => (de_tup (da_cons (de_var (pv 10)) (da_cons (de_var (pv 11)) (da_cons (de_list1 (by rfl) T.z_list (da_cons (de_var (pv 12)) da_nil)) da_nil))))))
      (dss_cons (ds_set (i := 9) sc_law.nd rfl (.inl rfl) (de_fz (de_lk (de_make T.mk_Yard T.cl_Yard T.ni_Yard (ok_Yard_init T) (hr.mono (by decide)) (by rfl) T.mC_Yard T.b_Yard_init (da_cons (de_var (pv 1)) (da_cons (de_var (pv 2)) (da_cons (de_var (pv 7)) (da_cons (de_var (pv 8)) da_nil))))))))
      (dss_cons (ds_app (pe_bm PySem.F.plainAttrs_list PySem.F.slot_list_append PySem.F.type_list_append mt_append (pv 7) (pa_cons de_non pa_nil)))
      (dss_cons (ds_spoil (j := 8) (a := 10) (b := 11) (c := 12) (passes_of rfl) rfl (pi_list (pv 8)) (pg_tup rfl (pgs_cons (pg_name (i := 10) sc_law.nd rfl (.inl rfl)) (pgs_cons (pg_name (i := 11) sc_law.nd rfl (.inl rfl)) (pgs_cons (pg_name (i := 12) sc_law.nd rfl (.inl rfl)) pgs_nil)))) (pss_cons (ps_expr (pe_bm PySem.F.plainAttrs_list PySem.F.slot_list_append PySem.F.type_list_append mt_append (pv 12) (pa_cons pe_non pa_nil))) pss_nil))
      (dss_cons (ds_app (pe_bm PySem.F.plainAttrs_list PySem.F.slot_list_append PySem.F.type_list_append mt_append (pv 8) (pa_cons de_non pa_nil)))
      (dss_one (ds_ret (de_and (de_call (ok_law_same T) (hr.mono (by decide)) (by rfl) T.m_law_same T.F_law_same.kp T.b_law_same (da_cons (de_var (pv 9)) (da_cons (de_var (pv 1)) (da_cons (de_var (pv 2)) (da_cons (de_var (pv 3)) (da_cons (de_var (pv 4)) da_nil)))))) (de_one (de_eq hr.units (de_call (ok_show_yard T) (hr.mono (by decide)) (by rfl) T.m_show_yard T.F_show_yard.kp T.b_show_yard (da_cons (de_var (pv 9)) da_nil)) (de_var (pv 5))))))))))))))))))))
end
end My

namespace My
open PySem PySem.Spec L2 DL
/-! things, whatever word and numbers are told -/
def thD (C : Addr) (l : List Int) : D := .ins C ["numbers"] [.tup (l.map .int)]
def Pl (x : Int) : Prop := -1000000000 ≤ x ∧ x ≤ 1000000000
def Hi (x : Int) : Prop := 1 ≤ x ∧ x ≤ 1000000000
def Hi0 (x : Int) : Prop := 0 ≤ x ∧ x ≤ 1000000000
def gP (x : Int) : Bool := decide (-1000000000 ≤ x) && decide (x ≤ 1000000000)
def gH (m x : Int) : Bool := decide (m ≤ x) && decide (x ≤ 1000000000)
def good (w : Str) (l : List Int) : Bool :=
  if w = "post" then (match l with
    | [p, q, h] => gP p && gP q && gH 1 h
    | _ => false)
  else if w = "cloth" then (match l with
    | [a, b, c, d, e, f, g, h, i] => (gP a && gP b && gH 0 c) && (gP d && gP e && gH 0 f) && (gP g && gP h && gH 0 i)
    | _ => false)
  else match l with
    | [x, y, u, v, h] => (gP x && gP y && gP u && gP v && gH 1 h) && ((decide (w = "fence") && (decide (x ≠ u) || decide (y ≠ v))) || ((decide (w = "sail") || decide (w = "house")) && (decide (x < u) && decide (y < v))))
    | _ => false
def clsOf (G : Gs) (w : Str) : Addr := if w = "post" then G.c_Post else if w = "fence" then G.c_Fence else if w = "sail" then G.c_Sail else if w = "cloth" then G.c_Cloth else G.c_House
theorem cls_post (G : Gs) : clsOf G "post" = G.c_Post := by unfold clsOf; rw [if_pos rfl]
theorem cls_fence (G : Gs) : clsOf G "fence" = G.c_Fence := by unfold clsOf; rw [if_neg (by decide), if_pos rfl]
theorem cls_sail (G : Gs) : clsOf G "sail" = G.c_Sail := by unfold clsOf; rw [if_neg (by decide), if_neg (by decide), if_pos rfl]
theorem cls_cloth (G : Gs) : clsOf G "cloth" = G.c_Cloth := by unfold clsOf; rw [if_neg (by decide), if_neg (by decide), if_neg (by decide), if_pos rfl]
theorem cls_house (G : Gs) : clsOf G "house" = G.c_House := by unfold clsOf; rw [if_neg (by decide), if_neg (by decide), if_neg (by decide), if_neg (by decide)]
theorem init_eq (G : Gs) (ds : List D) : φ_Thing_init G [.lst ds] = some ([Str.ofString "numbers"], [D.tup ds]) := by
  unfold φ_Thing_init l_Thing_init
  simp [runInit_cons, runInit_nil]
theorem places_all (G : Gs) (l : List Int) (hl : l.length ≤ 100) : φ_are_places G [.lst (l.map .int)] = .ret (.sh (.bl (l.all gP))) := by
  have e : comp (kName 1) sYes (e_are_places_1 G) [1] (l.map D.int) [] [some (.sh (.lst (l.map .int))), none] = .ok (.lst ((l.map fun x => D.bl (gP x)).map .sh)) [some (.sh (.lst (l.map .int))), none] := by
    rw [comp_mapA (φ := D.int) (F := fun x => D.bl (gP x))]
    · simp
    · intro x hx
      simp [e_are_places_1, gP]
  have hall : allD (.lst (l.map fun x => D.bl (gP x))) = some (.sh (.bl (l.all gP))) := by
    have := allL_map (l := l.map gP)
    rw [List.map_map, List.all_map] at this
    exact this
  have hl7 : l.length ≤ 10000000 := by omega
  unfold φ_are_places s_are_places
  simp (disch := omega) [e, hall, hl7]
theorem height_all (G : Gs) (x m : Int) : φ_is_height G [.int x, .int m] = .ret (.sh (.bl (gH m x))) := by
  unfold φ_is_height s_is_height
  simp [gH]
theorem len_is {l : List Int} {n : Nat} (h : l.length = n) : l.length = n := h
theorem three {l : List Int} (h : l.length = 3) : ∃ a b c, l = [a, b, c] := by
  match l, h with
  | [a, b, c], _ => exact ⟨a, b, c, rfl⟩
theorem five {l : List Int} (h : l.length = 5) : ∃ a b c d e, l = [a, b, c, d, e] := by
  match l, h with
  | [a, b, c, d, e], _ => exact ⟨a, b, c, d, e, rfl⟩
theorem nine {l : List Int} (h : l.length = 9) : ∃ a b c d e f g i j, l = [a, b, c, d, e, f, g, i, j] := by
  match l, h with
  | [a, b, c, d, e, f, g, i, j], _ => exact ⟨a, b, c, d, e, f, g, i, j, rfl⟩
theorem in_w (w : Str) : inD false (.str w) (.tup [.str "fence", .str "sail", .str "house"]) = some (.sh (.bl (decide (w = "fence") || (decide (w = "sail") || decide (w = "house"))))) := by
  have key : ∀ a : Str, decide (a = w) = decide (w = a) := fun a => decide_eq_decide.mpr eq_comm
  unfold inD orG inL
  simp [key]
theorem cloth_all (G : Gs) (a b c d e f g h i : Int) : φ_cloth_of G [.lst [.int a, .int b, .int c, .int d, .int e, .int f, .int g, .int h, .int i]] = if ((gP a && gP b && gH 0 c) && (gP d && gP e && gH 0 f) && (gP g && gP h && gH 0 i)) = true then .ret (.sh (thD G.c_Cloth [a, b, c, d, e, f, g, h, i])) else .exc ⟨G.c_BadThing, false, [], []⟩ := by
  have e1 := places_all G [a, b] (by simp)
  have e2 := places_all G [d, e] (by simp)
  have e3 := places_all G [g, h] (by simp)
  simp only [List.map_cons, List.map_nil, List.all_cons, List.all_nil, Bool.and_true] at e1 e2 e3
  have g1 := height_all G c 0
  have g2 := height_all G f 0
  have g3 := height_all G i 0
  generalize (gP a && gP b) = A at *
  generalize (gP d && gP e) = B at *
  generalize (gP g && gP h) = C at *
  generalize gH 0 c = A' at *
  generalize gH 0 f = B' at *
  generalize gH 0 i = C' at *
  unfold φ_cloth_of s_cloth_of
  cases A <;> cases A' <;> cases B <;> cases B' <;> cases C <;> cases C' <;> simp (disch := omega) [e1, e2, e3, g1, g2, g3, init_eq, thD, cutD_ll, loop_cons, b_cloth_of_1]
def nsf : ¬ (Str.ofString "sail" = Str.ofString "fence") := by decide
def nhf : ¬ (Str.ofString "house" = Str.ofString "fence") := by decide
def nhs : ¬ (Str.ofString "house" = Str.ofString "sail") := by decide
def nfs : ¬ (Str.ofString "fence" = Str.ofString "sail") := by decide
def nfh : ¬ (Str.ofString "fence" = Str.ofString "house") := by decide
def nsh : ¬ (Str.ofString "sail" = Str.ofString "house") := by decide
theorem stretched_all (G : Gs) (w : Str) (hw : w = "fence" ∨ w = "sail" ∨ w = "house") (x y u v h : Int) : φ_stretched G [.str w, .lst [.int x, .int y, .int u, .int v, .int h]] = if ((gP x && gP y && gP u && gP v && gH 1 h) && ((decide (w = "fence") && (decide (x ≠ u) || decide (y ≠ v))) || ((decide (w = "sail") || decide (w = "house")) && (decide (x < u) && decide (y < v))))) = true then .ret (.sh (thD (clsOf G w) [x, y, u, v, h])) else .exc ⟨G.c_BadThing, false, [], []⟩ := by
  have e1 := places_all G [x, y, u, v] (by simp)
  simp only [List.map_cons, List.map_nil, List.all_cons, List.all_nil, Bool.and_true] at e1
  have g1 := height_all G h 1
  have ea : (gP x && (gP y && (gP u && gP v))) = (gP x && gP y && gP u && gP v) := by cases gP x <;> cases gP y <;> cases gP u <;> cases gP v <;> rfl
  rw [ea] at e1
  generalize (gP x && gP y && gP u && gP v) = A at *
  generalize gH 1 h = B at *
  unfold φ_stretched s_stretched
  rcases hw with hw | hw | hw <;> subst hw
  · rw [cls_fence]
    by_cases hx : x = u
    · subst hx
      by_cases hy : y = v
      · subst hy
        cases A <;> cases B <;> simp (disch := omega) [e1, g1, init_eq, thD, cutD_nl, nfs, nfh]
      · cases A <;> cases B <;> simp (disch := omega) [e1, g1, init_eq, thD, cutD_nl, hy, nfs, nfh]
    · cases A <;> cases B <;> simp (disch := omega) [e1, g1, init_eq, thD, cutD_nl, hx, nfs, nfh]
  · rw [cls_sail]
    cases A <;> cases B <;> by_cases hx : x < u <;> by_cases hy : y < v <;> simp (disch := omega) [e1, g1, init_eq, thD, cutD_nl, hx, hy, nsf, nsh]
  · rw [cls_house]
    cases A <;> cases B <;> by_cases hx : x < u <;> by_cases hy : y < v <;> simp (disch := omega) [e1, g1, init_eq, thD, cutD_nl, hx, hy, nhf, nhs]
def thOf (G : Gs) (w : Str) (l : List Int) : CR := if good w l = true then .ret (.sh (thD (clsOf G w) l)) else .exc ⟨G.c_BadThing, false, [], []⟩
def npc : ¬ (Str.ofString "post" = Str.ofString "cloth") := by decide
def npf : ¬ (Str.ofString "post" = Str.ofString "fence") := by decide
def nps : ¬ (Str.ofString "post" = Str.ofString "sail") := by decide
def nph : ¬ (Str.ofString "post" = Str.ofString "house") := by decide
def ncp : ¬ (Str.ofString "cloth" = Str.ofString "post") := by decide
def ncf : ¬ (Str.ofString "cloth" = Str.ofString "fence") := by decide
def ncs : ¬ (Str.ofString "cloth" = Str.ofString "sail") := by decide
def nch : ¬ (Str.ofString "cloth" = Str.ofString "house") := by decide
theorem thing_of_all (G : Gs) (w : Str) (l : List Int) : φ_thing_of G [.str w, .lst (l.map .int)] = thOf G w l := by
  unfold φ_thing_of s_thing_of thOf
  by_cases h1 : w = "post"
  · subst h1
    by_cases hl : l.length = 3
    · obtain ⟨p, q, h, rfl⟩ := three hl
      have e1 := places_all G [p, q] (by simp)
      have e2 := height_all G h 1
      simp only [List.map_cons, List.map_nil, List.all_cons, List.all_nil, Bool.and_true] at e1
      have eg : good "post" [p, q, h] = (gP p && gP q && gH 1 h) := by unfold good; rw [if_pos rfl]
      rw [eg, cls_post]
      generalize (gP p && gP q) = A at *
      generalize gH 1 h = B at *
      cases A <;> cases B <;> simp (disch := omega) [e1, e2, init_eq, thD, cutD_nl, npc, in_w, npf, nps, nph]
    · have eg : good "post" l = false := by
        unfold good
        rw [if_pos rfl]
        split
        · simp at hl
        · rfl
      rw [eg]
      simp [show ¬ (l.length : Int) = 3 by omega, npc, in_w, npf, nps, nph]
  · by_cases h2 : w = "cloth"
    · subst h2
      by_cases hl : l.length = 9
      · obtain ⟨a, b, c, d, e, f, g, h, i, rfl⟩ := nine hl
        have e1 := cloth_all G a b c d e f g h i
        have eg : good "cloth" [a, b, c, d, e, f, g, h, i] = ((gP a && gP b && gH 0 c) && (gP d && gP e && gH 0 f) && (gP g && gP h && gH 0 i)) := by unfold good; rw [if_neg (by decide), if_pos rfl]
        rw [eg, cls_cloth]
        generalize ((gP a && gP b && gH 0 c) && (gP d && gP e && gH 0 f) && (gP g && gP h && gH 0 i)) = A at *
        cases A <;> simp [e1, ncp]
      · have eg : good "cloth" l = false := by
          unfold good
          rw [if_neg (by decide), if_pos rfl]
          split
          · simp at hl
          · rfl
        rw [eg]
        simp [show ¬ (l.length : Int) = 9 by omega, ncp, in_w, ncf, ncs, nch]
    · have n1 : ¬ (w = Str.ofString "post") := h1
      have n2 : ¬ (w = Str.ofString "cloth") := h2
      by_cases h3 : w = "fence" ∨ w = "sail" ∨ w = "house"
      · have hin : (decide (w = "fence") || (decide (w = "sail") || decide (w = "house"))) = true := by
          rcases h3 with h | h | h <;> simp [h]
        by_cases hl : l.length = 5
        · obtain ⟨x, y, u, v, h, rfl⟩ := five hl
          have e1 := stretched_all G w h3 x y u v h
          have eg : good w [x, y, u, v, h] = ((gP x && gP y && gP u && gP v && gH 1 h) && ((decide (w = "fence") && (decide (x ≠ u) || decide (y ≠ v))) || ((decide (w = "sail") || decide (w = "house")) && (decide (x < u) && decide (y < v))))) := by
            unfold good
            rw [if_neg h1, if_neg h2]
          rw [eg]
          generalize ((gP x && gP y && gP u && gP v && gH 1 h) && ((decide (w = "fence") && (decide (x ≠ u) || decide (y ≠ v))) || ((decide (w = "sail") || decide (w = "house")) && (decide (x < u) && decide (y < v))))) = A at *
          cases A <;> simp [-Bool.or_eq_true, e1, n1, n2, in_w, hin]
        · have eg : good w l = false := by
            unfold good
            rw [if_neg h1, if_neg h2]
            split
            · simp at hl
            · rfl
          rw [eg]
          simp [-Bool.or_eq_true, n1, n2, in_w, hin, show ¬ (l.length : Int) = 5 by omega]
      · have hin : (decide (w = "fence") || (decide (w = "sail") || decide (w = "house"))) = false := by
          simp only [not_or] at h3
          simp [h3.1, h3.2.1, h3.2.2]
        have eg : good w l = false := by
          simp only [not_or] at h3
          unfold good
          rw [if_neg h1, if_neg h2]
          split
          · rw [decide_eq_false h3.1, decide_eq_false h3.2.1, decide_eq_false h3.2.2]
            simp
          · rfl
        rw [eg]
        simp [-Bool.or_eq_true, n1, n2, in_w, hin]
end My

namespace My
open PySem PySem.Spec L2 DL HU
/-! what a thing shows -/
def W5 (w : Str) : Prop := w = "post" ∨ w = "fence" ∨ w = "sail" ∨ w = "cloth" ∨ w = "house"
theorem num_lenP (x : Int) (h : Pl x) : (num x).length ≤ 11 := num_len (by unfold Pl at h; omega) (by unfold Pl at h; omega)
theorem strD_num (x : Int) (h : Pl x) : strD (.int x) = some (.sh (.str (num x))) := by
  have e : strD (.int x) = if x.natAbs.log2 < 1920 then some (.sh (.str (Str.ofString (toString x)))) else none := rfl
  rw [e, if_pos (log2_small (by decide) (Nat.lt_of_lt_of_le (show x.natAbs < 2 ^ 64 by unfold Pl at h; omega) (Nat.pow_le_pow_right (by decide) (by decide))))]; rfl
theorem bq {a b : Addr} (h : a ≠ b) : (a == b) = false := beq_eq_false_iff_ne.mpr h
theorem good_w {w : Str} {l : List Int} (h : good w l = true) : W5 w ∧ (∀ x ∈ l, Pl x) ∧ l.length ≤ 9 := by
  unfold good at h
  unfold W5 Pl
  split at h
  · rename_i e
    split at h
    · simp only [gP, gH, Bool.and_eq_true, decide_eq_true_eq] at h
      refine ⟨.inl e, ?_, by simp⟩
      simp only [List.mem_cons, List.not_mem_nil, or_false]
      rintro x (hx | hx | hx) <;> subst hx <;> omega
    · cases h
  · split at h
    · rename_i e
      split at h
      · simp only [gP, gH, Bool.and_eq_true, decide_eq_true_eq] at h
        refine ⟨.inr (.inr (.inr (.inl e))), ?_, by simp⟩
        simp only [List.mem_cons, List.not_mem_nil, or_false]
        rintro x (hx | hx | hx | hx | hx | hx | hx | hx | hx) <;> subst hx <;> omega
      · cases h
    · split at h
      · rw [Bool.and_eq_true] at h
        obtain ⟨h1, h2⟩ := h
        simp only [gP, gH, Bool.and_eq_true, decide_eq_true_eq] at h1
        refine ⟨?_, ?_, by simp⟩
        · simp only [Bool.or_eq_true, Bool.and_eq_true] at h2
          rcases h2 with ⟨h2, _⟩ | ⟨h2 | h2, _⟩
          · exact .inr (.inl (of_decide_eq_true h2))
          · exact .inr (.inr (.inl (of_decide_eq_true h2)))
          · exact .inr (.inr (.inr (.inr (of_decide_eq_true h2))))
        · simp only [List.mem_cons, List.not_mem_nil, or_false]
          rintro x (hx | hx | hx | hx | hx) <;> subst hx <;> omega
      · cases h
theorem nshn : ¬ (Str.ofString "shown" = Str.ofString "numbers") := by decide
theorem nwn : ¬ (Str.ofString "word" = Str.ofString "numbers") := by decide
theorem shown_meth (G : Gs) {w : Str} (hw : W5 w) (l : List Int) : methD (tab_shown G) "shown" (thD (clsOf G w) l) = some (φ_Thing_shown G) := by
  rcases hw with h | h | h | h | h <;> subst h
  · simp [methD_ins, thD, nshn, cls_post, List.lookup]
  · simp [methD_ins, thD, nshn, cls_fence, List.lookup, bq G.ne_Fence_Post]
  · simp [methD_ins, thD, nshn, cls_sail, List.lookup, bq G.ne_Sail_Post, bq G.ne_Sail_Fence]
  · simp [methD_ins, thD, nshn, cls_cloth, List.lookup, bq G.ne_Cloth_Post, bq G.ne_Cloth_Fence, bq G.ne_Cloth_Sail]
  · simp [methD_ins, thD, nshn, cls_house, List.lookup, bq G.ne_House_Post, bq G.ne_House_Fence, bq G.ne_House_Sail, bq G.ne_House_Cloth]
theorem word_meth (G : Gs) {w : Str} (hw : W5 w) (l : List Int) : ∃ φ, methD (tab_word G) "word" (thD (clsOf G w) l) = some φ ∧ φ [thD (clsOf G w) l] = .ret (.sh (.str w)) := by
  rcases hw with h | h | h | h | h <;> subst h
  · exact ⟨φ_Post_word G, by simp [methD_ins, thD, nwn, cls_post, List.lookup], by unfold φ_Post_word s_Post_word; simp⟩
  · exact ⟨φ_Fence_word G, by simp [methD_ins, thD, nwn, cls_fence, List.lookup, bq G.ne_Fence_Post], by unfold φ_Fence_word s_Fence_word; simp⟩
  · exact ⟨φ_Sail_word G, by simp [methD_ins, thD, nwn, cls_sail, List.lookup, bq G.ne_Sail_Post, bq G.ne_Sail_Fence], by unfold φ_Sail_word s_Sail_word; simp⟩
  · exact ⟨φ_Cloth_word G, by simp [methD_ins, thD, nwn, cls_cloth, List.lookup, bq G.ne_Cloth_Post, bq G.ne_Cloth_Fence, bq G.ne_Cloth_Sail], by unfold φ_Cloth_word s_Cloth_word; simp⟩
  · exact ⟨φ_House_word G, by simp [methD_ins, thD, nwn, cls_house, List.lookup, bq G.ne_House_Post, bq G.ne_House_Fence, bq G.ne_House_Sail, bq G.ne_House_Cloth], by unfold φ_House_word s_House_word; simp⟩
theorem cls_in (G : Gs) {w : Str} (hw : W5 w) : clsOf G w ∈ [G.c_Post, G.c_Fence, G.c_Sail, G.c_Cloth, G.c_House] := by
  rcases hw with h | h | h | h | h <;> subst h
  · rw [cls_post]; simp
  · rw [cls_fence]; simp
  · rw [cls_sail]; simp
  · rw [cls_cloth]; simp
  · rw [cls_house]; simp
theorem sum_le (l : List Int) (h : ∀ x ∈ l, Pl x) : ((l.map num).map (·.length)).sum ≤ 11 * l.length := by
  induction l with
  | nil => simp
  | cons a l ih =>
    have := num_lenP a (h a List.mem_cons_self)
    have := ih fun x hx => h x (List.mem_cons_of_mem _ hx)
    simp only [List.map_cons, List.sum_cons, List.length_cons]
    omega
theorem w_len {w : Str} (hw : W5 w) : w.length ≤ 5 := by
  rcases hw with h | h | h | h | h <;> subst h <;> decide
theorem text_eq {w : Str} {l : List Int} (hw : W5 w) (hp : ∀ x ∈ l, Pl x) (h9 : l.length ≤ 9) : joinD " " (.lst (.str w :: l.map fun x => .str (num x))) = some (.sh (.str (Txt.join " " (w :: l.map num)))) := by
  have e := joinD_map (a := " ") (l := w :: l.map num) (by
    have h1 := sum_le l hp
    have h2 := w_len hw
    have h3 : (" " : Str).length = 1 := by decide
    simp only [List.map_cons, List.sum_cons, List.length_cons, List.length_map, h3]
    omega)
  rw [List.map_cons, List.map_map] at e
  exact e
theorem shown_eq (G : Gs) {w : Str} {l : List Int} (hw : W5 w) (hp : ∀ x ∈ l, Pl x) (h9 : l.length ≤ 9) : φ_Thing_shown G [thD (clsOf G w) l] = .ret (.sh (.str (Txt.join " " (w :: l.map num)))) := by
  obtain ⟨φ, e1, e2⟩ := word_meth G hw l
  have e3 := text_eq hw hp h9
  have hc := cls_in G hw
  have ec : comp (kName 1) sYes (e_Thing_shown_1 G) [1] (l.map .int) [] [some (.sh (thD (clsOf G w) l)), none] = .ok (.lst ((l.map fun x => D.str (num x)).map .sh)) [some (.sh (thD (clsOf G w) l)), none] := by
    rw [comp_mapA (φ := D.int) (F := fun x => D.str (num x))]
    · simp
    · intro x hx
      simp [e_Thing_shown_1, strD_num x (hp x hx), orStr_i (show x.natAbs.log2 < 1920 from num_small x (by have := hp x hx; unfold Pl at this; omega) (by have := hp x hx; unfold Pl at this; omega)), num]
  have ef : fldD [G.c_Post, G.c_Fence, G.c_Sail, G.c_Cloth, G.c_House] "numbers" (thD (clsOf G w) l) = some (.sh (.tup (l.map .int))) := by
    unfold thD
    rw [fldD_ins, if_pos hc]
    simp [List.lookup]
  generalize thD (clsOf G w) l = d at *
  unfold φ_Thing_shown s_Thing_shown
  have h8 : l.length ≤ 10000000 := by omega
  simp (disch := first | omega | (simp only [List.length_map, List.length_cons, List.length_nil]; omega)) [e1, e2, ef, ec, h8]
  rw [e3]
  simp
theorem eqvs_refl (l : List Int) : eqvs (l.map .int) (l.map .int) = true := by
  induction l with
  | nil => simp
  | cons a l ih => simp [ih]
theorem all_ok (l : List Int) {k : Nat} : (l.map D.int).all (D.ok k) = true := by
  induction l with
  | nil => rfl
  | cons a l ih => simp [ih]
end My

namespace My
open PySem PySem.Spec L2 DL HU
/-! numbers and names as words -/
theorem made_go (G : Gs) (K : Str) (w : D) : ∀ l : List Nat, ∃ ρ', loop (kName 2) (b_made_of_1 G) [2] (l.map fun c => .str ⟨#[c]⟩) [some (.sh w), some (.sh (.str K)), none] = (if (l.all fun c => decide (c ∈ K.cps)) = true then .nx [some (.sh w), some (.sh (.str K)), none] else .rt (.sh (.bl false)) ρ')
  | [] => ⟨[], rfl⟩
  | c :: l => by
    obtain ⟨ρ', e⟩ := made_go G K w l
    by_cases h : c ∈ K.cps
    · refine ⟨ρ', ?_⟩
      rw [List.map_cons, loop_cons, List.all_cons]
      simp only [h, decide_true, Bool.true_and]
      rw [← e]
      simp [b_made_of_1, in_sign, h]
    · refine ⟨[some (.sh w), some (.sh (.str K)), some (.sh (.str ⟨#[c]⟩))], ?_⟩
      rw [List.map_cons, loop_cons, List.all_cons]
      simp [b_made_of_1, in_sign, h]
theorem made_eq (G : Gs) (z K : Str) : φ_made_of G [.str z, .str K] = .ret (.sh (.bl (allIn z K))) := by
  obtain ⟨ρ', e⟩ := made_go G K (.str z) z.cps.toList
  rw [show (z.cps.toList.all fun c => decide (c ∈ K.cps)) = allIn z K from rfl] at e
  have e2 : signsL z = z.cps.toList.map fun c => .str ⟨#[c]⟩ := rfl
  unfold φ_made_of s_made_of
  by_cases h : allIn z K = true
  · rw [if_pos h] at e
    simp [e2, e, h]
  · rw [if_neg h] at e
    simp [e2, e, h]
theorem is_number_eq (G : Gs) (z : Str) (h : z.length ≤ 1000) : φ_is_number G [.str z] = .ret (.sh (.bl (isNum z))) := by
  have hs1 := slD_str (lo := none) (hi := some 1) h
  have hs2 := slD_str (lo := some 1) (hi := none) h
  have hf := cut_len z (some 1) none
  unfold φ_is_number s_is_number isNum fig
  by_cases h1 : z = Str.ofString "0"
  · simp [h1]
  · by_cases h2 : cutS z none (some 1) = Str.ofString "-"
    · rw [if_pos h2]
      generalize cutS z (some 1) none = f at *
      have hl := lenD_str (z := f) (by omega)
      have hm := made_eq G f (Str.ofString "0123456789")
      by_cases a1 : f.length = 0
      · have a3 : ¬ (1 : Int) ≤ f.length := by omega
        simp (disch := omega) [h1, h2, hs1, hs2, hl, a1, core]
      · by_cases a2 : 10 < f.length
        · have a4 : ¬ (f.length : Int) ≤ 10 := by omega
          have a5 : (10 : Int) < f.length := by omega
          have a6 : ¬ f.length ≤ 10 := by omega
          simp (disch := omega) [h1, h2, hs1, hs2, hl, a1, a2, a4, a5, a6, core]
        · have hx := ix0 (z := f) (by omega) (by omega)
          have a3 : (1 : Int) ≤ f.length := by omega
          have a7 : 1 ≤ f.length := by omega
          have a4 : (f.length : Int) ≤ 10 := by omega
          have a6 : f.length ≤ 10 := by omega
          have a5 : ¬ (10 : Int) < f.length := by omega
          simp (disch := omega) [h1, h2, hs1, hs2, hl, hm, hx, a1, a2, a3, a4, a5, a6, a7, okc, core]
    · rw [if_neg h2]
      have hl := lenD_str (z := z) (by omega)
      have hm := made_eq G z (Str.ofString "0123456789")
      by_cases a1 : z.length = 0
      · have a3 : ¬ (1 : Int) ≤ z.length := by omega
        simp (disch := omega) [h1, h2, hs1, hs2, hl, a1, core]
      · by_cases a2 : 10 < z.length
        · have a4 : ¬ (z.length : Int) ≤ 10 := by omega
          have a5 : (10 : Int) < z.length := by omega
          have a6 : ¬ z.length ≤ 10 := by omega
          simp (disch := omega) [h1, h2, hs1, hs2, hl, a1, a2, a4, a5, a6, core]
        · have hx := ix0 (z := z) (by omega) (by omega)
          have a3 : (1 : Int) ≤ z.length := by omega
          have a7 : 1 ≤ z.length := by omega
          have a4 : (z.length : Int) ≤ 10 := by omega
          have a6 : z.length ≤ 10 := by omega
          have a5 : ¬ (10 : Int) < z.length := by omega
          simp (disch := omega) [h1, h2, hs1, hs2, hl, hm, hx, a1, a2, a3, a4, a5, a6, a7, okc, core]
theorem is_name_eq (G : Gs) (z : Str) (h : z.length ≤ 1000) : φ_is_name G [.str z] = .ret (.sh (.bl (isNam z))) := by
  have hl := lenD_str (z := z) (by omega)
  have hm := made_eq G z (Str.ofString "abcdefghijklmnopqrstuvwxyz")
  unfold φ_is_name s_is_name isNam
  by_cases a1 : z.length = 0
  · have a3 : ¬ (1 : Int) ≤ z.length := by omega
    simp (disch := omega) [hl, a1]
  · have a3 : (1 : Int) ≤ z.length := by omega
    have a7 : 1 ≤ z.length := by omega
    by_cases a2 : 8 < z.length
    · have a4 : ¬ (z.length : Int) ≤ 8 := by omega
      have a6 : ¬ z.length ≤ 8 := by omega
      simp (disch := omega) [hl, a1, a3, a4, a6, a7]
    · have a4 : (z.length : Int) ≤ 8 := by omega
      have a6 : z.length ≤ 8 := by omega
      simp (disch := omega) [hl, hm, a1, a3, a4, a6, a7]
theorem numL10 {x : Int} (h : -(10 ^ 10) < x) (h2 : x < 10 ^ 10) : (num x).length ≤ 1000 := by have := num_len h h2; omega
theorem is_number_num (G : Gs) {x : Int} (h : -(10 ^ 10) < x) (h2 : x < 10 ^ 10) : φ_is_number G [.str (num x)] = .ret (.sh (.bl true)) := by
  rw [is_number_eq G _ (numL10 h h2), isNum_num h h2]
theorem orStr_num {x : Int} (h : -(10 ^ 20) < x) (h2 : x < 10 ^ 20) : orC (g1 strD) (g1 strTD) [.int x] = some (.sh (.str (num x))) := orStr_i (num_small x h h2)
theorem orInt_num {x : Int} (h : -(10 ^ 10) < x) (h2 : x < 10 ^ 10) : orC (g1 intD) (g1 intTD) [.str (num x)] = some (.sh (.int x)) := orInt_s (int_numI h h2) (by have := num_len h h2; omega)
end My

namespace My
open PySem PySem.Spec L2 DL HU
/-! rays, days, yards as data -/
abbrev P3 := Int × Int × Int
def p3D (p : P3) : D := .tup [.int p.1, .int p.2.1, .int p.2.2]
theorem p3D_mk (a b c : Int) : p3D (a, b, c) = .tup [.int a, .int b, .int c] := id rfl
def RayOk (r : P3) : Prop := (-1000000 ≤ r.1 ∧ r.1 ≤ 1000000) ∧ (-1000000 ≤ r.2.1 ∧ r.2.1 ≤ 1000000) ∧ 1 ≤ r.2.2 ∧ r.2.2 ≤ 1000000
abbrev Tn := Option P3
def tnD (t : Tn) : D := match t with
  | none => .non
  | some r => p3D r
def TnOk (t : Tn) : Prop := ∀ r, t = some r → RayOk r
structure Dy where
  name : Str
  many : Int
  turns : List Tn
def dyD (d : Dy) : D := .tup [.str d.name, .int d.many, .lst (d.turns.map tnD)]
def DyOk (d : Dy) : Prop := (1 ≤ d.many ∧ d.many ≤ 1000000000) ∧ d.turns.length ≤ 24 ∧ ∀ t ∈ d.turns, TnOk t
def yardD (G : Gs) (w h : Nat) (ts days : List D) : D := .ins G.c_Yard ["width", "height", "things", "days"] [.int w, .int h, .lst ts, .lst days]
theorem yinit2 (G : Gs) (w h : Nat) (ts : List D) (days : List Dy) (hd : days.length ≤ 100) : φ_Yard_init G [.int w, .int h, .lst ts, .lst (days.map dyD)] = some ([Str.ofString "width", Str.ofString "height", Str.ofString "things", Str.ofString "days"], [D.int w, D.int h, D.lst ts, D.lst (days.map dyD)]) := by
  have n1 : ¬ (Str.ofString "height" = Str.ofString "width") := by decide
  have n2 : ¬ (Str.ofString "things" = Str.ofString "width") := by decide
  have n3 : ¬ (Str.ofString "things" = Str.ofString "height") := by decide
  have n4 : ¬ (Str.ofString "days" = Str.ofString "width") := by decide
  have n5 : ¬ (Str.ofString "days" = Str.ofString "height") := by decide
  have n6 : ¬ (Str.ofString "days" = Str.ofString "things") := by decide
  have c := comp_mapV (g := kSeq 3 (kCons (kName 5) (kCons (kName 6) (kCons (kName 7) kNil)))) (f := e_Yard_init_1 G) (is := [5, 6, 7]) (ρ := [none, some (.sh (.int w)), some (.sh (.int h)), some (.sh (.lst ts)), some (.sh (.lst (days.map dyD))), none, none, none]) dyD (fun d => .tup [.sh (.str d.name), .sh (.int d.many), .lst ((d.turns.map tnD).map .sh)]) days [] (fun d hd => by
    unfold dyD
    generalize d.turns.map tnD = T
    simp (disch := omega) [e_Yard_init_1])
  rw [List.nil_append] at c
  have hf : fzs (days.map fun d => Val.tup [.sh (.str d.name), .sh (.int d.many), .lst ((d.turns.map tnD).map .sh)]) = days.map dyD := by
    rw [fzs_map, List.map_map]
    refine List.map_congr_left fun d _ => ?_
    show Val.fz (.tup [.sh (.str d.name), .sh (.int d.many), .lst ((d.turns.map tnD).map .sh)]) = dyD d
    unfold dyD
    generalize d.turns.map tnD = T
    simp
  have hl7 : (days.map dyD).length ≤ 10000000 := by rw [List.length_map]; omega
  unfold φ_Yard_init l_Yard_init
  generalize (days.map fun d => Val.tup [.sh (.str d.name), .sh (.int d.many), .lst ((d.turns.map tnD).map .sh)]) = V at *
  generalize days.map dyD = L at *
  simp [runInit_cons, runInit_nil, n1, n2, n3, n4, n5, n6, c, hf, hl7]
end My

namespace My
open PySem PySem.Spec L2 DL HU
/-! a yard's text is read -/
abbrev Th := Str × List Int
abbrev row (ws : List Str) : Str := Txt.join (Str.ofString " ") ws
def thWs (z : Th) : List Str := z.1 :: z.2.map num
def dyWs (d : Dy) : List Str := [Str.ofString "day", d.name, num d.many]
def tnWs : Tn → List Str
  | none => [Str.ofString "night"]
  | some r => [Str.ofString "ray", num r.1, num r.2.1, num r.2.2]
def szWs (w h : Int) : List Str := [Str.ofString "yard", num w, num h]
def rowsOf (w h : Int) (Z : List Th) (ds : List Dy) : List (List Str) := szWs w h :: (Z.map thWs ++ ds.flatMap fun d => dyWs d :: d.turns.map tnWs)
def txtOf (w h : Int) (Z : List Th) (ds : List Dy) : Str := Txt.join (Str.ofString "\n") ((rowsOf w h Z ds).map row)
def Wd (z : Str) : Prop := z.length ≤ 11 ∧ 32 ∉ z.cps.toList ∧ 10 ∉ z.cps.toList
def RowOk (ws : List Str) : Prop := ws ≠ [] ∧ ws.length ≤ 10 ∧ ∀ z ∈ ws, Wd z
def NmOk (z : Str) : Prop := isNam z = true
def DayOk (d : Dy) : Prop := NmOk d.name ∧ DyOk d ∧ d.turns ≠ []
theorem num_wd {x : Int} (h : -(10 ^ 10) < x) (h2 : x < 10 ^ 10) : Wd (num x) := ⟨num_len h h2, num_free (by decide), num_free (by decide)⟩
theorem let_cps : (Str.ofString "abcdefghijklmnopqrstuvwxyz").cps = #[97, 98, 99, 100, 101, 102, 103, 104, 105, 106, 107, 108, 109, 110, 111, 112, 113, 114, 115, 116, 117, 118, 119, 120, 121, 122] := by decide
theorem nam_wd {z : Str} (h : NmOk z) : Wd z := by
  unfold NmOk isNam at h
  rw [Bool.and_eq_true, Bool.and_eq_true, decide_eq_true_eq, decide_eq_true_eq] at h
  obtain ⟨h1, h2, h3⟩ := h
  unfold allIn at h3
  rw [List.all_eq_true, let_cps] at h3
  refine ⟨by omega, fun k => ?_, fun k => ?_⟩
  · have := h3 32 k
    simp at this
  · have := h3 10 k
    simp at this
theorem w5_wd {w : Str} (h : W5 w) : Wd w := by
  rcases h with h | h | h | h | h <;> subst h <;> unfold Wd <;> decide
theorem thWs_ok {z : Th} (h : good z.1 z.2 = true) : RowOk (thWs z) := by
  obtain ⟨h1, h2, h3⟩ := good_w h
  refine ⟨by simp [thWs], by simp [thWs]; omega, fun x hx => ?_⟩
  rcases List.mem_cons.mp hx with hx | hx
  · subst hx; exact w5_wd h1
  · obtain ⟨n, hn, rfl⟩ := List.mem_map.mp hx
    have := h2 n hn
    unfold Pl at this
    exact num_wd (by omega) (by omega)
theorem dyWs_ok {d : Dy} (h : NmOk d.name) (h1 : DyOk d) : RowOk (dyWs d) := by
  obtain ⟨⟨h2, h3⟩, _⟩ := h1
  refine ⟨by simp [dyWs], by simp [dyWs], fun x hx => ?_⟩
  simp only [dyWs, List.mem_cons, List.not_mem_nil, or_false] at hx
  rcases hx with rfl | rfl | rfl
  · unfold Wd; decide
  · exact nam_wd h
  · exact num_wd (by omega) (by omega)
theorem tnWs_ok {t : Tn} (h : TnOk t) : RowOk (tnWs t) := by
  cases t with
  | none =>
    refine ⟨by simp [tnWs], by simp [tnWs], fun x hx => ?_⟩
    simp only [tnWs, List.mem_cons, List.not_mem_nil, or_false] at hx
    subst hx; unfold Wd; decide
  | some r =>
    obtain ⟨⟨r1, r2⟩, ⟨r3, r4⟩, r5, r6⟩ := h r rfl
    refine ⟨by simp [tnWs], by simp [tnWs], fun x hx => ?_⟩
    simp only [tnWs, List.mem_cons, List.not_mem_nil, or_false] at hx
    rcases hx with rfl | rfl | rfl | rfl
    · unfold Wd; decide
    · exact num_wd (by omega) (by omega)
    · exact num_wd (by omega) (by omega)
    · exact num_wd (by omega) (by omega)
theorem szWs_ok {w h : Int} (h1 : 0 ≤ w) (h2 : w ≤ 20) (h3 : 0 ≤ h) (h4 : h ≤ 20) : RowOk (szWs w h) := by
  refine ⟨by simp [szWs], by simp [szWs], fun x hx => ?_⟩
  simp only [szWs, List.mem_cons, List.not_mem_nil, or_false] at hx
  rcases hx with rfl | rfl | rfl
  · unfold Wd; decide
  · exact num_wd (by omega) (by omega)
  · exact num_wd (by omega) (by omega)
theorem sum_le_mul {l : List Str} {k : Nat} (h : ∀ z ∈ l, z.length ≤ k) : (l.map (·.length)).sum ≤ k * l.length := by
  induction l with
  | nil => simp
  | cons a l ih =>
    have h1 := h a List.mem_cons_self
    have h2 := ih fun z hz => h z (List.mem_cons_of_mem _ hz)
    simp only [List.map_cons, List.sum_cons, List.length_cons, Nat.mul_add, Nat.mul_one]
    omega
theorem row_len {ws : List Str} (h : RowOk ws) : (row ws).length ≤ 130 := by
  obtain ⟨_, h2, h3⟩ := h
  have e1 := join_len (Str.ofString " ") ws
  have e2 := sum_le_mul (l := ws) (k := 11) fun z hz => (h3 z hz).1
  have e3 : (Str.ofString " ").length = 1 := by decide
  rw [e3] at e1
  unfold row
  omega
theorem row_free {ws : List Str} (h : RowOk ws) : 10 ∉ (row ws).cps.toList := join_free (by decide) fun p hp => (h.2.2 p hp).2.2
theorem split_row {ws : List Str} (h : RowOk ws) : splitD (row ws) (Str.ofString " ") = some (.lst ((ws.map D.str).map .sh)) := by
  have hl := row_len h
  unfold splitD
  exact splitD_on (c := 32) (by decide) (by decide) h.1 (fun p hp => (h.2.2 p hp).2.1) (by unfold row at hl; omega)
theorem rows_len {R : List (List Str)} (h : ∀ r ∈ R, RowOk r) (hl : R.length ≤ 1000) : (Txt.join (Str.ofString "\n") (R.map row)).length ≤ 200000 := by
  have e1 := join_len (Str.ofString "\n") (R.map row)
  have e2 := sum_le_mul (l := R.map row) (k := 130) fun z hz => by
    obtain ⟨r, hr, rfl⟩ := List.mem_map.mp hz
    exact row_len (h r hr)
  have e3 : (Str.ofString "\n").length = 1 := by decide
  rw [e3] at e1
  rw [List.length_map] at e1 e2
  omega
theorem split_rows {R : List (List Str)} (h0 : R ≠ []) (h : ∀ r ∈ R, RowOk r) (hl : R.length ≤ 1000) : splitD (Txt.join (Str.ofString "\n") (R.map row)) (Str.ofString "\n") = some (.lst (((R.map row).map D.str).map .sh)) := by
  have hb := rows_len h hl
  unfold splitD
  refine splitD_on (c := 10) (by decide) (by decide) (by simpa using h0) (fun p hp => ?_) (by omega)
  obtain ⟨r, hr, rfl⟩ := List.mem_map.mp hp
  exact row_free (h r hr)
/-! ### the parts -/
theorem numbers_eq (G : Gs) (l : List Int) (hb : ∀ x ∈ l, -(10 ^ 10) < x ∧ x < 10 ^ 10) (hl : l.length ≤ 100) (at0 : D) : φ_numbers_of G [.lst (l.map fun x => .str (num x)), at0] = .ret (.sh (.lst (l.map .int))) := by
  have lp : loop (kName 2) (b_numbers_of_1 G) [2] (l.map fun x => D.str (num x)) [some (.sh (.lst (l.map fun x => .str (num x)))), some (.sh at0), none] = .nx [some (.sh (.lst (l.map fun x => .str (num x)))), some (.sh at0), none] := loop_same2 fun d hd => by
    obtain ⟨x, hx, rfl⟩ := List.mem_map.mp hd
    have q := is_number_num G (hb x hx).1 (hb x hx).2
    simp [b_numbers_of_1, q]
  have ec := comp_mapA (g := kName 2) (f := e_numbers_of_2 G) (is := [2]) (ρ := [some (.sh (.lst (l.map fun x => .str (num x)))), some (.sh at0), none]) (fun x : Int => D.str (num x)) D.int l [] (fun x hx => by
    have q := orInt_num (hb x hx).1 (hb x hx).2
    simp [e_numbers_of_2, q])
  have hll : (l.map fun x => D.str (num x)).length ≤ 10000000 := by rw [List.length_map]; omega
  unfold φ_numbers_of s_numbers_of
  generalize (l.map fun x => D.str (num x)) = L at *
  generalize l.map D.int = M at *
  simp (disch := omega) [lp, ec, hll]
theorem size_eq2 (G : Gs) {w h : Int} (h1 : 1 ≤ w) (h2 : w ≤ 20) (h3 : 1 ≤ h) (h4 : h ≤ 20) : φ_size_of G [.str (row (szWs w h))] = .ret (.sh (.tup [.int w, .int h])) := by
  have e1 := split_row (szWs_ok (w := w) (h := h) (by omega) h2 (by omega) h4)
  have e2 := numbers_eq G [w, h] (by simp; omega) (by simp) (.int 0)
  simp only [szWs, List.map_cons, List.map_nil] at e1 e2
  unfold φ_size_of s_size_of
  rw [show row (szWs w h) = row [Str.ofString "yard", num w, num h] from rfl]
  generalize row [Str.ofString "yard", num w, num h] = r at *
  simp (disch := omega) [e1, e2, cutD_ln, h1, h2, h3, h4]
theorem thing_by_eq (G : Gs) {z : Th} (hz : good z.1 z.2 = true) (ts : List D) (ht : ts.length < 40) (at0 : D) : φ_thing_by G [.lst ((thWs z).map .str), .scr ts, .scr [], at0] = .ret (.sh (thD (clsOf G z.1) z.2)) := by
  obtain ⟨h1, h2, h3⟩ := good_w hz
  have e1 := numbers_eq G z.2 (fun x hx => by have := h2 x hx; unfold Pl at this; omega) (by omega) at0
  have e2 := thing_of_all G z.1 z.2
  unfold thOf at e2
  rw [if_pos hz] at e2
  have e3 : (thWs z).map D.str = .str z.1 :: z.2.map fun x => .str (num x) := by simp [thWs, List.map_map]
  rw [e3]
  have e4 : cutD (.str z.1 :: z.2.map fun x => D.str (num x)) (some 1) none = z.2.map fun x => .str (num x) := by rw [cutD_ln (by decide)]; rfl
  have n40 : ¬ (ts.length : Int) = 40 := by omega
  unfold φ_thing_by s_thing_by
  generalize (z.2.map fun x => D.str (num x)) = L at *
  generalize z.2.map D.int = M at *
  generalize thD (clsOf G z.1) z.2 = d at *
  simp (disch := omega) [e1, e2, e4, n40, sTryE_ap]
def dyL (d : Dy) : D := .tup [.str d.name, .int d.many, .scr (d.turns.map tnD)]
def dyV (d : Dy) : Val := .tup [.sh (.str d.name), .sh (.int d.many), .lst ((d.turns.map tnD).map .sh)]
end My

namespace My
open PySem PySem.Spec L2 DL HU
/-! the days, and the whole text -/
theorem in_none (s : Str) (l : List Str) (h : s ∉ l) : inD false (.str s) (.lst (l.map .str)) = some (.sh (.bl false)) := by
  have e : inD false (.str s) (.lst (l.map .str)) = if D.ok 20 (.str s) && (l.map D.str).all (D.ok 19) then some (.sh (.bl (false != (l.map D.str).any fun y => y.eqv (.str s)))) else none := by
    have e0 : inD false (.str s) (.lst (l.map .str)) = match (if D.ok 20 (.str s) && (l.map D.str).all (D.ok 19) then some (Val.sh (.bl (false != (l.map D.str).any fun y => y.eqv (.str s)))) else none) with | some x => some x | none => inS false (.str s) (.lst (l.map .str)) := rfl
    have e1 : inS false (.str s) (.lst (l.map .str)) = none := by
      unfold inS
      split
      · rename_i h1 h2; cases h2
      · rfl
    rw [e0, e1]
    cases (if D.ok 20 (.str s) && (l.map D.str).all (D.ok 19) then some (Val.sh (.bl (false != (l.map D.str).any fun y => y.eqv (.str s)))) else none) <;> rfl
  have e1 : (l.map D.str).all (D.ok 19) = true := by rw [List.all_map, List.all_eq_true]; exact fun _ _ => rfl
  have e2 : ((l.map D.str).any fun y => y.eqv (.str s)) = false := by
    rw [List.any_map, List.any_eq_false]
    intro x hx
    have : ¬ x = s := fun z => h (by rw [← z]; exact hx)
    simp [this]
  have e3 : D.ok 20 (.str s) = true := rfl
  rw [e, e1, e2, e3]; rfl
theorem tn_ok (t : Tn) : D.ok 17 (tnD t) = true ∧ D.ok 18 (tnD t) = true ∧ D.ok 19 (tnD t) = true := by
  cases t with
  | none => exact ⟨rfl, rfl, rfl⟩
  | some r => obtain ⟨a, b, c⟩ := r; exact ⟨rfl, rfl, rfl⟩
theorem dyL_ok (e : Dy) : D.ok 19 (dyL e) = true := by
  have h : (e.turns.map tnD).all (D.ok 17) = true := by
    rw [List.all_eq_true]
    intro x hx
    obtain ⟨t, _, rfl⟩ := List.mem_map.mp hx
    exact (tn_ok t).1
  have e1 : D.ok 19 (dyL e) = (e.turns.map tnD).all (D.ok 17) := by
    have : D.ok 19 (dyL e) = (true && (true && ((e.turns.map tnD).all (D.ok 17) && true))) := rfl
    rw [this]; simp
  rw [e1, h]
theorem scr_last (pre : List D) (d : D) : ixD (.scr (pre ++ [d])) (.int (-1)) = some (.sh d) := by
  have e : ixD (.scr (pre ++ [d])) (.int (-1)) = match (atI (pre ++ [d]) (-1)).map Val.sh with | some x => some x | none => none := rfl
  have e2 : atI (pre ++ [d]) (-1) = some d := by
    unfold atI ixN
    have e1 : ((pre ++ [d]).length : Int) = (pre.length : Int) + 1 := by simp
    rw [e1, if_neg (by decide), if_pos (by omega)]
    show (pre ++ [d])[((pre.length : Int) + 1 + -1).toNat]? = some d
    have e3 : ((pre.length : Int) + 1 + -1).toNat = pre.length := by omega
    rw [e3, List.getElem?_append_right (by omega), Nat.sub_self]; rfl
  rw [e, e2]; rfl
theorem lst_last (pre : List D) (d : D) : ixD (.lst (pre ++ [d])) (.int (-1)) = some (.sh d) := by
  have e : ixD (.lst (pre ++ [d])) (.int (-1)) = match (atI (pre ++ [d]) (-1)).map Val.sh with | some x => some x | none => none := rfl
  have e2 : atI (pre ++ [d]) (-1) = some d := by
    unfold atI ixN
    have e1 : ((pre ++ [d]).length : Int) = (pre.length : Int) + 1 := by simp
    rw [e1, if_neg (by decide), if_pos (by omega)]
    show (pre ++ [d])[((pre.length : Int) + 1 + -1).toNat]? = some d
    have e3 : ((pre.length : Int) + 1 + -1).toNat = pre.length := by omega
    rw [e3, List.getElem?_append_right (by omega), Nat.sub_self]; rfl
  rw [e, e2]; rfl
/-- the last day as it is seen under a lock -/
theorem last_day2 (pre : List Dy) (e : Dy) : ixD (.scr ((pre ++ [e]).map dyL)) (.int (-1)) = some (.sh (dyL e)) ∧ (.scr ((pre ++ [e]).map dyL) : D).eqv (.lst []) = false := by
  refine ⟨?_, ?_⟩
  · rw [List.map_append]; exact scr_last _ _
  · cases q : (pre ++ [e]).map dyL with
    | nil => rw [List.map_append] at q; simp at q
    | cons a b => exact eqv_scr1
theorem last_day {ds : List Dy} (h : ds ≠ []) : ∃ pre e, ds = pre ++ [e] ∧ ixD (.scr (ds.map dyL)) (.int (-1)) = some (.sh (dyL e)) ∧ (.scr (ds.map dyL) : D).eqv (.lst []) = false := by
  rcases List.eq_nil_or_concat ds with h0 | ⟨pre, e, h0⟩
  · exact absurd h0 h
  · rw [List.concat_eq_append] at h0
    subst h0
    exact ⟨pre, e, rfl, last_day2 pre e⟩
theorem day_of_eq (G : Gs) {d : Dy} (hn : NmOk d.name) (hd : DyOk d) (ds : List Dy) (hl : ds.length < 12) (hne : d.name ∉ ds.map (·.name)) (hlast : ∀ e ∈ ds, e.turns ≠ []) (at0 : D) :
    φ_day_of G [.lst ((dyWs d).map .str), .scr (ds.map dyL), at0] = .ret (dyV { d with turns := [] }) := by
  obtain ⟨⟨m1, m2⟩, _⟩ := hd
  have e1 := numbers_eq G [d.many] (by simp; omega) (by simp) at0
  have e2 : φ_is_name G [.str d.name] = .ret (.sh (.bl true)) := by
    rw [is_name_eq G _ (by have := (nam_wd hn).1; omega), show isNam d.name = true from hn]
  have n12 : ¬ (ds.length : Int) = 12 := by omega
  have ec := comp_mapA (g := kName 4) (f := e_day_of_1 G) (is := [4]) (ρ := [some (.sh (.lst ((dyWs d).map .str))), some (.sh (.scr (ds.map dyL))), some (.sh at0), some (.sh (.int d.many)), none]) dyL (fun e => D.str e.name) ds [] (fun e _ => by
    unfold dyL
    generalize e.turns.map tnD = T
    simp [e_day_of_1])
  have ein := in_none d.name (ds.map (·.name)) hne
  rw [List.map_map] at ein
  have ec : comp (kName 4) sYes (e_day_of_1 G) [4] (ds.map dyL) [] _ = .ok (.lst (((ds.map fun e => D.str e.name)).map .sh)) _ := ec
  have ein : inD false (.str d.name) (.lst (ds.map fun e => D.str e.name)) = some (.sh (.bl false)) := ein
  have ew : (dyWs d).map D.str = [.str (Str.ofString "day"), .str d.name, .str (num d.many)] := rfl
  rw [ew] at ec ⊢
  have hll : (ds.map dyL).length ≤ 10000000 := by rw [List.length_map]; omega
  have hle : (ds.map dyL).length = ds.length := List.length_map _
  have hlds : ds.length ≤ 10000000 := by omega
  simp only [List.map_cons, List.map_nil] at e1
  have edv : dyV { d with turns := [] } = .tup [.sh (.str d.name), .sh (.int d.many), .lst []] := rfl
  rw [edv]
  have okd : (∀ x, x ∈ ds.map dyL → D.ok 19 x = true) = True := eq_true fun x hx => by
    obtain ⟨e, _, rfl⟩ := List.mem_map.mp hx
    exact dyL_ok e
  by_cases h0 : ds = []
  · subst h0
    simp only [List.map_nil] at ec ein hll ⊢
    unfold φ_day_of s_day_of
    simp (disch := omega) [e1, e2, ec, ein, cutD_ln, m1, m2]
  · obtain ⟨pre, e, h1, hlst, nz⟩ := last_day h0
    have ht : e.turns ≠ [] := hlast e (by rw [h1]; simp)
    obtain ⟨t0, ts0, htt⟩ : ∃ t0 ts0, e.turns = t0 :: ts0 := by
      cases q : e.turns with
      | nil => exact absurd q ht
      | cons a b => exact ⟨_, _, rfl⟩
    have hdl : dyL e = .tup [.str e.name, .int e.many, .scr (tnD t0 :: ts0.map tnD)] := by unfold dyL; rw [htt]; rfl
    rw [hdl] at hlst
    have okt := (tn_ok t0).2.2
    have okts : (∀ x, x ∈ ts0.map tnD → D.ok 19 x = true) = True := eq_true fun x hx => by
      obtain ⟨t, _, rfl⟩ := List.mem_map.mp hx
      exact (tn_ok t).2.2
    generalize ds.map dyL = DL at *
    generalize (ds.map fun e => D.str e.name) = NL at *
    generalize ts0.map tnD = TL at *
    generalize tnD t0 = T0 at *
    unfold φ_day_of s_day_of
    simp (disch := omega) [e1, e2, ec, ein, cutD_ln, m1, m2, hle, n12, hll, hlst, nz, okd, okt, okts, hlds]
theorem is_ray_eq2 (G : Gs) {r : P3} (h : RayOk r) : φ_is_ray G [p3D r] = .ret (.sh (.bl true)) := by
  obtain ⟨a, b, c⟩ := r
  obtain ⟨⟨r1, r2⟩, ⟨r3, r4⟩, r5, r6⟩ := h
  simp only at r1 r2 r3 r4 r5 r6
  unfold φ_is_ray s_is_ray
  have h1 : (if a < 0 then -a else a) ≤ 1000000 := by split <;> omega
  have h2 : (if b < 0 then -b else b) ≤ 1000000 := by split <;> omega
  simp (disch := omega) [p3D_mk, h1, h2, r5, r6]
  omega
theorem turn_of_eq2 (G : Gs) {t : Tn} (ht : TnOk t) (pre : List Dy) (e : Dy) (hl : e.turns.length < 24) (at0 : D) :
    φ_turn_of G [.lst ((tnWs t).map .str), .scr ((pre ++ [e]).map dyL), at0] = .ret (.sh (tnD t)) := by
  obtain ⟨hlst, nz⟩ := last_day2 pre e
  have hle : ¬ (((e.turns.map tnD).length : Nat) : Int) = 24 := by
    rw [List.length_map]; omega
  generalize pre ++ [e] = ds at *
  have okd : (∀ x, x ∈ ds.map dyL → D.ok 19 x = true) = True := eq_true fun x hx => by
    obtain ⟨e, _, rfl⟩ := List.mem_map.mp hx
    exact dyL_ok e
  unfold dyL at hlst
  have q := fun r (hr : RayOk r) => numbers_eq G [r.1, r.2.1, r.2.2] (by obtain ⟨⟨r1, r2⟩, ⟨r3, r4⟩, r5, r6⟩ := hr; simp; omega) (by simp) at0
  have q2 := fun r (hr : RayOk r) => is_ray_eq2 G hr
  have hdl : (ds.map fun d => D.tup [.str d.name, .int d.many, .scr (d.turns.map tnD)]) = ds.map dyL := rfl
  rw [hdl] at hlst
  generalize e.turns.map tnD = TL at *
  generalize ds.map dyL = DL at *
  cases t with
  | none =>
    unfold φ_turn_of s_turn_of
    simp (disch := omega) [tnWs, nz, okd, hlst, hle, tnD]
  | some r =>
    have hr := ht r rfl
    have q := q r hr
    have q2 := q2 r hr
    obtain ⟨a, b, c⟩ := r
    simp only [List.map_cons, List.map_nil] at q
    rw [p3D_mk] at q2
    unfold φ_turn_of s_turn_of
    simp (disch := omega) [tnWs, nz, okd, hlst, hle, q, q2, cutD_ln, tnD, p3D_mk]
end My

namespace My
open PySem PySem.Spec L2 DL HU
/-! the rows, one by one -/
theorem dyV_deep (d : Dy) : (dyV d).deep = true := by
  unfold dyV
  generalize d.turns.map tnD = T
  simp
theorem dyV_lk (d : Dy) : (dyV d).lk = dyL d := by
  unfold dyV dyL
  generalize d.turns.map tnD = T
  simp
theorem lks_dyV (ds : List Dy) : lks (ds.map dyV) = ds.map dyL := by
  rw [lks_map, List.map_map]
  exact List.map_congr_left fun d _ => dyV_lk d
theorem deep_dyV (ds : List Dy) : ((ds.map dyV).all Val.deep) = true := by
  rw [List.all_map, List.all_eq_true]
  exact fun d _ => dyV_deep d
theorem fz_dyV (d : Dy) : (dyV d).fz = dyD d := by
  unfold dyV dyD
  generalize d.turns.map tnD = T
  simp
theorem thD_cln (C : Addr) (l : List Int) : (thD C l).cln = true := by
  unfold thD
  have h : ∀ x ∈ l.map D.int, D.cln x = true := fun x hx => by
    obtain ⟨n, _, rfl⟩ := List.mem_map.mp hx
    simp
  simp
theorem tnD_cln (t : Tn) : (tnD t).cln = true := by
  cases t with
  | none => simp [tnD]
  | some r => obtain ⟨a, b, c⟩ := r; simp [tnD, p3D_mk]
theorem edit_last (pre : List Val) (a b y : Val) (ys : List Val) (h : ys.length < 10000000) : editA (appE y) [-1, 2] (.lst (pre ++ [.tup [a, b, .lst ys]])) = some (.lst (pre ++ [.tup [a, b, .lst (ys ++ [y])]])) := by
  have e1 : ixN (pre ++ [Val.tup [a, b, .lst ys]]).length (-1) = some pre.length := by
    unfold ixN
    have e1 : ((pre ++ [Val.tup [a, b, .lst ys]]).length : Int) = (pre.length : Int) + 1 := by simp
    rw [e1, if_neg (by decide), if_pos (by omega)]
    congr 1
    omega
  have e2 : (pre ++ [Val.tup [a, b, .lst ys]])[pre.length]? = some (.tup [a, b, .lst ys]) := by
    rw [List.getElem?_append_right (by omega), Nat.sub_self]; rfl
  have e3 : editA (appE y) [2] (.tup [a, b, .lst ys]) = some (.tup [a, b, .lst (ys ++ [y])]) := by
    have e4 : editA (appE y) [] (.lst ys) = some (.lst (ys ++ [y])) := by
      unfold editA appE
      rw [if_pos h]; rfl
    have e5 : editA (appE y) [2] (.tup [a, b, .lst ys]) = (editA (appE y) [] (.lst ys)).map fun z => .tup [a, b, z] := rfl
    rw [e5, e4]; rfl
  have e6 : editA (appE y) [-1, 2] (.lst (pre ++ [.tup [a, b, .lst ys]])) = (ixN (pre ++ [Val.tup [a, b, .lst ys]]).length (-1)).bind fun k => ((pre ++ [Val.tup [a, b, .lst ys]])[k]?).bind fun x => (editA (appE y) [2] x).map fun z => .lst ((pre ++ [Val.tup [a, b, .lst ys]]).set k z) := rfl
  rw [e6, e1]
  simp only [Option.bind_some, e2, e3, Option.map_some]
  rw [List.set_append_right _ _ (by omega), Nat.sub_self]; rfl
section
variable (G : Gs) (txt : D) (R : List (List Str)) (w h : Int)
def stR (ts : List D) (ds : List Dy) : DEnv := [some (.sh txt), some (.sh (.lst ((R.map row).map .str))), some (.sh (.int w)), some (.sh (.int h)), some (.lst (ts.map .sh)), some (.lst (ds.map dyV)), none, none, none]
theorem row_at {k : Nat} {ws : List Str} (hk : R[k]? = some ws) : ((R.map row).map D.str)[k]? = some (.str (row ws)) := by
  rw [List.getElem?_map, List.getElem?_map, hk]; rfl
theorem step_thing {k : Nat} {z : Th} (hk : R[k]? = some (thWs z)) (hz : good z.1 z.2 = true) (ts : List D) (ht : ts.length < 40) :
    (lpK (kName 6 (.int (k : Int)) (stR txt R w h ts [])) fun ρ1 => flp (b_read_yard_1 G ρ1) (fun ρ2 => .nx (forget [7, 8, 6] ρ2)) fun _ => .bad) = .nx (stR txt R w h (ts ++ [thD (clsOf G z.1) z.2]) []) := by
  obtain ⟨hw5, _, _⟩ := good_w hz
  have n1 : ¬ z.1 = Str.ofString "day" := by rcases hw5 with e | e | e | e | e <;> rw [e] <;> decide
  have n2 : ¬ z.1 = Str.ofString "ray" := by rcases hw5 with e | e | e | e | e <;> rw [e] <;> decide
  have n3 : ¬ z.1 = Str.ofString "night" := by rcases hw5 with e | e | e | e | e <;> rw [e] <;> decide
  have e1 := split_row (thWs_ok hz)
  have e2 := thing_by_eq G hz ts ht (.int (k : Int))
  have cl := thD_cln (clsOf G z.1) z.2
  obtain ⟨hiL, gL⟩ := List.getElem?_eq_some_iff.mp (row_at R hk)
  have ew : (thWs z).map D.str = .str z.1 :: (z.2.map num).map .str := rfl
  rw [ew] at e1 e2
  have l7 : ts.length < 10000000 := by omega
  unfold stR
  rw [List.map_append]
  generalize (R.map row).map D.str = RL at *
  generalize row (thWs z) = rw0 at *
  generalize (z.2.map num).map D.str = NL at *
  generalize thD (clsOf G z.1) z.2 = d at *
  simp (disch := first | omega | (simp only [List.length_map]; omega)) [b_read_yard_1, gL, e1, e2, n1, n2, n3, cl, l7]
theorem step_day {k : Nat} {d : Dy} (hk : R[k]? = some (dyWs d)) (hn : NmOk d.name) (hd : DyOk d) (ts : List D) (ds : List Dy) (hl : ds.length < 12) (hne : d.name ∉ ds.map (·.name)) (hlast : ∀ e ∈ ds, e.turns ≠ []) :
    (lpK (kName 6 (.int (k : Int)) (stR txt R w h ts ds)) fun ρ1 => flp (b_read_yard_1 G ρ1) (fun ρ2 => .nx (forget [7, 8, 6] ρ2)) fun _ => .bad) = .nx (stR txt R w h ts (ds ++ [{ d with turns := [] }])) := by
  have e1 := split_row (dyWs_ok hn hd)
  have e2 := day_of_eq G hn hd ds hl hne hlast (.int (k : Int))
  have cl : (dyV { d with turns := [] }).cln = true := by unfold dyV; simp
  obtain ⟨hiL, gL⟩ := List.getElem?_eq_some_iff.mp (row_at R hk)
  have ew : (dyWs d).map D.str = [.str (Str.ofString "day"), .str d.name, .str (num d.many)] := rfl
  rw [ew] at e1 e2
  have l7 : ds.length < 10000000 := by omega
  have lkd := lks_dyV ds
  have dpd := List.all_eq_true.mp (deep_dyV ds)
  have dpd : (∀ x, x ∈ ds.map dyV → x.deep = true) = True := eq_true dpd
  have lld : (ds.map dyV).length = ds.length := List.length_map _
  unfold stR
  rw [List.map_append]
  have es : [({ d with turns := [] } : Dy)].map dyV = [dyV { d with turns := [] }] := rfl
  rw [es]
  generalize (R.map row).map D.str = RL at *
  generalize row (dyWs d) = rw0 at *
  generalize ds.map dyV = DV at *
  generalize ds.map dyL = DL at *
  generalize dyV { d with turns := [] } = nd at *
  simp (disch := first | omega | (simp only [List.length_map]; omega)) [b_read_yard_1, gL, e1, e2, cl, l7, lkd, dpd, lld]
theorem step_turn {k : Nat} {t : Tn} (hk : R[k]? = some (tnWs t)) (ht : TnOk t) (ts : List D) (pre : List Dy) (e : Dy) (hle : e.turns.length < 24) :
    (lpK (kName 6 (.int (k : Int)) (stR txt R w h ts (pre ++ [e]))) fun ρ1 => flp (b_read_yard_1 G ρ1) (fun ρ2 => .nx (forget [7, 8, 6] ρ2)) fun _ => .bad) = .nx (stR txt R w h ts (pre ++ [{ e with turns := e.turns ++ [t] }])) := by
  have e1 := split_row (tnWs_ok ht)
  have e2 := turn_of_eq2 G ht pre e hle (.int (k : Int))
  have cl := tnD_cln t
  obtain ⟨hiL, gL⟩ := List.getElem?_eq_some_iff.mp (row_at R hk)
  have lkd := lks_dyV (pre ++ [e])
  have dpd := List.all_eq_true.mp (deep_dyV (pre ++ [e]))
  have dpd : (∀ x, x ∈ (pre ++ [e]).map dyV → x.deep = true) = True := eq_true dpd
  have ed : (pre ++ [e]).map dyV = pre.map dyV ++ [.tup [.sh (.str e.name), .sh (.int e.many), .lst ((e.turns.map tnD).map .sh)]] := by rw [List.map_append]; rfl
  have ed2 : (pre ++ [({ e with turns := e.turns ++ [t] } : Dy)]).map dyV = pre.map dyV ++ [.tup [.sh (.str e.name), .sh (.int e.many), .lst ((e.turns.map tnD).map .sh ++ [.sh (tnD t)])]] := by
    rw [List.map_append]
    have : [({ e with turns := e.turns ++ [t] } : Dy)].map dyV = [.tup [.sh (.str e.name), .sh (.int e.many), .lst (((e.turns ++ [t]).map tnD).map .sh)]] := rfl
    rw [this, List.map_append, List.map_append]; rfl
  have ea := edit_last (pre.map dyV) (.sh (.str e.name)) (.sh (.int e.many)) (.sh (tnD t)) ((e.turns.map tnD).map .sh) (by simp; omega)
  rw [← ed, ← ed2] at ea
  have hy : ∀ (x0 x1 x2 x3 x4 x5 x6 x7 : Option Val), yV 8 [x0, x1, x2, x3, x4, x5, x6, x7, some (.sh (tnD t))] = some (.sh (tnD t)) := fun _ _ _ _ _ _ _ _ => rfl
  have hw : (tnWs t).map D.str = [.str (Str.ofString "night")] ∨ ∃ a b c, (tnWs t).map D.str = [.str (Str.ofString "ray"), a, b, c] := by
    cases t with
    | none => exact .inl rfl
    | some r => exact .inr ⟨_, _, _, rfl⟩
  unfold stR
  generalize (R.map row).map D.str = RL at *
  generalize row (tnWs t) = rw0 at *
  generalize (pre ++ [e]).map dyL = DL at *
  generalize (pre ++ [e]).map dyV = DV at *
  generalize (pre ++ [({ e with turns := e.turns ++ [t] } : Dy)]).map dyV = DV2 at *
  generalize tnD t = T0 at *
  have n1 : ¬ (Str.ofString "night" = Str.ofString "day") := by decide
  have n2 : ¬ (Str.ofString "ray" = Str.ofString "day") := by decide
  have n3 : ¬ (Str.ofString "night" = Str.ofString "ray") := by decide
  rcases hw with hw | ⟨a, b, c, hw⟩
  · rw [hw] at e1 e2
    simp (disch := first | omega | (simp only [List.length_map]; omega)) [b_read_yard_1, gL, e1, e2, cl, lkd, dpd, hy, ea, n1, n2, n3]
  · rw [hw] at e1 e2
    simp (disch := first | omega | (simp only [List.length_map]; omega)) [b_read_yard_1, gL, e1, e2, cl, lkd, dpd, hy, ea, n1, n2, n3]
/-! ### all rows -/
theorem drop_get {α : Type} {l : List α} {k : Nat} {a : α} {r : List α} (h : l.drop k = a :: r) : l[k]? = some a ∧ l.drop (k + 1) = r := by
  have e : (l.drop k)[0]? = some a := by rw [h]; rfl
  rw [List.getElem?_drop, Nat.add_zero] at e
  refine ⟨e, ?_⟩
  have : l.drop (k + 1) = (l.drop k).drop 1 := by rw [List.drop_drop]
  rw [this, h]; rfl
theorem go_things : ∀ (Z : List Th) (k : Nat) (rest : List (List Str)) (ts : List D), R.drop k = Z.map thWs ++ rest → (∀ z ∈ Z, good z.1 z.2 = true) → ts.length + Z.length ≤ 40 →
    loop (kName 6) (b_read_yard_1 G) [7, 8, 6] (rangeL (k : Int) (Z.length + rest.length)) (stR txt R w h ts []) = loop (kName 6) (b_read_yard_1 G) [7, 8, 6] (rangeL ((k + Z.length : Nat) : Int) rest.length) (stR txt R w h (ts ++ Z.map fun z => thD (clsOf G z.1) z.2) [])
  | [], k, rest, ts, _, _, _ => by simp
  | z :: Z, k, rest, ts, hd, hg, hl => by
    obtain ⟨e1, e2⟩ := drop_get (show R.drop k = thWs z :: (Z.map thWs ++ rest) from hd)
    have hs := step_thing G txt R w h e1 (hg z List.mem_cons_self) ts (by simp only [List.length_cons] at hl; omega)
    have ih := go_things Z (k + 1) rest (ts ++ [thD (clsOf G z.1) z.2]) e2 (fun x hx => hg x (List.mem_cons_of_mem _ hx)) (by simp only [List.length_cons, List.length_append, List.length_nil] at hl ⊢; omega)
    have er : (z :: Z).length + rest.length = (Z.length + rest.length) + 1 := by simp only [List.length_cons]; omega
    rw [er, rangeL_s, loop_one hs]
    have ek : (k : Int) + 1 = ((k + 1 : Nat) : Int) := by omega
    rw [ek, ih, List.append_assoc]
    congr 2
    simp only [List.length_cons]; omega
theorem go_turns : ∀ (T : List Tn) (k : Nat) (rest : List (List Str)) (ts : List D) (pre : List Dy) (e : Dy), R.drop k = T.map tnWs ++ rest → (∀ t ∈ T, TnOk t) → e.turns.length + T.length ≤ 24 →
    loop (kName 6) (b_read_yard_1 G) [7, 8, 6] (rangeL (k : Int) (T.length + rest.length)) (stR txt R w h ts (pre ++ [e])) = loop (kName 6) (b_read_yard_1 G) [7, 8, 6] (rangeL ((k + T.length : Nat) : Int) rest.length) (stR txt R w h ts (pre ++ [{ e with turns := e.turns ++ T }]))
  | [], k, rest, ts, pre, e, _, _, _ => by simp
  | t :: T, k, rest, ts, pre, e, hd, hg, hl => by
    obtain ⟨e1, e2⟩ := drop_get (show R.drop k = tnWs t :: (T.map tnWs ++ rest) from hd)
    have hs := step_turn G txt R w h e1 (hg t List.mem_cons_self) ts pre e (by simp only [List.length_cons] at hl; omega)
    have ih := go_turns T (k + 1) rest ts pre { e with turns := e.turns ++ [t] } e2 (fun x hx => hg x (List.mem_cons_of_mem _ hx)) (by simp only [List.length_cons, List.length_append, List.length_nil] at hl ⊢; omega)
    have er : (t :: T).length + rest.length = (T.length + rest.length) + 1 := by simp only [List.length_cons]; omega
    rw [er, rangeL_s, loop_one hs]
    have ek : (k : Int) + 1 = ((k + 1 : Nat) : Int) := by omega
    rw [ek, ih]
    have et : ({ e with turns := e.turns ++ [t] } : Dy).turns ++ T = e.turns ++ (t :: T) := by simp
    rw [et]
    congr 2
    simp only [List.length_cons]; omega
theorem go_days : ∀ (ds : List Dy) (k : Nat) (ts : List D) (pre : List Dy), (R.drop k = ds.flatMap fun d => dyWs d :: d.turns.map tnWs) → (∀ d ∈ ds, DayOk d) → (∀ d ∈ pre, d.turns ≠ []) → ((pre ++ ds).map (·.name)).Nodup → pre.length + ds.length ≤ 12 →
    loop (kName 6) (b_read_yard_1 G) [7, 8, 6] (rangeL (k : Int) (R.drop k).length) (stR txt R w h ts pre) = .nx (stR txt R w h ts (pre ++ ds))
  | [], k, ts, pre, hd, _, _, _, _ => by
    rw [hd]
    simp
  | d :: ds, k, ts, pre, hd, hg, hp, hn, hl => by
    obtain ⟨h1, h2, h3⟩ := hg d List.mem_cons_self
    have hd' : R.drop k = dyWs d :: (d.turns.map tnWs ++ ds.flatMap fun d => dyWs d :: d.turns.map tnWs) := by
      rw [hd, List.flatMap_cons]; rfl
    obtain ⟨e1, e2⟩ := drop_get hd'
    have hnd : d.name ∉ pre.map (·.name) := by
      rw [List.map_append, List.map_cons] at hn
      intro hm
      exact (List.nodup_append.mp hn).2.2 _ hm _ List.mem_cons_self rfl
    have hs := step_day G txt R w h e1 h1 h2 ts pre (by simp only [List.length_cons] at hl; omega) hnd hp
    have lk : (R.drop k).length = (R.drop (k + 1)).length + 1 := by rw [hd', e2]; rfl
    rw [lk, rangeL_s, loop_one hs]
    have ek : (k : Int) + 1 = ((k + 1 : Nat) : Int) := by omega
    rw [ek, e2, List.length_append, List.length_map]
    have gt := go_turns G txt R w h d.turns (k + 1) (ds.flatMap fun d => dyWs d :: d.turns.map tnWs) ts pre { d with turns := [] } e2 h2.2.2 (by simp; exact h2.2.1)
    rw [gt]
    have ed : ({ ({ d with turns := [] } : Dy) with turns := ({ d with turns := [] } : Dy).turns ++ d.turns } : Dy) = d := by cases d; rfl
    rw [ed]
    have e3 : R.drop (k + 1 + d.turns.length) = ds.flatMap fun d => dyWs d :: d.turns.map tnWs := by
      have : R.drop (k + 1 + d.turns.length) = (R.drop (k + 1)).drop d.turns.length := by rw [List.drop_drop]
      rw [this, e2, List.drop_left' (by rw [List.length_map])]
    have ih := go_days ds (k + 1 + d.turns.length) ts (pre ++ [d]) e3 (fun x hx => hg x (List.mem_cons_of_mem _ hx)) (fun x hx => by
      rcases List.mem_append.mp hx with hx | hx
      · exact hp x hx
      · rw [List.mem_singleton.mp hx]; exact h3) (by rw [List.append_assoc]; exact hn) (by simp only [List.length_cons, List.length_append, List.length_nil] at hl ⊢; omega)
    rw [e3] at ih
    rw [ih, List.append_assoc]; rfl
end
theorem rowsOf_ok {w h : Int} (h1 : 1 ≤ w) (h2 : w ≤ 20) (h3 : 1 ≤ h) (h4 : h ≤ 20) {Z : List Th} (hZ : ∀ z ∈ Z, good z.1 z.2 = true) {ds : List Dy} (hd : ∀ d ∈ ds, DayOk d) : ∀ r ∈ rowsOf w h Z ds, RowOk r := fun r hr => by
  unfold rowsOf at hr
  rcases List.mem_cons.mp hr with hr | hr
  · subst hr; exact szWs_ok (by omega) h2 (by omega) h4
  · rcases List.mem_append.mp hr with hr | hr
    · obtain ⟨z, hz, rfl⟩ := List.mem_map.mp hr
      exact thWs_ok (hZ z hz)
    · obtain ⟨d, hd1, hr⟩ := List.mem_flatMap.mp hr
      obtain ⟨k1, k2, k3⟩ := hd d hd1
      rcases List.mem_cons.mp hr with hr | hr
      · subst hr; exact dyWs_ok k1 k2
      · obtain ⟨t, ht, rfl⟩ := List.mem_map.mp hr
        exact tnWs_ok (k2.2.2 t ht)
theorem rowsOf_len {w h : Int} {Z : List Th} (hZ : Z.length ≤ 40) : ∀ {ds : List Dy}, (∀ d ∈ ds, DayOk d) → ds.length ≤ 12 → (rowsOf w h Z ds).length ≤ 341 := fun {ds} hd hl => by
  have key : ∀ ds : List Dy, (∀ d ∈ ds, DayOk d) → (ds.flatMap fun d => dyWs d :: d.turns.map tnWs).length ≤ 25 * ds.length := fun ds => by
    induction ds with
    | nil => simp
    | cons d ds ih =>
      intro h
      have h1 := ih fun x hx => h x (List.mem_cons_of_mem _ hx)
      have h2 := (h d List.mem_cons_self).2.1.2.1
      rw [List.flatMap_cons, List.length_append, List.length_cons, List.length_map, List.length_cons]
      omega
  have := key ds hd
  unfold rowsOf
  rw [List.length_cons, List.length_append, List.length_map]
  omega
structure YardOk (w h : Nat) (Z : List Th) (ds : List Dy) : Prop where
  w1 : 1 ≤ w
  w2 : w ≤ 20
  h1 : 1 ≤ h
  h2 : h ≤ 20
  zs : ∀ z ∈ Z, good z.1 z.2 = true
  zl : Z.length ≤ 40
  dy : ∀ d ∈ ds, DayOk d
  dl : ds.length ≤ 12
  nm : (ds.map (·.name)).Nodup
theorem read_yard_eq (G : Gs) {w h : Nat} {Z : List Th} {ds : List Dy} (Y : YardOk w h Z ds) : φ_read_yard G [.str (txtOf w h Z ds)] = .ret (.sh (yardD G w h (Z.map fun z => thD (clsOf G z.1) z.2) (ds.map dyD))) := by
  have hR := rowsOf_ok (w := (w : Int)) (h := (h : Int)) (by have := Y.w1; omega) (by have := Y.w2; omega) (by have := Y.h1; omega) (by have := Y.h2; omega) Y.zs Y.dy
  have hRl := rowsOf_len (w := (w : Int)) (h := (h : Int)) Y.zl Y.dy Y.dl
  have e1 := split_rows (R := rowsOf w h Z ds) (by simp [rowsOf]) hR (by omega)
  have e2 := size_eq2 G (w := (w : Int)) (h := (h : Int)) (by have := Y.w1; omega) (by have := Y.w2; omega) (by have := Y.h1; omega) (by have := Y.h2; omega)
  have lp := go_things G (.str (txtOf w h Z ds)) (rowsOf w h Z ds) w h Z 1 (ds.flatMap fun d => dyWs d :: d.turns.map tnWs) [] rfl Y.zs (by simp; exact Y.zl)
  have d1 : (rowsOf (w : Int) h Z ds).drop (1 + Z.length) = ds.flatMap fun d => dyWs d :: d.turns.map tnWs := by
    have : (rowsOf (w : Int) h Z ds).drop (1 + Z.length) = (Z.map thWs ++ ds.flatMap fun d => dyWs d :: d.turns.map tnWs).drop Z.length := by
      rw [Nat.add_comm]; rfl
    rw [this, List.drop_left' (by rw [List.length_map])]
  have lp2 := go_days G (.str (txtOf w h Z ds)) (rowsOf w h Z ds) w h ds (1 + Z.length) ([] ++ Z.map fun z => thD (clsOf G z.1) z.2) [] d1 Y.dy (by simp) (by simpa using Y.nm) (by simp; exact Y.dl)
  rw [d1] at lp2
  rw [lp2] at lp
  simp only [List.nil_append] at lp
  have rl : Z.length + (ds.flatMap fun d => dyWs d :: d.turns.map tnWs).length = ((((rowsOf (w : Int) h Z ds).map row).map D.str).length : Int) - 1 := by
    unfold rowsOf
    simp only [List.map_cons, List.length_cons, List.length_map, List.map_append, List.length_append]
    omega
  have nz : (.lst (ds.map dyD) : D).eqv (.lst []) = decide (ds = []) := by
    cases ds with
    | nil => rfl
    | cons a b => simp
  have iy := yinit2 G w h (Z.map fun z => thD (clsOf G z.1) z.2) ds (by have := Y.dl; omega)
  have fd : fzs (ds.map dyV) = ds.map dyD := by
    rw [fzs_map, List.map_map]
    exact List.map_congr_left fun d _ => fz_dyV d
  have okd : (∀ x, x ∈ ds.map dyD → D.ok 19 x = true) = True := eq_true fun x hx => by
    obtain ⟨e, _, rfl⟩ := List.mem_map.mp hx
    have h : (e.turns.map tnD).all (D.ok 17) = true := by
      rw [List.all_eq_true]
      intro x hx
      obtain ⟨t, _, rfl⟩ := List.mem_map.mp hx
      exact (tn_ok t).1
    have e1 : D.ok 19 (dyD e) = (e.turns.map tnD).all (D.ok 17) := by
      have : D.ok 19 (dyD e) = (true && (true && ((e.turns.map tnD).all (D.ok 17) && true))) := rfl
      rw [this]; simp
    rw [e1, h]
  unfold stR at lp
  have eR : (((rowsOf (w : Int) h Z ds).map row).map D.str) = .str (row (szWs w h)) :: ((Z.map thWs ++ ds.flatMap fun d => dyWs d :: d.turns.map tnWs).map row).map D.str := rfl
  have hrl : ((((rowsOf (w : Int) h Z ds).map row).map D.str).length : Int) - 1 = ((Z.length + (ds.flatMap fun d => dyWs d :: d.turns.map tnWs).length : Nat) : Int) := by omega
  have htn : ((((((rowsOf (w : Int) h Z ds).map row).map D.str).length : Nat) : Int) - 1).toNat = Z.length + (ds.flatMap fun d => dyWs d :: d.turns.map tnWs).length := by omega
  have hRb : ((((rowsOf (w : Int) h Z ds).map row).map D.str).length : Int) ≤ 341 := by
    rw [List.length_map, List.length_map]; omega
  have g0 : (((rowsOf (w : Int) h Z ds).map row).map D.str)[0]? = some (.str (row (szWs w h))) := rfl
  obtain ⟨hi0, g0⟩ := List.getElem?_eq_some_iff.mp g0
  have ety : txtOf w h Z ds = Txt.join (Str.ofString "\n") ((rowsOf w h Z ds).map row) := rfl
  rw [ety] at lp ⊢
  have hyD : yardD G w h (Z.map fun z => thD (clsOf G z.1) z.2) (ds.map dyD) = .ins G.c_Yard [Str.ofString "width", Str.ofString "height", Str.ofString "things", Str.ofString "days"] [.int w, .int h, .lst (Z.map fun z => thD (clsOf G z.1) z.2), .lst (ds.map dyD)] := rfl
  rw [hyD]
  have hlast : ds = [] ∨ ∃ (n : Str) (m : Int) (t0 : D) (T : List D), ixD (.lst (ds.map dyD)) (.int (-1)) = some (.sh (.tup [.str n, .int m, .lst (t0 :: T)])) ∧ D.ok 19 t0 = true ∧ (∀ x, x ∈ T → D.ok 19 x = true) ∧ ds ≠ [] := by
    by_cases h0 : ds = []
    · exact .inl h0
    · obtain ⟨pre, e, h1, _, _⟩ := last_day h0
      have ht := (Y.dy e (by rw [h1]; simp)).2.2
      obtain ⟨t0, ts0, htt⟩ : ∃ t0 ts0, e.turns = t0 :: ts0 := by
        cases q : e.turns with
        | nil => exact absurd q ht
        | cons a b => exact ⟨_, _, rfl⟩
      refine .inr ⟨e.name, e.many, tnD t0, ts0.map tnD, ?_, (tn_ok t0).2.2, fun x hx => ?_, h0⟩
      · have e1 : dyD e = .tup [.str e.name, .int e.many, .lst (tnD t0 :: ts0.map tnD)] := by unfold dyD; rw [htt]; rfl
        rw [h1, List.map_append, ← e1]
        exact lst_last _ _
      · obtain ⟨t, _, rfl⟩ := List.mem_map.mp hx
        exact (tn_ok t).2.2
  clear e1 rl hrl hR hRl lp2 d1
  have e1 := split_rows (R := rowsOf w h Z ds) (by simp [rowsOf]) (rowsOf_ok (w := (w : Int)) (h := (h : Int)) (by have := Y.w1; omega) (by have := Y.w2; omega) (by have := Y.h1; omega) (by have := Y.h2; omega) Y.zs Y.dy) (by have := rowsOf_len (w := (w : Int)) (h := (h : Int)) Y.zl Y.dy Y.dl; omega)
  generalize Txt.join (Str.ofString "\n") ((rowsOf w h Z ds).map row) = TX at *
  generalize (((rowsOf (w : Int) h Z ds).map row).map D.str) = RL at *
  generalize row (szWs w h) = r0 at *
  generalize (ds.flatMap fun d => dyWs d :: d.turns.map tnWs) = FM at *
  generalize hTS : (Z.map fun z => thD (clsOf G z.1) z.2) = TS at *
  have lp : loop (kName 6) (b_read_yard_1 G) [7, 8, 6] (rangeL 1 (Z.length + FM.length)) [some (.sh (.str TX)), some (.sh (.lst RL)), some (.sh (.int w)), some (.sh (.int h)), some (.lst []), some (.lst []), none, none, none] = .nx [some (.sh (.str TX)), some (.sh (.lst RL)), some (.sh (.int w)), some (.sh (.int h)), some (.lst (TS.map .sh)), some (.lst (ds.map dyV)), none, none, none] := lp
  unfold φ_read_yard s_read_yard
  rcases hlast with h0 | ⟨n, m, t0, T, hl1, hl2, hl3, h0⟩
  · subst h0
    simp only [List.map_nil] at lp iy fd
    simp (disch := omega) [e1, g0, e2, htn, hRb, lp, iy]
  · have h0' : decide (ds = []) = false := decide_eq_false h0
    rw [h0'] at nz
    have hl3 := eq_true hl3
    generalize ds.map dyV = DV at *
    generalize ds.map dyD = DL at *
    simp (disch := omega) [e1, g0, e2, htn, hRb, lp, fd, nz, okd, hl1, hl2, hl3, iy]
end My

namespace My
open PySem PySem.Spec L2 DL HU
/-! a yard is shown -/
theorem join1 (a : Str) : Txt.join (Str.ofString " ") [a] = a := by
  rw [TL.join_eq]; rfl
theorem join_cons (a b : Str) (l : List Str) : Txt.join (Str.ofString " ") (a :: b :: l) = a ++ Str.ofString " " ++ Txt.join (Str.ofString " ") (b :: l) := by
  rw [TL.join_eq, TL.join_eq]; rfl
theorem app_ext (a b : Str) : (a ++ b).cps.toList = a.cps.toList ++ b.cps.toList := TL.tl_append a b
theorem sz_row (a b : Str) : Str.ofString "yard " ++ a ++ Str.ofString " " ++ b = row [Str.ofString "yard", a, b] := by
  unfold row
  rw [join_cons, join_cons, join1]
  refine str_ext ?_
  have e : (Str.ofString "yard ").cps.toList = (Str.ofString "yard").cps.toList ++ (Str.ofString " ").cps.toList := by decide
  simp only [app_ext, e, List.append_assoc]
theorem dy_row (a b : Str) : Str.ofString "day " ++ a ++ Str.ofString " " ++ b = row [Str.ofString "day", a, b] := by
  unfold row
  rw [join_cons, join_cons, join1]
  refine str_ext ?_
  have e : (Str.ofString "day ").cps.toList = (Str.ofString "day").cps.toList ++ (Str.ofString " ").cps.toList := by decide
  simp only [app_ext, e, List.append_assoc]
theorem join_words {ws : List Str} (h : RowOk ws) : joinD (Str.ofString " ") (.lst (ws.map .str)) = some (.sh (.str (row ws))) := by
  refine joinD_map ?_
  have e2 := sum_le_mul (l := ws) (k := 11) fun z hz => (h.2.2 z hz).1
  have e3 : (Str.ofString " ").length = 1 := by decide
  rw [e3]
  have := h.2.1
  omega
theorem show_turn_eq (G : Gs) {t : Tn} (ht : TnOk t) : φ_show_turn G [tnD t] = .ret (.sh (.str (row (tnWs t)))) := by
  have ej := join_words (tnWs_ok ht)
  cases t with
  | none =>
    have e : row (tnWs none) = Str.ofString "night" := join1 _
    rw [e]
    unfold φ_show_turn s_show_turn
    simp [tnD]
  | some r =>
    obtain ⟨⟨r1, r2⟩, ⟨r3, r4⟩, r5, r6⟩ := ht r rfl
    have q := fun x (h1 : -(10 ^ 10) < x) (h2 : x < 10 ^ 10) => orStr_num (x := x) (by omega) (by omega)
    have ec := comp_mapA (g := kName 1) (f := e_show_turn_1 G) (is := [1]) (ρ := [some (.sh (tnD (some r))), none]) D.int (fun x => D.str (num x)) [r.1, r.2.1, r.2.2] [] (fun x hx => by
      have hb : -(10 ^ 10) < x ∧ x < 10 ^ 10 := by
        simp only [List.mem_cons, List.not_mem_nil, or_false] at hx
        rcases hx with rfl | rfl | rfl <;> omega
      have q := q x hb.1 hb.2
      simp [e_show_turn_1, q])
    obtain ⟨a, b, c⟩ := r
    have ej : joinD (Str.ofString " ") (.lst [.str (Str.ofString "ray"), .str (num a), .str (num b), .str (num c)]) = some (.sh (.str (row (tnWs (some (a, b, c)))))) := ej
    have ec : comp (kName 1) sYes (e_show_turn_1 G) [1] [.int a, .int b, .int c] [] [some (.sh (.tup [.int a, .int b, .int c])), none] = .ok (.lst [.sh (.str (num a)), .sh (.str (num b)), .sh (.str (num c))]) [some (.sh (.tup [.int a, .int b, .int c])), none] := ec
    have ad : addD (.lst [.str (Str.ofString "ray")]) (.lst [.str (num a), .str (num b), .str (num c)]) = some (.lst [.sh (.str (Str.ofString "ray")), .sh (.str (num a)), .sh (.str (num b)), .sh (.str (num c))]) := addD_lst (by simp)
    generalize row (tnWs (some (a, b, c))) = rw0 at *
    unfold φ_show_turn s_show_turn
    simp [tnD, p3D_mk, ec, ad, ej]
def strV (l : List Str) : List Val := l.map fun z => .sh (.str z)
theorem strV_app (a b : List Str) : strV (a ++ b) = strV a ++ strV b := List.map_append
theorem strV_len (a : List Str) : (strV a).length = a.length := List.length_map _
def dyRows (d : Dy) : List Str := row (dyWs d) :: d.turns.map fun t => row (tnWs t)
theorem name_len {d : Dy} (h : DayOk d) : d.name.length ≤ 8 := by
  have h := h.1
  unfold NmOk isNam at h
  rw [Bool.and_eq_true, Bool.and_eq_true, decide_eq_true_eq, decide_eq_true_eq] at h
  exact h.2.1
theorem show_day (G : Gs) (y : D) {d : Dy} (hd : DayOk d) (rs : List Str) (hl : rs.length ≤ 100000) :
    (lpK (kSeq 3 (kCons (kName 2) (kCons (kName 3) (kCons (kName 4) kNil))) (dyD d) [some (.sh y), some (.lst (strV rs)), none, none, none, none, none]) fun ρ1 => flp (b_show_yard_3 G ρ1) (fun ρ2 => .nx (forget [2, 3, 4] ρ2)) fun _ => .bad) = .nx [some (.sh y), some (.lst (strV (rs ++ dyRows d))), none, none, none, none, none] := by
  have nl := name_len hd
  obtain ⟨k1, ⟨⟨m1, m2⟩, l24, ht⟩, _⟩ := hd
  have q := orStr_num (x := d.many) (by omega) (by omega)
  have nm := num_len (x := d.many) (by omega) (by omega)
  have ec := comp_mapA (g := kName 6) (f := e_show_yard_2 G) (is := [6]) (ρ := [some (.sh y), some (.lst (strV (rs ++ [row (dyWs d)]))), some (.sh (.str d.name)), some (.sh (.int d.many)), some (.sh (.lst (d.turns.map tnD))), none, none]) tnD (fun t => D.str (row (tnWs t))) d.turns [] (fun t h => by
    have q := show_turn_eq G (ht t h)
    generalize row (tnWs t) = rw0 at *
    generalize d.turns.map tnD = T at *
    generalize strV (rs ++ [row (dyWs d)]) = RS at *
    simp [e_show_yard_2, q])
  rw [List.nil_append] at ec
  have er : strV (rs ++ dyRows d) = strV (rs ++ [row (dyWs d)]) ++ (d.turns.map fun t => D.str (row (tnWs t))).map .sh := by
    unfold dyRows
    rw [show rs ++ row (dyWs d) :: d.turns.map (fun t => row (tnWs t)) = (rs ++ [row (dyWs d)]) ++ d.turns.map (fun t => row (tnWs t)) by simp, strV_app]
    congr 1
    unfold strV
    rw [List.map_map, List.map_map]; rfl
  have e4 : (Str.ofString "day ").length = 4 := by decide
  have e1 : (Str.ofString " ").length = 1 := by decide
  have s1 : addD (.str (Str.ofString "day ")) (.str d.name) = some (.sh (.str (Str.ofString "day " ++ d.name))) := addD_str (by omega)
  have s2 : addD (.str (Str.ofString "day " ++ d.name)) (.str (Str.ofString " ")) = some (.sh (.str (Str.ofString "day " ++ d.name ++ Str.ofString " "))) := addD_str (by rw [app_len]; omega)
  have s3 : addD (.str (Str.ofString "day " ++ d.name ++ Str.ofString " ")) (.str (num d.many)) = some (.sh (.str (Str.ofString "day " ++ d.name ++ Str.ofString " " ++ num d.many))) := addD_str (by rw [app_len, app_len]; omega)
  rw [dy_row] at s3
  have ew : row (dyWs d) = row [Str.ofString "day", d.name, num d.many] := rfl
  rw [ew] at ec er
  have ea : strV (rs ++ [row [Str.ofString "day", d.name, num d.many]]) = strV rs ++ [.sh (.str (row [Str.ofString "day", d.name, num d.many]))] := strV_app _ _
  have l7 : (strV rs).length < 10000000 := by rw [strV_len]; omega
  have tl : (d.turns.map tnD).length ≤ 10000000 := by rw [List.length_map]; omega
  have l8 : (strV rs).length + 1 + (d.turns.map fun t => D.str (row (tnWs t))).length < 10000000 := by rw [strV_len, List.length_map]; omega
  rw [er]
  rw [ea] at ec ⊢
  unfold dyD
  generalize (d.turns.map fun t => D.str (row (tnWs t))) = TS at *
  generalize d.turns.map tnD = T at *
  generalize Str.ofString "day " ++ d.name ++ Str.ofString " " = z2 at *
  generalize Str.ofString "day " ++ d.name = z1 at *
  generalize row [Str.ofString "day", d.name, num d.many] = rw0 at *
  generalize strV rs = RS at *
  simp (disch := omega) [b_show_yard_3, q, s1, s2, s3, l7, ec, tl, l8]
theorem strV_fz (l : List Str) : fzs (strV l) = l.map .str := by
  unfold strV
  rw [fzs_map, List.map_map]; rfl
theorem join_rows {R : List (List Str)} (h : ∀ r ∈ R, RowOk r) (hl : R.length ≤ 1000) : joinD (Str.ofString "\n") (.lst ((R.map row).map .str)) = some (.sh (.str (Txt.join (Str.ofString "\n") (R.map row)))) := by
  refine joinD_map ?_
  have e2 := sum_le_mul (l := R.map row) (k := 130) fun z hz => by
    obtain ⟨r, hr, rfl⟩ := List.mem_map.mp hz
    exact row_len (h r hr)
  have e3 : (Str.ofString "\n").length = 1 := by decide
  rw [e3, List.length_map]
  rw [List.length_map] at e2
  omega
theorem show_yard_eq (G : Gs) {w h : Nat} {Z : List Th} {ds : List Dy} (Y : YardOk w h Z ds) : φ_show_yard G [yardD G w h (Z.map fun z => thD (clsOf G z.1) z.2) (ds.map dyD)] = .ret (.sh (.str (txtOf w h Z ds))) := by
  have w2 := Y.w2
  have h2 := Y.h2
  have hR := rowsOf_ok (w := (w : Int)) (h := (h : Int)) (by have := Y.w1; omega) (by omega) (by have := Y.h1; omega) (by omega) Y.zs Y.dy
  have hRl := rowsOf_len (w := (w : Int)) (h := (h : Int)) Y.zl Y.dy Y.dl
  have ej := join_rows hR (by omega)
  have q1 := orStr_num (x := (w : Int)) (by omega) (by omega)
  have q2 := orStr_num (x := (h : Int)) (by omega) (by omega)
  have n1 := num_len (x := (w : Int)) (by omega) (by omega)
  have n2 := num_len (x := (h : Int)) (by omega) (by omega)
  have e5 : (Str.ofString "yard ").length = 5 := by decide
  have e1 : (Str.ofString " ").length = 1 := by decide
  have s1 : addD (.str (Str.ofString "yard ")) (.str (num w)) = some (.sh (.str (Str.ofString "yard " ++ num w))) := addD_str (by omega)
  have s2 : addD (.str (Str.ofString "yard " ++ num w)) (.str (Str.ofString " ")) = some (.sh (.str (Str.ofString "yard " ++ num w ++ Str.ofString " "))) := addD_str (by rw [app_len]; omega)
  have s3 : addD (.str (Str.ofString "yard " ++ num w ++ Str.ofString " ")) (.str (num h)) = some (.sh (.str (Str.ofString "yard " ++ num w ++ Str.ofString " " ++ num h))) := addD_str (by rw [app_len, app_len]; omega)
  rw [sz_row] at s3
  obtain ⟨yv, hyv⟩ : ∃ yv, yardD G w h (Z.map fun z => thD (clsOf G z.1) z.2) (ds.map dyD) = yv := ⟨_, rfl⟩
  have f1 : fldD [G.c_Yard] "width" yv = some (.sh (.int w)) := by rw [← hyv]; unfold yardD; rw [fldD_ins, if_pos (by simp)]; rfl
  have f2 : fldD [G.c_Yard] "height" yv = some (.sh (.int h)) := by rw [← hyv]; unfold yardD; rw [fldD_ins, if_pos (by simp)]; rfl
  have f3 : fldD [G.c_Yard] "things" yv = some (.sh (.lst (Z.map fun z => thD (clsOf G z.1) z.2))) := by rw [← hyv]; unfold yardD; rw [fldD_ins, if_pos (by simp)]; rfl
  have f4 : fldD [G.c_Yard] "days" yv = some (.sh (.lst (ds.map dyD))) := by rw [← hyv]; unfold yardD; rw [fldD_ins, if_pos (by simp)]; rfl
  have ec := comp_mapA (g := kName 5) (f := e_show_yard_1 G) (is := [5]) (ρ := [some (.sh yv), some (.lst (strV [row (szWs w h)])), none, none, none, none, none]) (fun z : Th => thD (clsOf G z.1) z.2) (fun z => D.str (row (thWs z))) Z [] (fun z hz => by
    obtain ⟨g1, g2, g3⟩ := good_w (Y.zs z hz)
    have m1 := shown_meth G g1 z.2
    have m2 := shown_eq G g1 g2 g3
    have er : Txt.join (Str.ofString " ") (z.1 :: z.2.map num) = row (thWs z) := rfl
    have m2 : φ_Thing_shown G [thD (clsOf G z.1) z.2] = .ret (.sh (.str (row (thWs z)))) := m2
    generalize thD (clsOf G z.1) z.2 = d at *
    generalize row (thWs z) = rw0 at *
    generalize strV [row (szWs w h)] = RS at *
    simp [e_show_yard_1, m1, m2])
  rw [List.nil_append] at ec
  have key : ∀ (l : List Dy) (rs : List Str), (∀ d ∈ l, DayOk d) → rs.length + 25 * l.length ≤ 100000 →
      loop (kSeq 3 (kCons (kName 2) (kCons (kName 3) (kCons (kName 4) kNil)))) (b_show_yard_3 G) [2, 3, 4] (l.map dyD) [some (.sh yv), some (.lst (strV rs)), none, none, none, none, none] = .nx [some (.sh yv), some (.lst (strV (rs ++ l.flatMap dyRows))), none, none, none, none, none] := fun l => by
    induction l with
    | nil => intro rs _ _; simp
    | cons d l ih =>
      intro rs hd hl
      have h1 := show_day G yv (hd d List.mem_cons_self) rs (by simp only [List.length_cons] at hl; omega)
      have h24 := (hd d List.mem_cons_self).2.1.2.1
      have h3 := ih (rs ++ dyRows d) (fun x hx => hd x (List.mem_cons_of_mem _ hx)) (by
        simp only [List.length_cons] at hl
        rw [List.length_append]
        unfold dyRows
        rw [List.length_cons, List.length_map]
        omega)
      rw [List.map_cons, loop_one h1, h3, List.flatMap_cons, List.append_assoc]
  have lp := key ds ([row (szWs w h)] ++ Z.map fun z => row (thWs z)) Y.dy (by
    have := Y.zl
    have := Y.dl
    rw [List.length_append, List.length_map, List.length_singleton]; omega)
  have eR : ([row (szWs w h)] ++ Z.map fun z => row (thWs z)) ++ ds.flatMap dyRows = (rowsOf w h Z ds).map row := by
    unfold rowsOf
    rw [List.map_cons, List.map_append, List.map_map, List.map_flatMap, List.singleton_append, List.cons_append]
    congr 2
    refine congrArg (fun f => ds.flatMap f) ?_
    funext d
    unfold dyRows
    rw [List.map_cons, List.map_map]; rfl
  rw [eR] at lp
  have fz := strV_fz ((rowsOf w h Z ds).map row)
  have lz : (Z.map fun z => D.str (row (thWs z))).length ≤ 40 := by rw [List.length_map]; exact Y.zl
  have lzt : (Z.map fun z => thD (clsOf G z.1) z.2).length ≤ 10000000 := by rw [List.length_map]; have := Y.zl; omega
  have es : strV ([row (szWs w h)] ++ Z.map fun z => row (thWs z)) = strV [row (szWs w h)] ++ (Z.map fun z => D.str (row (thWs z))).map .sh := by
    rw [strV_app]
    congr 1
    unfold strV
    rw [List.map_map, List.map_map]; rfl
  rw [es] at lp
  have e0 : strV [row (szWs w h)] = [.sh (.str (row [Str.ofString "yard", num w, num h]))] := rfl
  rw [e0] at lp ec
  have ety : txtOf w h Z ds = Txt.join (Str.ofString "\n") ((rowsOf w h Z ds).map row) := rfl
  rw [ety, hyv]
  generalize Txt.join (Str.ofString "\n") ((rowsOf w h Z ds).map row) = TX at *
  generalize hrs : (rowsOf w h Z ds).map row = RS at *
  generalize (Z.map fun z => thD (clsOf G z.1) z.2) = TS at *
  generalize (Z.map fun z => D.str (row (thWs z))) = ZS at *
  generalize ds.map dyD = DL at *
  generalize Str.ofString "yard " ++ num w ++ Str.ofString " " = z2 at *
  generalize Str.ofString "yard " ++ num w = z1 at *
  generalize row [Str.ofString "yard", num w, num h] = r0 at *
  have l8 : 1 + ZS.length < 10000000 := by omega
  unfold φ_show_yard s_show_yard
  generalize strV RS = RV at *
  generalize RS.map D.str = RD at *
  simp only [List.cons_append, List.nil_append] at lp
  simp (disch := first | omega | (simp only [List.length_map, List.length_cons, List.length_nil]; omega)) [f1, f2, f3, f4, q1, q2, s1, s2, s3, ec, lzt, l8, lp, fz, ej]
end My

namespace My
open PySem PySem.Spec L2 DL HU
/-! the laws' drawing of things, rays, texts -/
theorem part_eq (G : Gs) (ns : List Int) (k : Int) (h0 : 0 ≤ k) : φ_law_part G [scrI ns, .int k] = .ret (.sh (.int ((cellI ns k).natAbs : Int))) := by
  have e := slD_scr (ns := ns) (i := k) (j := k + 1) h0 (by omega)
  have hs : segI ns k.toNat (k + 1).toNat = if k < (ns.length : Int) then [cellI ns k] else [] := by
    unfold segI
    have e1 : (k + 1).toNat = k.toNat + 1 := by omega
    rw [e1]
    split
    · rename_i h
      have hk : k.toNat < ns.length := by omega
      rw [List.drop_take]
      have e2 : k.toNat + 1 - k.toNat = 1 := by omega
      rw [e2, List.drop_eq_getElem_cons hk]
      simp [cellI_el hk]
    · rw [List.drop_eq_nil_of_le (by rw [List.length_take]; omega)]
  by_cases h : k < (ns.length : Int)
  · rw [hs, if_pos h] at e
    have e : slD (some k) (some (k + 1)) (scrI ns) = some (.lst [.sh (.int (cellI ns k))]) := e
    unfold φ_law_part s_law_part
    generalize cellI ns k = c at *
    simp (disch := omega) [e, b_law_part_1, loop_cons]
  · rw [hs, if_neg h] at e
    have e : slD (some k) (some (k + 1)) (scrI ns) = some (.lst []) := e
    have c0 := cellI_out (ns := ns) (k := k) (by omega) h0
    unfold φ_law_part s_law_part
    rw [c0]
    simp (disch := omega) [e]
def spSt (n m : Int) (L : List Int) (r : Int) : DEnv := [some (.sh (.int n)), some (.sh (.int m)), some (.lst ((L.map D.int).map .sh)), some (.sh (.int r)), none, none, none, none, none]
def spG (k r : Int) : Int := (r % 4099 * 240007 + r / 4099 * 89 + 1201 * k + 11) % 998244353
theorem spG_bd (k r : Int) : 0 ≤ spG k r ∧ spG k r < 998244353 := by unfold spG; omega
def Dg (x : Int) : Prop := 0 ≤ x ∧ x < 1000000000
theorem spread_eq (G : Gs) {n m : Int} (hn : 0 ≤ n) (h0 : 0 ≤ m) (hm : m ≤ 100) : ∃ L : List Int, L.length = m.toNat ∧ (∀ x ∈ L, Dg x) ∧ φ_law_spread G [.int n, .int m] = .ret (.sh (.lst (L.map .int))) := by
  obtain ⟨k, hk, hk2⟩ : ∃ k : Nat, m * (1 - n % 2) = (k : Int) ∧ (k : Int) ≤ m := by
    have : n % 2 = 0 ∨ n % 2 = 1 := by omega
    rcases this with e | e
    · rw [e]; exact ⟨m.toNat, by omega, by omega⟩
    · rw [e]; exact ⟨0, by omega, by omega⟩
  have rl : (rangeL 0 k).length = k := by simp [rangeL]
  obtain ⟨ρ', lp, L, r, l1, l2, hr, rfl⟩ := loop_reln (g := kName 4) (s := b_law_spread_1 G) (is := [5, 4]) (fun i ρ => ∃ (L : List Int) (r : Int), L.length = i ∧ (∀ x ∈ L, Dg x) ∧ 0 ≤ r ∧ ρ = spSt n m L r) (rangeL 0 k) 0 (spSt n m [] (n / 2)) ⟨[], n / 2, rfl, by simp, by omega, rfl⟩ (fun i d ρ hd hi ⟨L, r, l1, l2, hr, h⟩ => by
    obtain ⟨j, hj, rfl⟩ := mem_rangeL.mp hd
    subst h
    have l7 : ((L.map D.int).map Val.sh).length < 10000000 := by simp; omega
    have ea : ((L ++ [r % 1000000000]).map D.int).map Val.sh = (L.map D.int).map .sh ++ [.sh (.int (r % 1000000000))] := by simp
    refine ⟨_, ?_, L ++ [r % 1000000000], r / 1000000000, by simp [l1], fun x hx => ?_, by omega, rfl⟩
    · unfold spSt
      rw [ea]
      generalize L.map D.int = LL at *
      simp only [List.length_map] at l7
      simp (disch := omega) [b_law_spread_1, l7]
    · rcases List.mem_append.mp hx with hx | hx
      · exact l2 x hx
      · rw [List.mem_singleton.mp hx]; unfold Dg; omega)
  rw [Nat.zero_add, rl] at l1
  obtain ⟨⟨L2, r2⟩, ⟨p1, p2, p3⟩, hc, wl⟩ := while_done (α := List Int × Int) (t := w_law_spread_3 G) (s := b_law_spread_4 G) (is := [6, 7, 8]) (fun z => spSt n m z.1 z.2) (fun z => (z.1 ++ [spG z.1.length (spG z.1.length z.2) / 5], spG z.1.length (spG z.1.length z.2))) (fun z => decide ((z.1.length : Int) < m)) (fun z => m.toNat - z.1.length)
    (fun z => (z.1.length : Int) ≤ m ∧ (∀ x ∈ z.1, Dg x) ∧ 0 ≤ z.2 ∧ z.2 < 1000000000) (fun z hz => by
      obtain ⟨L, r⟩ := z
      simp only [spSt]
      have hl : ((L.map D.int).map Val.sh).length = L.length := by simp
      generalize (L.map D.int).map Val.sh = LV at *
      simp [w_law_spread_3, hl]) (fun z hz hcz => by
      obtain ⟨L, r⟩ := z
      obtain ⟨q1, q2, q3, q4⟩ := hz
      simp only at q1 q2 q3 q4 hcz ⊢
      have hcz := of_decide_eq_true hcz
      have b1 := spG_bd L.length r
      have b2 := spG_bd L.length (spG L.length r)
      refine ⟨⟨by rw [List.length_append, List.length_singleton]; omega, fun x hx => ?_, by omega, by omega⟩, by rw [List.length_append, List.length_singleton]; omega, ?_⟩
      · rcases List.mem_append.mp hx with hx | hx
        · exact q2 x hx
        · rw [List.mem_singleton.mp hx]; unfold Dg; omega
      · have ea : ((L ++ [spG L.length (spG L.length r) / 5]).map D.int).map Val.sh = (L.map D.int).map .sh ++ [.sh (.int (spG L.length (spG L.length r) / 5))] := by simp
        unfold spSt
        rw [ea]
        have hl : ((L.map D.int).map Val.sh).length = L.length := by simp
        have l7 : L.length < 10000000 := by omega
        have r0 : rangeL 0 2 = [.int 0, .int 1] := rfl
        have g1 : (r % 4099 * 240007 + r / 4099 * 89 + 1201 * (L.length : Int) + 11) % 998244353 = spG L.length r := rfl
        have g2 : (spG L.length r % 4099 * 240007 + spG L.length r / 4099 * 89 + 1201 * (L.length : Int) + 11) % 998244353 = spG L.length (spG L.length r) := rfl
        generalize spG L.length (spG L.length r) = s2 at *
        generalize spG L.length r = s1 at *
        generalize (L.map D.int).map Val.sh = LV at *
        simp (disch := omega) [b_law_spread_4, b_law_spread_2, r0, loop_cons, hl, g1, g2, l7]) (L, r % 998244341 + 5) (spSt n m L (r % 998244341 + 5)) rfl ⟨by simp only; omega, l2, by simp only; omega, by simp only; omega⟩
  simp only at p1 p2 hc wl
  have hc := of_decide_eq_false hc
  refine ⟨L2, by omega, p2, ?_⟩
  unfold spSt at lp wl
  have kb : (k : Int) ≤ 100 := by omega
  have ea : ∀ x : D, fzs ((L2.map D.int).map .sh) = L2.map .int := fun _ => fzs_sh _
  generalize (L.map D.int).map Val.sh = LV at *
  have ef : fzs ((L2.map D.int).map .sh) = L2.map .int := fzs_sh _
  generalize (L2.map D.int).map Val.sh = LV2 at *
  generalize L2.map D.int = LD2 at *
  simp only [List.map_nil] at lp
  unfold φ_law_spread s_law_spread
  simp (disch := omega) [hk, kb, lp, wl, ef]
def Sm (x : Int) : Prop := -100 ≤ x ∧ x ≤ 100
theorem Sm.g {x : Int} (h : Sm x) : gP x = true := by unfold Sm at h; unfold gP; rw [decide_eq_true (by omega), decide_eq_true (by omega)]; rfl
theorem Hi.g1 {x : Int} (h : Hi x) : gH 1 x = true := by unfold Hi at h; unfold gH; rw [decide_eq_true h.1, decide_eq_true h.2]; rfl
theorem Sm.g0 {x : Int} (h : Sm x) (h0 : 0 ≤ x) : gH 0 x = true := by unfold Sm at h; unfold gH; rw [decide_eq_true h0, decide_eq_true (by omega)]; rfl
/-- the things that the laws of the desk draw -/
inductive LT : Th → Prop
  | post {p q h : Int} (h1 : Sm p) (h2 : Sm q) (h3 : Hi h) : LT (Str.ofString "post", [p, q, h])
  | fence {x y u v h : Int} (h1 : Sm x) (h2 : Sm y) (h3 : Sm u) (h4 : Sm v) (h5 : Hi h) (ne : x = u → y ≠ v) : LT (Str.ofString "fence", [x, y, u, v, h])
  | sail {x y u v h : Int} (h1 : Sm x) (h2 : Sm y) (h3 : Sm u) (h4 : Sm v) (h5 : Hi h) (k1 : x < u) (k2 : y < v) : LT (Str.ofString "sail", [x, y, u, v, h])
  | house {x y u v h : Int} (h1 : Sm x) (h2 : Sm y) (h3 : Sm u) (h4 : Sm v) (h5 : Hi h) (k1 : x < u) (k2 : y < v) : LT (Str.ofString "house", [x, y, u, v, h])
  | cloth {a b c d e f g h i : Int} (h1 : Sm a) (h2 : Sm b) (h3 : Sm c) (h4 : Sm d) (h5 : Sm e) (h6 : Sm f) (h7 : Sm g) (h8 : Sm h) (h9 : Sm i) (c0 : 0 ≤ c) (f0 : 0 ≤ f) (i0 : 0 ≤ i) : LT (Str.ofString "cloth", [a, b, c, d, e, f, g, h, i])
theorem LT.good {z : Th} (h : LT z) : good z.1 z.2 = true := by
  cases h with
  | post h1 h2 h3 => unfold My.good; rw [if_pos rfl]; simp only [h1.g, h2.g, h3.g1]; rfl
  | fence h1 h2 h3 h4 h5 ne =>
    unfold My.good
    dsimp only
    rw [if_neg (by decide), if_neg (by decide)]
    rename_i x y u v h
    have : ¬ x = u ∨ ¬ y = v := by
      by_cases e : x = u
      · exact .inr (ne e)
      · exact .inl e
    simp [h1.g, h2.g, h3.g, h4.g, h5.g1, this]
  | sail h1 h2 h3 h4 h5 k1 k2 =>
    unfold My.good
    dsimp only
    rw [if_neg (by decide), if_neg (by decide)]
    simp [h1.g, h2.g, h3.g, h4.g, h5.g1, k1, k2, nsf]
  | house h1 h2 h3 h4 h5 k1 k2 =>
    unfold My.good
    dsimp only
    rw [if_neg (by decide), if_neg (by decide)]
    simp [h1.g, h2.g, h3.g, h4.g, h5.g1, k1, k2, nhf, nhs]
  | cloth h1 h2 h3 h4 h5 h6 h7 h8 h9 c0 f0 i0 =>
    unfold My.good
    dsimp only
    rw [if_neg (by decide), if_pos rfl]
    simp only [h1.g, h2.g, h3.g0 c0, h4.g, h5.g, h6.g0 f0, h7.g, h8.g, h9.g0 i0]
    rfl
def thLD (z : Th) : D := .lst (.str z.1 :: z.2.map .int)
theorem eleven {L : List Int} (h : L.length = 11) : ∃ a b c d e f g i j k l, L = [a, b, c, d, e, f, g, i, j, k, l] := by
  match L, h with
  | [a, b, c, d, e, f, g, i, j, k, l], _ => exact ⟨a, b, c, d, e, f, g, i, j, k, l, rfl⟩
theorem thing_draw (G : Gs) {n w h : Int} (hn : 0 ≤ n) (w1 : 1 ≤ w) (w2 : w ≤ 20) (h1 : 1 ≤ h) (h2 : h ≤ 20) : ∃ z : Th, LT z ∧ φ_law_thing_by G [.int n, .int w, .int h] = .ret (.sh (thLD z)) := by
  obtain ⟨L, hL, hb, e⟩ := spread_eq G hn (m := 11) (by decide) (by decide)
  obtain ⟨x0, x1, x2, x3, x4, x5, x6, x7, x8, x9, x10, rfl⟩ := eleven hL
  have b : ∀ x ∈ [x0, x1, x2, x3, x4, x5, x6, x7, x8, x9, x10], 0 ≤ x ∧ x < 1000000000 := hb
  simp only [List.mem_cons, List.not_mem_nil, or_false, forall_eq_or_imp, forall_eq] at b
  obtain ⟨b0, b1, b2, b3, b4, b5, b6, b7, b8, b9, b10⟩ := b
  clear hb hL
  obtain ⟨x, hx, sx⟩ : ∃ x, x1 % (2 * w + 7) - 4 = x ∧ (-4 ≤ x ∧ x ≤ 46) := ⟨_, rfl, by
    have := Int.emod_nonneg x1 (b := 2 * w + 7) (by omega)
    have := Int.emod_lt_of_pos x1 (b := 2 * w + 7) (by omega)
    omega⟩
  obtain ⟨y, hy, sy⟩ : ∃ y, x2 % (2 * h + 7) - 4 = y ∧ (-4 ≤ y ∧ y ≤ 46) := ⟨_, rfl, by
    have := Int.emod_nonneg x2 (b := 2 * h + 7) (by omega)
    have := Int.emod_lt_of_pos x2 (b := 2 * h + 7) (by omega)
    omega⟩
  obtain ⟨p, hp, sp⟩ : ∃ p, x1 % (w + 2) - 1 = p ∧ Sm p := ⟨_, rfl, by
    have := Int.emod_nonneg x1 (b := w + 2) (by omega)
    have := Int.emod_lt_of_pos x1 (b := w + 2) (by omega)
    unfold Sm; omega⟩
  obtain ⟨q, hq, sq⟩ : ∃ q, x2 % (h + 2) - 1 = q ∧ Sm q := ⟨_, rfl, by
    have := Int.emod_nonneg x2 (b := h + 2) (by omega)
    have := Int.emod_lt_of_pos x2 (b := h + 2) (by omega)
    unfold Sm; omega⟩
  have m1 : modD (.int x1) (.int (2 * w + 7)) = some (.sh (.int (x1 % (2 * w + 7)))) := modD_pos (by omega)
  have m2 : modD (.int x2) (.int (2 * h + 7)) = some (.sh (.int (x2 % (2 * h + 7)))) := modD_pos (by omega)
  have m3 : modD (.int x1) (.int (w + 2)) = some (.sh (.int (x1 % (w + 2)))) := modD_pos (by omega)
  have m4 : modD (.int x2) (.int (h + 2)) = some (.sh (.int (x2 % (h + 2)))) := modD_pos (by omega)
  obtain ⟨t, ht, st⟩ : ∃ t : Int, (if x6 % 8 = 5 then 1000000000 - x5 % 1000 else 1 + x5 % 8) = t ∧ Hi t := ⟨_, rfl, by unfold Hi; split <;> omega⟩
  simp only [List.map_cons, List.map_nil] at e
  have sXY : Sm x ∧ Sm y := by unfold Sm; omega
  have u1 : Sm (x + 1 + x3 % 5) ∧ x < x + 1 + x3 % 5 := by unfold Sm; omega
  have v1 : Sm (y + 1 + x4 % 5) ∧ y < y + 1 + x4 % 5 := by unfold Sm; omega
  obtain ⟨k10, h10, s10⟩ : ∃ k : Int, x10 % 7 * (x6 % 2) = k ∧ Sm k ∧ 0 ≤ k := ⟨_, rfl, by
    have : x6 % 2 = 0 ∨ x6 % 2 = 1 := by omega
    rcases this with z | z <;> rw [z] <;> unfold Sm <;> omega⟩
  unfold φ_law_thing_by s_law_thing_by
  by_cases hz : x6 % 8 = 5
  · rw [if_pos hz] at ht
    have c5 : x0 % 5 = 0 ∨ x0 % 5 = 1 ∨ x0 % 5 = 2 ∨ x0 % 5 = 3 ∨ x0 % 5 = 4 := by omega
    rcases c5 with c | c | c | c | c
    · refine ⟨_, .post sp sq st, ?_⟩
      simp (disch := omega) [e, m1, m2, m3, m4, hx, hy, hp, hq, ht, hz, c, thLD]
    · have c4 : x7 % 4 = 0 ∨ x7 % 4 = 1 ∨ x7 % 4 = 2 ∨ x7 % 4 = 3 := by omega
      rcases c4 with k | k | k | k
      · refine ⟨_, .fence (u := x + 1 + x3 % 5) (v := y) sXY.1 sXY.2 u1.1 sXY.2 st (fun z => by omega), ?_⟩
        simp (disch := omega) [e, m1, m2, m3, m4, hx, hy, hp, hq, ht, hz, c, k, thLD]
      · refine ⟨_, .fence (u := x + 1 + x3 % 5) (v := y + 1 + x4 % 5) sXY.1 sXY.2 u1.1 v1.1 st (fun z => by omega), ?_⟩
        simp (disch := omega) [e, m1, m2, m3, m4, hx, hy, hp, hq, ht, hz, c, k, thLD]
      · refine ⟨_, .fence (u := x) (v := y + 1 + x4 % 5) sXY.1 sXY.2 sXY.1 v1.1 st (fun z => by omega), ?_⟩
        simp (disch := omega) [e, m1, m2, m3, m4, hx, hy, hp, hq, ht, hz, c, k, thLD]
      · refine ⟨_, .fence (u := x - 2) (v := y + 1 + x4 % 5) sXY.1 sXY.2 (by unfold Sm; omega) v1.1 st (fun z => by omega), ?_⟩
        simp (disch := omega) [e, m1, m2, m3, m4, hx, hy, hp, hq, ht, hz, c, k, thLD]
    · refine ⟨_, .sail sXY.1 sXY.2 u1.1 v1.1 st u1.2 v1.2, ?_⟩
      simp (disch := omega) [e, m1, m2, m3, m4, hx, hy, hp, hq, ht, hz, c, thLD]
    · refine ⟨_, .house sXY.1 sXY.2 u1.1 v1.1 st u1.2 v1.2, ?_⟩
      simp (disch := omega) [e, m1, m2, m3, m4, hx, hy, hp, hq, ht, hz, c, thLD]
    · refine ⟨_, .cloth (a := x) (b := y) (c := x5 % 7) (d := x + 1 + x3 % 5) (e := y - 2 + x7 % 5) (f := x8 % 7) (g := x - 3 + x9 % 7) (h := y + 1 + x4 % 5) (i := k10) sXY.1 sXY.2 (by unfold Sm; omega) u1.1 (by unfold Sm; omega) (by unfold Sm; omega) (by unfold Sm; omega) v1.1 s10.1 (by omega) (by omega) s10.2, ?_⟩
      simp (disch := omega) [e, m1, m2, m3, m4, hx, hy, hp, hq, ht, hz, c, h10, thLD]
  · rw [if_neg hz] at ht
    have c5 : x0 % 5 = 0 ∨ x0 % 5 = 1 ∨ x0 % 5 = 2 ∨ x0 % 5 = 3 ∨ x0 % 5 = 4 := by omega
    rcases c5 with c | c | c | c | c
    · refine ⟨_, .post sp sq st, ?_⟩
      simp (disch := omega) [e, m1, m2, m3, m4, hx, hy, hp, hq, ht, hz, c, thLD]
    · have c4 : x7 % 4 = 0 ∨ x7 % 4 = 1 ∨ x7 % 4 = 2 ∨ x7 % 4 = 3 := by omega
      rcases c4 with k | k | k | k
      · refine ⟨_, .fence (u := x + 1 + x3 % 5) (v := y) sXY.1 sXY.2 u1.1 sXY.2 st (fun z => by omega), ?_⟩
        simp (disch := omega) [e, m1, m2, m3, m4, hx, hy, hp, hq, ht, hz, c, k, thLD]
      · refine ⟨_, .fence (u := x + 1 + x3 % 5) (v := y + 1 + x4 % 5) sXY.1 sXY.2 u1.1 v1.1 st (fun z => by omega), ?_⟩
        simp (disch := omega) [e, m1, m2, m3, m4, hx, hy, hp, hq, ht, hz, c, k, thLD]
      · refine ⟨_, .fence (u := x) (v := y + 1 + x4 % 5) sXY.1 sXY.2 sXY.1 v1.1 st (fun z => by omega), ?_⟩
        simp (disch := omega) [e, m1, m2, m3, m4, hx, hy, hp, hq, ht, hz, c, k, thLD]
      · refine ⟨_, .fence (u := x - 2) (v := y + 1 + x4 % 5) sXY.1 sXY.2 (by unfold Sm; omega) v1.1 st (fun z => by omega), ?_⟩
        simp (disch := omega) [e, m1, m2, m3, m4, hx, hy, hp, hq, ht, hz, c, k, thLD]
    · refine ⟨_, .sail sXY.1 sXY.2 u1.1 v1.1 st u1.2 v1.2, ?_⟩
      simp (disch := omega) [e, m1, m2, m3, m4, hx, hy, hp, hq, ht, hz, c, thLD]
    · refine ⟨_, .house sXY.1 sXY.2 u1.1 v1.1 st u1.2 v1.2, ?_⟩
      simp (disch := omega) [e, m1, m2, m3, m4, hx, hy, hp, hq, ht, hz, c, thLD]
    · refine ⟨_, .cloth (a := x) (b := y) (c := x5 % 7) (d := x + 1 + x3 % 5) (e := y - 2 + x7 % 5) (f := x8 % 7) (g := x - 3 + x9 % 7) (h := y + 1 + x4 % 5) (i := k10) sXY.1 sXY.2 (by unfold Sm; omega) u1.1 (by unfold Sm; omega) (by unfold Sm; omega) (by unfold Sm; omega) v1.1 s10.1 (by omega) (by omega) s10.2, ?_⟩
      simp (disch := omega) [e, m1, m2, m3, m4, hx, hy, hp, hq, ht, hz, c, h10, thLD]
theorem four {L : List Int} (h : L.length = 4) : ∃ a b c d, L = [a, b, c, d] := by
  match L, h with
  | [a, b, c, d], _ => exact ⟨a, b, c, d, rfl⟩
theorem ray_draw (G : Gs) {n : Int} (hn : 0 ≤ n) : ∃ t : Tn, TnOk t ∧ φ_law_ray_by G [.int n] = .ret (.sh (tnD t)) := by
  obtain ⟨L, hL, hb, e⟩ := spread_eq G hn (m := 4) (by decide) (by decide)
  obtain ⟨x0, x1, x2, x3, rfl⟩ := four hL
  have b : ∀ x ∈ [x0, x1, x2, x3], 0 ≤ x ∧ x < 1000000000 := hb
  simp only [List.mem_cons, List.not_mem_nil, or_false, forall_eq_or_imp, forall_eq] at b
  obtain ⟨b0, b1, b2, b3⟩ := b
  clear hb hL
  simp only [List.map_cons, List.map_nil] at e
  unfold φ_law_ray_by s_law_ray_by
  by_cases h4 : x3 % 6 = 4
  · exact ⟨none, fun r h => (by cases h), by simp (disch := omega) [e, h4, tnD]⟩
  · by_cases h5 : x3 % 6 = 5
    · refine ⟨some (x0 % 2000001 - 1000000, x1 % 2000001 - 1000000, 1 + x2 % 1000000), fun r h => ?_, by simp (disch := omega) [e, h4, h5, tnD, p3D_mk]⟩
      cases h
      unfold RayOk
      dsimp only
      omega
    · refine ⟨some (x0 % 7 - 3, x1 % 7 - 3, 1 + x2 % 3), fun r h => ?_, by simp (disch := omega) [e, h4, h5, tnD, p3D_mk]⟩
      cases h
      unfold RayOk
      dsimp only
      omega
/-! ### the laws' texts -/
def sOf : D → Str
  | .str z => z
  | .int n => num n
  | _ => Str.ofString ""
def SI (d : D) : Prop := match d with
  | .str z => z.length ≤ 1000
  | .int n => -(10 ^ 20) < n ∧ n < 10 ^ 20
  | _ => False
theorem joined_eq (G : Gs) (l : List D) (h : ∀ d ∈ l, SI d) (hl : l.length ≤ 100) (hs : ((l.map sOf).map (·.length)).sum ≤ 1000000) : φ_law_joined G [.lst l] = .ret (.sh (.str (row (l.map sOf)))) := by
  have ec := comp_mapA (g := kName 1) (f := e_law_joined_1 G) (is := [1]) (ρ := [some (.sh (.lst l)), none]) (fun d : D => d) (fun d => D.str (sOf d)) l [] (fun d hd => by
    have q := h d hd
    cases d with
    | str z => simp [e_law_joined_1, sOf]
    | int n =>
      have q2 := orStr_num (x := n) q.1 q.2
      simp [e_law_joined_1, sOf, q2]
    | non => exact q.elim
    | bl _ => exact q.elim
    | tup _ => exact q.elim
    | lst _ => exact q.elim
    | scr _ => exact q.elim
    | ins _ _ _ => exact q.elim
    | junk => exact q.elim
    | exn _ _ _ _ => exact q.elim)
  rw [List.map_id'] at ec
  have ej : joinD (Str.ofString " ") (.lst (l.map fun d => D.str (sOf d))) = some (.sh (.str (row (l.map sOf)))) := by
    have := joinD_map (a := Str.ofString " ") (l := l.map sOf) (by
      have e3 : (Str.ofString " ").length = 1 := by decide
      rw [e3, List.length_map]
      omega)
    rw [List.map_map] at this
    exact this
  have hl7 : l.length ≤ 10000000 := by omega
  generalize (l.map fun d => D.str (sOf d)) = LS at *
  generalize row (l.map sOf) = r at *
  unfold φ_law_joined s_law_joined
  simp (disch := omega) [ec, ej, hl7]
theorem wd_sum {ws : List Str} (h : RowOk ws) : (ws.map (·.length)).sum ≤ 1000000 := by
  have e2 := sum_le_mul (l := ws) (k := 11) fun z hz => (h.2.2 z hz).1
  have := h.2.1
  omega
theorem joined_row (G : Gs) (l : List D) (ws : List Str) (e : l.map sOf = ws) (h : ∀ d ∈ l, SI d) (hr : RowOk ws) : φ_law_joined G [.lst l] = .ret (.sh (.str (row ws))) := by
  have hl : l.length = ws.length := by rw [← e, List.length_map]
  have := joined_eq G l h (by have := hr.2.1; omega) (by rw [e]; exact wd_sum hr)
  rw [e] at this
  exact this
theorem joined_th (G : Gs) {z : Th} (hz : good z.1 z.2 = true) : φ_law_joined G [thLD z] = .ret (.sh (.str (row (thWs z)))) := by
  obtain ⟨h1, h2, h3⟩ := good_w hz
  refine joined_row G _ _ ?_ ?_ (thWs_ok hz)
  · unfold thWs
    rw [List.map_cons, List.map_map]; rfl
  · intro d hd
    rcases List.mem_cons.mp hd with hd | hd
    · subst hd
      show z.1.length ≤ 1000
      have := (w5_wd h1).1
      omega
    · obtain ⟨n, hn, rfl⟩ := List.mem_map.mp hd
      have := h2 n hn
      show -(10 ^ 20) < n ∧ n < 10 ^ 20
      unfold Pl at this
      omega
end My

namespace My
open PySem PySem.Spec L2 DL HU
/-! the law's text of a yard -/
theorem joined_sz (G : Gs) {w h : Int} (h1 : 0 ≤ w) (h2 : w ≤ 20) (h3 : 0 ≤ h) (h4 : h ≤ 20) : φ_law_joined G [.lst [.str (Str.ofString "yard"), .int w, .int h]] = .ret (.sh (.str (row (szWs w h)))) :=
  joined_row G _ _ rfl (fun d hd => by
    simp only [List.mem_cons, List.not_mem_nil, or_false] at hd
    rcases hd with rfl | rfl | rfl
    · show (Str.ofString "yard").length ≤ 1000; decide
    · show -(10 ^ 20) < w ∧ w < 10 ^ 20; omega
    · show -(10 ^ 20) < h ∧ h < 10 ^ 20; omega) (szWs_ok h1 h2 h3 h4)
theorem joined_dy (G : Gs) {d : Dy} (hn : NmOk d.name) (hd : DyOk d) : φ_law_joined G [.lst [.str (Str.ofString "day"), .str d.name, .int d.many]] = .ret (.sh (.str (row (dyWs d)))) :=
  joined_row G _ _ rfl (fun x hx => by
    simp only [List.mem_cons, List.not_mem_nil, or_false] at hx
    obtain ⟨⟨m1, m2⟩, _⟩ := hd
    rcases hx with rfl | rfl | rfl
    · show (Str.ofString "day").length ≤ 1000; decide
    · show d.name.length ≤ 1000
      have := (nam_wd hn).1
      omega
    · show -(10 ^ 20) < d.many ∧ d.many < 10 ^ 20; omega) (dyWs_ok hn hd)
theorem joined_ray (G : Gs) {r : P3} (hr : RayOk r) : φ_law_joined G [.lst [.str (Str.ofString "ray"), .int r.1, .int r.2.1, .int r.2.2]] = .ret (.sh (.str (row (tnWs (some r))))) :=
  joined_row G _ _ rfl (fun x hx => by
    simp only [List.mem_cons, List.not_mem_nil, or_false] at hx
    obtain ⟨⟨r1, r2⟩, ⟨r3, r4⟩, r5, r6⟩ := hr
    rcases hx with rfl | rfl | rfl | rfl
    · show (Str.ofString "ray").length ≤ 1000; decide
    · show -(10 ^ 20) < r.1 ∧ r.1 < 10 ^ 20; omega
    · show -(10 ^ 20) < r.2.1 ∧ r.2.1 < 10 ^ 20; omega
    · show -(10 ^ 20) < r.2.2 ∧ r.2.2 < 10 ^ 20; omega) (tnWs_ok fun q h => by cases h; exact hr)
def strW (l : List Str) : List Val := l.map fun z => .sh (.str z)
theorem strW_app (a b : List Str) : strW (a ++ b) = strW a ++ strW b := List.map_append
theorem strW_len (a : List Str) : (strW a).length = a.length := List.length_map _
theorem strW_fz (l : List Str) : fzs (strW l) = l.map .str := by
  unfold strW
  rw [fzs_map, List.map_map]; rfl
def dyRws (d : Dy) : List Str := row (dyWs d) :: d.turns.map fun t => row (tnWs t)
def ytSt (a b c e : Option Val) (rs : List Str) (n m T : Option Val) : DEnv := [a, b, c, e, some (.lst (strW rs)), n, m, T, none, none]
theorem yt_turn (G : Gs) {t : Tn} (ht : TnOk t) (a b c e n m T : Option Val) (rs : List Str) (hl : rs.length ≤ 100000) :
    (lpK (kName 8 (tnD t) (ytSt a b c e rs n m T)) fun ρ1 => flp (b_law_yard_text_2 G ρ1) (fun ρ2 => .nx (forget [8] ρ2)) fun _ => .bad) = .nx (ytSt a b c e (rs ++ [row (tnWs t)]) n m T) := by
  have l7 : (strW rs).length < 10000000 := by rw [strW_len]; omega
  unfold ytSt
  rw [strW_app]
  cases t with
  | none =>
    have e1 : strW [row (tnWs none)] = [.sh (.str (Str.ofString "night"))] := by
      have : row (tnWs none) = Str.ofString "night" := by unfold row tnWs; rw [TL.join_eq]; rfl
      rw [this]; rfl
    rw [e1]
    generalize strW rs = RS at *
    simp (disch := omega) [b_law_yard_text_2, tnD, l7]
  | some r =>
    have hr := ht r rfl
    have q := joined_ray G hr
    have e1 : strW [row (tnWs (some r))] = [.sh (.str (row (tnWs (some r))))] := rfl
    rw [e1]
    generalize row (tnWs (some r)) = rw0 at *
    generalize strW rs = RS at *
    obtain ⟨x, y, z⟩ := r
    have ad : addD (.lst [.str (Str.ofString "ray")]) (.lst [.int x, .int y, .int z]) = some (.lst [.sh (.str (Str.ofString "ray")), .sh (.int x), .sh (.int y), .sh (.int z)]) := addD_lst (by simp)
    simp only at q
    simp (disch := omega) [b_law_yard_text_2, tnD, p3D_mk, l7, ad, q]
theorem yt_day (G : Gs) {d : Dy} (hd : DayOk d) (a b c e : Option Val) (rs : List Str) (hl : rs.length ≤ 90000) :
    (lpK (kSeq 3 (kCons (kName 5) (kCons (kName 6) (kCons (kName 7) kNil))) (dyD d) (ytSt a b c e rs none none none)) fun ρ1 => flp (b_law_yard_text_3 G ρ1) (fun ρ2 => .nx (forget [8, 5, 6, 7] ρ2)) fun _ => .bad) = .nx (ytSt a b c e (rs ++ dyRws d) none none none) := by
  obtain ⟨hn, hdo, _⟩ := hd
  have h24 := hdo.2.1
  have q := joined_dy G hn hdo
  have key : ∀ (T : List Tn) (rs : List Str) (n m TT : Option Val), (∀ t ∈ T, TnOk t) → rs.length + T.length ≤ 100000 → loop (kName 8) (b_law_yard_text_2 G) [8] (T.map tnD) (ytSt a b c e rs n m TT) = .nx (ytSt a b c e (rs ++ T.map fun t => row (tnWs t)) n m TT) := fun T => by
    induction T with
    | nil => intro rs n m TT _ _; simp
    | cons t T ih =>
      intro rs n m TT h hl
      simp only [List.length_cons] at hl
      rw [List.map_cons, loop_one (yt_turn G (h t List.mem_cons_self) a b c e n m TT rs (by omega)), ih _ n m TT (fun x hx => h x (List.mem_cons_of_mem _ hx)) (by rw [List.length_append, List.length_singleton]; omega), List.append_assoc]; rfl
  have lp := key d.turns (rs ++ [row (dyWs d)]) (some (.sh (.str d.name))) (some (.sh (.int d.many))) (some (.sh (.lst (d.turns.map tnD)))) hdo.2.2 (by rw [List.length_append, List.length_singleton]; omega)
  have e2 : rs ++ [row (dyWs d)] ++ (d.turns.map fun t => row (tnWs t)) = rs ++ dyRws d := by unfold dyRws; simp
  rw [e2] at lp
  have l7 : (strW rs).length < 10000000 := by rw [strW_len]; omega
  unfold ytSt at *
  rw [strW_app] at lp
  have e1 : strW [row (dyWs d)] = [.sh (.str (row (dyWs d)))] := rfl
  rw [e1] at lp
  unfold dyD
  generalize row (dyWs d) = rw0 at *
  generalize d.turns.map tnD = T at *
  generalize strW rs = RS at *
  generalize strW (rs ++ dyRws d) = RS2 at *
  simp (disch := omega) [b_law_yard_text_3, q, l7, lp]
theorem yard_text_eq (G : Gs) {w h : Nat} {Z : List Th} {ds : List Dy} (Y : YardOk w h Z ds) : φ_law_yard_text G [.int w, .int h, .lst (Z.map thLD), .lst (ds.map dyD)] = .ret (.sh (.str (txtOf w h Z ds))) := by
  have w2 := Y.w2
  have h2 := Y.h2
  have q := joined_sz G (w := (w : Int)) (h := (h : Int)) (by omega) (by omega) (by omega) (by omega)
  have hR := rowsOf_ok (w := (w : Int)) (h := (h : Int)) (by have := Y.w1; omega) (by omega) (by have := Y.h1; omega) (by omega) Y.zs Y.dy
  have hRl := rowsOf_len (w := (w : Int)) (h := (h : Int)) Y.zl Y.dy Y.dl
  have ej : joinD (Str.ofString "\n") (.lst (((rowsOf (w : Int) h Z ds).map row).map .str)) = some (.sh (.str (txtOf w h Z ds))) := by
    refine joinD_map ?_
    have e2 := sum_le_mul (l := (rowsOf (w : Int) h Z ds).map row) (k := 130) fun z hz => by
      obtain ⟨r, hr, rfl⟩ := List.mem_map.mp hz
      exact row_len (hR r hr)
    have e3 : (Str.ofString "\n").length = 1 := by decide
    rw [e3, List.length_map]
    rw [List.length_map] at e2
    omega
  obtain ⟨L0, hL0⟩ : ∃ x : Option Val, some (Val.sh (.lst (Z.map thLD))) = x := ⟨_, rfl⟩
  obtain ⟨D0, hD0⟩ : ∃ x : Option Val, some (Val.sh (.lst (ds.map dyD))) = x := ⟨_, rfl⟩
  have ec := comp_mapA (g := kName 9) (f := e_law_yard_text_1 G) (is := [9]) (ρ := [some (.sh (.int w)), some (.sh (.int h)), some (.sh (.lst (Z.map thLD))), some (.sh (.lst (ds.map dyD))), none, none, none, none, none, none]) thLD (fun z => D.str (row (thWs z))) Z [] (fun z hz => by
    have q := joined_th G (Y.zs z hz)
    generalize thLD z = zz at *
    generalize row (thWs z) = rw0 at *
    generalize Z.map thLD = ZL at *
    simp [e_law_yard_text_1, q])
  rw [List.nil_append] at ec
  have key : ∀ (l : List Dy) (rs : List Str) (a b c e : Option Val), (∀ d ∈ l, DayOk d) → rs.length + 25 * l.length ≤ 90000 → loop (kSeq 3 (kCons (kName 5) (kCons (kName 6) (kCons (kName 7) kNil)))) (b_law_yard_text_3 G) [8, 5, 6, 7] (l.map dyD) (ytSt a b c e rs none none none) = .nx (ytSt a b c e (rs ++ l.flatMap dyRws) none none none) := fun l => by
    induction l with
    | nil => intro rs a b c e _ _; simp
    | cons d l ih =>
      intro rs a b c e hd hl
      simp only [List.length_cons] at hl
      have h24 := (hd d List.mem_cons_self).2.1.2.1
      rw [List.map_cons, loop_one (yt_day G (hd d List.mem_cons_self) a b c e rs (by omega)), ih _ a b c e (fun x hx => hd x (List.mem_cons_of_mem _ hx)) (by rw [List.length_append]; unfold dyRws; rw [List.length_cons, List.length_map]; omega), List.flatMap_cons, List.append_assoc]
  have lp := key ds ([row (szWs w h)] ++ Z.map fun z => row (thWs z)) (some (.sh (.int w))) (some (.sh (.int h))) (some (.sh (.lst (Z.map thLD)))) (some (.sh (.lst (ds.map dyD)))) Y.dy (by
    have := Y.zl
    have := Y.dl
    rw [List.length_append, List.length_map, List.length_singleton]; omega)
  have eR : ([row (szWs w h)] ++ Z.map fun z => row (thWs z)) ++ ds.flatMap dyRws = (rowsOf w h Z ds).map row := by
    unfold rowsOf
    rw [List.map_cons, List.map_append, List.map_map, List.map_flatMap, List.singleton_append, List.cons_append]
    congr 2
    refine congrArg (fun f => ds.flatMap f) ?_
    funext d
    unfold dyRws
    rw [List.map_cons, List.map_map]; rfl
  rw [eR] at lp
  have fz := strW_fz ((rowsOf (w : Int) h Z ds).map row)
  have es : strW ([row (szWs w h)] ++ Z.map fun z => row (thWs z)) = .sh (.str (row (szWs w h))) :: (Z.map fun z => D.str (row (thWs z))).map .sh := by
    rw [strW_app]
    have : strW (Z.map fun z => row (thWs z)) = (Z.map fun z => D.str (row (thWs z))).map .sh := by
      unfold strW
      rw [List.map_map, List.map_map]; rfl
    rw [this]; rfl
  unfold ytSt at lp
  rw [es] at lp
  have lzt : (Z.map thLD).length ≤ 10000000 := by rw [List.length_map]; have := Y.zl; omega
  have ad : addD (.lst [.str (row (szWs w h))]) (.lst (Z.map fun z => D.str (row (thWs z)))) = some (.lst ((.str (row (szWs w h)) :: Z.map fun z => D.str (row (thWs z))).map .sh)) := addD_lst (by rw [List.length_map, List.length_singleton]; have := Y.zl; omega)
  generalize txtOf w h Z ds = TX at *
  generalize (rowsOf (w : Int) h Z ds).map row = RS at *
  generalize strW RS = RV at *
  generalize RS.map D.str = RD at *
  generalize (Z.map fun z => D.str (row (thWs z))) = ZS at *
  generalize Z.map thLD = ZL at *
  generalize ds.map dyD = DL at *
  generalize row (szWs w h) = r0 at *
  unfold φ_law_yard_text s_law_yard_text
  simp (disch := omega) [q, ec, lzt, ad, lp, fz, ej]
end My

namespace My
open PySem PySem.Spec L2 DL HU
/-! things, far ones too -/
theorem far_post (G : Gs) {p q h n : Int} (h1 : Sm p) (h2 : Sm q) (h3 : Hi h) : ∃ z : Th, good z.1 z.2 = true ∧ φ_law_far G [thLD (Str.ofString "post", [p, q, h]), .int n] = .ret (.sh (thLD z)) := by
  have npc : ¬ (Str.ofString "post" = Str.ofString "cloth") := by decide
  have rl : rangeL 1 3 = [.int 1, .int 2, .int 3] := rfl
  by_cases hn : n % 7 = 3
  · refine ⟨(Str.ofString "post", [p + n / 7 % 1999 * 1000000 - 999000000, q + n / 7 % 1999 * 1000000 - 999000000, h]), ?_, ?_⟩
    · unfold My.good
      dsimp only
      rw [if_pos rfl]
      unfold Sm at h1 h2
      unfold Hi at h3
      unfold gP gH
      simp only [Bool.and_eq_true, decide_eq_true_eq]
      omega
    · unfold φ_law_far s_law_far thLD
      simp (disch := first | omega | (simp only [List.length_cons, List.length_nil, List.length_set]; omega)) [rl, loop_cons, b_law_far_1, hn, npc]
  · refine ⟨(Str.ofString "post", [p, q, h]), (LT.post h1 h2 h3).good, ?_⟩
    unfold φ_law_far s_law_far thLD
    simp (disch := first | omega | (simp only [List.length_cons, List.length_nil, List.length_set]; omega)) [rl, loop_cons, b_law_far_1, hn, npc]
theorem far_cloth (G : Gs) {a b c d e f g h i n : Int} (h1 : Sm a) (h2 : Sm b) (h3 : Sm c) (h4 : Sm d) (h5 : Sm e) (h6 : Sm f) (h7 : Sm g) (h8 : Sm h) (h9 : Sm i) (c0 : 0 ≤ c) (f0 : 0 ≤ f) (i0 : 0 ≤ i) : ∃ z : Th, good z.1 z.2 = true ∧ φ_law_far G [thLD (Str.ofString "cloth", [a, b, c, d, e, f, g, h, i]), .int n] = .ret (.sh (thLD z)) := by
  have rl : rangeL 1 9 = [.int 1, .int 2, .int 3, .int 4, .int 5, .int 6, .int 7, .int 8, .int 9] := rfl
  by_cases hn : n % 7 = 3
  · refine ⟨(Str.ofString "cloth", [a + n / 7 % 1999 * 1000000 - 999000000, b + n / 7 % 1999 * 1000000 - 999000000, c, d + n / 7 % 1999 * 1000000 - 999000000, e + n / 7 % 1999 * 1000000 - 999000000, f, g + n / 7 % 1999 * 1000000 - 999000000, h + n / 7 % 1999 * 1000000 - 999000000, i]), ?_, ?_⟩
    · unfold My.good
      dsimp only
      rw [if_neg (by decide), if_pos rfl]
      unfold Sm at h1 h2 h3 h4 h5 h6 h7 h8 h9
      unfold gP gH
      simp only [Bool.and_eq_true, decide_eq_true_eq]
      omega
    · unfold φ_law_far s_law_far thLD
      simp (disch := first | omega | (simp only [List.length_cons, List.length_nil, List.length_set]; omega)) [rl, loop_cons, b_law_far_1, hn]
  · refine ⟨(Str.ofString "cloth", [a, b, c, d, e, f, g, h, i]), (LT.cloth h1 h2 h3 h4 h5 h6 h7 h8 h9 c0 f0 i0).good, ?_⟩
    unfold φ_law_far s_law_far thLD
    simp (disch := first | omega | (simp only [List.length_cons, List.length_nil, List.length_set]; omega)) [rl, loop_cons, b_law_far_1, hn]
def thV (Z : List Th) : List Val := Z.map fun z => .sh (thLD z)
theorem thV_app (a b : List Th) : thV (a ++ b) = thV a ++ thV b := List.map_append
theorem things_turn (G : Gs) (S : D) {w h : Int} (w1 : 1 ≤ w) (w2 : w ≤ 20) (h1 : 1 ≤ h) (h2 : h ≤ 20) (c : Int) (Z : List Th) (hl : Z.length ≤ 100) : ∃ z : Th, good z.1 z.2 = true ∧
    (lpK (kName 4 (.int c) [some (.sh S), some (.sh (.int w)), some (.sh (.int h)), some (.lst (thV Z)), none, none, none]) fun ρ1 => flp (b_law_things_1 G ρ1) (fun ρ2 => .nx (forget [5, 6, 4] ρ2)) fun _ => .bad) = .nx [some (.sh S), some (.sh (.int w)), some (.sh (.int h)), some (.lst (thV (Z ++ [z]))), none, none, none] := by
  obtain ⟨z, hz, e⟩ := thing_draw G (n := (c.natAbs : Int)) (by omega) w1 w2 h1 h2
  have l7 : (thV Z).length < 10000000 := by unfold thV; rw [List.length_map]; omega
  have hz0 := hz
  cases hz with
  | post k1 k2 k3 =>
    obtain ⟨z2, g2, e2⟩ := far_post G (n := (c.natAbs : Int)) k1 k2 k3
    refine ⟨z2, g2, ?_⟩
    rw [thV_app, show thV [z2] = [.sh (thLD z2)] from rfl]
    have et : ∀ p q h : Int, thLD (Str.ofString "post", [p, q, h]) = .lst [.str (Str.ofString "post"), .int p, .int q, .int h] := fun _ _ _ => rfl
    rw [et] at e e2
    generalize thLD z2 = y at *
    generalize thV Z = ZV at *
    simp (disch := omega) [b_law_things_1, e, e2, l7]
  | cloth k1 k2 k3 k4 k5 k6 k7 k8 k9 c0 f0 i0 =>
    obtain ⟨z2, g2, e2⟩ := far_cloth G (n := (c.natAbs : Int)) k1 k2 k3 k4 k5 k6 k7 k8 k9 c0 f0 i0
    refine ⟨z2, g2, ?_⟩
    rw [thV_app, show thV [z2] = [.sh (thLD z2)] from rfl]
    have et : ∀ a b c d e f g h i : Int, thLD (Str.ofString "cloth", [a, b, c, d, e, f, g, h, i]) = .lst [.str (Str.ofString "cloth"), .int a, .int b, .int c, .int d, .int e, .int f, .int g, .int h, .int i] := fun _ _ _ _ _ _ _ _ _ => rfl
    rw [et] at e e2
    have ncp : ¬ (Str.ofString "cloth" = Str.ofString "post") := by decide
    generalize thLD z2 = y at *
    generalize thV Z = ZV at *
    simp (disch := omega) [b_law_things_1, e, e2, l7, ncp]
  | @fence x y u v t k1 k2 k3 k4 k5 ne =>
    refine ⟨_, hz0.good, ?_⟩
    rw [thV_app, show thV [(Str.ofString "fence", [x, y, u, v, t])] = [.sh (thLD (Str.ofString "fence", [x, y, u, v, t]))] from rfl]
    have et : thLD (Str.ofString "fence", [x, y, u, v, t]) = .lst [.str (Str.ofString "fence"), .int x, .int y, .int u, .int v, .int t] := rfl
    rw [et] at e ⊢
    have n1 : ¬ (Str.ofString "fence" = Str.ofString "post") := by decide
    have n2 : ¬ (Str.ofString "fence" = Str.ofString "cloth") := by decide
    generalize thV Z = ZV at *
    simp (disch := omega) [b_law_things_1, e, l7, n1, n2]
  | @sail x y u v t k1 k2 k3 k4 k5 q1 q2 =>
    refine ⟨_, hz0.good, ?_⟩
    rw [thV_app, show thV [(Str.ofString "sail", [x, y, u, v, t])] = [.sh (thLD (Str.ofString "sail", [x, y, u, v, t]))] from rfl]
    have et : thLD (Str.ofString "sail", [x, y, u, v, t]) = .lst [.str (Str.ofString "sail"), .int x, .int y, .int u, .int v, .int t] := rfl
    rw [et] at e ⊢
    have n1 : ¬ (Str.ofString "sail" = Str.ofString "post") := by decide
    have n2 : ¬ (Str.ofString "sail" = Str.ofString "cloth") := by decide
    generalize thV Z = ZV at *
    simp (disch := omega) [b_law_things_1, e, l7, n1, n2]
  | @house x y u v t k1 k2 k3 k4 k5 q1 q2 =>
    refine ⟨_, hz0.good, ?_⟩
    rw [thV_app, show thV [(Str.ofString "house", [x, y, u, v, t])] = [.sh (thLD (Str.ofString "house", [x, y, u, v, t]))] from rfl]
    have et : thLD (Str.ofString "house", [x, y, u, v, t]) = .lst [.str (Str.ofString "house"), .int x, .int y, .int u, .int v, .int t] := rfl
    rw [et] at e ⊢
    have n1 : ¬ (Str.ofString "house" = Str.ofString "post") := by decide
    have n2 : ¬ (Str.ofString "house" = Str.ofString "cloth") := by decide
    generalize thV Z = ZV at *
    simp (disch := omega) [b_law_things_1, e, l7, n1, n2]
theorem things_eq (G : Gs) (ns : List Int) {w h : Int} (w1 : 1 ≤ w) (w2 : w ≤ 20) (h1 : 1 ≤ h) (h2 : h ≤ 20) : ∃ Z : List Th, Z.length ≤ 40 ∧ (∀ z ∈ Z, good z.1 z.2 = true) ∧ φ_law_things G [scrI ns, .int w, .int h] = .ret (.sh (.lst (Z.map thLD))) := by
  have e := slD_scr (ns := ns) (i := 3) (j := 43) (by decide) (by decide)
  have sl := segI_le ns 3 43
  have hsl : ((segI ns (3 : Int).toNat (43 : Int).toNat).map D.int).length ≤ 40 := by rw [List.length_map]; exact sl
  obtain ⟨ρ', lp, Z, l1, l2, rfl⟩ := loop_reln (g := kName 4) (s := b_law_things_1 G) (is := [5, 6, 4]) (fun i ρ => ∃ Z : List Th, Z.length = i ∧ (∀ z ∈ Z, good z.1 z.2 = true) ∧ ρ = [some (.sh (scrI ns)), some (.sh (.int w)), some (.sh (.int h)), some (.lst (thV Z)), none, none, none]) ((segI ns (3 : Int).toNat (43 : Int).toNat).map D.int) 0 [some (.sh (scrI ns)), some (.sh (.int w)), some (.sh (.int h)), some (.lst (thV [])), none, none, none] ⟨[], rfl, by simp, rfl⟩ (fun i d ρ hd hi ⟨Z, k1, k2, k3⟩ => by
    obtain ⟨c, _, rfl⟩ := List.mem_map.mp hd
    subst k3
    obtain ⟨z, g, q⟩ := things_turn G (scrI ns) w1 w2 h1 h2 c Z (by omega)
    refine ⟨_, q, Z ++ [z], by simp [k1], fun x hx => ?_, rfl⟩
    rcases List.mem_append.mp hx with hx | hx
    · exact k2 x hx
    · rw [List.mem_singleton.mp hx]; exact g)
  refine ⟨Z, by omega, l2, ?_⟩
  have ef : fzs (thV Z) = Z.map thLD := by unfold thV; rw [fzs_map, List.map_map]; rfl
  have e : slD (some 3) (some 43) (scrI ns) = some (.lst (((segI ns (3 : Int).toNat (43 : Int).toNat).map D.int).map .sh)) := by rw [e, List.map_map]; rfl
  have e0 : thV [] = [] := rfl
  rw [e0] at lp
  generalize (segI ns (3 : Int).toNat (43 : Int).toNat).map D.int = SL at *
  generalize Z.map thLD = ZL at *
  generalize thV Z = ZV at *
  unfold φ_law_things s_law_things
  simp (disch := omega) [e, lp, ef]
/-! ### names -/
def LET : Str := Str.ofString "qwertyuiopasdfghjklzxcvbnm"
def lt (a : Nat) : Str := ⟨#[LET.cps.toList.getD a 0]⟩
theorem lt_ix {a : Nat} (h : a < 26) : ixD (.str LET) (.int (a : Int)) = some (.sh (.str (lt a))) := by
  have hl : LET.length = 26 := by decide
  have hl2 : LET.cps.toList.length = 26 := by decide
  have e : ixD (.str LET) (.int (a : Int)) = if LET.length ≤ 10000000 then (atI LET.cps.toList (a : Int)).map (fun c => Val.sh (.str ⟨#[c]⟩)) else none := by
    unfold ixD; rfl
  rw [e, if_pos (by omega), atI_nn (by omega), Int.toNat_natCast]
  unfold lt
  rw [List.getD_eq_getElem?_getD, List.getElem?_eq_getElem (show a < LET.cps.toList.length by omega)]; rfl
def W12 : List Str := [Str.ofString "night", Str.ofString "ray", Str.ofString "day", Str.ofString "yard", Str.ofString "post", Str.ofString "fence", Str.ofString "sail", Str.ofString "cloth", Str.ofString "house", Str.ofString "none", Str.ofString "off", Str.ofString "marks"]
def nm2 (a k : Nat) : Str := Txt.mul (lt a) (1 + (k : Int) % 8) ++ Txt.mul (lt ((a + 1) % 26)) ((k : Int) / 8)
def nm3 (c a : Nat) : Str := cutS (Str.ofString "night") none (some (c : Int)) ++ lt a ++ cutS (Str.ofString "ray") none (some ((c : Int) % 3))
theorem W12_ok : (W12.all isNam) = true ∧ ((List.range 12).all fun r => decide (W12.drop r ++ W12.take r).Nodup) = true := by decide +kernel
theorem nm2_ok : ((List.range 26).all fun a => (List.range 12).all fun k => isNam (nm2 a k)) = true ∧ ((List.range 26).all fun a => decide ((List.range 12).map (nm2 a)).Nodup) = true := by decide +kernel
theorem nm3_ok : ((List.range 7).all fun c => (List.range 26).all fun a => isNam (nm3 c a)) = true ∧ ((List.range 7).all fun c => decide ((List.range 26).map (nm3 c)).Nodup) = true := by decide +kernel
theorem inj_of_nodup {f : Nat → Str} {n : Nat} (h : ((List.range n).map f).Nodup) : ∀ i j, i < n → j < n → f i = f j → i = j := by
  have h2 := List.pairwise_iff_getElem.mp h
  have key : ∀ i j, i < j → j < n → f i ≠ f j := fun i j hij hj => by
    have := h2 i j (by simp; omega) (by simp; omega) hij
    simpa using this
  intro i j hi hj e
  rcases Nat.lt_trichotomy i j with q | q | q
  · exact absurd e (key i j q hj)
  · exact q
  · exact absurd e.symm (key j i q hi)
theorem nodup_of_inj {f : Nat → Str} {n : Nat} (h : ∀ i j, i < j → j < n → f i ≠ f j) : ((List.range n).map f).Nodup := by
  refine List.pairwise_iff_getElem.mpr fun i j hi hj hij => ?_
  simp only [List.length_map, List.length_range] at hi hj
  simpa using h i j hij hj
theorem names_eq (G : Gs) {n : Int} (hn : 0 ≤ n) {m : Nat} (hm : m ≤ 12) : ∃ N : List Str, N.length = m ∧ (∀ z ∈ N, NmOk z) ∧ N.Nodup ∧ φ_law_names G [.int n, .int m] = .ret (.sh (.lst (N.map .str))) := by
  have hlet : Str.ofString "qwertyuiopasdfghjklzxcvbnm" = LET := rfl
  by_cases h3 : n % 3 = 2
  · obtain ⟨r, hr⟩ : ∃ r : Nat, n / 3 % 12 = (r : Int) := ⟨(n / 3 % 12).toNat, by omega⟩
    have hr2 : r < 12 := by omega
    obtain ⟨a1, a2⟩ := W12_ok
    rw [List.all_eq_true] at a1 a2
    have nd := of_decide_eq_true (a2 r (List.mem_range.mpr hr2))
    have len : (W12.drop r ++ W12.take r).length = 12 := by
      have : W12.length = 12 := rfl
      rw [List.length_append, List.length_drop, List.length_take]; omega
    have hW : W12.length = 12 := rfl
    refine ⟨(W12.drop r ++ W12.take r).take m, by rw [List.length_take]; omega, fun z hz => ?_, nd.sublist (List.take_sublist _ _), ?_⟩
    · have := List.mem_of_mem_take hz
      rcases List.mem_append.mp this with h | h
      · exact a1 z (List.mem_of_mem_drop h)
      · exact a1 z (List.mem_of_mem_take h)
    · have c1 : cutD (W12.map D.str) (some (r : Int)) none = (W12.drop r).map .str := by rw [cutD_ln (by omega), List.map_drop]; rfl
      have c2 : cutD (W12.map D.str) none (some (r : Int)) = (W12.take r).map .str := by rw [cutD_nl (by omega), List.map_take]; rfl
      have ad : addD (.lst ((W12.drop r).map .str)) (.lst ((W12.take r).map .str)) = some (.lst (((W12.drop r ++ W12.take r).map D.str).map .sh)) := by
        rw [addD_lst (by simp; omega), List.map_append (f := D.str)]
      have c3 : cutD ((W12.drop r ++ W12.take r).map D.str) none (some (m : Int)) = ((W12.drop r ++ W12.take r).take m).map .str := by rw [cutD_nl (by omega), List.map_take]; rfl
      have eW : [D.str (Str.ofString "night"), .str (Str.ofString "ray"), .str (Str.ofString "day"), .str (Str.ofString "yard"), .str (Str.ofString "post"), .str (Str.ofString "fence"), .str (Str.ofString "sail"), .str (Str.ofString "cloth"), .str (Str.ofString "house"), .str (Str.ofString "none"), .str (Str.ofString "off"), .str (Str.ofString "marks")] = W12.map D.str := rfl
      generalize (W12.drop r ++ W12.take r).take m = N at *
      generalize (W12.drop r ++ W12.take r).map D.str = R at *
      generalize (W12.drop r).map D.str = R1 at *
      generalize (W12.take r).map D.str = R2 at *
      unfold φ_law_names s_law_names
      simp (disch := omega) [h3, eW, hr, c1, c2, ad, c3]
  · have rl : (rangeL 0 m).length ≤ 10000000 := by simp [rangeL]; omega
    by_cases h2 : n % 2 = 0
    · obtain ⟨a, ha⟩ : ∃ a : Nat, n / 2 % 26 = (a : Int) := ⟨(n / 2 % 26).toNat, by omega⟩
      have ha2 : a < 26 := by omega
      have hb : (n / 2 + 1) % 26 = (((a + 1) % 26 : Nat) : Int) := by omega
      obtain ⟨a1, a2⟩ := nm2_ok
      rw [List.all_eq_true] at a1 a2
      have a1 := a1 a (List.mem_range.mpr ha2)
      rw [List.all_eq_true] at a1
      have nd := of_decide_eq_true (a2 a (List.mem_range.mpr ha2))
      have sub : ((List.range m).map (nm2 a)).Sublist ((List.range 12).map (nm2 a)) := (List.range_sublist.mpr hm).map _
      refine ⟨(List.range m).map (nm2 a), by simp, fun z hz => ?_, nd.sublist sub, ?_⟩
      · obtain ⟨k, hk, rfl⟩ := List.mem_map.mp hz
        exact a1 k (List.mem_range.mpr (by have := List.mem_range.mp hk; omega))
      · have i1 := lt_ix ha2
        have em : ((a : Int) + 1) % 26 = (((a + 1) % 26 : Nat) : Int) := by omega
        have i2 : ixD (.str LET) (.int (((a : Int) + 1) % 26)) = some (.sh (.str (lt ((a + 1) % 26)))) := by rw [em]; exact lt_ix (by omega)
        have ec := comp_mapA (g := kName 7) (f := e_law_names_1 G) (is := [7]) (ρ := [some (.sh (.int n)), some (.sh (.int m)), some (.sh (.str LET)), none, some (.sh (.str (lt a))), some (.sh (.str (lt ((a + 1) % 26)))), none, none]) (fun k : Nat => D.int (0 + (k : Int))) (fun k => D.str (nm2 a k)) (List.range m) [] (fun k hk => by
          have hk := List.mem_range.mp hk
          have la : ∀ a, (lt a).length = 1 := fun _ => rfl
          have r1 : repS (.str (lt a)) (.int (1 + (k : Int) % 8)) = some (.sh (.str (Txt.mul (lt a) (1 + (k : Int) % 8)))) := by
            have e : repS (.str (lt a)) (.int (1 + (k : Int) % 8)) = if CRepS (lt a) (1 + (k : Int) % 8) then some (.sh (.str (Txt.mul (lt a) (1 + (k : Int) % 8)))) else none := rfl
            rw [e, if_pos]
            unfold CRepS
            rw [la]
            omega
          have r2 : repS (.str (lt ((a + 1) % 26))) (.int ((k : Int) / 8)) = some (.sh (.str (Txt.mul (lt ((a + 1) % 26)) ((k : Int) / 8)))) := by
            have e : repS (.str (lt ((a + 1) % 26))) (.int ((k : Int) / 8)) = if CRepS (lt ((a + 1) % 26)) ((k : Int) / 8) then some (.sh (.str (Txt.mul (lt ((a + 1) % 26)) ((k : Int) / 8)))) else none := rfl
            rw [e, if_pos]
            unfold CRepS
            rw [la]
            omega
          have m1 := mul_len (lt a) (1 + (k : Int) % 8)
          have m2 := mul_len (lt ((a + 1) % 26)) ((k : Int) / 8)
          rw [la] at m1 m2
          have ad : addD (.str (Txt.mul (lt a) (1 + (k : Int) % 8))) (.str (Txt.mul (lt ((a + 1) % 26)) ((k : Int) / 8))) = some (.sh (.str (nm2 a k))) := addD_str (by omega)
          rw [show (0 : Int) + (k : Int) = (k : Int) by omega]
          generalize nm2 a k = z at *
          generalize Txt.mul (lt a) (1 + (k : Int) % 8) = z1 at *
          generalize Txt.mul (lt ((a + 1) % 26)) ((k : Int) / 8) = z2 at *
          simp (disch := omega) [e_law_names_1, r1, r2, ad])
        have eN : ((List.range m).map fun k => D.str (nm2 a k)) = ((List.range m).map (nm2 a)).map D.str := by rw [List.map_map]; rfl
        rw [List.nil_append, eN] at ec
        have ec : comp (kName 7) sYes (e_law_names_1 G) [7] (rangeL 0 m) [] _ = _ := ec
        generalize ((List.range m).map (nm2 a)).map D.str = N at *
        generalize lt a = l1 at *
        generalize lt ((a + 1) % 26) = l2 at *
        unfold φ_law_names s_law_names
        rw [hlet]
        simp (disch := omega) [h3, h2, ha, hb, i1, i2, ec, rl]
    · obtain ⟨c, hc⟩ : ∃ c : Nat, n / 2 % 7 = (c : Int) := ⟨(n / 2 % 7).toNat, by omega⟩
      have hc2 : c < 7 := by omega
      obtain ⟨b, hb⟩ : ∃ b : Nat, n / 14 = (b : Int) := ⟨(n / 14).toNat, by omega⟩
      obtain ⟨a1, a2⟩ := nm3_ok
      rw [List.all_eq_true] at a1 a2
      have a1 := a1 c (List.mem_range.mpr hc2)
      rw [List.all_eq_true] at a1
      have nd := of_decide_eq_true (a2 c (List.mem_range.mpr hc2))
      have inj := inj_of_nodup nd
      refine ⟨(List.range m).map fun k => nm3 c ((b + k) % 26), by simp, fun z hz => ?_, ?_, ?_⟩
      · obtain ⟨k, hk, rfl⟩ := List.mem_map.mp hz
        exact a1 _ (List.mem_range.mpr (Nat.mod_lt _ (by decide)))
      · refine nodup_of_inj fun i j hij hj e => ?_
        have := inj _ _ (Nat.mod_lt _ (by decide)) (Nat.mod_lt _ (by decide)) e
        omega
      · have ec := comp_mapA (g := kName 7) (f := e_law_names_2 G) (is := [7]) (ρ := [some (.sh (.int n)), some (.sh (.int m)), some (.sh (.str LET)), none, none, none, some (.sh (.int (c : Int))), none]) (fun k : Nat => D.int (0 + (k : Int))) (fun k => D.str (nm3 c ((b + k) % 26))) (List.range m) [] (fun k hk => by
          have hk := List.mem_range.mp hk
          have em : ((b : Int) + (k : Int)) % 26 = (((b + k) % 26 : Nat) : Int) := by omega
          have i1 : ixD (.str LET) (.int (((b : Int) + (k : Int)) % 26)) = some (.sh (.str (lt ((b + k) % 26)))) := by
            rw [em]; exact lt_ix (Nat.mod_lt _ (by decide))
          have la : (lt ((b + k) % 26)).length = 1 := rfl
          have s1 := slD_str (z := Str.ofString "night") (lo := none) (hi := some (c : Int)) (by decide)
          have s2 := slD_str (z := Str.ofString "ray") (lo := none) (hi := some ((c : Int) % 3)) (by decide)
          have l1 := cut_len (Str.ofString "night") none (some (c : Int))
          have l2 := cut_len (Str.ofString "ray") none (some ((c : Int) % 3))
          have l3 : (Str.ofString "night").length = 5 := by decide
          have l4 : (Str.ofString "ray").length = 3 := by decide
          have ad1 : addD (.str (cutS (Str.ofString "night") none (some (c : Int)))) (.str (lt ((b + k) % 26))) = some (.sh (.str (cutS (Str.ofString "night") none (some (c : Int)) ++ lt ((b + k) % 26)))) := addD_str (by omega)
          have ad2 : addD (.str (cutS (Str.ofString "night") none (some (c : Int)) ++ lt ((b + k) % 26))) (.str (cutS (Str.ofString "ray") none (some ((c : Int) % 3)))) = some (.sh (.str (nm3 c ((b + k) % 26)))) := addD_str (by rw [app_len]; omega)
          rw [show (0 : Int) + (k : Int) = (k : Int) by omega]
          generalize nm3 c ((b + k) % 26) = z at *
          generalize cutS (Str.ofString "night") none (some (c : Int)) ++ lt ((b + k) % 26) = z1 at *
          generalize cutS (Str.ofString "night") none (some (c : Int)) = z2 at *
          generalize cutS (Str.ofString "ray") none (some ((c : Int) % 3)) = z3 at *
          generalize lt ((b + k) % 26) = z4 at *
          generalize LET = LL at *
          simp (disch := omega) [e_law_names_2, hb, i1, s1, s2, ad1, ad2])
        have eN : ((List.range m).map fun k => D.str (nm3 c ((b + k) % 26))) = ((List.range m).map fun k => nm3 c ((b + k) % 26)).map D.str := by rw [List.map_map]; rfl
        rw [List.nil_append, eN] at ec
        have ec : comp (kName 7) sYes (e_law_names_2 G) [7] (rangeL 0 m) [] _ = _ := ec
        generalize ((List.range m).map fun k => nm3 c ((b + k) % 26)).map D.str = N at *
        unfold φ_law_names s_law_names
        rw [hlet]
        simp (disch := omega) [h3, h2, hc, ec, rl]
end My

namespace My
open PySem PySem.Spec L2 DL HU
/-! days, and the law -/
theorem list_ex {α : Type} {Q : α → Prop} {f : α → D} : ∀ ys : List D, (∀ y ∈ ys, ∃ z, Q z ∧ y = f z) → ∃ Z : List α, ys = Z.map f ∧ ∀ z ∈ Z, Q z
  | [], _ => ⟨[], rfl, by simp⟩
  | y :: ys, h => by
    obtain ⟨z, h1, rfl⟩ := h y List.mem_cons_self
    obtain ⟨Z, rfl, h2⟩ := list_ex ys fun a ha => h a (List.mem_cons_of_mem _ ha)
    refine ⟨z :: Z, rfl, fun a ha => ?_⟩
    rcases List.mem_cons.mp ha with rfl | ha
    · exact h1
    · exact h2 a ha
theorem comp_exD {g : D → DEnv → Option DEnv} {f : DEnv → R Val} {ρ : DEnv} {is : List Nat} {P : D → Prop} : ∀ (l : List D) (acc : List Val), (∀ a, a ∈ l → ∃ y, P y ∧ (lpR (g a ρ) fun ρ1 => (f ρ1).bind fun x ρ2 => .ok x (forget is ρ2)) = .ok (.sh y) ρ) → ∃ ys : List D, ys.length = l.length ∧ (∀ y ∈ ys, P y) ∧ comp g sYes f is l acc ρ = .ok (.lst (acc ++ ys.map .sh)) ρ := fun l => by
  induction l with
  | nil => intro acc _; exact ⟨[], rfl, by simp, by simp [comp]⟩
  | cons a l ih =>
    intro acc h
    obtain ⟨y, hy, e⟩ := h a List.mem_cons_self
    obtain ⟨ys, l1, l2, l3⟩ := ih (acc ++ [.sh y]) fun b hb => h b (List.mem_cons_of_mem _ hb)
    refine ⟨y :: ys, by simp [l1], fun x hx => ?_, ?_⟩
    · rcases List.mem_cons.mp hx with rfl | hx
      · exact hy
      · exact l2 x hx
    · have := comp_mapA (g := g) (f := f) (ρ := ρ) (is := is) (fun _ : Unit => a) (fun _ => y) [()] acc (fun _ _ => e)
      rw [comp]
      cases e1 : g a ρ with
      | none => rw [e1] at e; cases e
      | some ρ1 =>
        rw [e1] at e
        simp only [lpR_s] at e
        simp only [sYes_ap]
        cases e2 : f ρ1 with
        | bad => rw [e2] at e; cases e
        | exc _ _ => rw [e2] at e; cases e
        | ok x ρ2 =>
          rw [e2] at e
          simp only [R.bind_ok, R.ok.injEq] at e
          simp only [e.1, e.2]
          rw [l3]
          simp
def dsV (ds : List Dy) : List Val := ds.map fun d => .sh (dyD d)
theorem dsV_app (a b : List Dy) : dsV (a ++ b) = dsV a ++ dsV b := List.map_append
theorem day_turn (G : Gs) (S : D) {n : Int} (hn : 0 ≤ n) (m : D) (N : List Str) {k : Nat} (hk : k < N.length) (hk2 : k < 12) (hN : NmOk N[k]) (ds : List Dy) (hl : ds.length ≤ 100) : ∃ d : Dy, d.name = N[k] ∧ DayOk d ∧
    (lpK (kName 5 (.int (k : Int)) [some (.sh S), some (.sh (.int n)), some (.sh m), some (.sh (.lst (N.map .str))), some (.lst (dsV ds)), none, none, none, none, none]) fun ρ1 => flp (b_law_days_2 G ρ1) (fun ρ2 => .nx (forget [6, 7, 8, 5] ρ2)) fun _ => .bad) = .nx [some (.sh S), some (.sh (.int n)), some (.sh m), some (.sh (.lst (N.map .str))), some (.lst (dsV (ds ++ [d]))), none, none, none, none, none] := by
  have kk : 0 ≤ 7919 * (k : Int) * (k : Int) := Int.mul_nonneg (by omega) (by omega)
  obtain ⟨L, hL, hb, e⟩ := spread_eq G (n := n + 7919 * (k : Int) * (k : Int)) (by omega) (m := 3) (by decide) (by decide)
  obtain ⟨x0, x1, x2, rfl⟩ : ∃ a b c, L = [a, b, c] := by
    match L, hL with
    | [a, b, c], _ => exact ⟨a, b, c, rfl⟩
  have b : ∀ x ∈ [x0, x1, x2], 0 ≤ x ∧ x < 1000000000 := hb
  simp only [List.mem_cons, List.not_mem_nil, or_false, forall_eq_or_imp, forall_eq] at b
  obtain ⟨b0, b1, b2⟩ := b
  simp only [List.map_cons, List.map_nil] at e
  obtain ⟨c, hc⟩ : ∃ c : Nat, 1 + x0 / 9 % 24 = (c : Int) := ⟨(1 + x0 / 9 % 24).toNat, by omega⟩
  obtain ⟨o, ho, ix⟩ : ∃ o : Int, (1 ≤ o ∧ o ≤ 1000000000) ∧ ixD (.lst [.int 1, .int 365, .int 1000000000, .int (1 + x0 % 1000000000)]) (.int (x1 % 4)) = some (.sh (.int o)) := by
    have : x1 % 4 = 0 ∨ x1 % 4 = 1 ∨ x1 % 4 = 2 ∨ x1 % 4 = 3 := by omega
    rcases this with h | h | h | h <;> rw [h]
    · exact ⟨1, by decide, rfl⟩
    · exact ⟨365, by decide, rfl⟩
    · exact ⟨1000000000, by decide, rfl⟩
    · exact ⟨1 + x0 % 1000000000, by omega, rfl⟩
  obtain ⟨ys, y1, y2, y3⟩ := comp_exD (g := kName 9) (f := e_law_days_1 G) (is := [9]) (ρ := [some (.sh S), some (.sh (.int n)), some (.sh m), some (.sh (.lst (N.map .str))), some (.lst (dsV ds)), some (.sh (.int (k : Int))), some (.sh (.lst [.int x0, .int x1, .int x2])), some (.sh (.int o)), none, none]) (P := fun y => ∃ t, TnOk t ∧ y = tnD t) (rangeL 0 c) [] (fun a ha => by
    obtain ⟨j, hj, rfl⟩ := mem_rangeL.mp ha
    rw [show (0 : Int) + (j : Int) = (j : Int) by omega]
    have jj : 0 ≤ 101 * (j : Int) * (j : Int) := Int.mul_nonneg (by omega) (by omega)
    obtain ⟨t, ht, q⟩ := ray_draw G (n := x2 + 101 * (j : Int) * (j : Int) + (j : Int)) (by omega)
    refine ⟨tnD t, ⟨t, ht, rfl⟩, ?_⟩
    generalize tnD t = T at *
    generalize dsV ds = DV at *
    generalize N.map D.str = NL at *
    simp (disch := omega) [e_law_days_1, q])
  rw [List.nil_append] at y3
  obtain ⟨T, rfl, hT⟩ := list_ex ys y2
  have rl : (rangeL 0 c).length = c := by simp [rangeL]
  have hc7 : c ≤ 10000000 := by omega
  have hTl : T.length = c := by rw [List.length_map] at y1; omega
  refine ⟨⟨N[k], o, T⟩, rfl, ⟨hN, ⟨ho, by simp only; omega, hT⟩, fun z => by simp only at z; rw [z] at hTl; simp at hTl; omega⟩, ?_⟩
  have gi : (N.map D.str)[k]? = some (.str N[k]) := by rw [List.getElem?_map, List.getElem?_eq_getElem hk]; rfl
  obtain ⟨hiL, gL⟩ := List.getElem?_eq_some_iff.mp gi
  have l7 : (dsV ds).length < 10000000 := by unfold dsV; rw [List.length_map]; omega
  rw [dsV_app, show dsV [(⟨N[k], o, T⟩ : Dy)] = [.sh (.tup [.str N[k], .int o, .lst (T.map tnD)])] from rfl]
  generalize T.map tnD = TL at *
  generalize dsV ds = DV at *
  generalize hnk : N[k] = nm at *
  generalize N.map D.str = NL at *
  simp (disch := omega) [b_law_days_2, e, ix, hc, rl, y3, gL, l7, hc7]
theorem days_go (G : Gs) (S : D) {n : Int} (hn : 0 ≤ n) (m : D) (N : List Str) (hN : ∀ z ∈ N, NmOk z) (h12 : N.length ≤ 12) : ∀ (j k : Nat) (ds : List Dy), k + j = N.length → (∀ d ∈ ds, DayOk d) → ds.map (·.name) = N.take k →
    ∃ ds' : List Dy, (∀ d ∈ ds', DayOk d) ∧ ds'.map (·.name) = N ∧ loop (kName 5) (b_law_days_2 G) [6, 7, 8, 5] (rangeL (k : Int) j) [some (.sh S), some (.sh (.int n)), some (.sh m), some (.sh (.lst (N.map .str))), some (.lst (dsV ds)), none, none, none, none, none] = .nx [some (.sh S), some (.sh (.int n)), some (.sh m), some (.sh (.lst (N.map .str))), some (.lst (dsV ds')), none, none, none, none, none]
  | 0, k, ds, hk, h1, h2 => by
    have e : N.take k = N := List.take_of_length_le (by omega)
    rw [e] at h2
    exact ⟨ds, h1, h2, rfl⟩
  | j + 1, k, ds, hk, h1, h2 => by
    have hkl : k < N.length := by omega
    have hl : ds.length = k := by
      have := congrArg List.length h2
      rw [List.length_map, List.length_take] at this
      omega
    obtain ⟨d, d1, d2, d3⟩ := day_turn G S hn m N hkl (by omega) (hN _ (List.getElem_mem hkl)) ds (by omega)
    obtain ⟨ds', q1, q2, q3⟩ := days_go G S hn m N hN h12 j (k + 1) (ds ++ [d]) (by omega) (fun x hx => by
      rcases List.mem_append.mp hx with hx | hx
      · exact h1 x hx
      · rw [List.mem_singleton.mp hx]; exact d2) (by
      rw [List.map_append, h2, List.take_succ_eq_append_getElem hkl, List.map_cons, List.map_nil, d1])
    refine ⟨ds', q1, q2, ?_⟩
    rw [rangeL_s, loop_one d3]
    have ek : (k : Int) + 1 = ((k + 1 : Nat) : Int) := by omega
    rw [ek, q3]
theorem days_eq (G : Gs) (ns : List Int) : ∃ ds : List Dy, ds.length ≤ 12 ∧ (∀ d ∈ ds, DayOk d) ∧ (ds.map (·.name)).Nodup ∧ φ_law_days G [scrI ns] = .ret (.sh (.lst (ds.map dyD))) := by
  have p1 := part_eq G ns 1 (by decide)
  have p2 := part_eq G ns 2 (by decide)
  obtain ⟨m, hm⟩ : ∃ m : Nat, ((cellI ns 2).natAbs : Int) % 13 = (m : Int) := ⟨(((cellI ns 2).natAbs : Int) % 13).toNat, by omega⟩
  have hm2 : m ≤ 12 := by omega
  obtain ⟨N, n1, n2, n3, n4⟩ := names_eq G (n := ((cellI ns 1).natAbs : Int)) (by omega) hm2
  obtain ⟨ds, l2, l3, lp⟩ := days_go G (scrI ns) (n := ((cellI ns 1).natAbs : Int)) (by omega) (.int (m : Int)) N n2 (by omega) m 0 [] (by omega) (by simp) (by simp)
  have l1 : ds.length = m := by
    have := congrArg List.length l3
    rw [List.length_map] at this
    omega
  refine ⟨ds, by omega, l2, by rw [l3]; exact n3, ?_⟩
  have ef : fzs (dsV ds) = ds.map dyD := by unfold dsV; rw [fzs_map, List.map_map]; rfl
  have e0 : dsV [] = [] := rfl
  rw [e0] at lp
  have lp : loop (kName 5) (b_law_days_2 G) [6, 7, 8, 5] (rangeL 0 m) _ = _ := lp
  generalize (cellI ns 1).natAbs = c1 at *
  generalize (cellI ns 2).natAbs = c2 at *
  generalize ds.map dyD = DL at *
  generalize dsV ds = DV at *
  generalize N.map D.str = NL at *
  unfold φ_law_days s_law_days
  simp (disch := omega) [p1, p2, hm, n4, lp, ef]
/-! ### the yard is the same -/
theorem eqvs_strs (l : List Str) : eqvs (l.map .str) (l.map .str) = true := by
  induction l with
  | nil => simp
  | cons a l ih => rw [List.map_cons, eqvs_cons, ih]; simp
theorem eqv_tn (t : Tn) : D.eqv (tnD t) (tnD t) = true := by
  cases t with
  | none => simp [tnD]
  | some r => obtain ⟨a, b, c⟩ := r; simp [tnD, p3D_mk]
theorem eqvs_tn (T : List Tn) : eqvs (T.map tnD) (T.map tnD) = true := by
  induction T with
  | nil => simp
  | cons a l ih => rw [List.map_cons, eqvs_cons, ih, eqv_tn]; rfl
theorem same_eq (G : Gs) {w h : Nat} {Z : List Th} {ds : List Dy} (Y : YardOk w h Z ds) : φ_law_same G [yardD G w h (Z.map fun z => thD (clsOf G z.1) z.2) (ds.map dyD), .int w, .int h, .lst (Z.map thLD), .lst (ds.map dyD)] = .ret (.sh (.bl true)) := by
  obtain ⟨yv, hyv⟩ : ∃ yv, yardD G w h (Z.map fun z => thD (clsOf G z.1) z.2) (ds.map dyD) = yv := ⟨_, rfl⟩
  have f1 : fldD [G.c_Yard] "width" yv = some (.sh (.int w)) := by rw [← hyv]; unfold yardD; rw [fldD_ins, if_pos (by simp)]; rfl
  have f2 : fldD [G.c_Yard] "height" yv = some (.sh (.int h)) := by rw [← hyv]; unfold yardD; rw [fldD_ins, if_pos (by simp)]; rfl
  have f3 : fldD [G.c_Yard] "things" yv = some (.sh (.lst (Z.map fun z => thD (clsOf G z.1) z.2))) := by rw [← hyv]; unfold yardD; rw [fldD_ins, if_pos (by simp)]; rfl
  have f4 : fldD [G.c_Yard] "days" yv = some (.sh (.lst (ds.map dyD))) := by rw [← hyv]; unfold yardD; rw [fldD_ins, if_pos (by simp)]; rfl
  have e1 := comp_mapA (g := kName 7) (f := e_law_same_1 G) (is := [7]) (ρ := [some (.sh yv), some (.sh (.int w)), some (.sh (.int h)), some (.sh (.lst (Z.map thLD))), some (.sh (.lst (ds.map dyD))), none, none, none, none, none]) (fun z : Th => thD (clsOf G z.1) z.2) (fun z => D.str (row (thWs z))) Z [] (fun z hz => by
    obtain ⟨g1, g2, g3⟩ := good_w (Y.zs z hz)
    have m1 := shown_meth G g1 z.2
    have m2 : φ_Thing_shown G [thD (clsOf G z.1) z.2] = .ret (.sh (.str (row (thWs z)))) := shown_eq G g1 g2 g3
    generalize thD (clsOf G z.1) z.2 = d at *
    generalize row (thWs z) = rw0 at *
    generalize Z.map thLD = ZL at *
    generalize ds.map dyD = DL at *
    simp [e_law_same_1, m1, m2])
  have e2 := comp_mapA (g := kName 8) (f := e_law_same_2 G) (is := [8]) (ρ := [some (.sh yv), some (.sh (.int w)), some (.sh (.int h)), some (.sh (.lst (Z.map thLD))), some (.sh (.lst (ds.map dyD))), none, none, none, none, none]) thLD (fun z => D.str (row (thWs z))) Z [] (fun z hz => by
    have q := joined_th G (Y.zs z hz)
    generalize thLD z = zz at *
    generalize row (thWs z) = rw0 at *
    generalize Z.map thLD = ZL at *
    generalize ds.map dyD = DL at *
    simp [e_law_same_2, q])
  rw [List.nil_append] at e1 e2
  have eS : (Z.map fun z => D.str (row (thWs z))) = (Z.map fun z => row (thWs z)).map .str := by rw [List.map_map]; rfl
  have s1 := eqvs_strs (Z.map fun z => row (thWs z))
  have s2 : (∀ x, x ∈ (Z.map fun z => row (thWs z)).map D.str → D.ok 19 x = true) = True := eq_true fun x hx => by
    obtain ⟨z, _, rfl⟩ := List.mem_map.mp hx
    rfl
  rw [eS] at e1 e2
  have l1 : (Z.map fun z => thD (clsOf G z.1) z.2).length ≤ 10000000 := by rw [List.length_map]; have := Y.zl; omega
  have l2 : (Z.map thLD).length ≤ 10000000 := by rw [List.length_map]; have := Y.zl; omega
  have l3 : (ds.map dyD).length = ds.length := List.length_map _
  have dl := Y.dl
  have lp : ∀ d, d ∈ rangeL 0 ds.length → (lpK (kName 5 d [some (.sh yv), some (.sh (.int w)), some (.sh (.int h)), some (.sh (.lst (Z.map thLD))), some (.sh (.lst (ds.map dyD))), none, none, none, none, none]) fun ρ1 => flp (b_law_same_4 G ρ1) (fun ρ2 => .nx (forget [6, 5] ρ2)) fun _ => .bad) = .nx [some (.sh yv), some (.sh (.int w)), some (.sh (.int h)), some (.sh (.lst (Z.map thLD))), some (.sh (.lst (ds.map dyD))), none, none, none, none, none] := fun d hd => by
    obtain ⟨k, hk, rfl⟩ := mem_rangeL.mp hd
    rw [show (0 : Int) + (k : Int) = (k : Int) by omega]
    obtain ⟨dk, hdk⟩ : ∃ dk, ds[k] = dk := ⟨_, rfl⟩
    have gi : (ds.map dyD)[k]? = some (.tup [.str dk.name, .int dk.many, .lst (dk.turns.map tnD)]) := by rw [List.getElem?_map, List.getElem?_eq_getElem hk, hdk]; rfl
    obtain ⟨hiL, gL⟩ := List.getElem?_eq_some_iff.mp gi
    have h24 : dk.turns.length ≤ 24 := by rw [← hdk]; exact (Y.dy _ (List.getElem_mem hk)).2.1.2.1
    have q1 := eqvs_tn dk.turns
    have q2 : (∀ x, x ∈ dk.turns.map tnD → D.ok 18 x = true) = True := eq_true fun x hx => by
      obtain ⟨t, _, rfl⟩ := List.mem_map.mp hx
      exact (tn_ok t).2.1
    have ec := fun (a b c e x y : Option Val) => comp_mapA (g := kName 9) (f := e_law_same_3 G) (is := [9]) (ρ := [a, b, c, e, x, y, some (.sh (dyD dk)), none, none, none]) tnD (fun _ => D.bl true) dk.turns [] (fun t _ => by
      cases t with
      | none => simp [e_law_same_3, tnD]
      | some r => obtain ⟨u, v, z⟩ := r; simp [e_law_same_3, tnD, p3D_mk])
    have al : allD (.lst (dk.turns.map fun _ => D.bl true)) = some (.sh (.bl true)) := by
      have := allL_map (l := dk.turns.map fun _ => true)
      rw [List.map_map, List.all_map] at this
      rw [show (dk.turns.map fun _ => D.bl true) = dk.turns.map (D.bl ∘ fun _ => true) from rfl, this]
      congr 3
      exact List.all_eq_true.mpr fun _ _ => rfl
    have lt : (dk.turns.map tnD).length ≤ 10000000 := by rw [List.length_map]; omega
    have ed : dyD dk = .tup [.str dk.name, .int dk.many, .lst (dk.turns.map tnD)] := rfl
    rw [ed] at ec
    generalize (dk.turns.map fun _ => D.bl true) = TB at *
    generalize dk.turns.map tnD = T at *
    generalize Z.map thLD = ZL at *
    generalize ds.map dyD = DL at *
    simp (disch := omega) [b_law_same_4, f4, gL, q1, q2, ec, al, lt]
  have lp := loop_same2 lp
  rw [hyv]
  generalize (Z.map fun z => row (thWs z)).map D.str = ZS at *
  generalize (Z.map fun z => thD (clsOf G z.1) z.2) = TS at *
  generalize Z.map thLD = ZL at *
  generalize ds.map dyD = DL at *
  unfold φ_law_same s_law_same
  simp (disch := omega) [f1, f2, f3, f4, e1, e2, s1, s2, l1, l2, l3, lp]
theorem yinit3 (G : Gs) (w h : Nat) (ts : List D) (days : List Dy) (hd : days.length ≤ 100) : φ_Yard_init G [.int w, .int h, .scr ts, .scr (days.map dyL)] = some ([Str.ofString "width", Str.ofString "height", Str.ofString "things", Str.ofString "days"], [D.int w, D.int h, D.lst ts, D.lst (days.map dyD)]) := by
  have n1 : ¬ (Str.ofString "height" = Str.ofString "width") := by decide
  have n2 : ¬ (Str.ofString "things" = Str.ofString "width") := by decide
  have n3 : ¬ (Str.ofString "things" = Str.ofString "height") := by decide
  have n4 : ¬ (Str.ofString "days" = Str.ofString "width") := by decide
  have n5 : ¬ (Str.ofString "days" = Str.ofString "height") := by decide
  have n6 : ¬ (Str.ofString "days" = Str.ofString "things") := by decide
  have c := comp_mapV (g := kSeq 3 (kCons (kName 5) (kCons (kName 6) (kCons (kName 7) kNil)))) (f := e_Yard_init_1 G) (is := [5, 6, 7]) (ρ := [none, some (.sh (.int w)), some (.sh (.int h)), some (.sh (.scr ts)), some (.sh (.scr (days.map dyL))), none, none, none]) dyL dyV days [] (fun d hd => by
    unfold dyL dyV
    generalize d.turns.map tnD = T
    simp (disch := omega) [e_Yard_init_1])
  rw [List.nil_append] at c
  have hf : fzs (days.map dyV) = days.map dyD := by
    rw [fzs_map, List.map_map]
    exact List.map_congr_left fun d _ => fz_dyV d
  have hl7 : (days.map dyL).length ≤ 10000000 := by rw [List.length_map]; omega
  unfold φ_Yard_init l_Yard_init
  generalize days.map dyV = V at *
  generalize days.map dyL = L at *
  generalize days.map dyD = L2 at *
  simp (disch := omega) [runInit_cons, runInit_nil, n1, n2, n3, n4, n5, n6, c, hf, hl7]
theorem spoil_at {j a b c : Nat} {ρ : DEnv} {ys : List Val} (h : ρ[j]? = some (some (.lst ys))) (h2 : ys.all isT3 = true) (h3 : j ≠ a ∧ j ≠ b ∧ j ≠ c ∧ a < ρ.length ∧ b < ρ.length ∧ c < ρ.length) : sSpoil j a b c ρ = .nx ((forget [a, b, c] ρ).set j (some (.lst (ys.map fun _ => .sh .junk)))) := by
  unfold sSpoil
  rw [h]
  show (if ys.all isT3 = true ∧ j ≠ a ∧ j ≠ b ∧ j ≠ c ∧ a < ρ.length ∧ b < ρ.length ∧ c < ρ.length then Fl.nx ((forget [a, b, c] ρ).set j (some (.lst (ys.map fun _ => .sh .junk)))) else .bad) = _
  rw [if_pos ⟨h2, h3⟩]
theorem law_true (G : Gs) (ns : List Int) (hl : ns.length ≤ 63) : φ_law G [scrI ns] = .ret (.sh (.bl true)) := by
  have p0 := part_eq G ns 0 (by decide)
  obtain ⟨w, hw⟩ : ∃ w : Nat, 1 + ((cellI ns 0).natAbs : Int) % 20 = (w : Int) := ⟨(1 + ((cellI ns 0).natAbs : Int) % 20).toNat, by omega⟩
  obtain ⟨h, hh⟩ : ∃ h : Nat, 1 + ((cellI ns 0).natAbs : Int) / 20 % 20 = (h : Int) := ⟨(1 + ((cellI ns 0).natAbs : Int) / 20 % 20).toNat, by omega⟩
  obtain ⟨Z, z1, z2, z3⟩ := things_eq G ns (w := (w : Int)) (h := (h : Int)) (by omega) (by omega) (by omega) (by omega)
  obtain ⟨ds, d1, d2, d3, d4⟩ := days_eq G ns
  have Y : YardOk w h Z ds := ⟨by omega, by omega, by omega, by omega, z2, z1, d2, d1, d3⟩
  have e1 := yard_text_eq G Y
  have e2 := read_yard_eq G Y
  have e3 := same_eq G Y
  have e4 := show_yard_eq G Y
  have iy := yinit3 G w h (Z.map fun z => thD (clsOf G z.1) z.2) ds (by omega)
  have c1 := comp_mapA (g := kName 13) (f := e_law_1 G) (is := [13]) (ρ := [some (.sh (scrI ns)), some (.sh (.int w)), some (.sh (.int h)), some (.sh (.lst (Z.map thLD))), some (.sh (.lst (ds.map dyD))), some (.sh (.str (txtOf w h Z ds))), some (.sh (yardD G w h (Z.map fun z => thD (clsOf G z.1) z.2) (ds.map dyD))), none, none, none, none, none, none, none]) thLD (fun z => thD (clsOf G z.1) z.2) Z [] (fun z hz => by
    have q := thing_of_all G z.1 z.2
    unfold thOf at q
    rw [if_pos (z2 z hz)] at q
    have et : thLD z = .lst (.str z.1 :: z.2.map .int) := rfl
    have ct : cutD (.str z.1 :: z.2.map D.int) (some 1) none = z.2.map .int := by rw [cutD_ln (by decide)]; rfl
    rw [et]
    generalize thD (clsOf G z.1) z.2 = d at *
    generalize z.2.map D.int = L at *
    generalize Z.map thLD = ZL at *
    generalize ds.map dyD = DL at *
    generalize yardD G w h (Z.map fun z => thD (clsOf G z.1) z.2) DL = yv at *
    generalize txtOf w h Z ds = TX at *
    simp (disch := omega) [e_law_1, ct, q, listD])
  have c2 := fun x7 => comp_mapV (g := kSeq 3 (kCons (kName 10) (kCons (kName 11) (kCons (kName 12) kNil)))) (f := e_law_2 G) (is := [10, 11, 12]) (ρ := [some (.sh (scrI ns)), some (.sh (.int w)), some (.sh (.int h)), some (.sh (.lst (Z.map thLD))), some (.sh (.lst (ds.map dyD))), some (.sh (.str (txtOf w h Z ds))), some (.sh (yardD G w h (Z.map fun z => thD (clsOf G z.1) z.2) (ds.map dyD))), x7, none, none, none, none, none, none]) dyD dyV ds [] (fun d _ => by
    have ed : dyD d = .tup [.str d.name, .int d.many, .lst (d.turns.map tnD)] := rfl
    rw [ed]
    unfold dyV
    generalize d.turns.map tnD = T at *
    generalize Z.map thLD = ZL at *
    generalize ds.map dyD = DL at *
    generalize yardD G w h (Z.map fun z => thD (clsOf G z.1) z.2) DL = yv at *
    generalize txtOf w h Z ds = TX at *
    simp (disch := omega) [e_law_2, listD])
  simp only [List.nil_append] at c1 c2
  have lk1 := lks_dyV ds
  have dp1 : (∀ x, x ∈ ds.map dyV → x.deep = true) = True := eq_true (List.all_eq_true.mp (deep_dyV ds))
  have t3 : (ds.map dyV).all isT3 = true := by
    rw [List.all_map, List.all_eq_true]
    intro d hd
    have := (d2 d hd).2.1.2.1
    show isT3 (dyV d) = true
    unfold dyV isT3
    simp only
    exact decide_eq_true (by simp; omega)
  have q1 : (∀ x, x ∈ (Z.map fun z => thD (clsOf G z.1) z.2) → D.cln x = true) = True := eq_true fun x hx => by
    obtain ⟨z, _, rfl⟩ := List.mem_map.mp hx
    exact thD_cln _ _
  have q2 : (∀ x, x ∈ ds.map dyD → D.cln x = true) = True := eq_true fun x hx => by
    obtain ⟨d, _, rfl⟩ := List.mem_map.mp hx
    have q3 : ∀ x ∈ d.turns.map tnD, D.cln x = true := fun x hx => by
      obtain ⟨t, _, rfl⟩ := List.mem_map.mp hx
      exact tnD_cln t
    have ed : dyD d = .tup [.str d.name, .int d.many, .lst (d.turns.map tnD)] := rfl
    rw [ed]
    generalize d.turns.map tnD = T at *
    simpa using q3
  have hyD : yardD G w h (Z.map fun z => thD (clsOf G z.1) z.2) (ds.map dyD) = .ins G.c_Yard [Str.ofString "width", Str.ofString "height", Str.ofString "things", Str.ofString "days"] [.int w, .int h, .lst (Z.map fun z => thD (clsOf G z.1) z.2), .lst (ds.map dyD)] := rfl
  have l1 : (Z.map thLD).length ≤ 10000000 := by rw [List.length_map]; omega
  have l2 : (ds.map dyD).length ≤ 10000000 := by rw [List.length_map]; omega
  have l3 : ((Z.map fun z => thD (clsOf G z.1) z.2).map Val.sh).length < 10000000 := by simp; omega
  have l4 : ((ds.map dyV).map fun _ => Val.sh .junk).length < 10000000 := by simp; omega
  rw [hyD] at e2 e3 e4 c1
  simp only [hyD] at c2
  have sp : ∀ (x0 x1 x2 x3 x4 x5 x6 x7 x9 x13 : Option Val), sSpoil 8 10 11 12 [x0, x1, x2, x3, x4, x5, x6, x7, some (.lst (ds.map dyV)), x9, none, none, none, x13] = .nx [x0, x1, x2, x3, x4, x5, x6, x7, some (.lst ((ds.map dyV).map fun _ => .sh .junk)), x9, none, none, none, x13] := fun x0 x1 x2 x3 x4 x5 x6 x7 x9 x13 => spoil_at rfl t3 (by simp)
  generalize (cellI ns 0).natAbs = c0 at *
  generalize txtOf w h Z ds = TX at *
  generalize Z.map thLD = ZL at *
  generalize (Z.map fun z => thD (clsOf G z.1) z.2) = TS at *
  generalize ((ds.map dyV).map fun _ => Val.sh .junk) = JV at *
  generalize ds.map dyV = DV at *
  generalize ds.map dyL = DLL at *
  generalize ds.map dyD = DL at *
  simp only [List.length_map] at l3
  unfold φ_law s_law
  simp (disch := omega) [p0, hw, hh, z3, d4, e1, e2, e3, e4, c1, c2, l1, l2, l3, l4, lk1, dp1, iy, q1, q2, sp]
end My

namespace My
open PySem PySem.Spec L2 DL
theorem all_mk {l : PySem.W.OpenLaw} {w : World} {K : PySem.W.Frag} {h : Heap} {mg : Str → Option Value} {fa f0 f1 f2 f3 f4 f5 f6 f7 f8 f9 f10 f11 f12 f13 f14 f15 f16 f17 f18 f19 f20 f21 f22 f23 f24 f25 f26 f27 f28 f29 f30 f31 f32 f33 f34 f35 f36 f37 : Addr} (X : K.In h) (GG : h.Ns mainGlobals mg) (hfa : mg "law" = some (.ref fa))
    {od0 an0 od1 an1 od2 an2 od3 an3 od4 an4 od5 an5 od6 an6 od7 an7 od8 an8 od9 an9 od10 an10 od11 an11 od12 an12 od13 an13 od14 an14 od15 an15 od16 an16 od17 an17 od18 an18 od19 an19 od20 an20 od21 an21 od22 an22 od23 an23 od24 an24 od25 an25 od26 an26 od27 an27 od28 an28 od29 an29 od30 an30 od31 an31 od32 an32 od33 an33 od34 an34 od35 an35 od36 an36 od37 an37 : Option Addr} {sl0 sl1 sl2 sl3 sl4 sl5 sl6 sl7 sl8 sl9 sl10 sl11 sl12 sl13 sl14 sl15 sl16 sl17 sl18 sl19 sl20 sl21 sl22 sl23 sl24 sl25 sl26 sl27 sl28 sl29 sl30 sl31 sl32 sl33 sl34 sl35 sl36 sl37 : Array (Option Value)} {oc0 kV0 dc0 pm0 cd0 ct0 oc1 kV1 dc1 pm1 cd1 ct1 oc2 kV2 dc2 pm2 cd2 ct2 oc3 kV3 dc3 pm3 cd3 ct3 oc4 kV4 dc4 pm4 cd4 ct4 oc5 kV5 dc5 pm5 cd5 ct5 oc6 kV6 dc6 pm6 cd6 ct6 oc7 kV7 dc7 pm7 cd7 ct7 oc8 kV8 dc8 pm8 cd8 ct8 oc9 kV9 dc9 pm9 cd9 ct9 oc10 kV10 dc10 pm10 cd10 ct10 oc11 kV11 dc11 pm11 cd11 ct11 oc12 kV12 dc12 pm12 cd12 ct12 oc13 kV13 dc13 pm13 cd13 ct13 oc14 kV14 dc14 pm14 cd14 ct14 oc15 kV15 dc15 pm15 cd15 ct15 oc16 kV16 dc16 pm16 cd16 ct16 oc17 kV17 dc17 pm17 cd17 ct17 oc18 kV18 dc18 pm18 cd18 ct18 oc19 kV19 dc19 pm19 cd19 ct19 oc20 kV20 dc20 pm20 cd20 ct20 oc21 kV21 dc21 pm21 cd21 ct21 oc22 kV22 dc22 pm22 cd22 ct22 oc23 kV23 dc23 pm23 cd23 ct23 oc24 kV24 dc24 pm24 cd24 ct24 oc25 kV25 dc25 pm25 cd25 ct25 oc26 kV26 dc26 pm26 cd26 ct26 oc27 kV27 dc27 pm27 cd27 ct27 oc28 kV28 dc28 pm28 cd28 ct28 oc29 kV29 dc29 pm29 cd29 ct29 oc30 kV30 dc30 pm30 cd30 ct30 oc31 kV31 dc31 pm31 cd31 ct31 oc32 kV32 dc32 pm32 cd32 ct32 oc33 kV33 dc33 pm33 cd33 ct33 oc34 kV34 dc34 pm34 cd34 ct34 oc35 kV35 dc35 pm35 cd35 ct35 oc36 kV36 dc36 pm36 cd36 ct36 oc37 kV37 dc37 pm37 cd37 ct37 : Value}
    {k_Post k_Fence k_Sail k_Cloth k_House k_Yard k_YardError k_BadThing k_BadRow : Addr}
    (nC_Post : PySem.W.nsIn K mainGlobals "Post" = some (some (.ref k_Post)))
    (nC_Fence : PySem.W.nsIn K mainGlobals "Fence" = some (some (.ref k_Fence)))
    (nC_Sail : PySem.W.nsIn K mainGlobals "Sail" = some (some (.ref k_Sail)))
    (nC_Cloth : PySem.W.nsIn K mainGlobals "Cloth" = some (some (.ref k_Cloth)))
    (nC_House : PySem.W.nsIn K mainGlobals "House" = some (some (.ref k_House)))
    (nC_Yard : PySem.W.nsIn K mainGlobals "Yard" = some (some (.ref k_Yard)))
    (nC_YardError : PySem.W.nsIn K mainGlobals "YardError" = some (some (.ref k_YardError)))
    (nC_BadThing : PySem.W.nsIn K mainGlobals "BadThing" = some (some (.ref k_BadThing)))
    (nC_BadRow : PySem.W.nsIn K mainGlobals "BadRow" = some (some (.ref k_BadRow)))
    (at_Post_init : PySem.W.findIn K (.ref k_Post) "__init__" = some (some (.ref f2)))
    (at_Fence_init : PySem.W.findIn K (.ref k_Fence) "__init__" = some (some (.ref f2)))
    (at_Sail_init : PySem.W.findIn K (.ref k_Sail) "__init__" = some (some (.ref f2)))
    (at_Cloth_init : PySem.W.findIn K (.ref k_Cloth) "__init__" = some (some (.ref f2)))
    (at_House_init : PySem.W.findIn K (.ref k_House) "__init__" = some (some (.ref f2)))
    (at_Yard_init : PySem.W.findIn K (.ref k_Yard) "__init__" = some (some (.ref f11)))
    (at_BadRow_init : PySem.W.findIn K (.ref k_BadRow) "__init__" = some (some (.ref f0)))
    (at_Post_word : PySem.W.findIn K (.ref k_Post) "word" = some (some (.ref f3)))
    (at_Post_shown : PySem.W.findIn K (.ref k_Post) "shown" = some (some (.ref f18)))
    (at_Fence_word : PySem.W.findIn K (.ref k_Fence) "word" = some (some (.ref f4)))
    (at_Fence_shown : PySem.W.findIn K (.ref k_Fence) "shown" = some (some (.ref f18)))
    (at_Sail_word : PySem.W.findIn K (.ref k_Sail) "word" = some (some (.ref f5)))
    (at_Sail_shown : PySem.W.findIn K (.ref k_Sail) "shown" = some (some (.ref f18)))
    (at_Cloth_word : PySem.W.findIn K (.ref k_Cloth) "word" = some (some (.ref f6)))
    (at_Cloth_shown : PySem.W.findIn K (.ref k_Cloth) "shown" = some (some (.ref f18)))
    (at_House_word : PySem.W.findIn K (.ref k_House) "word" = some (some (.ref f7)))
    (at_House_shown : PySem.W.findIn K (.ref k_House) "shown" = some (some (.ref f18)))
    (i0 : PySem.W.isFn K (.ref f0) = true)
    (l0 : K.lookup f0 = some ⟨oc0, od0, .func (PySem.W.fnOf "__init__" "BadRow.__init__" (defArgs st_BadRow_init) (defBody st_BadRow_init) (defScope st_BadRow_init) .none kV0 dc0 pm0 an0 cd0 ct0), sl0⟩)
    (c0 : PySem.W.codeIn K cd0 "BadRow.__init__" = true)
    (k0 : PySem.W.keepIn K (.ref f0) = true)
    (a1 : PySem.W.nsIn K mainGlobals "is_ray" = some (some (.ref f1)))
    (l1 : K.lookup f1 = some ⟨oc1, od1, .func (PySem.W.fnOf "is_ray" "is_ray" (defArgs st_is_ray) (defBody st_is_ray) (defScope st_is_ray) .none kV1 dc1 pm1 an1 cd1 ct1), sl1⟩)
    (c1 : PySem.W.codeIn K cd1 "is_ray" = true)
    (k1 : PySem.W.keepIn K (.ref f1) = true)
    (i2 : PySem.W.isFn K (.ref f2) = true)
    (l2 : K.lookup f2 = some ⟨oc2, od2, .func (PySem.W.fnOf "__init__" "Thing.__init__" (defArgs st_Thing_init) (defBody st_Thing_init) (defScope st_Thing_init) .none kV2 dc2 pm2 an2 cd2 ct2), sl2⟩)
    (c2 : PySem.W.codeIn K cd2 "Thing.__init__" = true)
    (k2 : PySem.W.keepIn K (.ref f2) = true)
    (i3 : PySem.W.isFn K (.ref f3) = true)
    (l3 : K.lookup f3 = some ⟨oc3, od3, .func (PySem.W.fnOf "word" "Post.word" (defArgs st_Post_word) (defBody st_Post_word) (defScope st_Post_word) .none kV3 dc3 pm3 an3 cd3 ct3), sl3⟩)
    (c3 : PySem.W.codeIn K cd3 "Post.word" = true)
    (k3 : PySem.W.keepIn K (.ref f3) = true)
    (i4 : PySem.W.isFn K (.ref f4) = true)
    (l4 : K.lookup f4 = some ⟨oc4, od4, .func (PySem.W.fnOf "word" "Fence.word" (defArgs st_Fence_word) (defBody st_Fence_word) (defScope st_Fence_word) .none kV4 dc4 pm4 an4 cd4 ct4), sl4⟩)
    (c4 : PySem.W.codeIn K cd4 "Fence.word" = true)
    (k4 : PySem.W.keepIn K (.ref f4) = true)
    (i5 : PySem.W.isFn K (.ref f5) = true)
    (l5 : K.lookup f5 = some ⟨oc5, od5, .func (PySem.W.fnOf "word" "Sail.word" (defArgs st_Sail_word) (defBody st_Sail_word) (defScope st_Sail_word) .none kV5 dc5 pm5 an5 cd5 ct5), sl5⟩)
    (c5 : PySem.W.codeIn K cd5 "Sail.word" = true)
    (k5 : PySem.W.keepIn K (.ref f5) = true)
    (i6 : PySem.W.isFn K (.ref f6) = true)
    (l6 : K.lookup f6 = some ⟨oc6, od6, .func (PySem.W.fnOf "word" "Cloth.word" (defArgs st_Cloth_word) (defBody st_Cloth_word) (defScope st_Cloth_word) .none kV6 dc6 pm6 an6 cd6 ct6), sl6⟩)
    (c6 : PySem.W.codeIn K cd6 "Cloth.word" = true)
    (k6 : PySem.W.keepIn K (.ref f6) = true)
    (i7 : PySem.W.isFn K (.ref f7) = true)
    (l7 : K.lookup f7 = some ⟨oc7, od7, .func (PySem.W.fnOf "word" "House.word" (defArgs st_House_word) (defBody st_House_word) (defScope st_House_word) .none kV7 dc7 pm7 an7 cd7 ct7), sl7⟩)
    (c7 : PySem.W.codeIn K cd7 "House.word" = true)
    (k7 : PySem.W.keepIn K (.ref f7) = true)
    (a8 : PySem.W.nsIn K mainGlobals "are_places" = some (some (.ref f8)))
    (l8 : K.lookup f8 = some ⟨oc8, od8, .func (PySem.W.fnOf "are_places" "are_places" (defArgs st_are_places) (defBody st_are_places) (defScope st_are_places) .none kV8 dc8 pm8 an8 cd8 ct8), sl8⟩)
    (c8 : PySem.W.codeIn K cd8 "are_places" = true)
    (k8 : PySem.W.keepIn K (.ref f8) = true)
    (a9 : PySem.W.nsIn K mainGlobals "is_height" = some (some (.ref f9)))
    (l9 : K.lookup f9 = some ⟨oc9, od9, .func (PySem.W.fnOf "is_height" "is_height" (defArgs st_is_height) (defBody st_is_height) (defScope st_is_height) .none kV9 dc9 pm9 an9 cd9 ct9), sl9⟩)
    (c9 : PySem.W.codeIn K cd9 "is_height" = true)
    (k9 : PySem.W.keepIn K (.ref f9) = true)
    (a10 : PySem.W.nsIn K mainGlobals "made_of" = some (some (.ref f10)))
    (l10 : K.lookup f10 = some ⟨oc10, od10, .func (PySem.W.fnOf "made_of" "made_of" (defArgs st_made_of) (defBody st_made_of) (defScope st_made_of) .none kV10 dc10 pm10 an10 cd10 ct10), sl10⟩)
    (c10 : PySem.W.codeIn K cd10 "made_of" = true)
    (k10 : PySem.W.keepIn K (.ref f10) = true)
    (i11 : PySem.W.isFn K (.ref f11) = true)
    (l11 : K.lookup f11 = some ⟨oc11, od11, .func (PySem.W.fnOf "__init__" "Yard.__init__" (defArgs st_Yard_init) (defBody st_Yard_init) (defScope st_Yard_init) .none kV11 dc11 pm11 an11 cd11 ct11), sl11⟩)
    (c11 : PySem.W.codeIn K cd11 "Yard.__init__" = true)
    (k11 : PySem.W.keepIn K (.ref f11) = true)
    (a12 : PySem.W.nsIn K mainGlobals "show_turn" = some (some (.ref f12)))
    (l12 : K.lookup f12 = some ⟨oc12, od12, .func (PySem.W.fnOf "show_turn" "show_turn" (defArgs st_show_turn) (defBody st_show_turn) (defScope st_show_turn) .none kV12 dc12 pm12 an12 cd12 ct12), sl12⟩)
    (c12 : PySem.W.codeIn K cd12 "show_turn" = true)
    (k12 : PySem.W.keepIn K (.ref f12) = true)
    (a13 : PySem.W.nsIn K mainGlobals "_law_part" = some (some (.ref f13)))
    (l13 : K.lookup f13 = some ⟨oc13, od13, .func (PySem.W.fnOf "_law_part" "_law_part" (defArgs st_law_part) (defBody st_law_part) (defScope st_law_part) .none kV13 dc13 pm13 an13 cd13 ct13), sl13⟩)
    (c13 : PySem.W.codeIn K cd13 "_law_part" = true)
    (k13 : PySem.W.keepIn K (.ref f13) = true)
    (a14 : PySem.W.nsIn K mainGlobals "_law_spread" = some (some (.ref f14)))
    (l14 : K.lookup f14 = some ⟨oc14, od14, .func (PySem.W.fnOf "_law_spread" "_law_spread" (defArgs st_law_spread) (defBody st_law_spread) (defScope st_law_spread) .none kV14 dc14 pm14 an14 cd14 ct14), sl14⟩)
    (c14 : PySem.W.codeIn K cd14 "_law_spread" = true)
    (k14 : PySem.W.keepIn K (.ref f14) = true)
    (a15 : PySem.W.nsIn K mainGlobals "_law_joined" = some (some (.ref f15)))
    (l15 : K.lookup f15 = some ⟨oc15, od15, .func (PySem.W.fnOf "_law_joined" "_law_joined" (defArgs st_law_joined) (defBody st_law_joined) (defScope st_law_joined) .none kV15 dc15 pm15 an15 cd15 ct15), sl15⟩)
    (c15 : PySem.W.codeIn K cd15 "_law_joined" = true)
    (k15 : PySem.W.keepIn K (.ref f15) = true)
    (a16 : PySem.W.nsIn K mainGlobals "_law_far" = some (some (.ref f16)))
    (l16 : K.lookup f16 = some ⟨oc16, od16, .func (PySem.W.fnOf "_law_far" "_law_far" (defArgs st_law_far) (defBody st_law_far) (defScope st_law_far) .none kV16 dc16 pm16 an16 cd16 ct16), sl16⟩)
    (c16 : PySem.W.codeIn K cd16 "_law_far" = true)
    (k16 : PySem.W.keepIn K (.ref f16) = true)
    (a17 : PySem.W.nsIn K mainGlobals "_law_names" = some (some (.ref f17)))
    (l17 : K.lookup f17 = some ⟨oc17, od17, .func (PySem.W.fnOf "_law_names" "_law_names" (defArgs st_law_names) (defBody st_law_names) (defScope st_law_names) .none kV17 dc17 pm17 an17 cd17 ct17), sl17⟩)
    (c17 : PySem.W.codeIn K cd17 "_law_names" = true)
    (k17 : PySem.W.keepIn K (.ref f17) = true)
    (i18 : PySem.W.isFn K (.ref f18) = true)
    (l18 : K.lookup f18 = some ⟨oc18, od18, .func (PySem.W.fnOf "shown" "Thing.shown" (defArgs st_Thing_shown) (defBody st_Thing_shown) (defScope st_Thing_shown) .none kV18 dc18 pm18 an18 cd18 ct18), sl18⟩)
    (c18 : PySem.W.codeIn K cd18 "Thing.shown" = true)
    (k18 : PySem.W.keepIn K (.ref f18) = true)
    (a19 : PySem.W.nsIn K mainGlobals "is_number" = some (some (.ref f19)))
    (l19 : K.lookup f19 = some ⟨oc19, od19, .func (PySem.W.fnOf "is_number" "is_number" (defArgs st_is_number) (defBody st_is_number) (defScope st_is_number) .none kV19 dc19 pm19 an19 cd19 ct19), sl19⟩)
    (c19 : PySem.W.codeIn K cd19 "is_number" = true)
    (k19 : PySem.W.keepIn K (.ref f19) = true)
    (a20 : PySem.W.nsIn K mainGlobals "is_name" = some (some (.ref f20)))
    (l20 : K.lookup f20 = some ⟨oc20, od20, .func (PySem.W.fnOf "is_name" "is_name" (defArgs st_is_name) (defBody st_is_name) (defScope st_is_name) .none kV20 dc20 pm20 an20 cd20 ct20), sl20⟩)
    (c20 : PySem.W.codeIn K cd20 "is_name" = true)
    (k20 : PySem.W.keepIn K (.ref f20) = true)
    (a21 : PySem.W.nsIn K mainGlobals "_law_thing_by" = some (some (.ref f21)))
    (l21 : K.lookup f21 = some ⟨oc21, od21, .func (PySem.W.fnOf "_law_thing_by" "_law_thing_by" (defArgs st_law_thing_by) (defBody st_law_thing_by) (defScope st_law_thing_by) .none kV21 dc21 pm21 an21 cd21 ct21), sl21⟩)
    (c21 : PySem.W.codeIn K cd21 "_law_thing_by" = true)
    (k21 : PySem.W.keepIn K (.ref f21) = true)
    (a22 : PySem.W.nsIn K mainGlobals "_law_ray_by" = some (some (.ref f22)))
    (l22 : K.lookup f22 = some ⟨oc22, od22, .func (PySem.W.fnOf "_law_ray_by" "_law_ray_by" (defArgs st_law_ray_by) (defBody st_law_ray_by) (defScope st_law_ray_by) .none kV22 dc22 pm22 an22 cd22 ct22), sl22⟩)
    (c22 : PySem.W.codeIn K cd22 "_law_ray_by" = true)
    (k22 : PySem.W.keepIn K (.ref f22) = true)
    (a23 : PySem.W.nsIn K mainGlobals "_law_yard_text" = some (some (.ref f23)))
    (l23 : K.lookup f23 = some ⟨oc23, od23, .func (PySem.W.fnOf "_law_yard_text" "_law_yard_text" (defArgs st_law_yard_text) (defBody st_law_yard_text) (defScope st_law_yard_text) .none kV23 dc23 pm23 an23 cd23 ct23), sl23⟩)
    (c23 : PySem.W.codeIn K cd23 "_law_yard_text" = true)
    (k23 : PySem.W.keepIn K (.ref f23) = true)
    (a24 : PySem.W.nsIn K mainGlobals "cloth_of" = some (some (.ref f24)))
    (l24 : K.lookup f24 = some ⟨oc24, od24, .func (PySem.W.fnOf "cloth_of" "cloth_of" (defArgs st_cloth_of) (defBody st_cloth_of) (defScope st_cloth_of) .none kV24 dc24 pm24 an24 cd24 ct24), sl24⟩)
    (c24 : PySem.W.codeIn K cd24 "cloth_of" = true)
    (k24 : PySem.W.keepIn K (.ref f24) = true)
    (a25 : PySem.W.nsIn K mainGlobals "stretched" = some (some (.ref f25)))
    (l25 : K.lookup f25 = some ⟨oc25, od25, .func (PySem.W.fnOf "stretched" "stretched" (defArgs st_stretched) (defBody st_stretched) (defScope st_stretched) .none kV25 dc25 pm25 an25 cd25 ct25), sl25⟩)
    (c25 : PySem.W.codeIn K cd25 "stretched" = true)
    (k25 : PySem.W.keepIn K (.ref f25) = true)
    (a26 : PySem.W.nsIn K mainGlobals "numbers_of" = some (some (.ref f26)))
    (l26 : K.lookup f26 = some ⟨oc26, od26, .func (PySem.W.fnOf "numbers_of" "numbers_of" (defArgs st_numbers_of) (defBody st_numbers_of) (defScope st_numbers_of) .none kV26 dc26 pm26 an26 cd26 ct26), sl26⟩)
    (c26 : PySem.W.codeIn K cd26 "numbers_of" = true)
    (k26 : PySem.W.keepIn K (.ref f26) = true)
    (a27 : PySem.W.nsIn K mainGlobals "show_yard" = some (some (.ref f27)))
    (l27 : K.lookup f27 = some ⟨oc27, od27, .func (PySem.W.fnOf "show_yard" "show_yard" (defArgs st_show_yard) (defBody st_show_yard) (defScope st_show_yard) .none kV27 dc27 pm27 an27 cd27 ct27), sl27⟩)
    (c27 : PySem.W.codeIn K cd27 "show_yard" = true)
    (k27 : PySem.W.keepIn K (.ref f27) = true)
    (a28 : PySem.W.nsIn K mainGlobals "_law_things" = some (some (.ref f28)))
    (l28 : K.lookup f28 = some ⟨oc28, od28, .func (PySem.W.fnOf "_law_things" "_law_things" (defArgs st_law_things) (defBody st_law_things) (defScope st_law_things) .none kV28 dc28 pm28 an28 cd28 ct28), sl28⟩)
    (c28 : PySem.W.codeIn K cd28 "_law_things" = true)
    (k28 : PySem.W.keepIn K (.ref f28) = true)
    (a29 : PySem.W.nsIn K mainGlobals "_law_days" = some (some (.ref f29)))
    (l29 : K.lookup f29 = some ⟨oc29, od29, .func (PySem.W.fnOf "_law_days" "_law_days" (defArgs st_law_days) (defBody st_law_days) (defScope st_law_days) .none kV29 dc29 pm29 an29 cd29 ct29), sl29⟩)
    (c29 : PySem.W.codeIn K cd29 "_law_days" = true)
    (k29 : PySem.W.keepIn K (.ref f29) = true)
    (a30 : PySem.W.nsIn K mainGlobals "_law_same" = some (some (.ref f30)))
    (l30 : K.lookup f30 = some ⟨oc30, od30, .func (PySem.W.fnOf "_law_same" "_law_same" (defArgs st_law_same) (defBody st_law_same) (defScope st_law_same) .none kV30 dc30 pm30 an30 cd30 ct30), sl30⟩)
    (c30 : PySem.W.codeIn K cd30 "_law_same" = true)
    (k30 : PySem.W.keepIn K (.ref f30) = true)
    (a31 : PySem.W.nsIn K mainGlobals "thing_of" = some (some (.ref f31)))
    (l31 : K.lookup f31 = some ⟨oc31, od31, .func (PySem.W.fnOf "thing_of" "thing_of" (defArgs st_thing_of) (defBody st_thing_of) (defScope st_thing_of) .none kV31 dc31 pm31 an31 cd31 ct31), sl31⟩)
    (c31 : PySem.W.codeIn K cd31 "thing_of" = true)
    (k31 : PySem.W.keepIn K (.ref f31) = true)
    (a32 : PySem.W.nsIn K mainGlobals "size_of" = some (some (.ref f32)))
    (l32 : K.lookup f32 = some ⟨oc32, od32, .func (PySem.W.fnOf "size_of" "size_of" (defArgs st_size_of) (defBody st_size_of) (defScope st_size_of) .none kV32 dc32 pm32 an32 cd32 ct32), sl32⟩)
    (c32 : PySem.W.codeIn K cd32 "size_of" = true)
    (k32 : PySem.W.keepIn K (.ref f32) = true)
    (a33 : PySem.W.nsIn K mainGlobals "day_of" = some (some (.ref f33)))
    (l33 : K.lookup f33 = some ⟨oc33, od33, .func (PySem.W.fnOf "day_of" "day_of" (defArgs st_day_of) (defBody st_day_of) (defScope st_day_of) .none kV33 dc33 pm33 an33 cd33 ct33), sl33⟩)
    (c33 : PySem.W.codeIn K cd33 "day_of" = true)
    (k33 : PySem.W.keepIn K (.ref f33) = true)
    (a34 : PySem.W.nsIn K mainGlobals "turn_of" = some (some (.ref f34)))
    (l34 : K.lookup f34 = some ⟨oc34, od34, .func (PySem.W.fnOf "turn_of" "turn_of" (defArgs st_turn_of) (defBody st_turn_of) (defScope st_turn_of) .none kV34 dc34 pm34 an34 cd34 ct34), sl34⟩)
    (c34 : PySem.W.codeIn K cd34 "turn_of" = true)
    (k34 : PySem.W.keepIn K (.ref f34) = true)
    (a35 : PySem.W.nsIn K mainGlobals "thing_by" = some (some (.ref f35)))
    (l35 : K.lookup f35 = some ⟨oc35, od35, .func (PySem.W.fnOf "thing_by" "thing_by" (defArgs st_thing_by) (defBody st_thing_by) (defScope st_thing_by) .none kV35 dc35 pm35 an35 cd35 ct35), sl35⟩)
    (c35 : PySem.W.codeIn K cd35 "thing_by" = true)
    (k35 : PySem.W.keepIn K (.ref f35) = true)
    (a36 : PySem.W.nsIn K mainGlobals "read_yard" = some (some (.ref f36)))
    (l36 : K.lookup f36 = some ⟨oc36, od36, .func (PySem.W.fnOf "read_yard" "read_yard" (defArgs st_read_yard) (defBody st_read_yard) (defScope st_read_yard) .none kV36 dc36 pm36 an36 cd36 ct36), sl36⟩)
    (c36 : PySem.W.codeIn K cd36 "read_yard" = true)
    (k36 : PySem.W.keepIn K (.ref f36) = true)
    (a37 : PySem.W.nsIn K mainGlobals "law" = some (some (.ref f37)))
    (l37 : K.lookup f37 = some ⟨oc37, od37, .func (PySem.W.fnOf "law" "law" (defArgs st_law) (defBody st_law) (defScope st_law) .none kV37 dc37 pm37 an37 cd37 ct37), sl37⟩)
    (c37 : PySem.W.codeIn K cd37 "law" = true)
    (k37 : PySem.W.keepIn K (.ref f37) = true)
    (xE_BadThing : PySem.W.excIn K k_BadThing DL.VEs "ValueError.__new__" = true)
    (kc_BadThing : PySem.W.keepIn K (.ref k_BadThing) = true)
    (ga_BadThing : PySem.W.findIn K (.ref k_BadThing) "__getattribute__" = some (some (.builtin "BaseException.__getattribute__")))
    (gg_BadThing : PySem.W.findIn K (.ref k_BadThing) "__getattr__" = some none)
    (eC_BadThing : PySem.W.subIn K (.ref k_BadThing) (.type "BaseException") = some true)
    (tC_BadThing : PySem.W.typeIn K (.ref k_BadThing) = some (.type "type"))
    (hC_BadThing : PySem.W.hasDictIn K k_BadThing = true)
    {nm_BadRow q_BadRow : Str} {N_BadRow : Addr} {bs_BadRow : List Value} {sn_BadRow : List Str} {sub_BadRow : List Value} {ab_BadRow : Bool} {col_BadRow : Option Bool} {dd_BadRow : Option Addr} {m0_BadRow m1_BadRow m2_BadRow m3_BadRow m5_BadRow : Option Value}
    (xL_BadRow : K.lookup k_BadRow = some (excClassObj nm_BadRow q_BadRow k_BadRow N_BadRow bs_BadRow [.ref k_YardError, .type "ValueError", .type "Exception", .type "BaseException", .type "object"] true sn_BadRow sub_BadRow ab_BadRow col_BadRow dd_BadRow m0_BadRow m1_BadRow m2_BadRow m3_BadRow m5_BadRow "ValueError.__new__"))
    (kc_BadRow : PySem.W.keepIn K (.ref k_BadRow) = true)
    (sa_BadRow : PySem.W.findIn K (.ref k_BadRow) "__setattr__" = some (some (.builtin "object.__setattr__")))
    (ga_BadRow : PySem.W.findIn K (.ref k_BadRow) "__getattribute__" = some (some (.builtin "BaseException.__getattribute__")))
    (gg_BadRow : PySem.W.findIn K (.ref k_BadRow) "__getattr__" = some none)
    (eC_BadRow : PySem.W.subIn K (.ref k_BadRow) (.type "BaseException") = some true)
    (tC_BadRow : PySem.W.typeIn K (.ref k_BadRow) = some (.type "type"))
    (hC_BadRow : PySem.W.hasDictIn K k_BadRow = true)
    (ti_BadRow : PySem.W.typeIn K (.ref f0) = some (.type "function"))
    (no_BadRow_row : PySem.W.findIn K (.ref k_BadRow) "row" = some none)
    (sb_BadThing_BadThing : PySem.W.subIn K (.ref k_BadThing) (.ref k_BadThing) = some true)
    (sb_BadRow_BadThing : PySem.W.subIn K (.ref k_BadRow) (.ref k_BadThing) = some false)
    (se_BadThing : PySem.W.subIn K (.ref k_BadThing) (.ref k_BadThing) = some true)
    (sb_BadThing_BadRow : PySem.W.subIn K (.ref k_BadThing) (.ref k_BadRow) = some false)
    (rd_YardError : PySem.W.readsIn K k_YardError (.type "type") = true)
    (sg_YardError : PySem.W.specialIn K (.ref k_YardError) "__getattribute__" = some (some (.builtin "type.__getattribute__")))
    (fc_YardError : PySem.W.findCls K (.ref k_YardError) (.type "type") "__init__" = some (.val (.builtin "ValueError.__init__")))
    (pg_Post : PySem.W.plainGet K k_Post Str.empty = true)
    (hd_Post : PySem.W.hasDictIn K k_Post = true)
    (po_Post : PySem.W.plainOver K k_Post = true)
    (sa_Post : PySem.W.findIn K (.ref k_Post) "__setattr__" = some (some (.builtin "object.__setattr__")))
    (mk_Post : PySem.W.makesIn K k_Post = true)
    (kc_Post : PySem.W.keepIn K (.ref k_Post) = true)
    (no_Post_numbers : PySem.W.findIn K (.ref k_Post) "numbers" = some none)
    (pg_Fence : PySem.W.plainGet K k_Fence Str.empty = true)
    (hd_Fence : PySem.W.hasDictIn K k_Fence = true)
    (po_Fence : PySem.W.plainOver K k_Fence = true)
    (sa_Fence : PySem.W.findIn K (.ref k_Fence) "__setattr__" = some (some (.builtin "object.__setattr__")))
    (mk_Fence : PySem.W.makesIn K k_Fence = true)
    (kc_Fence : PySem.W.keepIn K (.ref k_Fence) = true)
    (no_Fence_numbers : PySem.W.findIn K (.ref k_Fence) "numbers" = some none)
    (pg_Sail : PySem.W.plainGet K k_Sail Str.empty = true)
    (hd_Sail : PySem.W.hasDictIn K k_Sail = true)
    (po_Sail : PySem.W.plainOver K k_Sail = true)
    (sa_Sail : PySem.W.findIn K (.ref k_Sail) "__setattr__" = some (some (.builtin "object.__setattr__")))
    (mk_Sail : PySem.W.makesIn K k_Sail = true)
    (kc_Sail : PySem.W.keepIn K (.ref k_Sail) = true)
    (no_Sail_numbers : PySem.W.findIn K (.ref k_Sail) "numbers" = some none)
    (pg_Cloth : PySem.W.plainGet K k_Cloth Str.empty = true)
    (hd_Cloth : PySem.W.hasDictIn K k_Cloth = true)
    (po_Cloth : PySem.W.plainOver K k_Cloth = true)
    (sa_Cloth : PySem.W.findIn K (.ref k_Cloth) "__setattr__" = some (some (.builtin "object.__setattr__")))
    (mk_Cloth : PySem.W.makesIn K k_Cloth = true)
    (kc_Cloth : PySem.W.keepIn K (.ref k_Cloth) = true)
    (no_Cloth_numbers : PySem.W.findIn K (.ref k_Cloth) "numbers" = some none)
    (pg_House : PySem.W.plainGet K k_House Str.empty = true)
    (hd_House : PySem.W.hasDictIn K k_House = true)
    (po_House : PySem.W.plainOver K k_House = true)
    (sa_House : PySem.W.findIn K (.ref k_House) "__setattr__" = some (some (.builtin "object.__setattr__")))
    (mk_House : PySem.W.makesIn K k_House = true)
    (kc_House : PySem.W.keepIn K (.ref k_House) = true)
    (no_House_numbers : PySem.W.findIn K (.ref k_House) "numbers" = some none)
    (pg_Yard : PySem.W.plainGet K k_Yard Str.empty = true)
    (hd_Yard : PySem.W.hasDictIn K k_Yard = true)
    (po_Yard : PySem.W.plainOver K k_Yard = true)
    (sa_Yard : PySem.W.findIn K (.ref k_Yard) "__setattr__" = some (some (.builtin "object.__setattr__")))
    (mk_Yard : PySem.W.makesIn K k_Yard = true)
    (kc_Yard : PySem.W.keepIn K (.ref k_Yard) = true)
    (no_Yard_width : PySem.W.findIn K (.ref k_Yard) "width" = some none)
    (no_Yard_height : PySem.W.findIn K (.ref k_Yard) "height" = some none)
    (no_Yard_things : PySem.W.findIn K (.ref k_Yard) "things" = some none)
    (no_Yard_days : PySem.W.findIn K (.ref k_Yard) "days" = some none)
    (z_abs : PySem.W.nsIn K mainGlobals "abs" = some none)
    (z_all : PySem.W.nsIn K mainGlobals "all" = some none)
    (z_divmod : PySem.W.nsIn K mainGlobals "divmod" = some none)
    (z_int : PySem.W.nsIn K mainGlobals "int" = some none)
    (z_isinstance : PySem.W.nsIn K mainGlobals "isinstance" = some none)
    (z_len : PySem.W.nsIn K mainGlobals "len" = some none)
    (z_list : PySem.W.nsIn K mainGlobals "list" = some none)
    (z_range : PySem.W.nsIn K mainGlobals "range" = some none)
    (z_str : PySem.W.nsIn K mainGlobals "str" = some none)
    (z_tuple : PySem.W.nsIn K mainGlobals "tuple" = some none)
    {tk_DAYS : Tok} (g_DAYS : PySem.W.nsIn K mainGlobals "DAYS" = some (some (.int 12 tk_DAYS)))
    {tk_FAR : Tok} (g_FAR : PySem.W.nsIn K mainGlobals "FAR" = some (some (.int 1000000000 tk_FAR)))
    {tk_FIGURES : Tok} (g_FIGURES : PySem.W.nsIn K mainGlobals "FIGURES" = some (some (.str "0123456789" tk_FIGURES)))
    {tk_LETTERS : Tok} (g_LETTERS : PySem.W.nsIn K mainGlobals "LETTERS" = some (some (.str "abcdefghijklmnopqrstuvwxyz" tk_LETTERS)))
    {tk_SIDE : Tok} (g_SIDE : PySem.W.nsIn K mainGlobals "SIDE" = some (some (.int 20 tk_SIDE)))
    {tk_SLOPE : Tok} (g_SLOPE : PySem.W.nsIn K mainGlobals "SLOPE" = some (some (.int 1000000 tk_SLOPE)))
    {tk_THINGS : Tok} (g_THINGS : PySem.W.nsIn K mainGlobals "THINGS" = some (some (.int 40 tk_THINGS)))
    {tk_TIMES : Tok} (g_TIMES : PySem.W.nsIn K mainGlobals "TIMES" = some (some (.int 1000000000 tk_TIMES)))
    {tk_TURNS : Tok} (g_TURNS : PySem.W.nsIn K mainGlobals "TURNS" = some (some (.int 24 tk_TURNS))) :
    ∃ fd : FuncData, (∀ (s : Shared) (v : Value), BindsTo s fd ⟨[v], []⟩ [("_law_script", v)]) ∧ ∀ base : Heap, K.In base → base.Ns mainGlobals mg → FnOk l.prog w K mg base (L2.CX l.prog w) 7 fa fd ["_law_script"] (spLaw K) := by
  have e := hfa.symm.trans (PySem.W.mg_of X GG a37)
  cases e
  have ne_Post_Fence : k_Post ≠ k_Fence := fun e => by
    have e1 : f3 = f4 := by
      have e2 := at_Post_word
      rw [e] at e2
      have e3 := e2.symm.trans at_Fence_word
      exact Value.ref.inj (Option.some.inj (Option.some.inj e3))
    have e4 := l3
    rw [e1] at e4
    have e5 := e4.symm.trans l4
    exact qual_ne (show Str.ofString "Post.word" ≠ Str.ofString "Fence.word" by decide) e5
  have ne_Post_Sail : k_Post ≠ k_Sail := fun e => by
    have e1 : f3 = f5 := by
      have e2 := at_Post_word
      rw [e] at e2
      have e3 := e2.symm.trans at_Sail_word
      exact Value.ref.inj (Option.some.inj (Option.some.inj e3))
    have e4 := l3
    rw [e1] at e4
    have e5 := e4.symm.trans l5
    exact qual_ne (show Str.ofString "Post.word" ≠ Str.ofString "Sail.word" by decide) e5
  have ne_Post_Cloth : k_Post ≠ k_Cloth := fun e => by
    have e1 : f3 = f6 := by
      have e2 := at_Post_word
      rw [e] at e2
      have e3 := e2.symm.trans at_Cloth_word
      exact Value.ref.inj (Option.some.inj (Option.some.inj e3))
    have e4 := l3
    rw [e1] at e4
    have e5 := e4.symm.trans l6
    exact qual_ne (show Str.ofString "Post.word" ≠ Str.ofString "Cloth.word" by decide) e5
  have ne_Post_House : k_Post ≠ k_House := fun e => by
    have e1 : f3 = f7 := by
      have e2 := at_Post_word
      rw [e] at e2
      have e3 := e2.symm.trans at_House_word
      exact Value.ref.inj (Option.some.inj (Option.some.inj e3))
    have e4 := l3
    rw [e1] at e4
    have e5 := e4.symm.trans l7
    exact qual_ne (show Str.ofString "Post.word" ≠ Str.ofString "House.word" by decide) e5
  have ne_Post_Yard : k_Post ≠ k_Yard := fun e => by
    have e1 : f2 = f11 := by
      have e2 := at_Post_init
      rw [e] at e2
      have e3 := e2.symm.trans at_Yard_init
      exact Value.ref.inj (Option.some.inj (Option.some.inj e3))
    have e4 := l2
    rw [e1] at e4
    have e5 := e4.symm.trans l11
    exact qual_ne (show Str.ofString "Thing.__init__" ≠ Str.ofString "Yard.__init__" by decide) e5
  have ne_Fence_Sail : k_Fence ≠ k_Sail := fun e => by
    have e1 : f4 = f5 := by
      have e2 := at_Fence_word
      rw [e] at e2
      have e3 := e2.symm.trans at_Sail_word
      exact Value.ref.inj (Option.some.inj (Option.some.inj e3))
    have e4 := l4
    rw [e1] at e4
    have e5 := e4.symm.trans l5
    exact qual_ne (show Str.ofString "Fence.word" ≠ Str.ofString "Sail.word" by decide) e5
  have ne_Fence_Cloth : k_Fence ≠ k_Cloth := fun e => by
    have e1 : f4 = f6 := by
      have e2 := at_Fence_word
      rw [e] at e2
      have e3 := e2.symm.trans at_Cloth_word
      exact Value.ref.inj (Option.some.inj (Option.some.inj e3))
    have e4 := l4
    rw [e1] at e4
    have e5 := e4.symm.trans l6
    exact qual_ne (show Str.ofString "Fence.word" ≠ Str.ofString "Cloth.word" by decide) e5
  have ne_Fence_House : k_Fence ≠ k_House := fun e => by
    have e1 : f4 = f7 := by
      have e2 := at_Fence_word
      rw [e] at e2
      have e3 := e2.symm.trans at_House_word
      exact Value.ref.inj (Option.some.inj (Option.some.inj e3))
    have e4 := l4
    rw [e1] at e4
    have e5 := e4.symm.trans l7
    exact qual_ne (show Str.ofString "Fence.word" ≠ Str.ofString "House.word" by decide) e5
  have ne_Fence_Yard : k_Fence ≠ k_Yard := fun e => by
    have e1 : f2 = f11 := by
      have e2 := at_Fence_init
      rw [e] at e2
      have e3 := e2.symm.trans at_Yard_init
      exact Value.ref.inj (Option.some.inj (Option.some.inj e3))
    have e4 := l2
    rw [e1] at e4
    have e5 := e4.symm.trans l11
    exact qual_ne (show Str.ofString "Thing.__init__" ≠ Str.ofString "Yard.__init__" by decide) e5
  have ne_Sail_Cloth : k_Sail ≠ k_Cloth := fun e => by
    have e1 : f5 = f6 := by
      have e2 := at_Sail_word
      rw [e] at e2
      have e3 := e2.symm.trans at_Cloth_word
      exact Value.ref.inj (Option.some.inj (Option.some.inj e3))
    have e4 := l5
    rw [e1] at e4
    have e5 := e4.symm.trans l6
    exact qual_ne (show Str.ofString "Sail.word" ≠ Str.ofString "Cloth.word" by decide) e5
  have ne_Sail_House : k_Sail ≠ k_House := fun e => by
    have e1 : f5 = f7 := by
      have e2 := at_Sail_word
      rw [e] at e2
      have e3 := e2.symm.trans at_House_word
      exact Value.ref.inj (Option.some.inj (Option.some.inj e3))
    have e4 := l5
    rw [e1] at e4
    have e5 := e4.symm.trans l7
    exact qual_ne (show Str.ofString "Sail.word" ≠ Str.ofString "House.word" by decide) e5
  have ne_Sail_Yard : k_Sail ≠ k_Yard := fun e => by
    have e1 : f2 = f11 := by
      have e2 := at_Sail_init
      rw [e] at e2
      have e3 := e2.symm.trans at_Yard_init
      exact Value.ref.inj (Option.some.inj (Option.some.inj e3))
    have e4 := l2
    rw [e1] at e4
    have e5 := e4.symm.trans l11
    exact qual_ne (show Str.ofString "Thing.__init__" ≠ Str.ofString "Yard.__init__" by decide) e5
  have ne_Cloth_House : k_Cloth ≠ k_House := fun e => by
    have e1 : f6 = f7 := by
      have e2 := at_Cloth_word
      rw [e] at e2
      have e3 := e2.symm.trans at_House_word
      exact Value.ref.inj (Option.some.inj (Option.some.inj e3))
    have e4 := l6
    rw [e1] at e4
    have e5 := e4.symm.trans l7
    exact qual_ne (show Str.ofString "Cloth.word" ≠ Str.ofString "House.word" by decide) e5
  have ne_Cloth_Yard : k_Cloth ≠ k_Yard := fun e => by
    have e1 : f2 = f11 := by
      have e2 := at_Cloth_init
      rw [e] at e2
      have e3 := e2.symm.trans at_Yard_init
      exact Value.ref.inj (Option.some.inj (Option.some.inj e3))
    have e4 := l2
    rw [e1] at e4
    have e5 := e4.symm.trans l11
    exact qual_ne (show Str.ofString "Thing.__init__" ≠ Str.ofString "Yard.__init__" by decide) e5
  have ne_House_Yard : k_House ≠ k_Yard := fun e => by
    have e1 : f2 = f11 := by
      have e2 := at_House_init
      rw [e] at e2
      have e3 := e2.symm.trans at_Yard_init
      exact Value.ref.inj (Option.some.inj (Option.some.inj e3))
    have e4 := l2
    rw [e1] at e4
    have e5 := e4.symm.trans l11
    exact qual_ne (show Str.ofString "Thing.__init__" ≠ Str.ofString "Yard.__init__" by decide) e5
  have ne_BadThing_BadRow : k_BadThing ≠ k_BadRow := fun e => by
    have e1 := sb_BadThing_BadRow
    rw [← e, se_BadThing] at e1
    cases e1
  let G0 : Gs := {c_Post := k_Post, c_Fence := k_Fence, c_Sail := k_Sail, c_Cloth := k_Cloth, c_House := k_House, c_Yard := k_Yard, c_YardError := k_YardError, c_BadThing := k_BadThing, c_BadRow := k_BadRow, ne_Post_Fence := ne_Post_Fence, ne_Post_Sail := ne_Post_Sail, ne_Post_Cloth := ne_Post_Cloth, ne_Post_House := ne_Post_House, ne_Post_Yard := ne_Post_Yard, ne_Fence_Post := Ne.symm ne_Post_Fence, ne_Fence_Sail := ne_Fence_Sail, ne_Fence_Cloth := ne_Fence_Cloth, ne_Fence_House := ne_Fence_House, ne_Fence_Yard := ne_Fence_Yard, ne_Sail_Post := Ne.symm ne_Post_Sail, ne_Sail_Fence := Ne.symm ne_Fence_Sail, ne_Sail_Cloth := ne_Sail_Cloth, ne_Sail_House := ne_Sail_House, ne_Sail_Yard := ne_Sail_Yard, ne_Cloth_Post := Ne.symm ne_Post_Cloth, ne_Cloth_Fence := Ne.symm ne_Fence_Cloth, ne_Cloth_Sail := Ne.symm ne_Sail_Cloth, ne_Cloth_House := ne_Cloth_House, ne_Cloth_Yard := ne_Cloth_Yard, ne_House_Post := Ne.symm ne_Post_House, ne_House_Fence := Ne.symm ne_Fence_House, ne_House_Sail := Ne.symm ne_Sail_House, ne_House_Cloth := Ne.symm ne_Cloth_House, ne_House_Yard := ne_House_Yard, ne_Yard_Post := Ne.symm ne_Post_Yard, ne_Yard_Fence := Ne.symm ne_Fence_Yard, ne_Yard_Sail := Ne.symm ne_Sail_Yard, ne_Yard_Cloth := Ne.symm ne_Cloth_Yard, ne_Yard_House := Ne.symm ne_House_Yard, ne_BadThing_BadRow := ne_BadThing_BadRow, ne_BadRow_BadThing := Ne.symm ne_BadThing_BadRow}
  refine ⟨_, fun s v => .of_eq rfl, fun base _ _ => law_fn (ok_law (P := l.prog) (w := w) (K := K) (mg := mg) (base := base) (G := G0) {
    a_BadRow_init := f0, d_BadRow_init := _, F_BadRow_init := fun_mk (st := st_BadRow_init) l0 c0 k0,
    b_BadRow_init := (fun_mk (st := st_BadRow_init) l0 c0 k0).binds (ps := P_BadRow_init) fun _ _ _ _ _ _ us hl => match us, hl with | [_, _], _ => rfl,
    a_is_ray := f1, d_is_ray := _, F_is_ray := fun_mk (st := st_is_ray) l1 c1 k1, m_is_ray := PySem.W.mg_of X GG a1,
    b_is_ray := (fun_mk (st := st_is_ray) l1 c1 k1).binds (ps := P_is_ray) fun _ _ _ _ _ _ us hl => match us, hl with | [_], _ => rfl,
    a_Thing_init := f2, d_Thing_init := _, F_Thing_init := fun_mk (st := st_Thing_init) l2 c2 k2,
    b_Thing_init := (fun_mk (st := st_Thing_init) l2 c2 k2).binds (ps := P_Thing_init) fun _ _ _ _ _ _ us hl => match us, hl with | [_, _], _ => rfl,
    a_Post_word := f3, d_Post_word := _, F_Post_word := fun_mk (st := st_Post_word) l3 c3 k3,
    b_Post_word := (fun_mk (st := st_Post_word) l3 c3 k3).binds (ps := P_Post_word) fun _ _ _ _ _ _ us hl => match us, hl with | [_], _ => rfl,
    a_Fence_word := f4, d_Fence_word := _, F_Fence_word := fun_mk (st := st_Fence_word) l4 c4 k4,
    b_Fence_word := (fun_mk (st := st_Fence_word) l4 c4 k4).binds (ps := P_Fence_word) fun _ _ _ _ _ _ us hl => match us, hl with | [_], _ => rfl,
    a_Sail_word := f5, d_Sail_word := _, F_Sail_word := fun_mk (st := st_Sail_word) l5 c5 k5,
    b_Sail_word := (fun_mk (st := st_Sail_word) l5 c5 k5).binds (ps := P_Sail_word) fun _ _ _ _ _ _ us hl => match us, hl with | [_], _ => rfl,
    a_Cloth_word := f6, d_Cloth_word := _, F_Cloth_word := fun_mk (st := st_Cloth_word) l6 c6 k6,
    b_Cloth_word := (fun_mk (st := st_Cloth_word) l6 c6 k6).binds (ps := P_Cloth_word) fun _ _ _ _ _ _ us hl => match us, hl with | [_], _ => rfl,
    a_House_word := f7, d_House_word := _, F_House_word := fun_mk (st := st_House_word) l7 c7 k7,
    b_House_word := (fun_mk (st := st_House_word) l7 c7 k7).binds (ps := P_House_word) fun _ _ _ _ _ _ us hl => match us, hl with | [_], _ => rfl,
    a_are_places := f8, d_are_places := _, F_are_places := fun_mk (st := st_are_places) l8 c8 k8, m_are_places := PySem.W.mg_of X GG a8,
    b_are_places := (fun_mk (st := st_are_places) l8 c8 k8).binds (ps := P_are_places) fun _ _ _ _ _ _ us hl => match us, hl with | [_], _ => rfl,
    a_is_height := f9, d_is_height := _, F_is_height := fun_mk (st := st_is_height) l9 c9 k9, m_is_height := PySem.W.mg_of X GG a9,
    b_is_height := (fun_mk (st := st_is_height) l9 c9 k9).binds (ps := P_is_height) fun _ _ _ _ _ _ us hl => match us, hl with | [_, _], _ => rfl,
    a_made_of := f10, d_made_of := _, F_made_of := fun_mk (st := st_made_of) l10 c10 k10, m_made_of := PySem.W.mg_of X GG a10,
    b_made_of := (fun_mk (st := st_made_of) l10 c10 k10).binds (ps := P_made_of) fun _ _ _ _ _ _ us hl => match us, hl with | [_, _], _ => rfl,
    a_Yard_init := f11, d_Yard_init := _, F_Yard_init := fun_mk (st := st_Yard_init) l11 c11 k11,
    b_Yard_init := (fun_mk (st := st_Yard_init) l11 c11 k11).binds (ps := P_Yard_init) fun _ _ _ _ _ _ us hl => match us, hl with | [_, _, _, _, _], _ => rfl,
    a_show_turn := f12, d_show_turn := _, F_show_turn := fun_mk (st := st_show_turn) l12 c12 k12, m_show_turn := PySem.W.mg_of X GG a12,
    b_show_turn := (fun_mk (st := st_show_turn) l12 c12 k12).binds (ps := P_show_turn) fun _ _ _ _ _ _ us hl => match us, hl with | [_], _ => rfl,
    a_law_part := f13, d_law_part := _, F_law_part := fun_mk (st := st_law_part) l13 c13 k13, m_law_part := PySem.W.mg_of X GG a13,
    b_law_part := (fun_mk (st := st_law_part) l13 c13 k13).binds (ps := P_law_part) fun _ _ _ _ _ _ us hl => match us, hl with | [_, _], _ => rfl,
    a_law_spread := f14, d_law_spread := _, F_law_spread := fun_mk (st := st_law_spread) l14 c14 k14, m_law_spread := PySem.W.mg_of X GG a14,
    b_law_spread := (fun_mk (st := st_law_spread) l14 c14 k14).binds (ps := P_law_spread) fun _ _ _ _ _ _ us hl => match us, hl with | [_, _], _ => rfl,
    a_law_joined := f15, d_law_joined := _, F_law_joined := fun_mk (st := st_law_joined) l15 c15 k15, m_law_joined := PySem.W.mg_of X GG a15,
    b_law_joined := (fun_mk (st := st_law_joined) l15 c15 k15).binds (ps := P_law_joined) fun _ _ _ _ _ _ us hl => match us, hl with | [_], _ => rfl,
    a_law_far := f16, d_law_far := _, F_law_far := fun_mk (st := st_law_far) l16 c16 k16, m_law_far := PySem.W.mg_of X GG a16,
    b_law_far := (fun_mk (st := st_law_far) l16 c16 k16).binds (ps := P_law_far) fun _ _ _ _ _ _ us hl => match us, hl with | [_, _], _ => rfl,
    a_law_names := f17, d_law_names := _, F_law_names := fun_mk (st := st_law_names) l17 c17 k17, m_law_names := PySem.W.mg_of X GG a17,
    b_law_names := (fun_mk (st := st_law_names) l17 c17 k17).binds (ps := P_law_names) fun _ _ _ _ _ _ us hl => match us, hl with | [_, _], _ => rfl,
    a_Thing_shown := f18, d_Thing_shown := _, F_Thing_shown := fun_mk (st := st_Thing_shown) l18 c18 k18,
    b_Thing_shown := (fun_mk (st := st_Thing_shown) l18 c18 k18).binds (ps := P_Thing_shown) fun _ _ _ _ _ _ us hl => match us, hl with | [_], _ => rfl,
    a_is_number := f19, d_is_number := _, F_is_number := fun_mk (st := st_is_number) l19 c19 k19, m_is_number := PySem.W.mg_of X GG a19,
    b_is_number := (fun_mk (st := st_is_number) l19 c19 k19).binds (ps := P_is_number) fun _ _ _ _ _ _ us hl => match us, hl with | [_], _ => rfl,
    a_is_name := f20, d_is_name := _, F_is_name := fun_mk (st := st_is_name) l20 c20 k20, m_is_name := PySem.W.mg_of X GG a20,
    b_is_name := (fun_mk (st := st_is_name) l20 c20 k20).binds (ps := P_is_name) fun _ _ _ _ _ _ us hl => match us, hl with | [_], _ => rfl,
    a_law_thing_by := f21, d_law_thing_by := _, F_law_thing_by := fun_mk (st := st_law_thing_by) l21 c21 k21, m_law_thing_by := PySem.W.mg_of X GG a21,
    b_law_thing_by := (fun_mk (st := st_law_thing_by) l21 c21 k21).binds (ps := P_law_thing_by) fun _ _ _ _ _ _ us hl => match us, hl with | [_, _, _], _ => rfl,
    a_law_ray_by := f22, d_law_ray_by := _, F_law_ray_by := fun_mk (st := st_law_ray_by) l22 c22 k22, m_law_ray_by := PySem.W.mg_of X GG a22,
    b_law_ray_by := (fun_mk (st := st_law_ray_by) l22 c22 k22).binds (ps := P_law_ray_by) fun _ _ _ _ _ _ us hl => match us, hl with | [_], _ => rfl,
    a_law_yard_text := f23, d_law_yard_text := _, F_law_yard_text := fun_mk (st := st_law_yard_text) l23 c23 k23, m_law_yard_text := PySem.W.mg_of X GG a23,
    b_law_yard_text := (fun_mk (st := st_law_yard_text) l23 c23 k23).binds (ps := P_law_yard_text) fun _ _ _ _ _ _ us hl => match us, hl with | [_, _, _, _], _ => rfl,
    a_cloth_of := f24, d_cloth_of := _, F_cloth_of := fun_mk (st := st_cloth_of) l24 c24 k24, m_cloth_of := PySem.W.mg_of X GG a24,
    b_cloth_of := (fun_mk (st := st_cloth_of) l24 c24 k24).binds (ps := P_cloth_of) fun _ _ _ _ _ _ us hl => match us, hl with | [_], _ => rfl,
    a_stretched := f25, d_stretched := _, F_stretched := fun_mk (st := st_stretched) l25 c25 k25, m_stretched := PySem.W.mg_of X GG a25,
    b_stretched := (fun_mk (st := st_stretched) l25 c25 k25).binds (ps := P_stretched) fun _ _ _ _ _ _ us hl => match us, hl with | [_, _], _ => rfl,
    a_numbers_of := f26, d_numbers_of := _, F_numbers_of := fun_mk (st := st_numbers_of) l26 c26 k26, m_numbers_of := PySem.W.mg_of X GG a26,
    b_numbers_of := (fun_mk (st := st_numbers_of) l26 c26 k26).binds (ps := P_numbers_of) fun _ _ _ _ _ _ us hl => match us, hl with | [_, _], _ => rfl,
    a_show_yard := f27, d_show_yard := _, F_show_yard := fun_mk (st := st_show_yard) l27 c27 k27, m_show_yard := PySem.W.mg_of X GG a27,
    b_show_yard := (fun_mk (st := st_show_yard) l27 c27 k27).binds (ps := P_show_yard) fun _ _ _ _ _ _ us hl => match us, hl with | [_], _ => rfl,
    a_law_things := f28, d_law_things := _, F_law_things := fun_mk (st := st_law_things) l28 c28 k28, m_law_things := PySem.W.mg_of X GG a28,
    b_law_things := (fun_mk (st := st_law_things) l28 c28 k28).binds (ps := P_law_things) fun _ _ _ _ _ _ us hl => match us, hl with | [_, _, _], _ => rfl,
    a_law_days := f29, d_law_days := _, F_law_days := fun_mk (st := st_law_days) l29 c29 k29, m_law_days := PySem.W.mg_of X GG a29,
    b_law_days := (fun_mk (st := st_law_days) l29 c29 k29).binds (ps := P_law_days) fun _ _ _ _ _ _ us hl => match us, hl with | [_], _ => rfl,
    a_law_same := f30, d_law_same := _, F_law_same := fun_mk (st := st_law_same) l30 c30 k30, m_law_same := PySem.W.mg_of X GG a30,
    b_law_same := (fun_mk (st := st_law_same) l30 c30 k30).binds (ps := P_law_same) fun _ _ _ _ _ _ us hl => match us, hl with | [_, _, _, _, _], _ => rfl,
    a_thing_of := f31, d_thing_of := _, F_thing_of := fun_mk (st := st_thing_of) l31 c31 k31, m_thing_of := PySem.W.mg_of X GG a31,
    b_thing_of := (fun_mk (st := st_thing_of) l31 c31 k31).binds (ps := P_thing_of) fun _ _ _ _ _ _ us hl => match us, hl with | [_, _], _ => rfl,
    a_size_of := f32, d_size_of := _, F_size_of := fun_mk (st := st_size_of) l32 c32 k32, m_size_of := PySem.W.mg_of X GG a32,
    b_size_of := (fun_mk (st := st_size_of) l32 c32 k32).binds (ps := P_size_of) fun _ _ _ _ _ _ us hl => match us, hl with | [_], _ => rfl,
    a_day_of := f33, d_day_of := _, F_day_of := fun_mk (st := st_day_of) l33 c33 k33, m_day_of := PySem.W.mg_of X GG a33,
    b_day_of := (fun_mk (st := st_day_of) l33 c33 k33).binds (ps := P_day_of) fun _ _ _ _ _ _ us hl => match us, hl with | [_, _, _], _ => rfl,
    a_turn_of := f34, d_turn_of := _, F_turn_of := fun_mk (st := st_turn_of) l34 c34 k34, m_turn_of := PySem.W.mg_of X GG a34,
    b_turn_of := (fun_mk (st := st_turn_of) l34 c34 k34).binds (ps := P_turn_of) fun _ _ _ _ _ _ us hl => match us, hl with | [_, _, _], _ => rfl,
    a_thing_by := f35, d_thing_by := _, F_thing_by := fun_mk (st := st_thing_by) l35 c35 k35, m_thing_by := PySem.W.mg_of X GG a35,
    b_thing_by := (fun_mk (st := st_thing_by) l35 c35 k35).binds (ps := P_thing_by) fun _ _ _ _ _ _ us hl => match us, hl with | [_, _, _, _], _ => rfl,
    a_read_yard := f36, d_read_yard := _, F_read_yard := fun_mk (st := st_read_yard) l36 c36 k36, m_read_yard := PySem.W.mg_of X GG a36,
    b_read_yard := (fun_mk (st := st_read_yard) l36 c36 k36).binds (ps := P_read_yard) fun _ _ _ _ _ _ us hl => match us, hl with | [_], _ => rfl,
    a_law := fa, d_law := _, F_law := fun_mk (st := st_law) l37 c37 k37, m_law := PySem.W.mg_of X GG a37,
    b_law := (fun_mk (st := st_law) l37 c37 k37).binds (ps := P_law) fun _ _ _ _ _ _ us hl => match us, hl with | [_], _ => rfl,
    mC_Post := PySem.W.mg_of X GG nC_Post,
    mC_Fence := PySem.W.mg_of X GG nC_Fence,
    mC_Sail := PySem.W.mg_of X GG nC_Sail,
    mC_Cloth := PySem.W.mg_of X GG nC_Cloth,
    mC_House := PySem.W.mg_of X GG nC_House,
    mC_Yard := PySem.W.mg_of X GG nC_Yard,
    mC_YardError := PySem.W.mg_of X GG nC_YardError,
    mC_BadThing := PySem.W.mg_of X GG nC_BadThing,
    mC_BadRow := PySem.W.mg_of X GG nC_BadRow,
    x0_BadThing := ⟨xE_BadThing, kc_BadThing, eC_BadThing, tC_BadThing⟩,
    ox_BadRow := ⟨⟨_, _, _, _, _, _, _, _, _, _, _, _, _, _, _, xL_BadRow, rfl⟩, sa_BadRow, eC_BadRow, tC_BadRow, kc_BadRow⟩,
    xi_BadRow := at_BadRow_init, xt_BadRow := ti_BadRow,
    xn_BadRow_row := no_BadRow_row,
    bi_YardError := ⟨rd_YardError, sg_YardError, fc_YardError⟩,
    xe_BadThing := (List.forall_mem_cons.mpr ⟨PySem.W.exm_ref eC_BadThing hC_BadThing tC_BadThing sb_BadThing_BadThing, (List.forall_mem_cons.mpr ⟨PySem.W.exm_ref eC_BadThing hC_BadThing tC_BadThing sb_BadRow_BadThing, all0⟩)⟩),
    cl_Post := ⟨pg_Post, hd_Post, po_Post, sa_Post⟩,
    mk_Post := ⟨mk_Post, at_Post_init, i2, kc_Post⟩,
    ni_Post := (List.forall_mem_cons.mpr ⟨no_Post_numbers, all0⟩),
    cl_Fence := ⟨pg_Fence, hd_Fence, po_Fence, sa_Fence⟩,
    mk_Fence := ⟨mk_Fence, at_Fence_init, i2, kc_Fence⟩,
    ni_Fence := (List.forall_mem_cons.mpr ⟨no_Fence_numbers, all0⟩),
    cl_Sail := ⟨pg_Sail, hd_Sail, po_Sail, sa_Sail⟩,
    mk_Sail := ⟨mk_Sail, at_Sail_init, i2, kc_Sail⟩,
    ni_Sail := (List.forall_mem_cons.mpr ⟨no_Sail_numbers, all0⟩),
    cl_Cloth := ⟨pg_Cloth, hd_Cloth, po_Cloth, sa_Cloth⟩,
    mk_Cloth := ⟨mk_Cloth, at_Cloth_init, i2, kc_Cloth⟩,
    ni_Cloth := (List.forall_mem_cons.mpr ⟨no_Cloth_numbers, all0⟩),
    cl_House := ⟨pg_House, hd_House, po_House, sa_House⟩,
    mk_House := ⟨mk_House, at_House_init, i2, kc_House⟩,
    ni_House := (List.forall_mem_cons.mpr ⟨no_House_numbers, all0⟩),
    cl_Yard := ⟨pg_Yard, hd_Yard, po_Yard, sa_Yard⟩,
    mk_Yard := ⟨mk_Yard, at_Yard_init, i11, kc_Yard⟩,
    ni_Yard := (List.forall_mem_cons.mpr ⟨no_Yard_width, (List.forall_mem_cons.mpr ⟨no_Yard_height, (List.forall_mem_cons.mpr ⟨no_Yard_things, (List.forall_mem_cons.mpr ⟨no_Yard_days, all0⟩)⟩)⟩)⟩),
    fl_days := (List.forall_mem_cons.mpr ⟨⟨⟨pg_Yard, hd_Yard, po_Yard, sa_Yard⟩, no_Yard_days⟩, all0⟩),
    fl_height := (List.forall_mem_cons.mpr ⟨⟨⟨pg_Yard, hd_Yard, po_Yard, sa_Yard⟩, no_Yard_height⟩, all0⟩),
    fl_numbers := (List.forall_mem_cons.mpr ⟨⟨⟨pg_Post, hd_Post, po_Post, sa_Post⟩, no_Post_numbers⟩, (List.forall_mem_cons.mpr ⟨⟨⟨pg_Fence, hd_Fence, po_Fence, sa_Fence⟩, no_Fence_numbers⟩, (List.forall_mem_cons.mpr ⟨⟨⟨pg_Sail, hd_Sail, po_Sail, sa_Sail⟩, no_Sail_numbers⟩, (List.forall_mem_cons.mpr ⟨⟨⟨pg_Cloth, hd_Cloth, po_Cloth, sa_Cloth⟩, no_Cloth_numbers⟩, (List.forall_mem_cons.mpr ⟨⟨⟨pg_House, hd_House, po_House, sa_House⟩, no_House_numbers⟩, all0⟩)⟩)⟩)⟩)⟩),
    fl_things := (List.forall_mem_cons.mpr ⟨⟨⟨pg_Yard, hd_Yard, po_Yard, sa_Yard⟩, no_Yard_things⟩, all0⟩),
    fl_width := (List.forall_mem_cons.mpr ⟨⟨⟨pg_Yard, hd_Yard, po_Yard, sa_Yard⟩, no_Yard_width⟩, all0⟩),
    me_Post_word := ⟨at_Post_word, i3, k3⟩,
    me_Post_shown := ⟨at_Post_shown, i18, k18⟩,
    me_Fence_word := ⟨at_Fence_word, i4, k4⟩,
    me_Fence_shown := ⟨at_Fence_shown, i18, k18⟩,
    me_Sail_word := ⟨at_Sail_word, i5, k5⟩,
    me_Sail_shown := ⟨at_Sail_shown, i18, k18⟩,
    me_Cloth_word := ⟨at_Cloth_word, i6, k6⟩,
    me_Cloth_shown := ⟨at_Cloth_shown, i18, k18⟩,
    me_House_word := ⟨at_House_word, i7, k7⟩,
    me_House_shown := ⟨at_House_shown, i18, k18⟩,
    z_abs := PySem.W.mg_none_of X GG z_abs,
    z_all := PySem.W.mg_none_of X GG z_all,
    z_divmod := PySem.W.mg_none_of X GG z_divmod,
    z_int := PySem.W.mg_none_of X GG z_int,
    z_isinstance := PySem.W.mg_none_of X GG z_isinstance,
    z_len := PySem.W.mg_none_of X GG z_len,
    z_list := PySem.W.mg_none_of X GG z_list,
    z_range := PySem.W.mg_none_of X GG z_range,
    z_str := PySem.W.mg_none_of X GG z_str,
    z_tuple := PySem.W.mg_none_of X GG z_tuple,
    g_DAYS := ⟨.int 12, _, PySem.W.mg_of X GG g_DAYS, ⟨_, rfl⟩, (fun _ => .int _)⟩,
    g_FAR := ⟨.int 1000000000, _, PySem.W.mg_of X GG g_FAR, ⟨_, rfl⟩, (fun _ => .int _)⟩,
    g_FIGURES := ⟨.str "0123456789", _, PySem.W.mg_of X GG g_FIGURES, ⟨_, rfl⟩, (fun _ => .str _)⟩,
    g_LETTERS := ⟨.str "abcdefghijklmnopqrstuvwxyz", _, PySem.W.mg_of X GG g_LETTERS, ⟨_, rfl⟩, (fun _ => .str _)⟩,
    g_SIDE := ⟨.int 20, _, PySem.W.mg_of X GG g_SIDE, ⟨_, rfl⟩, (fun _ => .int _)⟩,
    g_SLOPE := ⟨.int 1000000, _, PySem.W.mg_of X GG g_SLOPE, ⟨_, rfl⟩, (fun _ => .int _)⟩,
    g_THINGS := ⟨.int 40, _, PySem.W.mg_of X GG g_THINGS, ⟨_, rfl⟩, (fun _ => .int _)⟩,
    g_TIMES := ⟨.int 1000000000, _, PySem.W.mg_of X GG g_TIMES, ⟨_, rfl⟩, (fun _ => .int _)⟩,
    g_TURNS := ⟨.int 24, _, PySem.W.mg_of X GG g_TURNS, ⟨_, rfl⟩, (fun _ => .int _)⟩
  }) (law_true G0)⟩
end My
open PySem PySem.W PyProof.Rows
set_option maxRecDepth 100000 in
set_option maxHeartbeats 0 in
theorem PySem.Challenge.cw_shadowpost_k71_yards_read_and_shown_holds : PySem.Challenge.rw_shadowpost_k71_yards_read_and_shown.Holds := by
  w_on; o_law; k_head; (case hw => w_witness2)
  k_fill
  refine L2.walk_of (l := PySem.Challenge.rw_shadowpost_k71_yards_read_and_shown) (n := 63) (k := 7) (x := "_law_script") (CX := fun w => L2.CX PySem.Challenge.rw_shadowpost_k71_yards_read_and_shown.prog w) (sp := fun w => DL.spLaw _) rfl (by decide) rfl ⟨rfl, by decide, by decide⟩ (fun w h Y => PySem.W.kIn_of Y) ?F (fun _ _ a ns hl _ hS => ⟨a, ns, rfl, hS, hl, fun _ => rfl⟩) (fun _ _ _ _ _ h => DL.cx_false h)
  case F =>
    intro w mg fa h KX G hmg
    refine' My.all_mk  KX G hmg ?nC_Post ?nC_Fence ?nC_Sail ?nC_Cloth ?nC_House ?nC_Yard ?nC_YardError ?nC_BadThing ?nC_BadRow ?at_Post_init ?at_Fence_init ?at_Sail_init ?at_Cloth_init ?at_House_init ?at_Yard_init ?at_BadRow_init ?at_Post_word ?at_Post_shown ?at_Fence_word ?at_Fence_shown ?at_Sail_word ?at_Sail_shown ?at_Cloth_word ?at_Cloth_shown ?at_House_word ?at_House_shown ?i0 ?l0 ?c0 ?k0 ?a1 ?l1 ?c1 ?k1 ?i2 ?l2 ?c2 ?k2 ?i3 ?l3 ?c3 ?k3 ?i4 ?l4 ?c4 ?k4 ?i5 ?l5 ?c5 ?k5 ?i6 ?l6 ?c6 ?k6 ?i7 ?l7 ?c7 ?k7 ?a8 ?l8 ?c8 ?k8 ?a9 ?l9 ?c9 ?k9 ?a10 ?l10 ?c10 ?k10 ?i11 ?l11 ?c11 ?k11 ?a12 ?l12 ?c12 ?k12 ?a13 ?l13 ?c13 ?k13 ?a14 ?l14 ?c14 ?k14 ?a15 ?l15 ?c15 ?k15 ?a16 ?l16 ?c16 ?k16 ?a17 ?l17 ?c17 ?k17 ?i18 ?l18 ?c18 ?k18 ?a19 ?l19 ?c19 ?k19 ?a20 ?l20 ?c20 ?k20 ?a21 ?l21 ?c21 ?k21 ?a22 ?l22 ?c22 ?k22 ?a23 ?l23 ?c23 ?k23 ?a24 ?l24 ?c24 ?k24 ?a25 ?l25 ?c25 ?k25 ?a26 ?l26 ?c26 ?k26 ?a27 ?l27 ?c27 ?k27 ?a28 ?l28 ?c28 ?k28 ?a29 ?l29 ?c29 ?k29 ?a30 ?l30 ?c30 ?k30 ?a31 ?l31 ?c31 ?k31 ?a32 ?l32 ?c32 ?k32 ?a33 ?l33 ?c33 ?k33 ?a34 ?l34 ?c34 ?k34 ?a35 ?l35 ?c35 ?k35 ?a36 ?l36 ?c36 ?k36 ?a37 ?l37 ?c37 ?k37 ?xE_BadThing ?kc_BadThing ?ga_BadThing ?gg_BadThing ?eC_BadThing ?tC_BadThing ?hC_BadThing ?xL_BadRow ?kc_BadRow ?sa_BadRow ?ga_BadRow ?gg_BadRow ?eC_BadRow ?tC_BadRow ?hC_BadRow ?ti_BadRow ?no_BadRow_row ?sb_BadThing_BadThing ?sb_BadRow_BadThing ?se_BadThing ?sb_BadThing_BadRow ?rd_YardError ?sg_YardError ?fc_YardError ?pg_Post ?hd_Post ?po_Post ?sa_Post ?mk_Post ?kc_Post ?no_Post_numbers ?pg_Fence ?hd_Fence ?po_Fence ?sa_Fence ?mk_Fence ?kc_Fence ?no_Fence_numbers ?pg_Sail ?hd_Sail ?po_Sail ?sa_Sail ?mk_Sail ?kc_Sail ?no_Sail_numbers ?pg_Cloth ?hd_Cloth ?po_Cloth ?sa_Cloth ?mk_Cloth ?kc_Cloth ?no_Cloth_numbers ?pg_House ?hd_House ?po_House ?sa_House ?mk_House ?kc_House ?no_House_numbers ?pg_Yard ?hd_Yard ?po_Yard ?sa_Yard ?mk_Yard ?kc_Yard ?no_Yard_width ?no_Yard_height ?no_Yard_things ?no_Yard_days ?z_abs ?z_all ?z_divmod ?z_int ?z_isinstance ?z_len ?z_list ?z_range ?z_str ?z_tuple ?g_DAYS ?g_FAR ?g_FIGURES ?g_LETTERS ?g_SIDE ?g_SLOPE ?g_THINGS ?g_TIMES ?g_TURNS
    (case nC_Post => k_is); (case nC_Fence => k_is); (case nC_Sail => k_is); (case nC_Cloth => k_is); (case nC_House => k_is); (case nC_Yard => k_is); (case nC_YardError => k_is); (case nC_BadThing => k_is); (case nC_BadRow => k_is); (case at_Post_init => k_is); (case at_Fence_init => k_is); (case at_Sail_init => k_is); (case at_Cloth_init => k_is); (case at_House_init => k_is); (case at_Yard_init => k_is); (case at_BadRow_init => k_is); (case at_Post_word => k_is); (case at_Post_shown => k_is); (case at_Fence_word => k_is); (case at_Fence_shown => k_is); (case at_Sail_word => k_is); (case at_Sail_shown => k_is); (case at_Cloth_word => k_is); (case at_Cloth_shown => k_is); (case at_House_word => k_is); (case at_House_shown => k_is); (case i0 => k_is); (case l0 => k_is); (case c0 => k_is); (case k0 => k_is); (case a1 => k_is); (case l1 => k_is); (case c1 => k_is); (case k1 => k_is); (case i2 => k_is); (case l2 => k_is); (case c2 => k_is); (case k2 => k_is); (case i3 => k_is); (case l3 => k_is); (case c3 => k_is); (case k3 => k_is); (case i4 => k_is); (case l4 => k_is); (case c4 => k_is); (case k4 => k_is); (case i5 => k_is); (case l5 => k_is); (case c5 => k_is); (case k5 => k_is); (case i6 => k_is); (case l6 => k_is); (case c6 => k_is); (case k6 => k_is); (case i7 => k_is); (case l7 => k_is); (case c7 => k_is); (case k7 => k_is); (case a8 => k_is); (case l8 => k_is); (case c8 => k_is); (case k8 => k_is); (case a9 => k_is); (case l9 => k_is); (case c9 => k_is); (case k9 => k_is); (case a10 => k_is); (case l10 => k_is); (case c10 => k_is); (case k10 => k_is); (case i11 => k_is); (case l11 => k_is); (case c11 => k_is); (case k11 => k_is); (case a12 => k_is); (case l12 => k_is); (case c12 => k_is); (case k12 => k_is); (case a13 => k_is); (case l13 => k_is); (case c13 => k_is); (case k13 => k_is); (case a14 => k_is); (case l14 => k_is); (case c14 => k_is); (case k14 => k_is); (case a15 => k_is); (case l15 => k_is); (case c15 => k_is); (case k15 => k_is); (case a16 => k_is); (case l16 => k_is); (case c16 => k_is); (case k16 => k_is); (case a17 => k_is); (case l17 => k_is); (case c17 => k_is); (case k17 => k_is); (case i18 => k_is); (case l18 => k_is); (case c18 => k_is); (case k18 => k_is); (case a19 => k_is); (case l19 => k_is); (case c19 => k_is); (case k19 => k_is); (case a20 => k_is); (case l20 => k_is); (case c20 => k_is); (case k20 => k_is); (case a21 => k_is); (case l21 => k_is); (case c21 => k_is); (case k21 => k_is); (case a22 => k_is); (case l22 => k_is); (case c22 => k_is); (case k22 => k_is); (case a23 => k_is); (case l23 => k_is); (case c23 => k_is); (case k23 => k_is); (case a24 => k_is); (case l24 => k_is); (case c24 => k_is); (case k24 => k_is); (case a25 => k_is); (case l25 => k_is); (case c25 => k_is); (case k25 => k_is); (case a26 => k_is); (case l26 => k_is); (case c26 => k_is); (case k26 => k_is); (case a27 => k_is); (case l27 => k_is); (case c27 => k_is); (case k27 => k_is); (case a28 => k_is); (case l28 => k_is); (case c28 => k_is); (case k28 => k_is); (case a29 => k_is); (case l29 => k_is); (case c29 => k_is); (case k29 => k_is); (case a30 => k_is); (case l30 => k_is); (case c30 => k_is); (case k30 => k_is); (case a31 => k_is); (case l31 => k_is); (case c31 => k_is); (case k31 => k_is); (case a32 => k_is); (case l32 => k_is); (case c32 => k_is); (case k32 => k_is); (case a33 => k_is); (case l33 => k_is); (case c33 => k_is); (case k33 => k_is); (case a34 => k_is); (case l34 => k_is); (case c34 => k_is); (case k34 => k_is); (case a35 => k_is); (case l35 => k_is); (case c35 => k_is); (case k35 => k_is); (case a36 => k_is); (case l36 => k_is); (case c36 => k_is); (case k36 => k_is); (case a37 => k_is); (case l37 => k_is); (case c37 => k_is); (case k37 => k_is); (case xE_BadThing => k_exc); (case kc_BadThing => k_is); (case ga_BadThing => k_is); (case gg_BadThing => k_is); (case eC_BadThing => k_is); (case tC_BadThing => k_is); (case hC_BadThing => k_is); (case xL_BadRow => k_is); (case kc_BadRow => k_is); (case sa_BadRow => k_is); (case ga_BadRow => k_is); (case gg_BadRow => k_is); (case eC_BadRow => k_is); (case tC_BadRow => k_is); (case hC_BadRow => k_is); (case ti_BadRow => k_is); (case no_BadRow_row => k_is); (case sb_BadThing_BadThing => k_is); (case sb_BadRow_BadThing => k_is); (case se_BadThing => first | rfl | k_is); (case sb_BadThing_BadRow => first | rfl | k_is); (case rd_YardError => k_is); (case sg_YardError => k_is); (case fc_YardError => k_is); (case pg_Post => k_is); (case hd_Post => k_is); (case po_Post => k_is); (case sa_Post => k_is); (case mk_Post => k_is); (case kc_Post => k_is); (case no_Post_numbers => k_is); (case pg_Fence => k_is); (case hd_Fence => k_is); (case po_Fence => k_is); (case sa_Fence => k_is); (case mk_Fence => k_is); (case kc_Fence => k_is); (case no_Fence_numbers => k_is); (case pg_Sail => k_is); (case hd_Sail => k_is); (case po_Sail => k_is); (case sa_Sail => k_is); (case mk_Sail => k_is); (case kc_Sail => k_is); (case no_Sail_numbers => k_is); (case pg_Cloth => k_is); (case hd_Cloth => k_is); (case po_Cloth => k_is); (case sa_Cloth => k_is); (case mk_Cloth => k_is); (case kc_Cloth => k_is); (case no_Cloth_numbers => k_is); (case pg_House => k_is); (case hd_House => k_is); (case po_House => k_is); (case sa_House => k_is); (case mk_House => k_is); (case kc_House => k_is); (case no_House_numbers => k_is); (case pg_Yard => k_is); (case hd_Yard => k_is); (case po_Yard => k_is); (case sa_Yard => k_is); (case mk_Yard => k_is); (case kc_Yard => k_is); (case no_Yard_width => k_is); (case no_Yard_height => k_is); (case no_Yard_things => k_is); (case no_Yard_days => k_is); (case z_abs => k_is); (case z_all => k_is); (case z_divmod => k_is); (case z_int => k_is); (case z_isinstance => k_is); (case z_len => k_is); (case z_list => k_is); (case z_range => k_is); (case z_str => k_is); (case z_tuple => k_is); (case g_DAYS => k_is); (case g_FAR => k_is); (case g_FIGURES => k_is); (case g_LETTERS => k_is); (case g_SIDE => k_is); (case g_SLOPE => k_is); (case g_THINGS => k_is); (case g_TIMES => k_is); (case g_TURNS => k_is)
