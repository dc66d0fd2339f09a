import PyProof.Rows.All
import HandS.ForMost
import HandS.ForExc
import HandS.Wide
import HandS.WideBits
import HandS.IsInst
import HandS.Deep
import HandS.TupLe
import KE.DataEq
import HandS.SortInts
import HandS.CallSlots
import KE.DataMinMax
import HandS.Style
import HandS.Flt
import HandS.Defaults
import PyProof.NeKinds
import HandS.Text
import HandS.Codes
import KE.IntTextLaws
import PySem.Challenge.RW_shadowpost_k31_dark_by_things
set_option Elab.async false
set_option linter.all false
set_option maxRecDepth 100000
set_option maxHeartbeats 4000000
set_option autoImplicit false
/-! DLa: data over the hand layer: what a value is as a tree of data, what a frame owns, one relation for a state. -/
namespace DL
open PySem PySem.Spec L2

/-- data: what a value tells, all that hangs on it being left as it is -/
inductive D where
  | non | bl (b : Bool) | int (i : Int) | str (x : Str)
  | tup (xs : List D) | lst (xs : List D) | scr (xs : List D)
  | ins (C : Addr) (ns : List Str) (xs : List D)
  | junk
  | exn (C : Addr) (own : Bool) (ns : List Str) (xs : List D)
  | dct (kk : List Key) (xs : List D)

/-- whether tuples of the module's own top are data, too (then no tuple is a key) -/
def KC : Bool := true
def KTup (K : PySem.W.Frag) (a : Addr) (vs : List V) : Prop := ∃ (o : Obj) (its : Array Value) (n : Nat), K.lookup a = some o ∧ o.cls = .type "tuple" ∧ o.data = .seq its n ∧ its.size ≤ sizeLine ∧ Vals vs its.toList
def TupAt (K : PySem.W.Frag) (F : Hp) (a : Addr) (vs : List V) : Prop := F a = some (.tup vs) ∨ (KC = true ∧ KTup K a vs)

/-- at a: an exception object of the class C, od its dict -/
def ExAt (F : Hp) (a C : Addr) (od : Option Addr) : Prop := ∃ oe : Obj, F a = some (.ext fun h => h.get? a = some oe) ∧ (oe.cls = .ref C ∧ oe.dict = od) ∧ ∃ fs, oe.data = .fields fs
def ExDx (F : Hp) (own : Bool) (od : Option Addr) (ns : List Str) (vs : List V) : Prop := if own = true then ∃ dx, od = some dx ∧ F dx = some (.xd (ns.zip vs)) else od = none
theorem ExAt.mono {F F' : Hp} {a C : Addr} {od : Option Addr} (e : Same F F') (h : ExAt F a C od) : ExAt F' a C od := by
  obtain ⟨oe, h1, h2⟩ := h
  exact ⟨oe, e _ _ h1, h2⟩
theorem ExDx.mono {F F' : Hp} {own : Bool} {od : Option Addr} {ns : List Str} {vs : List V} (e : Same F F') (h : ExDx F own od ns vs) : ExDx F' own od ns vs := by
  unfold ExDx at *
  by_cases q : own = true
  · rw [if_pos q] at h ⊢
    obtain ⟨dx, h1, h2⟩ := h
    exact ⟨dx, h1, e _ _ h2⟩
  · rw [if_neg q] at h ⊢; exact h
mutual
inductive At (K : PySem.W.Frag) (F : Hp) : V → D → Prop
  | non : At K F .non .non
  | bl (b : Bool) : At K F (.bl b) (.bl b)
  | int (i : Int) : At K F (.int i) (.int i)
  | str (x : Str) : At K F (.str x) (.str x)
  | lst {a : Addr} {vs : List V} {ds : List D} : F a = some (.lst vs) → Ats K F vs ds → At K F (.ref a) (.lst ds)
  | scr {a : Addr} {vs : List V} {ds : List D} : SqL K F a vs → Ats K F vs ds → At K F (.ref a) (.scr ds)
  | tup {a : Addr} {vs : List V} {ds : List D} : TupAt K F a vs → Ats K F vs ds → At K F (.ref a) (.tup ds)
  | junk (a : Addr) : At K F (.ref a) .junk
  | exn {a C : Addr} {od : Option Addr} {own : Bool} {ns : List Str} {vs : List V} {ds : List D} : ExAt F a C od → ExDx F own od ns vs → ns.length = vs.length → Ats K F vs ds → At K F (.ref a) (.exn C own ns ds)
  | ins {a C dx : Addr} {ns : List Str} {vs : List V} {ds : List D} : F a = some (.ins C dx (ns.zip vs)) → ns.length = vs.length → Ats K F vs ds → At K F (.ref a) (.ins C ns ds)
  | dct {a : Addr} {kk : List Key} {vs : List V} {ds : List D} : F a = some (.dK (kk.zip vs)) → kk.Nodup → kk.length = vs.length → Ats K F vs ds → At K F (.ref a) (.dct kk ds)
inductive Ats (K : PySem.W.Frag) (F : Hp) : List V → List D → Prop
  | nil : Ats K F [] []
  | cons {v : V} {vs : List V} {d : D} {ds : List D} : At K F v d → Ats K F vs ds → Ats K F (v :: vs) (d :: ds)
end

theorem sameT {K : PySem.W.Frag} {H H' : Hp} {a : Addr} {xs : List V} (e : Same H H') (h : TupAt K H a xs) : SqT K H' a xs := by
  rcases h with h | ⟨_, h⟩
  · exact .inl (.inl (e _ _ h))
  · exact .inr h
theorem sameT0 {K : PySem.W.Frag} {H H' : Hp} {a : Addr} {xs : List V} (e : Same H H') (h : TupAt K H a xs) : TupAt K H' a xs := by
  rcases h with h | h
  · exact .inl (e _ _ h)
  · exact .inr h

section
variable {K : PySem.W.Frag} {F F' H H' : Hp}
mutual
theorem At.mono (e : Same F F') : ∀ (d : D) (v : V), At K F v d → At K F' v d
  | .non, _, h => by cases h; exact .non
  | .bl b, _, h => by cases h; exact .bl b
  | .int i, _, h => by cases h; exact .int i
  | .str x, _, h => by cases h; exact .str x
  | .lst ds, _, h => by
    cases h with
    | lst hs ha => exact .lst (e _ _ hs) (Ats.mono e ds _ ha)
  | .scr ds, _, h => by
    cases h with
    | scr hs ha => exact .scr (e.seq hs) (Ats.mono e ds _ ha)
  | .tup ds, _, h => by
    cases h with
    | tup hs ha => exact .tup (sameT0 e hs) (Ats.mono e ds _ ha)
  | .junk, _, h => by cases h; exact .junk _
  | .exn C own ns ds, _, h => by
    cases h with
    | exn h1 h2 hl ha => exact .exn (h1.mono e) (h2.mono e) hl (Ats.mono e ds _ ha)
  | .ins C ns ds, _, h => by
    cases h with
    | ins hs hl ha => exact .ins (e _ _ hs) hl (Ats.mono e ds _ ha)
  | .dct kk ds, _, h => by
    cases h with
    | dct h1 h2 h3 h4 => exact .dct (e _ _ h1) h2 h3 (Ats.mono e ds _ h4)
theorem Ats.mono (e : Same F F') : ∀ (ds : List D) (vs : List V), Ats K F vs ds → Ats K F' vs ds
  | [], _, h => by cases h; exact .nil
  | d :: ds, _, h => by
    cases h with
    | cons h1 h2 => exact .cons (At.mono e d _ h1) (Ats.mono e ds _ h2)
end
theorem Ats.length : ∀ {vs : List V} {ds : List D}, Ats K F vs ds → vs.length = ds.length
  | _, _, .nil => rfl
  | _, _, .cons _ t => congrArg (· + 1) (Ats.length t)
theorem Ats.get : ∀ {vs : List V} {ds : List D} {i : Nat} {d : D}, Ats K F vs ds → ds[i]? = some d → ∃ v, vs[i]? = some v ∧ At K F v d
  | _, _, _, _, .nil, e => by simp at e
  | _, _, 0, _, .cons h _, e => by
    simp at e
    subst e
    exact ⟨_, rfl, h⟩
  | _, _, i + 1, d, .cons _ t, e => by
    obtain ⟨v, h1, h2⟩ := Ats.get (i := i) (d := d) t (by simpa using e)
    exact ⟨v, by simpa using h1, h2⟩
theorem Ats.get' : ∀ {vs : List V} {ds : List D} {i : Nat} {v : V}, Ats K F vs ds → vs[i]? = some v → ∃ d, ds[i]? = some d ∧ At K F v d
  | _, _, _, _, .nil, e => by simp at e
  | _, _, 0, _, .cons h _, e => by
    simp at e
    subst e
    exact ⟨_, rfl, h⟩
  | _, _, i + 1, v, .cons _ t, e => by
    obtain ⟨d, h1, h2⟩ := Ats.get' (i := i) (v := v) t (by simpa using e)
    exact ⟨d, by simpa using h1, h2⟩
theorem Ats.append : ∀ {vs ws : List V} {ds es : List D}, Ats K F vs ds → Ats K F ws es → Ats K F (vs ++ ws) (ds ++ es)
  | _, _, _, _, .nil, h => h
  | _, _, _, _, .cons a t, h => .cons a (Ats.append t h)
theorem Ats.take : ∀ {vs : List V} {ds : List D} (n : Nat), Ats K F vs ds → Ats K F (vs.take n) (ds.take n)
  | _, _, 0, _ => by simp only [List.take_zero]; exact .nil
  | _, _, n + 1, .nil => .nil
  | _, _, n + 1, .cons a t => .cons a (Ats.take n t)
theorem Ats.drop : ∀ {vs : List V} {ds : List D} (n : Nat), Ats K F vs ds → Ats K F (vs.drop n) (ds.drop n)
  | _, _, 0, h => h
  | _, _, n + 1, .nil => .nil
  | _, _, n + 1, .cons _ t => Ats.drop n t
theorem Ats.one {v : V} {d : D} (h : At K F v d) : Ats K F [v] [d] := .cons h .nil
theorem Ats.rev : ∀ {vs : List V} {ds : List D}, Ats K F vs ds → Ats K F vs.reverse ds.reverse
  | _, _, .nil => .nil
  | _, _, .cons a t => by
    simp only [List.reverse_cons]
    exact (Ats.rev t).append (.one a)
theorem Ats.set : ∀ {vs : List V} {ds : List D} (i : Nat) {v : V} {d : D}, Ats K F vs ds → At K F v d → Ats K F (vs.set i v) (ds.set i d)
  | _, _, _, _, _, .nil, _ => .nil
  | _, _, 0, _, _, .cons _ t, h => .cons h t
  | _, _, i + 1, _, _, .cons a t, h => .cons a (Ats.set i t h)
end

/-! ### what is owned -/
/-- a dict: its address where it is told, whether a walk locks it, whether its keys are tuples, its keys in order -/
structure DB where
  at_ : Option Addr
  lock : Bool
  tk : Bool
  ks : List (List Key)
def HoOf (b : DB) (vs : List V) (u : HO) : Prop := (b.tk = true ∧ u = .dT (b.ks.zip vs)) ∨ (b.tk = false ∧ ∃ kk : List Key, b.ks = kk.map (fun k => [k]) ∧ u = .dK (kk.zip vs))
def DicAt (H : Hp) (p : Addr) (b : DB) (vs : List V) : Prop := ((∀ a, b.at_ = some a → p = a) ∧ b.ks.Nodup) ∧ ∃ u, HoOf b vs u ∧ ((b.lock = false ∧ H p = some u) ∨ (b.lock = true ∧ ∃ o, H p = some (.frz o u)))
theorem DicAt.ne {H : Hp} {p : Addr} {b : DB} {vs : List V} (h : DicAt H p b vs) : H p ≠ none := by
  obtain ⟨_, u, _, ⟨_, h⟩ | ⟨_, o, h⟩⟩ := h <;> rw [h] <;> exact fun z => nomatch z
theorem DicAt.eq {H H' : Hp} {p : Addr} {b : DB} {vs : List V} (h : DicAt H p b vs) (e : H' p = H p) : DicAt H' p b vs := by
  unfold DicAt at *
  rw [e]; exact h
theorem DicAt.rd {H : Hp} {p : Addr} {b : DB} {vs : List V} (h : DicAt H p b vs) : ∃ u, HoOf b vs u ∧ Rd H p u := by
  obtain ⟨_, u, hu, ⟨_, h⟩ | ⟨_, o, h⟩⟩ := h
  · exact ⟨u, hu, .inl h⟩
  · exact ⟨u, hu, .inr ⟨o, h⟩⟩
inductive Val where
  | sh (d : D)
  | lst (xs : List Val)
  | tup (xs : List Val)
  | dic (b : DB) (ds : List D)
  | obj (C : Addr) (ns : List Str) (ds : List D)
  | «at» (p : Addr) (x : Val)
  | dcv (kk : List Key) (xs : List Val)
mutual
def Val.fz : Val → D
  | .sh d => d
  | .lst xs => .lst (fzs xs)
  | .tup xs => .tup (fzs xs)
  | .dic _ _ => .junk
  | .obj C ns ds => .ins C ns ds
  | .at _ x => x.fz
  | .dcv kk xs => .dct kk (fzs xs)
def fzs : List Val → List D
  | [] => []
  | x :: xs => x.fz :: fzs xs
end
theorem fzs_map (xs : List Val) : fzs xs = xs.map Val.fz := by
  induction xs with
  | nil => rfl
  | cons x xs ih => simp only [fzs, List.map_cons, ih]
theorem fzs_sh (ds : List D) : fzs (ds.map .sh) = ds := by
  induction ds with
  | nil => rfl
  | cons x xs ih => simp only [fzs, List.map_cons, ih, Val.fz]

mutual
inductive Own (K : PySem.W.Frag) (F H : Hp) : V → Val → List Addr → Prop
  | sh {v : V} {d : D} : At K F v d → Own K F H v (.sh d) []
  | lst {p : Addr} {vs : List V} {xs : List Val} {f : List Addr} : F p = none → H p = some (.lst vs) → Owns K F H vs xs f → Own K F H (.ref p) (.lst xs) (p :: f)
  | tup {p : Addr} {vs : List V} {xs : List Val} {f : List Addr} : F p = none → H p = some (.tup vs) → Owns K F H vs xs f → Own K F H (.ref p) (.tup xs) (p :: f)
  | dic {p : Addr} {vs : List V} {b : DB} {ds : List D} : F p = none → DicAt H p b vs → b.ks.length = vs.length → Ats K F vs ds → b.lock = false → Own K F H (.ref p) (.dic b ds) [p]
  | dicL {p : Addr} {vs : List V} {b : DB} {ds : List D} {u : HO} {o : Obj} : HoOf b vs u → F p = some (.frz o u) → b.lock = true → (∀ a, b.at_ = some a → p = a) → b.ks.Nodup → b.ks.length = vs.length → Ats K F vs ds → Own K F H (.ref p) (.dic b ds) []
  | obj {p C dx : Addr} {ns : List Str} {vs : List V} {ds : List D} : F p = none → H p = some (.ins C dx (ns.zip vs)) → ns.length = vs.length → Ats K F vs ds → Own K F H (.ref p) (.obj C ns ds) [p]
  | «at» {p : Addr} {x : Val} {f : List Addr} : Own K F H (.ref p) x f → Own K F H (.ref p) (.at p x) f
  | dcv {p : Addr} {kk : List Key} {vs : List V} {xs : List Val} {f : List Addr} : F p = none → H p = some (.dK (kk.zip vs)) → kk.Nodup → kk.length = vs.length → Owns K F H vs xs f → Own K F H (.ref p) (.dcv kk xs) (p :: f)
inductive Owns (K : PySem.W.Frag) (F H : Hp) : List V → List Val → List Addr → Prop
  | nil : Owns K F H [] [] []
  | cons {v : V} {vs : List V} {x : Val} {xs : List Val} {f g : List Addr} : Own K F H v x f → Owns K F H vs xs g → Owns K F H (v :: vs) (x :: xs) (f ++ g)
end
section
variable {K : PySem.W.Frag} {F F' H H' : Hp}
mutual
/-- the heaps grow; what is owned stands -/
theorem Own.mono (e : Same F F') : ∀ (x : Val) (v : V) (f : List Addr), Own K F H v x f → (∀ b ∈ f, F' b = none ∧ H' b = H b) → Own K F' H' v x f
  | .sh d, _, _, h, _ => by
    cases h with
    | sh h => exact .sh (At.mono e d _ h)
  | .lst xs, _, _, h, k => by
    cases h with
    | lst h1 h2 h3 => exact .lst (k _ List.mem_cons_self).1 ((k _ List.mem_cons_self).2.trans h2) (Owns.mono e xs _ _ h3 fun b hb => k b (List.mem_cons_of_mem _ hb))
  | .tup xs, _, _, h, k => by
    cases h with
    | tup h1 h2 h3 => exact .tup (k _ List.mem_cons_self).1 ((k _ List.mem_cons_self).2.trans h2) (Owns.mono e xs _ _ h3 fun b hb => k b (List.mem_cons_of_mem _ hb))
  | .dic b ds, _, _, h, k => by
    cases h with
    | dic h1 h2 h3 h4 h5 => exact .dic (k _ List.mem_cons_self).1 (h2.eq (k _ List.mem_cons_self).2) h3 (Ats.mono e _ _ h4) h5
    | dicL h1 h2 h3 h4 h5 h6 h7 => exact .dicL h1 (e _ _ h2) h3 h4 h5 h6 (Ats.mono e _ _ h7)
  | .obj C ns ds, _, _, h, k => by
    cases h with
    | obj h1 h2 h3 h4 => exact .obj (k _ List.mem_cons_self).1 ((k _ List.mem_cons_self).2.trans h2) h3 (Ats.mono e _ _ h4)
  | .at p x, _, _, h, k => by
    cases h with
    | «at» h => exact .at (Own.mono e x _ _ h k)
  | .dcv kk xs, _, _, h, k => by
    cases h with
    | dcv h1 h2 h3 h4 h5 => exact .dcv (k _ List.mem_cons_self).1 ((k _ List.mem_cons_self).2.trans h2) h3 h4 (Owns.mono e xs _ _ h5 fun b hb => k b (List.mem_cons_of_mem _ hb))
theorem Owns.mono (e : Same F F') : ∀ (xs : List Val) (vs : List V) (f : List Addr), Owns K F H vs xs f → (∀ b ∈ f, F' b = none ∧ H' b = H b) → Owns K F' H' vs xs f
  | [], _, _, h, _ => by cases h; exact .nil
  | x :: xs, _, _, h, k => by
    cases h with
    | cons h1 h2 => exact .cons (Own.mono e x _ _ h1 fun b hb => k b (List.mem_append_left _ hb)) (Owns.mono e xs _ _ h2 fun b hb => k b (List.mem_append_right _ hb))
end
mutual
theorem Own.no : ∀ (x : Val) (v : V) (f : List Addr), Own K F H v x f → ∀ b ∈ f, F b = none ∧ H b ≠ none
  | .sh d, _, _, h, b, hb => by cases h; cases hb
  | .lst xs, _, _, h, b, hb => by
    cases h with
    | lst h1 h2 h3 =>
      rcases List.mem_cons.mp hb with e | hb
      · subst e; exact ⟨h1, by rw [h2]; exact fun z => nomatch z⟩
      · exact Owns.no xs _ _ h3 b hb
  | .tup xs, _, _, h, b, hb => by
    cases h with
    | tup h1 h2 h3 =>
      rcases List.mem_cons.mp hb with e | hb
      · subst e; exact ⟨h1, by rw [h2]; exact fun z => nomatch z⟩
      · exact Owns.no xs _ _ h3 b hb
  | .dic bb ds, _, _, h, b, hb => by
    cases h with
    | dic h1 h2 h3 h4 =>
      rw [List.mem_singleton.mp hb]
      exact ⟨h1, h2.ne⟩
    | dicL => cases hb
  | .obj C ns ds, _, _, h, b, hb => by
    cases h with
    | obj h1 h2 h3 h4 =>
      rw [List.mem_singleton.mp hb]
      exact ⟨h1, by rw [h2]; exact fun z => nomatch z⟩
  | .at p x, _, _, h, b, hb => by
    cases h with
    | «at» h => exact Own.no x _ _ h b hb
  | .dcv kk xs, _, _, h, b, hb => by
    cases h with
    | dcv h1 h2 h3 h4 h5 =>
      rcases List.mem_cons.mp hb with e | hb
      · subst e; exact ⟨h1, by rw [h2]; exact fun z => nomatch z⟩
      · exact Owns.no xs _ _ h5 b hb
theorem Owns.no : ∀ (xs : List Val) (vs : List V) (f : List Addr), Owns K F H vs xs f → ∀ b ∈ f, F b = none ∧ H b ≠ none
  | [], _, _, h, b, hb => by cases h; cases hb
  | x :: xs, _, _, h, b, hb => by
    cases h with
    | cons h1 h2 =>
      rcases List.mem_append.mp hb with hb | hb
      · exact Own.no x _ _ h1 b hb
      · exact Owns.no xs _ _ h2 b hb
end
mutual
/-- frozen: all that was owned is left as it is from now on -/
theorem Own.fz (e : Same F F') : ∀ (x : Val) (v : V) (f : List Addr), Own K F H v x f → (∀ b ∈ f, F' b = H b) → At K F' v x.fz
  | .sh d, _, _, h, _ => by
    cases h with
    | sh h => rw [Val.fz]; exact At.mono e d _ h
  | .lst xs, _, _, h, k => by
    cases h with
    | lst h1 h2 h3 =>
      rw [Val.fz]
      exact .lst ((k _ List.mem_cons_self).trans h2) (Owns.fz e xs _ _ h3 fun b hb => k b (List.mem_cons_of_mem _ hb))
  | .tup xs, _, _, h, k => by
    cases h with
    | tup h1 h2 h3 =>
      rw [Val.fz]
      exact .tup (.inl ((k _ List.mem_cons_self).trans h2)) (Owns.fz e xs _ _ h3 fun b hb => k b (List.mem_cons_of_mem _ hb))
  | .dic b ds, v, _, h, _ => by
    rw [Val.fz]
    cases h with
    | dic => exact .junk _
    | dicL => exact .junk _
  | .obj C ns ds, _, _, h, k => by
    cases h with
    | obj h1 h2 h3 h4 =>
      rw [Val.fz]
      exact .ins ((k _ List.mem_cons_self).trans h2) h3 (Ats.mono e _ _ h4)
  | .at p x, _, _, h, k => by
    cases h with
    | «at» h =>
      rw [Val.fz]
      exact Own.fz e x _ _ h k
  | .dcv kk xs, _, _, h, k => by
    cases h with
    | dcv h1 h2 h3 h4 h5 =>
      rw [Val.fz]
      exact .dct ((k _ List.mem_cons_self).trans h2) h3 h4 (Owns.fz e xs _ _ h5 fun b hb => k b (List.mem_cons_of_mem _ hb))
theorem Owns.fz (e : Same F F') : ∀ (xs : List Val) (vs : List V) (f : List Addr), Owns K F H vs xs f → (∀ b ∈ f, F' b = H b) → Ats K F' vs (fzs xs)
  | [], _, _, h, _ => by cases h; rw [fzs]; exact .nil
  | x :: xs, _, _, h, k => by
    cases h with
    | cons h1 h2 =>
      rw [fzs]
      exact .cons (Own.fz e x _ _ h1 fun b hb => k b (List.mem_append_left _ hb)) (Owns.fz e xs _ _ h2 fun b hb => k b (List.mem_append_right _ hb))
end
theorem Owns.length : ∀ {vs : List V} {xs : List Val} {f : List Addr}, Owns K F H vs xs f → vs.length = xs.length
  | _, _, _, .nil => rfl
  | _, _, _, .cons _ t => congrArg (· + 1) (Owns.length t)
theorem Owns.of_ats : ∀ {vs : List V} {ds : List D}, Ats K F vs ds → Owns K F H vs (ds.map .sh) []
  | _, _, .nil => .nil
  | _, _, .cons a t => .cons (f := []) (g := []) (.sh a) (Owns.of_ats t)
theorem Owns.ats : ∀ {vs : List V} {ds : List D} {f : List Addr}, Owns K F H vs (ds.map .sh) f → Ats K F vs ds ∧ f = []
  | _, [], _, .nil => ⟨.nil, rfl⟩
  | _, d :: ds, _, .cons (.sh a) t => by
    obtain ⟨h1, h2⟩ := Owns.ats t
    exact ⟨.cons a h1, by rw [h2]; rfl⟩
end
end DL

/-! DLb: the state of a frame as data: slots and what is held meanwhile. -/
namespace DL
open PySem PySem.Spec L2
abbrev DEnv := List (Option Val)

/-! ### footprints -/
def Sb (f g : List Addr) : Prop := (∀ b ∈ f, b ∈ g) ∧ (g.Nodup → f.Nodup)
theorem Sb.refl (f : List Addr) : Sb f f := ⟨fun _ h => h, fun h => h⟩
theorem Sb.trans {f g h : List Addr} (a : Sb f g) (b : Sb g h) : Sb f h := ⟨fun x hx => b.1 x (a.1 x hx), fun z => a.2 (b.2 z)⟩
theorem Sb.of_perm {f g : List Addr} (p : f.Perm g) : Sb f g := ⟨fun _ h => p.mem_iff.mp h, fun h => p.nodup_iff.mpr h⟩
theorem Sb.of_sub {f g : List Addr} (p : f.Sublist g) : Sb f g := ⟨fun _ h => p.subset h, fun h => h.sublist p⟩
theorem Sb.app {f f' g g' : List Addr} (a : Sb f f') (b : Sb g g') : Sb (f ++ g) (f' ++ g') := by
  refine ⟨fun x hx => ?_, fun h => ?_⟩
  · rcases List.mem_append.mp hx with h | h
    · exact List.mem_append_left _ (a.1 x h)
    · exact List.mem_append_right _ (b.1 x h)
  · rw [List.nodup_append] at h ⊢
    obtain ⟨h1, h2, h3⟩ := h
    exact ⟨a.2 h1, b.2 h2, fun x hx y hy => h3 x (a.1 x hx) y (b.1 y hy)⟩
theorem Sb.left (f g : List Addr) : Sb f (f ++ g) := .of_sub (List.sublist_append_left f g)
theorem Sb.right (f g : List Addr) : Sb g (f ++ g) := .of_sub (List.sublist_append_right f g)
theorem Sb.comm (f g : List Addr) : Sb (f ++ g) (g ++ f) := .of_perm List.perm_append_comm
theorem Sb.nil (f : List Addr) : Sb [] f := .of_sub (List.nil_sublist f)

/-! ### slots -/
inductive Sl (K : PySem.W.Frag) (F H : Hp) : St → DEnv → List Addr → Prop
  | nil : Sl K F H [] [] []
  | un {y : Option V} {σ : St} {ρ : DEnv} {f : List Addr} : Sl K F H σ ρ f → Sl K F H (y :: σ) (none :: ρ) f
  | bd {v : V} {x : Val} {σ : St} {ρ : DEnv} {f g : List Addr} : Own K F H v x f → Sl K F H σ ρ g → Sl K F H (some v :: σ) (some x :: ρ) (f ++ g)
section
variable {K : PySem.W.Frag} {F F' H H' : Hp}
theorem Sl.mono (e : Same F F') : ∀ {σ : St} {ρ : DEnv} {f : List Addr}, Sl K F H σ ρ f → (∀ b ∈ f, F' b = none ∧ H' b = H b) → Sl K F' H' σ ρ f
  | _, _, _, .nil, _ => .nil
  | _, _, _, .un t, k => .un (Sl.mono e t k)
  | _, _, _, .bd h t, k => .bd (Own.mono e _ _ _ h fun b hb => k b (List.mem_append_left _ hb)) (Sl.mono e t fun b hb => k b (List.mem_append_right _ hb))
theorem Sl.no : ∀ {σ : St} {ρ : DEnv} {f : List Addr}, Sl K F H σ ρ f → ∀ b ∈ f, F b = none ∧ H b ≠ none
  | _, _, _, .nil, _, hb => by cases hb
  | _, _, _, .un t, b, hb => Sl.no t b hb
  | _, _, _, .bd h t, b, hb => by
    rcases List.mem_append.mp hb with hb | hb
    · exact Own.no _ _ _ h b hb
    · exact Sl.no t b hb
theorem Sl.length : ∀ {σ : St} {ρ : DEnv} {f : List Addr}, Sl K F H σ ρ f → σ.length = ρ.length
  | _, _, _, .nil => rfl
  | _, _, _, .un t => congrArg (· + 1) (Sl.length t)
  | _, _, _, .bd _ t => congrArg (· + 1) (Sl.length t)
theorem Sl.drop : ∀ {σ : St} {ρ : DEnv} {f : List Addr} (i : Nat), Sl K F H σ ρ f → ∃ r, Sl K F H σ (ρ.set i none) r ∧ Sb r f
  | _, _, _, _, .nil => ⟨[], .nil, .refl _⟩
  | _, _, _, 0, .un t => ⟨_, .un t, .refl _⟩
  | _, _, _, 0, .bd h t => ⟨_, .un t, .right _ _⟩
  | _, _, _, i + 1, .un t => by
    obtain ⟨r, h1, h2⟩ := Sl.drop i t
    exact ⟨r, .un h1, h2⟩
  | _, _, _, i + 1, .bd h t => by
    obtain ⟨r, h1, h2⟩ := Sl.drop i t
    exact ⟨_, .bd h h1, (Sb.refl _).app h2⟩
theorem Sl.take : ∀ {σ : St} {ρ : DEnv} {f : List Addr} (i : Nat) {x : Val}, Sl K F H σ ρ f → ρ[i]? = some (some x) →
    ∃ v g r, σ[i]? = some (some v) ∧ Own K F H v x g ∧ Sl K F H σ (ρ.set i none) r ∧ Sb (g ++ r) f
  | _, _, _, _, _, .nil, e => by simp at e
  | _, _, _, 0, _, .un t, e => by simp at e
  | _, _, _, 0, _, .bd h t, e => by
    simp at e
    subst e
    exact ⟨_, _, _, rfl, h, .un t, .refl _⟩
  | _, _, _, i + 1, x, .un t, e => by
    obtain ⟨v, g, r, h1, h2, h3, h4⟩ := Sl.take i t (by simpa using e)
    exact ⟨v, g, r, by simpa using h1, h2, .un h3, h4⟩
  | _, _, _, i + 1, x, .bd (f := f1) h t, e => by
    obtain ⟨v, g, r, h1, h2, h3, h4⟩ := Sl.take i t (by simpa using e)
    refine ⟨v, g, f1 ++ r, by simpa using h1, h2, .bd h h3, ?_⟩
    have p : Sb (g ++ (f1 ++ r)) (f1 ++ (g ++ r)) := .of_perm (by
      rw [← List.append_assoc, ← List.append_assoc]
      exact List.Perm.append_right _ List.perm_append_comm)
    exact p.trans ((Sb.refl _).app h4)
theorem Sl.put : ∀ {σ : St} {ρ : DEnv} {r : List Addr} (i : Nat) {v : V} {x : Val} {g : List Addr}, Sl K F H σ ρ r → i < ρ.length → Own K F H v x g →
    ∃ f, Sl K F H (σ.set i (some v)) (ρ.set i (some x)) f ∧ Sb f (g ++ r)
  | _, _, _, _, _, _, _, .nil, e, _ => by simp at e
  | _, _, _, 0, _, _, _, .un t, _, h => ⟨_, .bd h t, .refl _⟩
  | _, _, _, 0, _, _, _, .bd _ t, _, h => ⟨_, .bd h t, (Sb.refl _).app (.right _ _)⟩
  | _, _, _, i + 1, _, _, _, .un t, e, h => by
    obtain ⟨f, h1, h2⟩ := Sl.put i t (by simpa using e) h
    exact ⟨f, .un h1, h2⟩
  | _, _, _, i + 1, _, _, g, .bd (f := f1) (g := g1) h0 t, e, h => by
    obtain ⟨f, h1, h2⟩ := Sl.put i t (by simpa using e) h
    refine ⟨_, .bd h0 h1, ?_⟩
    refine ((Sb.refl f1).app h2).trans (.of_perm ?_)
    rw [← List.append_assoc, ← List.append_assoc]
    exact List.Perm.append_right _ List.perm_append_comm
/-- a slot of which nothing is told may hold anything -/
theorem Sl.any : ∀ {σ : St} {ρ : DEnv} {f : List Addr} (i : Nat) (y : Option V), Sl K F H σ ρ f → ρ[i]? = some none → Sl K F H (σ.set i y) ρ f
  | _, _, _, _, _, .nil, h => by simp at h
  | _, _, _, 0, _, .un t, _ => .un t
  | _, _, _, 0, _, .bd _ t, h => by simp at h
  | _, _, _, i + 1, y, .un t, h => .un (Sl.any i y t (by simpa using h))
  | _, _, _, i + 1, y, .bd a t, h => .bd a (Sl.any i y t (by simpa using h))
/-- .. or be forgotten -/
theorem Sl.less : ∀ {σ σ' : St} {ρ : DEnv} {f : List Addr}, Sl K F H σ ρ f → σ'.length = σ.length → (∀ (i : Nat) v x, σ[i]? = some (some v) → ρ[i]? = some (some x) → σ'[i]? = some (some v)) → Sl K F H σ' ρ f
  | _, [], _, _, .nil, _, _ => .nil
  | _, y' :: σ', _, _, .un t, hl, k => .un (Sl.less t (by simpa using hl) fun i v x h1 h2 => by simpa using k (i + 1) v x (by simpa using h1) (by simpa using h2))
  | _, y' :: σ', _, _, .bd a t, hl, k => by
    have e := k 0 _ _ rfl rfl
    simp at e
    subst e
    exact .bd a (Sl.less t (by simpa using hl) fun i v x h1 h2 => by simpa using k (i + 1) v x (by simpa using h1) (by simpa using h2))
end

/-! ### temporaries -/
section
variable {K : PySem.W.Frag} {F F' H H' : Hp}
theorem Owns.append : ∀ {vs ws : List V} {xs ys : List Val} {f g : List Addr}, Owns K F H vs xs f → Owns K F H ws ys g → ∃ h, Owns K F H (vs ++ ws) (xs ++ ys) h ∧ Sb h (f ++ g) ∧ Sb (f ++ g) h
  | _, _, _, _, _, _, .nil, h => ⟨_, h, .refl _, .refl _⟩
  | _, _, _, _, _, _, .cons (f := f1) a t, h => by
    obtain ⟨h1, h2, h3, h4⟩ := Owns.append t h
    refine ⟨_, .cons a h2, ?_, ?_⟩
    · rw [List.append_assoc]; exact (Sb.refl f1).app h3
    · rw [List.append_assoc]; exact (Sb.refl f1).app h4
theorem Owns.split : ∀ {vs ws : List V} {xs ys : List Val} {h : List Addr}, vs.length = xs.length → Owns K F H (vs ++ ws) (xs ++ ys) h → ∃ f g, Owns K F H vs xs f ∧ Owns K F H ws ys g ∧ Sb (f ++ g) h ∧ Sb h (f ++ g)
  | [], _, [], _, _, _, h => ⟨[], _, .nil, h, .refl _, .refl _⟩
  | v :: vs, _, x :: xs, _, _, e, .cons (f := f1) a t => by
    obtain ⟨f, g, h1, h2, h3, h4⟩ := Owns.split (by simpa using e) t
    refine ⟨_, g, .cons a h1, h2, ?_, ?_⟩
    · rw [List.append_assoc]; exact (Sb.refl f1).app h3
    · rw [List.append_assoc]; exact (Sb.refl f1).app h4
end

/-! ### the state -/
/-- F0: what was left as it is at the start, H0: all that stood then -/
def Stt (K : PySem.W.Frag) (F0 H0 H : Hp) (σ : St) (ρ : DEnv) (vs : List V) (xs : List Val) : Prop :=
  ∃ F f g, Same F0 F ∧ Same H0 H ∧ Same F H ∧ (∀ b, F0 b = none → H0 b ≠ none → F b = none) ∧ Sl K F H σ ρ f ∧ Owns K F H vs xs g ∧ (g ++ f).Nodup ∧ ∀ b ∈ g ++ f, H0 b = none
section
variable {K : PySem.W.Frag} {F0 F1 H0 H H' : Hp} {σ σ' : St} {ρ : DEnv} {vs as ws : List V} {xs bs ys : List Val} {v : V} {x : Val} {d : D} {i : Nat}
theorem Stt.pop (h : Stt K F0 H0 H σ ρ (v :: vs) (x :: xs)) : Stt K F0 H0 H σ ρ vs xs := by
  obtain ⟨F, f, g, h1, h2, h3, h4, h5, h6, h7, h8⟩ := h
  cases h6 with
  | cons a t =>
    rename_i g1 g2
    have s : Sb (g2 ++ f) ((g1 ++ g2) ++ f) := (Sb.right g1 g2).app (Sb.refl f)
    exact ⟨F, f, _, h1, h2, h3, h4, h5, t, s.2 h7, fun b hb => h8 b (s.1 b hb)⟩
/-- a scalar -/
theorem Stt.scal (h : Stt K F0 H0 H σ ρ vs xs) (a : ∀ F, At K F v d) : Stt K F0 H0 H σ ρ (v :: vs) (.sh d :: xs) := by
  obtain ⟨F, f, g, h1, h2, h3, h4, h5, h6, h7, h8⟩ := h
  exact ⟨F, f, g, h1, h2, h3, h4, h5, .cons (f := []) (.sh (a F)) h6, h7, h8⟩
/-- the frozen heap is larger by what is owned at f -/
def frz (F H : Hp) (f : List Addr) : Hp := fun b => if b ∈ f then H b else F b
theorem frz_in {F H : Hp} {f : List Addr} {b : Addr} (h : b ∈ f) : frz F H f b = H b := if_pos h
theorem frz_out {F H : Hp} {f : List Addr} {b : Addr} (h : b ∉ f) : frz F H f b = F b := if_neg h
theorem frz_same {F H : Hp} {f : List Addr} (h : ∀ b ∈ f, F b = none) : Same F (frz F H f) := fun b o e => by
  rw [frz_out fun z => by rw [h b z] at e; cases e]; exact e
theorem frz_sub {F H : Hp} {f : List Addr} (h : Same F H) : Same (frz F H f) H := fun b o e => by
  by_cases hb : b ∈ f
  · rw [frz_in hb] at e; exact e
  · rw [frz_out hb] at e; exact h b o e
/-- the first temporaries are frozen -/
theorem Stt.fzs (hl : as.length = bs.length) (h : Stt K F0 H0 H σ ρ (as ++ vs) (bs ++ xs)) : Stt K F0 H0 H σ ρ (as ++ vs) ((fzs bs).map .sh ++ xs) := by
  obtain ⟨F, f, g, h1, h2, h3, h4, h5, h6, h7, h8⟩ := h
  obtain ⟨g1, g2, a1, a2, s1, s2⟩ := Owns.split hl h6
  have t1 : Sb ((g1 ++ g2) ++ f) (g ++ f) := s1.app (.refl f)
  have nd := t1.2 h7
  have n1 := Owns.no _ _ _ a1
  have e : Same F (frz F H g1) := frz_same fun b hb => (n1 b hb).1
  rw [List.append_assoc, List.nodup_append] at nd
  have dis : ∀ b ∈ g2 ++ f, b ∉ g1 := fun b hb hg => nd.2.2 b hg b hb rfl
  have q : Ats K (frz F H g1) as (DL.fzs bs) := Owns.fz e _ _ _ a1 fun b hb => frz_in hb
  have a2' : Owns K (frz F H g1) H vs xs g2 := Owns.mono e _ _ _ a2 fun b hb => ⟨(frz_out (dis b (List.mem_append_left _ hb))).trans (Owns.no _ _ _ a2 b hb).1, rfl⟩
  have h5' : Sl K (frz F H g1) H σ ρ f := Sl.mono e h5 fun b hb => ⟨(frz_out (dis b (List.mem_append_right _ hb))).trans (Sl.no h5 b hb).1, rfl⟩
  obtain ⟨g3, a3, s3, _⟩ := (Owns.of_ats (H := H) q).append a2'
  have t3 : Sb (g3 ++ f) (g2 ++ f) := Sb.app (by simpa using s3) (.refl f)
  have t4 : Sb (g3 ++ f) (g ++ f) := t3.trans (Sb.trans (by rw [List.append_assoc]; exact .right _ _) t1)
  refine ⟨_, f, g3, h1.trans e, h2, frz_sub h3, fun b z1 z2 => ?_, h5', a3, t4.2 h7, fun b hb => h8 b (t4.1 b hb)⟩
  have hb : b ∉ g1 := fun z => z2 (h8 b (t1.1 b (List.mem_append_left _ (List.mem_append_left _ z))))
  rw [frz_out hb]
  exact h4 b z1 z2
theorem Stt.fz (h : Stt K F0 H0 H σ ρ (v :: vs) (x :: xs)) : Stt K F0 H0 H σ ρ (v :: vs) (.sh x.fz :: xs) :=
  Stt.fzs (as := [v]) (bs := [x]) rfl h
/-- a temporary goes into a slot -/
theorem Stt.store (h : Stt K F0 H0 H σ ρ (v :: vs) (x :: xs)) (hi : i < ρ.length) : Stt K F0 H0 H (σ.set i (some v)) (ρ.set i (some x)) vs xs := by
  obtain ⟨F, f, g, h1, h2, h3, h4, h5, h6, h7, h8⟩ := h
  cases h6 with
  | cons a t =>
    rename_i g1 g2
    obtain ⟨f', k1, k2⟩ := Sl.put i h5 hi a
    have s : Sb (g2 ++ f') ((g1 ++ g2) ++ f) := ((Sb.refl g2).app k2).trans (.of_perm (by
      rw [← List.append_assoc]
      exact List.Perm.append_right _ List.perm_append_comm))
    exact ⟨F, f', g2, h1, h2, h3, h4, k1, t, s.2 h7, fun b hb => h8 b (s.1 b hb)⟩
/-- a slot is forgotten -/
theorem Stt.drop (h : Stt K F0 H0 H σ ρ vs xs) (i : Nat) : Stt K F0 H0 H σ (ρ.set i none) vs xs := by
  obtain ⟨F, f, g, h1, h2, h3, h4, h5, h6, h7, h8⟩ := h
  obtain ⟨r, k1, k2⟩ := Sl.drop i h5
  have s : Sb (g ++ r) (g ++ f) := (Sb.refl g).app k2
  exact ⟨F, r, g, h1, h2, h3, h4, k1, h6, s.2 h7, fun b hb => h8 b (s.1 b hb)⟩
theorem Stt.any (h : Stt K F0 H0 H σ ρ vs xs) (hi : ρ[i]? = some none) (y : Option V) : Stt K F0 H0 H (σ.set i y) ρ vs xs := by
  obtain ⟨F, f, g, h1, h2, h3, h4, h5, h6, h7, h8⟩ := h
  exact ⟨F, f, g, h1, h2, h3, h4, Sl.any i y h5 hi, h6, h7, h8⟩
theorem Stt.len (h : Stt K F0 H0 H σ ρ vs xs) : σ.length = ρ.length := by
  obtain ⟨F, f, g, h1, h2, h3, h4, h5, _⟩ := h
  exact Sl.length h5
theorem Stt.lens (h : Stt K F0 H0 H σ ρ vs xs) : vs.length = xs.length := by
  obtain ⟨F, f, g, h1, h2, h3, h4, h5, h6, _⟩ := h
  exact Owns.length h6
/-- a slot's value is taken out of it -/
theorem Stt.take (h : Stt K F0 H0 H σ ρ vs xs) (e : ρ[i]? = some (some x)) : ∃ v, σ[i]? = some (some v) ∧ Stt K F0 H0 H σ (ρ.set i none) (v :: vs) (x :: xs) := by
  obtain ⟨F, f, g, h1, h2, h3, h4, h5, h6, h7, h8⟩ := h
  obtain ⟨v, g1, r, k1, k2, k3, k4⟩ := Sl.take i h5 e
  have s : Sb ((g1 ++ g) ++ r) (g ++ f) := Sb.trans (.of_perm (by
    rw [List.append_assoc]
    exact (List.Perm.append_left _ List.perm_append_comm).trans (by rw [← List.append_assoc]; exact List.perm_append_comm))) ((Sb.refl g).app k4)
  exact ⟨v, k1, F, r, _, h1, h2, h3, h4, k3, .cons k2 h6, s.2 h7, fun b hb => h8 b (s.1 b hb)⟩
/-- what is shared may be told twice -/
theorem Stt.dup (h : Stt K F0 H0 H σ ρ (v :: vs) (.sh d :: xs)) : Stt K F0 H0 H σ ρ (v :: v :: vs) (.sh d :: .sh d :: xs) := by
  obtain ⟨F, f, g, h1, h2, h3, h4, h5, h6, h7, h8⟩ := h
  cases h6 with
  | cons a t =>
    cases a with
    | sh a => exact ⟨F, f, _, h1, h2, h3, h4, h5, .cons (f := []) (.sh a) (.cons (f := []) (.sh a) t), h7, h8⟩
theorem set_back {ρ : DEnv} {i : Nat} {y x : Option Val} (h : i < ρ.length) : (ρ.set i y).set i x = ρ.set i x := by
  rw [List.set_set]
/-- a name is read: what it held is left as it is from now on -/
theorem Stt.read (h : Stt K F0 H0 H σ ρ vs xs) (e : ρ[i]? = some (some x)) : ∃ v, σ[i]? = some (some v) ∧ Stt K F0 H0 H σ (ρ.set i (some (.sh x.fz))) (v :: vs) (.sh x.fz :: xs) := by
  obtain ⟨v, k1, k2⟩ := h.take e
  refine ⟨v, k1, ?_⟩
  have hl : i < ρ.length := (List.getElem?_eq_some_iff.mp e).1
  have q := (k2.fz.dup).store (i := i) (by simpa using hl)
  rw [List.set_set] at q
  have es : σ.set i (some v) = σ := by
    refine List.ext_getElem? fun j => ?_
    by_cases hj : i = j
    · subst hj
      rw [List.getElem?_set_self (by rw [h.len]; exact hl), k1]
    · rw [List.getElem?_set_ne hj]
  rw [es] at q
  exact q
/-- temporaries change places -/
theorem Stt.turn (hl : as.length = bs.length) (h : Stt K F0 H0 H σ ρ (as ++ v :: vs) (bs ++ x :: xs)) : Stt K F0 H0 H σ ρ (v :: (as ++ vs)) (x :: (bs ++ xs)) := by
  obtain ⟨F, f, g, h1, h2, h3, h4, h5, h6, h7, h8⟩ := h
  obtain ⟨g1, g2, a1, a2, s1, s2⟩ := Owns.split hl h6
  cases a2 with
  | cons b t =>
    rename_i g3 g4
    obtain ⟨g5, a5, s5, _⟩ := a1.append t
    have s : Sb ((g3 ++ g5) ++ f) (g ++ f) := Sb.app (Sb.trans ((Sb.refl g3).app s5) (Sb.trans (.of_perm (by
      rw [← List.append_assoc, ← List.append_assoc]
      exact List.Perm.append_right _ List.perm_append_comm)) s1)) (.refl f)
    exact ⟨F, f, _, h1, h2, h3, h4, h5, .cons b a5, s.2 h7, fun b hb => h8 b (s.1 b hb)⟩
theorem Stt.turn' (hl : as.length = bs.length) (h : Stt K F0 H0 H σ ρ (v :: (as ++ vs)) (x :: (bs ++ xs))) : Stt K F0 H0 H σ ρ (as ++ v :: vs) (bs ++ x :: xs) := by
  obtain ⟨F, f, g, h1, h2, h3, h4, h5, h6, h7, h8⟩ := h
  cases h6 with
  | cons b t =>
    rename_i g3 g4
    obtain ⟨g1, g2, a1, a2, s1, s2⟩ := Owns.split hl t
    obtain ⟨g5, a5, s5, _⟩ := a1.append (.cons b a2)
    have s : Sb (g5 ++ f) ((g3 ++ g4) ++ f) := Sb.app (s5.trans (Sb.trans (.of_perm (by
      rw [← List.append_assoc, ← List.append_assoc]
      exact List.Perm.append_right _ List.perm_append_comm)) ((Sb.refl g3).app s1))) (.refl f)
    exact ⟨F, f, _, h1, h2, h3, h4, h5, a5, s.2 h7, fun b hb => h8 b (s.1 b hb)⟩
theorem nodup_new {p : Addr} {l : List Addr} (h : l.Nodup) (n : p ∉ l) : (p :: l).Nodup := List.nodup_cons.mpr ⟨n, h⟩
/-- a new object that is known as it is -/
theorem Stt.laid {p : Addr} {o : HO} (h : Stt K F0 H0 H σ ρ vs xs) (np : H p = none) : ∃ F f g, Same F0 F ∧ Same H0 (upd H p o) ∧ Same (upd F p o) (upd H p o) ∧ Same F (upd F p o) ∧ (∀ b, F0 b = none → H0 b ≠ none → upd F p o b = none) ∧
    Sl K (upd F p o) (upd H p o) σ ρ f ∧ Owns K (upd F p o) (upd H p o) vs xs g ∧ (g ++ f).Nodup ∧ (∀ b ∈ g ++ f, H0 b = none) ∧ F p = none := by
  obtain ⟨F, f, g, h1, h2, h3, h4, h5, h6, h7, h8⟩ := h
  have nF : F p = none := h3.free np
  have n0 : H0 p = none := h2.free np
  have sF : Same F (upd F p o) := fun b u e => by rw [upd_ne (ne_of_none e nF)]; exact e
  have kp : ∀ b, F b = none → H b ≠ none → upd F p o b = none ∧ upd H p o b = H b := fun b z1 z2 => by
    have : b ≠ p := fun e => by subst e; exact z2 np
    rw [upd_ne this, upd_ne this]
    exact ⟨z1, rfl⟩
  refine ⟨F, f, g, h1, fun b u e => by rw [upd_ne (ne_of_none e n0)]; exact h2 _ _ e, fun b u e => ?_, sF, fun b z1 z2 => ?_, Sl.mono sF h5 fun b hb => kp b (Sl.no h5 b hb).1 (Sl.no h5 b hb).2, Owns.mono sF _ _ _ h6 fun b hb => kp b (Owns.no _ _ _ h6 b hb).1 (Owns.no _ _ _ h6 b hb).2, h7, h8, nF⟩
  · by_cases hb : b = p
    · subst hb; rw [upd_same] at e ⊢; exact e
    · rw [upd_ne hb] at e ⊢; exact h3 _ _ e
  · have : b ≠ p := fun e => by subst e; exact z2 n0
    rw [upd_ne this]
    exact h4 b z1 z2
theorem Stt.newTup {p : Addr} {ds : List D} (hl : as.length = ds.length) (h : Stt K F0 H0 H σ ρ (as ++ vs) (ds.map .sh ++ xs)) (np : H p = none) : Stt K F0 H0 (upd H p (.tup as)) σ ρ (.ref p :: vs) (.sh (.tup ds) :: xs) := by
  obtain ⟨F, f, g, h1, h2, h3, h4, h5, h6, h7, h8, h9, h10⟩ := h.laid (o := .tup as) np
  obtain ⟨g1, g2, a1, a2, s1, s2⟩ := Owns.split (by simpa using hl) h7
  obtain ⟨q1, q2⟩ := a1.ats
  have s : Sb (g2 ++ f) (g ++ f) := Sb.app ((Sb.right g1 g2).trans s1) (.refl f)
  exact ⟨_, f, _, h1.trans h4, h2, h3, h5, h6, .cons (f := []) (.sh (.tup (.inl upd_same) q1)) a2, s.2 h8, fun b hb => h9 b (s.1 b hb)⟩
/-- a new list of one's own -/
theorem Stt.newLst {p : Addr} (hl : as.length = bs.length) (h : Stt K F0 H0 H σ ρ (as ++ vs) (bs ++ xs)) (np : H p = none) : Stt K F0 H0 (upd H p (.lst as)) σ ρ (.ref p :: vs) (.lst bs :: xs) := by
  obtain ⟨F, f, g, h1, h2, h3, h4, h5, h6, h7, h8⟩ := h
  have nF : F p = none := h3.free np
  have n0 : H0 p = none := h2.free np
  have kp : ∀ b, H b ≠ none → b ≠ p := fun b z e => by subst e; exact z np
  have h5' : Sl K F (upd H p (.lst as)) σ ρ f := Sl.mono (Same.refl F) h5 fun b hb => ⟨(Sl.no h5 b hb).1, upd_ne (kp b (Sl.no h5 b hb).2)⟩
  have h6' : Owns K F (upd H p (.lst as)) (as ++ vs) (bs ++ xs) g := Owns.mono (Same.refl F) _ _ _ h6 fun b hb => ⟨(Owns.no _ _ _ h6 b hb).1, upd_ne (kp b (Owns.no _ _ _ h6 b hb).2)⟩
  obtain ⟨g1, g2, a1, a2, s1, s2⟩ := Owns.split hl h6'
  have s : Sb ((g1 ++ g2) ++ f) (g ++ f) := s1.app (.refl f)
  have np' : p ∉ (g1 ++ g2) ++ f := fun z => by
    rcases List.mem_append.mp (s.1 p z) with z | z
    · exact (Owns.no _ _ _ h6 p z).2 np
    · exact (Sl.no h5 p z).2 np
  refine ⟨F, f, (p :: g1) ++ g2, h1, fun b u e => by rw [upd_ne (ne_of_none e n0)]; exact h2 _ _ e, fun b u e => by rw [upd_ne (ne_of_none e nF)]; exact h3 _ _ e, h4, h5', .cons (.lst nF upd_same a1) a2, nodup_new (s.2 h7) np', fun b hb => ?_⟩
  rcases List.mem_cons.mp hb with e | hb
  · subst e; exact n0
  · exact h8 b (s.1 b hb)
/-- a list of one's own, held as a temporary, is changed -/
theorem Stt.editTop (hl : as.length = bs.length) (h : Stt K F0 H0 H σ ρ (as ++ v :: vs) (bs ++ .lst ys :: xs)) : ∃ p ws, v = .ref p ∧ H p = some (.lst ws) ∧ ws.length = ys.length ∧
    ∀ ws' ys' us zs, (∀ F H f, Owns K F H (ws ++ as) (ys ++ bs) f → ∃ f1 f2, Owns K F H ws' ys' f1 ∧ Owns K F H us zs f2 ∧ Sb (f1 ++ f2) f) →
      Stt K F0 H0 (upd H p (.lst ws')) σ ρ (.ref p :: (us ++ vs)) (.lst ys' :: (zs ++ xs)) := by
  obtain ⟨F, f, g, h1, h2, h3, h4, h5, h6, h7, h8⟩ := h.turn hl
  cases h6 with
  | cons b t =>
    rename_i g1 g2
    cases b with
    | lst k1 k2 k3 =>
      rename_i p ws g3
      refine ⟨p, ws, rfl, k2, Owns.length k3, fun ws' ys' us zs hc => ?_⟩
      have nd : (p :: ((g3 ++ g2) ++ f)).Nodup := h7
      have ndp := (List.nodup_cons.mp nd).1
      have ne : ∀ b ∈ (g3 ++ g2) ++ f, b ≠ p := fun b hb e => by subst e; exact ndp hb
      have n0 : H0 p = none := h8 p (List.mem_append_left _ (List.mem_append_left _ List.mem_cons_self))
      have t' : Owns K F (upd H p (.lst ws')) (as ++ vs) (bs ++ xs) g2 := Owns.mono (Same.refl F) _ _ _ t fun b hb => ⟨(Owns.no _ _ _ t b hb).1, upd_ne (ne b (List.mem_append_left _ (List.mem_append_right _ hb)))⟩
      have k3' : Owns K F (upd H p (.lst ws')) ws ys g3 := Owns.mono (Same.refl F) _ _ _ k3 fun b hb => ⟨(Owns.no _ _ _ k3 b hb).1, upd_ne (ne b (List.mem_append_left _ (List.mem_append_left _ hb)))⟩
      have h5' : Sl K F (upd H p (.lst ws')) σ ρ f := Sl.mono (Same.refl F) h5 fun b hb => ⟨(Sl.no h5 b hb).1, upd_ne (ne b (List.mem_append_right _ hb))⟩
      obtain ⟨g4, g5, a1, a2, s1, s2⟩ := Owns.split hl t'
      obtain ⟨g6, c1, c2, c3⟩ := k3'.append a1
      obtain ⟨f1, f2, d1, d2, d3⟩ := hc F _ g6 c1
      obtain ⟨g7, e1, e2, e3⟩ := d2.append a2
      have s : Sb ((f1 ++ g7) ++ f) ((g3 ++ g2) ++ f) := Sb.app (((Sb.refl f1).app e2).trans (Sb.trans (by rw [← List.append_assoc]; exact (d3.trans c2).app (.refl g5)) (by rw [List.append_assoc]; exact (Sb.refl g3).app s1))) (.refl f)
      refine ⟨F, f, (p :: f1) ++ g7, h1, fun b u e => by rw [upd_ne (ne_of_none e n0)]; exact h2 _ _ e, fun b u e => by rw [upd_ne (fun z => by subst z; rw [k1] at e; cases e)]; exact h3 _ _ e, h4, h5', .cons (.lst k1 upd_same d1) e1,
        nodup_new (s.2 (List.nodup_cons.mp nd).2) (fun z => ndp (s.1 p z)), fun b hb => ?_⟩
      rcases List.mem_cons.mp hb with e | hb
      · subst e; exact n0
      · exact h8 b (List.mem_cons_of_mem _ (s.1 b hb))
theorem set_same {σ : St} {i : Nat} {v : V} (h : σ[i]? = some (some v)) : σ.set i (some v) = σ := by
  refine List.ext_getElem? fun j => ?_
  by_cases hj : i = j
  · subst hj
    rw [List.getElem?_set_self (List.getElem?_eq_some_iff.mp h).1, h]
  · rw [List.getElem?_set_ne hj]
/-- a slot's list of one's own is changed -/
theorem Stt.edit (hl : as.length = bs.length) (h : Stt K F0 H0 H σ ρ (as ++ vs) (bs ++ xs)) (e : ρ[i]? = some (some (.lst ys))) : ∃ p ws, σ[i]? = some (some (.ref p)) ∧ H p = some (.lst ws) ∧ ws.length = ys.length ∧
    ∀ ws' ys' us zs, (∀ F H f, Owns K F H (ws ++ as) (ys ++ bs) f → ∃ f1 f2, Owns K F H ws' ys' f1 ∧ Owns K F H us zs f2 ∧ Sb (f1 ++ f2) f) →
      Stt K F0 H0 (upd H p (.lst ws')) σ (ρ.set i (some (.lst ys'))) (us ++ vs) (zs ++ xs) := by
  obtain ⟨v, k1, k2⟩ := h.take e
  obtain ⟨p, ws, rfl, q1, q2, q3⟩ := Stt.editTop hl (k2.turn' hl)
  refine ⟨p, ws, k1, q1, q2, fun ws' ys' us zs hc => ?_⟩
  have q := (q3 ws' ys' us zs hc).store (i := i) (by simpa using (List.getElem?_eq_some_iff.mp e).1)
  rw [List.set_set, set_same k1] at q
  exact q
/-- what is shared is read, and more of it may be told -/
theorem Stt.reads {ds : List D} (hl : as.length = ds.length) (h : Stt K F0 H0 H σ ρ (as ++ vs) (ds.map .sh ++ xs)) : ∃ F, Same F H ∧ Ats K F as ds ∧
    ∀ as' ds', Ats K F as' ds' → Stt K F0 H0 H σ ρ (as' ++ vs) (ds'.map .sh ++ xs) := by
  obtain ⟨F, f, g, h1, h2, h3, h4, h5, h6, h7, h8⟩ := h
  obtain ⟨g1, g2, a1, a2, s1, s2⟩ := Owns.split (by simpa using hl) h6
  refine ⟨F, h3, a1.ats.1, fun as' ds' k => ?_⟩
  obtain ⟨g3, c1, c2, c3⟩ := (Owns.of_ats (H := H) k).append a2
  have s : Sb (g3 ++ f) (g ++ f) := Sb.app (Sb.trans (by simpa using c2) ((Sb.right g1 g2).trans s1)) (.refl f)
  exact ⟨F, f, g3, h1, h2, h3, h4, h5, c1, s.2 h7, fun b hb => h8 b (s.1 b hb)⟩
/-- a call: what the callee leaves as it is -/
theorem Stt.call {ds : List D} (hl : as.length = ds.length) (h : Stt K F0 H0 H σ ρ (as ++ vs) (ds.map .sh ++ xs)) : ∃ F, Same F H ∧ Ats K F as ds ∧
    ∀ H' us zs, Stt K F H H' [] [] us zs → Stt K F0 H0 H' σ ρ (us ++ vs) (zs ++ xs) := by
  obtain ⟨F, f, g, h1, h2, h3, h4, h5, h6, h7, h8⟩ := h
  obtain ⟨g1, g2, a1, a2, s1, s2⟩ := Owns.split (by simpa using hl) h6
  refine ⟨F, h3, a1.ats.1, fun H' us zs k => ?_⟩
  obtain ⟨F', f', g', k1, k2, k3, k4, k5, k6, k7, k8⟩ := k
  cases k5
  have same : ∀ b, H b ≠ none → H' b = H b := fun b z => by
    cases e : H b with
    | none => exact absurd e z
    | some u => exact k2 b u e
  have n5 := Sl.no h5
  have n2 := Owns.no _ _ _ a2
  have h5' : Sl K F' H' σ ρ f := Sl.mono k1 h5 fun b hb => ⟨k4 b (n5 b hb).1 (n5 b hb).2, same b (n5 b hb).2⟩
  have a2' : Owns K F' H' vs xs g2 := Owns.mono k1 _ _ _ a2 fun b hb => ⟨k4 b (n2 b hb).1 (n2 b hb).2, same b (n2 b hb).2⟩
  obtain ⟨g3, c1, c2, c3⟩ := k6.append a2'
  rw [List.append_nil] at k7 k8
  have s : Sb (g2 ++ f) (g ++ f) := Sb.app ((Sb.right g1 g2).trans s1) (.refl f)
  have nold : ∀ b ∈ g2 ++ f, H b ≠ none := fun b hb => by
    rcases List.mem_append.mp hb with z | z
    · exact (n2 b z).2
    · exact (n5 b z).2
  have nd : (g' ++ (g2 ++ f)).Nodup := List.nodup_append.mpr ⟨k7, s.2 h7, fun x hx y hy e => by subst e; exact nold x hy (k8 x hx)⟩
  have t : Sb (g3 ++ f) (g' ++ (g2 ++ f)) := by rw [← List.append_assoc]; exact c2.app (.refl f)
  refine ⟨F', f, g3, h1.trans k1, h2.trans k2, k3, fun b z1 z2 => ?_, h5', c1, t.2 nd, fun b hb => ?_⟩
  · refine k4 b (h4 b z1 z2) fun z => ?_
    cases e : H0 b with
    | none => exact z2 e
    | some u => rw [h2 b u e] at z; cases z
  · rcases List.mem_append.mp (t.1 b hb) with z | z
    · exact h2.free (k8 b z)
    · exact h8 b (s.1 b z)
/-- another ground -/
theorem Stt.rebase (h : Stt K F0 H0 H σ ρ vs xs) : ∃ F, Same F H ∧ Same F0 F ∧ Stt K F H0 H σ ρ vs xs ∧ (∀ (as : List V) (ds : List D), as.length = ds.length → Stt K F0 H0 H σ ρ vs xs → True) ∧
    ∀ H' σ' ρ' vs' xs', Stt K F H0 H' σ' ρ' vs' xs' → Stt K F0 H0 H' σ' ρ' vs' xs' := by
  obtain ⟨F, f, g, h1, h2, h3, h4, h5, h6, h7, h8⟩ := h
  refine ⟨F, h3, h1, ⟨F, f, g, Same.refl F, h2, h3, fun b z _ => z, h5, h6, h7, h8⟩, fun _ _ _ _ => trivial, fun H' σ' ρ' vs' xs' k => ?_⟩
  obtain ⟨F', f', g', k1, k2, k3, k4, k5, k6, k7, k8⟩ := k
  exact ⟨F', f', g', h1.trans k1, k2, k3, fun b z1 z2 => k4 b (h4 b z1 z2) z2, k5, k6, k7, k8⟩
/-- .. at which what is shared is told -/
theorem Stt.rebaseAt {ds : List D} (hl : as.length = ds.length) (h : Stt K F0 H0 H σ ρ (as ++ vs) (ds.map .sh ++ xs)) : ∃ F, Same F H ∧ Ats K F as ds ∧ Stt K F H0 H σ ρ vs xs ∧
    ∀ H' σ' ρ' vs' xs', Stt K F H0 H' σ' ρ' vs' xs' → Stt K F0 H0 H' σ' ρ' vs' xs' := by
  obtain ⟨F, f, g, h1, h2, h3, h4, h5, h6, h7, h8⟩ := h
  obtain ⟨g1, g2, a1, a2, s1, s2⟩ := Owns.split (by simpa using hl) h6
  have s : Sb (g2 ++ f) (g ++ f) := Sb.app ((Sb.right g1 g2).trans s1) (.refl f)
  refine ⟨F, h3, a1.ats.1, ⟨F, f, g2, Same.refl F, h2, h3, fun b z _ => z, h5, a2, s.2 h7, fun b hb => h8 b (s.1 b hb)⟩, fun H' σ' ρ' vs' xs' k => ?_⟩
  obtain ⟨F', f', g', k1, k2, k3, k4, k5, k6, k7, k8⟩ := k
  exact ⟨F', f', g', h1.trans k1, k2, k3, fun b z1 z2 => k4 b (h4 b z1 z2) z2, k5, k6, k7, k8⟩
/-- slots all forgotten -/
theorem Stt.out (h : Stt K F0 H0 H σ ρ vs xs) : Stt K F0 H0 H [] [] vs xs := by
  obtain ⟨F, f, g, h1, h2, h3, h4, h5, h6, h7, h8⟩ := h
  have s : Sb (g ++ []) (g ++ f) := (Sb.refl g).app (.nil f)
  exact ⟨F, [], g, h1, h2, h3, h4, .nil, h6, s.2 h7, fun b hb => h8 b (s.1 b hb)⟩
theorem Stt.less (h : Stt K F0 H0 H σ ρ vs xs) (hl : σ'.length = σ.length) (k : ∀ (i : Nat) v x, σ[i]? = some (some v) → ρ[i]? = some (some x) → σ'[i]? = some (some v)) : Stt K F0 H0 H σ' ρ vs xs := by
  obtain ⟨F, f, g, h1, h2, h3, h4, h5, h6, h7, h8⟩ := h
  exact ⟨F, f, g, h1, h2, h3, h4, Sl.less h5 hl k, h6, h7, h8⟩
theorem Stt.begin {F H : Hp} {ds : List D} (hF : Same F H) (h : Ats K F as ds) (n : Nat) : Stt K F H H (as.map some ++ List.replicate n none) (ds.map (fun d => some (.sh d)) ++ List.replicate n none) [] [] := by
  have nn : ∀ n, Sl K F H (List.replicate n none) (List.replicate n none) [] := fun n => by
    induction n with
    | zero => exact .nil
    | succ n ih => exact .un ih
  have q : ∀ (as : List V) (ds : List D), Ats K F as ds → Sl K F H (as.map some ++ List.replicate n none) (ds.map (fun d => some (.sh d)) ++ List.replicate n none) [] := by
    intro as
    induction as with
    | nil => intro ds h; cases h; exact nn n
    | cons a as ih => intro ds h; cases h with | cons h1 h2 => exact .bd (f := []) (.sh h1) (ih _ h2)
  exact ⟨F, [], [], Same.refl _, Same.refl _, hF, fun _ z _ => z, q _ _ h, .nil, by simp, fun b hb => by cases hb⟩
end
end DL

/-! DLc: what code does to a frame's data, and the rules that it is so. -/
namespace DL
open PySem PySem.Spec L2

/-! ### outcomes -/
structure DExn where
  cls : Addr
  own : Bool
  ns : List Str
  ds : List D
inductive R (α : Type) where
  | ok (a : α) (ρ : DEnv)
  | exc (e : DExn) (ρ : DEnv)
  | bad
def R.bind {α β : Type} : R α → (α → DEnv → R β) → R β
  | .ok a ρ, k => k a ρ
  | .exc e ρ, _ => .exc e ρ
  | .bad, _ => .bad
inductive Fl where
  | nx (ρ : DEnv)
  | rt (x : Val) (ρ : DEnv)
  | bk (ρ : DEnv)
  | ct (ρ : DEnv)
  | exc (e : DExn) (ρ : DEnv)
  | bad
def R.fl {α : Type} : R α → (α → DEnv → Fl) → Fl
  | .ok a ρ, k => k a ρ
  | .exc e ρ, _ => .exc e ρ
  | .bad, _ => .bad
@[simp] theorem R.bind_ok {α β : Type} (a : α) (ρ : DEnv) (k : α → DEnv → R β) : (R.ok a ρ).bind k = k a ρ := id rfl
@[simp] theorem R.bind_exc {α β : Type} (e : DExn) (ρ : DEnv) (k : α → DEnv → R β) : (R.exc e ρ : R α).bind k = .exc e ρ := id rfl
@[simp] theorem R.bind_bad {α β : Type} (k : α → DEnv → R β) : (R.bad : R α).bind k = .bad := id rfl
@[simp] theorem R.fl_ok {α : Type} (a : α) (ρ : DEnv) (k : α → DEnv → Fl) : (R.ok a ρ).fl k = k a ρ := id rfl
@[simp] theorem R.fl_exc {α : Type} (e : DExn) (ρ : DEnv) (k : α → DEnv → Fl) : (R.exc e ρ : R α).fl k = .exc e ρ := id rfl
@[simp] theorem R.fl_bad {α : Type} (k : α → DEnv → Fl) : (R.bad : R α).fl k = .bad := id rfl

/-! ### what is wanted of exceptions -/
def okx (X : Cx) (cls : Value) (d : Option Addr) (σ : St) (H : Hp) : Prop := ∀ u s', XE X (fun c d' σ' H' => c = cls ∧ d' = d ∧ σ' = σ ∧ H' = H) u s' → X.xe u s'
theorem takes_okx {X : Cx} : Takes X (okx X) := fun u s' ⟨a, B, sI, pins, σ, H, cls, d, e, I, nb, up, sky, na, os, ag, w⟩ =>
  w u s' ⟨a, B, sI, pins, σ, H, cls, d, e, I, nb, up, sky, na, os, ag, rfl, rfl, rfl, rfl⟩
theorem okx_of {X : Cx} {W : WX} (tk : Takes X W) {cls : Value} {d : Option Addr} {σ : St} {H : Hp} (h : W cls d σ H) : okx X cls d σ H := fun u s' x =>
  tk u s' (by
    obtain ⟨a, B, sI, pins, σ', H', cls', d', e, I, nb, up, sky, na, os, ag, e1, e2, e3, e4⟩ := x
    subst e1 e2 e3 e4
    exact ⟨a, B, sI, pins, _, _, _, _, e, I, nb, up, sky, na, os, ag, h⟩)
def xdOk (H0 H : Hp) (e : DExn) (dx : Option Addr) (ves : List V) : Prop := if e.own = true then ∃ a, dx = some a ∧ H0 a = none ∧ H a = some (.xd (e.ns.zip ves)) else dx = none
theorem xdOk.less {H0 H1 H : Hp} {e : DExn} {dx : Option Addr} {ves : List V} (s : Same H0 H1) (h : xdOk H1 H e dx ves) : xdOk H0 H e dx ves := by
  unfold xdOk at *
  by_cases q : e.own = true
  · rw [if_pos q] at h ⊢
    obtain ⟨a, h1, h2, h3⟩ := h
    exact ⟨a, h1, s.free h2, h3⟩
  · rw [if_neg q] at h ⊢; exact h
def exOk (X : Cx) (F0 H0 : Hp) (e : DExn) (ρ : DEnv) (vs : List V) (xs : List Val) : Prop :=
  ∀ σ' H' dx ves, Stt X.K F0 H0 H' σ' ρ (ves ++ vs) (e.ds.map .sh ++ xs) → ves.length = e.ds.length → xdOk H0 H' e dx ves → okx X (.ref e.cls) dx σ' H'
theorem exOk.more {X : Cx} {F0 H0 : Hp} {e : DExn} {ρ : DEnv} {vs : List V} {xs : List Val} (h : exOk X F0 H0 e ρ vs xs) {v : V} {x : Val} : exOk X F0 H0 e ρ (v :: vs) (x :: xs) :=
  fun σ' H' dx ves s hl hx => h σ' H' dx ves (Stt.turn (by simpa using hl) s).pop hl hx
theorem exOk.mores {X : Cx} {F0 H0 : Hp} {e : DExn} {ρ : DEnv} {vs : List V} {xs : List Val} (h : exOk X F0 H0 e ρ vs xs) : ∀ {as : List V} {bs : List Val}, as.length = bs.length → exOk X F0 H0 e ρ (as ++ vs) (bs ++ xs)
  | [], [], _ => h
  | _ :: as, _ :: bs, hl => (exOk.mores h (as := as) (bs := bs) (by simpa using hl)).more
def post {α : Type} (X : Cx) (F0 H0 : Hp) (vs : List V) (xs : List Val) (P : α → DEnv → Prop) : R α → Prop
  | .ok a ρ => P a ρ
  | .exc e ρ => exOk X F0 H0 e ρ vs xs
  | .bad => False
theorem post_bind {α β : Type} {X : Cx} {F0 H0 : Hp} {vs : List V} {xs : List Val} {P : β → DEnv → Prop} {r : R α} {k : α → DEnv → R β} (h : post X F0 H0 vs xs P (r.bind k)) : post X F0 H0 vs xs (fun a ρ => post X F0 H0 vs xs P (k a ρ)) r := by
  cases r <;> exact h
theorem post.imp {α : Type} {X : Cx} {F0 H0 : Hp} {vs vs' : List V} {xs xs' : List Val} {P P' : α → DEnv → Prop} {r : R α} (h : post X F0 H0 vs xs P r) (hp : ∀ a ρ, P a ρ → P' a ρ) (he : ∀ e ρ, exOk X F0 H0 e ρ vs xs → exOk X F0 H0 e ρ vs' xs') : post X F0 H0 vs' xs' P' r := by
  cases r with
  | ok a ρ => exact hp _ _ h
  | exc e ρ => exact he _ _ h
  | bad => exact h

/-! ### readings -/
def tE (X : Cx) (f : DEnv → R Val) : TE := fun σ H Q => ∃ F0 H0 ρ vs xs, Stt X.K F0 H0 H σ ρ vs xs ∧ post X F0 H0 vs xs (fun x ρ' => ∀ H' v, Stt X.K F0 H0 H' σ ρ' (v :: vs) (x :: xs) → Q v H') (f ρ)
def tT (X : Cx) (f : DEnv → R Bool) : TT := fun σ H Q => ∃ F0 H0 ρ vs xs, Stt X.K F0 H0 H σ ρ vs xs ∧ post X F0 H0 vs xs (fun b ρ' => ∀ H', Stt X.K F0 H0 H' σ ρ' vs xs → Q b H') (f ρ)
def tA (X : Cx) (f : DEnv → R (List Val)) : TA := fun σ H Q => ∃ F0 H0 ρ vs xs, Stt X.K F0 H0 H σ ρ vs xs ∧ post X F0 H0 vs xs (fun ys ρ' => ∀ H' ws, ws.length = ys.length → Stt X.K F0 H0 H' σ ρ' (ws ++ vs) (ys ++ xs) → Q ws H') (f ρ)
def fpost (X : Cx) (F0 H0 : Hp) (vs : List V) (xs : List Val) (D : Ends) : Fl → Prop
  | .nx ρ => ∀ σ' H', Stt X.K F0 H0 H' σ' ρ vs xs → D.nx σ' H'
  | .rt x ρ => ∀ σ' H' v, Stt X.K F0 H0 H' σ' ρ (v :: vs) (x :: xs) → D.rt v H'
  | .bk ρ => ∀ σ' H', Stt X.K F0 H0 H' σ' ρ vs xs → D.bk σ' H'
  | .ct ρ => ∀ σ' H', Stt X.K F0 H0 H' σ' ρ vs xs → D.ct σ' H'
  | .exc e ρ => exOk X F0 H0 e ρ vs xs
  | .bad => False
def tS (X : Cx) (f : DEnv → Fl) : TS := fun D σ H => ∃ F0 H0 ρ vs xs, Stt X.K F0 H0 H σ ρ vs xs ∧ fpost X F0 H0 vs xs D (f ρ)
def DE (X : Cx) (e : Expr) (f : DEnv → R Val) : Prop := PE X e (tE X f)
def DT (X : Cx) (e : Expr) (f : DEnv → R Bool) : Prop := PT X e (tT X f)
def DA (X : Cx) (es : List Expr) (f : DEnv → R (List Val)) : Prop := PA X es (tA X f)
def DS (X : Cx) (s : Stmt) (f : DEnv → Fl) : Prop := PS X s (tS X f)
def DSs (X : Cx) (s : List Stmt) (f : DEnv → Fl) : Prop := PSs X s (tS X f)
section
variable {X : Cx}
theorem PE.imp {e : Expr} {t t' : TE} (h : PE X e t) (k : ∀ σ H Q, t' σ H Q → t σ H Q) : PE X e t' := ⟨fun pins s σ H Q I q => h.run pins s σ H Q I (k σ H Q q)⟩
theorem PT.imp {e : Expr} {t t' : TT} (h : PT X e t) (k : ∀ σ H Q, t' σ H Q → t σ H Q) : PT X e t' := ⟨fun pins s σ H Q I q => h.run pins s σ H Q I (k σ H Q q)⟩
theorem PW.imp {e : Expr} {t t' : TT} (h : PW X e t) (k : ∀ σ H Q, t' σ H Q → t σ H Q) : PW X e t' := ⟨fun w pins s σ H Q I q => h.run w pins s σ H Q I (k σ H Q q)⟩
theorem PA.imp {e : List Expr} {t t' : TA} (h : PA X e t) (k : ∀ σ H Q, t' σ H Q → t σ H Q) : PA X e t' := ⟨fun p pins s σ H Q I q => h.run p pins s σ H Q I (k σ H Q q)⟩
theorem PS.imp {e : Stmt} {t t' : TS} (h : PS X e t) (k : ∀ D σ H, t' D σ H → t D σ H) : PS X e t' := ⟨fun pins s σ H D I q => h.run pins s σ H D I (k D σ H q)⟩
theorem PSs.imp {e : List Stmt} {t t' : TS} (h : PSs X e t) (k : ∀ D σ H, t' D σ H → t D σ H) : PSs X e t' := ⟨fun pins s σ H D I q => h.run pins s σ H D I (k D σ H q)⟩
end

/-! ### expressions -/
def liftO (o : Option Val) (ρ : DEnv) : R Val := match o with
  | some x => .ok x ρ
  | none => .bad
@[simp] theorem liftO_some (x : Val) (ρ : DEnv) : liftO (some x) ρ = .ok x ρ := id rfl
@[simp] theorem liftO_none (ρ : DEnv) : liftO none ρ = .bad := id rfl
def getV : Option (Option Val) → Option Val
  | some (some x) => some x
  | _ => none
def sVar (i : Nat) : DEnv → R Val := fun ρ => match getV ρ[i]? with
  | some (.sh d) => .ok (.sh d) ρ
  | some x => .ok (.sh x.fz) (ρ.set i (some (.sh x.fz)))
  | none => .bad
def sC (d : D) : DEnv → R Val := fun ρ => .ok (.sh d) ρ
def sOp (g : D → D → Option Val) (a b : DEnv → R Val) : DEnv → R Val := fun ρ => (a ρ).bind fun x ρ1 => (b ρ1).bind fun y ρ2 => liftO (g x.fz y.fz) ρ2
def sUn (g : D → Option Val) (a : DEnv → R Val) : DEnv → R Val := fun ρ => (a ρ).bind fun x ρ1 => liftO (g x.fz) ρ1
def sNil : DEnv → R (List Val) := fun ρ => .ok [] ρ
def sCons (a : DEnv → R Val) (r : DEnv → R (List Val)) : DEnv → R (List Val) := fun ρ => (a ρ).bind fun x ρ1 => (r ρ1).bind fun ys ρ2 => .ok (x :: ys) ρ2
section
variable {X : Cx} {a b e : Expr} {fa fb f : DEnv → R Val} {pos : Pos}
theorem getV_some {o : Option (Option Val)} {x : Val} (h : getV o = some x) : o = some (some x) := by
  match o, h with
  | some (some y), h => rw [Option.some.inj h]
theorem de_var {i : Nat} {x : Str} (h : PE X (.Name x pos) (tVar i)) : DE X (.Name x pos) (sVar i) := by
  refine PE.imp h fun σ H Q ⟨F0, H0, ρ, vs, xs, s, q⟩ => ?_
  unfold sVar at q
  cases e : getV ρ[i]? with
  | none => rw [e] at q; exact q.elim
  | some y =>
    rw [e] at q
    obtain ⟨v, k1, k2⟩ := s.read (getV_some e)
    refine ⟨v, k1, ?_⟩
    cases y with
    | sh d =>
      rw [Val.fz, set_same' (getV_some e)] at k2
      exact q H v k2
    | lst ys => exact q H v k2
    | tup ys => exact q H v k2
    | dic b ds => exact q H v k2
    | obj _ _ _ => exact q H v k2
    | «at» _ _ => exact q H v k2
    | dcv _ _ => exact q H v k2
where
  set_same' {ρ : DEnv} {i : Nat} {v : Val} (h : ρ[i]? = some (some v)) : ρ.set i (some v) = ρ := by
    refine List.ext_getElem? fun j => ?_
    by_cases hj : i = j
    · subst hj
      rw [List.getElem?_set_self (List.getElem?_eq_some_iff.mp h).1, h]
    · rw [List.getElem?_set_ne hj]
theorem de_c {v : V} {d : D} (h : PE X e (tC v)) (a : ∀ F, At X.K F v d) : DE X e (sC d) :=
  PE.imp h fun σ H Q ⟨F0, H0, ρ, vs, xs, s, q⟩ => q H v (s.scal a)
theorem de_int {i j} : DE X (.Constant (.int i) j pos) (sC (.int i)) := de_c pe_int fun _ => .int i
theorem de_bl {b j} : DE X (.Constant (.bool b) j pos) (sC (.bl b)) := de_c pe_bl fun _ => .bl b
theorem de_non {j} : DE X (.Constant .none j pos) (sC .non) := de_c pe_non fun _ => .non
theorem de_str {x j} : DE X (.Constant (.str x) j pos) (sC (.str x)) := de_c pe_str fun _ => .str x
/-- an operator on data -/
def OpD (X : Cx) (r : R2) (g : D → D → Option Val) : Prop := ∀ F0 H0 H σ ρ vs xs v w d e Q, Stt X.K F0 H0 H σ ρ (w :: v :: vs) (.sh e :: .sh d :: xs) →
  (∃ x, g d e = some x ∧ ∀ H' u, Stt X.K F0 H0 H' σ ρ (u :: vs) (x :: xs) → Q u H') → r v w H Q
theorem Stt.fz2 {K : PySem.W.Frag} {F0 H0 H : Hp} {σ : St} {ρ : DEnv} {vs : List V} {xs : List Val} {v w : V} {x y : Val} (h : Stt K F0 H0 H σ ρ (w :: v :: vs) (y :: x :: xs)) : Stt K F0 H0 H σ ρ (w :: v :: vs) (.sh y.fz :: .sh x.fz :: xs) :=
  Stt.fzs (as := [w, v]) (bs := [y, x]) rfl h
theorem tE_op {r : R2} {g : D → D → Option Val} (hg : OpD X r g) {σ : St} {H : Hp} {Q : VK} (h : tE X (sOp g fa fb) σ H Q) : tOp r (tE X fa) (tE X fb) σ H Q := by
  obtain ⟨F0, H0, ρ, vs, xs, s, q⟩ := h
  refine ⟨F0, H0, ρ, vs, xs, s, (post_bind q).imp (fun x ρ1 q1 H1 v s1 => ?_) fun _ _ z => z⟩
  refine ⟨F0, H0, ρ1, _, _, s1, (post_bind q1).imp (fun y ρ2 q2 H2 w s2 => ?_) fun _ _ z => z.more⟩
  refine hg F0 H0 H2 σ ρ2 vs xs v w x.fz y.fz Q s2.fz2 ?_
  cases e : g x.fz y.fz with
  | none => rw [e] at q2; exact q2.elim
  | some z => rw [e] at q2; exact ⟨z, rfl, q2⟩
theorem de_op {op : Operator} {r : R2} {g : D → D → Option Val} (ho : OpR X (binaryOp op) r) (hg : OpD X r g) (ha : DE X a fa) (hb : DE X b fb) : DE X (.BinOp a op b pos) (sOp g fa fb) :=
  PE.imp (pe_op ho ha hb) fun σ H Q h => tE_op hg h
theorem de_cmp {op : CmpOp} {r : R2} {g : D → D → Option Val} (ho : OpR X (compareOp op) r) (hg : OpD X r g) (ha : DE X a fa) (hb : DE X b fb) (hm : behindInMarks op b = false) : DE X (.Compare a [op] [b] pos) (sOp g fa fb) :=
  PE.imp (pe_cmpR ho ha hb hm) fun σ H Q h => tE_op hg h
theorem de_ix {r : R2} {g : D → D → Option Val} (ho : IxR X r) (hg : OpD X r g) (ha : DE X a fa) (hb : DE X b fb) (hs : PlainIx b) : DE X (.Subscript a b pos) (sOp g fa fb) :=
  PE.imp (pe_ix ho ha hb hs) fun σ H Q h => tE_op hg h
def UnD (X : Cx) (r : V → Hp → VK → Prop) (g : D → Option Val) : Prop := ∀ F0 H0 H σ ρ vs xs v d Q, Stt X.K F0 H0 H σ ρ (v :: vs) (.sh d :: xs) →
  (∃ x, g d = some x ∧ ∀ H' u, Stt X.K F0 H0 H' σ ρ (u :: vs) (x :: xs) → Q u H') → r v H Q
theorem de_un {op : UnaryOp} {r : V → Hp → VK → Prop} {g : D → Option Val} (ho : UnR X (unaryOp op) r) (hg : UnD X r g) (ha : DE X a fa) : DE X (.UnaryOp op a pos) (sUn g fa) :=
  PE.imp (pe_un ho ha) fun σ H Q ⟨F0, H0, ρ, vs, xs, s, q⟩ => by
    refine ⟨F0, H0, ρ, vs, xs, s, (post_bind q).imp (fun x ρ1 q1 H1 v s1 => ?_) fun _ _ z => z⟩
    refine hg F0 H0 H1 σ ρ1 vs xs v x.fz Q s1.fz ?_
    cases e : g x.fz with
    | none => rw [e] at q1; exact q1.elim
    | some z => rw [e] at q1; exact ⟨z, rfl, q1⟩

/-! ### arguments, displays -/
theorem da_nil : DA X [] sNil := PA.imp pa_nil fun σ H Q ⟨F0, H0, ρ, vs, xs, s, q⟩ => q H [] rfl s
theorem da_cons {es : List Expr} {fs : DEnv → R (List Val)} (ha : DE X e fa) (hr : DA X es fs) (hs : starEach (e :: es) X.env = (false, eval e X.env) :: starEach es X.env := by rfl) : DA X (e :: es) (sCons fa fs) :=
  PA.imp (pa_cons ha hr hs) fun σ H Q ⟨F0, H0, ρ, vs, xs, s, q⟩ => by
    refine ⟨F0, H0, ρ, vs, xs, s, (post_bind q).imp (fun x ρ1 q1 H1 v s1 => ?_) fun _ _ z => z⟩
    refine ⟨F0, H0, ρ1, _, _, s1, (post_bind q1).imp (fun ys ρ2 q2 H2 ws hl s2 => ?_) fun _ _ z => z.more⟩
    exact q2 H2 (v :: ws) (by simp [hl]) (Stt.turn hl s2)
/-- a tuple: data where all in it is -/
def shs : List Val → Option (List D)
  | [] => some []
  | .sh d :: xs => match shs xs with
    | some ds => some (d :: ds)
    | none => none
  | _ :: _ => none
theorem shs_map : ∀ {xs : List Val} {ds : List D}, shs xs = some ds → xs = ds.map .sh
  | [], ds, h => by cases h; rfl
  | .sh d :: xs, ds, h => by
    unfold shs at h
    cases e : shs xs with
    | none => rw [e] at h; cases h
    | some es => rw [e] at h; cases h; rw [shs_map e]; rfl
  | .lst _ :: _, _, h => by cases h
  | .tup _ :: _, _, h => by cases h
def mkT (xs : List Val) : Val := match shs xs with
  | some ds => .sh (.tup ds)
  | none => .tup xs
def sTup (fs : DEnv → R (List Val)) : DEnv → R Val := fun ρ => (fs ρ).bind fun xs ρ1 => if xs.length ≤ 1000 then .ok (mkT xs) ρ1 else .bad
def sLst (fs : DEnv → R (List Val)) : DEnv → R Val := fun ρ => (fs ρ).bind fun xs ρ1 => if xs.length ≤ 1000 then .ok (.lst xs) ρ1 else .bad
end
section
variable {K : PySem.W.Frag} {F0 F1 H0 H H' : Hp} {σ σ' : St} {ρ : DEnv} {vs as ws : List V} {xs bs ys : List Val} {v : V} {x : Val} {d : D} {i : Nat}
theorem Stt.newTupO {p : Addr} (hl : as.length = bs.length) (h : Stt K F0 H0 H σ ρ (as ++ vs) (bs ++ xs)) (np : H p = none) : Stt K F0 H0 (upd H p (.tup as)) σ ρ (.ref p :: vs) (.tup bs :: xs) := by
  obtain ⟨F, f, g, h1, h2, h3, h4, h5, h6, h7, h8⟩ := h
  have nF : F p = none := h3.free np
  have n0 : H0 p = none := h2.free np
  have kp : ∀ b, H b ≠ none → b ≠ p := fun b z e => by subst e; exact z np
  have h5' : Sl K F (upd H p (.tup as)) σ ρ f := Sl.mono (Same.refl F) h5 fun b hb => ⟨(Sl.no h5 b hb).1, upd_ne (kp b (Sl.no h5 b hb).2)⟩
  have h6' : Owns K F (upd H p (.tup as)) (as ++ vs) (bs ++ xs) g := Owns.mono (Same.refl F) _ _ _ h6 fun b hb => ⟨(Owns.no _ _ _ h6 b hb).1, upd_ne (kp b (Owns.no _ _ _ h6 b hb).2)⟩
  obtain ⟨g1, g2, a1, a2, s1, s2⟩ := Owns.split hl h6'
  have s : Sb ((g1 ++ g2) ++ f) (g ++ f) := s1.app (.refl f)
  have np' : p ∉ (g1 ++ g2) ++ f := fun z => by
    rcases List.mem_append.mp (s.1 p z) with z | z
    · exact (Owns.no _ _ _ h6 p z).2 np
    · exact (Sl.no h5 p z).2 np
  refine ⟨F, f, (p :: g1) ++ g2, h1, fun b u e => by rw [upd_ne (ne_of_none e n0)]; exact h2 _ _ e, fun b u e => by rw [upd_ne (ne_of_none e nF)]; exact h3 _ _ e, h4, h5', .cons (.tup nF upd_same a1) a2, nodup_new (s.2 h7) np', fun b hb => ?_⟩
  rcases List.mem_cons.mp hb with e | hb
  · subst e; exact n0
  · exact h8 b (s.1 b hb)
theorem Stt.newT {p : Addr} (hl : as.length = bs.length) (h : Stt K F0 H0 H σ ρ (as ++ vs) (bs ++ xs)) (np : H p = none) : Stt K F0 H0 (upd H p (.tup as)) σ ρ (.ref p :: vs) (mkT bs :: xs) := by
  unfold mkT
  cases e : shs bs with
  | none => exact h.newTupO hl np
  | some ds =>
    have q := shs_map e
    subst q
    exact h.newTup (by simpa using hl) np
end
section
variable {X : Cx} {es : List Expr} {fs : DEnv → R (List Val)} {pos : Pos}
theorem small_of {n : Nat} (h : n ≤ 1000) : n ≤ sizeLine := Nat.le_of_lt (small1000 h)
theorem de_tup {k} (h : DA X es fs) : DE X (.Tuple es k pos) (sTup fs) :=
  PE.imp (pe_tup h) fun σ H Q ⟨F0, H0, ρ, vs, xs, s, q⟩ => by
    refine ⟨F0, H0, ρ, vs, xs, s, (post_bind q).imp (fun ys ρ1 q1 H1 ws hl s1 => ?_) fun _ _ z => z⟩
    split at q1
    · rename_i hz
      exact ⟨by rw [hl]; exact small_of hz, fun p np => q1 _ _ (s1.newT hl np)⟩
    · exact q1.elim
theorem de_lst (h : DA X es fs) : DE X (.List es pos) (sLst fs) :=
  PE.imp (pe_lst h) fun σ H Q ⟨F0, H0, ρ, vs, xs, s, q⟩ => by
    refine ⟨F0, H0, ρ, vs, xs, s, (post_bind q).imp (fun ys ρ1 q1 H1 ws hl s1 => ?_) fun _ _ z => z⟩
    split at q1
    · rename_i hz
      exact ⟨by rw [hl]; exact small_of hz, fun p np => q1 _ _ (s1.newLst hl np)⟩
    · exact q1.elim
end

/-! ### tests -/
def asB : D → Option Bool
  | .bl b => some b
  | _ => none
def liftB (o : Option Bool) (ρ : DEnv) : R Bool := match o with
  | some x => .ok x ρ
  | none => .bad
@[simp] theorem liftB_some (x : Bool) (ρ : DEnv) : liftB (some x) ρ = .ok x ρ := id rfl
@[simp] theorem liftB_none (ρ : DEnv) : liftB none ρ = .bad := id rfl
def sTst (f : DEnv → R Val) : DEnv → R Bool := fun ρ => (f ρ).bind fun x ρ1 => liftB (asB x.fz) ρ1
def sAnd (f g : DEnv → R Bool) : DEnv → R Bool := fun ρ => (f ρ).bind fun b ρ1 => if b = true then g ρ1 else .ok false ρ1
def sOr (f g : DEnv → R Bool) : DEnv → R Bool := fun ρ => (f ρ).bind fun b ρ1 => if b = true then .ok true ρ1 else g ρ1
def sNot (f : DEnv → R Bool) : DEnv → R Bool := fun ρ => (f ρ).bind fun b ρ1 => .ok (!b) ρ1
def sOfT (f : DEnv → R Bool) : DEnv → R Val := fun ρ => (f ρ).bind fun b ρ1 => .ok (.sh (.bl b)) ρ1
def sIfE (c : DEnv → R Bool) (f g : DEnv → R Val) : DEnv → R Val := fun ρ => (c ρ).bind fun b ρ1 => if b = true then f ρ1 else g ρ1
section
variable {X : Cx} {a b c e : Expr} {rest : List Expr} {fa fb f : DEnv → R Val} {ta tb tc : DEnv → R Bool} {pos : Pos}
theorem at_bl {K : PySem.W.Frag} {F0 H0 H : Hp} {σ : St} {ρ : DEnv} {vs : List V} {xs : List Val} {v : V} {x : Val} {b : Bool} (h : Stt K F0 H0 H σ ρ (v :: vs) (x :: xs)) (e : asB x.fz = some b) : v = .bl b := by
  have q := h.fz
  obtain ⟨F, _, hA, _⟩ := Stt.reads (as := [v]) (ds := [x.fz]) rfl q
  cases hA with
  | cons a _ =>
    match hx : x.fz, e, a with
    | .bl b', e, .bl _ => rw [Option.some.inj e]
theorem tB_of {f : DEnv → R Val} {σ : St} {H : Hp} {Q : Bool → Hp → Prop} (h : tT X (sTst f) σ H Q) : tE X f σ H (fun x H1 => ∃ k, x = .bl k ∧ Q k H1) := by
  obtain ⟨F0, H0, ρ, vs, xs, s, q⟩ := h
  refine ⟨F0, H0, ρ, vs, xs, s, (post_bind q).imp (fun x ρ1 q1 H1 v s1 => ?_) fun _ _ z => z⟩
  cases e : asB x.fz with
  | none => rw [e] at q1; exact q1.elim
  | some b =>
    rw [e] at q1
    exact ⟨b, at_bl s1 e, q1 _ s1.pop⟩
theorem dt_val (h : DE X e f) (he : ∀ whole, isTrue e X.env whole = (do let v ← whole; standAt e.pos; holding [v] (truthy v)) := by intro _; rfl) : DT X e (sTst f) :=
  PT.imp (pt_val h he) fun σ H Q h => tB_of h
theorem dt_cmp {op : CmpOp} {r : R2} {g : D → D → Option Val} (ho : OpR X (compareOp op) r) (hg : OpD X r g) (ha : DE X a fa) (hb : DE X b fb) (hm : behindInMarks op b = false) : DT X (.Compare a [op] [b] pos) (sTst (sOp g fa fb)) :=
  PT.imp (pt_cmpR ho ha hb hm) fun σ H Q h => by
    obtain ⟨F0, H0, ρ, vs, xs, s, q⟩ := tB_of h
    exact tE_op hg ⟨F0, H0, ρ, vs, xs, s, q⟩
theorem dt_not (h : DT X a ta) : DT X (.UnaryOp .Not a pos) (sNot ta) :=
  PT.imp (pt_not h) fun σ H Q ⟨F0, H0, ρ, vs, xs, s, q⟩ => ⟨F0, H0, ρ, vs, xs, s, (post_bind q).imp (fun b ρ1 q1 H1 s1 => q1 H1 s1) fun _ _ z => z⟩
/-- and, or as tests -/
def DW (X : Cx) (e : Expr) (f : DEnv → R Bool) : Prop := PW X e (tT X f)
theorem dw_and1 (h : DT X a ta) : DW X (.BoolOp .And [a] pos) ta := pw_and1 h
theorem dw_or1 (h : DT X a ta) : DW X (.BoolOp .Or [a] pos) ta := pw_or1 h
theorem dw_and (ha : DT X a ta) (hb : DW X (.BoolOp .And (b :: rest) pos) tb) : DW X (.BoolOp .And (a :: b :: rest) pos) (sAnd ta tb) :=
  PW.imp (pw_and ha hb) fun σ H Q ⟨F0, H0, ρ, vs, xs, s, q⟩ => ⟨F0, H0, ρ, vs, xs, s, (post_bind q).imp (fun b ρ1 q1 H1 s1 => by
    cases b with
    | true => rw [if_pos rfl] at q1 ⊢; exact ⟨F0, H0, ρ1, vs, xs, s1, q1⟩
    | false => rw [if_neg Bool.false_ne_true] at q1 ⊢; exact q1 H1 s1) fun _ _ z => z⟩
theorem dw_or (ha : DT X a ta) (hb : DW X (.BoolOp .Or (b :: rest) pos) tb) : DW X (.BoolOp .Or (a :: b :: rest) pos) (sOr ta tb) :=
  PW.imp (pw_or ha hb) fun σ H Q ⟨F0, H0, ρ, vs, xs, s, q⟩ => ⟨F0, H0, ρ, vs, xs, s, (post_bind q).imp (fun b ρ1 q1 H1 s1 => by
    cases b with
    | true => rw [if_pos rfl] at q1 ⊢; exact q1 H1 s1
    | false => rw [if_neg Bool.false_ne_true] at q1 ⊢; exact ⟨F0, H0, ρ1, vs, xs, s1, q1⟩) fun _ _ z => z⟩
theorem dt_w (h : DW X e ta) : DT X e ta := PW.pt h
/-- and, or, not as values of truths -/
def sAndV (f : DEnv → R Val) (g : DEnv → R Val) : DEnv → R Val := fun ρ => (f ρ).bind fun x ρ1 => (liftB (asB x.fz) ρ1).bind fun b ρ2 => if b = true then g ρ2 else .ok (.sh (.bl false)) ρ2
def sOrV (f : DEnv → R Val) (g : DEnv → R Val) : DEnv → R Val := fun ρ => (f ρ).bind fun x ρ1 => (liftB (asB x.fz) ρ1).bind fun b ρ2 => if b = true then .ok (.sh (.bl true)) ρ2 else g ρ2
def sNotV (f : DEnv → R Val) : DEnv → R Val := fun ρ => (f ρ).bind fun x ρ1 => (liftB (asB x.fz) ρ1).bind fun b ρ2 => .ok (.sh (.bl (!b))) ρ2
theorem de_one {op} (h : DE X a f) : DE X (.BoolOp op [a] pos) f := pe_one h
theorem de_and (ha : DE X a fa) (hb : DE X (.BoolOp .And (b :: rest) pos) fb) : DE X (.BoolOp .And (a :: b :: rest) pos) (sAndV fa fb) :=
  PE.imp (pe_and ha hb) fun σ H Q ⟨F0, H0, ρ, vs, xs, s, q⟩ => by
    refine ⟨F0, H0, ρ, vs, xs, s, (post_bind q).imp (fun x ρ1 q1 H1 v s1 => ?_) fun _ _ z => z⟩
    cases e : asB x.fz with
    | none => rw [e] at q1; exact q1.elim
    | some k =>
      rw [e] at q1
      refine ⟨k, at_bl s1 e, ?_⟩
      cases k with
      | true => rw [if_pos rfl]; exact ⟨F0, H0, ρ1, vs, xs, s1.pop, q1⟩
      | false => rw [if_neg Bool.false_ne_true]; exact q1 H1 _ (s1.pop.scal fun _ => .bl false)
theorem de_or (ha : DE X a fa) (hb : DE X (.BoolOp .Or (b :: rest) pos) fb) : DE X (.BoolOp .Or (a :: b :: rest) pos) (sOrV fa fb) :=
  PE.imp (pe_or ha hb) fun σ H Q ⟨F0, H0, ρ, vs, xs, s, q⟩ => by
    refine ⟨F0, H0, ρ, vs, xs, s, (post_bind q).imp (fun x ρ1 q1 H1 v s1 => ?_) fun _ _ z => z⟩
    cases e : asB x.fz with
    | none => rw [e] at q1; exact q1.elim
    | some k =>
      rw [e] at q1
      refine ⟨k, at_bl s1 e, ?_⟩
      cases k with
      | false => rw [if_neg Bool.false_ne_true]; exact ⟨F0, H0, ρ1, vs, xs, s1.pop, q1⟩
      | true => rw [if_pos rfl]; exact q1 H1 _ (s1.pop.scal fun _ => .bl true)
theorem de_not (ha : DE X a fa) : DE X (.UnaryOp .Not a pos) (sNotV fa) :=
  PE.imp (pe_not ha) fun σ H Q ⟨F0, H0, ρ, vs, xs, s, q⟩ => by
    refine ⟨F0, H0, ρ, vs, xs, s, (post_bind q).imp (fun x ρ1 q1 H1 v s1 => ?_) fun _ _ z => z⟩
    cases e : asB x.fz with
    | none => rw [e] at q1; exact q1.elim
    | some k =>
      rw [e] at q1
      exact ⟨k, at_bl s1 e, q1 H1 _ (s1.pop.scal fun _ => .bl _)⟩
theorem de_ifE (hc : DT X c tc) (ha : DE X a fa) (hb : DE X b fb) : DE X (.IfExp c a b pos) (sIfE tc fa fb) :=
  PE.imp (pe_ifExp hc ha hb) fun σ H Q ⟨F0, H0, ρ, vs, xs, s, q⟩ => by
    refine ⟨F0, H0, ρ, vs, xs, s, (post_bind q).imp (fun b ρ1 q1 H1 s1 => ?_) fun _ _ z => z⟩
    cases b with
    | true => rw [if_pos rfl] at q1 ⊢; exact ⟨F0, H0, ρ1, vs, xs, s1, q1⟩
    | false => rw [if_neg Bool.false_ne_true] at q1 ⊢; exact ⟨F0, H0, ρ1, vs, xs, s1, q1⟩
end

/-! ### statements -/
def sSkip : DEnv → Fl := fun ρ => .nx ρ
def Fl.seq : Fl → (DEnv → Fl) → Fl
  | .nx ρ, k => k ρ
  | r, _ => r
@[simp] theorem Fl.seq_nx (ρ : DEnv) (k : DEnv → Fl) : (Fl.nx ρ).seq k = k ρ := id rfl
@[simp] theorem Fl.seq_rt (x : Val) (ρ : DEnv) (k : DEnv → Fl) : (Fl.rt x ρ).seq k = .rt x ρ := id rfl
@[simp] theorem Fl.seq_bk (ρ : DEnv) (k : DEnv → Fl) : (Fl.bk ρ).seq k = .bk ρ := id rfl
@[simp] theorem Fl.seq_ct (ρ : DEnv) (k : DEnv → Fl) : (Fl.ct ρ).seq k = .ct ρ := id rfl
@[simp] theorem Fl.seq_exc (e : DExn) (ρ : DEnv) (k : DEnv → Fl) : (Fl.exc e ρ).seq k = .exc e ρ := id rfl
@[simp] theorem Fl.seq_bad (k : DEnv → Fl) : Fl.bad.seq k = .bad := id rfl
def sSeq (s t : DEnv → Fl) : DEnv → Fl := fun ρ => (s ρ).seq t
def sSet (i : Nat) (f : DEnv → R Val) : DEnv → Fl := fun ρ => (f ρ).fl fun x ρ1 => if i < ρ1.length then .nx (ρ1.set i (some x)) else .bad
def sRet (f : DEnv → R Val) : DEnv → Fl := fun ρ => (f ρ).fl fun x ρ1 => .rt x ρ1
def sDo (f : DEnv → R Val) : DEnv → Fl := fun ρ => (f ρ).fl fun _ ρ1 => .nx ρ1
def sIf (c : DEnv → R Bool) (s t : DEnv → Fl) : DEnv → Fl := fun ρ => (c ρ).fl fun b ρ1 => if b = true then s ρ1 else t ρ1
def sBrk : DEnv → Fl := fun ρ => .bk ρ
def sCnt : DEnv → Fl := fun ρ => .ct ρ
theorem post_fl {α : Type} {X : Cx} {F0 H0 : Hp} {vs : List V} {xs : List Val} {D : Ends} {r : R α} {k : α → DEnv → Fl} (h : fpost X F0 H0 vs xs D (r.fl k)) : post X F0 H0 vs xs (fun a ρ => fpost X F0 H0 vs xs D (k a ρ)) r := by
  cases r <;> exact h
section
variable {X : Cx} {e c : Expr} {f : DEnv → R Val} {tc : DEnv → R Bool} {st : Stmt} {rest sa sb : List Stmt} {s t : DEnv → Fl} {pos : Pos}
theorem dss_nil : DSs X [] sSkip := PSs.imp pss_nil fun D σ H ⟨F0, H0, ρ, vs, xs, s, q⟩ => q σ H s
theorem dss_one (h : DS X st s) : DSs X [st] s := pss_one h
theorem dss_cons (h1 : DS X st s) (h2 : DSs X rest t) : DSs X (st :: rest) (sSeq s t) :=
  PSs.imp (pss_cons h1 h2) fun D σ H ⟨F0, H0, ρ, vs, xs, h, q⟩ => by
    refine ⟨F0, H0, ρ, vs, xs, h, ?_⟩
    unfold sSeq at q
    cases e : s ρ with
    | nx ρ' =>
      rw [e] at q
      exact fun σ' H' h' => ⟨F0, H0, ρ', vs, xs, h', q⟩
    | rt x ρ' => rw [e] at q; exact q
    | bk ρ' => rw [e] at q; exact q
    | ct ρ' => rw [e] at q; exact q
    | exc x ρ' => rw [e] at q; exact q
    | bad => rw [e] at q; exact q
theorem ds_set {i : Nat} {x : Str} {pos' : Pos} (hN : X.N.Nodup) (hi : X.N[i]? = some x) (hx : Loc X.env.scope x) (he : DE X e f) (hs : swapsWith e (some (.Name x pos')) pos.line X.env = pure false := by rfl) (hf : X.fn x = true ∨ X.env.scope.names.lookup x = some .local := by first | exact .inl rfl | exact .inr rfl | assumption) :
    DS X (.Assign [.Name x pos'] e pos) (sSet i f) :=
  PS.imp (ps_set hN hi hx he hs hf) fun D σ H ⟨F0, H0, ρ, vs, xs, s, q⟩ => by
    refine ⟨F0, H0, ρ, vs, xs, s, (post_fl q).imp (fun x ρ1 q1 H1 v s1 => ?_) fun _ _ z => z⟩
    split at q1
    · exact q1 _ _ (s1.store (by assumption))
    · exact q1.elim
theorem ds_ret (he : DE X e f) : DS X (.Return (some e) pos) (sRet f) :=
  PS.imp (ps_ret he) fun D σ H ⟨F0, H0, ρ, vs, xs, s, q⟩ => ⟨F0, H0, ρ, vs, xs, s, (post_fl q).imp (fun x ρ1 q1 H1 v s1 => q1 σ H1 v s1) fun _ _ z => z⟩
theorem ds_do (he : DE X e f) (hs : swapsWith e none pos.line X.env = pure false := by rfl) : DS X (.Expr e pos) (sDo f) :=
  PS.imp (ps_expr he hs) fun D σ H ⟨F0, H0, ρ, vs, xs, s, q⟩ => ⟨F0, H0, ρ, vs, xs, s, (post_fl q).imp (fun x ρ1 q1 H1 v s1 => q1 σ H1 s1.pop) fun _ _ z => z⟩
theorem ds_if (hc : DT X c tc) (ha : DSs X sa s) (hb : DSs X sb t) : DS X (.If c sa sb pos) (sIf tc s t) :=
  PS.imp (ps_if hc ha hb) fun D σ H ⟨F0, H0, ρ, vs, xs, h, q⟩ => by
    refine ⟨F0, H0, ρ, vs, xs, h, (post_fl q).imp (fun b ρ1 q1 H1 s1 => ?_) fun _ _ z => z⟩
    cases b with
    | true => rw [if_pos rfl] at q1 ⊢; exact ⟨F0, H0, ρ1, vs, xs, s1, q1⟩
    | false => rw [if_neg Bool.false_ne_true] at q1 ⊢; exact ⟨F0, H0, ρ1, vs, xs, s1, q1⟩
theorem ds_brk : DS X (.Break pos) sBrk := PS.imp ps_break fun D σ H ⟨F0, H0, ρ, vs, xs, s, q⟩ => q σ H s
theorem ds_cnt : DS X (.Continue pos) sCnt := PS.imp ps_continue fun D σ H ⟨F0, H0, ρ, vs, xs, s, q⟩ => q σ H s
theorem ds_pass : DS X (.Pass pos) sSkip := PS.imp ps_pass fun D σ H ⟨F0, H0, ρ, vs, xs, s, q⟩ => q σ H s
/-- some slots are forgotten -/
def forget : List Nat → DEnv → DEnv
  | [], ρ => ρ
  | i :: is, ρ => forget is (ρ.set i none)
theorem Stt.forget {K : PySem.W.Frag} {F0 H0 H : Hp} {σ : St} {vs : List V} {xs : List Val} : ∀ {is : List Nat} {ρ : DEnv}, Stt K F0 H0 H σ ρ vs xs → Stt K F0 H0 H σ (DL.forget is ρ) vs xs
  | [], _, h => h
  | i :: is, _, h => Stt.forget (is := is) (h.drop i)
end
end DL

/-! DLd: targets, loops, comprehensions, defs and their calls. -/
namespace DL
open PySem PySem.Spec L2

section
variable {K : PySem.W.Frag} {F0 F1 H0 H H' : Hp} {σ σ' : St} {ρ : DEnv} {vs as ws : List V} {xs bs ys : List Val} {v : V} {x : Val} {d : D} {i : Nat}
theorem Stt.sub (h : Stt K F0 H0 H σ ρ vs xs) : Same F0 H := by
  obtain ⟨F, f, g, h1, h2, h3, _⟩ := h
  exact h1.trans h3
theorem Stt.sub0 (h : Stt K F0 H0 H σ ρ vs xs) : Same H0 H := by
  obtain ⟨F, f, g, h1, h2, _⟩ := h
  exact h2
theorem Stt.push0 (h : Stt K F0 H0 H σ ρ vs xs) (a : At K F0 v d) : Stt K F0 H0 H σ ρ (v :: vs) (.sh d :: xs) := by
  obtain ⟨F, f, g, h1, h2, h3, h4, h5, h6, h7, h8⟩ := h
  exact ⟨F, f, g, h1, h2, h3, h4, h5, .cons (f := []) (.sh (At.mono h1 _ _ a)) h6, h7, h8⟩
end

/-! ### targets -/
/-- is: the slots that it writes -/
def tG (X : Cx) (is : List Nat) (g : D → DEnv → Option DEnv) : TG := fun v σ H Q => ∃ F0 H0 ρ vs xs d, Stt X.K F0 H0 H σ ρ (v :: vs) (.sh d :: xs) ∧ ∃ ρ', g d ρ = some ρ' ∧
  ∀ σ' H', σ'.length = σ.length → (∀ j, j ∉ is → σ'[j]? = σ[j]?) → Stt X.K F0 H0 H' σ' ρ' vs xs → Q σ' H'
def tGs (X : Cx) (is : List Nat) (g : List D → DEnv → Option DEnv) : TGs := fun ws σ H Q => ∃ F0 H0 ρ vs xs ds, Stt X.K F0 H0 H σ ρ (ws ++ vs) (ds.map .sh ++ xs) ∧ ws.length = ds.length ∧ ∃ ρ', g ds ρ = some ρ' ∧
  ∀ σ' H', σ'.length = σ.length → (∀ j, j ∉ is → σ'[j]? = σ[j]?) → Stt X.K F0 H0 H' σ' ρ' vs xs → Q σ' H'
def DG (X : Cx) (e : Expr) (is : List Nat) (g : D → DEnv → Option DEnv) : Prop := PG X e (tG X is g)
def DGs (X : Cx) (e : List Expr) (is : List Nat) (g : List D → DEnv → Option DEnv) : Prop := PGs X e (tGs X is g)
theorem PG.imp {X : Cx} {e : Expr} {t t' : TG} (h : PG X e t) (k : ∀ v σ H Q, t' v σ H Q → t v σ H Q) : PG X e t' := ⟨fun pins s σ H v u Q I r q => h.run pins s σ H v u Q I r (k v σ H Q q)⟩
theorem PGs.imp {X : Cx} {e : List Expr} {t t' : TGs} (h : PGs X e t) (k : ∀ v σ H Q, t' v σ H Q → t v σ H Q) : PGs X e t' := ⟨fun pins s σ H v u Q I r q => h.run pins s σ H v u Q I r (k v σ H Q q)⟩
theorem PG.or {X : Cx} {e : Expr} {t t' : TG} (h : PG X e t) (h' : PG X e t') : PG X e (fun v σ H Q => t v σ H Q ∨ t' v σ H Q) := ⟨fun pins s σ H v u Q I r q => q.elim (h.run pins s σ H v u Q I r) (h'.run pins s σ H v u Q I r)⟩
def kName (i : Nat) : D → DEnv → Option DEnv := fun d ρ => if i < ρ.length then some (ρ.set i (some (.sh d))) else none
def kNil : List D → DEnv → Option DEnv
  | [], ρ => some ρ
  | _ :: _, _ => none
def kCons (g : D → DEnv → Option DEnv) (r : List D → DEnv → Option DEnv) : List D → DEnv → Option DEnv
  | [], _ => none
  | d :: ds, ρ => (g d ρ).bind fun ρ1 => r ds ρ1
/-- a tuple's or a list's items -/
def kSeq (n : Nat) (r : List D → DEnv → Option DEnv) : D → DEnv → Option DEnv
  | .tup ds, ρ => if ds.length = n then r ds ρ else none
  | .lst ds, ρ => if ds.length = n then r ds ρ else none
  | .scr ds, ρ => if ds.length = n then r ds ρ else none
  | _, _ => none
section
variable {X : Cx} {pos : Pos} {is js : List Nat} {g : D → DEnv → Option DEnv} {gs : List D → DEnv → Option DEnv}
theorem dg_name {i : Nat} {x : Str} (hN : X.N.Nodup) (hi : X.N[i]? = some x) (hx : Loc X.env.scope x) (hf : X.fn x = true ∨ X.env.scope.names.lookup x = some .local := by first | exact .inl rfl | exact .inr rfl | assumption) : DG X (.Name x pos) [i] (kName i) :=
  PG.imp (pg_name hN hi hx hf) fun v σ H Q ⟨F0, H0, ρ, vs, xs, d, s, ρ', e, q⟩ => by
    unfold kName at e
    split at e
    · cases e
      exact q _ _ (by simp) (fun j hj => List.getElem?_set_ne (fun z => hj (by simp [z]))) (s.store (by assumption))
    · cases e
theorem dgs_nil : DGs X [] [] kNil :=
  PGs.imp pgs_nil fun ws σ H Q ⟨F0, H0, ρ, vs, xs, ds, s, hl, ρ', e, q⟩ => by
    match ds, e with
    | [], e =>
      cases e
      obtain rfl : ws = [] := List.length_eq_zero_iff.mp hl
      exact ⟨rfl, q σ H rfl (fun _ _ => rfl) s⟩
theorem dgs_cons {e : Expr} {es : List Expr} (h1 : DG X e is g) (h2 : DGs X es js gs)
    (hs : (assignEach (e :: es) X.env).map (·.2) = assign e X.env :: (assignEach es X.env).map (·.2) := by rfl) : DGs X (e :: es) (is ++ js) (kCons g gs) :=
  PGs.imp (pgs_cons h1 h2 hs) fun ws σ H Q ⟨F0, H0, ρ, vs, xs, ds, s, hl, ρ', e, q⟩ => by
    match ds, e with
    | d :: ds, e =>
      match ws, hl with
      | w :: ws, hl =>
        have hl : ws.length = ds.length := by simpa using hl
        unfold kCons at e
        obtain ⟨ρ1, e1, e2⟩ := Option.bind_eq_some_iff.mp e
        have s : Stt X.K F0 H0 H σ ρ (w :: (ws ++ vs)) (.sh d :: (ds.map .sh ++ xs)) := s
        refine ⟨w, ws, rfl, F0, H0, ρ, ws ++ vs, ds.map .sh ++ xs, d, s, ρ1, e1, fun σ1 H1 l1 k1 s1 => ?_⟩
        exact ⟨F0, H0, ρ1, vs, xs, ds, s1, hl, ρ', e2, fun σ2 H2 l2 k2 s2 => q σ2 H2 (l2.trans l1) (fun j hj => (k2 j fun z => hj (List.mem_append_right _ z)).trans (k1 j fun z => hj (List.mem_append_left _ z))) s2⟩
theorem dg_seq {es : List Expr} {k : Nat} {n : Nat} (hc : X.calm = true) (h : DGs X es is gs)
    (hn : (assignEach es X.env).length = n := by rfl) (hst : (assignEach es X.env).findIdx? (·.1) = none := by rfl) : DG X (.Tuple es k pos) is (kSeq n gs) :=
  PG.imp (PG.or (pg_tup hc h hn hst) (pg_lst hc h hn hst)) fun v σ H Q ⟨F0, H0, ρ, vs, xs, d, s, ρ', e, q⟩ => by
    obtain ⟨F, hF, hA, tell⟩ := Stt.reads (as := [v]) (ds := [d]) rfl s
    cases hA with
    | cons a _ =>
      cases a with
      | @tup _ us ds hs ha =>
        have e' : (if ds.length = n then gs ds ρ else none) = some ρ' := e
        by_cases hd : ds.length = n
        · rw [if_pos hd] at e'
          exact .inl ⟨_, us, rfl, sameT hF hs, ha.length.trans hd, F0, H0, ρ, vs, xs, ds, tell us ds ha, ha.length, ρ', e', q⟩
        · rw [if_neg hd] at e'; cases e'
      | @lst _ us ds hs ha =>
        have e' : (if ds.length = n then gs ds ρ else none) = some ρ' := e
        by_cases hd : ds.length = n
        · rw [if_pos hd] at e'
          exact .inr ⟨_, us, rfl, hF.seq (.of hs), ha.length.trans hd, F0, H0, ρ, vs, xs, ds, tell us ds ha, ha.length, ρ', e', q⟩
        · rw [if_neg hd] at e'; cases e'
      | @scr _ us ds hs ha =>
        have e' : (if ds.length = n then gs ds ρ else none) = some ρ' := e
        by_cases hd : ds.length = n
        · rw [if_pos hd] at e'
          exact .inr ⟨_, us, rfl, hF.seq hs, ha.length.trans hd, F0, H0, ρ, vs, xs, ds, tell us ds ha, ha.length, ρ', e', q⟩
        · rw [if_neg hd] at e'; cases e'
      | junk => cases e
      | exn _ _ _ _ => cases e
      | dct _ _ _ _ => cases e
      | non => cases e
      | bl _ => cases e
      | int _ => cases e
      | str _ => cases e
      | ins _ _ _ => cases e
def sAsg (f : DEnv → R Val) (g : D → DEnv → Option DEnv) : DEnv → Fl := fun ρ => (f ρ).fl fun x ρ1 => match g x.fz ρ1 with
  | some ρ2 => .nx ρ2
  | none => .bad
theorem ds_asg {tg e : Expr} {f : DEnv → R Val} (he : DE X e f) (hg : DG X tg is g) (hs : swapsWithSole [tg] e pos.line X.env = pure false := by rfl) (hw : swappedStores [tg] e X.env = pure none := by rfl)
    (h1 : (assignEach [tg] X.env).map (·.2) = [assign tg X.env] := by rfl) : DS X (.Assign [tg] e pos) (sAsg f g) :=
  PS.imp (ps_asg he hg hs hw h1) fun D σ H ⟨F0, H0, ρ, vs, xs, s, q⟩ => by
    refine ⟨F0, H0, ρ, vs, xs, s, (post_fl q).imp (fun x ρ1 q1 H1 v s1 => ?_) fun _ _ z => z⟩
    refine ⟨F0, H0, ρ1, vs, xs, x.fz, s1.fz, ?_⟩
    cases e : g x.fz ρ1 with
    | none => rw [e] at q1; exact q1.elim
    | some ρ2 => rw [e] at q1; exact ⟨ρ2, rfl, fun σ' H' _ _ s2 => q1 σ' H' s2⟩
/-- a, b = x, y with names: no tuple is made -/
def sPar (i j : Nat) (f : DEnv → R (List Val)) : DEnv → Fl := fun ρ => (f ρ).fl fun xs ρ1 => match xs with
  | [x, y] => if i < ρ1.length ∧ j < ρ1.length ∧ i ≠ j then .nx ((ρ1.set i (some x)).set j (some y)) else .bad
  | _ => .bad
theorem ds_par {i j : Nat} {x y : Str} {a b : Expr} {f : DEnv → R (List Val)} {px py pt : Pos} {kt k2 pt2} (hc : X.calm = true) (hN : X.N.Nodup) (hi : X.N[i]? = some x) (hj : X.N[j]? = some y) (hij : i ≠ j)
    (hx : X.env.scope.names.lookup x = some .local) (hy : X.env.scope.names.lookup y = some .local) (ha : DA X [a, b] f)
    (hw : swappedStores [.Tuple [.Name x px, .Name y py] kt pt] (.Tuple [a, b] k2 pt2) X.env = pure (some [x, y]))
    (hs : swapsWithSole [.Tuple [.Name x px, .Name y py] kt pt] (.Tuple [a, b] k2 pt2) pos.line X.env = pure false := by rfl) :
    DS X (.Assign [.Tuple [.Name x px, .Name y py] kt pt] (.Tuple [a, b] k2 pt2) pos) (sPar i j f) :=
  PS.imp (ps_par hc hN hi hj hij hx hy ha hw hs) fun D σ H ⟨F0, H0, ρ, vs, xs, s, q⟩ => by
    refine ⟨F0, H0, ρ, vs, xs, s, (post_fl q).imp (fun ys ρ1 q1 H1 ws hl s1 => ?_) fun _ _ z => z⟩
    match ys, ws, hl, s1, q1 with
    | [x, y], [v, w], _, s1, q1 =>
      dsimp only at q1
      split at q1
      · rename_i hh
        refine ⟨v, w, rfl, q1 _ _ ?_⟩
        have s2 := Stt.store (i := j) (Stt.turn (as := [v]) (bs := [x]) rfl s1) hh.2.1
        have s3 := Stt.store (i := i) s2 (by simpa using hh.1)
        rw [List.set_comm _ _ hij.symm, List.set_comm _ _ hij.symm] at s3
        exact s3
      · exact q1.elim
end

/-! ### what is walked -/
def Walk (K : PySem.W.Frag) (F0 : Hp) (J : It) (ds : List D) : Prop := ∀ i H, Same F0 H →
  (∀ d, ds[i]? = some d → J.go i H ∧ ∀ x H', J.yld i H x H' → ∀ H0 σ ρ vs xs, Stt K F0 H0 H σ ρ vs xs → Stt K F0 H0 H' σ ρ (x :: vs) (.sh d :: xs)) ∧ (ds.length ≤ i → J.stop i H)
def tI (X : Cx) (f : DEnv → R (List D)) : TI := fun σ H RR => ∃ F0 H0 ρ vs xs, Stt X.K F0 H0 H σ ρ vs xs ∧ post X F0 H0 vs xs (fun ds ρ' => ∀ F1 H' J, Stt X.K F1 H0 H' σ ρ' vs xs →
  (∀ H' σ' ρ' vs' xs', Stt X.K F1 H0 H' σ' ρ' vs' xs' → Stt X.K F0 H0 H' σ' ρ' vs' xs') → Walk X.K F1 J ds → RR J H') (f ρ)
def DI (X : Cx) (tg e : Expr) (f : DEnv → R (List D)) : Prop := PI X tg e (tI X f)
theorem PI.imp {X : Cx} {tg e : Expr} {t t' : TI} (h : PI X tg e t) (k : ∀ σ H Q, t' σ H Q → t σ H Q) : PI X tg e t' := ⟨fun pins s σ H Q I q => h.run pins s σ H Q I (k σ H Q q)⟩
theorem PI.or {X : Cx} {tg e : Expr} {t t' : TI} (h : PI X tg e t) (h' : PI X tg e t') : PI X tg e (fun σ H Q => t σ H Q ∨ t' σ H Q) := ⟨fun pins s σ H Q I q => q.elim (h.run pins s σ H Q I) (h'.run pins s σ H Q I)⟩
def itemsD : D → Option (List D)
  | .lst ds => some ds
  | .scr ds => some ds
  | .tup ds => some ds
  | _ => none
def liftL (o : Option (List D)) (ρ : DEnv) : R (List D) := match o with
  | some x => .ok x ρ
  | none => .bad
@[simp] theorem liftL_some (x : List D) (ρ : DEnv) : liftL (some x) ρ = .ok x ρ := id rfl
@[simp] theorem liftL_none (ρ : DEnv) : liftL none ρ = .bad := id rfl
theorem walk_list {K : PySem.W.Frag} {F0 : Hp} {a : Addr} {ws : List V} {ds : List D} (hs : SqL K F0 a ws) (ha : Ats K F0 ws ds) : Walk K F0 (Itl K a) ds := fun i H hF => by
  refine ⟨fun d e => ?_, fun hi => ⟨ws, hF.seq hs, by rw [ha.length]; exact hi⟩⟩
  obtain ⟨v, e1, e2⟩ := ha.get e
  refine ⟨⟨ws, v, hF.seq hs, e1⟩, fun x H' hy H0 σ ρ vs xs s => ?_⟩
  obtain ⟨rfl, k⟩ := hy
  have q := (k ws (hF.seq hs)).symm.trans e1
  cases q
  exact s.push0 e2
theorem walk_tup {K : PySem.W.Frag} {F0 : Hp} {a : Addr} {ws : List V} {ds : List D} (hs : TupAt K F0 a ws) (ha : Ats K F0 ws ds) : Walk K F0 (Itt K a) ds := fun i H hF => by
  refine ⟨fun d e => ?_, fun hi => ⟨ws, sameT hF hs, by rw [ha.length]; exact hi⟩⟩
  obtain ⟨v, e1, e2⟩ := ha.get e
  refine ⟨⟨ws, v, sameT hF hs, e1⟩, fun x H' hy H0 σ ρ vs xs s => ?_⟩
  obtain ⟨rfl, k⟩ := hy
  have q := (k ws (sameT hF hs)).symm.trans e1
  cases q
  exact s.push0 e2
def sItems (f : DEnv → R Val) : DEnv → R (List D) := fun ρ => (f ρ).bind fun x ρ1 => liftL (itemsD x.fz) ρ1
theorem PE_Q {X : Cx} {f : DEnv → R Val} {σ : St} {H : Hp} {Q Q' : VK} (h : tE X f σ H Q) (k : ∀ v H, Q v H → Q' v H) : tE X f σ H Q' := by
  obtain ⟨F0, H0, ρ, vs, xs, s, q⟩ := h
  exact ⟨F0, H0, ρ, vs, xs, s, q.imp (fun x ρ1 q1 H' v s1 => k _ _ (q1 H' v s1)) fun _ _ z => z⟩
/-- a list or a tuple is walked -/
theorem pi_seq {X : Cx} {tg l : Expr} {tl : TE} (hl : PE X l tl) : PI X tg l (fun σ H R => tl σ H fun x H1 => ∃ a, x = .ref a ∧ (((∃ xs, SqL X.K H1 a xs) ∧ R (Itl X.K a) H1) ∨ ((∃ xs, SqT X.K H1 a xs) ∧ R (Itt X.K a) H1))) := by
  refine ⟨fun pins s σ H R I h => ?_⟩
  refine thn (hl.run pins s σ H _ I h) fun v s1 ⟨x, H1, I1, r1, q1⟩ => ?_
  obtain ⟨a, e, q⟩ := q1
  subst e
  cases r1
  rcases q with ⟨⟨xs, hq⟩, q⟩ | ⟨⟨xs, hq⟩, q⟩
  · obtain ⟨its, rv, p, hz⟩ := I1.list hq
    refine wpAny_pyIter_list p.isList ?_
    refine ⟨s1.heap.objs.size, [s1.heap.objs.size], _, _, H1, rfl, I1.kept (t' := s1.toks) fun b o e => Heap.get?_push_of_some _ e, turn_list a _, ⟨_, Heap.get?_push_size _ rfl, rfl, rfl⟩, fun b hb => ?_, q⟩
    have e : b = s1.heap.objs.size := by simpa using hb
    subst e
    exact I1.fpOk (Nat.le_refl _) (I1.hok.fresh (Nat.le_refl _))
  · obtain ⟨its, rv, p, hz⟩ := I1.tuple hq
    refine wpAny_pyIter_tuple p ?_
    refine ⟨s1.heap.objs.size, [s1.heap.objs.size], _, _, H1, rfl, I1.kept (t' := s1.toks) fun b o e => Heap.get?_push_of_some _ e, turn_tuple a _, ⟨_, Heap.get?_push_size _ rfl, rfl, rfl⟩, fun b hb => ?_, q⟩
    have e : b = s1.heap.objs.size := by simpa using hb
    subst e
    exact I1.fpOk (Nat.le_refl _) (I1.hok.fresh (Nat.le_refl _))
theorem di_seq {X : Cx} {tg l : Expr} {f : DEnv → R Val} (hl : DE X l f) : DI X tg l (sItems f) :=
  PI.imp (pi_seq hl) fun σ H RR ⟨F0, H0, ρ, vs, xs, s, q⟩ => by
    refine ⟨F0, H0, ρ, vs, xs, s, (post_bind q).imp (fun x ρ1 q1 H1 v s1 => ?_) fun _ _ z => z⟩
    obtain ⟨F, hF, hA, s2, rb⟩ := Stt.rebaseAt (as := [v]) (ds := [x.fz]) rfl s1.fz
    cases hA with
    | cons a _ =>
      cases e : itemsD x.fz with
      | none => rw [e] at q1; exact q1.elim
      | some ds =>
        rw [e] at q1
        match hx : x.fz, e, a with
        | .lst es, e, .lst (vs := us) hs ha =>
          cases e
          exact ⟨_, rfl, .inl ⟨⟨us, hF.seq (.of hs)⟩, q1 F H1 _ s2 rb (walk_list (.of hs) ha)⟩⟩
        | .scr es, e, .scr (vs := us) hs ha =>
          cases e
          exact ⟨_, rfl, .inl ⟨⟨us, hF.seq hs⟩, q1 F H1 _ s2 rb (walk_list hs ha)⟩⟩
        | .tup es, e, .tup (vs := us) hs ha =>
          cases e
          exact ⟨_, rfl, .inr ⟨⟨us, sameT hF hs⟩, q1 F H1 _ s2 rb (walk_tup hs ha)⟩⟩
/-! ranges -/
def rangeL (i : Int) (n : Nat) : List D := (List.range n).map fun (k : Nat) => D.int (i + (k : Int))
theorem walk_range {K : PySem.W.Frag} {F0 : Hp} {i : Int} {n : Nat} : Walk K F0 (Itr i n) (rangeL i n) := fun j H hF => by
  refine ⟨fun d e => ?_, fun hi => (show n ≤ j by simpa [rangeL] using hi)⟩
  unfold rangeL at e
  rw [List.getElem?_map] at e
  cases e1 : (List.range n)[j]? with
  | none => rw [e1] at e; cases e
  | some k =>
    rw [e1] at e
    obtain ⟨h1, h2⟩ := List.getElem?_eq_some_iff.mp e1
    simp at h1 h2
    subst h2
    cases e
    refine ⟨h1, fun x H' hy H0 σ ρ vs xs s => ?_⟩
    obtain ⟨rfl, rfl⟩ := hy
    exact s.scal fun _ => .int _
def bnd62 (i : Int) : Bool := decide (-(2 ^ 62) ≤ i) && decide (i < 2 ^ 62)
def rng1 : List D → Option (List D)
  | [.int j] => if bnd62 j then some (rangeL 0 j.toNat) else none
  | _ => none
def rng2 : List D → Option (List D)
  | [.int i, .int j] => if bnd62 i && bnd62 j then some (rangeL i (j - i).toNat) else none
  | _ => none
theorem rng1_some {ds l : List D} (h : rng1 ds = some l) : ∃ j, ds = [.int j] ∧ bnd62 j = true ∧ l = rangeL 0 j.toNat := by
  unfold rng1 at h
  split at h
  · split at h
    · exact ⟨_, rfl, by assumption, (Option.some.inj h).symm⟩
    · cases h
  · cases h
theorem rng2_some {ds l : List D} (h : rng2 ds = some l) : ∃ i j, ds = [.int i, .int j] ∧ bnd62 i = true ∧ bnd62 j = true ∧ l = rangeL i (j - i).toNat := by
  unfold rng2 at h
  split at h
  · split at h
    · rename_i hb
      rw [Bool.and_eq_true] at hb
      exact ⟨_, _, rfl, hb.1, hb.2, (Option.some.inj h).symm⟩
    · cases h
  · cases h
def sRange (g : List D → Option (List D)) (f : DEnv → R (List Val)) : DEnv → R (List D) := fun ρ => (f ρ).bind fun xs ρ1 => liftL (g (fzs xs)) ρ1
theorem Stt.fzsP {K : PySem.W.Frag} {F0 H0 H : Hp} {σ : St} {ρ : DEnv} {vs as : List V} {xs bs : List Val} (hl : as.length = bs.length) (h : Stt K F0 H0 H σ ρ (as ++ vs) (bs ++ xs)) : as.length = (DL.fzs bs).length ∧ Stt K F0 H0 H σ ρ (as ++ vs) ((DL.fzs bs).map .sh ++ xs) :=
  ⟨by rw [fzs_map, List.length_map]; exact hl, Stt.fzs hl h⟩
theorem Stt.popN {K : PySem.W.Frag} {F0 H0 H : Hp} {σ : St} {ρ : DEnv} {vs : List V} {xs : List Val} : ∀ {as : List V} {bs : List Val}, as.length = bs.length → Stt K F0 H0 H σ ρ (as ++ vs) (bs ++ xs) → Stt K F0 H0 H σ ρ vs xs
  | [], [], _, h => h
  | _ :: _, _ :: _, hl, h => Stt.popN (by simpa using hl) h.pop
theorem bnd_of {i : Int} (h : bnd62 i = true) : -(2 ^ 62) ≤ i ∧ i < 2 ^ 62 := by
  unfold bnd62 at h
  simpa using h
theorem di_range1 {X : Cx} {tg a : Expr} {f : DEnv → R (List Val)} {p pos : Pos} (hg : Gl X "range") (hm : X.mg "range" = none) (ha : DA X [a] f) (hs : starEach [a] X.env = [(false, eval a X.env)] := by rfl) : DI X tg (.Call (.Name "range" p) [a] [] pos) (sRange rng1 f) :=
  PI.imp (pi_range1 hg hm ha hs) fun σ H RR ⟨F0, H0, ρ, vs, xs, s, q⟩ => by
    refine ⟨F0, H0, ρ, vs, xs, s, (post_bind q).imp (fun ys ρ1 q1 H1 ws hl s1 => ?_) fun _ _ z => z⟩
    obtain ⟨hl2, s2⟩ := s1.fzsP hl
    obtain ⟨F, hF, hA, s3, rb⟩ := Stt.rebaseAt hl2 s2
    cases e : rng1 (fzs ys) with
    | none => rw [e] at q1; exact q1.elim
    | some ds =>
      rw [e] at q1
      obtain ⟨j, ej, hb, rfl⟩ := rng1_some e
      rw [ej] at hA
      match ws, hA with
      | [_], .cons (.int _) .nil =>
        obtain ⟨b1, b2⟩ := bnd_of hb
        exact ⟨j, rfl, b1, b2, q1 F H1 _ s3 rb walk_range⟩
theorem di_range2 {X : Cx} {tg a b : Expr} {f : DEnv → R (List Val)} {p pos : Pos} (hg : Gl X "range") (hm : X.mg "range" = none) (ha : DA X [a, b] f) (hs : starEach [a, b] X.env = [(false, eval a X.env), (false, eval b X.env)] := by rfl) (hs2 : starEach [b] X.env = [(false, eval b X.env)] := by rfl) :
    DI X tg (.Call (.Name "range" p) [a, b] [] pos) (sRange rng2 f) :=
  PI.imp (pi_range2 hg hm ha hs hs2) fun σ H RR ⟨F0, H0, ρ, vs, xs, s, q⟩ => by
    refine ⟨F0, H0, ρ, vs, xs, s, (post_bind q).imp (fun ys ρ1 q1 H1 ws hl s1 => ?_) fun _ _ z => z⟩
    obtain ⟨hl2, s2⟩ := s1.fzsP hl
    obtain ⟨F, hF, hA, s3, rb⟩ := Stt.rebaseAt hl2 s2
    cases e : rng2 (fzs ys) with
    | none => rw [e] at q1; exact q1.elim
    | some ds =>
      rw [e] at q1
      obtain ⟨i, j, ej, hb, hb', rfl⟩ := rng2_some e
      rw [ej] at hA
      match ws, hA with
      | [_, _], .cons (.int _) (.cons (.int _) .nil) =>
        obtain ⟨b1, b2⟩ := bnd_of hb
        obtain ⟨b3, b4⟩ := bnd_of hb'
        exact ⟨i, j, rfl, ⟨b1, b2, b3, b4⟩, q1 F H1 _ s3 rb walk_range⟩

/-! ### for -/
def loop (g : D → DEnv → Option DEnv) (b : DEnv → Fl) (fg : List Nat) : List D → DEnv → Fl
  | [], ρ => .nx ρ
  | d :: ds, ρ => match g d ρ with
    | none => .bad
    | some ρ1 => match b ρ1 with
      | .nx ρ2 => loop g b fg ds (forget fg ρ2)
      | .ct ρ2 => loop g b fg ds (forget fg ρ2)
      | .bk ρ2 => .nx (forget fg ρ2)
      | .rt x ρ2 => .rt x ρ2
      | .exc e ρ2 => .exc e ρ2
      | .bad => .bad
def sFor (it : DEnv → R (List D)) (g : D → DEnv → Option DEnv) (b : DEnv → Fl) (fg : List Nat) : DEnv → Fl := fun ρ => (it ρ).fl fun ds ρ1 => loop g b fg ds (forget fg ρ1)
theorem exOk.base {X : Cx} {F0 F1 H0 : Hp} {e : DExn} {ρ : DEnv} {vs : List V} {xs : List Val} (rb : ∀ H' σ' ρ' vs' xs', Stt X.K F1 H0 H' σ' ρ' vs' xs' → Stt X.K F0 H0 H' σ' ρ' vs' xs') (h : exOk X F0 H0 e ρ vs xs) : exOk X F1 H0 e ρ vs xs :=
  fun σ' H' dx ves s hl hx => h σ' H' dx ves (rb _ _ _ _ _ s) hl hx
theorem fpost.base {X : Cx} {F0 F1 H0 : Hp} {D : Ends} {r : Fl} {vs : List V} {xs : List Val} (rb : ∀ H' σ' ρ' vs' xs', Stt X.K F1 H0 H' σ' ρ' vs' xs' → Stt X.K F0 H0 H' σ' ρ' vs' xs') (h : fpost X F0 H0 vs xs D r) : fpost X F1 H0 vs xs D r := by
  cases r with
  | nx ρ => exact fun σ' H' s => h σ' H' (rb _ _ _ _ _ s)
  | rt x ρ => exact fun σ' H' v s => h σ' H' v (rb _ _ _ _ _ s)
  | bk ρ => exact fun σ' H' s => h σ' H' (rb _ _ _ _ _ s)
  | ct ρ => exact fun σ' H' s => h σ' H' (rb _ _ _ _ _ s)
  | exc e ρ => exact exOk.base rb h
  | bad => exact h
section
variable {X : Cx} {tg iter : Expr} {body : List Stmt} {fi : DEnv → R (List D)} {g : D → DEnv → Option DEnv} {b : DEnv → Fl} {is : List Nat} {pos : Pos}
theorem ds_for (fg : List Nat) (hp : PassesOwn (model X.prog X.w) X.A X.env X.xe) (hc : X.calm = true) (hi : DI X tg iter fi) (hg : DG X tg is g) (hb : DSs X body b)
    (hs : ∀ x, foldedSetIterable iter X.env x = pure x := by intro _; rfl) : DS X (.For tg iter body [] pos) (sFor fi g b fg) :=
  PS.imp (ps_for hp hc hi hg hb hs) fun D σ H ⟨F0, H0, ρ, vs, xs, s, q⟩ => by
    refine ⟨F0, H0, ρ, vs, xs, s, (post_fl q).imp (fun ds ρ1 q1 F1 H1 J s1 rb wk => ?_) fun _ _ z => z⟩
    have q2 := fpost.base rb q1
    refine ⟨fun i m σ H => m = ds.length - i ∧ i ≤ ds.length ∧ ∃ ρ, Stt X.K F1 H0 H σ ρ vs xs ∧ fpost X F1 H0 vs xs D (loop g b fg (ds.drop i) ρ), ⟨_, rfl, Nat.zero_le _, _, s1.forget, q2⟩, ?_⟩
    rintro i m σ2 H2 ⟨rfl, hi, ρ2, s2, q3⟩
    obtain ⟨w1, w2⟩ := wk i H2 s2.sub
    by_cases hlt : i < ds.length
    · obtain ⟨go, yl⟩ := w1 ds[i] (List.getElem?_eq_getElem hlt)
      refine .inr ⟨go, fun σ' H' => ∃ ρ, Stt X.K F1 H0 H' σ' ρ vs xs ∧ fpost X F1 H0 vs xs D (loop g b fg (ds.drop (i + 1)) ρ), fun σ' H' ⟨ρ', s', q'⟩ => ⟨ds.length - (i + 1), by omega, rfl, hlt, ρ', s', q'⟩, fun x H' hy => ?_⟩
      have s3 := yl x H' hy H0 σ2 ρ2 vs xs s2
      rw [List.drop_eq_getElem_cons hlt] at q3
      unfold loop at q3
      cases e : g ds[i] ρ2 with
      | none => rw [e] at q3; exact q3.elim
      | some ρ3 =>
        rw [e] at q3
        refine ⟨F1, H0, ρ2, vs, xs, ds[i], s3, ρ3, e, fun σ4 H4 _ _ s4 => ⟨F1, H0, ρ3, vs, xs, s4, ?_⟩⟩
        cases e2 : b ρ3 with
        | nx ρ5 => simp only [e2] at q3; exact fun σ5 H5 s5 => ⟨_, s5.forget, q3⟩
        | ct ρ5 => simp only [e2] at q3; exact fun σ5 H5 s5 => ⟨_, s5.forget, q3⟩
        | bk ρ5 => simp only [e2] at q3; exact fun σ5 H5 s5 => q3 σ5 H5 s5.forget
        | rt y ρ5 => simp only [e2] at q3; exact q3
        | exc y ρ5 => simp only [e2] at q3; exact q3
        | bad => simp only [e2] at q3; exact q3.elim
    · have ei : i = ds.length := by omega
      subst ei
      rw [List.drop_length] at q3
      exact .inl ⟨w2 (Nat.le_refl _), q3 σ2 H2 s2⟩
end

/-! ### while -/
def whileN (c : DEnv → R Bool) (b : DEnv → Fl) (fg : List Nat) : Nat → DEnv → Fl
  | 0, _ => .bad
  | n + 1, ρ => match c ρ with
    | .ok true ρ1 => match b ρ1 with
      | .nx ρ2 => whileN c b fg n (forget fg ρ2)
      | .ct ρ2 => whileN c b fg n (forget fg ρ2)
      | .bk ρ2 => .nx (forget fg ρ2)
      | .rt x ρ2 => .rt x ρ2
      | .exc e ρ2 => .exc e ρ2
      | .bad => .bad
    | .ok false ρ1 => .nx ρ1
    | .exc e ρ1 => .exc e ρ1
    | .bad => .bad
theorem whileN_more (c : DEnv → R Bool) (b : DEnv → Fl) (fg : List Nat) : ∀ n ρ, whileN c b fg n ρ ≠ .bad → whileN c b fg (n + 1) ρ = whileN c b fg n ρ
  | 0, ρ, h => absurd rfl h
  | n + 1, ρ, h => by
    have ih := whileN_more c b fg n
    rw [whileN] at h
    show (match c ρ with
    | .ok true ρ1 => match b ρ1 with
      | .nx ρ2 => whileN c b fg (n + 1) (forget fg ρ2)
      | .ct ρ2 => whileN c b fg (n + 1) (forget fg ρ2)
      | .bk ρ2 => .nx (forget fg ρ2)
      | .rt x ρ2 => .rt x ρ2
      | .exc e ρ2 => .exc e ρ2
      | .bad => .bad
    | .ok false ρ1 => .nx ρ1
    | .exc e ρ1 => .exc e ρ1
    | .bad => .bad) = (match c ρ with
    | .ok true ρ1 => match b ρ1 with
      | .nx ρ2 => whileN c b fg n (forget fg ρ2)
      | .ct ρ2 => whileN c b fg n (forget fg ρ2)
      | .bk ρ2 => .nx (forget fg ρ2)
      | .rt x ρ2 => .rt x ρ2
      | .exc e ρ2 => .exc e ρ2
      | .bad => .bad
    | .ok false ρ1 => .nx ρ1
    | .exc e ρ1 => .exc e ρ1
    | .bad => .bad)
    cases e : c ρ with
    | ok t ρ1 =>
      rw [e] at h
      cases t with
      | true =>
        cases e2 : b ρ1 with
        | nx ρ2 => simp only [e2] at h ⊢; exact ih _ h
        | ct ρ2 => simp only [e2] at h ⊢; exact ih _ h
        | bk ρ2 => simp only [e2]
        | rt x ρ2 => simp only [e2]
        | exc x ρ2 => simp only [e2]
        | bad => simp only [e2]
      | false => rfl
    | exc e ρ1 => rfl
    | bad => rfl
theorem whileN_le (c : DEnv → R Bool) (b : DEnv → Fl) (fg : List Nat) {n m : Nat} {ρ : DEnv} (h : whileN c b fg n ρ ≠ .bad) (hm : n ≤ m) : whileN c b fg m ρ = whileN c b fg n ρ := by
  obtain ⟨k, rfl⟩ := Nat.exists_eq_add_of_le hm
  clear hm
  induction k with
  | zero => rfl
  | succ k ih => rw [← Nat.add_assoc, whileN_more c b fg (n + k) ρ (by rw [ih]; exact h), ih]
open Classical in
noncomputable def sWhile (c : DEnv → R Bool) (b : DEnv → Fl) (fg : List Nat) : DEnv → Fl := fun ρ => if h : ∃ n, whileN c b fg n (forget fg ρ) ≠ .bad then whileN c b fg h.choose (forget fg ρ) else .bad
theorem sWhile_eq {c : DEnv → R Bool} {b : DEnv → Fl} {fg : List Nat} {n : Nat} {ρ : DEnv} (h : whileN c b fg n (forget fg ρ) ≠ .bad) : sWhile c b fg ρ = whileN c b fg n (forget fg ρ) := by
  unfold sWhile
  have hx : ∃ n, whileN c b fg n (forget fg ρ) ≠ .bad := ⟨n, h⟩
  rw [dif_pos hx]
  rcases Nat.le_total n hx.choose with z | z
  · exact whileN_le c b fg h z
  · exact (whileN_le c b fg hx.choose_spec z).symm
section
variable {X : Cx} {ce : Expr} {body : List Stmt} {c : DEnv → R Bool} {b : DEnv → Fl} {pos : Pos}
theorem ds_while (fg : List Nat) (hp : PassesOwn (model X.prog X.w) X.A X.env X.xe) (hc : DT X ce c) (hb : DSs X body b) : DS X (.While ce body [] pos) (sWhile c b fg) :=
  PS.imp (ps_while hp hc hb) fun D σ H ⟨F0, H0, ρ, vs, xs, s, q⟩ => by
    obtain ⟨n, e⟩ : ∃ n, sWhile c b fg ρ = whileN c b fg n (forget fg ρ) := by
      unfold sWhile
      split
      · exact ⟨_, rfl⟩
      · exact ⟨0, rfl⟩
    rw [e] at q
    refine ⟨fun m σ H => ∃ ρ, Stt X.K F0 H0 H σ ρ vs xs ∧ fpost X F0 H0 vs xs D (whileN c b fg m ρ), ⟨n, _, s.forget, q⟩, ?_⟩
    rintro m σ1 H1 ⟨ρ1, s1, q1⟩
    cases m with
    | zero => exact q1.elim
    | succ m =>
      rw [whileN] at q1
      refine ⟨F0, H0, ρ1, vs, xs, s1, ?_⟩
      cases e1 : c ρ1 with
      | bad => rw [e1] at q1; exact q1
      | exc x ρ2 => rw [e1] at q1; exact q1
      | ok t ρ2 =>
        rw [e1] at q1
        intro H2 s2
        cases t with
        | false => rw [if_neg Bool.false_ne_true]; exact q1 σ1 H2 s2
        | true =>
          rw [if_pos rfl]
          refine ⟨fun σ' H' => ∃ ρ, Stt X.K F0 H0 H' σ' ρ vs xs ∧ fpost X F0 H0 vs xs D (whileN c b fg m ρ), fun σ' H' h => ⟨m, Nat.lt_succ_self _, h⟩, F0, H0, ρ2, vs, xs, s2, ?_⟩
          cases e2 : b ρ2 with
          | nx ρ5 => simp only [e2] at q1; exact fun σ5 H5 s5 => ⟨_, s5.forget, q1⟩
          | ct ρ5 => simp only [e2] at q1; exact fun σ5 H5 s5 => ⟨_, s5.forget, q1⟩
          | bk ρ5 => simp only [e2] at q1; exact fun σ5 H5 s5 => q1 σ5 H5 s5.forget
          | rt y ρ5 => simp only [e2] at q1; exact q1
          | exc y ρ5 => simp only [e2] at q1; exact q1
          | bad => simp only [e2] at q1; exact q1.elim
end

/-! ### comprehensions -/
def comp (g : D → DEnv → Option DEnv) (t : DEnv → R Bool) (f : DEnv → R Val) (own : List Nat) : List D → List Val → DEnv → R Val
  | [], acc, ρ => .ok (.lst acc) ρ
  | d :: ds, acc, ρ => match g d ρ with
    | none => .bad
    | some ρ1 => match t ρ1 with
      | .ok true ρ2 => match f ρ2 with
        | .ok x ρ3 => comp g t f own ds (acc ++ [x]) (forget own ρ3)
        | _ => .bad
      | .ok false ρ2 => comp g t f own ds acc (forget own ρ2)
      | _ => .bad
def sComp (it : DEnv → R (List D)) (g : D → DEnv → Option DEnv) (t : DEnv → R Bool) (f : DEnv → R Val) (own : List Nat) : DEnv → R Val := fun ρ => (it ρ).bind fun ds ρ1 => if ds.length ≤ 10000000 then comp g t f own ds [] (forget own ρ1) else .bad
def sYes : DEnv → R Bool := fun ρ => .ok true ρ
theorem forget_none : ∀ {is : List Nat} {ρ : DEnv} {i : Nat} {x : Val}, (forget is ρ)[i]? = some (some x) → i ∉ is ∧ ρ[i]? = some (some x)
  | [], _, _, _, h => ⟨by simp, h⟩
  | j :: is, ρ, i, x, h => by
    obtain ⟨h1, h2⟩ := forget_none (is := is) h
    by_cases e : j = i
    · subst e
      rw [List.getElem?_set] at h2
      split at h2
      · split at h2 <;> cases h2
      · rename_i z; exact absurd rfl z
    · rw [List.getElem?_set_ne e] at h2
      exact ⟨by simp only [List.mem_cons, not_or]; exact ⟨fun z => e z.symm, h1⟩, h2⟩
theorem wipe_out' {σ : St} {i : Nat} : ∀ {is : List Nat}, i ∉ is → (wipe σ is)[i]? = σ[i]?
  | [], _ => rfl
  | j :: is, h => by
    simp only [List.mem_cons, not_or] at h
    unfold wipe
    rw [List.getElem?_set_ne (fun z => h.1 z.symm)]
    exact wipe_out' h.2
theorem wipe_get {σ : St} {i : Nat} : ∀ {is : List Nat}, i ∈ is → i < σ.length → (wipe σ is)[i]? = some none
  | [], h, _ => by cases h
  | j :: is, h, hl => by
    unfold wipe
    by_cases e : j = i
    · subst e
      rw [List.getElem?_set_self (by rw [wipe_length]; exact hl)]
    · rw [List.getElem?_set_ne e]
      exact wipe_get ((List.mem_cons.mp h).resolve_left fun z => e z.symm) hl
theorem wipe_agree {σ σ' : St} {own : List Nat} (hl : σ'.length = σ.length) (k : ∀ j, j ∉ own → σ'[j]? = (wipe σ own)[j]?) : wipe σ' own = wipe σ own := by
  refine List.ext_getElem? fun j => ?_
  by_cases hj : j ∈ own
  · by_cases hlt : j < σ.length
    · rw [wipe_get hj hlt, wipe_get hj (by rw [hl]; exact hlt)]
    · rw [List.getElem?_eq_none (by rw [wipe_length, hl]; omega), List.getElem?_eq_none (by rw [wipe_length]; omega)]
  · rw [wipe_out' hj, k j hj]
/-- the slots agree where something is told -/
theorem Stt.agree {K : PySem.W.Frag} {F0 H0 H : Hp} {σ σ' : St} {ρ : DEnv} {vs : List V} {xs : List Val} {own : List Nat} (h : Stt K F0 H0 H σ' ρ vs xs) (hl : σ'.length = σ.length) (k : ∀ j, j ∉ own → σ'[j]? = σ[j]?) : Stt K F0 H0 H σ (DL.forget own ρ) vs xs :=
  (h.forget (is := own)).less hl.symm fun i v x e1 e2 => by
    obtain ⟨n, _⟩ := forget_none e2
    rw [← k i n]; exact e1
/-- no exception may come -/
def tEN (K : PySem.W.Frag) (f : DEnv → R Val) : TE := fun σ H Q => ∃ F0 H0 ρ vs xs, Stt K F0 H0 H σ ρ vs xs ∧ match f ρ with
  | .ok x ρ' => ∀ H' v, Stt K F0 H0 H' σ ρ' (v :: vs) (x :: xs) → Q v H'
  | _ => False
def tTN (K : PySem.W.Frag) (f : DEnv → R Bool) : TT := fun σ H Q => ∃ F0 H0 ρ vs xs, Stt K F0 H0 H σ ρ vs xs ∧ match f ρ with
  | .ok b ρ' => ∀ H', Stt K F0 H0 H' σ ρ' vs xs → Q b H'
  | _ => False
theorem tEN_tE {X : Cx} {f : DEnv → R Val} {σ : St} {H : Hp} {Q : VK} (h : tEN X.K f σ H Q) : tE X f σ H Q := by
  obtain ⟨F0, H0, ρ, vs, xs, s, q⟩ := h
  refine ⟨F0, H0, ρ, vs, xs, s, ?_⟩
  cases e : f ρ with
  | ok x ρ' => rw [e] at q; exact q
  | exc x ρ' => rw [e] at q; exact q.elim
  | bad => rw [e] at q; exact q
theorem tTN_tT {X : Cx} {f : DEnv → R Bool} {σ : St} {H : Hp} {Q : Bool → Hp → Prop} (h : tTN X.K f σ H Q) : tT X f σ H Q := by
  obtain ⟨F0, H0, ρ, vs, xs, s, q⟩ := h
  refine ⟨F0, H0, ρ, vs, xs, s, ?_⟩
  cases e : f ρ with
  | ok x ρ' => rw [e] at q; exact q
  | exc x ρ' => rw [e] at q; exact q.elim
  | bad => rw [e] at q; exact q
def DTs (X : Cx) (es : List Expr) (f : DEnv → R Bool) : Prop := PTs X es (tT X f)
theorem dts_nil {X : Cx} : DTs X [] sYes := ⟨fun pins s σ H Q I ⟨F0, H0, ρ, vs, xs, st, q⟩ => pts_nil.run pins s σ H Q I (q H st)⟩
theorem dts_one {X : Cx} {c : Expr} {f : DEnv → R Bool} (h : DT X c f) : DTs X [c] f := pts_one h
section
variable {X : Cx} {elt tg iter : Expr} {ifs : List Expr} {scope : Scope} {own : List (Str × Nat)} {pos spos py : Pos} {fi : DEnv → R (List D)} {g : D → DEnv → Option DEnv} {t : DEnv → R Bool} {f : DEnv → R Val} {is : List Nat}
theorem lc_read (hsub : ∀ j, j ∈ is → j ∈ own.map (·.2)) {σ : St} {H : Hp} {Q : VK} (hq : tE X (sComp fi g t f (own.map (·.2))) σ H Q) :
    tLc (tI X fi) (tG X is g) (tTN X.K t) (tEN X.K f) (own.map (·.2)) σ H Q := by
  obtain ⟨F0, H0, ρ, vs, xs, s, q⟩ := hq
  refine ⟨F0, H0, ρ, vs, xs, s, (post_bind q).imp (fun ds ρ1 q1 F1 H1 J s1 rb wk => ?_) fun _ _ z => z⟩
  intro L nL
  split at q1
  rotate_left
  · exact q1.elim
  rename_i hsz
  have big : ∀ n, n ≤ 10000000 → n < sizeLine := fun n h => by rw [sizeLine_eq]; omega
  refine ⟨fun i m H => m = ds.length - i ∧ i ≤ ds.length ∧ ∃ ρ acc, acc.length ≤ i ∧ Stt X.K F1 H0 H σ ρ (.ref L :: vs) (.lst acc :: xs) ∧ (∃ ρ0, ρ = forget (own.map (·.2)) ρ0) ∧ post X F0 H0 vs xs (fun x ρ' => ∀ H' v, Stt X.K F0 H0 H' σ ρ' (v :: vs) (x :: xs) → Q v H') (comp g t f (own.map (·.2)) (ds.drop i) acc ρ),
    ⟨_, rfl, Nat.zero_le _, _, [], Nat.le_refl _, Stt.newLst (as := []) (bs := []) rfl s1.forget nL, ⟨_, rfl⟩, q1⟩, ?_⟩
  rintro i m H2 ⟨rfl, hi, ρ2, acc, hacc, s2, ⟨ρ0, e0⟩, q2⟩
  obtain ⟨w1, w2⟩ := wk i H2 s2.sub
  by_cases hlt : i < ds.length
  · obtain ⟨go, yl⟩ := w1 ds[i] (List.getElem?_eq_getElem hlt)
    refine .inr ⟨go, fun H' => ∃ ρ acc, acc.length ≤ i + 1 ∧ Stt X.K F1 H0 H' σ ρ (.ref L :: vs) (.lst acc :: xs) ∧ (∃ ρ0, ρ = forget (own.map (·.2)) ρ0) ∧ post X F0 H0 vs xs (fun x ρ' => ∀ H' v, Stt X.K F0 H0 H' σ ρ' (v :: vs) (x :: xs) → Q v H') (comp g t f (own.map (·.2)) (ds.drop (i + 1)) acc ρ),
      fun H' h => ⟨ds.length - (i + 1), by omega, rfl, hlt, h⟩, fun x H' hy => ?_⟩
    have s3 := yl x H' hy H0 _ _ _ _ s2
    -- in the block
    have s4 : Stt X.K F1 H0 H' (wipe σ (own.map (·.2))) ρ2 (x :: .ref L :: vs) (.sh ds[i] :: .lst acc :: xs) := by
      refine s3.less (wipe_length _ _) fun j v y e1 e2 => ?_
      rw [e0] at e2
      rw [wipe_out' (forget_none e2).1]; exact e1
    rw [List.drop_eq_getElem_cons hlt] at q2
    unfold comp at q2
    cases e : g ds[i] ρ2 with
    | none => rw [e] at q2; exact q2.elim
    | some ρ3 =>
      simp only [e] at q2
      refine ⟨F1, H0, ρ2, _, _, ds[i], s4, ρ3, e, fun σ5 H5 l5 k5 s5 => ?_⟩
      rw [wipe_length] at l5
      have k5' : ∀ j, j ∉ own.map (·.2) → σ5[j]? = (wipe σ (own.map (·.2)))[j]? := fun j hj => k5 j fun z => hj (hsub j z)
      refine ⟨wipe_agree l5 k5', F1, H0, ρ3, _, _, s5, ?_⟩
      have k6 : ∀ j, j ∉ own.map (·.2) → σ5[j]? = σ[j]? := fun j hj => (k5' j hj).trans (wipe_out' hj)
      cases e2 : t ρ3 with
      | bad => simp only [e2] at q2; exact q2.elim
      | exc z ρ4 => simp only [e2] at q2; exact q2.elim
      | ok b ρ4 =>
        intro H6 s6
        cases b with
        | false =>
          simp only [e2] at q2
          rw [if_neg Bool.false_ne_true]
          exact ⟨_, acc, by omega, s6.agree l5 k6, ⟨_, rfl⟩, q2⟩
        | true =>
          simp only [e2] at q2
          rw [if_pos rfl]
          refine ⟨F1, H0, ρ4, _, _, s6, ?_⟩
          cases e3 : f ρ4 with
          | bad => simp only [e3] at q2; exact q2.elim
          | exc z ρ5 => simp only [e3] at q2; exact q2.elim
          | ok y ρ5 =>
            simp only [e3] at q2
            intro H7 v7 s7
            obtain ⟨p, ws, ep, h7, hl7, ed⟩ := Stt.editTop (as := [v7]) (bs := [y]) rfl s7
            cases ep
            refine ⟨ws, h7, big _ (by omega), _, acc ++ [y], by simp; omega, (ed (ws ++ [v7]) (acc ++ [y]) [] [] fun F H f hO => ⟨f, [], hO, .nil, by rw [List.append_nil]; exact .refl f⟩).agree l5 k6, ⟨_, rfl⟩, q2⟩
  · have ei : i = ds.length := by omega
    subst ei
    rw [List.drop_length] at q2
    exact .inl ⟨w2 (Nat.le_refl _), q2 H2 _ (rb _ _ _ _ _ s2)⟩
theorem de_comp (hc : X.calm = true) (hN : X.N.Nodup) (hi : DI X tg iter fi) (ok : BlkOk X.N X.env.scope scope own) {os : List Nat} (ho : own.map (·.2) = os) (hsub : ∀ j, j ∈ is → j ∈ os)
    (hg : ∀ (s : Shared) (H : Hp) (C : Addr) (cl : List (Str × Addr)) (fp : List Addr), DG (X.blk s H scope (compEnvC scope cl C X.env) fp) tg is g) (ht : ∀ (s : Shared) (H : Hp) (C : Addr) (cl : List (Str × Addr)) (fp : List Addr), DTs (X.blk s H scope (compEnvC scope cl C X.env) fp) ifs t)
    (he : ∀ (s : Shared) (H : Hp) (C : Addr) (cl : List (Str × Addr)) (fp : List Addr), DE (X.blk s H scope (compEnvC scope cl C X.env) fp) elt f) (hs : ∀ x, foldedSetIterable iter X.env x = pure x := by intro _; rfl) :
    DE X (.ListComp elt [⟨tg, iter, ifs, 0⟩] scope pos) (sComp fi g t f os) := by
  subst ho
  exact PE.imp (pe_lc (g := tG X is g) (tt := tTN X.K t) (te := tEN X.K f) hc hN hi ok hg (fun s H C cl fp => ⟨fun pins s' σ H' Q I q => (ht s H C cl fp).run pins s' σ H' Q I (tTN_tT q)⟩) (fun s H C cl fp => ⟨fun pins s' σ H' Q I q => (he s H C cl fp).run pins s' σ H' Q I (tEN_tE q)⟩) hs) fun σ H Q h => lc_read hsub h
theorem ds_setComp {i : Nat} {y : Str} (hc : X.calm = true) (hN : X.N.Nodup) (hy : X.N[i]? = some y) (hyl : X.env.scope.names.lookup y = some .local)
    (hsw : swapsWith (.ListComp elt [⟨tg, iter, ifs, 0⟩] scope pos) (some (.Name y py)) spos.line X.env = pure true) (hi : DI X tg iter fi) (ok : BlkOk X.N X.env.scope scope own) {os : List Nat} (ho : own.map (·.2) = os) (hsub : ∀ j, j ∈ is → j ∈ os)
    (hg : ∀ (s : Shared) (H : Hp) (C : Addr) (cl : List (Str × Addr)) (fp : List Addr), DG (X.blk s H scope (compEnvC scope cl C X.env) fp) tg is g) (ht : ∀ (s : Shared) (H : Hp) (C : Addr) (cl : List (Str × Addr)) (fp : List Addr), DTs (X.blk s H scope (compEnvC scope cl C X.env) fp) ifs t)
    (he : ∀ (s : Shared) (H : Hp) (C : Addr) (cl : List (Str × Addr)) (fp : List Addr), DE (X.blk s H scope (compEnvC scope cl C X.env) fp) elt f) (hs : ∀ x, foldedSetIterable iter X.env x = pure x := by intro _; rfl) :
    DS X (.Assign [.Name y py] (.ListComp elt [⟨tg, iter, ifs, 0⟩] scope pos) spos) (sSet i (sComp fi g t f os)) := by
  subst ho
  refine PS.imp (ps_setLc (g := tG X is g) (tt := tTN X.K t) (te := tEN X.K f) hc hN hy hyl hsw hi ok hg (fun s H C cl fp => ⟨fun pins s' σ H' Q I q => (ht s H C cl fp).run pins s' σ H' Q I (tTN_tT q)⟩) (fun s H C cl fp => ⟨fun pins s' σ H' Q I q => (he s H C cl fp).run pins s' σ H' Q I (tEN_tE q)⟩) hs) fun D σ H ⟨F0, H0, ρ, vs, xs, s, q⟩ => lc_read hsub ⟨F0, H0, ρ, vs, xs, s, (post_fl q).imp (fun x ρ1 q1 H1 v s1 => ?_) fun _ _ z => z⟩
  split at q1
  · exact q1 _ _ (s1.store (by assumption))
  · exact q1.elim
end
end DL

/-! DLe: operators, built-ins, what is one's own. -/
namespace DL
open PySem PySem.Spec L2

/-! ### several rules for one operator -/
def orG (g g' : D → D → Option Val) : D → D → Option Val := fun d e => match g d e with
  | some x => some x
  | none => g' d e
theorem OpD.or {X : Cx} {r r' : R2} {g g' : D → D → Option Val} (h : OpD X r g) (h' : OpD X r' g') : OpD X (fun x y H Q => r x y H Q ∨ r' x y H Q) (orG g g') := fun F0 H0 H σ ρ vs xs v w d e Q s ⟨x, hx, q⟩ => by
  unfold orG at hx
  cases e1 : g d e with
  | some y =>
    rw [e1] at hx
    cases hx
    exact .inl (h F0 H0 H σ ρ vs xs v w d e Q s ⟨_, e1, q⟩)
  | none =>
    rw [e1] at hx
    exact .inr (h' F0 H0 H σ ρ vs xs v w d e Q s ⟨x, hx, q⟩)
section
variable {X : Cx} {K : PySem.W.Frag} {F0 H0 H : Hp} {σ : St} {ρ : DEnv} {vs : List V} {xs : List Val} {v w : V} {d e : D}
theorem Stt.two (s : Stt K F0 H0 H σ ρ (w :: v :: vs) (.sh e :: .sh d :: xs)) : ∃ F, Same F H ∧ At K F v d ∧ At K F w e ∧ (∀ as' ds', Ats K F as' ds' → Stt K F0 H0 H σ ρ (as' ++ vs) (ds'.map .sh ++ xs)) := by
  obtain ⟨F, hF, hA, t⟩ := Stt.reads (as := [w, v]) (ds := [e, d]) rfl s
  cases hA with
  | cons a b =>
    cases b with
    | cons b _ => exact ⟨F, hF, b, a, t⟩
theorem Stt.oneT (s : Stt K F0 H0 H σ ρ (v :: vs) (.sh d :: xs)) : ∃ F, Same F H ∧ At K F v d ∧ (∀ as' ds', Ats K F as' ds' → Stt K F0 H0 H σ ρ (as' ++ vs) (ds'.map .sh ++ xs)) := by
  obtain ⟨F, hF, hA, t⟩ := Stt.reads (as := [v]) (ds := [d]) rfl s
  cases hA with
  | cons a _ => exact ⟨F, hF, a, t⟩
/-- two ints -/
theorem opd_I {C : Int → Int → Prop} [∀ i j, Decidable (C i j)] {f : Int → Int → D} {fv : Int → Int → V} (hf : ∀ F i j, At X.K F (fv i j) (f i j)) :
    OpD X (rI C fv) (fun d e => match d, e with
      | .int i, .int j => if C i j then some (.sh (f i j)) else none
      | _, _ => none) := fun F0 H0 H σ ρ vs xs v w d e Q s ⟨x, hx, q⟩ => by
  obtain ⟨F, hF, a, b, t⟩ := s.two
  match d, e, a, b, hx with
  | .int i, .int j, .int _, .int _, hx =>
    dsimp only at hx
    by_cases hc : C i j
    · rw [if_pos hc] at hx
      cases hx
      exact ⟨i, j, rfl, rfl, hc, q H _ (s.pop.pop.scal fun F => hf F i j)⟩
    · rw [if_neg hc] at hx; cases hx
theorem opd_I0 {f : Int → Int → D} {fv : Int → Int → V} (hf : ∀ F i j, At X.K F (fv i j) (f i j)) :
    OpD X (rI0 fv) (fun d e => match d, e with
      | .int i, .int j => some (.sh (f i j))
      | _, _ => none) := fun F0 H0 H σ ρ vs xs v w d e Q s ⟨x, hx, q⟩ => by
  obtain ⟨F, hF, a, b, t⟩ := s.two
  match d, e, a, b, hx with
  | .int i, .int j, .int _, .int _, hx =>
    cases hx
    exact ⟨i, j, rfl, rfl, q H _ (s.pop.pop.scal fun F => hf F i j)⟩
end

/-! ### arithmetic -/
def addI : D → D → Option Val := fun d e => match d, e with
  | .int i, .int j => some (.sh (.int (i + j)))
  | _, _ => none
def addS : D → D → Option Val := fun d e => match d, e with
  | .str i, .str j => if i.length + j.length ≤ 10000000 then some (.sh (.str (i ++ j))) else none
  | _, _ => none
def addL : D → D → Option Val := fun d e => match d, e with
  | .lst i, .lst j => if i.length + j.length ≤ 10000000 then some (.lst ((i ++ j).map .sh)) else none
  | _, _ => none
def addT : D → D → Option Val := fun d e => match d, e with
  | .tup (i :: is), .tup j => if (i :: is).length + j.length ≤ 10000000 then some (.sh (.tup (i :: is ++ j))) else none
  | _, _ => none
def addD : D → D → Option Val := orG addI (orG addS (orG addL addT))
theorem sz_of {n : Nat} (h : n ≤ 10000000) : n ≤ sizeLine := by rw [sizeLine_eq]; omega
section
variable {X : Cx}
theorem op_addD : ∃ r, OpR X (binaryOp .Add) r ∧ OpD X r addD := by
  refine ⟨_, op_add.or (op_add_str.or (op_cat.or op_catT)), (opd_I0 fun F i j => .int _).or (OpD.or ?_ (OpD.or ?_ ?_))⟩
  · intro F0 H0 H σ ρ vs xs v w d e Q s ⟨x, hx, q⟩
    obtain ⟨F, hF, a, b, t⟩ := s.two
    match d, e, a, b, hx with
    | .str i, .str j, .str _, .str _, hx =>
      have hx : (if i.length + j.length ≤ 10000000 then some (Val.sh (.str (i ++ j))) else none) = some x := hx
      by_cases hc : i.length + j.length ≤ 10000000
      · rw [if_pos hc] at hx
        cases hx
        exact ⟨i, j, rfl, rfl, sz_of hc, q H _ (s.pop.pop.scal fun F => .str _)⟩
      · rw [if_neg hc] at hx; cases hx
  · intro F0 H0 H σ ρ vs xs v w d e Q s ⟨x, hx, q⟩
    obtain ⟨F, hF, a, b, t⟩ := s.two
    match d, e, a, b, hx with
    | .lst i, .lst j, .lst (vs := us) h1 k1, .lst (vs := ws) h2 k2, hx =>
      have hx : (if i.length + j.length ≤ 10000000 then some (Val.lst ((i ++ j).map .sh)) else none) = some x := hx
      by_cases hc : i.length + j.length ≤ 10000000
      · rw [if_pos hc] at hx
        cases hx
        refine ⟨_, _, us, ws, rfl, rfl, hF _ _ h1, hF _ _ h2, by rw [k1.length, k2.length]; exact sz_of hc, fun p np => q _ _ ?_⟩
        exact Stt.newLst (by simp [k1.length, k2.length]) (t (us ++ ws) (i ++ j) (k1.append k2)) np
      · rw [if_neg hc] at hx; cases hx
  · intro F0 H0 H σ ρ vs xs v w d e Q s ⟨x, hx, q⟩
    obtain ⟨F, hF, a, b, t⟩ := s.two
    match d, e, a, b, hx with
    | .tup (i :: is), .tup j, .tup (vs := us) h1 k1, .tup (vs := ws) h2 k2, hx =>
      have hx : (if (i :: is).length + j.length ≤ 10000000 then some (Val.sh (.tup (i :: is ++ j))) else none) = some x := hx
      by_cases hc : (i :: is).length + j.length ≤ 10000000
      · rw [if_pos hc] at hx
        cases hx
        refine ⟨_, _, us, ws, rfl, rfl, sameT hF h1, sameT hF h2, (fun z => by subst z; cases k1), (by rw [k1.length, k2.length]; exact sz_of hc), fun z => ?_, fun z p np => q _ _ ?_⟩
        · subst z
          cases k2
          exact q _ _ (by rw [List.append_nil]; exact s.pop)
        · exact Stt.newTup (by simp [k1.length, k2.length]; omega) (t (us ++ ws) (i :: is ++ j) (k1.append k2)) np
      · rw [if_neg hc] at hx; cases hx
theorem de_add {a b : Expr} {fa fb : DEnv → R Val} {pos : Pos} (ha : DE X a fa) (hb : DE X b fb) : DE X (.BinOp a .Add b pos) (sOp addD fa fb) := let ⟨_, h1, h2⟩ := op_addD; de_op h1 h2 ha hb
end
def subD : D → D → Option Val := fun d e => match d, e with
  | .int i, .int j => some (.sh (.int (i - j)))
  | _, _ => none
def mulOk (i j : Int) : Prop := (-(2 ^ 64) < i ∧ i < 2 ^ 64) ∨ (-(2 ^ 64) < j ∧ j < 2 ^ 64) ∨ i.natAbs.log2 + j.natAbs.log2 < 1000000
theorem mulOk.ok {i j : Int} (h : mulOk i j) : PySem.IntMulOk i j := by
  rcases h with h | h | h
  · exact CMul.ok (.inl h)
  · exact CMul.ok (.inr h)
  · exact CMulW.ok h
instance (i j : Int) : Decidable (mulOk i j) := by unfold mulOk; infer_instance
def mulI : D → D → Option Val := fun d e => match d, e with
  | .int i, .int j => if mulOk i j then some (.sh (.int (i * j))) else none
  | _, _ => none
def mulL : D → D → Option Val := fun d e => match d, e with
  | .lst i, .int j => if i.length * j.toNat ≤ 10000000 ∧ j < 2 ^ 62 ∧ -(2 ^ 62) ≤ j then some (.lst ((List.replicate j.toNat i).flatten.map .sh)) else none
  | _, _ => none
def mulD : D → D → Option Val := orG mulI mulL
def divOk (j : Int) : Prop := j ≠ 0 ∧ j.natAbs.log2 < 9000
instance (j : Int) : Decidable (divOk j) := by unfold divOk; infer_instance
def fdivD : D → D → Option Val := fun d e => match d, e with
  | .int i, .int j => if divOk j then some (.sh (.int (i.fdiv j))) else none
  | _, _ => none
def modD : D → D → Option Val := fun d e => match d, e with
  | .int i, .int j => if j ≠ 0 then some (.sh (.int (i.fmod j))) else none
  | _, _ => none
instance (i j : Int) : Decidable (CPow i j) := by unfold CPow; infer_instance
def powD : D → D → Option Val := fun d e => match d, e with
  | .int i, .int j => if CPow i j then some (.sh (.int (i ^ j.toNat))) else none
  | _, _ => none
def shlD : D → D → Option Val := fun d e => match d, e with
  | .int i, .int j => if CPow i j then some (.sh (.int (i * 2 ^ j.toNat))) else none
  | _, _ => none
def shrD : D → D → Option Val := fun d e => match d, e with
  | .int i, .int j => if 0 ≤ j then some (.sh (.int (i / 2 ^ j.toNat))) else none
  | _, _ => none
def andD : D → D → Option Val := fun d e => match d, e with
  | .int i, .int j => some (.sh (.int (Builtin.bitAnd i j)))
  | _, _ => none
def orD : D → D → Option Val := fun d e => match d, e with
  | .int i, .int j => some (.sh (.int (Builtin.bitOr i j)))
  | _, _ => none
def negD : D → Option Val := fun d => match d with
  | .int i => some (.sh (.int (-i)))
  | _ => none
theorem flat_ats {K : PySem.W.Frag} {F : Hp} {us : List V} {i : List D} (h : Ats K F us i) : ∀ n, Ats K F (List.replicate n us).flatten (List.replicate n i).flatten
  | 0 => .nil
  | n + 1 => by
    rw [List.replicate_succ, List.replicate_succ, List.flatten_cons, List.flatten_cons]
    exact h.append (flat_ats h n)
section
variable {X : Cx} {a b : Expr} {fa fb : DEnv → R Val} {pos : Pos}
theorem op_fdivA : OpR X (binaryOp .FloorDiv) (rI (fun _ j => divOk j) fun i j => .int (i.fdiv j)) := opI fun _ _ _ _ _ _ _ hc q => PyProof.Rows.floordiv_int hc.1 q (.inl (PyProof.noPylong_of_log2 hc.2))
theorem op_mulA : OpR X (binaryOp .Mult) (rI mulOk fun i j => .int (i * j)) := opI fun _ _ _ _ _ _ _ hc q => PyProof.Rows.mul_int q hc.ok
theorem de_sub (ha : DE X a fa) (hb : DE X b fb) : DE X (.BinOp a .Sub b pos) (sOp subD fa fb) := de_op op_sub (opd_I0 fun F i j => .int _) ha hb
theorem op_mulD : ∃ r, OpR X (binaryOp .Mult) r ∧ OpD X r mulD := by
  refine ⟨_, op_mulA.or op_rep, (opd_I fun F i j => .int _).or ?_⟩
  intro F0 H0 H σ ρ vs xs v w d e Q s ⟨x, hx, q⟩
  obtain ⟨F, hF, a, b, t⟩ := s.two
  match d, e, a, b, hx with
  | .lst i, .int j, .lst (vs := us) h1 k1, .int _, hx =>
    have hx : (if i.length * j.toNat ≤ 10000000 ∧ j < 2 ^ 62 ∧ -(2 ^ 62) ≤ j then some (Val.lst ((List.replicate j.toNat i).flatten.map .sh)) else none) = some x := hx
    split at hx
    · rename_i hc
      cases hx
      refine ⟨_, j, us, rfl, rfl, hF _ _ h1, by omega, by omega, by rw [k1.length]; exact sz_of hc.1, fun p np => q _ _ ?_⟩
      have k := flat_ats k1 j.toNat
      exact Stt.newLst (by simp [k.length]) (t _ _ k) np
    · cases hx
theorem de_mul (ha : DE X a fa) (hb : DE X b fb) : DE X (.BinOp a .Mult b pos) (sOp mulD fa fb) := let ⟨_, h1, h2⟩ := op_mulD; de_op h1 h2 ha hb
theorem de_fdiv (ha : DE X a fa) (hb : DE X b fb) : DE X (.BinOp a .FloorDiv b pos) (sOp fdivD fa fb) := de_op op_fdivA (opd_I (C := fun _ j => divOk j) fun F i j => .int _) ha hb
theorem de_mod (ha : DE X a fa) (hb : DE X b fb) : DE X (.BinOp a .Mod b pos) (sOp modD fa fb) := de_op op_modN (opd_I (C := fun _ j => j ≠ 0) fun F i j => .int _) ha hb
theorem de_pow (ha : DE X a fa) (hb : DE X b fb) : DE X (.BinOp a .Pow b pos) (sOp powD fa fb) := de_op op_pow (opd_I fun F i j => .int _) ha hb
theorem de_shl (ha : DE X a fa) (hb : DE X b fb) : DE X (.BinOp a .LShift b pos) (sOp shlD fa fb) := de_op op_shl (opd_I fun F i j => .int _) ha hb
theorem de_shr (ha : DE X a fa) (hb : DE X b fb) : DE X (.BinOp a .RShift b pos) (sOp shrD fa fb) := de_op op_shr (opd_I (C := fun _ j => 0 ≤ j) fun F i j => .int _) ha hb
theorem de_band (ha : DE X a fa) (hb : DE X b fb) : DE X (.BinOp a .BitAnd b pos) (sOp andD fa fb) := de_op op_and (opd_I0 fun F i j => .int _) ha hb
theorem de_bor (ha : DE X a fa) (hb : DE X b fb) : DE X (.BinOp a .BitOr b pos) (sOp orD fa fb) := de_op op_or (opd_I0 fun F i j => .int _) ha hb
theorem de_neg (ha : DE X a fa) : DE X (.UnaryOp .USub a pos) (sUn negD fa) := de_un un_neg (fun F0 H0 H σ ρ vs xs v d Q s ⟨x, hx, q⟩ => by
  obtain ⟨F, hF, a, t⟩ := s.oneT
  match d, a, hx with
  | .int i, .int _, hx =>
    cases hx
    exact ⟨i, rfl, q H _ (s.pop.scal fun F => .int _)⟩) ha
end

/-! ### comparisons -/
def ltD : D → D → Option Val := fun d e => match d, e with
  | .int i, .int j => some (.sh (.bl (decide (i < j))))
  | _, _ => none
def leD : D → D → Option Val := fun d e => match d, e with
  | .int i, .int j => some (.sh (.bl (decide (i ≤ j))))
  | _, _ => none
def gtD : D → D → Option Val := fun d e => match d, e with
  | .int i, .int j => some (.sh (.bl (decide (j < i))))
  | _, _ => none
def geD : D → D → Option Val := fun d e => match d, e with
  | .int i, .int j => some (.sh (.bl (decide (j ≤ i))))
  | _, _ => none
mutual
def D.py : D → PyData
  | .non => .none
  | .bl b => .bool b
  | .int i => .int i
  | .str x => .str x
  | .lst xs => .list (pys xs)
  | .scr xs => .list (pys xs)
  | .tup xs => .tuple (pys xs)
  | .ins _ _ _ => .dict []
  | .junk => .dict []
  | .exn _ _ _ _ => .dict []
  | .dct _ _ => .dict []
def pys : List D → List PyData
  | [] => []
  | x :: xs => x.py :: pys xs
end
/-- data without objects, at most so deep -/
def D.ok : Nat → D → Bool
  | _, .non => true
  | _, .bl _ => true
  | _, .int _ => true
  | _, .str _ => true
  | k + 1, .lst xs => xs.all (D.ok k)
  | k + 1, .scr xs => xs.all (D.ok k)
  | k + 1, .tup xs => xs.all (D.ok k)
  | _, _ => false
def D.eqv (d e : D) : Bool := PyData.eqv d.py e.py
def eqvs (d e : List D) : Bool := PyData.eqvAll (pys d) (pys e)
def eqD : D → D → Option Val := fun d e => if d.ok 20 && e.ok 20 then some (.sh (.bl (d.eqv e))) else none
def neD : D → D → Option Val := fun d e => if d.ok 20 && e.ok 20 then some (.sh (.bl (!d.eqv e))) else none
theorem py_ok : ∀ (k : Nat) (d : D), d.ok k = true → d.py.plain = true ∧ d.py.depth ≤ k := by
  intro k
  induction k with
  | zero =>
    intro d h
    cases d with
    | non => exact ⟨by simp [D.py, PyData.plain], by simp [D.py, PyData.depth]⟩
    | bl b => exact ⟨by simp [D.py, PyData.plain], by simp [D.py, PyData.depth]⟩
    | int i => exact ⟨by simp [D.py, PyData.plain], by simp [D.py, PyData.depth]⟩
    | str x => exact ⟨by simp [D.py, PyData.plain], by simp [D.py, PyData.depth]⟩
    | lst xs => simp [D.ok] at h
    | scr xs => simp [D.ok] at h
    | tup xs => simp [D.ok] at h
    | ins _ _ _ => simp [D.ok] at h
    | junk => simp [D.ok] at h
    | exn _ _ _ _ => simp [D.ok] at h
    | dct => simp [D.ok] at h
  | succ k ih =>
    have all : ∀ xs : List D, xs.all (D.ok k) = true → PyData.plainAll (pys xs) = true ∧ PyData.depthAll (pys xs) ≤ k := by
      intro xs
      induction xs with
      | nil => intro _; exact ⟨by simp [pys, PyData.plainAll], by simp [pys, PyData.depthAll]⟩
      | cons x xs ih2 =>
        intro h
        rw [List.all_cons, Bool.and_eq_true] at h
        obtain ⟨h1, h2⟩ := ih x h.1
        obtain ⟨h3, h4⟩ := ih2 h.2
        exact ⟨by simp [pys, PyData.plainAll, h1, h3], by simp only [pys, PyData.depthAll]; omega⟩
    intro d h
    cases d with
    | non => exact ⟨by simp [D.py, PyData.plain], by simp [D.py, PyData.depth]⟩
    | bl b => exact ⟨by simp [D.py, PyData.plain], by simp [D.py, PyData.depth]⟩
    | int i => exact ⟨by simp [D.py, PyData.plain], by simp [D.py, PyData.depth]⟩
    | str x => exact ⟨by simp [D.py, PyData.plain], by simp [D.py, PyData.depth]⟩
    | lst xs =>
      obtain ⟨h1, h2⟩ := all xs h
      exact ⟨by simp only [D.py, PyData.plain, h1], by simp only [D.py, PyData.depth]; omega⟩
    | scr xs =>
      obtain ⟨h1, h2⟩ := all xs h
      exact ⟨by simp only [D.py, PyData.plain, h1], by simp only [D.py, PyData.depth]; omega⟩
    | tup xs =>
      obtain ⟨h1, h2⟩ := all xs h
      exact ⟨by simp only [D.py, PyData.plain, h1], by simp only [D.py, PyData.depth]; omega⟩
    | ins _ _ _ => simp [D.ok] at h
    | junk => simp [D.ok] at h
    | exn _ _ _ _ => simp [D.ok] at h
    | dct => simp [D.ok] at h
theorem at_dp {K : PySem.W.Frag} {F H : Hp} (e : Same F H) : ∀ (k : Nat) (d : D) (v : V), d.ok k = true → At K F v d → Dp K H v d.py := by
  intro k
  induction k with
  | zero =>
    intro d v h a
    cases a with
    | non => rw [D.py]; exact .non
    | bl b => rw [D.py]; exact .bl b
    | int i => rw [D.py]; exact .int i
    | str x => rw [D.py]; exact .str x
    | lst _ _ => simp [D.ok] at h
    | scr _ _ => simp [D.ok] at h
    | tup _ _ => simp [D.ok] at h
    | ins _ _ _ => simp [D.ok] at h
    | junk => simp [D.ok] at h
    | exn _ _ _ _ => simp [D.ok] at h
    | dct => simp [D.ok] at h
  | succ k ih =>
    have all : ∀ (xs : List D) (vs : List V), xs.all (D.ok k) = true → Ats K F vs xs → DpAll K H vs (pys xs) := by
      intro xs
      induction xs with
      | nil => intro vs _ a; cases a; rw [pys]; exact .nil
      | cons x xs ih2 =>
        intro vs h a
        rw [List.all_cons, Bool.and_eq_true] at h
        cases a with
        | cons a b => rw [pys]; exact .cons (ih _ _ h.1 a) (ih2 _ h.2 b)
    intro d v h a
    cases a with
    | non => rw [D.py]; exact .non
    | bl b => rw [D.py]; exact .bl b
    | int i => rw [D.py]; exact .int i
    | str x => rw [D.py]; exact .str x
    | lst h1 h2 => rw [D.py]; exact .lst (e.seq (.of h1)) (all _ _ h h2)
    | scr h1 h2 => rw [D.py]; exact .lst (e.seq h1) (all _ _ h h2)
    | tup h1 h2 => rw [D.py]; exact .tup (sameT e h1) (all _ _ h h2)
    | ins _ _ _ => simp [D.ok] at h
    | junk => simp [D.ok] at h
    | exn _ _ _ _ => simp [D.ok] at h
    | dct => simp [D.ok] at h
def rEqP (K : PySem.W.Frag) (n : Bool) : R2 := fun x y H Q => ∃ d e, Dp K H x d ∧ Dp K H y e ∧ d.plain = true ∧ e.plain = true ∧ d.depth ≤ 20 ∧ Q (.bl (n != PyData.eqv d e)) H
section
variable {X : Cx} {a b : Expr} {fa fb : DEnv → R Val} {pos : Pos}
theorem op_eqP (hu : X.A.units + 64 < cLine) : OpR X (compareOp .Eq) (rEqP X.K false) := by
  intro pins s σ H x y v u Q I rx ry h
  obtain ⟨d, e, hd, he, sd, se, dd, q⟩ := h
  obtain ⟨as, r1⟩ := Dp.reads I d x v hd rx
  obtain ⟨bs, r2⟩ := Dp.reads I e y u he ry
  have hm : min d.depth e.depth ≤ d.depth := Nat.min_le_left _ _
  exact PySem.SeqAt.eq_plain r1 r2 sd se (by omega) ⟨.bl _, H, I, rfl, by simpa using q⟩
theorem op_neP (hu : X.A.units + 64 < cLine) : OpR X (compareOp .NotEq) (rEqP X.K true) := by
  intro pins s σ H x y v u Q I rx ry h
  obtain ⟨d, e, hd, he, sd, se, dd, q⟩ := h
  obtain ⟨as, r1⟩ := Dp.reads I d x v hd rx
  obtain ⟨bs, r2⟩ := Dp.reads I e y u he ry
  have hm : min d.depth e.depth ≤ d.depth := Nat.min_le_left _ _
  exact PySem.SeqAt.ne_plain r1 r2 sd se (by omega) ⟨.bl _, H, I, rfl, by simpa using q⟩
theorem opd_eq : OpD X (rEqP X.K false) eqD := fun F0 H0 H σ ρ vs xs v w d e Q s ⟨x, hx, q⟩ => by
  obtain ⟨F, hF, a, b, t⟩ := s.two
  unfold eqD at hx
  split at hx
  · rename_i hc
    rw [Bool.and_eq_true] at hc
    cases hx
    obtain ⟨p1, p2⟩ := py_ok _ _ hc.1
    obtain ⟨p3, _⟩ := py_ok _ _ hc.2
    exact ⟨_, _, at_dp hF _ _ _ hc.1 a, at_dp hF _ _ _ hc.2 b, p1, p3, p2, q H _ (s.pop.pop.scal fun F => by
      have e : (false != PyData.eqv d.py e.py) = D.eqv d e := by unfold D.eqv; cases PyData.eqv d.py e.py <;> rfl
      rw [e]; exact .bl _)⟩
  · cases hx
theorem opd_ne : OpD X (rEqP X.K true) neD := fun F0 H0 H σ ρ vs xs v w d e Q s ⟨x, hx, q⟩ => by
  obtain ⟨F, hF, a, b, t⟩ := s.two
  unfold neD at hx
  split at hx
  · rename_i hc
    rw [Bool.and_eq_true] at hc
    cases hx
    obtain ⟨p1, p2⟩ := py_ok _ _ hc.1
    obtain ⟨p3, _⟩ := py_ok _ _ hc.2
    exact ⟨_, _, at_dp hF _ _ _ hc.1 a, at_dp hF _ _ _ hc.2 b, p1, p3, p2, q H _ (s.pop.pop.scal fun F => by
      have e : (true != PyData.eqv d.py e.py) = !D.eqv d e := by unfold D.eqv; cases PyData.eqv d.py e.py <;> rfl
      rw [e]; exact .bl _)⟩
  · cases hx
def isND (n : Bool) : D → Option Val := fun d => some (.sh (.bl (n != match d with | .non => true | _ => false)))
theorem at_non {K : PySem.W.Frag} {F : Hp} {v : V} {d : D} (a : At K F v d) : decide (v = .non) = match d with | .non => true | _ => false := by
  cases a <;> simp
end
/-! the rules by name: as values, as tests -/
section
variable {X : Cx} {a b : Expr} {fa fb : DEnv → R Val} {pos : Pos}
theorem de_eq (hu : X.A.units + 64 < cLine) (ha : DE X a fa) (hb : DE X b fb) : DE X (.Compare a [.Eq] [b] pos) (sOp eqD fa fb) := de_cmp (op_eqP hu) opd_eq ha hb (nomark _)
theorem de_ne (hu : X.A.units + 64 < cLine) (ha : DE X a fa) (hb : DE X b fb) : DE X (.Compare a [.NotEq] [b] pos) (sOp neD fa fb) := de_cmp (op_neP hu) opd_ne ha hb (nomark _)
theorem de_lt (ha : DE X a fa) (hb : DE X b fb) : DE X (.Compare a [.Lt] [b] pos) (sOp ltD fa fb) := de_cmp op_lt (opd_I0 fun F i j => .bl _) ha hb (nomark _)
theorem de_le (ha : DE X a fa) (hb : DE X b fb) : DE X (.Compare a [.LtE] [b] pos) (sOp leD fa fb) := de_cmp op_le (opd_I0 fun F i j => .bl _) ha hb (nomark _)
theorem de_gt (ha : DE X a fa) (hb : DE X b fb) : DE X (.Compare a [.Gt] [b] pos) (sOp gtD fa fb) := de_cmp op_gt (opd_I0 fun F i j => .bl _) ha hb (nomark _)
theorem de_ge (ha : DE X a fa) (hb : DE X b fb) : DE X (.Compare a [.GtE] [b] pos) (sOp geD fa fb) := de_cmp op_ge (opd_I0 fun F i j => .bl _) ha hb (nomark _)
theorem dt_eq (hu : X.A.units + 64 < cLine) (ha : DE X a fa) (hb : DE X b fb) : DT X (.Compare a [.Eq] [b] pos) (sTst (sOp eqD fa fb)) := dt_cmp (op_eqP hu) opd_eq ha hb (nomark _)
theorem dt_ne (hu : X.A.units + 64 < cLine) (ha : DE X a fa) (hb : DE X b fb) : DT X (.Compare a [.NotEq] [b] pos) (sTst (sOp neD fa fb)) := dt_cmp (op_neP hu) opd_ne ha hb (nomark _)
theorem dt_lt (ha : DE X a fa) (hb : DE X b fb) : DT X (.Compare a [.Lt] [b] pos) (sTst (sOp ltD fa fb)) := dt_cmp op_lt (opd_I0 fun F i j => .bl _) ha hb (nomark _)
theorem dt_le (ha : DE X a fa) (hb : DE X b fb) : DT X (.Compare a [.LtE] [b] pos) (sTst (sOp leD fa fb)) := dt_cmp op_le (opd_I0 fun F i j => .bl _) ha hb (nomark _)
theorem dt_gt (ha : DE X a fa) (hb : DE X b fb) : DT X (.Compare a [.Gt] [b] pos) (sTst (sOp gtD fa fb)) := dt_cmp op_gt (opd_I0 fun F i j => .bl _) ha hb (nomark _)
theorem dt_ge (ha : DE X a fa) (hb : DE X b fb) : DT X (.Compare a [.GtE] [b] pos) (sTst (sOp geD fa fb)) := dt_cmp op_ge (opd_I0 fun F i j => .bl _) ha hb (nomark _)
theorem tE_un {r : V → Hp → VK → Prop} {g : D → Option Val} (hg : UnD X r g) {σ : L2.St} {H : Hp} {Q : VK} (h : tE X (sUn g fa) σ H Q) : tE X fa σ H (fun x H1 => r x H1 Q) := by
  obtain ⟨F0, H0, ρ, vs, xs, s, q⟩ := h
  refine ⟨F0, H0, ρ, vs, xs, s, (post_bind q).imp (fun x ρ1 q1 H1 v s1 => ?_) fun _ _ z => z⟩
  refine hg F0 H0 H1 σ ρ1 vs xs v x.fz Q s1.fz ?_
  cases e : g x.fz with
  | none => rw [e] at q1; exact q1.elim
  | some z => rw [e] at q1; exact ⟨z, rfl, q1⟩
theorem und_isN : UnD X (fun x H Q => Q (.bl (decide (x = .non))) H) (isND false) := fun F0 H0 H σ ρ vs xs v d Q s ⟨x, hx, q⟩ => by
  obtain ⟨F, hF, a, t⟩ := s.oneT
  cases hx
  exact q H _ (s.pop.scal fun F => by rw [at_non a]; cases d <;> exact .bl _)
theorem und_notN : UnD X (fun x H Q => Q (.bl (!decide (x = .non))) H) (isND true) := fun F0 H0 H σ ρ vs xs v d Q s ⟨x, hx, q⟩ => by
  obtain ⟨F, hF, a, t⟩ := s.oneT
  cases hx
  exact q H _ (s.pop.scal fun F => by rw [at_non a]; cases d <;> exact .bl _)
theorem de_isN {j pos'} (ha : DE X a fa) : DE X (.Compare a [.Is] [.Constant .none j pos'] pos) (sUn (isND false) fa) :=
  PE.imp (pe_cmp (pc_isN ha) (nobehind _ (by decide) (by decide))) fun σ H Q h => tE_un und_isN h
theorem de_notN {j pos'} (ha : DE X a fa) : DE X (.Compare a [.IsNot] [.Constant .none j pos'] pos) (sUn (isND true) fa) :=
  PE.imp (pe_cmp (pc_notN ha) (nobehind _ (by decide) (by decide))) fun σ H Q h => tE_un und_notN h
theorem dt_isN {j pos'} (ha : DE X a fa) : DT X (.Compare a [.Is] [.Constant .none j pos'] pos) (sTst (sUn (isND false) fa)) :=
  PT.imp (pt_cmp (pc_isN ha) (nobehind _ (by decide) (by decide))) fun σ H Q h => tE_un und_isN (tB_of h)
theorem dt_notN {j pos'} (ha : DE X a fa) : DT X (.Compare a [.IsNot] [.Constant .none j pos'] pos) (sTst (sUn (isND true) fa)) :=
  PT.imp (pt_cmp (pc_notN ha) (nobehind _ (by decide) (by decide))) fun σ H Q h => tE_un und_notN (tB_of h)
end

/-! ### chains -/
def sChain (g g' : D → D → Option Val) (fa fb fc : DEnv → R Val) : DEnv → R Val := fun ρ => (fa ρ).bind fun x ρ1 => (fb ρ1).bind fun y ρ2 => (liftO (g x.fz y.fz) ρ2).bind fun z ρ3 => (liftB (asB z.fz) ρ3).bind fun k ρ4 =>
  if k = true then (fc ρ4).bind fun u ρ5 => liftO (g' y.fz u.fz) ρ5 else .ok (.sh (.bl false)) ρ4
section
variable {X : Cx} {a b c : Expr} {fa fb fc : DEnv → R Val} {pos : Pos} {op op' : CmpOp} {f f' : Int → Int → Bool}
def gI (f : Int → Int → Bool) : D → D → Option Val := fun d e => match d, e with
  | .int i, .int j => some (.sh (.bl (f i j)))
  | _, _ => none
theorem tE_chain {σ : L2.St} {H : Hp} {Q : VK} (h : tE X (sChain (gI f) (gI f') fa fb fc) σ H Q) : tChain (rI0 fun i j => .bl (f i j)) (rI0 fun i j => .bl (f' i j)) (tE X fa) (tE X fb) (tE X fc) σ H Q := by
  obtain ⟨F0, H0, ρ, vs, xs, s, q⟩ := h
  refine ⟨F0, H0, ρ, vs, xs, s, (post_bind q).imp (fun x ρ1 q1 H1 v s1 => ?_) fun _ _ z => z⟩
  refine ⟨F0, H0, ρ1, _, _, s1, (post_bind q1).imp (fun y ρ2 q2 H2 w s2 => ?_) fun _ _ z => z.more⟩
  obtain ⟨F, hF, a1, b1, t⟩ := s2.fz2.two
  match hx : x.fz, hy : y.fz, a1, b1, q2 with
  | .int i, .int j, .int _, .int _, q2 =>
    refine ⟨i, j, rfl, rfl, f i j, rfl, ?_⟩
    have q3 : post X F0 H0 vs xs (fun x ρ' => ∀ H' v, Stt X.K F0 H0 H' σ ρ' (v :: vs) (x :: xs) → Q v H') (if f i j = true then (fc ρ2).bind fun u ρ5 => liftO (gI f' (.int j) u.fz) ρ5 else .ok (.sh (.bl false)) ρ2) := q2
    split at q3
    · rename_i hk
      rw [if_pos hk]
      have s3 : Stt X.K F0 H0 H2 σ ρ2 (V.int j :: vs) (.sh (.int j) :: xs) := s2.pop.pop.scal fun _ => .int j
      refine ⟨F0, H0, ρ2, _, _, s3, (post_bind q3).imp (fun u ρ5 q5 H5 w5 s5 => ?_) fun _ _ z => z.more⟩
      obtain ⟨F', hF', a2, b2, t2⟩ := s5.fz.two
      match hu : u.fz, b2, q5 with
      | .int m, .int _, q5 =>
        exact ⟨j, m, rfl, rfl, q5 H5 _ (s5.pop.pop.scal fun _ => .bl _)⟩
      | .non, _, q5 => exact q5.elim
      | .bl _, _, q5 => exact q5.elim
      | .str _, _, q5 => exact q5.elim
      | .lst _, _, q5 => exact q5.elim
      | .scr _, _, q5 => exact q5.elim
      | .tup _, _, q5 => exact q5.elim
      | .ins _ _ _, _, q5 => exact q5.elim
    · rename_i hk
      rw [if_neg hk]
      exact q3 H2 _ (s2.pop.pop.scal fun _ => .bl _)
  | .non, _, _, _, q2 => exact q2.elim
  | .bl _, _, _, _, q2 => exact q2.elim
  | .str _, _, _, _, q2 => exact q2.elim
  | .lst _, _, _, _, q2 => exact q2.elim
  | .scr _, _, _, _, q2 => exact q2.elim
  | .tup _, _, _, _, q2 => exact q2.elim
  | .ins _ _ _, _, _, _, q2 => exact q2.elim
  | .int _, .non, _, _, q2 => exact q2.elim
  | .int _, .bl _, _, _, q2 => exact q2.elim
  | .int _, .str _, _, _, q2 => exact q2.elim
  | .int _, .lst _, _, _, q2 => exact q2.elim
  | .int _, .scr _, _, _, q2 => exact q2.elim
  | .int _, .tup _, _, _, q2 => exact q2.elim
  | .int _, .ins _ _ _, _, _, q2 => exact q2.elim
theorem de_chain (ho : OpR X (compareOp op) (rI0 fun i j => .bl (f i j))) (ho' : OpR X (compareOp op') (rI0 fun i j => .bl (f' i j))) (ha : DE X a fa) (hb : DE X b fb) (hc : DE X c fc)
    (hm : lastMarks [op, op'] [b, c] = false := by with_unfolding_all rfl) : DE X (.Compare a [op, op'] [b, c] pos) (sChain (gI f) (gI f') fa fb fc) :=
  PE.imp (pe_chain ho ho' ha hb hc hm) fun σ H Q h => tE_chain h
theorem dt_chain (ho : OpR X (compareOp op) (rI0 fun i j => .bl (f i j))) (ho' : OpR X (compareOp op') (rI0 fun i j => .bl (f' i j))) (ha : DE X a fa) (hb : DE X b fb) (hc : DE X c fc)
    (hm : lastMarks [op, op'] [b, c] = false := by with_unfolding_all rfl) : DT X (.Compare a [op, op'] [b, c] pos) (sTst (sChain (gI f) (gI f') fa fb fc)) :=
  ⟨fun pins s σ H Q I h => (pt_chain ho ho' ha hb hc hm).run pins s σ H Q I (tE_chain (tB_of h))⟩
end
end DL

/-! DLf: subscripts, slices, built-ins, names that own lists, defs. -/
namespace DL
open PySem PySem.Spec L2

/-! ### subscripts -/
def ixL : D → D → Option Val := fun d e => match d, e with
  | .lst xs, .int i => (atI xs i).map .sh
  | .scr xs, .int i => (atI xs i).map .sh
  | _, _ => none
def ixT : D → D → Option Val := fun d e => match d, e with
  | .tup xs, .int i => (atI xs i).map .sh
  | _, _ => none
def ixS : D → D → Option Val := fun d e => match d, e with
  | .str z, .int i => if z.length ≤ 10000000 then (atI z.cps.toList i).map fun c => .sh (.str ⟨#[c]⟩) else none
  | _, _ => none
def ixD : D → D → Option Val := orG ixL (orG ixT ixS)
theorem ats_at {K : PySem.W.Frag} {F : Hp} {vs : List V} {ds : List D} {i : Int} {d : D} (h : Ats K F vs ds) (e : atI ds i = some d) : ∃ v, atI vs i = some v ∧ At K F v d := by
  unfold atI at e ⊢
  rw [h.length]
  obtain ⟨j, e1, e2⟩ := Option.bind_eq_some_iff.mp e
  obtain ⟨v, k1, k2⟩ := h.get e2
  exact ⟨v, by rw [e1]; exact k1, k2⟩
section
variable {X : Cx} {a b : Expr} {fa fb : DEnv → R Val} {pos : Pos}
theorem opd_ix : OpD X (rIx X.K) ixD := by
  refine OpD.or ?_ (OpD.or ?_ ?_)
  · intro F0 H0 H σ ρ vs xs v w d e Q s ⟨x, hx, q⟩
    obtain ⟨F, hF, a, b, t⟩ := s.two
    match d, e, a, b, hx with
    | .lst ds, .int i, .lst (vs := us) h1 k1, .int _, hx =>
      have hx : (atI ds i).map .sh = some x := hx
      obtain ⟨y, e1, rfl⟩ := Option.map_eq_some_iff.mp hx
      obtain ⟨u, e2, k⟩ := ats_at k1 e1
      exact ⟨_, us, i, u, rfl, rfl, hF.seq (.of h1), e2, q H _ (t [u] [y] (.one k))⟩
    | .scr ds, .int i, .scr (vs := us) h1 k1, .int _, hx =>
      have hx : (atI ds i).map .sh = some x := hx
      obtain ⟨y, e1, rfl⟩ := Option.map_eq_some_iff.mp hx
      obtain ⟨u, e2, k⟩ := ats_at k1 e1
      exact ⟨_, us, i, u, rfl, rfl, hF.seq h1, e2, q H _ (t [u] [y] (.one k))⟩
  · intro F0 H0 H σ ρ vs xs v w d e Q s ⟨x, hx, q⟩
    obtain ⟨F, hF, a, b, t⟩ := s.two
    match d, e, a, b, hx with
    | .tup ds, .int i, .tup (vs := us) h1 k1, .int _, hx =>
      have hx : (atI ds i).map .sh = some x := hx
      obtain ⟨y, e1, rfl⟩ := Option.map_eq_some_iff.mp hx
      obtain ⟨u, e2, k⟩ := ats_at k1 e1
      exact ⟨_, us, i, u, rfl, rfl, sameT hF h1, e2, q H _ (t [u] [y] (.one k))⟩
  · intro F0 H0 H σ ρ vs xs v w d e Q s ⟨x, hx, q⟩
    obtain ⟨F, hF, a, b, t⟩ := s.two
    match d, e, a, b, hx with
    | .str z, .int i, .str _, .int _, hx =>
      have hx : (if z.length ≤ 10000000 then (atI z.cps.toList i).map (fun c => Val.sh (.str ⟨#[c]⟩)) else none) = some x := hx
      split at hx
      · rename_i hz
        obtain ⟨c, e1, rfl⟩ := Option.map_eq_some_iff.mp hx
        exact ⟨z, i, c, rfl, rfl, sz_of hz, e1, q H _ (s.pop.pop.scal fun F => .str _)⟩
      · cases hx
theorem de_ixD (ha : DE X a fa) (hb : DE X b fb) (hs : PlainIx b := by exact fun _ _ => rfl) : DE X (.Subscript a b pos) (sOp ixD fa fb) := de_ix ix_seq opd_ix ha hb hs
end

/-! ### slices -/
def cutD (xs : List D) (lo hi : Option Int) : List D := (xs.drop (HT.sIx xs.length 0 lo)).take (HT.sIx xs.length xs.length hi - HT.sIx xs.length 0 lo)
def slD (lo hi : Option Int) : D → Option Val
  | .lst xs => some (.lst ((cutD xs lo hi).map .sh))
  | .scr xs => some (.lst ((cutD xs lo hi).map .sh))
  | .tup xs => if HT.sIx xs.length 0 lo = 0 ∧ HT.sIx xs.length xs.length hi = xs.length then none else some (.sh (.tup (cutD xs lo hi)))
  | .str z => if z.length ≤ 10000000 then some (.sh (.str (cutS z lo hi))) else none
  | _ => none
/-- a slice's part: left out, or an int -/
def sPart : Option (DEnv → R Val) → DEnv → R (Option Int)
  | none, ρ => .ok none ρ
  | some f, ρ => (f ρ).bind fun x ρ1 => match x.fz with
    | .int i => .ok (some i) ρ1
    | _ => .bad
def sSl (f : DEnv → R Val) (lo hi : Option (DEnv → R Val)) : DEnv → R Val := fun ρ => (f ρ).bind fun x ρ1 => (sPart lo ρ1).bind fun i ρ2 => (sPart hi ρ2).bind fun j ρ3 => liftO (slD i j x.fz) ρ3
section
variable {X : Cx} {e : Expr} {f : DEnv → R Val} {lo hi : Option Expr} {flo fhi : Option (DEnv → R Val)} {pos p2 : Pos}
/-- a part of a slice -/
def DO (X : Cx) (e : Option Expr) (f : Option (DEnv → R Val)) : Prop := PO X e (fun σ H Q => ∃ F0 H0 ρ vs xs, Stt X.K F0 H0 H σ ρ vs xs ∧ post X F0 H0 vs xs (fun i ρ' => ∀ H', Stt X.K F0 H0 H' σ ρ' vs xs → Q i H') (sPart f ρ))
theorem do_none : DO X none none := ⟨fun pins s σ H Q I ⟨F0, H0, ρ, vs, xs, st, q⟩ => po_none.run pins s σ H Q I (q H st)⟩
theorem do_some (h : DE X e f) : DO X (some e) (some f) := ⟨fun pins s σ H Q I ⟨F0, H0, ρ, vs, xs, st, q⟩ => (po_some h).run pins s σ H Q I (by
  refine ⟨F0, H0, ρ, vs, xs, st, (post_bind q).imp (fun x ρ1 q1 H1 v s1 => ?_) fun _ _ z => z⟩
  obtain ⟨F, hF, a, t⟩ := s1.fz.oneT
  match hx : x.fz, a, q1 with
  | .int i, .int _, q1 => exact ⟨i, rfl, q1 H1 s1.pop⟩
  | .non, _, q1 => exact q1.elim
  | .bl _, _, q1 => exact q1.elim
  | .str _, _, q1 => exact q1.elim
  | .lst _, _, q1 => exact q1.elim
  | .scr _, _, q1 => exact q1.elim
  | .tup _, _, q1 => exact q1.elim
  | .ins _ _ _, _, q1 => exact q1.elim)⟩
theorem cut_ats {K : PySem.W.Frag} {F : Hp} {vs : List V} {ds : List D} (h : Ats K F vs ds) (lo hi : Option Int) : Ats K F (cutV vs lo hi) (cutD ds lo hi) := by
  unfold cutV cutD
  rw [h.length]
  exact (h.drop _).take _
theorem de_sl (he : DE X e f) (hl : DO X lo flo) (hh : DO X hi fhi) : DE X (.Subscript e (.Slice lo hi none p2) pos) (sSl f flo fhi) :=
  PE.imp (pe_slice (sl_list.or (sl_tup.or sl_str)) he hl hh) fun σ H Q ⟨F0, H0, ρ, vs, xs, s, q⟩ => by
    refine ⟨F0, H0, ρ, vs, xs, s, (post_bind q).imp (fun x ρ1 q1 H1 v s1 => ?_) fun _ _ z => z⟩
    refine ⟨F0, H0, ρ1, _, _, s1, (post_bind q1).imp (fun i ρ2 q2 H2 s2 => ?_) fun _ _ z => z.more⟩
    refine ⟨F0, H0, ρ2, _, _, s2, (post_bind q2).imp (fun j ρ3 q3 H3 s3 => ?_) fun _ _ z => z.more⟩
    obtain ⟨F, hF, a, t⟩ := s3.fz.oneT
    match hx : x.fz, a, q3 with
    | .lst ds, .lst (vs := us) h1 k1, q3 =>
      have k := cut_ats k1 i j
      exact .inl ⟨_, us, rfl, hF.seq (.of h1), fun p np => q3 _ _ (Stt.newLst (by simpa using k.length) (t _ _ k) np)⟩
    | .scr ds, .scr (vs := us) h1 k1, q3 =>
      have k := cut_ats k1 i j
      exact .inl ⟨_, us, rfl, hF.seq h1, fun p np => q3 _ _ (Stt.newLst (by simpa using k.length) (t _ _ k) np)⟩
    | .tup ds, .tup (vs := us) h1 k1, q3 =>
      have k := cut_ats k1 i j
      have q4 : post X F0 H0 vs xs (fun x ρ' => ∀ H' v, Stt X.K F0 H0 H' σ ρ' (v :: vs) (x :: xs) → Q v H') (liftO (if HT.sIx ds.length 0 i = 0 ∧ HT.sIx ds.length ds.length j = ds.length then none else some (.sh (.tup (cutD ds i j)))) ρ3) := q3
      split at q4
      · exact q4.elim
      · rename_i hc
        exact .inr (.inl ⟨_, us, rfl, sameT hF h1, by rw [k1.length]; exact hc, fun p np => q4 _ _ (Stt.newTup k.length (t _ _ k) np)⟩)
    | .str z, .str _, q3 =>
      have q4 : post X F0 H0 vs xs (fun x ρ' => ∀ H' v, Stt X.K F0 H0 H' σ ρ' (v :: vs) (x :: xs) → Q v H') (liftO (if z.length ≤ 10000000 then some (.sh (.str (cutS z i j))) else none) ρ3) := q3
      split at q4
      · rename_i hz
        exact .inr (.inr ⟨z, rfl, sz_of hz, q4 _ _ (s3.pop.scal fun F => .str _)⟩)
      · exact q4.elim
    | .non, _, q3 => exact q3.elim
    | .bl _, _, q3 => exact q3.elim
    | .int _, _, q3 => exact q3.elim
    | .ins _ _ _, _, q3 => exact q3.elim
end

/-! ### built-ins -/
def CallD (X : Cx) (r : List V → Hp → VK → Prop) (g : List D → Option Val) : Prop := ∀ F0 H0 H σ ρ vs xs ws ds Q, ws.length = ds.length → Stt X.K F0 H0 H σ ρ (ws ++ vs) (ds.map .sh ++ xs) →
  (∃ x, g ds = some x ∧ ∀ H' u, Stt X.K F0 H0 H' σ ρ (u :: vs) (x :: xs) → Q u H') → r ws H Q
def sCB (g : List D → Option Val) (fs : DEnv → R (List Val)) : DEnv → R Val := fun ρ => (fs ρ).bind fun ys ρ1 => liftO (g (fzs ys)) ρ1
section
variable {X : Cx} {x : Str} {p pos : Pos} {e : Expr} {es : List Expr} {fs : DEnv → R (List Val)} {id T : String} {r : List V → Hp → VK → Prop} {g : List D → Option Val}
theorem tE_CB (hg : CallD X r g) {σ : L2.St} {H : Hp} {Q : VK} (h : tE X (sCB g fs) σ H Q) : tCB r (tA X fs) σ H Q := by
  obtain ⟨F0, H0, ρ, vs, xs, s, q⟩ := h
  refine ⟨F0, H0, ρ, vs, xs, s, (post_bind q).imp (fun ys ρ1 q1 H1 ws hl s1 => ?_) fun _ _ z => z⟩
  obtain ⟨hl2, s2⟩ := s1.fzsP hl
  refine hg F0 H0 H1 σ ρ1 vs xs ws (fzs ys) Q hl2 s2 ?_
  cases e : g (fzs ys) with
  | none => rw [e] at q1; exact q1.elim
  | some z => rw [e] at q1; exact ⟨z, rfl, q1⟩
theorem de_callB (hc : CallR X (.builtin id) r) (hgd : CallD X r g) (hg : Gl X x) (hm : X.mg x = none) (hv : bootBuiltins x = some (.builtin id)) (ha : DA X (e :: es) fs) (hn : x ≠ "__name__" := by decide) (hdb : (x == ("__debug__" : Str)) = false := by decide)
    (he : starEach (e :: es) X.env = (false, eval e X.env) :: starEach es X.env := by rfl) (hpl : (backTo pos (starEach es X.env)).any (·.1) = false := by rfl) : DE X (.Call (.Name x p) (e :: es) [] pos) (sCB g fs) :=
  PE.imp (pe_callB hc hg hm hv ha hn hdb he hpl) fun σ H Q h => tE_CB hgd h
theorem de_callTy (hc : CallR X (.type T) r) (hgd : CallD X r g) (hg : Gl X x) (hm : X.mg x = none) (hv : bootBuiltins x = some (.type T)) (ha : DA X (e :: es) fs) (hn : x ≠ "__name__" := by decide) (hdb : (x == ("__debug__" : Str)) = false := by decide)
    (he : starEach (e :: es) X.env = (false, eval e X.env) :: starEach es X.env := by rfl) (hpl : (backTo pos (starEach es X.env)).any (·.1) = false := by rfl) : DE X (.Call (.Name x p) (e :: es) [] pos) (sCB g fs) :=
  PE.imp (pe_callTy hc hg hm hv ha hn hdb he hpl) fun σ H Q h => tE_CB hgd h
end
def orC (g g' : List D → Option Val) : List D → Option Val := fun d => match g d with
  | some x => some x
  | none => g' d
theorem CallD.or {X : Cx} {r r' : List V → Hp → VK → Prop} {g g' : List D → Option Val} (h : CallD X r g) (h' : CallD X r' g') : CallD X (fun xs H Q => r xs H Q ∨ r' xs H Q) (orC g g') := fun F0 H0 H σ ρ vs xs ws ds Q hl s ⟨x, hx, q⟩ => by
  unfold orC at hx
  cases e1 : g ds with
  | some y =>
    rw [e1] at hx
    cases hx
    exact .inl (h F0 H0 H σ ρ vs xs ws ds Q hl s ⟨_, e1, q⟩)
  | none =>
    rw [e1] at hx
    exact .inr (h' F0 H0 H σ ρ vs xs ws ds Q hl s ⟨x, hx, q⟩)
def lenD : D → Option Val
  | .lst xs => some (.sh (.int xs.length))
  | .scr xs => some (.sh (.int xs.length))
  | .tup xs => some (.sh (.int xs.length))
  | .str z => if z.length ≤ 10000000 then some (.sh (.int z.length)) else none
  | _ => none
def g1 (g : D → Option Val) : List D → Option Val
  | [d] => g d
  | _ => none
theorem g1_some {g : D → Option Val} {ds : List D} {x : Val} (h : g1 g ds = some x) : ∃ d, ds = [d] ∧ g d = some x := by
  match ds, h with
  | [d], h => exact ⟨d, rfl, h⟩
section
variable {X : Cx}
/-- a built-in of one argument -/
theorem calld_1 {r : V → Hp → VK → Prop} {g : D → Option Val} (h : UnD X r g) : CallD X (fun xs H Q => ∃ x, xs = [x] ∧ r x H Q) (g1 g) := fun F0 H0 H σ ρ vs xs ws ds Q hl s ⟨x, hx, q⟩ => by
  obtain ⟨d, rfl, hg⟩ := g1_some hx
  match ws, hl with
  | [w], _ => exact ⟨w, rfl, h F0 H0 H σ ρ vs xs w d Q s ⟨x, hg, q⟩⟩
theorem und_len : UnD X (fun x H Q => ∃ n, LenV X.K x H n ∧ Q (.int n) H) lenD := fun F0 H0 H σ ρ vs xs v d Q s ⟨x, hx, q⟩ => by
  obtain ⟨F, hF, a, t⟩ := s.oneT
  match d, a, hx with
  | .lst ds, .lst (vs := us) h1 k1, hx =>
    cases hx
    exact ⟨us.length, .inl ⟨us, hF.seq (.of h1), rfl⟩, q H _ (s.pop.scal fun F => by rw [k1.length]; exact .int _)⟩
  | .scr ds, .scr (vs := us) h1 k1, hx =>
    cases hx
    exact ⟨us.length, .inl ⟨us, hF.seq h1, rfl⟩, q H _ (s.pop.scal fun F => by rw [k1.length]; exact .int _)⟩
  | .tup ds, .tup (vs := us) h1 k1, hx =>
    cases hx
    exact ⟨us.length, .inr ⟨us, sameT hF h1, rfl⟩, q H _ (s.pop.scal fun F => by rw [k1.length]; exact .int _)⟩
  | .str z, .str _, hx =>
    have hx : (if z.length ≤ 10000000 then some (Val.sh (.int z.length)) else none) = some x := hx
    split at hx
    · rename_i hz
      cases hx
      exact ⟨z.length, ⟨sz_of hz, rfl⟩, q H _ (s.pop.scal fun F => .int _)⟩
    · cases hx
theorem call_len1 : CallR X (.builtin "len") (fun xs H Q => ∃ x, xs = [x] ∧ ∃ n, LenV X.K x H n ∧ Q (.int n) H) := fun pins s σ H xs us Q I r ⟨x, e, n, h1, h2⟩ => call_len pins s σ H xs us Q I r ⟨x, n, e, h1, h2⟩
def absD : D → Option Val
  | .int i => some (.sh (.int (if i < 0 then -i else i)))
  | _ => none
theorem und_abs : UnD X (fun x H Q => ∃ i, x = .int i ∧ Q (.int (if i < 0 then -i else i)) H) absD := fun F0 H0 H σ ρ vs xs v d Q s ⟨x, hx, q⟩ => by
  obtain ⟨F, hF, a, t⟩ := s.oneT
  match d, a, hx with
  | .int i, .int _, hx => cases hx; exact ⟨i, rfl, q H _ (s.pop.scal fun F => .int _)⟩
theorem call_abs1 : CallR X (.builtin "abs") (fun xs H Q => ∃ x, xs = [x] ∧ ∃ i, x = .int i ∧ Q (.int (if i < 0 then -i else i)) H) := fun pins s σ H xs us Q I r ⟨x, e, i, h1, h2⟩ => call_abs pins s σ H xs us Q I r ⟨i, by rw [e, h1], h2⟩
def intD : D → Option Val
  | .int i => some (.sh (.int i))
  | .bl k => some (.sh (.int (if k then 1 else 0)))
  | _ => none
theorem und_int : UnD X (fun x H Q => (∃ i, x = .int i ∧ Q (.int i) H) ∨ ∃ k, x = .bl k ∧ Q (.int (if k then 1 else 0)) H) intD := fun F0 H0 H σ ρ vs xs v d Q s ⟨x, hx, q⟩ => by
  obtain ⟨F, hF, a, t⟩ := s.oneT
  match d, a, hx with
  | .int i, .int _, hx => cases hx; exact .inl ⟨i, rfl, q H _ (s.pop.scal fun F => .int _)⟩
  | .bl i, .bl _, hx => cases hx; exact .inr ⟨i, rfl, q H _ (s.pop.scal fun F => .int _)⟩
theorem call_intA : CallR X (.type "int") (fun xs H Q => ∃ x, xs = [x] ∧ ((∃ i, x = .int i ∧ Q (.int i) H) ∨ ∃ k, x = .bl k ∧ Q (.int (if k then 1 else 0)) H)) := fun pins s σ H xs us Q I r ⟨x, e, h⟩ => call_int1 pins s σ H xs us Q I r (by
  rcases h with ⟨i, h1, h2⟩ | ⟨k, h1, h2⟩
  · exact .inl ⟨i, by rw [e, h1], h2⟩
  · exact .inr ⟨k, by rw [e, h1], h2⟩)
def strD : D → Option Val
  | .int i => if i.natAbs.log2 < 1920 then some (.sh (.str (toString i))) else none
  | _ => none
theorem und_str : UnD X (fun x H Q => ∃ i, x = .int i ∧ i.natAbs.log2 < 1920 ∧ Q (.str (toString i)) H) strD := fun F0 H0 H σ ρ vs xs v d Q s ⟨x, hx, q⟩ => by
  obtain ⟨F, hF, a, t⟩ := s.oneT
  match d, a, hx with
  | .int i, .int _, hx =>
    have hx : (if i.natAbs.log2 < 1920 then some (Val.sh (.str (toString i))) else none) = some x := hx
    split at hx
    · cases hx; exact ⟨i, rfl, by assumption, q H _ (s.pop.scal fun F => .str _)⟩
    · cases hx
theorem call_strA : CallR X (.type "str") (fun xs H Q => ∃ x, xs = [x] ∧ ∃ i, x = .int i ∧ i.natAbs.log2 < 1920 ∧ Q (.str (toString i)) H) := fun pins s σ H xs us Q I r ⟨x, e, i, h1, h2, h3⟩ => call_str_int pins s σ H xs us Q I r ⟨i, by rw [e, h1], h2, h3⟩
def listD : D → Option Val
  | .lst xs => some (.lst (xs.map .sh))
  | .scr xs => some (.lst (xs.map .sh))
  | .tup xs => some (.lst (xs.map .sh))
  | _ => none
theorem und_list : UnD X (fun x H Q => ∃ p ys, x = .ref p ∧ (SqL X.K H p ys ∨ SqT X.K H p ys) ∧ ∀ l, H l = none → Q (.ref l) (upd H l (.lst ys))) listD := fun F0 H0 H σ ρ vs xs v d Q s ⟨x, hx, q⟩ => by
  obtain ⟨F, hF, a, t⟩ := s.oneT
  match d, a, hx with
  | .lst ds, .lst (vs := us) h1 k1, hx => cases hx; exact ⟨_, us, rfl, .inl (hF.seq (.of h1)), fun l nl => q _ _ (Stt.newLst (by simpa using k1.length) (t us ds k1) nl)⟩
  | .scr ds, .scr (vs := us) h1 k1, hx => cases hx; exact ⟨_, us, rfl, .inl (hF.seq h1), fun l nl => q _ _ (Stt.newLst (by simpa using k1.length) (t us ds k1) nl)⟩
  | .tup ds, .tup (vs := us) h1 k1, hx => cases hx; exact ⟨_, us, rfl, .inr (sameT hF h1), fun l nl => q _ _ (Stt.newLst (by simpa using k1.length) (t us ds k1) nl)⟩
theorem call_listA : CallR X (.type "list") (fun xs H Q => ∃ x, xs = [x] ∧ ∃ p ys, x = .ref p ∧ (SqL X.K H p ys ∨ SqT X.K H p ys) ∧ ∀ l, H l = none → Q (.ref l) (upd H l (.lst ys))) := fun pins s σ H xs us Q I r ⟨x, e, p, ys, h1, h2, h3⟩ => call_list_of pins s σ H xs us Q I r ⟨p, ys, by rw [e, h1], h2, h3⟩
def tupleD : D → Option Val
  | .lst xs => some (.sh (.tup xs))
  | .scr xs => some (.sh (.tup xs))
  | .tup xs => some (.sh (.tup xs))
  | _ => none
theorem und_tuple : UnD X (fun x H Q => ∃ p ys, x = .ref p ∧ ((SqL X.K H p ys ∧ ∀ l, H l = none → Q (.ref l) (upd H l (.tup ys))) ∨ (SqT X.K H p ys ∧ Q (.ref p) H))) tupleD := fun F0 H0 H σ ρ vs xs v d Q s ⟨x, hx, q⟩ => by
  obtain ⟨F, hF, a, t⟩ := s.oneT
  match d, a, hx with
  | .lst ds, .lst (vs := us) h1 k1, hx => cases hx; exact ⟨_, us, rfl, .inl ⟨hF.seq (.of h1), fun l nl => q _ _ (Stt.newTup k1.length (t us ds k1) nl)⟩⟩
  | .scr ds, .scr (vs := us) h1 k1, hx => cases hx; exact ⟨_, us, rfl, .inl ⟨hF.seq h1, fun l nl => q _ _ (Stt.newTup k1.length (t us ds k1) nl)⟩⟩
  | .tup ds, .tup (vs := us) h1 k1, hx => cases hx; exact ⟨_, us, rfl, .inr ⟨sameT hF h1, q _ _ s⟩⟩
theorem call_tupleA : CallR X (.type "tuple") (fun xs H Q => ∃ x, xs = [x] ∧ ∃ p ys, x = .ref p ∧ ((SqL X.K H p ys ∧ ∀ l, H l = none → Q (.ref l) (upd H l (.tup ys))) ∨ (SqT X.K H p ys ∧ Q (.ref p) H))) := fun pins s σ H xs us Q I r ⟨x, e, p, ys, h1, h2⟩ => call_tuple_of pins s σ H xs us Q I r ⟨p, ys, by rw [e, h1], h2⟩
/-! lists of numbers, of truths -/
def dInts : List D → Option (List Int)
  | [] => some []
  | .int i :: r => (dInts r).map (i :: ·)
  | _ :: _ => none
def dBls : List D → Option (List Bool)
  | [] => some []
  | .bl i :: r => (dBls r).map (i :: ·)
  | _ :: _ => none
theorem ints_ats {K : PySem.W.Frag} {F : Hp} : ∀ {ds : List D} {vs : List V} {ns : List Int}, Ats K F vs ds → dInts ds = some ns → vs = ns.map V.int
  | [], _, ns, .nil, h => by cases h; rfl
  | .int i :: r, _, ns, .cons (.int _) t, h => by
    obtain ⟨ms, e1, e2⟩ := Option.map_eq_some_iff.mp (show (dInts r).map (i :: ·) = some ns from h)
    subst e2
    rw [ints_ats t e1]; rfl
  | .non :: _, _, _, _, h => by cases h
  | .bl _ :: _, _, _, _, h => by cases h
  | .str _ :: _, _, _, _, h => by cases h
  | .lst _ :: _, _, _, _, h => by cases h
  | .scr _ :: _, _, _, _, h => by cases h
  | .tup _ :: _, _, _, _, h => by cases h
  | .ins _ _ _ :: _, _, _, _, h => by cases h
  | .junk :: _, _, _, _, h => by cases h
  | .exn _ _ _ _ :: _, _, _, _, h => by cases h
  | .dct _ _ :: _, _, _, _, h => by cases h
theorem bls_ats {K : PySem.W.Frag} {F : Hp} : ∀ {ds : List D} {vs : List V} {ns : List Bool}, Ats K F vs ds → dBls ds = some ns → vs = ns.map V.bl
  | [], _, ns, .nil, h => by cases h; rfl
  | .bl i :: r, _, ns, .cons (.bl _) t, h => by
    obtain ⟨ms, e1, e2⟩ := Option.map_eq_some_iff.mp (show (dBls r).map (i :: ·) = some ns from h)
    subst e2
    rw [bls_ats t e1]; rfl
  | .non :: _, _, _, _, h => by cases h
  | .int _ :: _, _, _, _, h => by cases h
  | .str _ :: _, _, _, _, h => by cases h
  | .lst _ :: _, _, _, _, h => by cases h
  | .scr _ :: _, _, _, _, h => by cases h
  | .tup _ :: _, _, _, _, h => by cases h
  | .ins _ _ _ :: _, _, _, _, h => by cases h
  | .junk :: _, _, _, _, h => by cases h
  | .exn _ _ _ _ :: _, _, _, _, h => by cases h
  | .dct _ _ :: _, _, _, _, h => by cases h
def ofI (f : List Int → Option Val) : D → Option Val
  | .lst xs => (dInts xs).bind f
  | _ => none
def ofB (f : List Bool → Option Val) : D → Option Val
  | .lst xs => (dBls xs).bind f
  | _ => none
theorem ofI_some {K : PySem.W.Frag} {F H : Hp} {f : List Int → Option Val} {d : D} {v : V} {x : Val} (hF : Same F H) (a : At K F v d) (h : ofI f d = some x) : ∃ p ns, v = .ref p ∧ SqL K H p (ns.map V.int) ∧ f ns = some x := by
  match d, a, h with
  | .lst ds, .lst (vs := us) h1 k1, h =>
    obtain ⟨ns, e1, e2⟩ := Option.bind_eq_some_iff.mp (show (dInts ds).bind f = some x from h)
    rw [ints_ats k1 e1] at h1
    exact ⟨_, ns, rfl, hF.seq (.of h1), e2⟩
theorem ofB_some {K : PySem.W.Frag} {F H : Hp} {f : List Bool → Option Val} {d : D} {v : V} {x : Val} (hF : Same F H) (a : At K F v d) (h : ofB f d = some x) : ∃ p ns, v = .ref p ∧ SqL K H p (ns.map V.bl) ∧ f ns = some x := by
  match d, a, h with
  | .lst ds, .lst (vs := us) h1 k1, h =>
    obtain ⟨ns, e1, e2⟩ := Option.bind_eq_some_iff.mp (show (dBls ds).bind f = some x from h)
    rw [bls_ats k1 e1] at h1
    exact ⟨_, ns, rfl, hF.seq (.of h1), e2⟩
def sumD : D → Option Val := ofI fun ns => some (.sh (.int ns.sum))
def allD : D → Option Val := ofB fun bs => some (.sh (.bl (bs.all fun b => b)))
def anyD : D → Option Val := ofB fun bs => some (.sh (.bl (bs.any fun b => b)))
def maxI : List Int → Int
  | [] => 0
  | x :: xs => xs.foldl max x
def minI : List Int → Int
  | [] => 0
  | x :: xs => xs.foldl min x
theorem foldl_max_mem : ∀ (xs : List Int) (x : Int), (xs.foldl max x = x ∨ xs.foldl max x ∈ xs) ∧ x ≤ xs.foldl max x ∧ ∀ y ∈ xs, y ≤ xs.foldl max x
  | [], x => ⟨.inl rfl, Int.le_refl x, fun y h => by cases h⟩
  | a :: xs, x => by
    obtain ⟨h1, h2, h3⟩ := foldl_max_mem xs (max x a)
    rw [List.foldl_cons]
    refine ⟨?_, by omega, fun y hy => ?_⟩
    · rcases h1 with h1 | h1
      · rw [h1]
        by_cases hx : x ≤ a
        · right; rw [Int.max_eq_right hx]; exact List.mem_cons_self
        · left; omega
      · exact .inr (List.mem_cons_of_mem _ h1)
    · rcases List.mem_cons.mp hy with e | hy
      · omega
      · exact h3 y hy
theorem foldl_min_mem : ∀ (xs : List Int) (x : Int), (xs.foldl min x = x ∨ xs.foldl min x ∈ xs) ∧ xs.foldl min x ≤ x ∧ ∀ y ∈ xs, xs.foldl min x ≤ y
  | [], x => ⟨.inl rfl, Int.le_refl x, fun y h => by cases h⟩
  | a :: xs, x => by
    obtain ⟨h1, h2, h3⟩ := foldl_min_mem xs (min x a)
    rw [List.foldl_cons]
    refine ⟨?_, by omega, fun y hy => ?_⟩
    · rcases h1 with h1 | h1
      · rw [h1]
        by_cases hx : a ≤ x
        · right; rw [Int.min_eq_right hx]; exact List.mem_cons_self
        · left; omega
      · exact .inr (List.mem_cons_of_mem _ h1)
    · rcases List.mem_cons.mp hy with e | hy
      · omega
      · exact h3 y hy
theorem max_is {ns : List Int} (h0 : 0 < ns.length) {m : Int} (h1 : m ∈ ns) (h2 : ∀ y, y ∈ ns → y ≤ m) : m = maxI ns := by
  match ns, h0 with
  | x :: xs, _ =>
    obtain ⟨a, b, c⟩ := foldl_max_mem xs x
    have u : xs.foldl max x ≤ m := by
      rcases a with a | a
      · rw [a]; exact h2 x List.mem_cons_self
      · exact h2 _ (List.mem_cons_of_mem _ a)
    have l : m ≤ xs.foldl max x := by
      rcases List.mem_cons.mp h1 with e | h1
      · omega
      · exact c m h1
    show m = xs.foldl max x
    omega
theorem min_is {ns : List Int} (h0 : 0 < ns.length) {m : Int} (h1 : m ∈ ns) (h2 : ∀ y, y ∈ ns → m ≤ y) : m = minI ns := by
  match ns, h0 with
  | x :: xs, _ =>
    obtain ⟨a, b, c⟩ := foldl_min_mem xs x
    have u : m ≤ xs.foldl min x := by
      rcases a with a | a
      · rw [a]; exact h2 x List.mem_cons_self
      · exact h2 _ (List.mem_cons_of_mem _ a)
    have l : xs.foldl min x ≤ m := by
      rcases List.mem_cons.mp h1 with e | h1
      · omega
      · exact c m h1
    show m = xs.foldl min x
    omega
def maxD : D → Option Val := ofI fun ns => if 0 < ns.length then some (.sh (.int (maxI ns))) else none
def minD : D → Option Val := ofI fun ns => if 0 < ns.length then some (.sh (.int (minI ns))) else none
def toL1 (r : List V → Hp → VK → Prop) : V → Hp → VK → Prop := fun x H Q => r [x] H Q
theorem call_1 {r : List V → Hp → VK → Prop} {f : Value} (h : CallR X f r) : CallR X f (fun xs H Q => ∃ x, xs = [x] ∧ toL1 r x H Q) := fun pins s σ H xs us Q I rr ⟨x, e, q⟩ => h pins s σ H xs us Q I rr (by rw [e]; exact q)
theorem und_sum : UnD X (toL1 (rSum X.K)) sumD := fun F0 H0 H σ ρ vs xs v d Q s ⟨x, hx, q⟩ => by
  obtain ⟨F, hF, a, t⟩ := s.oneT
  obtain ⟨p, ns, rfl, h1, h2⟩ := ofI_some hF a hx
  cases h2
  exact ⟨p, ns, rfl, h1, q H _ (s.pop.scal fun F => .int _)⟩
theorem und_all : UnD X (toL1 (rAll X.K)) allD := fun F0 H0 H σ ρ vs xs v d Q s ⟨x, hx, q⟩ => by
  obtain ⟨F, hF, a, t⟩ := s.oneT
  obtain ⟨p, ns, rfl, h1, h2⟩ := ofB_some hF a hx
  cases h2
  exact ⟨p, ns, rfl, h1, q H _ (s.pop.scal fun F => .bl _)⟩
theorem und_any : UnD X (toL1 (rAny X.K)) anyD := fun F0 H0 H σ ρ vs xs v d Q s ⟨x, hx, q⟩ => by
  obtain ⟨F, hF, a, t⟩ := s.oneT
  obtain ⟨p, ns, rfl, h1, h2⟩ := ofB_some hF a hx
  cases h2
  exact ⟨p, ns, rfl, h1, q H _ (s.pop.scal fun F => .bl _)⟩
theorem und_max : UnD X (toL1 (rMax X.K)) maxD := fun F0 H0 H σ ρ vs xs v d Q s ⟨x, hx, q⟩ => by
  obtain ⟨F, hF, a, t⟩ := s.oneT
  obtain ⟨p, ns, rfl, h1, h2⟩ := ofI_some hF a hx
  split at h2
  · rename_i h0
    cases h2
    exact ⟨p, ns, rfl, h1, h0, fun m z1 z2 => q H _ (s.pop.scal fun F => by rw [max_is h0 z1 z2]; exact .int _)⟩
  · cases h2
theorem und_min : UnD X (toL1 (rMin X.K)) minD := fun F0 H0 H σ ρ vs xs v d Q s ⟨x, hx, q⟩ => by
  obtain ⟨F, hF, a, t⟩ := s.oneT
  obtain ⟨p, ns, rfl, h1, h2⟩ := ofI_some hF a hx
  split at h2
  · rename_i h0
    cases h2
    exact ⟨p, ns, rfl, h1, h0, fun m z1 z2 => q H _ (s.pop.scal fun F => by rw [min_is h0 z1 z2]; exact .int _)⟩
  · cases h2
/-! of two arguments -/
def g2 (g : D → D → Option Val) : List D → Option Val
  | [d, e] => g d e
  | _ => none
theorem g2_some {g : D → D → Option Val} {ds : List D} {x : Val} (h : g2 g ds = some x) : ∃ d e, ds = [d, e] ∧ g d e = some x := by
  match ds, h with
  | [d, e], h => exact ⟨d, e, rfl, h⟩
theorem calld_2I {C : Int → Int → Prop} {r : Int → Int → Hp → VK → Prop} {g : D → D → Option Val} (h : ∀ F0 H0 H σ ρ vs xs i j x (Q : VK), Stt X.K F0 H0 H σ ρ vs xs → g (.int i) (.int j) = some x → (∀ H' u, Stt X.K F0 H0 H' σ ρ (u :: vs) (x :: xs) → Q u H') → r i j H Q)
    (hn : ∀ d e x, g d e = some x → ∃ i j, d = .int i ∧ e = .int j) : CallD X (fun xs H Q => ∃ i j, xs = [.int i, .int j] ∧ r i j H Q) (g2 g) := fun F0 H0 H σ ρ vs xs ws ds Q hl s ⟨x, hx, q⟩ => by
  obtain ⟨d, e, rfl, hg⟩ := g2_some hx
  obtain ⟨i, j, rfl, rfl⟩ := hn _ _ _ hg
  match ws, hl with
  | [v, w], _ =>
    obtain ⟨F, hF, hA, t⟩ := Stt.reads (as := [v, w]) (ds := [.int i, .int j]) rfl s
    cases hA with
    | cons a b =>
      cases b with
      | cons b _ =>
        cases a
        cases b
        exact ⟨i, j, rfl, h F0 H0 H σ ρ vs xs i j x Q s.pop.pop hg q⟩
def max2D : D → D → Option Val := fun d e => match d, e with
  | .int i, .int j => some (.sh (.int (if j > i then j else i)))
  | _, _ => none
def min2D : D → D → Option Val := fun d e => match d, e with
  | .int i, .int j => some (.sh (.int (if j < i then j else i)))
  | _, _ => none
instance (i j : Int) : Decidable (CDiv i j) := by unfold CDiv; infer_instance
def divmodD : D → D → Option Val := fun d e => match d, e with
  | .int i, .int j => if CDiv i j then some (.sh (.tup [.int (i / j), .int (i % j)])) else none
  | _, _ => none
theorem ints_of2 {f : Int → Int → Option Val} {d e : D} {x : Val} (h : (match d, e with | .int i, .int j => f i j | _, _ => none) = some x) : ∃ i j, d = .int i ∧ e = .int j := by
  match d, e, h with
  | .int i, .int j, h => exact ⟨i, j, rfl, rfl⟩
theorem calld_max2 : CallD X (fun xs H Q => ∃ i j, xs = [.int i, .int j] ∧ Q (.int (if j > i then j else i)) H) (g2 max2D) :=
  calld_2I (C := fun _ _ => True) (fun F0 H0 H σ ρ vs xs i j x Q s hg q => by cases hg; exact q H _ (s.scal fun F => .int _)) fun d e x h => ints_of2 (f := fun i j => some (.sh (.int (if j > i then j else i)))) h
theorem calld_min2 : CallD X (fun xs H Q => ∃ i j, xs = [.int i, .int j] ∧ Q (.int (if j < i then j else i)) H) (g2 min2D) :=
  calld_2I (C := fun _ _ => True) (fun F0 H0 H σ ρ vs xs i j x Q s hg q => by cases hg; exact q H _ (s.scal fun F => .int _)) fun d e x h => ints_of2 (f := fun i j => some (.sh (.int (if j < i then j else i)))) h
theorem calld_divmod : CallD X (fun xs H Q => ∃ i j, xs = [.int i, .int j] ∧ CDiv i j ∧ ∀ p, H p = none → Q (.ref p) (upd H p (.tup [.int (i / j), .int (i % j)]))) (g2 divmodD) :=
  calld_2I (C := fun _ _ => True) (r := fun i j H Q => CDiv i j ∧ ∀ p, H p = none → Q (.ref p) (upd H p (.tup [.int (i / j), .int (i % j)]))) (fun F0 H0 H σ ρ vs xs i j x Q s hg q => by
    have hg : (if CDiv i j then some (Val.sh (.tup [.int (i / j), .int (i % j)])) else none) = some x := hg
    split at hg
    · cases hg
      exact ⟨by assumption, fun p np => q _ _ (Stt.newTup (as := [.int (i / j), .int (i % j)]) (ds := [.int (i / j), .int (i % j)]) rfl ((s.scal fun _ => .int (i % j)).scal fun _ => .int (i / j)) np)⟩
    · cases hg) fun d e x h => ints_of2 (f := fun i j => if CDiv i j then some (.sh (.tup [.int (i / j), .int (i % j)])) else none) h
end
/-! the rules by name -/
section
variable {X : Cx} {p pos : Pos} {e e2 : Expr} {es : List Expr} {fs : DEnv → R (List Val)} {f : DEnv → R Val}
theorem de_len (hg : Gl X "len") (hm : X.mg "len" = none) (ha : DA X [e] fs) (he : starEach [e] X.env = (false, eval e X.env) :: starEach [] X.env := by rfl) : DE X (.Call (.Name "len" p) [e] [] pos) (sCB (g1 lenD) fs) := de_callB call_len1 (calld_1 und_len) hg hm (by decide +kernel) ha (he := he)
theorem de_abs (hg : Gl X "abs") (hm : X.mg "abs" = none) (ha : DA X [e] fs) (he : starEach [e] X.env = (false, eval e X.env) :: starEach [] X.env := by rfl) : DE X (.Call (.Name "abs" p) [e] [] pos) (sCB (g1 absD) fs) := de_callB call_abs1 (calld_1 und_abs) hg hm (by decide +kernel) ha (he := he)
theorem de_int1 (hg : Gl X "int") (hm : X.mg "int" = none) (ha : DA X [e] fs) (he : starEach [e] X.env = (false, eval e X.env) :: starEach [] X.env := by rfl) : DE X (.Call (.Name "int" p) [e] [] pos) (sCB (g1 intD) fs) := de_callTy call_intA (calld_1 und_int) hg hm (by decide +kernel) ha (he := he)
theorem de_str1 (hg : Gl X "str") (hm : X.mg "str" = none) (ha : DA X [e] fs) (he : starEach [e] X.env = (false, eval e X.env) :: starEach [] X.env := by rfl) : DE X (.Call (.Name "str" p) [e] [] pos) (sCB (g1 strD) fs) := de_callTy call_strA (calld_1 und_str) hg hm (by decide +kernel) ha (he := he)
theorem de_list1 (hg : Gl X "list") (hm : X.mg "list" = none) (ha : DA X [e] fs) (he : starEach [e] X.env = (false, eval e X.env) :: starEach [] X.env := by rfl) : DE X (.Call (.Name "list" p) [e] [] pos) (sCB (g1 listD) fs) := de_callTy call_listA (calld_1 und_list) hg hm (by decide +kernel) ha (he := he)
theorem de_tuple1 (hg : Gl X "tuple") (hm : X.mg "tuple" = none) (ha : DA X [e] fs) (he : starEach [e] X.env = (false, eval e X.env) :: starEach [] X.env := by rfl) : DE X (.Call (.Name "tuple" p) [e] [] pos) (sCB (g1 tupleD) fs) := de_callTy call_tupleA (calld_1 und_tuple) hg hm (by decide +kernel) ha (he := he)
theorem de_sum (hc : X.calm = true) (hg : Gl X "sum") (hm : X.mg "sum" = none) (ha : DA X [e] fs) (he : starEach [e] X.env = (false, eval e X.env) :: starEach [] X.env := by rfl) : DE X (.Call (.Name "sum" p) [e] [] pos) (sCB (g1 sumD) fs) := de_callB (call_1 (cr_sum hc)) (calld_1 und_sum) hg hm (by decide +kernel) ha (he := he)
theorem de_all (hc : X.calm = true) (hg : Gl X "all") (hm : X.mg "all" = none) (ha : DA X [e] fs) (he : starEach [e] X.env = (false, eval e X.env) :: starEach [] X.env := by rfl) : DE X (.Call (.Name "all" p) [e] [] pos) (sCB (g1 allD) fs) := de_callB (call_1 (cr_all hc)) (calld_1 und_all) hg hm (by decide +kernel) ha (he := he)
theorem de_any (hc : X.calm = true) (hg : Gl X "any") (hm : X.mg "any" = none) (ha : DA X [e] fs) (he : starEach [e] X.env = (false, eval e X.env) :: starEach [] X.env := by rfl) : DE X (.Call (.Name "any" p) [e] [] pos) (sCB (g1 anyD) fs) := de_callB (call_1 (cr_any hc)) (calld_1 und_any) hg hm (by decide +kernel) ha (he := he)
theorem de_max1 (hc : X.calm = true) (hg : Gl X "max") (hm : X.mg "max" = none) (ha : DA X [e] fs) (he : starEach [e] X.env = (false, eval e X.env) :: starEach [] X.env := by rfl) : DE X (.Call (.Name "max" p) [e] [] pos) (sCB (g1 maxD) fs) := de_callB (call_1 (cr_max hc)) (calld_1 und_max) hg hm (by decide +kernel) ha (he := he)
theorem de_min1 (hc : X.calm = true) (hg : Gl X "min") (hm : X.mg "min" = none) (ha : DA X [e] fs) (he : starEach [e] X.env = (false, eval e X.env) :: starEach [] X.env := by rfl) : DE X (.Call (.Name "min" p) [e] [] pos) (sCB (g1 minD) fs) := de_callB (call_1 (cr_min hc)) (calld_1 und_min) hg hm (by decide +kernel) ha (he := he)
theorem de_max2 (hc : X.calm = true) (hg : Gl X "max") (hm : X.mg "max" = none) (ha : DA X [e, e2] fs) (he : starEach [e, e2] X.env = (false, eval e X.env) :: starEach [e2] X.env := by rfl) (hpl : (backTo pos (starEach [e2] X.env)).any (·.1) = false := by rfl) : DE X (.Call (.Name "max" p) [e, e2] [] pos) (sCB (g2 max2D) fs) := de_callB (call_max2 hc) calld_max2 hg hm (by decide +kernel) ha (he := he) (hpl := hpl)
theorem de_min2 (hc : X.calm = true) (hg : Gl X "min") (hm : X.mg "min" = none) (ha : DA X [e, e2] fs) (he : starEach [e, e2] X.env = (false, eval e X.env) :: starEach [e2] X.env := by rfl) (hpl : (backTo pos (starEach [e2] X.env)).any (·.1) = false := by rfl) : DE X (.Call (.Name "min" p) [e, e2] [] pos) (sCB (g2 min2D) fs) := de_callB (call_min2 hc) calld_min2 hg hm (by decide +kernel) ha (he := he) (hpl := hpl)
theorem de_divmod (hg : Gl X "divmod") (hm : X.mg "divmod" = none) (ha : DA X [e, e2] fs) (he : starEach [e, e2] X.env = (false, eval e X.env) :: starEach [e2] X.env := by rfl) (hpl : (backTo pos (starEach [e2] X.env)).any (·.1) = false := by rfl) : DE X (.Call (.Name "divmod" p) [e, e2] [] pos) (sCB (g2 divmodD) fs) := de_callB call_divmod calld_divmod hg hm (by decide +kernel) ha (he := he) (hpl := hpl)
end
end DL

/-! DLg: names that own lists; isinstance; in; defs, calls. -/
namespace DL
open PySem PySem.Spec L2

/-! ### a name that owns a list: it is read without being left to others -/
theorem at_le {K : PySem.W.Frag} {F H : Hp} {v : V} {d : D} {x : Val} (hF : Same F H) (a : At K F v d) (h : lenD d = some x) : ∃ n : Nat, LenV K v H n ∧ x = .sh (.int n) := by
  match d, a, h with
  | .lst ds, .lst (vs := us) h1 k1, h => cases h; exact ⟨us.length, .inl ⟨us, hF.seq (.of h1), rfl⟩, by rw [k1.length]⟩
  | .scr ds, .scr (vs := us) h1 k1, h => cases h; exact ⟨us.length, .inl ⟨us, hF.seq h1, rfl⟩, by rw [k1.length]⟩
  | .tup ds, .tup (vs := us) h1 k1, h => cases h; exact ⟨us.length, .inr ⟨us, sameT hF h1, rfl⟩, by rw [k1.length]⟩
  | .str z, .str _, h =>
    have hx : (if z.length ≤ 10000000 then some (Val.sh (.int z.length)) else none) = some x := h
    split at hx
    · rename_i hz
      cases hx
      exact ⟨z.length, ⟨sz_of hz, rfl⟩, rfl⟩
    · cases hx
theorem own_le {K : PySem.W.Frag} {F H : Hp} (hF : Same F H) : ∀ {y : Val} {v : V} {f : List Addr} {x : Val}, Own K F H v y f → lenD y.fz = some x → ∃ n : Nat, LenV K v H n ∧ x = .sh (.int n)
  | _, _, _, _, .sh a, h => at_le hF a (by rw [Val.fz] at h; exact h)
  | _, _, _, _, .lst (vs := us) h1 h2 h3, h => by
    rw [Val.fz] at h
    cases h
    exact ⟨us.length, .inl ⟨us, .of h2, rfl⟩, by rw [h3.length, fzs_map, List.length_map]⟩
  | _, _, _, _, .tup (vs := us) h1 h2 h3, h => by
    rw [Val.fz] at h
    cases h
    exact ⟨us.length, .inr ⟨us, .of h2, rfl⟩, by rw [h3.length, fzs_map, List.length_map]⟩
  | _, _, _, _, .dic _ _ _ _ _, h => by rw [Val.fz] at h; cases h
  | _, _, _, _, .dicL _ _ _ _ _ _ _, h => by rw [Val.fz] at h; cases h
  | _, _, _, _, .obj _ _ _ _, h => by rw [Val.fz] at h; cases h
  | _, _, _, _, .at a, h => own_le hF a (by rw [Val.fz] at h; exact h)
  | _, _, _, _, .dcv _ _ _ _ _, h => by rw [Val.fz] at h; cases h
def sLenV (i : Nat) : DEnv → R Val := fun ρ => match getV ρ[i]? with
  | some (.lst xs) => .ok (.sh (.int xs.length)) ρ
  | some x => liftO (lenD x.fz) ρ
  | none => .bad
def ixV (x : Val) (e : D) : Option D := match x, e with
  | .lst xs, .int i => (atI xs i).bind fun y => match y with
    | .sh d => some d
    | _ => none
  | .tup xs, .int i => (atI xs i).bind fun y => match y with
    | .sh d => some d
    | _ => none
  | .sh d, e => match ixD d e with
    | some (.sh d) => some d
    | _ => none
  | _, _ => none
/-- x[e], x a name -/
def sIxV (i : Nat) (f : DEnv → R Val) : DEnv → R Val := fun ρ => match getV ρ[i]? with
  | none => .bad
  | some _ => (f ρ).bind fun y ρ1 => match getV ρ1[i]? with
    | none => .bad
    | some x => liftO ((ixV x y.fz).map .sh) ρ1
/-- x.append(e) -/
def sApp (i : Nat) (f : DEnv → R Val) : DEnv → Fl := fun ρ => match getV ρ[i]? with
  | some (.lst _) => (f ρ).fl fun y ρ1 => match getV ρ1[i]? with
    | some (.lst xs) => if xs.length < 10000000 then .nx (ρ1.set i (some (.lst (xs ++ [y])))) else .bad
    | _ => .bad
  | _ => .bad
/-- x[k] = e -/
def setIx (i : Nat) (y : Val) (k : D) (ρ : DEnv) : Fl := match getV ρ[i]?, k with
  | some (.lst xs), .int n => match ixN xs.length n with
    | some j => .nx (ρ.set i (some (.lst (xs.set j y))))
    | none => .bad
  | _, _ => .bad
def ownsL (i : Nat) (ρ : DEnv) : Bool := match getV ρ[i]? with
  | some (.lst _) => true
  | _ => false
def sSetIx (i : Nat) (fk fe : DEnv → R Val) : DEnv → Fl := fun ρ => (fe ρ).fl fun y ρ1 => if ownsL i ρ1 = true then (fk ρ1).fl fun k ρ2 => setIx i y k.fz ρ2 else .bad
theorem ownsL_some {i : Nat} {ρ : DEnv} (h : ownsL i ρ = true) : ∃ xs, getV ρ[i]? = some (.lst xs) := by
  unfold ownsL at h
  split at h
  · exact ⟨_, by assumption⟩
  · cases h
theorem setIx_some {i : Nat} {y : Val} {k : D} {ρ : DEnv} : setIx i y k ρ = .bad ∨ ∃ xs n j, getV ρ[i]? = some (.lst xs) ∧ k = .int n ∧ ixN xs.length n = some j ∧ setIx i y k ρ = .nx (ρ.set i (some (.lst (xs.set j y)))) := by
  unfold setIx
  split
  · rename_i xs n e
    cases e2 : ixN xs.length n with
    | none => exact .inl rfl
    | some j => exact .inr ⟨_, _, j, e, rfl, e2, rfl⟩
  · exact .inl rfl
section
variable {K : PySem.W.Frag} {F0 H0 H : Hp} {σ : L2.St} {ρ : DEnv} {vs : List V} {xs ys : List Val} {i : Nat} {x : Val}
theorem Stt.peek (h : Stt K F0 H0 H σ ρ vs xs) (e : ρ[i]? = some (some x)) : ∃ v, σ[i]? = some (some v) ∧ ∃ F f, Same F H ∧ Own K F H v x f ∧ (∀ as ds, Ats K F as ds → Stt K F0 H0 H σ ρ (as ++ vs) (ds.map .sh ++ xs)) := by
  obtain ⟨F, f, g, h1, h2, h3, h4, h5, h6, h7, h8⟩ := h
  obtain ⟨v, g1, r, k1, k2, k3, k4⟩ := Sl.take i h5 e
  refine ⟨v, k1, F, g1, h3, k2, fun as ds k => ?_⟩
  obtain ⟨g3, c1, c2, c3⟩ := (Owns.of_ats (H := H) k).append h6
  have s : Sb (g3 ++ f) (g ++ f) := Sb.app (by simpa using c2) (.refl f)
  exact ⟨F, f, g3, h1, h2, h3, h4, h5, c1, s.2 h7, fun b hb => h8 b (s.1 b hb)⟩
end
theorem owns_at {K : PySem.W.Frag} {F H : Hp} : ∀ {vs : List V} {xs : List Val} {f : List Addr}, Owns K F H vs xs f → ∀ {j : Nat} {d : D}, xs[j]? = some (.sh d) → ∃ v, vs[j]? = some v ∧ At K F v d
  | _, _, _, .nil, _, _, e => by simp at e
  | _, _, _, .cons (.sh a) _, 0, d, e => by simp at e; subst e; exact ⟨_, rfl, a⟩
  | _, _, _, .cons (.lst _ _ _) _, 0, d, e => by simp at e
  | _, _, _, .cons (.tup _ _ _) _, 0, d, e => by simp at e
  | _, _, _, .cons (.dic _ _ _ _ _) _, 0, d, e => by simp at e
  | _, _, _, .cons (.dicL _ _ _ _ _ _ _) _, 0, d, e => by simp at e
  | _, _, _, .cons (.obj _ _ _ _) _, 0, d, e => by simp at e
  | _, _, _, .cons (.at _) _, 0, d, e => by simp at e
  | _, _, _, .cons (.dcv _ _ _ _ _) _, 0, d, e => by simp at e
  | _, _, _, .cons _ t, j + 1, d, e => by
    obtain ⟨v, h1, h2⟩ := owns_at t (j := j) (d := d) (by simpa using e)
    exact ⟨v, by simpa using h1, h2⟩
section
variable {X : Cx} {a b e : Expr} {fa fb f : DEnv → R Val} {pos p apos : Pos} {x : Str} {i : Nat}
theorem pv_look {σ : L2.St} {v : V} (h : σ[i]? = some (some v)) {H : Hp} {Q : VK} (q : Q v H) : tVar i σ H Q := ⟨v, h, q⟩
theorem de_lenV (hg : Gl X "len") (hm : X.mg "len" = none) {q : Pos} (hx : PE X (.Name x q) (tVar i)) (he : starEach [.Name x q] X.env = (false, eval (.Name x q) X.env) :: starEach [] X.env := by rfl) : DE X (.Call (.Name "len" p) [.Name x q] [] pos) (sLenV i) :=
  PE.imp (pe_callB call_len1 hg hm (by decide +kernel) (pa_cons hx pa_nil he) (he := he)) fun σ H Q ⟨F0, H0, ρ, vs, xs, s, q⟩ => by
    unfold sLenV at q
    cases e : getV ρ[i]? with
    | none => rw [e] at q; exact q.elim
    | some y =>
      rw [e] at q
      obtain ⟨v, k1, F, f, hF, ho, t⟩ := s.peek (getV_some e)
      refine ⟨v, k1, v, rfl, ?_⟩
      cases ho with
      | @sh vv dd a =>
        have q' : post X F0 H0 vs xs (fun x ρ' => ∀ H' v, Stt X.K F0 H0 H' σ ρ' (v :: vs) (x :: xs) → Q v H') (liftO (lenD dd) ρ) := q
        cases e2 : lenD dd with
        | none => rw [e2] at q'; exact q'.elim
        | some z =>
          rw [e2] at q'
          obtain ⟨n, h1, rfl⟩ := at_le hF a e2
          exact ⟨n, h1, q' H _ (s.scal fun _ => .int _)⟩
      | @lst pp us zs ff h1 h2 h3 =>
        exact ⟨us.length, .inl ⟨us, .of h2, rfl⟩, by rw [h3.length]; exact q H _ (s.scal fun _ => .int _)⟩
      | @tup pp us zs ff h1 h2 h3 =>
        have q' : post X F0 H0 vs xs (fun x ρ' => ∀ H' v, Stt X.K F0 H0 H' σ ρ' (v :: vs) (x :: xs) → Q v H') (liftO (lenD (.tup (fzs zs))) ρ) := q
        refine ⟨us.length, .inr ⟨us, .of h2, rfl⟩, q' H _ ?_⟩
        have e3 : us.length = (fzs zs).length := by rw [h3.length, fzs_map, List.length_map]
        rw [e3]
        exact s.scal fun _ => .int _
      | dic => exact (show False from q).elim
      | dicL => exact (show False from q).elim
      | obj => exact (show False from q).elim
      | dcv => exact (show False from q).elim
      | @«at» pp9 x9 ff9 h9 =>
        have q' : post X F0 H0 vs xs (fun x ρ' => ∀ H' v, Stt X.K F0 H0 H' σ ρ' (v :: vs) (x :: xs) → Q v H') (liftO (lenD x9.fz) ρ) := q
        cases e2 : lenD x9.fz with
        | none => rw [e2] at q'; exact q'.elim
        | some z =>
          rw [e2] at q'
          obtain ⟨n, h1, rfl⟩ := own_le hF h9 e2
          exact ⟨n, h1, q' H _ (s.scal fun _ => .int _)⟩
theorem de_ixV {q : Pos} (hx : PE X (.Name x q) (tVar i)) (hb : DE X b fb) (hs : PlainIx b := by exact fun _ _ => rfl) : DE X (.Subscript (.Name x q) b pos) (sIxV i fb) :=
  PE.imp (pe_ix ix_seq hx hb hs) fun σ H Q ⟨F0, H0, ρ, vs, xs, s, q⟩ => by
    unfold sIxV at q
    cases e0 : getV ρ[i]? with
    | none => rw [e0] at q; exact q.elim
    | some y0 =>
      rw [e0] at q
      obtain ⟨v, k0, _⟩ := s.peek (getV_some e0)
      refine ⟨v, k0, F0, H0, ρ, vs, xs, s, (post_bind q).imp (fun y ρ1 q1 H1 w s1 => ?_) fun _ _ z => z⟩
      cases e : getV ρ1[i]? with
      | none => rw [e] at q1; exact q1.elim
      | some z =>
        rw [e] at q1
        obtain ⟨v', k1, F, f, hF, ho, t⟩ := s1.fz.peek (getV_some e)
        have ev : v' = v := by rw [k0] at k1; cases k1; rfl
        subst ev
        cases e2 : ixV z y.fz with
        | none => simp only [e2] at q1; exact q1.elim
        | some d =>
          simp only [e2] at q1
          have ew : ∀ j, y.fz = .int j → w = .int j := fun j hj => by
            obtain ⟨F', _, a, _⟩ := s1.fz.oneT
            rw [hj] at a
            cases a
            rfl
          cases ho with
          | @lst pp us zs ff h1 h2 h3 =>
            match hy : y.fz, e2 with
            | .int j, e2 =>
              have e3 : ((atI zs j).bind fun y => match y with | .sh d => some d | _ => none) = some d := e2
              obtain ⟨u, e4, e5⟩ := Option.bind_eq_some_iff.mp e3
              cases u with
              | lst _ => cases e5
              | tup _ => cases e5
              | dic _ _ => cases e5
              | obj _ _ _ => cases e5
              | «at» _ _ => cases e5
              | dcv _ _ => cases e5
              | sh d' =>
                cases e5
                unfold atI at e4
                obtain ⟨n, e6, e7⟩ := Option.bind_eq_some_iff.mp e4
                obtain ⟨u, e8, a⟩ := owns_at h3 e7
                have s2 := (t [u] _ (.one a))
                refine .inl ⟨pp, us, j, u, rfl, ew j hy, .of h2, ?_, q1 H1 _ ?_⟩
                · unfold atI
                  rw [h3.length, e6]
                  exact e8
                · exact (Stt.turn (as := [u]) (bs := [.sh _]) rfl s2).pop
          | @obj pp9 C9 dx9 ns9 us9 ds9 _ _ _ _ =>
            have e9 : ∀ e : D, ixV (.obj C9 ns9 ds9) e = none := fun e => by cases e <;> rfl
            rw [e9] at e2
            cases e2
          | @dcv pp9 kk9 vs9 xs9 ff9 _ _ _ _ _ =>
            have e9 : ∀ e : D, ixV (.dcv kk9 xs9) e = none := fun e => by cases e <;> rfl
            rw [e9] at e2
            cases e2
          | @«at» pp9 x9 ff9 =>
            have e9 : ∀ e : D, ixV (.at pp9 x9) e = none := fun e => by cases e <;> rfl
            rw [e9] at e2
            cases e2
          | @dicL pp us bb ff uu oo =>
            have e9 : ∀ e : D, ixV (.dic bb ff) e = none := fun e => by cases e <;> rfl
            rw [e9] at e2
            cases e2
          | @dic pp us bb ff =>
            have e9 : ∀ e : D, ixV (.dic bb ff) e = none := fun e => by cases e <;> rfl
            rw [e9] at e2
            cases e2
          | @sh vv dd a =>
            have e3 : (match ixD dd y.fz with | some (.sh d) => some d | _ => none) = some d := e2
            cases e4 : ixD dd y.fz with
            | none => rw [e4] at e3; cases e3
            | some u =>
              rw [e4] at e3
              match u, e3, e4 with
              | .sh d', e3, e4 =>
                cases e3
                have s2 : Stt X.K F0 H0 H1 σ ρ1 (w :: v' :: vs) (.sh y.fz :: .sh dd :: xs) := Stt.turn' (as := [w]) (bs := [.sh y.fz]) rfl (t [v'] [dd] (.one a))
                exact opd_ix F0 H0 H1 σ ρ1 vs xs v' w dd y.fz Q s2 ⟨_, e4, q1⟩
          | @tup pp us zs ff h1 h2 h3 =>
            match hy : y.fz, e2 with
            | .int j, e2 =>
              have e3 : ((atI zs j).bind fun y => match y with | .sh d => some d | _ => none) = some d := e2
              obtain ⟨u, e4, e5⟩ := Option.bind_eq_some_iff.mp e3
              cases u with
              | lst _ => cases e5
              | tup _ => cases e5
              | dic _ _ => cases e5
              | obj _ _ _ => cases e5
              | «at» _ _ => cases e5
              | dcv _ _ => cases e5
              | sh d' =>
                cases e5
                unfold atI at e4
                obtain ⟨n, e6, e7⟩ := Option.bind_eq_some_iff.mp e4
                obtain ⟨u, e8, a⟩ := owns_at h3 e7
                have s2 := (t [u] _ (.one a))
                refine .inr (.inl ⟨pp, us, j, u, rfl, ew j hy, .of h2, ?_, q1 H1 _ ?_⟩)
                · unfold atI
                  rw [h3.length, e6]
                  exact e8
                · exact (Stt.turn (as := [u]) (bs := [.sh _]) rfl s2).pop
theorem ds_app {q : Pos} (hb : PE X (.Call (.Attribute (.Name x q) "append" apos) [e] [] p) (tBM X.K "list" rAppend (tVar i) (tCons (tE X fb) tNil)))
    (hs : swapsWith (.Call (.Attribute (.Name x q) "append" apos) [e] [] p) none pos.line X.env = pure false := by rfl) :
    DS X (.Expr (.Call (.Attribute (.Name x q) "append" apos) [e] [] p) pos) (sApp i fb) :=
  PS.imp (ps_expr hb hs) fun D σ H ⟨F0, H0, ρ, vs, xs, s, q⟩ => by
    unfold sApp at q
    match e0 : getV ρ[i]?, q with
    | some (.lst xs0), q =>
      obtain ⟨v, k0, F, f, hF, ho, _⟩ := s.peek (getV_some e0)
      cases ho with
      | @lst pp us zs ff h1 h2 h3 =>
        refine ⟨_, k0, .inl ⟨rfl, us, .of h2⟩, F0, H0, ρ, vs, xs, s, (post_fl q).imp (fun y ρ1 q1 H1 w s1 => ?_) fun _ _ z => z⟩
        match e1 : getV ρ1[i]?, q1 with
        | some (.lst xs1), q1 =>
          have q1 : fpost X F0 H0 vs xs D (if xs1.length < 10000000 then .nx (ρ1.set i (some (.lst (xs1 ++ [y])))) else .bad) := q1
          split at q1
          · rename_i hz
            obtain ⟨p1, ws, c1, c2, c3, c4⟩ := Stt.edit (as := [w]) (bs := [y]) rfl s1 (getV_some e1)
            have ep : p1 = pp := by rw [k0] at c1; cases c1; rfl
            subst ep
            refine ⟨p1, ws, w, rfl, rfl, c2, by rw [c3, sizeLine_eq]; omega, q1 σ _ ?_⟩
            exact c4 (ws ++ [w]) (xs1 ++ [y]) [] [] fun F H f hO => ⟨f, [], hO, .nil, by rw [List.append_nil]; exact .refl f⟩
          · exact q1.elim
theorem owns_set {K : PySem.W.Frag} {F H : Hp} {w : V} {y : Val} : ∀ {vs : List V} {xs : List Val} {f : List Addr} (j : Nat), j < xs.length → Owns K F H (vs ++ [w]) (xs ++ [y]) f → vs.length = xs.length → ∃ f1, Owns K F H (vs.set j w) (xs.set j y) f1 ∧ Sb f1 f
  | [], [], _, _, hj, _, _ => by simp at hj
  | v :: vs, x :: xs, _, 0, _, .cons (f := f1) (g := f2) a t, hl => by
    obtain ⟨g1, g2, h1, h2, h3, _⟩ := Owns.split (by simpa using hl) t
    cases h2 with
    | @cons _ _ _ _ g3 _ b n =>
      cases n
      refine ⟨_, .cons b h1, ?_⟩
      have p : Sb (g3 ++ g1) (g1 ++ (g3 ++ [])) := by rw [List.append_nil]; exact .comm _ _
      exact (p.trans h3).trans (.right _ _)
  | v :: vs, x :: xs, _, j + 1, hj, .cons (f := f1) a t, hl => by
    obtain ⟨f2, h1, h2⟩ := owns_set j (by simpa using hj) t (by simpa using hl)
    exact ⟨_, .cons a h1, (Sb.refl f1).app h2⟩
theorem ds_setIx {q qpos : Pos} (hg : PG X (.Subscript (.Name x q) a qpos) (gSub (tVar i) (tE X fa) rSetL)) (he : DE X e fb)
    (hs : swapsWithSole [.Subscript (.Name x q) a qpos] e pos.line X.env = pure false := by rfl) (hw : swappedStores [.Subscript (.Name x q) a qpos] e X.env = pure none := by rfl)
    (h1 : (assignEach [.Subscript (.Name x q) a qpos] X.env).map (·.2) = [assign (.Subscript (.Name x q) a qpos) X.env] := by rfl)
    :
    DS X (.Assign [.Subscript (.Name x q) a qpos] e pos) (sSetIx i fa fb) :=
  PS.imp (ps_asg he hg hs hw h1) fun D σ H ⟨F0, H0, ρ, vs, xs, s, q⟩ => by
    refine ⟨F0, H0, ρ, vs, xs, s, (post_fl q).imp (fun y ρ1 q1 H1 w s1 => ?_) fun _ _ z => z⟩
    split at q1
    rotate_left
    · exact q1.elim
    rename_i ho1
    obtain ⟨xs0, e0⟩ := ownsL_some ho1
    obtain ⟨v, k0, F, f, hF, ho, _⟩ := s1.peek (getV_some e0)
    cases ho with
    | @lst pp us zs ff h1 h2 h3 =>
      refine ⟨_, k0, F0, H0, ρ1, _, _, s1, (post_fl q1).imp (fun k ρ2 q2 H2 kk s2 => ?_) fun _ _ z => z.more⟩
      rcases setIx_some (i := i) (y := y) (k := k.fz) (ρ := ρ2) with e1 | ⟨xs1, n, j, e1, hk, e2, e3⟩
      · rw [e1] at q2; exact q2.elim
      · rw [e3] at q2
        obtain ⟨F', _, ak, _⟩ := s2.fz.oneT
        rw [hk] at ak
        cases ak
        obtain ⟨p1, ws, c1, c2, c3, c4⟩ := Stt.edit (as := [w]) (bs := [y]) rfl s2.pop (getV_some e1)
        have ep : p1 = pp := by rw [k0] at c1; cases c1; rfl
        subst ep
        have hj := (ixN_seq e2).2.1
        refine ⟨p1, ws, n, j, rfl, rfl, c2, by rw [c3]; exact e2, q2 σ _ ?_⟩
        refine c4 (ws.set j w) (xs1.set j y) [] [] fun F H f hO => ?_
        obtain ⟨f1, o1, o2⟩ := owns_set j hj hO c3
        exact ⟨f1, [], o1, .nil, by rw [List.append_nil]; exact o2⟩
end

/-! ### isinstance of built-in classes -/
inductive BT where
  | int | bool | str | list | tuple
def BT.nm : BT → String
  | .int => "int" | .bool => "bool" | .str => "str" | .list => "list" | .tuple => "tuple"
def D.isB : BT → D → Option Bool
  | .int, .int _ => some true
  | .int, .bl _ => some true
  | .bool, .bl _ => some true
  | .str, .str _ => some true
  | .list, .lst _ => some true
  | .list, .scr _ => some true
  | .tuple, .tup _ => some true
  | _, .ins _ _ _ => none
  | _, .junk => none
  | _, .exn _ _ _ _ => none
  | _, .dct _ _ => none
  | _, _ => some false
def isiD (T : BT) : D → Option Val := fun d => (d.isB T).map fun b => .sh (.bl b)
section
variable {X : Cx} {e : Expr} {f : DEnv → R Val} {p pos q : Pos}
theorem und_isi (T : BT) : UnD X (fun x H Q => rIsi X.K [x, .ty T.nm] H Q) (isiD T) := fun F0 H0 H σ ρ vs xs v d Q s ⟨x, hx, q⟩ => by
  obtain ⟨F, hF, a, t⟩ := s.oneT
  obtain ⟨b, e1, rfl⟩ := Option.map_eq_some_iff.mp hx
  have fin : ∀ t : String, kitB t T.nm = some b → TyX X.K H v (.type t) → rIsi X.K [v, .ty T.nm] H Q := fun t h1 h2 =>
    ⟨v, .ty T.nm, .type t, .type T.nm, b, rfl, .ty _, h2, kit_ty h1, q H _ (s.pop.scal fun F => .bl _)⟩
  have tl : ∀ {a : Addr} {us : List V}, SqL X.K F a us → TyX X.K H (.ref a) (.type "list") := fun h => by
    rcases hF.seq h with (h | ⟨o, h⟩) | ⟨o, its, n, h1, h2, _⟩
    · exact .base (.lst h)
    · exact .base (.frz h)
    · exact .kList h1 h2
  have tt : ∀ {a : Addr} {us : List V}, TupAt X.K F a us → TyX X.K H (.ref a) (.type "tuple") := fun h => by
    rcases sameT hF h with (h | ⟨o, h⟩) | ⟨o, its, n, h1, h2, _⟩
    · exact .base (.tup h)
    · exact .fTuple h
    · exact .kTuple h1 h2
  cases a with
  | non => exact fin "NoneType" (by cases T <;> cases e1 <;> decide +kernel) (.base .non)
  | bl k => exact fin "bool" (by cases T <;> cases e1 <;> decide +kernel) (.base (.bl k))
  | int i => exact fin "int" (by cases T <;> cases e1 <;> decide +kernel) (.base (.int i))
  | str z => exact fin "str" (by cases T <;> cases e1 <;> decide +kernel) (.base (.str z))
  | lst h1 h2 => exact fin "list" (by cases T <;> cases e1 <;> decide +kernel) (tl (.of h1))
  | scr h1 h2 => exact fin "list" (by cases T <;> cases e1 <;> decide +kernel) (tl h1)
  | tup h1 h2 => exact fin "tuple" (by cases T <;> cases e1 <;> decide +kernel) (tt h1)
  | ins _ _ _ => cases T <;> cases e1
  | junk _ => cases T <;> cases e1
  | exn _ _ _ _ => cases T <;> cases e1
  | dct => cases T <;> cases e1
theorem de_isi (T : BT) {y : Str} (hg : Gl X "isinstance") (hm : X.mg "isinstance" = none) (he : DE X e f) (hy : PE X (.Name y q) (tC (.ty T.nm)))
    (h1 : starEach [e, .Name y q] X.env = (false, eval e X.env) :: starEach [.Name y q] X.env := by rfl) (h2 : starEach [.Name y q] X.env = (false, eval (.Name y q) X.env) :: starEach [] X.env := by rfl) (h3 : (backTo pos (starEach [.Name y q] X.env)).any (·.1) = false := by rfl) :
    DE X (.Call (.Name "isinstance" p) [e, .Name y q] [] pos) (sUn (isiD T) f) :=
  PE.imp (pe_callB call_isi hg hm (by decide +kernel) (pa_cons he (pa_cons hy pa_nil h2) h1) (he := h1) (hpl := h3)) fun σ H Q h => tE_un (und_isi T) h
end

/-! ### in -/
def inL (n : Bool) : D → D → Option Val := fun d e => match e with
  | .lst xs => if d.ok 20 && xs.all (D.ok 19) then some (.sh (.bl (n != xs.any fun y => y.eqv d))) else none
  | .tup xs => if d.ok 20 && xs.all (D.ok 19) then some (.sh (.bl (n != xs.any fun y => y.eqv d))) else none
  | _ => none
def inS (n : Bool) : D → D → Option Val := fun d e => match d, e with
  | .str ⟨⟨[c]⟩⟩, .str z => some (.sh (.bl (n != decide (c ∈ z.cps.toList))))
  | _, _ => none
def rInP (K : PySem.W.Frag) (n : Bool) : R2 := fun x y H Q => ∃ d ds, Dp K H x d ∧ (Dp K H y (.list ds) ∨ Dp K H y (.tuple ds)) ∧ d.plain = true ∧ PyData.plainAll ds = true ∧ d.depth ≤ 20 ∧ Q (.bl (n != ds.any fun z => PyData.eqv z d)) H
section
variable {X : Cx} {a b : Expr} {fa fb : DEnv → R Val} {pos : Pos}
theorem op_inP (hu : X.A.units + 64 < cLine) : OpR X (compareOp .In) (rInP X.K false) := by
  intro pins s σ H x y v u Q I rx ry h
  obtain ⟨d, ds, hd, he, sd, se, dd, q⟩ := h
  obtain ⟨as, r1⟩ := Dp.reads I d x v hd rx
  have hm : min (PyData.depthAll ds) d.depth ≤ d.depth := Nat.min_le_right _ _
  rcases he with he | he
  · obtain ⟨bs, r2⟩ := Dp.reads I (.list ds) y u he ry
    exact PySem.SeqAt.in_list_data r2 r1 se sd (by omega) ⟨.bl _, H, I, rfl, by simpa using q⟩
  · obtain ⟨bs, r2⟩ := Dp.reads I (.tuple ds) y u he ry
    exact PySem.SeqAt.in_tuple_data r2 r1 se sd (by omega) ⟨.bl _, H, I, rfl, by simpa using q⟩
theorem op_notInP (hu : X.A.units + 64 < cLine) : OpR X (compareOp .NotIn) (rInP X.K true) := by
  intro pins s σ H x y v u Q I rx ry h
  obtain ⟨d, ds, hd, he, sd, se, dd, q⟩ := h
  obtain ⟨as, r1⟩ := Dp.reads I d x v hd rx
  have hm : min (PyData.depthAll ds) d.depth ≤ d.depth := Nat.min_le_right _ _
  rcases he with he | he
  · obtain ⟨bs, r2⟩ := Dp.reads I (.list ds) y u he ry
    exact PySem.SeqAt.notIn_list_data r2 r1 se sd (by omega) ⟨.bl _, H, I, rfl, by simpa using q⟩
  · obtain ⟨bs, r2⟩ := Dp.reads I (.tuple ds) y u he ry
    exact PySem.SeqAt.notIn_tuple_data r2 r1 se sd (by omega) ⟨.bl _, H, I, rfl, by simpa using q⟩
theorem pys_map (xs : List D) : pys xs = xs.map D.py := by
  induction xs with
  | nil => rfl
  | cons x xs ih => rw [pys, ih, List.map_cons]
theorem opd_in (n : Bool) : OpD X (rInP X.K n) (inL n) := fun F0 H0 H σ ρ vs xs v w d e Q s ⟨x, hx, q⟩ => by
  obtain ⟨F, hF, a, b, t⟩ := s.two
  have any_eq : ∀ ys : List D, ((pys ys).any fun z => PyData.eqv z d.py) = ys.any fun y => y.eqv d := fun ys => by rw [pys_map, List.any_map]; rfl
  match e, b, hx with
  | .lst ys, b, hx =>
    have hx : (if d.ok 20 && ys.all (D.ok 19) then some (Val.sh (.bl (n != ys.any fun y => y.eqv d))) else none) = some x := hx
    split at hx
    · rename_i hc
      rw [Bool.and_eq_true] at hc
      cases hx
      have k : D.ok 20 (.lst ys) = true := hc.2
      obtain ⟨p1, p2⟩ := py_ok _ _ hc.1
      obtain ⟨p3, _⟩ := py_ok _ _ k
      rw [D.py] at p3
      have hd := at_dp hF _ _ _ k b
      rw [D.py] at hd
      exact ⟨_, _, at_dp hF _ _ _ hc.1 a, .inl hd, p1, by simpa [PyData.plain] using p3, p2, q H _ (s.pop.pop.scal fun F => by rw [any_eq]; exact .bl _)⟩
    · cases hx
  | .tup ys, b, hx =>
    have hx : (if d.ok 20 && ys.all (D.ok 19) then some (Val.sh (.bl (n != ys.any fun y => y.eqv d))) else none) = some x := hx
    split at hx
    · rename_i hc
      rw [Bool.and_eq_true] at hc
      cases hx
      have k : D.ok 20 (.tup ys) = true := hc.2
      obtain ⟨p1, p2⟩ := py_ok _ _ hc.1
      obtain ⟨p3, _⟩ := py_ok _ _ k
      rw [D.py] at p3
      have hd := at_dp hF _ _ _ k b
      rw [D.py] at hd
      exact ⟨_, _, at_dp hF _ _ _ hc.1 a, .inr hd, p1, by simpa [PyData.plain] using p3, p2, q H _ (s.pop.pop.scal fun F => by rw [any_eq]; exact .bl _)⟩
    · cases hx
theorem opd_inS (n : Bool) : OpD X (fun x y H Q => ∃ (c : Nat) (z : Str), x = .str ⟨#[c]⟩ ∧ y = .str z ∧ Q (.bl (n != decide (c ∈ z.cps.toList))) H) (inS n) := fun F0 H0 H σ ρ vs xs v w d e Q s ⟨x, hx, q⟩ => by
  obtain ⟨F, hF, a, b, t⟩ := s.two
  match d, e, a, b, hx with
  | .str ⟨⟨[c]⟩⟩, .str z, .str _, .str _, hx =>
    cases hx
    exact ⟨c, z, rfl, rfl, q H _ (s.pop.pop.scal fun F => .bl _)⟩
def inD (n : Bool) : D → D → Option Val := orG (inL n) (inS n)
theorem op_inA (hu : X.A.units + 64 < cLine) : ∃ r, OpR X (compareOp .In) r ∧ OpD X r (inD false) := ⟨_, (op_inP hu).or (fun pins s σ H x y v u Q I rx ry ⟨c, z, h1, h2, h3⟩ => op_in_sign pins s σ H x y v u Q I rx ry ⟨c, z, h1, h2, by simpa using h3⟩), (opd_in false).or (opd_inS false)⟩
theorem op_notInA (hu : X.A.units + 64 < cLine) : ∃ r, OpR X (compareOp .NotIn) r ∧ OpD X r (inD true) := ⟨_, (op_notInP hu).or (fun pins s σ H x y v u Q I rx ry ⟨c, z, h1, h2, h3⟩ => op_notIn_sign pins s σ H x y v u Q I rx ry ⟨c, z, h1, h2, by simpa using h3⟩), (opd_in true).or (opd_inS true)⟩
theorem de_in (hu : X.A.units + 64 < cLine) (ha : DE X a fa) (hb : DE X b fb) (hm : behindInMarks .In b = false := by rfl) : DE X (.Compare a [.In] [b] pos) (sOp (inD false) fa fb) := let ⟨_, h1, h2⟩ := op_inA hu; de_cmp h1 h2 ha hb hm
theorem de_notIn (hu : X.A.units + 64 < cLine) (ha : DE X a fa) (hb : DE X b fb) (hm : behindInMarks .NotIn b = false := by rfl) : DE X (.Compare a [.NotIn] [b] pos) (sOp (inD true) fa fb) := let ⟨_, h1, h2⟩ := op_notInA hu; de_cmp h1 h2 ha hb hm
theorem dt_in (hu : X.A.units + 64 < cLine) (ha : DE X a fa) (hb : DE X b fb) (hm : behindInMarks .In b = false := by rfl) : DT X (.Compare a [.In] [b] pos) (sTst (sOp (inD false) fa fb)) := let ⟨_, h1, h2⟩ := op_inA hu; dt_cmp h1 h2 ha hb hm
theorem dt_notIn (hu : X.A.units + 64 < cLine) (ha : DE X a fa) (hb : DE X b fb) (hm : behindInMarks .NotIn b = false := by rfl) : DT X (.Compare a [.NotIn] [b] pos) (sTst (sOp (inD true) fa fb)) := let ⟨_, h1, h2⟩ := op_notInA hu; dt_cmp h1 h2 ha hb hm
end

/-! ### defs -/
inductive CR where
  | ret (x : Val)
  | exc (e : DExn)
  | bad
def Fl.cr : Fl → CR
  | .nx _ => .ret (.sh .non)
  | .rt x _ => .ret x
  | .exc e _ => .exc e
  | _ => .bad
def crPost (K : PySem.W.Frag) (F H : Hp) (Q : VK) (E : XK) : CR → Prop
  | .ret x => ∀ H' v, Stt K F H H' [] [] [v] [x] → Q v H'
  | .exc e => ∀ H' dx ves, Stt K F H H' [] [] ves (e.ds.map .sh) → ves.length = e.ds.length → xdOk H H' e dx ves → E (.ref e.cls) dx H'
  | .bad => False
/-- the promise of a def that does φ to data -/
def spD (K : PySem.W.Frag) (n : Nat) (φ : List D → CR) : Sp := fun vs H Q E => ∃ F ds, Same F H ∧ Ats K F vs ds ∧ ds.length = n ∧ crPost K F H Q E (φ ds)
theorem spD_len {K : PySem.W.Frag} {n : Nat} {φ : List D → CR} : ∀ vs H Q E, spD K n φ vs H Q E → vs.length = n := fun vs H Q E ⟨F, ds, hF, ha, hn, _⟩ => ha.length.trans hn
def env0 (N : Nat) (ds : List D) : DEnv := ds.map (fun d => some (.sh d)) ++ List.replicate (N - ds.length) none
section
variable {P : Program} {w : World} {K : PySem.W.Frag} {mg : Str → Option Value} {base : Heap}
/-- THE RULE for a def -/
theorem fnD {x qual : Str} {st : Stmt} {f : Addr} {fd : FuncData} {N ps : List Str} {k n : Nat} {s : DEnv → Fl} (F : Fun K x qual st f fd) (S : FnScope N ps (defScope st)) (hn : ps.length = n)
    (hbody : ∀ (cdv : Value) (A : Around) (outer : List PySem.Env) (s0 : Shared) (H : Hp) (E : XK), Room k (A.deeper (PyProof.Rows.envOfC qual (defScope st) s0.heap.objs.size f cdv)) →
      DSs (cxOf (L2.CX P w) P w K mg base N qual (defScope st) f cdv A outer s0 H E) (defBody st) s) :
    FnOk P w K mg base (L2.CX P w) (k + 1) f fd ps (spD K n fun ds => (s (env0 N.length ds)).cr) := by
  refine F.okX S (fun vs H Q E h => (spD_len vs H Q E h).trans hn.symm) fun cdv A outer s0 H vs Q E hr ⟨G, ds, hG, ha, hl, hp⟩ => ⟨_, hbody cdv A outer s0 H E hr, ?_⟩
  refine ⟨G, H, env0 N.length ds, [], [], ?_, ?_⟩
  · have q := Stt.begin hG ha (N.length - ds.length)
    unfold L2.start env0
    rw [ha.length]
    exact q
  · have tk := takes_of (X := cxOf (L2.CX P w) P w K mg base N qual (defScope st) f cdv A outer s0 H E) (E := E) rfl rfl rfl rfl
    have hp : crPost K G H Q E (s (env0 N.length ds)).cr := hp
    cases e : s (env0 N.length ds) with
    | nx ρ' =>
      rw [e] at hp
      exact fun σ' H' s1 => hp H' _ (s1.out.scal fun _ => .non)
    | rt x ρ' =>
      rw [e] at hp
      exact fun σ' H' v s1 => hp H' v s1.out
    | exc x ρ' =>
      rw [e] at hp
      intro σ' H' dx ves s1 hl hx
      rw [List.append_nil, List.append_nil] at s1
      exact okx_of tk (hp H' dx ves s1.out hl hx)
    | bk ρ' => rw [e] at hp; exact hp.elim
    | ct ρ' => rw [e] at hp; exact hp.elim
    | bad => rw [e] at hp; exact hp.elim
end
/-- another function of the same worth -/
theorem spD_imp {P : Program} {w : World} {K : PySem.W.Frag} {mg : Str → Option Value} {base : Heap} {CX : CXT} {k n : Nat} {f : Addr} {fd : FuncData} {ps : List Str} {φ ψ : List D → CR} (F : FnOk P w K mg base CX k f fd ps (spD K n φ)) (h : ∀ ds, ψ ds ≠ .bad → φ ds = ψ ds) : FnOk P w K mg base CX k f fd ps (spD K n ψ) :=
  F.imp fun vs H Q E ⟨G, ds, h1, h2, h3, h4⟩ => ⟨G, ds, h1, h2, h3, by
    rw [h ds (fun z => by rw [z] at h4; exact h4)]
    exact h4⟩
def sCall (φ : List D → CR) (n : Nat) (fs : DEnv → R (List Val)) : DEnv → R Val := fun ρ => (fs ρ).bind fun ys ρ1 => if ys.length = n then match φ (fzs ys) with
  | .ret x => .ok x ρ1
  | .exc e => .exc e ρ1
  | .bad => .bad
  else .bad
section
variable {X : Cx} {k n : Nat} {f : Addr} {fd : FuncData} {ps : List Str} {φ : List D → CR} {x : Str} {p pos : Pos} {e : Expr} {es : List Expr} {fs : DEnv → R (List Val)}
theorem cr_read {F0 H0 H : Hp} {σ : L2.St} {ρ : DEnv} {vs ws : List V} {xs ys : List Val} {Q : VK} (hl : ws.length = ys.length) (s : Stt X.K F0 H0 H σ ρ (ws ++ vs) (ys ++ xs)) (hn : ys.length = n)
    (q : post X F0 H0 vs xs (fun x ρ' => ∀ H' v, Stt X.K F0 H0 H' σ ρ' (v :: vs) (x :: xs) → Q v H') (match φ (fzs ys) with | .ret x => .ok x ρ | .exc e => .exc e ρ | .bad => .bad)) : spD X.K n φ ws H Q (WE (okx X) σ) := by
  obtain ⟨hl2, s2⟩ := s.fzsP hl
  obtain ⟨F, hF, hA, c⟩ := Stt.call hl2 s2
  refine ⟨F, fzs ys, hF, hA, by rw [fzs_map, List.length_map]; exact hn, ?_⟩
  cases e : φ (fzs ys) with
  | ret x => rw [e] at q; exact fun H' v s3 => q H' v (c H' [v] [x] s3)
  | exc x =>
    rw [e] at q
    exact fun H' dx ves s3 hl3 hx => q σ H' dx ves (c H' ves _ s3) hl3 (hx.less s.sub0)
  | bad => rw [e] at q; exact q
theorem de_call (F : FnOk X.prog X.w X.K X.mg X.base (L2.CX X.prog X.w) k f fd ps (spD X.K n φ)) (hr : Room k X.A) (hg : Gl X x) (hm : X.mg x = some (.ref f)) (hk : PySem.W.keepIn X.K (.ref f) = true) (hb : Binds X.K fd ps [])
    (ha : DA X (e :: es) fs) (hdb : (x == ("__debug__" : Str)) = false := by decide) (he : starEach (e :: es) X.env = (false, eval e X.env) :: starEach es X.env := by rfl) (hpl : (backTo pos (starEach es X.env)).any (·.1) = false := by rfl) :
    DE X (.Call (.Name x p) (e :: es) [] pos) (sCall φ n fs) :=
  PE.imp (pe_callS (E := WE (okx X)) F hr hg hm hk hb (fun σ => passAt takes_okx σ) ha hdb he hpl) fun σ H Q ⟨F0, H0, ρ, vs, xs, s, q⟩ => by
    refine ⟨F0, H0, ρ, vs, xs, s, (post_bind q).imp (fun ys ρ1 q1 H1 ws hl s1 => ?_) fun _ _ z => z⟩
    split at q1
    · exact cr_read hl s1 (by assumption) q1
    · exact q1.elim
end
end DL

/-! DLh: more that is walked; a law's start and end. -/
namespace DL
open PySem PySem.Spec L2

/-! ### range with a step -/
def rangeC (i c : Int) (n : Nat) : List D := (List.range n).map fun (k : Nat) => D.int (i + (k : Nat) * c)
theorem walk_rangeC {K : PySem.W.Frag} {F0 : Hp} {i c : Int} {n : Nat} : Walk K F0 (Itc i c n) (rangeC i c n) := fun j H hF => by
  refine ⟨fun d e => ?_, fun hi => (show n ≤ j by simpa [rangeC] using hi)⟩
  unfold rangeC at e
  rw [List.getElem?_map] at e
  cases e1 : (List.range n)[j]? with
  | none => rw [e1] at e; cases e
  | some k =>
    rw [e1] at e
    obtain ⟨h1, h2⟩ := List.getElem?_eq_some_iff.mp e1
    simp at h1 h2
    subst h2
    cases e
    refine ⟨h1, fun x H' hy H0 σ ρ vs xs s => ?_⟩
    obtain ⟨rfl, rfl⟩ := hy
    exact s.scal fun _ => .int _
def rngOk (i j c : Int) : Prop := c ≠ 0 ∧ c.natAbs < 1073741824 ∧ Builtin.Range.small i j c = true ∧ 0 ≤ Builtin.Range.rangeSize i j c
instance (i j c : Int) : Decidable (rngOk i j c) := by unfold rngOk; infer_instance
def rng3 : List D → Option (List D)
  | [.int i, .int j, .int c] => if rngOk i j c then some (rangeC i c (Builtin.Range.rangeSize i j c).toNat) else none
  | _ => none
theorem rng3_some {ds l : List D} (h : rng3 ds = some l) : ∃ i j c, ds = [.int i, .int j, .int c] ∧ rngOk i j c ∧ l = rangeC i c (Builtin.Range.rangeSize i j c).toNat := by
  unfold rng3 at h
  split at h
  · split at h
    · exact ⟨_, _, _, rfl, by assumption, (Option.some.inj h).symm⟩
    · cases h
  · cases h
section
variable {X : Cx} {tg a b c : Expr} {f : DEnv → R (List Val)} {p pos tpos : Pos} {elts : List Expr} {kk : Nat}
theorem di_range3 (hg : Gl X "range") (hm : X.mg "range" = none) (ha : DA X [a, b, c] f)
    (hs : starEach [a, b, c] X.env = (false, eval a X.env) :: starEach [b, c] X.env := by rfl) (hpl : (backTo pos (starEach [b, c] X.env)).any (·.1) = false := by rfl) : DI X tg (.Call (.Name "range" p) [a, b, c] [] pos) (sRange rng3 f) :=
  PI.imp (pi_range3 hg hm ha hs hpl) fun σ H RR ⟨F0, H0, ρ, vs, xs, s, q⟩ => by
    refine ⟨F0, H0, ρ, vs, xs, s, (post_bind q).imp (fun ys ρ1 q1 H1 ws hl s1 => ?_) fun _ _ z => z⟩
    obtain ⟨hl2, s2⟩ := s1.fzsP hl
    obtain ⟨F, hF, hA, s3, rb⟩ := Stt.rebaseAt hl2 s2
    cases e : rng3 (fzs ys) with
    | none => rw [e] at q1; exact q1.elim
    | some ds =>
      rw [e] at q1
      obtain ⟨i, j, c, ej, hb, rfl⟩ := rng3_some e
      rw [ej] at hA
      match ws, hA with
      | [_, _, _], .cons (.int _) (.cons (.int _) (.cons (.int _) .nil)) =>
        exact ⟨i, j, c, _, rfl, ⟨hb.1, hb.2.1, hb.2.2.1, (Int.toNat_of_nonneg hb.2.2.2).symm⟩, q1 F H1 _ s3 rb walk_rangeC⟩

/-! ### zip, enumerate of lists -/
def zipL : List D → List D → List D
  | x :: xs, y :: ys => .tup [x, y] :: zipL xs ys
  | _, _ => []
theorem zipL_get : ∀ {xs ys : List D} {i : Nat} {d : D}, (zipL xs ys)[i]? = some d → ∃ x y, xs[i]? = some x ∧ ys[i]? = some y ∧ d = .tup [x, y]
  | [], _, _, _, h => by simp [zipL] at h
  | _ :: _, [], _, _, h => by simp [zipL] at h
  | x :: xs, y :: ys, 0, d, h => by simp [zipL] at h; exact ⟨x, y, rfl, rfl, h.symm⟩
  | x :: xs, y :: ys, i + 1, d, h => by
    obtain ⟨a, b, h1, h2, h3⟩ := zipL_get (xs := xs) (ys := ys) (i := i) (d := d) (by simpa [zipL] using h)
    exact ⟨a, b, by simpa using h1, by simpa using h2, h3⟩
theorem zipL_len : ∀ (xs ys : List D), (zipL xs ys).length = min xs.length ys.length
  | [], _ => by simp [zipL]
  | _ :: _, [] => by simp [zipL]
  | x :: xs, y :: ys => by simp [zipL, zipL_len xs ys]
theorem walk_zip {K : PySem.W.Frag} {F0 : Hp} {a b : Addr} {us ws : List V} {ds es : List D} (h1 : SqL K F0 a us) (k1 : Ats K F0 us ds) (h2 : SqL K F0 b ws) (k2 : Ats K F0 ws es) : Walk K F0 (Itz K a b) (zipL ds es) := fun i H hF => by
  refine ⟨fun d e => ?_, fun hi => ?_⟩
  · obtain ⟨x, y, e1, e2, rfl⟩ := zipL_get e
    obtain ⟨v, f1, g1⟩ := k1.get e1
    obtain ⟨w, f2, g2⟩ := k2.get e2
    refine ⟨⟨us, ws, v, w, hF.seq h1, hF.seq h2, f1, f2⟩, fun z H' hy H0 σ ρ vs xs s => ?_⟩
    obtain ⟨T, x', y', rfl, nT, rfl, c1, c2⟩ := hy
    have ex := (c1 us (hF.seq h1)).symm.trans f1
    have ey := (c2 ws (hF.seq h2)).symm.trans f2
    have ex := Option.some.inj ex
    have ey := Option.some.inj ey
    subst ex
    subst ey
    exact Stt.newTup (as := [_, _]) (ds := [x, y]) rfl ((s.push0 g2).push0 g1) nT
  · rw [zipL_len] at hi
    refine ⟨us, ws, hF.seq h1, hF.seq h2, ?_⟩
    rw [k1.length, k2.length]
    omega
def enumL (xs : List D) : List D := zipL (rangeL 0 xs.length) xs
theorem walk_enum {K : PySem.W.Frag} {F0 : Hp} {a : Addr} {us : List V} {ds : List D} (h1 : SqL K F0 a us) (k1 : Ats K F0 us ds) : Walk K F0 (Ite K a) (enumL ds) := fun i H hF => by
  refine ⟨fun d e => ?_, fun hi => ?_⟩
  · obtain ⟨x, y, e1, e2, rfl⟩ := zipL_get e
    obtain ⟨w, f2, g2⟩ := k1.get e2
    have hx : x = .int (i : Nat) := by
      unfold rangeL at e1
      rw [List.getElem?_map] at e1
      cases e3 : (List.range ds.length)[i]? with
      | none => rw [e3] at e1; cases e1
      | some k =>
        rw [e3] at e1
        obtain ⟨_, h2⟩ := List.getElem?_eq_some_iff.mp e3
        simp at h2
        subst h2
        cases e1
        simp
    subst hx
    refine ⟨⟨us, w, hF.seq h1, f2⟩, fun z H' hy H0 σ ρ vs xs s => ?_⟩
    obtain ⟨T, x', rfl, nT, rfl, c1⟩ := hy
    have ex := (c1 us (hF.seq h1)).symm.trans f2
    have ex := Option.some.inj ex
    subst ex
    exact Stt.newTup (as := [.int (i : Nat), _]) (ds := [.int (i : Nat), y]) rfl ((s.push0 g2).scal fun _ => .int _) nT
  · unfold enumL at hi
    rw [zipL_len] at hi
    refine ⟨us, hF.seq h1, ?_⟩
    rw [k1.length]
    simp [rangeL] at hi
    exact hi
def zipD : List D → Option (List D)
  | [.lst xs, .lst ys] => some (zipL xs ys)
  | _ => none
def enumD : List D → Option (List D)
  | [.lst xs] => some (enumL xs)
  | _ => none
def sZip (f : DEnv → R (List Val)) : DEnv → R (List D) := sRange zipD f
def sEnumerate (f : DEnv → R (List Val)) : DEnv → R (List D) := sRange enumD f
theorem zipD_some {ds l : List D} (h : zipD ds = some l) : ∃ xs ys, ds = [.lst xs, .lst ys] ∧ l = zipL xs ys := by
  unfold zipD at h
  split at h
  · exact ⟨_, _, rfl, (Option.some.inj h).symm⟩
  · cases h
theorem enumD_some {ds l : List D} (h : enumD ds = some l) : ∃ xs, ds = [.lst xs] ∧ l = enumL xs := by
  unfold enumD at h
  split at h
  · exact ⟨_, rfl, (Option.some.inj h).symm⟩
  · cases h
theorem di_zip (hg : Gl X "zip") (hm : X.mg "zip" = none) (ha : DA X [a, b] f)
    (hs : starEach [a, b] X.env = (false, eval a X.env) :: starEach [b] X.env := by rfl) (hpl : (backTo pos (starEach [b] X.env)).any (·.1) = false := by rfl) : DI X (.Tuple elts kk tpos) (.Call (.Name "zip" p) [a, b] [] pos) (sZip f) :=
  PI.imp (pi_zip hg hm ha hs hpl) fun σ H RR ⟨F0, H0, ρ, vs, xs, s, q⟩ => by
    refine ⟨F0, H0, ρ, vs, xs, s, (post_bind q).imp (fun ys ρ1 q1 H1 ws hl s1 => ?_) fun _ _ z => z⟩
    obtain ⟨hl2, s2⟩ := s1.fzsP hl
    obtain ⟨F, hF, hA, s3, rb⟩ := Stt.rebaseAt hl2 s2
    cases e : zipD (fzs ys) with
    | none => rw [e] at q1; exact q1.elim
    | some ds =>
      rw [e] at q1
      obtain ⟨x1, x2, ej, rfl⟩ := zipD_some e
      rw [ej] at hA
      match ws, hA with
      | [_, _], .cons (.lst (vs := u1) h1 k1) (.cons (.lst (vs := u2) h2 k2) .nil) =>
        exact ⟨_, _, u1, u2, rfl, hF.seq (.of h1), hF.seq (.of h2), q1 F H1 _ s3 rb (walk_zip (.of h1) k1 (.of h2) k2)⟩
theorem di_enumerate (hg : Gl X "enumerate") (hm : X.mg "enumerate" = none) (ha : DA X [a] f) (hs : starEach [a] X.env = [(false, eval a X.env)] := by rfl) : DI X (.Tuple elts kk tpos) (.Call (.Name "enumerate" p) [a] [] pos) (sEnumerate f) :=
  PI.imp (pi_enum hg hm ha hs) fun σ H RR ⟨F0, H0, ρ, vs, xs, s, q⟩ => by
    refine ⟨F0, H0, ρ, vs, xs, s, (post_bind q).imp (fun ys ρ1 q1 H1 ws hl s1 => ?_) fun _ _ z => z⟩
    obtain ⟨hl2, s2⟩ := s1.fzsP hl
    obtain ⟨F, hF, hA, s3, rb⟩ := Stt.rebaseAt hl2 s2
    cases e : enumD (fzs ys) with
    | none => rw [e] at q1; exact q1.elim
    | some ds =>
      rw [e] at q1
      obtain ⟨x1, ej, rfl⟩ := enumD_some e
      rw [ej] at hA
      match ws, hA with
      | [_], .cons (.lst (vs := u1) h1 k1) .nil =>
        exact ⟨_, u1, rfl, hF.seq (.of h1), q1 F H1 _ s3 rb (walk_enum (.of h1) k1)⟩
end

/-! ### the law -/
def spLaw (K : PySem.W.Frag) : Sp := fun vs H Q _ => ∃ (a : Addr) (ns : List Int), vs = [.ref a] ∧ SqL K H a (ns.map V.int) ∧ ns.length ≤ 63 ∧ ∀ H', Q (.bl true) H'
def scrI (ns : List Int) : D := .scr (ns.map .int)
theorem ats_ints {K : PySem.W.Frag} {F : Hp} : ∀ ns : List Int, Ats K F (ns.map V.int) (ns.map .int)
  | [] => .nil
  | n :: ns => .cons (.int n) (ats_ints ns)
theorem law_fn {P : Program} {w : World} {K : PySem.W.Frag} {mg : Str → Option Value} {base : Heap} {CX : CXT} {k : Nat} {f : Addr} {fd : FuncData} {ps : List Str} {φ : List D → CR} (F : FnOk P w K mg base CX k f fd ps (spD K 1 φ))
    (h : ∀ ns : List Int, ns.length ≤ 63 → φ [scrI ns] = .ret (.sh (.bl true))) : FnOk P w K mg base CX k f fd ps (spLaw K) :=
  F.imp fun vs H Q E ⟨a, ns, e, hs, hl, q⟩ => by
    subst e
    refine ⟨H, [scrI ns], Same.refl H, .one (.scr hs (ats_ints ns)), rfl, ?_⟩
    rw [h ns hl]
    intro H' v s
    obtain ⟨F', _, a, _⟩ := s.oneT
    cases a
    exact q H'
theorem cx_false {P : Program} {w : World} {outer : List PySem.Env} {H : Hp} {s : Shared} {e : Value} {s' : Shared} (h : L2.CX P w outer H s (fun _ _ _ => False) e s') : False := by
  obtain ⟨_, _, _, _, _, _, _, _, _, _, _, _, z⟩ := h
  exact z
end DL

/-! DLi: values that nobody changes any more. -/
namespace DL
open PySem PySem.Spec L2
def sFz (f : DEnv → R Val) : DEnv → R Val := fun ρ => (f ρ).bind fun x ρ1 => .ok (.sh x.fz) ρ1
section
variable {X : Cx} {e : Expr} {f : DEnv → R Val}
theorem de_fz (h : DE X e f) : DE X e (sFz f) :=
  PE.imp h fun σ H Q ⟨F0, H0, ρ, vs, xs, s, q⟩ => ⟨F0, H0, ρ, vs, xs, s, (post_bind q).imp (fun x ρ1 q1 H1 v s1 => q1 H1 v s1.fz) fun _ _ z => z⟩
end
/-- what no script comes to -/
def sBad : DEnv → Fl := fun _ => .bad
theorem ds_bad {X : Cx} {st : Stmt} : DS X st sBad := ⟨fun pins s σ H D I ⟨_, _, _, _, _, _, q⟩ => q.elim⟩
theorem de_bad {X : Cx} {e : Expr} : DE X e (fun _ => .bad) := ⟨fun pins s σ H D I ⟨_, _, _, _, _, _, q⟩ => q.elim⟩
/-- what a module's name stands for -/
def IsC (K : PySem.W.Frag) (mg : Str → Option Value) (x : Str) (d : D) : Prop := ∃ v u, mg x = some u ∧ RelV v u ∧ ∀ F, At K F v d
theorem de_gc {X : Cx} {x : Str} {d : D} {pos : Pos} (hg : Gl X x) (h : IsC X.K X.mg x d) (hd : (x == ("__debug__" : Str)) = false := by decide) : DE X (.Name x pos) (sC d) := by
  obtain ⟨v, u, hm, r, a⟩ := h
  exact de_c (pe_glob hg hm r hd) a
section
variable {X : Cx} {tg iter elt : Expr} {ifs : List Expr} {scope : Scope} {pos spos py : Pos} {own : List (Str × Nat)} {fi : DEnv → R (List D)} {g : D → DEnv → Option DEnv} {t : DEnv → R Bool} {f : DEnv → R Val} {is : List Nat}
theorem ds_setCompF {i : Nat} {y : Str} (hc : X.calm = true) (hN : X.N.Nodup) (hy : X.N[i]? = some y) (hyl : X.env.scope.names.lookup y = some .local)
    (hsw : swapsWith (.ListComp elt [⟨tg, iter, ifs, 0⟩] scope pos) (some (.Name y py)) spos.line X.env = pure true) (hi : DI X tg iter fi) (ok : BlkOk X.N X.env.scope scope own) {os : List Nat} (ho : own.map (·.2) = os) (hsub : ∀ j, j ∈ is → j ∈ os)
    (hg : ∀ (s : Shared) (H : Hp) (C : Addr) (cl : List (Str × Addr)) (fp : List Addr), DG (X.blk s H scope (compEnvC scope cl C X.env) fp) tg is g) (ht : ∀ (s : Shared) (H : Hp) (C : Addr) (cl : List (Str × Addr)) (fp : List Addr), DTs (X.blk s H scope (compEnvC scope cl C X.env) fp) ifs t)
    (he : ∀ (s : Shared) (H : Hp) (C : Addr) (cl : List (Str × Addr)) (fp : List Addr), DE (X.blk s H scope (compEnvC scope cl C X.env) fp) elt f) (hs : ∀ x, foldedSetIterable iter X.env x = pure x := by intro _; rfl) :
    DS X (.Assign [.Name y py] (.ListComp elt [⟨tg, iter, ifs, 0⟩] scope pos) spos) (sSet i (sFz (sComp fi g t f os))) := by
  subst ho
  refine PS.imp (ps_setLc (g := tG X is g) (tt := tTN X.K t) (te := tEN X.K f) hc hN hy hyl hsw hi ok hg (fun s H C cl fp => ⟨fun pins s' σ H' Q I q => (ht s H C cl fp).run pins s' σ H' Q I (tTN_tT q)⟩) (fun s H C cl fp => ⟨fun pins s' σ H' Q I q => (he s H C cl fp).run pins s' σ H' Q I (tEN_tE q)⟩) hs) fun D σ H ⟨F0, H0, ρ, vs, xs, s, q⟩ => lc_read hsub ⟨F0, H0, ρ, vs, xs, s, ?_⟩
  have q2 := post_bind (show post X F0 H0 vs xs _ ((sComp fi g t f (own.map (·.2)) ρ).bind fun x ρ1 => R.ok (Val.sh x.fz) ρ1) from post_fl q)
  refine q2.imp (fun x ρ1 q1 H1 v s1 => ?_) fun _ _ z => z
  have q1 : fpost X F0 H0 vs xs D (if i < ρ1.length then Fl.nx (ρ1.set i (some (Val.sh x.fz))) else Fl.bad) := q1
  split at q1
  · exact q1 _ _ (s1.fz.store (by assumption))
  · exact q1.elim
end
end DL

/-! DLj: min and max of tuples; what is lent. -/
namespace DL
open PySem PySem.Spec L2
section
variable {prog : Program} {w : World} {A : Around} {E : Value → Shared → Prop} {s : Shared} {l : Addr} {xs : Array (Int × Tok)}
theorem iter_intTup {Q : Value → Shared → Prop} (hl : s.heap.IsTuple l (intItems xs))
    (h : ∀ s₂ : Shared, s₂ = { s with heap := s.heap.push { cls := .type "tuple_iterator", data := .fields #[.ref l, .int 0 0] } } →
      (s₂.heap.IsTupleIter s.heap.objs.size l 0 ∧ s₂.heap.IsTuple l (intItems xs)) → (∀ b ∈ [s.heap.objs.size, l], b < s₂.heap.objs.size) → l ≠ s.heap.objs.size → Q (.ref s.heap.objs.size) s₂) :
    wpAny (model prog w) A (pyIter (.ref l)) Q E s := by
  have hlt : l < s.heap.objs.size := by obtain ⟨_, e, _⟩ := hl; exact Heap.lt_size e
  refine wpAny_pyIter_tuple hl (h _ rfl ⟨⟨_, Heap.get?_push_size _ rfl, rfl, rfl⟩, hl.push _⟩ (fun b hb => ?_) (Nat.ne_of_lt hlt))
  show b < (s.heap.push _).objs.size
  rw [Heap.size_push]
  rcases List.mem_cons.mp hb with rfl | hb
  · exact Nat.lt_succ_self _
  · rcases List.mem_cons.mp hb with rfl | hb
    · exact Nat.lt_succ_of_lt hlt
    · cases hb
theorem max_intTup {Q : Value → Shared → Prop} (hh : A.handled = none) (hl : s.heap.IsTuple l (intItems xs)) (hne : 0 < xs.size)
    (h : ∀ v h' tk, (intItems xs)[argBest (fun i j => decide (numAt xs i > numAt xs j)) (xs.size - 1)]? = some v → (∀ b o, s.heap.get? b = some o → h'.get? b = some o) → Q v { s with heap := h', toks := tk }) :
    wpAny (model prog w) A (call (.builtin "max") [.ref l]) Q E s := by
  refine call_max_walk (iter_intTup hl fun s₂ e st hfp hlI => ?_)
  subst e
  refine ⟨_, _, _, _, _, _, _, rfl, Walks.tuple (A := A.in1) hh _ l hlI (intItems xs), st, hfp, by simpa [intItems] using hne, CmpOf.ints_gt (numAt xs) (fun _ _ => intItems_at), fun v h' tk hP hk => ?_⟩
  exact h v h' tk (by simpa [intItems] using hP) fun b o e => hk b o (fun hb => absurd (Heap.lt_size e) ((List.mem_singleton.mp hb) ▸ Nat.lt_irrefl _)) (Heap.get?_push_of_some _ e)
theorem min_intTup {Q : Value → Shared → Prop} (hh : A.handled = none) (hl : s.heap.IsTuple l (intItems xs)) (hne : 0 < xs.size)
    (h : ∀ v h' tk, (intItems xs)[argBest (fun i j => decide (numAt xs i < numAt xs j)) (xs.size - 1)]? = some v → (∀ b o, s.heap.get? b = some o → h'.get? b = some o) → Q v { s with heap := h', toks := tk }) :
    wpAny (model prog w) A (call (.builtin "min") [.ref l]) Q E s := by
  refine call_min_walk (iter_intTup hl fun s₂ e st hfp hlI => ?_)
  subst e
  refine ⟨_, _, _, _, _, _, _, rfl, Walks.tuple (A := A.in1) hh _ l hlI (intItems xs), st, hfp, by simpa [intItems] using hne, CmpOf.ints_lt (numAt xs) (fun _ _ => intItems_at), fun v h' tk hP hk => ?_⟩
  exact h v h' tk (by simpa [intItems] using hP) fun b o e => hk b o (fun hb => absurd (Heap.lt_size e) ((List.mem_singleton.mp hb) ▸ Nat.lt_irrefl _)) (Heap.get?_push_of_some _ e)
end
section
open PyProof.Rows
variable {prog : Program} {w : World} {A : Around} {E : Value → Shared → Prop} {s : Shared} {l : Addr} {its : List Value} {ns : List Int} {Q : Value → Shared → Prop}
theorem max_rawT (hh : A.handled = none) (hl : s.heap.IsTuple l its.toArray) (hi : IntsAre its ns) (hne : 0 < ns.length)
    (h : ∀ h' tk M t', (∀ b o, s.heap.get? b = some o → h'.get? b = some o) → M ∈ ns → (∀ a, a ∈ ns → a ≤ M) → Q (.int M t') { s with heap := h', toks := tk }) : wpAny (model prog w) A (call (.builtin "max") [.ref l]) Q E s := by
  obtain ⟨xs, e⟩ := hi.allInts.items
  have hn : numsOf (intItems xs).toList = ns := by rw [← e]; exact hi.numsOf
  rw [nums_intItems] at hn
  subst hn
  rw [e] at hl
  have hsz : 0 < xs.size := by simpa using hne
  refine max_intTup hh hl hsz fun v h' tk hv hk => ?_
  obtain ⟨t, rfl⟩ := intItems_at hv
  obtain ⟨h1, h2⟩ := argBest_gt (numAt xs) (xs.size - 1)
  refine h h' tk _ t hk ?_ fun a ha => ?_
  · rw [numAt_eq]; exact PySem.getD_mem (by rw [List.length_map, Array.length_toList]; omega)
  · obtain ⟨j, hj, rfl⟩ := mem_getD ha
    rw [List.length_map, Array.length_toList] at hj
    rw [← numAt_eq]; exact h2 j (by omega)
theorem min_rawT (hh : A.handled = none) (hl : s.heap.IsTuple l its.toArray) (hi : IntsAre its ns) (hne : 0 < ns.length)
    (h : ∀ h' tk M t', (∀ b o, s.heap.get? b = some o → h'.get? b = some o) → M ∈ ns → (∀ a, a ∈ ns → M ≤ a) → Q (.int M t') { s with heap := h', toks := tk }) : wpAny (model prog w) A (call (.builtin "min") [.ref l]) Q E s := by
  obtain ⟨xs, e⟩ := hi.allInts.items
  have hn : numsOf (intItems xs).toList = ns := by rw [← e]; exact hi.numsOf
  rw [nums_intItems] at hn
  subst hn
  rw [e] at hl
  have hsz : 0 < xs.size := by simpa using hne
  refine min_intTup hh hl hsz fun v h' tk hv hk => ?_
  obtain ⟨t, rfl⟩ := intItems_at hv
  obtain ⟨h1, h2⟩ := argBest_lt (numAt xs) (xs.size - 1)
  refine h h' tk _ t hk ?_ fun a ha => ?_
  · rw [numAt_eq]; exact PySem.getD_mem (by rw [List.length_map, Array.length_toList]; omega)
  · obtain ⟨j, hj, rfl⟩ := mem_getD ha
    rw [List.length_map, Array.length_toList] at hj
    rw [← numAt_eq]; exact h2 j (by omega)
end
section
variable {X : Cx}
def rMaxT (K : PySem.W.Frag) : List V → Hp → VK → Prop := fun vs H Q => ∃ (a : Addr) (ns : List Int), vs = [V.ref a] ∧ SqT K H a (ns.map V.int) ∧ 0 < ns.length ∧ ∀ m, m ∈ ns → (∀ y, y ∈ ns → y ≤ m) → Q (.int m) H
def rMinT (K : PySem.W.Frag) : List V → Hp → VK → Prop := fun vs H Q => ∃ (a : Addr) (ns : List Int), vs = [V.ref a] ∧ SqT K H a (ns.map V.int) ∧ 0 < ns.length ∧ ∀ m, m ∈ ns → (∀ y, y ∈ ns → m ≤ y) → Q (.int m) H
theorem cr_maxT (hc : X.calm = true) : CallR X (.builtin "max") (rMaxT X.K) := by
  intro pins s σ H vs us Q I r h
  obtain ⟨a, ns, rfl, hs, hne, q⟩ := h
  obtain ⟨its, rv, hl, _⟩ := I.tuple hs
  rw [Vals.ref1 r]
  exact max_rawT (I.ok.hd hc) hl rv.ints hne fun h' tk m t' hk h1 h2 => ⟨.int _, H, I.kept hk, ⟨_, rfl⟩, q m h1 h2⟩
theorem cr_minT (hc : X.calm = true) : CallR X (.builtin "min") (rMinT X.K) := by
  intro pins s σ H vs us Q I r h
  obtain ⟨a, ns, rfl, hs, hne, q⟩ := h
  obtain ⟨its, rv, hl, _⟩ := I.tuple hs
  rw [Vals.ref1 r]
  exact min_rawT (I.ok.hd hc) hl rv.ints hne fun h' tk m t' hk h1 h2 => ⟨.int _, H, I.kept hk, ⟨_, rfl⟩, q m h1 h2⟩
theorem CallR.or {f : Value} {r r' : List V → Hp → VK → Prop} (h : CallR X f r) (h' : CallR X f r') : CallR X f (fun xs H Q => r xs H Q ∨ r' xs H Q) := by
  intro pins s σ H vs us Q I rr hq
  rcases hq with hq | hq
  · exact h _ _ _ _ _ _ _ I rr hq
  · exact h' _ _ _ _ _ _ _ I rr hq
def ofT (f : List Int → Option Val) : D → Option Val
  | .tup xs => (dInts xs).bind f
  | _ => none
def maxTD : D → Option Val := ofT fun ns => if 0 < ns.length then some (.sh (.int (maxI ns))) else none
def minTD : D → Option Val := ofT fun ns => if 0 < ns.length then some (.sh (.int (minI ns))) else none
theorem tupI {K : PySem.W.Frag} {F H : Hp} {d : D} {v : V} {x : Val} {f : List Int → Option Val} (hF : Same F H) (a : At K F v d) (h : ofT f d = some x) : ∃ p ns, v = .ref p ∧ SqT K H p (ns.map V.int) ∧ f ns = some x := by
  match d, a, h with
  | .tup ds, .tup (vs := us) h1 k1, h =>
    obtain ⟨ns, e1, e2⟩ := Option.bind_eq_some_iff.mp (show (dInts ds).bind f = some x from h)
    rw [ints_ats k1 e1] at h1
    exact ⟨_, ns, rfl, sameT hF h1, e2⟩
theorem und_maxT : UnD X (toL1 (rMaxT X.K)) maxTD := fun F0 H0 H σ ρ vs xs v d Q s ⟨x, hx, q⟩ => by
  obtain ⟨F, hF, a, t⟩ := s.oneT
  obtain ⟨p, ns, rfl, h1, h2⟩ := tupI hF a hx
  split at h2
  · rename_i h0
    cases h2
    exact ⟨p, ns, rfl, h1, h0, fun m z1 z2 => q H _ (s.pop.scal fun F => by rw [max_is h0 z1 z2]; exact .int _)⟩
  · cases h2
theorem und_minT : UnD X (toL1 (rMinT X.K)) minTD := fun F0 H0 H σ ρ vs xs v d Q s ⟨x, hx, q⟩ => by
  obtain ⟨F, hF, a, t⟩ := s.oneT
  obtain ⟨p, ns, rfl, h1, h2⟩ := tupI hF a hx
  split at h2
  · rename_i h0
    cases h2
    exact ⟨p, ns, rfl, h1, h0, fun m z1 z2 => q H _ (s.pop.scal fun F => by rw [min_is h0 z1 z2]; exact .int _)⟩
  · cases h2
variable {e : Expr} {fs : DEnv → R (List Val)} {p pos : Pos}
theorem de_max1A (hc : X.calm = true) (hg : Gl X "max") (hm : X.mg "max" = none) (ha : DA X [e] fs) (he : starEach [e] X.env = (false, eval e X.env) :: starEach [] X.env := by rfl) : DE X (.Call (.Name "max" p) [e] [] pos) (sCB (orC (g1 maxD) (g1 maxTD)) fs) := de_callB (CallR.or (call_1 (cr_max hc)) (call_1 (cr_maxT hc))) (CallD.or (calld_1 und_max) (calld_1 und_maxT)) hg hm (by decide +kernel) ha (he := he)
theorem de_min1A (hc : X.calm = true) (hg : Gl X "min") (hm : X.mg "min" = none) (ha : DA X [e] fs) (he : starEach [e] X.env = (false, eval e X.env) :: starEach [] X.env := by rfl) : DE X (.Call (.Name "min" p) [e] [] pos) (sCB (orC (g1 minD) (g1 minTD)) fs) := de_callB (CallR.or (call_1 (cr_min hc)) (call_1 (cr_minT hc))) (CallD.or (calld_1 und_min) (calld_1 und_minT)) hg hm (by decide +kernel) ha (he := he)
/-! what is lent: the whole frame stands still while a scalar is found -/
def D.sca : D → Bool
  | .non => true
  | .bl _ => true
  | .int _ => true
  | .str _ => true
  | _ => false
theorem D.sca_at {K : PySem.W.Frag} {F F' : Hp} {v : V} {d : D} (h : d.sca = true) (a : At K F v d) : At K F' v d := by
  match d, h, a with
  | .non, _, a => cases a; exact .non
  | .bl _, _, a => cases a; exact .bl _
  | .int _, _, a => cases a; exact .int _
  | .str _, _, a => cases a; exact .str _
def frO (o : Option Val) : Option Val := o.map fun x => .sh x.fz
def lendR (r : R Val) (ρ : DEnv) : R Val := match r with
  | .ok (.sh d) _ => if d.sca = true then .ok (.sh d) ρ else .bad
  | _ => .bad
def sLend (f : DEnv → R Val) : DEnv → R Val := fun ρ => lendR (f (ρ.map frO)) ρ
theorem Sl.fz {K : PySem.W.Frag} {F F' H : Hp} (e : Same F F') : ∀ {σ : St} {ρ : DEnv} {f : List Addr}, Sl K F H σ ρ f → (∀ b ∈ f, F' b = H b) → Sl K F' H σ (ρ.map frO) []
  | _, _, _, .nil, _ => .nil
  | _, _, _, .un t, k => .un (Sl.fz e t k)
  | _, _, _, .bd h t, k => .bd (f := []) (g := []) (Own.sh (Own.fz e _ _ _ h fun b hb => k b (List.mem_append_left _ hb))) (Sl.fz e t fun b hb => k b (List.mem_append_right _ hb))
theorem Stt.lend {K : PySem.W.Frag} {F0 H0 H : Hp} {σ : St} {ρ : DEnv} {vs : List V} {xs : List Val} (h : Stt K F0 H0 H σ ρ vs xs) : ∃ F1, Stt K F1 H0 H σ (ρ.map frO) [] [] ∧
    ∀ H1 σ1 ρ1 v d, d.sca = true → Stt K F1 H0 H1 σ1 ρ1 [v] [.sh d] → Stt K F0 H0 H1 σ ρ (v :: vs) (.sh d :: xs) := by
  obtain ⟨F, f, g, h1, h2, h3, h4, h5, h6, h7, h8⟩ := h
  have n5 := Sl.no h5
  have n6 := Owns.no _ _ _ h6
  have no : ∀ b ∈ g ++ f, F b = none ∧ H b ≠ none := fun b hb => (List.mem_append.mp hb).elim (n6 b) (n5 b)
  have e : Same F (frz F H (g ++ f)) := frz_same fun b hb => (no b hb).1
  refine ⟨frz F H (g ++ f), ⟨frz F H (g ++ f), [], [], Same.refl _, h2, frz_sub h3, fun b z _ => z, Sl.fz e h5 fun b hb => frz_in (List.mem_append_right _ hb), .nil, by simp, by simp⟩, ?_⟩
  intro H1 σ1 ρ1 v d hd ⟨F', f', g', k1, k2, k3, k4, k5, k6, k7, k8⟩
  have hs : Same (frz F H (g ++ f)) H1 := k1.trans k3
  have hb1 : ∀ b ∈ g ++ f, H1 b = H b := fun b hb => by
    cases e2 : H b with
    | none => exact absurd e2 (no b hb).2
    | some o => exact hs b o (by rw [frz_in hb]; exact e2)
  cases k6 with
  | cons a t =>
    cases a with
    | sh a =>
      exact ⟨F, f, g, h1, k2, e.trans hs, h4, Sl.mono (Same.refl F) h5 fun b hb => ⟨(n5 b hb).1, hb1 b (List.mem_append_right _ hb)⟩,
        Owns.cons (f := []) (Own.sh (D.sca_at hd a)) (Owns.mono (Same.refl F) _ _ _ h6 fun b hb => ⟨(n6 b hb).1, hb1 b (List.mem_append_left _ hb)⟩), h7, h8⟩
theorem de_lend {f : DEnv → R Val} (h : DE X e f) : DE X e (sLend f) :=
  PE.imp h fun σ H Q ⟨F0, H0, ρ, vs, xs, s, q⟩ => by
    obtain ⟨F1, s1, back⟩ := s.lend
    refine ⟨F1, H0, ρ.map frO, [], [], s1, ?_⟩
    have q : post X F0 H0 vs xs _ (lendR (f (ρ.map frO)) ρ) := q
    cases e1 : f (ρ.map frO) with
    | bad => rw [e1] at q; exact q.elim
    | exc _ _ => rw [e1] at q; exact q.elim
    | ok x ρ1 =>
      rw [e1] at q
      match x, q with
      | .sh d, q =>
        have q : post X F0 H0 vs xs _ (if d.sca = true then (R.ok (Val.sh d) ρ : R Val) else .bad) := q
        split at q
        · rename_i hd
          intro H1 v s2
          exact q H1 v (back H1 σ ρ1 v d hd s2)
        · exact q.elim
/-! xs[::-1] -/
def revD : D → Option Val
  | .lst xs => some (.lst (xs.reverse.map .sh))
  | _ => none
theorem de_rev {fa : DEnv → R Val} {k : Nat} {p1 p2 p3 : Pos} (ha : DE X e fa) : DE X (.Subscript e (.Slice none none (some (.UnaryOp .USub (.Constant (.int 1) k p1) p2)) p3) pos) (sUn revD fa) :=
  PE.imp (pe_revL ha) fun σ H Q ⟨F0, H0, ρ, vs, xs, s, q⟩ => by
    refine ⟨F0, H0, ρ, vs, xs, s, (post_bind q).imp (fun x ρ1 q1 H1 v s1 => ?_) fun _ _ z => z⟩
    obtain ⟨F, hF, a, t⟩ := s1.fz.oneT
    cases e1 : revD x.fz with
    | none => rw [e1] at q1; exact q1.elim
    | some z =>
      rw [e1] at q1
      match x.fz, a, e1 with
      | .lst ds, .lst (vs := us) h1 k1, e1 =>
        cases e1
        exact ⟨_, us, rfl, hF.seq (.of h1), fun p np => q1 _ _ (Stt.newLst (by simpa using k1.length) (t us.reverse ds.reverse k1.rev) np)⟩
end
end DL

/-! DLk: texts: walked sign by sign, repeated, joined. -/
namespace DL
open PySem PySem.Spec L2
def signsL (z : Str) : List D := z.cps.toList.map fun c => .str ⟨#[c]⟩
def signsD : D → Option (List D)
  | .str z => some (signsL z)
  | _ => none
def sSigns (f : DEnv → R Val) : DEnv → R (List D) := fun ρ => (f ρ).bind fun x ρ1 => liftL (signsD x.fz) ρ1
theorem walk_signs {K : PySem.W.Frag} {F0 : Hp} {z : Str} : Walk K F0 (Its z) (signsL z) := fun j H hF => by
  refine ⟨fun d e => ?_, fun hi => (show z.cps.size ≤ j by simpa [signsL] using hi)⟩
  unfold signsL at e
  rw [List.getElem?_map] at e
  cases e1 : z.cps.toList[j]? with
  | none => rw [e1] at e; cases e
  | some c =>
    rw [e1] at e
    cases e
    have hj : j < z.cps.toList.length := (List.getElem?_eq_some_iff.mp e1).1
    refine ⟨(show j < z.cps.size by simpa using hj), fun x H' hy H0 σ ρ vs xs s => ?_⟩
    obtain ⟨rfl, c', e2, rfl⟩ := hy
    have e3 : some c' = some c := by rw [← e1, ← e2]; simp
    cases e3
    exact s.scal fun _ => .str _
theorem di_str {X : Cx} {tg l : Expr} {f : DEnv → R Val} (hl : DE X l f) : DI X tg l (sSigns f) :=
  PI.imp (pi_str hl) fun σ H RR ⟨F0, H0, ρ, vs, xs, s, q⟩ => by
    refine ⟨F0, H0, ρ, vs, xs, s, (post_bind q).imp (fun x ρ1 q1 H1 v s1 => ?_) fun _ _ z => z⟩
    obtain ⟨F, hF, hA, s2, rb⟩ := Stt.rebaseAt (as := [v]) (ds := [x.fz]) rfl s1.fz
    cases hA with
    | cons a _ =>
      cases e : signsD x.fz with
      | none => rw [e] at q1; exact q1.elim
      | some ds =>
        rw [e] at q1
        match hx : x.fz, e, a with
        | .str z, e, .str _ =>
          cases e
          exact ⟨z, rfl, q1 F H1 _ s2 rb walk_signs⟩
section
variable {X : Cx}
def CRepS (a : Str) (k : Int) : Prop := a.length * k.toNat ≤ 1000000 ∧ k < 1000000 ∧ -1000000 ≤ k
instance (a : Str) (k : Int) : Decidable (CRepS a k) := by unfold CRepS; infer_instance
theorem CRepS.ok {a : Str} {k : Int} (h : CRepS a k) : MulOk a k := by
  obtain ⟨h1, h2, h3⟩ := h
  refine ⟨?_, fun n _ => ?_, fun n _ => ?_⟩
  · rw [Bool.or_eq_false_iff]
    exact ⟨decide_eq_false (by omega), decide_eq_false (by omega)⟩
  · have hk : 0 < k := by omega
    have h5 : (a.length : Int) * k ≤ 1000000 := by
      have : ((a.length * k.toNat : Nat) : Int) ≤ 1000000 := by omega
      rw [Int.natCast_mul, Int.toNat_of_nonneg (by omega)] at this
      exact this
    have h6 : (a.length : Int) ≤ (2 ^ 63 - 1) / k := (Int.le_ediv_iff_mul_le hk).mpr (by omega)
    omega
  · unfold Builtin.Str.tooLong
    exact decide_eq_false (by rw [sizeLine_eq]; omega)
theorem op_repS : OpR X (binaryOp .Mult) (fun x y H Q => ∃ a k, x = .str a ∧ y = .int k ∧ CRepS a k ∧ Q (.str (Txt.mul a k)) H) := by
  intro pins s σ H x y v u Q I rx ry h
  obtain ⟨a, k, rfl, rfl, hz, q⟩ := h
  obtain ⟨t, rfl⟩ := rx
  obtain ⟨t', rfl⟩ := ry
  exact SB.mul hz.ok fun t' tk => ⟨.str (Txt.mul a k), H, I.tok _, ⟨_, rfl⟩, q⟩
def repS : D → D → Option Val := fun d e => match d, e with
  | .str a, .int k => if CRepS a k then some (.sh (.str (Txt.mul a k))) else none
  | _, _ => none
theorem opd_repS : OpD X (fun x y H Q => ∃ a k, x = .str a ∧ y = .int k ∧ CRepS a k ∧ Q (.str (Txt.mul a k)) H) repS := fun F0 H0 H σ ρ vs xs v w d e Q s ⟨x, hx, q⟩ => by
  obtain ⟨F, hF, a, b, t⟩ := s.two
  match d, e, a, b, hx with
  | .str i, .int j, .str _, .int _, hx =>
    have hx : (if CRepS i j then some (Val.sh (.str (Txt.mul i j))) else none) = some x := hx
    split at hx
    · rename_i hc
      cases hx
      exact ⟨i, j, rfl, rfl, hc, q H _ (s.pop.pop.scal fun F => .str _)⟩
    · cases hx
theorem de_repS {a b : Expr} {fa fb : DEnv → R Val} {pos : Pos} (ha : DE X a fa) (hb : DE X b fb) : DE X (.BinOp a .Mult b pos) (sOp repS fa fb) := de_op op_repS opd_repS ha hb
def dStrs : List D → Option (List Str)
  | [] => some []
  | .str z :: r => (dStrs r).map (z :: ·)
  | _ :: _ => none
theorem strs_ats {K : PySem.W.Frag} {F : Hp} : ∀ {ds : List D} {vs : List V} {ns : List Str}, Ats K F vs ds → dStrs ds = some ns → vs = ns.map V.str
  | [], _, ns, .nil, h => by cases h; rfl
  | .str i :: r, _, ns, .cons (.str _) t, h => by
    obtain ⟨ms, e1, e2⟩ := Option.map_eq_some_iff.mp (show (dStrs r).map (i :: ·) = some ns from h)
    subst e2
    rw [strs_ats t e1]; rfl
  | .non :: _, _, _, _, h => by cases h
  | .bl _ :: _, _, _, _, h => by cases h
  | .int _ :: _, _, _, _, h => by cases h
  | .lst _ :: _, _, _, _, h => by cases h
  | .scr _ :: _, _, _, _, h => by cases h
  | .tup _ :: _, _, _, _, h => by cases h
  | .ins _ _ _ :: _, _, _, _, h => by cases h
def joinD (a : Str) : D → Option Val
  | .lst ds => (dStrs ds).bind fun ys => if (ys.map (·.length)).sum + ys.length * a.length ≤ 10000000 then some (.sh (.str (Txt.join a ys))) else none
  | _ => none
def joinK (d : D) (k : Str → R Val) : R Val := match d with
  | .str a => k a
  | _ => .bad
def sJoin (fa fb : DEnv → R Val) : DEnv → R Val := fun ρ => (fa ρ).bind fun x ρ1 => joinK x.fz fun a => (fb ρ1).bind fun y ρ2 => liftO (joinD a y.fz) ρ2
theorem de_join {o e : Expr} {apos pos : Pos} {fa fb : DEnv → R Val} (ho : DE X o fa) (he : DE X e fb) (hs : starEach [e] X.env = [(false, eval e X.env)] := by rfl)
    (hbase : attributeBase o "join" X.env (eval o X.env) = eval o X.env := by rfl) (hline : (apos.endLine == pos.line) = true := by rfl) : DE X (.Call (.Attribute o "join" apos) [e] [] pos) (sJoin fa fb) :=
  PE.imp (pe_join ho he hs hbase hline) fun σ H Q ⟨F0, H0, ρ, vs, xs, s, q⟩ => by
    refine ⟨F0, H0, ρ, vs, xs, s, (post_bind q).imp (fun x ρ1 q1 H1 v s1 => ?_) fun _ _ z => z⟩
    obtain ⟨F, hF, a, t⟩ := s1.fz.oneT
    match hx : x.fz, a, q1 with
    | .str z, .str _, q1 =>
      have s2 := s1.fz
      rw [hx] at s2
      refine ⟨⟨z, rfl⟩, F0, H0, ρ1, vs, xs, s2.pop, (post_bind q1).imp (fun y ρ2 q2 H2 w s3 => ?_) fun _ _ z => z⟩
      obtain ⟨F2, hF2, a2, t2⟩ := s3.fz.oneT
      cases e1 : joinD z y.fz with
      | none => rw [e1] at q2; exact q2.elim
      | some u =>
        rw [e1] at q2
        match hy : y.fz, a2, e1 with
        | .lst ds, .lst (vs := us) h1 k1, e1 =>
          obtain ⟨ys, e3, e4⟩ := Option.bind_eq_some_iff.mp (show (dStrs ds).bind _ = some u from e1)
          have e4 : (if (ys.map (·.length)).sum + ys.length * z.length ≤ 10000000 then some (Val.sh (.str (Txt.join z ys))) else none) = some u := e4
          split at e4
          · cases e4
            rw [strs_ats k1 e3] at h1
            exact ⟨z, _, ys, rfl, rfl, .inl (hF2.seq (.of h1)), by omega, q2 _ _ (s3.pop.scal fun F => .str _)⟩
          · cases e4
end
end DL

/-! DLl: a list of one's own within a list or tuple of one's own is changed. -/
namespace DL
open PySem PySem.Spec L2
section
variable {K : PySem.W.Frag} {F F0 H0 H : Hp} {σ : St} {ρ : DEnv} {vs : List V} {xs ys zs : List Val} {v : V}
theorem Owns.one {w : V} {d : D} (a : At K F w d) : Owns K F H [w] [.sh d] [] := Owns.cons (f := []) (g := []) (Own.sh a) .nil
theorem owns_app : ∀ (xs : List Val) (vs : List V) (f : List Addr) (j : Nat), Owns K F H vs xs f → f.Nodup → xs[j]? = some (.lst zs) → ∃ q ws, vs[j]? = some (.ref q) ∧ H q = some (.lst ws) ∧ ws.length = zs.length ∧ q ∈ f ∧ F q = none ∧
    ∀ w d, At K F w d → ∃ f', Owns K F (upd H q (.lst (ws ++ [w]))) vs (xs.set j (.lst (zs ++ [.sh d]))) f' ∧ Sb f' f
  | x :: xs, v :: vs, _, 0, .cons (f := f1) (g := f2) a t, nd, e => by
    have e : x = .lst zs := by simpa using e
    subst e
    cases a with
    | @lst p us _ f3 k1 k2 k3 =>
      have nd : (p :: (f3 ++ f2)).Nodup := nd
      have np := (List.nodup_cons.mp nd).1
      have ne : ∀ b ∈ f3 ++ f2, b ≠ p := fun b hb e => by subst e; exact np hb
      refine ⟨p, us, rfl, k2, Owns.length k3, List.mem_cons_self, k1, fun w d hw => ?_⟩
      have k3' : Owns K F (upd H p (.lst (us ++ [w]))) us zs f3 := Owns.mono (Same.refl F) _ _ _ k3 fun b hb => ⟨(Owns.no _ _ _ k3 b hb).1, upd_ne (ne b (List.mem_append_left _ hb))⟩
      have t' : Owns K F (upd H p (.lst (us ++ [w]))) vs xs f2 := Owns.mono (Same.refl F) _ _ _ t fun b hb => ⟨(Owns.no _ _ _ t b hb).1, upd_ne (ne b (List.mem_append_right _ hb))⟩
      obtain ⟨g, c1, c2, c3⟩ := k3'.append (Owns.one (H := upd H p (.lst (us ++ [w]))) hw)
      exact ⟨(p :: g) ++ f2, .cons (.lst k1 upd_same c1) t', ((Sb.refl [p]).app (c2.trans (by rw [List.append_nil]; exact .refl _))).app (.refl f2)⟩
  | x :: xs, v :: vs, _, j + 1, .cons (f := f1) (g := f2) a t, nd, e => by
    obtain ⟨n1, n2, n3⟩ := List.nodup_append.mp nd
    obtain ⟨q, ws, h1, h2, h3, h4, h5, h6⟩ := owns_app xs vs f2 j t n2 (by simpa using e)
    refine ⟨q, ws, by simpa using h1, h2, h3, List.mem_append_right _ h4, h5, fun w d hw => ?_⟩
    obtain ⟨f', c1, c2⟩ := h6 w d hw
    exact ⟨f1 ++ f', .cons (Own.mono (Same.refl F) _ _ _ a fun b hb => ⟨(Own.no _ _ _ a b hb).1, upd_ne (n3 b hb q h4)⟩) c1, (Sb.refl f1).app c2⟩
/-- .. of a tuple -/
theorem Stt.app_tup {j : Nat} (h : Stt K F0 H0 H σ ρ (v :: vs) (.tup ys :: xs)) (ej : ys[j]? = some (.lst zs)) : ∃ p us q ws, v = .ref p ∧ H p = some (.tup us) ∧ us.length = ys.length ∧ us[j]? = some (.ref q) ∧ H q = some (.lst ws) ∧ ws.length = zs.length ∧
    ∀ w d, (∀ F, At K F w d) → Stt K F0 H0 (upd H q (.lst (ws ++ [w]))) σ ρ (v :: vs) (.tup (ys.set j (.lst (zs ++ [.sh d]))) :: xs) := by
  obtain ⟨F, f, g, h1, h2, h3, h4, h5, h6, h7, h8⟩ := h
  cases h6 with
  | cons a t =>
    rename_i g1 g2
    cases a with
    | tup k1 k2 k3 =>
      rename_i p us g3
      have nd : (p :: ((g3 ++ g2) ++ f)).Nodup := h7
      obtain ⟨np, nd2⟩ := List.nodup_cons.mp nd
      have nd3 : g3.Nodup := (List.nodup_append.mp (List.nodup_append.mp nd2).1).1
      obtain ⟨q, ws, e1, e2, e3, e4, e5, e6⟩ := owns_app ys us g3 j k3 nd3 ej
      refine ⟨p, us, q, ws, rfl, k2, Owns.length k3, e1, e2, e3, fun w d hw => ?_⟩
      obtain ⟨g4, c1, c2⟩ := e6 w d (hw F)
      have q0 : H0 q = none := h8 q (List.mem_append_left _ (List.mem_append_left _ (List.mem_cons_of_mem _ e4)))
      have qp : p ≠ q := fun z => np (z ▸ List.mem_append_left _ (List.mem_append_left _ e4))
      have dis2 : ∀ b ∈ g2, b ≠ q := fun b hb z => (List.nodup_append.mp (List.nodup_append.mp nd2).1).2.2 q e4 b hb z.symm
      have dis3 : ∀ b ∈ f, b ≠ q := fun b hb z => (List.nodup_append.mp nd2).2.2 q (List.mem_append_left _ e4) b hb z.symm
      have t' : Owns K F (upd H q (.lst (ws ++ [w]))) vs xs g2 := Owns.mono (Same.refl F) _ _ _ t fun b hb => ⟨(Owns.no _ _ _ t b hb).1, upd_ne (dis2 b hb)⟩
      have h5' : Sl K F (upd H q (.lst (ws ++ [w]))) σ ρ f := Sl.mono (Same.refl F) h5 fun b hb => ⟨(Sl.no h5 b hb).1, upd_ne (dis3 b hb)⟩
      have s : Sb (((p :: g4) ++ g2) ++ f) (((p :: g3) ++ g2) ++ f) := (((Sb.refl [p]).app c2).app (.refl g2)).app (.refl f)
      exact ⟨F, f, (p :: g4) ++ g2, h1, fun b u e => by rw [upd_ne (fun z => by subst z; rw [q0] at e; cases e)]; exact h2 _ _ e, fun b u e => by rw [upd_ne (fun z => by subst z; rw [e5] at e; cases e)]; exact h3 _ _ e, h4, h5',
        Owns.cons (Own.tup k1 (by rw [upd_ne qp]; exact k2) c1) t', s.2 h7, fun b hb => h8 b (s.1 b hb)⟩
/-- .. of a list -/
theorem Stt.app_lst {j : Nat} (h : Stt K F0 H0 H σ ρ (v :: vs) (.lst ys :: xs)) (ej : ys[j]? = some (.lst zs)) : ∃ p us q ws, v = .ref p ∧ H p = some (.lst us) ∧ us.length = ys.length ∧ us[j]? = some (.ref q) ∧ H q = some (.lst ws) ∧ ws.length = zs.length ∧
    ∀ w d, (∀ F, At K F w d) → Stt K F0 H0 (upd H q (.lst (ws ++ [w]))) σ ρ (v :: vs) (.lst (ys.set j (.lst (zs ++ [.sh d]))) :: xs) := by
  obtain ⟨F, f, g, h1, h2, h3, h4, h5, h6, h7, h8⟩ := h
  cases h6 with
  | cons a t =>
    rename_i g1 g2
    cases a with
    | lst k1 k2 k3 =>
      rename_i p us g3
      have nd : (p :: ((g3 ++ g2) ++ f)).Nodup := h7
      obtain ⟨np, nd2⟩ := List.nodup_cons.mp nd
      have nd3 : g3.Nodup := (List.nodup_append.mp (List.nodup_append.mp nd2).1).1
      obtain ⟨q, ws, e1, e2, e3, e4, e5, e6⟩ := owns_app ys us g3 j k3 nd3 ej
      refine ⟨p, us, q, ws, rfl, k2, Owns.length k3, e1, e2, e3, fun w d hw => ?_⟩
      obtain ⟨g4, c1, c2⟩ := e6 w d (hw F)
      have q0 : H0 q = none := h8 q (List.mem_append_left _ (List.mem_append_left _ (List.mem_cons_of_mem _ e4)))
      have qp : p ≠ q := fun z => np (z ▸ List.mem_append_left _ (List.mem_append_left _ e4))
      have dis2 : ∀ b ∈ g2, b ≠ q := fun b hb z => (List.nodup_append.mp (List.nodup_append.mp nd2).1).2.2 q e4 b hb z.symm
      have dis3 : ∀ b ∈ f, b ≠ q := fun b hb z => (List.nodup_append.mp nd2).2.2 q (List.mem_append_left _ e4) b hb z.symm
      have t' : Owns K F (upd H q (.lst (ws ++ [w]))) vs xs g2 := Owns.mono (Same.refl F) _ _ _ t fun b hb => ⟨(Owns.no _ _ _ t b hb).1, upd_ne (dis2 b hb)⟩
      have h5' : Sl K F (upd H q (.lst (ws ++ [w]))) σ ρ f := Sl.mono (Same.refl F) h5 fun b hb => ⟨(Sl.no h5 b hb).1, upd_ne (dis3 b hb)⟩
      have s : Sb (((p :: g4) ++ g2) ++ f) (((p :: g3) ++ g2) ++ f) := (((Sb.refl [p]).app c2).app (.refl g2)).app (.refl f)
      exact ⟨F, f, (p :: g4) ++ g2, h1, fun b u e => by rw [upd_ne (fun z => by subst z; rw [q0] at e; cases e)]; exact h2 _ _ e, fun b u e => by rw [upd_ne (fun z => by subst z; rw [e5] at e; cases e)]; exact h3 _ _ e, h4, h5',
        Owns.cons (Own.lst k1 (by rw [upd_ne qp]; exact k2) c1) t', s.2 h7, fun b hb => h8 b (s.1 b hb)⟩
/-- .. of a tuple, by what lies below it -/
theorem Stt.app2_tup {j : Nat} {w : V} {d : D} (h : Stt K F0 H0 H σ ρ (v :: w :: vs) (.tup ys :: .sh d :: xs)) (ej : ys[j]? = some (.lst zs)) : ∃ p us q ws, v = .ref p ∧ H p = some (.tup us) ∧ us.length = ys.length ∧ us[j]? = some (.ref q) ∧ H q = some (.lst ws) ∧ ws.length = zs.length ∧
    Stt K F0 H0 (upd H q (.lst (ws ++ [w]))) σ ρ (v :: vs) (.tup (ys.set j (.lst (zs ++ [.sh d]))) :: xs) := by
  obtain ⟨F, f, g, h1, h2, h3, h4, h5, h6, h7, h8⟩ := h
  cases h6 with
  | cons a t0 =>
    rename_i g1 g0
    cases t0 with
    | cons aw t =>
    rename_i gw g2
    cases aw with
    | sh aw =>
    cases a with
    | tup k1 k2 k3 =>
      rename_i p us g3
      have nd : (p :: ((g3 ++ g2) ++ f)).Nodup := h7
      obtain ⟨np, nd2⟩ := List.nodup_cons.mp nd
      have nd3 : g3.Nodup := (List.nodup_append.mp (List.nodup_append.mp nd2).1).1
      obtain ⟨q, ws, e1, e2, e3, e4, e5, e6⟩ := owns_app ys us g3 j k3 nd3 ej
      refine ⟨p, us, q, ws, rfl, k2, Owns.length k3, e1, e2, e3, ?_⟩
      obtain ⟨g4, c1, c2⟩ := e6 w d aw
      have q0 : H0 q = none := h8 q (List.mem_append_left _ (List.mem_append_left _ (List.mem_cons_of_mem _ e4)))
      have qp : p ≠ q := fun z => np (z ▸ List.mem_append_left _ (List.mem_append_left _ e4))
      have dis2 : ∀ b ∈ g2, b ≠ q := fun b hb z => (List.nodup_append.mp (List.nodup_append.mp nd2).1).2.2 q e4 b hb z.symm
      have dis3 : ∀ b ∈ f, b ≠ q := fun b hb z => (List.nodup_append.mp nd2).2.2 q (List.mem_append_left _ e4) b hb z.symm
      have t' : Owns K F (upd H q (.lst (ws ++ [w]))) vs xs g2 := Owns.mono (Same.refl F) _ _ _ t fun b hb => ⟨(Owns.no _ _ _ t b hb).1, upd_ne (dis2 b hb)⟩
      have h5' : Sl K F (upd H q (.lst (ws ++ [w]))) σ ρ f := Sl.mono (Same.refl F) h5 fun b hb => ⟨(Sl.no h5 b hb).1, upd_ne (dis3 b hb)⟩
      have s : Sb (((p :: g4) ++ g2) ++ f) (((p :: g3) ++ g2) ++ f) := (((Sb.refl [p]).app c2).app (.refl g2)).app (.refl f)
      exact ⟨F, f, (p :: g4) ++ g2, h1, fun b u e => by rw [upd_ne (fun z => by subst z; rw [q0] at e; cases e)]; exact h2 _ _ e, fun b u e => by rw [upd_ne (fun z => by subst z; rw [e5] at e; cases e)]; exact h3 _ _ e, h4, h5',
        Owns.cons (Own.tup k1 (by rw [upd_ne qp]; exact k2) c1) t', s.2 h7, fun b hb => h8 b (s.1 b hb)⟩
/-- .. of a list, by what lies below it -/
theorem Stt.app2_lst {j : Nat} {w : V} {d : D} (h : Stt K F0 H0 H σ ρ (v :: w :: vs) (.lst ys :: .sh d :: xs)) (ej : ys[j]? = some (.lst zs)) : ∃ p us q ws, v = .ref p ∧ H p = some (.lst us) ∧ us.length = ys.length ∧ us[j]? = some (.ref q) ∧ H q = some (.lst ws) ∧ ws.length = zs.length ∧
    Stt K F0 H0 (upd H q (.lst (ws ++ [w]))) σ ρ (v :: vs) (.lst (ys.set j (.lst (zs ++ [.sh d]))) :: xs) := by
  obtain ⟨F, f, g, h1, h2, h3, h4, h5, h6, h7, h8⟩ := h
  cases h6 with
  | cons a t0 =>
    rename_i g1 g0
    cases t0 with
    | cons aw t =>
    rename_i gw g2
    cases aw with
    | sh aw =>
    cases a with
    | lst k1 k2 k3 =>
      rename_i p us g3
      have nd : (p :: ((g3 ++ g2) ++ f)).Nodup := h7
      obtain ⟨np, nd2⟩ := List.nodup_cons.mp nd
      have nd3 : g3.Nodup := (List.nodup_append.mp (List.nodup_append.mp nd2).1).1
      obtain ⟨q, ws, e1, e2, e3, e4, e5, e6⟩ := owns_app ys us g3 j k3 nd3 ej
      refine ⟨p, us, q, ws, rfl, k2, Owns.length k3, e1, e2, e3, ?_⟩
      obtain ⟨g4, c1, c2⟩ := e6 w d aw
      have q0 : H0 q = none := h8 q (List.mem_append_left _ (List.mem_append_left _ (List.mem_cons_of_mem _ e4)))
      have qp : p ≠ q := fun z => np (z ▸ List.mem_append_left _ (List.mem_append_left _ e4))
      have dis2 : ∀ b ∈ g2, b ≠ q := fun b hb z => (List.nodup_append.mp (List.nodup_append.mp nd2).1).2.2 q e4 b hb z.symm
      have dis3 : ∀ b ∈ f, b ≠ q := fun b hb z => (List.nodup_append.mp nd2).2.2 q (List.mem_append_left _ e4) b hb z.symm
      have t' : Owns K F (upd H q (.lst (ws ++ [w]))) vs xs g2 := Owns.mono (Same.refl F) _ _ _ t fun b hb => ⟨(Owns.no _ _ _ t b hb).1, upd_ne (dis2 b hb)⟩
      have h5' : Sl K F (upd H q (.lst (ws ++ [w]))) σ ρ f := Sl.mono (Same.refl F) h5 fun b hb => ⟨(Sl.no h5 b hb).1, upd_ne (dis3 b hb)⟩
      have s : Sb (((p :: g4) ++ g2) ++ f) (((p :: g3) ++ g2) ++ f) := (((Sb.refl [p]).app c2).app (.refl g2)).app (.refl f)
      exact ⟨F, f, (p :: g4) ++ g2, h1, fun b u e => by rw [upd_ne (fun z => by subst z; rw [q0] at e; cases e)]; exact h2 _ _ e, fun b u e => by rw [upd_ne (fun z => by subst z; rw [e5] at e; cases e)]; exact h3 _ _ e, h4, h5',
        Owns.cons (Own.lst k1 (by rw [upd_ne qp]; exact k2) c1) t', s.2 h7, fun b hb => h8 b (s.1 b hb)⟩
end
/-! x[k].append(c), c a constant -/
def appL (o : Option Val) (d : D) : Option Val := match o with
  | some (.lst zs) => if zs.length < 10000000 then some (.lst (zs ++ [.sh d])) else none
  | _ => none
def appIn (ys : List Val) (i : Int) (d : D) : Option (List Val) := (ixN ys.length i).bind fun j => (appL ys[j]? d).map fun z => ys.set j z
def appIxV (o : Option Val) (n : Nat) (k : D) (d : D) (ρ : DEnv) : Fl := match o, k with
  | some (.tup ys), .int i => match appIn ys i d with
    | some ys' => .nx (ρ.set n (some (.tup ys')))
    | none => .bad
  | some (.lst ys), .int i => match appIn ys i d with
    | some ys' => .nx (ρ.set n (some (.lst ys')))
    | none => .bad
  | _, _ => .bad
def sAppIx (n : Nat) (fk : DEnv → R Val) (d : D) : DEnv → Fl := fun ρ => match getV ρ[n]? with
  | none => .bad
  | some _ => (fk ρ).fl fun y ρ1 => appIxV (getV ρ1[n]?) n y.fz d ρ1
theorem appIn_some {ys ys' : List Val} {i : Int} {d : D} (h : appIn ys i d = some ys') : ∃ j zs, ixN ys.length i = some j ∧ ys[j]? = some (.lst zs) ∧ zs.length < 10000000 ∧ ys' = ys.set j (.lst (zs ++ [.sh d])) := by
  obtain ⟨j, e1, e2⟩ := Option.bind_eq_some_iff.mp h
  obtain ⟨z, e3, e4⟩ := Option.map_eq_some_iff.mp e2
  cases e5 : ys[j]? with
  | none => rw [e5] at e3; cases e3
  | some x =>
    rw [e5] at e3
    match x, e3 with
    | .lst zs, e3 =>
      have e3 : (if zs.length < 10000000 then some (Val.lst (zs ++ [.sh d])) else none) = some z := e3
      split at e3
      · cases e3
        exact ⟨j, zs, e1, e5, by assumption, e4.symm⟩
      · cases e3
section
variable {X : Cx} {i : Nat} {x : Str} {kb e : Expr} {fk : DEnv → R Val} {v : V} {d : D} {apos p p0 pos q : Pos}
theorem ds_appIx (hx : PE X (.Name x q) (tVar i)) (hk : DE X kb fk)
    (hb : PE X (.Call (.Attribute (.Subscript (.Name x q) kb p0) "append" apos) [e] [] p) (tBM X.K "list" rAppend (tOp (rIx X.K) (tVar i) (tE X fk)) (tCons (tC v) tNil))) (hd : ∀ F, At X.K F v d)
    (hs : swapsWith (.Call (.Attribute (.Subscript (.Name x q) kb p0) "append" apos) [e] [] p) none pos.line X.env = pure false := by rfl) :
    DS X (.Expr (.Call (.Attribute (.Subscript (.Name x q) kb p0) "append" apos) [e] [] p) pos) (sAppIx i fk d) :=
  PS.imp (ps_expr hb hs) fun D σ H ⟨F0, H0, ρ, vs, xs, s, q⟩ => by
    unfold sAppIx at q
    cases e0 : getV ρ[i]? with
    | none => rw [e0] at q; exact q.elim
    | some y0 =>
      rw [e0] at q
      obtain ⟨v0, k0, _⟩ := s.peek (getV_some e0)
      refine ⟨v0, k0, F0, H0, ρ, vs, xs, s, (post_fl q).imp (fun y ρ1 q1 H1 w s1 => ?_) fun _ _ z => z⟩
      have ew : ∀ j, y.fz = .int j → w = .int j := fun j hj => by
        obtain ⟨F', _, a, _⟩ := s1.fz.oneT
        rw [hj] at a
        cases a
        rfl
      have s2 := s1.pop
      cases e1 : getV ρ1[i]? with
      | none => rw [e1] at q1; exact q1.elim
      | some x1 =>
        rw [e1] at q1
        obtain ⟨v1, k1, s3⟩ := s2.take (getV_some e1)
        have ev : v1 = v0 := by rw [k0] at k1; cases k1; rfl
        subst ev
        have hlen : i < ρ1.length := (List.getElem?_eq_some_iff.mp (getV_some e1)).1
        match x1, hy : y.fz, q1 with
        | .tup ys, .int n, q1 =>
          have q1 : fpost X F0 H0 vs xs D (match appIn ys n d with
            | some ys' => Fl.nx (ρ1.set i (some (.tup ys')))
            | none => .bad) := q1
          cases e2 : appIn ys n d with
          | none => rw [e2] at q1; exact q1.elim
          | some ys' =>
            rw [e2] at q1
            obtain ⟨j, zs, a1, a2, a3, rfl⟩ := appIn_some e2
            obtain ⟨pp, us, qq, ws, rfl, b1, b2, b3, b4, b5, b6⟩ := Stt.app_tup s3 a2
            refine .inr (.inl ⟨pp, us, n, .ref qq, rfl, ew n hy, .of b1, by unfold atI; rw [b2, a1]; exact b3, .inl ⟨rfl, ws, .of b4⟩, ?_⟩)
            refine ⟨qq, ws, v, rfl, rfl, b4, by rw [b5, sizeLine_eq]; omega, q1 σ _ ?_⟩
            have s5 := (b6 v d hd).store (i := i) (by simpa using hlen)
            rw [List.set_set, set_same k1] at s5
            exact s5
        | .lst ys, .int n, q1 =>
          have q1 : fpost X F0 H0 vs xs D (match appIn ys n d with
            | some ys' => Fl.nx (ρ1.set i (some (.lst ys')))
            | none => .bad) := q1
          cases e2 : appIn ys n d with
          | none => rw [e2] at q1; exact q1.elim
          | some ys' =>
            rw [e2] at q1
            obtain ⟨j, zs, a1, a2, a3, rfl⟩ := appIn_some e2
            obtain ⟨pp, us, qq, ws, rfl, b1, b2, b3, b4, b5, b6⟩ := Stt.app_lst s3 a2
            refine .inl ⟨pp, us, n, .ref qq, rfl, ew n hy, .of b1, by unfold atI; rw [b2, a1]; exact b3, .inl ⟨rfl, ws, .of b4⟩, ?_⟩
            refine ⟨qq, ws, v, rfl, rfl, b4, by rw [b5, sizeLine_eq]; omega, q1 σ _ ?_⟩
            have s5 := (b6 v d hd).store (i := i) (by simpa using hlen)
            rw [List.set_set, set_same k1] at s5
            exact s5
/-- .. c a tuple of constants -/
theorem ds_appIxT {cs : List V} {ds : List D} {ta : TA} (hx : PE X (.Name x q) (tVar i)) (hk : DE X kb fk)
    (hb : PE X (.Call (.Attribute (.Subscript (.Name x q) kb p0) "append" apos) [e] [] p) (tBM X.K "list" rAppend (tOp (rIx X.K) (tVar i) (tE X fk)) ta))
    (hA : ∀ σ H Q, (∀ T, H T = none → Q [.ref T] (upd H T (.tup cs))) → ta σ H Q) (hl : cs.length = ds.length)
    (hpush : ∀ {F0 H0 H : Hp} {σ : St} {ρ : DEnv} {vs : List V} {xs : List Val}, Stt X.K F0 H0 H σ ρ vs xs → Stt X.K F0 H0 H σ ρ (cs ++ vs) (ds.map .sh ++ xs))
    (hs : swapsWith (.Call (.Attribute (.Subscript (.Name x q) kb p0) "append" apos) [e] [] p) none pos.line X.env = pure false := by rfl) :
    DS X (.Expr (.Call (.Attribute (.Subscript (.Name x q) kb p0) "append" apos) [e] [] p) pos) (sAppIx i fk (.tup ds)) :=
  PS.imp (ps_expr hb hs) fun D σ H ⟨F0, H0, ρ, vs, xs, s, q⟩ => by
    unfold sAppIx at q
    cases e0 : getV ρ[i]? with
    | none => rw [e0] at q; exact q.elim
    | some y0 =>
      rw [e0] at q
      obtain ⟨v0, k0, _⟩ := s.peek (getV_some e0)
      refine ⟨v0, k0, F0, H0, ρ, vs, xs, s, (post_fl q).imp (fun y ρ1 q1 H1 w s1 => ?_) fun _ _ z => z⟩
      have ew : ∀ j, y.fz = .int j → w = .int j := fun j hj => by
        obtain ⟨F', _, a, _⟩ := s1.fz.oneT
        rw [hj] at a
        cases a
        rfl
      have s2 := s1.pop
      cases e1 : getV ρ1[i]? with
      | none => rw [e1] at q1; exact q1.elim
      | some x1 =>
        rw [e1] at q1
        obtain ⟨v1, k1, s3⟩ := s2.take (getV_some e1)
        have ev : v1 = v0 := by rw [k0] at k1; cases k1; rfl
        subst ev
        have hlen : i < ρ1.length := (List.getElem?_eq_some_iff.mp (getV_some e1)).1
        match x1, hy : y.fz, q1 with
        | .tup ys, .int n, q1 =>
          have q1 : fpost X F0 H0 vs xs D (match appIn ys n (.tup ds) with
            | some ys' => Fl.nx (ρ1.set i (some (.tup ys')))
            | none => .bad) := q1
          cases e2 : appIn ys n (.tup ds) with
          | none => rw [e2] at q1; exact q1.elim
          | some ys' =>
            rw [e2] at q1
            obtain ⟨j, zs, a1, a2, a3, rfl⟩ := appIn_some e2
            obtain ⟨pp, us, qq, ws, rfl, b1, b2, b3, b4, b5, _⟩ := Stt.app_tup s3 a2
            refine .inr (.inl ⟨pp, us, n, .ref qq, rfl, ew n hy, .of b1, by unfold atI; rw [b2, a1]; exact b3, .inl ⟨rfl, ws, .of b4⟩, ?_⟩)
            refine hA σ H1 _ fun T nT => ?_
            have s4 : Stt X.K F0 H0 (upd H1 T (.tup cs)) σ (ρ1.set i none) (.ref T :: .ref pp :: vs) (.sh (.tup ds) :: .tup ys :: xs) := Stt.newTup (as := cs) (ds := ds) hl (hpush s3) nT
            obtain ⟨pp', us', qq', ws', z1, z2, z3, z4, z5, z6, z7⟩ := Stt.app2_tup (Stt.turn (as := [.ref T]) (bs := [.sh (.tup ds)]) rfl s4) a2
            cases z1
            have np : pp ≠ T := fun z => by subst z; rw [nT] at b1; cases b1
            rw [upd_ne np, b1] at z2
            cases z2
            rw [b3] at z4
            cases z4
            refine ⟨qq, ws', .ref T, rfl, rfl, z5, by rw [z6, sizeLine_eq]; omega, q1 σ _ ?_⟩
            have s5 := z7.store (i := i) (by simpa using hlen)
            rw [List.set_set, set_same k1] at s5
            exact s5
        | .lst ys, .int n, q1 =>
          have q1 : fpost X F0 H0 vs xs D (match appIn ys n (.tup ds) with
            | some ys' => Fl.nx (ρ1.set i (some (.lst ys')))
            | none => .bad) := q1
          cases e2 : appIn ys n (.tup ds) with
          | none => rw [e2] at q1; exact q1.elim
          | some ys' =>
            rw [e2] at q1
            obtain ⟨j, zs, a1, a2, a3, rfl⟩ := appIn_some e2
            obtain ⟨pp, us, qq, ws, rfl, b1, b2, b3, b4, b5, _⟩ := Stt.app_lst s3 a2
            refine .inl ⟨pp, us, n, .ref qq, rfl, ew n hy, .of b1, by unfold atI; rw [b2, a1]; exact b3, .inl ⟨rfl, ws, .of b4⟩, ?_⟩
            refine hA σ H1 _ fun T nT => ?_
            have s4 : Stt X.K F0 H0 (upd H1 T (.tup cs)) σ (ρ1.set i none) (.ref T :: .ref pp :: vs) (.sh (.tup ds) :: .lst ys :: xs) := Stt.newTup (as := cs) (ds := ds) hl (hpush s3) nT
            obtain ⟨pp', us', qq', ws', z1, z2, z3, z4, z5, z6, z7⟩ := Stt.app2_lst (Stt.turn (as := [.ref T]) (bs := [.sh (.tup ds)]) rfl s4) a2
            cases z1
            have np : pp ≠ T := fun z => by subst z; rw [nT] at b1; cases b1
            rw [upd_ne np, b1] at z2
            cases z2
            rw [b3] at z4
            cases z4
            refine ⟨qq, ws', .ref T, rfl, rfl, z5, by rw [z6, sizeLine_eq]; omega, q1 σ _ ?_⟩
            have s5 := z7.store (i := i) (by simpa using hlen)
            rw [List.set_set, set_same k1] at s5
            exact s5
/-! a name's value is handed on as one's own -/
def takeR (o : Option Val) (n : Nat) (ρ : DEnv) : R Val := match o with
  | some x => .ok x (ρ.set n none)
  | none => .bad
def sTake (n : Nat) : DEnv → R Val := fun ρ => takeR (getV ρ[n]?) n ρ
theorem de_take (hx : PE X (.Name x q) (tVar i)) : DE X (.Name x q) (sTake i) :=
  PE.imp hx fun σ H Q ⟨F0, H0, ρ, vs, xs, s, q⟩ => by
    unfold sTake at q
    cases e0 : getV ρ[i]? with
    | none => rw [e0] at q; exact q.elim
    | some y =>
      rw [e0] at q
      obtain ⟨v, k0, s1⟩ := s.take (getV_some e0)
      exact ⟨v, k0, q H v s1⟩
def lendT (r : R Bool) (ρ : DEnv) : R Bool := match r with
  | .ok b _ => .ok b ρ
  | _ => .bad
def sLendT (f : DEnv → R Bool) : DEnv → R Bool := fun ρ => lendT (f (ρ.map frO)) ρ
theorem dt_lend {e : Expr} {f : DEnv → R Bool} (h : DT X e f) : DT X e (sLendT f) :=
  PT.imp h fun σ H Q ⟨F0, H0, ρ, vs, xs, s, q⟩ => by
    obtain ⟨F1, s1, back⟩ := s.lend
    refine ⟨F1, H0, ρ.map frO, [], [], s1, ?_⟩
    have q : post X F0 H0 vs xs _ (lendT (f (ρ.map frO)) ρ) := q
    cases e1 : f (ρ.map frO) with
    | bad => rw [e1] at q; exact q.elim
    | exc _ _ => rw [e1] at q; exact q.elim
    | ok b ρ1 =>
      rw [e1] at q
      intro H1 s2
      exact q H1 (back H1 σ ρ1 .non .non rfl (s2.scal fun _ => .non)).pop
end
end DL

/-! DLm: instances of own classes: attributes, methods by class, making, isinstance. -/
namespace DL
open PySem PySem.Spec L2

theorem all0 {α : Type} {P : α → Prop} : ∀ a ∈ ([] : List α), P a := fun _ h => by cases h
/-! ### attributes -/
def fldD (Cs : List Addr) (f : Str) : D → Option Val := fun d => match d with
  | .ins C ns ds => if C ∈ Cs then ((ns.zip ds).lookup f).map .sh else none
  | _ => none
theorem zip_look {K : PySem.W.Frag} {F : Hp} {f : Str} {d : D} : ∀ {ns : List Str} {vs : List V} {ds : List D}, ns.length = vs.length → Ats K F vs ds → (ns.zip ds).lookup f = some d → ∃ v, (ns.zip vs).lookup f = some v ∧ At K F v d
  | [], _, _, _, _, h => by simp at h
  | n :: ns, [], _, e, _, _ => by simp at e
  | n :: ns, v :: vs, _, e, .cons (d := d') (ds := ds') a t, h => by
    rw [List.zip_cons_cons] at h ⊢
    unfold List.lookup at h ⊢
    by_cases hb : (f == n) = true
    · rw [hb] at h ⊢
      have h : some d' = some d := h
      cases h
      exact ⟨v, rfl, a⟩
    · have hb : (f == n) = false := by simpa using hb
      rw [hb] at h ⊢
      exact zip_look (by simpa using e) t h
theorem zip_none {f : Str} : ∀ {ns : List Str} {vs : List V}, f ∉ ns → (ns.zip vs).lookup f = none
  | [], _, _ => rfl
  | n :: ns, [], _ => rfl
  | n :: ns, v :: vs, h => by
    simp only [List.mem_cons, not_or] at h
    rw [List.zip_cons_cons]
    unfold List.lookup
    have hb : (f == n) = false := beq_eq_false_iff_ne.mpr h.1
    rw [hb]
    exact zip_none h.2
section
variable {X : Cx} {e o : Expr} {fe fo : DEnv → R Val} {f m : Str} {pos p apos pos' : Pos}
theorem de_fld {Cs : List Addr} (hC : ∀ C ∈ Cs, Cls X.K C ∧ NoAttr X.K C f) (he : DE X e fe) (hb : attributeBase e f X.env (eval e X.env) = eval e X.env := by rfl) : DE X (.Attribute e f pos) (sUn (fldD Cs f) fe) :=
  PE.imp (pe_fld he hb) fun σ H Q ⟨F0, H0, ρ, vs, xs, s, q⟩ => by
    refine ⟨F0, H0, ρ, vs, xs, s, (post_bind q).imp (fun x ρ1 q1 H1 v s1 => ?_) fun _ _ z => z⟩
    cases e1 : fldD Cs f x.fz with
    | none => rw [e1] at q1; exact q1.elim
    | some y =>
      rw [e1] at q1
      obtain ⟨F, hF, a, t⟩ := s1.fz.oneT
      match hx : x.fz, e1, a with
      | .ins C ns ds, e1, .ins (vs := us) h1 h2 h3 =>
        have e1 : (if C ∈ Cs then ((ns.zip ds).lookup f).map Val.sh else none) = some y := e1
        split at e1
        · rename_i hc
          obtain ⟨d, e2, rfl⟩ := Option.map_eq_some_iff.mp e1
          obtain ⟨w, e3, e4⟩ := zip_look h2 h3 e2
          exact ⟨_, C, _, _, w, rfl, hF _ _ h1, (hC C hc).1, (hC C hc).2, e3, q1 H1 w (t [w] [d] (.one e4))⟩
        · cases e1

/-! ### a new instance -/
theorem Stt.reset {K : PySem.W.Frag} {F0 H0 H : Hp} {σ : St} {ρ : DEnv} {vs : List V} {xs : List Val} {x : Addr} {o o' : HO} (h : Stt K F0 H0 H σ ρ vs xs) (hx : F0 x = none) (h0 : H0 x = some o) : Stt K F0 (upd H0 x o') (upd H x o') σ ρ vs xs := by
  obtain ⟨F, f, g, h1, h2, h3, h4, h5, h6, h7, h8⟩ := h
  have nF : F x = none := h4 x hx (by rw [h0]; exact fun z => nomatch z)
  have ne : ∀ b ∈ g ++ f, b ≠ x := fun b hb e => by
    subst e
    rw [h8 b hb] at h0
    cases h0
  refine ⟨F, f, g, h1, fun b u e => ?_, fun b u e => by rw [upd_ne (ne_of_none e nF)]; exact h3 _ _ e, fun b z1 z2 => ?_,
    Sl.mono (Same.refl F) h5 fun b hb => ⟨(Sl.no h5 b hb).1, upd_ne (ne b (List.mem_append_right _ hb))⟩, Owns.mono (Same.refl F) _ _ _ h6 fun b hb => ⟨(Owns.no _ _ _ h6 b hb).1, upd_ne (ne b (List.mem_append_left _ hb))⟩, h7, fun b hb => by rw [upd_ne (ne b hb)]; exact h8 b hb⟩
  · by_cases hb : b = x
    · subst hb; rw [upd_same] at e ⊢; exact e
    · rw [upd_ne hb] at e ⊢; exact h2 _ _ e
  · by_cases hb : b = x
    · subst hb; exact nF
    · rw [upd_ne hb] at z2; exact h4 b z1 z2
theorem Stt.born {K : PySem.W.Frag} {F H0 H1 H' : Hp} {σ : St} {ρ : DEnv} {us : List V} {ds : List D} {x dx C : Addr} {ns : List Str} (h : Stt K F H0 H' σ ρ us (ds.map .sh)) (hx0 : H0 x = some (.ins C dx (ns.zip us))) (hk : ∀ b, b ≠ x → b ≠ dx → H0 b = H1 b)
    (sF : Same F H1) (nx : H1 x = none) (ndx : H1 dx = none) (hl : ns.length = us.length) : Stt K F H1 H' [] [] [.ref x] [.sh (.ins C ns ds)] := by
  obtain ⟨Fi, f, g, h1, h2, h3, h4, h5, h6, h7, h8⟩ := h
  have fx : F x = none := sF.free nx
  have nFi : Fi x = none := h4 x fx (by rw [hx0]; exact fun z => nomatch z)
  obtain ⟨a, rfl⟩ := Owns.ats h6
  have hx : H' x = some (.ins C dx (ns.zip us)) := h2 _ _ hx0
  have sFi : Same Fi (upd Fi x (.ins C dx (ns.zip us))) := fun b u e => by rw [upd_ne (ne_of_none e nFi)]; exact e
  refine ⟨upd Fi x (.ins C dx (ns.zip us)), [], [], h1.trans sFi, fun b u e => h2 _ _ (by rw [hk b (ne_of_none e nx) (ne_of_none e ndx)]; exact e), fun b u e => ?_, fun b z1 z2 => ?_, .nil, .cons (f := []) (g := []) (.sh (.ins upd_same hl (Ats.mono sFi _ _ a))) .nil, by simp, fun b hb => by cases hb⟩
  · by_cases hb : b = x
    · subst hb; rw [upd_same] at e; rw [hx]; exact e
    · rw [upd_ne hb] at e; exact h3 _ _ e
  · have nb : b ≠ x := fun e => by subst e; exact z2 nx
    have nd : b ≠ dx := fun e => by subst e; exact z2 ndx
    rw [upd_ne nb]
    exact h4 b z1 (by rw [hk b nb nd]; exact z2)
def inits (X : Cx) : List (Str × (DEnv → R Val)) → TS
  | [] => tNext
  | (f, fe) :: r => tSeq (sFld X.K (tVar 0) (tE X fe) f) (inits X r)
def DInit (X : Cx) (ss : List Stmt) (l : List (Str × (DEnv → R Val))) : Prop := PSs X ss (inits X l)
theorem dinit_nil : DInit X [] [] := pss_nil
theorem dinit_cons {rest : List Stmt} {r : List (Str × (DEnv → R Val))} (hx : PE X o (tVar 0)) (he : DE X e fe) (h : DInit X rest r) (hs : swapsWith e (some (.Attribute o f pos')) pos.line X.env = pure false := by rfl) : DInit X (.Assign [.Attribute o f pos'] e pos :: rest) ((f, fe) :: r) :=
  pss_cons (ps_fld hx he hs) h
theorem dinit_one (hx : PE X o (tVar 0)) (he : DE X e fe) (hs : swapsWith e (some (.Attribute o f pos')) pos.line X.env = pure false := by rfl) : DInit X [.Assign [.Attribute o f pos'] e pos] [(f, fe)] := dinit_cons hx he dinit_nil hs
def runInit : List (Str × (DEnv → R Val)) → DEnv → List Str → List D → Option (List Str × List D)
  | [], _, ns, ds => some (ns, ds)
  | (f, fe) :: r, ρ, ns, ds => if f ∈ ns then none else match fe ρ with
    | .ok y ρ1 => runInit r ρ1 (ns ++ [f]) (ds ++ [y.fz])
    | _ => none
theorem putF_new {f : Str} {v : V} : ∀ {ns : List Str} {ws : List V}, ns.length = ws.length → f ∉ ns → putF f v (ns.zip ws) = (ns ++ [f]).zip (ws ++ [v])
  | [], [], _, _ => rfl
  | n :: ns, w :: ws, e, h => by
    simp only [List.mem_cons, not_or] at h
    show (if n = f then (n, v) :: ns.zip ws else (n, w) :: putF f v (ns.zip ws)) = (n, w) :: (ns ++ [f]).zip (ws ++ [v])
    rw [if_neg (fun z => h.1 z.symm), putF_new (by simpa using e) h.2]
theorem inits_read {F : Hp} {C x dx : Addr} (hC : Cls X.K C) (nF : F x = none) : ∀ (l : List (Str × (DEnv → R Val))) (ρ : DEnv) (ns : List Str) (ds : List D) (ws : List V) (σ : St) (H H0 : Hp) (D : Ends) (ns' : List Str) (ds' : List DL.D), (∀ p ∈ l, NoAttr X.K C p.1) → ns.length = ws.length → ns.length + l.length < 1000 → σ[0]? = some (some (.ref x)) →
    H0 x = some (.ins C dx (ns.zip ws)) → Stt X.K F H0 H σ ρ ws (ds.map .sh) → runInit l ρ ns ds = some (ns', ds') →
    (∀ (H0' H' : Hp) (ws' : List V) (ρ' : DEnv), H0' x = some (.ins C dx (ns'.zip ws')) → (∀ b, b ≠ x → H0' b = H0 b) → ns'.length = ws'.length → Stt X.K F H0' H' σ ρ' ws' (ds'.map .sh) → D.nx σ H') → inits X l D σ H
  | [], ρ, ns, ds, ws, σ, H, H0, D, ns', ds', _, hl, _, _, h0, s, hr, k => by
    cases hr
    exact k H0 H ws ρ h0 (fun _ _ => rfl) hl s
  | (f, fe) :: r, ρ, ns, ds, ws, σ, H, H0, D, ns', ds', hN, hl, hz, hs, h0, s, hr, k => by
    unfold runInit at hr
    split at hr
    · cases hr
    rename_i hf
    cases e1 : fe ρ with
    | exc _ _ => rw [e1] at hr; cases hr
    | bad => rw [e1] at hr; cases hr
    | ok y ρ1 =>
      rw [e1] at hr
      refine ⟨F, H0, ρ, ws, ds.map .sh, s, ?_⟩
      rw [e1]
      intro H1 v s1
      have hx1 : H1 x = some (.ins C dx (ns.zip ws)) := by
        obtain ⟨_, _, _, _, h2, _⟩ := s1
        exact h2 _ _ h0
      have hzl : (ns.zip ws).length < 1000 := by
        rw [List.length_zip]
        simp only [List.length_cons] at hz
        omega
      refine ⟨_, hs, x, C, dx, _, rfl, hx1, hC, hN _ List.mem_cons_self, hzl, ?_⟩
      rw [putF_new hl hf]
      have hl2 : ws.length = ds.length := by simpa using s1.lens
      have s2 : Stt X.K F H0 H1 σ ρ1 (v :: (ws ++ [])) (.sh y.fz :: (ds.map .sh ++ [])) := by
        rw [List.append_nil, List.append_nil]
        exact s1.fz
      have s3 := Stt.turn' (as := ws) (bs := ds.map .sh) (by simpa using hl2) s2
      have s4 : Stt X.K F H0 H1 σ ρ1 (ws ++ [v]) ((ds ++ [y.fz]).map .sh) := by
        rw [List.map_append]
        exact s3
      have s5 := s4.reset (o' := .ins C dx ((ns ++ [f]).zip (ws ++ [v]))) nF h0
      refine inits_read hC nF r ρ1 (ns ++ [f]) (ds ++ [y.fz]) (ws ++ [v]) σ _ _ D ns' ds' (fun p hp => hN p (List.mem_cons_of_mem _ hp)) (by simp [hl]) (by simp only [List.length_cons] at hz; simp; omega) hs upd_same s5 hr fun H0' H' ws' ρ' k1 k2 k3 k4 => ?_
      exact k H0' H' ws' ρ' k1 (fun b hb => (k2 b hb).trans (upd_ne hb)) k3 k4
end
/-- the promise of an __init__ that fills fs -/
def spInit (K : PySem.W.Frag) (fs : List Str) (n : Nat) (φ : List D → Option (List Str × List D)) : Sp := fun vs H Q E => ∃ x dx C rest F H1 ds, vs = .ref x :: rest ∧ H1 x = none ∧ H1 dx = none ∧ dx ≠ x ∧ H = upd (upd H1 dx (.own x)) x (.ins C dx []) ∧ Cls K C ∧ (∀ f ∈ fs, NoAttr K C f) ∧ Same F H1 ∧ Ats K F rest ds ∧ ds.length = n ∧ ∃ p, φ ds = some p ∧
  ∀ H', Stt K F H1 H' [] [] [.ref x] [.sh (.ins C p.1 p.2)] → Q .non H'
theorem Stt.un {K : PySem.W.Frag} {F0 H0 H : Hp} {σ : St} {ρ : DEnv} {vs : List V} {xs : List Val} {y : Option V} (h : Stt K F0 H0 H σ ρ vs xs) : Stt K F0 H0 H (y :: σ) (none :: ρ) vs xs := by
  obtain ⟨F, f, g, h1, h2, h3, h4, h5, h6⟩ := h
  exact ⟨F, f, g, h1, h2, h3, h4, .un h5, h6⟩
section
variable {P : Program} {w : World} {K : PySem.W.Frag} {mg : Str → Option Value} {base : Heap}
theorem fnI {x qual : Str} {st : Stmt} {f : Addr} {fd : FuncData} {N ps : List Str} {k n : Nat} {l : List (Str × (DEnv → R Val))} (F : Fun K x qual st f fd) (S : FnScope N ps (defScope st)) (hn : ps.length = n + 1) (hz : l.length < 1000)
    (hbody : ∀ (cdv : Value) (A : Around) (outer : List PySem.Env) (s0 : Shared) (H : Hp) (E : XK), Room k (A.deeper (PyProof.Rows.envOfC qual (defScope st) s0.heap.objs.size f cdv)) →
      DInit (cxOf (L2.CX P w) P w K mg base N qual (defScope st) f cdv A outer s0 H E) (defBody st) l) :
    FnOk P w K mg base (L2.CX P w) (k + 1) f fd ps (spInit K (l.map Prod.fst) n fun ds => runInit l (none :: env0 (N.length - 1) ds) [] []) := by
  refine F.okX S (fun vs H Q E ⟨x, dx, C, rest, G, H1, ds, e, _, _, _, _, _, _, _, ha, hl, _⟩ => by rw [e, hn, List.length_cons, ha.length, hl]) fun cdv A outer s0 H vs Q E hr ⟨x, dx, C, rest, G, H1, ds, e, nx, ndx, ne, eH, hC, hN, hG, ha, hl, p, hp, q⟩ => ⟨_, hbody cdv A outer s0 H E hr, ?_⟩
  subst e
  have fx : G x = none := hG.free nx
  have sG : Same G H := fun b u z => by
    have z1 := hG _ _ z
    rw [eH, upd_ne (ne_of_none z1 nx), upd_ne (ne_of_none z1 ndx)]
    exact z1
  have hx : H x = some (.ins C dx []) := by rw [eH, upd_same]
  have s1 : Stt K G H H (some (.ref x) :: (rest.map some ++ List.replicate (N.length - 1 - ds.length) none)) (none :: env0 (N.length - 1) ds) [] [] := (Stt.begin sG ha _).un
  have eσ : L2.start N (.ref x :: rest) = some (.ref x) :: (rest.map some ++ List.replicate (N.length - 1 - ds.length) none) := by
    unfold L2.start
    rw [List.length_cons, ha.length, List.map_cons, List.cons_append]
    congr 3
    omega
  rw [eσ]
  obtain ⟨ns', ds'⟩ := p
  refine inits_read (F := G) (H0 := H) (ns := []) (ds := []) (ws := []) (ns' := ns') (ds' := ds') hC fx l _ _ _ _ (fun p hp => hN p.1 (List.mem_map_of_mem hp)) rfl (by simpa using hz) rfl hx s1 hp fun H0' H' ws' ρ' k1 k2 k3 k4 => ?_
  exact q H' (Stt.born k4 k1 (fun b hb hd => by rw [k2 b hb, eH, upd_ne hb, upd_ne hd]) hG nx ndx k3)
end
def sMake (C : Addr) (φ : List D → Option (List Str × List D)) (n : Nat) (fs : DEnv → R (List Val)) : DEnv → R Val := fun ρ => (fs ρ).bind fun ys ρ1 => if ys.length = n then liftO ((φ (fzs ys)).map fun p => .sh (.ins C p.1 p.2)) ρ1 else .bad
def NoX : XK := fun _ _ _ => False
theorem passX {X : Cx} : Passes (L2.CX X.prog X.w) X NoX := fun _ _ _ _ _ _ _ ⟨_, _, _, _, _, _, _, _, _, _, _, _, z⟩ => z.elim
section
variable {X : Cx} {k n : Nat} {C f : Addr} {fd : FuncData} {ps fns : List Str} {φ : List D → Option (List Str × List D)} {x m : Str} {p pos apos : Pos} {e o : Expr} {es : List Expr} {fs : DEnv → R (List Val)} {fo fe : DEnv → R Val}
theorem de_make (M : Mk X.K C f) (cl : Cls X.K C) (hN : ∀ f ∈ fns, NoAttr X.K C f) (F : FnOk X.prog X.w X.K X.mg X.base (L2.CX X.prog X.w) k f fd ps (spInit X.K fns n φ)) (hr : Room (k + 1) X.A) (hg : Gl X x) (hm : X.mg x = some (.ref C)) (hb : Binds X.K fd ps [])
    (ha : DA X (e :: es) fs) (hdb : (x == ("__debug__" : Str)) = false := by decide) (he : starEach (e :: es) X.env = (false, eval e X.env) :: starEach es X.env := by rfl) (hpl : (backTo pos (starEach es X.env)).any (·.1) = false := by rfl) :
    DE X (.Call (.Name x p) (e :: es) [] pos) (sMake C φ n fs) :=
  PE.imp (pe_make M F hr hg hm hb .nil passX ha hdb he hpl) fun σ H Q ⟨F0, H0, ρ, vs, xs, s, q⟩ => by
    refine ⟨F0, H0, ρ, vs, xs, s, (post_bind q).imp (fun ys ρ1 q1 H1 ws hl s1 => ?_) fun _ _ z => z⟩
    intro x dx nx ndx ne
    split at q1
    · rename_i hn
      cases e1 : φ (fzs ys) with
      | none => rw [e1] at q1; exact q1.elim
      | some p =>
        rw [e1] at q1
        obtain ⟨hl2, s2⟩ := s1.fzsP hl
        obtain ⟨F, hF, hA, c⟩ := Stt.call hl2 s2
        exact ⟨x, dx, C, ws, F, H1, fzs ys, by rw [List.append_nil], nx, ndx, ne, rfl, cl, hN, hF, hA, by rw [fzs_map, List.length_map]; exact hn, p, e1, fun H' s3 => ⟨rfl, q1 H' _ (c H' _ _ s3)⟩⟩
    · exact q1.elim

/-! ### methods, by the class -/
def methD (tab : List (Addr × (List D → CR))) (m : Str) : D → Option (List D → CR) := fun d => match d with
  | .ins C ns _ => if m ∈ ns then none else tab.lookup C
  | _ => none
def crM (c : CR) (ρ : DEnv) : R Val := match c with
  | .ret y => .ok y ρ
  | _ => .bad
def sMeth (tab : List (Addr × (List D → CR))) (m : Str) (n : Nat) (fo : DEnv → R Val) (fs : DEnv → R (List Val)) : DEnv → R Val := fun ρ => match fo ρ with
  | .ok x ρ1 => match methD tab m x.fz with
    | some φ => (fs ρ1).bind fun ys ρ2 => if ys.length + 1 = n then crM (φ (x.fz :: fzs ys)) ρ2 else .bad
    | none => .bad
  | _ => .bad
theorem look_mem {α β : Type} [BEq α] [LawfulBEq α] {a : α} {b : β} : ∀ {l : List (α × β)}, l.lookup a = some b → (a, b) ∈ l
  | [], h => by cases h
  | (c, d) :: l, h => by
    unfold List.lookup at h
    by_cases hb : (a == c) = true
    · rw [hb] at h
      have h : some d = some b := h
      cases h
      rw [beq_iff_eq.mp hb]
      exact List.mem_cons_self
    · have hb : (a == c) = false := by simpa using hb
      rw [hb] at h
      exact List.mem_cons_of_mem _ (look_mem h)
theorem de_methT {tab : List (Addr × (List D → CR))} (h : ∀ p ∈ tab, PE X e (tMeth p.1 m (spD X.K n p.2) [] NoX (tE X fo) (tA X fs))) : DE X e (sMeth tab m n fo fs) :=
  ⟨fun pins s σ H Q I ⟨F0, H0, ρ, vs, xs, st, q⟩ => by
    unfold sMeth at q
    cases e0 : fo ρ with
    | exc _ _ => rw [e0] at q; exact q.elim
    | bad => rw [e0] at q; exact q.elim
    | ok x ρ1 =>
      rw [e0] at q
      dsimp only at q
      cases e1 : methD tab m x.fz with
      | none => rw [e1] at q; exact q.elim
      | some φ =>
        rw [e1] at q
        dsimp only at q
        match hx : x.fz, e1 with
        | .ins C ns ds, e1 =>
          have e1 : (if m ∈ ns then none else tab.lookup C) = some φ := e1
          split at e1
          · cases e1
          rename_i hm
          refine (h (C, φ) (look_mem e1)).run pins s σ H Q I ⟨F0, H0, ρ, vs, xs, st, ?_⟩
          rw [e0]
          intro H1 v s1
          have s1 := s1.fz
          rw [hx] at s1 q
          obtain ⟨F, hF, a, t⟩ := s1.oneT
          match v, a, s1 with
          | .ref va, .ins (dx := dx) (vs := us) h1 h2 h3, s1 =>
          refine ⟨va, dx, ns.zip us, rfl, hF _ _ h1, zip_none hm, F0, H0, ρ1, .ref va :: vs, .sh (.ins C ns ds) :: xs, s1, (post_bind q).imp (fun ys ρ2 q2 H2 ws hl s2 => ?_) fun _ _ z => z.more⟩
          split at q2
          · rename_i hn
            have s3 := Stt.turn hl s2
            obtain ⟨hl2, s4⟩ := Stt.fzsP (as := .ref va :: ws) (bs := .sh (.ins C ns ds) :: ys) (by simp [hl]) s3
            obtain ⟨F2, hF2, hA, c⟩ := Stt.call hl2 s4
            refine ⟨F2, _, hF2, by rw [List.append_nil]; exact hA, by rw [fzs_map, List.length_map]; exact hn, ?_⟩
            have q2 : post X F0 H0 vs xs (fun x ρ' => ∀ H' v, Stt X.K F0 H0 H' σ ρ' (v :: vs) (x :: xs) → Q v H') (crM (φ (fzs (.sh (.ins C ns ds) :: ys))) ρ2) := q2
            show crPost X.K F2 H2 Q NoX (φ (fzs (.sh (.ins C ns ds) :: ys)))
            cases e2 : φ (fzs (.sh (.ins C ns ds) :: ys)) with
            | ret y => rw [e2] at q2; exact fun H' v s5 => q2 H' v (c H' [v] [y] s5)
            | exc y => rw [e2] at q2; exact q2.elim
            | bad => rw [e2] at q2; exact q2.elim
          · exact q2.elim⟩
theorem tMeth_nil {C : Addr} {sp : Sp} {σ : St} {H : Hp} {Q : VK} (h : tMeth C m sp [] NoX (tE X fo) (tA X sNil) σ H Q) : tMeth C m sp [] NoX (tE X fo) tNil σ H Q :=
  PE_Q h fun v H1 ⟨a, dx, fs, e1, e2, e3, F0, H0, ρ, vs, xs, s, q⟩ => ⟨a, dx, fs, e1, e2, e3, q H1 [] rfl s⟩

theorem pe_methN {C : Addr} {sp : Sp} (h : PE X e (tMeth C m sp [] NoX (tE X fo) tNil)) : PE X e (tMeth C m sp [] NoX (tE X fo) (tA X sNil)) := PE.imp h fun _ _ _ q => tMeth_nil q
/-! ### isinstance -/
def isiC (tab : List (Addr × Bool)) : D → Option Val := fun d => match d with
  | .ins C _ _ => (tab.lookup C).map fun b => .sh (.bl b)
  | _ => none
structure IsT (K : PySem.W.Frag) (C T : Addr) (b : Bool) : Prop where
  cl : Cls K C
  ha : PySem.W.findIn K (.ref C) "__class__" = some (some (.builtin "object.__class__"))
  hn : PySem.W.specialIn K (.builtin "object.__class__") "__get__" = some (some (.builtin "getset_descriptor.__get__"))
  ht : PySem.W.takesIn K (.builtin "object.__class__") = some true
  hm : PySem.W.mroIn K C (.type "object") = some true
  is : PySem.W.kitOne K (.ref C) (.ref T) = some b
theorem und_isiC {T : Addr} {tab : List (Addr × Bool)} (h : ∀ p ∈ tab, IsT X.K p.1 T p.2) : UnD X (fun x H Q => rIsi X.K [x, .ref T] H Q) (isiC tab) := fun F0 H0 H σ ρ vs xs v d Q s ⟨x, hx, q⟩ => by
  obtain ⟨F, hF, a, t⟩ := s.oneT
  match d, a, hx with
  | .ins C ns ds, .ins (vs := us) h1 h2 h3, hx =>
    obtain ⟨b, e1, rfl⟩ := Option.map_eq_some_iff.mp (show (tab.lookup C).map (fun b => Val.sh (.bl b)) = some x from hx)
    have z := h _ (look_mem e1)
    exact ⟨_, .ref T, .ref C, .ref T, b, rfl, .own _, .base (.ins (hF _ _ h1) z.cl z.ha z.hn z.ht z.hm), z.is, q H _ (s.pop.scal fun F => .bl _)⟩
theorem de_isiC {T : Addr} {tab : List (Addr × Bool)} (h : ∀ p ∈ tab, IsT X.K p.1 T p.2) {y : Str} {q : Pos} (hg : Gl X "isinstance") (hm : X.mg "isinstance" = none) (he : DE X e fe) (hy : PE X (.Name y q) (tC (.ref T)))
    (h1 : starEach [e, .Name y q] X.env = (false, eval e X.env) :: starEach [.Name y q] X.env := by rfl) (h2 : starEach [.Name y q] X.env = (false, eval (.Name y q) X.env) :: starEach [] X.env := by rfl) (h3 : (backTo pos (starEach [.Name y q] X.env)).any (·.1) = false := by rfl) :
    DE X (.Call (.Name "isinstance" p) [e, .Name y q] [] pos) (sUn (isiC tab) fe) :=
  PE.imp (pe_callB call_isi hg hm (by decide +kernel) (pa_cons he (pa_cons hy pa_nil h2) h1) (he := h1) (hpl := h3)) fun σ H Q h' => tE_un (und_isiC h) h'
end
/-! two classes are two: their methods' names differ -/
theorem qual_ne {o1 o2 : Value} {d1 d2 : Option Addr} {s1 s2 : Array (Option Value)} {g1 g2 : FuncData} (hq : g1.qualname ≠ g2.qualname) (h : (some ⟨o1, d1, .func g1, s1⟩ : Option Obj) = some ⟨o2, d2, .func g2, s2⟩) : False := by
  have e := Option.some.inj h
  injection e with _ _ e3 _
  injection e3 with e4
  exact hq (congrArg FuncData.qualname e4)
end DL

/-! DLn: max of three, a list emptied. -/
namespace DL
open PySem PySem.Spec L2
def max3D : D → D → D → Option Val := fun a b c => match a, b, c with
  | .int i, .int j, .int k => some (.sh (.int (max i (max j k))))
  | _, _, _ => none
def g3 (g : D → D → D → Option Val) : List D → Option Val := fun l => match l with
  | [a, b, c] => g a b c
  | _ => none
section
variable {X : Cx} {p pos : Pos} {e e2 e3 : Expr} {fs : DEnv → R (List Val)}
theorem nuMax_int (i j k : Int) : nuMax3 (.int i) (.int j) (.int k) = some (.int (max i (max j k))) := by
  have e1 : ∀ a b : Int, nuMax2 (.int a) (.int b) = some (if decide (a < b) = true then (.int b : V) else .int a) := fun _ _ => rfl
  unfold nuMax3
  rw [e1]
  by_cases h : i < j
  · rw [if_pos (decide_eq_true h)]
    show nuMax2 (.int j) (.int k) = _
    rw [e1]
    by_cases h2 : j < k
    · rw [if_pos (decide_eq_true h2)]; congr 2; omega
    · rw [if_neg (by simpa using h2)]; congr 2; omega
  · rw [if_neg (by simpa using h)]
    show nuMax2 (.int i) (.int k) = _
    rw [e1]
    by_cases h2 : i < k
    · rw [if_pos (decide_eq_true h2)]; congr 2; omega
    · rw [if_neg (by simpa using h2)]; congr 2; omega
theorem max3_some {ds : List D} {x : Val} (h : g3 max3D ds = some x) : ∃ i j k, ds = [.int i, .int j, .int k] ∧ x = .sh (.int (max i (max j k))) := by
  unfold g3 at h
  split at h
  · unfold max3D at h
    split at h
    · exact ⟨_, _, _, rfl, (Option.some.inj h).symm⟩
    · cases h
  · cases h
theorem calld_max3 : CallD X (rNuC3 nuMax3) (g3 max3D) := fun F0 H0 H σ ρ vs xs ws ds Q hl s ⟨x, hx, q⟩ => by
  obtain ⟨i, j, k, rfl, rfl⟩ := max3_some hx
  match ws, hl, s with
  | [u, v, w], _, s =>
    obtain ⟨F, hF, hA, t⟩ := Stt.reads (as := [u, v, w]) (ds := [.int i, .int j, .int k]) rfl s
    cases hA with
    | cons a b =>
      cases b with
      | cons b c =>
        cases c with
        | cons c _ =>
          cases a
          cases b
          cases c
          have s : Stt X.K F0 H0 H σ ρ (.int i :: .int j :: .int k :: vs) (.sh (.int i) :: .sh (.int j) :: .sh (.int k) :: xs) := s
          exact ⟨.int i, .int j, .int k, _, rfl, nuMax_int i j k, q H _ (s.pop.pop.pop.scal fun F => .int _)⟩
theorem de_max3 (hc : X.calm = true) (hg : Gl X "max") (hm : X.mg "max" = none) (ha : DA X [e, e2, e3] fs) (he : starEach [e, e2, e3] X.env = (false, eval e X.env) :: starEach [e2, e3] X.env := by rfl) (hpl : (backTo pos (starEach [e2, e3] X.env)).any (·.1) = false := by rfl) : DE X (.Call (.Name "max" p) [e, e2, e3] [] pos) (sCB (g3 max3D) fs) := de_callB (call_max3Nu hc) calld_max3 hg hm (by decide +kernel) ha (he := he) (hpl := hpl)
end
section
variable {X : Cx} {p pos : Pos} {e e2 e3 : Expr} {fs : DEnv → R (List Val)}
def min3D : D → D → D → Option Val := fun a b c => match a, b, c with
  | .int i, .int j, .int k => some (.sh (.int (min i (min j k))))
  | _, _, _ => none
theorem nuMin_int (i j k : Int) : nuMin3 (.int i) (.int j) (.int k) = some (.int (min i (min j k))) := by
  have e1 : ∀ a b : Int, nuMin2 (.int a) (.int b) = some (if decide (b < a) = true then (.int b : V) else .int a) := fun _ _ => rfl
  unfold nuMin3
  rw [e1]
  by_cases h : j < i
  · rw [if_pos (decide_eq_true h)]
    show nuMin2 (.int j) (.int k) = _
    rw [e1]
    by_cases h2 : k < j
    · rw [if_pos (decide_eq_true h2)]; congr 2; omega
    · rw [if_neg (by simpa using h2)]; congr 2; omega
  · rw [if_neg (by simpa using h)]
    show nuMin2 (.int i) (.int k) = _
    rw [e1]
    by_cases h2 : k < i
    · rw [if_pos (decide_eq_true h2)]; congr 2; omega
    · rw [if_neg (by simpa using h2)]; congr 2; omega
theorem min3_some {ds : List D} {x : Val} (h : g3 min3D ds = some x) : ∃ i j k, ds = [.int i, .int j, .int k] ∧ x = .sh (.int (min i (min j k))) := by
  unfold g3 at h
  split at h
  · unfold min3D at h
    split at h
    · exact ⟨_, _, _, rfl, (Option.some.inj h).symm⟩
    · cases h
  · cases h
theorem calld_min3 : CallD X (rNuC3 nuMin3) (g3 min3D) := fun F0 H0 H σ ρ vs xs ws ds Q hl s ⟨x, hx, q⟩ => by
  obtain ⟨i, j, k, rfl, rfl⟩ := min3_some hx
  match ws, hl, s with
  | [u, v, w], _, s =>
    obtain ⟨F, hF, hA, t⟩ := Stt.reads (as := [u, v, w]) (ds := [.int i, .int j, .int k]) rfl s
    cases hA with
    | cons a b =>
      cases b with
      | cons b c =>
        cases c with
        | cons c _ =>
          cases a
          cases b
          cases c
          have s : Stt X.K F0 H0 H σ ρ (.int i :: .int j :: .int k :: vs) (.sh (.int i) :: .sh (.int j) :: .sh (.int k) :: xs) := s
          exact ⟨.int i, .int j, .int k, _, rfl, nuMin_int i j k, q H _ (s.pop.pop.pop.scal fun F => .int _)⟩
theorem de_min3 (hc : X.calm = true) (hg : Gl X "min") (hm : X.mg "min" = none) (ha : DA X [e, e2, e3] fs) (he : starEach [e, e2, e3] X.env = (false, eval e X.env) :: starEach [e2, e3] X.env := by rfl) (hpl : (backTo pos (starEach [e2, e3] X.env)).any (·.1) = false := by rfl) : DE X (.Call (.Name "min" p) [e, e2, e3] [] pos) (sCB (g3 min3D) fs) := de_callB (call_min3Nu hc) calld_min3 hg hm (by decide +kernel) ha (he := he) (hpl := hpl)
@[simp] theorem g3min_int {i j k : Int} : g3 min3D [.int i, .int j, .int k] = some (.sh (.int (min i (min j k)))) := id rfl
end
/-! x.clear() -/
def rLClear : V → List V → Hp → VK → Prop := fun x vs H Q => ∃ l xs, x = .ref l ∧ vs = [] ∧ H l = some (.lst xs) ∧ Q .non (upd H l (.lst []))
section
variable {X : Cx}
theorem mt_lclear : MtR X "list.clear" rLClear := by
  intro pins s σ H x vs v us Q I rx rv h
  obtain ⟨l, xs, ex, ev, hH, q⟩ := h
  subst ex
  subst ev
  obtain rfl : v = Value.ref l := rx
  have hus := rv.zero
  subst hus
  obtain ⟨z, its, n, r, hl, e⟩ := I.lstM hH
  refine call_meets F.slot_list_clear ⟨_, e, rfl⟩ F.entry_list_clear (F.args_list_clear_1 _) (PySem.AutoSeq1.list_clear_list_0 l its.toArray n (by rw [List.size_toArray]; omega)) ⟨e, ?_⟩
  exact ⟨.non, _, I.lset (its' := []) hH e (by simp) .nil (by simp), rfl, q⟩
def sClear (i : Nat) : DEnv → Fl := fun ρ => match getV ρ[i]? with
  | some (.lst _) => .nx (ρ.set i (some (.lst [])))
  | _ => .bad
theorem ds_clear {i : Nat} {x : Str} {q p pos apos : Pos} (hb : PE X (.Call (.Attribute (.Name x q) "clear" apos) [] [] p) (tBM0 X.K "list" rLClear (tVar i)))
    (hs : swapsWith (.Call (.Attribute (.Name x q) "clear" apos) [] [] p) none pos.line X.env = pure false := by rfl) : DS X (.Expr (.Call (.Attribute (.Name x q) "clear" apos) [] [] p) pos) (sClear i) :=
  PS.imp (ps_expr hb hs) fun D σ H ⟨F0, H0, ρ, vs, xs, s, q⟩ => by
    unfold sClear at q
    match e0 : getV ρ[i]?, q with
    | some (.lst xs0), q =>
      obtain ⟨p1, ws, c1, c2, c3, c4⟩ := Stt.edit (as := []) (bs := []) rfl s (getV_some e0)
      exact ⟨.ref p1, c1, .inl ⟨rfl, ws, .of c2⟩, p1, ws, rfl, rfl, c2, q σ _ (c4 [] [] [] [] fun F H f hO => ⟨[], [], .nil, .nil, .nil f⟩)⟩
end
end DL

/-! DLo: a list of one's own, told by a path of indices from a name, is changed. -/
namespace DL
open PySem PySem.Spec L2
/-! paths in the heap -/
def Pth (H : Hp) : List Int → V → V → Prop
  | [], v, w => v = w
  | j :: js, v, w => ∃ p us u, v = .ref p ∧ (H p = some (.lst us) ∨ H p = some (.tup us)) ∧ atI us j = some u ∧ Pth H js u w
theorem Pth.det {H : Hp} : ∀ {js : List Int} {v w w' : V}, Pth H js v w → Pth H js v w' → w = w'
  | [], _, _, _, h, h' => Eq.trans (Eq.symm h) h'
  | j :: js, _, _, _, ⟨p, us, u, a1, a2, a3, a4⟩, ⟨p', us', u', b1, b2, b3, b4⟩ => by
    subst a1
    cases b1
    have e : us = us' := by
      rcases a2 with a2 | a2 <;> rcases b2 with b2 | b2 <;> rw [a2] at b2 <;> cases b2 <;> rfl
    subst e
    rw [a3] at b3
    cases b3
    exact a4.det b4
theorem Pth.mono {H H' : Hp} (e : Same H H') : ∀ {js : List Int} {v w : V}, Pth H js v w → Pth H' js v w
  | [], _, _, h => h
  | j :: js, _, _, ⟨p, us, u, a1, a2, a3, a4⟩ => ⟨p, us, u, a1, a2.imp (e _ _) (e _ _), a3, a4.mono e⟩
def tIxs (K : PySem.W.Frag) (t : TE) : List Int → TE
  | [] => t
  | j :: js => tIxs K (tOp (rIx K) t (tC (.int j))) js
theorem tIxs_of {K : PySem.W.Frag} {σ : L2.St} {H : Hp} : ∀ (js : List Int) (t : TE) (v w : V) (Q : VK), (∀ Q' : VK, Q' v H → t σ H Q') → Pth H js v w → Q w H → tIxs K t js σ H Q
  | [], t, v, w, Q, ht, h, q => by
    cases h
    exact ht Q q
  | j :: js, t, v, w, Q, ht, ⟨p, us, u, a1, a2, a3, a4⟩, q => by
    refine tIxs_of js _ u w Q (fun Q' q' => ht _ ?_) a4 q
    show rIx K v (.int j) H Q'
    rcases a2 with a2 | a2
    · exact .inl ⟨p, us, j, u, a1, rfl, .of a2, a3, q'⟩
    · exact .inr (.inl ⟨p, us, j, u, a1, rfl, .of a2, a3, q'⟩)
/-! .. in what is owned -/
def editA (f : List Val → Option (List Val)) : List Int → Val → Option Val
  | [], .lst zs => (f zs).map .lst
  | j :: js, .lst ys => (ixN ys.length j).bind fun k => (ys[k]?).bind fun y => (editA f js y).map fun z => .lst (ys.set k z)
  | j :: js, .tup ys => (ixN ys.length j).bind fun k => (ys[k]?).bind fun y => (editA f js y).map fun z => .tup (ys.set k z)
  | _, _ => none
section
variable {K : PySem.W.Frag} {F F0 H0 H : Hp} {σ : L2.St} {ρ : DEnv}
theorem own_at : ∀ (xs : List Val) (vs : List V) (f : List Addr) (k : Nat) (y : Val), Owns K F H vs xs f → f.Nodup → xs[k]? = some y → ∃ w g, vs[k]? = some w ∧ Own K F H w y g ∧ (∀ b ∈ g, b ∈ f) ∧ g.Nodup ∧
    ∀ q ∈ g, ∀ o y' g' e, Own K F (upd H q o) w y' g' → Sb g' (g ++ e) → ∃ f', Owns K F (upd H q o) vs (xs.set k y') f' ∧ Sb f' (f ++ e)
  | x :: xs, v :: vs, _, 0, y, .cons (f := f1) (g := f2) a t, nd, e => by
    have e : x = y := by simpa using e
    subst e
    obtain ⟨n1, n2, n3⟩ := List.nodup_append.mp nd
    refine ⟨v, f1, rfl, a, fun b hb => List.mem_append_left _ hb, n1, fun q hq o y' g' e a' s => ?_⟩
    have t' : Owns K F (upd H q o) vs xs f2 := Owns.mono (Same.refl F) _ _ _ t fun b hb => ⟨(Owns.no _ _ _ t b hb).1, upd_ne (fun z => n3 q hq b hb z.symm)⟩
    refine ⟨g' ++ f2, .cons a' t', (s.app (.refl f2)).trans (Sb.of_perm ?_)⟩
    rw [List.append_assoc, List.append_assoc]
    exact List.Perm.append_left _ List.perm_append_comm
  | x :: xs, v :: vs, _, k + 1, y, .cons (f := f1) (g := f2) a t, nd, e => by
    obtain ⟨n1, n2, n3⟩ := List.nodup_append.mp nd
    obtain ⟨w, g, h1, h2, h3, h4, h5⟩ := own_at xs vs f2 k y t n2 (by simpa using e)
    refine ⟨w, g, by simpa using h1, h2, fun b hb => List.mem_append_right _ (h3 b hb), h4, fun q hq o y' g' e a' s => ?_⟩
    obtain ⟨f', c1, c2⟩ := h5 q hq o y' g' e a' s
    refine ⟨f1 ++ f', .cons (Own.mono (Same.refl F) _ _ _ a fun b hb => ⟨(Own.no _ _ _ a b hb).1, upd_ne (n3 b hb q (h3 q hq))⟩) c1, ?_⟩
    rw [List.append_assoc]
    exact (Sb.refl f1).app c2
theorem own_path {fn : List Val → Option (List Val)} : ∀ (js : List Int) (x : Val) (v : V) (f : List Addr) (x' : Val), Own K F H v x f → f.Nodup → editA fn js x = some x' →
    ∃ q ws zs zs', Pth H js v (.ref q) ∧ H q = some (.lst ws) ∧ ws.length = zs.length ∧ fn zs = some zs' ∧ q ∈ f ∧ F q = none ∧ ∃ g, Owns K F H ws zs g ∧ (∀ b ∈ g, b ∈ f ∧ b ≠ q) ∧
      ∀ ws' g' e, Owns K F (upd H q (.lst ws')) ws' zs' g' → Sb g' (g ++ e) → ∃ f', Own K F (upd H q (.lst ws')) v x' f' ∧ Sb f' (f ++ e)
  | [], .lst zs, _, _, x', .lst (p := p) (vs := ws) (f := g) k1 k2 k3, nd, e => by
    obtain ⟨zs', e1, e2⟩ := Option.map_eq_some_iff.mp e
    subst e2
    have np := (List.nodup_cons.mp nd).1
    refine ⟨p, ws, zs, zs', rfl, k2, Owns.length k3, e1, List.mem_cons_self, k1, g, k3, fun b hb => ⟨List.mem_cons_of_mem _ hb, fun z => by subst z; exact np hb⟩, fun ws' g' e a s => ?_⟩
    exact ⟨p :: g', .lst k1 upd_same a, (Sb.refl [p]).app s⟩
  | j :: js, .lst ys, _, _, x', .lst (p := p) (vs := us) (f := f3) k1 k2 k3, nd, e => by
    have e : ((ixN ys.length j).bind fun k => (ys[k]?).bind fun y => (editA fn js y).map fun z => Val.lst (ys.set k z)) = some x' := e
    obtain ⟨k, e1, e⟩ := Option.bind_eq_some_iff.mp e
    obtain ⟨y, e2, e⟩ := Option.bind_eq_some_iff.mp e
    obtain ⟨y', e3, e4⟩ := Option.map_eq_some_iff.mp e
    subst e4
    obtain ⟨np, nd3⟩ := List.nodup_cons.mp nd
    obtain ⟨w, g, h1, h2, h3, h4, h5⟩ := own_at ys us f3 k y k3 nd3 e2
    obtain ⟨q, ws, zs, zs', c1, c2, c3, c4, c5, c6, g2, c7, c8, c9⟩ := own_path js y w g y' h2 h4 e3
    have qp : p ≠ q := fun z => np (z ▸ h3 q c5)
    refine ⟨q, ws, zs, zs', ⟨p, us, w, rfl, .inl k2, by unfold atI; rw [Owns.length k3, e1]; exact h1, c1⟩, c2, c3, c4, List.mem_cons_of_mem _ (h3 q c5), c6, g2, c7, fun b hb => ⟨List.mem_cons_of_mem _ (h3 b (c8 b hb).1), (c8 b hb).2⟩, fun ws' g' e a s => ?_⟩
    obtain ⟨f', d1, d2⟩ := c9 ws' g' e a s
    obtain ⟨f4, d3, d4⟩ := h5 q c5 _ y' f' e d1 d2
    exact ⟨p :: f4, .lst k1 (by rw [upd_ne qp]; exact k2) d3, (Sb.refl [p]).app d4⟩
  | j :: js, .tup ys, _, _, x', .tup (p := p) (vs := us) (f := f3) k1 k2 k3, nd, e => by
    have e : ((ixN ys.length j).bind fun k => (ys[k]?).bind fun y => (editA fn js y).map fun z => Val.tup (ys.set k z)) = some x' := e
    obtain ⟨k, e1, e⟩ := Option.bind_eq_some_iff.mp e
    obtain ⟨y, e2, e⟩ := Option.bind_eq_some_iff.mp e
    obtain ⟨y', e3, e4⟩ := Option.map_eq_some_iff.mp e
    subst e4
    obtain ⟨np, nd3⟩ := List.nodup_cons.mp nd
    obtain ⟨w, g, h1, h2, h3, h4, h5⟩ := own_at ys us f3 k y k3 nd3 e2
    obtain ⟨q, ws, zs, zs', c1, c2, c3, c4, c5, c6, g2, c7, c8, c9⟩ := own_path js y w g y' h2 h4 e3
    have qp : p ≠ q := fun z => np (z ▸ h3 q c5)
    refine ⟨q, ws, zs, zs', ⟨p, us, w, rfl, .inr k2, by unfold atI; rw [Owns.length k3, e1]; exact h1, c1⟩, c2, c3, c4, List.mem_cons_of_mem _ (h3 q c5), c6, g2, c7, fun b hb => ⟨List.mem_cons_of_mem _ (h3 b (c8 b hb).1), (c8 b hb).2⟩, fun ws' g' e a s => ?_⟩
    obtain ⟨f', d1, d2⟩ := c9 ws' g' e a s
    obtain ⟨f4, d3, d4⟩ := h5 q c5 _ y' f' e d1 d2
    exact ⟨p :: f4, .tup k1 (by rw [upd_ne qp]; exact k2) d3, (Sb.refl [p]).app d4⟩
  | [], .sh _, _, _, _, _, _, e => by cases e
  | [], .tup _, _, _, _, _, _, e => by cases e
  | _ :: _, .sh _, _, _, _, _, _, e => by cases e
def appE (y : Val) (zs : List Val) : Option (List Val) := if zs.length < 10000000 then some (zs ++ [y]) else none
def clrE (zs : List Val) : Option (List Val) := some []
/-- appended: what lies below -/
theorem Stt.path_app {js : List Int} {v w : V} {x y x' : Val} {vs : List V} {xs : List Val} (h : Stt K F0 H0 H σ ρ (v :: w :: vs) (x :: y :: xs)) (e : editA (appE y) js x = some x') :
    ∃ q ws, Pth H js v (.ref q) ∧ H q = some (.lst ws) ∧ ws.length < 10000000 ∧ Stt K F0 H0 (upd H q (.lst (ws ++ [w]))) σ ρ (v :: vs) (x' :: xs) := by
  obtain ⟨F, f, g, h1, h2, h3, h4, h5, h6, h7, h8⟩ := h
  cases h6 with
  | cons a t0 =>
    rename_i g1 g0
    cases t0 with
    | cons aw t =>
    rename_i gw g2
    have nd2 := (List.nodup_append.mp h7)
    have nd3 := List.nodup_append.mp nd2.1
    obtain ⟨q, ws, zs, zs', c1, c2, c3, c4, c5, c6, g3, c7, c8, c9⟩ := own_path js x v g1 x' a nd3.1 e
    unfold appE at c4
    split at c4
    case isFalse => cases c4
    rename_i hlt
    cases c4
    refine ⟨q, ws, c1, c2, by rw [c3]; exact hlt, ?_⟩
    have q0 : H0 q = none := h8 q (List.mem_append_left _ (List.mem_append_left _ c5))
    have disw : ∀ b ∈ gw, b ≠ q := fun b hb z => nd3.2.2 q c5 b (List.mem_append_left _ hb) z.symm
    have dis2 : ∀ b ∈ g2, b ≠ q := fun b hb z => nd3.2.2 q c5 b (List.mem_append_right _ hb) z.symm
    have dis3 : ∀ b ∈ f, b ≠ q := fun b hb z => nd2.2.2 q (List.mem_append_left _ c5) b hb z.symm
    have aw' : Own K F (upd H q (.lst (ws ++ [w]))) w y gw := Own.mono (Same.refl F) _ _ _ aw fun b hb => ⟨(Own.no _ _ _ aw b hb).1, upd_ne (disw b hb)⟩
    have t' : Owns K F (upd H q (.lst (ws ++ [w]))) vs xs g2 := Owns.mono (Same.refl F) _ _ _ t fun b hb => ⟨(Owns.no _ _ _ t b hb).1, upd_ne (dis2 b hb)⟩
    have z' : Owns K F (upd H q (.lst (ws ++ [w]))) ws zs g3 := Owns.mono (Same.refl F) _ _ _ c7 fun b hb => ⟨(Owns.no _ _ _ c7 b hb).1, upd_ne (c8 b hb).2⟩
    have h5' : Sl K F (upd H q (.lst (ws ++ [w]))) σ ρ f := Sl.mono (Same.refl F) h5 fun b hb => ⟨(Sl.no h5 b hb).1, upd_ne (dis3 b hb)⟩
    obtain ⟨g4, d1, d2, d3⟩ := z'.append (Owns.cons aw' .nil)
    rw [List.append_nil] at d2
    obtain ⟨f', d4, d5⟩ := c9 (ws ++ [w]) g4 gw d1 d2
    have s : Sb ((f' ++ g2) ++ f) ((g1 ++ (gw ++ g2)) ++ f) := Sb.app (by rw [← List.append_assoc]; exact d5.app (.refl g2)) (.refl f)
    exact ⟨F, f, f' ++ g2, h1, fun b u e => by rw [upd_ne (fun z => by subst z; rw [q0] at e; cases e)]; exact h2 _ _ e, fun b u e => by rw [upd_ne (fun z => by subst z; rw [c6] at e; cases e)]; exact h3 _ _ e, h4, h5',
      Owns.cons d4 t', s.2 h7, fun b hb => h8 b (s.1 b hb)⟩
/-- emptied -/
theorem Stt.path_clr {js : List Int} {v : V} {x x' : Val} {vs : List V} {xs : List Val} (h : Stt K F0 H0 H σ ρ (v :: vs) (x :: xs)) (e : editA clrE js x = some x') :
    ∃ q ws, Pth H js v (.ref q) ∧ H q = some (.lst ws) ∧ Stt K F0 H0 (upd H q (.lst [])) σ ρ (v :: vs) (x' :: xs) := by
  obtain ⟨F, f, g, h1, h2, h3, h4, h5, h6, h7, h8⟩ := h
  cases h6 with
  | cons a t =>
    rename_i g1 g2
    have nd2 := (List.nodup_append.mp h7)
    have nd3 := List.nodup_append.mp nd2.1
    obtain ⟨q, ws, zs, zs', c1, c2, c3, c4, c5, c6, g3, c7, c8, c9⟩ := own_path js x v g1 x' a nd3.1 e
    cases c4
    refine ⟨q, ws, c1, c2, ?_⟩
    have q0 : H0 q = none := h8 q (List.mem_append_left _ (List.mem_append_left _ c5))
    have dis2 : ∀ b ∈ g2, b ≠ q := fun b hb z => nd3.2.2 q c5 b hb z.symm
    have dis3 : ∀ b ∈ f, b ≠ q := fun b hb z => nd2.2.2 q (List.mem_append_left _ c5) b hb z.symm
    have t' : Owns K F (upd H q (.lst [])) vs xs g2 := Owns.mono (Same.refl F) _ _ _ t fun b hb => ⟨(Owns.no _ _ _ t b hb).1, upd_ne (dis2 b hb)⟩
    have h5' : Sl K F (upd H q (.lst [])) σ ρ f := Sl.mono (Same.refl F) h5 fun b hb => ⟨(Sl.no h5 b hb).1, upd_ne (dis3 b hb)⟩
    obtain ⟨f', d4, d5⟩ := c9 [] [] [] .nil (Sb.nil _)
    rw [List.append_nil] at d5
    have s : Sb ((f' ++ g2) ++ f) ((g1 ++ g2) ++ f) := (d5.app (.refl g2)).app (.refl f)
    exact ⟨F, f, f' ++ g2, h1, fun b u e => by rw [upd_ne (fun z => by subst z; rw [q0] at e; cases e)]; exact h2 _ _ e, fun b u e => by rw [upd_ne (fun z => by subst z; rw [c6] at e; cases e)]; exact h3 _ _ e, h4, h5',
      Owns.cons d4 t', s.2 h7, fun b hb => h8 b (s.1 b hb)⟩
/-- where a path leads, as it stands -/
theorem Stt.path_at {fn : List Val → Option (List Val)} {js : List Int} {v : V} {x x' : Val} {vs : List V} {xs : List Val} (h : Stt K F0 H0 H σ ρ (v :: vs) (x :: xs)) (e : editA fn js x = some x') : ∃ q ws, Pth H js v (.ref q) ∧ H q = some (.lst ws) := by
  obtain ⟨F, f, g, h1, h2, h3, h4, h5, h6, h7, h8⟩ := h
  cases h6 with
  | cons a t =>
    rename_i g1 g2
    have nd2 := (List.nodup_append.mp h7)
    have nd3 := List.nodup_append.mp nd2.1
    obtain ⟨q, ws, zs, zs', c1, c2, _⟩ := own_path js x v g1 x' a nd3.1 e
    exact ⟨q, ws, c1, c2⟩
end
/-! the statements -/
def sClrP (i : Nat) (js : List Int) : DEnv → Fl := fun ρ => match getV ρ[i]? with
  | none => .bad
  | some x => match editA clrE js x with
    | some x' => .nx (ρ.set i (some x'))
    | none => .bad
def sAppP (i : Nat) (js : List Int) (fy : DEnv → Option Val) : DEnv → Fl := fun ρ => match getV ρ[i]? with
  | none => .bad
  | some x => match fy (ρ.set i none) with
    | none => .bad
    | some y => match editA (appE y) js x with
      | some x' => .nx (ρ.set i (some x'))
      | none => .bad
section
variable {X : Cx} {i : Nat} {e rc : Expr} {js : List Int} {pos p apos : Pos}
theorem ds_clrP (hb : PE X (.Call (.Attribute rc "clear" apos) [] [] p) (tBM0 X.K "list" rLClear (tIxs X.K (tVar i) js)))
    (hs : swapsWith (.Call (.Attribute rc "clear" apos) [] [] p) none pos.line X.env = pure false := by rfl) :
    DS X (.Expr (.Call (.Attribute rc "clear" apos) [] [] p) pos) (sClrP i js) :=
  PS.imp (ps_expr hb hs) fun D σ H ⟨F0, H0, ρ, vs, xs, s, q⟩ => by
    unfold sClrP at q
    cases e0 : getV ρ[i]? with
    | none => rw [e0] at q; exact q.elim
    | some x =>
      rw [e0] at q
      have q : fpost X F0 H0 vs xs D (match editA clrE js x with
        | some x' => Fl.nx (ρ.set i (some x'))
        | none => .bad) := q
      cases e1 : editA clrE js x with
      | none => rw [e1] at q; exact q.elim
      | some x' =>
        rw [e1] at q
        have hlen : i < ρ.length := (List.getElem?_eq_some_iff.mp (getV_some e0)).1
        obtain ⟨v, k, s2⟩ := s.take (getV_some e0)
        obtain ⟨qq, ws, c1, c2, s3⟩ := s2.path_clr e1
        refine tIxs_of js _ v (.ref qq) _ (fun Q' q' => ⟨v, k, q'⟩) c1 ⟨.inl ⟨rfl, ws, .of c2⟩, qq, ws, rfl, rfl, c2, q σ _ ?_⟩
        have s5 := s3.store (i := i) (by simpa using hlen)
        rw [List.set_set, set_same k] at s5
        exact s5
def ArgK (X : Cx) (ta : TA) (fy : DEnv → Option Val) : Prop := ∀ {F0 H0 H : Hp} {σ : L2.St} {ρ : DEnv} {vs : List V} {xs : List Val} {y : Val}, Stt X.K F0 H0 H σ ρ vs xs → fy ρ = some y →
  ∀ Q : List V → Hp → Prop, (∀ w H', Same H H' → Stt X.K F0 H0 H' σ ρ (w :: vs) (y :: xs) → Q [w] H') → ta σ H Q
theorem ds_appP {ta : TA} {fy : DEnv → Option Val} (hb : PE X (.Call (.Attribute rc "append" apos) [e] [] p) (tBM X.K "list" rAppend (tIxs X.K (tVar i) js) ta)) (hA : ArgK X ta fy)
    (hs : swapsWith (.Call (.Attribute rc "append" apos) [e] [] p) none pos.line X.env = pure false := by rfl) :
    DS X (.Expr (.Call (.Attribute rc "append" apos) [e] [] p) pos) (sAppP i js fy) :=
  PS.imp (ps_expr hb hs) fun D σ H ⟨F0, H0, ρ, vs, xs, s, q⟩ => by
    unfold sAppP at q
    cases e0 : getV ρ[i]? with
    | none => rw [e0] at q; exact q.elim
    | some x =>
      rw [e0] at q
      have q : fpost X F0 H0 vs xs D (match fy (ρ.set i none) with
        | none => Fl.bad
        | some y => match editA (appE y) js x with
          | some x' => .nx (ρ.set i (some x'))
          | none => .bad) := q
      cases e1 : fy (ρ.set i none) with
      | none => rw [e1] at q; exact q.elim
      | some y =>
        rw [e1] at q
        have q : fpost X F0 H0 vs xs D (match editA (appE y) js x with
          | some x' => Fl.nx (ρ.set i (some x'))
          | none => .bad) := q
        cases e2 : editA (appE y) js x with
        | none => rw [e2] at q; exact q.elim
        | some x' =>
          rw [e2] at q
          have hlen : i < ρ.length := (List.getElem?_eq_some_iff.mp (getV_some e0)).1
          obtain ⟨v, k, s2⟩ := s.take (getV_some e0)
          obtain ⟨qq, ws, c1, c2⟩ := s2.path_at e2
          refine tIxs_of js _ v (.ref qq) _ (fun Q' q' => ⟨v, k, q'⟩) c1 ⟨.inl ⟨rfl, ws, .of c2⟩, hA s2 e1 _ fun w H' hs' s3 => ?_⟩
          have s4 : Stt X.K F0 H0 H' σ (ρ.set i none) (v :: w :: vs) (x :: y :: xs) := Stt.turn (as := [w]) (bs := [y]) rfl s3
          obtain ⟨q2, ws2, d1, d2, d3, s5⟩ := s4.path_app e2
          have eq : V.ref qq = .ref q2 := (c1.mono hs').det d1
          cases eq
          refine ⟨qq, ws2, w, rfl, rfl, d2, by rw [sizeLine_eq]; omega, q σ _ ?_⟩
          have s6 := s5.store (i := i) (by simpa using hlen)
          rw [List.set_set, set_same k] at s6
          exact s6
/-! what is appended -/
def yC (d : D) : DEnv → Option Val := fun _ => some (.sh d)
theorem ak_c {v : V} {d : D} (hd : ∀ F, At X.K F v d) : ArgK X (tCons (tC v) tNil) (yC d) := fun s e Q q => by
  cases e
  exact q _ _ (Same.refl _) (s.scal hd)
def yNl : DEnv → Option Val := fun _ => some (.lst [])
theorem ak_nl : ArgK X (tCons (tLst tNil) tNil) yNl := fun {F0 H0 H σ ρ vs xs y} s e Q q => by
  cases e
  refine ⟨by show 0 ≤ sizeLine; omega, fun T nT => q (.ref T) _ (fun b o e => ?_) (Stt.newLst (as := []) (bs := []) rfl s nT)⟩
  rw [upd_ne (fun z => by subst z; rw [nT] at e; cases e)]
  exact e
def shV1 : Option Val → Option Val
  | some (.sh d) => some (.sh d)
  | _ => none
def yIx (j : Nat) (n : Int) : DEnv → Option Val := fun ρ => match getV ρ[j]? with
  | some (.sh (.lst ds)) => ((ixN ds.length n).bind fun k => ds[k]?).map .sh
  | some (.lst ys) => (ixN ys.length n).bind fun k => shV1 ys[k]?
  | _ => none
theorem ak_ix {j : Nat} {n : Int} : ArgK X (tCons (tOp (rIx X.K) (tVar j) (tC (.int n))) tNil) (yIx j n) := fun {F0 H0 H σ ρ vs xs y} s e Q q => by
  unfold yIx at e
  match e0 : getV ρ[j]?, e with
  | some (.sh (.lst ds)), e =>
    obtain ⟨d, e1, e2⟩ := Option.map_eq_some_iff.mp e
    subst e2
    obtain ⟨k, e3, e4⟩ := Option.bind_eq_some_iff.mp e1
    obtain ⟨v, k1, F, f, k2, k3, k4⟩ := s.peek (getV_some e0)
    cases k3 with
    | sh a =>
      cases a with
      | lst a1 a2 =>
        rename_i a us
        obtain ⟨u, b1, b2⟩ := Ats.get a2 e4
        refine ⟨_, k1, .inl ⟨a, us, n, u, rfl, rfl, .of (k2 _ _ a1), ?_, q u _ (Same.refl _) (k4 [u] [d] (.cons b2 .nil))⟩⟩
        unfold atI
        rw [Ats.length a2, e3]
        exact b1
  | some (.lst ys), e =>
    have e : ((ixN ys.length n).bind fun k => shV1 ys[k]?) = some y := e
    obtain ⟨k, e3, e4⟩ := Option.bind_eq_some_iff.mp e
    match e5 : ys[k]?, e4 with
    | some (.sh d), e4 =>
      cases e4
      obtain ⟨v, k1, F, f, k2, k3, k4⟩ := s.peek (getV_some e0)
      cases k3 with
      | lst a0 a1 a2 =>
        rename_i a us g
        obtain ⟨u, b1, b2⟩ := owns_at a2 e5
        refine ⟨_, k1, .inl ⟨a, us, n, u, rfl, rfl, .of a1, ?_, q u _ (Same.refl _) (k4 [u] [d] (.cons b2 .nil))⟩⟩
        unfold atI
        rw [Owns.length a2, e3]
        exact b1
/-- a number below nought, as it is written -/
theorem pe_nint {e : Expr} {n : Int} {pos : Pos} (h : PE X e (tC (.int n))) : PE X (.UnaryOp .USub e pos) (tC (.int (-n))) := PE.imp (pe_un un_neg h) fun σ H Q q => ⟨n, rfl, q⟩
end
end DL

/-! DLp: defs with defaults; a call that leaves them out, or that names one. -/
namespace DL
open PySem PySem.Spec L2
section
variable {P : Program} {w : World} {K : PySem.W.Frag} {mg : Str → Option Value} {base : Heap} {x qual : Str} {st : Stmt} {f : Addr} {fd : FuncData} {dvs : List V} {ps : List Str}
theorem fund_mk {oc : Value} {od an : Option Addr} {osl : Array (Option Value)} {kV doc pm cdv ct : Value} {T : Addr} {o : Obj} {its : List Value} {n : Nat}
    (l : K.lookup f = some ⟨oc, od, .func (PySem.W.fnOf x qual (defArgs st) (defBody st) (defScope st) (.ref T) kV doc pm an cdv ct), osl⟩)
    (c : PySem.W.codeIn K cdv qual = true) (k : PySem.W.keepIn K (.ref f) = true) (lT : K.lookup T = some o) (oT : o.data = .seq its.toArray n) (hd : dvs ≠ []) (r : Vals dvs its) :
    FunD K x qual (defArgs st) (defBody st) (defScope st) dvs [] f (PySem.W.fnOf x qual (defArgs st) (defBody st) (defScope st) (.ref T) kV doc pm an cdv ct) :=
  ⟨⟨oc, od, .ref T, kV, doc, pm, an, cdv, ct, osl, rfl, l, c, .inr ⟨hd, T, o, its, n, rfl, lT, oT, r⟩, .inl rfl⟩, k⟩
theorem bindsAll (F : FunD K x qual (defArgs st) (defBody st) (defScope st) dvs [] f fd) (hd : dvs ≠ [])
    (h : ∀ (T : Addr) (kV doc pm : Value) (an : Option Addr) (cdv ct : Value) (us its : List Value), us.length = ps.length → its.length = dvs.length →
      ∃ k, bindArgs (PySem.W.fnOf x qual (defArgs st) (defBody st) (defScope st) (.ref T) kV doc pm an cdv ct) ⟨us, []⟩ = seqItems? (.ref T) >>= k ∧ k (some its.toArray) = pure (ps.zip us)) : Binds K fd ps [] := by
  obtain ⟨ds, r, b⟩ := F.binds1 (ps := ps) ps.length dvs.length hd (by omega) fun T kV doc pm an cdv ct us its h1 h2 => by
    rw [← h2, List.drop_length, List.append_nil]
    exact h T kV doc pm an cdv ct us its h1 h2
  rw [List.drop_length] at r
  cases r
  exact b
theorem kb1 (F : FunD K x qual (defArgs st) (defBody st) (defScope st) dvs [] f fd) (n : Nat) (ks : List Str) (hd : dvs ≠ [])
    (h : ∀ (T : Addr) (kV doc pm : Value) (an : Option Addr) (cdv ct : Value) (us its ws : List Value), us.length = n → its.length = dvs.length → ws.length = ks.length →
      ∃ k, bindArgs (PySem.W.fnOf x qual (defArgs st) (defBody st) (defScope st) (.ref T) kV doc pm an cdv ct) ⟨us, ks.zip ws⟩ = seqItems? (.ref T) >>= k ∧ k (some its.toArray) = pure (ps.zip (us ++ ws))) :
    KBn K fd ps n ks (fun us ws => us ++ ws) (fun vs zs => vs ++ zs) := by
  obtain ⟨oc, od, dV, kV, doc, pm, an, cdv, ct, osl, rfl, lk, hcd, hD, hK⟩ := F.ex
  rcases hD with ⟨e, _⟩ | ⟨_, T, o, its, m, rfl, lT, oT, rT⟩
  · exact absurd e hd
  · refine ⟨fun s us ws X l1 l2 => ?_, fun r1 r2 => r1.append r2⟩
    obtain ⟨k, e1, e2⟩ := h T kV doc pm an cdv ct us its ws l1 rT.length.symm l2
    refine BindsTo.of_looks fun M => ?_
    rw [e1]
    exact looks_items X lT oT (.of_pure e2)
/-- the rule for such a def -/
theorem fnDd {N : List Str} {k n : Nat} {s : DEnv → Fl} (F : FunD K x qual (defArgs st) (defBody st) (defScope st) dvs [] f fd) (S : FnScope N ps (defScope st)) (hn : ps.length = n)
    (hbody : ∀ (cdv : Value) (A : Around) (outer : List PySem.Env) (s0 : Shared) (H : Hp) (E : XK), Room k (A.deeper (PyProof.Rows.envOfC qual (defScope st) s0.heap.objs.size f cdv)) →
      DSs (cxOf (L2.CX P w) P w K mg base N qual (defScope st) f cdv A outer s0 H E) (defBody st) s) :
    FnOk P w K mg base (L2.CX P w) (k + 1) f fd ps (spD K n fun ds => (s (env0 N.length ds)).cr) := by
  refine F.ok S (fun vs H Q E h => (spD_len vs H Q E h).trans hn.symm) fun cdv A outer s0 H vs Q E hr ⟨G, ds, hG, ha, hl, hp⟩ => ⟨_, hbody cdv A outer s0 H E hr, ?_⟩
  refine ⟨G, H, env0 N.length ds, [], [], ?_, ?_⟩
  · have q := Stt.begin hG ha (N.length - ds.length)
    unfold L2.start env0
    rw [ha.length]
    exact q
  · have tk := takes_of (X := cxOf (L2.CX P w) P w K mg base N qual (defScope st) f cdv A outer s0 H E) (E := E) rfl rfl rfl rfl
    have hp : crPost K G H Q E (s (env0 N.length ds)).cr := hp
    cases e : s (env0 N.length ds) with
    | nx ρ' =>
      rw [e] at hp
      exact fun σ' H' s1 => hp H' _ (s1.out.scal fun _ => .non)
    | rt x ρ' =>
      rw [e] at hp
      exact fun σ' H' v s1 => hp H' v s1.out
    | exc x ρ' =>
      rw [e] at hp
      intro σ' H' dx ves s1 hl hx
      rw [List.append_nil, List.append_nil] at s1
      exact okx_of tk (hp H' dx ves s1.out hl hx)
    | bk ρ' => rw [e] at hp; exact hp.elim
    | ct ρ' => rw [e] at hp; exact hp.elim
    | bad => rw [e] at hp; exact hp.elim
end
/-- a call that leaves the defaults dd out -/
def sCallD (φ : List D → CR) (n : Nat) (dd : List D) (fs : DEnv → R (List Val)) : DEnv → R Val := fun ρ => (fs ρ).bind fun ys ρ1 => if ys.length + dd.length = n then match φ (fzs ys ++ dd) with
  | .ret x => .ok x ρ1
  | .exc e => .exc e ρ1
  | .bad => .bad
  else .bad
/-- a call that names its last argument -/
def sCallK (φ : List D → CR) (n : Nat) (fs : DEnv → R (List Val)) (fe : DEnv → R Val) : DEnv → R Val := fun ρ => (fs ρ).bind fun ys ρ1 => (fe ρ1).bind fun x ρ2 => if ys.length + 1 = n then crM (φ (fzs (ys ++ [x]))) ρ2 else .bad
section
variable {X : Cx} {k n : Nat} {f : Addr} {fd : FuncData} {ps : List Str} {φ : List D → CR} {x : Str} {p pos kpos : Pos} {e ek : Expr} {es : List Expr} {fs : DEnv → R (List Val)} {fe : DEnv → R Val}
theorem de_callD {dvs : List V} {dd : List D} (F : FnOk X.prog X.w X.K X.mg X.base (L2.CX X.prog X.w) k f fd ps (spD X.K n φ)) (hr : Room k X.A) (hg : Gl X x) (hm : X.mg x = some (.ref f)) (hk : PySem.W.keepIn X.K (.ref f) = true) (hbd : ∃ uds, Vals dvs uds ∧ Binds X.K fd ps uds) (hdd : ∀ F, Ats X.K F dvs dd)
    (ha : DA X (e :: es) fs) (hdb : (x == ("__debug__" : Str)) = false := by decide) (he : starEach (e :: es) X.env = (false, eval e X.env) :: starEach es X.env := by rfl) (hpl : (backTo pos (starEach es X.env)).any (·.1) = false := by rfl) :
    DE X (.Call (.Name x p) (e :: es) [] pos) (sCallD φ n dd fs) := by
  obtain ⟨uds, hd, hb⟩ := hbd
  exact PE.imp (pe_callSD (E := WE (okx X)) F hr hg hm hk hb hd (fun σ => passAt takes_okx σ) ha hdb he hpl) fun σ H Q ⟨F0, H0, ρ, vs, xs, s, q⟩ => by
    refine ⟨F0, H0, ρ, vs, xs, s, (post_bind q).imp (fun ys ρ1 q1 H1 ws hl s1 => ?_) fun _ _ z => z⟩
    split at q1
    · rename_i hn
      obtain ⟨hl2, s2⟩ := s1.fzsP hl
      obtain ⟨F, hF, hA, c⟩ := Stt.call hl2 s2
      refine ⟨F, fzs ys ++ dd, hF, hA.append (hdd F), by rw [List.length_append, fzs_map, List.length_map]; exact hn, ?_⟩
      cases e1 : φ (fzs ys ++ dd) with
      | ret x => rw [e1] at q1; exact fun H' v s3 => q1 H' v (c H' [v] [x] s3)
      | exc x =>
        rw [e1] at q1
        exact fun H' dx ves s3 hl3 hx => q1 σ H' dx ves (c H' ves _ s3) hl3 (hx.less s1.sub0)
      | bad => rw [e1] at q1; exact q1
    · exact q1.elim
theorem de_callK {nm : Str} (F : FnOk X.prog X.w X.K X.mg X.base (L2.CX X.prog X.w) k f fd ps (spD X.K n φ)) (hr : Room k X.A) (hg : Gl X x) (hm : X.mg x = some (.ref f)) (hk : PySem.W.keepIn X.K (.ref f) = true) (hb : KBn X.K fd ps (n - 1) [nm] (fun us ws => us ++ ws) (fun vs zs => vs ++ zs))
    (ha : DA X (e :: es) fs) (hek : DE X ek fe) (hall : (backToKw pos (keywordEach [⟨some nm, ek, kpos⟩] X.env)).all (·.1.isSome) = true := by rfl) (hks : (backToKw pos (keywordEach [⟨some nm, ek, kpos⟩] X.env)).filterMap (·.1) = [nm] := by rfl)
    (hdb : (x == ("__debug__" : Str)) = false := by decide) (he : starEach (e :: es) X.env = (false, eval e X.env) :: starEach es X.env := by rfl)
    (hpl : ((backTo pos (starEach (e :: es) X.env)).any (·.1) || (backToKw pos (keywordEach [⟨some nm, ek, kpos⟩] X.env)).any (·.1.isNone)) = false := by rfl) :
    DE X (.Call (.Name x p) (e :: es) [⟨some nm, ek, kpos⟩] pos) (sCallK φ n fs fe) :=
  PE.imp (pe_callN (E := NoX) F hr hg hm hk hb passX ha (pk_cons hek pk_nil) hall hks hdb he hpl) fun σ H Q ⟨F0, H0, ρ, vs, xs, s, q⟩ => by
    refine ⟨F0, H0, ρ, vs, xs, s, (post_bind q).imp (fun ys ρ1 q1 H1 ws hl s1 => ?_) fun _ _ z => z⟩
    refine ⟨F0, H0, ρ1, _, _, s1, (post_bind q1).imp (fun y ρ2 q2 H2 v s2 => ?_) fun _ _ z => z.mores hl⟩
    split at q2
    · rename_i hn
      have s3 := Stt.turn' hl s2
      have s3 : Stt X.K F0 H0 H2 σ ρ2 ((ws ++ [v]) ++ vs) ((ys ++ [y]) ++ xs) := by rw [List.append_assoc, List.append_assoc]; exact s3
      obtain ⟨hl2, s4⟩ := s3.fzsP (by simp [hl])
      obtain ⟨F, hF, hA, c⟩ := Stt.call hl2 s4
      refine ⟨by omega, rfl, F, fzs (ys ++ [y]), hF, hA, by rw [fzs_map, List.length_map]; simpa using hn, ?_⟩
      cases e1 : φ (fzs (ys ++ [y])) with
      | ret x => rw [e1] at q2; exact fun H' v s3 => q2 H' v (c H' [v] [x] s3)
      | exc x => rw [e1] at q2; exact q2.elim
      | bad => rw [e1] at q2; exact q2.elim
    · exact q2.elim
end
/-! t < u for tuples of ints -/
def ltTD : D → D → Option Val := fun d e => match d, e with
  | .tup xs, .tup ys => (dInts xs).bind fun ns => (dInts ys).map fun ms => .sh (.bl (HT.lexLt ns ms))
  | _, _ => none
section
variable {X : Cx} {a b : Expr} {fa fb : DEnv → R Val} {pos : Pos}
theorem opd_ltT : OpD X (rLtT X.K) ltTD := fun F0 H0 H σ ρ vs xs v w d e Q s ⟨x, hx, q⟩ => by
  obtain ⟨F, hF, a, b, t⟩ := s.two
  match d, e, a, b, hx with
  | .tup ds, .tup es, .tup (vs := us) h1 k1, .tup (vs := ws) h2 k2, hx =>
    obtain ⟨ns, e1, hx⟩ := Option.bind_eq_some_iff.mp (show (dInts ds).bind (fun ns => (dInts es).map fun ms => Val.sh (.bl (HT.lexLt ns ms))) = some x from hx)
    obtain ⟨ms, e2, hx⟩ := Option.map_eq_some_iff.mp hx
    subst hx
    rw [ints_ats k1 e1] at h1
    rw [ints_ats k2 e2] at h2
    exact ⟨_, _, ns, ms, rfl, rfl, sameT hF h1, sameT hF h2, q H _ (s.pop.pop.scal fun F => .bl _)⟩
theorem de_ltT (hu : X.A.units < cLine) (ha : DE X a fa) (hb : DE X b fb) : DE X (.Compare a [.Lt] [b] pos) (sOp ltTD fa fb) := de_cmp (op_ltT hu) opd_ltT ha hb (nomark _)
theorem dt_ltT (hu : X.A.units < cLine) (ha : DE X a fa) (hb : DE X b fb) : DT X (.Compare a [.Lt] [b] pos) (sTst (sOp ltTD fa fb)) := dt_cmp (op_ltT hu) opd_ltT ha hb (nomark _)
end
end DL

/-! DLs: reckoning with what code does to data. -/
namespace DL
open PySem PySem.Spec L2
@[simp high] theorem get_z {α : Type} {a : α} {l : List α} : (a :: l)[0]? = some a := id rfl
@[simp high] theorem get_s {α : Type} {a : α} {l : List α} {n : Nat} : (a :: l)[n + 1]? = l[n]? := id rfl
/-! the ways out of a look, as functions -/
def optF (o : Option DEnv) : Fl := match o with
  | some ρ => .nx ρ
  | none => .bad
@[simp] theorem optF_s {ρ : DEnv} : optF (some ρ) = .nx ρ := id rfl
@[simp] theorem optF_n : optF none = .bad := id rfl
def parF (n m : Nat) (xs : List Val) (ρ : DEnv) : Fl := match xs with
  | [x, y] => if n < ρ.length ∧ m < ρ.length ∧ n ≠ m then .nx ((ρ.set n (some x)).set m (some y)) else .bad
  | _ => .bad
@[simp] theorem parF_ap {n m : Nat} {x y : Val} {ρ : DEnv} : parF n m [x, y] ρ = if n < ρ.length ∧ m < ρ.length ∧ n ≠ m then .nx ((ρ.set n (some x)).set m (some y)) else .bad := id rfl
def rdV (o : Option Val) (n : Nat) (ρ : DEnv) : R Val := match o with
  | some (.sh d) => .ok (.sh d) ρ
  | some x => .ok (.sh x.fz) (ρ.set n (some (.sh x.fz)))
  | none => .bad
@[simp] theorem rdV_sh {d : D} {n : Nat} {ρ : DEnv} : rdV (some (.sh d)) n ρ = .ok (.sh d) ρ := id rfl
@[simp] theorem rdV_l {xs : List Val} {n : Nat} {ρ : DEnv} : rdV (some (.lst xs)) n ρ = .ok (.sh (.lst (fzs xs))) (ρ.set n (some (.sh (.lst (fzs xs))))) := by
  have e : rdV (some (.lst xs)) n ρ = .ok (.sh (Val.lst xs).fz) (ρ.set n (some (.sh (Val.lst xs).fz))) := rfl
  rw [e, Val.fz]
@[simp] theorem rdV_t {xs : List Val} {n : Nat} {ρ : DEnv} : rdV (some (.tup xs)) n ρ = .ok (.sh (.tup (fzs xs))) (ρ.set n (some (.sh (.tup (fzs xs))))) := by
  have e : rdV (some (.tup xs)) n ρ = .ok (.sh (Val.tup xs).fz) (ρ.set n (some (.sh (Val.tup xs).fz))) := rfl
  rw [e, Val.fz]
@[simp] theorem rdV_n {n : Nat} {ρ : DEnv} : rdV none n ρ = .bad := id rfl
def crR (c : CR) (ρ : DEnv) : R Val := match c with
  | .ret x => .ok x ρ
  | .exc e => .exc e ρ
  | .bad => .bad
@[simp] theorem crR_r {x : Val} {ρ : DEnv} : crR (.ret x) ρ = .ok x ρ := id rfl
@[simp] theorem crR_e {e : DExn} {ρ : DEnv} : crR (.exc e) ρ = .exc e ρ := id rfl
@[simp] theorem crR_b {ρ : DEnv} : crR .bad ρ = .bad := id rfl
def lnV (o : Option Val) (ρ : DEnv) : R Val := match o with
  | some (.lst xs) => .ok (.sh (.int xs.length)) ρ
  | some x => liftO (lenD x.fz) ρ
  | none => .bad
@[simp] theorem lnV_l {xs : List Val} {ρ : DEnv} : lnV (some (.lst xs)) ρ = .ok (.sh (.int xs.length)) ρ := id rfl
@[simp] theorem lnV_sh {d : D} {ρ : DEnv} : lnV (some (.sh d)) ρ = liftO (lenD d) ρ := by
  have e : lnV (some (.sh d)) ρ = liftO (lenD (Val.sh d).fz) ρ := rfl
  rw [e, Val.fz]
@[simp] theorem lnV_t {xs : List Val} {ρ : DEnv} : lnV (some (.tup xs)) ρ = liftO (lenD (.tup (fzs xs))) ρ := by
  have e : lnV (some (.tup xs)) ρ = liftO (lenD (Val.tup xs).fz) ρ := rfl
  rw [e, Val.fz]
def ixR (o : Option Val) (y : D) (ρ : DEnv) : R Val := match o with
  | none => .bad
  | some x => liftO ((ixV x y).map .sh) ρ
@[simp] theorem ixR_s {x : Val} {y : D} {ρ : DEnv} : ixR (some x) y ρ = liftO ((ixV x y).map .sh) ρ := id rfl
def ixO (o : Option Val) (k : R Val) : R Val := match o with
  | none => .bad
  | some _ => k
@[simp] theorem ixO_s {x : Val} {k : R Val} : ixO (some x) k = k := id rfl
def shO (o : Option Val) : Option D := match o with
  | some (.sh d) => some d
  | _ => none
@[simp] theorem shO_s {d : D} : shO (some (.sh d)) = some d := id rfl
@[simp] theorem shO_n : shO none = none := id rfl
def shV (x : Val) : Option D := match x with
  | .sh d => some d
  | _ => none
@[simp] theorem shV_s {d : D} : shV (.sh d) = some d := id rfl
def appK (o : Option Val) (k : Fl) : Fl := match o with
  | some (.lst _) => k
  | _ => .bad
@[simp] theorem appK_l {xs : List Val} {k : Fl} : appK (some (.lst xs)) k = k := id rfl
def appF (o : Option Val) (n : Nat) (y : Val) (ρ : DEnv) : Fl := match o with
  | some (.lst xs) => if xs.length < 10000000 then .nx (ρ.set n (some (.lst (xs ++ [y])))) else .bad
  | _ => .bad
@[simp] theorem appF_l {xs : List Val} {n : Nat} {y : Val} {ρ : DEnv} : appF (some (.lst xs)) n y ρ = if xs.length < 10000000 then .nx (ρ.set n (some (.lst (xs ++ [y])))) else .bad := id rfl
def ownsV (o : Option Val) : Bool := match o with
  | some (.lst _) => true
  | _ => false
@[simp] theorem ownsL_ap {n : Nat} {ρ : DEnv} : ownsL n ρ = ownsV (getV ρ[n]?) := id rfl
@[simp] theorem ownsV_l {xs : List Val} : ownsV (some (.lst xs)) = true := id rfl
def setIxV (o : Option Val) (i : Nat) (y : Val) (k : D) (ρ : DEnv) : Fl := match o, k with
  | some (.lst xs), .int n => match ixN xs.length n with
    | some j => .nx (ρ.set i (some (.lst (xs.set j y))))
    | none => .bad
  | _, _ => .bad
@[simp] theorem setIx_ap {i : Nat} {y : Val} {k : D} {ρ : DEnv} : setIx i y k ρ = setIxV (getV ρ[i]?) i y k ρ := id rfl
@[simp] theorem setIxV_l {i : Nat} {y : Val} {n : Int} {xs : List Val} {ρ : DEnv} (h : 0 ≤ n) (h1 : n < (xs.length : Int)) : setIxV (some (.lst xs)) i y (.int n) ρ = .nx (ρ.set i (some (.lst (xs.set n.toNat y)))) := by
  have e : ixN xs.length n = some n.toNat := by unfold ixN; rw [if_pos h, if_pos (by omega)]
  unfold setIxV
  simp only [e]
def intR (d : D) (ρ : DEnv) : R (Option Int) := match d with
  | .int i => .ok (some i) ρ
  | _ => .bad
@[simp] theorem intR_i {i : Int} {ρ : DEnv} : intR (.int i) ρ = .ok (some i) ρ := id rfl
def mkTo (o : Option (List D)) (xs : List Val) : Val := match o with
  | some ds => .sh (.tup ds)
  | none => .tup xs
@[simp] theorem mkTo_s {ds : List D} {xs : List Val} : mkTo (some ds) xs = .sh (.tup ds) := id rfl
@[simp] theorem mkTo_n {xs : List Val} : mkTo none xs = .tup xs := id rfl
def consO (d : D) (o : Option (List D)) : Option (List D) := match o with
  | some ds => some (d :: ds)
  | none => none
@[simp] theorem consO_s {d : D} {ds : List D} : consO d (some ds) = some (d :: ds) := id rfl
@[simp] theorem consO_n {d : D} : consO d none = none := id rfl
def isN (d : D) : Bool := match d with
  | .non => true
  | _ => false
@[simp] theorem isN_n : isN .non = true := id rfl
@[simp] theorem isN_i {i : Int} : isN (.int i) = false := id rfl
@[simp] theorem isN_t {ds : List D} : isN (.tup ds) = false := id rfl
@[simp] theorem isN_l {ds : List D} : isN (.lst ds) = false := id rfl
@[simp] theorem isN_s {z : Str} : isN (.str z) = false := id rfl
@[simp] theorem isN_b {z : Bool} : isN (.bl z) = false := id rfl
@[simp] theorem isN_ins {C : Addr} {ns : List Str} {ds : List D} : isN (.ins C ns ds) = false := id rfl
section
variable {G : D → D → Option Val} {a b c f : DEnv → R Val} {fs : DEnv → R (List Val)} {t u : DEnv → R Bool} {s r : DEnv → Fl} {ρ : DEnv} {i j : Int} {n m : Nat} {d e : D} {x y : Val} {ds es : List D} {xs ys : List Val} {g : D → DEnv → Option DEnv}
@[simp] theorem fz_sh : Val.fz (.sh d) = d := by rw [Val.fz]
@[simp] theorem fz_lst : Val.fz (.lst xs) = .lst (fzs xs) := by rw [Val.fz]
@[simp] theorem fz_tup : Val.fz (.tup xs) = .tup (fzs xs) := by rw [Val.fz]
@[simp] theorem fzs_nil : fzs [] = [] := by rw [fzs]
@[simp] theorem fzs_cons : fzs (x :: xs) = x.fz :: fzs xs := by rw [fzs]
@[simp] theorem fzs_shs : fzs (ds.map .sh) = ds := fzs_sh ds
@[simp] theorem fzs_rep : fzs (List.replicate n x) = List.replicate n x.fz := by simp [fzs_map]
@[simp] theorem fzs_app : fzs (xs ++ ys) = fzs xs ++ fzs ys := by simp [fzs_map]
@[simp] theorem getV_ss : getV (some (some x)) = some x := id rfl
@[simp] theorem getV_sn : getV (some none) = none := id rfl
@[simp] theorem getV_n : getV none = none := id rfl
@[simp] theorem sSeq_ap : sSeq s r ρ = (s ρ).seq r := id rfl
@[simp] theorem sSkip_ap : sSkip ρ = .nx ρ := id rfl
@[simp] theorem sSet_ap : sSet n f ρ = (f ρ).fl fun x ρ1 => if n < ρ1.length then .nx (ρ1.set n (some x)) else .bad := id rfl
@[simp] theorem sFz_ap : sFz f ρ = (f ρ).bind fun x ρ1 => .ok (.sh x.fz) ρ1 := id rfl
@[simp] theorem sRet_ap : sRet f ρ = (f ρ).fl fun x ρ1 => .rt x ρ1 := id rfl
@[simp] theorem sDo_ap : sDo f ρ = (f ρ).fl fun _ ρ1 => .nx ρ1 := id rfl
@[simp] theorem sIf_ap : sIf t s r ρ = (t ρ).fl fun b ρ1 => if b = true then s ρ1 else r ρ1 := id rfl
@[simp] theorem sBrk_ap : sBrk ρ = .bk ρ := id rfl
@[simp] theorem sCnt_ap : sCnt ρ = .ct ρ := id rfl
@[simp] theorem sAsg_ap : sAsg f g ρ = (f ρ).fl fun x ρ1 => optF (g x.fz ρ1) := id rfl
@[simp] theorem sPar_ap : sPar n m fs ρ = (fs ρ).fl fun xs ρ1 => parF n m xs ρ1 := id rfl
@[simp] theorem sVar_ap : sVar n ρ = rdV (getV ρ[n]?) n ρ := id rfl
@[simp] theorem sC_ap : sC d ρ = .ok (.sh d) ρ := id rfl
@[simp] theorem sOp_ap : sOp G a b ρ = (a ρ).bind fun x ρ1 => (b ρ1).bind fun y ρ2 => liftO (G x.fz y.fz) ρ2 := id rfl
@[simp] theorem sUn_ap {G : D → Option Val} : sUn G a ρ = (a ρ).bind fun x ρ1 => liftO (G x.fz) ρ1 := id rfl
@[simp] theorem sNil_ap : sNil ρ = .ok [] ρ := id rfl
@[simp] theorem sCons_ap : sCons a fs ρ = (a ρ).bind fun x ρ1 => (fs ρ1).bind fun ys ρ2 => .ok (x :: ys) ρ2 := id rfl
@[simp] theorem sTup_ap : sTup fs ρ = (fs ρ).bind fun xs ρ1 => if xs.length ≤ 1000 then .ok (mkT xs) ρ1 else .bad := id rfl
@[simp] theorem sLst_ap : sLst fs ρ = (fs ρ).bind fun xs ρ1 => if xs.length ≤ 1000 then .ok (.lst xs) ρ1 else .bad := id rfl
@[simp] theorem sTst_ap : sTst f ρ = (f ρ).bind fun x ρ1 => liftB (asB x.fz) ρ1 := id rfl
@[simp] theorem sAnd_ap : sAnd t u ρ = (t ρ).bind fun b ρ1 => if b = true then u ρ1 else .ok false ρ1 := id rfl
@[simp] theorem sOr_ap : sOr t u ρ = (t ρ).bind fun b ρ1 => if b = true then .ok true ρ1 else u ρ1 := id rfl
@[simp] theorem sNot_ap : sNot t ρ = (t ρ).bind fun b ρ1 => .ok (!b) ρ1 := id rfl
@[simp] theorem sIfE_ap : sIfE t a b ρ = (t ρ).bind fun b' ρ1 => if b' = true then a ρ1 else b ρ1 := id rfl
@[simp] theorem sAndV_ap : sAndV a b ρ = (a ρ).bind fun x ρ1 => (liftB (asB x.fz) ρ1).bind fun k ρ2 => if k = true then b ρ2 else .ok (.sh (.bl false)) ρ2 := id rfl
@[simp] theorem sOrV_ap : sOrV a b ρ = (a ρ).bind fun x ρ1 => (liftB (asB x.fz) ρ1).bind fun k ρ2 => if k = true then .ok (.sh (.bl true)) ρ2 else b ρ2 := id rfl
@[simp] theorem sNotV_ap : sNotV a ρ = (a ρ).bind fun x ρ1 => (liftB (asB x.fz) ρ1).bind fun k ρ2 => .ok (.sh (.bl (!k))) ρ2 := id rfl
@[simp] theorem andR {p : Prop} [Decidable p] {k : Bool} : (if p then (R.ok (.sh (.bl k)) ρ : R Val) else R.ok (.sh (.bl false)) ρ) = R.ok (.sh (.bl (decide p && k))) ρ := by
  by_cases h : p <;> simp [h]
@[simp] theorem orR {p : Prop} [Decidable p] {k : Bool} : (if p then (R.ok (.sh (.bl true)) ρ : R Val) else R.ok (.sh (.bl k)) ρ) = R.ok (.sh (.bl (decide p || k))) ρ := by
  by_cases h : p <;> simp [h]
@[simp] theorem andT {p : Prop} [Decidable p] {k : Bool} : (if p then (R.ok k ρ : R Bool) else R.ok false ρ) = R.ok (decide p && k) ρ := by
  by_cases h : p <;> simp [h]
@[simp] theorem orT {p : Prop} [Decidable p] {k : Bool} : (if p then (R.ok true ρ : R Bool) else R.ok k ρ) = R.ok (decide p || k) ρ := by
  by_cases h : p <;> simp [h]
@[simp] theorem asB_bl {k : Bool} : asB (.bl k) = some k := id rfl
@[simp] theorem sChain_ap {G' : D → D → Option Val} : sChain G G' a b c ρ = (a ρ).bind fun x ρ1 => (b ρ1).bind fun y ρ2 => (liftO (G x.fz y.fz) ρ2).bind fun z ρ3 => (liftB (asB z.fz) ρ3).bind fun k ρ4 =>
  if k = true then (c ρ4).bind fun u ρ5 => liftO (G' y.fz u.fz) ρ5 else .ok (.sh (.bl false)) ρ4 := rfl
@[simp] theorem gI_ap {h : Int → Int → Bool} : gI h (.int i) (.int j) = some (.sh (.bl (h i j))) := id rfl
@[simp] theorem sCall_ap {φ : List D → CR} : sCall φ n fs ρ = (fs ρ).bind fun ys ρ1 => if ys.length = n then crR (φ (fzs ys)) ρ1 else .bad := id rfl
@[simp] theorem sCB_ap {h : List D → Option Val} : sCB h fs ρ = (fs ρ).bind fun ys ρ1 => liftO (h (fzs ys)) ρ1 := id rfl
@[simp] theorem g1_ap {h : D → Option Val} : g1 h [d] = h d := id rfl
@[simp] theorem g2_ap : g2 G [d, e] = G d e := id rfl
@[simp] theorem sLenV_ap : sLenV n ρ = lnV (getV ρ[n]?) ρ := id rfl
@[simp] theorem sIxV_ap : sIxV n f ρ = ixO (getV ρ[n]?) ((f ρ).bind fun y ρ1 => ixR (getV ρ1[n]?) y.fz ρ1) := id rfl
@[simp] theorem ixV_sh : ixV (.sh d) e = shO (ixD d e) := id rfl
@[simp] theorem ixV_lst : ixV (.lst xs) (.int i) = (atI xs i).bind shV := id rfl
@[simp] theorem ixV_tup : ixV (.tup xs) (.int i) = (atI xs i).bind shV := id rfl
@[simp] theorem sApp_ap : sApp n f ρ = appK (getV ρ[n]?) ((f ρ).fl fun y ρ1 => appF (getV ρ1[n]?) n y ρ1) := id rfl
@[simp] theorem sSetIx_ap : sSetIx n a b ρ = (b ρ).fl fun y ρ1 => if ownsL n ρ1 = true then (a ρ1).fl fun k ρ2 => setIx n y k.fz ρ2 else .bad := id rfl
@[simp] theorem sSl_ap {lo hi : Option (DEnv → R Val)} : sSl f lo hi ρ = (f ρ).bind fun x ρ1 => (sPart lo ρ1).bind fun i ρ2 => (sPart hi ρ2).bind fun j ρ3 => liftO (slD i j x.fz) ρ3 := id rfl
@[simp] theorem sPart_n : sPart none ρ = .ok none ρ := id rfl
@[simp] theorem sPart_s : sPart (some f) ρ = (f ρ).bind fun x ρ1 => intR x.fz ρ1 := id rfl
@[simp] theorem kName_ap : kName n d ρ = if n < ρ.length then some (ρ.set n (some (.sh d))) else none := id rfl
@[simp] theorem kNil_ap : kNil [] ρ = some ρ := id rfl
@[simp] theorem kCons_ap {r : List D → DEnv → Option DEnv} : kCons g r (d :: ds) ρ = (g d ρ).bind fun ρ1 => r ds ρ1 := id rfl
@[simp] theorem kSeq_t {r : List D → DEnv → Option DEnv} : kSeq n r (.tup ds) ρ = if ds.length = n then r ds ρ else none := id rfl
@[simp] theorem kSeq_s {r : List D → DEnv → Option DEnv} : kSeq n r (.scr ds) ρ = if ds.length = n then r ds ρ else none := id rfl
@[simp] theorem kSeq_l {r : List D → DEnv → Option DEnv} : kSeq n r (.lst ds) ρ = if ds.length = n then r ds ρ else none := id rfl
@[simp] theorem sItems_ap : sItems f ρ = (f ρ).bind fun x ρ1 => liftL (itemsD x.fz) ρ1 := id rfl
@[simp] theorem itemsD_l : itemsD (.lst ds) = some ds := id rfl
@[simp] theorem itemsD_s : itemsD (.scr ds) = some ds := id rfl
@[simp] theorem itemsD_t : itemsD (.tup ds) = some ds := id rfl
@[simp] theorem sRange_ap {h : List D → Option (List D)} : sRange h fs ρ = (fs ρ).bind fun xs ρ1 => liftL (h (fzs xs)) ρ1 := id rfl
@[simp] theorem sFor_ap {it : DEnv → R (List D)} {is : List Nat} : sFor it g s is ρ = (it ρ).fl fun ds ρ1 => loop g s is ds (forget is ρ1) := id rfl
@[simp] theorem sComp_ap {it : DEnv → R (List D)} {is : List Nat} : sComp it g t f is ρ = (it ρ).bind fun ds ρ1 => if ds.length ≤ 10000000 then comp g t f is ds [] (forget is ρ1) else .bad := id rfl
@[simp] theorem sYes_ap : sYes ρ = .ok true ρ := id rfl
@[simp] theorem forget_nil : forget [] ρ = ρ := id rfl
@[simp] theorem forget_cons {k : Nat} {is : List Nat} : forget (k :: is) ρ = forget is (ρ.set k none) := id rfl
@[simp] theorem cr_nx : (Fl.nx ρ).cr = .ret (.sh .non) := id rfl
@[simp] theorem cr_rt : (Fl.rt x ρ).cr = .ret x := id rfl
@[simp] theorem cr_exc {e : DExn} : (Fl.exc e ρ).cr = .exc e := id rfl
/-! numbers -/
@[simp] theorem addD_int : addD (.int i) (.int j) = some (.sh (.int (i + j))) := id rfl
@[simp] theorem subD_int : subD (.int i) (.int j) = some (.sh (.int (i - j))) := id rfl
@[simp] theorem negD_int : negD (.int i) = some (.sh (.int (-i))) := id rfl
theorem mulD_ok (h : mulOk i j) : mulD (.int i) (.int j) = some (.sh (.int (i * j))) := by
  have e : mulI (.int i) (.int j) = if mulOk i j then some (.sh (.int (i * j))) else none := rfl
  unfold mulD orG
  rw [e, if_pos h]
@[simp] theorem mulD_l (h1 : -18446744073709551616 < i) (h2 : i < 18446744073709551616) : mulD (.int i) (.int j) = some (.sh (.int (i * j))) := mulD_ok (.inl ⟨by omega, by omega⟩)
@[simp] theorem mulD_r (h1 : -18446744073709551616 < j) (h2 : j < 18446744073709551616) : mulD (.int i) (.int j) = some (.sh (.int (i * j))) := mulD_ok (.inr (.inl ⟨by omega, by omega⟩))
theorem log2_small {n k : Nat} (hk : k ≠ 0) (h : n < 2 ^ k) : n.log2 < k := by
  by_cases h0 : n = 0
  · subst h0; simp; omega
  · exact (Nat.log2_lt h0).mpr h
theorem divOk_lit (h0 : 0 < j) (h1 : j < 18446744073709551616) : divOk j := ⟨by omega, Nat.lt_trans (log2_small (k := 64) (by decide) (by omega)) (by decide)⟩
theorem fdivD_ok (h : divOk j) : fdivD (.int i) (.int j) = some (.sh (.int (i.fdiv j))) := by
  have e : fdivD (.int i) (.int j) = if divOk j then some (.sh (.int (i.fdiv j))) else none := rfl
  rw [e, if_pos h]
@[simp] theorem fdivD_pos (h0 : 0 < j) (h1 : j < 18446744073709551616) : fdivD (.int i) (.int j) = some (.sh (.int (i / j))) := by
  rw [fdivD_ok (divOk_lit h0 h1), Int.fdiv_eq_ediv_of_nonneg i (by omega)]
@[simp] theorem modD_pos (h0 : 0 < j) : modD (.int i) (.int j) = some (.sh (.int (i % j))) := by
  have e : modD (.int i) (.int j) = if j ≠ 0 then some (.sh (.int (i.fmod j))) else none := rfl
  rw [e, if_pos (by omega), Int.fmod_eq_emod_of_nonneg i (by omega)]
theorem modD_nz (h0 : j ≠ 0) : modD (.int i) (.int j) = some (.sh (.int (i.fmod j))) := by
  have e : modD (.int i) (.int j) = if j ≠ 0 then some (.sh (.int (i.fmod j))) else none := rfl
  rw [e, if_pos h0]
/-- a number of at most n bits -/
def Bd (n : Nat) (i : Int) : Prop := i.natAbs < 2 ^ n
theorem Bd.mul {n m : Nat} (h : Bd n i) (k : Bd m j) : Bd (n + m) (i * j) := by
  unfold Bd at *
  rw [Int.natAbs_mul, Nat.pow_add]
  by_cases hj : j.natAbs = 0
  · rw [hj, Nat.mul_zero]; exact Nat.mul_pos (Nat.two_pow_pos _) (Nat.two_pow_pos _)
  · exact Nat.lt_of_lt_of_le (Nat.mul_lt_mul_of_pos_right h (by omega)) (Nat.mul_le_mul_left _ (Nat.le_of_lt k))
theorem Bd.le {n m : Nat} (h : Bd n i) (k : n ≤ m) : Bd m i := Nat.lt_of_lt_of_le h (Nat.pow_le_pow_right (by decide) k)
theorem Bd.add {n : Nat} (h : Bd n i) (k : Bd n j) : Bd (n + 1) (i + j) := by
  unfold Bd at *
  rw [Nat.pow_succ]; omega
theorem Bd.sub {n : Nat} (h : Bd n i) (k : Bd n j) : Bd (n + 1) (i - j) := by
  unfold Bd at *
  rw [Nat.pow_succ]; omega
theorem Bd.neg {n : Nat} (h : Bd n i) : Bd n (-i) := by
  unfold Bd at *; omega
theorem mulD_bd {n m : Nat} (h : Bd n i) (k : Bd m j) (hn : n + m ≤ 900000) : mulD (.int i) (.int j) = some (.sh (.int (i * j))) := by
  refine mulD_ok (.inr (.inr ?_))
  have a := log2_small (n := i.natAbs) (k := n + 1) (by omega) (Nat.lt_of_lt_of_le h (Nat.pow_le_pow_right (by decide) (by omega)))
  have b := log2_small (n := j.natAbs) (k := m + 1) (by omega) (Nat.lt_of_lt_of_le k (Nat.pow_le_pow_right (by decide) (by omega)))
  omega
theorem bd_x (h1 : -1000000000000000000000000000000000000000000000000000000000000000000000000000000000000000000000000000000000000000000000000000000000000000000000000000000 ≤ i) (h2 : i ≤ 1000000000000000000000000000000000000000000000000000000000000000000000000000000000000000000000000000000000000000000000000000000000000000000000000000000) : Bd 500 i := by
  unfold Bd
  have : (1000000000000000000000000000000000000000000000000000000000000000000000000000000000000000000000000000000000000000000000000000000000000000000000000000000 : Nat) < 2 ^ 500 := by decide +kernel
  exact Nat.lt_of_le_of_lt (by omega) this
@[simp] theorem mulD_x (h1 : -1000000000000000000000000000000000000000000000000000000000000000000000000000000000000000000000000000000000000000000000000000000000000000000000000000000 ≤ i) (h2 : i ≤ 1000000000000000000000000000000000000000000000000000000000000000000000000000000000000000000000000000000000000000000000000000000000000000000000000000000) (h3 : -1000000000000000000000000000000000000000000000000000000000000000000000000000000000000000000000000000000000000000000000000000000000000000000000000000000 ≤ j) (h4 : j ≤ 1000000000000000000000000000000000000000000000000000000000000000000000000000000000000000000000000000000000000000000000000000000000000000000000000000000) : mulD (.int i) (.int j) = some (.sh (.int (i * j))) := mulD_bd (bd_x h1 h2) (bd_x h3 h4) (by decide)
theorem fdivD_bd {n : Nat} (h0 : 0 < j) (h : Bd n j) (hn : n < 9000) : fdivD (.int i) (.int j) = some (.sh (.int (i / j))) := by
  rw [fdivD_ok ⟨by omega, log2_small (by decide) (Nat.lt_of_lt_of_le h (Nat.pow_le_pow_right (by decide) (Nat.le_of_lt hn)))⟩, Int.fdiv_eq_ediv_of_nonneg i (by omega)]
@[simp] theorem powD_int (h0 : 0 ≤ j) (h1 : j ≤ 1000000) (h2 : -18446744073709551616 < i) (h3 : i < 18446744073709551616) : powD (.int i) (.int j) = some (.sh (.int (i ^ j.toNat))) := by
  have e : powD (.int i) (.int j) = if CPow i j then some (.sh (.int (i ^ j.toNat))) else none := rfl
  rw [e, if_pos ⟨h0, h1, by omega⟩]
@[simp] theorem shlD_int (h0 : 0 ≤ j) (h1 : j ≤ 1000000) (h2 : -18446744073709551616 < i) (h3 : i < 18446744073709551616) : shlD (.int i) (.int j) = some (.sh (.int (i * 2 ^ j.toNat))) := by
  have e : shlD (.int i) (.int j) = if CPow i j then some (.sh (.int (i * 2 ^ j.toNat))) else none := rfl
  rw [e, if_pos ⟨h0, h1, by omega⟩]
@[simp] theorem shrD_int (h0 : 0 ≤ j) : shrD (.int i) (.int j) = some (.sh (.int (i / 2 ^ j.toNat))) := by
  have e : shrD (.int i) (.int j) = if 0 ≤ j then some (.sh (.int (i / 2 ^ j.toNat))) else none := rfl
  rw [e, if_pos h0]
@[simp] theorem andD_int : andD (.int i) (.int j) = some (.sh (.int (Builtin.bitAnd i j))) := id rfl
@[simp] theorem orD_int : orD (.int i) (.int j) = some (.sh (.int (Builtin.bitOr i j))) := id rfl
@[simp] theorem divmodD_int (h0 : 0 < j) (h1 : j < 1073741824) : divmodD (.int i) (.int j) = some (.sh (.tup [.int (i / j), .int (i % j)])) := by
  have e : divmodD (.int i) (.int j) = if CDiv i j then some (.sh (.tup [.int (i / j), .int (i % j)])) else none := rfl
  rw [e, if_pos ⟨h0, h1⟩]
@[simp] theorem absD_int : absD (.int i) = some (.sh (.int (i.natAbs : Int))) := by
  have e : absD (.int i) = some (.sh (.int (if i < 0 then -i else i))) := rfl
  rw [e]; congr 3; split <;> omega
@[simp] theorem intD_int : intD (.int i) = some (.sh (.int i)) := id rfl
@[simp] theorem intD_bl {k : Bool} : intD (.bl k) = some (.sh (.int (if k then 1 else 0))) := id rfl
@[simp] theorem max2D_int : max2D (.int i) (.int j) = some (.sh (.int (if j > i then j else i))) := id rfl
@[simp] theorem min2D_int : min2D (.int i) (.int j) = some (.sh (.int (if j < i then j else i))) := id rfl
@[simp] theorem ltD_int : ltD (.int i) (.int j) = some (.sh (.bl (decide (i < j)))) := id rfl
@[simp] theorem leD_int : leD (.int i) (.int j) = some (.sh (.bl (decide (i ≤ j)))) := id rfl
@[simp] theorem gtD_int : gtD (.int i) (.int j) = some (.sh (.bl (decide (j < i)))) := id rfl
@[simp] theorem geD_int : geD (.int i) (.int j) = some (.sh (.bl (decide (j ≤ i)))) := id rfl
/-! == -/
@[simp] theorem ok_int {k : Nat} : D.ok k (.int i) = true := by cases k <;> rfl
@[simp] theorem ok_bl {k : Nat} {z : Bool} : D.ok k (.bl z) = true := by cases k <;> rfl
@[simp] theorem ok_str {k : Nat} {z : Str} : D.ok k (.str z) = true := by cases k <;> rfl
@[simp] theorem ok_non {k : Nat} : D.ok k .non = true := by cases k <;> rfl
@[simp] theorem ok_lst {k : Nat} : D.ok (k + 1) (.lst ds) = ds.all (D.ok k) := id rfl
@[simp] theorem ok_scr {k : Nat} : D.ok (k + 1) (.scr ds) = ds.all (D.ok k) := id rfl
@[simp] theorem ok_tup {k : Nat} : D.ok (k + 1) (.tup ds) = ds.all (D.ok k) := id rfl
@[simp] theorem ok20_lst : D.ok 20 (.lst ds) = ds.all (D.ok 19) := id rfl
@[simp] theorem ok20_scr : D.ok 20 (.scr ds) = ds.all (D.ok 19) := id rfl
@[simp] theorem ok20_tup : D.ok 20 (.tup ds) = ds.all (D.ok 19) := id rfl
@[simp] theorem ok19_lst : D.ok 19 (.lst ds) = ds.all (D.ok 18) := id rfl
@[simp] theorem ok19_tup : D.ok 19 (.tup ds) = ds.all (D.ok 18) := id rfl
@[simp] theorem ok18_lst : D.ok 18 (.lst ds) = ds.all (D.ok 17) := id rfl
@[simp] theorem ok18_tup : D.ok 18 (.tup ds) = ds.all (D.ok 17) := id rfl
@[simp] theorem ok17_lst : D.ok 17 (.lst ds) = ds.all (D.ok 16) := id rfl
@[simp] theorem ok17_tup : D.ok 17 (.tup ds) = ds.all (D.ok 16) := id rfl
@[simp] theorem ok16_tup : D.ok 16 (.tup ds) = ds.all (D.ok 15) := id rfl
@[simp] theorem eqv_int : D.eqv (.int i) (.int j) = decide (i = j) := by
  unfold D.eqv
  simp only [D.py, PyData.eqv]
  exact Bool.beq_eq_decide_eq i j
@[simp] theorem eqv_str {z w : Str} : D.eqv (.str z) (.str w) = decide (z = w) := by
  unfold D.eqv
  simp only [D.py, PyData.eqv]
  exact Bool.beq_eq_decide_eq z w
@[simp] theorem eqv_bl {z w : Bool} : D.eqv (.bl z) (.bl w) = (z == w) := by
  unfold D.eqv
  simp only [D.py, PyData.eqv]
@[simp] theorem eqv_tup : D.eqv (.tup ds) (.tup es) = eqvs ds es := by
  unfold D.eqv eqvs
  simp only [D.py, PyData.eqv]
@[simp] theorem eqv_lst : D.eqv (.lst ds) (.lst es) = eqvs ds es := by
  unfold D.eqv eqvs
  simp only [D.py, PyData.eqv]
@[simp] theorem eqv_lt : D.eqv (.lst ds) (.tup es) = false := by unfold D.eqv; simp only [D.py, PyData.eqv]
@[simp] theorem eqv_tl : D.eqv (.tup ds) (.lst es) = false := by unfold D.eqv; simp only [D.py, PyData.eqv]
@[simp] theorem eqv_nn : D.eqv .non .non = true := by unfold D.eqv; simp only [D.py, PyData.eqv]
@[simp] theorem eqv_ni : D.eqv .non (.int i) = false := by unfold D.eqv; simp only [D.py, PyData.eqv]
@[simp] theorem eqv_in : D.eqv (.int i) .non = false := by unfold D.eqv; simp only [D.py, PyData.eqv]
@[simp] theorem eqv_nt : D.eqv .non (.tup ds) = false := by unfold D.eqv; simp only [D.py, PyData.eqv]
@[simp] theorem eqv_tn : D.eqv (.tup ds) .non = false := by unfold D.eqv; simp only [D.py, PyData.eqv]
@[simp] theorem eqv_nl : D.eqv .non (.lst ds) = false := by unfold D.eqv; simp only [D.py, PyData.eqv]
@[simp] theorem eqv_ln : D.eqv (.lst ds) .non = false := by unfold D.eqv; simp only [D.py, PyData.eqv]
@[simp] theorem eqvs_nil : eqvs [] [] = true := by unfold eqvs; simp only [pys, PyData.eqvAll]
@[simp] theorem eqvs_cons : eqvs (d :: ds) (e :: es) = (D.eqv d e && eqvs ds es) := by unfold eqvs D.eqv; simp only [pys, PyData.eqvAll]
@[simp] theorem eqvs_nc : eqvs [] (e :: es) = false := by unfold eqvs; simp only [pys, PyData.eqvAll]
@[simp] theorem eqvs_cn : eqvs (d :: ds) [] = false := by unfold eqvs; simp only [pys, PyData.eqvAll]
@[simp] theorem eqD_ap : eqD d e = if d.ok 20 && e.ok 20 then some (.sh (.bl (d.eqv e))) else none := id rfl
@[simp] theorem neD_ap : neD d e = if d.ok 20 && e.ok 20 then some (.sh (.bl (!d.eqv e))) else none := id rfl
@[simp] theorem isND_ap {k : Bool} : isND k d = some (.sh (.bl (k != isN d))) := id rfl
@[simp] theorem isiD_ap {T : BT} : isiD T d = (d.isB T).map fun b => .sh (.bl b) := id rfl
@[simp] theorem isB_ii : D.isB .int (.int i) = some true := id rfl
@[simp] theorem isB_ib {k : Bool} : D.isB .int (.bl k) = some true := id rfl
@[simp] theorem isB_it : D.isB .int (.tup ds) = some false := id rfl
@[simp] theorem isB_il : D.isB .int (.lst ds) = some false := id rfl
@[simp] theorem isB_is {z : Str} : D.isB .int (.str z) = some false := id rfl
@[simp] theorem isB_in : D.isB .int .non = some false := id rfl
@[simp] theorem isB_bi : D.isB .bool (.int i) = some false := id rfl
@[simp] theorem isB_bb {k : Bool} : D.isB .bool (.bl k) = some true := id rfl
@[simp] theorem isB_bt : D.isB .bool (.tup ds) = some false := id rfl
@[simp] theorem isB_bn : D.isB .bool .non = some false := id rfl
@[simp] theorem isB_tt : D.isB .tuple (.tup ds) = some true := id rfl
@[simp] theorem isB_tl : D.isB .tuple (.lst ds) = some false := id rfl
@[simp] theorem isB_tn : D.isB .tuple .non = some false := id rfl
@[simp] theorem isB_ti : D.isB .tuple (.int i) = some false := id rfl
@[simp] theorem isB_ll : D.isB .list (.lst ds) = some true := id rfl
@[simp] theorem isB_lt : D.isB .list (.tup ds) = some false := id rfl
@[simp] theorem isB_ln : D.isB .list .non = some false := id rfl
@[simp] theorem isB_ss {z : Str} : D.isB .str (.str z) = some true := id rfl
@[simp] theorem isB_si : D.isB .str (.int i) = some false := id rfl
@[simp] theorem isB_st : D.isB .str (.tup ds) = some false := id rfl
@[simp] theorem isB_sl : D.isB .str (.lst ds) = some false := id rfl
@[simp] theorem isB_sn : D.isB .str .non = some false := id rfl
@[simp] theorem isB_bs {z : Str} : D.isB .bool (.str z) = some false := id rfl
@[simp] theorem isB_bl2 : D.isB .bool (.lst ds) = some false := id rfl
@[simp] theorem isB_ts {z : Str} : D.isB .tuple (.str z) = some false := id rfl
@[simp] theorem isB_ls {z : Str} : D.isB .list (.str z) = some false := id rfl
@[simp] theorem isB_li : D.isB .list (.int i) = some false := id rfl
/-! lists -/
@[simp] theorem listD_l : listD (.lst ds) = some (.lst (ds.map .sh)) := id rfl
@[simp] theorem listD_s : listD (.scr ds) = some (.lst (ds.map .sh)) := id rfl
@[simp] theorem listD_t : listD (.tup ds) = some (.lst (ds.map .sh)) := id rfl
@[simp] theorem tupleD_l : tupleD (.lst ds) = some (.sh (.tup ds)) := id rfl
@[simp] theorem tupleD_s : tupleD (.scr ds) = some (.sh (.tup ds)) := id rfl
@[simp] theorem tupleD_t : tupleD (.tup ds) = some (.sh (.tup ds)) := id rfl
@[simp] theorem shs_nil : shs [] = some [] := id rfl
@[simp] theorem shs_sh : shs (.sh d :: xs) = consO d (shs xs) := id rfl
@[simp] theorem shs_l : shs (.lst ys :: xs) = none := id rfl
@[simp] theorem shs_t : shs (.tup ys :: xs) = none := id rfl
@[simp] theorem mkT_ap : mkT xs = mkTo (shs xs) xs := id rfl
@[simp] theorem lenD_l : lenD (.lst ds) = some (.sh (.int ds.length)) := id rfl
@[simp] theorem lenD_s : lenD (.scr ds) = some (.sh (.int ds.length)) := id rfl
@[simp] theorem lenD_t : lenD (.tup ds) = some (.sh (.int ds.length)) := id rfl
@[simp] theorem atI_nn {α : Type} {l : List α} (h : 0 ≤ i) : atI l i = l[i.toNat]? := by
  unfold atI ixN
  rw [if_pos h]
  by_cases hl : i < (l.length : Int)
  · rw [if_pos hl]; rfl
  · rw [if_neg hl, List.getElem?_eq_none (by omega)]; rfl
@[simp] theorem ixD_l (h : 0 ≤ i) : ixD (.lst ds) (.int i) = (ds[i.toNat]?).map .sh := by
  have e : ixD (.lst ds) (.int i) = match (atI ds i).map Val.sh with | some x => some x | none => none := rfl
  rw [e, atI_nn h]
  cases ds[i.toNat]? <;> rfl
@[simp] theorem ixD_s (h : 0 ≤ i) : ixD (.scr ds) (.int i) = (ds[i.toNat]?).map .sh := by
  have e : ixD (.scr ds) (.int i) = match (atI ds i).map Val.sh with | some x => some x | none => none := rfl
  rw [e, atI_nn h]
  cases ds[i.toNat]? <;> rfl
@[simp] theorem ixD_t (h : 0 ≤ i) : ixD (.tup ds) (.int i) = (ds[i.toNat]?).map .sh := by
  have e : ixD (.tup ds) (.int i) = match (atI ds i).map Val.sh with | some x => some x | none => none := rfl
  rw [e, atI_nn h]
  cases ds[i.toNat]? <;> rfl
theorem atI_neg {α : Type} {l : List α} (h : i < 0) (h2 : -(l.length : Int) ≤ i) : atI l i = l[(i + l.length).toNat]? := by
  unfold atI ixN
  rw [if_neg (by omega), if_pos h2]; rfl
@[simp] theorem addD_lst (h : ds.length + es.length ≤ 10000000) : addD (.lst ds) (.lst es) = some (.lst ((ds ++ es).map .sh)) := by
  have e : addD (.lst ds) (.lst es) = match (if ds.length + es.length ≤ 10000000 then some (Val.lst ((ds ++ es).map .sh)) else none) with | some x => some x | none => none := rfl
  rw [e, if_pos h]
@[simp] theorem addD_tup (h : (d :: ds).length + es.length ≤ 10000000) : addD (.tup (d :: ds)) (.tup es) = some (.sh (.tup (d :: ds ++ es))) := by
  have e : addD (.tup (d :: ds)) (.tup es) = (if (d :: ds).length + es.length ≤ 10000000 then some (Val.sh (.tup (d :: ds ++ es))) else none) := rfl
  rw [e, if_pos h]
@[simp] theorem mulD_rep (h : ds.length * j.toNat ≤ 10000000 ∧ j < 4611686018427387904 ∧ -4611686018427387904 ≤ j) : mulD (.lst ds) (.int j) = some (.lst ((List.replicate j.toNat ds).flatten.map .sh)) := by
  have e : mulL (.lst ds) (.int j) = if ds.length * j.toNat ≤ 10000000 ∧ j < 2 ^ 62 ∧ -(2 ^ 62) ≤ j then some (Val.lst ((List.replicate j.toNat ds).flatten.map .sh)) else none := rfl
  have e1 : mulI (.lst ds) (.int j) = none := rfl
  unfold mulD orG
  rw [e1, e, if_pos ⟨h.1, by omega, by omega⟩]
@[simp] theorem slD_l {lo hi : Option Int} : slD lo hi (.lst ds) = some (.lst ((cutD ds lo hi).map .sh)) := id rfl
@[simp] theorem slD_s {lo hi : Option Int} : slD lo hi (.scr ds) = some (.lst ((cutD ds lo hi).map .sh)) := id rfl
theorem sIx_nn {n d : Nat} (h : 0 ≤ i) : HT.sIx n d (some i) = min i.toNat n := by
  obtain ⟨k, rfl⟩ := Int.eq_ofNat_of_zero_le h
  exact HT.sIx_nat n d k
theorem cutD_ll (h0 : 0 ≤ i) (h1 : 0 ≤ j) : cutD ds (some i) (some j) = (ds.take j.toNat).drop i.toNat := by
  unfold cutD
  rw [sIx_nn h0, sIx_nn h1, List.drop_take]
  refine List.ext_getElem? fun k => ?_
  simp only [List.getElem?_take, List.getElem?_drop]
  by_cases a : i.toNat ≤ ds.length
  · rw [Nat.min_eq_left a]
    by_cases b : k < j.toNat - i.toNat
    · rw [if_pos b]
      by_cases c : k < min j.toNat ds.length - i.toNat
      · rw [if_pos c]
      · rw [if_neg c, List.getElem?_eq_none (by omega)]
    · rw [if_neg b, if_neg (by omega)]
  · rw [Nat.min_eq_right (show ds.length ≤ i.toNat by omega)]
    rw [if_neg (by omega)]
    split
    · rw [List.getElem?_eq_none (by omega)]
    · rfl
theorem cutD_ln (h0 : 0 ≤ i) : cutD ds (some i) none = ds.drop i.toNat := by
  unfold cutD
  rw [sIx_nn h0, HT.sIx_none]
  refine List.ext_getElem? fun k => ?_
  simp only [List.getElem?_take, List.getElem?_drop]
  by_cases a : i.toNat ≤ ds.length
  · rw [Nat.min_eq_left a]
    split
    · rfl
    · rw [List.getElem?_eq_none (by omega)]
  · rw [Nat.min_eq_right (by omega), if_neg (by omega), List.getElem?_eq_none (by omega)]
theorem cutD_nl (h1 : 0 ≤ j) : cutD ds none (some j) = ds.take j.toNat := by
  unfold cutD
  rw [sIx_nn h1, HT.sIx_none, Nat.sub_zero, List.drop_zero]
  refine List.ext_getElem? fun k => ?_
  simp only [List.getElem?_take]
  split <;> split <;> first | rfl | (rw [List.getElem?_eq_none (by omega)]) | (rw [eq_comm, List.getElem?_eq_none (by omega)])
@[simp] theorem rng1_int (h1 : -4611686018427387904 ≤ i) (h2 : i < 4611686018427387904) : rng1 [.int i] = some (rangeL 0 i.toNat) := by
  have e : rng1 [.int i] = if bnd62 i then some (rangeL 0 i.toNat) else none := rfl
  rw [e, if_pos (by unfold bnd62; rw [Bool.and_eq_true]; exact ⟨decide_eq_true (by omega), decide_eq_true (by omega)⟩)]
@[simp] theorem rng2_int (h1 : -4611686018427387904 ≤ i) (h2 : i < 4611686018427387904) (h3 : -4611686018427387904 ≤ j) (h4 : j < 4611686018427387904) : rng2 [.int i, .int j] = some (rangeL i (j - i).toNat) := by
  have e : rng2 [.int i, .int j] = if bnd62 i && bnd62 j then some (rangeL i (j - i).toNat) else none := rfl
  rw [e, if_pos (by unfold bnd62; simp only [Bool.and_eq_true]; exact ⟨⟨decide_eq_true (by omega), decide_eq_true (by omega)⟩, decide_eq_true (by omega), decide_eq_true (by omega)⟩)]
/-! loops -/
@[simp] theorem loop_nil {is : List Nat} : loop g s is [] ρ = .nx ρ := id rfl
def lpK (o : Option DEnv) (k : DEnv → Fl) : Fl := match o with
  | none => .bad
  | some ρ => k ρ
@[simp] theorem lpK_s {k : DEnv → Fl} : lpK (some ρ) k = k ρ := id rfl
@[simp] theorem lpK_n {k : DEnv → Fl} : lpK none k = .bad := id rfl
def flp (x : Fl) (k e : DEnv → Fl) : Fl := match x with
  | .nx ρ => k ρ
  | .ct ρ => k ρ
  | .bk ρ => e ρ
  | .rt x ρ => .rt x ρ
  | .exc e ρ => .exc e ρ
  | .bad => .bad
@[simp] theorem flp_nx {k e : DEnv → Fl} : flp (.nx ρ) k e = k ρ := id rfl
@[simp] theorem flp_ct {k e : DEnv → Fl} : flp (.ct ρ) k e = k ρ := id rfl
@[simp] theorem flp_bk {k e : DEnv → Fl} : flp (.bk ρ) k e = e ρ := id rfl
@[simp] theorem flp_rt {k e : DEnv → Fl} : flp (.rt x ρ) k e = .rt x ρ := id rfl
@[simp] theorem flp_exc {k e : DEnv → Fl} {z : DExn} : flp (.exc z ρ) k e = .exc z ρ := id rfl
@[simp] theorem flp_bad {k e : DEnv → Fl} : flp .bad k e = .bad := id rfl
theorem loop_cons {is : List Nat} : loop g s is (d :: ds) ρ = lpK (g d ρ) fun ρ1 => flp (s ρ1) (fun ρ2 => loop g s is ds (forget is ρ2)) (fun ρ2 => .nx (forget is ρ2)) := by
  rw [loop]
  cases g d ρ with
  | none => rfl
  | some ρ1 =>
    rw [lpK_s]
    show (match s ρ1 with
      | .nx ρ2 => loop g s is ds (forget is ρ2)
      | .ct ρ2 => loop g s is ds (forget is ρ2)
      | .bk ρ2 => .nx (forget is ρ2)
      | .rt x ρ2 => .rt x ρ2
      | .exc e ρ2 => .exc e ρ2
      | .bad => Fl.bad) = _
    cases s ρ1 <;> rfl
/-- an invariant, told of what is left -/
theorem loop_inv {is : List Nat} (I : List D → DEnv → Prop) : ∀ (ds : List D) (ρ : DEnv), I ds ρ →
    (∀ d ds ρ, I (d :: ds) ρ → ∃ ρ1 ρ2, g d ρ = some ρ1 ∧ (s ρ1 = .nx ρ2 ∨ s ρ1 = .ct ρ2) ∧ I ds (forget is ρ2)) → ∃ ρ', loop g s is ds ρ = .nx ρ' ∧ I [] ρ'
  | [], ρ, h, _ => ⟨ρ, rfl, h⟩
  | d :: ds, ρ, h, k => by
    obtain ⟨ρ1, ρ2, e1, e2, h2⟩ := k d ds ρ h
    obtain ⟨ρ', e3, h3⟩ := loop_inv I ds (forget is ρ2) h2 k
    refine ⟨ρ', ?_, h3⟩
    rw [loop]
    simp only [e1]
    rcases e2 with e2 | e2 <;> simp only [e2, e3]
@[simp] theorem rangeL_0 : rangeL i 0 = [] := id rfl
theorem rangeL_s : rangeL i (n + 1) = .int i :: rangeL (i + 1) n := by
  unfold rangeL
  rw [List.range_succ_eq_map, List.map_cons, List.map_map]
  congr 1
  · simp
  · refine List.map_congr_left fun k _ => ?_
    simp; omega
/-- each turn leaves the state that the next one wants -/
theorem loop_fold {α : Type} {is : List Nat} (st : α → DEnv) (step : α → D → α) (P : α → Prop) : ∀ (ds : List D) (z : α), P z →
    (∀ z d, d ∈ ds → P z → P (step z d) ∧ ∃ ρ1 ρ2, g d (st z) = some ρ1 ∧ (s ρ1 = .nx ρ2 ∨ s ρ1 = .ct ρ2) ∧ forget is ρ2 = st (step z d)) → loop g s is ds (st z) = .nx (st (ds.foldl step z))
  | [], z, _, _ => rfl
  | d :: ds, z, hz, h => by
    obtain ⟨h1, ρ1, ρ2, e1, e2, e3⟩ := h z d List.mem_cons_self hz
    rw [List.foldl_cons, ← loop_fold st step P ds (step z d) h1 fun z' d' hd hz' => h z' d' (List.mem_cons_of_mem _ hd) hz']
    rw [loop]
    simp only [e1]
    rcases e2 with e2 | e2 <;> simp only [e2, e3]
theorem loop_same {is : List Nat} (ds : List D) (h : ∀ d, d ∈ ds → ∃ ρ1 ρ2, g d ρ = some ρ1 ∧ (s ρ1 = .nx ρ2 ∨ s ρ1 = .ct ρ2) ∧ forget is ρ2 = ρ) : loop g s is ds ρ = .nx ρ :=
  (loop_fold (α := Unit) (fun _ => ρ) (fun z _ => z) (fun _ => True) ds () trivial fun z d hd _ => ⟨trivial, h d hd⟩)
theorem loop_fold2 {α : Type} {is : List Nat} (st : α → DEnv) (step : α → D → α) (P : α → Prop) : ∀ (ds : List D) (z : α), P z →
    (∀ z d, d ∈ ds → P z → P (step z d) ∧ (lpK (g d (st z)) fun ρ1 => flp (s ρ1) (fun ρ2 => .nx (forget is ρ2)) fun _ => .bad) = .nx (st (step z d))) → loop g s is ds (st z) = .nx (st (ds.foldl step z))
  | [], z, _, _ => rfl
  | d :: ds, z, hz, h => by
    obtain ⟨h1, e⟩ := h z d List.mem_cons_self hz
    rw [List.foldl_cons, ← loop_fold2 st step P ds (step z d) h1 fun z' d' hd hz' => h z' d' (List.mem_cons_of_mem _ hd) hz']
    rw [loop_cons]
    cases e1 : g d (st z) with
    | none => rw [e1] at e; cases e
    | some ρ1 =>
      rw [e1] at e
      simp only [lpK_s] at e ⊢
      cases e2 : s ρ1 <;> rw [e2] at e <;> simp only [flp_nx, flp_ct, flp_bk, flp_rt, flp_exc, flp_bad, Fl.nx.injEq] at e ⊢
      all_goals first | exact Fl.noConfusion e | rw [e]
theorem loop_same2 {is : List Nat} (h : ∀ d, d ∈ ds → (lpK (g d ρ) fun ρ1 => flp (s ρ1) (fun ρ2 => .nx (forget is ρ2)) fun _ => .bad) = .nx ρ) : loop g s is ds ρ = .nx ρ :=
  (loop_fold2 (α := Unit) (fun _ => ρ) (fun z _ => z) (fun _ => True) ds () trivial fun z d hd _ => ⟨trivial, h d hd⟩)
theorem loop_reln {is : List Nat} (I : Nat → DEnv → Prop) : ∀ (ds : List D) (n : Nat) (ρ : DEnv), I n ρ → (∀ m d ρ, d ∈ ds → m < n + ds.length → I m ρ → ∃ ρ', (lpK (g d ρ) fun ρ1 => flp (s ρ1) (fun ρ2 => .nx (forget is ρ2)) fun _ => .bad) = .nx ρ' ∧ I (m + 1) ρ') → ∃ ρ', loop g s is ds ρ = .nx ρ' ∧ I (n + ds.length) ρ'
  | [], n, ρ, h, _ => ⟨ρ, rfl, h⟩
  | d :: ds, n, ρ, h, k => by
    obtain ⟨ρ1, e, h1⟩ := k n d ρ List.mem_cons_self (by simp) h
    obtain ⟨ρ2, e2, h2⟩ := loop_reln I ds (n + 1) ρ1 h1 fun m d' ρ' hd hm => k m d' ρ' (List.mem_cons_of_mem _ hd) (by simp only [List.length_cons]; omega)
    refine ⟨ρ2, ?_, by rw [List.length_cons, show n + (ds.length + 1) = n + 1 + ds.length by omega]; exact h2⟩
    rw [loop_cons, ← e2]
    cases e1 : g d ρ with
    | none => rw [e1] at e; cases e
    | some ρ3 =>
      rw [e1] at e
      simp only [lpK_s] at e ⊢
      cases e4 : s ρ3 <;> rw [e4] at e <;> simp only [flp_nx, flp_ct, flp_bk, flp_rt, flp_exc, flp_bad, Fl.nx.injEq] at e ⊢
      all_goals first | exact Fl.noConfusion e | rw [e]
theorem loop_rel {is : List Nat} (I : DEnv → Prop) (h0 : I ρ) (h : ∀ d ρ, d ∈ ds → I ρ → ∃ ρ', (lpK (g d ρ) fun ρ1 => flp (s ρ1) (fun ρ2 => .nx (forget is ρ2)) fun _ => .bad) = .nx ρ' ∧ I ρ') : ∃ ρ', loop g s is ds ρ = .nx ρ' ∧ I ρ' :=
  loop_reln (fun _ => I) ds 0 ρ h0 fun _ d ρ hd _ hI => h d ρ hd hI
/-- a walk that may end it -/
def endF (o : Option Val) (ρ ρ' : DEnv) : Fl := match o with
  | none => .nx ρ
  | some x => .rt x ρ'
@[simp] theorem endF_n {ρ ρ' : DEnv} : endF none ρ ρ' = .nx ρ := id rfl
@[simp] theorem endF_s {x : Val} {ρ ρ' : DEnv} : endF (some x) ρ ρ' = .rt x ρ' := id rfl
theorem loop_find {is : List Nat} (R : D → Option Val) : ∀ (ds : List D), (∀ d, d ∈ ds → ∃ ρ', (lpK (g d ρ) fun ρ1 => flp (s ρ1) (fun ρ2 => .nx (forget is ρ2)) fun _ => .bad) = endF (R d) ρ ρ') → ∃ ρ', loop g s is ds ρ = endF (ds.findSome? R) ρ ρ'
  | [], _ => ⟨ρ, rfl⟩
  | d :: ds, h => by
    obtain ⟨ρ1, e⟩ := h d List.mem_cons_self
    obtain ⟨ρ2, e2⟩ := loop_find R ds fun d' hd => h d' (List.mem_cons_of_mem _ hd)
    rw [loop_cons, List.findSome?_cons]
    cases e1 : g d ρ with
    | none => rw [e1] at e; cases hR : R d <;> rw [hR] at e <;> cases e
    | some ρ3 =>
      rw [e1] at e
      simp only [lpK_s] at e ⊢
      cases hR : R d with
      | none =>
        rw [hR] at e
        refine ⟨ρ2, ?_⟩
        cases e4 : s ρ3 <;> rw [e4] at e <;> simp only [flp_nx, flp_ct, flp_bk, flp_rt, flp_exc, flp_bad, endF_n, Fl.nx.injEq] at e ⊢
        all_goals first | exact Fl.noConfusion e | (rw [e]; exact e2)
      | some x =>
        rw [hR] at e
        refine ⟨ρ1, ?_⟩
        cases e4 : s ρ3 <;> rw [e4] at e <;> simp only [flp_nx, flp_ct, flp_bk, flp_rt, flp_exc, flp_bad, endF_s] at e ⊢
        all_goals first | exact Fl.noConfusion e | exact e
def RD (f : Nat → Option Val) : D → Option Val := fun d => match d with
  | .int i => f i.toNat
  | _ => none
theorem findSome_RD (f : Nat → Option Val) (n : Nat) : (rangeL 0 n).findSome? (RD f) = (List.range n).findSome? f := by
  unfold rangeL
  rw [List.findSome?_map]
  congr 1
  funext k
  show f ((0 : Int) + (k : Int)).toNat = f k
  congr 1
  omega
theorem loop_range {is : List Nat} {n : Nat} (f : Nat → Option Val) (h : ∀ k : Nat, k < n → ∃ ρ', (lpK (g (.int (k : Int)) ρ) fun ρ1 => flp (s ρ1) (fun ρ2 => .nx (forget is ρ2)) fun _ => .bad) = endF (f k) ρ ρ') : ∃ ρ', loop g s is (rangeL 0 n) ρ = endF ((List.range n).findSome? f) ρ ρ' := by
  rw [← findSome_RD]
  refine loop_find (RD f) _ fun d hd => ?_
  unfold rangeL at hd
  obtain ⟨k, hk, rfl⟩ := List.mem_map.mp hd
  rw [show (0 : Int) + (k : Int) = (k : Int) by omega]
  exact h k (List.mem_range.mp hk)
theorem comp_map {is : List Nat} (F : D → D) (hg : ∀ d, d ∈ ds → ∃ ρ1 ρ2, g d ρ = some ρ1 ∧ f ρ1 = .ok (.sh (F d)) ρ2 ∧ forget is ρ2 = ρ) : ∀ acc, comp g sYes f is ds acc ρ = .ok (.lst (acc ++ (ds.map F).map .sh)) ρ := by
  induction ds with
  | nil => intro acc; simp [comp]
  | cons d ds ih =>
    intro acc
    obtain ⟨ρ1, ρ2, e1, e2, e3⟩ := hg d List.mem_cons_self
    rw [comp]
    simp only [e1, sYes_ap, e2, e3]
    rw [ih fun d' hd => hg d' (List.mem_cons_of_mem _ hd)]
    simp
def lpR (o : Option DEnv) (k : DEnv → R Val) : R Val := match o with
  | none => .bad
  | some ρ => k ρ
@[simp] theorem lpR_s {k : DEnv → R Val} : lpR (some ρ) k = k ρ := id rfl
@[simp] theorem lpR_n {k : DEnv → R Val} : lpR none k = .bad := id rfl
theorem comp_mapA {α : Type} {is : List Nat} (φ F : α → D) : ∀ (l : List α) (acc : List Val), (∀ a, a ∈ l → (lpR (g (φ a) ρ) fun ρ1 => (f ρ1).bind fun x ρ2 => .ok x (forget is ρ2)) = .ok (.sh (F a)) ρ) → comp g sYes f is (l.map φ) acc ρ = .ok (.lst (acc ++ (l.map F).map .sh)) ρ
  | [], acc, _ => by simp [comp]
  | a :: l, acc, h => by
    have e := h a List.mem_cons_self
    have ih := comp_mapA φ F l (acc ++ [.sh (F a)]) fun b hb => h b (List.mem_cons_of_mem _ hb)
    rw [List.map_cons, comp]
    cases e1 : g (φ a) ρ with
    | none => rw [e1] at e; cases e
    | some ρ1 =>
      rw [e1] at e
      simp only [lpR_s] at e
      simp only [sYes_ap]
      cases e2 : f ρ1 with
      | bad => rw [e2] at e; cases e
      | exc _ _ => rw [e2] at e; cases e
      | ok x ρ2 =>
        rw [e2] at e
        simp only [R.bind_ok, R.ok.injEq] at e
        simp only [e.1, e.2]
        rw [ih]
        simp
theorem comp_filter {is : List Nat} (F : D → D) (p : D → Bool) (hg : ∀ d, d ∈ ds → ∃ ρ1 ρ2, g d ρ = some ρ1 ∧ t ρ1 = .ok (p d) ρ2 ∧ (p d = false → forget is ρ2 = ρ) ∧ (p d = true → ∃ ρ3, f ρ2 = .ok (.sh (F d)) ρ3 ∧ forget is ρ3 = ρ)) : ∀ acc, comp g t f is ds acc ρ = .ok (.lst (acc ++ ((ds.filter p).map F).map .sh)) ρ := by
  induction ds with
  | nil => intro acc; simp [comp]
  | cons d ds ih =>
    intro acc
    obtain ⟨ρ1, ρ2, e1, e2, e3, e4⟩ := hg d List.mem_cons_self
    have ih' := ih fun d' hd => hg d' (List.mem_cons_of_mem _ hd)
    rw [comp]
    simp only [e1, e2]
    cases hp : p d with
    | false => simp only [e3 hp]; rw [ih']; simp [hp]
    | true =>
      obtain ⟨ρ3, e5, e6⟩ := e4 hp
      simp only [e5, e6]
      rw [ih']; simp [hp]
end
@[simp] theorem env0_ap {n : Nat} {ds : List D} : env0 n ds = ds.map (fun d => some (.sh d)) ++ List.replicate (n - ds.length) none := id rfl
/-- the cell of a script -/
def cellI (ns : List Int) (k : Int) : Int := ns.getD k.toNat 0
theorem cellI_get {ns : List Int} {k : Int} (h : k < (ns.length : Int)) (h0 : 0 ≤ k) : ns[k.toNat]? = some (cellI ns k) := by
  unfold cellI
  rw [List.getD_eq_getElem?_getD, List.getElem?_eq_getElem (show k.toNat < ns.length by omega)]; rfl
theorem cellI_el {ns : List Int} {k : Int} (h : k.toNat < ns.length) : ns[k.toNat] = cellI ns k := by
  unfold cellI
  rw [List.getD_eq_getElem?_getD, List.getElem?_eq_getElem h]; rfl
theorem cellI_out {ns : List Int} {k : Int} (h : ¬ k < (ns.length : Int)) (h0 : 0 ≤ k) : cellI ns k = 0 := by
  unfold cellI
  rw [List.getD_eq_getElem?_getD, List.getElem?_eq_none (by omega)]; rfl
/-- a run of a script -/
def segI (ns : List Int) (i j : Nat) : List Int := (ns.take j).drop i
theorem segI_len (ns : List Int) (i j : Nat) : (segI ns i j).length ≤ ns.length := by
  unfold segI
  rw [List.length_drop, List.length_take]; omega
theorem segI_le (ns : List Int) (i j : Nat) : (segI ns i j).length ≤ j - i := by
  unfold segI
  rw [List.length_drop, List.length_take]; omega
theorem slD_scr {ns : List Int} {i j : Int} (h0 : 0 ≤ i) (h1 : 0 ≤ j) : slD (some i) (some j) (scrI ns) = some (.lst ((segI ns i.toNat j.toNat).map fun n => .sh (.int n))) := by
  unfold scrI segI
  rw [slD_s, cutD_ll h0 h1, ← List.map_take, ← List.map_drop, List.map_map]; rfl
theorem slD_scr_n {ns : List Int} {i : Int} (h0 : 0 ≤ i) : slD (some i) none (scrI ns) = some (.lst ((segI ns i.toNat ns.length).map fun n => .sh (.int n))) := by
  unfold scrI segI
  rw [slD_s, cutD_ln h0, List.take_length, ← List.map_drop, List.map_map]; rfl
@[simp] theorem fzs_mi {α : Type} {f : α → D} {l : List α} : fzs (l.map fun n => .sh (f n)) = l.map f := by
  induction l with
  | nil => rw [List.map_nil, fzs_nil]; rfl
  | cons a l ih => rw [List.map_cons, fzs_cons, ih, fz_sh]; rfl
@[simp] theorem fzs_mc {α : Type} {f : α → D} {l : List α} : fzs (l.map (Val.sh ∘ f)) = l.map f := fzs_mi
theorem mem_mapI {l : List Int} {d : D} (h : d ∈ l.map D.int) : ∃ n, d = .int n := by
  obtain ⟨n, _, rfl⟩ := List.mem_map.mp h
  exact ⟨n, rfl⟩
theorem while_done {α : Type} {t : DEnv → R Bool} {s : DEnv → Fl} {is : List Nat} (st : α → DEnv) (step : α → α) (c : α → Bool) (μ : α → Nat) (P : α → Prop) (ht : ∀ z, P z → t (st z) = .ok (c z) (st z))
    (hs : ∀ z, P z → c z = true → P (step z) ∧ μ (step z) < μ z ∧ flp (s (st z)) (fun ρ2 => .nx (forget is ρ2)) (fun _ => .bad) = .nx (st (step z))) (z : α) (ρ : DEnv) (h0 : forget is ρ = st z) (hz : P z) : ∃ z', P z' ∧ c z' = false ∧ sWhile t s is ρ = .nx (st z') := by
  have key : ∀ n z, μ z < n → P z → ∃ z', P z' ∧ c z' = false ∧ whileN t s is n (st z) = .nx (st z') := by
    intro n
    induction n with
    | zero => intro z h; omega
    | succ n ih =>
      intro z h hz
      rw [whileN]
      simp only [ht z hz]
      cases hc : c z with
      | false => exact ⟨z, hz, hc, rfl⟩
      | true =>
        obtain ⟨h1, h2, h3⟩ := hs z hz hc
        simp only
        obtain ⟨z', q1, q2, q3⟩ := ih (step z) (by omega) h1
        refine ⟨z', q1, q2, ?_⟩
        cases e2 : s (st z) <;> rw [e2] at h3 <;> simp only [flp_nx, flp_ct, flp_bk, flp_rt, flp_exc, flp_bad, Fl.nx.injEq] at h3 ⊢
        all_goals first | exact Fl.noConfusion h3 | (rw [h3]; exact q3)
  obtain ⟨z', q1, q2, q3⟩ := key (μ z + 1) z (by omega) hz
  refine ⟨z', q1, q2, ?_⟩
  rw [sWhile_eq (n := μ z + 1)] <;> rw [h0, q3]
  intro e; cases e
theorem gcd_fmod (a b : Int) : Int.gcd b (a.fmod b) = Int.gcd a b := by
  have h : a.fmod b = a - b * a.fdiv b := by have := Int.mul_fdiv_add_fmod a b; omega
  have h2 : a = (a.fmod b) + b * a.fdiv b := by omega
  rw [Int.gcd_comm a b]
  conv => rhs; rw [h2]
  rw [Int.gcd_add_mul_left_right]
theorem natAbs_fmod_lt (a b : Int) (h : b ≠ 0) : (a.fmod b).natAbs < b.natAbs := by
  rcases Int.lt_or_gt_of_ne h with h | h
  · have h1 := Int.emod_nonneg a (show b ≠ 0 by omega)
    have h2 := Int.emod_lt a (show b ≠ 0 by omega)
    rw [Int.fmod_eq_emod]
    split
    · omega
    · rename_i hd
      have h3 : a % b ≠ 0 := fun e => hd (.inr (Int.dvd_of_emod_eq_zero e))
      omega
  · have h1 := Int.fmod_nonneg_of_pos a h
    have h2 := Int.fmod_lt_of_pos a h
    omega
theorem euclid {t : DEnv → R Bool} {s : DEnv → Fl} {is : List Nat} (st : Int → Int → DEnv) (ht : ∀ a b, t (st a b) = .ok (decide (b ≠ 0)) (st a b))
    (hs : ∀ a b, b ≠ 0 → flp (s (st a b)) (fun ρ2 => .nx (forget is ρ2)) (fun _ => .bad) = .nx (st b (a.fmod b))) (a b : Int) (ρ : DEnv) (h0 : forget is ρ = st a b) : ∃ g : Int, g.natAbs = Int.gcd a b ∧ sWhile t s is ρ = .nx (st g 0) := by
  obtain ⟨⟨g, k⟩, h1, h2, h3⟩ := while_done (α := Int × Int) (t := t) (s := s) (is := is) (fun z => st z.1 z.2) (fun z => (z.2, z.1.fmod z.2)) (fun z => decide (z.2 ≠ 0)) (fun z => z.2.natAbs) (fun z => Int.gcd z.1 z.2 = Int.gcd a b) (fun z _ => ht z.1 z.2)
    (fun z hz hc => ⟨by rw [← hz]; exact gcd_fmod _ _, natAbs_fmod_lt _ _ (by simpa using hc), hs z.1 z.2 (by simpa using hc)⟩) (a, b) ρ h0 rfl
  have hk : k = 0 := by simpa using h2
  subst hk
  refine ⟨g, ?_, h3⟩
  rw [← h1]; simp
@[simp] theorem sSigns_ap {f : DEnv → R Val} {ρ : DEnv} : sSigns f ρ = (f ρ).bind fun x ρ1 => liftL (signsD x.fz) ρ1 := id rfl
@[simp] theorem signsD_s {z : Str} : signsD (.str z) = some (signsL z) := id rfl
@[simp] theorem sJoin_ap {fa fb : DEnv → R Val} {ρ : DEnv} : sJoin fa fb ρ = (fa ρ).bind fun x ρ1 => joinK x.fz fun a => (fb ρ1).bind fun y ρ2 => liftO (joinD a y.fz) ρ2 := id rfl
@[simp] theorem joinK_s {z : Str} {k : Str → R Val} : joinK (.str z) k = k z := id rfl
theorem repS_ok {a : Str} {k : Int} (h : CRepS a k) : repS (.str a) (.int k) = some (.sh (.str (Txt.mul a k))) := by
  have e : repS (.str a) (.int k) = if CRepS a k then some (.sh (.str (Txt.mul a k))) else none := rfl
  rw [e, if_pos h]
theorem dStrs_map (l : List Str) : dStrs (l.map .str) = some l := by
  induction l with
  | nil => rfl
  | cons a l ih => rw [List.map_cons, dStrs, ih]; rfl
theorem joinD_map {a : Str} {l : List Str} (h : (l.map (·.length)).sum + l.length * a.length ≤ 10000000) : joinD a (.lst (l.map .str)) = some (.sh (.str (Txt.join a l))) := by
  show (dStrs (l.map .str)).bind _ = _
  rw [dStrs_map]
  show (if _ then _ else _) = _
  rw [if_pos h]
theorem lenD_str {z : Str} (h : z.length ≤ 10000000) : lenD (.str z) = some (.sh (.int z.length)) := by
  have e : lenD (.str z) = if z.length ≤ 10000000 then some (.sh (.int z.length)) else none := rfl
  rw [e, if_pos h]
theorem addD_str {a b : Str} (h : a.length + b.length ≤ 10000000) : addD (.str a) (.str b) = some (.sh (.str (a ++ b))) := by
  have e : addD (.str a) (.str b) = match (if a.length + b.length ≤ 10000000 then some (Val.sh (.str (a ++ b))) else none) with | some x => some x | none => none := rfl
  rw [e, if_pos h]
@[simp] theorem sTake_ap {n : Nat} {ρ : DEnv} : sTake n ρ = takeR (getV ρ[n]?) n ρ := id rfl
@[simp] theorem takeR_s {x : Val} {n : Nat} {ρ : DEnv} : takeR (some x) n ρ = .ok x (ρ.set n none) := id rfl
@[simp] theorem sLendT_ap {f : DEnv → R Bool} {ρ : DEnv} : sLendT f ρ = lendT (f (ρ.map frO)) ρ := id rfl
@[simp] theorem lendT_ok {b : Bool} {ρ ρ1 : DEnv} : lendT (.ok b ρ1) ρ = .ok b ρ := id rfl
def appIxO (o : Option Val) (k : Fl) : Fl := match o with
  | none => .bad
  | some _ => k
@[simp] theorem appIxO_s {x : Val} {k : Fl} : appIxO (some x) k = k := id rfl
@[simp] theorem sAppIx_ap {n : Nat} {fk : DEnv → R Val} {d : D} {ρ : DEnv} : sAppIx n fk d ρ = appIxO (getV ρ[n]?) ((fk ρ).fl fun y ρ1 => appIxV (getV ρ1[n]?) n y.fz d ρ1) := by
  unfold sAppIx appIxO
  cases getV ρ[n]? <;> rfl
theorem appIxV_t {ys ys' : List Val} {n : Nat} {i : Int} {d : D} {ρ : DEnv} (h : appIn ys i d = some ys') : appIxV (some (.tup ys)) n (.int i) d ρ = .nx (ρ.set n (some (.tup ys'))) := by
  unfold appIxV
  simp only [h]
theorem appIxV_l {ys ys' : List Val} {n : Nat} {i : Int} {d : D} {ρ : DEnv} (h : appIn ys i d = some ys') : appIxV (some (.lst ys)) n (.int i) d ρ = .nx (ρ.set n (some (.lst ys'))) := by
  unfold appIxV
  simp only [h]
@[simp] theorem revD_l {ds : List D} : revD (.lst ds) = some (.lst (ds.reverse.map .sh)) := id rfl
@[simp] theorem sLend_ap {f : DEnv → R Val} {ρ : DEnv} : sLend f ρ = lendR (f (ρ.map frO)) ρ := id rfl
@[simp] theorem frO_n : frO none = none := id rfl
@[simp] theorem frO_s {x : Val} : frO (some x) = some (.sh x.fz) := id rfl
@[simp] theorem lendR_i {i : Int} {ρ ρ1 : DEnv} : lendR (.ok (.sh (.int i)) ρ1) ρ = .ok (.sh (.int i)) ρ := id rfl
@[simp] theorem lendR_b {i : Bool} {ρ ρ1 : DEnv} : lendR (.ok (.sh (.bl i)) ρ1) ρ = .ok (.sh (.bl i)) ρ := id rfl
@[simp] theorem lendR_s {i : Str} {ρ ρ1 : DEnv} : lendR (.ok (.sh (.str i)) ρ1) ρ = .ok (.sh (.str i)) ρ := id rfl
@[simp] theorem lendR_n {ρ ρ1 : DEnv} : lendR (.ok (.sh .non) ρ1) ρ = .ok (.sh .non) ρ := id rfl
theorem orC_1 {g h : List D → Option Val} {ds : List D} {x : Val} (e : g ds = some x) : orC g h ds = some x := by
  unfold orC; rw [e]
theorem orC_2 {g h : List D → Option Val} {ds : List D} (e : g ds = none) : orC g h ds = h ds := by
  unfold orC; rw [e]
theorem dInts_map (l : List Int) : dInts (l.map .int) = some l := by
  induction l with
  | nil => rfl
  | cons a l ih => rw [List.map_cons, dInts, ih]; rfl
theorem maxL_map {h : List D → Option Val} {l : List Int} (h0 : 0 < l.length) : orC (g1 maxD) h [.lst (l.map .int)] = some (.sh (.int (maxI l))) := by
  refine orC_1 ?_
  show (dInts (l.map .int)).bind _ = _
  rw [dInts_map]
  show (if 0 < l.length then _ else _) = _
  rw [if_pos h0]
theorem maxI_ge : ∀ {l : List Int} {y : Int}, y ∈ l → y ≤ maxI l
  | a :: l, y, h => by
    obtain ⟨_, h2, h3⟩ := foldl_max_mem l a
    show y ≤ l.foldl max a
    rcases List.mem_cons.mp h with e | h
    · omega
    · exact h3 y h
theorem maxI_mem : ∀ {l : List Int}, l ≠ [] → maxI l ∈ l
  | [], h => absurd rfl h
  | a :: l, _ => by
    obtain ⟨h1, _, _⟩ := foldl_max_mem l a
    show l.foldl max a ∈ a :: l
    rcases h1 with e | h1
    · rw [e]; exact List.mem_cons_self
    · exact List.mem_cons_of_mem _ h1
theorem minL_map {h : List D → Option Val} {l : List Int} (h0 : 0 < l.length) : orC (g1 minD) h [.lst (l.map .int)] = some (.sh (.int (minI l))) := by
  refine orC_1 ?_
  show (dInts (l.map .int)).bind _ = _
  rw [dInts_map]
  show (if 0 < l.length then _ else _) = _
  rw [if_pos h0]
@[simp] theorem minT3 {i j k : Int} : orC (g1 minD) (g1 minTD) [.tup [.int i, .int j, .int k]] = some (.sh (.int (min i (min j k)))) := by rw [← Int.min_assoc]; rfl
@[simp] theorem maxT3 {i j k : Int} : orC (g1 maxD) (g1 maxTD) [.tup [.int i, .int j, .int k]] = some (.sh (.int (max i (max j k)))) := by rw [← Int.max_assoc]; rfl
theorem sumL_map {l : List Int} : sumD (.lst (l.map .int)) = some (.sh (.int l.sum)) := by
  show (dInts (l.map .int)).bind _ = _
  rw [dInts_map]; rfl
theorem dBls_map (l : List Bool) : dBls (l.map .bl) = some l := by
  induction l with
  | nil => rfl
  | cons a l ih => rw [List.map_cons, dBls, ih]; rfl
theorem allL_map {l : List Bool} : allD (.lst (l.map .bl)) = some (.sh (.bl (l.all fun b => b))) := by
  show (dBls (l.map .bl)).bind _ = _
  rw [dBls_map]; rfl
theorem anyL_map {l : List Bool} : anyD (.lst (l.map .bl)) = some (.sh (.bl (l.any fun b => b))) := by
  show (dBls (l.map .bl)).bind _ = _
  rw [dBls_map]; rfl
@[simp] theorem lenD_scr {ns : List Int} : lenD (scrI ns) = some (.sh (.int ns.length)) := by unfold scrI; simp
theorem ixD_scr {ns : List Int} {k : Int} (h : 0 ≤ k) (h1 : k < (ns.length : Int)) : ixD (scrI ns) (.int k) = some (.sh (.int (cellI ns k))) := by
  unfold scrI
  rw [ixD_s h, List.getElem?_map, cellI_get h1 h]; rfl
theorem euclid_nn {t : DEnv → R Bool} {s : DEnv → Fl} {is : List Nat} (st : Int → Int → DEnv) (ht : ∀ a b, t (st a b) = .ok (decide (b ≠ 0)) (st a b))
    (hs : ∀ a b, b ≠ 0 → flp (s (st a b)) (fun ρ2 => .nx (forget is ρ2)) (fun _ => .bad) = .nx (st b (a.fmod b))) (a b : Int) (ρ : DEnv) (h0 : forget is ρ = st a b) (ha : 0 ≤ a) (hb : 0 ≤ b) : sWhile t s is ρ = .nx (st (Int.gcd a b) 0) := by
  obtain ⟨⟨g, k⟩, ⟨h1, h4, h5⟩, h2, h3⟩ := while_done (α := Int × Int) (t := t) (s := s) (is := is) (fun z => st z.1 z.2) (fun z => (z.2, z.1.fmod z.2)) (fun z => decide (z.2 ≠ 0)) (fun z => z.2.natAbs) (fun z => Int.gcd z.1 z.2 = Int.gcd a b ∧ 0 ≤ z.1 ∧ 0 ≤ z.2) (fun z _ => ht z.1 z.2)
    (fun z hz hc => ⟨⟨by rw [← hz.1]; exact gcd_fmod _ _, hz.2.2, Int.fmod_nonneg hz.2.1 hz.2.2⟩, natAbs_fmod_lt _ _ (by simpa using hc), hs z.1 z.2 (by simpa using hc)⟩) (a, b) ρ h0 ⟨rfl, ha, hb⟩
  have hk : k = 0 := by simpa using h2
  subst hk
  have e : g = (Int.gcd a b : Int) := by
    simp at h1 h4
    omega
  rw [h3, e]
theorem mem_rangeC' {i j c : Int} (hc : 0 < c) {d : D} (h : d ∈ rangeC i c (Builtin.Range.rangeSize i j c).toNat) : ∃ x : Int, d = .int x ∧ i ≤ x ∧ x < j := by
  unfold rangeC at h
  simp only [List.mem_map, List.mem_range] at h
  obtain ⟨k, h, rfl⟩ := h
  unfold Builtin.Range.rangeSize at h
  rw [if_pos hc] at h
  split at h
  · have h1 : (k : Int) ≤ (j - i - 1) / c := by omega
    have h2 : (k : Int) * c ≤ (j - i - 1) / c * c := Int.mul_le_mul_of_nonneg_right h1 (by omega)
    have h3 := Int.ediv_mul_le (j - i - 1) (show c ≠ 0 by omega)
    have h4 : 0 ≤ (k : Int) * c := Int.mul_nonneg (by omega) (by omega)
    exact ⟨_, rfl, by omega, by omega⟩
  · omega
theorem rangeC_len {i c : Int} {n : Nat} : (rangeC i c n).length = n := by simp [rangeC]
theorem mem_rangeC {i c : Int} {n : Nat} {d : D} : d ∈ rangeC i c n ↔ ∃ k : Nat, k < n ∧ d = .int (i + k * c) := by
  unfold rangeC
  simp only [List.mem_map, List.mem_range]
  exact ⟨fun ⟨k, h, e⟩ => ⟨k, h, e.symm⟩, fun ⟨k, h, e⟩ => ⟨k, h, e.symm⟩⟩
theorem rng3_int {i j c : Int} (h : rngOk i j c) : rng3 [.int i, .int j, .int c] = some (rangeC i c (Builtin.Range.rangeSize i j c).toNat) := by
  have e : rng3 [.int i, .int j, .int c] = if rngOk i j c then some (rangeC i c (Builtin.Range.rangeSize i j c).toNat) else none := rfl
  rw [e, if_pos h]
theorem mem_rangeL {i : Int} {n : Nat} {d : D} : d ∈ rangeL i n ↔ ∃ k : Nat, k < n ∧ d = .int (i + k) := by
  unfold rangeL
  simp only [List.mem_map, List.mem_range]
  exact ⟨fun ⟨k, h, e⟩ => ⟨k, h, e.symm⟩, fun ⟨k, h, e⟩ => ⟨k, h, e.symm⟩⟩
/-! instances -/
def mtR (r : R Val) (k : Val → DEnv → R Val) : R Val := match r with
  | .ok x ρ => k x ρ
  | _ => .bad
@[simp] theorem mtR_ok {x : Val} {ρ : DEnv} {k : Val → DEnv → R Val} : mtR (.ok x ρ) k = k x ρ := id rfl
def mtO (o : Option (List D → CR)) (k : (List D → CR) → R Val) : R Val := match o with
  | some φ => k φ
  | none => .bad
@[simp] theorem mtO_s {φ : List D → CR} {k : (List D → CR) → R Val} : mtO (some φ) k = k φ := id rfl
@[simp] theorem sMeth_ap {tab : List (Addr × (List D → CR))} {m : Str} {n : Nat} {fo : DEnv → R Val} {fs : DEnv → R (List Val)} {ρ : DEnv} : sMeth tab m n fo fs ρ = mtR (fo ρ) fun x ρ1 => mtO (methD tab m x.fz) fun φ => (fs ρ1).bind fun ys ρ2 => if ys.length + 1 = n then crM (φ (x.fz :: fzs ys)) ρ2 else .bad := id rfl
@[simp] theorem crM_r {y : Val} {ρ : DEnv} : crM (.ret y) ρ = .ok y ρ := id rfl
theorem methD_ins {tab : List (Addr × (List D → CR))} {m : Str} {C : Addr} {ns : List Str} {ds : List D} : methD tab m (.ins C ns ds) = if m ∈ ns then none else tab.lookup C := id rfl
theorem fldD_ins {Cs : List Addr} {f : Str} {C : Addr} {ns : List Str} {ds : List D} : fldD Cs f (.ins C ns ds) = if C ∈ Cs then ((ns.zip ds).lookup f).map .sh else none := id rfl
@[simp] theorem sMake_ap {C : Addr} {φ : List D → Option (List Str × List D)} {n : Nat} {fs : DEnv → R (List Val)} {ρ : DEnv} : sMake C φ n fs ρ = (fs ρ).bind fun ys ρ1 => if ys.length = n then liftO ((φ (fzs ys)).map fun p => .sh (.ins C p.1 p.2)) ρ1 else .bad := id rfl
def runK (r : R Val) (k : Val → DEnv → Option (List Str × List D)) : Option (List Str × List D) := match r with
  | .ok y ρ => k y ρ
  | _ => none
@[simp] theorem runK_ok {x : Val} {ρ : DEnv} {k : Val → DEnv → Option (List Str × List D)} : runK (.ok x ρ) k = k x ρ := id rfl
theorem runInit_cons {f : Str} {fe : DEnv → R Val} {r : List (Str × (DEnv → R Val))} {ρ : DEnv} {ns : List Str} {ds : List D} : runInit ((f, fe) :: r) ρ ns ds = if f ∈ ns then none else runK (fe ρ) fun y ρ1 => runInit r ρ1 (ns ++ [f]) (ds ++ [y.fz]) := id rfl
theorem runInit_nil {ρ : DEnv} {ns : List Str} {ds : List D} : runInit [] ρ ns ds = some (ns, ds) := id rfl
theorem isiC_ins {tab : List (Addr × Bool)} {C : Addr} {ns : List Str} {ds : List D} : isiC tab (.ins C ns ds) = (tab.lookup C).map fun b => .sh (.bl b) := id rfl
theorem loop_turn {g : D → DEnv → Option DEnv} {t : DEnv → Fl} {is : List Nat} {d : D} {ds : List D} {ρ ρ' : DEnv} (h : (lpK (g d ρ) fun ρ1 => flp (t ρ1) (fun ρ2 => .nx (forget is ρ2)) fun _ => .bad) = .nx ρ') : loop g t is (d :: ds) ρ = loop g t is ds ρ' := by
  rw [loop_cons]
  cases e : g d ρ with
  | none => rw [e] at h; cases h
  | some ρ1 =>
    rw [e] at h
    rw [lpK_s] at h ⊢
    cases e2 : t ρ1 with
    | nx ρ2 => rw [e2] at h; rw [flp_nx] at h ⊢; cases h; rfl
    | ct ρ2 => rw [e2] at h; rw [flp_ct] at h ⊢; cases h; rfl
    | bk ρ2 => rw [e2] at h; cases h
    | rt x ρ2 => rw [e2] at h; cases h
    | exc x ρ2 => rw [e2] at h; cases h
    | bad => rw [e2] at h; cases h
section
variable {g : D → DEnv → Option DEnv} {t : DEnv → R Bool} {f : DEnv → R Val} {ρ : DEnv}
theorem comp_filA {α : Type} {is : List Nat} (φ F : α → D) (p : α → Bool) : ∀ (l : List α) (acc : List Val), (∀ a, a ∈ l → ∃ ρ1 ρ2, g (φ a) ρ = some ρ1 ∧ t ρ1 = .ok (p a) ρ2 ∧ (p a = false → forget is ρ2 = ρ) ∧ (p a = true → ∃ ρ3, f ρ2 = .ok (.sh (F a)) ρ3 ∧ forget is ρ3 = ρ)) → comp g t f is (l.map φ) acc ρ = .ok (.lst (acc ++ ((l.filter p).map F).map .sh)) ρ
  | [], acc, _ => by simp [comp]
  | a :: l, acc, h => by
    obtain ⟨ρ1, ρ2, e1, e2, e3, e4⟩ := h a List.mem_cons_self
    rw [List.map_cons, comp]
    simp only [e1, e2]
    cases hp : p a with
    | false =>
      simp only [e3 hp]
      rw [comp_filA φ F p l acc fun b hb => h b (List.mem_cons_of_mem _ hb)]
      simp [hp]
    | true =>
      obtain ⟨ρ3, e5, e6⟩ := e4 hp
      simp only [e5, e6]
      rw [comp_filA φ F p l _ fun b hb => h b (List.mem_cons_of_mem _ hb)]
      simp [hp]
end
@[simp] theorem g3_int {i j k : Int} : g3 max3D [.int i, .int j, .int k] = some (.sh (.int (max i (max j k)))) := id rfl
def clrV (o : Option Val) (n : Nat) (ρ : DEnv) : Fl := match o with
  | some (.lst _) => .nx (ρ.set n (some (.lst [])))
  | _ => .bad
@[simp] theorem sClear_ap {n : Nat} {ρ : DEnv} : sClear n ρ = clrV (getV ρ[n]?) n ρ := id rfl
@[simp] theorem clrV_l {xs : List Val} {n : Nat} {ρ : DEnv} : clrV (some (.lst xs)) n ρ = .nx (ρ.set n (some (.lst []))) := id rfl
@[simp] theorem maxT2 {i j : Int} : orC (g1 maxD) (g1 maxTD) [.tup [.int i, .int j]] = some (.sh (.int (max i j))) := rfl
/-! paths -/
def pthF (o : Option Val) (i : Nat) (ρ : DEnv) : Fl := match o with
  | some x => .nx (ρ.set i (some x))
  | none => .bad
@[simp] theorem pthF_s {x : Val} {i : Nat} {ρ : DEnv} : pthF (some x) i ρ = .nx (ρ.set i (some x)) := id rfl
@[simp] theorem sClrP_ap {i : Nat} {js : List Int} {ρ : DEnv} : sClrP i js ρ = pthF ((getV ρ[i]?).bind (editA clrE js)) i ρ := by
  unfold sClrP
  cases e : getV ρ[i]? with
  | none => rfl
  | some x =>
    show (match editA clrE js x with
      | some x' => Fl.nx (ρ.set i (some x'))
      | none => .bad) = pthF (editA clrE js x) i ρ
    cases editA clrE js x <;> rfl
@[simp] theorem sAppP_ap {i : Nat} {js : List Int} {fy : DEnv → Option Val} {ρ : DEnv} : sAppP i js fy ρ = pthF ((getV ρ[i]?).bind fun x => (fy (ρ.set i none)).bind fun y => editA (appE y) js x) i ρ := by
  unfold sAppP
  cases e : getV ρ[i]? with
  | none => rfl
  | some x =>
    show (match fy (ρ.set i none) with
      | none => Fl.bad
      | some y => match editA (appE y) js x with
        | some x' => Fl.nx (ρ.set i (some x'))
        | none => .bad) = pthF ((fy (ρ.set i none)).bind fun y => editA (appE y) js x) i ρ
    cases e2 : fy (ρ.set i none) with
    | none => rfl
    | some y =>
      show (match editA (appE y) js x with
        | some x' => Fl.nx (ρ.set i (some x'))
        | none => .bad) = pthF (editA (appE y) js x) i ρ
      cases editA (appE y) js x <;> rfl
@[simp] theorem yC_ap {d : D} {ρ : DEnv} : yC d ρ = some (.sh d) := id rfl
@[simp] theorem yNl_ap {ρ : DEnv} : yNl ρ = some (.lst []) := id rfl
def yIxO (o : Option Val) (n : Int) : Option Val := match o with
  | some (.sh (.lst ds)) => ((ixN ds.length n).bind fun k => ds[k]?).map .sh
  | some (.lst ys) => (ixN ys.length n).bind fun k => shV1 ys[k]?
  | _ => none
@[simp] theorem yIx_ap {j : Nat} {n : Int} {ρ : DEnv} : yIx j n ρ = yIxO (getV ρ[j]?) n := id rfl
@[simp] theorem yIxO_sh {ds : List D} {n : Int} : yIxO (some (.sh (.lst ds))) n = ((ixN ds.length n).bind fun k => ds[k]?).map .sh := id rfl
@[simp] theorem yIxO_l {ys : List Val} {n : Int} : yIxO (some (.lst ys)) n = (ixN ys.length n).bind fun k => shV1 ys[k]? := id rfl
@[simp] theorem shV1_s {d : D} : shV1 (some (.sh d)) = some (.sh d) := id rfl
end DL

/-! DLt: reckoning with what stands in DLp and behind. -/
namespace DL
open PySem PySem.Spec L2
section
variable {fs : DEnv → R (List Val)} {fe : DEnv → R Val} {ρ : DEnv} {n : Nat} {φ : List D → CR} {dd xs ys : List D}
@[simp] theorem sCallD_ap : sCallD φ n dd fs ρ = (fs ρ).bind fun ys ρ1 => if ys.length + dd.length = n then crR (φ (fzs ys ++ dd)) ρ1 else .bad := id rfl
@[simp] theorem sCallK_ap : sCallK φ n fs fe ρ = (fs ρ).bind fun ys ρ1 => (fe ρ1).bind fun x ρ2 => if ys.length + 1 = n then crM (φ (fzs (ys ++ [x]))) ρ2 else .bad := id rfl
@[simp] theorem sZip_ap : sZip fs ρ = (fs ρ).bind fun xs ρ1 => liftL (zipD (fzs xs)) ρ1 := id rfl
@[simp] theorem sEnumerate_ap : sEnumerate fs ρ = (fs ρ).bind fun xs ρ1 => liftL (enumD (fzs xs)) ρ1 := id rfl
@[simp] theorem zipD_ll : zipD [.lst xs, .lst ys] = some (zipL xs ys) := id rfl
@[simp] theorem enumD_l : enumD [.lst xs] = some (enumL xs) := id rfl
@[simp] theorem ltTD_2 {i j k l : Int} : ltTD (.tup [.int i, .int j]) (.tup [.int k, .int l]) = some (.sh (.bl (if i = k then decide (j < l) else decide (i < k)))) := by
  have e : ltTD (.tup [.int i, .int j]) (.tup [.int k, .int l]) = some (.sh (.bl (HT.lexLt [i, j] [k, l]))) := rfl
  rw [e, HT.lexLt_cons, HT.lexLt_cons, HT.lexLt_nil_nil]
  by_cases h : i = k
  · rw [if_pos h, if_pos h]
    by_cases h2 : j = l
    · rw [if_pos h2, decide_eq_false (by omega)]
    · rw [if_neg h2]
  · rw [if_neg h, if_neg h]
end
theorem loop_one {g : D → DEnv → Option DEnv} {s : DEnv → Fl} {is : List Nat} {d : D} {ds : List D} {ρ ρ' : DEnv} (h : (lpK (g d ρ) fun ρ1 => flp (s ρ1) (fun ρ2 => .nx (forget is ρ2)) fun _ => .bad) = .nx ρ') : loop g s is (d :: ds) ρ = loop g s is ds ρ' := by
  rw [loop]
  cases e : g d ρ with
  | none => rw [e] at h; cases h
  | some ρ1 =>
    rw [e] at h
    have h : flp (s ρ1) (fun ρ2 => .nx (forget is ρ2)) (fun _ => .bad) = .nx ρ' := h
    cases e2 : s ρ1 with
    | nx ρ2 => rw [e2] at h; cases h; simp only [e2]
    | ct ρ2 => rw [e2] at h; cases h; simp only [e2]
    | bk ρ2 => rw [e2] at h; cases h
    | rt x ρ2 => rw [e2] at h; cases h
    | exc x ρ2 => rw [e2] at h; cases h
    | bad => rw [e2] at h; cases h
theorem comp_mapV {α : Type} {g : D → DEnv → Option DEnv} {f : DEnv → R Val} {ρ : DEnv} {is : List Nat} (φ : α → D) (F : α → Val) : ∀ (l : List α) (acc : List Val), (∀ a, a ∈ l → (lpR (g (φ a) ρ) fun ρ1 => (f ρ1).bind fun x ρ2 => .ok x (forget is ρ2)) = .ok (F a) ρ) → comp g sYes f is (l.map φ) acc ρ = .ok (.lst (acc ++ l.map F)) ρ
  | [], acc, _ => by simp [comp]
  | a :: l, acc, h => by
    have e := h a List.mem_cons_self
    have ih := comp_mapV φ F l (acc ++ [F a]) fun b hb => h b (List.mem_cons_of_mem _ hb)
    rw [List.map_cons, comp]
    cases e1 : g (φ a) ρ with
    | none => rw [e1] at e; cases e
    | some ρ1 =>
      rw [e1] at e
      simp only [lpR_s] at e
      simp only [sYes_ap]
      cases e2 : f ρ1 with
      | bad => rw [e2] at e; cases e
      | exc _ _ => rw [e2] at e; cases e
      | ok x ρ2 =>
        rw [e2] at e
        simp only [R.bind_ok, R.ok.injEq] at e
        simp only [e.1, e.2]
        rw [ih]
        simp
end DL

/-! DLx: what is changed later is lent, under a lock, to an expression that makes a value of its own. -/
namespace DL
open PySem PySem.Spec L2
mutual
/-- as it is seen while it is locked -/
def Val.lk : Val → D
  | .sh d => d
  | .lst xs => .scr (lks xs)
  | .tup xs => .tup (lks xs)
  | .dic _ _ => .junk
  | .obj _ _ _ => .junk
  | .at _ x => x.lk
  | .dcv _ _ => .junk
def lks : List Val → List D
  | [] => []
  | x :: xs => x.lk :: lks xs
end
mutual
/-- nothing locked hangs on it -/
def D.cln : D → Bool
  | .non => true
  | .bl _ => true
  | .int _ => true
  | .str _ => true
  | .tup ds => clns ds
  | .lst ds => clns ds
  | .scr _ => false
  | .ins _ _ ds => clns ds
  | .junk => false
  | .exn _ _ _ ds => clns ds
  | .dct _ _ => false
def clns : List D → Bool
  | [] => true
  | d :: ds => d.cln && clns ds
end
mutual
def Val.cln : Val → Bool
  | .sh d => d.cln
  | .lst xs => vclns xs
  | .tup xs => vclns xs
  | .dic _ _ => false
  | .obj _ _ _ => false
  | .at _ x => x.cln
  | .dcv _ _ => false
def vclns : List Val → Bool
  | [] => true
  | x :: xs => x.cln && vclns xs
end
def Val.inner : Val → Bool
  | .lst _ => true
  | .tup _ => true
  | .at _ x => x.inner
  | _ => false
mutual
/-- a list hangs on each tuple of one's own -/
def Val.deep : Val → Bool
  | .sh _ => true
  | .dic _ _ => true
  | .lst xs => deeps xs
  | .tup xs => deeps xs && xs.any Val.inner
  | .obj _ _ _ => true
  | .at _ x => x.deep
  | .dcv _ _ => false
def deeps : List Val → Bool
  | [] => true
  | x :: xs => x.deep && deeps xs
end
def isLT : Option HO → Bool
  | some (.lst _) => true
  | some (.tup _) => true
  | _ => false
/-- what the written part says of tracked lists and tuples -/
def KFar (K : PySem.W.Frag) (H : Hp) : Prop := (∀ b vs us, H b = some (.lst vs) → ¬ KTup K b us) ∧ ∀ b vs us, H b = some (.tup vs) → KTup K b us → ∀ (j : Nat) (c : Addr), vs[j]? = some (.ref c) → us[j]? = some (.ref c)
theorem relV_ref {x : V} {c : Addr} (r : RelV x (.ref c)) : x = .ref c := by
  cases x with
  | ref a => cases (show Value.ref c = Value.ref a from r); rfl
  | non => cases (show Value.ref c = Value.none from r)
  | bl b => cases (show Value.ref c = Value.bool b from r)
  | int i => obtain ⟨t, e⟩ := (show ∃ t, Value.ref c = Value.int i t from r); cases e
  | str z => obtain ⟨t, e⟩ := (show ∃ t, Value.ref c = Value.str z t from r); cases e
  | byt z => obtain ⟨t, e⟩ := (show ∃ t, Value.ref c = Value.bytes z t from r); cases e
  | flt z => obtain ⟨t, e⟩ := (show ∃ t, Value.ref c = Value.float z t from r); cases e
  | ty z => cases (show Value.ref c = Value.type z from r)
theorem vals_refAt : ∀ {vs us : List V} {its : List Value} {j : Nat} {c : Addr}, Vals vs its → Vals us its → vs[j]? = some (.ref c) → us[j]? = some (.ref c)
  | _, _, _, _, _, .nil, .nil, h => h
  | _, _, _, 0, c, .cons r _, .cons q _, h => by
    simp at h
    subst h
    cases r
    rw [relV_ref q]; rfl
  | _, _, _, j + 1, c, .cons _ r, .cons _ q, h => by
    have := vals_refAt (j := j) (c := c) r q (by simpa using h)
    simpa using this
theorem kfar_of {X : Cx} {pins : List (Addr × Obj)} {σ : L2.St} {H : Hp} {s : Shared} (I : Inv X pins σ H s) : KFar X.K H := by
  refine ⟨fun b vs us hb => ?_, fun b vs us hb => ?_⟩
  · rintro ⟨o, its, n, h1, h2, h3, h4, h5⟩
    obtain ⟨_, is, m, r, e⟩ := (show ObjOk X.prog X.w H s.heap b (.lst vs) from I.hok b _ hb)
    have e2 := I.kIn b o h1
    rw [e] at e2
    have e3 := Option.some.inj e2
    rw [← e3] at h2
    have e4 := Value.type.inj h2
    exact absurd e4 (by decide)
  · rintro ⟨o, its, n, h1, h2, h3, h4, h5⟩ j c hj
    obtain ⟨_, is, r, o2, e, _, m, e3⟩ := (show ObjOk X.prog X.w H s.heap b (.tup vs) from I.hok b _ hb)
    have e2 := I.kIn b o h1
    rw [e] at e2
    cases e2
    rw [h3] at e3
    cases e3
    exact vals_refAt r (by simpa using h5) hj
/-- the lists L of H are locked in H1 -/
def LkOf (L : List Addr) (H H1 : Hp) : Prop := (∀ b, b ∉ L → H1 b = H b) ∧ ∀ b ∈ L, ∃ o u, H b = some u ∧ H1 b = some (.frz o u)
def unl (L : List Addr) (H H' : Hp) : Hp := fun b => if b ∈ L then H b else H' b
def tLks : List Addr → TE → TE
  | [], t => t
  | _ :: L, t => tLockE (tLks L t)
theorem pe_lks {X : Cx} {e : Expr} {t : TE} (h : PE X e t) : ∀ L, PE X e (tLks L t)
  | [] => h
  | _ :: L => pe_lock (pe_lks h L)
theorem tE_mono {X : Cx} {f : DEnv → R Val} {σ : L2.St} {H : Hp} {Q Q' : VK} (h : tE X f σ H Q) (k : ∀ v H, Q v H → Q' v H) : tE X f σ H Q' := PE_Q h k
theorem lks_intro {X : Cx} {f : DEnv → R Val} {σ : L2.St} : ∀ {L : List Addr} {H : Hp} {Q : VK}, L.Nodup → (∀ b ∈ L, ∃ vs, H b = some (.lst vs)) →
    (∀ H1, LkOf L H H1 → tE X f σ H1 fun v H' => (∀ b ∈ L, H' b = H1 b) ∧ Q v (unl L H H')) → tLks L (tE X f) σ H Q
  | [], H, Q, _, _, k => by
    refine tE_mono (k H ⟨fun _ _ => rfl, fun b hb => by cases hb⟩) fun v H' q => ?_
    have e : unl [] H H' = H' := by funext b; simp [unl]
    rw [e] at q
    exact q.2
  | d :: L, H, Q, hn, hl, k => by
    obtain ⟨nd, hn'⟩ := List.nodup_cons.mp hn
    obtain ⟨vs, hd⟩ := hl d List.mem_cons_self
    refine ⟨d, .lst vs, hd, trivial, fun od => ?_⟩
    refine lks_intro hn' (fun b hb => ?_) fun H1 lk => ?_
    · obtain ⟨us, e⟩ := hl b (List.mem_cons_of_mem _ hb)
      exact ⟨us, by rw [upd_ne (fun z : b = d => nd (by rw [← z]; exact hb))]; exact e⟩
    · have l1 : H1 d = some (.frz od (.lst vs)) := by rw [lk.1 d nd, upd_same]
      refine tE_mono (k H1 ⟨fun b hb => ?_, fun b hb => ?_⟩) fun v H' q => ⟨fun b hb => q.1 b (List.mem_cons_of_mem _ hb), ?_, ?_⟩
      · rw [lk.1 b fun z => hb (List.mem_cons_of_mem _ z), upd_ne fun z : b = d => hb (by rw [z]; exact List.mem_cons_self)]
      · by_cases e : b = d
        · subst e; exact ⟨od, _, hd, l1⟩
        · have hb' : b ∈ L := by
            rcases List.mem_cons.mp hb with z | z
            · exact absurd z e
            · exact z
          obtain ⟨o, u, h1, h2⟩ := lk.2 b hb'
          rw [upd_ne e] at h1
          exact ⟨o, u, h1, h2⟩
      · show unl L _ H' d = _
        unfold unl
        rw [if_neg nd, q.1 d List.mem_cons_self, l1]
      · have e : upd (unl L (upd H d (.frz od (.lst vs))) H') d (.lst vs) = unl (d :: L) H H' := by
          funext b
          by_cases e : b = d
          · subst e
            rw [upd_same]
            unfold unl
            rw [if_pos List.mem_cons_self, hd]
          · rw [upd_ne e]
            unfold unl
            by_cases hb : b ∈ L
            · rw [if_pos hb, if_pos (List.mem_cons_of_mem _ hb), upd_ne e]
            · rw [if_neg hb, if_neg (fun z => (List.mem_cons.mp z).elim e hb)]
        rw [e]; exact q.2

/-! ### what is locked is read -/
section
variable {K : PySem.W.Frag} {F F1 H H1 : Hp} {f : List Addr}
/-- the frozen heap while the lists of f are locked -/
def fLk (F H H1 : Hp) (f : List Addr) : Hp := fun b => if b ∈ f ∧ isLT (H b) = true then H1 b else F b
def isL : Option HO → Bool
  | some (.lst _) => true
  | _ => false
theorem isL_some {o : Option HO} (h : isL o = true) : ∃ vs, o = some (.lst vs) := by
  cases o with
  | none => cases h
  | some u =>
    cases u with
    | lst vs => exact ⟨vs, rfl⟩
    | _ => cases h
theorem isLT_some {o : Option HO} (h : isLT o = true) : (∃ vs, o = some (.lst vs)) ∨ ∃ vs, o = some (.tup vs) := by
  cases o with
  | none => cases h
  | some u =>
    cases u with
    | lst vs => exact .inl ⟨vs, rfl⟩
    | tup vs => exact .inr ⟨vs, rfl⟩
    | _ => cases h
def lOf (H : Hp) (f : List Addr) : List Addr := f.filter fun b => isL (H b)
theorem lOf_mem {b : Addr} : b ∈ lOf H f ↔ b ∈ f ∧ ∃ vs, H b = some (.lst vs) := by
  unfold lOf
  rw [List.mem_filter]
  constructor
  · rintro ⟨h1, h2⟩
    exact ⟨h1, isL_some h2⟩
  · rintro ⟨h1, vs, e⟩
    exact ⟨h1, by rw [e]; rfl⟩
theorem fLk_lst (lk : LkOf (lOf H f) H H1) {b : Addr} {vs : List V} (hb : b ∈ f) (e : H b = some (.lst vs)) : ∃ o, fLk F H H1 f b = some (.frz o (.lst vs)) ∧ H1 b = some (.frz o (.lst vs)) := by
  obtain ⟨o, u, h1, h2⟩ := lk.2 b (lOf_mem.mpr ⟨hb, vs, e⟩)
  rw [e] at h1
  cases h1
  refine ⟨o, ?_, h2⟩
  unfold fLk
  rw [if_pos ⟨hb, by rw [e]; rfl⟩]; exact h2
theorem fLk_tup (lk : LkOf (lOf H f) H H1) {b : Addr} {vs : List V} (hb : b ∈ f) (e : H b = some (.tup vs)) : fLk F H H1 f b = some (.tup vs) ∧ H1 b = some (.tup vs) := by
  have h1 : H1 b = some (.tup vs) := by
    rw [lk.1 b fun z => ?_]
    · exact e
    · obtain ⟨_, us, z⟩ := lOf_mem.mp z
      rw [e] at z; cases z
  refine ⟨?_, h1⟩
  unfold fLk
  rw [if_pos ⟨hb, by rw [e]; rfl⟩]; exact h1
theorem fLk_same (k : ∀ b ∈ f, F b = none) : Same F (fLk F H H1 f) := fun b u e => by
  unfold fLk
  rw [if_neg fun z => by rw [k b z.1] at e; cases e]; exact e
mutual
theorem Own.lk (lk : LkOf (lOf H f) H H1) (sF : Same F (fLk F H H1 f)) : ∀ (x : Val) (v : V) (g : List Addr), Own K F H v x g → (∀ b ∈ g, b ∈ f) → At K (fLk F H H1 f) v x.lk
  | .sh d, _, _, h, _ => by
    cases h with
    | sh h => rw [Val.lk]; exact At.mono sF d _ h
  | .lst xs, _, _, h, k => by
    cases h with
    | lst h1 h2 h3 =>
      rw [Val.lk]
      obtain ⟨o, e1, _⟩ := fLk_lst (F := F) lk (k _ List.mem_cons_self) h2
      exact .scr (.inl (.inr ⟨o, e1⟩)) (Owns.lk lk sF xs _ _ h3 fun b hb => k b (List.mem_cons_of_mem _ hb))
  | .tup xs, _, _, h, k => by
    cases h with
    | tup h1 h2 h3 =>
      rw [Val.lk]
      exact .tup (.inl (fLk_tup (F := F) lk (k _ List.mem_cons_self) h2).1) (Owns.lk lk sF xs _ _ h3 fun b hb => k b (List.mem_cons_of_mem _ hb))
  | .dic b ds, _, _, h, _ => by
    rw [Val.lk]
    cases h with
    | dic => exact .junk _
    | dicL => exact .junk _
  | .obj _ _ _, _, _, h, _ => by
    rw [Val.lk]
    cases h with
    | obj => exact .junk _
  | .at p x, _, _, h, k => by
    rw [Val.lk]
    cases h with
    | «at» h => exact Own.lk lk sF x _ _ h k
  | .dcv _ _, _, _, h, _ => by
    rw [Val.lk]
    cases h with
    | dcv => exact .junk _
theorem Owns.lk (lk : LkOf (lOf H f) H H1) (sF : Same F (fLk F H H1 f)) : ∀ (xs : List Val) (vs : List V) (g : List Addr), Owns K F H vs xs g → (∀ b ∈ g, b ∈ f) → Ats K (fLk F H H1 f) vs (lks xs)
  | [], _, _, h, _ => by cases h; rw [lks]; exact .nil
  | x :: xs, _, _, h, k => by
    cases h with
    | cons h1 h2 =>
      rw [lks]
      exact .cons (Own.lk lk sF x _ _ h1 fun b hb => k b (List.mem_append_left _ hb)) (Owns.lk lk sF xs _ _ h2 fun b hb => k b (List.mem_append_right _ hb))
end
def lkO (o : Option Val) : Option Val := match o with
  | some x => some (.sh x.lk)
  | none => none
theorem Sl.lk (lk : LkOf (lOf H f) H H1) (sF : Same F (fLk F H H1 f)) : ∀ {σ : L2.St} {ρ : DEnv} {g : List Addr}, Sl K F H σ ρ g → (∀ b ∈ g, b ∈ f) → Sl K (fLk F H H1 f) H1 σ (ρ.map lkO) []
  | _, _, _, .nil, _ => .nil
  | _, _, _, .un t, k => .un (Sl.lk lk sF t k)
  | _, _, _, .bd (f := g1) (g := g2) h t, k => .bd (f := []) (g := []) (.sh (Own.lk lk sF _ _ _ h fun b hb => k b (List.mem_append_left _ hb))) (Sl.lk lk sF t fun b hb => k b (List.mem_append_right _ hb))

/-! ### nothing clean hangs on what is locked -/
theorem clns_get : ∀ {ds : List D} {j : Nat} {d : D}, clns ds = true → ds[j]? = some d → d.cln = true
  | [], _, _, _, e => by simp at e
  | d0 :: ds, 0, d, h, e => by
    simp at e
    subst e
    rw [clns, Bool.and_eq_true] at h
    exact h.1
  | d0 :: ds, j + 1, d, h, e => by
    rw [clns, Bool.and_eq_true] at h
    exact clns_get (j := j) h.2 (by simpa using e)
/-- at b: nothing clean -/
def Dirty (K : PySem.W.Frag) (F' : Hp) (v : V) : Prop := ∀ d, At K F' v d → d.cln = false
variable {F' : Hp}
theorem Owns.innerAt : ∀ {xs : List Val} {vs : List V} {g : List Addr}, Owns K F H vs xs g → xs.any Val.inner = true → ∃ (j : Nat) (x : Val) (v : V) (g' : List Addr), xs[j]? = some x ∧ vs[j]? = some v ∧ x.inner = true ∧ Own K F H v x g' ∧ ∀ b ∈ g', b ∈ g
  | [], _, _, _, h => by simp at h
  | x :: xs, _, _, .cons (v := v) (f := f1) (g := f2) a t, h => by
    by_cases e : x.inner = true
    · exact ⟨0, x, v, f1, rfl, rfl, e, a, fun b hb => List.mem_append_left _ hb⟩
    · rw [List.any_cons, Bool.or_eq_true] at h
      obtain ⟨j, y, v', g', h1, h2, h3, h4, h5⟩ := Owns.innerAt t (h.resolve_left e)
      exact ⟨j + 1, y, v', g', by simpa using h1, by simpa using h2, h3, h4, fun b hb => List.mem_append_right _ (h5 b hb)⟩
theorem deeps_get : ∀ {xs : List Val} {j : Nat} {x : Val}, deeps xs = true → xs[j]? = some x → x.deep = true
  | [], _, _, _, e => by simp at e
  | d0 :: ds, 0, d, h, e => by
    simp at e
    subst e
    rw [deeps, Bool.and_eq_true] at h
    exact h.1
  | d0 :: ds, j + 1, d, h, e => by
    rw [deeps, Bool.and_eq_true] at h
    exact deeps_get (j := j) h.2 (by simpa using e)
theorem Own.dirty (lk : LkOf (lOf H f) H H1) (kf : KFar K H) (s' : Same (fLk F H H1 f) F') : ∀ (n : Nat) (x : Val) (v : V) (g : List Addr), sizeOf x ≤ n → Own K F H v x g → (∀ b ∈ g, b ∈ f) → x.deep = true → x.inner = true → Dirty K F' v
  | 0, x, _, _, hn, _, _, _, _ => by
    cases x <;> simp at hn
    all_goals omega
  | n + 1, .lst xs, _, _, _, h, k, dp, _ => by
    cases h with
    | lst h1 h2 h3 =>
      rename_i p vs g
      intro d a
      obtain ⟨o, e1, _⟩ := fLk_lst (F := F) lk (k _ List.mem_cons_self) h2
      have e2 := s' _ _ e1
      cases a with
      | lst hs _ => rw [e2] at hs; cases hs
      | scr _ _ => rw [D.cln]
      | tup ht _ =>
        rcases ht with ht | ⟨_, ht⟩
        · rw [e2] at ht; cases ht
        · exact (kf.1 _ _ _ h2 ht).elim
      | junk _ => rw [D.cln]
      | exn hx _ _ _ =>
        obtain ⟨oe, hx, _⟩ := hx
        rw [e2] at hx; cases hx
      | ins hi _ _ => rw [e2] at hi; cases hi
      | dct hi _ _ _ => rw [e2] at hi; cases hi
  | n + 1, .tup xs, _, _, hn, h, k, dp, _ => by
    cases h with
    | tup h1 h2 h3 =>
      rename_i p ws g
      intro d a
      rw [Val.deep, Bool.and_eq_true] at dp
      obtain ⟨j, x, v, g', q1, q2, q3, q4, q5⟩ := Owns.innerAt h3 dp.2
      have hx : sizeOf x ≤ n := by
        have := List.sizeOf_lt_of_mem (List.mem_of_getElem? q1)
        simp at hn
        omega
      have dj := Own.dirty lk kf s' n x v g' hx q4 (fun b hb => k b (List.mem_cons_of_mem _ (q5 b hb))) (deeps_get dp.1 q1) q3
      have e1 := (fLk_tup (F := F) lk (k _ List.mem_cons_self) h2).1
      have e2 := s' _ _ e1
      have vr : ∃ c, v = .ref c := by
        cases q4 with
        | lst _ _ _ => exact ⟨_, rfl⟩
        | tup _ _ _ => exact ⟨_, rfl⟩
        | sh _ => cases q3
        | dic => cases q3
        | dicL => cases q3
        | obj => cases q3
        | dcv => cases q3
        | «at» _ => exact ⟨_, rfl⟩
      obtain ⟨c, rfl⟩ := vr
      have fin : ∀ {us : List V} {ds : List D}, us[j]? = some (.ref c) → Ats K F' us ds → clns ds = false := fun {us ds} hu ha => by
        obtain ⟨d', g1, g2⟩ := ha.get' hu
        cases e : clns ds with
        | false => rfl
        | true =>
          have := clns_get e g1
          rw [dj d' g2] at this
          cases this
      cases a with
      | lst hs _ => rw [e2] at hs; cases hs
      | scr _ _ => rw [D.cln]
      | tup ht ha =>
        rw [D.cln]
        rcases ht with ht | ⟨_, ht⟩
        · rw [e2] at ht
          cases ht
          exact fin q2 ha
        · exact fin (kf.2 _ _ _ h2 ht j c q2) ha
      | junk _ => rw [D.cln]
      | exn hx _ _ _ =>
        obtain ⟨oe, hx, _⟩ := hx
        rw [e2] at hx; cases hx
      | ins hi _ _ => rw [e2] at hi; cases hi
      | dct hi _ _ _ => rw [e2] at hi; cases hi
  | n + 1, .sh d, _, _, _, _, _, _, e => by cases e
  | n + 1, .dic b ds, _, _, _, _, _, _, e => by cases e
  | n + 1, .obj _ _ _, _, _, _, _, _, _, e => by cases e
  | n + 1, .dcv _ _, _, _, _, _, _, _, e => by cases e
  | n + 1, .at p x, _, _, hn, h, k, dp, e => by
    cases h with
    | «at» h => exact Own.dirty lk kf s' n x _ _ (by simp at hn; omega) h k (by rw [Val.deep] at dp; exact dp) e
/-- all that is locked is dirty -/
theorem Owns.dirt (lk : LkOf (lOf H f) H H1) (kf : KFar K H) (s' : Same (fLk F H H1 f) F') : ∀ (n : Nat), (∀ (x : Val) (v : V) (g : List Addr), sizeOf x ≤ n → Own K F H v x g → (∀ b ∈ g, b ∈ f) → x.deep = true → ∀ b ∈ g, isLT (H b) = true → Dirty K F' (.ref b)) ∧
    ∀ (xs : List Val) (vs : List V) (g : List Addr), sizeOf xs ≤ n → Owns K F H vs xs g → (∀ b ∈ g, b ∈ f) → deeps xs = true → ∀ b ∈ g, isLT (H b) = true → Dirty K F' (.ref b) := by
  intro n
  induction n with
  | zero =>
    refine ⟨fun x v g hn => ?_, fun xs vs g hn => ?_⟩
    · cases x <;> simp at hn
      all_goals omega
    · cases xs <;> simp at hn
  | succ n ih =>
    refine ⟨fun x v g hn h k dp b hb hl => ?_, fun xs vs g hn h k dp b hb hl => ?_⟩
    · have hh := h
      cases h with
      | sh _ => cases hb
      | lst h1 h2 h3 =>
        rename_i p ws xs g
        rcases List.mem_cons.mp hb with e | hb
        · rw [e]
          exact Own.dirty lk kf s' _ _ _ _ (Nat.le_refl _) hh k dp rfl
        · refine ih.2 xs ws g (by simp at hn; omega) h3 (fun b hb => k b (List.mem_cons_of_mem _ hb)) (by rw [Val.deep] at dp; exact dp) b hb hl
      | tup h1 h2 h3 =>
        rename_i p ws xs g
        rcases List.mem_cons.mp hb with e | hb
        · rw [e]
          exact Own.dirty lk kf s' _ _ _ _ (Nat.le_refl _) hh k dp rfl
        · refine ih.2 xs ws g (by simp at hn; omega) h3 (fun b hb => k b (List.mem_cons_of_mem _ hb)) (by rw [Val.deep, Bool.and_eq_true] at dp; exact dp.1) b hb hl
      | dicL => cases hb
      | dic h1 h2 h3 h4 =>
        rw [List.mem_singleton.mp hb] at hl
        exfalso
        obtain ⟨_, u, hu, z⟩ := h2
        rcases hu with ⟨_, rfl⟩ | ⟨_, kk, _, rfl⟩ <;> rcases z with ⟨_, z⟩ | ⟨_, o, z⟩ <;> rw [z] at hl <;> cases hl
      | obj h1 h2 h3 h4 =>
        rw [List.mem_singleton.mp hb, h2] at hl
        cases hl
      | dcv => rw [Val.deep] at dp; cases dp
      | «at» h1 =>
        rename_i p9 x9
        exact ih.1 x9 _ g (by simp at hn; omega) h1 k (by rw [Val.deep] at dp; exact dp) b hb hl
    · cases h with
      | nil => cases hb
      | cons h1 h2 =>
        rw [deeps, Bool.and_eq_true] at dp
        simp at hn
        rcases List.mem_append.mp hb with hb | hb
        · exact ih.1 _ _ _ (by omega) h1 (fun b hb => k b (List.mem_append_left _ hb)) dp.1 b hb hl
        · exact ih.2 _ _ _ (by omega) h2 (fun b hb => k b (List.mem_append_right _ hb)) dp.2 b hb hl
def okO (o : Option Val) : Bool := match o with
  | some x => x.deep
  | none => true
theorem Sl.dirt (lk : LkOf (lOf H f) H H1) (kf : KFar K H) (s' : Same (fLk F H H1 f) F') : ∀ {σ : L2.St} {ρ : DEnv} {g : List Addr}, Sl K F H σ ρ g → (∀ b ∈ g, b ∈ f) → ρ.all okO = true → ∀ b ∈ g, isLT (H b) = true → Dirty K F' (.ref b)
  | _, _, _, .nil, _, _, b, hb, _ => by cases hb
  | _, _, _, .un t, k, dp, b, hb, hl => Sl.dirt lk kf s' t k (by
      rw [List.all_cons, Bool.and_eq_true] at dp
      exact dp.2) b hb hl
  | _, _, _, .bd h t, k, dp, b, hb, hl => by
    rw [List.all_cons, Bool.and_eq_true] at dp
    rcases List.mem_append.mp hb with hb | hb
    · exact (Owns.dirt lk kf s' _).1 _ _ _ (Nat.le_refl _) h (fun b hb => k b (List.mem_append_left _ hb)) dp.1 b hb hl
    · exact Sl.dirt lk kf s' t (fun b hb => k b (List.mem_append_right _ hb)) dp.2 b hb hl
def cut (f : List Addr) (F' : Hp) : Hp := fun b => if b ∈ f then none else F' b
theorem cut_out {b : Addr} (h : b ∉ f) : cut f F' b = F' b := if_neg h
theorem cut_in {b : Addr} (h : b ∈ f) : cut f F' b = none := if_pos h
mutual
theorem At.cut (k : ∀ b ∈ f, F' b ≠ none → Dirty K F' (.ref b)) (nx : ∀ b ∈ f, ∀ gs, F' b ≠ some (.xd gs)) : ∀ (d : D) (v : V), At K F' v d → d.cln = true → At K (DL.cut f F') v d
  | .non, _, h, _ => by cases h; exact .non
  | .bl b, _, h, _ => by cases h; exact .bl b
  | .int i, _, h, _ => by cases h; exact .int i
  | .str x, _, h, _ => by cases h; exact .str x
  | .lst ds, _, h, c => by
    have hh := h
    cases h with
    | lst hs ha =>
      rename_i a us
      have na : a ∉ f := fun z => by
        have := k a z (by rw [hs]; exact fun z => nomatch z) _ hh
        rw [this] at c; cases c
      exact .lst ((cut_out na).trans hs) (Ats.cut k nx ds _ ha (by rw [D.cln] at c; exact c))
  | .scr ds, _, h, c => by rw [D.cln] at c; cases c
  | .tup ds, _, h, c => by
    have hh := h
    cases h with
    | tup hs ha =>
      rename_i a us
      rcases hs with hs | hs
      · have na : a ∉ f := fun z => by
          have := k a z (by rw [hs]; exact fun z => nomatch z) _ hh
          rw [this] at c; cases c
        exact .tup (.inl ((cut_out na).trans hs)) (Ats.cut k nx ds _ ha (by rw [D.cln] at c; exact c))
      · exact .tup (.inr hs) (Ats.cut k nx ds _ ha (by rw [D.cln] at c; exact c))
  | .junk, _, h, c => by rw [D.cln] at c; cases c
  | .dct _ _, _, h, c => by rw [D.cln] at c; cases c
  | .exn C own ns ds, _, h, c => by
    have hh := h
    cases h with
    | exn h1 h2 hl ha =>
      rename_i a od us
      obtain ⟨oe, e1, e2⟩ := h1
      have na : a ∉ f := fun z => by
        have := k a z (by rw [e1]; exact fun z => nomatch z) _ hh
        rw [this] at c; cases c
      refine .exn ⟨oe, (cut_out na).trans e1, e2⟩ ?_ hl (Ats.cut k nx ds _ ha (by rw [D.cln] at c; exact c))
      unfold ExDx at *
      by_cases q : own = true
      · rw [if_pos q] at h2 ⊢
        obtain ⟨dx, h3, h4⟩ := h2
        exact ⟨dx, h3, (cut_out fun z => nx dx z _ h4).trans h4⟩
      · rw [if_neg q] at h2 ⊢; exact h2
  | .ins C ns ds, _, h, c => by
    have hh := h
    cases h with
    | ins hs hl ha =>
      rename_i a dx us
      have na : a ∉ f := fun z => by
        have := k a z (by rw [hs]; exact fun z => nomatch z) _ hh
        rw [this] at c; cases c
      exact .ins ((cut_out na).trans hs) hl (Ats.cut k nx ds _ ha (by rw [D.cln] at c; exact c))
theorem Ats.cut (k : ∀ b ∈ f, F' b ≠ none → Dirty K F' (.ref b)) (nx : ∀ b ∈ f, ∀ gs, F' b ≠ some (.xd gs)) : ∀ (ds : List D) (vs : List V), Ats K F' vs ds → clns ds = true → Ats K (DL.cut f F') vs ds
  | [], _, h, _ => by cases h; exact .nil
  | d :: ds, _, h, c => by
    rw [clns, Bool.and_eq_true] at c
    cases h with
    | cons h1 h2 => exact .cons (At.cut k nx d _ h1 c.1) (Ats.cut k nx ds _ h2 c.2)
end
mutual
theorem Own.cut {H' H2 : Hp} (k : ∀ b ∈ f, F' b ≠ none → Dirty K F' (.ref b)) (nx : ∀ b ∈ f, ∀ gs, F' b ≠ some (.xd gs)) : ∀ (x : Val) (v : V) (g : List Addr), Own K F' H' v x g → x.cln = true → (∀ b ∈ g, H2 b = H' b) → Own K (DL.cut f F') H2 v x g
  | .sh d, _, _, h, c, _ => by
    cases h with
    | sh h => exact .sh (At.cut k nx d _ h (by rw [Val.cln] at c; exact c))
  | .lst xs, _, _, h, c, e => by
    cases h with
    | lst h1 h2 h3 =>
      refine .lst ?_ ((e _ List.mem_cons_self).trans h2) (Owns.cut k nx xs _ _ h3 (by rw [Val.cln] at c; exact c) fun b hb => e b (List.mem_cons_of_mem _ hb))
      unfold DL.cut
      split
      · rfl
      · exact h1
  | .tup xs, _, _, h, c, e => by
    cases h with
    | tup h1 h2 h3 =>
      refine .tup ?_ ((e _ List.mem_cons_self).trans h2) (Owns.cut k nx xs _ _ h3 (by rw [Val.cln] at c; exact c) fun b hb => e b (List.mem_cons_of_mem _ hb))
      unfold DL.cut
      split
      · rfl
      · exact h1
  | .dic b ds, _, _, h, c, e => by
    cases h with
    | dic => rw [Val.cln] at c; cases c
    | dicL => rw [Val.cln] at c; cases c
  | .obj _ _ _, _, _, h, c, e => by rw [Val.cln] at c; cases c
  | .dcv _ _, _, _, h, c, e => by rw [Val.cln] at c; cases c
  | .at p x, _, _, h, c, e => by
    cases h with
    | «at» h => exact .at (Own.cut k nx x _ _ h (by rw [Val.cln] at c; exact c) e)
theorem Owns.cut {H' H2 : Hp} (k : ∀ b ∈ f, F' b ≠ none → Dirty K F' (.ref b)) (nx : ∀ b ∈ f, ∀ gs, F' b ≠ some (.xd gs)) : ∀ (xs : List Val) (vs : List V) (g : List Addr), Owns K F' H' vs xs g → vclns xs = true → (∀ b ∈ g, H2 b = H' b) → Owns K (DL.cut f F') H2 vs xs g
  | [], _, _, h, _, _ => by cases h; exact .nil
  | x :: xs, _, _, h, c, e => by
    rw [vclns, Bool.and_eq_true] at c
    cases h with
    | cons h1 h2 => exact .cons (Own.cut k nx x _ _ h1 c.1 fun b hb => e b (List.mem_append_left _ hb)) (Owns.cut k nx xs _ _ h2 c.2 fun b hb => e b (List.mem_append_right _ hb))
end
end

/-! ### the expression -/
def lkR (r : R Val) (ρ : DEnv) : R Val := match r with
  | .ok x _ => if x.cln = true then .ok x ρ else .bad
  | .exc _ _ => .bad
  | .bad => .bad
def sLk (f : DEnv → R Val) : DEnv → R Val := fun ρ => if ρ.all okO = true then lkR (f (ρ.map lkO)) ρ else .bad
theorem PE.impI {X : Cx} {e : Expr} {t t' : TE} (h : PE X e t) (k : ∀ pins s σ H Q, Inv X pins σ H s → t' σ H Q → t σ H Q) : PE X e t' := ⟨fun pins s σ H Q I q => h.run pins s σ H Q I (k pins s σ H Q I q)⟩
theorem PE.ex {X : Cx} {e : Expr} {α : Type} {t : α → TE} (h : ∀ a, PE X e (t a)) : PE X e (fun σ H Q => ∃ a, t a σ H Q) := ⟨fun pins s σ H Q I ⟨a, q⟩ => (h a).run pins s σ H Q I q⟩
/-- ρv: what a slot holds while the lists of ρ are locked -/
def VwOk (K : PySem.W.Frag) (σ : L2.St) (ρ ρv : DEnv) : Prop := ∀ (F H H1 : Hp) (f : List Addr), LkOf (lOf H f) H H1 → Same F (fLk F H H1 f) → Sl K F H σ ρ f → Sl K (fLk F H H1 f) H1 σ ρv []
theorem vw_lk {K : PySem.W.Frag} {σ : L2.St} {ρ : DEnv} : VwOk K σ ρ (ρ.map lkO) := fun F H H1 f lk sF s => Sl.lk lk sF s fun _ h => h
theorem pe_lkG {X : Cx} {e : Expr} {f : DEnv → R Val} (h : DE X e f) : PE X e (fun σ H Q => ∃ F0 H0 ρ ρv vs xs, Stt X.K F0 H0 H σ ρ vs xs ∧ ρ.all okO = true ∧ VwOk X.K σ ρ ρv ∧ ∃ x ρ1, f ρv = .ok x ρ1 ∧ x.cln = true ∧ ∀ H' v, Stt X.K F0 H0 H' σ ρ (v :: vs) (x :: xs) → Q v H') :=
  PE.impI (PE.ex (pe_lks h)) fun pins s σ H Q I ⟨F0, H0, ρ, ρv, vs, xs, st, dp, vw, x, ρ1, e1, hc, q⟩ => by
    have kf := kfar_of I
    obtain ⟨F, fp, g, h1, h2, h3, h4, h5, h6, h7, h8⟩ := st
    have nf := Sl.no h5
    have ng := Owns.no _ _ _ h6
    have nd : fp.Nodup := (List.nodup_append.mp h7).2.1
    refine ⟨lOf H fp, lks_intro (nd.sublist List.filter_sublist) (fun b hb => (lOf_mem.mp hb).2) fun H1 lk => ?_⟩
    have hH1 : ∀ b, H b ≠ none → H1 b ≠ none := fun b hb => by
      by_cases hm : b ∈ lOf H fp
      · obtain ⟨o, u, _, e⟩ := lk.2 b hm
        rw [e]; exact fun z => nomatch z
      · rw [lk.1 b hm]; exact hb
    have sF : Same F (fLk F H H1 fp) := fLk_same fun b hb => (nf b hb).1
    have sH : Same (fLk F H H1 fp) H1 := fun b u e => by
      unfold fLk at e
      split at e
      · exact e
      · have hb : b ∉ lOf H fp := fun z => by
          have := (nf b (lOf_mem.mp z).1).1
          rw [this] at e; cases e
        rw [lk.1 b hb]; exact h3 b u e
    refine ⟨fLk F H H1 fp, H1, ρv, [], [], ⟨fLk F H H1 fp, [], [], Same.refl _, Same.refl _, sH, fun b z _ => z, vw F H H1 fp lk sF h5, .nil, by simp, fun b hb => by cases hb⟩, ?_⟩
    rw [e1]
    rintro H' v ⟨F', f', g', k1, k2, k3, k4, k5, k6, k7, k8⟩
    refine ⟨fun b hb => ?_, q _ _ ?_⟩
    · obtain ⟨o, u, _, e⟩ := lk.2 b hb
      rw [k2 b _ e, e]
    · have F'no : ∀ b ∈ fp, isLT (H b) = false → F' b = none := fun b hb e => by
        refine k4 b ?_ (hH1 b (nf b hb).2)
        unfold fLk
        rw [if_neg fun z => by rw [z.2] at e; cases e]
        exact (nf b hb).1
      have dirt : ∀ b ∈ fp, F' b ≠ none → Dirty X.K F' (.ref b) := fun b hb hne => by
        cases e : isLT (H b) with
        | false => exact absurd (F'no b hb e) hne
        | true => exact Sl.dirt lk kf k1 h5 (fun _ z => z) dp b hb e
      have nx : ∀ b ∈ fp, ∀ gs, F' b ≠ some (.xd gs) := fun b hb gs e => by
        cases e2 : isLT (H b) with
        | false => rw [F'no b hb e2] at e; cases e
        | true =>
          rcases isLT_some e2 with ⟨ws, e3⟩ | ⟨ws, e3⟩
          · obtain ⟨o, z, _⟩ := fLk_lst (F := F) lk hb e3
            rw [k1 _ _ z] at e; cases e
          · have z := (fLk_tup (F := F) lk hb e3).1
            rw [k1 _ _ z] at e; cases e
      have un : ∀ b, b ∉ lOf H fp → unl (lOf H fp) H H' b = H' b := fun b hb => if_neg hb
      have unf : ∀ b, H b ≠ none → unl (lOf H fp) H H' b = H b := fun b hb => by
        by_cases hm : b ∈ lOf H fp
        · exact if_pos hm
        · rw [un b hm]
          cases e : H b with
          | none => exact absurd e hb
          | some u => exact k2 b u ((lk.1 b hm).trans e)
      have newg : ∀ b ∈ g', b ∉ lOf H fp := fun b hb z => by
        obtain ⟨o, u, _, e⟩ := lk.2 b z
        rw [k8 b (List.mem_append_left _ hb)] at e; cases e
      have Fno : ∀ b, F b = none → b ∉ fp → H b ≠ none → cut fp F' b = none := fun b e1 e2 e3 => by
        rw [cut_out e2]
        refine k4 b ?_ (hH1 b e3)
        unfold fLk
        rw [if_neg fun z => e2 z.1]; exact e1
      have sF2 : Same F (cut fp F') := fun b u e => by
        rw [cut_out fun z => by rw [(nf b z).1] at e; cases e]
        exact k1 b u (sF b u e)
      rw [List.nodup_append] at h7
      cases k6 with
      | cons a t =>
        cases t
        rename_i ga
        have gnew : ∀ b ∈ ga, H b = none := fun b hb => by
          have z := k8 b (List.mem_append_left _ (List.mem_append_left _ hb))
          cases e : H b with
          | none => rfl
          | some u => exact absurd z (hH1 b (by rw [e]; exact fun z => nomatch z))
        have a2 := Own.cut (H2 := unl (lOf H fp) H H') dirt nx _ _ _ a hc fun b hb => un b (newg b (List.mem_append_left _ hb))
        refine ⟨cut fp F', fp, ga ++ g, h1.trans sF2, fun b u e => ?_, fun b u e => ?_, fun b z1 z2 => ?_, Sl.mono sF2 h5 fun b hb => ⟨cut_in hb, unf b (nf b hb).2⟩, .cons a2 (Owns.mono sF2 _ _ _ h6 fun b hb => ⟨?_, unf b (ng b hb).2⟩), ?_, fun b hb => ?_⟩
        · rw [unf b (by rw [h2 b u e]; exact fun z => nomatch z)]; exact h2 b u e
        · have nb : b ∉ fp := fun z => by rw [cut_in z] at e; cases e
          rw [cut_out nb] at e
          rw [un b fun z => nb (lOf_mem.mp z).1]
          exact k3 b u e
        · have e1 := h4 b z1 z2
          refine Fno b e1 (fun z => z2 (h8 b (List.mem_append_right _ z))) ?_
          cases e : H0 b with
          | none => exact absurd e z2
          | some u => rw [h2 b u e]; exact fun z => nomatch z
        · exact Fno b (ng b hb).1 (fun z => h7.2.2 b hb b z rfl) (ng b hb).2
        · have nda : ga.Nodup := by
            have z := (List.nodup_append.mp k7).1
            rw [List.append_nil] at z; exact z
          rw [List.append_assoc, List.nodup_append]
          refine ⟨nda, List.nodup_append.mpr ⟨h7.1, h7.2.1, h7.2.2⟩, fun y hy z hz e => ?_⟩
          subst e
          have := gnew y hy
          rcases List.mem_append.mp hz with hz | hz
          · exact (ng y hz).2 this
          · exact (nf y hz).2 this
        · rw [List.append_assoc] at hb
          rcases List.mem_append.mp hb with hb | hb
          · have := gnew b hb
            cases e : H0 b with
            | none => rfl
            | some u => rw [h2 b u e] at this; cases this
          · exact h8 b hb
theorem de_lk {X : Cx} {e : Expr} {f : DEnv → R Val} (h : DE X e f) : DE X e (sLk f) :=
  PE.imp (pe_lkG h) fun σ H Q ⟨F0, H0, ρ, vs, xs, st, q⟩ => by
    have q : post X F0 H0 vs xs _ (if ρ.all okO = true then lkR (f (ρ.map lkO)) ρ else .bad) := q
    by_cases dp : ρ.all okO = true
    rotate_left
    · rw [if_neg dp] at q; exact q.elim
    rw [if_pos dp] at q
    cases e1 : f (ρ.map lkO) with
    | bad => rw [e1] at q; exact q.elim
    | exc _ _ => rw [e1] at q; exact q.elim
    | ok x ρ1 =>
      rw [e1] at q
      have q : post X F0 H0 vs xs _ (if x.cln = true then .ok x ρ else .bad) := q
      split at q
      rotate_left
      · exact q.elim
      rename_i hc
      exact ⟨F0, H0, ρ, ρ.map lkO, vs, xs, st, dp, vw_lk, x, ρ1, e1, hc, q⟩
@[simp] theorem sLk_ap {f : DEnv → R Val} {ρ : DEnv} : sLk f ρ = if ρ.all okO = true then lkR (f (ρ.map lkO)) ρ else .bad := id rfl
@[simp] theorem lkR_ok {x : Val} {ρ ρ1 : DEnv} : lkR (.ok x ρ1) ρ = if x.cln = true then .ok x ρ else .bad := id rfl
@[simp] theorem lkO_n : lkO none = none := id rfl
@[simp] theorem lkO_s {x : Val} : lkO (some x) = some (.sh x.lk) := id rfl
@[simp] theorem okO_n : okO none = true := id rfl
@[simp] theorem okO_s {x : Val} : okO (some x) = x.deep := id rfl
@[simp] theorem lk_sh {d : D} : Val.lk (.sh d) = d := by rw [Val.lk]
@[simp] theorem lk_lst {xs : List Val} : Val.lk (.lst xs) = .scr (lks xs) := by rw [Val.lk]
@[simp] theorem lk_tup {xs : List Val} : Val.lk (.tup xs) = .tup (lks xs) := by rw [Val.lk]
@[simp] theorem lk_dic {b : DB} {ds : List D} : Val.lk (.dic b ds) = .junk := by rw [Val.lk]
@[simp] theorem lks_nil : lks [] = [] := by rw [lks]
@[simp] theorem lks_cons {x : Val} {xs : List Val} : lks (x :: xs) = x.lk :: lks xs := by rw [lks]
theorem lks_map (xs : List Val) : lks xs = xs.map Val.lk := by
  induction xs with
  | nil => simp
  | cons x xs ih => simp [ih]
@[simp] theorem lks_sh {ds : List D} : lks (ds.map .sh) = ds := by
  rw [lks_map, List.map_map]
  induction ds with
  | nil => rfl
  | cons x xs ih => rw [List.map_cons, ih]; simp
theorem clns_all (ds : List D) : clns ds = ds.all D.cln := by
  induction ds with
  | nil => rw [clns]; rfl
  | cons x xs ih => rw [clns, ih]; rfl
theorem vclns_all (ds : List Val) : vclns ds = ds.all Val.cln := by
  induction ds with
  | nil => rw [vclns]; rfl
  | cons x xs ih => rw [vclns, ih]; rfl
theorem deeps_all (ds : List Val) : deeps ds = ds.all Val.deep := by
  induction ds with
  | nil => rw [deeps]; rfl
  | cons x xs ih => rw [deeps, ih]; rfl
@[simp] theorem deep_sh {d : D} : Val.deep (.sh d) = true := by rw [Val.deep]
@[simp] theorem deep_dic {b : DB} {ds : List D} : Val.deep (.dic b ds) = true := by rw [Val.deep]
@[simp] theorem deep_lst {xs : List Val} : Val.deep (.lst xs) = xs.all Val.deep := by rw [Val.deep, deeps_all]
@[simp] theorem deep_tup {xs : List Val} : Val.deep (.tup xs) = (xs.all Val.deep && xs.any Val.inner) := by rw [Val.deep, deeps_all]
@[simp] theorem inner_sh {d : D} : Val.inner (.sh d) = false := id rfl
@[simp] theorem inner_lst {xs : List Val} : Val.inner (.lst xs) = true := id rfl
@[simp] theorem inner_tup {xs : List Val} : Val.inner (.tup xs) = true := id rfl
@[simp] theorem vcln_sh {d : D} : Val.cln (.sh d) = d.cln := by rw [Val.cln]
@[simp] theorem vcln_lst {xs : List Val} : Val.cln (.lst xs) = xs.all Val.cln := by rw [Val.cln, vclns_all]
@[simp] theorem vcln_tup {xs : List Val} : Val.cln (.tup xs) = xs.all Val.cln := by rw [Val.cln, vclns_all]
@[simp] theorem cln_int {i : Int} : D.cln (.int i) = true := by rw [D.cln]
@[simp] theorem cln_non : D.cln .non = true := by rw [D.cln]
@[simp] theorem cln_bl {b : Bool} : D.cln (.bl b) = true := by rw [D.cln]
@[simp] theorem cln_str {z : Str} : D.cln (.str z) = true := by rw [D.cln]
@[simp] theorem cln_lst {ds : List D} : D.cln (.lst ds) = ds.all D.cln := by rw [D.cln, clns_all]
@[simp] theorem cln_tup {ds : List D} : D.cln (.tup ds) = ds.all D.cln := by rw [D.cln, clns_all]
@[simp] theorem cln_ins {C : Addr} {ns : List Str} {ds : List D} : D.cln (.ins C ns ds) = ds.all D.cln := by rw [D.cln, clns_all]
@[simp] theorem cln_scr {ds : List D} : D.cln (.scr ds) = false := by rw [D.cln]
end DL

/-! DV: a list that a name and the end of another list hold at once. -/
namespace DL
open PySem PySem.Spec L2
section
variable {K : PySem.W.Frag} {F F0 H0 H : Hp} {σ : L2.St} {ρ : DEnv} {vs us : List V} {xs : List Val} {f : List Addr} {i j : Nat} {p : Addr} {v : V} {x y : Val}
/-- a slot's value is told in another way -/
theorem Sl.conv : ∀ {σ : L2.St} {ρ : DEnv} {f : List Addr} (i : Nat) {x y : Val}, Sl K F H σ ρ f → ρ[i]? = some (some x) → (∀ v g, Own K F H v x g → Own K F H v y g) → Sl K F H σ (ρ.set i (some y)) f
  | _, _, _, _, _, _, .nil, e, _ => by simp at e
  | _, _, _, 0, _, _, .un t, e, _ => by simp at e
  | _, _, _, 0, _, _, .bd h t, e, k => by
    simp at e
    subst e
    exact .bd (k _ _ h) t
  | _, _, _, i + 1, x, y, .un t, e, k => .un (Sl.conv i t (by simpa using e) k)
  | _, _, _, i + 1, x, y, .bd h t, e, k => .bd h (Sl.conv i t (by simpa using e) k)
theorem Stt.conv (h : Stt K F0 H0 H σ ρ vs xs) (e : ρ[i]? = some (some x)) (k : ∀ F v g, Own K F H v x g → Own K F H v y g) : Stt K F0 H0 H σ (ρ.set i (some y)) vs xs := by
  obtain ⟨F, f, g, h1, h2, h3, h4, h5, h6, h7, h8⟩ := h
  exact ⟨F, f, g, h1, h2, h3, h4, h5.conv i e (k F), h6, h7, h8⟩
/-- the last one's address is forgotten -/
theorem Owns.untag : ∀ {zs : List Val} {us : List V} {f : List Addr}, Owns K F H us (zs ++ [.at p x]) f → Owns K F H us (zs ++ [x]) f
  | [], _, _, .cons a .nil => by
    cases a with
    | «at» a => exact .cons a .nil
  | z :: zs, _, _, .cons a t => .cons a (Owns.untag t)
theorem Owns.lastAt : ∀ {zs : List Val} {us : List V} {f : List Addr}, Owns K F H us (zs ++ [.at p x]) f → ∃ g, Own K F H (.ref p) x g ∧ ∀ b ∈ g, b ∈ f
  | [], _, _, .cons a .nil => by
    cases a with
    | «at» a => exact ⟨_, a, fun b hb => List.mem_append_left _ hb⟩
  | z :: zs, _, _, .cons a t => by
    obtain ⟨g, h1, h2⟩ := Owns.lastAt t
    exact ⟨g, h1, fun b hb => List.mem_append_right _ (h2 b hb)⟩
theorem own_untag {zs : List Val} {g : List Addr} (h : Own K F H v (.lst (zs ++ [.at p x])) g) : Own K F H v (.lst (zs ++ [x])) g := by
  cases h with
  | lst h1 h2 h3 => exact .lst h1 h2 h3.untag
/-- the name i holds the last of the list j, whose address is p -/
def alVw (i : Nat) (x : Val) (ρ : DEnv) : DEnv := (ρ.map lkO).set i (some (.sh x.lk))
theorem vw_al {zs : List Val} (hi : ρ[i]? = some none) (hj : ρ[j]? = some (some (.lst (zs ++ [.at p x])))) (hs : σ[i]? = some (some (.ref p))) : VwOk K σ ρ (alVw i x ρ) := fun F H H1 f lk sF s => by
  obtain ⟨v, g, r, e1, o, _, sb⟩ := s.take j hj
  have s2 := Sl.lk lk sF s fun _ h => h
  cases o with
  | lst h1 h2 h3 =>
    rename_i q ws g1
    obtain ⟨g2, a, m⟩ := h3.lastAt
    have a2 := Own.lk lk sF x _ _ a fun b hb => sb.1 b (List.mem_append_left _ (List.mem_cons_of_mem _ (m b hb)))
    have hl : i < (ρ.map lkO).length := by rw [List.length_map]; exact (List.getElem?_eq_some_iff.mp hi).1
    obtain ⟨f2, s3, sb3⟩ := s2.put i hl (Own.sh (K := K) (F := fLk F H H1 f) (H := H1) a2)
    rw [set_same hs] at s3
    have : f2 = [] := by
      cases f2 with
      | nil => rfl
      | cons b l => exact absurd (sb3.1 b List.mem_cons_self) (by simp)
    subst this
    exact s3
theorem Stt.topRef {ys : List Val} (h : Stt K F0 H0 H σ ρ (v :: vs) (.lst ys :: xs)) : ∃ q, v = .ref q := by
  obtain ⟨F, f, g, h1, h2, h3, h4, h5, h6, h7, h8⟩ := h
  cases h6 with
  | cons a t => cases a with | lst => exact ⟨_, rfl⟩
/-- ρ': ρ with the address of the last item told -/
def AlAt (i j : Nat) (σ : L2.St) (ρ ρ' : DEnv) : Prop := ((∃ x, ρ[i]? = some (some x)) ∧ ρ' = ρ) ∨ (ρ[i]? = some none ∧ i ≠ j ∧ ∃ zs x p, ρ[j]? = some (some (.lst (zs ++ [x]))) ∧ σ[i]? = some (some (.ref p)) ∧ ρ' = ρ.set j (some (.lst (zs ++ [.at p x]))))
theorem dv_back {ρ : DEnv} {j : Nat} {y z : Option Val} (h : ρ[j]? = some z) : (ρ.set j y).set j z = ρ := by
  rw [List.set_set]
  refine List.ext_getElem? fun m => ?_
  by_cases hm : j = m
  · subst hm
    rw [List.getElem?_set_self (List.getElem?_eq_some_iff.mp h).1, h]
  · rw [List.getElem?_set_ne hm]
theorem AlAt.back {ρ' : DEnv} (al : AlAt i j σ ρ ρ') (s : Stt K F0 H0 H σ ρ' vs xs) : Stt K F0 H0 H σ ρ vs xs := by
  rcases al with ⟨_, rfl⟩ | ⟨h1, h2, zs, x, p, h3, h4, rfl⟩
  · exact s
  · have hj := (List.getElem?_eq_some_iff.mp h3).1
    have s2 := s.conv (List.getElem?_set_self hj) (y := .lst (zs ++ [x])) fun F v g o => own_untag o
    rw [dv_back h3] at s2
    exact s2
def alView (i : Nat) (zs : List Val) (ρ : DEnv) : DEnv := match ρ[i]? with
  | some none => match zs.getLast? with
    | some x => alVw i x ρ
    | none => ρ.map lkO
  | _ => ρ.map lkO
theorem AlAt.vw {ρ' : DEnv} {zs : List Val} (al : AlAt i j σ ρ ρ') (hz : ρ[j]? = some (some (.lst zs))) : VwOk K σ ρ' (alView i zs ρ) := by
  rcases al with ⟨⟨x, h0⟩, rfl⟩ | ⟨h1, h2, zs', x, p, h3, h4, rfl⟩
  · unfold alView
    rw [h0]
    exact vw_lk
  · rw [hz] at h3
    have h3 := Val.lst.inj (Option.some.inj (Option.some.inj h3))
    subst h3
    have hj := (List.getElem?_eq_some_iff.mp hz).1
    unfold alView
    rw [h1]
    dsimp only
    rw [List.getLast?_append, List.getLast?_singleton, Option.some_or]
    dsimp only
    have v := vw_al (K := K) (σ := σ) (ρ := ρ.set j (some (.lst (zs' ++ [.at p x])))) (i := i) (by rw [List.getElem?_set_ne fun z => h2 z.symm]; exact h1) (List.getElem?_set_self hj) h4
    have e : alVw i x (ρ.set j (some (.lst (zs' ++ [.at p x])))) = alVw i x ρ := by
      unfold alVw
      rw [List.map_set]
      congr 1
      refine List.ext_getElem? fun m => ?_
      by_cases hm : j = m
      · subst hm
        rw [List.getElem?_set_self (by rw [List.length_map]; exact hj), List.getElem?_map, hz]
        simp [lkO, Val.lk, lks_map]
      · rw [List.getElem?_set_ne hm]
    rw [e] at v
    exact v
theorem AlAt.deep {ρ' : DEnv} (al : AlAt i j σ ρ ρ') (dp : ρ.all okO = true) : ρ'.all okO = true := by
  rcases al with ⟨_, rfl⟩ | ⟨h1, h2, zs', x, p, h3, h4, rfl⟩
  · exact dp
  · rw [List.all_eq_true] at dp ⊢
    intro o ho
    rcases List.mem_or_eq_of_mem_set ho with ho | rfl
    · exact dp o ho
    · have := dp _ (List.mem_of_getElem? h3)
      have dl : ∀ l : List Val, deeps (l ++ [.at p x]) = deeps (l ++ [x]) := fun l => by
        induction l with
        | nil => simp [deeps, Val.deep]
        | cons a l ih => simp [deeps, ih]
      show Val.deep _ = true
      have this : Val.deep (.lst (zs' ++ [x])) = true := this
      rw [Val.deep] at this ⊢
      rw [dl]
      exact this
end
/-! ### the turn: i = f(.., i, ..); j.append(i) -/
def bAl (i j : Nat) (f : DEnv → R Val) : DEnv → Fl := fun ρ => match getV ρ[j]? with
  | some (.lst zs) => if ρ.all okO = true ∧ i ≠ j ∧ i < ρ.length ∧ zs.length < 10000000 then (match f (alView i zs ρ) with
      | .ok (.lst ys) _ => if vclns ys = true then .nx ((ρ.set i none).set j (some (.lst (zs ++ [.lst ys])))) else .bad
      | _ => .bad) else .bad
  | _ => .bad
theorem bAl_some {i j : Nat} {f : DEnv → R Val} {ρ ρ2 : DEnv} (h : bAl i j f ρ = .nx ρ2) : ∃ zs ys ρ1, ρ[j]? = some (some (.lst zs)) ∧ (ρ.all okO = true ∧ i ≠ j ∧ i < ρ.length ∧ zs.length < 10000000) ∧ f (alView i zs ρ) = .ok (.lst ys) ρ1 ∧ vclns ys = true ∧ ρ2 = (ρ.set i none).set j (some (.lst (zs ++ [.lst ys]))) := by
  unfold bAl at h
  match e : getV ρ[j]?, h with
  | some (.lst zs), h =>
    dsimp only at h
    split at h
    · rename_i hc
      match e1 : f (alView i zs ρ), h with
      | .ok (.lst ys) ρ1, h =>
        dsimp only at h
        split at h
        · rename_i hv
          cases h
          exact ⟨zs, ys, ρ1, getV_some e, hc, e1, hv, rfl⟩
        · cases h
    · cases h
def tBAl (X : Cx) (f : DEnv → R Val) (i j : Nat) : TS := fun D σ H => ∃ F0 H0 ρ ρ' vs xs, Stt X.K F0 H0 H σ ρ' vs xs ∧ AlAt i j σ ρ ρ' ∧ ∃ ρ2, bAl i j f ρ = .nx ρ2 ∧ ∀ σ' H' ρ2', Stt X.K F0 H0 H' σ' ρ2' vs xs → AlAt i j σ' ρ2 ρ2' → D.nx σ' H'
section
variable {X : Cx} {e : Expr} {f : DEnv → R Val} {pos pos2 p q apos pos' : Pos} {x y : Str} {i j : Nat} {xa : Expr}
theorem pss_bAl (hN : X.N.Nodup) (hi : X.N[i]? = some y) (hx : Loc X.env.scope y) (he : DE X e f)
    (hb : PE X (.Call (.Attribute (.Name x q) "append" apos) [xa] [] p) (tBM X.K "list" rAppend (tVar j) (tCons (tVar i) tNil)))
    (hs1 : swapsWith e (some (.Name y pos')) pos.line X.env = pure false := by rfl) (hs2 : swapsWith (.Call (.Attribute (.Name x q) "append" apos) [xa] [] p) none pos2.line X.env = pure false := by rfl)
    (hf : X.fn y = true ∨ X.env.scope.names.lookup y = some .local := by first | exact .inl rfl | exact .inr rfl | assumption) :
    PSs X [.Assign [.Name y pos'] e pos, .Expr (.Call (.Attribute (.Name x q) "append" apos) [xa] [] p) pos2] (tBAl X f i j) :=
  PSs.imp (pss_cons (ps_set hN hi hx (pe_lkG he) hs1 hf) (pss_one (ps_expr hb hs2))) fun D σ H ⟨F0, H0, ρ, ρ', vs, xs, s, al, ρ2, eb, k⟩ => by
    obtain ⟨zs, ys, ρ1, hz, ⟨dp, nij, il, zl⟩, ef, hv, rfl⟩ := bAl_some eb
    refine ⟨F0, H0, ρ', alView i zs ρ, vs, xs, s, al.deep dp, al.vw hz, .lst ys, ρ1, ef, by rw [Val.cln]; exact hv, fun H1 v s1 => ?_⟩
    obtain ⟨qa, rfl⟩ := s1.topRef
    have hl' : ρ'.length = ρ.length := by
      rcases al with ⟨_, rfl⟩ | ⟨_, _, zs', x', p', _, _, rfl⟩
      · rfl
      · rw [List.length_set]
    have sl : σ.length = ρ.length := by rw [s1.len, hl']
    -- the name holds the new list, the slot is forgotten
    have s2 := (s1.drop i).any (i := i) (by rw [List.getElem?_set_self (by rw [hl']; exact il)]) (some (.ref qa))
    have hσi : (σ.set i (some (.ref qa)))[i]? = some (some (.ref qa)) := List.getElem?_set_self (by rw [sl]; exact il)
    -- what j holds
    have hj : ∃ zt : List Val, (ρ'.set i none)[j]? = some (some (.lst zt)) ∧ zt.length = zs.length ∧ ∀ F H us f, Owns X.K F H us zt f → Owns X.K F H us zs f := by
      rw [List.getElem?_set_ne nij]
      rcases al with ⟨_, rfl⟩ | ⟨_, _, zs', x', p', h3, _, rfl⟩
      · exact ⟨zs, hz, rfl, fun _ _ _ _ h => h⟩
      · rw [hz] at h3
        have h3 := Val.lst.inj (Option.some.inj (Option.some.inj h3))
        subst h3
        exact ⟨_, List.getElem?_set_self (List.getElem?_eq_some_iff.mp hz).1, by simp, fun _ _ _ _ h => h.untag⟩
    obtain ⟨zt, hj, zl2, unt⟩ := hj
    obtain ⟨pj, ws, c1, c2, c3, c4⟩ := Stt.edit (as := [.ref qa]) (bs := [.lst ys]) rfl s2 hj
    refine ⟨.ref pj, c1, .inl ⟨rfl, ws, .of c2⟩, .ref qa, hσi, pj, ws, .ref qa, rfl, rfl, c2, by rw [c3, zl2, sizeLine_eq]; omega, ?_⟩
    have s3 := c4 (ws ++ [.ref qa]) (zs ++ [.at qa (.lst ys)]) [] [] fun F H f hO => by
      obtain ⟨f1, f2, d1, d2, d3, d4⟩ := Owns.split c3 hO
      have d2' : Owns X.K F H [.ref qa] [.at qa (.lst ys)] f2 := by
        cases d2 with
        | cons a t => exact .cons (.at a) t
      obtain ⟨f3, e1, e2, e3⟩ := (unt _ _ _ _ d1).append d2'
      exact ⟨f3, [], e1, .nil, by rw [List.append_nil]; exact e2.trans d3⟩
    have eρ : (ρ'.set i none).set j (some (.lst (zs ++ [.at qa (.lst ys)]))) = ((ρ.set i none).set j (some (.lst (zs ++ [.lst ys])))).set j (some (.lst (zs ++ [.at qa (.lst ys)]))) := by
      rw [List.set_set]
      rcases al with ⟨_, rfl⟩ | ⟨_, _, zs', x', p', _, _, rfl⟩
      · rfl
      · rw [List.set_comm _ _ nij.symm, List.set_set]
    refine k _ _ _ s3 (.inr ⟨?_, nij, zs, .lst ys, qa, ?_, hσi, eρ⟩)
    · rw [List.getElem?_set_ne nij.symm, List.getElem?_set_self il]
    · exact List.getElem?_set_self (by rw [List.length_set]; exact (List.getElem?_eq_some_iff.mp hz).1)
end
theorem forget_get : ∀ {fg : List Nat} {ρ : DEnv} {i : Nat}, i ∉ fg → (forget fg ρ)[i]? = ρ[i]?
  | [], _, _, _ => rfl
  | k :: fg, ρ, i, h => by
    show (forget fg (ρ.set k none))[i]? = _
    rw [forget_get (fun z => h (List.mem_cons_of_mem _ z)), List.getElem?_set_ne (fun z => h (by rw [z]; exact List.mem_cons_self))]
theorem forget_set : ∀ {fg : List Nat} {ρ : DEnv} {j : Nat} {y : Option Val}, j ∉ fg → forget fg (ρ.set j y) = (forget fg ρ).set j y
  | [], _, _, _, _ => rfl
  | k :: fg, ρ, j, y, h => by
    show forget fg ((ρ.set j y).set k none) = (forget fg (ρ.set k none)).set j y
    rw [List.set_comm _ _ (fun z => h (by rw [z]; exact List.mem_cons_self)), forget_set (fun z => h (List.mem_cons_of_mem _ z))]
theorem AlAt.forget {fg : List Nat} {i j : Nat} {σ : L2.St} {ρ ρ' : DEnv} (hi : i ∉ fg) (hj : j ∉ fg) (al : AlAt i j σ ρ ρ') : AlAt i j σ (DL.forget fg ρ) (DL.forget fg ρ') := by
  rcases al with ⟨⟨x, h0⟩, rfl⟩ | ⟨h1, h2, zs, x, p, h3, h4, rfl⟩
  · exact .inl ⟨⟨x, by rw [forget_get hi]; exact h0⟩, rfl⟩
  · exact .inr ⟨by rw [forget_get hi]; exact h1, h2, zs, x, p, by rw [forget_get hj]; exact h3, h4, forget_set hj⟩
def sForAl (fi : DEnv → R (List D)) (n i j : Nat) (f : DEnv → R Val) (fg : List Nat) : DEnv → Fl := fun ρ => (fi ρ).fl fun ds ρ1 => match getV (forget fg ρ1)[i]? with
  | some _ => loop (kName n) (bAl i j f) fg ds (forget fg ρ1)
  | none => .bad
section
variable {X : Cx} {tg iter : Expr} {body : List Stmt} {fi : DEnv → R (List D)} {f : DEnv → R Val} {n i j : Nat} {pos : Pos}
theorem ds_forAl (fg : List Nat) (hp : PassesOwn (model X.prog X.w) X.A X.env X.xe) (hc : X.calm = true) (hi : DI X tg iter fi) (hg : DG X tg [n] (kName n)) (hb : PSs X body (tBAl X f i j)) (hn : n ≠ i ∧ n ≠ j) (hfi : i ∉ fg) (hfj : j ∉ fg)
    (hs : ∀ x, foldedSetIterable iter X.env x = pure x := by intro _; rfl) : DS X (.For tg iter body [] pos) (sForAl fi n i j f fg) :=
  PS.imp (ps_for hp hc hi hg hb hs) fun D σ H ⟨F0, H0, ρ, vs, xs, s, q⟩ => by
    refine ⟨F0, H0, ρ, vs, xs, s, (post_fl q).imp (fun ds ρ1 q1 F1 H1 J s1 rb wk => ?_) fun _ _ z => z⟩
    cases e0 : getV (forget fg ρ1)[i]? with
    | none => rw [e0] at q1; exact q1.elim
    | some x0 =>
      rw [e0] at q1
      have q2 := fpost.base rb q1
      refine ⟨fun k m σ H => m = ds.length - k ∧ k ≤ ds.length ∧ ∃ ρ ρ', Stt X.K F1 H0 H σ ρ' vs xs ∧ AlAt i j σ ρ ρ' ∧ fpost X F1 H0 vs xs D (loop (kName n) (bAl i j f) fg (ds.drop k) ρ), ⟨_, rfl, Nat.zero_le _, _, _, s1.forget, .inl ⟨⟨x0, getV_some e0⟩, rfl⟩, q2⟩, ?_⟩
      rintro k m σ2 H2 ⟨rfl, hi, ρ2, ρ2', s2, al, q3⟩
      obtain ⟨w1, w2⟩ := wk k H2 s2.sub
      by_cases hlt : k < ds.length
      · obtain ⟨go, yl⟩ := w1 ds[k] (List.getElem?_eq_getElem hlt)
        refine .inr ⟨go, fun σ' H' => ∃ ρ ρ', Stt X.K F1 H0 H' σ' ρ' vs xs ∧ AlAt i j σ' ρ ρ' ∧ fpost X F1 H0 vs xs D (loop (kName n) (bAl i j f) fg (ds.drop (k + 1)) ρ), fun σ' H' ⟨ρ', ρ'', s', al', q'⟩ => ⟨ds.length - (k + 1), by omega, rfl, hlt, ρ', ρ'', s', al', q'⟩, fun x H' hy => ?_⟩
        have s3 := yl x H' hy H0 σ2 ρ2' vs xs s2
        rw [List.drop_eq_getElem_cons hlt] at q3
        unfold loop at q3
        have hl' : ρ2'.length = ρ2.length := by
          rcases al with ⟨_, rfl⟩ | ⟨_, _, zs', x', p', _, _, rfl⟩
          · rfl
          · rw [List.length_set]
        by_cases hnl : n < ρ2.length
        rotate_left
        · rw [show kName n ds[k] ρ2 = none from if_neg hnl] at q3; exact q3.elim
        rw [show kName n ds[k] ρ2 = some (ρ2.set n (some (.sh ds[k]))) from if_pos hnl] at q3
        refine ⟨F1, H0, ρ2', vs, xs, ds[k], s3, ρ2'.set n (some (.sh ds[k])), if_pos (by rw [hl']; exact hnl), fun σ4 H4 _ kσ s4 => ?_⟩
        have al4 : AlAt i j σ4 (ρ2.set n (some (.sh ds[k]))) (ρ2'.set n (some (.sh ds[k]))) := by
          rcases al with ⟨⟨x, h0⟩, rfl⟩ | ⟨h1, h2, zs, x, p, h3, h4, rfl⟩
          · exact .inl ⟨⟨x, by rw [List.getElem?_set_ne hn.1]; exact h0⟩, rfl⟩
          · exact .inr ⟨by rw [List.getElem?_set_ne hn.1]; exact h1, h2, zs, x, p, by rw [List.getElem?_set_ne hn.2]; exact h3, by rw [kσ i (by simpa using hn.1.symm)]; exact h4, by rw [List.set_comm _ _ hn.2.symm]⟩
        dsimp only at q3
        cases e2 : bAl i j f (ρ2.set n (some (.sh ds[k]))) with
        | nx ρ5 =>
          rw [e2] at q3
          exact ⟨F1, H0, ρ2.set n (some (.sh ds[k])), ρ2'.set n (some (.sh ds[k])), vs, xs, s4, al4, ρ5, e2, fun σ5 H5 ρ5' s5 al5 => ⟨_, _, s5.forget, al5.forget hfi hfj, q3⟩⟩
        | rt x ρ5 => unfold bAl at e2; split at e2 <;> (try split at e2) <;> (try split at e2) <;> (try split at e2) <;> cases e2
        | bk ρ5 => unfold bAl at e2; split at e2 <;> (try split at e2) <;> (try split at e2) <;> (try split at e2) <;> cases e2
        | ct ρ5 => unfold bAl at e2; split at e2 <;> (try split at e2) <;> (try split at e2) <;> (try split at e2) <;> cases e2
        | exc x ρ5 => unfold bAl at e2; split at e2 <;> (try split at e2) <;> (try split at e2) <;> (try split at e2) <;> cases e2
        | bad => rw [e2] at q3; exact q3.elim
      · have ei : k = ds.length := by omega
        subst ei
        rw [List.drop_length] at q3
        exact .inl ⟨w2 (Nat.le_refl _), q3 σ2 H2 (al.back s2)⟩
end
/-! ### return x[::-1], the caller's own -/
section
variable {K : PySem.W.Frag} {F F0 H0 H : Hp} {σ : L2.St} {ρ : DEnv} {vs : List V} {xs ys : List Val} {p : Addr}
theorem Owns.rev : ∀ {us : List V} {ys : List Val} {f : List Addr}, Owns K F H us ys f → ∃ g, Owns K F H us.reverse ys.reverse g ∧ Sb g f
  | _, _, _, .nil => ⟨[], .nil, .refl _⟩
  | _, _, _, .cons (f := f1) (g := f2) a t => by
    obtain ⟨g, h1, h2⟩ := Owns.rev t
    obtain ⟨h, e1, e2, e3⟩ := h1.append (Owns.cons a .nil)
    rw [List.append_nil] at e2
    refine ⟨h, by simpa using e1, e2.trans ((Sb.comm _ _).trans ((Sb.refl f1).app h2))⟩
theorem Stt.revOpen {w : V} (h : Stt K F0 H0 H σ ρ (w :: vs) (.lst ys :: xs)) : ∃ q ws, w = .ref q ∧ H q = some (.lst ws) ∧ ws.length = ys.length ∧ Stt K F0 H0 H σ ρ (ws.reverse ++ vs) (ys.reverse ++ xs) := by
  obtain ⟨F, f, g, h1, h2, h3, h4, h5, h6, h7, h8⟩ := h
  cases h6 with
  | cons a t =>
    rename_i g1 g2
    cases a with
    | lst k1 k2 k3 =>
      rename_i q ws g3
      obtain ⟨g4, a1, a2⟩ := k3.rev
      obtain ⟨g5, b1, b2, b3⟩ := a1.append t
      have s : Sb (g5 ++ f) (((q :: g3) ++ g2) ++ f) := Sb.app (b2.trans (Sb.app (a2.trans (Sb.right [q] g3)) (.refl g2))) (.refl f)
      exact ⟨q, ws, rfl, k2, k3.length, F, f, g5, h1, h2, h3, h4, h5, b1, s.2 h7, fun b hb => h8 b (s.1 b hb)⟩
end
def sRevTake (i : Nat) : DEnv → R Val := fun ρ => match getV ρ[i]? with
  | some (.lst ys) => .ok (.lst ys.reverse) (ρ.set i none)
  | _ => .bad
theorem de_revTake {X : Cx} {x : Str} {q p1 p2 p3 pos : Pos} {i k : Nat} (hx : PE X (.Name x q) (tVar i)) : DE X (.Subscript (.Name x q) (.Slice none none (some (.UnaryOp .USub (.Constant (.int 1) k p1) p2)) p3) pos) (sRevTake i) :=
  PE.imp (pe_revL hx) fun σ H Q ⟨F0, H0, ρ, vs, xs, s, q⟩ => by
    unfold sRevTake at q
    match e0 : getV ρ[i]?, q with
    | some (.lst ys), q =>
      obtain ⟨v, k0, s1⟩ := s.take (getV_some e0)
      obtain ⟨pp, ws, rfl, h1, h2, s2⟩ := s1.revOpen
      exact ⟨_, k0, pp, ws, rfl, .of h1, fun p np => q _ _ (Stt.newLst (by simp [h2]) s2 np)⟩
/-! ### reckoning -/
@[simp] theorem sRevTake_ap {i : Nat} {ρ : DEnv} : sRevTake i ρ = match getV ρ[i]? with | some (.lst ys) => .ok (.lst ys.reverse) (ρ.set i none) | _ => .bad := id rfl
def onF (o : Option Val) (k : Fl) : Fl := match o with
  | some _ => k
  | none => .bad
@[simp] theorem onF_s {x : Val} {k : Fl} : onF (some x) k = k := id rfl
@[simp] theorem sForAl_ap {fi : DEnv → R (List D)} {n i j : Nat} {f : DEnv → R Val} {fg : List Nat} {ρ : DEnv} : sForAl fi n i j f fg ρ = (fi ρ).fl fun ds ρ1 => onF (getV (forget fg ρ1)[i]?) (loop (kName n) (bAl i j f) fg ds (forget fg ρ1)) := by
  unfold sForAl onF
  congr 1
theorem bAl_step {i j : Nat} {f : DEnv → R Val} {ρ ρ1 : DEnv} {zs ys : List Val} (hz : ρ[j]? = some (some (.lst zs))) (hc : ρ.all okO = true) (hij : i ≠ j) (hi : i < ρ.length) (hl : zs.length < 10000000) (hf : f (alView i zs ρ) = .ok (.lst ys) ρ1) (hv : vclns ys = true) : bAl i j f ρ = .nx ((ρ.set i none).set j (some (.lst (zs ++ [.lst ys])))) := by
  unfold bAl
  rw [hz]
  show (if _ then _ else _) = _
  rw [if_pos ⟨hc, hij, hi, hl⟩, hf]
  show (if _ then _ else _) = _
  rw [if_pos hv]
end DL

/-! DW: things told by where they stand: a list copied, and set beside its copy. -/
namespace DL
open PySem PySem.Spec L2
/-- items with their addresses told -/
def tagd : List Addr → List D → List Val
  | p :: ps, d :: ds => .at p (.sh d) :: tagd ps ds
  | _, _ => []
def shsI : List Val → Option (List D)
  | [] => some []
  | .sh (.ins C ns es) :: xs => (shsI xs).map (D.ins C ns es :: ·)
  | _ :: _ => none
def insB : D → Bool
  | .ins _ _ _ => true
  | _ => false
theorem shsI_some : ∀ {xs : List Val} {ds : List D}, shsI xs = some ds → xs = ds.map .sh ∧ ds.all insB = true
  | [], ds, h => by cases h; exact ⟨rfl, rfl⟩
  | .sh (.ins C ns es) :: xs, ds, h => by
    obtain ⟨ds', h1, h2⟩ := Option.map_eq_some_iff.mp (show (shsI xs).map _ = some ds from h)
    subst h2
    obtain ⟨e1, e2⟩ := shsI_some h1
    exact ⟨by rw [e1]; rfl, by rw [List.all_cons, e2]; rfl⟩
theorem shsI_map : ∀ {ds : List D}, ds.all insB = true → shsI (ds.map .sh) = some ds
  | [], _ => rfl
  | .ins C ns es :: ds, h => by
    have := shsI_map (ds := ds) (by simpa [insB] using h)
    show (shsI (ds.map .sh)).map _ = _
    rw [this]; rfl
section
variable {K : PySem.W.Frag} {F F0 H0 H : Hp} {σ : L2.St} {ρ : DEnv} {vs us : List V} {xs : List Val} {f : List Addr} {i j : Nat} {p : Addr} {v : V} {x y : Val}
theorem owns_refs : ∀ {ds : List D} {us : List V} {f : List Addr}, Owns K F H us (ds.map .sh) f → ds.all insB = true → ∃ ps : List Addr, us = ps.map V.ref ∧ ps.length = ds.length
  | [], _, _, .nil, _ => ⟨[], rfl, rfl⟩
  | .ins C ns es :: ds, _, _, .cons a t, h => by
    obtain ⟨ps, e1, e2⟩ := owns_refs t (by simpa [insB] using h)
    cases a with
    | sh a =>
      cases a with
      | @ins aa _ _ _ _ _ _ _ _ => exact ⟨aa :: ps, by rw [e1]; rfl, by simp [e2]⟩
theorem owns_tagd : ∀ {ds : List D} {ps : List Addr} {f : List Addr}, Owns K F H (ps.map V.ref) (ds.map .sh) f → Owns K F H (ps.map V.ref) (tagd ps ds) f
  | [], [], _, .nil => .nil
  | d :: ds, p :: ps, _, .cons a t => .cons (.at a) (owns_tagd t)
theorem Sl.convV : ∀ {σ : L2.St} {ρ : DEnv} {f : List Addr} (i : Nat) {x y : Val} {v : V}, Sl K F H σ ρ f → ρ[i]? = some (some x) → σ[i]? = some (some v) → (∀ g, Own K F H v x g → Own K F H v y g) → Sl K F H σ (ρ.set i (some y)) f
  | _, _, _, _, _, _, _, .nil, e, _, _ => by simp at e
  | _, _, _, 0, _, _, _, .un t, e, _, _ => by simp at e
  | _, _, _, 0, _, _, _, .bd h t, e, e2, k => by
    simp at e e2
    subst e e2
    exact .bd (k _ h) t
  | _, _, _, i + 1, x, y, _, .un t, e, e2, k => .un (Sl.convV i t (by simpa using e) (by simpa using e2) k)
  | _, _, _, i + 1, x, y, _, .bd h t, e, e2, k => .bd h (Sl.convV i t (by simpa using e) (by simpa using e2) k)
theorem Stt.tagd {ds : List D} (h : Stt K F0 H0 H σ ρ vs xs) (e : ρ[i]? = some (some (.lst (ds.map .sh)))) (ha : ds.all insB = true) : ∃ ps : List Addr, ps.length = ds.length ∧ Stt K F0 H0 H σ (ρ.set i (some (.lst (tagd ps ds)))) vs xs := by
  obtain ⟨v, k0, F, f, hF, ho, _⟩ := h.peek e
  cases ho with
  | @lst pp us zs ff h1 h2 h3 =>
    obtain ⟨ps, rfl, e2⟩ := owns_refs h3 ha
    obtain ⟨F', f', g', q1, q2, q3, q4, q5, q6, q7, q8⟩ := h
    refine ⟨ps, e2, F', f', g', q1, q2, q3, q4, q5.convV i e k0 fun g o => ?_, q6, q7, q8⟩
    cases o with
    | lst o1 o2 o3 =>
      rw [h2] at o2
      cases o2
      exact .lst o1 h2 (owns_tagd o3)
end
/-- what it does must not lean on the addresses -/
noncomputable def tagB (i : Nat) (f : DEnv → Fl) (ρ : DEnv) (o : Option Val) : Fl := match o with
  | some (.lst xs) => match shsI xs with
    | some ds => open Classical in if h : ∃ r, ∀ ps : List Addr, ps.length = ds.length → f (ρ.set i (some (.lst (tagd ps ds)))) = r then h.choose else .bad
    | none => .bad
  | _ => .bad
noncomputable def sTagB (i : Nat) (f : DEnv → Fl) : DEnv → Fl := fun ρ => tagB i f ρ (getV ρ[i]?)
theorem tagB_eq {i : Nat} {f : DEnv → Fl} {ρ : DEnv} {ds : List D} {r : Fl} (ha : ds.all insB = true) (h : ∀ ps : List Addr, ps.length = ds.length → f (ρ.set i (some (.lst (tagd ps ds)))) = r) : tagB i f ρ (some (.lst (ds.map .sh))) = r := by
  have hx : ∃ r, ∀ ps : List Addr, ps.length = ds.length → f (ρ.set i (some (.lst (tagd ps ds)))) = r := ⟨r, h⟩
  unfold tagB
  dsimp only
  rw [shsI_map ha]
  dsimp only
  rw [dif_pos hx]
  have e := hx.choose_spec (List.replicate ds.length 0) (by simp)
  rw [← e]
  exact h _ (by simp)
section
variable {X : Cx} {ss : List Stmt} {f : DEnv → Fl} {i j : Nat} {pos p q : Pos} {x y : Str}
theorem dss_tag (h : DSs X ss f) : DSs X ss (sTagB i f) :=
  PSs.imp h fun D σ H ⟨F0, H0, ρ, vs, xs, s, q⟩ => by
    unfold sTagB at q
    match e0 : getV ρ[i]?, q with
    | some (.lst ys), q =>
      unfold tagB at q
      dsimp only at q
      cases e1 : shsI ys with
      | none => rw [e1] at q; exact q.elim
      | some ds =>
        rw [e1] at q
        dsimp only at q
        split at q
        · rename_i hx
          obtain ⟨rfl, ha⟩ := shsI_some e1
          obtain ⟨ps, e2, s2⟩ := s.tagd (getV_some e0) ha
          have e := hx.choose_spec ps e2
          refine ⟨F0, H0, _, vs, xs, s2, ?_⟩
          rw [e]
          exact q
        · exact q.elim
/-! ### list(x), the items as they are -/
def shb : Val → Bool
  | .sh _ => true
  | .at _ (.sh _) => true
  | _ => false
theorem owns_dup {K : PySem.W.Frag} {F H : Hp} : ∀ {xs : List Val} {us : List V} {f : List Addr}, Owns K F H us xs f → xs.all shb = true → Owns K F H us xs []
  | [], _, _, .nil, _ => .nil
  | .sh d :: xs, _, _, .cons a t, h => by
    cases a with
    | sh a => exact .cons (f := []) (g := []) (.sh a) (owns_dup t (by simpa [shb] using h))
  | .at p (.sh d) :: xs, _, _, .cons a t, h => by
    cases a with
    | «at» a =>
      cases a with
      | sh a => exact .cons (f := []) (g := []) (.at (.sh a)) (owns_dup t (by simpa [shb] using h))
def sListO (i : Nat) : DEnv → R Val := fun ρ => match getV ρ[i]? with
  | some (.lst xs) => if xs.all shb = true then .ok (.lst xs) ρ else .bad
  | _ => .bad
theorem Stt.dupL {K : PySem.W.Frag} {F0 H0 H : Hp} {σ : L2.St} {ρ : DEnv} {vs : List V} {xs : List Val} {ys : List Val} (h : Stt K F0 H0 H σ ρ vs xs) (e : ρ[i]? = some (some (.lst ys))) (hs : ys.all shb = true) : ∃ pp us, σ[i]? = some (some (.ref pp)) ∧ H pp = some (.lst us) ∧ us.length = ys.length ∧ Stt K F0 H0 H σ ρ (us ++ vs) (ys ++ xs) := by
  obtain ⟨F, f, g, h1, h2, h3, h4, h5, h6, h7, h8⟩ := h
  obtain ⟨v, g1, r, k1, k2, k3, k4⟩ := Sl.take i h5 e
  cases k2 with
  | @lst pp us _ ff o1 o2 o3 =>
    obtain ⟨g2, a1, a2, a3⟩ := (owns_dup o3 hs).append h6
    exact ⟨pp, us, k1, o2, o3.length, F, f, g2, h1, h2, h3, h4, h5, a1, (Sb.app (by simpa using a2) (.refl f)).2 h7, fun b hb => h8 b ((Sb.app (show Sb g2 g by simpa using a2) (.refl f)).1 b hb)⟩
theorem de_listO (hg : Gl X "list") (hm : X.mg "list" = none) (hx : PE X (.Name x q) (tVar i)) (he : starEach [.Name x q] X.env = (false, eval (.Name x q) X.env) :: starEach [] X.env := by rfl) : DE X (.Call (.Name "list" p) [.Name x q] [] pos) (sListO i) :=
  PE.imp (pe_callTy call_listA hg hm (by decide +kernel) (pa_cons hx pa_nil he) (he := he)) fun σ H Q ⟨F0, H0, ρ, vs, xs, s, q⟩ => by
    unfold sListO at q
    match e : getV ρ[i]?, q with
    | some (.lst ys), q =>
      dsimp only at q
      split at q
      · rename_i hs
        obtain ⟨pp, us, k1, o2, hl, s2⟩ := s.dupL (getV_some e) hs
        exact ⟨_, k1, _, rfl, pp, us, rfl, .inl (.of o2), fun l nl => q _ _ (Stt.newLst hl s2 nl)⟩
      · exact q.elim
/-! ### x != y of two lists with the same things -/
def atsOf : List Val → Option (List Addr)
  | [] => some []
  | .at p (.sh _) :: xs => (atsOf xs).map (p :: ·)
  | _ :: _ => none
theorem owns_ats {K : PySem.W.Frag} {F H : Hp} : ∀ {xs : List Val} {us : List V} {f : List Addr} {ps : List Addr}, Owns K F H us xs f → atsOf xs = some ps → us = ps.map V.ref
  | [], _, _, ps, .nil, h => by cases h; rfl
  | .at p (.sh d) :: xs, _, _, ps, .cons a t, h => by
    obtain ⟨ps', h1, h2⟩ := Option.map_eq_some_iff.mp (show (atsOf xs).map _ = some ps from h)
    subst h2
    have e := owns_ats t h1
    cases a with
    | «at» a => rw [e]; rfl
def rNeS (K : PySem.W.Frag) : R2 := fun x y H Q => ∃ (a b : Addr) (us : List Addr), x = .ref a ∧ y = .ref b ∧ SqL K H a (us.map V.ref) ∧ SqL K H b (us.map V.ref) ∧ Q (.bl false) H
theorem vals_same : ∀ {us : List Addr} {its its2 : List Value}, Vals (us.map V.ref) its → Vals (us.map V.ref) its2 → its = its2
  | [], _, _, .nil, .nil => rfl
  | p :: us, _, _, .cons a t, .cons b u => by
    cases a
    cases b
    rw [vals_same t u]
theorem op_neS (hu : X.A.units < cLine) : OpR X (compareOp .NotEq) (rNeS X.K) := by
  intro pins s σ H x y v u Q I rx ry h
  obtain ⟨a, b, us, rfl, rfl, ha, hb, q⟩ := h
  cases rx
  cases ry
  obtain ⟨its, r1, p1, _⟩ := I.list ha
  obtain ⟨its2, r2, p2, _⟩ := I.list hb
  have e := vals_same r1 r2
  subst e
  have z := PySem.SeqAt.RcNeAt.lists (A := X.A) (e := fun _ => true) p1.isList p2.isList rfl hu (fun j h1 h2 => PySem.SeqAt.EqAt.same _)
  have ea : (!(List.range its.toArray.size).all fun _ => true) = false := by simp
  rw [ea] at z
  exact z _ _ _ _ ⟨.bl false, H, I, rfl, q⟩
def sNeS (j i : Nat) : DEnv → R Val := fun ρ => match getV ρ[j]?, getV ρ[i]? with
  | some (.lst xs), some (.lst ys) => match atsOf xs, atsOf ys with
    | some ps, some qs => if ps = qs then .ok (.sh (.bl false)) ρ else .bad
    | _, _ => .bad
  | _, _ => .bad
theorem tE_neS {σ : L2.St} {H : Hp} {Q : VK} (h : tE X (sNeS j i) σ H Q) : tOp (rNeS X.K) (tVar j) (tVar i) σ H Q := by
  obtain ⟨F0, H0, ρ, vs, xs, s, q⟩ := h
  unfold sNeS at q
  match e1 : getV ρ[j]?, e2 : getV ρ[i]?, q with
  | some (.lst xs1), some (.lst ys1), q =>
    dsimp only at q
    cases e3 : atsOf xs1 with
    | none => rw [e3] at q; exact q.elim
    | some ps =>
      cases e4 : atsOf ys1 with
      | none => rw [e3, e4] at q; exact q.elim
      | some qs =>
        rw [e3, e4] at q
        dsimp only at q
        split at q
        · rename_i e5
          subst e5
          obtain ⟨v1, k1, F, f, hF, o1, _⟩ := s.peek (getV_some e1)
          obtain ⟨v2, k2, F', f', hF', o2, _⟩ := s.peek (getV_some e2)
          cases o1 with
          | lst a1 a2 a3 =>
            cases o2 with
            | lst b1 b2 b3 =>
              have h1 := owns_ats a3 e3
              have h2 := owns_ats b3 e4
              subst h1 h2
              exact ⟨_, k1, _, k2, _, _, ps, rfl, rfl, .of a2, .of b2, q H _ (s.scal fun _ => .bl _)⟩
        · exact q.elim
theorem de_neS (hu : X.A.units < cLine) (hy : PE X (.Name y q) (tVar j)) (hx : PE X (.Name x p) (tVar i)) : DE X (.Compare (.Name y q) [.NotEq] [.Name x p] pos) (sNeS j i) :=
  PE.imp (pe_cmpR (op_neS hu) hy hx (nomark _)) fun σ H Q h => tE_neS h
theorem dt_neS (hu : X.A.units < cLine) (hy : PE X (.Name y q) (tVar j)) (hx : PE X (.Name x p) (tVar i)) : DT X (.Compare (.Name y q) [.NotEq] [.Name x p] pos) (sTst (sNeS j i)) :=
  PT.imp (pt_cmpR (op_neS hu) hy hx (nomark _)) fun σ H Q h => tE_neS (tB_of h)
end
/-! ### reckoning -/
@[simp] theorem sTagB_ap {i : Nat} {f : DEnv → Fl} {ρ : DEnv} : sTagB i f ρ = tagB i f ρ (getV ρ[i]?) := id rfl
@[simp] theorem sListO_ap {i : Nat} {ρ : DEnv} : sListO i ρ = match getV ρ[i]? with | some (.lst xs) => if xs.all shb = true then .ok (.lst xs) ρ else .bad | _ => .bad := id rfl
theorem tagd_shb : ∀ (ps : List Addr) (ds : List D), (tagd ps ds).all shb = true
  | [], _ => rfl
  | _ :: _, [] => rfl
  | p :: ps, d :: ds => by
    have := tagd_shb ps ds
    simp only [tagd, List.all_cons, this, shb, Bool.and_true]
theorem tagd_ats : ∀ (ps : List Addr) (ds : List D), ps.length = ds.length → atsOf (tagd ps ds) = some ps
  | [], [], _ => rfl
  | p :: ps, d :: ds, h => by
    have := tagd_ats ps ds (by simpa using h)
    show (atsOf (tagd ps ds)).map _ = _
    rw [this]; rfl
theorem tagd_fz : ∀ (ps : List Addr) (ds : List D), ps.length = ds.length → fzs (tagd ps ds) = ds
  | [], [], _ => by simp [tagd, fzs]
  | p :: ps, d :: ds, h => by
    have := tagd_fz ps ds (by simpa using h)
    simp [tagd, fzs, Val.fz, this]
theorem tagd_lk : ∀ (ps : List Addr) (ds : List D), ps.length = ds.length → lks (tagd ps ds) = ds
  | [], [], _ => by simp [tagd, lks]
  | p :: ps, d :: ds, h => by
    have := tagd_lk ps ds (by simpa using h)
    simp [tagd, lks, Val.lk, this]
theorem tagd_deep : ∀ (ps : List Addr) (ds : List D), deeps (tagd ps ds) = true
  | [], _ => by simp [tagd, deeps]
  | _ :: _, [] => by simp [tagd, deeps]
  | p :: ps, d :: ds => by
    have := tagd_deep ps ds
    simp [tagd, deeps, Val.deep, this]
theorem sNeS_ap {j i : Nat} {ρ : DEnv} {ps : List Addr} {xs ys : List Val} (h1 : ρ[j]? = some (some (.lst xs))) (h2 : ρ[i]? = some (some (.lst ys))) (h3 : atsOf xs = some ps) (h4 : atsOf ys = some ps) : sNeS j i ρ = .ok (.sh (.bl false)) ρ := by
  unfold sNeS
  rw [h1, h2]
  show (match atsOf xs, atsOf ys with | some ps, some qs => _ | _, _ => _) = _
  rw [h3, h4]
  show (if _ then _ else _) = _
  rw [if_pos rfl]
end DL


/-! HU: ways in the plane: which of them turn about the middle, and which lie to one side. No program in sight. -/
namespace HU
abbrev P2 := Int × Int
def tn (a b : P2) : Int := a.1 * b.2 - a.2 * b.1
def dt (a b : P2) : Int := a.1 * b.1 + a.2 * b.2
theorem tn_swap (a b : P2) : tn b a = -tn a b := by unfold tn; grind
theorem dt_swap (a b : P2) : dt b a = dt a b := by unfold dt; grind
theorem tn_self (a : P2) : tn a a = 0 := by unfold tn; grind
theorem id1 (a b c : P2) : tn c b * dt a a = dt a b * tn c a + tn a b * dt c a := by unfold tn dt; grind
theorem id2 (a b r : P2) : dt a b * dt r r = dt r a * dt r b + tn r a * tn r b := by unfold tn dt; grind
theorem id3 (a b c r : P2) : tn b c * tn r a + tn c a * tn r b + tn a b * tn r c = 0 := by unfold tn; grind
theorem pos_left {x y : Int} (h : 0 < x * y) (hy : 0 ≤ y) : 0 < x := by
  rcases Int.lt_or_le 0 x with h1 | h1
  · exact h1
  · have := Int.mul_le_mul_of_nonneg_right h1 hy
    omega
theorem nn_left {x y : Int} (h : 0 ≤ x * y) (hy : 0 < y) : 0 ≤ x := by
  rcases Int.lt_or_le x 0 with h1 | h1
  · have := Int.mul_neg_of_neg_of_pos h1 hy
    omega
  · exact h1
theorem sq_nn (x : Int) : 0 ≤ x * x := by
  rcases Int.le_total 0 x with h | h
  · exact Int.mul_nonneg h h
  · exact Int.mul_nonneg_of_nonpos_of_nonpos h h
theorem dt_nn (a : P2) : 0 ≤ dt a a := by
  have h1 := sq_nn a.1
  have h2 := sq_nn a.2
  unfold dt; omega
theorem dt_pos {a : P2} (h : a ≠ (0, 0)) : 0 < dt a a := by
  have h1 := sq_nn a.1
  have h2 := sq_nn a.2
  unfold dt
  rcases Int.lt_or_le 0 (a.1 * a.1 + a.2 * a.2) with h3 | h3
  · exact h3
  · exfalso
    have e1 : a.1 * a.1 = 0 := by omega
    have e2 : a.2 * a.2 = 0 := by omega
    rcases Int.mul_eq_zero.mp e1 with e1 | e1
    all_goals rcases Int.mul_eq_zero.mp e2 with e2 | e2
    all_goals exact h (Prod.ext e1 e2)
def O2 (a b : P2) : Prop := tn a b = 0 ∧ dt a b < 0
def T3 (a b c : P2) : Prop := (0 < tn b c ∧ 0 < tn c a ∧ 0 < tn a b) ∨ (tn b c < 0 ∧ tn c a < 0 ∧ tn a b < 0)
def left (a b : P2) : Prop := 0 < tn a b ∨ (tn a b = 0 ∧ 0 < dt a b)
structure Good (ws : List P2) : Prop where
  nz : ∀ a ∈ ws, a ≠ (0, 0)
  no2 : ∀ a ∈ ws, ∀ b ∈ ws, ¬ O2 a b
  no3 : ∀ a ∈ ws, ∀ b ∈ ws, ∀ c ∈ ws, ¬ T3 a b c
/-- alike ways -/
theorem Good.same {ws : List P2} (g : Good ws) {a b : P2} (ha : a ∈ ws) (hb : b ∈ ws) (h : tn a b = 0) : 0 < dt a b := by
  have h1 : ¬ dt a b < 0 := fun z => g.no2 a ha b hb ⟨h, z⟩
  have h2 := id2 a a b
  have h3 := dt_pos (g.nz a ha)
  have h4 := dt_pos (g.nz b hb)
  rcases Int.lt_or_eq_of_le (show 0 ≤ dt a b by omega) with h5 | h5
  · exact h5
  · exfalso
    have e1 : dt b a = 0 := by rw [dt_swap]; omega
    have e2 : tn b a = 0 := by rw [tn_swap]; omega
    rw [e1, e2] at h2
    have := Int.mul_pos h3 h4
    omega
theorem Good.trans {ws : List P2} (g : Good ws) {a b c : P2} (ha : a ∈ ws) (hb : b ∈ ws) (hc : c ∈ ws) (h1 : 0 ≤ tn a b) (h2 : 0 ≤ tn b c) : 0 ≤ tn a c := by
  rcases Int.lt_or_le (tn a c) 0 with h | h
  · exfalso
    have hca : 0 < tn c a := by rw [tn_swap]; omega
    rcases Int.lt_or_eq_of_le h1 with p1 | p1
    · rcases Int.lt_or_eq_of_le h2 with p2 | p2
      · exact g.no3 a ha b hb c hc (.inl ⟨p2, hca, p1⟩)
      · have d := g.same hb hc p2.symm
        have i := id1 b c a
        rw [← p2] at i
        have q1 : 0 < tn a b := p1
        have q2 := Int.mul_pos d q1
        have q3 : 0 < tn a c * dt b b := by rw [i]; omega
        have := pos_left q3 (dt_nn b)
        omega
    · have d := g.same ha hb p1.symm
      have i := id1 a b c
      rw [← p1] at i
      have q2 := Int.mul_pos d hca
      have q3 : 0 < tn c b * dt a a := by rw [i]; omega
      have := pos_left q3 (dt_nn a)
      have e := tn_swap b c
      omega
  · exact h
/-- the walk to the outermost -/
def outer (s : Int) (b : P2) (ws : List P2) : P2 := ws.foldl (fun b w => if s * tn b w < 0 then w else b) b
theorem outer_mem (s : Int) : ∀ (ws : List P2) (b : P2), outer s b ws = b ∨ outer s b ws ∈ ws
  | [], b => .inl rfl
  | w :: ws, b => by
    unfold outer
    rw [List.foldl_cons]
    rcases outer_mem s ws (if s * tn b w < 0 then w else b) with h | h
    · unfold outer at h
      rw [h]
      split
      · exact .inr List.mem_cons_self
      · exact .inl rfl
    · exact .inr (List.mem_cons_of_mem _ h)
theorem outer_1 {all : List P2} (g : Good all) : ∀ (ws : List P2) (b : P2) (seen : List P2), b ∈ all → (∀ w ∈ ws, w ∈ all) → (∀ v ∈ seen, v ∈ all) → (∀ v ∈ seen, 0 ≤ tn b v) → ∀ v, v ∈ seen ∨ v ∈ ws → 0 ≤ tn (outer 1 b ws) v
  | [], b, seen, hb, hw, hs, h, v, hv => by
    rcases hv with hv | hv
    · exact h v hv
    · cases hv
  | w :: ws, b, seen, hb, hw, hs, h, v, hv => by
    unfold outer
    rw [List.foldl_cons]
    have hwa := hw w List.mem_cons_self
    by_cases c : 1 * tn b w < 0
    · rw [if_pos c]
      refine outer_1 g ws w (w :: seen) hwa (fun u hu => hw u (List.mem_cons_of_mem _ hu)) (fun u hu => ?_) (fun u hu => ?_) v ?_
      · rcases List.mem_cons.mp hu with e | hu
        · rw [e]; exact hwa
        · exact hs u hu
      · rcases List.mem_cons.mp hu with e | hu
        · rw [e, tn_self]; exact Int.le_refl 0
        · refine g.trans hwa hb (hs u hu) ?_ (h u hu)
          rw [tn_swap]; omega
      · rcases hv with hv | hv
        · exact .inl (List.mem_cons_of_mem _ hv)
        · rcases List.mem_cons.mp hv with e | hv
          · exact .inl (e ▸ List.mem_cons_self)
          · exact .inr hv
    · rw [if_neg c]
      refine outer_1 g ws b (w :: seen) hb (fun u hu => hw u (List.mem_cons_of_mem _ hu)) (fun u hu => ?_) (fun u hu => ?_) v ?_
      · rcases List.mem_cons.mp hu with e | hu
        · rw [e]; exact hwa
        · exact hs u hu
      · rcases List.mem_cons.mp hu with e | hu
        · rw [e]; omega
        · exact h u hu
      · rcases hv with hv | hv
        · exact .inl (List.mem_cons_of_mem _ hv)
        · rcases List.mem_cons.mp hv with e | hv
          · exact .inl (e ▸ List.mem_cons_self)
          · exact .inr hv
theorem outer_m {all : List P2} (g : Good all) : ∀ (ws : List P2) (b : P2) (seen : List P2), b ∈ all → (∀ w ∈ ws, w ∈ all) → (∀ v ∈ seen, v ∈ all) → (∀ v ∈ seen, 0 ≤ tn v b) → ∀ v, v ∈ seen ∨ v ∈ ws → 0 ≤ tn v (outer (-1) b ws)
  | [], b, seen, hb, hw, hs, h, v, hv => by
    rcases hv with hv | hv
    · exact h v hv
    · cases hv
  | w :: ws, b, seen, hb, hw, hs, h, v, hv => by
    unfold outer
    rw [List.foldl_cons]
    have hwa := hw w List.mem_cons_self
    by_cases c : -1 * tn b w < 0
    · rw [if_pos c]
      refine outer_m g ws w (w :: seen) hwa (fun u hu => hw u (List.mem_cons_of_mem _ hu)) (fun u hu => ?_) (fun u hu => ?_) v ?_
      · rcases List.mem_cons.mp hu with e | hu
        · rw [e]; exact hwa
        · exact hs u hu
      · rcases List.mem_cons.mp hu with e | hu
        · rw [e, tn_self]; exact Int.le_refl 0
        · exact g.trans (hs u hu) hb hwa (h u hu) (by omega)
      · rcases hv with hv | hv
        · exact .inl (List.mem_cons_of_mem _ hv)
        · rcases List.mem_cons.mp hv with e | hv
          · exact .inl (e ▸ List.mem_cons_self)
          · exact .inr hv
    · rw [if_neg c]
      refine outer_m g ws b (w :: seen) hb (fun u hu => hw u (List.mem_cons_of_mem _ hu)) (fun u hu => ?_) (fun u hu => ?_) v ?_
      · rcases List.mem_cons.mp hu with e | hu
        · rw [e]; exact hwa
        · exact hs u hu
      · rcases List.mem_cons.mp hu with e | hu
        · rw [e, tn_swap]; omega
        · exact h u hu
      · rcases hv with hv | hv
        · exact .inl (List.mem_cons_of_mem _ hv)
        · rcases List.mem_cons.mp hv with e | hv
          · exact .inl (e ▸ List.mem_cons_self)
          · exact .inr hv
theorem outer_left {w : P2} {ws : List P2} (g : Good (w :: ws)) : ∀ v ∈ w :: ws, left (outer 1 w (w :: ws)) v := fun v hv => by
  have hm : outer 1 w (w :: ws) ∈ w :: ws := by
    rcases outer_mem 1 (w :: ws) w with e | e
    · rw [e]; exact List.mem_cons_self
    · exact e
  have h := outer_1 g (w :: ws) w [] List.mem_cons_self (fun _ h => h) (fun v h => by cases h) (fun v h => by cases h) v (.inr hv)
  rcases Int.lt_or_eq_of_le h with h | h
  · exact .inl h
  · exact .inr ⟨h.symm, g.same hm hv h.symm⟩
theorem left_nn {a b : P2} (h : left a b) : 0 ≤ tn a b := by
  rcases h with h | h <;> omega
theorem left_same {a b : P2} (h : left a b) (e : tn a b = 0) : 0 < dt a b := by
  rcases h with h | h
  · omega
  · exact h.2
/-- all on one side -/
theorem good_of_left {ws : List P2} {r : P2} (hr : r ≠ (0, 0)) (h : ∀ v ∈ ws, left r v) : Good ws where
  nz := fun a ha e => by
    have := h a ha
    subst e
    unfold left tn dt at this
    simp at this
  no2 := fun a ha b hb ⟨h1, h2⟩ => by
    have la := h a ha
    have lb := h b hb
    have i := id1 a b r
    rw [h1] at i
    have p1 : 0 ≤ tn r b * dt a a := Int.mul_nonneg (left_nn lb) (dt_nn a)
    have na := left_nn la
    have za : tn r a = 0 := by
      rcases Int.lt_or_eq_of_le na with q | q
      · have := Int.mul_neg_of_neg_of_pos h2 q
        omega
      · exact q.symm
    have da := left_same la za
    have nb : tn r b = 0 := by
      rw [za] at i
      have i2 : tn r b * dt a a = 0 := by omega
      rcases Int.mul_eq_zero.mp i2 with z | z
      · exact z
      · exfalso
        have : a = (0, 0) := by
          refine Classical.byContradiction fun ne => ?_
          have := dt_pos ne
          omega
        subst this
        unfold dt at da; simp at da
    have db := left_same lb nb
    have i3 := id2 a b r
    rw [za, nb] at i3
    have p3 := Int.mul_pos da db
    have p4 : 0 < dt a b * dt r r := by omega
    have := pos_left p4 (dt_nn r)
    omega
  no3 := fun a ha b hb c hc t => by
    have la := h a ha
    have lb := h b hb
    have lc := h c hc
    have i := id3 a b c r
    have na := left_nn la
    have nb := left_nn lb
    have nc := left_nn lc
    have key : ∀ p q s x y z : Int, 0 < p → 0 < q → 0 < s → 0 ≤ x → 0 ≤ y → 0 ≤ z → p * x + q * y + s * z = 0 → x = 0 ∧ y = 0 := by
      intro p q s x y z hp hq hs hx hy hz e
      have e1 := Int.mul_nonneg (Int.le_of_lt hp) hx
      have e2 := Int.mul_nonneg (Int.le_of_lt hq) hy
      have e3 := Int.mul_nonneg (Int.le_of_lt hs) hz
      have f1 : p * x = 0 := by omega
      have f2 : q * y = 0 := by omega
      exact ⟨(Int.mul_eq_zero.mp f1).resolve_left (by omega), (Int.mul_eq_zero.mp f2).resolve_left (by omega)⟩
    have fin : tn r a = 0 → tn r b = 0 → tn a b = 0 := by
      intro za zb
      have i4 := id1 r b a
      rw [zb, tn_swap r a, za] at i4
      have i5 : tn a b * dt r r = 0 := by rw [i4]; simp
      exact (Int.mul_eq_zero.mp i5).resolve_right (by have := dt_pos hr; omega)
    rcases t with ⟨t1, t2, t3⟩ | ⟨t1, t2, t3⟩
    · obtain ⟨za, zb⟩ := key _ _ _ _ _ _ t1 t2 t3 na nb nc i
      have := fin za zb
      omega
    · obtain ⟨za, zb⟩ := key (-tn b c) (-tn c a) (-tn a b) _ _ _ (by omega) (by omega) (by omega) na nb nc (by
        rw [Int.neg_mul, Int.neg_mul, Int.neg_mul]; omega)
      have := fin za zb
      omega
/-- the line between the outermost ones -/
theorem line_pos {w : P2} {ws : List P2} {r l : P2} (g : Good (w :: ws)) (hr : r ∈ w :: ws) (hR : ∀ v ∈ w :: ws, left r v) (hl : l = outer (-1) w (w :: ws)) : ∀ v ∈ w :: ws,
    (tn r l = 0 → 0 < r.1 * v.1 + r.2 * v.2) ∧ (tn r l ≠ 0 → 0 < (l.2 - r.2) * v.1 + (r.1 - l.1) * v.2) := fun v hv => by
  have hlm : l ∈ w :: ws := by
    rw [hl]
    rcases outer_mem (-1) (w :: ws) w with e | e
    · rw [e]; exact List.mem_cons_self
    · exact e
  have hL : 0 ≤ tn v l := by
    rw [hl]
    exact outer_m g (w :: ws) w [] List.mem_cons_self (fun _ h => h) (fun v h => by cases h) (fun v h => by cases h) v (.inr hv)
  have hrv := left_nn (hR v hv)
  have hrz := g.nz r hr
  constructor
  · intro e
    have d := left_same (hR l hlm) e
    have i := id1 r l v
    rw [e] at i
    have z1 : 0 ≤ dt r l * tn v r := by have := Int.mul_nonneg hL (dt_nn r); omega
    have z2 : 0 ≤ tn v r := by rw [Int.mul_comm] at z1; exact nn_left z1 d
    have z3 := tn_swap r v
    exact left_same (hR v hv) (by omega)
  · intro e
    have s : (l.2 - r.2) * v.1 + (r.1 - l.1) * v.2 = tn v l + tn r v := by unfold tn; grind
    rw [s]
    rcases Int.lt_or_le 0 (tn v l + tn r v) with h | h
    · exact h
    · exfalso
      have e1 : tn v l = 0 := by omega
      have e2 : tn r v = 0 := by omega
      have d := left_same (hR v hv) e2
      have i := id1 r v l
      rw [e2, tn_swap v l, e1] at i
      have i2 : dt r v * tn l r = 0 := by omega
      have e3 := (Int.mul_eq_zero.mp i2).resolve_left (by omega)
      rw [tn_swap] at e3
      omega
end HU

/-! HW: weights. No program in sight. -/
namespace HU
def wsum : List Int → List Int → Int
  | q :: Q, x :: X => q * x + wsum Q X
  | _, _ => 0
theorem wsum_set : ∀ (Q X : List Int) (i : Nat) (q : Int), i < Q.length → Q.length = X.length → wsum (Q.set i q) X = wsum Q X + (q - Q.getD i 0) * X.getD i 0
  | [], X, i, q, h, _ => by simp at h
  | a :: Q, [], i, q, h, e => by simp at e
  | a :: Q, x :: X, 0, q, h, e => by
    simp only [List.set_cons_zero, wsum, List.getD_cons_zero]
    grind
  | a :: Q, x :: X, i + 1, q, h, e => by
    simp only [List.set_cons_succ, wsum, List.getD_cons_succ]
    rw [wsum_set Q X i q (by simpa using h) (by simpa using e)]
    grind
theorem wsum_zero : ∀ (n : Nat) (X : List Int), wsum (List.replicate n 0) X = 0
  | 0, _ => rfl
  | n + 1, [] => rfl
  | n + 1, x :: X => by rw [List.replicate_succ, wsum, wsum_zero n X]; simp
def qs (L : List (Nat × Int)) (Q : List Int) : List Int := L.foldl (fun Q z => Q.set z.1 z.2) Q
theorem qs_len : ∀ (L : List (Nat × Int)) (Q : List Int), (qs L Q).length = Q.length
  | [], _ => rfl
  | z :: L, Q => by
    unfold qs
    rw [List.foldl_cons]
    have := qs_len L (Q.set z.1 z.2)
    unfold qs at this
    rw [this, List.length_set]
theorem getD_set_ne {Q : List Int} {i j : Nat} {q : Int} (h : i ≠ j) : (Q.set i q).getD j 0 = Q.getD j 0 := by
  rw [List.getD_eq_getElem?_getD, List.getD_eq_getElem?_getD, List.getElem?_set_ne h]
theorem wsum_qs : ∀ (L : List (Nat × Int)) (Q X : List Int), (L.map (·.1)).Nodup → (∀ z ∈ L, z.1 < Q.length) → Q.length = X.length → (∀ z ∈ L, Q.getD z.1 0 = 0) → wsum (qs L Q) X = wsum Q X + (L.map fun z => z.2 * X.getD z.1 0).sum
  | [], Q, X, _, _, _, _ => by simp [qs]
  | z :: L, Q, X, hn, hl, e, h0 => by
    rw [List.map_cons, List.nodup_cons] at hn
    have h := wsum_qs L (Q.set z.1 z.2) X hn.2 (fun y hy => by rw [List.length_set]; exact hl y (List.mem_cons_of_mem _ hy)) (by rw [List.length_set]; exact e) (fun y hy => by
      rw [getD_set_ne (fun e1 => hn.1 (by rw [e1]; exact List.mem_map_of_mem hy))]
      exact h0 y (List.mem_cons_of_mem _ hy))
    have h2 : qs (z :: L) Q = qs L (Q.set z.1 z.2) := rfl
    rw [h2, h, wsum_set Q X z.1 z.2 (hl z List.mem_cons_self) e, h0 z List.mem_cons_self, List.map_cons, List.sum_cons]
    grind
theorem qs_nn : ∀ (L : List (Nat × Int)) (Q : List Int), (∀ z ∈ L, 0 ≤ z.2) → (∀ q ∈ Q, 0 ≤ q) → ∀ q ∈ qs L Q, 0 ≤ q
  | [], Q, _, h, q, hq => h q hq
  | z :: L, Q, hL, h, q, hq => by
    refine qs_nn L (Q.set z.1 z.2) (fun y hy => hL y (List.mem_cons_of_mem _ hy)) (fun y hy => ?_) q hq
    rcases List.mem_or_eq_of_mem_set hy with h1 | h1
    · exact h y h1
    · rw [h1]; exact hL z List.mem_cons_self
theorem wsum_ones : ∀ (Q : List Int), wsum Q (List.replicate Q.length 1) = Q.sum
  | [] => rfl
  | q :: Q => by rw [List.length_cons, List.replicate_succ, wsum, wsum_ones Q, List.sum_cons]; omega
theorem le_sum : ∀ (Q : List Int), (∀ q ∈ Q, 0 ≤ q) → 0 ≤ Q.sum ∧ ∀ q ∈ Q, q ≤ Q.sum
  | [], _ => ⟨by simp, fun q h => by cases h⟩
  | a :: Q, h => by
    obtain ⟨h1, h2⟩ := le_sum Q fun q hq => h q (List.mem_cons_of_mem _ hq)
    have ha := h a List.mem_cons_self
    rw [List.sum_cons]
    refine ⟨by omega, fun q hq => ?_⟩
    rcases List.mem_cons.mp hq with e | hq
    · omega
    · have := h2 q hq
      omega
/-- in lowest terms -/
def red (q T : Int) : Int × Int := (q / (Int.gcd q T : Int), T / (Int.gcd q T : Int))
theorem red_pos {q T : Int} (h : 0 < T) : 0 < (red q T).2 := Int.ediv_pos_of_pos_of_dvd h (by omega) (Int.gcd_dvd_right q T)
theorem gcdp {q T : Int} (h : 0 < T) : (0 : Int) < Int.gcd q T := by
  have := Int.gcd_pos_of_ne_zero_right q (show T ≠ 0 by omega)
  omega
theorem red_nn {q T : Int} (h : 0 < T) (hq : 0 ≤ q) : 0 ≤ (red q T).1 := Int.ediv_nonneg hq (by omega)
theorem red_le {q T : Int} (h : 0 < T) (hq : 0 ≤ q) : (red q T).1 ≤ q ∧ (red q T).2 ≤ T := by
  have g := gcdp (q := q) h
  exact ⟨Int.ediv_le_self _ hq, Int.ediv_le_self _ (by omega)⟩
theorem red_gcd {q T : Int} (h : 0 < T) : Int.gcd (red q T).1 (red q T).2 = 1 := by
  have g := Int.gcd_pos_of_ne_zero_right q (show T ≠ 0 by omega)
  exact Int.gcd_ediv_gcd_ediv_gcd g
theorem red_mul (q T : Int) : (red q T).1 * T = q * (red q T).2 := by
  unfold red
  have h1 := Int.gcd_dvd_left q T
  have h2 := Int.gcd_dvd_right q T
  generalize (Int.gcd q T : Int) = g at *
  obtain ⟨a, rfl⟩ := h1
  obtain ⟨b, rfl⟩ := h2
  by_cases hg : g = 0
  · subst hg; simp
  · simp only [Int.mul_ediv_cancel_left _ hg]
    grind
theorem red_zero {T : Int} (h : 0 < T) : red 0 T = (0, 1) := by
  unfold red
  rw [Int.gcd_zero_left]
  have e : (T.natAbs : Int) = T := by omega
  rw [e, Int.zero_ediv, Int.ediv_self (by omega)]
theorem range_wsum : ∀ (S X : List Int) (n : Nat), S.length = n → X.length = n → ((List.range n).map fun k => S.getD k 0 * X.getD k 0).sum = wsum S X
  | [], [], 0, _, _ => rfl
  | s :: S, x :: X, n + 1, h1, h2 => by
    have ih := range_wsum S X n (by simpa using h1) (by simpa using h2)
    rw [List.range_succ_eq_map, List.map_cons, List.map_map, List.sum_cons, wsum, ← ih]
    rfl
def prod : List Int → Int
  | [] => 1
  | x :: X => x * prod X
theorem dvd_prod : ∀ (X : List Int) (x : Int), x ∈ X → x ∣ prod X
  | a :: X, x, h => by
    rcases List.mem_cons.mp h with e | h
    · rw [e, prod]; exact Int.dvd_mul_right _ _
    · rw [prod]; exact Int.dvd_trans (dvd_prod X x h) (Int.dvd_mul_left _ _)
def share (C T q : Int) : Int := C / (red q T).2 * (red q T).1
theorem share_mul {C T q : Int} (h : 0 < T) (hd : (red q T).2 ∣ C) : share C T q * T = C * q := by
  unfold share
  have p := red_pos (q := q) h
  have m := red_mul q T
  obtain ⟨k, rfl⟩ := hd
  rw [Int.mul_ediv_cancel_left _ (by omega), Int.mul_assoc, m]
  grind
theorem shares_w {C T : Int} (h : 0 < T) : ∀ (Q X : List Int), (∀ q ∈ Q, (red q T).2 ∣ C) → wsum (Q.map (share C T)) X * T = C * wsum Q X
  | [], X, _ => by simp [wsum]
  | q :: Q, [], _ => by simp [wsum]
  | q :: Q, x :: X, hd => by
    rw [List.map_cons, wsum, wsum, Int.add_mul, shares_w h Q X fun q hq => hd q (List.mem_cons_of_mem _ hq)]
    have := share_mul h (hd q List.mem_cons_self)
    grind
theorem cancelT {a b T : Int} (h : 0 < T) (e : a * T = b * T) : a = b := Int.eq_of_mul_eq_mul_right (by omega) e
end HU

/-! HY: sets of numbers below m as bits. -/
namespace HU
def bsum (f : Nat → Bool) : Nat → Nat
  | 0 => 0
  | m + 1 => (if f m = true then 2 ^ m else 0) + bsum f m
theorem bsum_lt (f : Nat → Bool) : ∀ m, bsum f m < 2 ^ m
  | 0 => by simp [bsum]
  | m + 1 => by
    have := bsum_lt f m
    unfold bsum
    rw [Nat.pow_succ]
    split <;> omega
theorem bsum_bit (f : Nat → Bool) : ∀ m i, (bsum f m).testBit i = (decide (i < m) && f i)
  | 0, i => by simp [bsum]
  | m + 1, i => by
    have ih := bsum_bit f m
    have lt := bsum_lt f m
    unfold bsum
    by_cases hf : f m = true
    · rw [if_pos hf]
      rcases Nat.lt_trichotomy i m with h | h | h
      · rw [Nat.testBit_two_pow_add_gt h, ih i]
        simp [h, Nat.lt_succ_of_lt h]
      · subst h
        rw [Nat.testBit_two_pow_add_eq, ih i]
        simp [hf]
      · have hl : 2 ^ m + bsum f m < 2 ^ i := by
          have : 2 ^ (m + 1) ≤ 2 ^ i := Nat.pow_le_pow_right (by decide) h
          rw [Nat.pow_succ] at this
          omega
        rw [Nat.testBit_lt_two_pow hl]
        have : ¬ i < m + 1 := by omega
        simp [this]
    · rw [if_neg hf, Nat.zero_add, ih i]
      rcases Nat.lt_trichotomy i m with h | h | h
      · simp [h, Nat.lt_succ_of_lt h]
      · subst h
        simp [hf]
      · have h1 : ¬ i < m := by omega
        have h2 : ¬ i < m + 1 := by omega
        simp [h1, h2]
theorem bsum_ext {f g : Nat → Bool} {m : Nat} (h : ∀ i, i < m → f i = g i) : bsum f m = bsum g m := by
  refine Nat.eq_of_testBit_eq fun i => ?_
  rw [bsum_bit, bsum_bit]
  by_cases hi : i < m
  · rw [h i hi]
  · simp [hi]
theorem bsum_or2 (f g : Nat → Bool) (m : Nat) : bsum f m ||| bsum g m = bsum (fun i => f i || g i) m := by
  refine Nat.eq_of_testBit_eq fun i => ?_
  rw [Nat.testBit_or, bsum_bit, bsum_bit, bsum_bit]
  by_cases hi : i < m <;> simp [hi]
theorem bsum_and2 (f g : Nat → Bool) (m : Nat) : bsum f m &&& bsum g m = bsum (fun i => f i && g i) m := by
  refine Nat.eq_of_testBit_eq fun i => ?_
  rw [Nat.testBit_and, bsum_bit, bsum_bit, bsum_bit]
  by_cases hi : i < m <;> simp [hi]
theorem bsum_add (f g : Nat → Bool) : ∀ m, bsum f m = bsum (fun i => f i && g i) m + bsum (fun i => f i && !g i) m
  | 0 => rfl
  | m + 1 => by
    have ih := bsum_add f g m
    unfold bsum
    rw [ih]
    cases f m <;> cases g m <;> simp <;> omega
theorem bsum_sub (f g : Nat → Bool) (m : Nat) : bsum f m - (bsum f m &&& bsum g m) = bsum (fun i => f i && !g i) m := by
  rw [bsum_and2]
  have := bsum_add f g m
  omega
theorem bsum_one (f : Nat → Bool) (m : Nat) (h : f m = true) : bsum f m ||| 2 ^ m = bsum f (m + 1) := by
  refine Nat.eq_of_testBit_eq fun i => ?_
  rw [Nat.testBit_or, bsum_bit, bsum_bit, Nat.testBit_two_pow]
  rcases Nat.lt_trichotomy i m with k | k | k
  · have h1 : ¬ m = i := by omega
    simp [k, Nat.lt_succ_of_lt k, h1]
  · subst k
    simp [h]
  · have h1 : ¬ m = i := by omega
    have h2 : ¬ i < m := by omega
    have h3 : ¬ i < m + 1 := by omega
    simp [h1, h2, h3]
theorem bsum_foldl (f : Nat → Bool) : ∀ m, ((List.range m).filter f).foldl (fun a n => a ||| 2 ^ n) 0 = bsum f m
  | 0 => rfl
  | m + 1 => by
    rw [List.range_succ, List.filter_append, List.foldl_append, bsum_foldl f m]
    by_cases h : f m = true
    · simp only [List.filter_cons, h, if_true, List.filter_nil, List.foldl_cons, List.foldl_nil]
      exact bsum_one f m h
    · rw [show bsum f (m + 1) = (if f m = true then 2 ^ m else 0) + bsum f m from rfl]
      simp [h]
theorem bsum_sum (f : Nat → Bool) : ∀ m, (((List.range m).filter f).map fun n => 2 ^ n).sum = bsum f m
  | 0 => rfl
  | m + 1 => by
    rw [List.range_succ, List.filter_append, List.map_append, List.sum_append, bsum_sum f m, show bsum f (m + 1) = (if f m = true then 2 ^ m else 0) + bsum f m from rfl]
    by_cases h : f m = true
    · simp [h]; omega
    · simp [h]
theorem bsum_all (m : Nat) : bsum (fun _ => true) m + 1 = 2 ^ m := by
  induction m with
  | zero => rfl
  | succ m ih => unfold bsum; rw [Nat.pow_succ]; simp; omega
theorem dark_bit (f : Nat → Bool) (m i : Nat) (h : i < m) : (bsum f m / 2 ^ i) % 2 = if f i = true then 1 else 0 := by
  have e := bsum_bit f m i
  rw [Nat.testBit_eq_decide_div_mod_eq] at e
  simp only [h, decide_true, Bool.true_and] at e
  by_cases hf : f i = true
  · rw [hf] at e
    rw [if_pos hf]
    exact of_decide_eq_true e
  · rw [if_neg hf]
    have hf : f i = false := by simpa using hf
    rw [hf] at e
    have := of_decide_eq_false e
    omega
end HU

/-! HS: texts, no program in sight: numbers and names as words, rows of words. -/
namespace DL
open PySem PySem.Spec L2
theorem cut_len (z : Str) (lo hi : Option Int) : (cutS z lo hi).length ≤ z.length := by
  unfold cutS
  show (List.toArray _).size ≤ z.cps.size
  rw [List.size_toArray, List.length_take, List.length_drop, Array.length_toList]
  omega
theorem slD_str {z : Str} {lo hi : Option Int} (h : z.length ≤ 1000) : slD lo hi (.str z) = some (.sh (.str (cutS z lo hi))) := by
  have e : slD lo hi (.str z) = if z.length ≤ 10000000 then some (.sh (.str (cutS z lo hi))) else none := rfl
  rw [e, if_pos (by omega)]
theorem in_sign (b : Bool) (c : Nat) (z : Str) : inD b (.str ⟨#[c]⟩) (.str z) = some (.sh (.bl (b != decide (c ∈ z.cps)))) := by
  have e : inD b (.str ⟨#[c]⟩) (.str z) = some (.sh (.bl (b != decide (c ∈ z.cps.toList)))) := rfl
  rw [e]; simp
def allIn (z K : Str) : Bool := z.cps.toList.all fun c => decide (c ∈ K.cps)
def c0 (z : Str) : D := .str ⟨#[z.cps.toList.getD 0 0]⟩
theorem ix0 {z : Str} (h0 : 0 < z.length) (h : z.length ≤ 1000) : ixD (.str z) (.int 0) = some (.sh (c0 z)) := by
  have e : ixD (.str z) (.int 0) = if z.length ≤ 10000000 then (atI z.cps.toList 0).map (fun c => Val.sh (.str ⟨#[c]⟩)) else none := by
    unfold ixD; rfl
  rw [e, if_pos (by omega), atI_nn (by decide)]
  unfold c0
  have hl : 0 < z.cps.toList.length := by rw [Array.length_toList]; exact h0
  rw [List.getD_eq_getElem?_getD]
  show Option.map _ z.cps.toList[0]? = _
  rw [List.getElem?_eq_getElem hl]; rfl
def core (f : Str) : Bool := decide (1 ≤ f.length) && (decide (f.length ≤ 10) && (!(D.eqv (c0 f) (.str (Str.ofString "0"))) && allIn f (Str.ofString "0123456789")))
def fig (z : Str) : Str := if cutS z none (some 1) = Str.ofString "-" then cutS z (some 1) none else z
def isNum (z : Str) : Bool := decide (z = Str.ofString "0") || core (fig z)
theorem okc (z : Str) : D.ok 20 (c0 z) = true := rfl
def isNam (z : Str) : Bool := decide (1 ≤ z.length) && (decide (z.length ≤ 8) && allIn z (Str.ofString "abcdefghijklmnopqrstuvwxyz"))
theorem rep_size (x : Array Nat) : ∀ (n : Nat) (acc : Array Nat), ((List.replicate n x).foldl (· ++ ·) acc).size = acc.size + n * x.size
  | 0, acc => by simp
  | n + 1, acc => by
    rw [List.replicate_succ, List.foldl_cons, rep_size x n, Array.size_append, Nat.succ_mul]
    omega
theorem mul_len (a : Str) (k : Int) : (Txt.mul a k).length ≤ a.length * k.toNat := by
  unfold Txt.mul
  split
  · exact Nat.zero_le _
  · split
    · have : 1 ≤ k.toNat := by omega
      exact Nat.le_mul_of_pos_right _ this
    · show ((List.replicate k.toNat a.cps).foldl (· ++ ·) #[]).size ≤ a.cps.size * k.toNat
      rw [rep_size, Nat.mul_comm]
      simp
theorem app_len (a b : Str) : (a ++ b).length = a.length + b.length := by
  show (a.cps ++ b.cps).size = a.cps.size + b.cps.size
  exact Array.size_append
theorem join_len' (a : Str) : ∀ l : List Str, (Str.join a l).length ≤ (l.map (·.length)).sum + l.length * a.length
  | [] => Nat.zero_le _
  | [x] => by
    show x.length ≤ _
    simp
  | x :: y :: l => by
    have ih := join_len' a (y :: l)
    have e : Str.join a (x :: y :: l) = x ++ a ++ Str.join a (y :: l) := rfl
    rw [e, app_len, app_len]
    simp only [List.map_cons, List.sum_cons, List.length_cons, Nat.add_mul, Nat.one_mul] at ih ⊢
    omega
theorem join_len (a : Str) (l : List Str) : (Txt.join a l).length ≤ (l.map (·.length)).sum + l.length * a.length := by
  show (Builtin.Str.glued a l).length ≤ _
  rw [PySem.StrLaws.glued_eq_join]; exact join_len' a l

/-! ### numbers as words -/
def num (x : Int) : Str := Str.ofString (toString x)
theorem num_pos {x : Int} (h : 0 ≤ x) : (num x).cps.toList = TL.numL x.toNat := by
  have e := TL.tl_num x.toNat
  rw [Int.toNat_of_nonneg h] at e
  exact e
theorem ofString_app (a b : String) : (Str.ofString (a ++ b)).cps.toList = (Str.ofString a).cps.toList ++ (Str.ofString b).cps.toList := by
  simp [Str.ofString_eq_toList, String.toList_append]
theorem num_neg {x : Int} (h : x < 0) : (num x).cps.toList = 45 :: TL.numL (0 - x).toNat := by
  have e := PyProof.Rows.toString_neg (n := x) (by omega)
  have e2 := num_pos (x := 0 - x) (by omega)
  unfold num at e2 ⊢
  rw [e, ofString_app, e2]
  rfl
theorem numL_head : ∀ n : Nat, 1 ≤ n → (TL.numL n).getD 0 0 ≠ 48 := by
  intro n
  induction n using Nat.strongRecOn with
  | _ n ih =>
    intro h1
    by_cases h : n < 10
    · rw [TL.numL_lt h]
      simp
      omega
    · rw [TL.numL_step (by omega)]
      have q := ih (n / 10) (by omega) (by omega)
      have ne := TL.numL_ne (n / 10)
      cases e : TL.numL (n / 10) with
      | nil => exact absurd e ne
      | cons a l => rw [e] at q; simpa using q
theorem digits_in {l : List Nat} (h : NumText.AllDigits l) : ∀ c ∈ l, c ∈ (Str.ofString "0123456789").cps := fun c hc => by
  have h2 : (Str.ofString "0123456789").cps = #[48, 49, 50, 51, 52, 53, 54, 55, 56, 57] := by decide
  have := h c hc
  rw [h2]
  simp
  omega
theorem len_list (z : Str) : z.length = z.cps.toList.length := by rw [Array.length_toList]; rfl
theorem str_ext {a b : Str} (h : a.cps.toList = b.cps.toList) : a = b := by
  cases a; cases b
  congr 1
  exact Array.toList_inj.mp h
theorem core_digits {f : Str} {n : Nat} (h : f.cps.toList = TL.numL n) (h1 : 1 ≤ n) (h2 : n < 10 ^ 10) : core f = true := by
  have hl := TL.numL_len (n := n) (k := 10) (by decide) h2
  have ne := TL.numL_ne n
  have l1 : 1 ≤ (TL.numL n).length := by
    cases e : TL.numL n with
    | nil => exact absurd e ne
    | cons a l => simp
  unfold core
  have e1 := len_list f
  rw [h] at e1
  rw [decide_eq_true (by omega), decide_eq_true (by omega), Bool.true_and, Bool.true_and, Bool.and_eq_true]
  refine ⟨?_, ?_⟩
  · unfold c0
    rw [h]
    have q := numL_head n h1
    generalize (TL.numL n).getD 0 0 = d at *
    have e : D.eqv (.str ⟨#[d]⟩) (.str (Str.ofString "0")) = decide ((⟨#[d]⟩ : Str) = Str.ofString "0") := by simp
    rw [e]
    have : ¬ ((⟨#[d]⟩ : Str) = Str.ofString "0") := fun z => q (by
      have z2 := congrArg (fun s : Str => s.cps.toList) z
      have z3 : (Str.ofString "0").cps.toList = [48] := by decide
      simp only [z3] at z2
      simpa using z2)
    simp [this]
  · unfold allIn
    rw [h, List.all_eq_true]
    intro c hc
    exact decide_eq_true (digits_in (TL.numL_digits n) c hc)
theorem cut_1 (z : Str) : (cutS z none (some 1)).cps.toList = z.cps.toList.take 1 ∧ (cutS z (some 1) none).cps.toList = z.cps.toList.drop 1 := by
  have hl : z.length = z.cps.toList.length := len_list z
  have hz : z.cps.size = z.cps.toList.length := by rw [Array.length_toList]
  unfold cutS
  constructor
  · show List.take _ (List.drop _ z.cps.toList) = _
    rw [HT.sIx_none, show (some (1 : Int)) = some ((1 : Nat) : Int) from rfl, HT.sIx_nat, List.drop_zero]
    by_cases h : 1 ≤ z.cps.toList.length
    · rw [Nat.min_eq_left (by omega)]
    · have e : z.cps.toList = [] := List.length_eq_zero_iff.mp (by omega)
      rw [e]; simp
  · show List.take _ (List.drop _ z.cps.toList) = _
    rw [HT.sIx_none, show (some (1 : Int)) = some ((1 : Nat) : Int) from rfl, HT.sIx_nat]
    by_cases h : 1 ≤ z.cps.toList.length
    · rw [Nat.min_eq_left (by omega)]
      exact List.take_of_length_le (by rw [List.length_drop]; omega)
    · have e : z.cps.toList = [] := List.length_eq_zero_iff.mp (by omega)
      rw [e]; simp
theorem isNum_num {x : Int} (h : -(10 ^ 10) < x) (h2 : x < 10 ^ 10) : isNum (num x) = true := by
  unfold isNum
  rw [Bool.or_eq_true]
  obtain ⟨c1, c2⟩ := cut_1 (num x)
  have z3 : (Str.ofString "-").cps.toList = [45] := by decide
  rcases Int.lt_trichotomy x 0 with hx | hx | hx
  · right
    have e := num_neg hx
    rw [e] at c1 c2
    unfold fig
    rw [if_pos (str_ext (by rw [c1, z3]; rfl))]
    exact core_digits (n := (0 - x).toNat) (by rw [c2]; rfl) (by omega) (by omega)
  · subst hx; left; decide
  · right
    have e := num_pos (x := x) (by omega)
    rw [e] at c1 c2
    unfold fig
    rw [if_neg]
    · exact core_digits e (by omega) (by omega)
    · intro z
      have z2 := congrArg (fun s : Str => s.cps.toList) z
      simp only [c1, z3] at z2
      have d := TL.numL_digits x.toNat
      cases e : TL.numL x.toNat with
      | nil => rw [e] at z2; cases z2
      | cons a l =>
        rw [e] at z2
        simp at z2
        have := d a (by rw [e]; exact List.mem_cons_self)
        omega
theorem int_numI {x : Int} (h : -(10 ^ 10) < x) (h2 : x < 10 ^ 10) : PySem.intText? (num x) = some x := by
  by_cases hx : 0 ≤ x
  · have hl := TL.numL_len (n := x.toNat) (k := 10) (by decide) (by omega)
    have e := TL.int_num (n := x.toNat) (by omega)
    rw [Int.toNat_of_nonneg hx] at e
    exact e
  · have hl := TL.numL_len (n := (0 - x).toNat) (k := 10) (by decide) (by omega)
    have e := PySem.intText_neg (x := num x) (num_neg (by omega)) (TL.numL_digits _) (TL.numL_ne _) (by
      rw [len_list, num_neg (by omega)]
      simp only [List.length_cons]
      omega)
    rw [e, TL.numL_val]
    congr 1
    omega
theorem num_len {x : Int} (h : -(10 ^ 10) < x) (h2 : x < 10 ^ 10) : (num x).length ≤ 11 := by
  rw [len_list]
  by_cases hx : 0 ≤ x
  · rw [num_pos hx]
    have hl := TL.numL_len (n := x.toNat) (k := 10) (by decide) (by omega)
    omega
  · rw [num_neg (by omega)]
    have hl := TL.numL_len (n := (0 - x).toNat) (k := 10) (by decide) (by omega)
    simp only [List.length_cons]
    omega
theorem num_free {x : Int} {c : Nat} (h : c < 45) : c ∉ (num x).cps.toList := by
  by_cases hx : 0 ≤ x
  · rw [num_pos hx]
    exact TL.numL_free (.inl (by omega))
  · rw [num_neg (by omega)]
    intro k
    rcases List.mem_cons.mp k with k | k
    · omega
    · exact TL.numL_free (.inl (by omega)) k
theorem num_small (x : Int) (h : -(10 ^ 20) < x) (h2 : x < 10 ^ 20) : x.natAbs.log2 < 1920 := log2_small (by decide) (Nat.lt_of_lt_of_le (show x.natAbs < 2 ^ 70 by omega) (Nat.pow_le_pow_right (by decide) (by decide)))
theorem num_inj {x y : Int} (h : num x = num y) : x = y := by
  have e := congrArg (fun z : Str => z.cps.toList) h
  by_cases hx : 0 ≤ x <;> by_cases hy : 0 ≤ y
  · simp only [num_pos hx, num_pos hy] at e
    have := TL.numL_inj e
    omega
  · simp only [num_pos hx, num_neg (show y < 0 by omega)] at e
    exact absurd (show 45 ∈ TL.numL x.toNat by rw [e]; exact List.mem_cons_self) (TL.numL_free (.inl (by omega)))
  · simp only [num_pos hy, num_neg (show x < 0 by omega)] at e
    exact absurd (show 45 ∈ TL.numL y.toNat by rw [← e]; exact List.mem_cons_self) (TL.numL_free (.inl (by omega)))
  · simp only [num_neg (show x < 0 by omega), num_neg (show y < 0 by omega)] at e
    have := TL.numL_inj (List.cons.inj e).2
    omega
/-! ### rows of words -/
theorem split_on {c : Nat} {sep : Str} (hs : sep.cps.toList = [c]) (hc : c < 256) {parts : List Str} (hne : parts ≠ []) (hp : ∀ p ∈ parts, c ∉ p.cps.toList) : Txt.split (Txt.join sep parts) sep = parts := by
  refine TL.split_join (s := c) (S := []) hs ?_ hne hp
  have : sep.cps = #[c] := by
    have := congrArg List.toArray hs
    simpa using this
  rw [this]
  simp [hc]
theorem splitD_on {c : Nat} {sep : Str} (hs : sep.cps.toList = [c]) (hc : c < 256) {parts : List Str} (hne : parts ≠ []) (hp : ∀ p ∈ parts, c ∉ p.cps.toList) (hl : (Txt.join sep parts).length + 2 ≤ 10000000) :
    (if (sep.length == 0) = false ∧ (Txt.join sep parts).length + 2 ≤ 10000000 then some (Val.lst ((Txt.split (Txt.join sep parts) sep).map fun z => Val.sh (.str z))) else none) = some (.lst ((parts.map D.str).map .sh)) := by
  have : (sep.length == 0) = false := by rw [len_list, hs]; rfl
  rw [if_pos ⟨this, hl⟩, split_on hs hc hne hp, List.map_map]; rfl
theorem join_list (a : Str) : ∀ l : List Str, (Txt.join a l).cps.toList = TL.joinL a.cps.toList (l.map fun z => z.cps.toList) := fun l => by
  rw [TL.join_eq]
  exact TL.tl_join a l
theorem joinL_mem {a : List Nat} {c : Nat} (hc : c ∉ a) : ∀ {l : List (List Nat)}, (∀ p ∈ l, c ∉ p) → c ∉ TL.joinL a l
  | [], _ => by simp [TL.joinL]
  | [p], h => by simpa [TL.joinL] using h
  | p :: q :: r, h => by
    have ih := joinL_mem hc (l := q :: r) fun z hz => h z (List.mem_cons_of_mem _ hz)
    have hp := h p List.mem_cons_self
    show c ∉ p ++ (a ++ TL.joinL a (q :: r))
    simp only [List.mem_append, not_or]
    exact ⟨hp, hc, ih⟩
theorem join_free {a : Str} {c : Nat} {l : List Str} (hc : c ∉ a.cps.toList) (h : ∀ p ∈ l, c ∉ p.cps.toList) : c ∉ (Txt.join a l).cps.toList := by
  rw [join_list]
  refine joinL_mem hc fun p hp => ?_
  obtain ⟨z, hz, rfl⟩ := List.mem_map.mp hp
  exact h z hz
end DL

namespace My
open PySem PySem.Spec L2 DL
def topS (i : Nat) : Stmt := PySem.Challenge.pw_shadowpost_k31_dark_by_things.main.body.getD i (.Pass ⟨0, 0, 0, 0⟩)
abbrev st_cast : Stmt := topS 1
abbrev N_cast : List Str := ["point", "ray"]
abbrev P_cast : List Str := ["point", "ray"]
theorem sc_cast : FnScope N_cast P_cast (defScope st_cast) := ⟨rfl, rfl, rfl, by decide +kernel, rfl, by decide +kernel, by decide +kernel⟩
abbrev st_bits_of : Stmt := topS 3
abbrev N_bits_of : List Str := ["stones", "width", "bits", "p", "q"]
abbrev P_bits_of : List Str := ["stones", "width"]
theorem sc_bits_of : FnScope N_bits_of P_bits_of (defScope st_bits_of) := ⟨rfl, rfl, rfl, by decide +kernel, rfl, by decide +kernel, by decide +kernel⟩
abbrev st_common_part : Stmt := topS 9
abbrev N_common_part : List Str := ["one", "other"]
abbrev P_common_part : List Str := ["one", "other"]
theorem sc_common_part : FnScope N_common_part P_common_part (defScope st_common_part) := ⟨rfl, rfl, rfl, by decide +kernel, rfl, by decide +kernel, by decide +kernel⟩
abbrev st_turn_of : Stmt := topS 13
abbrev N_turn_of : List Str := ["one", "other"]
abbrev P_turn_of : List Str := ["one", "other"]
theorem sc_turn_of : FnScope N_turn_of P_turn_of (defScope st_turn_of) := ⟨rfl, rfl, rfl, by decide +kernel, rfl, by decide +kernel, by decide +kernel⟩
abbrev st_Yard_init : Stmt := inClass (topS 26) 0
abbrev N_Yard_init : List Str := ["self", "width", "height", "things", "days", "name", "times", "turns"]
abbrev P_Yard_init : List Str := ["self", "width", "height", "things", "days"]
theorem sc_Yard_init : FnScope N_Yard_init P_Yard_init (defScope st_Yard_init) := ⟨rfl, rfl, rfl, by decide +kernel, rfl, by decide +kernel, by decide +kernel⟩
abbrev st_all_stones : Stmt := topS 27
abbrev N_all_stones : List Str := ["yard", "number"]
abbrev P_all_stones : List Str := ["yard"]
theorem sc_all_stones : FnScope N_all_stones P_all_stones (defScope st_all_stones) := ⟨rfl, rfl, rfl, by decide +kernel, rfl, by decide +kernel, by decide +kernel⟩
abbrev st_Thing_init : Stmt := inClass (topS 33) 0
abbrev N_Thing_init : List Str := ["self", "numbers"]
abbrev P_Thing_init : List Str := ["self", "numbers"]
theorem sc_Thing_init : FnScope N_Thing_init P_Thing_init (defScope st_Thing_init) := ⟨rfl, rfl, rfl, by decide +kernel, rfl, by decide +kernel, by decide +kernel⟩
abbrev st_Post_word : Stmt := inClass (topS 34) 0
abbrev N_Post_word : List Str := ["self"]
abbrev P_Post_word : List Str := ["self"]
theorem sc_Post_word : FnScope N_Post_word P_Post_word (defScope st_Post_word) := ⟨rfl, rfl, rfl, by decide +kernel, rfl, by decide +kernel, by decide +kernel⟩
abbrev st_Fence_word : Stmt := inClass (topS 35) 0
abbrev N_Fence_word : List Str := ["self"]
abbrev P_Fence_word : List Str := ["self"]
theorem sc_Fence_word : FnScope N_Fence_word P_Fence_word (defScope st_Fence_word) := ⟨rfl, rfl, rfl, by decide +kernel, rfl, by decide +kernel, by decide +kernel⟩
abbrev st_Fence_corners : Stmt := inClass (topS 35) 1
abbrev N_Fence_corners : List Str := ["self", "x", "y", "u", "v", "h"]
abbrev P_Fence_corners : List Str := ["self"]
theorem sc_Fence_corners : FnScope N_Fence_corners P_Fence_corners (defScope st_Fence_corners) := ⟨rfl, rfl, rfl, by decide +kernel, rfl, by decide +kernel, by decide +kernel⟩
abbrev st_Sail_word : Stmt := inClass (topS 36) 0
abbrev N_Sail_word : List Str := ["self"]
abbrev P_Sail_word : List Str := ["self"]
theorem sc_Sail_word : FnScope N_Sail_word P_Sail_word (defScope st_Sail_word) := ⟨rfl, rfl, rfl, by decide +kernel, rfl, by decide +kernel, by decide +kernel⟩
abbrev st_Cloth_word : Stmt := inClass (topS 37) 0
abbrev N_Cloth_word : List Str := ["self"]
abbrev P_Cloth_word : List Str := ["self"]
theorem sc_Cloth_word : FnScope N_Cloth_word P_Cloth_word (defScope st_Cloth_word) := ⟨rfl, rfl, rfl, by decide +kernel, rfl, by decide +kernel, by decide +kernel⟩
abbrev st_Cloth_corners : Stmt := inClass (topS 37) 1
abbrev N_Cloth_corners : List Str := ["self"]
abbrev P_Cloth_corners : List Str := ["self"]
theorem sc_Cloth_corners : FnScope N_Cloth_corners P_Cloth_corners (defScope st_Cloth_corners) := ⟨rfl, rfl, rfl, by decide +kernel, rfl, by decide +kernel, by decide +kernel⟩
abbrev st_House_word : Stmt := inClass (topS 38) 0
abbrev N_House_word : List Str := ["self"]
abbrev P_House_word : List Str := ["self"]
theorem sc_House_word : FnScope N_House_word P_House_word (defScope st_House_word) := ⟨rfl, rfl, rfl, by decide +kernel, rfl, by decide +kernel, by decide +kernel⟩
abbrev st_level : Stmt := topS 39
abbrev N_level : List Str := ["x", "y", "u", "v", "z"]
abbrev P_level : List Str := ["x", "y", "u", "v", "z"]
theorem sc_level : FnScope N_level P_level (defScope st_level) := ⟨rfl, rfl, rfl, by decide +kernel, rfl, by decide +kernel, by decide +kernel⟩
abbrev st_are_places : Stmt := topS 41
abbrev N_are_places : List Str := ["numbers", "number"]
abbrev P_are_places : List Str := ["numbers"]
theorem sc_are_places : FnScope N_are_places P_are_places (defScope st_are_places) := ⟨rfl, rfl, rfl, by decide +kernel, rfl, by decide +kernel, by decide +kernel⟩
abbrev st_is_height : Stmt := topS 42
abbrev N_is_height : List Str := ["number", "least"]
abbrev P_is_height : List Str := ["number", "least"]
theorem sc_is_height : FnScope N_is_height P_is_height (defScope st_is_height) := ⟨rfl, rfl, rfl, by decide +kernel, rfl, by decide +kernel, by decide +kernel⟩
abbrev st_law_at : Stmt := topS 47
abbrev N_law_at : List Str := ["_law_script", "_law_k"]
abbrev P_law_at : List Str := ["_law_script", "_law_k"]
theorem sc_law_at : FnScope N_law_at P_law_at (defScope st_law_at) := ⟨rfl, rfl, rfl, by decide +kernel, rfl, by decide +kernel, by decide +kernel⟩
abbrev st_law_grains : Stmt := topS 48
abbrev N_law_grains : List Str := ["_law_cell", "_law_many", "_law_found", "_law_number", "_law_k"]
abbrev P_law_grains : List Str := ["_law_cell", "_law_many"]
theorem sc_law_grains : FnScope N_law_grains P_law_grains (defScope st_law_grains) := ⟨rfl, rfl, rfl, by decide +kernel, rfl, by decide +kernel, by decide +kernel⟩
abbrev st_law_place : Stmt := topS 49
abbrev N_law_place : List Str := ["_law_number", "_law_wide"]
abbrev P_law_place : List Str := ["_law_number", "_law_wide"]
theorem sc_law_place : FnScope N_law_place P_law_place (defScope st_law_place) := ⟨rfl, rfl, rfl, by decide +kernel, rfl, by decide +kernel, by decide +kernel⟩
abbrev st_law_height : Stmt := topS 50
abbrev N_law_height : List Str := ["_law_number"]
abbrev P_law_height : List Str := ["_law_number"]
theorem sc_law_height : FnScope N_law_height P_law_height (defScope st_law_height) := ⟨rfl, rfl, rfl, by decide +kernel, rfl, by decide +kernel, by decide +kernel⟩
abbrev st_law_size : Stmt := topS 53
abbrev N_law_size : List Str := ["_law_cell", "_law_most", "_law_width"]
abbrev P_law_size : List Str := ["_law_cell", "_law_most"]
theorem sc_law_size : FnScope N_law_size P_law_size (defScope st_law_size) := ⟨rfl, rfl, rfl, by decide +kernel, rfl, by decide +kernel, by decide +kernel⟩
abbrev st_law_whole : Stmt := topS 55
abbrev N_law_whole : List Str := ["_law_found"]
abbrev P_law_whole : List Str := ["_law_found"]
theorem sc_law_whole : FnScope N_law_whole P_law_whole (defScope st_law_whole) := ⟨rfl, rfl, rfl, by decide +kernel, rfl, by decide +kernel, by decide +kernel⟩
abbrev st_law_laid : Stmt := topS 57
abbrev N_law_laid : List Str := ["_law_sets", "_law_found", "_law_one"]
abbrev P_law_laid : List Str := ["_law_sets"]
theorem sc_law_laid : FnScope N_law_laid P_law_laid (defScope st_law_laid) := ⟨rfl, rfl, rfl, by decide +kernel, rfl, by decide +kernel, by decide +kernel⟩
abbrev st_stone_cast : Stmt := topS 2
abbrev N_stone_cast : List Str := ["stone", "ray"]
abbrev P_stone_cast : List Str := ["stone", "ray"]
theorem sc_stone_cast : FnScope N_stone_cast P_stone_cast (defScope st_stone_cast) := ⟨rfl, rfl, rfl, by decide +kernel, rfl, by decide +kernel, by decide +kernel⟩
abbrev st_ratio : Stmt := topS 10
abbrev N_ratio : List Str := ["top", "bottom", "share"]
abbrev P_ratio : List Str := ["top", "bottom"]
theorem sc_ratio : FnScope N_ratio P_ratio (defScope st_ratio) := ⟨rfl, rfl, rfl, by decide +kernel, rfl, by decide +kernel, by decide +kernel⟩
abbrev st_pulls_of_two : Stmt := topS 14
abbrev N_pulls_of_two : List Str := ["one", "other"]
abbrev P_pulls_of_two : List Str := ["one", "other"]
theorem sc_pulls_of_two : FnScope N_pulls_of_two P_pulls_of_two (defScope st_pulls_of_two) := ⟨rfl, rfl, rfl, by decide +kernel, rfl, by decide +kernel, by decide +kernel⟩
abbrev st_pulls_of_three : Stmt := topS 15
abbrev N_pulls_of_three : List Str := ["one", "two", "three", "pulls"]
abbrev P_pulls_of_three : List Str := ["one", "two", "three"]
theorem sc_pulls_of_three : FnScope N_pulls_of_three P_pulls_of_three (defScope st_pulls_of_three) := ⟨rfl, rfl, rfl, by decide +kernel, rfl, by decide +kernel, by decide +kernel⟩
abbrev st_is_left : Stmt := topS 18
abbrev N_is_left : List Str := ["way", "other", "turned"]
abbrev P_is_left : List Str := ["way", "other"]
theorem sc_is_left : FnScope N_is_left P_is_left (defScope st_is_left) := ⟨rfl, rfl, rfl, by decide +kernel, rfl, by decide +kernel, by decide +kernel⟩
abbrev st_outermost : Stmt := topS 19
abbrev N_outermost : List Str := ["ways", "side", "best", "way"]
abbrev P_outermost : List Str := ["ways", "side"]
theorem sc_outermost : FnScope N_outermost P_outermost (defScope st_outermost) := ⟨rfl, rfl, rfl, by decide +kernel, rfl, by decide +kernel, by decide +kernel⟩
abbrev st_line_by : Stmt := topS 20
abbrev N_line_by : List Str := ["points", "right", "left", "x", "y", "l", "m", "one"]
abbrev P_line_by : List Str := ["points", "right", "left"]
theorem sc_line_by : FnScope N_line_by P_line_by (defScope st_line_by) := ⟨rfl, rfl, rfl, by decide +kernel, rfl, by decide +kernel, by decide +kernel⟩
abbrev st_Thing_shown : Stmt := inClass (topS 33) 3
abbrev N_Thing_shown : List Str := ["self", "number"]
abbrev P_Thing_shown : List Str := ["self"]
theorem sc_Thing_shown : FnScope N_Thing_shown P_Thing_shown (defScope st_Thing_shown) := ⟨rfl, rfl, rfl, by decide +kernel, rfl, by decide +kernel, by decide +kernel⟩
abbrev st_Sail_corners : Stmt := inClass (topS 36) 1
abbrev N_Sail_corners : List Str := ["self", "x", "y", "u", "v", "h"]
abbrev P_Sail_corners : List Str := ["self"]
theorem sc_Sail_corners : FnScope N_Sail_corners P_Sail_corners (defScope st_Sail_corners) := ⟨rfl, rfl, rfl, by decide +kernel, rfl, by decide +kernel, by decide +kernel⟩
abbrev st_box : Stmt := topS 40
abbrev N_box : List Str := ["x", "y", "u", "v", "h"]
abbrev P_box : List Str := ["x", "y", "u", "v", "h"]
theorem sc_box : FnScope N_box P_box (defScope st_box) := ⟨rfl, rfl, rfl, by decide +kernel, rfl, by decide +kernel, by decide +kernel⟩
abbrev st_law_thing : Stmt := topS 51
abbrev N_law_thing : List Str := ["_law_cell", "_law_wide", "_law_xs", "_law_x", "_law_y", "_law_h", "_law_kind", "_law_u", "_law_v", "_law_k"]
abbrev P_law_thing : List Str := ["_law_cell", "_law_wide"]
theorem sc_law_thing : FnScope N_law_thing P_law_thing (defScope st_law_thing) := ⟨rfl, rfl, rfl, by decide +kernel, rfl, by decide +kernel, by decide +kernel⟩
abbrev st_law_ray : Stmt := topS 52
abbrev N_law_ray : List Str := ["_law_cell", "_law_xs", "_law_scale"]
abbrev P_law_ray : List Str := ["_law_cell"]
theorem sc_law_ray : FnScope N_law_ray P_law_ray (defScope st_law_ray) := ⟨rfl, rfl, rfl, by decide +kernel, rfl, by decide +kernel, by decide +kernel⟩
abbrev st_law_right : Stmt := topS 58
abbrev N_law_right : List Str := ["_law_found", "_law_due"]
abbrev P_law_right : List Str := ["_law_found", "_law_due"]
theorem sc_law_right : FnScope N_law_right P_law_right (defScope st_law_right) := ⟨rfl, rfl, rfl, by decide +kernel, rfl, by decide +kernel, by decide +kernel⟩
abbrev st_pulls_of : Stmt := topS 16
abbrev N_pulls_of : List Str := ["ways", "i", "j", "pulls", "k"]
abbrev P_pulls_of : List Str := ["ways"]
theorem sc_pulls_of : FnScope N_pulls_of P_pulls_of (defScope st_pulls_of) := ⟨rfl, rfl, rfl, by decide +kernel, rfl, by decide +kernel, by decide +kernel⟩
abbrev st_weights_by : Stmt := topS 17
abbrev N_weights_by : List Str := ["many", "pulls", "total", "weights", "at", "pull"]
abbrev P_weights_by : List Str := ["many", "pulls"]
theorem sc_weights_by : FnScope N_weights_by P_weights_by (defScope st_weights_by) := ⟨rfl, rfl, rfl, by decide +kernel, rfl, by decide +kernel, by decide +kernel⟩
abbrev st_Post_corners : Stmt := inClass (topS 34) 1
abbrev N_Post_corners : List Str := ["self", "p", "q", "h"]
abbrev P_Post_corners : List Str := ["self"]
theorem sc_Post_corners : FnScope N_Post_corners P_Post_corners (defScope st_Post_corners) := ⟨rfl, rfl, rfl, by decide +kernel, rfl, by decide +kernel, by decide +kernel⟩
abbrev st_House_corners : Stmt := inClass (topS 38) 1
abbrev N_House_corners : List Str := ["self", "x", "y", "u", "v", "h"]
abbrev P_House_corners : List Str := ["self"]
theorem sc_House_corners : FnScope N_House_corners P_House_corners (defScope st_House_corners) := ⟨rfl, rfl, rfl, by decide +kernel, rfl, by decide +kernel, by decide +kernel⟩
abbrev st_cloth_of : Stmt := topS 43
abbrev N_cloth_of : List Str := ["numbers", "k"]
abbrev P_cloth_of : List Str := ["numbers"]
theorem sc_cloth_of : FnScope N_cloth_of P_cloth_of (defScope st_cloth_of) := ⟨rfl, rfl, rfl, by decide +kernel, rfl, by decide +kernel, by decide +kernel⟩
abbrev st_stretched : Stmt := topS 44
abbrev N_stretched : List Str := ["word", "numbers", "x", "y", "u", "v", "h"]
abbrev P_stretched : List Str := ["word", "numbers"]
theorem sc_stretched : FnScope N_stretched P_stretched (defScope st_stretched) := ⟨rfl, rfl, rfl, by decide +kernel, rfl, by decide +kernel, by decide +kernel⟩
abbrev st_law_fields : Stmt := topS 56
abbrev N_law_fields : List Str := ["_law_yard", "_law_size_here", "_law_things", "_law_ray_here", "_law_thing_here"]
abbrev P_law_fields : List Str := ["_law_yard", "_law_size_here", "_law_things", "_law_ray_here"]
theorem sc_law_fields : FnScope N_law_fields P_law_fields (defScope st_law_fields) := ⟨rfl, rfl, rfl, by decide +kernel, rfl, by decide +kernel, by decide +kernel⟩
abbrev st_held : Stmt := topS 21
abbrev N_held : List Str := ["points", "point", "ways", "right", "one", "way"]
abbrev P_held : List Str := ["points", "point"]
theorem sc_held : FnScope N_held P_held (defScope st_held) := ⟨rfl, rfl, rfl, by decide +kernel, rfl, by decide +kernel, by decide +kernel⟩
abbrev st_thing_of : Stmt := topS 45
abbrev N_thing_of : List Str := ["word", "numbers"]
abbrev P_thing_of : List Str := ["word", "numbers"]
theorem sc_thing_of : FnScope N_thing_of P_thing_of (defScope st_thing_of) := ⟨rfl, rfl, rfl, by decide +kernel, rfl, by decide +kernel, by decide +kernel⟩
abbrev st_shading : Stmt := topS 23
abbrev N_shading : List Str := ["thing", "stone", "ray", "corner"]
abbrev P_shading : List Str := ["thing", "stone", "ray"]
theorem sc_shading : FnScope N_shading P_shading (defScope st_shading) := ⟨rfl, rfl, rfl, by decide +kernel, rfl, by decide +kernel, by decide +kernel⟩
abbrev st_shades : Stmt := topS 24
abbrev N_shades : List Str := ["thing", "stone", "ray"]
abbrev P_shades : List Str := ["thing", "stone", "ray"]
theorem sc_shades : FnScope N_shades P_shades (defScope st_shades) := ⟨rfl, rfl, rfl, by decide +kernel, rfl, by decide +kernel, by decide +kernel⟩
abbrev st_dark_of : Stmt := topS 29
abbrev N_dark_of : List Str := ["yard", "thing", "ray", "stone"]
abbrev P_dark_of : List Str := ["yard", "thing", "ray"]
theorem sc_dark_of : FnScope N_dark_of P_dark_of (defScope st_dark_of) := ⟨rfl, rfl, rfl, by decide +kernel, rfl, by decide +kernel, by decide +kernel⟩
abbrev st_law_set : Stmt := topS 54
abbrev N_law_set : List Str := ["_law_size_here", "_law_thing_here", "_law_ray_here", "_law_found", "_law_q", "_law_p"]
abbrev P_law_set : List Str := ["_law_size_here", "_law_thing_here", "_law_ray_here"]
theorem sc_law_set : FnScope N_law_set P_law_set (defScope st_law_set) := ⟨rfl, rfl, rfl, by decide +kernel, rfl, by decide +kernel, by decide +kernel⟩
abbrev st_dark : Stmt := topS 30
abbrev N_dark : List Str := ["yard", "turn", "found", "thing"]
abbrev P_dark : List Str := ["yard", "turn"]
theorem sc_dark : FnScope N_dark P_dark (defScope st_dark) := ⟨rfl, rfl, rfl, by decide +kernel, rfl, by decide +kernel, by decide +kernel⟩
abbrev st_law : Stmt := topS 59
abbrev N_law : List Str := ["_law_script", "_law_size_here", "_law_ray_here", "_law_drawn", "_law_things", "_law_handed", "_law_days", "_law_yard", "_law_sets", "_law_due", "_law_word", "_law_numbers", "_law_more", "_law_other", "_law_cell", "_law_thing_here", "_law_k"]
abbrev P_law : List Str := ["_law_script"]
theorem sc_law : FnScope N_law P_law (defScope st_law) := ⟨rfl, rfl, rfl, by decide +kernel, rfl, by decide +kernel, by decide +kernel⟩
structure Gs where
  u : Unit := ()
  c_Yard : Addr
  c_Post : Addr
  c_Fence : Addr
  c_Sail : Addr
  c_Cloth : Addr
  c_House : Addr
  ne_Yard_Post : c_Yard ≠ c_Post
  ne_Yard_Fence : c_Yard ≠ c_Fence
  ne_Yard_Sail : c_Yard ≠ c_Sail
  ne_Yard_Cloth : c_Yard ≠ c_Cloth
  ne_Yard_House : c_Yard ≠ c_House
  ne_Post_Yard : c_Post ≠ c_Yard
  ne_Post_Fence : c_Post ≠ c_Fence
  ne_Post_Sail : c_Post ≠ c_Sail
  ne_Post_Cloth : c_Post ≠ c_Cloth
  ne_Post_House : c_Post ≠ c_House
  ne_Fence_Yard : c_Fence ≠ c_Yard
  ne_Fence_Post : c_Fence ≠ c_Post
  ne_Fence_Sail : c_Fence ≠ c_Sail
  ne_Fence_Cloth : c_Fence ≠ c_Cloth
  ne_Fence_House : c_Fence ≠ c_House
  ne_Sail_Yard : c_Sail ≠ c_Yard
  ne_Sail_Post : c_Sail ≠ c_Post
  ne_Sail_Fence : c_Sail ≠ c_Fence
  ne_Sail_Cloth : c_Sail ≠ c_Cloth
  ne_Sail_House : c_Sail ≠ c_House
  ne_Cloth_Yard : c_Cloth ≠ c_Yard
  ne_Cloth_Post : c_Cloth ≠ c_Post
  ne_Cloth_Fence : c_Cloth ≠ c_Fence
  ne_Cloth_Sail : c_Cloth ≠ c_Sail
  ne_Cloth_House : c_Cloth ≠ c_House
  ne_House_Yard : c_House ≠ c_Yard
  ne_House_Post : c_House ≠ c_Post
  ne_House_Fence : c_House ≠ c_Fence
  ne_House_Sail : c_House ≠ c_Sail
  ne_House_Cloth : c_House ≠ c_Cloth
noncomputable def s_cast (G : Gs) : DEnv → Fl := (sRet (sFz (sTup (sCons (sOp addD (sOp mulD (sIxV 1 (sC (.int 2))) (sIxV 0 (sC (.int 0)))) (sOp mulD (sIxV 1 (sC (.int 0))) (sIxV 0 (sC (.int 2))))) (sCons (sOp addD (sOp mulD (sIxV 1 (sC (.int 2))) (sIxV 0 (sC (.int 1)))) (sOp mulD (sIxV 1 (sC (.int 1))) (sIxV 0 (sC (.int 2))))) sNil)))))
noncomputable def φ_cast (G : Gs) (ds : List D) : CR := (s_cast G (env0 2 ds)).cr
noncomputable def b_bits_of_1 (G : Gs) : DEnv → Fl := (sSet 2 (sOp orD (sVar 2) (sOp shlD (sC (.int 1)) (sOp addD (sOp mulD (sVar 4) (sVar 1)) (sVar 3)))))
noncomputable def s_bits_of (G : Gs) : DEnv → Fl := (sSeq (sSet 2 (sC (.int 0))) (sSeq (sFor (sItems (sVar 0)) (kSeq 2 (kCons (kName 3) (kCons (kName 4) kNil))) (b_bits_of_1 G) [3, 4]) (sRet (sVar 2))))
noncomputable def φ_bits_of (G : Gs) (ds : List D) : CR := (s_bits_of G (env0 5 ds)).cr
noncomputable def w_common_part_1 (G : Gs) : DEnv → R Bool := (sTst (sOp neD (sVar 1) (sC (.int 0))))
noncomputable def b_common_part_2 (G : Gs) : DEnv → Fl := (sPar 0 1 (sCons (sVar 1) (sCons (sOp modD (sVar 0) (sVar 1)) sNil)))
noncomputable def s_common_part (G : Gs) : DEnv → Fl := (sSeq (sWhile (w_common_part_1 G) (b_common_part_2 G) []) (sRet (sFz (sCB (g1 absD) (sCons (sVar 0) sNil)))))
noncomputable def φ_common_part (G : Gs) (ds : List D) : CR := (s_common_part G (env0 2 ds)).cr
noncomputable def s_turn_of (G : Gs) : DEnv → Fl := (sRet (sOp subD (sOp mulD (sIxV 0 (sC (.int 0))) (sIxV 1 (sC (.int 1)))) (sOp mulD (sIxV 0 (sC (.int 1))) (sIxV 1 (sC (.int 0))))))
noncomputable def φ_turn_of (G : Gs) (ds : List D) : CR := (s_turn_of G (env0 2 ds)).cr
noncomputable def e_Yard_init_1 (G : Gs) : DEnv → R Val := (sTup (sCons (sVar 5) (sCons (sVar 6) (sCons (sCB (g1 listD) (sCons (sVar 7) sNil)) sNil))))
noncomputable def l_Yard_init (G : Gs) : List (Str × (DEnv → R Val)) := [("width", (sVar 1)), ("height", (sVar 2)), ("things", (sCB (g1 listD) (sCons (sVar 3) sNil))), ("days", (sComp (sItems (sVar 4)) (kSeq 3 (kCons (kName 5) (kCons (kName 6) (kCons (kName 7) kNil)))) sYes (e_Yard_init_1 G) [5, 6, 7]))]
noncomputable def φ_Yard_init (G : Gs) (ds : List D) : Option (List Str × List D) := runInit (l_Yard_init G) (none :: env0 7 ds) [] []
noncomputable def e_all_stones_1 (G : Gs) : DEnv → R Val := (sTup (sCons (sOp modD (sVar 1) (sUn (fldD [G.c_Yard] "width") (sVar 0))) (sCons (sOp fdivD (sVar 1) (sUn (fldD [G.c_Yard] "width") (sVar 0))) sNil)))
noncomputable def s_all_stones (G : Gs) : DEnv → Fl := (sRet (sFz (sComp (sRange rng1 (sCons (sOp mulD (sUn (fldD [G.c_Yard] "width") (sVar 0)) (sUn (fldD [G.c_Yard] "height") (sVar 0))) sNil)) (kName 1) sYes (e_all_stones_1 G) [1])))
noncomputable def φ_all_stones (G : Gs) (ds : List D) : CR := (s_all_stones G (env0 2 ds)).cr
noncomputable def l_Thing_init (G : Gs) : List (Str × (DEnv → R Val)) := [("numbers", (sCB (g1 tupleD) (sCons (sVar 1) sNil)))]
noncomputable def φ_Thing_init (G : Gs) (ds : List D) : Option (List Str × List D) := runInit (l_Thing_init G) (none :: env0 1 ds) [] []
noncomputable def s_Post_word (G : Gs) : DEnv → Fl := (sRet (sC (.str "post")))
noncomputable def φ_Post_word (G : Gs) (ds : List D) : CR := (s_Post_word G (env0 1 ds)).cr
noncomputable def s_Fence_word (G : Gs) : DEnv → Fl := (sRet (sC (.str "fence")))
noncomputable def φ_Fence_word (G : Gs) (ds : List D) : CR := (s_Fence_word G (env0 1 ds)).cr
noncomputable def s_Fence_corners (G : Gs) : DEnv → Fl := (sSeq (sAsg (sUn (fldD [G.c_Post, G.c_Fence, G.c_Sail, G.c_Cloth, G.c_House] "numbers") (sVar 0)) (kSeq 5 (kCons (kName 1) (kCons (kName 2) (kCons (kName 3) (kCons (kName 4) (kCons (kName 5) kNil))))))) (sRet (sFz (sLst (sCons (sTup (sCons (sVar 1) (sCons (sVar 2) (sCons (sC (.int 0)) sNil)))) (sCons (sTup (sCons (sVar 3) (sCons (sVar 4) (sCons (sC (.int 0)) sNil)))) (sCons (sTup (sCons (sVar 3) (sCons (sVar 4) (sCons (sVar 5) sNil)))) (sCons (sTup (sCons (sVar 1) (sCons (sVar 2) (sCons (sVar 5) sNil)))) sNil))))))))
noncomputable def φ_Fence_corners (G : Gs) (ds : List D) : CR := (s_Fence_corners G (env0 6 ds)).cr
noncomputable def s_Sail_word (G : Gs) : DEnv → Fl := (sRet (sC (.str "sail")))
noncomputable def φ_Sail_word (G : Gs) (ds : List D) : CR := (s_Sail_word G (env0 1 ds)).cr
noncomputable def s_Cloth_word (G : Gs) : DEnv → Fl := (sRet (sC (.str "cloth")))
noncomputable def φ_Cloth_word (G : Gs) (ds : List D) : CR := (s_Cloth_word G (env0 1 ds)).cr
noncomputable def s_Cloth_corners (G : Gs) : DEnv → Fl := (sRet (sFz (sLst (sCons (sSl (sUn (fldD [G.c_Post, G.c_Fence, G.c_Sail, G.c_Cloth, G.c_House] "numbers") (sVar 0)) none (some (sC (.int 3)))) (sCons (sSl (sUn (fldD [G.c_Post, G.c_Fence, G.c_Sail, G.c_Cloth, G.c_House] "numbers") (sVar 0)) (some (sC (.int 3))) (some (sC (.int 6)))) (sCons (sSl (sUn (fldD [G.c_Post, G.c_Fence, G.c_Sail, G.c_Cloth, G.c_House] "numbers") (sVar 0)) (some (sC (.int 6))) none) sNil))))))
noncomputable def φ_Cloth_corners (G : Gs) (ds : List D) : CR := (s_Cloth_corners G (env0 1 ds)).cr
noncomputable def s_House_word (G : Gs) : DEnv → Fl := (sRet (sC (.str "house")))
noncomputable def φ_House_word (G : Gs) (ds : List D) : CR := (s_House_word G (env0 1 ds)).cr
noncomputable def s_level (G : Gs) : DEnv → Fl := (sRet (sFz (sLst (sCons (sTup (sCons (sVar 0) (sCons (sVar 1) (sCons (sVar 4) sNil)))) (sCons (sTup (sCons (sVar 2) (sCons (sVar 1) (sCons (sVar 4) sNil)))) (sCons (sTup (sCons (sVar 2) (sCons (sVar 3) (sCons (sVar 4) sNil)))) (sCons (sTup (sCons (sVar 0) (sCons (sVar 3) (sCons (sVar 4) sNil)))) sNil)))))))
noncomputable def φ_level (G : Gs) (ds : List D) : CR := (s_level G (env0 5 ds)).cr
noncomputable def e_are_places_1 (G : Gs) : DEnv → R Val := (sChain (gI (fun i j => decide (i ≤ j))) (gI (fun i j => decide (i ≤ j))) (sOp subD (sC (.int 0)) (sC (.int 1000000000))) (sVar 1) (sC (.int 1000000000)))
noncomputable def s_are_places (G : Gs) : DEnv → Fl := (sRet (sFz (sCB (g1 allD) (sCons (sComp (sItems (sVar 0)) (kName 1) sYes (e_are_places_1 G) [1]) sNil))))
noncomputable def φ_are_places (G : Gs) (ds : List D) : CR := (s_are_places G (env0 2 ds)).cr
noncomputable def s_is_height (G : Gs) : DEnv → Fl := (sRet (sChain (gI (fun i j => decide (i ≤ j))) (gI (fun i j => decide (i ≤ j))) (sVar 1) (sVar 0) (sC (.int 1000000000))))
noncomputable def φ_is_height (G : Gs) (ds : List D) : CR := (s_is_height G (env0 2 ds)).cr
noncomputable def s_law_at (G : Gs) : DEnv → Fl := (sSeq (sIf (sTst (sOp ltD (sVar 1) (sLenV 0))) (sRet (sFz (sIxV 0 (sVar 1)))) sSkip) (sRet (sC (.int 0))))
noncomputable def φ_law_at (G : Gs) (ds : List D) : CR := (s_law_at G (env0 2 ds)).cr
noncomputable def b_law_grains_1 (G : Gs) : DEnv → Fl := (sIf (sTst (sOp eqD (sOp modD (sVar 0) (sC (.int 2))) (sC (.int 0)))) (sSeq (sApp 2 (sOp modD (sVar 3) (sC (.int 524287)))) (sSet 3 (sOp fdivD (sVar 3) (sC (.int 524287))))) (sSeq (sSet 3 (sFz (sOp modD (sOp addD (sOp addD (sOp mulD (sVar 3) (sC (.int 49157))) (sC (.int 24593))) (sOp mulD (sC (.int 2)) (sVar 4))) (sC (.int 8388593))))) (sApp 2 (sOp fdivD (sVar 3) (sC (.int 16))))))
noncomputable def s_law_grains (G : Gs) : DEnv → Fl := (sSeq (sSet 2 (sLst sNil)) (sSeq (sSet 3 (sOp fdivD (sVar 0) (sC (.int 2)))) (sSeq (sIf (sTst (sOp eqD (sOp modD (sVar 0) (sC (.int 2))) (sC (.int 1)))) (sSet 3 (sFz (sOp modD (sVar 3) (sC (.int 8388593))))) sSkip) (sSeq (sFor (sRange rng1 (sCons (sVar 1) sNil)) (kName 4) (b_law_grains_1 G) [4]) (sRet (sVar 2))))))
noncomputable def φ_law_grains (G : Gs) (ds : List D) : CR := (s_law_grains G (env0 5 ds)).cr
noncomputable def s_law_place (G : Gs) : DEnv → Fl := (sSeq (sIf (sTst (sOp eqD (sOp modD (sOp fdivD (sVar 0) (sC (.int 512))) (sC (.int 16))) (sC (.int 5)))) (sRet (sFz (sOp addD (sOp subD (sOp modD (sOp mulD (sVar 0) (sC (.int 3813))) (sOp subD (sOp mulD (sC (.int 2)) (sOp powD (sC (.int 10)) (sC (.int 9)))) (sC (.int 99)))) (sOp powD (sC (.int 10)) (sC (.int 9)))) (sC (.int 50))))) sSkip) (sRet (sOp subD (sOp modD (sVar 0) (sOp addD (sOp mulD (sC (.int 2)) (sVar 1)) (sC (.int 9)))) (sC (.int 4)))))
noncomputable def φ_law_place (G : Gs) (ds : List D) : CR := (s_law_place G (env0 2 ds)).cr
noncomputable def s_law_height (G : Gs) : DEnv → Fl := (sSeq (sIf (sTst (sOp eqD (sOp modD (sOp fdivD (sVar 0) (sC (.int 512))) (sC (.int 12))) (sC (.int 7)))) (sRet (sFz (sOp addD (sC (.int 1)) (sOp modD (sOp mulD (sVar 0) (sC (.int 1907))) (sOp powD (sC (.int 10)) (sC (.int 9))))))) sSkip) (sRet (sFz (sOp addD (sC (.int 1)) (sOp modD (sVar 0) (sC (.int 9)))))))
noncomputable def φ_law_height (G : Gs) (ds : List D) : CR := (s_law_height G (env0 1 ds)).cr
noncomputable def s_law_size (G : Gs) : DEnv → Fl := (sSeq (sIf (sAnd (sTst (sOp eqD (sOp modD (sOp fdivD (sVar 0) (sC (.int 7))) (sC (.int 16))) (sC (.int 11)))) (sTst (sOp gtD (sVar 1) (sC (.int 6))))) (sRet (sFz (sOp ixD (sLst (sCons (sTup (sCons (sC (.int 1)) (sCons (sC (.int 20)) sNil))) (sCons (sTup (sCons (sC (.int 20)) (sCons (sC (.int 1)) sNil))) sNil))) (sOp modD (sVar 0) (sC (.int 2)))))) sSkip) (sSeq (sSet 2 (sFz (sOp addD (sC (.int 1)) (sOp modD (sVar 0) (sCB (g2 min2D) (sCons (sC (.int 5)) (sCons (sVar 1) sNil))))))) (sRet (sFz (sTup (sCons (sVar 2) (sCons (sOp addD (sC (.int 1)) (sOp modD (sOp fdivD (sVar 0) (sC (.int 5))) (sCB (g2 min2D) (sCons (sC (.int 4)) (sCons (sOp fdivD (sVar 1) (sVar 2)) sNil))))) sNil)))))))
noncomputable def φ_law_size (G : Gs) (ds : List D) : CR := (s_law_size G (env0 3 ds)).cr
noncomputable def s_law_whole (G : Gs) : DEnv → Fl := (sRet (sAndV (sUn (isiD .int) (sVar 0)) (sNotV (sUn (isiD .bool) (sVar 0)))))
noncomputable def φ_law_whole (G : Gs) (ds : List D) : CR := (s_law_whole G (env0 1 ds)).cr
noncomputable def b_law_laid_1 (G : Gs) : DEnv → Fl := (sSet 1 (sOp orD (sVar 1) (sVar 2)))
noncomputable def s_law_laid (G : Gs) : DEnv → Fl := (sSeq (sSet 1 (sC (.int 0))) (sSeq (sFor (sItems (sVar 0)) (kName 2) (b_law_laid_1 G) [2]) (sRet (sVar 1))))
noncomputable def φ_law_laid (G : Gs) (ds : List D) : CR := (s_law_laid G (env0 3 ds)).cr
noncomputable abbrev tab_word (G : Gs) : List (Addr × (List D → CR)) := [(G.c_Post, φ_Post_word G), (G.c_Fence, φ_Fence_word G), (G.c_Sail, φ_Sail_word G), (G.c_Cloth, φ_Cloth_word G), (G.c_House, φ_House_word G)]
noncomputable def s_stone_cast (G : Gs) : DEnv → Fl := (sRet (sFz (sCall (φ_cast G) 2 (sCons (sTup (sCons (sOp mulD (sC (.int 2)) (sIxV 0 (sC (.int 0)))) (sCons (sOp mulD (sC (.int 2)) (sIxV 0 (sC (.int 1)))) (sCons (sC (.int 0)) sNil)))) (sCons (sVar 1) sNil)))))
noncomputable def φ_stone_cast (G : Gs) (ds : List D) : CR := (s_stone_cast G (env0 2 ds)).cr
noncomputable def s_ratio (G : Gs) : DEnv → Fl := (sSeq (sIf (sTst (sOp eqD (sVar 1) (sC (.int 0)))) sBad sSkip) (sSeq (sSet 2 (sFz (sCall (φ_common_part G) 2 (sCons (sVar 0) (sCons (sVar 1) sNil))))) (sSeq (sIf (sTst (sOp ltD (sVar 1) (sC (.int 0)))) (sSet 2 (sOp subD (sC (.int 0)) (sVar 2))) sSkip) (sRet (sFz (sTup (sCons (sOp fdivD (sVar 0) (sVar 2)) (sCons (sOp fdivD (sVar 1) (sVar 2)) sNil))))))))
noncomputable def φ_ratio (G : Gs) (ds : List D) : CR := (s_ratio G (env0 3 ds)).cr
noncomputable def s_pulls_of_two (G : Gs) : DEnv → Fl := (sSeq (sIf (sOr (sTst (sOp neD (sCall (φ_turn_of G) 2 (sCons (sVar 0) (sCons (sVar 1) sNil))) (sC (.int 0)))) (sTst (sOp geD (sOp addD (sOp mulD (sIxV 0 (sC (.int 0))) (sIxV 1 (sC (.int 0)))) (sOp mulD (sIxV 0 (sC (.int 1))) (sIxV 1 (sC (.int 1))))) (sC (.int 0))))) (sRet (sC .non)) sSkip) (sSeq (sIf (sTst (sOp neD (sIxV 0 (sC (.int 0))) (sC (.int 0)))) (sRet (sFz (sTup (sCons (sCB (g1 absD) (sCons (sIxV 1 (sC (.int 0))) sNil)) (sCons (sCB (g1 absD) (sCons (sIxV 0 (sC (.int 0))) sNil)) sNil))))) sSkip) (sRet (sFz (sTup (sCons (sCB (g1 absD) (sCons (sIxV 1 (sC (.int 1))) sNil)) (sCons (sCB (g1 absD) (sCons (sIxV 0 (sC (.int 1))) sNil)) sNil)))))))
noncomputable def φ_pulls_of_two (G : Gs) (ds : List D) : CR := (s_pulls_of_two G (env0 2 ds)).cr
noncomputable def s_pulls_of_three (G : Gs) : DEnv → Fl := (sSeq (sSet 3 (sFz (sTup (sCons (sCall (φ_turn_of G) 2 (sCons (sVar 1) (sCons (sVar 2) sNil))) (sCons (sCall (φ_turn_of G) 2 (sCons (sVar 2) (sCons (sVar 0) sNil))) (sCons (sCall (φ_turn_of G) 2 (sCons (sVar 0) (sCons (sVar 1) sNil))) sNil)))))) (sSeq (sIf (sTst (sOp gtD (sCB (orC (g1 minD) (g1 minTD)) (sCons (sVar 3) sNil)) (sC (.int 0)))) (sRet (sVar 3)) sSkip) (sSeq (sIf (sTst (sOp ltD (sCB (orC (g1 maxD) (g1 maxTD)) (sCons (sVar 3) sNil)) (sC (.int 0)))) (sRet (sFz (sTup (sCons (sOp subD (sC (.int 0)) (sIxV 3 (sC (.int 0)))) (sCons (sOp subD (sC (.int 0)) (sIxV 3 (sC (.int 1)))) (sCons (sOp subD (sC (.int 0)) (sIxV 3 (sC (.int 2)))) sNil)))))) sSkip) (sRet (sC .non)))))
noncomputable def φ_pulls_of_three (G : Gs) (ds : List D) : CR := (s_pulls_of_three G (env0 4 ds)).cr
noncomputable def s_is_left (G : Gs) : DEnv → Fl := (sSeq (sSet 2 (sFz (sCall (φ_turn_of G) 2 (sCons (sVar 0) (sCons (sVar 1) sNil))))) (sRet (sOrV (sOp gtD (sVar 2) (sC (.int 0))) (sAndV (sOp eqD (sVar 2) (sC (.int 0))) (sOp gtD (sOp addD (sOp mulD (sIxV 0 (sC (.int 0))) (sIxV 1 (sC (.int 0)))) (sOp mulD (sIxV 0 (sC (.int 1))) (sIxV 1 (sC (.int 1))))) (sC (.int 0)))))))
noncomputable def φ_is_left (G : Gs) (ds : List D) : CR := (s_is_left G (env0 3 ds)).cr
noncomputable def b_outermost_1 (G : Gs) : DEnv → Fl := (sIf (sTst (sOp ltD (sOp mulD (sVar 1) (sCall (φ_turn_of G) 2 (sCons (sVar 2) (sCons (sVar 3) sNil)))) (sC (.int 0)))) (sSet 2 (sVar 3)) sSkip)
noncomputable def s_outermost (G : Gs) : DEnv → Fl := (sSeq (sSet 2 (sFz (sIxV 0 (sC (.int 0))))) (sSeq (sFor (sItems (sVar 0)) (kName 3) (b_outermost_1 G) [3]) (sRet (sVar 2))))
noncomputable def φ_outermost (G : Gs) (ds : List D) : CR := (s_outermost G (env0 4 ds)).cr
noncomputable def e_line_by_1 (G : Gs) : DEnv → R Val := (sOp addD (sOp mulD (sVar 5) (sIxV 7 (sC (.int 0)))) (sOp mulD (sVar 6) (sIxV 7 (sC (.int 1)))))
noncomputable def s_line_by (G : Gs) : DEnv → Fl := (sSeq (sIf (sTst (sOp eqD (sCall (φ_turn_of G) 2 (sCons (sVar 1) (sCons (sVar 2) sNil))) (sC (.int 0)))) (sAsg (sVar 1) (kSeq 2 (kCons (kName 3) (kCons (kName 4) kNil)))) (sSeq (sSet 3 (sOp subD (sIxV 2 (sC (.int 1))) (sIxV 1 (sC (.int 1))))) (sSet 4 (sOp subD (sIxV 1 (sC (.int 0))) (sIxV 2 (sC (.int 0))))))) (sSeq (sSet 5 (sOp subD (sC (.int 0)) (sVar 3))) (sSeq (sSet 6 (sOp subD (sC (.int 0)) (sVar 4))) (sRet (sFz (sTup (sCons (sVar 5) (sCons (sVar 6) (sCons (sCB (orC (g1 maxD) (g1 maxTD)) (sCons (sComp (sItems (sVar 0)) (kName 7) sYes (e_line_by_1 G) [7]) sNil)) sNil)))))))))
noncomputable def φ_line_by (G : Gs) (ds : List D) : CR := (s_line_by G (env0 8 ds)).cr
noncomputable def e_Thing_shown_1 (G : Gs) : DEnv → R Val := (sCB (g1 strD) (sCons (sVar 1) sNil))
noncomputable def s_Thing_shown (G : Gs) : DEnv → Fl := (sRet (sFz (sJoin (sC (.str " ")) (sOp addD (sLst (sCons (sMeth (tab_word G) "word" 1 (sVar 0) sNil) sNil)) (sComp (sItems (sUn (fldD [G.c_Post, G.c_Fence, G.c_Sail, G.c_Cloth, G.c_House] "numbers") (sVar 0))) (kName 1) sYes (e_Thing_shown_1 G) [1])))))
noncomputable def φ_Thing_shown (G : Gs) (ds : List D) : CR := (s_Thing_shown G (env0 2 ds)).cr
noncomputable def s_Sail_corners (G : Gs) : DEnv → Fl := (sSeq (sAsg (sUn (fldD [G.c_Post, G.c_Fence, G.c_Sail, G.c_Cloth, G.c_House] "numbers") (sVar 0)) (kSeq 5 (kCons (kName 1) (kCons (kName 2) (kCons (kName 3) (kCons (kName 4) (kCons (kName 5) kNil))))))) (sRet (sFz (sCall (φ_level G) 5 (sCons (sVar 1) (sCons (sVar 2) (sCons (sVar 3) (sCons (sVar 4) (sCons (sVar 5) sNil)))))))))
noncomputable def φ_Sail_corners (G : Gs) (ds : List D) : CR := (s_Sail_corners G (env0 6 ds)).cr
noncomputable def s_box (G : Gs) : DEnv → Fl := (sRet (sFz (sOp addD (sCall (φ_level G) 5 (sCons (sVar 0) (sCons (sVar 1) (sCons (sVar 2) (sCons (sVar 3) (sCons (sC (.int 0)) sNil)))))) (sCall (φ_level G) 5 (sCons (sVar 0) (sCons (sVar 1) (sCons (sVar 2) (sCons (sVar 3) (sCons (sVar 4) sNil)))))))))
noncomputable def φ_box (G : Gs) (ds : List D) : CR := (s_box G (env0 5 ds)).cr
noncomputable def e_law_thing_1 (G : Gs) : DEnv → R Val := (sCall (φ_law_place G) 2 (sCons (sIxV 2 (sVar 9)) (sCons (sVar 1) sNil)))
noncomputable def s_law_thing (G : Gs) : DEnv → Fl := (sSeq (sSet 2 (sFz (sCall (φ_law_grains G) 2 (sCons (sVar 0) (sCons (sC (.int 14)) sNil))))) (sSeq (sAsg (sComp (sRange rng1 (sCons (sC (.int 2)) sNil)) (kName 9) sYes (e_law_thing_1 G) [9]) (kSeq 2 (kCons (kName 3) (kCons (kName 4) kNil)))) (sSeq (sSet 5 (sFz (sCall (φ_law_height G) 1 (sCons (sIxV 2 (sC (.int 2))) sNil)))) (sSeq (sSet 6 (sFz (sOp modD (sIxV 2 (sC (.int 3))) (sC (.int 5))))) (sSeq (sIf (sTst (sOp eqD (sVar 6) (sC (.int 0)))) (sRet (sFz (sTup (sCons (sC (.str "post")) (sCons (sLst (sCons (sOp fdivD (sVar 3) (sC (.int 2))) (sCons (sOp fdivD (sVar 4) (sC (.int 2))) (sCons (sVar 5) sNil)))) sNil))))) sSkip) (sSeq (sIf (sTst (sOp eqD (sVar 6) (sC (.int 1)))) (sSeq (sAsg (sLst (sCons (sOp subD (sOp addD (sVar 3) (sOp modD (sIxV 2 (sC (.int 4))) (sC (.int 9)))) (sC (.int 4))) (sCons (sOp subD (sOp addD (sVar 4) (sOp modD (sIxV 2 (sC (.int 5))) (sC (.int 9)))) (sC (.int 4))) sNil))) (kSeq 2 (kCons (kName 7) (kCons (kName 8) kNil)))) (sRet (sFz (sTup (sCons (sC (.str "fence")) (sCons (sLst (sCons (sVar 3) (sCons (sVar 4) (sCons (sOp addD (sVar 7) (sCB (g1 intD) (sCons (sOp eqD (sTup (sCons (sVar 3) (sCons (sVar 4) sNil))) (sTup (sCons (sVar 7) (sCons (sVar 8) sNil)))) sNil))) (sCons (sVar 8) (sCons (sVar 5) sNil)))))) sNil)))))) sSkip) (sSeq (sIf (sTst (sOp eqD (sVar 6) (sC (.int 2)))) (sRet (sFz (sTup (sCons (sC (.str "cloth")) (sCons (sOp addD (sOp addD (sLst (sCons (sVar 3) (sCons (sVar 4) (sCons (sOp modD (sIxV 2 (sC (.int 6))) (sC (.int 10))) sNil)))) (sLst (sCons (sCall (φ_law_place G) 2 (sCons (sIxV 2 (sC (.int 7))) (sCons (sVar 1) sNil))) (sCons (sCall (φ_law_place G) 2 (sCons (sIxV 2 (sC (.int 8))) (sCons (sVar 1) sNil))) (sCons (sVar 5) sNil))))) (sLst (sCons (sCall (φ_law_place G) 2 (sCons (sIxV 2 (sC (.int 9))) (sCons (sVar 1) sNil))) (sCons (sCall (φ_law_place G) 2 (sCons (sIxV 2 (sC (.int 10))) (sCons (sVar 1) sNil))) (sCons (sCall (φ_law_height G) 1 (sCons (sIxV 2 (sC (.int 11))) sNil)) sNil))))) sNil))))) sSkip) (sRet (sFz (sTup (sCons (sOp ixD (sLst (sCons (sC (.str "sail")) (sCons (sC (.str "house")) sNil))) (sOp subD (sVar 6) (sC (.int 3)))) (sCons (sLst (sCons (sVar 3) (sCons (sVar 4) (sCons (sOp addD (sOp addD (sVar 3) (sC (.int 1))) (sOp modD (sIxV 2 (sC (.int 4))) (sC (.int 8)))) (sCons (sOp addD (sOp addD (sVar 4) (sC (.int 1))) (sOp modD (sIxV 2 (sC (.int 5))) (sC (.int 8)))) (sCons (sVar 5) sNil)))))) sNil))))))))))))
noncomputable def φ_law_thing (G : Gs) (ds : List D) : CR := (s_law_thing G (env0 10 ds)).cr
noncomputable def s_law_ray (G : Gs) : DEnv → Fl := (sSeq (sSet 1 (sFz (sCall (φ_law_grains G) 2 (sCons (sVar 0) (sCons (sC (.int 4)) sNil))))) (sSeq (sSet 2 (sFz (sOp ixD (sLst (sCons (sC (.int 1)) (sCons (sC (.int 1)) (sCons (sC (.int 3)) (sCons (sOp powD (sC (.int 10)) (sC (.int 5))) sNil))))) (sOp modD (sIxV 1 (sC (.int 3))) (sC (.int 4)))))) (sRet (sFz (sTup (sCons (sOp mulD (sOp subD (sOp modD (sIxV 1 (sC (.int 0))) (sC (.int 13))) (sC (.int 6))) (sVar 2)) (sCons (sOp mulD (sOp subD (sOp modD (sIxV 1 (sC (.int 1))) (sC (.int 13))) (sC (.int 6))) (sVar 2)) (sCons (sOp mulD (sOp addD (sC (.int 1)) (sOp modD (sIxV 1 (sC (.int 2))) (sC (.int 5)))) (sVar 2)) sNil))))))))
noncomputable def φ_law_ray (G : Gs) (ds : List D) : CR := (s_law_ray G (env0 3 ds)).cr
noncomputable def s_law_right (G : Gs) : DEnv → Fl := (sRet (sAndV (sCall (φ_law_whole G) 1 (sCons (sVar 0) sNil)) (sOp eqD (sVar 0) (sVar 1))))
noncomputable def φ_law_right (G : Gs) (ds : List D) : CR := (s_law_right G (env0 2 ds)).cr
noncomputable abbrev tab_shown (G : Gs) : List (Addr × (List D → CR)) := [(G.c_Post, φ_Thing_shown G), (G.c_Fence, φ_Thing_shown G), (G.c_Sail, φ_Thing_shown G), (G.c_Cloth, φ_Thing_shown G), (G.c_House, φ_Thing_shown G)]
noncomputable def b_pulls_of_1 (G : Gs) : DEnv → Fl := (sIf (sTst (sOp eqD (sIxV 0 (sVar 1)) (sTup (sCons (sC (.int 0)) (sCons (sC (.int 0)) sNil))))) (sRet (sFz (sLst (sCons (sTup (sCons (sVar 1) (sCons (sC (.int 1)) sNil))) sNil)))) sSkip)
noncomputable def b_pulls_of_2 (G : Gs) : DEnv → Fl := (sSeq (sSet 3 (sFz (sCall (φ_pulls_of_two G) 2 (sCons (sIxV 0 (sVar 1)) (sCons (sIxV 0 (sVar 2)) sNil))))) (sIf (sTst (sUn (isND true) (sVar 3))) (sRet (sFz (sLst (sCons (sTup (sCons (sVar 1) (sCons (sIxV 3 (sC (.int 0))) sNil))) (sCons (sTup (sCons (sVar 2) (sCons (sIxV 3 (sC (.int 1))) sNil))) sNil))))) sSkip))
noncomputable def b_pulls_of_3 (G : Gs) : DEnv → Fl := (sFor (sRange rng1 (sCons (sVar 2) sNil)) (kName 1) (b_pulls_of_2 G) [3, 1])
noncomputable def b_pulls_of_4 (G : Gs) : DEnv → Fl := (sSeq (sSet 3 (sFz (sCall (φ_pulls_of_three G) 3 (sCons (sIxV 0 (sVar 1)) (sCons (sIxV 0 (sVar 2)) (sCons (sIxV 0 (sVar 4)) sNil)))))) (sIf (sTst (sUn (isND true) (sVar 3))) (sRet (sFz (sLst (sCons (sTup (sCons (sVar 1) (sCons (sIxV 3 (sC (.int 0))) sNil))) (sCons (sTup (sCons (sVar 2) (sCons (sIxV 3 (sC (.int 1))) sNil))) (sCons (sTup (sCons (sVar 4) (sCons (sIxV 3 (sC (.int 2))) sNil))) sNil)))))) sSkip))
noncomputable def b_pulls_of_5 (G : Gs) : DEnv → Fl := (sFor (sRange rng1 (sCons (sVar 2) sNil)) (kName 1) (b_pulls_of_4 G) [3, 1])
noncomputable def b_pulls_of_6 (G : Gs) : DEnv → Fl := (sFor (sRange rng1 (sCons (sVar 4) sNil)) (kName 2) (b_pulls_of_5 G) [1, 3, 2])
noncomputable def s_pulls_of (G : Gs) : DEnv → Fl := (sSeq (sFor (sRange rng1 (sCons (sLenV 0) sNil)) (kName 1) (b_pulls_of_1 G) [1]) (sSeq (sFor (sRange rng1 (sCons (sLenV 0) sNil)) (kName 2) (b_pulls_of_3 G) [1, 3, 2]) (sSeq (sFor (sRange rng1 (sCons (sLenV 0) sNil)) (kName 4) (b_pulls_of_6 G) [2, 1, 3, 4]) (sRet (sC .non)))))
noncomputable def φ_pulls_of (G : Gs) (ds : List D) : CR := (s_pulls_of G (env0 5 ds)).cr
noncomputable def e_weights_by_1 (G : Gs) : DEnv → R Val := (sVar 5)
noncomputable def b_weights_by_2 (G : Gs) : DEnv → Fl := (sSetIx 3 (sVar 4) (sCall (φ_ratio G) 2 (sCons (sVar 5) (sCons (sVar 2) sNil))))
noncomputable def s_weights_by (G : Gs) : DEnv → Fl := (sSeq (sSet 2 (sFz (sCB (g1 sumD) (sCons (sComp (sItems (sVar 1)) (kSeq 2 (kCons (kName 4) (kCons (kName 5) kNil))) sYes (e_weights_by_1 G) [4, 5]) sNil)))) (sSeq (sSet 3 (sOp mulD (sLst (sCons (sC (.tup [.int (0), .int (1)])) sNil)) (sVar 0))) (sSeq (sFor (sItems (sVar 1)) (kSeq 2 (kCons (kName 4) (kCons (kName 5) kNil))) (b_weights_by_2 G) [4, 5]) (sRet (sVar 3)))))
noncomputable def φ_weights_by (G : Gs) (ds : List D) : CR := (s_weights_by G (env0 6 ds)).cr
noncomputable def s_Post_corners (G : Gs) : DEnv → Fl := (sSeq (sAsg (sUn (fldD [G.c_Post, G.c_Fence, G.c_Sail, G.c_Cloth, G.c_House] "numbers") (sVar 0)) (kSeq 3 (kCons (kName 1) (kCons (kName 2) (kCons (kName 3) kNil))))) (sRet (sFz (sCall (φ_box G) 5 (sCons (sOp subD (sOp mulD (sC (.int 2)) (sVar 1)) (sC (.int 1))) (sCons (sOp subD (sOp mulD (sC (.int 2)) (sVar 2)) (sC (.int 1))) (sCons (sOp addD (sOp mulD (sC (.int 2)) (sVar 1)) (sC (.int 1))) (sCons (sOp addD (sOp mulD (sC (.int 2)) (sVar 2)) (sC (.int 1))) (sCons (sVar 3) sNil)))))))))
noncomputable def φ_Post_corners (G : Gs) (ds : List D) : CR := (s_Post_corners G (env0 4 ds)).cr
noncomputable def s_House_corners (G : Gs) : DEnv → Fl := (sSeq (sAsg (sUn (fldD [G.c_Post, G.c_Fence, G.c_Sail, G.c_Cloth, G.c_House] "numbers") (sVar 0)) (kSeq 5 (kCons (kName 1) (kCons (kName 2) (kCons (kName 3) (kCons (kName 4) (kCons (kName 5) kNil))))))) (sRet (sFz (sCall (φ_box G) 5 (sCons (sVar 1) (sCons (sVar 2) (sCons (sVar 3) (sCons (sVar 4) (sCons (sVar 5) sNil)))))))))
noncomputable def φ_House_corners (G : Gs) (ds : List D) : CR := (s_House_corners G (env0 6 ds)).cr
noncomputable def b_cloth_of_1 (G : Gs) : DEnv → Fl := (sIf (sOr (sNot (sTst (sCall (φ_are_places G) 1 (sCons (sSl (sVar 0) (some (sVar 1)) (some (sOp addD (sVar 1) (sC (.int 2))))) sNil)))) (sNot (sTst (sCall (φ_is_height G) 2 (sCons (sIxV 0 (sOp addD (sVar 1) (sC (.int 2)))) (sCons (sC (.int 0)) sNil)))))) sBad sSkip)
noncomputable def s_cloth_of (G : Gs) : DEnv → Fl := (sSeq (sFor (sItems (sTup (sCons (sC (.int 0)) (sCons (sC (.int 3)) (sCons (sC (.int 6)) sNil))))) (kName 1) (b_cloth_of_1 G) [1]) (sRet (sFz (sMake G.c_Cloth (φ_Thing_init G) 1 (sCons (sVar 0) sNil)))))
noncomputable def φ_cloth_of (G : Gs) (ds : List D) : CR := (s_cloth_of G (env0 2 ds)).cr
noncomputable def s_stretched (G : Gs) : DEnv → Fl := (sSeq (sAsg (sVar 1) (kSeq 5 (kCons (kName 2) (kCons (kName 3) (kCons (kName 4) (kCons (kName 5) (kCons (kName 6) kNil))))))) (sSeq (sIf (sOr (sNot (sTst (sCall (φ_are_places G) 1 (sCons (sSl (sVar 1) none (some (sC (.int 4)))) sNil)))) (sNot (sTst (sCall (φ_is_height G) 2 (sCons (sVar 6) (sCons (sC (.int 1)) sNil)))))) sBad sSkip) (sSeq (sIf (sAnd (sTst (sOp eqD (sVar 0) (sC (.str "fence")))) (sTst (sOp neD (sTup (sCons (sVar 2) (sCons (sVar 3) sNil))) (sTup (sCons (sVar 4) (sCons (sVar 5) sNil)))))) (sRet (sFz (sMake G.c_Fence (φ_Thing_init G) 1 (sCons (sVar 1) sNil)))) sSkip) (sSeq (sIf (sAnd (sTst (sOp eqD (sVar 0) (sC (.str "sail")))) (sAnd (sTst (sOp ltD (sVar 2) (sVar 4))) (sTst (sOp ltD (sVar 3) (sVar 5))))) (sRet (sFz (sMake G.c_Sail (φ_Thing_init G) 1 (sCons (sVar 1) sNil)))) sSkip) (sSeq (sIf (sAnd (sTst (sOp eqD (sVar 0) (sC (.str "house")))) (sAnd (sTst (sOp ltD (sVar 2) (sVar 4))) (sTst (sOp ltD (sVar 3) (sVar 5))))) (sRet (sFz (sMake G.c_House (φ_Thing_init G) 1 (sCons (sVar 1) sNil)))) sSkip) sBad)))))
noncomputable def φ_stretched (G : Gs) (ds : List D) : CR := (s_stretched G (env0 7 ds)).cr
noncomputable def e_law_fields_1 (G : Gs) : DEnv → R Val := (sMeth (tab_shown G) "shown" 1 (sVar 4) sNil)
noncomputable def e_law_fields_2 (G : Gs) : DEnv → R Val := (sMeth (tab_shown G) "shown" 1 (sVar 4) sNil)
noncomputable def s_law_fields (G : Gs) : DEnv → Fl := (sSeq (sIf (sOr (sNot (sTst (sCall (φ_law_whole G) 1 (sCons (sUn (fldD [G.c_Yard] "width") (sVar 0)) sNil)))) (sOr (sNot (sTst (sCall (φ_law_whole G) 1 (sCons (sUn (fldD [G.c_Yard] "height") (sVar 0)) sNil)))) (sTst (sOp neD (sTup (sCons (sUn (fldD [G.c_Yard] "width") (sVar 0)) (sCons (sUn (fldD [G.c_Yard] "height") (sVar 0)) sNil))) (sVar 1))))) (sRet (sC (.bl false))) sSkip) (sSeq (sIf (sOr (sNot (sTst (sUn (isiD .list) (sUn (fldD [G.c_Yard] "things") (sVar 0))))) (sTst (sOp neD (sCB (g1 lenD) (sCons (sUn (fldD [G.c_Yard] "things") (sVar 0)) sNil)) (sLenV 2)))) (sRet (sC (.bl false))) sSkip) (sSeq (sIf (sTst (sOp neD (sComp (sItems (sUn (fldD [G.c_Yard] "things") (sVar 0))) (kName 4) sYes (e_law_fields_1 G) [4]) (sComp (sItems (sVar 2)) (kName 4) sYes (e_law_fields_2 G) [4]))) (sRet (sC (.bl false))) sSkip) (sRet (sAndV (sUn (isiD .list) (sUn (fldD [G.c_Yard] "days") (sVar 0))) (sOp eqD (sUn (fldD [G.c_Yard] "days") (sVar 0)) (sLst (sCons (sTup (sCons (sC (.str "ab")) (sCons (sC (.int 3)) (sCons (sLst (sCons (sVar 3) (sCons (sC .non) sNil))) sNil)))) (sCons (sTup (sCons (sC (.str "a")) (sCons (sC (.int 1)) (sCons (sLst (sCons (sC .non) sNil)) sNil)))) sNil)))))))))
noncomputable def φ_law_fields (G : Gs) (ds : List D) : CR := (s_law_fields G (env0 5 ds)).cr
noncomputable abbrev tab_corners (G : Gs) : List (Addr × (List D → CR)) := [(G.c_Post, φ_Post_corners G), (G.c_Fence, φ_Fence_corners G), (G.c_Sail, φ_Sail_corners G), (G.c_Cloth, φ_Cloth_corners G), (G.c_House, φ_House_corners G)]
noncomputable def e_held_1 (G : Gs) : DEnv → R Val := (sTup (sCons (sOp subD (sIxV 4 (sC (.int 0))) (sIxV 1 (sC (.int 0)))) (sCons (sOp subD (sIxV 4 (sC (.int 1))) (sIxV 1 (sC (.int 1)))) sNil)))
noncomputable def e_held_2 (G : Gs) : DEnv → R Val := (sCall (φ_is_left G) 2 (sCons (sVar 3) (sCons (sVar 5) sNil)))
noncomputable def s_held (G : Gs) : DEnv → Fl := (sSeq (sSet 2 (sFz (sComp (sItems (sVar 0)) (kName 4) sYes (e_held_1 G) [4]))) (sSeq (sSet 3 (sFz (sCall (φ_outermost G) 2 (sCons (sVar 2) (sCons (sC (.int 1)) sNil))))) (sSeq (sIf (sNot (sTst (sCB (g1 allD) (sCons (sComp (sItems (sVar 2)) (kName 5) sYes (e_held_2 G) [5]) sNil)))) (sRet (sFz (sTup (sCons (sC (.str "in")) (sCons (sCall (φ_weights_by G) 2 (sCons (sLenV 0) (sCons (sCall (φ_pulls_of G) 1 (sCons (sVar 2) sNil)) sNil))) sNil))))) sSkip) (sRet (sFz (sTup (sCons (sC (.str "out")) (sCons (sCall (φ_line_by G) 3 (sCons (sVar 0) (sCons (sVar 3) (sCons (sCall (φ_outermost G) 2 (sCons (sVar 2) (sCons (sUn negD (sC (.int 1))) sNil))) sNil)))) sNil))))))))
noncomputable def φ_held (G : Gs) (ds : List D) : CR := (s_held G (env0 6 ds)).cr
noncomputable def s_thing_of (G : Gs) : DEnv → Fl := (sSeq (sIf (sAnd (sTst (sOp eqD (sVar 0) (sC (.str "post")))) (sTst (sOp eqD (sLenV 1) (sC (.int 3))))) (sIf (sAnd (sTst (sCall (φ_are_places G) 1 (sCons (sSl (sVar 1) none (some (sC (.int 2)))) sNil))) (sTst (sCall (φ_is_height G) 2 (sCons (sIxV 1 (sC (.int 2))) (sCons (sC (.int 1)) sNil))))) (sRet (sFz (sMake G.c_Post (φ_Thing_init G) 1 (sCons (sVar 1) sNil)))) sSkip) sSkip) (sSeq (sIf (sAnd (sTst (sOp eqD (sVar 0) (sC (.str "cloth")))) (sTst (sOp eqD (sLenV 1) (sC (.int 9))))) (sRet (sFz (sCall (φ_cloth_of G) 1 (sCons (sVar 1) sNil)))) sSkip) (sSeq (sIf (sAnd (sTst (sOp (inD false) (sVar 0) (sTup (sCons (sC (.str "fence")) (sCons (sC (.str "sail")) (sCons (sC (.str "house")) sNil)))))) (sTst (sOp eqD (sLenV 1) (sC (.int 5))))) (sRet (sFz (sCall (φ_stretched G) 2 (sCons (sVar 0) (sCons (sVar 1) sNil))))) sSkip) sBad)))
noncomputable def φ_thing_of (G : Gs) (ds : List D) : CR := (s_thing_of G (env0 2 ds)).cr
noncomputable def e_shading_1 (G : Gs) : DEnv → R Val := (sCall (φ_cast G) 2 (sCons (sVar 3) (sCons (sVar 2) sNil)))
noncomputable def s_shading (G : Gs) : DEnv → Fl := (sRet (sFz (sCall (φ_held G) 2 (sCons (sComp (sItems (sMeth (tab_corners G) "corners" 1 (sVar 0) sNil)) (kName 3) sYes (e_shading_1 G) [3]) (sCons (sCall (φ_stone_cast G) 2 (sCons (sVar 1) (sCons (sVar 2) sNil))) sNil)))))
noncomputable def φ_shading (G : Gs) (ds : List D) : CR := (s_shading G (env0 4 ds)).cr
noncomputable def s_shades (G : Gs) : DEnv → Fl := (sRet (sOp eqD (sOp ixD (sCall (φ_shading G) 3 (sCons (sVar 0) (sCons (sVar 1) (sCons (sVar 2) sNil)))) (sC (.int 0))) (sC (.str "in"))))
noncomputable def φ_shades (G : Gs) (ds : List D) : CR := (s_shades G (env0 3 ds)).cr
noncomputable def e_dark_of_1 (G : Gs) : DEnv → R Val := (sVar 3)
noncomputable def w_dark_of_2 (G : Gs) : DEnv → R Bool := (sTst (sCall (φ_shades G) 3 (sCons (sVar 1) (sCons (sVar 3) (sCons (sVar 2) sNil)))))
noncomputable def s_dark_of (G : Gs) : DEnv → Fl := (sRet (sFz (sCall (φ_bits_of G) 2 (sCons (sComp (sItems (sCall (φ_all_stones G) 1 (sCons (sVar 0) sNil))) (kName 3) (w_dark_of_2 G) (e_dark_of_1 G) [3]) (sCons (sUn (fldD [G.c_Yard] "width") (sVar 0)) sNil)))))
noncomputable def φ_dark_of (G : Gs) (ds : List D) : CR := (s_dark_of G (env0 4 ds)).cr
noncomputable def b_law_set_1 (G : Gs) : DEnv → Fl := (sIf (sTst (sCall (φ_shades G) 3 (sCons (sVar 1) (sCons (sTup (sCons (sVar 5) (sCons (sVar 4) sNil))) (sCons (sVar 2) sNil))))) (sSet 3 (sFz (sOp addD (sVar 3) (sOp shlD (sC (.int 1)) (sOp addD (sOp mulD (sVar 4) (sIxV 0 (sC (.int 0)))) (sVar 5)))))) sSkip)
noncomputable def b_law_set_2 (G : Gs) : DEnv → Fl := (sFor (sRange rng1 (sCons (sIxV 0 (sC (.int 0))) sNil)) (kName 5) (b_law_set_1 G) [5])
noncomputable def s_law_set (G : Gs) : DEnv → Fl := (sSeq (sSet 3 (sC (.int 0))) (sSeq (sFor (sRange rng1 (sCons (sIxV 0 (sC (.int 1))) sNil)) (kName 4) (b_law_set_2 G) [5, 4]) (sRet (sVar 3))))
noncomputable def φ_law_set (G : Gs) (ds : List D) : CR := (s_law_set G (env0 6 ds)).cr
noncomputable def b_dark_1 (G : Gs) : DEnv → Fl := (sSet 2 (sOp orD (sVar 2) (sCall (φ_dark_of G) 3 (sCons (sVar 0) (sCons (sVar 3) (sCons (sVar 1) sNil))))))
noncomputable def s_dark (G : Gs) : DEnv → Fl := (sSeq (sIf (sTst (sUn (isND false) (sVar 1))) (sRet (sOp subD (sOp shlD (sC (.int 1)) (sOp mulD (sUn (fldD [G.c_Yard] "width") (sVar 0)) (sUn (fldD [G.c_Yard] "height") (sVar 0)))) (sC (.int 1)))) sSkip) (sSeq (sSet 2 (sC (.int 0))) (sSeq (sFor (sItems (sUn (fldD [G.c_Yard] "things") (sVar 0))) (kName 3) (b_dark_1 G) [3]) (sRet (sVar 2)))))
noncomputable def φ_dark (G : Gs) (ds : List D) : CR := (s_dark G (env0 4 ds)).cr
noncomputable def e_law_1 (G : Gs) : DEnv → R Val := (sCall (φ_law_thing G) 2 (sCons (sVar 14) (sCons (sCB (orC (g1 maxD) (g1 maxTD)) (sCons (sVar 1) sNil)) sNil)))
noncomputable def e_law_2 (G : Gs) : DEnv → R Val := (sCall (φ_thing_of G) 2 (sCons (sVar 10) (sCons (sCB (g1 listD) (sCons (sVar 11) sNil)) sNil)))
noncomputable def e_law_3 (G : Gs) : DEnv → R Val := (sCall (φ_law_set G) 3 (sCons (sVar 1) (sCons (sVar 15) (sCons (sVar 2) sNil))))
noncomputable def e_law_4 (G : Gs) : DEnv → R Val := (sCall (φ_law_right G) 2 (sCons (sCall (φ_dark_of G) 3 (sCons (sVar 7) (sCons (sIxV 4 (sVar 16)) (sCons (sVar 2) sNil)))) (sCons (sIxV 8 (sVar 16)) sNil)))
noncomputable def s_law (G : Gs) : DEnv → Fl := (sSeq (sSet 1 (sFz (sCall (φ_law_size G) 2 (sCons (sCall (φ_law_at G) 2 (sCons (sVar 0) (sCons (sC (.int 0)) sNil))) (sCons (sC (.int 12)) sNil))))) (sSeq (sSet 2 (sFz (sCall (φ_law_ray G) 1 (sCons (sCall (φ_law_at G) 2 (sCons (sVar 0) (sCons (sC (.int 1)) sNil))) sNil)))) (sSeq (sSet 3 (sFz (sComp (sItems (sSl (sVar 0) (some (sC (.int 2))) (some (sC (.int 7))))) (kName 14) sYes (e_law_1 G) [14]))) (sSeq (sIf (sTst (sOp eqD (sOp modD (sOp fdivD (sCall (φ_law_at G) 2 (sCons (sVar 0) (sCons (sC (.int 1)) sNil))) (sC (.int 7))) (sC (.int 16))) (sC (.int 9)))) (sSeq (sSet 1 (sFz (sOp ixD (sLst (sCons (sTup (sCons (sC (.int 20)) (sCons (sC (.int 2)) sNil))) (sCons (sTup (sCons (sC (.int 7)) (sCons (sC (.int 6)) sNil))) sNil))) (sOp modD (sOp fdivD (sCall (φ_law_at G) 2 (sCons (sVar 0) (sCons (sC (.int 1)) sNil))) (sC (.int 112))) (sC (.int 2)))))) (sSet 3 (sFz (sSl (sVar 3) none (some (sC (.int 1))))))) sSkip) (sSeq (sSet 4 (sComp (sItems (sVar 3)) (kSeq 2 (kCons (kName 10) (kCons (kName 11) kNil))) sYes (e_law_2 G) [10, 11])) (sTagB 4 (sSeq (sSet 5 (sListO 4)) (sSeq (sSet 6 (sLst (sCons (sTup (sCons (sC (.str "ab")) (sCons (sC (.int 3)) (sCons (sLst (sCons (sVar 2) (sCons (sC .non) sNil))) sNil)))) (sCons (sTup (sCons (sC (.str "a")) (sCons (sC (.int 1)) (sCons (sLst (sCons (sC .non) sNil)) sNil)))) sNil)))) (sSeq (sSet 7 (sFz (sLk (sMake G.c_Yard (φ_Yard_init G) 4 (sCons (sIxV 1 (sC (.int 0))) (sCons (sIxV 1 (sC (.int 1))) (sCons (sVar 5) (sCons (sVar 6) sNil)))))))) (sSeq (sIf (sOr (sTst (sNeS 5 4)) (sNot (sTst (sCall (φ_law_fields G) 4 (sCons (sVar 7) (sCons (sVar 1) (sCons (sVar 4) (sCons (sVar 2) sNil)))))))) (sRet (sC (.bl false))) sSkip) (sSeq (sClear 5) (sSeq (sClrP 6 [0, 2]) (sSeq (sClear 6) (sSeq (sSet 8 (sFz (sComp (sItems (sVar 4)) (kName 15) sYes (e_law_3 G) [15]))) (sSeq (sSet 9 (sFz (sCall (φ_law_laid G) 1 (sCons (sVar 8) sNil)))) (sSeq (sIf (sOr (sNot (sTst (sCall (φ_law_right G) 2 (sCons (sCall (φ_dark G) 2 (sCons (sVar 7) (sCons (sC .non) sNil))) (sCons (sOp subD (sOp shlD (sC (.int 1)) (sOp mulD (sIxV 1 (sC (.int 0))) (sIxV 1 (sC (.int 1))))) (sC (.int 1))) sNil))))) (sNot (sTst (sCall (φ_law_right G) 2 (sCons (sCall (φ_dark G) 2 (sCons (sVar 7) (sCons (sVar 2) sNil))) (sCons (sVar 9) sNil)))))) (sRet (sC (.bl false))) sSkip) (sSeq (sIf (sNot (sTst (sCB (g1 allD) (sCons (sComp (sRange rng1 (sCons (sLenV 4) sNil)) (kName 16) sYes (e_law_4 G) [16]) sNil)))) (sRet (sC (.bl false))) sSkip) (sSeq (sAsg (sCall (φ_law_thing G) 2 (sCons (sCall (φ_law_at G) 2 (sCons (sVar 0) (sCons (sC (.int 7)) sNil))) (sCons (sCB (orC (g1 maxD) (g1 maxTD)) (sCons (sVar 1) sNil)) sNil))) (kSeq 2 (kCons (kName 10) (kCons (kName 11) kNil)))) (sSeq (sSet 12 (sFz (sCall (φ_thing_of G) 2 (sCons (sVar 10) (sCons (sCB (g1 listD) (sCons (sVar 11) sNil)) sNil))))) (sSeq (sIf (sNot (sTst (sCall (φ_law_right G) 2 (sCons (sCall (φ_dark_of G) 3 (sCons (sVar 7) (sCons (sVar 12) (sCons (sVar 2) sNil)))) (sCons (sCall (φ_law_set G) 3 (sCons (sVar 1) (sCons (sVar 12) (sCons (sVar 2) sNil)))) sNil))))) (sRet (sC (.bl false))) sSkip) (sSeq (sSet 13 (sFz (sMake G.c_Yard (φ_Yard_init G) 4 (sCons (sIxV 1 (sC (.int 0))) (sCons (sIxV 1 (sC (.int 1))) (sCons (sUn revD (sVar 4)) (sCons (sLst sNil) sNil))))))) (sSeq (sIf (sNot (sTst (sCall (φ_law_right G) 2 (sCons (sCall (φ_dark G) 2 (sCons (sVar 13) (sCons (sVar 2) sNil))) (sCons (sVar 9) sNil))))) (sRet (sC (.bl false))) sSkip) (sRet (sAndV (sCall (φ_law_right G) 2 (sCons (sCall (φ_dark G) 2 (sCons (sVar 7) (sCons (sVar 2) sNil))) (sCons (sVar 9) sNil))) (sCall (φ_law_fields G) 4 (sCons (sVar 7) (sCons (sVar 1) (sCons (sVar 4) (sCons (sVar 2) sNil)))))))))))))))))))))))))))))
noncomputable def φ_law (G : Gs) (ds : List D) : CR := (s_law G (env0 17 ds)).cr
structure Tx (P : Program) (w : World) (K : PySem.W.Frag) (mg : Str → Option Value) (base : Heap) (G : Gs) where
  a_cast : Addr
  d_cast : FuncData
  F_cast : Fun K "cast" "cast" st_cast a_cast d_cast
  b_cast : Binds K d_cast P_cast []
  m_cast : mg "cast" = some (.ref a_cast)
  a_bits_of : Addr
  d_bits_of : FuncData
  F_bits_of : Fun K "bits_of" "bits_of" st_bits_of a_bits_of d_bits_of
  b_bits_of : Binds K d_bits_of P_bits_of []
  m_bits_of : mg "bits_of" = some (.ref a_bits_of)
  a_common_part : Addr
  d_common_part : FuncData
  F_common_part : Fun K "common_part" "common_part" st_common_part a_common_part d_common_part
  b_common_part : Binds K d_common_part P_common_part []
  m_common_part : mg "common_part" = some (.ref a_common_part)
  a_turn_of : Addr
  d_turn_of : FuncData
  F_turn_of : Fun K "turn_of" "turn_of" st_turn_of a_turn_of d_turn_of
  b_turn_of : Binds K d_turn_of P_turn_of []
  m_turn_of : mg "turn_of" = some (.ref a_turn_of)
  a_Yard_init : Addr
  d_Yard_init : FuncData
  F_Yard_init : Fun K "__init__" "Yard.__init__" st_Yard_init a_Yard_init d_Yard_init
  b_Yard_init : Binds K d_Yard_init P_Yard_init []
  a_all_stones : Addr
  d_all_stones : FuncData
  F_all_stones : Fun K "all_stones" "all_stones" st_all_stones a_all_stones d_all_stones
  b_all_stones : Binds K d_all_stones P_all_stones []
  m_all_stones : mg "all_stones" = some (.ref a_all_stones)
  a_Thing_init : Addr
  d_Thing_init : FuncData
  F_Thing_init : Fun K "__init__" "Thing.__init__" st_Thing_init a_Thing_init d_Thing_init
  b_Thing_init : Binds K d_Thing_init P_Thing_init []
  a_Post_word : Addr
  d_Post_word : FuncData
  F_Post_word : Fun K "word" "Post.word" st_Post_word a_Post_word d_Post_word
  b_Post_word : Binds K d_Post_word P_Post_word []
  a_Fence_word : Addr
  d_Fence_word : FuncData
  F_Fence_word : Fun K "word" "Fence.word" st_Fence_word a_Fence_word d_Fence_word
  b_Fence_word : Binds K d_Fence_word P_Fence_word []
  a_Fence_corners : Addr
  d_Fence_corners : FuncData
  F_Fence_corners : Fun K "corners" "Fence.corners" st_Fence_corners a_Fence_corners d_Fence_corners
  b_Fence_corners : Binds K d_Fence_corners P_Fence_corners []
  a_Sail_word : Addr
  d_Sail_word : FuncData
  F_Sail_word : Fun K "word" "Sail.word" st_Sail_word a_Sail_word d_Sail_word
  b_Sail_word : Binds K d_Sail_word P_Sail_word []
  a_Cloth_word : Addr
  d_Cloth_word : FuncData
  F_Cloth_word : Fun K "word" "Cloth.word" st_Cloth_word a_Cloth_word d_Cloth_word
  b_Cloth_word : Binds K d_Cloth_word P_Cloth_word []
  a_Cloth_corners : Addr
  d_Cloth_corners : FuncData
  F_Cloth_corners : Fun K "corners" "Cloth.corners" st_Cloth_corners a_Cloth_corners d_Cloth_corners
  b_Cloth_corners : Binds K d_Cloth_corners P_Cloth_corners []
  a_House_word : Addr
  d_House_word : FuncData
  F_House_word : Fun K "word" "House.word" st_House_word a_House_word d_House_word
  b_House_word : Binds K d_House_word P_House_word []
  a_level : Addr
  d_level : FuncData
  F_level : Fun K "level" "level" st_level a_level d_level
  b_level : Binds K d_level P_level []
  m_level : mg "level" = some (.ref a_level)
  a_are_places : Addr
  d_are_places : FuncData
  F_are_places : Fun K "are_places" "are_places" st_are_places a_are_places d_are_places
  b_are_places : Binds K d_are_places P_are_places []
  m_are_places : mg "are_places" = some (.ref a_are_places)
  a_is_height : Addr
  d_is_height : FuncData
  F_is_height : Fun K "is_height" "is_height" st_is_height a_is_height d_is_height
  b_is_height : Binds K d_is_height P_is_height []
  m_is_height : mg "is_height" = some (.ref a_is_height)
  a_law_at : Addr
  d_law_at : FuncData
  F_law_at : Fun K "_law_at" "_law_at" st_law_at a_law_at d_law_at
  b_law_at : Binds K d_law_at P_law_at []
  m_law_at : mg "_law_at" = some (.ref a_law_at)
  a_law_grains : Addr
  d_law_grains : FuncData
  F_law_grains : Fun K "_law_grains" "_law_grains" st_law_grains a_law_grains d_law_grains
  b_law_grains : Binds K d_law_grains P_law_grains []
  m_law_grains : mg "_law_grains" = some (.ref a_law_grains)
  a_law_place : Addr
  d_law_place : FuncData
  F_law_place : Fun K "_law_place" "_law_place" st_law_place a_law_place d_law_place
  b_law_place : Binds K d_law_place P_law_place []
  m_law_place : mg "_law_place" = some (.ref a_law_place)
  a_law_height : Addr
  d_law_height : FuncData
  F_law_height : Fun K "_law_height" "_law_height" st_law_height a_law_height d_law_height
  b_law_height : Binds K d_law_height P_law_height []
  m_law_height : mg "_law_height" = some (.ref a_law_height)
  a_law_size : Addr
  d_law_size : FuncData
  F_law_size : Fun K "_law_size" "_law_size" st_law_size a_law_size d_law_size
  b_law_size : Binds K d_law_size P_law_size []
  m_law_size : mg "_law_size" = some (.ref a_law_size)
  a_law_whole : Addr
  d_law_whole : FuncData
  F_law_whole : Fun K "_law_whole" "_law_whole" st_law_whole a_law_whole d_law_whole
  b_law_whole : Binds K d_law_whole P_law_whole []
  m_law_whole : mg "_law_whole" = some (.ref a_law_whole)
  a_law_laid : Addr
  d_law_laid : FuncData
  F_law_laid : Fun K "_law_laid" "_law_laid" st_law_laid a_law_laid d_law_laid
  b_law_laid : Binds K d_law_laid P_law_laid []
  m_law_laid : mg "_law_laid" = some (.ref a_law_laid)
  a_stone_cast : Addr
  d_stone_cast : FuncData
  F_stone_cast : Fun K "stone_cast" "stone_cast" st_stone_cast a_stone_cast d_stone_cast
  b_stone_cast : Binds K d_stone_cast P_stone_cast []
  m_stone_cast : mg "stone_cast" = some (.ref a_stone_cast)
  a_ratio : Addr
  d_ratio : FuncData
  F_ratio : Fun K "ratio" "ratio" st_ratio a_ratio d_ratio
  b_ratio : Binds K d_ratio P_ratio []
  m_ratio : mg "ratio" = some (.ref a_ratio)
  a_pulls_of_two : Addr
  d_pulls_of_two : FuncData
  F_pulls_of_two : Fun K "pulls_of_two" "pulls_of_two" st_pulls_of_two a_pulls_of_two d_pulls_of_two
  b_pulls_of_two : Binds K d_pulls_of_two P_pulls_of_two []
  m_pulls_of_two : mg "pulls_of_two" = some (.ref a_pulls_of_two)
  a_pulls_of_three : Addr
  d_pulls_of_three : FuncData
  F_pulls_of_three : Fun K "pulls_of_three" "pulls_of_three" st_pulls_of_three a_pulls_of_three d_pulls_of_three
  b_pulls_of_three : Binds K d_pulls_of_three P_pulls_of_three []
  m_pulls_of_three : mg "pulls_of_three" = some (.ref a_pulls_of_three)
  a_is_left : Addr
  d_is_left : FuncData
  F_is_left : Fun K "is_left" "is_left" st_is_left a_is_left d_is_left
  b_is_left : Binds K d_is_left P_is_left []
  m_is_left : mg "is_left" = some (.ref a_is_left)
  a_outermost : Addr
  d_outermost : FuncData
  F_outermost : Fun K "outermost" "outermost" st_outermost a_outermost d_outermost
  b_outermost : Binds K d_outermost P_outermost []
  m_outermost : mg "outermost" = some (.ref a_outermost)
  a_line_by : Addr
  d_line_by : FuncData
  F_line_by : Fun K "line_by" "line_by" st_line_by a_line_by d_line_by
  b_line_by : Binds K d_line_by P_line_by []
  m_line_by : mg "line_by" = some (.ref a_line_by)
  a_Thing_shown : Addr
  d_Thing_shown : FuncData
  F_Thing_shown : Fun K "shown" "Thing.shown" st_Thing_shown a_Thing_shown d_Thing_shown
  b_Thing_shown : Binds K d_Thing_shown P_Thing_shown []
  a_Sail_corners : Addr
  d_Sail_corners : FuncData
  F_Sail_corners : Fun K "corners" "Sail.corners" st_Sail_corners a_Sail_corners d_Sail_corners
  b_Sail_corners : Binds K d_Sail_corners P_Sail_corners []
  a_box : Addr
  d_box : FuncData
  F_box : Fun K "box" "box" st_box a_box d_box
  b_box : Binds K d_box P_box []
  m_box : mg "box" = some (.ref a_box)
  a_law_thing : Addr
  d_law_thing : FuncData
  F_law_thing : Fun K "_law_thing" "_law_thing" st_law_thing a_law_thing d_law_thing
  b_law_thing : Binds K d_law_thing P_law_thing []
  m_law_thing : mg "_law_thing" = some (.ref a_law_thing)
  a_law_ray : Addr
  d_law_ray : FuncData
  F_law_ray : Fun K "_law_ray" "_law_ray" st_law_ray a_law_ray d_law_ray
  b_law_ray : Binds K d_law_ray P_law_ray []
  m_law_ray : mg "_law_ray" = some (.ref a_law_ray)
  a_law_right : Addr
  d_law_right : FuncData
  F_law_right : Fun K "_law_right" "_law_right" st_law_right a_law_right d_law_right
  b_law_right : Binds K d_law_right P_law_right []
  m_law_right : mg "_law_right" = some (.ref a_law_right)
  a_pulls_of : Addr
  d_pulls_of : FuncData
  F_pulls_of : Fun K "pulls_of" "pulls_of" st_pulls_of a_pulls_of d_pulls_of
  b_pulls_of : Binds K d_pulls_of P_pulls_of []
  m_pulls_of : mg "pulls_of" = some (.ref a_pulls_of)
  a_weights_by : Addr
  d_weights_by : FuncData
  F_weights_by : Fun K "weights_by" "weights_by" st_weights_by a_weights_by d_weights_by
  b_weights_by : Binds K d_weights_by P_weights_by []
  m_weights_by : mg "weights_by" = some (.ref a_weights_by)
  a_Post_corners : Addr
  d_Post_corners : FuncData
  F_Post_corners : Fun K "corners" "Post.corners" st_Post_corners a_Post_corners d_Post_corners
  b_Post_corners : Binds K d_Post_corners P_Post_corners []
  a_House_corners : Addr
  d_House_corners : FuncData
  F_House_corners : Fun K "corners" "House.corners" st_House_corners a_House_corners d_House_corners
  b_House_corners : Binds K d_House_corners P_House_corners []
  a_cloth_of : Addr
  d_cloth_of : FuncData
  F_cloth_of : Fun K "cloth_of" "cloth_of" st_cloth_of a_cloth_of d_cloth_of
  b_cloth_of : Binds K d_cloth_of P_cloth_of []
  m_cloth_of : mg "cloth_of" = some (.ref a_cloth_of)
  a_stretched : Addr
  d_stretched : FuncData
  F_stretched : Fun K "stretched" "stretched" st_stretched a_stretched d_stretched
  b_stretched : Binds K d_stretched P_stretched []
  m_stretched : mg "stretched" = some (.ref a_stretched)
  a_law_fields : Addr
  d_law_fields : FuncData
  F_law_fields : Fun K "_law_fields" "_law_fields" st_law_fields a_law_fields d_law_fields
  b_law_fields : Binds K d_law_fields P_law_fields []
  m_law_fields : mg "_law_fields" = some (.ref a_law_fields)
  a_held : Addr
  d_held : FuncData
  F_held : Fun K "held" "held" st_held a_held d_held
  b_held : Binds K d_held P_held []
  m_held : mg "held" = some (.ref a_held)
  a_thing_of : Addr
  d_thing_of : FuncData
  F_thing_of : Fun K "thing_of" "thing_of" st_thing_of a_thing_of d_thing_of
  b_thing_of : Binds K d_thing_of P_thing_of []
  m_thing_of : mg "thing_of" = some (.ref a_thing_of)
  a_shading : Addr
  d_shading : FuncData
  F_shading : Fun K "shading" "shading" st_shading a_shading d_shading
  b_shading : Binds K d_shading P_shading []
  m_shading : mg "shading" = some (.ref a_shading)
  a_shades : Addr
  d_shades : FuncData
  F_shades : Fun K "shades" "shades" st_shades a_shades d_shades
  b_shades : Binds K d_shades P_shades []
  m_shades : mg "shades" = some (.ref a_shades)
  a_dark_of : Addr
  d_dark_of : FuncData
  F_dark_of : Fun K "dark_of" "dark_of" st_dark_of a_dark_of d_dark_of
  b_dark_of : Binds K d_dark_of P_dark_of []
  m_dark_of : mg "dark_of" = some (.ref a_dark_of)
  a_law_set : Addr
  d_law_set : FuncData
  F_law_set : Fun K "_law_set" "_law_set" st_law_set a_law_set d_law_set
  b_law_set : Binds K d_law_set P_law_set []
  m_law_set : mg "_law_set" = some (.ref a_law_set)
  a_dark : Addr
  d_dark : FuncData
  F_dark : Fun K "dark" "dark" st_dark a_dark d_dark
  b_dark : Binds K d_dark P_dark []
  m_dark : mg "dark" = some (.ref a_dark)
  a_law : Addr
  d_law : FuncData
  F_law : Fun K "law" "law" st_law a_law d_law
  b_law : Binds K d_law P_law []
  m_law : mg "law" = some (.ref a_law)
  mC_Yard : mg "Yard" = some (.ref G.c_Yard)
  mC_Post : mg "Post" = some (.ref G.c_Post)
  mC_Fence : mg "Fence" = some (.ref G.c_Fence)
  mC_Sail : mg "Sail" = some (.ref G.c_Sail)
  mC_Cloth : mg "Cloth" = some (.ref G.c_Cloth)
  mC_House : mg "House" = some (.ref G.c_House)
  cl_Yard : Cls K G.c_Yard
  mk_Yard : Mk K G.c_Yard a_Yard_init
  ni_Yard : ∀ f ∈ (["width", "height", "things", "days"] : List Str), NoAttr K G.c_Yard f
  cl_Post : Cls K G.c_Post
  mk_Post : Mk K G.c_Post a_Thing_init
  ni_Post : ∀ f ∈ (["numbers"] : List Str), NoAttr K G.c_Post f
  cl_Fence : Cls K G.c_Fence
  mk_Fence : Mk K G.c_Fence a_Thing_init
  ni_Fence : ∀ f ∈ (["numbers"] : List Str), NoAttr K G.c_Fence f
  cl_Sail : Cls K G.c_Sail
  mk_Sail : Mk K G.c_Sail a_Thing_init
  ni_Sail : ∀ f ∈ (["numbers"] : List Str), NoAttr K G.c_Sail f
  cl_Cloth : Cls K G.c_Cloth
  mk_Cloth : Mk K G.c_Cloth a_Thing_init
  ni_Cloth : ∀ f ∈ (["numbers"] : List Str), NoAttr K G.c_Cloth f
  cl_House : Cls K G.c_House
  mk_House : Mk K G.c_House a_Thing_init
  ni_House : ∀ f ∈ (["numbers"] : List Str), NoAttr K G.c_House f
  fl_days : ∀ C ∈ [G.c_Yard], Cls K C ∧ NoAttr K C "days"
  fl_height : ∀ C ∈ [G.c_Yard], Cls K C ∧ NoAttr K C "height"
  fl_numbers : ∀ C ∈ [G.c_Post, G.c_Fence, G.c_Sail, G.c_Cloth, G.c_House], Cls K C ∧ NoAttr K C "numbers"
  fl_things : ∀ C ∈ [G.c_Yard], Cls K C ∧ NoAttr K C "things"
  fl_width : ∀ C ∈ [G.c_Yard], Cls K C ∧ NoAttr K C "width"
  me_Post_corners : Meth K G.c_Post "corners" a_Post_corners
  me_Post_word : Meth K G.c_Post "word" a_Post_word
  me_Post_shown : Meth K G.c_Post "shown" a_Thing_shown
  me_Fence_corners : Meth K G.c_Fence "corners" a_Fence_corners
  me_Fence_word : Meth K G.c_Fence "word" a_Fence_word
  me_Fence_shown : Meth K G.c_Fence "shown" a_Thing_shown
  me_Sail_corners : Meth K G.c_Sail "corners" a_Sail_corners
  me_Sail_word : Meth K G.c_Sail "word" a_Sail_word
  me_Sail_shown : Meth K G.c_Sail "shown" a_Thing_shown
  me_Cloth_corners : Meth K G.c_Cloth "corners" a_Cloth_corners
  me_Cloth_word : Meth K G.c_Cloth "word" a_Cloth_word
  me_Cloth_shown : Meth K G.c_Cloth "shown" a_Thing_shown
  me_House_corners : Meth K G.c_House "corners" a_House_corners
  me_House_word : Meth K G.c_House "word" a_House_word
  me_House_shown : Meth K G.c_House "shown" a_Thing_shown
  z_abs : mg "abs" = none
  z_all : mg "all" = none
  z_bool : mg "bool" = none
  z_int : mg "int" = none
  z_isinstance : mg "isinstance" = none
  z_len : mg "len" = none
  z_list : mg "list" = none
  z_max : mg "max" = none
  z_min : mg "min" = none
  z_range : mg "range" = none
  z_str : mg "str" = none
  z_sum : mg "sum" = none
  z_tuple : mg "tuple" = none
  g_FAR : IsC K mg "FAR" (.int 1000000000)
  g_NOUGHT : IsC K mg "NOUGHT" (.tup [.int (0), .int (1)])
section
variable {P : Program} {w : World} {K : PySem.W.Frag} {mg : Str → Option Value} {base : Heap} {G : Gs}
theorem ok_cast (T : Tx P w K mg base G) : FnOk P w K mg base (L2.CX P w) 1 T.a_cast T.d_cast P_cast (spD K 2 (φ_cast G)) :=
  fnD (s := s_cast G) (N := N_cast) T.F_cast sc_cast rfl fun cdv A outer s0 H E hr =>
    (dss_one (ds_ret (de_fz (de_tup (da_cons (de_add (de_mul (de_ixV (pv 1) de_int) (de_ixV (pv 0) de_int)) (de_mul (de_ixV (pv 1) de_int) (de_ixV (pv 0) de_int))) (da_cons (de_add (de_mul (de_ixV (pv 1) de_int) (de_ixV (pv 0) de_int)) (de_mul (de_ixV (pv 1) de_int) (de_ixV (pv 0) de_int))) da_nil))))))
theorem ok_bits_of (T : Tx P w K mg base G) : FnOk P w K mg base (L2.CX P w) 1 T.a_bits_of T.d_bits_of P_bits_of (spD K 2 (φ_bits_of G)) :=
  fnD (s := s_bits_of G) (N := N_bits_of) T.F_bits_of sc_bits_of rfl fun cdv A outer s0 H E hr =>
    (dss_cons (ds_set (i := 2) sc_bits_of.nd rfl (.inl rfl) de_int)
      (dss_cons (ds_for [3, 4] (passes_of rfl) rfl (di_seq (de_var (pv 0))) (dg_seq rfl (dgs_cons (dg_name (i := 3) sc_bits_of.nd rfl (.inl rfl)) (dgs_cons (dg_name (i := 4) sc_bits_of.nd rfl (.inl rfl)) dgs_nil))) (dss_one (ds_set (i := 2) sc_bits_of.nd rfl (.inl rfl) (de_bor (de_var (pv 2)) (de_shl de_int (de_add (de_mul (de_var (pv 4)) (de_var (pv 1))) (de_var (pv 3))))))))
      (dss_one (ds_ret (de_var (pv 2))))))
theorem ok_common_part (T : Tx P w K mg base G) : FnOk P w K mg base (L2.CX P w) 1 T.a_common_part T.d_common_part P_common_part (spD K 2 (φ_common_part G)) :=
  fnD (s := s_common_part G) (N := N_common_part) T.F_common_part sc_common_part rfl fun cdv A outer s0 H E hr =>
    (dss_cons (ds_while [] (passes_of rfl) (dt_ne hr.units (de_var (pv 1)) de_int) (dss_one (ds_par (i := 0) (j := 1) rfl sc_common_part.nd rfl rfl (by decide) rfl rfl (da_cons (de_var (pv 1)) (da_cons (de_mod (de_var (pv 0)) (de_var (pv 1))) da_nil)) (by rfl))))
      (dss_one (ds_ret (de_fz (de_abs (by rfl) T.z_abs (da_cons (de_var (pv 0)) da_nil))))))
theorem ok_turn_of (T : Tx P w K mg base G) : FnOk P w K mg base (L2.CX P w) 1 T.a_turn_of T.d_turn_of P_turn_of (spD K 2 (φ_turn_of G)) :=
  fnD (s := s_turn_of G) (N := N_turn_of) T.F_turn_of sc_turn_of rfl fun cdv A outer s0 H E hr =>
    (dss_one (ds_ret (de_sub (de_mul (de_ixV (pv 0) de_int) (de_ixV (pv 1) de_int)) (de_mul (de_ixV (pv 0) de_int) (de_ixV (pv 1) de_int)))))
theorem ok_Yard_init (T : Tx P w K mg base G) : FnOk P w K mg base (L2.CX P w) 1 T.a_Yard_init T.d_Yard_init P_Yard_init (spInit K ["width", "height", "things", "days"] 4 (φ_Yard_init G)) :=
  fnI (l := l_Yard_init G) (N := N_Yard_init) T.F_Yard_init sc_Yard_init rfl (by unfold l_Yard_init; simp) fun cdv A outer s0 H E hr =>
    (dinit_cons (pv 0) (de_var (pv 1)) (dinit_cons (pv 0) (de_var (pv 2)) (dinit_cons (pv 0) (de_list1 (by rfl) T.z_list (da_cons (de_var (pv 3)) da_nil)) (dinit_cons (pv 0) (de_comp rfl sc_Yard_init.nd (di_seq (de_var (pv 4))) (blkOk_by (own := [("name", 5), ("times", 6), ("turns", 7)]) (N := N_Yard_init) (sc := _) (by show blkC N_Yard_init (defScope st_Yard_init) _ _ = true; decide +kernel)) (os := [5, 6, 7]) rfl (fun _ h => h) (fun _ _ _ _ _ => (dg_seq rfl (dgs_cons (dg_name (i := 5) sc_Yard_init.nd rfl (.inl rfl)) (dgs_cons (dg_name (i := 6) sc_Yard_init.nd rfl (.inl rfl)) (dgs_cons (dg_name (i := 7) sc_Yard_init.nd rfl (.inl rfl)) dgs_nil))))) (fun _ _ _ _ _ => dts_nil) (fun _ _ _ _ _ => (de_tup (da_cons (de_var (pv 5)) (da_cons (de_var (pv 6)) (da_cons (de_list1 (by rfl) T.z_list (da_cons (de_var (pv 7)) da_nil)) da_nil)))))) dinit_nil))))
theorem ok_all_stones (T : Tx P w K mg base G) : FnOk P w K mg base (L2.CX P w) 1 T.a_all_stones T.d_all_stones P_all_stones (spD K 1 (φ_all_stones G)) :=
  fnD (s := s_all_stones G) (N := N_all_stones) T.F_all_stones sc_all_stones rfl fun cdv A outer s0 H E hr =>
    (dss_one (ds_ret (de_fz (de_comp rfl sc_all_stones.nd (di_range1 (by rfl) T.z_range (da_cons (de_mul (de_fld T.fl_width (de_var (pv 0))) (de_fld T.fl_height (de_var (pv 0)))) da_nil)) (blkOk_by (own := [("number", 1)]) (N := N_all_stones) (sc := _) (by show blkC N_all_stones (defScope st_all_stones) _ _ = true; decide +kernel)) (os := [1]) rfl (fun _ h => h) (fun _ _ _ _ _ => (dg_name (i := 1) sc_all_stones.nd rfl (.inl rfl))) (fun _ _ _ _ _ => dts_nil) (fun _ _ _ _ _ => (de_tup (da_cons (de_mod (de_var (pv 1)) (de_fld T.fl_width (de_var (pv 0)))) (da_cons (de_fdiv (de_var (pv 1)) (de_fld T.fl_width (de_var (pv 0)))) da_nil))))))))
theorem ok_Thing_init (T : Tx P w K mg base G) : FnOk P w K mg base (L2.CX P w) 1 T.a_Thing_init T.d_Thing_init P_Thing_init (spInit K ["numbers"] 1 (φ_Thing_init G)) :=
  fnI (l := l_Thing_init G) (N := N_Thing_init) T.F_Thing_init sc_Thing_init rfl (by unfold l_Thing_init; simp) fun cdv A outer s0 H E hr =>
    (dinit_cons (pv 0) (de_tuple1 (by rfl) T.z_tuple (da_cons (de_var (pv 1)) da_nil)) dinit_nil)
theorem ok_Post_word (T : Tx P w K mg base G) : FnOk P w K mg base (L2.CX P w) 1 T.a_Post_word T.d_Post_word P_Post_word (spD K 1 (φ_Post_word G)) :=
  fnD (s := s_Post_word G) (N := N_Post_word) T.F_Post_word sc_Post_word rfl fun cdv A outer s0 H E hr =>
    (dss_one (ds_ret de_str))
theorem ok_Fence_word (T : Tx P w K mg base G) : FnOk P w K mg base (L2.CX P w) 1 T.a_Fence_word T.d_Fence_word P_Fence_word (spD K 1 (φ_Fence_word G)) :=
  fnD (s := s_Fence_word G) (N := N_Fence_word) T.F_Fence_word sc_Fence_word rfl fun cdv A outer s0 H E hr =>
    (dss_one (ds_ret de_str))
theorem ok_Fence_corners (T : Tx P w K mg base G) : FnOk P w K mg base (L2.CX P w) 1 T.a_Fence_corners T.d_Fence_corners P_Fence_corners (spD K 1 (φ_Fence_corners G)) :=
  fnD (s := s_Fence_corners G) (N := N_Fence_corners) T.F_Fence_corners sc_Fence_corners rfl fun cdv A outer s0 H E hr =>
    (dss_cons (ds_asg (de_fld T.fl_numbers (de_var (pv 0))) (dg_seq rfl (dgs_cons (dg_name (i := 1) sc_Fence_corners.nd rfl (.inl rfl)) (dgs_cons (dg_name (i := 2) sc_Fence_corners.nd rfl (.inl rfl)) (dgs_cons (dg_name (i := 3) sc_Fence_corners.nd rfl (.inl rfl)) (dgs_cons (dg_name (i := 4) sc_Fence_corners.nd rfl (.inl rfl)) (dgs_cons (dg_name (i := 5) sc_Fence_corners.nd rfl (.inl rfl)) dgs_nil)))))))
      (dss_one (ds_ret (de_fz (de_lst (da_cons (de_tup (da_cons (de_var (pv 1)) (da_cons (de_var (pv 2)) (da_cons de_int da_nil)))) (da_cons (de_tup (da_cons (de_var (pv 3)) (da_cons (de_var (pv 4)) (da_cons de_int da_nil)))) (da_cons (de_tup (da_cons (de_var (pv 3)) (da_cons (de_var (pv 4)) (da_cons (de_var (pv 5)) da_nil)))) (da_cons (de_tup (da_cons (de_var (pv 1)) (da_cons (de_var (pv 2)) (da_cons (de_var (pv 5)) da_nil)))) da_nil)))))))))
theorem ok_Sail_word (T : Tx P w K mg base G) : FnOk P w K mg base (L2.CX P w) 1 T.a_Sail_word T.d_Sail_word P_Sail_word (spD K 1 (φ_Sail_word G)) :=
  fnD (s := s_Sail_word G) (N := N_Sail_word) T.F_Sail_word sc_Sail_word rfl fun cdv A outer s0 H E hr =>
    (dss_one (ds_ret de_str))
theorem ok_Cloth_word (T : Tx P w K mg base G) : FnOk P w K mg base (L2.CX P w) 1 T.a_Cloth_word T.d_Cloth_word P_Cloth_word (spD K 1 (φ_Cloth_word G)) :=
  fnD (s := s_Cloth_word G) (N := N_Cloth_word) T.F_Cloth_word sc_Cloth_word rfl fun cdv A outer s0 H E hr =>
    (dss_one (ds_ret de_str))
theorem ok_Cloth_corners (T : Tx P w K mg base G) : FnOk P w K mg base (L2.CX P w) 1 T.a_Cloth_corners T.d_Cloth_corners P_Cloth_corners (spD K 1 (φ_Cloth_corners G)) :=
  fnD (s := s_Cloth_corners G) (N := N_Cloth_corners) T.F_Cloth_corners sc_Cloth_corners rfl fun cdv A outer s0 H E hr =>
    (dss_one (ds_ret (de_fz (de_lst (da_cons (de_sl (de_fld T.fl_numbers (de_var (pv 0))) do_none (do_some de_int)) (da_cons (de_sl (de_fld T.fl_numbers (de_var (pv 0))) (do_some de_int) (do_some de_int)) (da_cons (de_sl (de_fld T.fl_numbers (de_var (pv 0))) (do_some de_int) do_none) da_nil)))))))
theorem ok_House_word (T : Tx P w K mg base G) : FnOk P w K mg base (L2.CX P w) 1 T.a_House_word T.d_House_word P_House_word (spD K 1 (φ_House_word G)) :=
  fnD (s := s_House_word G) (N := N_House_word) T.F_House_word sc_House_word rfl fun cdv A outer s0 H E hr =>
    (dss_one (ds_ret de_str))
theorem ok_level (T : Tx P w K mg base G) : FnOk P w K mg base (L2.CX P w) 1 T.a_level T.d_level P_level (spD K 5 (φ_level G)) :=
  fnD (s := s_level G) (N := N_level) T.F_level sc_level rfl fun cdv A outer s0 H E hr =>
    (dss_one (ds_ret (de_fz (de_lst (da_cons (de_tup (da_cons (de_var (pv 0)) (da_cons (de_var (pv 1)) (da_cons (de_var (pv 4)) da_nil)))) (da_cons (de_tup (da_cons (de_var (pv 2)) (da_cons (de_var (pv 1)) (da_cons (de_var (pv 4)) da_nil)))) (da_cons (de_tup (da_cons (de_var (pv 2)) (da_cons (de_var (pv 3)) (da_cons (de_var (pv 4)) da_nil)))) (da_cons (de_tup (da_cons (de_var (pv 0)) (da_cons (de_var (pv 3)) (da_cons (de_var (pv 4)) da_nil)))) da_nil))))))))
theorem ok_are_places (T : Tx P w K mg base G) : FnOk P w K mg base (L2.CX P w) 1 T.a_are_places T.d_are_places P_are_places (spD K 1 (φ_are_places G)) :=
  fnD (s := s_are_places G) (N := N_are_places) T.F_are_places sc_are_places rfl fun cdv A outer s0 H E hr =>
    (dss_one (ds_ret (de_fz (de_all rfl (by rfl) T.z_all (da_cons (de_comp rfl sc_are_places.nd (di_seq (de_var (pv 0))) (blkOk_by (own := [("number", 1)]) (N := N_are_places) (sc := _) (by show blkC N_are_places (defScope st_are_places) _ _ = true; decide +kernel)) (os := [1]) rfl (fun _ h => h) (fun _ _ _ _ _ => (dg_name (i := 1) sc_are_places.nd rfl (.inl rfl))) (fun _ _ _ _ _ => dts_nil) (fun _ _ _ _ _ => (de_chain op_le op_le (de_sub de_int (de_gc (by rfl) T.g_FAR)) (de_var (pv 1)) (de_gc (by rfl) T.g_FAR)))) da_nil)))))
theorem ok_is_height (T : Tx P w K mg base G) : FnOk P w K mg base (L2.CX P w) 1 T.a_is_height T.d_is_height P_is_height (spD K 2 (φ_is_height G)) :=
  fnD (s := s_is_height G) (N := N_is_height) T.F_is_height sc_is_height rfl fun cdv A outer s0 H E hr =>
    (dss_one (ds_ret (de_chain op_le op_le (de_var (pv 1)) (de_var (pv 0)) (de_gc (by rfl) T.g_FAR))))
theorem ok_law_at (T : Tx P w K mg base G) : FnOk P w K mg base (L2.CX P w) 1 T.a_law_at T.d_law_at P_law_at (spD K 2 (φ_law_at G)) :=
  fnD (s := s_law_at G) (N := N_law_at) T.F_law_at sc_law_at rfl fun cdv A outer s0 H E hr =>
    (dss_cons (ds_if (dt_lt (de_var (pv 1)) (de_lenV (by rfl) T.z_len (pv 0))) (dss_one (ds_ret (de_fz (de_ixV (pv 0) (de_var (pv 1)))))) dss_nil)
      (dss_one (ds_ret de_int)))
theorem ok_law_grains (T : Tx P w K mg base G) : FnOk P w K mg base (L2.CX P w) 1 T.a_law_grains T.d_law_grains P_law_grains (spD K 2 (φ_law_grains G)) :=
  fnD (s := s_law_grains G) (N := N_law_grains) T.F_law_grains sc_law_grains rfl fun cdv A outer s0 H E hr =>
    (dss_cons (ds_set (i := 2) sc_law_grains.nd rfl (.inl rfl) (de_lst da_nil))
      (dss_cons (ds_set (i := 3) sc_law_grains.nd rfl (.inl rfl) (de_fdiv (de_var (pv 0)) de_int))
      (dss_cons (ds_if (dt_eq hr.units (de_mod (de_var (pv 0)) de_int) de_int) (dss_one (ds_set (i := 3) sc_law_grains.nd rfl (.inl rfl) (de_fz (de_mod (de_var (pv 3)) de_int)))) dss_nil)
      (dss_cons (ds_for [4] (passes_of rfl) rfl (di_range1 (by rfl) T.z_range (da_cons (de_var (pv 1)) da_nil)) (dg_name (i := 4) sc_law_grains.nd rfl (.inl rfl)) (dss_one (ds_if (dt_eq hr.units (de_mod (de_var (pv 0)) de_int) de_int) (dss_cons (ds_app (pe_bm PySem.F.plainAttrs_list PySem.F.slot_list_append PySem.F.type_list_append mt_append (pv 2) (pa_cons (de_mod (de_var (pv 3)) de_int) pa_nil)))
      (dss_one (ds_set (i := 3) sc_law_grains.nd rfl (.inl rfl) (de_fdiv (de_var (pv 3)) de_int)))) (dss_cons (ds_set (i := 3) sc_law_grains.nd rfl (.inl rfl) (de_fz (de_mod (de_add (de_add (de_mul (de_var (pv 3)) de_int) de_int) (de_mul de_int (de_var (pv 4)))) de_int)))
      (dss_one (ds_app (pe_bm PySem.F.plainAttrs_list PySem.F.slot_list_append PySem.F.type_list_append mt_append (pv 2) (pa_cons (de_fdiv (de_var (pv 3)) de_int) pa_nil))))))))
      (dss_one (ds_ret (de_var (pv 2))))))))
theorem ok_law_place (T : Tx P w K mg base G) : FnOk P w K mg base (L2.CX P w) 1 T.a_law_place T.d_law_place P_law_place (spD K 2 (φ_law_place G)) :=
  fnD (s := s_law_place G) (N := N_law_place) T.F_law_place sc_law_place rfl fun cdv A outer s0 H E hr =>
    (dss_cons (ds_if (dt_eq hr.units (de_mod (de_fdiv (de_var (pv 0)) de_int) de_int) de_int) (dss_one (ds_ret (de_fz (de_add (de_sub (de_mod (de_mul (de_var (pv 0)) de_int) (de_sub (de_mul de_int (de_pow de_int de_int)) de_int)) (de_pow de_int de_int)) de_int)))) dss_nil)
      (dss_one (ds_ret (de_sub (de_mod (de_var (pv 0)) (de_add (de_mul de_int (de_var (pv 1))) de_int)) de_int))))
theorem ok_law_height (T : Tx P w K mg base G) : FnOk P w K mg base (L2.CX P w) 1 T.a_law_height T.d_law_height P_law_height (spD K 1 (φ_law_height G)) :=
  fnD (s := s_law_height G) (N := N_law_height) T.F_law_height sc_law_height rfl fun cdv A outer s0 H E hr =>
    (dss_cons (ds_if (dt_eq hr.units (de_mod (de_fdiv (de_var (pv 0)) de_int) de_int) de_int) (dss_one (ds_ret (de_fz (de_add de_int (de_mod (de_mul (de_var (pv 0)) de_int) (de_pow de_int de_int)))))) dss_nil)
      (dss_one (ds_ret (de_fz (de_add de_int (de_mod (de_var (pv 0)) de_int))))))
theorem ok_law_size (T : Tx P w K mg base G) : FnOk P w K mg base (L2.CX P w) 1 T.a_law_size T.d_law_size P_law_size (spD K 2 (φ_law_size G)) :=
  fnD (s := s_law_size G) (N := N_law_size) T.F_law_size sc_law_size rfl fun cdv A outer s0 H E hr =>
    (dss_cons (ds_if (dt_w (dw_and (dt_eq hr.units (de_mod (de_fdiv (de_var (pv 0)) de_int) de_int) de_int) (dw_and1 (dt_gt (de_var (pv 1)) de_int)))) (dss_one (ds_ret (de_fz (de_ixD (de_lst (da_cons (de_tup (da_cons de_int (da_cons de_int da_nil))) (da_cons (de_tup (da_cons de_int (da_cons de_int da_nil))) da_nil))) (de_mod (de_var (pv 0)) de_int))))) dss_nil)
      (dss_cons (ds_set (i := 2) sc_law_size.nd rfl (.inl rfl) (de_fz (de_add de_int (de_mod (de_var (pv 0)) (de_min2 rfl (by rfl) T.z_min (da_cons de_int (da_cons (de_var (pv 1)) da_nil)))))))
      (dss_one (ds_ret (de_fz (de_tup (da_cons (de_var (pv 2)) (da_cons (de_add de_int (de_mod (de_fdiv (de_var (pv 0)) de_int) (de_min2 rfl (by rfl) T.z_min (da_cons de_int (da_cons (de_fdiv (de_var (pv 1)) (de_var (pv 2))) da_nil))))) da_nil))))))))
theorem ok_law_whole (T : Tx P w K mg base G) : FnOk P w K mg base (L2.CX P w) 1 T.a_law_whole T.d_law_whole P_law_whole (spD K 1 (φ_law_whole G)) :=
  fnD (s := s_law_whole G) (N := N_law_whole) T.F_law_whole sc_law_whole rfl fun cdv A outer s0 H E hr =>
    (dss_one (ds_ret (de_and (de_isi .int (by rfl) T.z_isinstance (de_var (pv 0)) (pe_bltn (by rfl) T.z_int (by decide +kernel) rfl)) (de_one (de_not (de_isi .bool (by rfl) T.z_isinstance (de_var (pv 0)) (pe_bltn (by rfl) T.z_bool (by decide +kernel) rfl)))))))
theorem ok_law_laid (T : Tx P w K mg base G) : FnOk P w K mg base (L2.CX P w) 1 T.a_law_laid T.d_law_laid P_law_laid (spD K 1 (φ_law_laid G)) :=
  fnD (s := s_law_laid G) (N := N_law_laid) T.F_law_laid sc_law_laid rfl fun cdv A outer s0 H E hr =>
    (dss_cons (ds_set (i := 1) sc_law_laid.nd rfl (.inl rfl) de_int)
      (dss_cons (ds_for [2] (passes_of rfl) rfl (di_seq (de_var (pv 0))) (dg_name (i := 2) sc_law_laid.nd rfl (.inl rfl)) (dss_one (ds_set (i := 1) sc_law_laid.nd rfl (.inl rfl) (de_bor (de_var (pv 1)) (de_var (pv 2))))))
      (dss_one (ds_ret (de_var (pv 1))))))
theorem ok_stone_cast (T : Tx P w K mg base G) : FnOk P w K mg base (L2.CX P w) 2 T.a_stone_cast T.d_stone_cast P_stone_cast (spD K 2 (φ_stone_cast G)) :=
  fnD (s := s_stone_cast G) (N := N_stone_cast) T.F_stone_cast sc_stone_cast rfl fun cdv A outer s0 H E hr =>
    (dss_one (ds_ret (de_fz (de_call (ok_cast T) (hr.mono (by decide)) (by rfl) T.m_cast T.F_cast.kp T.b_cast (da_cons (de_tup (da_cons (de_mul de_int (de_ixV (pv 0) de_int)) (da_cons (de_mul de_int (de_ixV (pv 0) de_int)) (da_cons de_int da_nil)))) (da_cons (de_var (pv 1)) da_nil))))))
theorem ok_ratio (T : Tx P w K mg base G) : FnOk P w K mg base (L2.CX P w) 2 T.a_ratio T.d_ratio P_ratio (spD K 2 (φ_ratio G)) :=
  fnD (s := s_ratio G) (N := N_ratio) T.F_ratio sc_ratio rfl fun cdv A outer s0 H E hr =>
    (dss_cons (ds_if (dt_eq hr.units (de_var (pv 1)) de_int) (dss_one ds_bad) dss_nil)
      (dss_cons (ds_set (i := 2) sc_ratio.nd rfl (.inl rfl) (de_fz (de_call (ok_common_part T) (hr.mono (by decide)) (by rfl) T.m_common_part T.F_common_part.kp T.b_common_part (da_cons (de_var (pv 0)) (da_cons (de_var (pv 1)) da_nil)))))
      (dss_cons (ds_if (dt_lt (de_var (pv 1)) de_int) (dss_one (ds_set (i := 2) sc_ratio.nd rfl (.inl rfl) (de_sub de_int (de_var (pv 2))))) dss_nil)
      (dss_one (ds_ret (de_fz (de_tup (da_cons (de_fdiv (de_var (pv 0)) (de_var (pv 2))) (da_cons (de_fdiv (de_var (pv 1)) (de_var (pv 2))) da_nil)))))))))
theorem ok_pulls_of_two (T : Tx P w K mg base G) : FnOk P w K mg base (L2.CX P w) 2 T.a_pulls_of_two T.d_pulls_of_two P_pulls_of_two (spD K 2 (φ_pulls_of_two G)) :=
  fnD (s := s_pulls_of_two G) (N := N_pulls_of_two) T.F_pulls_of_two sc_pulls_of_two rfl fun cdv A outer s0 H E hr =>
    (dss_cons (ds_if (dt_w (dw_or (dt_ne hr.units (de_call (ok_turn_of T) (hr.mono (by decide)) (by rfl) T.m_turn_of T.F_turn_of.kp T.b_turn_of (da_cons (de_var (pv 0)) (da_cons (de_var (pv 1)) da_nil))) de_int) (dw_or1 (dt_ge (de_add (de_mul (de_ixV (pv 0) de_int) (de_ixV (pv 1) de_int)) (de_mul (de_ixV (pv 0) de_int) (de_ixV (pv 1) de_int))) de_int)))) (dss_one (ds_ret de_non)) dss_nil)
      (dss_cons (ds_if (dt_ne hr.units (de_ixV (pv 0) de_int) de_int) (dss_one (ds_ret (de_fz (de_tup (da_cons (de_abs (by rfl) T.z_abs (da_cons (de_ixV (pv 1) de_int) da_nil)) (da_cons (de_abs (by rfl) T.z_abs (da_cons (de_ixV (pv 0) de_int) da_nil)) da_nil)))))) dss_nil)
      (dss_one (ds_ret (de_fz (de_tup (da_cons (de_abs (by rfl) T.z_abs (da_cons (de_ixV (pv 1) de_int) da_nil)) (da_cons (de_abs (by rfl) T.z_abs (da_cons (de_ixV (pv 0) de_int) da_nil)) da_nil))))))))
theorem ok_pulls_of_three (T : Tx P w K mg base G) : FnOk P w K mg base (L2.CX P w) 2 T.a_pulls_of_three T.d_pulls_of_three P_pulls_of_three (spD K 3 (φ_pulls_of_three G)) :=
  fnD (s := s_pulls_of_three G) (N := N_pulls_of_three) T.F_pulls_of_three sc_pulls_of_three rfl fun cdv A outer s0 H E hr =>
    (dss_cons (ds_set (i := 3) sc_pulls_of_three.nd rfl (.inl rfl) (de_fz (de_tup (da_cons (de_call (ok_turn_of T) (hr.mono (by decide)) (by rfl) T.m_turn_of T.F_turn_of.kp T.b_turn_of (da_cons (de_var (pv 1)) (da_cons (de_var (pv 2)) da_nil))) (da_cons (de_call (ok_turn_of T) (hr.mono (by decide)) (by rfl) T.m_turn_of T.F_turn_of.kp T.b_turn_of (da_cons (de_var (pv 2)) (da_cons (de_var (pv 0)) da_nil))) (da_cons (de_call (ok_turn_of T) (hr.mono (by decide)) (by rfl) T.m_turn_of T.F_turn_of.kp T.b_turn_of (da_cons (de_var (pv 0)) (da_cons (de_var (pv 1)) da_nil))) da_nil))))))
      (dss_cons (ds_if (dt_gt (de_min1A rfl (by rfl) T.z_min (da_cons (de_var (pv 3)) da_nil)) de_int) (dss_one (ds_ret (de_var (pv 3)))) dss_nil)
      (dss_cons (ds_if (dt_lt (de_max1A rfl (by rfl) T.z_max (da_cons (de_var (pv 3)) da_nil)) de_int) (dss_one (ds_ret (de_fz (de_tup (da_cons (de_sub de_int (de_ixV (pv 3) de_int)) (da_cons (de_sub de_int (de_ixV (pv 3) de_int)) (da_cons (de_sub de_int (de_ixV (pv 3) de_int)) da_nil))))))) dss_nil)
      (dss_one (ds_ret de_non)))))
theorem ok_is_left (T : Tx P w K mg base G) : FnOk P w K mg base (L2.CX P w) 2 T.a_is_left T.d_is_left P_is_left (spD K 2 (φ_is_left G)) :=
  fnD (s := s_is_left G) (N := N_is_left) T.F_is_left sc_is_left rfl fun cdv A outer s0 H E hr =>
    (dss_cons (ds_set (i := 2) sc_is_left.nd rfl (.inl rfl) (de_fz (de_call (ok_turn_of T) (hr.mono (by decide)) (by rfl) T.m_turn_of T.F_turn_of.kp T.b_turn_of (da_cons (de_var (pv 0)) (da_cons (de_var (pv 1)) da_nil)))))
      (dss_one (ds_ret (de_or (de_gt (de_var (pv 2)) de_int) (de_one (de_and (de_eq hr.units (de_var (pv 2)) de_int) (de_one (de_gt (de_add (de_mul (de_ixV (pv 0) de_int) (de_ixV (pv 1) de_int)) (de_mul (de_ixV (pv 0) de_int) (de_ixV (pv 1) de_int))) de_int))))))))
theorem ok_outermost (T : Tx P w K mg base G) : FnOk P w K mg base (L2.CX P w) 2 T.a_outermost T.d_outermost P_outermost (spD K 2 (φ_outermost G)) :=
  fnD (s := s_outermost G) (N := N_outermost) T.F_outermost sc_outermost rfl fun cdv A outer s0 H E hr =>
    (dss_cons (ds_set (i := 2) sc_outermost.nd rfl (.inl rfl) (de_fz (de_ixV (pv 0) de_int)))
      (dss_cons (ds_for [3] (passes_of rfl) rfl (di_seq (de_var (pv 0))) (dg_name (i := 3) sc_outermost.nd rfl (.inl rfl)) (dss_one (ds_if (dt_lt (de_mul (de_var (pv 1)) (de_call (ok_turn_of T) (hr.mono (by decide)) (by rfl) T.m_turn_of T.F_turn_of.kp T.b_turn_of (da_cons (de_var (pv 2)) (da_cons (de_var (pv 3)) da_nil)))) de_int) (dss_one (ds_set (i := 2) sc_outermost.nd rfl (.inl rfl) (de_var (pv 3)))) dss_nil)))
      (dss_one (ds_ret (de_var (pv 2))))))
theorem ok_line_by (T : Tx P w K mg base G) : FnOk P w K mg base (L2.CX P w) 2 T.a_line_by T.d_line_by P_line_by (spD K 3 (φ_line_by G)) :=
  fnD (s := s_line_by G) (N := N_line_by) T.F_line_by sc_line_by rfl fun cdv A outer s0 H E hr =>
    (dss_cons (ds_if (dt_eq hr.units (de_call (ok_turn_of T) (hr.mono (by decide)) (by rfl) T.m_turn_of T.F_turn_of.kp T.b_turn_of (da_cons (de_var (pv 1)) (da_cons (de_var (pv 2)) da_nil))) de_int) (dss_one (ds_asg (de_var (pv 1)) (dg_seq rfl (dgs_cons (dg_name (i := 3) sc_line_by.nd rfl (.inl rfl)) (dgs_cons (dg_name (i := 4) sc_line_by.nd rfl (.inl rfl)) dgs_nil))))) (dss_cons (ds_set (i := 3) sc_line_by.nd rfl (.inl rfl) (de_sub (de_ixV (pv 2) de_int) (de_ixV (pv 1) de_int)))
      (dss_one (ds_set (i := 4) sc_line_by.nd rfl (.inl rfl) (de_sub (de_ixV (pv 1) de_int) (de_ixV (pv 2) de_int))))))
      (dss_cons (ds_set (i := 5) sc_line_by.nd rfl (.inr rfl) (de_sub de_int (de_var (pv 3))))
      (dss_cons (ds_set (i := 6) sc_line_by.nd rfl (.inr rfl) (de_sub de_int (de_var (pv 4))))
      (dss_one (ds_ret (de_fz (de_tup (da_cons (de_var (pv 5)) (da_cons (de_var (pv 6)) (da_cons (de_max1A rfl (by rfl) T.z_max (da_cons (de_comp rfl sc_line_by.nd (di_seq (de_var (pv 0))) (blkOk_by (own := [("one", 7)]) (N := N_line_by) (sc := _) (by show blkC N_line_by (defScope st_line_by) _ _ = true; decide +kernel)) (os := [7]) rfl (fun _ h => h) (fun _ _ _ _ _ => (dg_name (i := 7) sc_line_by.nd rfl (.inl rfl))) (fun _ _ _ _ _ => dts_nil) (fun _ _ _ _ _ => (de_add (de_mul (de_var (pv 5)) (de_ixV (pv 7) de_int)) (de_mul (de_var (pv 6)) (de_ixV (pv 7) de_int))))) da_nil)) da_nil))))))))))
theorem ok_Thing_shown (T : Tx P w K mg base G) : FnOk P w K mg base (L2.CX P w) 2 T.a_Thing_shown T.d_Thing_shown P_Thing_shown (spD K 1 (φ_Thing_shown G)) :=
  fnD (s := s_Thing_shown G) (N := N_Thing_shown) T.F_Thing_shown sc_Thing_shown rfl fun cdv A outer s0 H E hr =>
    (dss_one (ds_ret (de_fz (de_join de_str (de_add (de_lst (da_cons (de_methT (List.forall_mem_cons.mpr ⟨(pe_methN (pe_meth0 (de_var (pv 0)) T.cl_Post T.me_Post_word (ok_Post_word T) (hr.mono (by decide)) T.b_Post_word .nil passX)), (List.forall_mem_cons.mpr ⟨(pe_methN (pe_meth0 (de_var (pv 0)) T.cl_Fence T.me_Fence_word (ok_Fence_word T) (hr.mono (by decide)) T.b_Fence_word .nil passX)), (List.forall_mem_cons.mpr ⟨(pe_methN (pe_meth0 (de_var (pv 0)) T.cl_Sail T.me_Sail_word (ok_Sail_word T) (hr.mono (by decide)) T.b_Sail_word .nil passX)), (List.forall_mem_cons.mpr ⟨(pe_methN (pe_meth0 (de_var (pv 0)) T.cl_Cloth T.me_Cloth_word (ok_Cloth_word T) (hr.mono (by decide)) T.b_Cloth_word .nil passX)), (List.forall_mem_cons.mpr ⟨(pe_methN (pe_meth0 (de_var (pv 0)) T.cl_House T.me_House_word (ok_House_word T) (hr.mono (by decide)) T.b_House_word .nil passX)), all0⟩)⟩)⟩)⟩)⟩)) da_nil)) (de_comp rfl sc_Thing_shown.nd (di_seq (de_fld T.fl_numbers (de_var (pv 0)))) (blkOk_by (own := [("number", 1)]) (N := N_Thing_shown) (sc := _) (by show blkC N_Thing_shown (defScope st_Thing_shown) _ _ = true; decide +kernel)) (os := [1]) rfl (fun _ h => h) (fun _ _ _ _ _ => (dg_name (i := 1) sc_Thing_shown.nd rfl (.inl rfl))) (fun _ _ _ _ _ => dts_nil) (fun _ _ _ _ _ => (de_str1 (by rfl) T.z_str (da_cons (de_var (pv 1)) da_nil)))))))))
theorem ok_Sail_corners (T : Tx P w K mg base G) : FnOk P w K mg base (L2.CX P w) 2 T.a_Sail_corners T.d_Sail_corners P_Sail_corners (spD K 1 (φ_Sail_corners G)) :=
  fnD (s := s_Sail_corners G) (N := N_Sail_corners) T.F_Sail_corners sc_Sail_corners rfl fun cdv A outer s0 H E hr =>
    (dss_cons (ds_asg (de_fld T.fl_numbers (de_var (pv 0))) (dg_seq rfl (dgs_cons (dg_name (i := 1) sc_Sail_corners.nd rfl (.inl rfl)) (dgs_cons (dg_name (i := 2) sc_Sail_corners.nd rfl (.inl rfl)) (dgs_cons (dg_name (i := 3) sc_Sail_corners.nd rfl (.inl rfl)) (dgs_cons (dg_name (i := 4) sc_Sail_corners.nd rfl (.inl rfl)) (dgs_cons (dg_name (i := 5) sc_Sail_corners.nd rfl (.inl rfl)) dgs_nil)))))))
      (dss_one (ds_ret (de_fz (de_call (ok_level T) (hr.mono (by decide)) (by rfl) T.m_level T.F_level.kp T.b_level (da_cons (de_var (pv 1)) (da_cons (de_var (pv 2)) (da_cons (de_var (pv 3)) (da_cons (de_var (pv 4)) (da_cons (de_var (pv 5)) da_nil))))))))))
theorem ok_box (T : Tx P w K mg base G) : FnOk P w K mg base (L2.CX P w) 2 T.a_box T.d_box P_box (spD K 5 (φ_box G)) :=
  fnD (s := s_box G) (N := N_box) T.F_box sc_box rfl fun cdv A outer s0 H E hr =>
    (dss_one (ds_ret (de_fz (de_add (de_call (ok_level T) (hr.mono (by decide)) (by rfl) T.m_level T.F_level.kp T.b_level (da_cons (de_var (pv 0)) (da_cons (de_var (pv 1)) (da_cons (de_var (pv 2)) (da_cons (de_var (pv 3)) (da_cons de_int da_nil)))))) (de_call (ok_level T) (hr.mono (by decide)) (by rfl) T.m_level T.F_level.kp T.b_level (da_cons (de_var (pv 0)) (da_cons (de_var (pv 1)) (da_cons (de_var (pv 2)) (da_cons (de_var (pv 3)) (da_cons (de_var (pv 4)) da_nil))))))))))
theorem ok_law_thing (T : Tx P w K mg base G) : FnOk P w K mg base (L2.CX P w) 2 T.a_law_thing T.d_law_thing P_law_thing (spD K 2 (φ_law_thing G)) :=
  fnD (s := s_law_thing G) (N := N_law_thing) T.F_law_thing sc_law_thing rfl fun cdv A outer s0 H E hr =>
    (dss_cons (ds_set (i := 2) sc_law_thing.nd rfl (.inr rfl) (de_fz (de_call (ok_law_grains T) (hr.mono (by decide)) (by rfl) T.m_law_grains T.F_law_grains.kp T.b_law_grains (da_cons (de_var (pv 0)) (da_cons de_int da_nil)))))
      (dss_cons (ds_asg (de_comp rfl sc_law_thing.nd (di_range1 (by rfl) T.z_range (da_cons de_int da_nil)) (blkOk_by (own := [("_law_k", 9)]) (N := N_law_thing) (sc := _) (by show blkC N_law_thing (defScope st_law_thing) _ _ = true; decide +kernel)) (os := [9]) rfl (fun _ h => h) (fun _ _ _ _ _ => (dg_name (i := 9) sc_law_thing.nd rfl (.inl rfl))) (fun _ _ _ _ _ => dts_nil) (fun _ _ _ _ _ => (de_call (ok_law_place T) (hr.mono (by decide)) (by rfl) T.m_law_place T.F_law_place.kp T.b_law_place (da_cons (de_ixV (pv 2) (de_var (pv 9))) (da_cons (de_var (pv 1)) da_nil))))) (dg_seq rfl (dgs_cons (dg_name (i := 3) sc_law_thing.nd rfl (.inl rfl)) (dgs_cons (dg_name (i := 4) sc_law_thing.nd rfl (.inl rfl)) dgs_nil))))
      (dss_cons (ds_set (i := 5) sc_law_thing.nd rfl (.inl rfl) (de_fz (de_call (ok_law_height T) (hr.mono (by decide)) (by rfl) T.m_law_height T.F_law_height.kp T.b_law_height (da_cons (de_ixV (pv 2) de_int) da_nil))))
      (dss_cons (ds_set (i := 6) sc_law_thing.nd rfl (.inl rfl) (de_fz (de_mod (de_ixV (pv 2) de_int) de_int)))
      (dss_cons (ds_if (dt_eq hr.units (de_var (pv 6)) de_int) (dss_one (ds_ret (de_fz (de_tup (da_cons de_str (da_cons (de_lst (da_cons (de_fdiv (de_var (pv 3)) de_int) (da_cons (de_fdiv (de_var (pv 4)) de_int) (da_cons (de_var (pv 5)) da_nil)))) da_nil)))))) dss_nil)
      (dss_cons (ds_if (dt_eq hr.units (de_var (pv 6)) de_int) (dss_cons (ds_asg (de_lst (da_cons (de_sub (de_add (de_var (pv 3)) (de_mod (de_ixV (pv 2) de_int) de_int)) de_int) (da_cons (de_sub (de_add (de_var (pv 4)) (de_mod (de_ixV (pv 2) de_int) de_int)) de_int) da_nil))) (dg_seq rfl (dgs_cons (dg_name (i := 7) sc_law_thing.nd rfl (.inl rfl)) (dgs_cons (dg_name (i := 8) sc_law_thing.nd rfl (.inl rfl)) dgs_nil))))
      (dss_one (ds_ret (de_fz (de_tup (da_cons de_str (da_cons (de_lst (da_cons (de_var (pv 3)) (da_cons (de_var (pv 4)) (da_cons (de_add (de_var (pv 7)) (de_int1 (by rfl) T.z_int (da_cons (de_eq hr.units (de_tup (da_cons (de_var (pv 3)) (da_cons (de_var (pv 4)) da_nil))) (de_tup (da_cons (de_var (pv 7)) (da_cons (de_var (pv 8)) da_nil)))) da_nil))) (da_cons (de_var (pv 8)) (da_cons (de_var (pv 5)) da_nil)))))) da_nil))))))) dss_nil)
      (dss_cons (ds_if (dt_eq hr.units (de_var (pv 6)) de_int) (dss_one (ds_ret (de_fz (de_tup (da_cons de_str (da_cons (de_add (de_add (de_lst (da_cons (de_var (pv 3)) (da_cons (de_var (pv 4)) (da_cons (de_mod (de_ixV (pv 2) de_int) de_int) da_nil)))) (de_lst (da_cons (de_call (ok_law_place T) (hr.mono (by decide)) (by rfl) T.m_law_place T.F_law_place.kp T.b_law_place (da_cons (de_ixV (pv 2) de_int) (da_cons (de_var (pv 1)) da_nil))) (da_cons (de_call (ok_law_place T) (hr.mono (by decide)) (by rfl) T.m_law_place T.F_law_place.kp T.b_law_place (da_cons (de_ixV (pv 2) de_int) (da_cons (de_var (pv 1)) da_nil))) (da_cons (de_var (pv 5)) da_nil))))) (de_lst (da_cons (de_call (ok_law_place T) (hr.mono (by decide)) (by rfl) T.m_law_place T.F_law_place.kp T.b_law_place (da_cons (de_ixV (pv 2) de_int) (da_cons (de_var (pv 1)) da_nil))) (da_cons (de_call (ok_law_place T) (hr.mono (by decide)) (by rfl) T.m_law_place T.F_law_place.kp T.b_law_place (da_cons (de_ixV (pv 2) de_int) (da_cons (de_var (pv 1)) da_nil))) (da_cons (de_call (ok_law_height T) (hr.mono (by decide)) (by rfl) T.m_law_height T.F_law_height.kp T.b_law_height (da_cons (de_ixV (pv 2) de_int) da_nil)) da_nil))))) da_nil)))))) dss_nil)
      (dss_one (ds_ret (de_fz (de_tup (da_cons (de_ixD (de_lst (da_cons de_str (da_cons de_str da_nil))) (de_sub (de_var (pv 6)) de_int)) (da_cons (de_lst (da_cons (de_var (pv 3)) (da_cons (de_var (pv 4)) (da_cons (de_add (de_add (de_var (pv 3)) de_int) (de_mod (de_ixV (pv 2) de_int) de_int)) (da_cons (de_add (de_add (de_var (pv 4)) de_int) (de_mod (de_ixV (pv 2) de_int) de_int)) (da_cons (de_var (pv 5)) da_nil)))))) da_nil)))))))))))))
theorem ok_law_ray (T : Tx P w K mg base G) : FnOk P w K mg base (L2.CX P w) 2 T.a_law_ray T.d_law_ray P_law_ray (spD K 1 (φ_law_ray G)) :=
  fnD (s := s_law_ray G) (N := N_law_ray) T.F_law_ray sc_law_ray rfl fun cdv A outer s0 H E hr =>
    (dss_cons (ds_set (i := 1) sc_law_ray.nd rfl (.inl rfl) (de_fz (de_call (ok_law_grains T) (hr.mono (by decide)) (by rfl) T.m_law_grains T.F_law_grains.kp T.b_law_grains (da_cons (de_var (pv 0)) (da_cons de_int da_nil)))))
      (dss_cons (ds_set (i := 2) sc_law_ray.nd rfl (.inl rfl) (de_fz (de_ixD (de_lst (da_cons de_int (da_cons de_int (da_cons de_int (da_cons (de_pow de_int de_int) da_nil))))) (de_mod (de_ixV (pv 1) de_int) de_int))))
      (dss_one (ds_ret (de_fz (de_tup (da_cons (de_mul (de_sub (de_mod (de_ixV (pv 1) de_int) de_int) de_int) (de_var (pv 2))) (da_cons (de_mul (de_sub (de_mod (de_ixV (pv 1) de_int) de_int) de_int) (de_var (pv 2))) (da_cons (de_mul (de_add de_int (de_mod (de_ixV (pv 1) de_int) de_int)) (de_var (pv 2))) da_nil)))))))))
theorem ok_law_right (T : Tx P w K mg base G) : FnOk P w K mg base (L2.CX P w) 2 T.a_law_right T.d_law_right P_law_right (spD K 2 (φ_law_right G)) :=
  fnD (s := s_law_right G) (N := N_law_right) T.F_law_right sc_law_right rfl fun cdv A outer s0 H E hr =>
    (dss_one (ds_ret (de_and (de_call (ok_law_whole T) (hr.mono (by decide)) (by rfl) T.m_law_whole T.F_law_whole.kp T.b_law_whole (da_cons (de_var (pv 0)) da_nil)) (de_one (de_eq hr.units (de_var (pv 0)) (de_var (pv 1)))))))
theorem ok_pulls_of (T : Tx P w K mg base G) : FnOk P w K mg base (L2.CX P w) 3 T.a_pulls_of T.d_pulls_of P_pulls_of (spD K 1 (φ_pulls_of G)) :=
  fnD (s := s_pulls_of G) (N := N_pulls_of) T.F_pulls_of sc_pulls_of rfl fun cdv A outer s0 H E hr =>
    (dss_cons (ds_for [1] (passes_of rfl) rfl (di_range1 (by rfl) T.z_range (da_cons (de_lenV (by rfl) T.z_len (pv 0)) da_nil)) (dg_name (i := 1) sc_pulls_of.nd rfl (.inl rfl)) (dss_one (ds_if (dt_eq hr.units (de_ixV (pv 0) (de_var (pv 1))) (de_tup (da_cons de_int (da_cons de_int da_nil)))) (dss_one (ds_ret (de_fz (de_lst (da_cons (de_tup (da_cons (de_var (pv 1)) (da_cons de_int da_nil))) da_nil))))) dss_nil)))
      (dss_cons (ds_for [1, 3, 2] (passes_of rfl) rfl (di_range1 (by rfl) T.z_range (da_cons (de_lenV (by rfl) T.z_len (pv 0)) da_nil)) (dg_name (i := 2) sc_pulls_of.nd rfl (.inl rfl)) (dss_one (ds_for [3, 1] (passes_of rfl) rfl (di_range1 (by rfl) T.z_range (da_cons (de_var (pv 2)) da_nil)) (dg_name (i := 1) sc_pulls_of.nd rfl (.inl rfl)) (dss_cons (ds_set (i := 3) sc_pulls_of.nd rfl (.inl rfl) (de_fz (de_call (ok_pulls_of_two T) (hr.mono (by decide)) (by rfl) T.m_pulls_of_two T.F_pulls_of_two.kp T.b_pulls_of_two (da_cons (de_ixV (pv 0) (de_var (pv 1))) (da_cons (de_ixV (pv 0) (de_var (pv 2))) da_nil)))))
      (dss_one (ds_if (dt_notN (de_var (pv 3))) (dss_one (ds_ret (de_fz (de_lst (da_cons (de_tup (da_cons (de_var (pv 1)) (da_cons (de_ixV (pv 3) de_int) da_nil))) (da_cons (de_tup (da_cons (de_var (pv 2)) (da_cons (de_ixV (pv 3) de_int) da_nil))) da_nil)))))) dss_nil))))))
      (dss_cons (ds_for [2, 1, 3, 4] (passes_of rfl) rfl (di_range1 (by rfl) T.z_range (da_cons (de_lenV (by rfl) T.z_len (pv 0)) da_nil)) (dg_name (i := 4) sc_pulls_of.nd rfl (.inl rfl)) (dss_one (ds_for [1, 3, 2] (passes_of rfl) rfl (di_range1 (by rfl) T.z_range (da_cons (de_var (pv 4)) da_nil)) (dg_name (i := 2) sc_pulls_of.nd rfl (.inl rfl)) (dss_one (ds_for [3, 1] (passes_of rfl) rfl (di_range1 (by rfl) T.z_range (da_cons (de_var (pv 2)) da_nil)) (dg_name (i := 1) sc_pulls_of.nd rfl (.inl rfl)) (dss_cons (ds_set (i := 3) sc_pulls_of.nd rfl (.inl rfl) (de_fz (de_call (ok_pulls_of_three T) (hr.mono (by decide)) (by rfl) T.m_pulls_of_three T.F_pulls_of_three.kp T.b_pulls_of_three (da_cons (de_ixV (pv 0) (de_var (pv 1))) (da_cons (de_ixV (pv 0) (de_var (pv 2))) (da_cons (de_ixV (pv 0) (de_var (pv 4))) da_nil))))))
      (dss_one (ds_if (dt_notN (de_var (pv 3))) (dss_one (ds_ret (de_fz (de_lst (da_cons (de_tup (da_cons (de_var (pv 1)) (da_cons (de_ixV (pv 3) de_int) da_nil))) (da_cons (de_tup (da_cons (de_var (pv 2)) (da_cons (de_ixV (pv 3) de_int) da_nil))) (da_cons (de_tup (da_cons (de_var (pv 4)) (da_cons (de_ixV (pv 3) de_int) da_nil))) da_nil))))))) dss_nil))))))))
      (dss_one (ds_ret de_non)))))
theorem ok_weights_by (T : Tx P w K mg base G) : FnOk P w K mg base (L2.CX P w) 3 T.a_weights_by T.d_weights_by P_weights_by (spD K 2 (φ_weights_by G)) :=
  fnD (s := s_weights_by G) (N := N_weights_by) T.F_weights_by sc_weights_by rfl fun cdv A outer s0 H E hr =>
    (dss_cons (ds_set (i := 2) sc_weights_by.nd rfl (.inl rfl) (de_fz (de_sum rfl (by rfl) T.z_sum (da_cons (de_comp rfl sc_weights_by.nd (di_seq (de_var (pv 1))) (blkOk_by (own := [("at", 4), ("pull", 5)]) (N := N_weights_by) (sc := _) (by show blkC N_weights_by (defScope st_weights_by) _ _ = true; decide +kernel)) (os := [4, 5]) rfl (fun _ h => h) (fun _ _ _ _ _ => (dg_seq rfl (dgs_cons (dg_name (i := 4) sc_weights_by.nd rfl (.inl rfl)) (dgs_cons (dg_name (i := 5) sc_weights_by.nd rfl (.inl rfl)) dgs_nil)))) (fun _ _ _ _ _ => dts_nil) (fun _ _ _ _ _ => (de_var (pv 5)))) da_nil))))
      (dss_cons (ds_set (i := 3) sc_weights_by.nd rfl (.inl rfl) (de_mul (de_lst (da_cons (de_gc (by rfl) T.g_NOUGHT) da_nil)) (de_var (pv 0))))
      (dss_cons (ds_for [4, 5] (passes_of rfl) rfl (di_seq (de_var (pv 1))) (dg_seq rfl (dgs_cons (dg_name (i := 4) sc_weights_by.nd rfl (.inl rfl)) (dgs_cons (dg_name (i := 5) sc_weights_by.nd rfl (.inl rfl)) dgs_nil))) (dss_one (ds_setIx (pg_sub (pv 3) (de_var (pv 4)) set_list) (de_call (ok_ratio T) (hr.mono (by decide)) (by rfl) T.m_ratio T.F_ratio.kp T.b_ratio (da_cons (de_var (pv 5)) (da_cons (de_var (pv 2)) da_nil))))))
      (dss_one (ds_ret (de_var (pv 3)))))))
theorem ok_Post_corners (T : Tx P w K mg base G) : FnOk P w K mg base (L2.CX P w) 3 T.a_Post_corners T.d_Post_corners P_Post_corners (spD K 1 (φ_Post_corners G)) :=
  fnD (s := s_Post_corners G) (N := N_Post_corners) T.F_Post_corners sc_Post_corners rfl fun cdv A outer s0 H E hr =>
    (dss_cons (ds_asg (de_fld T.fl_numbers (de_var (pv 0))) (dg_seq rfl (dgs_cons (dg_name (i := 1) sc_Post_corners.nd rfl (.inl rfl)) (dgs_cons (dg_name (i := 2) sc_Post_corners.nd rfl (.inl rfl)) (dgs_cons (dg_name (i := 3) sc_Post_corners.nd rfl (.inl rfl)) dgs_nil)))))
      (dss_one (ds_ret (de_fz (de_call (ok_box T) (hr.mono (by decide)) (by rfl) T.m_box T.F_box.kp T.b_box (da_cons (de_sub (de_mul de_int (de_var (pv 1))) de_int) (da_cons (de_sub (de_mul de_int (de_var (pv 2))) de_int) (da_cons (de_add (de_mul de_int (de_var (pv 1))) de_int) (da_cons (de_add (de_mul de_int (de_var (pv 2))) de_int) (da_cons (de_var (pv 3)) da_nil))))))))))
theorem ok_House_corners (T : Tx P w K mg base G) : FnOk P w K mg base (L2.CX P w) 3 T.a_House_corners T.d_House_corners P_House_corners (spD K 1 (φ_House_corners G)) :=
  fnD (s := s_House_corners G) (N := N_House_corners) T.F_House_corners sc_House_corners rfl fun cdv A outer s0 H E hr =>
    (dss_cons (ds_asg (de_fld T.fl_numbers (de_var (pv 0))) (dg_seq rfl (dgs_cons (dg_name (i := 1) sc_House_corners.nd rfl (.inl rfl)) (dgs_cons (dg_name (i := 2) sc_House_corners.nd rfl (.inl rfl)) (dgs_cons (dg_name (i := 3) sc_House_corners.nd rfl (.inl rfl)) (dgs_cons (dg_name (i := 4) sc_House_corners.nd rfl (.inl rfl)) (dgs_cons (dg_name (i := 5) sc_House_corners.nd rfl (.inl rfl)) dgs_nil)))))))
      (dss_one (ds_ret (de_fz (de_call (ok_box T) (hr.mono (by decide)) (by rfl) T.m_box T.F_box.kp T.b_box (da_cons (de_var (pv 1)) (da_cons (de_var (pv 2)) (da_cons (de_var (pv 3)) (da_cons (de_var (pv 4)) (da_cons (de_var (pv 5)) da_nil))))))))))
theorem ok_cloth_of (T : Tx P w K mg base G) : FnOk P w K mg base (L2.CX P w) 3 T.a_cloth_of T.d_cloth_of P_cloth_of (spD K 1 (φ_cloth_of G)) :=
  fnD (s := s_cloth_of G) (N := N_cloth_of) T.F_cloth_of sc_cloth_of rfl fun cdv A outer s0 H E hr =>
    (dss_cons (ds_for [1] (passes_of rfl) rfl (di_seq (de_tup (da_cons de_int (da_cons de_int (da_cons de_int da_nil))))) (dg_name (i := 1) sc_cloth_of.nd rfl (.inl rfl)) (dss_one (ds_if (dt_w (dw_or (dt_not (dt_val (de_call (ok_are_places T) (hr.mono (by decide)) (by rfl) T.m_are_places T.F_are_places.kp T.b_are_places (da_cons (de_sl (de_var (pv 0)) (do_some (de_var (pv 1))) (do_some (de_add (de_var (pv 1)) de_int))) da_nil)))) (dw_or1 (dt_not (dt_val (de_call (ok_is_height T) (hr.mono (by decide)) (by rfl) T.m_is_height T.F_is_height.kp T.b_is_height (da_cons (de_ixV (pv 0) (de_add (de_var (pv 1)) de_int)) (da_cons de_int da_nil)))))))) (dss_one ds_bad) dss_nil)))
      (dss_one (ds_ret (de_fz (de_make T.mk_Cloth T.cl_Cloth T.ni_Cloth (ok_Thing_init T) (hr.mono (by decide)) (by rfl) T.mC_Cloth T.b_Thing_init (da_cons (de_var (pv 0)) da_nil))))))
theorem ok_stretched (T : Tx P w K mg base G) : FnOk P w K mg base (L2.CX P w) 3 T.a_stretched T.d_stretched P_stretched (spD K 2 (φ_stretched G)) :=
  fnD (s := s_stretched G) (N := N_stretched) T.F_stretched sc_stretched rfl fun cdv A outer s0 H E hr =>
    (dss_cons (ds_asg (de_var (pv 1)) (dg_seq rfl (dgs_cons (dg_name (i := 2) sc_stretched.nd rfl (.inl rfl)) (dgs_cons (dg_name (i := 3) sc_stretched.nd rfl (.inl rfl)) (dgs_cons (dg_name (i := 4) sc_stretched.nd rfl (.inl rfl)) (dgs_cons (dg_name (i := 5) sc_stretched.nd rfl (.inl rfl)) (dgs_cons (dg_name (i := 6) sc_stretched.nd rfl (.inl rfl)) dgs_nil)))))))
      (dss_cons (ds_if (dt_w (dw_or (dt_not (dt_val (de_call (ok_are_places T) (hr.mono (by decide)) (by rfl) T.m_are_places T.F_are_places.kp T.b_are_places (da_cons (de_sl (de_var (pv 1)) do_none (do_some de_int)) da_nil)))) (dw_or1 (dt_not (dt_val (de_call (ok_is_height T) (hr.mono (by decide)) (by rfl) T.m_is_height T.F_is_height.kp T.b_is_height (da_cons (de_var (pv 6)) (da_cons de_int da_nil)))))))) (dss_one ds_bad) dss_nil)
      (dss_cons (ds_if (dt_w (dw_and (dt_eq hr.units (de_var (pv 0)) de_str) (dw_and1 (dt_ne hr.units (de_tup (da_cons (de_var (pv 2)) (da_cons (de_var (pv 3)) da_nil))) (de_tup (da_cons (de_var (pv 4)) (da_cons (de_var (pv 5)) da_nil))))))) (dss_one (ds_ret (de_fz (de_make T.mk_Fence T.cl_Fence T.ni_Fence (ok_Thing_init T) (hr.mono (by decide)) (by rfl) T.mC_Fence T.b_Thing_init (da_cons (de_var (pv 1)) da_nil))))) dss_nil)
      (dss_cons (ds_if (dt_w (dw_and (dt_eq hr.units (de_var (pv 0)) de_str) (dw_and (dt_lt (de_var (pv 2)) (de_var (pv 4))) (dw_and1 (dt_lt (de_var (pv 3)) (de_var (pv 5))))))) (dss_one (ds_ret (de_fz (de_make T.mk_Sail T.cl_Sail T.ni_Sail (ok_Thing_init T) (hr.mono (by decide)) (by rfl) T.mC_Sail T.b_Thing_init (da_cons (de_var (pv 1)) da_nil))))) dss_nil)
      (dss_cons (ds_if (dt_w (dw_and (dt_eq hr.units (de_var (pv 0)) de_str) (dw_and (dt_lt (de_var (pv 2)) (de_var (pv 4))) (dw_and1 (dt_lt (de_var (pv 3)) (de_var (pv 5))))))) (dss_one (ds_ret (de_fz (de_make T.mk_House T.cl_House T.ni_House (ok_Thing_init T) (hr.mono (by decide)) (by rfl) T.mC_House T.b_Thing_init (da_cons (de_var (pv 1)) da_nil))))) dss_nil)
      (dss_one ds_bad))))))
theorem ok_law_fields (T : Tx P w K mg base G) : FnOk P w K mg base (L2.CX P w) 3 T.a_law_fields T.d_law_fields P_law_fields (spD K 4 (φ_law_fields G)) :=
  fnD (s := s_law_fields G) (N := N_law_fields) T.F_law_fields sc_law_fields rfl fun cdv A outer s0 H E hr =>
    (dss_cons (ds_if (dt_w (dw_or (dt_not (dt_val (de_call (ok_law_whole T) (hr.mono (by decide)) (by rfl) T.m_law_whole T.F_law_whole.kp T.b_law_whole (da_cons (de_fld T.fl_width (de_var (pv 0))) da_nil)))) (dw_or (dt_not (dt_val (de_call (ok_law_whole T) (hr.mono (by decide)) (by rfl) T.m_law_whole T.F_law_whole.kp T.b_law_whole (da_cons (de_fld T.fl_height (de_var (pv 0))) da_nil)))) (dw_or1 (dt_ne hr.units (de_tup (da_cons (de_fld T.fl_width (de_var (pv 0))) (da_cons (de_fld T.fl_height (de_var (pv 0))) da_nil))) (de_var (pv 1))))))) (dss_one (ds_ret de_bl)) dss_nil)
      (dss_cons (ds_if (dt_w (dw_or (dt_not (dt_val (de_isi .list (by rfl) T.z_isinstance (de_fld T.fl_things (de_var (pv 0))) (pe_bltn (by rfl) T.z_list (by decide +kernel) rfl)))) (dw_or1 (dt_ne hr.units (de_len (by rfl) T.z_len (da_cons (de_fld T.fl_things (de_var (pv 0))) da_nil)) (de_lenV (by rfl) T.z_len (pv 2)))))) (dss_one (ds_ret de_bl)) dss_nil)
      (dss_cons (ds_if (dt_ne hr.units (de_comp rfl sc_law_fields.nd (di_seq (de_fld T.fl_things (de_var (pv 0)))) (blkOk_by (own := [("_law_thing_here", 4)]) (N := N_law_fields) (sc := _) (by show blkC N_law_fields (defScope st_law_fields) _ _ = true; decide +kernel)) (os := [4]) rfl (fun _ h => h) (fun _ _ _ _ _ => (dg_name (i := 4) sc_law_fields.nd rfl (.inl rfl))) (fun _ _ _ _ _ => dts_nil) (fun _ _ _ _ _ => (de_methT (List.forall_mem_cons.mpr ⟨(pe_methN (pe_meth0 (de_var (pv 4)) T.cl_Post T.me_Post_shown (ok_Thing_shown T) (hr.mono (by decide)) T.b_Thing_shown .nil passX)), (List.forall_mem_cons.mpr ⟨(pe_methN (pe_meth0 (de_var (pv 4)) T.cl_Fence T.me_Fence_shown (ok_Thing_shown T) (hr.mono (by decide)) T.b_Thing_shown .nil passX)), (List.forall_mem_cons.mpr ⟨(pe_methN (pe_meth0 (de_var (pv 4)) T.cl_Sail T.me_Sail_shown (ok_Thing_shown T) (hr.mono (by decide)) T.b_Thing_shown .nil passX)), (List.forall_mem_cons.mpr ⟨(pe_methN (pe_meth0 (de_var (pv 4)) T.cl_Cloth T.me_Cloth_shown (ok_Thing_shown T) (hr.mono (by decide)) T.b_Thing_shown .nil passX)), (List.forall_mem_cons.mpr ⟨(pe_methN (pe_meth0 (de_var (pv 4)) T.cl_House T.me_House_shown (ok_Thing_shown T) (hr.mono (by decide)) T.b_Thing_shown .nil passX)), all0⟩)⟩)⟩)⟩)⟩)))) (de_comp rfl sc_law_fields.nd (di_seq (de_var (pv 2))) (blkOk_by (own := [("_law_thing_here", 4)]) (N := N_law_fields) (sc := _) (by show blkC N_law_fields (defScope st_law_fields) _ _ = true; decide +kernel)) (os := [4]) rfl (fun _ h => h) (fun _ _ _ _ _ => (dg_name (i := 4) sc_law_fields.nd rfl (.inl rfl))) (fun _ _ _ _ _ => dts_nil) (fun _ _ _ _ _ => (de_methT (List.forall_mem_cons.mpr ⟨(pe_methN (pe_meth0 (de_var (pv 4)) T.cl_Post T.me_Post_shown (ok_Thing_shown T) (hr.mono (by decide)) T.b_Thing_shown .nil passX)), (List.forall_mem_cons.mpr ⟨(pe_methN (pe_meth0 (de_var (pv 4)) T.cl_Fence T.me_Fence_shown (ok_Thing_shown T) (hr.mono (by decide)) T.b_Thing_shown .nil passX)), (List.forall_mem_cons.mpr ⟨(pe_methN (pe_meth0 (de_var (pv 4)) T.cl_Sail T.me_Sail_shown (ok_Thing_shown T) (hr.mono (by decide)) T.b_Thing_shown .nil passX)), (List.forall_mem_cons.mpr ⟨(pe_methN (pe_meth0 (de_var (pv 4)) T.cl_Cloth T.me_Cloth_shown (ok_Thing_shown T) (hr.mono (by decide)) T.b_Thing_shown .nil passX)), (List.forall_mem_cons.mpr ⟨(pe_methN (pe_meth0 (de_var (pv 4)) T.cl_House T.me_House_shown (ok_Thing_shown T) (hr.mono (by decide)) T.b_Thing_shown .nil passX)), all0⟩)⟩)⟩)⟩)⟩))))) (dss_one (ds_ret de_bl)) dss_nil)
      (dss_one (ds_ret (de_and (de_isi .list (by rfl) T.z_isinstance (de_fld T.fl_days (de_var (pv 0))) (pe_bltn (by rfl) T.z_list (by decide +kernel) rfl)) (de_one (de_eq hr.units (de_fld T.fl_days (de_var (pv 0))) (de_lst (da_cons (de_tup (da_cons de_str (da_cons de_int (da_cons (de_lst (da_cons (de_var (pv 3)) (da_cons de_non da_nil))) da_nil)))) (da_cons (de_tup (da_cons de_str (da_cons de_int (da_cons (de_lst (da_cons de_non da_nil)) da_nil)))) da_nil)))))))))))
theorem ok_held (T : Tx P w K mg base G) : FnOk P w K mg base (L2.CX P w) 4 T.a_held T.d_held P_held (spD K 2 (φ_held G)) :=
  fnD (s := s_held G) (N := N_held) T.F_held sc_held rfl fun cdv A outer s0 H E hr =>
    (dss_cons (ds_setCompF (i := 2) rfl sc_held.nd rfl rfl (sw_true rfl rfl rfl (by decide +kernel)) (di_seq (de_var (pv 0))) (blkOk_by (own := [("one", 4)]) (N := N_held) (sc := _) (by show blkC N_held (defScope st_held) _ _ = true; decide +kernel)) (os := [4]) rfl (fun _ h => h) (fun _ _ _ _ _ => (dg_name (i := 4) sc_held.nd rfl (.inl rfl))) (fun _ _ _ _ _ => dts_nil) (fun _ _ _ _ _ => (de_tup (da_cons (de_sub (de_ixV (pv 4) de_int) (de_ixV (pv 1) de_int)) (da_cons (de_sub (de_ixV (pv 4) de_int) (de_ixV (pv 1) de_int)) da_nil)))))
      (dss_cons (ds_set (i := 3) sc_held.nd rfl (.inr rfl) (de_fz (de_call (ok_outermost T) (hr.mono (by decide)) (by rfl) T.m_outermost T.F_outermost.kp T.b_outermost (da_cons (de_var (pv 2)) (da_cons de_int da_nil)))))
      (dss_cons (ds_if (dt_not (dt_val (de_all rfl (by rfl) T.z_all (da_cons (de_comp rfl sc_held.nd (di_seq (de_var (pv 2))) (blkOk_by (own := [("way", 5)]) (N := N_held) (sc := _) (by show blkC N_held (defScope st_held) _ _ = true; decide +kernel)) (os := [5]) rfl (fun _ h => h) (fun _ _ _ _ _ => (dg_name (i := 5) sc_held.nd rfl (.inl rfl))) (fun _ _ _ _ _ => dts_nil) (fun _ _ _ _ _ => (de_call (ok_is_left T) (hr.mono (by decide)) (by rfl) T.m_is_left T.F_is_left.kp T.b_is_left (da_cons (de_var (pv 3)) (da_cons (de_var (pv 5)) da_nil))))) da_nil)))) (dss_one (ds_ret (de_fz (de_tup (da_cons de_str (da_cons (de_call (ok_weights_by T) (hr.mono (by decide)) (by rfl) T.m_weights_by T.F_weights_by.kp T.b_weights_by (da_cons (de_lenV (by rfl) T.z_len (pv 0)) (da_cons (de_call (ok_pulls_of T) (hr.mono (by decide)) (by rfl) T.m_pulls_of T.F_pulls_of.kp T.b_pulls_of (da_cons (de_var (pv 2)) da_nil)) da_nil))) da_nil)))))) dss_nil)
      (dss_one (ds_ret (de_fz (de_tup (da_cons de_str (da_cons (de_call (ok_line_by T) (hr.mono (by decide)) (by rfl) T.m_line_by T.F_line_by.kp T.b_line_by (da_cons (de_var (pv 0)) (da_cons (de_var (pv 3)) (da_cons (de_call (ok_outermost T) (hr.mono (by decide)) (by rfl) T.m_outermost T.F_outermost.kp T.b_outermost (da_cons (de_var (pv 2)) (da_cons (de_neg de_int) da_nil))) da_nil)))) da_nil)))))))))
theorem ok_thing_of (T : Tx P w K mg base G) : FnOk P w K mg base (L2.CX P w) 4 T.a_thing_of T.d_thing_of P_thing_of (spD K 2 (φ_thing_of G)) :=
  fnD (s := s_thing_of G) (N := N_thing_of) T.F_thing_of sc_thing_of rfl fun cdv A outer s0 H E hr =>
    (dss_cons (ds_if (dt_w (dw_and (dt_eq hr.units (de_var (pv 0)) de_str) (dw_and1 (dt_eq hr.units (de_lenV (by rfl) T.z_len (pv 1)) de_int)))) (dss_one (ds_if (dt_w (dw_and (dt_val (de_call (ok_are_places T) (hr.mono (by decide)) (by rfl) T.m_are_places T.F_are_places.kp T.b_are_places (da_cons (de_sl (de_var (pv 1)) do_none (do_some de_int)) da_nil))) (dw_and1 (dt_val (de_call (ok_is_height T) (hr.mono (by decide)) (by rfl) T.m_is_height T.F_is_height.kp T.b_is_height (da_cons (de_ixV (pv 1) de_int) (da_cons de_int da_nil))))))) (dss_one (ds_ret (de_fz (de_make T.mk_Post T.cl_Post T.ni_Post (ok_Thing_init T) (hr.mono (by decide)) (by rfl) T.mC_Post T.b_Thing_init (da_cons (de_var (pv 1)) da_nil))))) dss_nil)) dss_nil)
      (dss_cons (ds_if (dt_w (dw_and (dt_eq hr.units (de_var (pv 0)) de_str) (dw_and1 (dt_eq hr.units (de_lenV (by rfl) T.z_len (pv 1)) de_int)))) (dss_one (ds_ret (de_fz (de_call (ok_cloth_of T) (hr.mono (by decide)) (by rfl) T.m_cloth_of T.F_cloth_of.kp T.b_cloth_of (da_cons (de_var (pv 1)) da_nil))))) dss_nil)
      (dss_cons (ds_if (dt_w (dw_and (dt_in hr.units (de_var (pv 0)) (de_tup (da_cons de_str (da_cons de_str (da_cons de_str da_nil))))) (dw_and1 (dt_eq hr.units (de_lenV (by rfl) T.z_len (pv 1)) de_int)))) (dss_one (ds_ret (de_fz (de_call (ok_stretched T) (hr.mono (by decide)) (by rfl) T.m_stretched T.F_stretched.kp T.b_stretched (da_cons (de_var (pv 0)) (da_cons (de_var (pv 1)) da_nil)))))) dss_nil)
      (dss_one ds_bad))))
theorem ok_shading (T : Tx P w K mg base G) : FnOk P w K mg base (L2.CX P w) 5 T.a_shading T.d_shading P_shading (spD K 3 (φ_shading G)) :=
  fnD (s := s_shading G) (N := N_shading) T.F_shading sc_shading rfl fun cdv A outer s0 H E hr =>
    (dss_one (ds_ret (de_fz (de_call (ok_held T) (hr.mono (by decide)) (by rfl) T.m_held T.F_held.kp T.b_held (da_cons (de_comp rfl sc_shading.nd (di_seq (de_methT (List.forall_mem_cons.mpr ⟨(pe_methN (pe_meth0 (de_var (pv 0)) T.cl_Post T.me_Post_corners (ok_Post_corners T) (hr.mono (by decide)) T.b_Post_corners .nil passX)), (List.forall_mem_cons.mpr ⟨(pe_methN (pe_meth0 (de_var (pv 0)) T.cl_Fence T.me_Fence_corners (ok_Fence_corners T) (hr.mono (by decide)) T.b_Fence_corners .nil passX)), (List.forall_mem_cons.mpr ⟨(pe_methN (pe_meth0 (de_var (pv 0)) T.cl_Sail T.me_Sail_corners (ok_Sail_corners T) (hr.mono (by decide)) T.b_Sail_corners .nil passX)), (List.forall_mem_cons.mpr ⟨(pe_methN (pe_meth0 (de_var (pv 0)) T.cl_Cloth T.me_Cloth_corners (ok_Cloth_corners T) (hr.mono (by decide)) T.b_Cloth_corners .nil passX)), (List.forall_mem_cons.mpr ⟨(pe_methN (pe_meth0 (de_var (pv 0)) T.cl_House T.me_House_corners (ok_House_corners T) (hr.mono (by decide)) T.b_House_corners .nil passX)), all0⟩)⟩)⟩)⟩)⟩))) (blkOk_by (own := [("corner", 3)]) (N := N_shading) (sc := _) (by show blkC N_shading (defScope st_shading) _ _ = true; decide +kernel)) (os := [3]) rfl (fun _ h => h) (fun _ _ _ _ _ => (dg_name (i := 3) sc_shading.nd rfl (.inl rfl))) (fun _ _ _ _ _ => dts_nil) (fun _ _ _ _ _ => (de_call (ok_cast T) (hr.mono (by decide)) (by rfl) T.m_cast T.F_cast.kp T.b_cast (da_cons (de_var (pv 3)) (da_cons (de_var (pv 2)) da_nil))))) (da_cons (de_call (ok_stone_cast T) (hr.mono (by decide)) (by rfl) T.m_stone_cast T.F_stone_cast.kp T.b_stone_cast (da_cons (de_var (pv 1)) (da_cons (de_var (pv 2)) da_nil))) da_nil))))))
theorem ok_shades (T : Tx P w K mg base G) : FnOk P w K mg base (L2.CX P w) 6 T.a_shades T.d_shades P_shades (spD K 3 (φ_shades G)) :=
  fnD (s := s_shades G) (N := N_shades) T.F_shades sc_shades rfl fun cdv A outer s0 H E hr =>
    (dss_one (ds_ret (de_eq hr.units (de_ixD (de_call (ok_shading T) (hr.mono (by decide)) (by rfl) T.m_shading T.F_shading.kp T.b_shading (da_cons (de_var (pv 0)) (da_cons (de_var (pv 1)) (da_cons (de_var (pv 2)) da_nil)))) de_int) de_str)))
theorem ok_dark_of (T : Tx P w K mg base G) : FnOk P w K mg base (L2.CX P w) 7 T.a_dark_of T.d_dark_of P_dark_of (spD K 3 (φ_dark_of G)) :=
  fnD (s := s_dark_of G) (N := N_dark_of) T.F_dark_of sc_dark_of rfl fun cdv A outer s0 H E hr =>
    (dss_one (ds_ret (de_fz (de_call (ok_bits_of T) (hr.mono (by decide)) (by rfl) T.m_bits_of T.F_bits_of.kp T.b_bits_of (da_cons (de_comp rfl sc_dark_of.nd (di_seq (de_call (ok_all_stones T) (hr.mono (by decide)) (by rfl) T.m_all_stones T.F_all_stones.kp T.b_all_stones (da_cons (de_var (pv 0)) da_nil))) (blkOk_by (own := [("stone", 3)]) (N := N_dark_of) (sc := _) (by show blkC N_dark_of (defScope st_dark_of) _ _ = true; decide +kernel)) (os := [3]) rfl (fun _ h => h) (fun _ _ _ _ _ => (dg_name (i := 3) sc_dark_of.nd rfl (.inl rfl))) (fun _ _ _ _ _ => (dts_one (dt_val (de_call (ok_shades T) (hr.mono (by decide)) (by rfl) T.m_shades T.F_shades.kp T.b_shades (da_cons (de_var (pv 1)) (da_cons (de_var (pv 3)) (da_cons (de_var (pv 2)) da_nil))))))) (fun _ _ _ _ _ => (de_var (pv 3)))) (da_cons (de_fld T.fl_width (de_var (pv 0))) da_nil))))))
theorem ok_law_set (T : Tx P w K mg base G) : FnOk P w K mg base (L2.CX P w) 7 T.a_law_set T.d_law_set P_law_set (spD K 3 (φ_law_set G)) :=
  fnD (s := s_law_set G) (N := N_law_set) T.F_law_set sc_law_set rfl fun cdv A outer s0 H E hr =>
    (dss_cons (ds_set (i := 3) sc_law_set.nd rfl (.inl rfl) de_int)
      (dss_cons (ds_for [5, 4] (passes_of rfl) rfl (di_range1 (by rfl) T.z_range (da_cons (de_ixV (pv 0) de_int) da_nil)) (dg_name (i := 4) sc_law_set.nd rfl (.inl rfl)) (dss_one (ds_for [5] (passes_of rfl) rfl (di_range1 (by rfl) T.z_range (da_cons (de_ixV (pv 0) de_int) da_nil)) (dg_name (i := 5) sc_law_set.nd rfl (.inl rfl)) (dss_one (ds_if (dt_val (de_call (ok_shades T) (hr.mono (by decide)) (by rfl) T.m_shades T.F_shades.kp T.b_shades (da_cons (de_var (pv 1)) (da_cons (de_tup (da_cons (de_var (pv 5)) (da_cons (de_var (pv 4)) da_nil))) (da_cons (de_var (pv 2)) da_nil))))) (dss_one (ds_set (i := 3) sc_law_set.nd rfl (.inl rfl) (de_fz (de_add (de_var (pv 3)) (de_shl de_int (de_add (de_mul (de_var (pv 4)) (de_ixV (pv 0) de_int)) (de_var (pv 5)))))))) dss_nil)))))
      (dss_one (ds_ret (de_var (pv 3))))))
theorem ok_dark (T : Tx P w K mg base G) : FnOk P w K mg base (L2.CX P w) 8 T.a_dark T.d_dark P_dark (spD K 2 (φ_dark G)) :=
  fnD (s := s_dark G) (N := N_dark) T.F_dark sc_dark rfl fun cdv A outer s0 H E hr =>
    (dss_cons (ds_if (dt_isN (de_var (pv 1))) (dss_one (ds_ret (de_sub (de_shl de_int (de_mul (de_fld T.fl_width (de_var (pv 0))) (de_fld T.fl_height (de_var (pv 0))))) de_int))) dss_nil)
      (dss_cons (ds_set (i := 2) sc_dark.nd rfl (.inl rfl) de_int)
      (dss_cons (ds_for [3] (passes_of rfl) rfl (di_seq (de_fld T.fl_things (de_var (pv 0)))) (dg_name (i := 3) sc_dark.nd rfl (.inl rfl)) (dss_one (ds_set (i := 2) sc_dark.nd rfl (.inl rfl) (de_bor (de_var (pv 2)) (de_call (ok_dark_of T) (hr.mono (by decide)) (by rfl) T.m_dark_of T.F_dark_of.kp T.b_dark_of (da_cons (de_var (pv 0)) (da_cons (de_var (pv 3)) (da_cons (de_var (pv 1)) da_nil))))))))
      (dss_one (ds_ret (de_var (pv 2)))))))
theorem ok_law (T : Tx P w K mg base G) : FnOk P w K mg base (L2.CX P w) 9 T.a_law T.d_law P_law (spD K 1 (φ_law G)) :=
  fnD (s := s_law G) (N := N_law) T.F_law sc_law rfl fun cdv A outer s0 H E hr =>
    (dss_cons (ds_set (i := 1) sc_law.nd rfl (.inr rfl) (de_fz (de_call (ok_law_size T) (hr.mono (by decide)) (by rfl) T.m_law_size T.F_law_size.kp T.b_law_size (da_cons (de_call (ok_law_at T) (hr.mono (by decide)) (by rfl) T.m_law_at T.F_law_at.kp T.b_law_at (da_cons (de_var (pv 0)) (da_cons de_int da_nil))) (da_cons de_int da_nil)))))
      (dss_cons (ds_set (i := 2) sc_law.nd rfl (.inr rfl) (de_fz (de_call (ok_law_ray T) (hr.mono (by decide)) (by rfl) T.m_law_ray T.F_law_ray.kp T.b_law_ray (da_cons (de_call (ok_law_at T) (hr.mono (by decide)) (by rfl) T.m_law_at T.F_law_at.kp T.b_law_at (da_cons (de_var (pv 0)) (da_cons de_int da_nil))) da_nil))))
      (dss_cons (ds_setCompF (i := 3) rfl sc_law.nd rfl rfl (sw_true rfl rfl rfl (by decide +kernel)) (di_seq (de_sl (de_var (pv 0)) (do_some de_int) (do_some de_int))) (blkOk_by (own := [("_law_cell", 14)]) (N := N_law) (sc := _) (by show blkC N_law (defScope st_law) _ _ = true; decide +kernel)) (os := [14]) rfl (fun _ h => h) (fun _ _ _ _ _ => (dg_name (i := 14) sc_law.nd rfl (.inl rfl))) (fun _ _ _ _ _ => dts_nil) (fun _ _ _ _ _ => (de_call (ok_law_thing T) (hr.mono (by decide)) (by rfl) T.m_law_thing T.F_law_thing.kp T.b_law_thing (da_cons (de_var (pv 14)) (da_cons (de_max1A rfl (by rfl) T.z_max (da_cons (de_var (pv 1)) da_nil)) da_nil)))))
      (dss_cons (ds_if (dt_eq hr.units (de_mod (de_fdiv (de_call (ok_law_at T) (hr.mono (by decide)) (by rfl) T.m_law_at T.F_law_at.kp T.b_law_at (da_cons (de_var (pv 0)) (da_cons de_int da_nil))) de_int) de_int) de_int) (dss_cons (ds_set (i := 1) sc_law.nd rfl (.inr rfl) (de_fz (de_ixD (de_lst (da_cons (de_tup (da_cons de_int (da_cons de_int da_nil))) (da_cons (de_tup (da_cons de_int (da_cons de_int da_nil))) da_nil))) (de_mod (de_fdiv (de_call (ok_law_at T) (hr.mono (by decide)) (by rfl) T.m_law_at T.F_law_at.kp T.b_law_at (da_cons (de_var (pv 0)) (da_cons de_int da_nil))) de_int) de_int))))
      (dss_one (ds_set (i := 3) sc_law.nd rfl (.inl rfl) (de_fz (de_sl (de_var (pv 3)) do_none (do_some de_int)))))) dss_nil)
      (dss_cons (ds_set (i := 4) sc_law.nd rfl (.inr rfl) (de_comp rfl sc_law.nd (di_seq (de_var (pv 3))) (blkOk_by (own := [("_law_word", 10), ("_law_numbers", 11)]) (N := N_law) (sc := _) (by show blkC N_law (defScope st_law) _ _ = true; decide +kernel)) (os := [10, 11]) rfl (fun _ h => h) (fun _ _ _ _ _ => (dg_seq rfl (dgs_cons (dg_name (i := 10) sc_law.nd rfl (.inl rfl)) (dgs_cons (dg_name (i := 11) sc_law.nd rfl (.inl rfl)) dgs_nil)))) (fun _ _ _ _ _ => dts_nil) (fun _ _ _ _ _ => (de_call (ok_thing_of T) (hr.mono (by decide)) (by rfl) T.m_thing_of T.F_thing_of.kp T.b_thing_of (da_cons (de_var (pv 10)) (da_cons (de_list1 (by rfl) T.z_list (da_cons (de_var (pv 11)) da_nil)) da_nil))))))
      (dss_tag (i := 4) (dss_cons (ds_set (i := 5) sc_law.nd rfl (.inl rfl) (de_listO (by rfl) T.z_list (pv 4)))
      (dss_cons (ds_set (i := 6) sc_law.nd rfl (.inl rfl) (de_lst (da_cons (de_tup (da_cons de_str (da_cons de_int (da_cons (de_lst (da_cons (de_var (pv 2)) (da_cons de_non da_nil))) da_nil)))) (da_cons (de_tup (da_cons de_str (da_cons de_int (da_cons (de_lst (da_cons de_non da_nil)) da_nil)))) da_nil))))
      (dss_cons (ds_set (i := 7) sc_law.nd rfl (.inr rfl) (de_fz (de_lk (de_make T.mk_Yard T.cl_Yard T.ni_Yard (ok_Yard_init T) (hr.mono (by decide)) (by rfl) T.mC_Yard T.b_Yard_init (da_cons (de_ixV (pv 1) de_int) (da_cons (de_ixV (pv 1) de_int) (da_cons (de_var (pv 5)) (da_cons (de_var (pv 6)) da_nil))))))))
      (dss_cons (ds_if (dt_w (dw_or (dt_neS hr.units0 (pv 5) (pv 4)) (dw_or1 (dt_not (dt_val (de_call (ok_law_fields T) (hr.mono (by decide)) (by rfl) T.m_law_fields T.F_law_fields.kp T.b_law_fields (da_cons (de_var (pv 7)) (da_cons (de_var (pv 1)) (da_cons (de_var (pv 4)) (da_cons (de_var (pv 2)) da_nil)))))))))) (dss_one (ds_ret de_bl)) dss_nil)
      (dss_cons (ds_clear (pe_bm0 PySem.F.plainAttrs_list PySem.F.slot_list_clear PySem.F.type_list_clear mt_lclear (pv 5)))
      (dss_cons (ds_clrP (i := 6) (js := [0, 2]) (pe_bm0 PySem.F.plainAttrs_list PySem.F.slot_list_clear PySem.F.type_list_clear mt_lclear (pe_ix ix_seq (pe_ix ix_seq (pv 6) pe_int (fun _ _ => rfl)) pe_int (fun _ _ => rfl))))
      (dss_cons (ds_clear (pe_bm0 PySem.F.plainAttrs_list PySem.F.slot_list_clear PySem.F.type_list_clear mt_lclear (pv 6)))
      (dss_cons (ds_set (i := 8) sc_law.nd rfl (.inr rfl) (de_fz (de_comp rfl sc_law.nd (di_seq (de_var (pv 4))) (blkOk_by (own := [("_law_thing_here", 15)]) (N := N_law) (sc := _) (by show blkC N_law (defScope st_law) _ _ = true; decide +kernel)) (os := [15]) rfl (fun _ h => h) (fun _ _ _ _ _ => (dg_name (i := 15) sc_law.nd rfl (.inl rfl))) (fun _ _ _ _ _ => dts_nil) (fun _ _ _ _ _ => (de_call (ok_law_set T) (hr.mono (by decide)) (by rfl) T.m_law_set T.F_law_set.kp T.b_law_set (da_cons (de_var (pv 1)) (da_cons (de_var (pv 15)) (da_cons (de_var (pv 2)) da_nil))))))))
      (dss_cons (ds_set (i := 9) sc_law.nd rfl (.inl rfl) (de_fz (de_call (ok_law_laid T) (hr.mono (by decide)) (by rfl) T.m_law_laid T.F_law_laid.kp T.b_law_laid (da_cons (de_var (pv 8)) da_nil))))
      (dss_cons (ds_if (dt_w (dw_or (dt_not (dt_val (de_call (ok_law_right T) (hr.mono (by decide)) (by rfl) T.m_law_right T.F_law_right.kp T.b_law_right (da_cons (de_call (ok_dark T) (hr.mono (by decide)) (by rfl) T.m_dark T.F_dark.kp T.b_dark (da_cons (de_var (pv 7)) (da_cons de_non da_nil))) (da_cons (de_sub (de_shl de_int (de_mul (de_ixV (pv 1) de_int) (de_ixV (pv 1) de_int))) de_int) da_nil))))) (dw_or1 (dt_not (dt_val (de_call (ok_law_right T) (hr.mono (by decide)) (by rfl) T.m_law_right T.F_law_right.kp T.b_law_right (da_cons (de_call (ok_dark T) (hr.mono (by decide)) (by rfl) T.m_dark T.F_dark.kp T.b_dark (da_cons (de_var (pv 7)) (da_cons (de_var (pv 2)) da_nil))) (da_cons (de_var (pv 9)) da_nil)))))))) (dss_one (ds_ret de_bl)) dss_nil)
      (dss_cons (ds_if (dt_not (dt_val (de_all rfl (by rfl) T.z_all (da_cons (de_comp rfl sc_law.nd (di_range1 (by rfl) T.z_range (da_cons (de_lenV (by rfl) T.z_len (pv 4)) da_nil)) (blkOk_by (own := [("_law_k", 16)]) (N := N_law) (sc := _) (by show blkC N_law (defScope st_law) _ _ = true; decide +kernel)) (os := [16]) rfl (fun _ h => h) (fun _ _ _ _ _ => (dg_name (i := 16) sc_law.nd rfl (.inl rfl))) (fun _ _ _ _ _ => dts_nil) (fun _ _ _ _ _ => (de_call (ok_law_right T) (hr.mono (by decide)) (by rfl) T.m_law_right T.F_law_right.kp T.b_law_right (da_cons (de_call (ok_dark_of T) (hr.mono (by decide)) (by rfl) T.m_dark_of T.F_dark_of.kp T.b_dark_of (da_cons (de_var (pv 7)) (da_cons (de_ixV (pv 4) (de_var (pv 16))) (da_cons (de_var (pv 2)) da_nil)))) (da_cons (de_ixV (pv 8) (de_var (pv 16))) da_nil))))) da_nil)))) (dss_one (ds_ret de_bl)) dss_nil)
      (dss_cons (ds_asg (de_call (ok_law_thing T) (hr.mono (by decide)) (by rfl) T.m_law_thing T.F_law_thing.kp T.b_law_thing (da_cons (de_call (ok_law_at T) (hr.mono (by decide)) (by rfl) T.m_law_at T.F_law_at.kp T.b_law_at (da_cons (de_var (pv 0)) (da_cons de_int da_nil))) (da_cons (de_max1A rfl (by rfl) T.z_max (da_cons (de_var (pv 1)) da_nil)) da_nil))) (dg_seq rfl (dgs_cons (dg_name (i := 10) sc_law.nd rfl (.inl rfl)) (dgs_cons (dg_name (i := 11) sc_law.nd rfl (.inl rfl)) dgs_nil))))
      (dss_cons (ds_set (i := 12) sc_law.nd rfl (.inl rfl) (de_fz (de_call (ok_thing_of T) (hr.mono (by decide)) (by rfl) T.m_thing_of T.F_thing_of.kp T.b_thing_of (da_cons (de_var (pv 10)) (da_cons (de_list1 (by rfl) T.z_list (da_cons (de_var (pv 11)) da_nil)) da_nil)))))
      (dss_cons (ds_if (dt_not (dt_val (de_call (ok_law_right T) (hr.mono (by decide)) (by rfl) T.m_law_right T.F_law_right.kp T.b_law_right (da_cons (de_call (ok_dark_of T) (hr.mono (by decide)) (by rfl) T.m_dark_of T.F_dark_of.kp T.b_dark_of (da_cons (de_var (pv 7)) (da_cons (de_var (pv 12)) (da_cons (de_var (pv 2)) da_nil)))) (da_cons (de_call (ok_law_set T) (hr.mono (by decide)) (by rfl) T.m_law_set T.F_law_set.kp T.b_law_set (da_cons (de_var (pv 1)) (da_cons (de_var (pv 12)) (da_cons (de_var (pv 2)) da_nil)))) da_nil))))) (dss_one (ds_ret de_bl)) dss_nil)
      (dss_cons (ds_set (i := 13) sc_law.nd rfl (.inl rfl) (de_fz (de_make T.mk_Yard T.cl_Yard T.ni_Yard (ok_Yard_init T) (hr.mono (by decide)) (by rfl) T.mC_Yard T.b_Yard_init (da_cons (de_ixV (pv 1) de_int) (da_cons (de_ixV (pv 1) de_int) (da_cons (de_rev (de_var (pv 4))) (da_cons (de_lst da_nil) da_nil)))))))
      (dss_cons (ds_if (dt_not (dt_val (de_call (ok_law_right T) (hr.mono (by decide)) (by rfl) T.m_law_right T.F_law_right.kp T.b_law_right (da_cons (de_call (ok_dark T) (hr.mono (by decide)) (by rfl) T.m_dark T.F_dark.kp T.b_dark (da_cons (de_var (pv 13)) (da_cons (de_var (pv 2)) da_nil))) (da_cons (de_var (pv 9)) da_nil))))) (dss_one (ds_ret de_bl)) dss_nil)
      (dss_one (ds_ret (de_and (de_call (ok_law_right T) (hr.mono (by decide)) (by rfl) T.m_law_right T.F_law_right.kp T.b_law_right (da_cons (de_call (ok_dark T) (hr.mono (by decide)) (by rfl) T.m_dark T.F_dark.kp T.b_dark (da_cons (de_var (pv 7)) (da_cons (de_var (pv 2)) da_nil))) (da_cons (de_var (pv 9)) da_nil))) (de_one (de_call (ok_law_fields T) (hr.mono (by decide)) (by rfl) T.m_law_fields T.F_law_fields.kp T.b_law_fields (da_cons (de_var (pv 7)) (da_cons (de_var (pv 1)) (da_cons (de_var (pv 4)) (da_cons (de_var (pv 2)) da_nil)))))))))))))))))))))))))))))))
end
end My

namespace My
open PySem PySem.Spec L2 DL HU
def pD (p : P2) : D := .tup [.int p.1, .int p.2]
theorem pD_mk (a b : Int) : pD (a, b) = .tup [.int a, .int b] := id rfl
/-- within the bounds of all that is reckoned here -/
def W (p : P2) : Prop := (-1000000000000000000000000000000 ≤ p.1 ∧ p.1 ≤ 1000000000000000000000000000000) ∧ -1000000000000000000000000000000 ≤ p.2 ∧ p.2 ≤ 1000000000000000000000000000000
theorem mul_bd {x y : Int} (h1 : -1000000000000000000000000000000 ≤ x) (h2 : x ≤ 1000000000000000000000000000000) (h3 : -1000000000000000000000000000000 ≤ y) (h4 : y ≤ 1000000000000000000000000000000) : (x * y).natAbs ≤ 1000000000000000000000000000000000000000000000000000000000000 := by
  rw [Int.natAbs_mul]
  exact Nat.mul_le_mul (show x.natAbs ≤ 1000000000000000000000000000000 by omega) (show y.natAbs ≤ 1000000000000000000000000000000 by omega)
theorem tn_bd {a b : P2} (ha : W a) (hb : W b) : (tn a b).natAbs ≤ 2000000000000000000000000000000000000000000000000000000000000 := by
  obtain ⟨⟨a1, a2⟩, a3, a4⟩ := ha
  obtain ⟨⟨b1, b2⟩, b3, b4⟩ := hb
  have h1 := mul_bd a1 a2 b3 b4
  have h2 := mul_bd a3 a4 b1 b2
  unfold tn
  omega
theorem turn_of_eq (G : Gs) (a b : P2) (ha : W a) (hb : W b) : φ_turn_of G [pD a, pD b] = .ret (.sh (.int (tn a b))) := by
  obtain ⟨⟨a1, a2⟩, a3, a4⟩ := ha
  obtain ⟨⟨b1, b2⟩, b3, b4⟩ := hb
  unfold φ_turn_of s_turn_of pD tn
  simp (disch := omega)
def two (a b : P2) : Option (Int × Int) := if tn a b = 0 ∧ dt a b < 0 then (if a.1 = 0 then some (b.2.natAbs, a.2.natAbs) else some (b.1.natAbs, a.1.natAbs)) else none
def optP (o : Option (Int × Int)) : D := match o with
  | none => .non
  | some z => .tup [.int z.1, .int z.2]
theorem two_eq (G : Gs) (a b : P2) (ha : W a) (hb : W b) : φ_pulls_of_two G [pD a, pD b] = .ret (.sh (optP (two a b))) := by
  have ht := turn_of_eq G a b ha hb
  obtain ⟨⟨a1, a2⟩, a3, a4⟩ := ha
  obtain ⟨⟨b1, b2⟩, b3, b4⟩ := hb
  unfold φ_pulls_of_two s_pulls_of_two two
  unfold pD at *
  by_cases h : tn a b = 0
  · by_cases h2 : dt a b < 0
    · have h3 : ¬ 0 ≤ a.1 * b.1 + a.2 * b.2 := by unfold dt at h2; omega
      by_cases h4 : a.1 = 0
      · rw [h4] at h3 ht
        have h5 : ¬ 0 ≤ a.2 * b.2 := by rw [Int.zero_mul] at h3; omega
        simp (disch := omega) [ht, h, h2, h5, h4, optP]
      · simp (disch := omega) [ht, h, h2, h3, h4, optP]
    · have h3 : 0 ≤ a.1 * b.1 + a.2 * b.2 := by unfold dt at h2; omega
      simp (disch := omega) [ht, h, h2, h3, optP]
  · simp (disch := omega) [ht, h, optP]
def three (a b c : P2) : Option (Int × Int × Int) := if 0 < min (tn b c) (min (tn c a) (tn a b)) then some (tn b c, tn c a, tn a b) else if max (tn b c) (max (tn c a) (tn a b)) < 0 then some (-tn b c, -tn c a, -tn a b) else none
def optT (o : Option (Int × Int × Int)) : D := match o with
  | none => .non
  | some z => .tup [.int z.1, .int z.2.1, .int z.2.2]
theorem three_eq (G : Gs) (a b c : P2) (ha : W a) (hb : W b) (hc : W c) : φ_pulls_of_three G [pD a, pD b, pD c] = .ret (.sh (optT (three a b c))) := by
  have t1 := turn_of_eq G b c hb hc
  have t2 := turn_of_eq G c a hc ha
  have t3 := turn_of_eq G a b ha hb
  unfold φ_pulls_of_three s_pulls_of_three three
  by_cases h : 0 < min (tn b c) (min (tn c a) (tn a b))
  · simp only [if_pos h]
    simp (disch := omega) [t1, t2, t3, optT, h]
  · simp only [if_neg h]
    by_cases h2 : max (tn b c) (max (tn c a) (tn a b)) < 0
    · simp only [if_pos h2]
      simp (disch := omega) [t1, t2, t3, optT, h, h2]
    · simp only [if_neg h2]
      simp (disch := omega) [t1, t2, t3, optT, h, h2]
theorem dt_bd {a b : P2} (ha : W a) (hb : W b) : (dt a b).natAbs ≤ 2000000000000000000000000000000000000000000000000000000000000 := by
  obtain ⟨⟨a1, a2⟩, a3, a4⟩ := ha
  obtain ⟨⟨b1, b2⟩, b3, b4⟩ := hb
  have h1 := mul_bd a1 a2 b1 b2
  have h2 := mul_bd a3 a4 b3 b4
  unfold dt
  omega
instance (a b : P2) : Decidable (left a b) := by unfold left; infer_instance
theorem is_left_eq (G : Gs) (a b : P2) (ha : W a) (hb : W b) : φ_is_left G [pD a, pD b] = .ret (.sh (.bl (decide (left a b)))) := by
  have ht := turn_of_eq G a b ha hb
  obtain ⟨⟨a1, a2⟩, a3, a4⟩ := ha
  obtain ⟨⟨b1, b2⟩, b3, b4⟩ := hb
  unfold φ_is_left s_is_left left
  have e : a.1 * b.1 + a.2 * b.2 = dt a b := rfl
  unfold pD at *
  by_cases h : 0 < tn a b
  · simp (disch := omega) [ht, h, e]
  · by_cases h2 : tn a b = 0
    · simp (disch := omega) [ht, h, h2, e]
    · simp (disch := omega) [ht, h, h2, e]
theorem outer_go (G : Gs) (s : Int) (hs : s = 1 ∨ s = -1) (all : List D) : ∀ (ws : List P2) (b : P2), W b → (∀ w ∈ ws, W w) → ∃ ρ', loop (kName 3) (b_outermost_1 G) [3] (ws.map pD) [some (.sh (.lst all)), some (.sh (.int s)), some (.sh (pD b)), none] = .nx ρ' ∧ ρ' = [some (.sh (.lst all)), some (.sh (.int s)), some (.sh (pD (outer s b ws))), none]
  | [], b, hb, hw => ⟨_, rfl, rfl⟩
  | w :: ws, b, hb, hw => by
    have h1 := hw w List.mem_cons_self
    have ht := turn_of_eq G b w hb h1
    have hbd := tn_bd hb h1
    have hm : mulD (.int s) (.int (tn b w)) = some (.sh (.int (s * tn b w))) := mulD_l (by omega) (by omega)
    rw [List.map_cons, loop_cons]
    unfold outer
    rw [List.foldl_cons]
    unfold b_outermost_1
    by_cases hc : s * tn b w < 0
    · obtain ⟨ρ', e1, e2⟩ := outer_go G s hs all ws w h1 fun v hv => hw v (List.mem_cons_of_mem _ hv)
      refine ⟨ρ', ?_, ?_⟩
      · rw [← e1]
        simp (disch := omega) [ht, hm, hc, b_outermost_1]
      · rw [e2]; simp only [if_pos hc]; rfl
    · obtain ⟨ρ', e1, e2⟩ := outer_go G s hs all ws b hb fun v hv => hw v (List.mem_cons_of_mem _ hv)
      refine ⟨ρ', ?_, ?_⟩
      · rw [← e1]
        simp (disch := omega) [ht, hm, hc, b_outermost_1]
      · rw [e2]; simp only [if_neg hc]; rfl
theorem outermost_eq (G : Gs) (s : Int) (hs : s = 1 ∨ s = -1) (w : P2) (ws : List P2) (h : ∀ v ∈ w :: ws, W v) : φ_outermost G [.lst ((w :: ws).map pD), .int s] = .ret (.sh (pD (outer s w (w :: ws)))) := by
  obtain ⟨ρ', e1, e2⟩ := outer_go G s hs ((w :: ws).map pD) (w :: ws) w (h w List.mem_cons_self) h
  subst e2
  unfold φ_outermost s_outermost
  rw [List.map_cons] at *
  simp (disch := omega) [e1]
/-! which of them turn about the middle -/
def at_ (ws : List P2) (i : Nat) : P2 := ws.getD i (0, 0)
theorem at_get {ws : List P2} {i : Nat} (h : i < ws.length) : ws[i]? = some (at_ ws i) := by
  unfold at_
  rw [List.getD_eq_getElem?_getD, List.getElem?_eq_getElem h]; rfl
theorem at_mem {ws : List P2} {i : Nat} (h : i < ws.length) : at_ ws i ∈ ws := List.mem_of_getElem? (at_get h)
theorem ix_ws {ws : List P2} {i : Nat} (h : i < ws.length) : ixD (.lst (ws.map pD)) (.int (i : Int)) = some (.sh (pD (at_ ws i))) := by
  rw [ixD_l (by omega), List.getElem?_map, Int.toNat_natCast, at_get h]; rfl
abbrev Pulls := List (Nat × Int)
def vP (L : Pulls) : D := .lst (L.map fun z => .tup [.int z.1, .int z.2])
def r1 (ws : List P2) (i : Nat) : Option Pulls := if at_ ws i = (0, 0) then some [(i, 1)] else none
def r2 (ws : List P2) (j i : Nat) : Option Pulls := (two (at_ ws i) (at_ ws j)).map fun z => [(i, z.1), (j, z.2)]
def r3 (ws : List P2) (k j i : Nat) : Option Pulls := (three (at_ ws i) (at_ ws j) (at_ ws k)).map fun z => [(i, z.1), (j, z.2.1), (k, z.2.2)]
def sP (o : Option Pulls) : Option Val := o.map fun L => .sh (vP L)
theorem endF_sP (o : Option Pulls) (ρ ρ' : DEnv) : endF (sP o) ρ ρ' = match o with
  | none => .nx ρ
  | some L => .rt (.sh (vP L)) ρ' := by cases o <;> rfl
theorem findSome_sP {α : Type} (f : α → Option Pulls) (l : List α) : l.findSome? (fun x => sP (f x)) = sP (l.findSome? f) := by
  induction l with
  | nil => rfl
  | cons a l ih => rw [List.findSome?_cons, List.findSome?_cons]; cases h : f a with
    | none => exact ih
    | some L => rfl
def pulls (ws : List P2) : Option Pulls :=
  match (List.range ws.length).findSome? (r1 ws) with
  | some L => some L
  | none => match (List.range ws.length).findSome? fun j => (List.range j).findSome? (r2 ws j) with
    | some L => some L
    | none => (List.range ws.length).findSome? fun k => (List.range k).findSome? fun j => (List.range j).findSome? (r3 ws k j)
def optV (o : Option Pulls) : D := match o with
  | none => .non
  | some L => vP L
theorem turn_1 (G : Gs) (ws : List P2) (i : Nat) (hi : i < ws.length) : ∃ ρ', (lpK (kName 1 (.int (i : Int)) [some (.sh (.lst (ws.map pD))), none, none, none, none]) fun ρ1 => flp (b_pulls_of_1 G ρ1) (fun ρ2 => .nx (forget [1] ρ2)) fun _ => .bad) = endF (sP (r1 ws i)) [some (.sh (.lst (ws.map pD))), none, none, none, none] ρ' := by
  unfold r1 b_pulls_of_1
  by_cases h : at_ ws i = (0, 0)
  · refine ⟨[some (.sh (.lst (ws.map pD))), some (.sh (.int i)), none, none, none], ?_⟩
    rw [if_pos h]
    simp (disch := omega) [ix_ws hi, h, pD_mk, sP, vP]
  · refine ⟨[], ?_⟩
    rw [if_neg h]
    have h2 : ¬ ((at_ ws i).1 = 0 ∧ (at_ ws i).2 = 0) := fun z => h (Prod.ext z.1 z.2)
    have e : pD (at_ ws i) = .tup [.int (at_ ws i).1, .int (at_ ws i).2] := rfl
    simp (disch := omega) [ix_ws hi, e, sP, h2]
theorem turn_2 (G : Gs) (ws : List P2) (hw : ∀ v ∈ ws, W v) (j i : Nat) (hj : j < ws.length) (hi : i < ws.length) : ∃ ρ', (lpK (kName 1 (.int (i : Int)) [some (.sh (.lst (ws.map pD))), none, some (.sh (.int j)), none, none]) fun ρ1 => flp (b_pulls_of_2 G ρ1) (fun ρ2 => .nx (forget [3, 1] ρ2)) fun _ => .bad) = endF (sP (r2 ws j i)) [some (.sh (.lst (ws.map pD))), none, some (.sh (.int j)), none, none] ρ' := by
  have t := two_eq G (at_ ws i) (at_ ws j) (hw _ (at_mem hi)) (hw _ (at_mem hj))
  unfold r2 b_pulls_of_2
  cases h : two (at_ ws i) (at_ ws j) with
  | none =>
    rw [h] at t
    refine ⟨[], ?_⟩
    simp (disch := omega) [ix_ws hi, ix_ws hj, t, optP, sP]
  | some z =>
    rw [h] at t
    refine ⟨[some (.sh (.lst (ws.map pD))), some (.sh (.int i)), some (.sh (.int j)), some (.sh (.tup [.int z.1, .int z.2])), none], ?_⟩
    simp (disch := omega) [ix_ws hi, ix_ws hj, t, optP, sP, vP]
theorem turn_3 (G : Gs) (ws : List P2) (hw : ∀ v ∈ ws, W v) (j : Nat) (hj : j < ws.length) (hl : ws.length ≤ 1000) : ∃ ρ', (lpK (kName 2 (.int (j : Int)) [some (.sh (.lst (ws.map pD))), none, none, none, none]) fun ρ1 => flp (b_pulls_of_3 G ρ1) (fun ρ2 => .nx (forget [1, 3, 2] ρ2)) fun _ => .bad) = endF (sP ((List.range j).findSome? (r2 ws j))) [some (.sh (.lst (ws.map pD))), none, none, none, none] ρ' := by
  obtain ⟨ρ', e⟩ := loop_range (g := kName 1) (s := b_pulls_of_2 G) (is := [3, 1]) (ρ := [some (.sh (.lst (ws.map pD))), none, some (.sh (.int j)), none, none]) (n := j) (fun i => sP (r2 ws j i)) fun i hi => turn_2 G ws hw j i hj (by omega)
  rw [findSome_sP] at e
  unfold b_pulls_of_3
  refine ⟨ρ', ?_⟩
  cases h : (List.range j).findSome? (r2 ws j) with
  | none =>
    rw [h] at e
    simp [sP] at e
    simp (disch := omega) [e, sP]
  | some L =>
    rw [h] at e
    simp [sP] at e
    simp (disch := omega) [e, sP]
theorem turn_4 (G : Gs) (ws : List P2) (hw : ∀ v ∈ ws, W v) (k j i : Nat) (hk : k < ws.length) (hj : j < ws.length) (hi : i < ws.length) : ∃ ρ', (lpK (kName 1 (.int (i : Int)) [some (.sh (.lst (ws.map pD))), none, some (.sh (.int j)), none, some (.sh (.int k))]) fun ρ1 => flp (b_pulls_of_4 G ρ1) (fun ρ2 => .nx (forget [3, 1] ρ2)) fun _ => .bad) = endF (sP (r3 ws k j i)) [some (.sh (.lst (ws.map pD))), none, some (.sh (.int j)), none, some (.sh (.int k))] ρ' := by
  have t := three_eq G (at_ ws i) (at_ ws j) (at_ ws k) (hw _ (at_mem hi)) (hw _ (at_mem hj)) (hw _ (at_mem hk))
  unfold r3 b_pulls_of_4
  cases h : three (at_ ws i) (at_ ws j) (at_ ws k) with
  | none =>
    rw [h] at t
    refine ⟨[], ?_⟩
    simp (disch := omega) [ix_ws hi, ix_ws hj, ix_ws hk, t, optT, sP]
  | some z =>
    rw [h] at t
    refine ⟨[some (.sh (.lst (ws.map pD))), some (.sh (.int i)), some (.sh (.int j)), some (.sh (.tup [.int z.1, .int z.2.1, .int z.2.2])), some (.sh (.int k))], ?_⟩
    simp (disch := omega) [ix_ws hi, ix_ws hj, ix_ws hk, t, optT, sP, vP]
theorem turn_5 (G : Gs) (ws : List P2) (hw : ∀ v ∈ ws, W v) (k j : Nat) (hk : k < ws.length) (hj : j < ws.length) (hl : ws.length ≤ 1000) : ∃ ρ', (lpK (kName 2 (.int (j : Int)) [some (.sh (.lst (ws.map pD))), none, none, none, some (.sh (.int k))]) fun ρ1 => flp (b_pulls_of_5 G ρ1) (fun ρ2 => .nx (forget [1, 3, 2] ρ2)) fun _ => .bad) = endF (sP ((List.range j).findSome? (r3 ws k j))) [some (.sh (.lst (ws.map pD))), none, none, none, some (.sh (.int k))] ρ' := by
  obtain ⟨ρ', e⟩ := loop_range (g := kName 1) (s := b_pulls_of_4 G) (is := [3, 1]) (ρ := [some (.sh (.lst (ws.map pD))), none, some (.sh (.int j)), none, some (.sh (.int k))]) (n := j) (fun i => sP (r3 ws k j i)) fun i hi => turn_4 G ws hw k j i hk hj (by omega)
  rw [findSome_sP] at e
  unfold b_pulls_of_5
  refine ⟨ρ', ?_⟩
  cases h : (List.range j).findSome? (r3 ws k j) with
  | none =>
    rw [h] at e
    simp [sP] at e
    simp (disch := omega) [e, sP]
  | some L =>
    rw [h] at e
    simp [sP] at e
    simp (disch := omega) [e, sP]
theorem turn_6 (G : Gs) (ws : List P2) (hw : ∀ v ∈ ws, W v) (k : Nat) (hk : k < ws.length) (hl : ws.length ≤ 1000) : ∃ ρ', (lpK (kName 4 (.int (k : Int)) [some (.sh (.lst (ws.map pD))), none, none, none, none]) fun ρ1 => flp (b_pulls_of_6 G ρ1) (fun ρ2 => .nx (forget [2, 1, 3, 4] ρ2)) fun _ => .bad) = endF (sP ((List.range k).findSome? fun j => (List.range j).findSome? (r3 ws k j))) [some (.sh (.lst (ws.map pD))), none, none, none, none] ρ' := by
  obtain ⟨ρ', e⟩ := loop_range (g := kName 2) (s := b_pulls_of_5 G) (is := [1, 3, 2]) (ρ := [some (.sh (.lst (ws.map pD))), none, none, none, some (.sh (.int k))]) (n := k) (fun j => sP ((List.range j).findSome? (r3 ws k j))) fun j hj => turn_5 G ws hw k j hk (by omega) hl
  rw [findSome_sP] at e
  unfold b_pulls_of_6
  refine ⟨ρ', ?_⟩
  cases h : (List.range k).findSome? (fun j => (List.range j).findSome? (r3 ws k j)) with
  | none =>
    rw [h] at e
    simp [sP] at e
    simp (disch := omega) [e, sP]
  | some L =>
    rw [h] at e
    simp [sP] at e
    simp (disch := omega) [e, sP]
theorem pulls_eq (G : Gs) (ws : List P2) (hw : ∀ v ∈ ws, W v) (hl : ws.length ≤ 1000) : φ_pulls_of G [.lst (ws.map pD)] = .ret (.sh (optV (pulls ws))) := by
  obtain ⟨ρ1, e1⟩ := loop_range (g := kName 1) (s := b_pulls_of_1 G) (is := [1]) (ρ := [some (.sh (.lst (ws.map pD))), none, none, none, none]) (n := ws.length) (fun i => sP (r1 ws i)) fun i hi => turn_1 G ws i hi
  obtain ⟨ρ2, e2⟩ := loop_range (g := kName 2) (s := b_pulls_of_3 G) (is := [1, 3, 2]) (ρ := [some (.sh (.lst (ws.map pD))), none, none, none, none]) (n := ws.length) (fun j => sP ((List.range j).findSome? (r2 ws j))) fun j hj => turn_3 G ws hw j hj hl
  obtain ⟨ρ3, e3⟩ := loop_range (g := kName 4) (s := b_pulls_of_6 G) (is := [2, 1, 3, 4]) (ρ := [some (.sh (.lst (ws.map pD))), none, none, none, none]) (n := ws.length) (fun k => sP ((List.range k).findSome? fun j => (List.range j).findSome? (r3 ws k j))) fun k hk => turn_6 G ws hw k hk hl
  rw [findSome_sP] at e1 e2 e3
  unfold φ_pulls_of s_pulls_of pulls
  cases h1 : (List.range ws.length).findSome? (r1 ws) with
  | some L =>
    rw [h1] at e1
    simp [sP] at e1
    simp (disch := omega) [e1, optV]
  | none =>
    rw [h1] at e1
    simp [sP] at e1
    cases h2 : (List.range ws.length).findSome? (fun j => (List.range j).findSome? (r2 ws j)) with
    | some L =>
      rw [h2] at e2
      simp [sP] at e2
      simp (disch := omega) [e1, e2, optV]
    | none =>
      rw [h2] at e2
      simp [sP] at e2
      cases h3 : (List.range ws.length).findSome? (fun k => (List.range k).findSome? fun j => (List.range j).findSome? (r3 ws k j)) with
      | some L =>
        rw [h3] at e3
        simp [sP] at e3
        simp (disch := omega) [e1, e2, e3, optV]
      | none =>
        rw [h3] at e3
        simp [sP] at e3
        simp (disch := omega) [e1, e2, e3, optV]
/-! what the pulls are worth -/
theorem two_none {a b : P2} (h : two a b = none) : ¬ O2 a b := by
  intro ⟨h1, h2⟩
  unfold two at h
  rw [if_pos ⟨h1, h2⟩] at h
  split at h <;> cases h
theorem three_none {a b c : P2} (h : three a b c = none) : ¬ T3 a b c := by
  intro t
  unfold three at h
  rcases t with ⟨h1, h2, h3⟩ | ⟨h1, h2, h3⟩
  · rw [if_pos (by omega)] at h; cases h
  · rw [if_neg (by omega), if_pos (by omega)] at h; cases h
theorem t3c {a b c : P2} (h : T3 a b c) : T3 b c a := by
  unfold T3 at *; omega
theorem t3f {a b c : P2} (h : T3 a b c) : T3 b a c := by
  unfold T3 at *
  have e1 := tn_swap a b
  have e2 := tn_swap b c
  have e3 := tn_swap c a
  omega
theorem mem_at {ws : List P2} {a : P2} (h : a ∈ ws) : ∃ i, i < ws.length ∧ at_ ws i = a := by
  obtain ⟨i, hi, e⟩ := List.getElem_of_mem h
  refine ⟨i, hi, ?_⟩
  unfold at_
  rw [List.getD_eq_getElem?_getD, List.getElem?_eq_getElem hi, e]; rfl
theorem pulls_parts {ws : List P2} (h : pulls ws = none) : (∀ i, i < ws.length → at_ ws i ≠ (0, 0)) ∧ (∀ i j, i < j → j < ws.length → two (at_ ws i) (at_ ws j) = none) ∧ ∀ i j k, i < j → j < k → k < ws.length → three (at_ ws i) (at_ ws j) (at_ ws k) = none := by
  unfold pulls at h
  split at h
  · cases h
  · rename_i h1
    split at h
    · cases h
    · rename_i h2
      rw [List.findSome?_eq_none_iff] at h1 h2 h
      refine ⟨fun i hi e => ?_, fun i j hij hj => ?_, fun i j k hij hjk hk => ?_⟩
      · have := h1 i (List.mem_range.mpr hi)
        unfold r1 at this
        rw [if_pos e] at this; cases this
      · have := h2 j (List.mem_range.mpr hj)
        rw [List.findSome?_eq_none_iff] at this
        have := this i (List.mem_range.mpr hij)
        unfold r2 at this
        exact Option.map_eq_none_iff.mp this
      · have := h k (List.mem_range.mpr hk)
        rw [List.findSome?_eq_none_iff] at this
        have := this j (List.mem_range.mpr hjk)
        rw [List.findSome?_eq_none_iff] at this
        have := this i (List.mem_range.mpr hij)
        unfold r3 at this
        exact Option.map_eq_none_iff.mp this
theorem pulls_none {ws : List P2} (h : pulls ws = none) : Good ws := by
  obtain ⟨h1, h2, h3⟩ := pulls_parts h
  have k3 : ∀ i j k, i < j → j < k → k < ws.length → ¬ T3 (at_ ws i) (at_ ws j) (at_ ws k) := fun i j k a b c => three_none (h3 i j k a b c)
  refine ⟨fun a ha => ?_, fun a ha b hb => ?_, fun a ha b hb c hc t => ?_⟩
  · obtain ⟨i, hi, rfl⟩ := mem_at ha
    exact h1 i hi
  · obtain ⟨i, hi, rfl⟩ := mem_at ha
    obtain ⟨j, hj, rfl⟩ := mem_at hb
    rcases Nat.lt_trichotomy i j with q | q | q
    · exact two_none (h2 i j q hj)
    · subst q
      intro ⟨_, z⟩
      have := dt_nn (at_ ws i)
      omega
    · intro ⟨z1, z2⟩
      refine two_none (h2 j i q hi) ⟨?_, ?_⟩
      · rw [tn_swap]; omega
      · rw [dt_swap]; exact z2
  · obtain ⟨i, hi, rfl⟩ := mem_at ha
    obtain ⟨j, hj, rfl⟩ := mem_at hb
    obtain ⟨k, hk, rfl⟩ := mem_at hc
    have n1 : i ≠ j := fun e => by subst e; unfold T3 at t; have := tn_self (at_ ws i); omega
    have n2 : j ≠ k := fun e => by subst e; unfold T3 at t; have := tn_self (at_ ws j); omega
    have n3 : i ≠ k := fun e => by subst e; unfold T3 at t; have := tn_self (at_ ws i); omega
    rcases Nat.lt_or_gt_of_ne n1 with a | a <;> rcases Nat.lt_or_gt_of_ne n2 with b | b <;> rcases Nat.lt_or_gt_of_ne n3 with c | c
    · exact k3 i j k a b hk t
    · omega
    · exact k3 i k j c b hj (t3c (t3f t))
    · exact k3 k i j c a hj (t3c (t3c t))
    · exact k3 j i k a c hk (t3f t)
    · exact k3 j k i b c hi (t3c t)
    · omega
    · exact k3 k j i b a hi (t3f (t3c t))
structure PullOk (ws : List P2) (L : Pulls) : Prop where
  nd : (L.map (·.1)).Nodup
  lt : ∀ z ∈ L, z.1 < ws.length
  pos : ∀ z ∈ L, 0 < z.2
  bd : ∀ z ∈ L, z.2 ≤ 2000000000000000000000000000000000000000000000000000000000000
  ne : L ≠ []
  le : L.length ≤ 3
  sx : (L.map fun z => z.2 * (at_ ws z.1).1).sum = 0
  sy : (L.map fun z => z.2 * (at_ ws z.1).2).sum = 0
theorem two_some {a b : P2} (ha : W a) (hb : W b) {z : Int × Int} (h : two a b = some z) : 0 < z.1 ∧ 0 < z.2 ∧ z.1 ≤ 2000000000000000000000000000000000000000000000000000000000000 ∧ z.2 ≤ 2000000000000000000000000000000000000000000000000000000000000 ∧ z.1 * a.1 + z.2 * b.1 = 0 ∧ z.1 * a.2 + z.2 * b.2 = 0 := by
  obtain ⟨⟨a1, a2⟩, a3, a4⟩ := ha
  obtain ⟨⟨b1, b2⟩, b3, b4⟩ := hb
  unfold two at h
  split at h
  · rename_i hc
    obtain ⟨t, d⟩ := hc
    unfold tn at t
    unfold dt at d
    split at h
    · rename_i e
      cases h
      rw [e] at t d
      have d2 : a.2 * b.2 < 0 := by simpa using d
      have na : a.2 ≠ 0 := fun z => by rw [z] at d2; simp at d2
      have nb : b.2 ≠ 0 := fun z => by rw [z] at d2; simp at d2
      have eb : b.1 = 0 := by
        have : a.2 * b.1 = 0 := by omega
        exact (Int.mul_eq_zero.mp this).resolve_left na
      refine ⟨by simp only; omega, by simp only; omega, by simp only; omega, by simp only; omega, by rw [e, eb]; simp, ?_⟩
      rcases Int.lt_or_gt_of_ne na with p | p
      · rcases Int.lt_or_gt_of_ne nb with q | q
        · have := Int.mul_pos_of_neg_of_neg p q; omega
        · simp only [show (b.2.natAbs : Int) = b.2 by omega, show (a.2.natAbs : Int) = -a.2 by omega]; grind
      · rcases Int.lt_or_gt_of_ne nb with q | q
        · simp only [show (b.2.natAbs : Int) = -b.2 by omega, show (a.2.natAbs : Int) = a.2 by omega]; grind
        · have := Int.mul_pos p q; omega
    · rename_i e
      cases h
      have key : a.1 * (a.1 * b.1 + a.2 * b.2) = b.1 * (a.1 * a.1 + a.2 * a.2) := by grind
      have pp : 0 < a.1 * a.1 + a.2 * a.2 := dt_pos (a := a) (fun z => e (by rw [z]))
      have nb : b.1 ≠ 0 := fun z => by
        rw [z] at key
        have : a.1 * (a.1 * 0 + a.2 * b.2) = 0 := by rw [key]; simp
        rw [z] at d
        rcases Int.mul_eq_zero.mp this with w | w
        · exact e w
        · omega
      refine ⟨by simp only; omega, by simp only; omega, by simp only; omega, by simp only; omega, ?_, ?_⟩
      all_goals rcases Int.lt_or_gt_of_ne e with p | p
      all_goals rcases Int.lt_or_gt_of_ne nb with q | q
      · exfalso
        have := Int.mul_pos_of_neg_of_neg p d
        have := Int.mul_neg_of_neg_of_pos q pp
        omega
      · simp only [show (b.1.natAbs : Int) = b.1 by omega, show (a.1.natAbs : Int) = -a.1 by omega]; grind
      · simp only [show (b.1.natAbs : Int) = -b.1 by omega, show (a.1.natAbs : Int) = a.1 by omega]; grind
      · exfalso
        have := Int.mul_neg_of_pos_of_neg p d
        have := Int.mul_pos q pp
        omega
      · exfalso
        have := Int.mul_pos_of_neg_of_neg p d
        have := Int.mul_neg_of_neg_of_pos q pp
        omega
      · simp only [show (b.1.natAbs : Int) = b.1 by omega, show (a.1.natAbs : Int) = -a.1 by omega]; grind
      · simp only [show (b.1.natAbs : Int) = -b.1 by omega, show (a.1.natAbs : Int) = a.1 by omega]; grind
      · exfalso
        have := Int.mul_neg_of_pos_of_neg p d
        have := Int.mul_pos q pp
        omega
  · cases h
theorem three_some {a b c : P2} (ha : W a) (hb : W b) (hc : W c) {z : Int × Int × Int} (h : three a b c = some z) : (0 < z.1 ∧ 0 < z.2.1 ∧ 0 < z.2.2) ∧ (z.1 ≤ 2000000000000000000000000000000000000000000000000000000000000 ∧ z.2.1 ≤ 2000000000000000000000000000000000000000000000000000000000000 ∧ z.2.2 ≤ 2000000000000000000000000000000000000000000000000000000000000) ∧ z.1 * a.1 + z.2.1 * b.1 + z.2.2 * c.1 = 0 ∧ z.1 * a.2 + z.2.1 * b.2 + z.2.2 * c.2 = 0 := by
  have t1 := tn_bd hb hc
  have t2 := tn_bd hc ha
  have t3 := tn_bd ha hb
  have i1 : tn b c * a.1 + tn c a * b.1 + tn a b * c.1 = 0 := by unfold tn; grind
  have i2 : tn b c * a.2 + tn c a * b.2 + tn a b * c.2 = 0 := by unfold tn; grind
  unfold three at h
  split at h
  · cases h
    exact ⟨⟨by simp only; omega, by simp only; omega, by simp only; omega⟩, ⟨by simp only; omega, by simp only; omega, by simp only; omega⟩, i1, i2⟩
  · split at h
    · cases h
      refine ⟨⟨by simp only; omega, by simp only; omega, by simp only; omega⟩, ⟨by simp only; omega, by simp only; omega, by simp only; omega⟩, ?_, ?_⟩
      · simp only [Int.neg_mul]; omega
      · simp only [Int.neg_mul]; omega
    · cases h
theorem pulls_some {ws : List P2} (hw : ∀ v ∈ ws, W v) {L : Pulls} (h : pulls ws = some L) : PullOk ws L := by
  unfold pulls at h
  split at h
  · rename_i h1
    cases h
    obtain ⟨i, hi, e⟩ := List.exists_of_findSome?_eq_some h1
    have hi := List.mem_range.mp hi
    unfold r1 at e
    split at e
    · rename_i z
      cases e
      exact ⟨by simp, by simpa using hi, by simp, by simp, by simp, by simp, by simp [z], by simp [z]⟩
    · cases e
  · split at h
    · rename_i h2
      cases h
      obtain ⟨j, hj, e⟩ := List.exists_of_findSome?_eq_some h2
      have hj := List.mem_range.mp hj
      obtain ⟨i, hi, e⟩ := List.exists_of_findSome?_eq_some e
      have hi := List.mem_range.mp hi
      unfold r2 at e
      obtain ⟨z, e1, e2⟩ := Option.map_eq_some_iff.mp e
      subst e2
      obtain ⟨q1, q2, q3, q4, q5, q6⟩ := two_some (hw _ (at_mem (by omega))) (hw _ (at_mem hj)) e1
      refine ⟨by simp; omega, by simp; omega, by simp; omega, by simp; omega, by simp, by simp, by simp; omega, by simp; omega⟩
    · obtain ⟨k, hk, e⟩ := List.exists_of_findSome?_eq_some h
      have hk := List.mem_range.mp hk
      obtain ⟨j, hj, e⟩ := List.exists_of_findSome?_eq_some e
      have hj := List.mem_range.mp hj
      obtain ⟨i, hi, e⟩ := List.exists_of_findSome?_eq_some e
      have hi := List.mem_range.mp hi
      unfold r3 at e
      obtain ⟨z, e1, e2⟩ := Option.map_eq_some_iff.mp e
      subst e2
      obtain ⟨q1, q2, q3, q4⟩ := three_some (hw _ (at_mem (by omega))) (hw _ (at_mem (by omega))) (hw _ (at_mem hk)) e1
      refine ⟨by simp; omega, by simp; omega, by simp; omega, by simp; omega, by simp, by simp, by simp; omega, by simp; omega⟩
/-! weights -/
def fr (z : Int × Int) : D := .tup [.int z.1, .int z.2]
theorem fr_mk (a b : Int) : fr (a, b) = .tup [.int a, .int b] := id rfl
theorem common_eq (G : Gs) (t b : Int) : φ_common_part G [.int t, .int b] = .ret (.sh (.int (Int.gcd t b))) := by
  unfold φ_common_part s_common_part
  obtain ⟨g, hg, e⟩ := euclid (t := w_common_part_1 G) (s := b_common_part_2 G) (is := []) (fun x y => [some (.sh (.int x)), some (.sh (.int y))]) (by intros; simp [w_common_part_1]) (by intro a b h; simp [b_common_part_2, modD_nz h]) t b _ rfl
  simp (disch := omega) [e, hg]
theorem gcd_bd {n : Nat} (t b : Int) (h : 0 < b) (hb : Bd n b) : Bd n (Int.gcd t b) := by
  have h1 := Int.gcd_le_natAbs_right t (show b ≠ 0 by omega)
  unfold Bd at *
  omega
theorem ratio_eq (G : Gs) (t b : Int) (h : 0 < b) {n : Nat} (hb : Bd n b) (hn : n < 9000) : φ_ratio G [.int t, .int b] = .ret (.sh (fr (red t b))) := by
  unfold φ_ratio s_ratio red fr
  have h1 : ¬ b = 0 := by omega
  have h2 : ¬ b < 0 := by omega
  simp (disch := omega) [common_eq, h1, h2, fdivD_bd (gcdp (q := t) h) (gcd_bd t b h hb) hn]
theorem e_pull (G : Gs) (L : Pulls) (many : D) (vP0 : D) : comp (kSeq 2 (kCons (kName 4) (kCons (kName 5) kNil))) sYes (e_weights_by_1 G) [4, 5] (L.map fun z => .tup [.int z.1, .int z.2]) [] [some (.sh many), some (.sh vP0), none, none, none, none] = .ok (.lst ((L.map fun z => D.int z.2).map .sh)) [some (.sh many), some (.sh vP0), none, none, none, none] := by
  rw [comp_mapA (φ := fun z : Nat × Int => D.tup [.int z.1, .int z.2]) (F := fun z => D.int z.2)]
  · simp
  · intro z hz
    simp [e_weights_by_1]
theorem weights_go (G : Gs) (T : Int) (hT : 0 < T) {n : Nat} (hb : Bd n T) (hn : n < 9000) (many vP0 : D) : ∀ (L : Pulls) (Q : List Int), (∀ z ∈ L, z.1 < Q.length) →
    ∃ ρ', loop (kSeq 2 (kCons (kName 4) (kCons (kName 5) kNil))) (b_weights_by_2 G) [4, 5] (L.map fun z => .tup [.int z.1, .int z.2]) [some (.sh many), some (.sh vP0), some (.sh (.int T)), some (.lst (Q.map fun q => .sh (fr (red q T)))), none, none] = .nx ρ' ∧
      ρ' = [some (.sh many), some (.sh vP0), some (.sh (.int T)), some (.lst ((qs L Q).map fun q => .sh (fr (red q T)))), none, none]
  | [], Q, h => ⟨_, rfl, rfl⟩
  | z :: L, Q, h => by
    obtain ⟨ρ', e1, e2⟩ := weights_go G T hT hb hn many vP0 L (Q.set z.1 z.2) fun y hy => by rw [List.length_set]; exact h y (List.mem_cons_of_mem _ hy)
    refine ⟨ρ', ?_, e2⟩
    rw [← e1, List.map_cons, loop_cons]
    have hz := h z List.mem_cons_self
    have r := ratio_eq G z.2 T hT hb hn
    simp (disch := first | omega | (simp only [List.length_map]; omega)) [b_weights_by_2, r, List.map_set]
theorem sumL_le {B : Int} : ∀ (L : Pulls), (∀ z ∈ L, z.2 ≤ B) → (L.map (·.2)).sum ≤ L.length * B
  | [], _ => by simp
  | z :: L, h => by
    have h1 := sumL_le L fun y hy => h y (List.mem_cons_of_mem _ hy)
    have h2 := h z List.mem_cons_self
    rw [List.map_cons, List.sum_cons, List.length_cons, Int.natCast_add, Int.add_mul]
    simp only [Int.natCast_one, Int.one_mul]
    omega
theorem sumL_pos : ∀ (L : Pulls), (∀ z ∈ L, 0 < z.2) → L ≠ [] → 0 < (L.map (·.2)).sum
  | [], _, h => absurd rfl h
  | [z], h, _ => by simpa using h z List.mem_cons_self
  | z :: y :: L, h, _ => by
    have h1 := sumL_pos (y :: L) (fun x hx => h x (List.mem_cons_of_mem _ hx)) (by simp)
    have h2 := h z List.mem_cons_self
    rw [List.map_cons, List.sum_cons]
    omega
theorem T_bd {ws : List P2} {L : Pulls} (k : PullOk ws L) : 0 < (L.map (·.2)).sum ∧ (L.map (·.2)).sum ≤ 6000000000000000000000000000000000000000000000000000000000000 := by
  refine ⟨sumL_pos L k.pos k.ne, ?_⟩
  have h := sumL_le L k.bd
  have := k.le
  omega
theorem bdT {T : Int} (h : 0 < T) (h2 : T ≤ 6000000000000000000000000000000000000000000000000000000000000) : Bd 210 T := by
  unfold Bd
  have : (6000000000000000000000000000000000000000000000000000000000000 : Nat) < 2 ^ 210 := by decide +kernel
  omega
theorem weights_eq (G : Gs) (ws : List P2) (L : Pulls) (k : PullOk ws L) (hl : ws.length ≤ 1000) : φ_weights_by G [.int ws.length, vP L] = .ret (.sh (.lst ((qs L (List.replicate ws.length 0)).map fun q => fr (red q (L.map (·.2)).sum)))) := by
  obtain ⟨t1, t2⟩ := T_bd k
  have ep := e_pull G L (.int ws.length) (vP L)
  have es := sumL_map (l := L.map (·.2))
  rw [List.map_map] at es
  have h0 : List.replicate ws.length (Val.sh (.tup [.int 0, .int 1])) = (List.replicate ws.length (0 : Int)).map (fun q => Val.sh (fr (red q (L.map (·.2)).sum))) := by
    rw [List.map_replicate, red_zero t1]; rfl
  obtain ⟨ρ', e1, e2⟩ := weights_go G (L.map (·.2)).sum t1 (bdT t1 t2) (by decide) (.int ws.length) (vP L) L (List.replicate ws.length 0) (by rw [List.length_replicate]; exact k.lt)
  subst e2
  rw [← h0] at e1
  have hL : (L.map fun z : Nat × Int => D.tup [.int z.1, .int z.2]).length ≤ 10000000 := by rw [List.length_map]; have := k.le; omega
  have hv : itemsD (vP L) = some (L.map fun z : Nat × Int => D.tup [.int z.1, .int z.2]) := rfl
  have es2 : sumD (.lst (L.map fun z => D.int z.2)) = some (.sh (.int (L.map (·.2)).sum)) := es
  have hmul : mulD (.lst [.tup [.int 0, .int 1]]) (.int (ws.length : Int)) = some (.lst (List.replicate ws.length (Val.sh (.tup [.int 0, .int 1])))) := by
    rw [mulD_rep (by simp only [List.length_cons, List.length_nil, Int.toNat_natCast]; omega)]
    simp
  have hf : ∀ Q : List Int, fzs (Q.map fun q => Val.sh (fr (red q (L.map (·.2)).sum))) = Q.map fun q => fr (red q (L.map (·.2)).sum) := fun Q => fzs_mi
  unfold φ_weights_by s_weights_by
  have hL2 : L.length ≤ 10000000 := by have := k.le; omega
  simp (disch := omega) [hv, ep, hL2, es2, hmul, e1, hf]
theorem e_ways (G : Gs) (P : List P2) (pt : P2) (hP : ∀ p ∈ P, W p) (hp : W pt) : comp (kName 4) sYes (e_held_1 G) [4] (P.map pD) [] [some (.sh (.lst (P.map pD))), some (.sh (pD pt)), none, none, none, none] = .ok (.lst ((P.map fun p => pD (p.1 - pt.1, p.2 - pt.2)).map .sh)) [some (.sh (.lst (P.map pD))), some (.sh (pD pt)), none, none, none, none] := by
  have e : ∀ p : P2, pD p = .tup [.int p.1, .int p.2] := fun _ => rfl
  rw [comp_mapA (φ := pD) (F := fun p => pD (p.1 - pt.1, p.2 - pt.2))]
  · simp
  · intro p h
    simp [e_held_1, e]
theorem e_left (G : Gs) (ws : List P2) (r : P2) (hw : ∀ w ∈ ws, W w) (hr : W r) (a b : D) : comp (kName 5) sYes (e_held_2 G) [5] (ws.map pD) [] [some (.sh a), some (.sh b), some (.sh (.lst (ws.map pD))), some (.sh (pD r)), none, none] = .ok (.lst ((ws.map fun w => D.bl (decide (left r w))).map .sh)) [some (.sh a), some (.sh b), some (.sh (.lst (ws.map pD))), some (.sh (pD r)), none, none] := by
  rw [comp_mapA (φ := pD) (F := fun w => .bl (decide (left r w)))]
  · simp
  · intro w h
    have t := is_left_eq G r w hr (hw w h)
    simp [e_held_2, t]
theorem e_line (G : Gs) (P : List P2) (x y : Int) (hP : ∀ p ∈ P, W p) (hl : -2000000000000000000000000000000 ≤ x ∧ x ≤ 2000000000000000000000000000000 ∧ -2000000000000000000000000000000 ≤ y ∧ y ≤ 2000000000000000000000000000000) (a b c : D) : comp (kName 7) sYes (e_line_by_1 G) [7] (P.map pD) [] [some (.sh a), some (.sh b), some (.sh c), some (.sh (.int x)), some (.sh (.int y)), some (.sh (.int (-x))), some (.sh (.int (-y))), none] = .ok (.lst ((P.map fun p => D.int (-x * p.1 + -y * p.2)).map .sh)) [some (.sh a), some (.sh b), some (.sh c), some (.sh (.int x)), some (.sh (.int y)), some (.sh (.int (-x))), some (.sh (.int (-y))), none] := by
  have e : ∀ p : P2, pD p = .tup [.int p.1, .int p.2] := fun _ => rfl
  obtain ⟨l1, l2, l3, l4⟩ := hl
  rw [comp_mapA (φ := pD) (F := fun p => .int (-x * p.1 + -y * p.2))]
  · simp
  · intro p h
    obtain ⟨⟨a1, a2⟩, a3, a4⟩ := hP p h
    simp (disch := omega) [e_line_by_1, e]
def lx (r l : P2) : Int := if tn r l = 0 then r.1 else l.2 - r.2
def ly (r l : P2) : Int := if tn r l = 0 then r.2 else r.1 - l.1
def lineN (P : List P2) (x y : Int) : Int := maxI (P.map fun p => -x * p.1 + -y * p.2)
theorem line_eq (G : Gs) (P : List P2) (r l : P2) (hP : ∀ p ∈ P, W p) (h0 : P ≠ []) (hl : P.length ≤ 1000) (hr : W r) (hw : W l) : φ_line_by G [.lst (P.map pD), pD r, pD l] = .ret (.sh (.tup [.int (-lx r l), .int (-ly r l), .int (lineN P (lx r l) (ly r l))])) := by
  have t := turn_of_eq G r l hr hw
  obtain ⟨⟨a1, a2⟩, a3, a4⟩ := hr
  obtain ⟨⟨b1, b2⟩, b3, b4⟩ := hw
  have hb : (-2000000000000000000000000000000 ≤ lx r l ∧ lx r l ≤ 2000000000000000000000000000000 ∧ -2000000000000000000000000000000 ≤ ly r l ∧ ly r l ≤ 2000000000000000000000000000000) := by
    unfold lx ly
    split <;> omega
  have el := e_line G P (lx r l) (ly r l) hP hb (.lst (P.map pD)) (pD r) (pD l)
  have em : orC (g1 maxD) (g1 maxTD) [.lst (P.map fun p => D.int (-lx r l * p.1 + -ly r l * p.2))] = some (.sh (.int (lineN P (lx r l) (ly r l)))) := by
    have := maxL_map (h := g1 maxTD) (l := P.map fun p => -lx r l * p.1 + -ly r l * p.2) (by rw [List.length_map]; exact List.length_pos_iff.mpr h0)
    rw [List.map_map] at this
    exact this
  have hL : P.length ≤ 10000000 := by omega
  have er : pD r = .tup [.int r.1, .int r.2] := rfl
  have ew : pD l = .tup [.int l.1, .int l.2] := rfl
  unfold φ_line_by s_line_by
  by_cases h : tn r l = 0
  · have e1 : lx r l = r.1 := if_pos h
    have e2 : ly r l = r.2 := if_pos h
    rw [e1, e2] at el em ⊢
    rw [er, ew] at t el ⊢
    simp (disch := omega) [t, h, el, em, hL]
  · have e1 : lx r l = l.2 - r.2 := if_neg h
    have e2 : ly r l = r.1 - l.1 := if_neg h
    rw [e1, e2] at el em ⊢
    rw [er, ew] at t el ⊢
    simp (disch := omega) [t, h, el, em, hL]
/-! held -/
def ways (P : List P2) (pt : P2) : List P2 := P.map fun p => (p.1 - pt.1, p.2 - pt.2)
def Wn (p : P2) : Prop := (-100000000000000000000000000000 ≤ p.1 ∧ p.1 ≤ 100000000000000000000000000000) ∧ -100000000000000000000000000000 ≤ p.2 ∧ p.2 ≤ 100000000000000000000000000000
theorem Wn.w {p : P2} (h : Wn p) : W p := by unfold Wn at h; unfold W; omega
theorem ways_W {P : List P2} {pt : P2} (hP : ∀ p ∈ P, Wn p) (hp : Wn pt) : ∀ w ∈ ways P pt, W w := by
  intro w hw
  obtain ⟨p, h, rfl⟩ := List.mem_map.mp hw
  have := hP p h
  unfold Wn at this hp
  unfold W
  simp only
  omega
def InW (P : List P2) (pt : P2) (Q : List Int) (T : Int) : Prop := Q.length = P.length ∧ (∀ q ∈ Q, 0 ≤ q) ∧ Q.sum = T ∧ 0 < T ∧ T ≤ 6000000000000000000000000000000000000000000000000000000000000 ∧ wsum Q (P.map (·.1)) = T * pt.1 ∧ wsum Q (P.map (·.2)) = T * pt.2
def OutW (P : List P2) (pt : P2) (l m n : Int) : Prop := (∀ p ∈ P, l * p.1 + m * p.2 ≤ n) ∧ n < l * pt.1 + m * pt.2 ∧ l.natAbs ≤ 2000000000000000000000000000000 ∧ m.natAbs ≤ 2000000000000000000000000000000
theorem held_eq (G : Gs) (P : List P2) (pt : P2) (hP : ∀ p ∈ P, Wn p) (hp : Wn pt) (h0 : P ≠ []) (hl : P.length ≤ 1000) :
    (∃ Q T, InW P pt Q T ∧ φ_held G [.lst (P.map pD), pD pt] = .ret (.sh (.tup [.str "in", .lst (Q.map fun q => fr (red q T))]))) ∨
    (∃ l m n, OutW P pt l m n ∧ φ_held G [.lst (P.map pD), pD pt] = .ret (.sh (.tup [.str "out", .tup [.int l, .int m, .int n]]))) := by
  have hW : ∀ p ∈ P, W p := fun p h => (hP p h).w
  have hw := ways_W hP hp
  have hlen : (ways P pt).length = P.length := by unfold ways; rw [List.length_map]
  have ew := e_ways G P pt hW hp.w
  have ew2 : (P.map fun p => pD (p.1 - pt.1, p.2 - pt.2)) = (ways P pt).map pD := by unfold ways; rw [List.map_map]; rfl
  rw [ew2] at ew
  obtain ⟨w, ws, e⟩ : ∃ w ws, ways P pt = w :: ws := by
    cases h : ways P pt with
    | nil => exact absurd (List.map_eq_nil_iff.mp h) h0
    | cons w ws => exact ⟨w, ws, rfl⟩
  have o1 := outermost_eq G 1 (.inl rfl) w ws (by rw [← e]; exact hw)
  have o2 := outermost_eq G (-1) (.inr rfl) w ws (by rw [← e]; exact hw)
  have hr : outer 1 w (w :: ws) ∈ ways P pt := by
    rw [e]
    rcases outer_mem 1 (w :: ws) w with z | z
    · rw [z]; exact List.mem_cons_self
    · exact z
  have hm : outer (-1) w (w :: ws) ∈ ways P pt := by
    rw [e]
    rcases outer_mem (-1) (w :: ws) w with z | z
    · rw [z]; exact List.mem_cons_self
    · exact z
  obtain ⟨r, er⟩ : ∃ r, r = outer 1 w (w :: ws) := ⟨_, rfl⟩
  obtain ⟨l, ed⟩ : ∃ l, l = outer (-1) w (w :: ws) := ⟨_, rfl⟩
  rw [← er] at o1 hr
  rw [← ed] at o2 hm
  rw [← e] at o1 o2
  have el := e_left G (ways P pt) r hw (hw _ hr) (.lst (P.map pD)) (pD pt)
  have eall : allD (.lst ((ways P pt).map fun w' => D.bl (decide (left r w')))) = some (.sh (.bl ((ways P pt).all fun w' => decide (left r w')))) := by
    have := allL_map (l := (ways P pt).map fun w' => decide (left r w'))
    rw [List.map_map, List.all_map] at this
    exact this
  have hP7 : P.length ≤ 10000000 := by omega
  have hw7 : (ways P pt).length ≤ 10000000 := by omega
  obtain ⟨A, hA⟩ : ∃ A, ((ways P pt).all fun w' => decide (left r w')) = A := ⟨_, rfl⟩
  rw [hA] at eall
  cases A with
  | true =>
    have hR : ∀ v ∈ ways P pt, left r v := fun v hv => of_decide_eq_true (List.all_eq_true.mp hA v hv)
    refine .inr ⟨-lx r l, -ly r l, lineN P (lx r l) (ly r l), ?_, ?_⟩
    · have hrz : r ≠ (0, 0) := fun z => by
        have := hR r hr
        subst z
        unfold left tn dt at this
        simp at this
      have g := good_of_left hrz hR
      have wr := hw r hr
      have wl := hw l hm
      unfold W at wr wl
      have hN : ∀ p ∈ P, -lx r l * p.1 + -ly r l * p.2 ≤ lineN P (lx r l) (ly r l) := fun p h => maxI_ge (List.mem_map.mpr ⟨p, h, rfl⟩)
      refine ⟨hN, ?_, by unfold lx; split <;> omega, by unfold ly; split <;> omega⟩
      obtain ⟨p, hpm, hpe⟩ := List.mem_map.mp (maxI_mem (l := P.map fun p => -lx r l * p.1 + -ly r l * p.2) (fun z => h0 (List.map_eq_nil_iff.mp z)))
      have hpe : lineN P (lx r l) (ly r l) = -lx r l * p.1 + -ly r l * p.2 := hpe.symm
      rw [hpe]
      have hv : (p.1 - pt.1, p.2 - pt.2) ∈ ways P pt := List.mem_map.mpr ⟨p, hpm, rfl⟩
      rw [e] at hR g hr hv
      obtain ⟨q1, q2⟩ := line_pos g hr hR ed _ hv
      have key : 0 < lx r l * (p.1 - pt.1) + ly r l * (p.2 - pt.2) := by
        unfold lx ly
        by_cases z : tn r l = 0
        · rw [if_pos z, if_pos z]; exact q1 z
        · rw [if_neg z, if_neg z]; exact q2 z
      grind
    · have eln := line_eq G P r l hW h0 hl (hw _ hr) (hw _ hm)
      unfold φ_held s_held
      simp (disch := omega) [ew, o1, o2, el, eall, eln, hP7, hw7]
  | false =>
    obtain ⟨L, hL⟩ : ∃ L, pulls (ways P pt) = some L := by
      cases h : pulls (ways P pt) with
      | some L => exact ⟨L, rfl⟩
      | none =>
        exfalso
        have g := pulls_none h
        rw [e] at g hA
        have := outer_left g
        rw [← er] at this
        have t := List.all_eq_true.mpr fun v hv => decide_eq_true (this v hv)
        rw [hA] at t
        cases t
    have k := pulls_some hw hL
    have ep := pulls_eq G (ways P pt) hw (by omega)
    rw [hL] at ep
    have ewt := weights_eq G (ways P pt) L k (by omega)
    obtain ⟨t1, t2⟩ := T_bd k
    rw [hlen] at ewt
    refine .inl ⟨qs L (List.replicate P.length 0), (L.map (·.2)).sum, ?_, ?_⟩
    · have hz : ∀ z ∈ L, (List.replicate P.length (0 : Int)).getD z.1 0 = 0 := fun z hz => by
        rw [List.getD_eq_getElem?_getD, List.getElem?_replicate]; split <;> rfl
      have hlt : ∀ z ∈ L, z.1 < (List.replicate P.length (0 : Int)).length := fun z hz => by rw [List.length_replicate, ← hlen]; exact k.lt z hz
      have s1 := wsum_qs L (List.replicate P.length 0) (List.replicate P.length 1) k.nd hlt (by simp) hz
      rw [wsum_zero] at s1
      have l1 : (qs L (List.replicate P.length 0)).length = P.length := by rw [qs_len, List.length_replicate]
      have s2 := wsum_ones (qs L (List.replicate P.length 0))
      rw [l1, s1] at s2
      have s3 : (L.map fun z => z.2 * (List.replicate P.length (1 : Int)).getD z.1 0) = L.map (·.2) := List.map_congr_left fun z hz => by
        have := hlt z hz
        rw [List.length_replicate] at this
        rw [List.getD_eq_getElem?_getD, List.getElem?_replicate, if_pos this]; simp
      rw [s3] at s2
      have sT : (qs L (List.replicate P.length 0)).sum = (L.map (·.2)).sum := by omega
      have gen : ∀ f : P2 → Int, ∀ c : Int, (∀ z ∈ L, f (P.getD z.1 (0, 0)) = f (P.getD z.1 (0, 0))) → (L.map fun z => z.2 * (f (P.getD z.1 (0, 0)) - c)).sum = 0 → wsum (qs L (List.replicate P.length 0)) (P.map f) = (L.map (·.2)).sum * c := by
        intro f c _ h
        have w1 := wsum_qs L (List.replicate P.length 0) (P.map f) k.nd hlt (by simp) hz
        rw [wsum_zero] at w1
        rw [w1]
        have : ∀ M : Pulls, (∀ z ∈ M, z.1 < P.length) → (M.map fun z => z.2 * (P.map f).getD z.1 0).sum = (M.map fun z => z.2 * (f (P.getD z.1 (0, 0)) - c)).sum + (M.map (·.2)).sum * c := by
          intro M
          induction M with
          | nil => intro _; simp
          | cons z M ih =>
            intro hM
            have hz1 := hM z List.mem_cons_self
            have eg : (P.map f).getD z.1 0 = f (P.getD z.1 (0, 0)) := by
              rw [List.getD_eq_getElem?_getD, List.getD_eq_getElem?_getD, List.getElem?_map, List.getElem?_eq_getElem hz1]; rfl
            simp only [List.map_cons, List.sum_cons]
            rw [ih fun y hy => hM y (List.mem_cons_of_mem _ hy), eg]
            grind
        rw [this L (fun z hz => by have := hlt z hz; rwa [List.length_replicate] at this), h]
        omega
      have atw : ∀ z ∈ L, at_ (ways P pt) z.1 = ((P.getD z.1 (0, 0)).1 - pt.1, (P.getD z.1 (0, 0)).2 - pt.2) := fun z hz => by
        have := hlt z hz
        rw [List.length_replicate] at this
        unfold at_ ways
        rw [List.getD_eq_getElem?_getD, List.getD_eq_getElem?_getD, List.getElem?_map, List.getElem?_eq_getElem this]; rfl
      refine ⟨l1, qs_nn L _ (fun z hz => Int.le_of_lt (k.pos z hz)) (fun q hq => by rw [(List.mem_replicate.mp hq).2]; exact Int.le_refl 0), sT, t1, t2, gen (·.1) pt.1 (fun _ _ => rfl) ?_, gen (·.2) pt.2 (fun _ _ => rfl) ?_⟩
      · have e3 : (L.map fun z => z.2 * (at_ (ways P pt) z.1).1) = L.map fun z => z.2 * ((P.getD z.1 (0, 0)).1 - pt.1) := List.map_congr_left fun z hz => by rw [atw z hz]
        have := k.sx
        rw [e3] at this
        exact this
      · have e3 : (L.map fun z => z.2 * (at_ (ways P pt) z.1).2) = L.map fun z => z.2 * ((P.getD z.1 (0, 0)).2 - pt.2) := List.map_congr_left fun z hz => by rw [atw z hz]
        have := k.sy
        rw [e3] at this
        exact this
    · unfold φ_held s_held
      simp (disch := omega) [ew, o1, el, eall, ep, optV, ewt, hP7, hw7]
end My

namespace My
open PySem PySem.Spec L2 DL HU
/-! things: their classes, corners, casts; the shading of a stone -/
abbrev P3 := Int × Int × Int
def p3D (p : P3) : D := .tup [.int p.1, .int p.2.1, .int p.2.2]
theorem p3D_mk (a b c : Int) : p3D (a, b, c) = .tup [.int a, .int b, .int c] := id rfl
def castP (r p : P3) : P2 := (r.2.2 * p.1 + r.1 * p.2.2, r.2.2 * p.2.1 + r.2.1 * p.2.2)
def RayOk (r : P3) : Prop := (-1000000 ≤ r.1 ∧ r.1 ≤ 1000000) ∧ (-1000000 ≤ r.2.1 ∧ r.2.1 ≤ 1000000) ∧ 1 ≤ r.2.2 ∧ r.2.2 ≤ 1000000
def C3 (p : P3) : Prop := (-3000000000 ≤ p.1 ∧ p.1 ≤ 3000000000) ∧ (-3000000000 ≤ p.2.1 ∧ p.2.1 ≤ 3000000000) ∧ -3000000000 ≤ p.2.2 ∧ p.2.2 ≤ 3000000000
theorem mul_le {a b : Int} {m n : Nat} (h : a.natAbs ≤ m) (k : b.natAbs ≤ n) : (a * b).natAbs ≤ m * n := by
  rw [Int.natAbs_mul]
  exact Nat.mul_le_mul h k
theorem castP_wn {r p : P3} (hr : RayOk r) (hp : C3 p) : Wn (castP r p) := by
  obtain ⟨⟨r1, r2⟩, ⟨r3, r4⟩, r5, r6⟩ := hr
  obtain ⟨⟨p1, p2⟩, ⟨p3, p4⟩, p5, p6⟩ := hp
  have a1 := mul_le (a := r.2.2) (b := p.1) (m := 1000000) (n := 3000000000) (by omega) (by omega)
  have a2 := mul_le (a := r.1) (b := p.2.2) (m := 1000000) (n := 3000000000) (by omega) (by omega)
  have a3 := mul_le (a := r.2.2) (b := p.2.1) (m := 1000000) (n := 3000000000) (by omega) (by omega)
  have a4 := mul_le (a := r.2.1) (b := p.2.2) (m := 1000000) (n := 3000000000) (by omega) (by omega)
  unfold Wn castP
  simp only
  omega
theorem cast_eq (G : Gs) (p r : P3) (hr : RayOk r) : φ_cast G [p3D p, p3D r] = .ret (.sh (pD (castP r p))) := by
  obtain ⟨x, y, z⟩ := p
  obtain ⟨a, b, c⟩ := r
  obtain ⟨⟨r1, r2⟩, ⟨r3, r4⟩, r5, r6⟩ := hr
  simp only at r1 r2 r3 r4 r5 r6
  unfold φ_cast s_cast castP
  simp (disch := omega) [p3D_mk, pD_mk]
theorem stone_cast_eq (G : Gs) (s : P2) (r : P3) (hr : RayOk r) : φ_stone_cast G [pD s, p3D r] = .ret (.sh (pD (castP r (2 * s.1, 2 * s.2, 0)))) := by
  have e := cast_eq G (2 * s.1, 2 * s.2, 0) r hr
  rw [p3D_mk] at e
  have es : pD s = .tup [.int s.1, .int s.2] := rfl
  unfold φ_stone_cast s_stone_cast
  rw [es]
  simp (disch := omega) [e]
def levC (x y u v z : Int) : List P3 := [(x, y, z), (u, y, z), (u, v, z), (x, v, z)]
def boxC (x y u v h : Int) : List P3 := levC x y u v 0 ++ levC x y u v h
def thD (C : Addr) (l : List Int) : D := .ins C ["numbers"] [.tup (l.map .int)]
def ThIs (G : Gs) (d : D) (cs : List P3) : Prop := ∃ φ, methD (tab_corners G) "corners" d = some φ ∧ φ [d] = .ret (.sh (.lst (cs.map p3D)))
def Pl (x : Int) : Prop := -1000000000 ≤ x ∧ x ≤ 1000000000
def Hi (x : Int) : Prop := 1 ≤ x ∧ x ≤ 1000000000
def Hi0 (x : Int) : Prop := 0 ≤ x ∧ x ≤ 1000000000
/-- words and numbers that are a thing's, and its corners -/
inductive TW : Str → List Int → List P3 → Prop
  | post {p q h : Int} (h1 : Pl p) (h2 : Pl q) (h3 : Hi h) : TW "post" [p, q, h] (boxC (2 * p - 1) (2 * q - 1) (2 * p + 1) (2 * q + 1) h)
  | fence {x y u v h : Int} (h1 : Pl x) (h2 : Pl y) (h3 : Pl u) (h4 : Pl v) (h5 : Hi h) (ne : x = u → y ≠ v) : TW "fence" [x, y, u, v, h] [(x, y, 0), (u, v, 0), (u, v, h), (x, y, h)]
  | sail {x y u v h : Int} (h1 : Pl x) (h2 : Pl y) (h3 : Pl u) (h4 : Pl v) (h5 : Hi h) (k1 : x < u) (k2 : y < v) : TW "sail" [x, y, u, v, h] (levC x y u v h)
  | house {x y u v h : Int} (h1 : Pl x) (h2 : Pl y) (h3 : Pl u) (h4 : Pl v) (h5 : Hi h) (k1 : x < u) (k2 : y < v) : TW "house" [x, y, u, v, h] (boxC x y u v h)
  | cloth {a b c d e f g h i : Int} (h1 : Pl a) (h2 : Pl b) (h3 : Hi0 c) (h4 : Pl d) (h5 : Pl e) (h6 : Hi0 f) (h7 : Pl g) (h8 : Pl h) (h9 : Hi0 i) : TW "cloth" [a, b, c, d, e, f, g, h, i] [(a, b, c), (d, e, f), (g, h, i)]
theorem levC_mem {x y u v z : Int} {p : P3} (h : p ∈ levC x y u v z) : (p.1 = x ∨ p.1 = u) ∧ (p.2.1 = y ∨ p.2.1 = v) ∧ p.2.2 = z := by
  unfold levC at h
  simp only [List.mem_cons, List.not_mem_nil, or_false] at h
  rcases h with rfl | rfl | rfl | rfl <;> simp
theorem TW.bd {w : Str} {l : List Int} {cs : List P3} (h : TW w l cs) : (∀ p ∈ cs, C3 p) ∧ cs ≠ [] ∧ cs.length ≤ 8 := by
  have hb : ∀ {x y u v h : Int}, (-3000000000 ≤ x ∧ x ≤ 3000000000) → (-3000000000 ≤ y ∧ y ≤ 3000000000) → (-3000000000 ≤ u ∧ u ≤ 3000000000) → (-3000000000 ≤ v ∧ v ≤ 3000000000) → (-3000000000 ≤ h ∧ h ≤ 3000000000) → ∀ p ∈ levC x y u v h, C3 p := by
    intro x y u v h h1 h2 h3 h4 h5 p hp
    obtain ⟨e1, e2, e3⟩ := levC_mem hp
    unfold C3
    omega
  cases h with
  | post h1 h2 h3 =>
    unfold Pl at h1 h2; unfold Hi at h3
    refine ⟨fun p hp => ?_, by simp [boxC, levC], by simp [boxC, levC]⟩
    rcases List.mem_append.mp hp with hp | hp <;> exact hb (by omega) (by omega) (by omega) (by omega) (by omega) p hp
  | fence h1 h2 h3 h4 h5 ne =>
    unfold Pl at h1 h2 h3 h4; unfold Hi at h5
    refine ⟨fun p hp => ?_, by simp, by simp⟩
    simp only [List.mem_cons, List.not_mem_nil, or_false] at hp
    rcases hp with rfl | rfl | rfl | rfl <;> (unfold C3; simp only; omega)
  | sail h1 h2 h3 h4 h5 k1 k2 =>
    unfold Pl at h1 h2 h3 h4; unfold Hi at h5
    exact ⟨fun p hp => hb (by omega) (by omega) (by omega) (by omega) (by omega) p hp, by simp [levC], by simp [levC]⟩
  | house h1 h2 h3 h4 h5 k1 k2 =>
    unfold Pl at h1 h2 h3 h4; unfold Hi at h5
    refine ⟨fun p hp => ?_, by simp [boxC, levC], by simp [boxC, levC]⟩
    rcases List.mem_append.mp hp with hp | hp <;> exact hb (by omega) (by omega) (by omega) (by omega) (by omega) p hp
  | cloth h1 h2 h3 h4 h5 h6 h7 h8 h9 =>
    unfold Pl at h1 h2 h4 h5 h7 h8; unfold Hi0 at h3 h6 h9
    refine ⟨fun p hp => ?_, by simp, by simp⟩
    simp only [List.mem_cons, List.not_mem_nil, or_false] at hp
    rcases hp with rfl | rfl | rfl <;> (unfold C3; simp only; omega)
/-! the defs of the things -/
theorem level_eq (G : Gs) (x y u v z : Int) : φ_level G [.int x, .int y, .int u, .int v, .int z] = .ret (.sh (.lst ((levC x y u v z).map p3D))) := by
  unfold φ_level s_level levC
  simp [p3D_mk]
theorem box_eq (G : Gs) (x y u v h : Int) : φ_box G [.int x, .int y, .int u, .int v, .int h] = .ret (.sh (.lst ((boxC x y u v h).map p3D))) := by
  unfold φ_box s_box boxC
  simp [level_eq, levC]
theorem init_eq (G : Gs) (ds : List D) : φ_Thing_init G [.lst ds] = some ([Str.ofString "numbers"], [D.tup ds]) := by
  unfold φ_Thing_init l_Thing_init
  simp [runInit_cons, runInit_nil]
theorem places_eq (G : Gs) (l : List Int) (h : ∀ x ∈ l, Pl x) (hl : l.length ≤ 100) : φ_are_places G [.lst (l.map .int)] = .ret (.sh (.bl true)) := by
  have e : comp (kName 1) sYes (e_are_places_1 G) [1] (l.map D.int) [] [some (.sh (.lst (l.map .int))), none] = .ok (.lst ((l.map fun _ => D.bl true).map .sh)) [some (.sh (.lst (l.map .int))), none] := by
    rw [comp_mapA (φ := D.int) (F := fun _ => D.bl true)]
    · simp
    · intro x hx
      obtain ⟨h1, h2⟩ := h x hx
      simp (disch := omega) [e_are_places_1, h1, h2]
  have hall : allD (.lst (l.map fun _ => D.bl true)) = some (.sh (.bl true)) := by
    have := allL_map (l := l.map fun _ => true)
    rw [List.map_map, List.all_map] at this
    rw [show (l.map fun _ => D.bl true) = l.map (D.bl ∘ fun _ => true) from rfl, this]
    congr 3
    exact List.all_eq_true.mpr fun _ _ => rfl
  have hl7 : l.length ≤ 10000000 := by omega
  unfold φ_are_places s_are_places
  simp (disch := omega) [e, hall, hl7]
theorem height_eq (G : Gs) (x m : Int) (h1 : m ≤ x) (h2 : x ≤ 1000000000) : φ_is_height G [.int x, .int m] = .ret (.sh (.bl true)) := by
  unfold φ_is_height s_is_height
  simp (disch := omega) [h1, h2]
theorem nc : ¬ (Str.ofString "corners" = Str.ofString "numbers") := by decide
theorem in_f : inD false (.str "fence") (.tup [.str "fence", .str "sail", .str "house"]) = some (.sh (.bl true)) := id rfl
theorem in_s : inD false (.str "sail") (.tup [.str "fence", .str "sail", .str "house"]) = some (.sh (.bl true)) := id rfl
theorem in_h : inD false (.str "house") (.tup [.str "fence", .str "sail", .str "house"]) = some (.sh (.bl true)) := id rfl
theorem ns1 : ¬ (Str.ofString "sail" = Str.ofString "fence") := by decide
theorem ns2 : ¬ (Str.ofString "house" = Str.ofString "fence") := by decide
theorem ns3 : ¬ (Str.ofString "house" = Str.ofString "sail") := by decide
theorem cl1 (a b c d e f g h i : D) : slD none (some 3) (.tup [a, b, c, d, e, f, g, h, i]) = some (.sh (.tup [a, b, c])) := id rfl
theorem cl2 (a b c d e f g h i : D) : slD (some 3) (some 6) (.tup [a, b, c, d, e, f, g, h, i]) = some (.sh (.tup [d, e, f])) := id rfl
theorem cl3 (a b c d e f g h i : D) : slD (some 6) none (.tup [a, b, c, d, e, f, g, h, i]) = some (.sh (.tup [g, h, i])) := id rfl
theorem bq {a b : Addr} (h : a ≠ b) : (a == b) = false := beq_eq_false_iff_ne.mpr h
/-- the class of a word -/
def clsOf (G : Gs) (w : Str) : Addr := if w = "post" then G.c_Post else if w = "fence" then G.c_Fence else if w = "sail" then G.c_Sail else if w = "cloth" then G.c_Cloth else G.c_House
theorem cls_post (G : Gs) : clsOf G "post" = G.c_Post := by unfold clsOf; rw [if_pos rfl]
theorem cls_fence (G : Gs) : clsOf G "fence" = G.c_Fence := by unfold clsOf; rw [if_neg (by decide), if_pos rfl]
theorem cls_sail (G : Gs) : clsOf G "sail" = G.c_Sail := by unfold clsOf; rw [if_neg (by decide), if_neg (by decide), if_pos rfl]
theorem cls_cloth (G : Gs) : clsOf G "cloth" = G.c_Cloth := by unfold clsOf; rw [if_neg (by decide), if_neg (by decide), if_neg (by decide), if_pos rfl]
theorem cls_house (G : Gs) : clsOf G "house" = G.c_House := by unfold clsOf; rw [if_neg (by decide), if_neg (by decide), if_neg (by decide), if_neg (by decide)]
theorem thing_of_eq2 (G : Gs) {w : Str} {l : List Int} {cs : List P3} (h : TW w l cs) : φ_thing_of G [.str w, .lst (l.map .int)] = .ret (.sh (thD (clsOf G w) l)) ∧ ThIs G (thD (clsOf G w) l) cs := by
  cases h with
  | @post p q h h1 h2 h3 =>
    have e1 := places_eq G [p, q] (by simp [h1, h2]) (by simp)
    have e2 := height_eq G h 1 h3.1 h3.2
    rw [cls_post]
    refine ⟨?_, φ_Post_corners G, ?_, ?_⟩
    · unfold φ_thing_of s_thing_of
      simp only [List.map_cons, List.map_nil] at e1
      simp (disch := omega) [e1, e2, init_eq, thD, cutD_nl]
    · simp [methD_ins, thD, nc]
    · unfold φ_Post_corners s_Post_corners
      simp (disch := omega) [thD, fldD_ins, box_eq]
  | @fence x y u v h h1 h2 h3 h4 h5 ne =>
    have e1 := places_eq G [x, y, u, v] (by simp [h1, h2, h3, h4]) (by simp)
    have e2 := height_eq G h 1 h5.1 h5.2
    rw [cls_fence]
    refine ⟨?_, φ_Fence_corners G, ?_, ?_⟩
    · have e3 : φ_stretched G [.str "fence", .lst [.int x, .int y, .int u, .int v, .int h]] = .ret (.sh (thD G.c_Fence [x, y, u, v, h])) := by
        unfold φ_stretched s_stretched
        simp only [List.map_cons, List.map_nil] at e1
        by_cases hx : x = u
        · have := ne hx
          subst hx
          simp (disch := omega) [e1, e2, init_eq, thD, cutD_nl, this]
        · simp (disch := omega) [e1, e2, init_eq, thD, cutD_nl, hx]
      unfold φ_thing_of s_thing_of
      simp (disch := omega) [e3, in_f, in_s, in_h]
    · simp [methD_ins, thD, nc, List.lookup, bq G.ne_Fence_Post]
    · unfold φ_Fence_corners s_Fence_corners
      simp (disch := omega) [thD, fldD_ins, p3D_mk]
  | @sail x y u v h h1 h2 h3 h4 h5 k1 k2 =>
    have e1 := places_eq G [x, y, u, v] (by simp [h1, h2, h3, h4]) (by simp)
    have e2 := height_eq G h 1 h5.1 h5.2
    rw [cls_sail]
    refine ⟨?_, φ_Sail_corners G, ?_, ?_⟩
    · have e3 : φ_stretched G [.str "sail", .lst [.int x, .int y, .int u, .int v, .int h]] = .ret (.sh (thD G.c_Sail [x, y, u, v, h])) := by
        unfold φ_stretched s_stretched
        simp only [List.map_cons, List.map_nil] at e1
        simp (disch := omega) [e1, e2, init_eq, thD, cutD_nl, k1, k2, ns1, ns2, ns3]
      unfold φ_thing_of s_thing_of
      simp (disch := omega) [e3, in_f, in_s, in_h]
    · simp [methD_ins, thD, nc, List.lookup, bq G.ne_Sail_Post, bq G.ne_Sail_Fence]
    · unfold φ_Sail_corners s_Sail_corners
      simp (disch := omega) [thD, fldD_ins, level_eq]
  | @house x y u v h h1 h2 h3 h4 h5 k1 k2 =>
    have e1 := places_eq G [x, y, u, v] (by simp [h1, h2, h3, h4]) (by simp)
    have e2 := height_eq G h 1 h5.1 h5.2
    rw [cls_house]
    refine ⟨?_, φ_House_corners G, ?_, ?_⟩
    · have e3 : φ_stretched G [.str "house", .lst [.int x, .int y, .int u, .int v, .int h]] = .ret (.sh (thD G.c_House [x, y, u, v, h])) := by
        unfold φ_stretched s_stretched
        simp only [List.map_cons, List.map_nil] at e1
        simp (disch := omega) [e1, e2, init_eq, thD, cutD_nl, k1, k2, ns1, ns2, ns3]
      unfold φ_thing_of s_thing_of
      simp (disch := omega) [e3, in_f, in_s, in_h]
    · simp [methD_ins, thD, nc, List.lookup, bq G.ne_House_Post, bq G.ne_House_Fence, bq G.ne_House_Sail, bq G.ne_House_Cloth]
    · unfold φ_House_corners s_House_corners
      simp (disch := omega) [thD, fldD_ins, box_eq]
  | @cloth a b c d e f g h i h1 h2 h3 h4 h5 h6 h7 h8 h9 =>
    have e1 := places_eq G [a, b] (by simp [h1, h2]) (by simp)
    have e2 := places_eq G [d, e] (by simp [h4, h5]) (by simp)
    have e3 := places_eq G [g, h] (by simp [h7, h8]) (by simp)
    have g1 := height_eq G c 0 h3.1 h3.2
    have g2 := height_eq G f 0 h6.1 h6.2
    have g3 := height_eq G i 0 h9.1 h9.2
    rw [cls_cloth]
    refine ⟨?_, φ_Cloth_corners G, ?_, ?_⟩
    · have e4 : φ_cloth_of G [.lst [.int a, .int b, .int c, .int d, .int e, .int f, .int g, .int h, .int i]] = .ret (.sh (thD G.c_Cloth [a, b, c, d, e, f, g, h, i])) := by
        unfold φ_cloth_of s_cloth_of
        simp only [List.map_cons, List.map_nil] at e1 e2 e3
        simp (disch := omega) [e1, e2, e3, g1, g2, g3, init_eq, thD, cutD_ll, loop_cons, b_cloth_of_1]
      unfold φ_thing_of s_thing_of
      simp (disch := omega) [e4]
    · simp [methD_ins, thD, nc, List.lookup, bq G.ne_Cloth_Post, bq G.ne_Cloth_Fence, bq G.ne_Cloth_Sail]
    · unfold φ_Cloth_corners s_Cloth_corners
      simp (disch := omega) [thD, fldD_ins, p3D_mk, cl1, cl2, cl3]
theorem thing_of_eq (G : Gs) {w : Str} {l : List Int} {cs : List P3} (h : TW w l cs) : ∃ C, φ_thing_of G [.str w, .lst (l.map .int)] = .ret (.sh (thD C l)) ∧ ThIs G (thD C l) cs := ⟨_, thing_of_eq2 G h⟩
theorem e_casts (G : Gs) (cs : List P3) (r : P3) (hr : RayOk r) (a b : Option Val) : comp (kName 3) sYes (e_shading_1 G) [3] (cs.map p3D) [] [a, b, some (.sh (p3D r)), none] = .ok (.lst (((cs.map (castP r)).map pD).map .sh)) [a, b, some (.sh (p3D r)), none] := by
  rw [comp_mapA (φ := p3D) (F := fun p => pD (castP r p))]
  · simp
  · intro p hp
    have e := cast_eq G p r hr
    simp [e_shading_1, e]
def stP (s : P2) : P3 := (2 * s.1, 2 * s.2, 0)
def StOk (s : P2) : Prop := (-1000000000 ≤ s.1 ∧ s.1 ≤ 1000000000) ∧ -1000000000 ≤ s.2 ∧ s.2 ≤ 1000000000
theorem stP_c3 {s : P2} (h : StOk s) : C3 (stP s) := by unfold StOk at h; unfold C3 stP; simp only; omega
theorem shading_eq (G : Gs) (d : D) (cs : List P3) (hd : ThIs G d cs) (hb : ∀ p ∈ cs, C3 p) (h0 : cs ≠ []) (h8 : cs.length ≤ 8) (s : P2) (hs : StOk s) (r : P3) (hr : RayOk r) :
    (∃ Q T, InW (cs.map (castP r)) (castP r (stP s)) Q T ∧ φ_shading G [d, pD s, p3D r] = .ret (.sh (.tup [.str "in", .lst (Q.map fun q => fr (red q T))]))) ∨
    (∃ l m n, OutW (cs.map (castP r)) (castP r (stP s)) l m n ∧ φ_shading G [d, pD s, p3D r] = .ret (.sh (.tup [.str "out", .tup [.int l, .int m, .int n]]))) := by
  obtain ⟨φ, hm, hφ⟩ := hd
  have e1 := e_casts G cs r hr (some (.sh d)) (some (.sh (pD s)))
  have e2 := stone_cast_eq G s r hr
  have hP : ∀ p ∈ cs.map (castP r), Wn p := fun p hp => by
    obtain ⟨q, hq, rfl⟩ := List.mem_map.mp hp
    exact castP_wn hr (hb q hq)
  have hl7 : cs.length ≤ 10000000 := by omega
  have hh := held_eq G (cs.map (castP r)) (castP r (stP s)) hP (castP_wn hr (stP_c3 hs)) (by simpa using h0) (by rw [List.length_map]; omega)
  generalize cs.map (castP r) = P at *
  unfold stP at *
  rcases hh with ⟨Q, T, h1, h2⟩ | ⟨l, m, n, h1, h2⟩
  · refine .inl ⟨Q, T, h1, ?_⟩
    unfold φ_shading s_shading
    simp (disch := omega) [hm, hφ, e1, e2, h2, hl7]
  · refine .inr ⟨l, m, n, h1, ?_⟩
    unfold φ_shading s_shading
    simp (disch := omega) [hm, hφ, e1, e2, h2, hl7]
theorem nin : ¬ (Str.ofString "out" = Str.ofString "in") := by decide
theorem shades_eq (G : Gs) (d : D) (cs : List P3) (hd : ThIs G d cs) (hb : ∀ p ∈ cs, C3 p) (h0 : cs ≠ []) (h8 : cs.length ≤ 8) (s : P2) (hs : StOk s) (r : P3) (hr : RayOk r) :
    ∃ b : Bool, φ_shades G [d, pD s, p3D r] = .ret (.sh (.bl b)) ∧ (b = true → ∃ Q T, InW (cs.map (castP r)) (castP r (stP s)) Q T) ∧ (b = false → ∃ l m n, OutW (cs.map (castP r)) (castP r (stP s)) l m n) := by
  rcases shading_eq G d cs hd hb h0 h8 s hs r hr with ⟨Q, T, h1, h2⟩ | ⟨l, m, n, h1, h2⟩
  · refine ⟨true, ?_, fun _ => ⟨Q, T, h1⟩, (fun z => by cases z)⟩
    unfold φ_shades s_shades
    simp (disch := omega) [h2]
  · refine ⟨false, ?_, (fun z => by cases z), fun _ => ⟨l, m, n, h1⟩⟩
    unfold φ_shades s_shades
    simp (disch := omega) [h2, nin]
end My

namespace My
open PySem PySem.Spec L2 DL HU
/-! what a thing shows -/
def W5 (w : Str) : Prop := w = "post" ∨ w = "fence" ∨ w = "sail" ∨ w = "cloth" ∨ w = "house"
theorem num_lenP (x : Int) (h : Pl x) : (num x).length ≤ 11 := num_len (by unfold Pl at h; omega) (by unfold Pl at h; omega)
theorem strD_num (x : Int) (h : Pl x) : strD (.int x) = some (.sh (.str (num x))) := by
  have e : strD (.int x) = if x.natAbs.log2 < 1920 then some (.sh (.str (Str.ofString (toString x)))) else none := rfl
  rw [e, if_pos (log2_small (by decide) (Nat.lt_of_lt_of_le (show x.natAbs < 2 ^ 64 by unfold Pl at h; omega) (Nat.pow_le_pow_right (by decide) (by decide))))]; rfl
theorem nshn : ¬ (Str.ofString "shown" = Str.ofString "numbers") := by decide
theorem nwn : ¬ (Str.ofString "word" = Str.ofString "numbers") := by decide
theorem shown_meth (G : Gs) {w : Str} (hw : W5 w) (l : List Int) : methD (tab_shown G) "shown" (thD (clsOf G w) l) = some (φ_Thing_shown G) := by
  rcases hw with h | h | h | h | h <;> subst h
  · simp [methD_ins, thD, nshn, cls_post, List.lookup]
  · simp [methD_ins, thD, nshn, cls_fence, List.lookup, bq G.ne_Fence_Post]
  · simp [methD_ins, thD, nshn, cls_sail, List.lookup, bq G.ne_Sail_Post, bq G.ne_Sail_Fence]
  · simp [methD_ins, thD, nshn, cls_cloth, List.lookup, bq G.ne_Cloth_Post, bq G.ne_Cloth_Fence, bq G.ne_Cloth_Sail]
  · simp [methD_ins, thD, nshn, cls_house, List.lookup, bq G.ne_House_Post, bq G.ne_House_Fence, bq G.ne_House_Sail, bq G.ne_House_Cloth]
theorem word_meth (G : Gs) {w : Str} (hw : W5 w) (l : List Int) : ∃ φ, methD (tab_word G) "word" (thD (clsOf G w) l) = some φ ∧ φ [thD (clsOf G w) l] = .ret (.sh (.str w)) := by
  rcases hw with h | h | h | h | h <;> subst h
  · exact ⟨φ_Post_word G, by simp [methD_ins, thD, nwn, cls_post, List.lookup], by unfold φ_Post_word s_Post_word; simp⟩
  · exact ⟨φ_Fence_word G, by simp [methD_ins, thD, nwn, cls_fence, List.lookup, bq G.ne_Fence_Post], by unfold φ_Fence_word s_Fence_word; simp⟩
  · exact ⟨φ_Sail_word G, by simp [methD_ins, thD, nwn, cls_sail, List.lookup, bq G.ne_Sail_Post, bq G.ne_Sail_Fence], by unfold φ_Sail_word s_Sail_word; simp⟩
  · exact ⟨φ_Cloth_word G, by simp [methD_ins, thD, nwn, cls_cloth, List.lookup, bq G.ne_Cloth_Post, bq G.ne_Cloth_Fence, bq G.ne_Cloth_Sail], by unfold φ_Cloth_word s_Cloth_word; simp⟩
  · exact ⟨φ_House_word G, by simp [methD_ins, thD, nwn, cls_house, List.lookup, bq G.ne_House_Post, bq G.ne_House_Fence, bq G.ne_House_Sail, bq G.ne_House_Cloth], by unfold φ_House_word s_House_word; simp⟩
theorem cls_in (G : Gs) {w : Str} (hw : W5 w) : clsOf G w ∈ [G.c_Post, G.c_Fence, G.c_Sail, G.c_Cloth, G.c_House] := by
  rcases hw with h | h | h | h | h <;> subst h
  · rw [cls_post]; simp
  · rw [cls_fence]; simp
  · rw [cls_sail]; simp
  · rw [cls_cloth]; simp
  · rw [cls_house]; simp
theorem sum_le (l : List Int) (h : ∀ x ∈ l, Pl x) : ((l.map num).map (·.length)).sum ≤ 11 * l.length := by
  induction l with
  | nil => simp
  | cons a l ih =>
    have := num_lenP a (h a List.mem_cons_self)
    have := ih fun x hx => h x (List.mem_cons_of_mem _ hx)
    simp only [List.map_cons, List.sum_cons, List.length_cons]
    omega
theorem w_len {w : Str} (hw : W5 w) : w.length ≤ 5 := by
  rcases hw with h | h | h | h | h <;> subst h <;> decide
theorem text_eq {w : Str} {l : List Int} (hw : W5 w) (hp : ∀ x ∈ l, Pl x) (h9 : l.length ≤ 9) : joinD " " (.lst (.str w :: l.map fun x => .str (num x))) = some (.sh (.str (Txt.join " " (w :: l.map num)))) := by
  have e := joinD_map (a := " ") (l := w :: l.map num) (by
    have h1 := sum_le l hp
    have h2 := w_len hw
    have h3 : (" " : Str).length = 1 := by decide
    simp only [List.map_cons, List.sum_cons, List.length_cons, List.length_map, h3]
    omega)
  rw [List.map_cons, List.map_map] at e
  exact e
theorem shown_eq (G : Gs) {w : Str} {l : List Int} (hw : W5 w) (hp : ∀ x ∈ l, Pl x) (h9 : l.length ≤ 9) : φ_Thing_shown G [thD (clsOf G w) l] = .ret (.sh (.str (Txt.join " " (w :: l.map num)))) := by
  obtain ⟨φ, e1, e2⟩ := word_meth G hw l
  have e3 := text_eq hw hp h9
  have hc := cls_in G hw
  have ec : comp (kName 1) sYes (e_Thing_shown_1 G) [1] (l.map .int) [] [some (.sh (thD (clsOf G w) l)), none] = .ok (.lst ((l.map fun x => D.str (num x)).map .sh)) [some (.sh (thD (clsOf G w) l)), none] := by
    rw [comp_mapA (φ := D.int) (F := fun x => D.str (num x))]
    · simp
    · intro x hx
      simp [e_Thing_shown_1, strD_num x (hp x hx), num]
  have ef : fldD [G.c_Post, G.c_Fence, G.c_Sail, G.c_Cloth, G.c_House] "numbers" (thD (clsOf G w) l) = some (.sh (.tup (l.map .int))) := by
    unfold thD
    rw [fldD_ins, if_pos hc]
    simp [List.lookup]
  generalize thD (clsOf G w) l = d at *
  unfold φ_Thing_shown s_Thing_shown
  have h8 : l.length ≤ 10000000 := by omega
  simp (disch := first | omega | (simp only [List.length_map, List.length_cons, List.length_nil]; omega)) [e1, e2, ef, ec, h8]
  rw [e3]
  simp
theorem eqvs_refl (l : List Int) : eqvs (l.map .int) (l.map .int) = true := by
  induction l with
  | nil => simp
  | cons a l ih => simp [ih]
theorem all_ok (l : List Int) {k : Nat} : (l.map D.int).all (D.ok k) = true := by
  induction l with
  | nil => rfl
  | cons a l ih => simp [ih]
theorem TW.w5 {w : Str} {l : List Int} {cs : List P3} (h : TW w l cs) : W5 w := by
  cases h
  · exact .inl rfl
  · exact .inr (.inl rfl)
  · exact .inr (.inr (.inl rfl))
  · exact .inr (.inr (.inr (.inr rfl)))
  · exact .inr (.inr (.inr (.inl rfl)))
theorem TW.pl {w : Str} {l : List Int} {cs : List P3} (h : TW w l cs) : (∀ x ∈ l, Pl x) ∧ l.length ≤ 9 := by
  cases h <;> refine ⟨?_, by simp⟩ <;> simp only [List.mem_cons, List.not_mem_nil, or_false] <;> intro x hx <;> simp only [Pl, Hi, Hi0] at * <;> omega
end My

namespace My
open PySem PySem.Spec L2 DL HU
/-! yards: what the laws draw; dark stones as bits -/
theorem law_at_eq (G : Gs) (ns : List Int) (k : Int) (hk : 0 ≤ k) : φ_law_at G [scrI ns, .int k] = .ret (.sh (.int (cellI ns k))) := by
  unfold φ_law_at s_law_at
  by_cases h : k < (ns.length : Int)
  · simp (disch := omega) [h, ixD_scr hk h]
  · simp (disch := omega) [h, cellI_out h hk]
def Gr (x : Int) : Prop := 0 ≤ x ∧ x < 524288
def grSt (c m n : Int) (L : List Int) : DEnv := [some (.sh (.int c)), some (.sh (.int m)), some (.lst (L.map fun x => .sh (.int x))), some (.sh (.int n)), none]
theorem grains_turn' (G : Gs) (c m n : Int) (L : List Int) (k : Nat) (hk : k < 100000) (hl : L.length ≤ 100000) (hL : ∀ x ∈ L, Gr x) : ∃ n' x, Gr x ∧ (lpK (kName 4 (.int (k : Int)) (grSt c m n L)) fun ρ1 => flp (b_law_grains_1 G ρ1) (fun ρ2 => .nx (forget [4] ρ2)) fun _ => .bad) = .nx (grSt c m n' (L ++ [x])) := by
  have hl7 : L.length < 10000000 := by omega
  by_cases hb : c % 2 = 0
  · refine ⟨n / 524287, n % 524287, by unfold Gr; omega, ?_⟩
    simp (disch := omega) [grSt, b_law_grains_1, hl7, hb]
  · refine ⟨(n * 49157 + 24593 + 2 * k) % 8388593, (n * 49157 + 24593 + 2 * k) % 8388593 / 16, by unfold Gr; omega, ?_⟩
    simp (disch := omega) [grSt, b_law_grains_1, hl7, hb]
theorem grains_eq (G : Gs) (c m : Int) (h0 : 0 ≤ m) (hm : m ≤ 1000) : ∃ L : List Int, L.length = m.toNat ∧ (∀ x ∈ L, Gr x) ∧ φ_law_grains G [.int c, .int m] = .ret (.sh (.lst (L.map .int))) := by
  have hlen : (rangeL 0 m.toNat).length = m.toNat := by simp [rangeL]
  have go : ∀ n : Int, 0 ≤ n ∨ c % 2 = 0 → ∃ n' L, (∀ x ∈ L, Gr x) ∧ L.length = m.toNat ∧ loop (kName 4) (b_law_grains_1 G) [4] (rangeL 0 m.toNat) (grSt c m n []) = .nx (grSt c m n' L) := fun n hn => by
    obtain ⟨ρ', e1, n', L, h1, h2, e2⟩ := loop_reln (g := kName 4) (s := b_law_grains_1 G) (is := [4]) (fun i ρ => ∃ n1 L, L.length = i ∧ (∀ x ∈ L, Gr x) ∧ ρ = grSt c m n1 L) (rangeL 0 m.toNat) 0 (grSt c m n []) ⟨n, [], rfl, by simp, rfl⟩ (fun i d ρ hd hi ⟨n1, L, k2, k3, k4⟩ => by
      obtain ⟨k, hk, rfl⟩ := mem_rangeL.mp hd
      rw [show (0 : Int) + (k : Int) = (k : Int) by omega]
      subst k4
      obtain ⟨n', x, q2, q3⟩ := grains_turn' G c m n1 L k (by omega) (by omega) k3
      refine ⟨_, q3, n', L ++ [x], by simp [k2], fun y hy => ?_, rfl⟩
      rcases List.mem_append.mp hy with hy | hy
      · exact k3 y hy
      · rw [List.mem_singleton.mp hy]; exact q2)
    subst e2
    exact ⟨n', L, h2, by rw [h1, hlen]; omega, e1⟩
  unfold φ_law_grains s_law_grains
  by_cases hb : c % 2 = 1
  · obtain ⟨n', L, h1, h2, e1⟩ := go (c / 2 % 8388593) (.inl (by omega))
    refine ⟨L, h2, h1, ?_⟩
    unfold grSt at e1
    rw [List.map_nil] at e1
    simp (disch := omega) [hb, e1]
  · obtain ⟨n', L, h1, h2, e1⟩ := go (c / 2) (.inr (by omega))
    refine ⟨L, h2, h1, ?_⟩
    unfold grSt at e1
    rw [List.map_nil] at e1
    simp (disch := omega) [hb, e1]
theorem grains4 {L : List Int} (h : L.length = 4) : ∃ a b c d, L = [a, b, c, d] := by
  match L, h with
  | [a, b, c, d], _ => exact ⟨a, b, c, d, rfl⟩
theorem grains14 {L : List Int} (h : L.length = 14) : ∃ a b c d e f g i j k l m n o, L = [a, b, c, d, e, f, g, i, j, k, l, m, n, o] := by
  match L, h with
  | [a, b, c, d, e, f, g, i, j, k, l, m, n, o], _ => exact ⟨a, b, c, d, e, f, g, i, j, k, l, m, n, o, rfl⟩
def Plc (x : Int) : Prop := -999999950 ≤ x ∧ x ≤ 999999950
theorem place_eq (G : Gs) (n w : Int) (hn : 0 ≤ n) (h1 : 1 ≤ w) (h2 : w ≤ 20) : ∃ x, Plc x ∧ φ_law_place G [.int n, .int w] = .ret (.sh (.int x)) := by
  unfold φ_law_place s_law_place
  by_cases h : n / 512 % 16 = 5
  · refine ⟨n * 3813 % 1999999901 - 1000000000 + 50, by unfold Plc; omega, ?_⟩
    simp (disch := omega) [h]
  · have a1 := Int.emod_nonneg n (show 2 * w + 9 ≠ 0 by omega)
    have a2 := Int.emod_lt_of_pos n (show 0 < 2 * w + 9 by omega)
    refine ⟨n % (2 * w + 9) - 4, by unfold Plc; omega, ?_⟩
    have e : modD (.int n) (.int (2 * w + 9)) = some (.sh (.int (n % (2 * w + 9)))) := modD_pos (by omega)
    simp (disch := omega) [h, e]
theorem height_is (G : Gs) (n : Int) (hn : 0 ≤ n) : ∃ x, Hi x ∧ φ_law_height G [.int n] = .ret (.sh (.int x)) := by
  unfold φ_law_height s_law_height
  by_cases h : n / 512 % 12 = 7
  · refine ⟨1 + n * 1907 % 1000000000, by unfold Hi; omega, ?_⟩
    simp (disch := omega) [h]
  · refine ⟨1 + n % 9, by unfold Hi; omega, ?_⟩
    simp (disch := omega) [h]
theorem ad33 (a b c d e f : D) : addD (.lst [a, b, c]) (.lst [d, e, f]) = some (.lst [.sh a, .sh b, .sh c, .sh d, .sh e, .sh f]) := addD_lst (by simp)
theorem ad63 (a b c d e f g h i : D) : addD (.lst [a, b, c, d, e, f]) (.lst [g, h, i]) = some (.lst [.sh a, .sh b, .sh c, .sh d, .sh e, .sh f, .sh g, .sh h, .sh i]) := addD_lst (by simp)
theorem Plc.pl {x : Int} (h : Plc x) : Pl x := by unfold Plc at h; unfold Pl; omega
theorem Hi.hi0 {x : Int} (h : Hi x) : Hi0 x := by unfold Hi at h; unfold Hi0; omega
/-- corners no farther off than this -/
def Cb (cs : List P3) : Prop := ∀ p ∈ cs, (-999999960 ≤ p.1 ∧ p.1 ≤ 999999960) ∧ -999999960 ≤ p.2.1 ∧ p.2.1 ≤ 999999960
def Bx (x : Int) : Prop := -999999960 ≤ x ∧ x ≤ 999999960
theorem cb_lev {x y u v z : Int} (h1 : Bx x) (h2 : Bx y) (h3 : Bx u) (h4 : Bx v) : Cb (levC x y u v z) := fun p hp => by
  obtain ⟨e1, e2, _⟩ := levC_mem hp
  unfold Bx at *
  omega
theorem cb_box {x y u v z : Int} (h1 : Bx x) (h2 : Bx y) (h3 : Bx u) (h4 : Bx v) : Cb (boxC x y u v z) := fun p hp => by
  rcases List.mem_append.mp hp with hp | hp <;> exact cb_lev h1 h2 h3 h4 p hp
theorem cb_fen {x y u v h : Int} (h1 : Bx x) (h2 : Bx y) (h3 : Bx u) (h4 : Bx v) : Cb [(x, y, 0), (u, v, 0), (u, v, h), (x, y, h)] := fun p hp => by
  unfold Bx at *
  simp only [List.mem_cons, List.not_mem_nil, or_false] at hp
  rcases hp with rfl | rfl | rfl | rfl <;> (simp only; omega)
theorem cb_clo {a b c d e f g h i : Int} (h1 : Bx a) (h2 : Bx b) (h3 : Bx d) (h4 : Bx e) (h5 : Bx g) (h6 : Bx h) : Cb [(a, b, c), (d, e, f), (g, h, i)] := fun p hp => by
  unfold Bx at *
  simp only [List.mem_cons, List.not_mem_nil, or_false] at hp
  rcases hp with rfl | rfl | rfl <;> (simp only; omega)
theorem Plc.bx {x : Int} (h : Plc x) : Bx x := by unfold Plc at h; unfold Bx; omega
theorem thing_isB (G : Gs) (c w : Int) (h1 : 1 ≤ w) (h2 : w ≤ 20) : ∃ wd l cs, TW wd l cs ∧ Cb cs ∧ φ_law_thing G [.int c, .int w] = .ret (.sh (.tup [.str wd, .lst (l.map .int)])) := by
  obtain ⟨L, k1, k2, k3⟩ := grains_eq G c 14 (by decide) (by decide)
  obtain ⟨a0, a1, a2, a3, a4, a5, a6, a7, a8, a9, a10, a11, a12, a13, rfl⟩ := grains14 k1
  have nn : ∀ x ∈ [a0, a1, a2, a3, a4, a5, a6, a7, a8, a9, a10, a11, a12, a13], 0 ≤ x := fun x hx => (k2 x hx).1
  obtain ⟨x, hx, ex⟩ := place_eq G a0 w (nn _ (by simp)) h1 h2
  obtain ⟨y, hy, ey⟩ := place_eq G a1 w (nn _ (by simp)) h1 h2
  obtain ⟨h, hh, eh⟩ := height_is G a2 (nn _ (by simp))
  obtain ⟨p7, hp7, ep7⟩ := place_eq G a7 w (nn _ (by simp)) h1 h2
  obtain ⟨p8, hp8, ep8⟩ := place_eq G a8 w (nn _ (by simp)) h1 h2
  obtain ⟨p9, hp9, ep9⟩ := place_eq G a9 w (nn _ (by simp)) h1 h2
  obtain ⟨p10, hp10, ep10⟩ := place_eq G a10 w (nn _ (by simp)) h1 h2
  obtain ⟨h11, hh11, eh11⟩ := height_is G a11 (nn _ (by simp))
  simp only [List.map_cons, List.map_nil] at k3
  have cm : comp (kName 9) sYes (e_law_thing_1 G) [9] [.int 0, .int 1] [] [some (.sh (.int c)), some (.sh (.int w)), some (.sh (.lst [.int a0, .int a1, .int a2, .int a3, .int a4, .int a5, .int a6, .int a7, .int a8, .int a9, .int a10, .int a11, .int a12, .int a13])), none, none, none, none, none, none, none] = .ok (.lst [.sh (.int x), .sh (.int y)]) [some (.sh (.int c)), some (.sh (.int w)), some (.sh (.lst [.int a0, .int a1, .int a2, .int a3, .int a4, .int a5, .int a6, .int a7, .int a8, .int a9, .int a10, .int a11, .int a12, .int a13])), none, none, none, none, none, none, none] := by
    have := comp_mapA (g := kName 9) (f := e_law_thing_1 G) (is := [9]) (ρ := [some (.sh (.int c)), some (.sh (.int w)), some (.sh (.lst [.int a0, .int a1, .int a2, .int a3, .int a4, .int a5, .int a6, .int a7, .int a8, .int a9, .int a10, .int a11, .int a12, .int a13])), none, none, none, none, none, none, none]) (φ := fun k : Int => D.int k) (F := fun k => if k = 0 then D.int x else D.int y) [0, 1] [] (fun k hk => by
      simp only [List.mem_cons, List.not_mem_nil, or_false] at hk
      rcases hk with rfl | rfl <;> simp (disch := omega) [e_law_thing_1, ex, ey])
    simpa using this
  have hk : a3 % 5 = 0 ∨ a3 % 5 = 1 ∨ a3 % 5 = 2 ∨ a3 % 5 = 3 ∨ a3 % 5 = 4 := by omega
  unfold φ_law_thing s_law_thing
  rcases hk with e | e | e | e | e
  · unfold Plc at hx hy
    have t : TW "post" [x / 2, y / 2, h] _ := .post (by unfold Pl; omega) (by unfold Pl; omega) hh
    refine ⟨_, _, _, t, cb_box (by unfold Bx; omega) (by unfold Bx; omega) (by unfold Bx; omega) (by unfold Bx; omega), ?_⟩
    simp (disch := omega) [k3, rangeL_s, cm, eh, e]
  · unfold Plc at hx hy
    by_cases hu : x + a4 % 9 - 4 = x ∧ y + a5 % 9 - 4 = y
    · have t : TW "fence" [x, y, x + a4 % 9 - 4 + 1, y + a5 % 9 - 4, h] _ := .fence (by unfold Pl; omega) (by unfold Pl; omega) (by unfold Pl; omega) (by unfold Pl; omega) hh (by omega)
      refine ⟨_, _, _, t, cb_fen (by unfold Bx; omega) (by unfold Bx; omega) (by unfold Bx; omega) (by unfold Bx; omega), ?_⟩
      have hu1 := hu.1
      have hu2 := hu.2
      simp (disch := omega) [k3, rangeL_s, cm, eh, e, hu1, hu2]
    · have t : TW "fence" [x, y, x + a4 % 9 - 4, y + a5 % 9 - 4, h] _ := .fence (by unfold Pl; omega) (by unfold Pl; omega) (by unfold Pl; omega) (by unfold Pl; omega) hh (by omega)
      refine ⟨_, _, _, t, cb_fen (by unfold Bx; omega) (by unfold Bx; omega) (by unfold Bx; omega) (by unfold Bx; omega), ?_⟩
      by_cases hx1 : x = x + a4 % 9 - 4
      · have hy1 : ¬ y = y + a5 % 9 - 4 := by omega
        simp (disch := omega) [k3, rangeL_s, cm, eh, e, hy1]
        try omega
      · simp (disch := omega) [k3, rangeL_s, cm, eh, e, hx1]
        try omega
  · have b6 : Hi0 (a6 % 10) := by unfold Hi0; omega
    have t : TW "cloth" [x, y, a6 % 10, p7, p8, h, p9, p10, h11] _ := .cloth hx.pl hy.pl b6 hp7.pl hp8.pl hh.hi0 hp9.pl hp10.pl hh11.hi0
    refine ⟨_, _, _, t, cb_clo hx.bx hy.bx hp7.bx hp8.bx hp9.bx hp10.bx, ?_⟩
    simp (disch := omega) [k3, rangeL_s, cm, eh, e, ep7, ep8, ep9, ep10, eh11, ad33, ad63]
  · unfold Plc at hx hy
    have t : TW "sail" [x, y, x + 1 + a4 % 8, y + 1 + a5 % 8, h] _ := .sail (by unfold Pl; omega) (by unfold Pl; omega) (by unfold Pl; omega) (by unfold Pl; omega) hh (by omega) (by omega)
    refine ⟨_, _, _, t, cb_lev (by unfold Bx; omega) (by unfold Bx; omega) (by unfold Bx; omega) (by unfold Bx; omega), ?_⟩
    simp (disch := omega) [k3, rangeL_s, cm, eh, e]
  · unfold Plc at hx hy
    have t : TW "house" [x, y, x + 1 + a4 % 8, y + 1 + a5 % 8, h] _ := .house (by unfold Pl; omega) (by unfold Pl; omega) (by unfold Pl; omega) (by unfold Pl; omega) hh (by omega) (by omega)
    refine ⟨_, _, _, t, cb_box (by unfold Bx; omega) (by unfold Bx; omega) (by unfold Bx; omega) (by unfold Bx; omega), ?_⟩
    simp (disch := omega) [k3, rangeL_s, cm, eh, e]
theorem thing_is (G : Gs) (c w : Int) (h1 : 1 ≤ w) (h2 : w ≤ 20) : ∃ wd l cs, TW wd l cs ∧ φ_law_thing G [.int c, .int w] = .ret (.sh (.tup [.str wd, .lst (l.map .int)])) := by
  obtain ⟨wd, l, cs, t1, _, t2⟩ := thing_isB G c w h1 h2
  exact ⟨wd, l, cs, t1, t2⟩
theorem scale_ix (k : Int) : ∃ w : Int, (1 ≤ w ∧ w ≤ 100000) ∧ ([.int 1, .int 1, .int 3, .int 100000] : List D)[(k % 4).toNat]? = some (.int w) := by
  have : k % 4 = 0 ∨ k % 4 = 1 ∨ k % 4 = 2 ∨ k % 4 = 3 := by omega
  rcases this with h | h | h | h <;> rw [h] <;> exact ⟨_, by omega, rfl⟩
theorem yray_eq (G : Gs) (c : Int) : ∃ r : P3, RayOk r ∧ φ_law_ray G [.int c] = .ret (.sh (p3D r)) := by
  obtain ⟨L, k1, k2, k3⟩ := grains_eq G c 4 (by decide) (by decide)
  obtain ⟨a0, a1, a2, a3, rfl⟩ := grains4 k1
  obtain ⟨w, ⟨w1, w2⟩, ew⟩ := scale_ix a3
  simp only [List.map_cons, List.map_nil] at k3
  have m1 := mul_le (a := a0 % 13 - 6) (b := w) (m := 6) (n := 100000) (by omega) (by omega)
  have m2 := mul_le (a := a1 % 13 - 6) (b := w) (m := 6) (n := 100000) (by omega) (by omega)
  have m3 := mul_le (a := 1 + a2 % 5) (b := w) (m := 5) (n := 100000) (by omega) (by omega)
  have m4 : 0 < (1 + a2 % 5) * w := Int.mul_pos (by omega) (by omega)
  refine ⟨((a0 % 13 - 6) * w, (a1 % 13 - 6) * w, (1 + a2 % 5) * w), by unfold RayOk; simp only; omega, ?_⟩
  unfold φ_law_ray s_law_ray
  simp (disch := omega) [k3, ew, p3D_mk]
theorem size_eq (G : Gs) (c most : Int) (hm : most = 9 ∨ most = 12) : ∃ w h : Nat, 1 ≤ w ∧ w ≤ 20 ∧ 1 ≤ h ∧ h ≤ 20 ∧ w * h ≤ 20 ∧ φ_law_size G [.int c, .int most] = .ret (.sh (.tup [.int w, .int h])) := by
  unfold φ_law_size s_law_size
  have hg : most > 6 := by omega
  by_cases h : c / 7 % 16 = 11
  · by_cases hc : c % 2 = 0
    · refine ⟨1, 20, by decide, by decide, by decide, by decide, by decide, ?_⟩
      simp (disch := omega) [h, hg, hc]
    · have hc : c % 2 = 1 := by omega
      refine ⟨20, 1, by decide, by decide, by decide, by decide, by decide, ?_⟩
      simp (disch := omega) [h, hg, hc]
  · have hmin : (if most < 5 then most else 5) = 5 := by rw [if_neg (by omega)]
    have a1 : 0 ≤ c % 5 ∧ c % 5 < 5 := by omega
    obtain ⟨W, hW⟩ : ∃ W, 1 + c % 5 = W := ⟨_, rfl⟩
    have d1 : fdivD (.int most) (.int W) = some (.sh (.int (most / W))) := fdivD_pos (by omega) (by omega)
    have q1 : 1 ≤ most / W := (Int.le_ediv_iff_mul_le (by omega)).mpr (by omega)
    have q2 : most / W * W ≤ most := Int.ediv_mul_le _ (by omega)
    obtain ⟨M, hM⟩ : ∃ M, (if most / W < 4 then most / W else 4) = M := ⟨_, rfl⟩
    have q3 : 1 ≤ M ∧ M ≤ 4 ∧ M ≤ most / W := by subst hM; split <;> omega
    have e2 : modD (.int (c / 5)) (.int M) = some (.sh (.int (c / 5 % M))) := modD_pos (by omega)
    have b1 := Int.emod_nonneg (c / 5) (show M ≠ 0 by omega)
    have b2 := Int.emod_lt_of_pos (c / 5) (show 0 < M by omega)
    have q4 : W * (1 + c / 5 % M) ≤ 20 := by
      have : (1 + c / 5 % M) * W ≤ most / W * W := Int.mul_le_mul_of_nonneg_right (by omega) (by omega)
      rw [Int.mul_comm]
      omega
    refine ⟨W.toNat, (1 + c / 5 % M).toNat, by omega, by omega, by omega, by omega, ?_, ?_⟩
    · have e3 : ((W.toNat * (1 + c / 5 % M).toNat : Nat) : Int) = W * (1 + c / 5 % M) := by
        rw [Int.natCast_mul, Int.toNat_of_nonneg (by omega), Int.toNat_of_nonneg (by omega)]
      omega
    · have e4 : ((W.toNat : Nat) : Int) = W := Int.toNat_of_nonneg (by omega)
      have e5 : (((1 + c / 5 % M).toNat : Nat) : Int) = 1 + c / 5 % M := Int.toNat_of_nonneg (by omega)
      rw [e4, e5]
      have hmn : ¬ most < 5 := by omega
      simp (disch := omega) [h, hmn, hW, d1, hM, e2]
/-! the yard -/
def yardD (G : Gs) (w h : Nat) (ts days : List D) : D := .ins G.c_Yard ["width", "height", "things", "days"] [.int w, .int h, .lst ts, .lst days]
theorem yinit_eq (G : Gs) (w h : Nat) (ts : List D) : φ_Yard_init G [.int w, .int h, .lst ts, .lst []] = some ([Str.ofString "width", Str.ofString "height", Str.ofString "things", Str.ofString "days"], [D.int w, D.int h, D.lst ts, D.lst []]) := by
  have n1 : ¬ (Str.ofString "height" = Str.ofString "width") := by decide
  have n2 : ¬ (Str.ofString "things" = Str.ofString "width") := by decide
  have n3 : ¬ (Str.ofString "things" = Str.ofString "height") := by decide
  have n4 : ¬ (Str.ofString "days" = Str.ofString "width") := by decide
  have n5 : ¬ (Str.ofString "days" = Str.ofString "height") := by decide
  have n6 : ¬ (Str.ofString "days" = Str.ofString "things") := by decide
  unfold φ_Yard_init l_Yard_init
  simp [runInit_cons, runInit_nil, n1, n2, n3, n4, n5, n6, comp]
theorem f_width (G : Gs) (w h : Nat) (ts days : List D) : fldD [G.c_Yard] "width" (yardD G w h ts days) = some (.sh (.int w)) := by
  unfold yardD
  simp [fldD_ins]
theorem f_height (G : Gs) (w h : Nat) (ts days : List D) : fldD [G.c_Yard] "height" (yardD G w h ts days) = some (.sh (.int h)) := by
  have n1 : (Str.ofString "height" == Str.ofString "width") = false := by decide
  unfold yardD
  simp [fldD_ins, List.lookup, n1]
theorem f_things (G : Gs) (w h : Nat) (ts days : List D) : fldD [G.c_Yard] "things" (yardD G w h ts days) = some (.sh (.lst ts)) := by
  have n2 : (Str.ofString "things" == Str.ofString "width") = false := by decide
  have n3 : (Str.ofString "things" == Str.ofString "height") = false := by decide
  unfold yardD
  simp [fldD_ins, List.lookup, n2, n3]
def stN (w n : Nat) : P2 := ((n : Int) % (w : Int), (n : Int) / (w : Int))
theorem stN_ok {w n : Nat} (hw : 1 ≤ w) (hn : n < 1000) : StOk (stN w n) := by
  have a1 := Int.emod_nonneg (n : Int) (show (w : Int) ≠ 0 by omega)
  have a2 := Int.emod_lt_of_pos (n : Int) (show 0 < (w : Int) by omega)
  have a3 : 0 ≤ (n : Int) / w := Int.ediv_nonneg (by omega) (by omega)
  have a4 : (n : Int) / w ≤ n := Int.ediv_le_self _ (by omega)
  have a5 : (n : Int) % w ≤ n := by
    have := Int.emod_add_mul_ediv (n : Int) w
    have : 0 ≤ (w : Int) * ((n : Int) / w) := Int.mul_nonneg (by omega) a3
    omega
  unfold StOk stN
  simp only
  omega
theorem stN_num {w n : Nat} : (stN w n).2 * (w : Int) + (stN w n).1 = n := by
  unfold stN
  have := Int.emod_add_mul_ediv (n : Int) w
  simp only
  rw [Int.mul_comm]
  omega
theorem stones_eq (G : Gs) (w h : Nat) (ts days : List D) (hw : 1 ≤ w) (hm : w * h ≤ 400) : φ_all_stones G [yardD G w h ts days] = .ret (.sh (.lst ((List.range (w * h)).map fun n => pD (stN w n)))) := by
  have e1 := f_width G w h ts days
  have e2 := f_height G w h ts days
  have em : ((w : Int) * (h : Int)) = ((w * h : Nat) : Int) := (Int.natCast_mul w h).symm
  have hw20 : w ≤ 400 ∨ h = 0 := by
    rcases Nat.eq_zero_or_pos h with h0 | h0
    · exact .inr h0
    · exact .inl (Nat.le_trans (Nat.le_mul_of_pos_right w h0) hm)
  have mu : mulD (.int (w : Int)) (.int (h : Int)) = some (.sh (.int ((w * h : Nat) : Int))) := by
    rw [← em]
    rcases hw20 with k | k
    · exact mulD_l (by omega) (by omega)
    · subst k; exact mulD_r (by omega) (by omega)
  generalize hmm : w * h = m at *
  have wb : ((w : Int) < 18446744073709551616) ∨ m = 0 := by
    rcases hw20 with k | k
    · exact .inl (by omega)
    · subst k; exact .inr (by simpa using hmm.symm)
  have c1 : comp (kName 1) sYes (e_all_stones_1 G) [1] (rangeL 0 m) [] [some (.sh (yardD G w h ts days)), none] = .ok (.lst (((List.range m).map fun n => pD (stN w n)).map .sh)) [some (.sh (yardD G w h ts days)), none] := by
    unfold rangeL
    rw [comp_mapA (φ := fun (k : Nat) => D.int (0 + (k : Int))) (F := fun n => pD (stN w n))]
    · simp
    · intro k hk
      have hk := List.mem_range.mp hk
      have wb : (w : Int) < 18446744073709551616 := by omega
      have d1 : modD (.int (k : Int)) (.int (w : Int)) = some (.sh (.int ((k : Int) % w))) := modD_pos (by omega)
      have d2 : fdivD (.int (k : Int)) (.int (w : Int)) = some (.sh (.int ((k : Int) / w))) := fdivD_pos (by omega) wb
      simp (disch := omega) [e_all_stones_1, e1, d1, d2, stN, pD_mk]
  have hrl : (rangeL 0 m).length = m := by simp [rangeL]
  have hm7 : m ≤ 10000000 := by omega
  unfold φ_all_stones s_all_stones
  simp (disch := omega) [e1, e2, mu, c1, hrl, hm7]
/-- whether a thing shades a stone -/
def crB : CR → Bool
  | .ret (.sh (.bl b)) => b
  | _ => false
noncomputable def shB (G : Gs) (d : D) (r : P3) (w n : Nat) : Bool := crB (φ_shades G [d, pD (stN w n), p3D r])
def Thg (G : Gs) (d : D) : Prop := ∃ cs, ThIs G d cs ∧ (∀ p ∈ cs, C3 p) ∧ cs ≠ [] ∧ cs.length ≤ 8
theorem TW.thg {G : Gs} {wd : Str} {l : List Int} {cs : List P3} (h : TW wd l cs) : ∃ d, φ_thing_of G [.str wd, .lst (l.map .int)] = .ret (.sh d) ∧ Thg G d := by
  obtain ⟨C, t1, t2⟩ := thing_of_eq G h
  obtain ⟨hb, h0, h8⟩ := h.bd
  exact ⟨_, t1, cs, t2, hb, h0, h8⟩
theorem shB_eq {G : Gs} {d : D} (hd : Thg G d) {r : P3} (hr : RayOk r) {w n : Nat} (hw : 1 ≤ w) (hn : n < 1000) : φ_shades G [d, pD (stN w n), p3D r] = .ret (.sh (.bl (shB G d r w n))) := by
  obtain ⟨cs, h1, h2, h3, h4⟩ := hd
  obtain ⟨b, e1, _⟩ := shades_eq G d cs h1 h2 h3 h4 (stN w n) (stN_ok hw hn) r hr
  unfold shB
  rw [e1]
  rfl
theorem bor_nat (a b : Nat) : Builtin.bitOr (a : Int) (b : Int) = ((a ||| b : Nat) : Int) := by
  have h1 : ¬ 0 ≤ -(a : Int) - 1 := by omega
  have h2 : ¬ 0 ≤ -(b : Int) - 1 := by omega
  have h3 : (-(-(a : Int) - 1) - 1).toNat = a := by omega
  have h4 : (-(-(b : Int) - 1) - 1).toNat = b := by omega
  have e : Builtin.bitAnd (-(a : Int) - 1) (-(b : Int) - 1) = -((a ||| b : Nat) : Int) - 1 := by
    rw [PyProof.Rows.bitAnd_nn h1 h2]
    show -(((-(-(a : Int) - 1) - 1).toNat ||| (-(-(b : Int) - 1) - 1).toNat : Nat) : Int) - 1 = _
    rw [h3, h4]
  show -(Builtin.bitAnd (-(a : Int) - 1) (-(b : Int) - 1)) - 1 = _
  rw [e]
  omega
theorem band_nat (a b : Nat) : Builtin.bitAnd (a : Int) (b : Int) = ((a &&& b : Nat) : Int) := by
  have h1 : decide (0 ≤ (a : Int)) = true := decide_eq_true (by omega)
  have h2 : decide (0 ≤ (b : Int)) = true := decide_eq_true (by omega)
  simp only [Builtin.bitAnd, h1, h2, Int.toNat_natCast]
theorem two_nat (n : Nat) : (2 : Int) ^ n = ((2 ^ n : Nat) : Int) := by rw [Int.natCast_pow]; rfl
theorem bor2 (a n : Nat) : Builtin.bitOr (a : Int) ((2 : Int) ^ n) = ((a ||| 2 ^ n : Nat) : Int) := by rw [two_nat]; exact bor_nat _ _
theorem bits_go (G : Gs) (S : D) (w : Nat) (hw : 1 ≤ w) (hw2 : w ≤ 400) : ∀ (l : List Nat) (a : Nat), (∀ n ∈ l, n < 1000) → loop (kSeq 2 (kCons (kName 3) (kCons (kName 4) kNil))) (b_bits_of_1 G) [3, 4] (l.map fun n => pD (stN w n)) [some (.sh S), some (.sh (.int w)), some (.sh (.int (a : Int))), none, none] = .nx [some (.sh S), some (.sh (.int w)), some (.sh (.int ((l.foldl (fun a n => a ||| 2 ^ n) a : Nat) : Int))), none, none]
  | [], a, _ => by simp
  | n :: l, a, hl => by
    have ih := bits_go G S w hw hw2 l (a ||| 2 ^ n) fun m hm => hl m (List.mem_cons_of_mem _ hm)
    have hn := hl n List.mem_cons_self
    have en := stN_num (w := w) (n := n)
    have ok := stN_ok hw hn
    unfold StOk at ok
    rw [List.map_cons, List.foldl_cons, ← ih]
    refine loop_turn ?_
    have es : pD (stN w n) = .tup [.int (stN w n).1, .int (stN w n).2] := rfl
    rw [es]
    generalize stN w n = s at *
    have mu : mulD (.int s.2) (.int (w : Int)) = some (.sh (.int (s.2 * w))) := mulD_l (by omega) (by omega)
    have sh : shlD (.int 1) (.int (n : Int)) = some (.sh (.int ((2 ^ n : Nat) : Int))) := by
      rw [shlD_int (by omega) (by omega) (by decide) (by decide), Int.one_mul, Int.toNat_natCast, two_nat]
    simp (disch := omega) [b_bits_of_1, mu, en, sh, bor2]
theorem dark_of_eq (G : Gs) (w h : Nat) (ts days : List D) (hw : 1 ≤ w) (hm : w * h ≤ 400) (hh : 1 ≤ h) {d : D} (hd : Thg G d) {r : P3} (hr : RayOk r) : φ_dark_of G [yardD G w h ts days, d, p3D r] = .ret (.sh (.int ((bsum (shB G d r w) (w * h) : Nat) : Int))) := by
  have e0 := stones_eq G w h ts days hw hm
  have e1 := f_width G w h ts days
  have hw400 : w ≤ 400 := Nat.le_trans (Nat.le_mul_of_pos_right w hh) hm
  generalize w * h = m at *
  have c1 : comp (kName 3) (w_dark_of_2 G) (e_dark_of_1 G) [3] ((List.range m).map fun n => pD (stN w n)) [] [some (.sh (yardD G w h ts days)), some (.sh d), some (.sh (p3D r)), none] = .ok (.lst ((((List.range m).filter (shB G d r w)).map fun n => pD (stN w n)).map .sh)) [some (.sh (yardD G w h ts days)), some (.sh d), some (.sh (p3D r)), none] := by
    rw [comp_filA (φ := fun n => pD (stN w n)) (F := fun n => pD (stN w n)) (p := shB G d r w)]
    · simp
    · intro n hn
      have hn := List.mem_range.mp hn
      have q := shB_eq hd hr hw (show n < 1000 by omega)
      refine ⟨[some (.sh (yardD G w h ts days)), some (.sh d), some (.sh (p3D r)), some (.sh (pD (stN w n)))], [some (.sh (yardD G w h ts days)), some (.sh d), some (.sh (p3D r)), some (.sh (pD (stN w n)))], by simp, by simp [w_dark_of_2, q], by simp, fun _ => ⟨[some (.sh (yardD G w h ts days)), some (.sh d), some (.sh (p3D r)), some (.sh (pD (stN w n)))], by simp [e_dark_of_1], by simp⟩⟩
  have hm7 : m ≤ 10000000 := by omega
  have b1 : φ_bits_of G [.lst (((List.range m).filter (shB G d r w)).map fun n => pD (stN w n)), .int w] = .ret (.sh (.int ((bsum (shB G d r w) m : Nat) : Int))) := by
    have go := bits_go G (.lst (((List.range m).filter (shB G d r w)).map fun n => pD (stN w n))) w hw hw400 ((List.range m).filter (shB G d r w)) 0 (fun n hn => by have := List.mem_range.mp (List.mem_filter.mp hn).1; omega)
    rw [bsum_foldl] at go
    unfold φ_bits_of s_bits_of
    have go0 : loop (kSeq 2 (kCons (kName 3) (kCons (kName 4) kNil))) (b_bits_of_1 G) [3, 4] (((List.range m).filter (shB G d r w)).map fun n => pD (stN w n)) [some (.sh (.lst (((List.range m).filter (shB G d r w)).map fun n => pD (stN w n)))), some (.sh (.int w)), some (.sh (.int 0)), none, none] = _ := go
    generalize ((List.range m).filter (shB G d r w)).map (fun n => pD (stN w n)) = L at *
    simp [go0]
  unfold φ_dark_of s_dark_of
  generalize hL : ((List.range m).filter (shB G d r w)).map (fun n => pD (stN w n)) = L at *
  simp (disch := omega) [e0, c1, hm7, e1, b1]
theorem loop_ixA {g : D → DEnv → Option DEnv} {t : DEnv → Fl} {is : List Nat} (st : Nat → DEnv) : ∀ (n a : Nat), (∀ i, a ≤ i → i < a + n → (lpK (g (.int (i : Int)) (st i)) fun ρ1 => flp (t ρ1) (fun ρ2 => .nx (forget is ρ2)) fun _ => .bad) = .nx (st (i + 1))) → loop g t is (rangeL (a : Int) n) (st a) = .nx (st (a + n))
  | 0, a, _ => by simp
  | n + 1, a, h => by
    rw [rangeL_s, loop_turn (h a (Nat.le_refl a) (by omega))]
    have := loop_ixA st n (a + 1) fun i h1 h2 => h i (by omega) (by omega)
    rw [show ((a + 1 : Nat) : Int) = (a : Int) + 1 by omega] at this
    rw [this]
    congr 2
    omega
theorem loop_ix {g : D → DEnv → Option DEnv} {t : DEnv → Fl} {is : List Nat} (st : Nat → DEnv) (n : Nat) (h : ∀ i, i < n → (lpK (g (.int (i : Int)) (st i)) fun ρ1 => flp (t ρ1) (fun ρ2 => .nx (forget is ρ2)) fun _ => .bad) = .nx (st (i + 1))) : loop g t is (rangeL 0 n) (st 0) = .nx (st n) := by
  have := loop_ixA st n 0 fun i _ h2 => h i (by omega)
  rw [Nat.zero_add] at this
  exact this
theorem set_range {α : Type} {m i : Nat} {g : Nat → α} {y : α} : ((List.range m).map g).set i y = (List.range m).map fun n => if n = i then y else g n := by
  refine List.ext_getElem? fun j => ?_
  rw [List.getElem?_set]
  simp only [List.getElem?_map, List.length_map, List.length_range]
  by_cases h : i = j
  · subst h
    by_cases hm : i < m
    · simp [hm]
    · simp [hm]
  · have h' : ¬ j = i := fun z => h z.symm
    by_cases hm : j < m
    · simp [h, h', hm]
    · simp [h, hm]
theorem map_get {α : Type} {m n : Nat} {g : Nat → α} (h : n < m) : ((List.range m).map g)[n]? = some (g n) := by
  simp [h]
theorem ok_ints (k : Nat) (l : List Int) : (l.map D.int).all (D.ok k) = true := by
  rw [List.all_map]
  exact List.all_eq_true.mpr fun _ _ => by simp
theorem eqvs_one (l : List Int) (k : Int) : eqvs (l.map .int) [.int k] = decide (l = [k]) := by
  match l with
  | [] => simp
  | [a] => simp
  | a :: b :: l => simp
section
variable (G : Gs) (r : P3) (w : Nat) (ts : List D)
noncomputable def Bk (k n : Nat) : Bool := shB G (ts.getD k .non) r w n
theorem ts_get {k : Nat} (hk : k < ts.length) : ts[k]? = some (ts.getD k .non) := by
  rw [List.getD_eq_getElem?_getD, List.getElem?_eq_getElem hk]; rfl
end
theorem thg_get {G : Gs} {ts : List D} (ht : ∀ d ∈ ts, Thg G d) {k : Nat} (hk : k < ts.length) : Thg G (ts.getD k .non) := by
  rw [List.getD_eq_getElem?_getD, List.getElem?_eq_getElem hk]
  exact ht _ (List.getElem_mem _)
end My

namespace My
open PySem PySem.Spec L2 DL HU
/-! days, turns, the dark of a yard at a turn -/
/-- a comprehension of whose items only a law is known -/
theorem comp_ex {g : D → DEnv → Option DEnv} {f : DEnv → R Val} {ρ : DEnv} {is : List Nat} {P : D → Prop} : ∀ (l : List D) (acc : List Val), (∀ a, a ∈ l → ∃ y, P y ∧ (lpR (g a ρ) fun ρ1 => (f ρ1).bind fun x ρ2 => .ok x (forget is ρ2)) = .ok (.sh y) ρ) → ∃ ys : List D, ys.length = l.length ∧ (∀ y ∈ ys, P y) ∧ comp g sYes f is l acc ρ = .ok (.lst (acc ++ ys.map .sh)) ρ
  | [], acc, _ => ⟨[], rfl, by simp, by simp [comp]⟩
  | a :: l, acc, h => by
    obtain ⟨y, py, e⟩ := h a List.mem_cons_self
    obtain ⟨ys, h1, h2, h3⟩ := comp_ex l (acc ++ [.sh y]) fun b hb => h b (List.mem_cons_of_mem _ hb)
    refine ⟨y :: ys, by simp [h1], fun z hz => ?_, ?_⟩
    · rcases List.mem_cons.mp hz with rfl | hz
      · exact py
      · exact h2 z hz
    · rw [comp]
      cases e1 : g a ρ with
      | none => rw [e1] at e; cases e
      | some ρ1 =>
        rw [e1, lpR_s] at e
        simp only [sYes]
        cases e2 : f ρ1 with
        | ok x ρ2 =>
          rw [e2, R.bind_ok] at e
          cases e
          simp only
          rw [h3]
          simp
        | exc x ρ2 => rw [e2] at e; cases e
        | bad => rw [e2] at e; cases e
theorem sum_cast (l : List Nat) : ((l.map fun n => ((2 : Int) ^ n))).sum = (((l.map fun n => 2 ^ n).sum : Nat) : Int) := by
  induction l with
  | nil => rfl
  | cons a l ih => rw [List.map_cons, List.sum_cons, List.map_cons, List.sum_cons, ih, two_nat, Int.natCast_add]
theorem comp_mapV {α : Type} {g : D → DEnv → Option DEnv} {f : DEnv → R Val} {ρ : DEnv} {is : List Nat} (φ : α → D) (F : α → Val) : ∀ (l : List α) (acc : List Val), (∀ a, a ∈ l → (lpR (g (φ a) ρ) fun ρ1 => (f ρ1).bind fun x ρ2 => .ok x (forget is ρ2)) = .ok (F a) ρ) → comp g sYes f is (l.map φ) acc ρ = .ok (.lst (acc ++ l.map F)) ρ
  | [], acc, _ => by simp [comp]
  | a :: l, acc, h => by
    have e := h a List.mem_cons_self
    have ih := comp_mapV φ F l (acc ++ [F a]) fun b hb => h b (List.mem_cons_of_mem _ hb)
    rw [List.map_cons, comp]
    cases e1 : g (φ a) ρ with
    | none => rw [e1] at e; cases e
    | some ρ1 =>
      rw [e1] at e
      simp only [lpR_s] at e
      simp only [sYes_ap]
      cases e2 : f ρ1 with
      | bad => rw [e2] at e; cases e
      | exc _ _ => rw [e2] at e; cases e
      | ok x ρ2 =>
        rw [e2] at e
        simp only [R.bind_ok, R.ok.injEq] at e
        simp only [e.1, e.2]
        rw [ih]
        simp
abbrev Tn := Option P3
def tnD (t : Tn) : D := match t with
  | none => .non
  | some r => p3D r
def TnOk (t : Tn) : Prop := ∀ r, t = some r → RayOk r
structure Dy where
  name : Str
  many : Int
  turns : List Tn
def dyD (d : Dy) : D := .tup [.str d.name, .int d.many, .lst (d.turns.map tnD)]
def DyOk (d : Dy) : Prop := (1 ≤ d.many ∧ d.many ≤ 1000000000) ∧ d.turns.length ≤ 24 ∧ ∀ t ∈ d.turns, TnOk t
theorem len5 {L : List Int} (h : L.length = 5) : ∃ a b c d e, L = [a, b, c, d, e] := by
  match L, h with
  | [a, b, c, d, e], _ => exact ⟨a, b, c, d, e, rfl⟩
theorem yinit2 (G : Gs) (w h : Nat) (ts : List D) (days : List Dy) (hd : days.length ≤ 100) : φ_Yard_init G [.int w, .int h, .lst ts, .lst (days.map dyD)] = some ([Str.ofString "width", Str.ofString "height", Str.ofString "things", Str.ofString "days"], [D.int w, D.int h, D.lst ts, D.lst (days.map dyD)]) := by
  have n1 : ¬ (Str.ofString "height" = Str.ofString "width") := by decide
  have n2 : ¬ (Str.ofString "things" = Str.ofString "width") := by decide
  have n3 : ¬ (Str.ofString "things" = Str.ofString "height") := by decide
  have n4 : ¬ (Str.ofString "days" = Str.ofString "width") := by decide
  have n5 : ¬ (Str.ofString "days" = Str.ofString "height") := by decide
  have n6 : ¬ (Str.ofString "days" = Str.ofString "things") := by decide
  have c := comp_mapV (g := kSeq 3 (kCons (kName 5) (kCons (kName 6) (kCons (kName 7) kNil)))) (f := e_Yard_init_1 G) (is := [5, 6, 7]) (ρ := [none, some (.sh (.int w)), some (.sh (.int h)), some (.sh (.lst ts)), some (.sh (.lst (days.map dyD))), none, none, none]) dyD (fun d => .tup [.sh (.str d.name), .sh (.int d.many), .lst ((d.turns.map tnD).map .sh)]) days [] (fun d hd => by
    unfold dyD
    generalize d.turns.map tnD = T
    simp (disch := omega) [e_Yard_init_1])
  rw [List.nil_append] at c
  have hf : fzs (days.map fun d => Val.tup [.sh (.str d.name), .sh (.int d.many), .lst ((d.turns.map tnD).map .sh)]) = days.map dyD := by
    rw [fzs_map, List.map_map]
    refine List.map_congr_left fun d _ => ?_
    show Val.fz (.tup [.sh (.str d.name), .sh (.int d.many), .lst ((d.turns.map tnD).map .sh)]) = dyD d
    unfold dyD
    generalize d.turns.map tnD = T
    simp
  have hl7 : (days.map dyD).length ≤ 10000000 := by rw [List.length_map]; omega
  unfold φ_Yard_init l_Yard_init
  generalize (days.map fun d => Val.tup [.sh (.str d.name), .sh (.int d.many), .lst ((d.turns.map tnD).map .sh)]) = V at *
  generalize days.map dyD = L at *
  simp [runInit_cons, runInit_nil, n1, n2, n3, n4, n5, n6, c, hf, hl7]
theorem f_days (G : Gs) (w h : Nat) (ts days : List D) : fldD [G.c_Yard] "days" (yardD G w h ts days) = some (.sh (.lst days)) := by
  have n2 : (Str.ofString "days" == Str.ofString "width") = false := by decide
  have n3 : (Str.ofString "days" == Str.ofString "height") = false := by decide
  have n4 : (Str.ofString "days" == Str.ofString "things") = false := by decide
  unfold yardD
  simp [fldD_ins, List.lookup, n2, n3, n4]
/-- whether stone n is dark at a turn -/
noncomputable def dkB (G : Gs) (w : Nat) (ts : List D) (t : Tn) (n : Nat) : Bool := match t with
  | none => true
  | some r => ts.any fun d => shB G d r w n
theorem dark_go (G : Gs) (Y : D) (r : P3) (w m : Nat) (e2 : ∀ d, Thg G d → φ_dark_of G [Y, d, p3D r] = .ret (.sh (.int ((bsum (shB G d r w) m : Nat) : Int)))) : ∀ (l : List D) (f : Nat → Bool), (∀ d ∈ l, Thg G d) → loop (kName 3) (b_dark_1 G) [3] l [some (.sh Y), some (.sh (p3D r)), some (.sh (.int ((bsum f m : Nat) : Int))), none] = .nx [some (.sh Y), some (.sh (p3D r)), some (.sh (.int ((bsum (fun n => f n || l.any fun d => shB G d r w n) m : Nat) : Int))), none]
  | [], f, _ => by
    have : bsum (fun n => f n || ([] : List D).any fun d => shB G d r w n) m = bsum f m := bsum_ext fun i _ => by simp
    rw [this]
    simp
  | d :: l, f, hl => by
    have ih := dark_go G Y r w m e2 l (fun n => f n || shB G d r w n) fun x hx => hl x (List.mem_cons_of_mem _ hx)
    have e1 : bsum (fun n => (f n || shB G d r w n) || l.any fun d => shB G d r w n) m = bsum (fun n => f n || (d :: l).any fun d => shB G d r w n) m := bsum_ext fun i _ => by simp [Bool.or_assoc]
    rw [e1] at ih
    rw [← ih]
    refine loop_turn ?_
    have q := e2 d (hl d List.mem_cons_self)
    have e4 : Builtin.bitOr ((bsum f m : Nat) : Int) ((bsum (shB G d r w) m : Nat) : Int) = ((bsum (fun n => f n || shB G d r w n) m : Nat) : Int) := by rw [bor_nat, bsum_or2]
    generalize ((bsum f m : Nat) : Int) = x at *
    generalize ((bsum (shB G d r w) m : Nat) : Int) = y at *
    generalize ((bsum (fun n => f n || shB G d r w n) m : Nat) : Int) = z at *
    simp (disch := omega) [b_dark_1, q, e4]
theorem dark_eq (G : Gs) (w h : Nat) (ts days : List D) (hw : 1 ≤ w) (hm : w * h ≤ 400) (hh : 1 ≤ h) (ht : ∀ d ∈ ts, Thg G d) {t : Tn} (hr : TnOk t) : φ_dark G [yardD G w h ts days, tnD t] = .ret (.sh (.int ((bsum (dkB G w ts t) (w * h) : Nat) : Int))) := by
  have f1 := f_width G w h ts days
  have f2 := f_height G w h ts days
  have f3 := f_things G w h ts days
  cases t with
  | none =>
    have mu : mulD (.int (w : Int)) (.int (h : Int)) = some (.sh (.int ((w * h : Nat) : Int))) := by
      have hw400 : w ≤ 400 := Nat.le_trans (Nat.le_mul_of_pos_right w hh) hm
      rw [Int.natCast_mul]; exact mulD_l (by omega) (by omega)
    generalize yardD G w h ts days = Y at *
    generalize w * h = m at *
    have sh : shlD (.int 1) (.int (m : Int)) = some (.sh (.int ((2 ^ m : Nat) : Int))) := by
      rw [shlD_int (by omega) (by omega) (by decide) (by decide), Int.one_mul, Int.toNat_natCast, two_nat]
    have e : bsum (dkB G w ts none) m + 1 = 2 ^ m := bsum_all m
    have e2 : ((2 ^ m : Nat) : Int) - 1 = ((bsum (dkB G w ts none) m : Nat) : Int) := by rw [← e]; omega
    unfold φ_dark s_dark tnD
    generalize ((2 ^ m : Nat) : Int) = z at *
    generalize ((bsum (dkB G w ts none) m : Nat) : Int) = y at *
    simp (disch := omega) [f1, f2, mu, sh, e2]
  | some r =>
    have go := dark_go G (yardD G w h ts days) r w (w * h) (fun d hd => dark_of_eq G w h ts days hw hm hh hd (hr r rfl)) ts (fun _ => false) ht
    have z0 : ∀ m, bsum (fun _ => false) m = 0 := fun m => by induction m with | zero => rfl | succ m ih => show 0 + bsum (fun _ => false) m = 0; omega
    rw [z0] at go
    have e1 : bsum (fun n => false || ts.any fun d => shB G d r w n) (w * h) = bsum (dkB G w ts (some r)) (w * h) := bsum_ext fun i _ => by simp [dkB]
    rw [e1] at go
    have go : loop (kName 3) (b_dark_1 G) [3] ts [some (.sh (yardD G w h ts days)), some (.sh (p3D r)), some (.sh (.int 0)), none] = _ := go
    have np : isN (p3D r) = false := rfl
    unfold φ_dark s_dark tnD
    generalize yardD G w h ts days = Y at *
    generalize ((bsum (dkB G w ts (some r)) (w * h) : Nat) : Int) = y at *
    simp (disch := omega) [f3, go, np]
end My

namespace My
open PySem PySem.Spec L2 DL HU
noncomputable def restB (G : Gs) : DEnv → Fl := (sSeq (sSet 8 (sFz (sComp (sItems (sVar 4)) (kName 15) sYes (e_law_3 G) [15]))) (sSeq (sSet 9 (sFz (sCall (φ_law_laid G) 1 (sCons (sVar 8) sNil)))) (sSeq (sIf (sOr (sNot (sTst (sCall (φ_law_right G) 2 (sCons (sCall (φ_dark G) 2 (sCons (sVar 7) (sCons (sC .non) sNil))) (sCons (sOp subD (sOp shlD (sC (.int 1)) (sOp mulD (sIxV 1 (sC (.int 0))) (sIxV 1 (sC (.int 1))))) (sC (.int 1))) sNil))))) (sNot (sTst (sCall (φ_law_right G) 2 (sCons (sCall (φ_dark G) 2 (sCons (sVar 7) (sCons (sVar 2) sNil))) (sCons (sVar 9) sNil)))))) (sRet (sC (.bl false))) sSkip) (sSeq (sIf (sNot (sTst (sCB (g1 allD) (sCons (sComp (sRange rng1 (sCons (sLenV 4) sNil)) (kName 16) sYes (e_law_4 G) [16]) sNil)))) (sRet (sC (.bl false))) sSkip) (sSeq (sAsg (sCall (φ_law_thing G) 2 (sCons (sCall (φ_law_at G) 2 (sCons (sVar 0) (sCons (sC (.int 7)) sNil))) (sCons (sCB (orC (g1 maxD) (g1 maxTD)) (sCons (sVar 1) sNil)) sNil))) (kSeq 2 (kCons (kName 10) (kCons (kName 11) kNil)))) (sSeq (sSet 12 (sFz (sCall (φ_thing_of G) 2 (sCons (sVar 10) (sCons (sCB (g1 listD) (sCons (sVar 11) sNil)) sNil))))) (sSeq (sIf (sNot (sTst (sCall (φ_law_right G) 2 (sCons (sCall (φ_dark_of G) 3 (sCons (sVar 7) (sCons (sVar 12) (sCons (sVar 2) sNil)))) (sCons (sCall (φ_law_set G) 3 (sCons (sVar 1) (sCons (sVar 12) (sCons (sVar 2) sNil)))) sNil))))) (sRet (sC (.bl false))) sSkip) (sSeq (sSet 13 (sFz (sMake G.c_Yard (φ_Yard_init G) 4 (sCons (sIxV 1 (sC (.int 0))) (sCons (sIxV 1 (sC (.int 1))) (sCons (sUn revD (sVar 4)) (sCons (sLst sNil) sNil))))))) (sSeq (sIf (sNot (sTst (sCall (φ_law_right G) 2 (sCons (sCall (φ_dark G) 2 (sCons (sVar 13) (sCons (sVar 2) sNil))) (sCons (sVar 9) sNil))))) (sRet (sC (.bl false))) sSkip) (sRet (sAndV (sCall (φ_law_right G) 2 (sCons (sCall (φ_dark G) 2 (sCons (sVar 7) (sCons (sVar 2) sNil))) (sCons (sVar 9) sNil))) (sCall (φ_law_fields G) 4 (sCons (sVar 7) (sCons (sVar 1) (sCons (sVar 4) (sCons (sVar 2) sNil))))))))))))))))
noncomputable def blk (G : Gs) : DEnv → Fl := (sSeq (sSet 5 (sListO 4)) (sSeq (sSet 6 (sLst (sCons (sTup (sCons (sC (.str "ab")) (sCons (sC (.int 3)) (sCons (sLst (sCons (sVar 2) (sCons (sC .non) sNil))) sNil)))) (sCons (sTup (sCons (sC (.str "a")) (sCons (sC (.int 1)) (sCons (sLst (sCons (sC .non) sNil)) sNil)))) sNil)))) (sSeq (sSet 7 (sFz (sLk (sMake G.c_Yard (φ_Yard_init G) 4 (sCons (sIxV 1 (sC (.int 0))) (sCons (sIxV 1 (sC (.int 1))) (sCons (sVar 5) (sCons (sVar 6) sNil)))))))) (sSeq (sIf (sOr (sTst (sNeS 5 4)) (sNot (sTst (sCall (φ_law_fields G) 4 (sCons (sVar 7) (sCons (sVar 1) (sCons (sVar 4) (sCons (sVar 2) sNil)))))))) (sRet (sC (.bl false))) sSkip) (sSeq (sClear 5) (sSeq (sClrP 6 [0, 2]) (sSeq (sClear 6) (restB G))))))))
noncomputable def rest (G : Gs) : DEnv → Fl := (sSeq (sSet 4 (sComp (sItems (sVar 3)) (kSeq 2 (kCons (kName 10) (kCons (kName 11) kNil))) sYes (e_law_2 G) [10, 11])) (sTagB 4 (blk G)))
/-! the law's defs -/
theorem lwhole_eq (G : Gs) (x : Int) : φ_law_whole G [.int x] = .ret (.sh (.bl true)) := by
  unfold φ_law_whole s_law_whole
  simp (disch := omega)
theorem lright_eq (G : Gs) (x : Int) : φ_law_right G [.int x, .int x] = .ret (.sh (.bl true)) := by
  have q := lwhole_eq G x
  unfold φ_law_right s_law_right
  simp (disch := omega) [q]
theorem llaid_go (G : Gs) (r : P3) (w m : Nat) (ds : List D) : ∀ (ts : List D) (f : Nat → Bool), loop (kName 2) (b_law_laid_1 G) [2] (ts.map fun d => D.int ((bsum (shB G d r w) m : Nat) : Int)) [some (.sh (.lst ds)), some (.sh (.int ((bsum f m : Nat) : Int))), none] = .nx [some (.sh (.lst ds)), some (.sh (.int ((bsum (fun n => f n || ts.any fun d => shB G d r w n) m : Nat) : Int))), none]
  | [], f => by
    have : bsum (fun n => f n || ([] : List D).any fun d => shB G d r w n) m = bsum f m := bsum_ext fun i _ => by simp
    rw [this]
    simp
  | d :: ts, f => by
    have e : (fun n => f n || (d :: ts).any fun d => shB G d r w n) = fun n => (f n || shB G d r w n) || ts.any fun d => shB G d r w n := by
      funext n
      rw [List.any_cons, Bool.or_assoc]
    rw [e, List.map_cons, ← llaid_go G r w m ds ts (fun n => f n || shB G d r w n)]
    refine loop_turn ?_
    have bo := bor_nat (bsum f m) (bsum (shB G d r w) m)
    rw [bsum_or2] at bo
    generalize ((bsum f m : Nat) : Int) = x at *
    generalize ((bsum (shB G d r w) m : Nat) : Int) = y at *
    generalize ((bsum (fun i => f i || shB G d r w i) m : Nat) : Int) = z at *
    simp (disch := omega) [b_law_laid_1, bo]
theorem llaid_eq (G : Gs) (r : P3) (w m : Nat) (ts : List D) (ds : List D) : loop (kName 2) (b_law_laid_1 G) [2] (ts.map fun d => D.int ((bsum (shB G d r w) m : Nat) : Int)) [some (.sh (.lst ds)), some (.sh (.int ((bsum (fun _ => false) m : Nat) : Int))), none] = .nx [some (.sh (.lst ds)), some (.sh (.int ((bsum (dkB G w ts (some r)) m : Nat) : Int))), none] := by
  have := llaid_go G r w m ds ts (fun _ => false)
  have e : (fun n => false || ts.any fun d => shB G d r w n) = dkB G w ts (some r) := by
    funext n
    rw [Bool.false_or]; rfl
  rw [e] at this
  exact this
theorem bsum_none (m : Nat) : bsum (fun _ => false) m = 0 := by
  induction m with
  | zero => rfl
  | succ m ih =>
    show (if false = true then 2 ^ m else 0) + bsum (fun _ => false) m = 0
    rw [ih]; rfl
theorem laid_eq (G : Gs) (r : P3) (w m : Nat) (ts : List D) (hl : ts.length ≤ 1000) : φ_law_laid G [.lst (ts.map fun d => D.int ((bsum (shB G d r w) m : Nat) : Int))] = .ret (.sh (.int ((bsum (dkB G w ts (some r)) m : Nat) : Int))) := by
  have lp := llaid_eq G r w m ts (ts.map fun d => D.int ((bsum (shB G d r w) m : Nat) : Int))
  rw [bsum_none] at lp
  have lp : loop (kName 2) (b_law_laid_1 G) [2] (ts.map fun d => D.int ((bsum (shB G d r w) m : Nat) : Int)) [some (.sh (.lst (ts.map fun d => D.int ((bsum (shB G d r w) m : Nat) : Int)))), some (.sh (.int 0)), none] = _ := lp
  have h7 : (ts.map fun d => D.int ((bsum (shB G d r w) m : Nat) : Int)).length ≤ 10000000 := by rw [List.length_map]; omega
  generalize (ts.map fun d => D.int ((bsum (shB G d r w) m : Nat) : Int)) = L at *
  generalize ((bsum (dkB G w ts (some r)) m : Nat) : Int) = z at *
  unfold φ_law_laid s_law_laid
  simp (disch := omega) [h7, lp]
theorem stN_at {w p q : Nat} (hp : p < w) : stN w (q * w + p) = ((p : Int), (q : Int)) := by
  have wpos : 0 < w := by omega
  unfold stN
  refine Prod.ext ?_ ?_
  · show ((q * w + p : Nat) : Int) % (w : Int) = p
    rw [← Int.natCast_emod, Nat.add_comm, Nat.add_mul_mod_self_right, Nat.mod_eq_of_lt hp]
  · show ((q * w + p : Nat) : Int) / (w : Int) = q
    rw [← Int.natCast_ediv, Nat.add_comm, Nat.add_mul_div_right _ _ wpos, Nat.div_eq_of_lt hp, Nat.zero_add]
section
variable (G : Gs) {w h : Nat} (hw : 1 ≤ w) (hw2 : w ≤ 20) (hh : 1 ≤ h) (hh2 : h ≤ 20) {r : P3} (hr : RayOk r)
include hw hw2 hh hh2 hr
theorem set_in {d : D} (hd : Thg G d) {q : Nat} (hq : q < h) : loop (kName 5) (b_law_set_1 G) [5] (rangeL 0 w) [some (.sh (.tup [.int w, .int h])), some (.sh d), some (.sh (p3D r)), some (.sh (.int ((bsum (shB G d r w) (q * w) : Nat) : Int))), some (.sh (.int (q : Int))), none] = .nx [some (.sh (.tup [.int w, .int h])), some (.sh d), some (.sh (p3D r)), some (.sh (.int ((bsum (shB G d r w) ((q + 1) * w) : Nat) : Int))), some (.sh (.int (q : Int))), none] := by
  have lp := loop_ix (g := kName 5) (t := b_law_set_1 G) (is := [5]) (fun p => [some (.sh (.tup [.int w, .int h])), some (.sh d), some (.sh (p3D r)), some (.sh (.int ((bsum (shB G d r w) (q * w + p) : Nat) : Int))), some (.sh (.int (q : Int))), none]) w (fun p hp => by
    have qw : q * w ≤ 19 * 20 := Nat.mul_le_mul (by omega) hw2
    have sb := shB_eq hd hr hw (n := q * w + p) (by omega)
    have ep : pD (stN w (q * w + p)) = .tup [.int (p : Int), .int (q : Int)] := by rw [stN_at hp]; rfl
    rw [ep] at sb
    have e : bsum (shB G d r w) (q * w + (p + 1)) = (if shB G d r w (q * w + p) = true then 2 ^ (q * w + p) else 0) + bsum (shB G d r w) (q * w + p) := rfl
    clear ep
    generalize en : q * w = n at sb e qw ⊢
    have mu : mulD (.int (q : Int)) (.int (w : Int)) = some (.sh (.int (n : Int))) := by rw [mulD_l (by omega) (by omega), ← Int.natCast_mul, en]
    have sh : shlD (.int 1) (.int ((n : Int) + (p : Int))) = some (.sh (.int ((2 ^ (n + p) : Nat) : Int))) := by
      rw [shlD_int (by omega) (by omega) (by decide) (by decide), Int.one_mul, show ((n : Int) + (p : Int)).toNat = n + p by omega, two_nat]
    rw [e]
    have fin : ((bsum (shB G d r w) (n + p) : Nat) : Int) + ((2 ^ (n + p) : Nat) : Int) = ((2 ^ (n + p) + bsum (shB G d r w) (n + p) : Nat) : Int) := by omega
    cases hb : shB G d r w (n + p) with
    | false =>
      rw [hb] at sb
      have e0 : ((if false = true then 2 ^ (n + p) else 0) + bsum (shB G d r w) (n + p)) = bsum (shB G d r w) (n + p) := by simp
      rw [e0]
      generalize ((bsum (shB G d r w) (n + p) : Nat) : Int) = x at *
      generalize p3D r = rd at *
      simp (disch := omega) [b_law_set_1, sb]
    | true =>
      rw [hb] at sb
      have e0 : ((if true = true then 2 ^ (n + p) else 0) + bsum (shB G d r w) (n + p)) = 2 ^ (n + p) + bsum (shB G d r w) (n + p) := by simp
      rw [e0]
      clear e0 e
      generalize ((2 ^ (n + p) + bsum (shB G d r w) (n + p) : Nat) : Int) = z at *
      generalize ((bsum (shB G d r w) (n + p) : Nat) : Int) = x at *
      generalize ((2 ^ (n + p) : Nat) : Int) = y at *
      generalize p3D r = rd at *
      simp (disch := omega) [b_law_set_1, sb, mu, sh, fin])
  rw [Nat.add_zero] at lp
  rw [show (q + 1) * w = q * w + w by rw [Nat.add_mul, Nat.one_mul]]
  exact lp
theorem set_eq {d : D} (hd : Thg G d) : φ_law_set G [.tup [.int w, .int h], d, p3D r] = .ret (.sh (.int ((bsum (shB G d r w) (w * h) : Nat) : Int))) := by
  have lp := loop_ix (g := kName 4) (t := b_law_set_2 G) (is := [5, 4]) (fun q => [some (.sh (.tup [.int w, .int h])), some (.sh d), some (.sh (p3D r)), some (.sh (.int ((bsum (shB G d r w) (q * w) : Nat) : Int))), none, none]) h (fun q hq => by
    have si := set_in G hw hw2 hh hh2 hr hd hq
    have r7 : (rangeL 0 w).length ≤ 10000000 := by simp [rangeL]; omega
    generalize ((bsum (shB G d r w) (q * w) : Nat) : Int) = x at *
    generalize ((bsum (shB G d r w) ((q + 1) * w) : Nat) : Int) = y at *
    generalize p3D r = rd at *
    simp (disch := omega) [b_law_set_2, r7, si])
  rw [Nat.zero_mul] at lp
  have lp : loop (kName 4) (b_law_set_2 G) [5, 4] (rangeL 0 h) [some (.sh (.tup [.int w, .int h])), some (.sh d), some (.sh (p3D r)), some (.sh (.int 0)), none, none] = _ := lp
  rw [Nat.mul_comm h w] at lp
  have r7 : (rangeL 0 h).length ≤ 10000000 := by simp [rangeL]; omega
  generalize ((bsum (shB G d r w) (w * h) : Nat) : Int) = y at *
  generalize p3D r = rd at *
  unfold φ_law_set s_law_set
  simp (disch := omega) [r7, lp]
end
/-! things -/
/-- a thing of the law: what it is made of is told -/
def ThQ (G : Gs) (d : D) : Prop := ∃ wd l cs, TW wd l cs ∧ d = thD (clsOf G wd) l
theorem ThQ.thg {G : Gs} {d : D} (h : ThQ G d) : Thg G d := by
  obtain ⟨wd, l, cs, t, rfl⟩ := h
  obtain ⟨d', e1, e2⟩ := t.thg (G := G)
  rw [(thing_of_eq2 G t).1] at e1
  cases e1
  exact e2
theorem ThQ.ins {G : Gs} {d : D} (h : ThQ G d) : insB d = true := by
  obtain ⟨wd, l, cs, t, rfl⟩ := h
  rfl
theorem clns_ints : ∀ l : List Int, clns (l.map .int) = true
  | [] => by simp [clns]
  | a :: l => by simp [clns, D.cln, clns_ints l]
theorem ThQ.cln {G : Gs} {d : D} (h : ThQ G d) : d.cln = true := by
  obtain ⟨wd, l, cs, t, rfl⟩ := h
  unfold thD
  simp [D.cln, clns, clns_ints]
theorem clns_thq {G : Gs} : ∀ {ts : List D}, (∀ d ∈ ts, ThQ G d) → clns ts = true
  | [], _ => by simp [clns]
  | d :: ts, h => by
    rw [clns, (h d List.mem_cons_self).cln, clns_thq fun e he => h e (List.mem_cons_of_mem _ he)]; rfl
/-- the days of the law -/
def dysD (r : P3) : List D := [.tup [.str (Str.ofString "ab"), .int 3, .lst [p3D r, .non]], .tup [.str (Str.ofString "a"), .int 1, .lst [.non]]]
theorem yinit3 (G : Gs) (w h : Nat) (ts : List D) (r : P3) : φ_Yard_init G [.int w, .int h, .scr ts, .scr [.tup [.str (Str.ofString "ab"), .int 3, .scr [p3D r, .non]], .tup [.str (Str.ofString "a"), .int 1, .scr [.non]]]] = some ([Str.ofString "width", Str.ofString "height", Str.ofString "things", Str.ofString "days"], [D.int w, D.int h, D.lst ts, D.lst (dysD r)]) := by
  have n1 : ¬ (Str.ofString "height" = Str.ofString "width") := by decide
  have n2 : ¬ (Str.ofString "things" = Str.ofString "width") := by decide
  have n3 : ¬ (Str.ofString "things" = Str.ofString "height") := by decide
  have n4 : ¬ (Str.ofString "days" = Str.ofString "width") := by decide
  have n5 : ¬ (Str.ofString "days" = Str.ofString "height") := by decide
  have n6 : ¬ (Str.ofString "days" = Str.ofString "things") := by decide
  unfold dysD
  generalize p3D r = rd
  unfold φ_Yard_init l_Yard_init
  simp [runInit_cons, runInit_nil, n1, n2, n3, n4, n5, n6, comp, e_Yard_init_1]
theorem yardD_cln (G : Gs) (w h : Nat) {ts : List D} (ht : ∀ d ∈ ts, ThQ G d) (r : P3) : (yardD G w h ts (dysD r)).cln = true := by
  have c := clns_thq ht
  unfold yardD dysD p3D
  simp [D.cln, clns, c]
theorem fields_eq (G : Gs) (w h : Nat) {ts : List D} (ht : ∀ d ∈ ts, ThQ G d) (hl : ts.length ≤ 1000) (r : P3) : φ_law_fields G [yardD G w h ts (dysD r), .tup [.int w, .int h], .lst ts, p3D r] = .ret (.sh (.bl true)) := by
  have f1 := f_width G w h ts (dysD r)
  have f2 := f_height G w h ts (dysD r)
  have f3 := f_things G w h ts (dysD r)
  have f4 := f_days G w h ts (dysD r)
  have q1 := lwhole_eq G (w : Int)
  have q2 := lwhole_eq G (h : Int)
  obtain ⟨ys, y1, y2, y3⟩ := comp_ex (g := kName 4) (f := e_law_fields_1 G) (is := [4]) (ρ := [some (.sh (yardD G w h ts (dysD r))), some (.sh (.tup [.int w, .int h])), some (.sh (.lst ts)), some (.sh (p3D r)), none]) (P := fun y => ∃ z, y = D.str z) ts [] (fun d hd => by
    obtain ⟨wd, l, cs, t, rfl⟩ := ht d hd
    have sm := shown_meth G t.w5 l
    have se := shown_eq G t.w5 t.pl.1 t.pl.2
    refine ⟨.str (Txt.join " " (wd :: l.map num)), ⟨_, rfl⟩, ?_⟩
    generalize thD (clsOf G wd) l = dd at *
    generalize yardD G w h ts (dysD r) = Y at *
    generalize p3D r = rd at *
    simp [e_law_fields_1, sm, se])
  rw [List.nil_append] at y3
  have e12 : e_law_fields_2 G = e_law_fields_1 G := rfl
  have fz : fzs (ys.map Val.sh) = ys := fzs_sh _
  have ok : ys.all (D.ok 19) = true := by
    rw [List.all_eq_true]
    intro y hy
    obtain ⟨z, rfl⟩ := y2 y hy
    exact ok_str
  have ok := eq_true (List.all_eq_true.mp ok)
  have ee : eqvs ys ys = true := by
    have go : ∀ l : List D, (∀ y ∈ l, ∃ z, y = D.str z) → eqvs l l = true := fun l => by
      induction l with
      | nil => intro _; simp
      | cons y l ih =>
        intro hl
        obtain ⟨z, rfl⟩ := hl y List.mem_cons_self
        have i := ih fun y hy => hl y (List.mem_cons_of_mem _ hy)
        simp [i]
    exact go ys y2
  have h7 : ts.length ≤ 10000000 := by omega
  have er : p3D r = .tup [.int r.1, .int r.2.1, .int r.2.2] := rfl
  have ed : dysD r = [.tup [.str (Str.ofString "ab"), .int 3, .lst [p3D r, .non]], .tup [.str (Str.ofString "a"), .int 1, .lst [.non]]] := rfl
  generalize yardD G w h ts (dysD r) = Y at *
  rw [ed, er] at f4
  rw [er] at y3 ⊢
  unfold φ_law_fields s_law_fields
  rw [e12]
  generalize ys.map Val.sh = YV at *
  simp (disch := omega) [f1, f2, f3, f4, q1, q2, h7, y3, fz, ok, ee]
end My

namespace My
open PySem PySem.Spec L2 DL HU
section
variable (G : Gs) {w h : Nat} (hw : 1 ≤ w) (hw2 : w ≤ 20) (hh : 1 ≤ h) (hh2 : h ≤ 20) {r : P3} (hr : RayOk r)
include hw hw2 hh hh2 hr
/-- the law's end, the things as data -/
theorem restB_eq (ns : List Int) (dd : D) {ts : List D} (ht : ∀ d ∈ ts, ThQ G d) (hl : ts.length ≤ 10) : (restB G [some (.sh (scrI ns)), some (.sh (.tup [.int w, .int h])), some (.sh (p3D r)), some (.sh dd), some (.sh (.lst ts)), some (.lst []), some (.lst []), some (.sh (yardD G w h ts (dysD r))), none, none, none, none, none, none, none, none, none]).cr = .ret (.sh (.bl true)) := by
  have hth : ∀ d ∈ ts, Thg G d := fun d hd => (ht d hd).thg
  have hm : w * h ≤ 400 := Nat.mul_le_mul hw2 hh2
  have hpos : 1 ≤ w * h := Nat.mul_le_mul hw hh
  have c1 := comp_mapA (g := kName 15) (f := e_law_3 G) (is := [15]) (ρ := [some (.sh (scrI ns)), some (.sh (.tup [.int w, .int h])), some (.sh (p3D r)), some (.sh dd), some (.sh (.lst ts)), some (.lst []), some (.lst []), some (.sh (yardD G w h ts (dysD r))), none, none, none, none, none, none, none, none, none]) (fun d : D => d) (fun d => D.int ((bsum (shB G d r w) (w * h) : Nat) : Int)) ts [] (fun d hd => by
    have q := set_eq G hw hw2 hh hh2 hr (hth d hd)
    generalize ((bsum (shB G d r w) (w * h) : Nat) : Int) = z at *
    generalize yardD G w h ts (dysD r) = Y at *
    generalize p3D r = rd at *
    simp [e_law_3, q])
  rw [List.map_id', List.nil_append] at c1
  have le := laid_eq G r w (w * h) ts (by omega)
  have dn := dark_eq G w h ts (dysD r) hw hm hh hth (t := none) (fun _ z => nomatch z)
  have dr := dark_eq G w h ts (dysD r) hw hm hh hth (t := some r) (fun _ z => by cases z; exact hr)
  have ba := bsum_all (w * h)
  have edn : (bsum (dkB G w ts none) (w * h) : Int) = ((2 ^ (w * h) : Nat) : Int) - 1 := by
    have : dkB G w ts none = fun _ => true := by funext n; rfl
    rw [this]
    omega
  have tn : tnD none = .non := rfl
  have tr : tnD (some r) = p3D r := rfl
  rw [tn, edn] at dn
  rw [tr] at dr
  have mu : mulD (.int (w : Int)) (.int (h : Int)) = some (.sh (.int ((w * h : Nat) : Int))) := by rw [mulD_l (by omega) (by omega), Int.natCast_mul]
  have sh : shlD (.int 1) (.int ((w * h : Nat) : Int)) = some (.sh (.int ((2 ^ (w * h) : Nat) : Int))) := by
    rw [shlD_int (by omega) (by omega) (by decide) (by decide), Int.one_mul, Int.toNat_natCast, two_nat]
  have lrt := fun x => lright_eq G x
  -- each thing
  have gts : ∀ k, k < ts.length → ∃ d, ts[k]? = some d ∧ d ∈ ts := fun k hk => ⟨ts[k], List.getElem?_eq_getElem hk, List.getElem_mem hk⟩
  have er : rangeL 0 ts.length = (List.range ts.length).map fun n : Nat => D.int (n : Int) := by
    unfold rangeL
    exact List.map_congr_left fun n _ => by rw [Int.zero_add]
  have c2 := comp_mapA (g := kName 16) (f := e_law_4 G) (is := [16]) (ρ := [some (.sh (scrI ns)), some (.sh (.tup [.int w, .int h])), some (.sh (p3D r)), some (.sh dd), some (.sh (.lst ts)), some (.lst []), some (.lst []), some (.sh (yardD G w h ts (dysD r))), some (.sh (.lst (ts.map fun d => D.int ((bsum (shB G d r w) (w * h) : Nat) : Int)))), some (.sh (.int ((bsum (dkB G w ts (some r)) (w * h) : Nat) : Int))), none, none, none, none, none, none, none]) (fun n : Nat => D.int (n : Int)) (fun _ => D.bl true) (List.range ts.length) [] (fun k hk => by
    have hk := List.mem_range.mp hk
    obtain ⟨d, g1, hd⟩ := gts k hk
    have q := dark_of_eq G w h ts (dysD r) hw hm hh (hth d hd) hr
    have g2 : (ts.map fun d => D.int ((bsum (shB G d r w) (w * h) : Nat) : Int))[k]? = some (.int ((bsum (shB G d r w) (w * h) : Nat) : Int)) := by rw [List.getElem?_map, g1]; rfl
    have lr := lrt ((bsum (shB G d r w) (w * h) : Nat) : Int)
    obtain ⟨i1, g1⟩ := List.getElem?_eq_some_iff.mp g1
    obtain ⟨i2, g2⟩ := List.getElem?_eq_some_iff.mp g2
    generalize ((bsum (shB G d r w) (w * h) : Nat) : Int) = z at *
    generalize (ts.map fun d => D.int ((bsum (shB G d r w) (w * h) : Nat) : Int)) = SS at *
    generalize yardD G w h ts (dysD r) = Y at *
    generalize p3D r = rd at *
    generalize ((bsum (dkB G w ts (some r)) (w * h) : Nat) : Int) = due at *
    simp (disch := omega) [e_law_4, g1, g2, q, lr])
  rw [List.nil_append, ← er] at c2
  have hall : allD (.lst ((List.range ts.length).map fun _ => D.bl true)) = some (.sh (.bl true)) := by
    have e : ((List.range ts.length).map fun _ => D.bl true) = ((List.range ts.length).map fun _ => true).map D.bl := by rw [List.map_map]; rfl
    rw [e, allL_map]
    have e2 : (((List.range ts.length).map fun _ => true).all fun b => b) = true := by
      rw [List.all_map, List.all_eq_true]
      exact fun _ _ => rfl
    rw [e2]
  have fz2 : fzs (((List.range ts.length).map fun _ => D.bl true).map Val.sh) = (List.range ts.length).map fun _ => D.bl true := fzs_sh _
  have fz1 : fzs ((ts.map fun d => D.int ((bsum (shB G d r w) (w * h) : Nat) : Int)).map Val.sh) = ts.map fun d => D.int ((bsum (shB G d r w) (w * h) : Nat) : Int) := fzs_sh _
  -- one more
  have a7 := law_at_eq G ns 7 (by decide)
  have hmax : 1 ≤ max (w : Int) (h : Int) ∧ max (w : Int) (h : Int) ≤ 20 := by omega
  obtain ⟨wd, l, cs, t1, t2⟩ := thing_is G (cellI ns 7) (max (w : Int) (h : Int)) hmax.1 hmax.2
  have to := (thing_of_eq2 G t1).1
  have mq : ThQ G (thD (clsOf G wd) l) := ⟨wd, l, cs, t1, rfl⟩
  have dm := dark_of_eq G w h ts (dysD r) hw hm hh mq.thg hr
  have sm := set_eq G hw hw2 hh hh2 hr mq.thg
  have lm := lrt ((bsum (shB G (thD (clsOf G wd) l) r w) (w * h) : Nat) : Int)
  -- the other way about
  have iy := yinit_eq G w h ts.reverse
  have dv := dark_eq G w h ts.reverse [] hw hm hh (fun d hd => hth d (List.mem_reverse.mp hd)) (t := some r) (fun _ z => by cases z; exact hr)
  have ev : dkB G w ts.reverse (some r) = dkB G w ts (some r) := by
    funext n
    exact List.any_reverse
  rw [ev, tr] at dv
  have fe := fields_eq G w h ht (by omega) r
  have l2 := lrt ((2 ^ (w * h) : Nat) - 1 : Int)
  have l3 := lrt ((bsum (dkB G w ts (some r)) (w * h) : Nat) : Int)
  have h7 : ts.length ≤ 10000000 := by omega
  have r7 : (rangeL 0 ts.length).length ≤ 10000000 := by simp [rangeL]; omega
  have eyv : yardD G w h ts.reverse [] = .ins G.c_Yard ["width", "height", "things", "days"] [.int w, .int h, .lst ts.reverse, .lst []] := rfl
  rw [eyv] at dv
  have fzr : fzs ((ts.map Val.sh).reverse) = ts.reverse := by rw [← List.map_reverse, fzs_sh]
  have fzr2 : fzs (ts.reverse.map Val.sh) = ts.reverse := fzs_sh _
  have fzl : fzs ((l.map D.int).map Val.sh) = l.map D.int := fzs_sh _
  clear lrt gts ba edn er ev
  generalize thD (clsOf G wd) l = md at *
  generalize ((bsum (shB G md r w) (w * h) : Nat) : Int) = mz at *
  generalize ((List.range ts.length).map fun _ => D.bl true) = BT at *
  generalize BT.map Val.sh = BV at *
  generalize (ts.map fun d => D.int ((bsum (shB G d r w) (w * h) : Nat) : Int)).map Val.sh = SV at *
  generalize (ts.map fun d => D.int ((bsum (shB G d r w) (w * h) : Nat) : Int)) = SS at *
  generalize ((bsum (dkB G w ts (some r)) (w * h) : Nat) : Int) = due at *
  generalize ((2 ^ (w * h) : Nat) : Int) = tp at *
  generalize yardD G w h ts (dysD r) = Y at *
  generalize w * h = m at *
  generalize p3D r = rd at *
  generalize l.map D.int = li at *
  unfold restB
  simp (disch := omega) [h7, c1, fz1, le, dn, mu, sh, l2, dr, l3, r7, c2, fz2, hall, a7, t2, to, dm, sm, lm, iy, dv, fe, fzr, fzr2, fzl]
/-- the law from the things on -/
theorem rest_eq (ns : List Int) (ys : List D) (hy : ∀ y ∈ ys, ∃ wd l cs, TW wd l cs ∧ y = .tup [.str wd, .lst (l.map .int)]) (hyl : ys.length ≤ 10) :
    (rest G [some (.sh (scrI ns)), some (.sh (.tup [.int w, .int h])), some (.sh (p3D r)), some (.sh (.lst ys)), none, none, none, none, none, none, none, none, none, none, none, none, none]).cr = .ret (.sh (.bl true)) := by
  obtain ⟨ts, t1, t2, t3⟩ := comp_ex (g := kSeq 2 (kCons (kName 10) (kCons (kName 11) kNil))) (f := e_law_2 G) (is := [10, 11]) (ρ := [some (.sh (scrI ns)), some (.sh (.tup [.int w, .int h])), some (.sh (p3D r)), some (.sh (.lst ys)), none, none, none, none, none, none, none, none, none, none, none, none, none]) (P := ThQ G) ys [] (fun x hx => by
    obtain ⟨wd, l, cs, q1, rfl⟩ := hy x hx
    have e1 := (thing_of_eq2 G q1).1
    refine ⟨_, ⟨wd, l, cs, q1, rfl⟩, ?_⟩
    generalize thD (clsOf G wd) l = md at *
    generalize p3D r = rd at *
    simp (disch := omega) [e_law_2, e1])
  rw [List.nil_append] at t3
  have hins : ts.all insB = true := List.all_eq_true.mpr fun d hd => (t2 d hd).ins
  have iy := yinit3 G w h ts r
  have yc := yardD_cln G w h t2 r
  have fe := fields_eq G w h t2 (by omega) r
  have eyv : yardD G w h ts (dysD r) = .ins G.c_Yard ["width", "height", "things", "days"] [.int w, .int h, .lst ts, .lst (dysD r)] := rfl
  have key : ∀ ps : List Addr, ps.length = ts.length → blk G ([some (.sh (scrI ns)), some (.sh (.tup [.int w, .int h])), some (.sh (p3D r)), some (.sh (.lst ys)), some (.lst (tagd ps ts)), none, none, none, none, none, none, none, none, none, none, none, none]) = restB G [some (.sh (scrI ns)), some (.sh (.tup [.int w, .int h])), some (.sh (p3D r)), some (.sh (.lst ys)), some (.sh (.lst ts)), some (.lst []), some (.lst []), some (.sh (yardD G w h ts (dysD r))), none, none, none, none, none, none, none, none, none] := fun ps hp => by
    have k1 := tagd_shb ps ts
    have k2 := tagd_ats ps ts hp
    have k3 := tagd_fz ps ts hp
    have k4 := tagd_lk ps ts hp
    have k5 := tagd_deep ps ts
    have hE : ∀ a b c d : Val, ∀ zs : List Val, editA clrE [0, 2] (.lst [.tup [a, b, .lst zs], c]) = some (.lst [.tup [a, b, .lst []], c]) := fun _ _ _ _ _ => rfl
    have hE := fun a b c zs => hE a b c c zs
    have nes := fun (ρ : DEnv) (h1 : ρ[5]? = some (some (.lst (tagd ps ts)))) (h2 : ρ[4]? = some (some (.lst (tagd ps ts)))) => sNeS_ap h1 h2 k2 k2
    rw [eyv] at yc fe ⊢
    generalize dysD r = DY at *
    generalize p3D r = rd at *
    generalize tagd ps ts = TG at *
    have nes1 := nes [some (.sh (scrI ns)), some (.sh (.tup [.int w, .int h])), some (.sh rd), some (.sh (.lst ys)), some (.lst TG), some (.lst TG), some (.lst [.tup [.sh (.str (Str.ofString "ab")), .sh (.int 3), .lst [.sh rd, .sh .non]], .tup [.sh (.str (Str.ofString "a")), .sh (.int 1), .lst [.sh .non]]]), some (.sh (.ins G.c_Yard ["width", "height", "things", "days"] [.int w, .int h, .lst ts, .lst DY])), none, none, none, none, none, none, none, none, none] rfl rfl
    unfold blk
    generalize restB G = RG at *
    simp (disch := omega) [k1, k3, k4, k5, Val.deep, deeps, Val.inner, iy, yc, nes1, fe, hE]
  have tb := tagB_eq (i := 4) (f := blk G) (ρ := [some (.sh (scrI ns)), some (.sh (.tup [.int w, .int h])), some (.sh (p3D r)), some (.sh (.lst ys)), some (.lst (ts.map .sh)), none, none, none, none, none, none, none, none, none, none, none, none]) hins key
  have rb := restB_eq G hw hw2 hh hh2 hr ns (.lst ys) t2 (by omega)
  have h7 : ys.length ≤ 10000000 := by omega
  generalize restB G = RG at *
  generalize yardD G w h ts (dysD r) = Y at *
  generalize p3D r = rd at *
  unfold rest
  generalize blk G = BG at *
  simp (disch := omega) [h7, t3, tb, rb]
end
theorem law_true (G : Gs) (ns : List Int) (hl : ns.length ≤ 63) : φ_law G [scrI ns] = .ret (.sh (.bl true)) := by
  have a0 := law_at_eq G ns 0 (by decide)
  have a1 := law_at_eq G ns 1 (by decide)
  obtain ⟨w, h, w1, w2, h1, h2, wh, es⟩ := size_eq G (cellI ns 0) 12 (.inr rfl)
  obtain ⟨r, hr, yr⟩ := yray_eq G (cellI ns 1)
  have hsl : slD (some 2) (some 7) (scrI ns) = some (.lst (((segI ns 2 7).map D.int).map .sh)) := by
    rw [List.map_map]; exact slD_scr (ns := ns) (i := 2) (j := 7) (by decide) (by decide)
  have hsl2 := segI_le ns 2 7
  have hmax : 1 ≤ max (w : Int) (h : Int) ∧ max (w : Int) (h : Int) ≤ 20 := by omega
  obtain ⟨ys, y1, y2, y3⟩ := comp_ex (g := kName 14) (f := e_law_1 G) (is := [14]) (ρ := [some (.sh (scrI ns)), some (.sh (.tup [.int w, .int h])), some (.sh (p3D r)), none, none, none, none, none, none, none, none, none, none, none, none, none, none]) (P := fun y => ∃ wd l cs, TW wd l cs ∧ y = .tup [.str wd, .lst (l.map .int)]) ((segI ns 2 7).map D.int) [] (fun x hx => by
    obtain ⟨c, rfl⟩ := mem_mapI hx
    obtain ⟨wd, l, cs, t1, t2⟩ := thing_is G c (max (w : Int) (h : Int)) hmax.1 hmax.2
    refine ⟨_, ⟨wd, l, cs, t1, rfl⟩, ?_⟩
    generalize p3D r = rd at *
    simp (disch := omega) [e_law_1, t2])
  rw [List.nil_append] at y3
  have hys : ys.length ≤ 5 := by rw [y1, List.length_map]; omega
  have hsg2 : ((segI ns 2 7).map D.int).length ≤ 10000000 := by rw [List.length_map]; omega
  have e : s_law G = sSeq _ (sSeq _ (sSeq _ (sSeq _ (rest G)))) := rfl
  unfold φ_law
  rw [e]
  by_cases hb : cellI ns 1 / 7 % 16 = 9
  · have cu : cutD ys none (some 1) = ys.take 1 := cutD_nl (by decide)
    have hy1 : ∀ y ∈ ys.take 1, ∃ wd l cs, TW wd l cs ∧ y = .tup [.str wd, .lst (l.map .int)] := fun y hy => y2 y (List.mem_of_mem_take hy)
    have hyl : (ys.take 1).length ≤ 10 := by rw [List.length_take]; omega
    have hm : cellI ns 1 / 112 % 2 = 0 ∨ cellI ns 1 / 112 % 2 = 1 := by omega
    rcases hm with hm | hm
    · have rr := rest_eq G (w := 20) (h := 2) (by decide) (by decide) (by decide) (by decide) hr ns (ys.take 1) hy1 hyl
      have rr : (rest G [some (.sh (scrI ns)), some (.sh (.tup [.int 20, .int 2])), some (.sh (p3D r)), some (.sh (.lst (ys.take 1))), none, none, none, none, none, none, none, none, none, none, none, none, none]).cr = .ret (.sh (.bl true)) := rr
      generalize rest G = RG at *
      generalize ys.take 1 = ys1 at *
      generalize (segI ns 2 7).map D.int = sg at *
      generalize p3D r = rd at *
      simp (disch := omega) [a0, a1, es, yr, hsl, hsg2, y3, hb, hm, cu, rr]
    · have rr := rest_eq G (w := 7) (h := 6) (by decide) (by decide) (by decide) (by decide) hr ns (ys.take 1) hy1 hyl
      have rr : (rest G [some (.sh (scrI ns)), some (.sh (.tup [.int 7, .int 6])), some (.sh (p3D r)), some (.sh (.lst (ys.take 1))), none, none, none, none, none, none, none, none, none, none, none, none, none]).cr = .ret (.sh (.bl true)) := rr
      generalize rest G = RG at *
      generalize ys.take 1 = ys1 at *
      generalize (segI ns 2 7).map D.int = sg at *
      generalize p3D r = rd at *
      simp (disch := omega) [a0, a1, es, yr, hsl, hsg2, y3, hb, hm, cu, rr]
  · have rr := rest_eq G w1 w2 h1 h2 hr ns ys y2 (by omega)
    generalize rest G = RG at *
    generalize (segI ns 2 7).map D.int = sg at *
    generalize p3D r = rd at *
    simp (disch := omega) [a0, a1, es, yr, hsl, hsg2, y3, hb, rr]
end My

namespace My
open PySem PySem.Spec L2 DL
theorem all_mk {l : PySem.W.OpenLaw} {w : World} {K : PySem.W.Frag} {h : Heap} {mg : Str → Option Value} {fa f0 f1 f2 f3 f4 f5 f6 f7 f8 f9 f10 f11 f12 f13 f14 f15 f16 f17 f18 f19 f20 f21 f22 f23 f24 f25 f26 f27 f28 f29 f30 f31 f32 f33 f34 f35 f36 f37 f38 f39 f40 f41 f42 f43 f44 f45 f46 f47 f48 f49 f50 f51 : Addr} (X : K.In h) (GG : h.Ns mainGlobals mg) (hfa : mg "law" = some (.ref fa))
    {od0 an0 od1 an1 od2 an2 od3 an3 od4 an4 od5 an5 od6 an6 od7 an7 od8 an8 od9 an9 od10 an10 od11 an11 od12 an12 od13 an13 od14 an14 od15 an15 od16 an16 od17 an17 od18 an18 od19 an19 od20 an20 od21 an21 od22 an22 od23 an23 od24 an24 od25 an25 od26 an26 od27 an27 od28 an28 od29 an29 od30 an30 od31 an31 od32 an32 od33 an33 od34 an34 od35 an35 od36 an36 od37 an37 od38 an38 od39 an39 od40 an40 od41 an41 od42 an42 od43 an43 od44 an44 od45 an45 od46 an46 od47 an47 od48 an48 od49 an49 od50 an50 od51 an51 : Option Addr} {sl0 sl1 sl2 sl3 sl4 sl5 sl6 sl7 sl8 sl9 sl10 sl11 sl12 sl13 sl14 sl15 sl16 sl17 sl18 sl19 sl20 sl21 sl22 sl23 sl24 sl25 sl26 sl27 sl28 sl29 sl30 sl31 sl32 sl33 sl34 sl35 sl36 sl37 sl38 sl39 sl40 sl41 sl42 sl43 sl44 sl45 sl46 sl47 sl48 sl49 sl50 sl51 : Array (Option Value)} {oc0 kV0 dc0 pm0 cd0 ct0 oc1 kV1 dc1 pm1 cd1 ct1 oc2 kV2 dc2 pm2 cd2 ct2 oc3 kV3 dc3 pm3 cd3 ct3 oc4 kV4 dc4 pm4 cd4 ct4 oc5 kV5 dc5 pm5 cd5 ct5 oc6 kV6 dc6 pm6 cd6 ct6 oc7 kV7 dc7 pm7 cd7 ct7 oc8 kV8 dc8 pm8 cd8 ct8 oc9 kV9 dc9 pm9 cd9 ct9 oc10 kV10 dc10 pm10 cd10 ct10 oc11 kV11 dc11 pm11 cd11 ct11 oc12 kV12 dc12 pm12 cd12 ct12 oc13 kV13 dc13 pm13 cd13 ct13 oc14 kV14 dc14 pm14 cd14 ct14 oc15 kV15 dc15 pm15 cd15 ct15 oc16 kV16 dc16 pm16 cd16 ct16 oc17 kV17 dc17 pm17 cd17 ct17 oc18 kV18 dc18 pm18 cd18 ct18 oc19 kV19 dc19 pm19 cd19 ct19 oc20 kV20 dc20 pm20 cd20 ct20 oc21 kV21 dc21 pm21 cd21 ct21 oc22 kV22 dc22 pm22 cd22 ct22 oc23 kV23 dc23 pm23 cd23 ct23 oc24 kV24 dc24 pm24 cd24 ct24 oc25 kV25 dc25 pm25 cd25 ct25 oc26 kV26 dc26 pm26 cd26 ct26 oc27 kV27 dc27 pm27 cd27 ct27 oc28 kV28 dc28 pm28 cd28 ct28 oc29 kV29 dc29 pm29 cd29 ct29 oc30 kV30 dc30 pm30 cd30 ct30 oc31 kV31 dc31 pm31 cd31 ct31 oc32 kV32 dc32 pm32 cd32 ct32 oc33 kV33 dc33 pm33 cd33 ct33 oc34 kV34 dc34 pm34 cd34 ct34 oc35 kV35 dc35 pm35 cd35 ct35 oc36 kV36 dc36 pm36 cd36 ct36 oc37 kV37 dc37 pm37 cd37 ct37 oc38 kV38 dc38 pm38 cd38 ct38 oc39 kV39 dc39 pm39 cd39 ct39 oc40 kV40 dc40 pm40 cd40 ct40 oc41 kV41 dc41 pm41 cd41 ct41 oc42 kV42 dc42 pm42 cd42 ct42 oc43 kV43 dc43 pm43 cd43 ct43 oc44 kV44 dc44 pm44 cd44 ct44 oc45 kV45 dc45 pm45 cd45 ct45 oc46 kV46 dc46 pm46 cd46 ct46 oc47 kV47 dc47 pm47 cd47 ct47 oc48 kV48 dc48 pm48 cd48 ct48 oc49 kV49 dc49 pm49 cd49 ct49 oc50 kV50 dc50 pm50 cd50 ct50 oc51 kV51 dc51 pm51 cd51 ct51 : Value}
    {k_Yard k_Post k_Fence k_Sail k_Cloth k_House : Addr}
    (nC_Yard : PySem.W.nsIn K mainGlobals "Yard" = some (some (.ref k_Yard)))
    (nC_Post : PySem.W.nsIn K mainGlobals "Post" = some (some (.ref k_Post)))
    (nC_Fence : PySem.W.nsIn K mainGlobals "Fence" = some (some (.ref k_Fence)))
    (nC_Sail : PySem.W.nsIn K mainGlobals "Sail" = some (some (.ref k_Sail)))
    (nC_Cloth : PySem.W.nsIn K mainGlobals "Cloth" = some (some (.ref k_Cloth)))
    (nC_House : PySem.W.nsIn K mainGlobals "House" = some (some (.ref k_House)))
    (at_Yard_init : PySem.W.findIn K (.ref k_Yard) "__init__" = some (some (.ref f4)))
    (at_Post_init : PySem.W.findIn K (.ref k_Post) "__init__" = some (some (.ref f6)))
    (at_Fence_init : PySem.W.findIn K (.ref k_Fence) "__init__" = some (some (.ref f6)))
    (at_Sail_init : PySem.W.findIn K (.ref k_Sail) "__init__" = some (some (.ref f6)))
    (at_Cloth_init : PySem.W.findIn K (.ref k_Cloth) "__init__" = some (some (.ref f6)))
    (at_House_init : PySem.W.findIn K (.ref k_House) "__init__" = some (some (.ref f6)))
    (at_Post_corners : PySem.W.findIn K (.ref k_Post) "corners" = some (some (.ref f39)))
    (at_Post_word : PySem.W.findIn K (.ref k_Post) "word" = some (some (.ref f7)))
    (at_Post_shown : PySem.W.findIn K (.ref k_Post) "shown" = some (some (.ref f31)))
    (at_Fence_corners : PySem.W.findIn K (.ref k_Fence) "corners" = some (some (.ref f9)))
    (at_Fence_word : PySem.W.findIn K (.ref k_Fence) "word" = some (some (.ref f8)))
    (at_Fence_shown : PySem.W.findIn K (.ref k_Fence) "shown" = some (some (.ref f31)))
    (at_Sail_corners : PySem.W.findIn K (.ref k_Sail) "corners" = some (some (.ref f32)))
    (at_Sail_word : PySem.W.findIn K (.ref k_Sail) "word" = some (some (.ref f10)))
    (at_Sail_shown : PySem.W.findIn K (.ref k_Sail) "shown" = some (some (.ref f31)))
    (at_Cloth_corners : PySem.W.findIn K (.ref k_Cloth) "corners" = some (some (.ref f12)))
    (at_Cloth_word : PySem.W.findIn K (.ref k_Cloth) "word" = some (some (.ref f11)))
    (at_Cloth_shown : PySem.W.findIn K (.ref k_Cloth) "shown" = some (some (.ref f31)))
    (at_House_corners : PySem.W.findIn K (.ref k_House) "corners" = some (some (.ref f40)))
    (at_House_word : PySem.W.findIn K (.ref k_House) "word" = some (some (.ref f13)))
    (at_House_shown : PySem.W.findIn K (.ref k_House) "shown" = some (some (.ref f31)))
    (a0 : PySem.W.nsIn K mainGlobals "cast" = some (some (.ref f0)))
    (l0 : K.lookup f0 = some ⟨oc0, od0, .func (PySem.W.fnOf "cast" "cast" (defArgs st_cast) (defBody st_cast) (defScope st_cast) .none kV0 dc0 pm0 an0 cd0 ct0), sl0⟩)
    (c0 : PySem.W.codeIn K cd0 "cast" = true)
    (k0 : PySem.W.keepIn K (.ref f0) = true)
    (a1 : PySem.W.nsIn K mainGlobals "bits_of" = some (some (.ref f1)))
    (l1 : K.lookup f1 = some ⟨oc1, od1, .func (PySem.W.fnOf "bits_of" "bits_of" (defArgs st_bits_of) (defBody st_bits_of) (defScope st_bits_of) .none kV1 dc1 pm1 an1 cd1 ct1), sl1⟩)
    (c1 : PySem.W.codeIn K cd1 "bits_of" = true)
    (k1 : PySem.W.keepIn K (.ref f1) = true)
    (a2 : PySem.W.nsIn K mainGlobals "common_part" = some (some (.ref f2)))
    (l2 : K.lookup f2 = some ⟨oc2, od2, .func (PySem.W.fnOf "common_part" "common_part" (defArgs st_common_part) (defBody st_common_part) (defScope st_common_part) .none kV2 dc2 pm2 an2 cd2 ct2), sl2⟩)
    (c2 : PySem.W.codeIn K cd2 "common_part" = true)
    (k2 : PySem.W.keepIn K (.ref f2) = true)
    (a3 : PySem.W.nsIn K mainGlobals "turn_of" = some (some (.ref f3)))
    (l3 : K.lookup f3 = some ⟨oc3, od3, .func (PySem.W.fnOf "turn_of" "turn_of" (defArgs st_turn_of) (defBody st_turn_of) (defScope st_turn_of) .none kV3 dc3 pm3 an3 cd3 ct3), sl3⟩)
    (c3 : PySem.W.codeIn K cd3 "turn_of" = true)
    (k3 : PySem.W.keepIn K (.ref f3) = true)
    (i4 : PySem.W.isFn K (.ref f4) = true)
    (l4 : K.lookup f4 = some ⟨oc4, od4, .func (PySem.W.fnOf "__init__" "Yard.__init__" (defArgs st_Yard_init) (defBody st_Yard_init) (defScope st_Yard_init) .none kV4 dc4 pm4 an4 cd4 ct4), sl4⟩)
    (c4 : PySem.W.codeIn K cd4 "Yard.__init__" = true)
    (k4 : PySem.W.keepIn K (.ref f4) = true)
    (a5 : PySem.W.nsIn K mainGlobals "all_stones" = some (some (.ref f5)))
    (l5 : K.lookup f5 = some ⟨oc5, od5, .func (PySem.W.fnOf "all_stones" "all_stones" (defArgs st_all_stones) (defBody st_all_stones) (defScope st_all_stones) .none kV5 dc5 pm5 an5 cd5 ct5), sl5⟩)
    (c5 : PySem.W.codeIn K cd5 "all_stones" = true)
    (k5 : PySem.W.keepIn K (.ref f5) = true)
    (i6 : PySem.W.isFn K (.ref f6) = true)
    (l6 : K.lookup f6 = some ⟨oc6, od6, .func (PySem.W.fnOf "__init__" "Thing.__init__" (defArgs st_Thing_init) (defBody st_Thing_init) (defScope st_Thing_init) .none kV6 dc6 pm6 an6 cd6 ct6), sl6⟩)
    (c6 : PySem.W.codeIn K cd6 "Thing.__init__" = true)
    (k6 : PySem.W.keepIn K (.ref f6) = true)
    (i7 : PySem.W.isFn K (.ref f7) = true)
    (l7 : K.lookup f7 = some ⟨oc7, od7, .func (PySem.W.fnOf "word" "Post.word" (defArgs st_Post_word) (defBody st_Post_word) (defScope st_Post_word) .none kV7 dc7 pm7 an7 cd7 ct7), sl7⟩)
    (c7 : PySem.W.codeIn K cd7 "Post.word" = true)
    (k7 : PySem.W.keepIn K (.ref f7) = true)
    (i8 : PySem.W.isFn K (.ref f8) = true)
    (l8 : K.lookup f8 = some ⟨oc8, od8, .func (PySem.W.fnOf "word" "Fence.word" (defArgs st_Fence_word) (defBody st_Fence_word) (defScope st_Fence_word) .none kV8 dc8 pm8 an8 cd8 ct8), sl8⟩)
    (c8 : PySem.W.codeIn K cd8 "Fence.word" = true)
    (k8 : PySem.W.keepIn K (.ref f8) = true)
    (i9 : PySem.W.isFn K (.ref f9) = true)
    (l9 : K.lookup f9 = some ⟨oc9, od9, .func (PySem.W.fnOf "corners" "Fence.corners" (defArgs st_Fence_corners) (defBody st_Fence_corners) (defScope st_Fence_corners) .none kV9 dc9 pm9 an9 cd9 ct9), sl9⟩)
    (c9 : PySem.W.codeIn K cd9 "Fence.corners" = true)
    (k9 : PySem.W.keepIn K (.ref f9) = true)
    (i10 : PySem.W.isFn K (.ref f10) = true)
    (l10 : K.lookup f10 = some ⟨oc10, od10, .func (PySem.W.fnOf "word" "Sail.word" (defArgs st_Sail_word) (defBody st_Sail_word) (defScope st_Sail_word) .none kV10 dc10 pm10 an10 cd10 ct10), sl10⟩)
    (c10 : PySem.W.codeIn K cd10 "Sail.word" = true)
    (k10 : PySem.W.keepIn K (.ref f10) = true)
    (i11 : PySem.W.isFn K (.ref f11) = true)
    (l11 : K.lookup f11 = some ⟨oc11, od11, .func (PySem.W.fnOf "word" "Cloth.word" (defArgs st_Cloth_word) (defBody st_Cloth_word) (defScope st_Cloth_word) .none kV11 dc11 pm11 an11 cd11 ct11), sl11⟩)
    (c11 : PySem.W.codeIn K cd11 "Cloth.word" = true)
    (k11 : PySem.W.keepIn K (.ref f11) = true)
    (i12 : PySem.W.isFn K (.ref f12) = true)
    (l12 : K.lookup f12 = some ⟨oc12, od12, .func (PySem.W.fnOf "corners" "Cloth.corners" (defArgs st_Cloth_corners) (defBody st_Cloth_corners) (defScope st_Cloth_corners) .none kV12 dc12 pm12 an12 cd12 ct12), sl12⟩)
    (c12 : PySem.W.codeIn K cd12 "Cloth.corners" = true)
    (k12 : PySem.W.keepIn K (.ref f12) = true)
    (i13 : PySem.W.isFn K (.ref f13) = true)
    (l13 : K.lookup f13 = some ⟨oc13, od13, .func (PySem.W.fnOf "word" "House.word" (defArgs st_House_word) (defBody st_House_word) (defScope st_House_word) .none kV13 dc13 pm13 an13 cd13 ct13), sl13⟩)
    (c13 : PySem.W.codeIn K cd13 "House.word" = true)
    (k13 : PySem.W.keepIn K (.ref f13) = true)
    (a14 : PySem.W.nsIn K mainGlobals "level" = some (some (.ref f14)))
    (l14 : K.lookup f14 = some ⟨oc14, od14, .func (PySem.W.fnOf "level" "level" (defArgs st_level) (defBody st_level) (defScope st_level) .none kV14 dc14 pm14 an14 cd14 ct14), sl14⟩)
    (c14 : PySem.W.codeIn K cd14 "level" = true)
    (k14 : PySem.W.keepIn K (.ref f14) = true)
    (a15 : PySem.W.nsIn K mainGlobals "are_places" = some (some (.ref f15)))
    (l15 : K.lookup f15 = some ⟨oc15, od15, .func (PySem.W.fnOf "are_places" "are_places" (defArgs st_are_places) (defBody st_are_places) (defScope st_are_places) .none kV15 dc15 pm15 an15 cd15 ct15), sl15⟩)
    (c15 : PySem.W.codeIn K cd15 "are_places" = true)
    (k15 : PySem.W.keepIn K (.ref f15) = true)
    (a16 : PySem.W.nsIn K mainGlobals "is_height" = some (some (.ref f16)))
    (l16 : K.lookup f16 = some ⟨oc16, od16, .func (PySem.W.fnOf "is_height" "is_height" (defArgs st_is_height) (defBody st_is_height) (defScope st_is_height) .none kV16 dc16 pm16 an16 cd16 ct16), sl16⟩)
    (c16 : PySem.W.codeIn K cd16 "is_height" = true)
    (k16 : PySem.W.keepIn K (.ref f16) = true)
    (a17 : PySem.W.nsIn K mainGlobals "_law_at" = some (some (.ref f17)))
    (l17 : K.lookup f17 = some ⟨oc17, od17, .func (PySem.W.fnOf "_law_at" "_law_at" (defArgs st_law_at) (defBody st_law_at) (defScope st_law_at) .none kV17 dc17 pm17 an17 cd17 ct17), sl17⟩)
    (c17 : PySem.W.codeIn K cd17 "_law_at" = true)
    (k17 : PySem.W.keepIn K (.ref f17) = true)
    (a18 : PySem.W.nsIn K mainGlobals "_law_grains" = some (some (.ref f18)))
    (l18 : K.lookup f18 = some ⟨oc18, od18, .func (PySem.W.fnOf "_law_grains" "_law_grains" (defArgs st_law_grains) (defBody st_law_grains) (defScope st_law_grains) .none kV18 dc18 pm18 an18 cd18 ct18), sl18⟩)
    (c18 : PySem.W.codeIn K cd18 "_law_grains" = true)
    (k18 : PySem.W.keepIn K (.ref f18) = true)
    (a19 : PySem.W.nsIn K mainGlobals "_law_place" = some (some (.ref f19)))
    (l19 : K.lookup f19 = some ⟨oc19, od19, .func (PySem.W.fnOf "_law_place" "_law_place" (defArgs st_law_place) (defBody st_law_place) (defScope st_law_place) .none kV19 dc19 pm19 an19 cd19 ct19), sl19⟩)
    (c19 : PySem.W.codeIn K cd19 "_law_place" = true)
    (k19 : PySem.W.keepIn K (.ref f19) = true)
    (a20 : PySem.W.nsIn K mainGlobals "_law_height" = some (some (.ref f20)))
    (l20 : K.lookup f20 = some ⟨oc20, od20, .func (PySem.W.fnOf "_law_height" "_law_height" (defArgs st_law_height) (defBody st_law_height) (defScope st_law_height) .none kV20 dc20 pm20 an20 cd20 ct20), sl20⟩)
    (c20 : PySem.W.codeIn K cd20 "_law_height" = true)
    (k20 : PySem.W.keepIn K (.ref f20) = true)
    (a21 : PySem.W.nsIn K mainGlobals "_law_size" = some (some (.ref f21)))
    (l21 : K.lookup f21 = some ⟨oc21, od21, .func (PySem.W.fnOf "_law_size" "_law_size" (defArgs st_law_size) (defBody st_law_size) (defScope st_law_size) .none kV21 dc21 pm21 an21 cd21 ct21), sl21⟩)
    (c21 : PySem.W.codeIn K cd21 "_law_size" = true)
    (k21 : PySem.W.keepIn K (.ref f21) = true)
    (a22 : PySem.W.nsIn K mainGlobals "_law_whole" = some (some (.ref f22)))
    (l22 : K.lookup f22 = some ⟨oc22, od22, .func (PySem.W.fnOf "_law_whole" "_law_whole" (defArgs st_law_whole) (defBody st_law_whole) (defScope st_law_whole) .none kV22 dc22 pm22 an22 cd22 ct22), sl22⟩)
    (c22 : PySem.W.codeIn K cd22 "_law_whole" = true)
    (k22 : PySem.W.keepIn K (.ref f22) = true)
    (a23 : PySem.W.nsIn K mainGlobals "_law_laid" = some (some (.ref f23)))
    (l23 : K.lookup f23 = some ⟨oc23, od23, .func (PySem.W.fnOf "_law_laid" "_law_laid" (defArgs st_law_laid) (defBody st_law_laid) (defScope st_law_laid) .none kV23 dc23 pm23 an23 cd23 ct23), sl23⟩)
    (c23 : PySem.W.codeIn K cd23 "_law_laid" = true)
    (k23 : PySem.W.keepIn K (.ref f23) = true)
    (a24 : PySem.W.nsIn K mainGlobals "stone_cast" = some (some (.ref f24)))
    (l24 : K.lookup f24 = some ⟨oc24, od24, .func (PySem.W.fnOf "stone_cast" "stone_cast" (defArgs st_stone_cast) (defBody st_stone_cast) (defScope st_stone_cast) .none kV24 dc24 pm24 an24 cd24 ct24), sl24⟩)
    (c24 : PySem.W.codeIn K cd24 "stone_cast" = true)
    (k24 : PySem.W.keepIn K (.ref f24) = true)
    (a25 : PySem.W.nsIn K mainGlobals "ratio" = some (some (.ref f25)))
    (l25 : K.lookup f25 = some ⟨oc25, od25, .func (PySem.W.fnOf "ratio" "ratio" (defArgs st_ratio) (defBody st_ratio) (defScope st_ratio) .none kV25 dc25 pm25 an25 cd25 ct25), sl25⟩)
    (c25 : PySem.W.codeIn K cd25 "ratio" = true)
    (k25 : PySem.W.keepIn K (.ref f25) = true)
    (a26 : PySem.W.nsIn K mainGlobals "pulls_of_two" = some (some (.ref f26)))
    (l26 : K.lookup f26 = some ⟨oc26, od26, .func (PySem.W.fnOf "pulls_of_two" "pulls_of_two" (defArgs st_pulls_of_two) (defBody st_pulls_of_two) (defScope st_pulls_of_two) .none kV26 dc26 pm26 an26 cd26 ct26), sl26⟩)
    (c26 : PySem.W.codeIn K cd26 "pulls_of_two" = true)
    (k26 : PySem.W.keepIn K (.ref f26) = true)
    (a27 : PySem.W.nsIn K mainGlobals "pulls_of_three" = some (some (.ref f27)))
    (l27 : K.lookup f27 = some ⟨oc27, od27, .func (PySem.W.fnOf "pulls_of_three" "pulls_of_three" (defArgs st_pulls_of_three) (defBody st_pulls_of_three) (defScope st_pulls_of_three) .none kV27 dc27 pm27 an27 cd27 ct27), sl27⟩)
    (c27 : PySem.W.codeIn K cd27 "pulls_of_three" = true)
    (k27 : PySem.W.keepIn K (.ref f27) = true)
    (a28 : PySem.W.nsIn K mainGlobals "is_left" = some (some (.ref f28)))
    (l28 : K.lookup f28 = some ⟨oc28, od28, .func (PySem.W.fnOf "is_left" "is_left" (defArgs st_is_left) (defBody st_is_left) (defScope st_is_left) .none kV28 dc28 pm28 an28 cd28 ct28), sl28⟩)
    (c28 : PySem.W.codeIn K cd28 "is_left" = true)
    (k28 : PySem.W.keepIn K (.ref f28) = true)
    (a29 : PySem.W.nsIn K mainGlobals "outermost" = some (some (.ref f29)))
    (l29 : K.lookup f29 = some ⟨oc29, od29, .func (PySem.W.fnOf "outermost" "outermost" (defArgs st_outermost) (defBody st_outermost) (defScope st_outermost) .none kV29 dc29 pm29 an29 cd29 ct29), sl29⟩)
    (c29 : PySem.W.codeIn K cd29 "outermost" = true)
    (k29 : PySem.W.keepIn K (.ref f29) = true)
    (a30 : PySem.W.nsIn K mainGlobals "line_by" = some (some (.ref f30)))
    (l30 : K.lookup f30 = some ⟨oc30, od30, .func (PySem.W.fnOf "line_by" "line_by" (defArgs st_line_by) (defBody st_line_by) (defScope st_line_by) .none kV30 dc30 pm30 an30 cd30 ct30), sl30⟩)
    (c30 : PySem.W.codeIn K cd30 "line_by" = true)
    (k30 : PySem.W.keepIn K (.ref f30) = true)
    (i31 : PySem.W.isFn K (.ref f31) = true)
    (l31 : K.lookup f31 = some ⟨oc31, od31, .func (PySem.W.fnOf "shown" "Thing.shown" (defArgs st_Thing_shown) (defBody st_Thing_shown) (defScope st_Thing_shown) .none kV31 dc31 pm31 an31 cd31 ct31), sl31⟩)
    (c31 : PySem.W.codeIn K cd31 "Thing.shown" = true)
    (k31 : PySem.W.keepIn K (.ref f31) = true)
    (i32 : PySem.W.isFn K (.ref f32) = true)
    (l32 : K.lookup f32 = some ⟨oc32, od32, .func (PySem.W.fnOf "corners" "Sail.corners" (defArgs st_Sail_corners) (defBody st_Sail_corners) (defScope st_Sail_corners) .none kV32 dc32 pm32 an32 cd32 ct32), sl32⟩)
    (c32 : PySem.W.codeIn K cd32 "Sail.corners" = true)
    (k32 : PySem.W.keepIn K (.ref f32) = true)
    (a33 : PySem.W.nsIn K mainGlobals "box" = some (some (.ref f33)))
    (l33 : K.lookup f33 = some ⟨oc33, od33, .func (PySem.W.fnOf "box" "box" (defArgs st_box) (defBody st_box) (defScope st_box) .none kV33 dc33 pm33 an33 cd33 ct33), sl33⟩)
    (c33 : PySem.W.codeIn K cd33 "box" = true)
    (k33 : PySem.W.keepIn K (.ref f33) = true)
    (a34 : PySem.W.nsIn K mainGlobals "_law_thing" = some (some (.ref f34)))
    (l34 : K.lookup f34 = some ⟨oc34, od34, .func (PySem.W.fnOf "_law_thing" "_law_thing" (defArgs st_law_thing) (defBody st_law_thing) (defScope st_law_thing) .none kV34 dc34 pm34 an34 cd34 ct34), sl34⟩)
    (c34 : PySem.W.codeIn K cd34 "_law_thing" = true)
    (k34 : PySem.W.keepIn K (.ref f34) = true)
    (a35 : PySem.W.nsIn K mainGlobals "_law_ray" = some (some (.ref f35)))
    (l35 : K.lookup f35 = some ⟨oc35, od35, .func (PySem.W.fnOf "_law_ray" "_law_ray" (defArgs st_law_ray) (defBody st_law_ray) (defScope st_law_ray) .none kV35 dc35 pm35 an35 cd35 ct35), sl35⟩)
    (c35 : PySem.W.codeIn K cd35 "_law_ray" = true)
    (k35 : PySem.W.keepIn K (.ref f35) = true)
    (a36 : PySem.W.nsIn K mainGlobals "_law_right" = some (some (.ref f36)))
    (l36 : K.lookup f36 = some ⟨oc36, od36, .func (PySem.W.fnOf "_law_right" "_law_right" (defArgs st_law_right) (defBody st_law_right) (defScope st_law_right) .none kV36 dc36 pm36 an36 cd36 ct36), sl36⟩)
    (c36 : PySem.W.codeIn K cd36 "_law_right" = true)
    (k36 : PySem.W.keepIn K (.ref f36) = true)
    (a37 : PySem.W.nsIn K mainGlobals "pulls_of" = some (some (.ref f37)))
    (l37 : K.lookup f37 = some ⟨oc37, od37, .func (PySem.W.fnOf "pulls_of" "pulls_of" (defArgs st_pulls_of) (defBody st_pulls_of) (defScope st_pulls_of) .none kV37 dc37 pm37 an37 cd37 ct37), sl37⟩)
    (c37 : PySem.W.codeIn K cd37 "pulls_of" = true)
    (k37 : PySem.W.keepIn K (.ref f37) = true)
    (a38 : PySem.W.nsIn K mainGlobals "weights_by" = some (some (.ref f38)))
    (l38 : K.lookup f38 = some ⟨oc38, od38, .func (PySem.W.fnOf "weights_by" "weights_by" (defArgs st_weights_by) (defBody st_weights_by) (defScope st_weights_by) .none kV38 dc38 pm38 an38 cd38 ct38), sl38⟩)
    (c38 : PySem.W.codeIn K cd38 "weights_by" = true)
    (k38 : PySem.W.keepIn K (.ref f38) = true)
    (i39 : PySem.W.isFn K (.ref f39) = true)
    (l39 : K.lookup f39 = some ⟨oc39, od39, .func (PySem.W.fnOf "corners" "Post.corners" (defArgs st_Post_corners) (defBody st_Post_corners) (defScope st_Post_corners) .none kV39 dc39 pm39 an39 cd39 ct39), sl39⟩)
    (c39 : PySem.W.codeIn K cd39 "Post.corners" = true)
    (k39 : PySem.W.keepIn K (.ref f39) = true)
    (i40 : PySem.W.isFn K (.ref f40) = true)
    (l40 : K.lookup f40 = some ⟨oc40, od40, .func (PySem.W.fnOf "corners" "House.corners" (defArgs st_House_corners) (defBody st_House_corners) (defScope st_House_corners) .none kV40 dc40 pm40 an40 cd40 ct40), sl40⟩)
    (c40 : PySem.W.codeIn K cd40 "House.corners" = true)
    (k40 : PySem.W.keepIn K (.ref f40) = true)
    (a41 : PySem.W.nsIn K mainGlobals "cloth_of" = some (some (.ref f41)))
    (l41 : K.lookup f41 = some ⟨oc41, od41, .func (PySem.W.fnOf "cloth_of" "cloth_of" (defArgs st_cloth_of) (defBody st_cloth_of) (defScope st_cloth_of) .none kV41 dc41 pm41 an41 cd41 ct41), sl41⟩)
    (c41 : PySem.W.codeIn K cd41 "cloth_of" = true)
    (k41 : PySem.W.keepIn K (.ref f41) = true)
    (a42 : PySem.W.nsIn K mainGlobals "stretched" = some (some (.ref f42)))
    (l42 : K.lookup f42 = some ⟨oc42, od42, .func (PySem.W.fnOf "stretched" "stretched" (defArgs st_stretched) (defBody st_stretched) (defScope st_stretched) .none kV42 dc42 pm42 an42 cd42 ct42), sl42⟩)
    (c42 : PySem.W.codeIn K cd42 "stretched" = true)
    (k42 : PySem.W.keepIn K (.ref f42) = true)
    (a43 : PySem.W.nsIn K mainGlobals "_law_fields" = some (some (.ref f43)))
    (l43 : K.lookup f43 = some ⟨oc43, od43, .func (PySem.W.fnOf "_law_fields" "_law_fields" (defArgs st_law_fields) (defBody st_law_fields) (defScope st_law_fields) .none kV43 dc43 pm43 an43 cd43 ct43), sl43⟩)
    (c43 : PySem.W.codeIn K cd43 "_law_fields" = true)
    (k43 : PySem.W.keepIn K (.ref f43) = true)
    (a44 : PySem.W.nsIn K mainGlobals "held" = some (some (.ref f44)))
    (l44 : K.lookup f44 = some ⟨oc44, od44, .func (PySem.W.fnOf "held" "held" (defArgs st_held) (defBody st_held) (defScope st_held) .none kV44 dc44 pm44 an44 cd44 ct44), sl44⟩)
    (c44 : PySem.W.codeIn K cd44 "held" = true)
    (k44 : PySem.W.keepIn K (.ref f44) = true)
    (a45 : PySem.W.nsIn K mainGlobals "thing_of" = some (some (.ref f45)))
    (l45 : K.lookup f45 = some ⟨oc45, od45, .func (PySem.W.fnOf "thing_of" "thing_of" (defArgs st_thing_of) (defBody st_thing_of) (defScope st_thing_of) .none kV45 dc45 pm45 an45 cd45 ct45), sl45⟩)
    (c45 : PySem.W.codeIn K cd45 "thing_of" = true)
    (k45 : PySem.W.keepIn K (.ref f45) = true)
    (a46 : PySem.W.nsIn K mainGlobals "shading" = some (some (.ref f46)))
    (l46 : K.lookup f46 = some ⟨oc46, od46, .func (PySem.W.fnOf "shading" "shading" (defArgs st_shading) (defBody st_shading) (defScope st_shading) .none kV46 dc46 pm46 an46 cd46 ct46), sl46⟩)
    (c46 : PySem.W.codeIn K cd46 "shading" = true)
    (k46 : PySem.W.keepIn K (.ref f46) = true)
    (a47 : PySem.W.nsIn K mainGlobals "shades" = some (some (.ref f47)))
    (l47 : K.lookup f47 = some ⟨oc47, od47, .func (PySem.W.fnOf "shades" "shades" (defArgs st_shades) (defBody st_shades) (defScope st_shades) .none kV47 dc47 pm47 an47 cd47 ct47), sl47⟩)
    (c47 : PySem.W.codeIn K cd47 "shades" = true)
    (k47 : PySem.W.keepIn K (.ref f47) = true)
    (a48 : PySem.W.nsIn K mainGlobals "dark_of" = some (some (.ref f48)))
    (l48 : K.lookup f48 = some ⟨oc48, od48, .func (PySem.W.fnOf "dark_of" "dark_of" (defArgs st_dark_of) (defBody st_dark_of) (defScope st_dark_of) .none kV48 dc48 pm48 an48 cd48 ct48), sl48⟩)
    (c48 : PySem.W.codeIn K cd48 "dark_of" = true)
    (k48 : PySem.W.keepIn K (.ref f48) = true)
    (a49 : PySem.W.nsIn K mainGlobals "_law_set" = some (some (.ref f49)))
    (l49 : K.lookup f49 = some ⟨oc49, od49, .func (PySem.W.fnOf "_law_set" "_law_set" (defArgs st_law_set) (defBody st_law_set) (defScope st_law_set) .none kV49 dc49 pm49 an49 cd49 ct49), sl49⟩)
    (c49 : PySem.W.codeIn K cd49 "_law_set" = true)
    (k49 : PySem.W.keepIn K (.ref f49) = true)
    (a50 : PySem.W.nsIn K mainGlobals "dark" = some (some (.ref f50)))
    (l50 : K.lookup f50 = some ⟨oc50, od50, .func (PySem.W.fnOf "dark" "dark" (defArgs st_dark) (defBody st_dark) (defScope st_dark) .none kV50 dc50 pm50 an50 cd50 ct50), sl50⟩)
    (c50 : PySem.W.codeIn K cd50 "dark" = true)
    (k50 : PySem.W.keepIn K (.ref f50) = true)
    (a51 : PySem.W.nsIn K mainGlobals "law" = some (some (.ref f51)))
    (l51 : K.lookup f51 = some ⟨oc51, od51, .func (PySem.W.fnOf "law" "law" (defArgs st_law) (defBody st_law) (defScope st_law) .none kV51 dc51 pm51 an51 cd51 ct51), sl51⟩)
    (c51 : PySem.W.codeIn K cd51 "law" = true)
    (k51 : PySem.W.keepIn K (.ref f51) = true)
    (pg_Yard : PySem.W.plainGet K k_Yard Str.empty = true)
    (hd_Yard : PySem.W.hasDictIn K k_Yard = true)
    (po_Yard : PySem.W.plainOver K k_Yard = true)
    (sa_Yard : PySem.W.findIn K (.ref k_Yard) "__setattr__" = some (some (.builtin "object.__setattr__")))
    (mk_Yard : PySem.W.makesIn K k_Yard = true)
    (kc_Yard : PySem.W.keepIn K (.ref k_Yard) = true)
    (no_Yard_width : PySem.W.findIn K (.ref k_Yard) "width" = some none)
    (no_Yard_height : PySem.W.findIn K (.ref k_Yard) "height" = some none)
    (no_Yard_things : PySem.W.findIn K (.ref k_Yard) "things" = some none)
    (no_Yard_days : PySem.W.findIn K (.ref k_Yard) "days" = some none)
    (pg_Post : PySem.W.plainGet K k_Post Str.empty = true)
    (hd_Post : PySem.W.hasDictIn K k_Post = true)
    (po_Post : PySem.W.plainOver K k_Post = true)
    (sa_Post : PySem.W.findIn K (.ref k_Post) "__setattr__" = some (some (.builtin "object.__setattr__")))
    (mk_Post : PySem.W.makesIn K k_Post = true)
    (kc_Post : PySem.W.keepIn K (.ref k_Post) = true)
    (no_Post_numbers : PySem.W.findIn K (.ref k_Post) "numbers" = some none)
    (pg_Fence : PySem.W.plainGet K k_Fence Str.empty = true)
    (hd_Fence : PySem.W.hasDictIn K k_Fence = true)
    (po_Fence : PySem.W.plainOver K k_Fence = true)
    (sa_Fence : PySem.W.findIn K (.ref k_Fence) "__setattr__" = some (some (.builtin "object.__setattr__")))
    (mk_Fence : PySem.W.makesIn K k_Fence = true)
    (kc_Fence : PySem.W.keepIn K (.ref k_Fence) = true)
    (no_Fence_numbers : PySem.W.findIn K (.ref k_Fence) "numbers" = some none)
    (pg_Sail : PySem.W.plainGet K k_Sail Str.empty = true)
    (hd_Sail : PySem.W.hasDictIn K k_Sail = true)
    (po_Sail : PySem.W.plainOver K k_Sail = true)
    (sa_Sail : PySem.W.findIn K (.ref k_Sail) "__setattr__" = some (some (.builtin "object.__setattr__")))
    (mk_Sail : PySem.W.makesIn K k_Sail = true)
    (kc_Sail : PySem.W.keepIn K (.ref k_Sail) = true)
    (no_Sail_numbers : PySem.W.findIn K (.ref k_Sail) "numbers" = some none)
    (pg_Cloth : PySem.W.plainGet K k_Cloth Str.empty = true)
    (hd_Cloth : PySem.W.hasDictIn K k_Cloth = true)
    (po_Cloth : PySem.W.plainOver K k_Cloth = true)
    (sa_Cloth : PySem.W.findIn K (.ref k_Cloth) "__setattr__" = some (some (.builtin "object.__setattr__")))
    (mk_Cloth : PySem.W.makesIn K k_Cloth = true)
    (kc_Cloth : PySem.W.keepIn K (.ref k_Cloth) = true)
    (no_Cloth_numbers : PySem.W.findIn K (.ref k_Cloth) "numbers" = some none)
    (pg_House : PySem.W.plainGet K k_House Str.empty = true)
    (hd_House : PySem.W.hasDictIn K k_House = true)
    (po_House : PySem.W.plainOver K k_House = true)
    (sa_House : PySem.W.findIn K (.ref k_House) "__setattr__" = some (some (.builtin "object.__setattr__")))
    (mk_House : PySem.W.makesIn K k_House = true)
    (kc_House : PySem.W.keepIn K (.ref k_House) = true)
    (no_House_numbers : PySem.W.findIn K (.ref k_House) "numbers" = some none)
    (z_abs : PySem.W.nsIn K mainGlobals "abs" = some none)
    (z_all : PySem.W.nsIn K mainGlobals "all" = some none)
    (z_bool : PySem.W.nsIn K mainGlobals "bool" = some none)
    (z_int : PySem.W.nsIn K mainGlobals "int" = some none)
    (z_isinstance : PySem.W.nsIn K mainGlobals "isinstance" = some none)
    (z_len : PySem.W.nsIn K mainGlobals "len" = some none)
    (z_list : PySem.W.nsIn K mainGlobals "list" = some none)
    (z_max : PySem.W.nsIn K mainGlobals "max" = some none)
    (z_min : PySem.W.nsIn K mainGlobals "min" = some none)
    (z_range : PySem.W.nsIn K mainGlobals "range" = some none)
    (z_str : PySem.W.nsIn K mainGlobals "str" = some none)
    (z_sum : PySem.W.nsIn K mainGlobals "sum" = some none)
    (z_tuple : PySem.W.nsIn K mainGlobals "tuple" = some none)
    {tk_FAR : Tok} (g_FAR : PySem.W.nsIn K mainGlobals "FAR" = some (some (.int 1000000000 tk_FAR)))
    {cn_NOUGHT : Addr} {od_NOUGHT : Option Addr} {sl_NOUGHT : Array (Option Value)} {nn_NOUGHT : Nat} {tk0_NOUGHT tk1_NOUGHT : Tok} (g_NOUGHT : PySem.W.nsIn K mainGlobals "NOUGHT" = some (some (.ref cn_NOUGHT))) (lc_NOUGHT : K.lookup cn_NOUGHT = some ⟨.type "tuple", od_NOUGHT, .seq #[.int 0 tk0_NOUGHT, .int 1 tk1_NOUGHT] nn_NOUGHT, sl_NOUGHT⟩) :
    ∃ fd : FuncData, (∀ (s : Shared) (v : Value), BindsTo s fd ⟨[v], []⟩ [("_law_script", v)]) ∧ ∀ base : Heap, K.In base → base.Ns mainGlobals mg → FnOk l.prog w K mg base (L2.CX l.prog w) 9 fa fd ["_law_script"] (spLaw K) := by
  have e := hfa.symm.trans (PySem.W.mg_of X GG a51)
  cases e
  have ne_Yard_Post : k_Yard ≠ k_Post := fun e => by
    have e1 : f4 = f6 := by
      have e2 := at_Yard_init
      rw [e] at e2
      have e3 := e2.symm.trans at_Post_init
      exact Value.ref.inj (Option.some.inj (Option.some.inj e3))
    have e4 := l4
    rw [e1] at e4
    have e5 := e4.symm.trans l6
    exact qual_ne (show Str.ofString "Yard.__init__" ≠ Str.ofString "Thing.__init__" by decide) e5
  have ne_Yard_Fence : k_Yard ≠ k_Fence := fun e => by
    have e1 : f4 = f6 := by
      have e2 := at_Yard_init
      rw [e] at e2
      have e3 := e2.symm.trans at_Fence_init
      exact Value.ref.inj (Option.some.inj (Option.some.inj e3))
    have e4 := l4
    rw [e1] at e4
    have e5 := e4.symm.trans l6
    exact qual_ne (show Str.ofString "Yard.__init__" ≠ Str.ofString "Thing.__init__" by decide) e5
  have ne_Yard_Sail : k_Yard ≠ k_Sail := fun e => by
    have e1 : f4 = f6 := by
      have e2 := at_Yard_init
      rw [e] at e2
      have e3 := e2.symm.trans at_Sail_init
      exact Value.ref.inj (Option.some.inj (Option.some.inj e3))
    have e4 := l4
    rw [e1] at e4
    have e5 := e4.symm.trans l6
    exact qual_ne (show Str.ofString "Yard.__init__" ≠ Str.ofString "Thing.__init__" by decide) e5
  have ne_Yard_Cloth : k_Yard ≠ k_Cloth := fun e => by
    have e1 : f4 = f6 := by
      have e2 := at_Yard_init
      rw [e] at e2
      have e3 := e2.symm.trans at_Cloth_init
      exact Value.ref.inj (Option.some.inj (Option.some.inj e3))
    have e4 := l4
    rw [e1] at e4
    have e5 := e4.symm.trans l6
    exact qual_ne (show Str.ofString "Yard.__init__" ≠ Str.ofString "Thing.__init__" by decide) e5
  have ne_Yard_House : k_Yard ≠ k_House := fun e => by
    have e1 : f4 = f6 := by
      have e2 := at_Yard_init
      rw [e] at e2
      have e3 := e2.symm.trans at_House_init
      exact Value.ref.inj (Option.some.inj (Option.some.inj e3))
    have e4 := l4
    rw [e1] at e4
    have e5 := e4.symm.trans l6
    exact qual_ne (show Str.ofString "Yard.__init__" ≠ Str.ofString "Thing.__init__" by decide) e5
  have ne_Post_Fence : k_Post ≠ k_Fence := fun e => by
    have e1 : f39 = f9 := by
      have e2 := at_Post_corners
      rw [e] at e2
      have e3 := e2.symm.trans at_Fence_corners
      exact Value.ref.inj (Option.some.inj (Option.some.inj e3))
    have e4 := l39
    rw [e1] at e4
    have e5 := e4.symm.trans l9
    exact qual_ne (show Str.ofString "Post.corners" ≠ Str.ofString "Fence.corners" by decide) e5
  have ne_Post_Sail : k_Post ≠ k_Sail := fun e => by
    have e1 : f39 = f32 := by
      have e2 := at_Post_corners
      rw [e] at e2
      have e3 := e2.symm.trans at_Sail_corners
      exact Value.ref.inj (Option.some.inj (Option.some.inj e3))
    have e4 := l39
    rw [e1] at e4
    have e5 := e4.symm.trans l32
    exact qual_ne (show Str.ofString "Post.corners" ≠ Str.ofString "Sail.corners" by decide) e5
  have ne_Post_Cloth : k_Post ≠ k_Cloth := fun e => by
    have e1 : f39 = f12 := by
      have e2 := at_Post_corners
      rw [e] at e2
      have e3 := e2.symm.trans at_Cloth_corners
      exact Value.ref.inj (Option.some.inj (Option.some.inj e3))
    have e4 := l39
    rw [e1] at e4
    have e5 := e4.symm.trans l12
    exact qual_ne (show Str.ofString "Post.corners" ≠ Str.ofString "Cloth.corners" by decide) e5
  have ne_Post_House : k_Post ≠ k_House := fun e => by
    have e1 : f39 = f40 := by
      have e2 := at_Post_corners
      rw [e] at e2
      have e3 := e2.symm.trans at_House_corners
      exact Value.ref.inj (Option.some.inj (Option.some.inj e3))
    have e4 := l39
    rw [e1] at e4
    have e5 := e4.symm.trans l40
    exact qual_ne (show Str.ofString "Post.corners" ≠ Str.ofString "House.corners" by decide) e5
  have ne_Fence_Sail : k_Fence ≠ k_Sail := fun e => by
    have e1 : f9 = f32 := by
      have e2 := at_Fence_corners
      rw [e] at e2
      have e3 := e2.symm.trans at_Sail_corners
      exact Value.ref.inj (Option.some.inj (Option.some.inj e3))
    have e4 := l9
    rw [e1] at e4
    have e5 := e4.symm.trans l32
    exact qual_ne (show Str.ofString "Fence.corners" ≠ Str.ofString "Sail.corners" by decide) e5
  have ne_Fence_Cloth : k_Fence ≠ k_Cloth := fun e => by
    have e1 : f9 = f12 := by
      have e2 := at_Fence_corners
      rw [e] at e2
      have e3 := e2.symm.trans at_Cloth_corners
      exact Value.ref.inj (Option.some.inj (Option.some.inj e3))
    have e4 := l9
    rw [e1] at e4
    have e5 := e4.symm.trans l12
    exact qual_ne (show Str.ofString "Fence.corners" ≠ Str.ofString "Cloth.corners" by decide) e5
  have ne_Fence_House : k_Fence ≠ k_House := fun e => by
    have e1 : f9 = f40 := by
      have e2 := at_Fence_corners
      rw [e] at e2
      have e3 := e2.symm.trans at_House_corners
      exact Value.ref.inj (Option.some.inj (Option.some.inj e3))
    have e4 := l9
    rw [e1] at e4
    have e5 := e4.symm.trans l40
    exact qual_ne (show Str.ofString "Fence.corners" ≠ Str.ofString "House.corners" by decide) e5
  have ne_Sail_Cloth : k_Sail ≠ k_Cloth := fun e => by
    have e1 : f32 = f12 := by
      have e2 := at_Sail_corners
      rw [e] at e2
      have e3 := e2.symm.trans at_Cloth_corners
      exact Value.ref.inj (Option.some.inj (Option.some.inj e3))
    have e4 := l32
    rw [e1] at e4
    have e5 := e4.symm.trans l12
    exact qual_ne (show Str.ofString "Sail.corners" ≠ Str.ofString "Cloth.corners" by decide) e5
  have ne_Sail_House : k_Sail ≠ k_House := fun e => by
    have e1 : f32 = f40 := by
      have e2 := at_Sail_corners
      rw [e] at e2
      have e3 := e2.symm.trans at_House_corners
      exact Value.ref.inj (Option.some.inj (Option.some.inj e3))
    have e4 := l32
    rw [e1] at e4
    have e5 := e4.symm.trans l40
    exact qual_ne (show Str.ofString "Sail.corners" ≠ Str.ofString "House.corners" by decide) e5
  have ne_Cloth_House : k_Cloth ≠ k_House := fun e => by
    have e1 : f12 = f40 := by
      have e2 := at_Cloth_corners
      rw [e] at e2
      have e3 := e2.symm.trans at_House_corners
      exact Value.ref.inj (Option.some.inj (Option.some.inj e3))
    have e4 := l12
    rw [e1] at e4
    have e5 := e4.symm.trans l40
    exact qual_ne (show Str.ofString "Cloth.corners" ≠ Str.ofString "House.corners" by decide) e5
  let G0 : Gs := {c_Yard := k_Yard, c_Post := k_Post, c_Fence := k_Fence, c_Sail := k_Sail, c_Cloth := k_Cloth, c_House := k_House, ne_Yard_Post := ne_Yard_Post, ne_Yard_Fence := ne_Yard_Fence, ne_Yard_Sail := ne_Yard_Sail, ne_Yard_Cloth := ne_Yard_Cloth, ne_Yard_House := ne_Yard_House, ne_Post_Yard := Ne.symm ne_Yard_Post, ne_Post_Fence := ne_Post_Fence, ne_Post_Sail := ne_Post_Sail, ne_Post_Cloth := ne_Post_Cloth, ne_Post_House := ne_Post_House, ne_Fence_Yard := Ne.symm ne_Yard_Fence, ne_Fence_Post := Ne.symm ne_Post_Fence, ne_Fence_Sail := ne_Fence_Sail, ne_Fence_Cloth := ne_Fence_Cloth, ne_Fence_House := ne_Fence_House, ne_Sail_Yard := Ne.symm ne_Yard_Sail, ne_Sail_Post := Ne.symm ne_Post_Sail, ne_Sail_Fence := Ne.symm ne_Fence_Sail, ne_Sail_Cloth := ne_Sail_Cloth, ne_Sail_House := ne_Sail_House, ne_Cloth_Yard := Ne.symm ne_Yard_Cloth, ne_Cloth_Post := Ne.symm ne_Post_Cloth, ne_Cloth_Fence := Ne.symm ne_Fence_Cloth, ne_Cloth_Sail := Ne.symm ne_Sail_Cloth, ne_Cloth_House := ne_Cloth_House, ne_House_Yard := Ne.symm ne_Yard_House, ne_House_Post := Ne.symm ne_Post_House, ne_House_Fence := Ne.symm ne_Fence_House, ne_House_Sail := Ne.symm ne_Sail_House, ne_House_Cloth := Ne.symm ne_Cloth_House}
  refine ⟨_, fun s v => .of_eq rfl, fun base _ _ => law_fn (ok_law (P := l.prog) (w := w) (K := K) (mg := mg) (base := base) (G := G0) {
    a_cast := f0, d_cast := _, F_cast := fun_mk (st := st_cast) l0 c0 k0, m_cast := PySem.W.mg_of X GG a0,
    b_cast := (fun_mk (st := st_cast) l0 c0 k0).binds (ps := P_cast) fun _ _ _ _ _ _ us hl => match us, hl with | [_, _], _ => rfl,
    a_bits_of := f1, d_bits_of := _, F_bits_of := fun_mk (st := st_bits_of) l1 c1 k1, m_bits_of := PySem.W.mg_of X GG a1,
    b_bits_of := (fun_mk (st := st_bits_of) l1 c1 k1).binds (ps := P_bits_of) fun _ _ _ _ _ _ us hl => match us, hl with | [_, _], _ => rfl,
    a_common_part := f2, d_common_part := _, F_common_part := fun_mk (st := st_common_part) l2 c2 k2, m_common_part := PySem.W.mg_of X GG a2,
    b_common_part := (fun_mk (st := st_common_part) l2 c2 k2).binds (ps := P_common_part) fun _ _ _ _ _ _ us hl => match us, hl with | [_, _], _ => rfl,
    a_turn_of := f3, d_turn_of := _, F_turn_of := fun_mk (st := st_turn_of) l3 c3 k3, m_turn_of := PySem.W.mg_of X GG a3,
    b_turn_of := (fun_mk (st := st_turn_of) l3 c3 k3).binds (ps := P_turn_of) fun _ _ _ _ _ _ us hl => match us, hl with | [_, _], _ => rfl,
    a_Yard_init := f4, d_Yard_init := _, F_Yard_init := fun_mk (st := st_Yard_init) l4 c4 k4,
    b_Yard_init := (fun_mk (st := st_Yard_init) l4 c4 k4).binds (ps := P_Yard_init) fun _ _ _ _ _ _ us hl => match us, hl with | [_, _, _, _, _], _ => rfl,
    a_all_stones := f5, d_all_stones := _, F_all_stones := fun_mk (st := st_all_stones) l5 c5 k5, m_all_stones := PySem.W.mg_of X GG a5,
    b_all_stones := (fun_mk (st := st_all_stones) l5 c5 k5).binds (ps := P_all_stones) fun _ _ _ _ _ _ us hl => match us, hl with | [_], _ => rfl,
    a_Thing_init := f6, d_Thing_init := _, F_Thing_init := fun_mk (st := st_Thing_init) l6 c6 k6,
    b_Thing_init := (fun_mk (st := st_Thing_init) l6 c6 k6).binds (ps := P_Thing_init) fun _ _ _ _ _ _ us hl => match us, hl with | [_, _], _ => rfl,
    a_Post_word := f7, d_Post_word := _, F_Post_word := fun_mk (st := st_Post_word) l7 c7 k7,
    b_Post_word := (fun_mk (st := st_Post_word) l7 c7 k7).binds (ps := P_Post_word) fun _ _ _ _ _ _ us hl => match us, hl with | [_], _ => rfl,
    a_Fence_word := f8, d_Fence_word := _, F_Fence_word := fun_mk (st := st_Fence_word) l8 c8 k8,
    b_Fence_word := (fun_mk (st := st_Fence_word) l8 c8 k8).binds (ps := P_Fence_word) fun _ _ _ _ _ _ us hl => match us, hl with | [_], _ => rfl,
    a_Fence_corners := f9, d_Fence_corners := _, F_Fence_corners := fun_mk (st := st_Fence_corners) l9 c9 k9,
    b_Fence_corners := (fun_mk (st := st_Fence_corners) l9 c9 k9).binds (ps := P_Fence_corners) fun _ _ _ _ _ _ us hl => match us, hl with | [_], _ => rfl,
    a_Sail_word := f10, d_Sail_word := _, F_Sail_word := fun_mk (st := st_Sail_word) l10 c10 k10,
    b_Sail_word := (fun_mk (st := st_Sail_word) l10 c10 k10).binds (ps := P_Sail_word) fun _ _ _ _ _ _ us hl => match us, hl with | [_], _ => rfl,
    a_Cloth_word := f11, d_Cloth_word := _, F_Cloth_word := fun_mk (st := st_Cloth_word) l11 c11 k11,
    b_Cloth_word := (fun_mk (st := st_Cloth_word) l11 c11 k11).binds (ps := P_Cloth_word) fun _ _ _ _ _ _ us hl => match us, hl with | [_], _ => rfl,
    a_Cloth_corners := f12, d_Cloth_corners := _, F_Cloth_corners := fun_mk (st := st_Cloth_corners) l12 c12 k12,
    b_Cloth_corners := (fun_mk (st := st_Cloth_corners) l12 c12 k12).binds (ps := P_Cloth_corners) fun _ _ _ _ _ _ us hl => match us, hl with | [_], _ => rfl,
    a_House_word := f13, d_House_word := _, F_House_word := fun_mk (st := st_House_word) l13 c13 k13,
    b_House_word := (fun_mk (st := st_House_word) l13 c13 k13).binds (ps := P_House_word) fun _ _ _ _ _ _ us hl => match us, hl with | [_], _ => rfl,
    a_level := f14, d_level := _, F_level := fun_mk (st := st_level) l14 c14 k14, m_level := PySem.W.mg_of X GG a14,
    b_level := (fun_mk (st := st_level) l14 c14 k14).binds (ps := P_level) fun _ _ _ _ _ _ us hl => match us, hl with | [_, _, _, _, _], _ => rfl,
    a_are_places := f15, d_are_places := _, F_are_places := fun_mk (st := st_are_places) l15 c15 k15, m_are_places := PySem.W.mg_of X GG a15,
    b_are_places := (fun_mk (st := st_are_places) l15 c15 k15).binds (ps := P_are_places) fun _ _ _ _ _ _ us hl => match us, hl with | [_], _ => rfl,
    a_is_height := f16, d_is_height := _, F_is_height := fun_mk (st := st_is_height) l16 c16 k16, m_is_height := PySem.W.mg_of X GG a16,
    b_is_height := (fun_mk (st := st_is_height) l16 c16 k16).binds (ps := P_is_height) fun _ _ _ _ _ _ us hl => match us, hl with | [_, _], _ => rfl,
    a_law_at := f17, d_law_at := _, F_law_at := fun_mk (st := st_law_at) l17 c17 k17, m_law_at := PySem.W.mg_of X GG a17,
    b_law_at := (fun_mk (st := st_law_at) l17 c17 k17).binds (ps := P_law_at) fun _ _ _ _ _ _ us hl => match us, hl with | [_, _], _ => rfl,
    a_law_grains := f18, d_law_grains := _, F_law_grains := fun_mk (st := st_law_grains) l18 c18 k18, m_law_grains := PySem.W.mg_of X GG a18,
    b_law_grains := (fun_mk (st := st_law_grains) l18 c18 k18).binds (ps := P_law_grains) fun _ _ _ _ _ _ us hl => match us, hl with | [_, _], _ => rfl,
    a_law_place := f19, d_law_place := _, F_law_place := fun_mk (st := st_law_place) l19 c19 k19, m_law_place := PySem.W.mg_of X GG a19,
    b_law_place := (fun_mk (st := st_law_place) l19 c19 k19).binds (ps := P_law_place) fun _ _ _ _ _ _ us hl => match us, hl with | [_, _], _ => rfl,
    a_law_height := f20, d_law_height := _, F_law_height := fun_mk (st := st_law_height) l20 c20 k20, m_law_height := PySem.W.mg_of X GG a20,
    b_law_height := (fun_mk (st := st_law_height) l20 c20 k20).binds (ps := P_law_height) fun _ _ _ _ _ _ us hl => match us, hl with | [_], _ => rfl,
    a_law_size := f21, d_law_size := _, F_law_size := fun_mk (st := st_law_size) l21 c21 k21, m_law_size := PySem.W.mg_of X GG a21,
    b_law_size := (fun_mk (st := st_law_size) l21 c21 k21).binds (ps := P_law_size) fun _ _ _ _ _ _ us hl => match us, hl with | [_, _], _ => rfl,
    a_law_whole := f22, d_law_whole := _, F_law_whole := fun_mk (st := st_law_whole) l22 c22 k22, m_law_whole := PySem.W.mg_of X GG a22,
    b_law_whole := (fun_mk (st := st_law_whole) l22 c22 k22).binds (ps := P_law_whole) fun _ _ _ _ _ _ us hl => match us, hl with | [_], _ => rfl,
    a_law_laid := f23, d_law_laid := _, F_law_laid := fun_mk (st := st_law_laid) l23 c23 k23, m_law_laid := PySem.W.mg_of X GG a23,
    b_law_laid := (fun_mk (st := st_law_laid) l23 c23 k23).binds (ps := P_law_laid) fun _ _ _ _ _ _ us hl => match us, hl with | [_], _ => rfl,
    a_stone_cast := f24, d_stone_cast := _, F_stone_cast := fun_mk (st := st_stone_cast) l24 c24 k24, m_stone_cast := PySem.W.mg_of X GG a24,
    b_stone_cast := (fun_mk (st := st_stone_cast) l24 c24 k24).binds (ps := P_stone_cast) fun _ _ _ _ _ _ us hl => match us, hl with | [_, _], _ => rfl,
    a_ratio := f25, d_ratio := _, F_ratio := fun_mk (st := st_ratio) l25 c25 k25, m_ratio := PySem.W.mg_of X GG a25,
    b_ratio := (fun_mk (st := st_ratio) l25 c25 k25).binds (ps := P_ratio) fun _ _ _ _ _ _ us hl => match us, hl with | [_, _], _ => rfl,
    a_pulls_of_two := f26, d_pulls_of_two := _, F_pulls_of_two := fun_mk (st := st_pulls_of_two) l26 c26 k26, m_pulls_of_two := PySem.W.mg_of X GG a26,
    b_pulls_of_two := (fun_mk (st := st_pulls_of_two) l26 c26 k26).binds (ps := P_pulls_of_two) fun _ _ _ _ _ _ us hl => match us, hl with | [_, _], _ => rfl,
    a_pulls_of_three := f27, d_pulls_of_three := _, F_pulls_of_three := fun_mk (st := st_pulls_of_three) l27 c27 k27, m_pulls_of_three := PySem.W.mg_of X GG a27,
    b_pulls_of_three := (fun_mk (st := st_pulls_of_three) l27 c27 k27).binds (ps := P_pulls_of_three) fun _ _ _ _ _ _ us hl => match us, hl with | [_, _, _], _ => rfl,
    a_is_left := f28, d_is_left := _, F_is_left := fun_mk (st := st_is_left) l28 c28 k28, m_is_left := PySem.W.mg_of X GG a28,
    b_is_left := (fun_mk (st := st_is_left) l28 c28 k28).binds (ps := P_is_left) fun _ _ _ _ _ _ us hl => match us, hl with | [_, _], _ => rfl,
    a_outermost := f29, d_outermost := _, F_outermost := fun_mk (st := st_outermost) l29 c29 k29, m_outermost := PySem.W.mg_of X GG a29,
    b_outermost := (fun_mk (st := st_outermost) l29 c29 k29).binds (ps := P_outermost) fun _ _ _ _ _ _ us hl => match us, hl with | [_, _], _ => rfl,
    a_line_by := f30, d_line_by := _, F_line_by := fun_mk (st := st_line_by) l30 c30 k30, m_line_by := PySem.W.mg_of X GG a30,
    b_line_by := (fun_mk (st := st_line_by) l30 c30 k30).binds (ps := P_line_by) fun _ _ _ _ _ _ us hl => match us, hl with | [_, _, _], _ => rfl,
    a_Thing_shown := f31, d_Thing_shown := _, F_Thing_shown := fun_mk (st := st_Thing_shown) l31 c31 k31,
    b_Thing_shown := (fun_mk (st := st_Thing_shown) l31 c31 k31).binds (ps := P_Thing_shown) fun _ _ _ _ _ _ us hl => match us, hl with | [_], _ => rfl,
    a_Sail_corners := f32, d_Sail_corners := _, F_Sail_corners := fun_mk (st := st_Sail_corners) l32 c32 k32,
    b_Sail_corners := (fun_mk (st := st_Sail_corners) l32 c32 k32).binds (ps := P_Sail_corners) fun _ _ _ _ _ _ us hl => match us, hl with | [_], _ => rfl,
    a_box := f33, d_box := _, F_box := fun_mk (st := st_box) l33 c33 k33, m_box := PySem.W.mg_of X GG a33,
    b_box := (fun_mk (st := st_box) l33 c33 k33).binds (ps := P_box) fun _ _ _ _ _ _ us hl => match us, hl with | [_, _, _, _, _], _ => rfl,
    a_law_thing := f34, d_law_thing := _, F_law_thing := fun_mk (st := st_law_thing) l34 c34 k34, m_law_thing := PySem.W.mg_of X GG a34,
    b_law_thing := (fun_mk (st := st_law_thing) l34 c34 k34).binds (ps := P_law_thing) fun _ _ _ _ _ _ us hl => match us, hl with | [_, _], _ => rfl,
    a_law_ray := f35, d_law_ray := _, F_law_ray := fun_mk (st := st_law_ray) l35 c35 k35, m_law_ray := PySem.W.mg_of X GG a35,
    b_law_ray := (fun_mk (st := st_law_ray) l35 c35 k35).binds (ps := P_law_ray) fun _ _ _ _ _ _ us hl => match us, hl with | [_], _ => rfl,
    a_law_right := f36, d_law_right := _, F_law_right := fun_mk (st := st_law_right) l36 c36 k36, m_law_right := PySem.W.mg_of X GG a36,
    b_law_right := (fun_mk (st := st_law_right) l36 c36 k36).binds (ps := P_law_right) fun _ _ _ _ _ _ us hl => match us, hl with | [_, _], _ => rfl,
    a_pulls_of := f37, d_pulls_of := _, F_pulls_of := fun_mk (st := st_pulls_of) l37 c37 k37, m_pulls_of := PySem.W.mg_of X GG a37,
    b_pulls_of := (fun_mk (st := st_pulls_of) l37 c37 k37).binds (ps := P_pulls_of) fun _ _ _ _ _ _ us hl => match us, hl with | [_], _ => rfl,
    a_weights_by := f38, d_weights_by := _, F_weights_by := fun_mk (st := st_weights_by) l38 c38 k38, m_weights_by := PySem.W.mg_of X GG a38,
    b_weights_by := (fun_mk (st := st_weights_by) l38 c38 k38).binds (ps := P_weights_by) fun _ _ _ _ _ _ us hl => match us, hl with | [_, _], _ => rfl,
    a_Post_corners := f39, d_Post_corners := _, F_Post_corners := fun_mk (st := st_Post_corners) l39 c39 k39,
    b_Post_corners := (fun_mk (st := st_Post_corners) l39 c39 k39).binds (ps := P_Post_corners) fun _ _ _ _ _ _ us hl => match us, hl with | [_], _ => rfl,
    a_House_corners := f40, d_House_corners := _, F_House_corners := fun_mk (st := st_House_corners) l40 c40 k40,
    b_House_corners := (fun_mk (st := st_House_corners) l40 c40 k40).binds (ps := P_House_corners) fun _ _ _ _ _ _ us hl => match us, hl with | [_], _ => rfl,
    a_cloth_of := f41, d_cloth_of := _, F_cloth_of := fun_mk (st := st_cloth_of) l41 c41 k41, m_cloth_of := PySem.W.mg_of X GG a41,
    b_cloth_of := (fun_mk (st := st_cloth_of) l41 c41 k41).binds (ps := P_cloth_of) fun _ _ _ _ _ _ us hl => match us, hl with | [_], _ => rfl,
    a_stretched := f42, d_stretched := _, F_stretched := fun_mk (st := st_stretched) l42 c42 k42, m_stretched := PySem.W.mg_of X GG a42,
    b_stretched := (fun_mk (st := st_stretched) l42 c42 k42).binds (ps := P_stretched) fun _ _ _ _ _ _ us hl => match us, hl with | [_, _], _ => rfl,
    a_law_fields := f43, d_law_fields := _, F_law_fields := fun_mk (st := st_law_fields) l43 c43 k43, m_law_fields := PySem.W.mg_of X GG a43,
    b_law_fields := (fun_mk (st := st_law_fields) l43 c43 k43).binds (ps := P_law_fields) fun _ _ _ _ _ _ us hl => match us, hl with | [_, _, _, _], _ => rfl,
    a_held := f44, d_held := _, F_held := fun_mk (st := st_held) l44 c44 k44, m_held := PySem.W.mg_of X GG a44,
    b_held := (fun_mk (st := st_held) l44 c44 k44).binds (ps := P_held) fun _ _ _ _ _ _ us hl => match us, hl with | [_, _], _ => rfl,
    a_thing_of := f45, d_thing_of := _, F_thing_of := fun_mk (st := st_thing_of) l45 c45 k45, m_thing_of := PySem.W.mg_of X GG a45,
    b_thing_of := (fun_mk (st := st_thing_of) l45 c45 k45).binds (ps := P_thing_of) fun _ _ _ _ _ _ us hl => match us, hl with | [_, _], _ => rfl,
    a_shading := f46, d_shading := _, F_shading := fun_mk (st := st_shading) l46 c46 k46, m_shading := PySem.W.mg_of X GG a46,
    b_shading := (fun_mk (st := st_shading) l46 c46 k46).binds (ps := P_shading) fun _ _ _ _ _ _ us hl => match us, hl with | [_, _, _], _ => rfl,
    a_shades := f47, d_shades := _, F_shades := fun_mk (st := st_shades) l47 c47 k47, m_shades := PySem.W.mg_of X GG a47,
    b_shades := (fun_mk (st := st_shades) l47 c47 k47).binds (ps := P_shades) fun _ _ _ _ _ _ us hl => match us, hl with | [_, _, _], _ => rfl,
    a_dark_of := f48, d_dark_of := _, F_dark_of := fun_mk (st := st_dark_of) l48 c48 k48, m_dark_of := PySem.W.mg_of X GG a48,
    b_dark_of := (fun_mk (st := st_dark_of) l48 c48 k48).binds (ps := P_dark_of) fun _ _ _ _ _ _ us hl => match us, hl with | [_, _, _], _ => rfl,
    a_law_set := f49, d_law_set := _, F_law_set := fun_mk (st := st_law_set) l49 c49 k49, m_law_set := PySem.W.mg_of X GG a49,
    b_law_set := (fun_mk (st := st_law_set) l49 c49 k49).binds (ps := P_law_set) fun _ _ _ _ _ _ us hl => match us, hl with | [_, _, _], _ => rfl,
    a_dark := f50, d_dark := _, F_dark := fun_mk (st := st_dark) l50 c50 k50, m_dark := PySem.W.mg_of X GG a50,
    b_dark := (fun_mk (st := st_dark) l50 c50 k50).binds (ps := P_dark) fun _ _ _ _ _ _ us hl => match us, hl with | [_, _], _ => rfl,
    a_law := fa, d_law := _, F_law := fun_mk (st := st_law) l51 c51 k51, m_law := PySem.W.mg_of X GG a51,
    b_law := (fun_mk (st := st_law) l51 c51 k51).binds (ps := P_law) fun _ _ _ _ _ _ us hl => match us, hl with | [_], _ => rfl,
    mC_Yard := PySem.W.mg_of X GG nC_Yard,
    mC_Post := PySem.W.mg_of X GG nC_Post,
    mC_Fence := PySem.W.mg_of X GG nC_Fence,
    mC_Sail := PySem.W.mg_of X GG nC_Sail,
    mC_Cloth := PySem.W.mg_of X GG nC_Cloth,
    mC_House := PySem.W.mg_of X GG nC_House,
    cl_Yard := ⟨pg_Yard, hd_Yard, po_Yard, sa_Yard⟩,
    mk_Yard := ⟨mk_Yard, at_Yard_init, i4, kc_Yard⟩,
    ni_Yard := (List.forall_mem_cons.mpr ⟨no_Yard_width, (List.forall_mem_cons.mpr ⟨no_Yard_height, (List.forall_mem_cons.mpr ⟨no_Yard_things, (List.forall_mem_cons.mpr ⟨no_Yard_days, all0⟩)⟩)⟩)⟩),
    cl_Post := ⟨pg_Post, hd_Post, po_Post, sa_Post⟩,
    mk_Post := ⟨mk_Post, at_Post_init, i6, kc_Post⟩,
    ni_Post := (List.forall_mem_cons.mpr ⟨no_Post_numbers, all0⟩),
    cl_Fence := ⟨pg_Fence, hd_Fence, po_Fence, sa_Fence⟩,
    mk_Fence := ⟨mk_Fence, at_Fence_init, i6, kc_Fence⟩,
    ni_Fence := (List.forall_mem_cons.mpr ⟨no_Fence_numbers, all0⟩),
    cl_Sail := ⟨pg_Sail, hd_Sail, po_Sail, sa_Sail⟩,
    mk_Sail := ⟨mk_Sail, at_Sail_init, i6, kc_Sail⟩,
    ni_Sail := (List.forall_mem_cons.mpr ⟨no_Sail_numbers, all0⟩),
    cl_Cloth := ⟨pg_Cloth, hd_Cloth, po_Cloth, sa_Cloth⟩,
    mk_Cloth := ⟨mk_Cloth, at_Cloth_init, i6, kc_Cloth⟩,
    ni_Cloth := (List.forall_mem_cons.mpr ⟨no_Cloth_numbers, all0⟩),
    cl_House := ⟨pg_House, hd_House, po_House, sa_House⟩,
    mk_House := ⟨mk_House, at_House_init, i6, kc_House⟩,
    ni_House := (List.forall_mem_cons.mpr ⟨no_House_numbers, all0⟩),
    fl_days := (List.forall_mem_cons.mpr ⟨⟨⟨pg_Yard, hd_Yard, po_Yard, sa_Yard⟩, no_Yard_days⟩, all0⟩),
    fl_height := (List.forall_mem_cons.mpr ⟨⟨⟨pg_Yard, hd_Yard, po_Yard, sa_Yard⟩, no_Yard_height⟩, all0⟩),
    fl_numbers := (List.forall_mem_cons.mpr ⟨⟨⟨pg_Post, hd_Post, po_Post, sa_Post⟩, no_Post_numbers⟩, (List.forall_mem_cons.mpr ⟨⟨⟨pg_Fence, hd_Fence, po_Fence, sa_Fence⟩, no_Fence_numbers⟩, (List.forall_mem_cons.mpr ⟨⟨⟨pg_Sail, hd_Sail, po_Sail, sa_Sail⟩, no_Sail_numbers⟩, (List.forall_mem_cons.mpr ⟨⟨⟨pg_Cloth, hd_Cloth, po_Cloth, sa_Cloth⟩, no_Cloth_numbers⟩, (List.forall_mem_cons.mpr ⟨⟨⟨pg_House, hd_House, po_House, sa_House⟩, no_House_numbers⟩, all0⟩)⟩)⟩)⟩)⟩),
    fl_things := (List.forall_mem_cons.mpr ⟨⟨⟨pg_Yard, hd_Yard, po_Yard, sa_Yard⟩, no_Yard_things⟩, all0⟩),
    fl_width := (List.forall_mem_cons.mpr ⟨⟨⟨pg_Yard, hd_Yard, po_Yard, sa_Yard⟩, no_Yard_width⟩, all0⟩),
    me_Post_corners := ⟨at_Post_corners, i39, k39⟩,
    me_Post_word := ⟨at_Post_word, i7, k7⟩,
    me_Post_shown := ⟨at_Post_shown, i31, k31⟩,
    me_Fence_corners := ⟨at_Fence_corners, i9, k9⟩,
    me_Fence_word := ⟨at_Fence_word, i8, k8⟩,
    me_Fence_shown := ⟨at_Fence_shown, i31, k31⟩,
    me_Sail_corners := ⟨at_Sail_corners, i32, k32⟩,
    me_Sail_word := ⟨at_Sail_word, i10, k10⟩,
    me_Sail_shown := ⟨at_Sail_shown, i31, k31⟩,
    me_Cloth_corners := ⟨at_Cloth_corners, i12, k12⟩,
    me_Cloth_word := ⟨at_Cloth_word, i11, k11⟩,
    me_Cloth_shown := ⟨at_Cloth_shown, i31, k31⟩,
    me_House_corners := ⟨at_House_corners, i40, k40⟩,
    me_House_word := ⟨at_House_word, i13, k13⟩,
    me_House_shown := ⟨at_House_shown, i31, k31⟩,
    z_abs := PySem.W.mg_none_of X GG z_abs,
    z_all := PySem.W.mg_none_of X GG z_all,
    z_bool := PySem.W.mg_none_of X GG z_bool,
    z_int := PySem.W.mg_none_of X GG z_int,
    z_isinstance := PySem.W.mg_none_of X GG z_isinstance,
    z_len := PySem.W.mg_none_of X GG z_len,
    z_list := PySem.W.mg_none_of X GG z_list,
    z_max := PySem.W.mg_none_of X GG z_max,
    z_min := PySem.W.mg_none_of X GG z_min,
    z_range := PySem.W.mg_none_of X GG z_range,
    z_str := PySem.W.mg_none_of X GG z_str,
    z_sum := PySem.W.mg_none_of X GG z_sum,
    z_tuple := PySem.W.mg_none_of X GG z_tuple,
    g_FAR := ⟨.int 1000000000, _, PySem.W.mg_of X GG g_FAR, ⟨_, rfl⟩, (fun _ => .int _)⟩,
    g_NOUGHT := ⟨.ref cn_NOUGHT, _, PySem.W.mg_of X GG g_NOUGHT, rfl, fun F => .tup (vs := [.int 0, .int 1]) (.inr ⟨rfl, _, _, _, lc_NOUGHT, rfl, rfl, by show 2 ≤ sizeLine; decide, (.cons ⟨_, rfl⟩ (.cons ⟨_, rfl⟩ .nil))⟩) (.cons (.int _) (.cons (.int _) .nil))⟩
  }) (law_true G0)⟩
end My
open PySem PySem.W PyProof.Rows
set_option maxRecDepth 100000 in
set_option maxHeartbeats 0 in
theorem PySem.Challenge.cw_shadowpost_k31_dark_by_things_holds : PySem.Challenge.rw_shadowpost_k31_dark_by_things.Holds := by
  w_on; o_law; k_head; (case hw => w_witness2)
  k_fill
  refine L2.walk_of (l := PySem.Challenge.rw_shadowpost_k31_dark_by_things) (n := 63) (k := 9) (x := "_law_script") (CX := fun w => L2.CX PySem.Challenge.rw_shadowpost_k31_dark_by_things.prog w) (sp := fun w => DL.spLaw _) rfl (by decide) rfl ⟨rfl, by decide, by decide⟩ (fun w h Y => PySem.W.kIn_of Y) ?F (fun _ _ a ns hl _ hS => ⟨a, ns, rfl, hS, hl, fun _ => rfl⟩) (fun _ _ _ _ _ h => DL.cx_false h)
  case F =>
    intro w mg fa h KX G hmg
    refine' My.all_mk  KX G hmg ?nC_Yard ?nC_Post ?nC_Fence ?nC_Sail ?nC_Cloth ?nC_House ?at_Yard_init ?at_Post_init ?at_Fence_init ?at_Sail_init ?at_Cloth_init ?at_House_init ?at_Post_corners ?at_Post_word ?at_Post_shown ?at_Fence_corners ?at_Fence_word ?at_Fence_shown ?at_Sail_corners ?at_Sail_word ?at_Sail_shown ?at_Cloth_corners ?at_Cloth_word ?at_Cloth_shown ?at_House_corners ?at_House_word ?at_House_shown ?a0 ?l0 ?c0 ?k0 ?a1 ?l1 ?c1 ?k1 ?a2 ?l2 ?c2 ?k2 ?a3 ?l3 ?c3 ?k3 ?i4 ?l4 ?c4 ?k4 ?a5 ?l5 ?c5 ?k5 ?i6 ?l6 ?c6 ?k6 ?i7 ?l7 ?c7 ?k7 ?i8 ?l8 ?c8 ?k8 ?i9 ?l9 ?c9 ?k9 ?i10 ?l10 ?c10 ?k10 ?i11 ?l11 ?c11 ?k11 ?i12 ?l12 ?c12 ?k12 ?i13 ?l13 ?c13 ?k13 ?a14 ?l14 ?c14 ?k14 ?a15 ?l15 ?c15 ?k15 ?a16 ?l16 ?c16 ?k16 ?a17 ?l17 ?c17 ?k17 ?a18 ?l18 ?c18 ?k18 ?a19 ?l19 ?c19 ?k19 ?a20 ?l20 ?c20 ?k20 ?a21 ?l21 ?c21 ?k21 ?a22 ?l22 ?c22 ?k22 ?a23 ?l23 ?c23 ?k23 ?a24 ?l24 ?c24 ?k24 ?a25 ?l25 ?c25 ?k25 ?a26 ?l26 ?c26 ?k26 ?a27 ?l27 ?c27 ?k27 ?a28 ?l28 ?c28 ?k28 ?a29 ?l29 ?c29 ?k29 ?a30 ?l30 ?c30 ?k30 ?i31 ?l31 ?c31 ?k31 ?i32 ?l32 ?c32 ?k32 ?a33 ?l33 ?c33 ?k33 ?a34 ?l34 ?c34 ?k34 ?a35 ?l35 ?c35 ?k35 ?a36 ?l36 ?c36 ?k36 ?a37 ?l37 ?c37 ?k37 ?a38 ?l38 ?c38 ?k38 ?i39 ?l39 ?c39 ?k39 ?i40 ?l40 ?c40 ?k40 ?a41 ?l41 ?c41 ?k41 ?a42 ?l42 ?c42 ?k42 ?a43 ?l43 ?c43 ?k43 ?a44 ?l44 ?c44 ?k44 ?a45 ?l45 ?c45 ?k45 ?a46 ?l46 ?c46 ?k46 ?a47 ?l47 ?c47 ?k47 ?a48 ?l48 ?c48 ?k48 ?a49 ?l49 ?c49 ?k49 ?a50 ?l50 ?c50 ?k50 ?a51 ?l51 ?c51 ?k51 ?pg_Yard ?hd_Yard ?po_Yard ?sa_Yard ?mk_Yard ?kc_Yard ?no_Yard_width ?no_Yard_height ?no_Yard_things ?no_Yard_days ?pg_Post ?hd_Post ?po_Post ?sa_Post ?mk_Post ?kc_Post ?no_Post_numbers ?pg_Fence ?hd_Fence ?po_Fence ?sa_Fence ?mk_Fence ?kc_Fence ?no_Fence_numbers ?pg_Sail ?hd_Sail ?po_Sail ?sa_Sail ?mk_Sail ?kc_Sail ?no_Sail_numbers ?pg_Cloth ?hd_Cloth ?po_Cloth ?sa_Cloth ?mk_Cloth ?kc_Cloth ?no_Cloth_numbers ?pg_House ?hd_House ?po_House ?sa_House ?mk_House ?kc_House ?no_House_numbers ?z_abs ?z_all ?z_bool ?z_int ?z_isinstance ?z_len ?z_list ?z_max ?z_min ?z_range ?z_str ?z_sum ?z_tuple ?g_FAR ?g_NOUGHT ?lc_NOUGHT
    (case nC_Yard => k_is); (case nC_Post => k_is); (case nC_Fence => k_is); (case nC_Sail => k_is); (case nC_Cloth => k_is); (case nC_House => k_is); (case at_Yard_init => k_is); (case at_Post_init => k_is); (case at_Fence_init => k_is); (case at_Sail_init => k_is); (case at_Cloth_init => k_is); (case at_House_init => k_is); (case at_Post_corners => k_is); (case at_Post_word => k_is); (case at_Post_shown => k_is); (case at_Fence_corners => k_is); (case at_Fence_word => k_is); (case at_Fence_shown => k_is); (case at_Sail_corners => k_is); (case at_Sail_word => k_is); (case at_Sail_shown => k_is); (case at_Cloth_corners => k_is); (case at_Cloth_word => k_is); (case at_Cloth_shown => k_is); (case at_House_corners => k_is); (case at_House_word => k_is); (case at_House_shown => k_is); (case a0 => k_is); (case l0 => k_is); (case c0 => k_is); (case k0 => k_is); (case a1 => k_is); (case l1 => k_is); (case c1 => k_is); (case k1 => k_is); (case a2 => k_is); (case l2 => k_is); (case c2 => k_is); (case k2 => k_is); (case a3 => k_is); (case l3 => k_is); (case c3 => k_is); (case k3 => k_is); (case i4 => k_is); (case l4 => k_is); (case c4 => k_is); (case k4 => k_is); (case a5 => k_is); (case l5 => k_is); (case c5 => k_is); (case k5 => k_is); (case i6 => k_is); (case l6 => k_is); (case c6 => k_is); (case k6 => k_is); (case i7 => k_is); (case l7 => k_is); (case c7 => k_is); (case k7 => k_is); (case i8 => k_is); (case l8 => k_is); (case c8 => k_is); (case k8 => k_is); (case i9 => k_is); (case l9 => k_is); (case c9 => k_is); (case k9 => k_is); (case i10 => k_is); (case l10 => k_is); (case c10 => k_is); (case k10 => k_is); (case i11 => k_is); (case l11 => k_is); (case c11 => k_is); (case k11 => k_is); (case i12 => k_is); (case l12 => k_is); (case c12 => k_is); (case k12 => k_is); (case i13 => k_is); (case l13 => k_is); (case c13 => k_is); (case k13 => k_is); (case a14 => k_is); (case l14 => k_is); (case c14 => k_is); (case k14 => k_is); (case a15 => k_is); (case l15 => k_is); (case c15 => k_is); (case k15 => k_is); (case a16 => k_is); (case l16 => k_is); (case c16 => k_is); (case k16 => k_is); (case a17 => k_is); (case l17 => k_is); (case c17 => k_is); (case k17 => k_is); (case a18 => k_is); (case l18 => k_is); (case c18 => k_is); (case k18 => k_is); (case a19 => k_is); (case l19 => k_is); (case c19 => k_is); (case k19 => k_is); (case a20 => k_is); (case l20 => k_is); (case c20 => k_is); (case k20 => k_is); (case a21 => k_is); (case l21 => k_is); (case c21 => k_is); (case k21 => k_is); (case a22 => k_is); (case l22 => k_is); (case c22 => k_is); (case k22 => k_is); (case a23 => k_is); (case l23 => k_is); (case c23 => k_is); (case k23 => k_is); (case a24 => k_is); (case l24 => k_is); (case c24 => k_is); (case k24 => k_is); (case a25 => k_is); (case l25 => k_is); (case c25 => k_is); (case k25 => k_is); (case a26 => k_is); (case l26 => k_is); (case c26 => k_is); (case k26 => k_is); (case a27 => k_is); (case l27 => k_is); (case c27 => k_is); (case k27 => k_is); (case a28 => k_is); (case l28 => k_is); (case c28 => k_is); (case k28 => k_is); (case a29 => k_is); (case l29 => k_is); (case c29 => k_is); (case k29 => k_is); (case a30 => k_is); (case l30 => k_is); (case c30 => k_is); (case k30 => k_is); (case i31 => k_is); (case l31 => k_is); (case c31 => k_is); (case k31 => k_is); (case i32 => k_is); (case l32 => k_is); (case c32 => k_is); (case k32 => k_is); (case a33 => k_is); (case l33 => k_is); (case c33 => k_is); (case k33 => k_is); (case a34 => k_is); (case l34 => k_is); (case c34 => k_is); (case k34 => k_is); (case a35 => k_is); (case l35 => k_is); (case c35 => k_is); (case k35 => k_is); (case a36 => k_is); (case l36 => k_is); (case c36 => k_is); (case k36 => k_is); (case a37 => k_is); (case l37 => k_is); (case c37 => k_is); (case k37 => k_is); (case a38 => k_is); (case l38 => k_is); (case c38 => k_is); (case k38 => k_is); (case i39 => k_is); (case l39 => k_is); (case c39 => k_is); (case k39 => k_is); (case i40 => k_is); (case l40 => k_is); (case c40 => k_is); (case k40 => k_is); (case a41 => k_is); (case l41 => k_is); (case c41 => k_is); (case k41 => k_is); (case a42 => k_is); (case l42 => k_is); (case c42 => k_is); (case k42 => k_is); (case a43 => k_is); (case l43 => k_is); (case c43 => k_is); (case k43 => k_is); (case a44 => k_is); (case l44 => k_is); (case c44 => k_is); (case k44 => k_is); (case a45 => k_is); (case l45 => k_is); (case c45 => k_is); (case k45 => k_is); (case a46 => k_is); (case l46 => k_is); (case c46 => k_is); (case k46 => k_is); (case a47 => k_is); (case l47 => k_is); (case c47 => k_is); (case k47 => k_is); (case a48 => k_is); (case l48 => k_is); (case c48 => k_is); (case k48 => k_is); (case a49 => k_is); (case l49 => k_is); (case c49 => k_is); (case k49 => k_is); (case a50 => k_is); (case l50 => k_is); (case c50 => k_is); (case k50 => k_is); (case a51 => k_is); (case l51 => k_is); (case c51 => k_is); (case k51 => k_is); (case pg_Yard => k_is); (case hd_Yard => k_is); (case po_Yard => k_is); (case sa_Yard => k_is); (case mk_Yard => k_is); (case kc_Yard => k_is); (case no_Yard_width => k_is); (case no_Yard_height => k_is); (case no_Yard_things => k_is); (case no_Yard_days => k_is); (case pg_Post => k_is); (case hd_Post => k_is); (case po_Post => k_is); (case sa_Post => k_is); (case mk_Post => k_is); (case kc_Post => k_is); (case no_Post_numbers => k_is); (case pg_Fence => k_is); (case hd_Fence => k_is); (case po_Fence => k_is); (case sa_Fence => k_is); (case mk_Fence => k_is); (case kc_Fence => k_is); (case no_Fence_numbers => k_is); (case pg_Sail => k_is); (case hd_Sail => k_is); (case po_Sail => k_is); (case sa_Sail => k_is); (case mk_Sail => k_is); (case kc_Sail => k_is); (case no_Sail_numbers => k_is); (case pg_Cloth => k_is); (case hd_Cloth => k_is); (case po_Cloth => k_is); (case sa_Cloth => k_is); (case mk_Cloth => k_is); (case kc_Cloth => k_is); (case no_Cloth_numbers => k_is); (case pg_House => k_is); (case hd_House => k_is); (case po_House => k_is); (case sa_House => k_is); (case mk_House => k_is); (case kc_House => k_is); (case no_House_numbers => k_is); (case z_abs => k_is); (case z_all => k_is); (case z_bool => k_is); (case z_int => k_is); (case z_isinstance => k_is); (case z_len => k_is); (case z_list => k_is); (case z_max => k_is); (case z_min => k_is); (case z_range => k_is); (case z_str => k_is); (case z_sum => k_is); (case z_tuple => k_is); (case g_FAR => k_is); (case g_NOUGHT => k_is); (case lc_NOUGHT => k_is)
