import PyProof.Rows.All
import HandS.ForMost
import HandS.ForExc
import HandS.Wide
import HandS.WideBits
import HandS.IsInst
import HandS.Deep
import HandS.TupLe
import KE.DataEq
import HandS.SortInts
import HandS.CallSlots
import KE.DataMinMax
import HandS.Style
import HandS.Flt
import HandS.Defaults
import HandS.Zip
import HandS.Strs
import HandS.SetFor
import HandS.Conv
import HandS.TupSets
import HandS.SortOrd
import HandS.More
import PySem.Challenge.RW_shadowpost_k57_whole_dials_tell_the_turn
set_option Elab.async false
set_option linter.all false
set_option maxRecDepth 100000
set_option maxHeartbeats 4000000
set_option autoImplicit false
/-! DLa: data over the hand layer: what a value is as a tree of data, what a frame owns, one relation for a state. -/
namespace DL
open PySem PySem.Spec L2

/-- data: what a value tells, all that hangs on it being left as it is -/
inductive D where
  | non | bl (b : Bool) | int (i : Int) | str (x : Str)
  | tup (xs : List D) | lst (xs : List D) | scr (xs : List D)
  | ins (C : Addr) (ns : List Str) (xs : List D)
  | junk
  | exn (C : Addr) (own : Bool) (ns : List Str) (xs : List D)
  | dct (kk : List Key) (xs : List D)

/-- whether tuples of the module's own top are data, too (then no tuple is a key) -/
def KC : Bool := false
def KTup (K : PySem.W.Frag) (a : Addr) (vs : List V) : Prop := ∃ (o : Obj) (its : Array Value) (n : Nat), K.lookup a = some o ∧ o.cls = .type "tuple" ∧ o.data = .seq its n ∧ its.size ≤ sizeLine ∧ Vals vs its.toList
def TupAt (K : PySem.W.Frag) (F : Hp) (a : Addr) (vs : List V) : Prop := F a = some (.tup vs) ∨ (KC = true ∧ KTup K a vs)

/-- at a: an exception object of the class C, od its dict -/
def ExAt (F : Hp) (a C : Addr) (od : Option Addr) : Prop := ∃ oe : Obj, F a = some (.ext fun h => h.get? a = some oe) ∧ (oe.cls = .ref C ∧ oe.dict = od) ∧ ∃ fs, oe.data = .fields fs
def ExDx (F : Hp) (own : Bool) (od : Option Addr) (ns : List Str) (vs : List V) : Prop := if own = true then ∃ dx, od = some dx ∧ F dx = some (.xd (ns.zip vs)) else od = none
theorem ExAt.mono {F F' : Hp} {a C : Addr} {od : Option Addr} (e : Same F F') (h : ExAt F a C od) : ExAt F' a C od := by
  obtain ⟨oe, h1, h2⟩ := h
  exact ⟨oe, e _ _ h1, h2⟩
theorem ExDx.mono {F F' : Hp} {own : Bool} {od : Option Addr} {ns : List Str} {vs : List V} (e : Same F F') (h : ExDx F own od ns vs) : ExDx F' own od ns vs := by
  unfold ExDx at *
  by_cases q : own = true
  · rw [if_pos q] at h ⊢
    obtain ⟨dx, h1, h2⟩ := h
    exact ⟨dx, h1, e _ _ h2⟩
  · rw [if_neg q] at h ⊢; exact h
mutual
inductive At (K : PySem.W.Frag) (F : Hp) : V → D → Prop
  | non : At K F .non .non
  | bl (b : Bool) : At K F (.bl b) (.bl b)
  | int (i : Int) : At K F (.int i) (.int i)
  | str (x : Str) : At K F (.str x) (.str x)
  | lst {a : Addr} {vs : List V} {ds : List D} : F a = some (.lst vs) → Ats K F vs ds → At K F (.ref a) (.lst ds)
  | scr {a : Addr} {vs : List V} {ds : List D} : SqL K F a vs → Ats K F vs ds → At K F (.ref a) (.scr ds)
  | tup {a : Addr} {vs : List V} {ds : List D} : TupAt K F a vs → Ats K F vs ds → At K F (.ref a) (.tup ds)
  | junk (a : Addr) : At K F (.ref a) .junk
  | exn {a C : Addr} {od : Option Addr} {own : Bool} {ns : List Str} {vs : List V} {ds : List D} : ExAt F a C od → ExDx F own od ns vs → ns.length = vs.length → Ats K F vs ds → At K F (.ref a) (.exn C own ns ds)
  | ins {a C dx : Addr} {ns : List Str} {vs : List V} {ds : List D} : F a = some (.ins C dx (ns.zip vs)) → ns.length = vs.length → Ats K F vs ds → At K F (.ref a) (.ins C ns ds)
  | dct {a : Addr} {kk : List Key} {vs : List V} {ds : List D} : F a = some (.dK (kk.zip vs)) → kk.Nodup → kk.length = vs.length → Ats K F vs ds → At K F (.ref a) (.dct kk ds)
inductive Ats (K : PySem.W.Frag) (F : Hp) : List V → List D → Prop
  | nil : Ats K F [] []
  | cons {v : V} {vs : List V} {d : D} {ds : List D} : At K F v d → Ats K F vs ds → Ats K F (v :: vs) (d :: ds)
end

theorem sameT {K : PySem.W.Frag} {H H' : Hp} {a : Addr} {xs : List V} (e : Same H H') (h : TupAt K H a xs) : SqT K H' a xs := by
  rcases h with h | ⟨_, h⟩
  · exact .inl (.inl (e _ _ h))
  · exact .inr h
theorem sameT0 {K : PySem.W.Frag} {H H' : Hp} {a : Addr} {xs : List V} (e : Same H H') (h : TupAt K H a xs) : TupAt K H' a xs := by
  rcases h with h | h
  · exact .inl (e _ _ h)
  · exact .inr h

section
variable {K : PySem.W.Frag} {F F' H H' : Hp}
mutual
theorem At.mono (e : Same F F') : ∀ (d : D) (v : V), At K F v d → At K F' v d
  | .non, _, h => by cases h; exact .non
  | .bl b, _, h => by cases h; exact .bl b
  | .int i, _, h => by cases h; exact .int i
  | .str x, _, h => by cases h; exact .str x
  | .lst ds, _, h => by
    cases h with
    | lst hs ha => exact .lst (e _ _ hs) (Ats.mono e ds _ ha)
  | .scr ds, _, h => by
    cases h with
    | scr hs ha => exact .scr (e.seq hs) (Ats.mono e ds _ ha)
  | .tup ds, _, h => by
    cases h with
    | tup hs ha => exact .tup (sameT0 e hs) (Ats.mono e ds _ ha)
  | .junk, _, h => by cases h; exact .junk _
  | .exn C own ns ds, _, h => by
    cases h with
    | exn h1 h2 hl ha => exact .exn (h1.mono e) (h2.mono e) hl (Ats.mono e ds _ ha)
  | .ins C ns ds, _, h => by
    cases h with
    | ins hs hl ha => exact .ins (e _ _ hs) hl (Ats.mono e ds _ ha)
  | .dct kk ds, _, h => by
    cases h with
    | dct h1 h2 h3 h4 => exact .dct (e _ _ h1) h2 h3 (Ats.mono e ds _ h4)
theorem Ats.mono (e : Same F F') : ∀ (ds : List D) (vs : List V), Ats K F vs ds → Ats K F' vs ds
  | [], _, h => by cases h; exact .nil
  | d :: ds, _, h => by
    cases h with
    | cons h1 h2 => exact .cons (At.mono e d _ h1) (Ats.mono e ds _ h2)
end
theorem Ats.length : ∀ {vs : List V} {ds : List D}, Ats K F vs ds → vs.length = ds.length
  | _, _, .nil => rfl
  | _, _, .cons _ t => congrArg (· + 1) (Ats.length t)
theorem Ats.get : ∀ {vs : List V} {ds : List D} {i : Nat} {d : D}, Ats K F vs ds → ds[i]? = some d → ∃ v, vs[i]? = some v ∧ At K F v d
  | _, _, _, _, .nil, e => by simp at e
  | _, _, 0, _, .cons h _, e => by
    simp at e
    subst e
    exact ⟨_, rfl, h⟩
  | _, _, i + 1, d, .cons _ t, e => by
    obtain ⟨v, h1, h2⟩ := Ats.get (i := i) (d := d) t (by simpa using e)
    exact ⟨v, by simpa using h1, h2⟩
theorem Ats.get' : ∀ {vs : List V} {ds : List D} {i : Nat} {v : V}, Ats K F vs ds → vs[i]? = some v → ∃ d, ds[i]? = some d ∧ At K F v d
  | _, _, _, _, .nil, e => by simp at e
  | _, _, 0, _, .cons h _, e => by
    simp at e
    subst e
    exact ⟨_, rfl, h⟩
  | _, _, i + 1, v, .cons _ t, e => by
    obtain ⟨d, h1, h2⟩ := Ats.get' (i := i) (v := v) t (by simpa using e)
    exact ⟨d, by simpa using h1, h2⟩
theorem Ats.append : ∀ {vs ws : List V} {ds es : List D}, Ats K F vs ds → Ats K F ws es → Ats K F (vs ++ ws) (ds ++ es)
  | _, _, _, _, .nil, h => h
  | _, _, _, _, .cons a t, h => .cons a (Ats.append t h)
theorem Ats.take : ∀ {vs : List V} {ds : List D} (n : Nat), Ats K F vs ds → Ats K F (vs.take n) (ds.take n)
  | _, _, 0, _ => by simp only [List.take_zero]; exact .nil
  | _, _, n + 1, .nil => .nil
  | _, _, n + 1, .cons a t => .cons a (Ats.take n t)
theorem Ats.drop : ∀ {vs : List V} {ds : List D} (n : Nat), Ats K F vs ds → Ats K F (vs.drop n) (ds.drop n)
  | _, _, 0, h => h
  | _, _, n + 1, .nil => .nil
  | _, _, n + 1, .cons _ t => Ats.drop n t
theorem Ats.one {v : V} {d : D} (h : At K F v d) : Ats K F [v] [d] := .cons h .nil
theorem Ats.rev : ∀ {vs : List V} {ds : List D}, Ats K F vs ds → Ats K F vs.reverse ds.reverse
  | _, _, .nil => .nil
  | _, _, .cons a t => by
    simp only [List.reverse_cons]
    exact (Ats.rev t).append (.one a)
theorem Ats.set : ∀ {vs : List V} {ds : List D} (i : Nat) {v : V} {d : D}, Ats K F vs ds → At K F v d → Ats K F (vs.set i v) (ds.set i d)
  | _, _, _, _, _, .nil, _ => .nil
  | _, _, 0, _, _, .cons _ t, h => .cons h t
  | _, _, i + 1, _, _, .cons a t, h => .cons a (Ats.set i t h)
end

/-! ### what is owned -/
/-- a dict: its address where it is told, whether a walk locks it, whether its keys are tuples, its keys in order -/
structure DB where
  at_ : Option Addr
  lock : Bool
  tk : Bool
  ks : List (List Key)
def HoOf (b : DB) (vs : List V) (u : HO) : Prop := (b.tk = true ∧ u = .dT (b.ks.zip vs)) ∨ (b.tk = false ∧ ∃ kk : List Key, b.ks = kk.map (fun k => [k]) ∧ u = .dK (kk.zip vs))
def DicAt (H : Hp) (p : Addr) (b : DB) (vs : List V) : Prop := ((∀ a, b.at_ = some a → p = a) ∧ b.ks.Nodup) ∧ ∃ u, HoOf b vs u ∧ ((b.lock = false ∧ H p = some u) ∨ (b.lock = true ∧ ∃ o, H p = some (.frz o u)))
theorem DicAt.ne {H : Hp} {p : Addr} {b : DB} {vs : List V} (h : DicAt H p b vs) : H p ≠ none := by
  obtain ⟨_, u, _, ⟨_, h⟩ | ⟨_, o, h⟩⟩ := h <;> rw [h] <;> exact fun z => nomatch z
theorem DicAt.eq {H H' : Hp} {p : Addr} {b : DB} {vs : List V} (h : DicAt H p b vs) (e : H' p = H p) : DicAt H' p b vs := by
  unfold DicAt at *
  rw [e]; exact h
theorem DicAt.rd {H : Hp} {p : Addr} {b : DB} {vs : List V} (h : DicAt H p b vs) : ∃ u, HoOf b vs u ∧ Rd H p u := by
  obtain ⟨_, u, hu, ⟨_, h⟩ | ⟨_, o, h⟩⟩ := h
  · exact ⟨u, hu, .inl h⟩
  · exact ⟨u, hu, .inr ⟨o, h⟩⟩
inductive Val where
  | sh (d : D)
  | lst (xs : List Val)
  | tup (xs : List Val)
  | dic (b : DB) (ds : List D)
  | obj (C : Addr) (ns : List Str) (ds : List D)
  | «at» (p : Addr) (x : Val)
  | dcv (kk : List Key) (xs : List Val)
mutual
def Val.fz : Val → D
  | .sh d => d
  | .lst xs => .lst (fzs xs)
  | .tup xs => .tup (fzs xs)
  | .dic _ _ => .junk
  | .obj C ns ds => .ins C ns ds
  | .at _ x => x.fz
  | .dcv kk xs => .dct kk (fzs xs)
def fzs : List Val → List D
  | [] => []
  | x :: xs => x.fz :: fzs xs
end
theorem fzs_map (xs : List Val) : fzs xs = xs.map Val.fz := by
  induction xs with
  | nil => rfl
  | cons x xs ih => simp only [fzs, List.map_cons, ih]
theorem fzs_sh (ds : List D) : fzs (ds.map .sh) = ds := by
  induction ds with
  | nil => rfl
  | cons x xs ih => simp only [fzs, List.map_cons, ih, Val.fz]

mutual
inductive Own (K : PySem.W.Frag) (F H : Hp) : V → Val → List Addr → Prop
  | sh {v : V} {d : D} : At K F v d → Own K F H v (.sh d) []
  | lst {p : Addr} {vs : List V} {xs : List Val} {f : List Addr} : F p = none → H p = some (.lst vs) → Owns K F H vs xs f → Own K F H (.ref p) (.lst xs) (p :: f)
  | tup {p : Addr} {vs : List V} {xs : List Val} {f : List Addr} : F p = none → H p = some (.tup vs) → Owns K F H vs xs f → Own K F H (.ref p) (.tup xs) (p :: f)
  | dic {p : Addr} {vs : List V} {b : DB} {ds : List D} : F p = none → DicAt H p b vs → b.ks.length = vs.length → Ats K F vs ds → b.lock = false → Own K F H (.ref p) (.dic b ds) [p]
  | dicL {p : Addr} {vs : List V} {b : DB} {ds : List D} {u : HO} {o : Obj} : HoOf b vs u → F p = some (.frz o u) → b.lock = true → (∀ a, b.at_ = some a → p = a) → b.ks.Nodup → b.ks.length = vs.length → Ats K F vs ds → Own K F H (.ref p) (.dic b ds) []
  | obj {p C dx : Addr} {ns : List Str} {vs : List V} {ds : List D} : F p = none → H p = some (.ins C dx (ns.zip vs)) → ns.length = vs.length → Ats K F vs ds → Own K F H (.ref p) (.obj C ns ds) [p]
  | «at» {p : Addr} {x : Val} {f : List Addr} : Own K F H (.ref p) x f → Own K F H (.ref p) (.at p x) f
  | dcv {p : Addr} {kk : List Key} {vs : List V} {xs : List Val} {f : List Addr} : F p = none → H p = some (.dK (kk.zip vs)) → kk.Nodup → kk.length = vs.length → Owns K F H vs xs f → Own K F H (.ref p) (.dcv kk xs) (p :: f)
inductive Owns (K : PySem.W.Frag) (F H : Hp) : List V → List Val → List Addr → Prop
  | nil : Owns K F H [] [] []
  | cons {v : V} {vs : List V} {x : Val} {xs : List Val} {f g : List Addr} : Own K F H v x f → Owns K F H vs xs g → Owns K F H (v :: vs) (x :: xs) (f ++ g)
end
section
variable {K : PySem.W.Frag} {F F' H H' : Hp}
mutual
/-- the heaps grow; what is owned stands -/
theorem Own.mono (e : Same F F') : ∀ (x : Val) (v : V) (f : List Addr), Own K F H v x f → (∀ b ∈ f, F' b = none ∧ H' b = H b) → Own K F' H' v x f
  | .sh d, _, _, h, _ => by
    cases h with
    | sh h => exact .sh (At.mono e d _ h)
  | .lst xs, _, _, h, k => by
    cases h with
    | lst h1 h2 h3 => exact .lst (k _ List.mem_cons_self).1 ((k _ List.mem_cons_self).2.trans h2) (Owns.mono e xs _ _ h3 fun b hb => k b (List.mem_cons_of_mem _ hb))
  | .tup xs, _, _, h, k => by
    cases h with
    | tup h1 h2 h3 => exact .tup (k _ List.mem_cons_self).1 ((k _ List.mem_cons_self).2.trans h2) (Owns.mono e xs _ _ h3 fun b hb => k b (List.mem_cons_of_mem _ hb))
  | .dic b ds, _, _, h, k => by
    cases h with
    | dic h1 h2 h3 h4 h5 => exact .dic (k _ List.mem_cons_self).1 (h2.eq (k _ List.mem_cons_self).2) h3 (Ats.mono e _ _ h4) h5
    | dicL h1 h2 h3 h4 h5 h6 h7 => exact .dicL h1 (e _ _ h2) h3 h4 h5 h6 (Ats.mono e _ _ h7)
  | .obj C ns ds, _, _, h, k => by
    cases h with
    | obj h1 h2 h3 h4 => exact .obj (k _ List.mem_cons_self).1 ((k _ List.mem_cons_self).2.trans h2) h3 (Ats.mono e _ _ h4)
  | .at p x, _, _, h, k => by
    cases h with
    | «at» h => exact .at (Own.mono e x _ _ h k)
  | .dcv kk xs, _, _, h, k => by
    cases h with
    | dcv h1 h2 h3 h4 h5 => exact .dcv (k _ List.mem_cons_self).1 ((k _ List.mem_cons_self).2.trans h2) h3 h4 (Owns.mono e xs _ _ h5 fun b hb => k b (List.mem_cons_of_mem _ hb))
theorem Owns.mono (e : Same F F') : ∀ (xs : List Val) (vs : List V) (f : List Addr), Owns K F H vs xs f → (∀ b ∈ f, F' b = none ∧ H' b = H b) → Owns K F' H' vs xs f
  | [], _, _, h, _ => by cases h; exact .nil
  | x :: xs, _, _, h, k => by
    cases h with
    | cons h1 h2 => exact .cons (Own.mono e x _ _ h1 fun b hb => k b (List.mem_append_left _ hb)) (Owns.mono e xs _ _ h2 fun b hb => k b (List.mem_append_right _ hb))
end
mutual
theorem Own.no : ∀ (x : Val) (v : V) (f : List Addr), Own K F H v x f → ∀ b ∈ f, F b = none ∧ H b ≠ none
  | .sh d, _, _, h, b, hb => by cases h; cases hb
  | .lst xs, _, _, h, b, hb => by
    cases h with
    | lst h1 h2 h3 =>
      rcases List.mem_cons.mp hb with e | hb
      · subst e; exact ⟨h1, by rw [h2]; exact fun z => nomatch z⟩
      · exact Owns.no xs _ _ h3 b hb
  | .tup xs, _, _, h, b, hb => by
    cases h with
    | tup h1 h2 h3 =>
      rcases List.mem_cons.mp hb with e | hb
      · subst e; exact ⟨h1, by rw [h2]; exact fun z => nomatch z⟩
      · exact Owns.no xs _ _ h3 b hb
  | .dic bb ds, _, _, h, b, hb => by
    cases h with
    | dic h1 h2 h3 h4 =>
      rw [List.mem_singleton.mp hb]
      exact ⟨h1, h2.ne⟩
    | dicL => cases hb
  | .obj C ns ds, _, _, h, b, hb => by
    cases h with
    | obj h1 h2 h3 h4 =>
      rw [List.mem_singleton.mp hb]
      exact ⟨h1, by rw [h2]; exact fun z => nomatch z⟩
  | .at p x, _, _, h, b, hb => by
    cases h with
    | «at» h => exact Own.no x _ _ h b hb
  | .dcv kk xs, _, _, h, b, hb => by
    cases h with
    | dcv h1 h2 h3 h4 h5 =>
      rcases List.mem_cons.mp hb with e | hb
      · subst e; exact ⟨h1, by rw [h2]; exact fun z => nomatch z⟩
      · exact Owns.no xs _ _ h5 b hb
theorem Owns.no : ∀ (xs : List Val) (vs : List V) (f : List Addr), Owns K F H vs xs f → ∀ b ∈ f, F b = none ∧ H b ≠ none
  | [], _, _, h, b, hb => by cases h; cases hb
  | x :: xs, _, _, h, b, hb => by
    cases h with
    | cons h1 h2 =>
      rcases List.mem_append.mp hb with hb | hb
      · exact Own.no x _ _ h1 b hb
      · exact Owns.no xs _ _ h2 b hb
end
mutual
/-- frozen: all that was owned is left as it is from now on -/
theorem Own.fz (e : Same F F') : ∀ (x : Val) (v : V) (f : List Addr), Own K F H v x f → (∀ b ∈ f, F' b = H b) → At K F' v x.fz
  | .sh d, _, _, h, _ => by
    cases h with
    | sh h => rw [Val.fz]; exact At.mono e d _ h
  | .lst xs, _, _, h, k => by
    cases h with
    | lst h1 h2 h3 =>
      rw [Val.fz]
      exact .lst ((k _ List.mem_cons_self).trans h2) (Owns.fz e xs _ _ h3 fun b hb => k b (List.mem_cons_of_mem _ hb))
  | .tup xs, _, _, h, k => by
    cases h with
    | tup h1 h2 h3 =>
      rw [Val.fz]
      exact .tup (.inl ((k _ List.mem_cons_self).trans h2)) (Owns.fz e xs _ _ h3 fun b hb => k b (List.mem_cons_of_mem _ hb))
  | .dic b ds, v, _, h, _ => by
    rw [Val.fz]
    cases h with
    | dic => exact .junk _
    | dicL => exact .junk _
  | .obj C ns ds, _, _, h, k => by
    cases h with
    | obj h1 h2 h3 h4 =>
      rw [Val.fz]
      exact .ins ((k _ List.mem_cons_self).trans h2) h3 (Ats.mono e _ _ h4)
  | .at p x, _, _, h, k => by
    cases h with
    | «at» h =>
      rw [Val.fz]
      exact Own.fz e x _ _ h k
  | .dcv kk xs, _, _, h, k => by
    cases h with
    | dcv h1 h2 h3 h4 h5 =>
      rw [Val.fz]
      exact .dct ((k _ List.mem_cons_self).trans h2) h3 h4 (Owns.fz e xs _ _ h5 fun b hb => k b (List.mem_cons_of_mem _ hb))
theorem Owns.fz (e : Same F F') : ∀ (xs : List Val) (vs : List V) (f : List Addr), Owns K F H vs xs f → (∀ b ∈ f, F' b = H b) → Ats K F' vs (fzs xs)
  | [], _, _, h, _ => by cases h; rw [fzs]; exact .nil
  | x :: xs, _, _, h, k => by
    cases h with
    | cons h1 h2 =>
      rw [fzs]
      exact .cons (Own.fz e x _ _ h1 fun b hb => k b (List.mem_append_left _ hb)) (Owns.fz e xs _ _ h2 fun b hb => k b (List.mem_append_right _ hb))
end
theorem Owns.length : ∀ {vs : List V} {xs : List Val} {f : List Addr}, Owns K F H vs xs f → vs.length = xs.length
  | _, _, _, .nil => rfl
  | _, _, _, .cons _ t => congrArg (· + 1) (Owns.length t)
theorem Owns.of_ats : ∀ {vs : List V} {ds : List D}, Ats K F vs ds → Owns K F H vs (ds.map .sh) []
  | _, _, .nil => .nil
  | _, _, .cons a t => .cons (f := []) (g := []) (.sh a) (Owns.of_ats t)
theorem Owns.ats : ∀ {vs : List V} {ds : List D} {f : List Addr}, Owns K F H vs (ds.map .sh) f → Ats K F vs ds ∧ f = []
  | _, [], _, .nil => ⟨.nil, rfl⟩
  | _, d :: ds, _, .cons (.sh a) t => by
    obtain ⟨h1, h2⟩ := Owns.ats t
    exact ⟨.cons a h1, by rw [h2]; rfl⟩
end
end DL

/-! DLb: the state of a frame as data: slots and what is held meanwhile. -/
namespace DL
open PySem PySem.Spec L2
abbrev DEnv := List (Option Val)

/-! ### footprints -/
def Sb (f g : List Addr) : Prop := (∀ b ∈ f, b ∈ g) ∧ (g.Nodup → f.Nodup)
theorem Sb.refl (f : List Addr) : Sb f f := ⟨fun _ h => h, fun h => h⟩
theorem Sb.trans {f g h : List Addr} (a : Sb f g) (b : Sb g h) : Sb f h := ⟨fun x hx => b.1 x (a.1 x hx), fun z => a.2 (b.2 z)⟩
theorem Sb.of_perm {f g : List Addr} (p : f.Perm g) : Sb f g := ⟨fun _ h => p.mem_iff.mp h, fun h => p.nodup_iff.mpr h⟩
theorem Sb.of_sub {f g : List Addr} (p : f.Sublist g) : Sb f g := ⟨fun _ h => p.subset h, fun h => h.sublist p⟩
theorem Sb.app {f f' g g' : List Addr} (a : Sb f f') (b : Sb g g') : Sb (f ++ g) (f' ++ g') := by
  refine ⟨fun x hx => ?_, fun h => ?_⟩
  · rcases List.mem_append.mp hx with h | h
    · exact List.mem_append_left _ (a.1 x h)
    · exact List.mem_append_right _ (b.1 x h)
  · rw [List.nodup_append] at h ⊢
    obtain ⟨h1, h2, h3⟩ := h
    exact ⟨a.2 h1, b.2 h2, fun x hx y hy => h3 x (a.1 x hx) y (b.1 y hy)⟩
theorem Sb.left (f g : List Addr) : Sb f (f ++ g) := .of_sub (List.sublist_append_left f g)
theorem Sb.right (f g : List Addr) : Sb g (f ++ g) := .of_sub (List.sublist_append_right f g)
theorem Sb.comm (f g : List Addr) : Sb (f ++ g) (g ++ f) := .of_perm List.perm_append_comm
theorem Sb.nil (f : List Addr) : Sb [] f := .of_sub (List.nil_sublist f)

/-! ### slots -/
inductive Sl (K : PySem.W.Frag) (F H : Hp) : St → DEnv → List Addr → Prop
  | nil : Sl K F H [] [] []
  | un {y : Option V} {σ : St} {ρ : DEnv} {f : List Addr} : Sl K F H σ ρ f → Sl K F H (y :: σ) (none :: ρ) f
  | bd {v : V} {x : Val} {σ : St} {ρ : DEnv} {f g : List Addr} : Own K F H v x f → Sl K F H σ ρ g → Sl K F H (some v :: σ) (some x :: ρ) (f ++ g)
section
variable {K : PySem.W.Frag} {F F' H H' : Hp}
theorem Sl.mono (e : Same F F') : ∀ {σ : St} {ρ : DEnv} {f : List Addr}, Sl K F H σ ρ f → (∀ b ∈ f, F' b = none ∧ H' b = H b) → Sl K F' H' σ ρ f
  | _, _, _, .nil, _ => .nil
  | _, _, _, .un t, k => .un (Sl.mono e t k)
  | _, _, _, .bd h t, k => .bd (Own.mono e _ _ _ h fun b hb => k b (List.mem_append_left _ hb)) (Sl.mono e t fun b hb => k b (List.mem_append_right _ hb))
theorem Sl.no : ∀ {σ : St} {ρ : DEnv} {f : List Addr}, Sl K F H σ ρ f → ∀ b ∈ f, F b = none ∧ H b ≠ none
  | _, _, _, .nil, _, hb => by cases hb
  | _, _, _, .un t, b, hb => Sl.no t b hb
  | _, _, _, .bd h t, b, hb => by
    rcases List.mem_append.mp hb with hb | hb
    · exact Own.no _ _ _ h b hb
    · exact Sl.no t b hb
theorem Sl.length : ∀ {σ : St} {ρ : DEnv} {f : List Addr}, Sl K F H σ ρ f → σ.length = ρ.length
  | _, _, _, .nil => rfl
  | _, _, _, .un t => congrArg (· + 1) (Sl.length t)
  | _, _, _, .bd _ t => congrArg (· + 1) (Sl.length t)
theorem Sl.drop : ∀ {σ : St} {ρ : DEnv} {f : List Addr} (i : Nat), Sl K F H σ ρ f → ∃ r, Sl K F H σ (ρ.set i none) r ∧ Sb r f
  | _, _, _, _, .nil => ⟨[], .nil, .refl _⟩
  | _, _, _, 0, .un t => ⟨_, .un t, .refl _⟩
  | _, _, _, 0, .bd h t => ⟨_, .un t, .right _ _⟩
  | _, _, _, i + 1, .un t => by
    obtain ⟨r, h1, h2⟩ := Sl.drop i t
    exact ⟨r, .un h1, h2⟩
  | _, _, _, i + 1, .bd h t => by
    obtain ⟨r, h1, h2⟩ := Sl.drop i t
    exact ⟨_, .bd h h1, (Sb.refl _).app h2⟩
theorem Sl.take : ∀ {σ : St} {ρ : DEnv} {f : List Addr} (i : Nat) {x : Val}, Sl K F H σ ρ f → ρ[i]? = some (some x) →
    ∃ v g r, σ[i]? = some (some v) ∧ Own K F H v x g ∧ Sl K F H σ (ρ.set i none) r ∧ Sb (g ++ r) f
  | _, _, _, _, _, .nil, e => by simp at e
  | _, _, _, 0, _, .un t, e => by simp at e
  | _, _, _, 0, _, .bd h t, e => by
    simp at e
    subst e
    exact ⟨_, _, _, rfl, h, .un t, .refl _⟩
  | _, _, _, i + 1, x, .un t, e => by
    obtain ⟨v, g, r, h1, h2, h3, h4⟩ := Sl.take i t (by simpa using e)
    exact ⟨v, g, r, by simpa using h1, h2, .un h3, h4⟩
  | _, _, _, i + 1, x, .bd (f := f1) h t, e => by
    obtain ⟨v, g, r, h1, h2, h3, h4⟩ := Sl.take i t (by simpa using e)
    refine ⟨v, g, f1 ++ r, by simpa using h1, h2, .bd h h3, ?_⟩
    have p : Sb (g ++ (f1 ++ r)) (f1 ++ (g ++ r)) := .of_perm (by
      rw [← List.append_assoc, ← List.append_assoc]
      exact List.Perm.append_right _ List.perm_append_comm)
    exact p.trans ((Sb.refl _).app h4)
theorem Sl.put : ∀ {σ : St} {ρ : DEnv} {r : List Addr} (i : Nat) {v : V} {x : Val} {g : List Addr}, Sl K F H σ ρ r → i < ρ.length → Own K F H v x g →
    ∃ f, Sl K F H (σ.set i (some v)) (ρ.set i (some x)) f ∧ Sb f (g ++ r)
  | _, _, _, _, _, _, _, .nil, e, _ => by simp at e
  | _, _, _, 0, _, _, _, .un t, _, h => ⟨_, .bd h t, .refl _⟩
  | _, _, _, 0, _, _, _, .bd _ t, _, h => ⟨_, .bd h t, (Sb.refl _).app (.right _ _)⟩
  | _, _, _, i + 1, _, _, _, .un t, e, h => by
    obtain ⟨f, h1, h2⟩ := Sl.put i t (by simpa using e) h
    exact ⟨f, .un h1, h2⟩
  | _, _, _, i + 1, _, _, g, .bd (f := f1) (g := g1) h0 t, e, h => by
    obtain ⟨f, h1, h2⟩ := Sl.put i t (by simpa using e) h
    refine ⟨_, .bd h0 h1, ?_⟩
    refine ((Sb.refl f1).app h2).trans (.of_perm ?_)
    rw [← List.append_assoc, ← List.append_assoc]
    exact List.Perm.append_right _ List.perm_append_comm
/-- a slot of which nothing is told may hold anything -/
theorem Sl.any : ∀ {σ : St} {ρ : DEnv} {f : List Addr} (i : Nat) (y : Option V), Sl K F H σ ρ f → ρ[i]? = some none → Sl K F H (σ.set i y) ρ f
  | _, _, _, _, _, .nil, h => by simp at h
  | _, _, _, 0, _, .un t, _ => .un t
  | _, _, _, 0, _, .bd _ t, h => by simp at h
  | _, _, _, i + 1, y, .un t, h => .un (Sl.any i y t (by simpa using h))
  | _, _, _, i + 1, y, .bd a t, h => .bd a (Sl.any i y t (by simpa using h))
/-- .. or be forgotten -/
theorem Sl.less : ∀ {σ σ' : St} {ρ : DEnv} {f : List Addr}, Sl K F H σ ρ f → σ'.length = σ.length → (∀ (i : Nat) v x, σ[i]? = some (some v) → ρ[i]? = some (some x) → σ'[i]? = some (some v)) → Sl K F H σ' ρ f
  | _, [], _, _, .nil, _, _ => .nil
  | _, y' :: σ', _, _, .un t, hl, k => .un (Sl.less t (by simpa using hl) fun i v x h1 h2 => by simpa using k (i + 1) v x (by simpa using h1) (by simpa using h2))
  | _, y' :: σ', _, _, .bd a t, hl, k => by
    have e := k 0 _ _ rfl rfl
    simp at e
    subst e
    exact .bd a (Sl.less t (by simpa using hl) fun i v x h1 h2 => by simpa using k (i + 1) v x (by simpa using h1) (by simpa using h2))
end

/-! ### temporaries -/
section
variable {K : PySem.W.Frag} {F F' H H' : Hp}
theorem Owns.append : ∀ {vs ws : List V} {xs ys : List Val} {f g : List Addr}, Owns K F H vs xs f → Owns K F H ws ys g → ∃ h, Owns K F H (vs ++ ws) (xs ++ ys) h ∧ Sb h (f ++ g) ∧ Sb (f ++ g) h
  | _, _, _, _, _, _, .nil, h => ⟨_, h, .refl _, .refl _⟩
  | _, _, _, _, _, _, .cons (f := f1) a t, h => by
    obtain ⟨h1, h2, h3, h4⟩ := Owns.append t h
    refine ⟨_, .cons a h2, ?_, ?_⟩
    · rw [List.append_assoc]; exact (Sb.refl f1).app h3
    · rw [List.append_assoc]; exact (Sb.refl f1).app h4
theorem Owns.split : ∀ {vs ws : List V} {xs ys : List Val} {h : List Addr}, vs.length = xs.length → Owns K F H (vs ++ ws) (xs ++ ys) h → ∃ f g, Owns K F H vs xs f ∧ Owns K F H ws ys g ∧ Sb (f ++ g) h ∧ Sb h (f ++ g)
  | [], _, [], _, _, _, h => ⟨[], _, .nil, h, .refl _, .refl _⟩
  | v :: vs, _, x :: xs, _, _, e, .cons (f := f1) a t => by
    obtain ⟨f, g, h1, h2, h3, h4⟩ := Owns.split (by simpa using e) t
    refine ⟨_, g, .cons a h1, h2, ?_, ?_⟩
    · rw [List.append_assoc]; exact (Sb.refl f1).app h3
    · rw [List.append_assoc]; exact (Sb.refl f1).app h4
end

/-! ### the state -/
/-- F0: what was left as it is at the start, H0: all that stood then -/
def Stt (K : PySem.W.Frag) (F0 H0 H : Hp) (σ : St) (ρ : DEnv) (vs : List V) (xs : List Val) : Prop :=
  ∃ F f g, Same F0 F ∧ Same H0 H ∧ Same F H ∧ (∀ b, F0 b = none → H0 b ≠ none → F b = none) ∧ Sl K F H σ ρ f ∧ Owns K F H vs xs g ∧ (g ++ f).Nodup ∧ ∀ b ∈ g ++ f, H0 b = none
section
variable {K : PySem.W.Frag} {F0 F1 H0 H H' : Hp} {σ σ' : St} {ρ : DEnv} {vs as ws : List V} {xs bs ys : List Val} {v : V} {x : Val} {d : D} {i : Nat}
theorem Stt.pop (h : Stt K F0 H0 H σ ρ (v :: vs) (x :: xs)) : Stt K F0 H0 H σ ρ vs xs := by
  obtain ⟨F, f, g, h1, h2, h3, h4, h5, h6, h7, h8⟩ := h
  cases h6 with
  | cons a t =>
    rename_i g1 g2
    have s : Sb (g2 ++ f) ((g1 ++ g2) ++ f) := (Sb.right g1 g2).app (Sb.refl f)
    exact ⟨F, f, _, h1, h2, h3, h4, h5, t, s.2 h7, fun b hb => h8 b (s.1 b hb)⟩
/-- a scalar -/
theorem Stt.scal (h : Stt K F0 H0 H σ ρ vs xs) (a : ∀ F, At K F v d) : Stt K F0 H0 H σ ρ (v :: vs) (.sh d :: xs) := by
  obtain ⟨F, f, g, h1, h2, h3, h4, h5, h6, h7, h8⟩ := h
  exact ⟨F, f, g, h1, h2, h3, h4, h5, .cons (f := []) (.sh (a F)) h6, h7, h8⟩
/-- the frozen heap is larger by what is owned at f -/
def frz (F H : Hp) (f : List Addr) : Hp := fun b => if b ∈ f then H b else F b
theorem frz_in {F H : Hp} {f : List Addr} {b : Addr} (h : b ∈ f) : frz F H f b = H b := if_pos h
theorem frz_out {F H : Hp} {f : List Addr} {b : Addr} (h : b ∉ f) : frz F H f b = F b := if_neg h
theorem frz_same {F H : Hp} {f : List Addr} (h : ∀ b ∈ f, F b = none) : Same F (frz F H f) := fun b o e => by
  rw [frz_out fun z => by rw [h b z] at e; cases e]; exact e
theorem frz_sub {F H : Hp} {f : List Addr} (h : Same F H) : Same (frz F H f) H := fun b o e => by
  by_cases hb : b ∈ f
  · rw [frz_in hb] at e; exact e
  · rw [frz_out hb] at e; exact h b o e
/-- the first temporaries are frozen -/
theorem Stt.fzs (hl : as.length = bs.length) (h : Stt K F0 H0 H σ ρ (as ++ vs) (bs ++ xs)) : Stt K F0 H0 H σ ρ (as ++ vs) ((fzs bs).map .sh ++ xs) := by
  obtain ⟨F, f, g, h1, h2, h3, h4, h5, h6, h7, h8⟩ := h
  obtain ⟨g1, g2, a1, a2, s1, s2⟩ := Owns.split hl h6
  have t1 : Sb ((g1 ++ g2) ++ f) (g ++ f) := s1.app (.refl f)
  have nd := t1.2 h7
  have n1 := Owns.no _ _ _ a1
  have e : Same F (frz F H g1) := frz_same fun b hb => (n1 b hb).1
  rw [List.append_assoc, List.nodup_append] at nd
  have dis : ∀ b ∈ g2 ++ f, b ∉ g1 := fun b hb hg => nd.2.2 b hg b hb rfl
  have q : Ats K (frz F H g1) as (DL.fzs bs) := Owns.fz e _ _ _ a1 fun b hb => frz_in hb
  have a2' : Owns K (frz F H g1) H vs xs g2 := Owns.mono e _ _ _ a2 fun b hb => ⟨(frz_out (dis b (List.mem_append_left _ hb))).trans (Owns.no _ _ _ a2 b hb).1, rfl⟩
  have h5' : Sl K (frz F H g1) H σ ρ f := Sl.mono e h5 fun b hb => ⟨(frz_out (dis b (List.mem_append_right _ hb))).trans (Sl.no h5 b hb).1, rfl⟩
  obtain ⟨g3, a3, s3, _⟩ := (Owns.of_ats (H := H) q).append a2'
  have t3 : Sb (g3 ++ f) (g2 ++ f) := Sb.app (by simpa using s3) (.refl f)
  have t4 : Sb (g3 ++ f) (g ++ f) := t3.trans (Sb.trans (by rw [List.append_assoc]; exact .right _ _) t1)
  refine ⟨_, f, g3, h1.trans e, h2, frz_sub h3, fun b z1 z2 => ?_, h5', a3, t4.2 h7, fun b hb => h8 b (t4.1 b hb)⟩
  have hb : b ∉ g1 := fun z => z2 (h8 b (t1.1 b (List.mem_append_left _ (List.mem_append_left _ z))))
  rw [frz_out hb]
  exact h4 b z1 z2
theorem Stt.fz (h : Stt K F0 H0 H σ ρ (v :: vs) (x :: xs)) : Stt K F0 H0 H σ ρ (v :: vs) (.sh x.fz :: xs) :=
  Stt.fzs (as := [v]) (bs := [x]) rfl h
/-- a temporary goes into a slot -/
theorem Stt.store (h : Stt K F0 H0 H σ ρ (v :: vs) (x :: xs)) (hi : i < ρ.length) : Stt K F0 H0 H (σ.set i (some v)) (ρ.set i (some x)) vs xs := by
  obtain ⟨F, f, g, h1, h2, h3, h4, h5, h6, h7, h8⟩ := h
  cases h6 with
  | cons a t =>
    rename_i g1 g2
    obtain ⟨f', k1, k2⟩ := Sl.put i h5 hi a
    have s : Sb (g2 ++ f') ((g1 ++ g2) ++ f) := ((Sb.refl g2).app k2).trans (.of_perm (by
      rw [← List.append_assoc]
      exact List.Perm.append_right _ List.perm_append_comm))
    exact ⟨F, f', g2, h1, h2, h3, h4, k1, t, s.2 h7, fun b hb => h8 b (s.1 b hb)⟩
/-- a slot is forgotten -/
theorem Stt.drop (h : Stt K F0 H0 H σ ρ vs xs) (i : Nat) : Stt K F0 H0 H σ (ρ.set i none) vs xs := by
  obtain ⟨F, f, g, h1, h2, h3, h4, h5, h6, h7, h8⟩ := h
  obtain ⟨r, k1, k2⟩ := Sl.drop i h5
  have s : Sb (g ++ r) (g ++ f) := (Sb.refl g).app k2
  exact ⟨F, r, g, h1, h2, h3, h4, k1, h6, s.2 h7, fun b hb => h8 b (s.1 b hb)⟩
theorem Stt.any (h : Stt K F0 H0 H σ ρ vs xs) (hi : ρ[i]? = some none) (y : Option V) : Stt K F0 H0 H (σ.set i y) ρ vs xs := by
  obtain ⟨F, f, g, h1, h2, h3, h4, h5, h6, h7, h8⟩ := h
  exact ⟨F, f, g, h1, h2, h3, h4, Sl.any i y h5 hi, h6, h7, h8⟩
theorem Stt.len (h : Stt K F0 H0 H σ ρ vs xs) : σ.length = ρ.length := by
  obtain ⟨F, f, g, h1, h2, h3, h4, h5, _⟩ := h
  exact Sl.length h5
theorem Stt.lens (h : Stt K F0 H0 H σ ρ vs xs) : vs.length = xs.length := by
  obtain ⟨F, f, g, h1, h2, h3, h4, h5, h6, _⟩ := h
  exact Owns.length h6
/-- a slot's value is taken out of it -/
theorem Stt.take (h : Stt K F0 H0 H σ ρ vs xs) (e : ρ[i]? = some (some x)) : ∃ v, σ[i]? = some (some v) ∧ Stt K F0 H0 H σ (ρ.set i none) (v :: vs) (x :: xs) := by
  obtain ⟨F, f, g, h1, h2, h3, h4, h5, h6, h7, h8⟩ := h
  obtain ⟨v, g1, r, k1, k2, k3, k4⟩ := Sl.take i h5 e
  have s : Sb ((g1 ++ g) ++ r) (g ++ f) := Sb.trans (.of_perm (by
    rw [List.append_assoc]
    exact (List.Perm.append_left _ List.perm_append_comm).trans (by rw [← List.append_assoc]; exact List.perm_append_comm))) ((Sb.refl g).app k4)
  exact ⟨v, k1, F, r, _, h1, h2, h3, h4, k3, .cons k2 h6, s.2 h7, fun b hb => h8 b (s.1 b hb)⟩
/-- what is shared may be told twice -/
theorem Stt.dup (h : Stt K F0 H0 H σ ρ (v :: vs) (.sh d :: xs)) : Stt K F0 H0 H σ ρ (v :: v :: vs) (.sh d :: .sh d :: xs) := by
  obtain ⟨F, f, g, h1, h2, h3, h4, h5, h6, h7, h8⟩ := h
  cases h6 with
  | cons a t =>
    cases a with
    | sh a => exact ⟨F, f, _, h1, h2, h3, h4, h5, .cons (f := []) (.sh a) (.cons (f := []) (.sh a) t), h7, h8⟩
theorem set_back {ρ : DEnv} {i : Nat} {y x : Option Val} (h : i < ρ.length) : (ρ.set i y).set i x = ρ.set i x := by
  rw [List.set_set]
/-- a name is read: what it held is left as it is from now on -/
theorem Stt.read (h : Stt K F0 H0 H σ ρ vs xs) (e : ρ[i]? = some (some x)) : ∃ v, σ[i]? = some (some v) ∧ Stt K F0 H0 H σ (ρ.set i (some (.sh x.fz))) (v :: vs) (.sh x.fz :: xs) := by
  obtain ⟨v, k1, k2⟩ := h.take e
  refine ⟨v, k1, ?_⟩
  have hl : i < ρ.length := (List.getElem?_eq_some_iff.mp e).1
  have q := (k2.fz.dup).store (i := i) (by simpa using hl)
  rw [List.set_set] at q
  have es : σ.set i (some v) = σ := by
    refine List.ext_getElem? fun j => ?_
    by_cases hj : i = j
    · subst hj
      rw [List.getElem?_set_self (by rw [h.len]; exact hl), k1]
    · rw [List.getElem?_set_ne hj]
  rw [es] at q
  exact q
/-- temporaries change places -/
theorem Stt.turn (hl : as.length = bs.length) (h : Stt K F0 H0 H σ ρ (as ++ v :: vs) (bs ++ x :: xs)) : Stt K F0 H0 H σ ρ (v :: (as ++ vs)) (x :: (bs ++ xs)) := by
  obtain ⟨F, f, g, h1, h2, h3, h4, h5, h6, h7, h8⟩ := h
  obtain ⟨g1, g2, a1, a2, s1, s2⟩ := Owns.split hl h6
  cases a2 with
  | cons b t =>
    rename_i g3 g4
    obtain ⟨g5, a5, s5, _⟩ := a1.append t
    have s : Sb ((g3 ++ g5) ++ f) (g ++ f) := Sb.app (Sb.trans ((Sb.refl g3).app s5) (Sb.trans (.of_perm (by
      rw [← List.append_assoc, ← List.append_assoc]
      exact List.Perm.append_right _ List.perm_append_comm)) s1)) (.refl f)
    exact ⟨F, f, _, h1, h2, h3, h4, h5, .cons b a5, s.2 h7, fun b hb => h8 b (s.1 b hb)⟩
theorem Stt.turn' (hl : as.length = bs.length) (h : Stt K F0 H0 H σ ρ (v :: (as ++ vs)) (x :: (bs ++ xs))) : Stt K F0 H0 H σ ρ (as ++ v :: vs) (bs ++ x :: xs) := by
  obtain ⟨F, f, g, h1, h2, h3, h4, h5, h6, h7, h8⟩ := h
  cases h6 with
  | cons b t =>
    rename_i g3 g4
    obtain ⟨g1, g2, a1, a2, s1, s2⟩ := Owns.split hl t
    obtain ⟨g5, a5, s5, _⟩ := a1.append (.cons b a2)
    have s : Sb (g5 ++ f) ((g3 ++ g4) ++ f) := Sb.app (s5.trans (Sb.trans (.of_perm (by
      rw [← List.append_assoc, ← List.append_assoc]
      exact List.Perm.append_right _ List.perm_append_comm)) ((Sb.refl g3).app s1))) (.refl f)
    exact ⟨F, f, _, h1, h2, h3, h4, h5, a5, s.2 h7, fun b hb => h8 b (s.1 b hb)⟩
theorem nodup_new {p : Addr} {l : List Addr} (h : l.Nodup) (n : p ∉ l) : (p :: l).Nodup := List.nodup_cons.mpr ⟨n, h⟩
/-- a new object that is known as it is -/
theorem Stt.laid {p : Addr} {o : HO} (h : Stt K F0 H0 H σ ρ vs xs) (np : H p = none) : ∃ F f g, Same F0 F ∧ Same H0 (upd H p o) ∧ Same (upd F p o) (upd H p o) ∧ Same F (upd F p o) ∧ (∀ b, F0 b = none → H0 b ≠ none → upd F p o b = none) ∧
    Sl K (upd F p o) (upd H p o) σ ρ f ∧ Owns K (upd F p o) (upd H p o) vs xs g ∧ (g ++ f).Nodup ∧ (∀ b ∈ g ++ f, H0 b = none) ∧ F p = none := by
  obtain ⟨F, f, g, h1, h2, h3, h4, h5, h6, h7, h8⟩ := h
  have nF : F p = none := h3.free np
  have n0 : H0 p = none := h2.free np
  have sF : Same F (upd F p o) := fun b u e => by rw [upd_ne (ne_of_none e nF)]; exact e
  have kp : ∀ b, F b = none → H b ≠ none → upd F p o b = none ∧ upd H p o b = H b := fun b z1 z2 => by
    have : b ≠ p := fun e => by subst e; exact z2 np
    rw [upd_ne this, upd_ne this]
    exact ⟨z1, rfl⟩
  refine ⟨F, f, g, h1, fun b u e => by rw [upd_ne (ne_of_none e n0)]; exact h2 _ _ e, fun b u e => ?_, sF, fun b z1 z2 => ?_, Sl.mono sF h5 fun b hb => kp b (Sl.no h5 b hb).1 (Sl.no h5 b hb).2, Owns.mono sF _ _ _ h6 fun b hb => kp b (Owns.no _ _ _ h6 b hb).1 (Owns.no _ _ _ h6 b hb).2, h7, h8, nF⟩
  · by_cases hb : b = p
    · subst hb; rw [upd_same] at e ⊢; exact e
    · rw [upd_ne hb] at e ⊢; exact h3 _ _ e
  · have : b ≠ p := fun e => by subst e; exact z2 n0
    rw [upd_ne this]
    exact h4 b z1 z2
theorem Stt.newTup {p : Addr} {ds : List D} (hl : as.length = ds.length) (h : Stt K F0 H0 H σ ρ (as ++ vs) (ds.map .sh ++ xs)) (np : H p = none) : Stt K F0 H0 (upd H p (.tup as)) σ ρ (.ref p :: vs) (.sh (.tup ds) :: xs) := by
  obtain ⟨F, f, g, h1, h2, h3, h4, h5, h6, h7, h8, h9, h10⟩ := h.laid (o := .tup as) np
  obtain ⟨g1, g2, a1, a2, s1, s2⟩ := Owns.split (by simpa using hl) h7
  obtain ⟨q1, q2⟩ := a1.ats
  have s : Sb (g2 ++ f) (g ++ f) := Sb.app ((Sb.right g1 g2).trans s1) (.refl f)
  exact ⟨_, f, _, h1.trans h4, h2, h3, h5, h6, .cons (f := []) (.sh (.tup (.inl upd_same) q1)) a2, s.2 h8, fun b hb => h9 b (s.1 b hb)⟩
/-- a new list of one's own -/
theorem Stt.newLst {p : Addr} (hl : as.length = bs.length) (h : Stt K F0 H0 H σ ρ (as ++ vs) (bs ++ xs)) (np : H p = none) : Stt K F0 H0 (upd H p (.lst as)) σ ρ (.ref p :: vs) (.lst bs :: xs) := by
  obtain ⟨F, f, g, h1, h2, h3, h4, h5, h6, h7, h8⟩ := h
  have nF : F p = none := h3.free np
  have n0 : H0 p = none := h2.free np
  have kp : ∀ b, H b ≠ none → b ≠ p := fun b z e => by subst e; exact z np
  have h5' : Sl K F (upd H p (.lst as)) σ ρ f := Sl.mono (Same.refl F) h5 fun b hb => ⟨(Sl.no h5 b hb).1, upd_ne (kp b (Sl.no h5 b hb).2)⟩
  have h6' : Owns K F (upd H p (.lst as)) (as ++ vs) (bs ++ xs) g := Owns.mono (Same.refl F) _ _ _ h6 fun b hb => ⟨(Owns.no _ _ _ h6 b hb).1, upd_ne (kp b (Owns.no _ _ _ h6 b hb).2)⟩
  obtain ⟨g1, g2, a1, a2, s1, s2⟩ := Owns.split hl h6'
  have s : Sb ((g1 ++ g2) ++ f) (g ++ f) := s1.app (.refl f)
  have np' : p ∉ (g1 ++ g2) ++ f := fun z => by
    rcases List.mem_append.mp (s.1 p z) with z | z
    · exact (Owns.no _ _ _ h6 p z).2 np
    · exact (Sl.no h5 p z).2 np
  refine ⟨F, f, (p :: g1) ++ g2, h1, fun b u e => by rw [upd_ne (ne_of_none e n0)]; exact h2 _ _ e, fun b u e => by rw [upd_ne (ne_of_none e nF)]; exact h3 _ _ e, h4, h5', .cons (.lst nF upd_same a1) a2, nodup_new (s.2 h7) np', fun b hb => ?_⟩
  rcases List.mem_cons.mp hb with e | hb
  · subst e; exact n0
  · exact h8 b (s.1 b hb)
/-- a list of one's own, held as a temporary, is changed -/
theorem Stt.editTop (hl : as.length = bs.length) (h : Stt K F0 H0 H σ ρ (as ++ v :: vs) (bs ++ .lst ys :: xs)) : ∃ p ws, v = .ref p ∧ H p = some (.lst ws) ∧ ws.length = ys.length ∧
    ∀ ws' ys' us zs, (∀ F H f, Owns K F H (ws ++ as) (ys ++ bs) f → ∃ f1 f2, Owns K F H ws' ys' f1 ∧ Owns K F H us zs f2 ∧ Sb (f1 ++ f2) f) →
      Stt K F0 H0 (upd H p (.lst ws')) σ ρ (.ref p :: (us ++ vs)) (.lst ys' :: (zs ++ xs)) := by
  obtain ⟨F, f, g, h1, h2, h3, h4, h5, h6, h7, h8⟩ := h.turn hl
  cases h6 with
  | cons b t =>
    rename_i g1 g2
    cases b with
    | lst k1 k2 k3 =>
      rename_i p ws g3
      refine ⟨p, ws, rfl, k2, Owns.length k3, fun ws' ys' us zs hc => ?_⟩
      have nd : (p :: ((g3 ++ g2) ++ f)).Nodup := h7
      have ndp := (List.nodup_cons.mp nd).1
      have ne : ∀ b ∈ (g3 ++ g2) ++ f, b ≠ p := fun b hb e => by subst e; exact ndp hb
      have n0 : H0 p = none := h8 p (List.mem_append_left _ (List.mem_append_left _ List.mem_cons_self))
      have t' : Owns K F (upd H p (.lst ws')) (as ++ vs) (bs ++ xs) g2 := Owns.mono (Same.refl F) _ _ _ t fun b hb => ⟨(Owns.no _ _ _ t b hb).1, upd_ne (ne b (List.mem_append_left _ (List.mem_append_right _ hb)))⟩
      have k3' : Owns K F (upd H p (.lst ws')) ws ys g3 := Owns.mono (Same.refl F) _ _ _ k3 fun b hb => ⟨(Owns.no _ _ _ k3 b hb).1, upd_ne (ne b (List.mem_append_left _ (List.mem_append_left _ hb)))⟩
      have h5' : Sl K F (upd H p (.lst ws')) σ ρ f := Sl.mono (Same.refl F) h5 fun b hb => ⟨(Sl.no h5 b hb).1, upd_ne (ne b (List.mem_append_right _ hb))⟩
      obtain ⟨g4, g5, a1, a2, s1, s2⟩ := Owns.split hl t'
      obtain ⟨g6, c1, c2, c3⟩ := k3'.append a1
      obtain ⟨f1, f2, d1, d2, d3⟩ := hc F _ g6 c1
      obtain ⟨g7, e1, e2, e3⟩ := d2.append a2
      have s : Sb ((f1 ++ g7) ++ f) ((g3 ++ g2) ++ f) := Sb.app (((Sb.refl f1).app e2).trans (Sb.trans (by rw [← List.append_assoc]; exact (d3.trans c2).app (.refl g5)) (by rw [List.append_assoc]; exact (Sb.refl g3).app s1))) (.refl f)
      refine ⟨F, f, (p :: f1) ++ g7, h1, fun b u e => by rw [upd_ne (ne_of_none e n0)]; exact h2 _ _ e, fun b u e => by rw [upd_ne (fun z => by subst z; rw [k1] at e; cases e)]; exact h3 _ _ e, h4, h5', .cons (.lst k1 upd_same d1) e1,
        nodup_new (s.2 (List.nodup_cons.mp nd).2) (fun z => ndp (s.1 p z)), fun b hb => ?_⟩
      rcases List.mem_cons.mp hb with e | hb
      · subst e; exact n0
      · exact h8 b (List.mem_cons_of_mem _ (s.1 b hb))
theorem set_same {σ : St} {i : Nat} {v : V} (h : σ[i]? = some (some v)) : σ.set i (some v) = σ := by
  refine List.ext_getElem? fun j => ?_
  by_cases hj : i = j
  · subst hj
    rw [List.getElem?_set_self (List.getElem?_eq_some_iff.mp h).1, h]
  · rw [List.getElem?_set_ne hj]
/-- a slot's list of one's own is changed -/
theorem Stt.edit (hl : as.length = bs.length) (h : Stt K F0 H0 H σ ρ (as ++ vs) (bs ++ xs)) (e : ρ[i]? = some (some (.lst ys))) : ∃ p ws, σ[i]? = some (some (.ref p)) ∧ H p = some (.lst ws) ∧ ws.length = ys.length ∧
    ∀ ws' ys' us zs, (∀ F H f, Owns K F H (ws ++ as) (ys ++ bs) f → ∃ f1 f2, Owns K F H ws' ys' f1 ∧ Owns K F H us zs f2 ∧ Sb (f1 ++ f2) f) →
      Stt K F0 H0 (upd H p (.lst ws')) σ (ρ.set i (some (.lst ys'))) (us ++ vs) (zs ++ xs) := by
  obtain ⟨v, k1, k2⟩ := h.take e
  obtain ⟨p, ws, rfl, q1, q2, q3⟩ := Stt.editTop hl (k2.turn' hl)
  refine ⟨p, ws, k1, q1, q2, fun ws' ys' us zs hc => ?_⟩
  have q := (q3 ws' ys' us zs hc).store (i := i) (by simpa using (List.getElem?_eq_some_iff.mp e).1)
  rw [List.set_set, set_same k1] at q
  exact q
/-- what is shared is read, and more of it may be told -/
theorem Stt.reads {ds : List D} (hl : as.length = ds.length) (h : Stt K F0 H0 H σ ρ (as ++ vs) (ds.map .sh ++ xs)) : ∃ F, Same F H ∧ Ats K F as ds ∧
    ∀ as' ds', Ats K F as' ds' → Stt K F0 H0 H σ ρ (as' ++ vs) (ds'.map .sh ++ xs) := by
  obtain ⟨F, f, g, h1, h2, h3, h4, h5, h6, h7, h8⟩ := h
  obtain ⟨g1, g2, a1, a2, s1, s2⟩ := Owns.split (by simpa using hl) h6
  refine ⟨F, h3, a1.ats.1, fun as' ds' k => ?_⟩
  obtain ⟨g3, c1, c2, c3⟩ := (Owns.of_ats (H := H) k).append a2
  have s : Sb (g3 ++ f) (g ++ f) := Sb.app (Sb.trans (by simpa using c2) ((Sb.right g1 g2).trans s1)) (.refl f)
  exact ⟨F, f, g3, h1, h2, h3, h4, h5, c1, s.2 h7, fun b hb => h8 b (s.1 b hb)⟩
/-- a call: what the callee leaves as it is -/
theorem Stt.call {ds : List D} (hl : as.length = ds.length) (h : Stt K F0 H0 H σ ρ (as ++ vs) (ds.map .sh ++ xs)) : ∃ F, Same F H ∧ Ats K F as ds ∧
    ∀ H' us zs, Stt K F H H' [] [] us zs → Stt K F0 H0 H' σ ρ (us ++ vs) (zs ++ xs) := by
  obtain ⟨F, f, g, h1, h2, h3, h4, h5, h6, h7, h8⟩ := h
  obtain ⟨g1, g2, a1, a2, s1, s2⟩ := Owns.split (by simpa using hl) h6
  refine ⟨F, h3, a1.ats.1, fun H' us zs k => ?_⟩
  obtain ⟨F', f', g', k1, k2, k3, k4, k5, k6, k7, k8⟩ := k
  cases k5
  have same : ∀ b, H b ≠ none → H' b = H b := fun b z => by
    cases e : H b with
    | none => exact absurd e z
    | some u => exact k2 b u e
  have n5 := Sl.no h5
  have n2 := Owns.no _ _ _ a2
  have h5' : Sl K F' H' σ ρ f := Sl.mono k1 h5 fun b hb => ⟨k4 b (n5 b hb).1 (n5 b hb).2, same b (n5 b hb).2⟩
  have a2' : Owns K F' H' vs xs g2 := Owns.mono k1 _ _ _ a2 fun b hb => ⟨k4 b (n2 b hb).1 (n2 b hb).2, same b (n2 b hb).2⟩
  obtain ⟨g3, c1, c2, c3⟩ := k6.append a2'
  rw [List.append_nil] at k7 k8
  have s : Sb (g2 ++ f) (g ++ f) := Sb.app ((Sb.right g1 g2).trans s1) (.refl f)
  have nold : ∀ b ∈ g2 ++ f, H b ≠ none := fun b hb => by
    rcases List.mem_append.mp hb with z | z
    · exact (n2 b z).2
    · exact (n5 b z).2
  have nd : (g' ++ (g2 ++ f)).Nodup := List.nodup_append.mpr ⟨k7, s.2 h7, fun x hx y hy e => by subst e; exact nold x hy (k8 x hx)⟩
  have t : Sb (g3 ++ f) (g' ++ (g2 ++ f)) := by rw [← List.append_assoc]; exact c2.app (.refl f)
  refine ⟨F', f, g3, h1.trans k1, h2.trans k2, k3, fun b z1 z2 => ?_, h5', c1, t.2 nd, fun b hb => ?_⟩
  · refine k4 b (h4 b z1 z2) fun z => ?_
    cases e : H0 b with
    | none => exact z2 e
    | some u => rw [h2 b u e] at z; cases z
  · rcases List.mem_append.mp (t.1 b hb) with z | z
    · exact h2.free (k8 b z)
    · exact h8 b (s.1 b z)
/-- another ground -/
theorem Stt.rebase (h : Stt K F0 H0 H σ ρ vs xs) : ∃ F, Same F H ∧ Same F0 F ∧ Stt K F H0 H σ ρ vs xs ∧ (∀ (as : List V) (ds : List D), as.length = ds.length → Stt K F0 H0 H σ ρ vs xs → True) ∧
    ∀ H' σ' ρ' vs' xs', Stt K F H0 H' σ' ρ' vs' xs' → Stt K F0 H0 H' σ' ρ' vs' xs' := by
  obtain ⟨F, f, g, h1, h2, h3, h4, h5, h6, h7, h8⟩ := h
  refine ⟨F, h3, h1, ⟨F, f, g, Same.refl F, h2, h3, fun b z _ => z, h5, h6, h7, h8⟩, fun _ _ _ _ => trivial, fun H' σ' ρ' vs' xs' k => ?_⟩
  obtain ⟨F', f', g', k1, k2, k3, k4, k5, k6, k7, k8⟩ := k
  exact ⟨F', f', g', h1.trans k1, k2, k3, fun b z1 z2 => k4 b (h4 b z1 z2) z2, k5, k6, k7, k8⟩
/-- .. at which what is shared is told -/
theorem Stt.rebaseAt {ds : List D} (hl : as.length = ds.length) (h : Stt K F0 H0 H σ ρ (as ++ vs) (ds.map .sh ++ xs)) : ∃ F, Same F H ∧ Ats K F as ds ∧ Stt K F H0 H σ ρ vs xs ∧
    ∀ H' σ' ρ' vs' xs', Stt K F H0 H' σ' ρ' vs' xs' → Stt K F0 H0 H' σ' ρ' vs' xs' := by
  obtain ⟨F, f, g, h1, h2, h3, h4, h5, h6, h7, h8⟩ := h
  obtain ⟨g1, g2, a1, a2, s1, s2⟩ := Owns.split (by simpa using hl) h6
  have s : Sb (g2 ++ f) (g ++ f) := Sb.app ((Sb.right g1 g2).trans s1) (.refl f)
  refine ⟨F, h3, a1.ats.1, ⟨F, f, g2, Same.refl F, h2, h3, fun b z _ => z, h5, a2, s.2 h7, fun b hb => h8 b (s.1 b hb)⟩, fun H' σ' ρ' vs' xs' k => ?_⟩
  obtain ⟨F', f', g', k1, k2, k3, k4, k5, k6, k7, k8⟩ := k
  exact ⟨F', f', g', h1.trans k1, k2, k3, fun b z1 z2 => k4 b (h4 b z1 z2) z2, k5, k6, k7, k8⟩
/-- slots all forgotten -/
theorem Stt.out (h : Stt K F0 H0 H σ ρ vs xs) : Stt K F0 H0 H [] [] vs xs := by
  obtain ⟨F, f, g, h1, h2, h3, h4, h5, h6, h7, h8⟩ := h
  have s : Sb (g ++ []) (g ++ f) := (Sb.refl g).app (.nil f)
  exact ⟨F, [], g, h1, h2, h3, h4, .nil, h6, s.2 h7, fun b hb => h8 b (s.1 b hb)⟩
theorem Stt.less (h : Stt K F0 H0 H σ ρ vs xs) (hl : σ'.length = σ.length) (k : ∀ (i : Nat) v x, σ[i]? = some (some v) → ρ[i]? = some (some x) → σ'[i]? = some (some v)) : Stt K F0 H0 H σ' ρ vs xs := by
  obtain ⟨F, f, g, h1, h2, h3, h4, h5, h6, h7, h8⟩ := h
  exact ⟨F, f, g, h1, h2, h3, h4, Sl.less h5 hl k, h6, h7, h8⟩
theorem Stt.begin {F H : Hp} {ds : List D} (hF : Same F H) (h : Ats K F as ds) (n : Nat) : Stt K F H H (as.map some ++ List.replicate n none) (ds.map (fun d => some (.sh d)) ++ List.replicate n none) [] [] := by
  have nn : ∀ n, Sl K F H (List.replicate n none) (List.replicate n none) [] := fun n => by
    induction n with
    | zero => exact .nil
    | succ n ih => exact .un ih
  have q : ∀ (as : List V) (ds : List D), Ats K F as ds → Sl K F H (as.map some ++ List.replicate n none) (ds.map (fun d => some (.sh d)) ++ List.replicate n none) [] := by
    intro as
    induction as with
    | nil => intro ds h; cases h; exact nn n
    | cons a as ih => intro ds h; cases h with | cons h1 h2 => exact .bd (f := []) (.sh h1) (ih _ h2)
  exact ⟨F, [], [], Same.refl _, Same.refl _, hF, fun _ z _ => z, q _ _ h, .nil, by simp, fun b hb => by cases hb⟩
end
end DL

/-! DLc: what code does to a frame's data, and the rules that it is so. -/
namespace DL
open PySem PySem.Spec L2

/-! ### outcomes -/
structure DExn where
  cls : Addr
  own : Bool
  ns : List Str
  ds : List D
inductive R (α : Type) where
  | ok (a : α) (ρ : DEnv)
  | exc (e : DExn) (ρ : DEnv)
  | bad
def R.bind {α β : Type} : R α → (α → DEnv → R β) → R β
  | .ok a ρ, k => k a ρ
  | .exc e ρ, _ => .exc e ρ
  | .bad, _ => .bad
inductive Fl where
  | nx (ρ : DEnv)
  | rt (x : Val) (ρ : DEnv)
  | bk (ρ : DEnv)
  | ct (ρ : DEnv)
  | exc (e : DExn) (ρ : DEnv)
  | bad
def R.fl {α : Type} : R α → (α → DEnv → Fl) → Fl
  | .ok a ρ, k => k a ρ
  | .exc e ρ, _ => .exc e ρ
  | .bad, _ => .bad
@[simp] theorem R.bind_ok {α β : Type} (a : α) (ρ : DEnv) (k : α → DEnv → R β) : (R.ok a ρ).bind k = k a ρ := id rfl
@[simp] theorem R.bind_exc {α β : Type} (e : DExn) (ρ : DEnv) (k : α → DEnv → R β) : (R.exc e ρ : R α).bind k = .exc e ρ := id rfl
@[simp] theorem R.bind_bad {α β : Type} (k : α → DEnv → R β) : (R.bad : R α).bind k = .bad := id rfl
@[simp] theorem R.fl_ok {α : Type} (a : α) (ρ : DEnv) (k : α → DEnv → Fl) : (R.ok a ρ).fl k = k a ρ := id rfl
@[simp] theorem R.fl_exc {α : Type} (e : DExn) (ρ : DEnv) (k : α → DEnv → Fl) : (R.exc e ρ : R α).fl k = .exc e ρ := id rfl
@[simp] theorem R.fl_bad {α : Type} (k : α → DEnv → Fl) : (R.bad : R α).fl k = .bad := id rfl

/-! ### what is wanted of exceptions -/
def okx (X : Cx) (cls : Value) (d : Option Addr) (σ : St) (H : Hp) : Prop := ∀ u s', XE X (fun c d' σ' H' => c = cls ∧ d' = d ∧ σ' = σ ∧ H' = H) u s' → X.xe u s'
theorem takes_okx {X : Cx} : Takes X (okx X) := fun u s' ⟨a, B, sI, pins, σ, H, cls, d, e, I, nb, up, sky, na, os, ag, w⟩ =>
  w u s' ⟨a, B, sI, pins, σ, H, cls, d, e, I, nb, up, sky, na, os, ag, rfl, rfl, rfl, rfl⟩
theorem okx_of {X : Cx} {W : WX} (tk : Takes X W) {cls : Value} {d : Option Addr} {σ : St} {H : Hp} (h : W cls d σ H) : okx X cls d σ H := fun u s' x =>
  tk u s' (by
    obtain ⟨a, B, sI, pins, σ', H', cls', d', e, I, nb, up, sky, na, os, ag, e1, e2, e3, e4⟩ := x
    subst e1 e2 e3 e4
    exact ⟨a, B, sI, pins, _, _, _, _, e, I, nb, up, sky, na, os, ag, h⟩)
def xdOk (H0 H : Hp) (e : DExn) (dx : Option Addr) (ves : List V) : Prop := if e.own = true then ∃ a, dx = some a ∧ H0 a = none ∧ H a = some (.xd (e.ns.zip ves)) else dx = none
theorem xdOk.less {H0 H1 H : Hp} {e : DExn} {dx : Option Addr} {ves : List V} (s : Same H0 H1) (h : xdOk H1 H e dx ves) : xdOk H0 H e dx ves := by
  unfold xdOk at *
  by_cases q : e.own = true
  · rw [if_pos q] at h ⊢
    obtain ⟨a, h1, h2, h3⟩ := h
    exact ⟨a, h1, s.free h2, h3⟩
  · rw [if_neg q] at h ⊢; exact h
def exOk (X : Cx) (F0 H0 : Hp) (e : DExn) (ρ : DEnv) (vs : List V) (xs : List Val) : Prop :=
  ∀ σ' H' dx ves, Stt X.K F0 H0 H' σ' ρ (ves ++ vs) (e.ds.map .sh ++ xs) → ves.length = e.ds.length → xdOk H0 H' e dx ves → okx X (.ref e.cls) dx σ' H'
theorem exOk.more {X : Cx} {F0 H0 : Hp} {e : DExn} {ρ : DEnv} {vs : List V} {xs : List Val} (h : exOk X F0 H0 e ρ vs xs) {v : V} {x : Val} : exOk X F0 H0 e ρ (v :: vs) (x :: xs) :=
  fun σ' H' dx ves s hl hx => h σ' H' dx ves (Stt.turn (by simpa using hl) s).pop hl hx
theorem exOk.mores {X : Cx} {F0 H0 : Hp} {e : DExn} {ρ : DEnv} {vs : List V} {xs : List Val} (h : exOk X F0 H0 e ρ vs xs) : ∀ {as : List V} {bs : List Val}, as.length = bs.length → exOk X F0 H0 e ρ (as ++ vs) (bs ++ xs)
  | [], [], _ => h
  | _ :: as, _ :: bs, hl => (exOk.mores h (as := as) (bs := bs) (by simpa using hl)).more
def post {α : Type} (X : Cx) (F0 H0 : Hp) (vs : List V) (xs : List Val) (P : α → DEnv → Prop) : R α → Prop
  | .ok a ρ => P a ρ
  | .exc e ρ => exOk X F0 H0 e ρ vs xs
  | .bad => False
theorem post_bind {α β : Type} {X : Cx} {F0 H0 : Hp} {vs : List V} {xs : List Val} {P : β → DEnv → Prop} {r : R α} {k : α → DEnv → R β} (h : post X F0 H0 vs xs P (r.bind k)) : post X F0 H0 vs xs (fun a ρ => post X F0 H0 vs xs P (k a ρ)) r := by
  cases r <;> exact h
theorem post.imp {α : Type} {X : Cx} {F0 H0 : Hp} {vs vs' : List V} {xs xs' : List Val} {P P' : α → DEnv → Prop} {r : R α} (h : post X F0 H0 vs xs P r) (hp : ∀ a ρ, P a ρ → P' a ρ) (he : ∀ e ρ, exOk X F0 H0 e ρ vs xs → exOk X F0 H0 e ρ vs' xs') : post X F0 H0 vs' xs' P' r := by
  cases r with
  | ok a ρ => exact hp _ _ h
  | exc e ρ => exact he _ _ h
  | bad => exact h

/-! ### readings -/
def tE (X : Cx) (f : DEnv → R Val) : TE := fun σ H Q => ∃ F0 H0 ρ vs xs, Stt X.K F0 H0 H σ ρ vs xs ∧ post X F0 H0 vs xs (fun x ρ' => ∀ H' v, Stt X.K F0 H0 H' σ ρ' (v :: vs) (x :: xs) → Q v H') (f ρ)
def tT (X : Cx) (f : DEnv → R Bool) : TT := fun σ H Q => ∃ F0 H0 ρ vs xs, Stt X.K F0 H0 H σ ρ vs xs ∧ post X F0 H0 vs xs (fun b ρ' => ∀ H', Stt X.K F0 H0 H' σ ρ' vs xs → Q b H') (f ρ)
def tA (X : Cx) (f : DEnv → R (List Val)) : TA := fun σ H Q => ∃ F0 H0 ρ vs xs, Stt X.K F0 H0 H σ ρ vs xs ∧ post X F0 H0 vs xs (fun ys ρ' => ∀ H' ws, ws.length = ys.length → Stt X.K F0 H0 H' σ ρ' (ws ++ vs) (ys ++ xs) → Q ws H') (f ρ)
def fpost (X : Cx) (F0 H0 : Hp) (vs : List V) (xs : List Val) (D : Ends) : Fl → Prop
  | .nx ρ => ∀ σ' H', Stt X.K F0 H0 H' σ' ρ vs xs → D.nx σ' H'
  | .rt x ρ => ∀ σ' H' v, Stt X.K F0 H0 H' σ' ρ (v :: vs) (x :: xs) → D.rt v H'
  | .bk ρ => ∀ σ' H', Stt X.K F0 H0 H' σ' ρ vs xs → D.bk σ' H'
  | .ct ρ => ∀ σ' H', Stt X.K F0 H0 H' σ' ρ vs xs → D.ct σ' H'
  | .exc e ρ => exOk X F0 H0 e ρ vs xs
  | .bad => False
def tS (X : Cx) (f : DEnv → Fl) : TS := fun D σ H => ∃ F0 H0 ρ vs xs, Stt X.K F0 H0 H σ ρ vs xs ∧ fpost X F0 H0 vs xs D (f ρ)
def DE (X : Cx) (e : Expr) (f : DEnv → R Val) : Prop := PE X e (tE X f)
def DT (X : Cx) (e : Expr) (f : DEnv → R Bool) : Prop := PT X e (tT X f)
def DA (X : Cx) (es : List Expr) (f : DEnv → R (List Val)) : Prop := PA X es (tA X f)
def DS (X : Cx) (s : Stmt) (f : DEnv → Fl) : Prop := PS X s (tS X f)
def DSs (X : Cx) (s : List Stmt) (f : DEnv → Fl) : Prop := PSs X s (tS X f)
section
variable {X : Cx}
theorem PE.imp {e : Expr} {t t' : TE} (h : PE X e t) (k : ∀ σ H Q, t' σ H Q → t σ H Q) : PE X e t' := ⟨fun pins s σ H Q I q => h.run pins s σ H Q I (k σ H Q q)⟩
theorem PT.imp {e : Expr} {t t' : TT} (h : PT X e t) (k : ∀ σ H Q, t' σ H Q → t σ H Q) : PT X e t' := ⟨fun pins s σ H Q I q => h.run pins s σ H Q I (k σ H Q q)⟩
theorem PW.imp {e : Expr} {t t' : TT} (h : PW X e t) (k : ∀ σ H Q, t' σ H Q → t σ H Q) : PW X e t' := ⟨fun w pins s σ H Q I q => h.run w pins s σ H Q I (k σ H Q q)⟩
theorem PA.imp {e : List Expr} {t t' : TA} (h : PA X e t) (k : ∀ σ H Q, t' σ H Q → t σ H Q) : PA X e t' := ⟨fun p pins s σ H Q I q => h.run p pins s σ H Q I (k σ H Q q)⟩
theorem PS.imp {e : Stmt} {t t' : TS} (h : PS X e t) (k : ∀ D σ H, t' D σ H → t D σ H) : PS X e t' := ⟨fun pins s σ H D I q => h.run pins s σ H D I (k D σ H q)⟩
theorem PSs.imp {e : List Stmt} {t t' : TS} (h : PSs X e t) (k : ∀ D σ H, t' D σ H → t D σ H) : PSs X e t' := ⟨fun pins s σ H D I q => h.run pins s σ H D I (k D σ H q)⟩
end

/-! ### expressions -/
def liftO (o : Option Val) (ρ : DEnv) : R Val := match o with
  | some x => .ok x ρ
  | none => .bad
@[simp] theorem liftO_some (x : Val) (ρ : DEnv) : liftO (some x) ρ = .ok x ρ := id rfl
@[simp] theorem liftO_none (ρ : DEnv) : liftO none ρ = .bad := id rfl
def getV : Option (Option Val) → Option Val
  | some (some x) => some x
  | _ => none
def sVar (i : Nat) : DEnv → R Val := fun ρ => match getV ρ[i]? with
  | some (.sh d) => .ok (.sh d) ρ
  | some x => .ok (.sh x.fz) (ρ.set i (some (.sh x.fz)))
  | none => .bad
def sC (d : D) : DEnv → R Val := fun ρ => .ok (.sh d) ρ
def sOp (g : D → D → Option Val) (a b : DEnv → R Val) : DEnv → R Val := fun ρ => (a ρ).bind fun x ρ1 => (b ρ1).bind fun y ρ2 => liftO (g x.fz y.fz) ρ2
def sUn (g : D → Option Val) (a : DEnv → R Val) : DEnv → R Val := fun ρ => (a ρ).bind fun x ρ1 => liftO (g x.fz) ρ1
def sNil : DEnv → R (List Val) := fun ρ => .ok [] ρ
def sCons (a : DEnv → R Val) (r : DEnv → R (List Val)) : DEnv → R (List Val) := fun ρ => (a ρ).bind fun x ρ1 => (r ρ1).bind fun ys ρ2 => .ok (x :: ys) ρ2
section
variable {X : Cx} {a b e : Expr} {fa fb f : DEnv → R Val} {pos : Pos}
theorem getV_some {o : Option (Option Val)} {x : Val} (h : getV o = some x) : o = some (some x) := by
  match o, h with
  | some (some y), h => rw [Option.some.inj h]
theorem de_var {i : Nat} {x : Str} (h : PE X (.Name x pos) (tVar i)) : DE X (.Name x pos) (sVar i) := by
  refine PE.imp h fun σ H Q ⟨F0, H0, ρ, vs, xs, s, q⟩ => ?_
  unfold sVar at q
  cases e : getV ρ[i]? with
  | none => rw [e] at q; exact q.elim
  | some y =>
    rw [e] at q
    obtain ⟨v, k1, k2⟩ := s.read (getV_some e)
    refine ⟨v, k1, ?_⟩
    cases y with
    | sh d =>
      rw [Val.fz, set_same' (getV_some e)] at k2
      exact q H v k2
    | lst ys => exact q H v k2
    | tup ys => exact q H v k2
    | dic b ds => exact q H v k2
    | obj _ _ _ => exact q H v k2
    | «at» _ _ => exact q H v k2
    | dcv _ _ => exact q H v k2
where
  set_same' {ρ : DEnv} {i : Nat} {v : Val} (h : ρ[i]? = some (some v)) : ρ.set i (some v) = ρ := by
    refine List.ext_getElem? fun j => ?_
    by_cases hj : i = j
    · subst hj
      rw [List.getElem?_set_self (List.getElem?_eq_some_iff.mp h).1, h]
    · rw [List.getElem?_set_ne hj]
theorem de_c {v : V} {d : D} (h : PE X e (tC v)) (a : ∀ F, At X.K F v d) : DE X e (sC d) :=
  PE.imp h fun σ H Q ⟨F0, H0, ρ, vs, xs, s, q⟩ => q H v (s.scal a)
theorem de_int {i j} : DE X (.Constant (.int i) j pos) (sC (.int i)) := de_c pe_int fun _ => .int i
theorem de_bl {b j} : DE X (.Constant (.bool b) j pos) (sC (.bl b)) := de_c pe_bl fun _ => .bl b
theorem de_non {j} : DE X (.Constant .none j pos) (sC .non) := de_c pe_non fun _ => .non
theorem de_str {x j} : DE X (.Constant (.str x) j pos) (sC (.str x)) := de_c pe_str fun _ => .str x
/-- an operator on data -/
def OpD (X : Cx) (r : R2) (g : D → D → Option Val) : Prop := ∀ F0 H0 H σ ρ vs xs v w d e Q, Stt X.K F0 H0 H σ ρ (w :: v :: vs) (.sh e :: .sh d :: xs) →
  (∃ x, g d e = some x ∧ ∀ H' u, Stt X.K F0 H0 H' σ ρ (u :: vs) (x :: xs) → Q u H') → r v w H Q
theorem Stt.fz2 {K : PySem.W.Frag} {F0 H0 H : Hp} {σ : St} {ρ : DEnv} {vs : List V} {xs : List Val} {v w : V} {x y : Val} (h : Stt K F0 H0 H σ ρ (w :: v :: vs) (y :: x :: xs)) : Stt K F0 H0 H σ ρ (w :: v :: vs) (.sh y.fz :: .sh x.fz :: xs) :=
  Stt.fzs (as := [w, v]) (bs := [y, x]) rfl h
theorem tE_op {r : R2} {g : D → D → Option Val} (hg : OpD X r g) {σ : St} {H : Hp} {Q : VK} (h : tE X (sOp g fa fb) σ H Q) : tOp r (tE X fa) (tE X fb) σ H Q := by
  obtain ⟨F0, H0, ρ, vs, xs, s, q⟩ := h
  refine ⟨F0, H0, ρ, vs, xs, s, (post_bind q).imp (fun x ρ1 q1 H1 v s1 => ?_) fun _ _ z => z⟩
  refine ⟨F0, H0, ρ1, _, _, s1, (post_bind q1).imp (fun y ρ2 q2 H2 w s2 => ?_) fun _ _ z => z.more⟩
  refine hg F0 H0 H2 σ ρ2 vs xs v w x.fz y.fz Q s2.fz2 ?_
  cases e : g x.fz y.fz with
  | none => rw [e] at q2; exact q2.elim
  | some z => rw [e] at q2; exact ⟨z, rfl, q2⟩
theorem de_op {op : Operator} {r : R2} {g : D → D → Option Val} (ho : OpR X (binaryOp op) r) (hg : OpD X r g) (ha : DE X a fa) (hb : DE X b fb) : DE X (.BinOp a op b pos) (sOp g fa fb) :=
  PE.imp (pe_op ho ha hb) fun σ H Q h => tE_op hg h
theorem de_cmp {op : CmpOp} {r : R2} {g : D → D → Option Val} (ho : OpR X (compareOp op) r) (hg : OpD X r g) (ha : DE X a fa) (hb : DE X b fb) (hm : behindInMarks op b = false) : DE X (.Compare a [op] [b] pos) (sOp g fa fb) :=
  PE.imp (pe_cmpR ho ha hb hm) fun σ H Q h => tE_op hg h
theorem de_ix {r : R2} {g : D → D → Option Val} (ho : IxR X r) (hg : OpD X r g) (ha : DE X a fa) (hb : DE X b fb) (hs : PlainIx b) : DE X (.Subscript a b pos) (sOp g fa fb) :=
  PE.imp (pe_ix ho ha hb hs) fun σ H Q h => tE_op hg h
def UnD (X : Cx) (r : V → Hp → VK → Prop) (g : D → Option Val) : Prop := ∀ F0 H0 H σ ρ vs xs v d Q, Stt X.K F0 H0 H σ ρ (v :: vs) (.sh d :: xs) →
  (∃ x, g d = some x ∧ ∀ H' u, Stt X.K F0 H0 H' σ ρ (u :: vs) (x :: xs) → Q u H') → r v H Q
theorem de_un {op : UnaryOp} {r : V → Hp → VK → Prop} {g : D → Option Val} (ho : UnR X (unaryOp op) r) (hg : UnD X r g) (ha : DE X a fa) : DE X (.UnaryOp op a pos) (sUn g fa) :=
  PE.imp (pe_un ho ha) fun σ H Q ⟨F0, H0, ρ, vs, xs, s, q⟩ => by
    refine ⟨F0, H0, ρ, vs, xs, s, (post_bind q).imp (fun x ρ1 q1 H1 v s1 => ?_) fun _ _ z => z⟩
    refine hg F0 H0 H1 σ ρ1 vs xs v x.fz Q s1.fz ?_
    cases e : g x.fz with
    | none => rw [e] at q1; exact q1.elim
    | some z => rw [e] at q1; exact ⟨z, rfl, q1⟩

/-! ### arguments, displays -/
theorem da_nil : DA X [] sNil := PA.imp pa_nil fun σ H Q ⟨F0, H0, ρ, vs, xs, s, q⟩ => q H [] rfl s
theorem da_cons {es : List Expr} {fs : DEnv → R (List Val)} (ha : DE X e fa) (hr : DA X es fs) (hs : starEach (e :: es) X.env = (false, eval e X.env) :: starEach es X.env := by rfl) : DA X (e :: es) (sCons fa fs) :=
  PA.imp (pa_cons ha hr hs) fun σ H Q ⟨F0, H0, ρ, vs, xs, s, q⟩ => by
    refine ⟨F0, H0, ρ, vs, xs, s, (post_bind q).imp (fun x ρ1 q1 H1 v s1 => ?_) fun _ _ z => z⟩
    refine ⟨F0, H0, ρ1, _, _, s1, (post_bind q1).imp (fun ys ρ2 q2 H2 ws hl s2 => ?_) fun _ _ z => z.more⟩
    exact q2 H2 (v :: ws) (by simp [hl]) (Stt.turn hl s2)
/-- a tuple: data where all in it is -/
def shs : List Val → Option (List D)
  | [] => some []
  | .sh d :: xs => match shs xs with
    | some ds => some (d :: ds)
    | none => none
  | _ :: _ => none
theorem shs_map : ∀ {xs : List Val} {ds : List D}, shs xs = some ds → xs = ds.map .sh
  | [], ds, h => by cases h; rfl
  | .sh d :: xs, ds, h => by
    unfold shs at h
    cases e : shs xs with
    | none => rw [e] at h; cases h
    | some es => rw [e] at h; cases h; rw [shs_map e]; rfl
  | .lst _ :: _, _, h => by cases h
  | .tup _ :: _, _, h => by cases h
def mkT (xs : List Val) : Val := match shs xs with
  | some ds => .sh (.tup ds)
  | none => .tup xs
def sTup (fs : DEnv → R (List Val)) : DEnv → R Val := fun ρ => (fs ρ).bind fun xs ρ1 => if xs.length ≤ 1000 then .ok (mkT xs) ρ1 else .bad
def sLst (fs : DEnv → R (List Val)) : DEnv → R Val := fun ρ => (fs ρ).bind fun xs ρ1 => if xs.length ≤ 1000 then .ok (.lst xs) ρ1 else .bad
end
section
variable {K : PySem.W.Frag} {F0 F1 H0 H H' : Hp} {σ σ' : St} {ρ : DEnv} {vs as ws : List V} {xs bs ys : List Val} {v : V} {x : Val} {d : D} {i : Nat}
theorem Stt.newTupO {p : Addr} (hl : as.length = bs.length) (h : Stt K F0 H0 H σ ρ (as ++ vs) (bs ++ xs)) (np : H p = none) : Stt K F0 H0 (upd H p (.tup as)) σ ρ (.ref p :: vs) (.tup bs :: xs) := by
  obtain ⟨F, f, g, h1, h2, h3, h4, h5, h6, h7, h8⟩ := h
  have nF : F p = none := h3.free np
  have n0 : H0 p = none := h2.free np
  have kp : ∀ b, H b ≠ none → b ≠ p := fun b z e => by subst e; exact z np
  have h5' : Sl K F (upd H p (.tup as)) σ ρ f := Sl.mono (Same.refl F) h5 fun b hb => ⟨(Sl.no h5 b hb).1, upd_ne (kp b (Sl.no h5 b hb).2)⟩
  have h6' : Owns K F (upd H p (.tup as)) (as ++ vs) (bs ++ xs) g := Owns.mono (Same.refl F) _ _ _ h6 fun b hb => ⟨(Owns.no _ _ _ h6 b hb).1, upd_ne (kp b (Owns.no _ _ _ h6 b hb).2)⟩
  obtain ⟨g1, g2, a1, a2, s1, s2⟩ := Owns.split hl h6'
  have s : Sb ((g1 ++ g2) ++ f) (g ++ f) := s1.app (.refl f)
  have np' : p ∉ (g1 ++ g2) ++ f := fun z => by
    rcases List.mem_append.mp (s.1 p z) with z | z
    · exact (Owns.no _ _ _ h6 p z).2 np
    · exact (Sl.no h5 p z).2 np
  refine ⟨F, f, (p :: g1) ++ g2, h1, fun b u e => by rw [upd_ne (ne_of_none e n0)]; exact h2 _ _ e, fun b u e => by rw [upd_ne (ne_of_none e nF)]; exact h3 _ _ e, h4, h5', .cons (.tup nF upd_same a1) a2, nodup_new (s.2 h7) np', fun b hb => ?_⟩
  rcases List.mem_cons.mp hb with e | hb
  · subst e; exact n0
  · exact h8 b (s.1 b hb)
theorem Stt.newT {p : Addr} (hl : as.length = bs.length) (h : Stt K F0 H0 H σ ρ (as ++ vs) (bs ++ xs)) (np : H p = none) : Stt K F0 H0 (upd H p (.tup as)) σ ρ (.ref p :: vs) (mkT bs :: xs) := by
  unfold mkT
  cases e : shs bs with
  | none => exact h.newTupO hl np
  | some ds =>
    have q := shs_map e
    subst q
    exact h.newTup (by simpa using hl) np
end
section
variable {X : Cx} {es : List Expr} {fs : DEnv → R (List Val)} {pos : Pos}
theorem small_of {n : Nat} (h : n ≤ 1000) : n ≤ sizeLine := Nat.le_of_lt (small1000 h)
theorem de_tup {k} (h : DA X es fs) : DE X (.Tuple es k pos) (sTup fs) :=
  PE.imp (pe_tup h) fun σ H Q ⟨F0, H0, ρ, vs, xs, s, q⟩ => by
    refine ⟨F0, H0, ρ, vs, xs, s, (post_bind q).imp (fun ys ρ1 q1 H1 ws hl s1 => ?_) fun _ _ z => z⟩
    split at q1
    · rename_i hz
      exact ⟨by rw [hl]; exact small_of hz, fun p np => q1 _ _ (s1.newT hl np)⟩
    · exact q1.elim
theorem de_lst (h : DA X es fs) : DE X (.List es pos) (sLst fs) :=
  PE.imp (pe_lst h) fun σ H Q ⟨F0, H0, ρ, vs, xs, s, q⟩ => by
    refine ⟨F0, H0, ρ, vs, xs, s, (post_bind q).imp (fun ys ρ1 q1 H1 ws hl s1 => ?_) fun _ _ z => z⟩
    split at q1
    · rename_i hz
      exact ⟨by rw [hl]; exact small_of hz, fun p np => q1 _ _ (s1.newLst hl np)⟩
    · exact q1.elim
end

/-! ### tests -/
def asB : D → Option Bool
  | .bl b => some b
  | _ => none
def liftB (o : Option Bool) (ρ : DEnv) : R Bool := match o with
  | some x => .ok x ρ
  | none => .bad
@[simp] theorem liftB_some (x : Bool) (ρ : DEnv) : liftB (some x) ρ = .ok x ρ := id rfl
@[simp] theorem liftB_none (ρ : DEnv) : liftB none ρ = .bad := id rfl
def sTst (f : DEnv → R Val) : DEnv → R Bool := fun ρ => (f ρ).bind fun x ρ1 => liftB (asB x.fz) ρ1
def sAnd (f g : DEnv → R Bool) : DEnv → R Bool := fun ρ => (f ρ).bind fun b ρ1 => if b = true then g ρ1 else .ok false ρ1
def sOr (f g : DEnv → R Bool) : DEnv → R Bool := fun ρ => (f ρ).bind fun b ρ1 => if b = true then .ok true ρ1 else g ρ1
def sNot (f : DEnv → R Bool) : DEnv → R Bool := fun ρ => (f ρ).bind fun b ρ1 => .ok (!b) ρ1
def sOfT (f : DEnv → R Bool) : DEnv → R Val := fun ρ => (f ρ).bind fun b ρ1 => .ok (.sh (.bl b)) ρ1
def sIfE (c : DEnv → R Bool) (f g : DEnv → R Val) : DEnv → R Val := fun ρ => (c ρ).bind fun b ρ1 => if b = true then f ρ1 else g ρ1
section
variable {X : Cx} {a b c e : Expr} {rest : List Expr} {fa fb f : DEnv → R Val} {ta tb tc : DEnv → R Bool} {pos : Pos}
theorem at_bl {K : PySem.W.Frag} {F0 H0 H : Hp} {σ : St} {ρ : DEnv} {vs : List V} {xs : List Val} {v : V} {x : Val} {b : Bool} (h : Stt K F0 H0 H σ ρ (v :: vs) (x :: xs)) (e : asB x.fz = some b) : v = .bl b := by
  have q := h.fz
  obtain ⟨F, _, hA, _⟩ := Stt.reads (as := [v]) (ds := [x.fz]) rfl q
  cases hA with
  | cons a _ =>
    match hx : x.fz, e, a with
    | .bl b', e, .bl _ => rw [Option.some.inj e]
theorem tB_of {f : DEnv → R Val} {σ : St} {H : Hp} {Q : Bool → Hp → Prop} (h : tT X (sTst f) σ H Q) : tE X f σ H (fun x H1 => ∃ k, x = .bl k ∧ Q k H1) := by
  obtain ⟨F0, H0, ρ, vs, xs, s, q⟩ := h
  refine ⟨F0, H0, ρ, vs, xs, s, (post_bind q).imp (fun x ρ1 q1 H1 v s1 => ?_) fun _ _ z => z⟩
  cases e : asB x.fz with
  | none => rw [e] at q1; exact q1.elim
  | some b =>
    rw [e] at q1
    exact ⟨b, at_bl s1 e, q1 _ s1.pop⟩
theorem dt_val (h : DE X e f) (he : ∀ whole, isTrue e X.env whole = (do let v ← whole; standAt e.pos; holding [v] (truthy v)) := by intro _; rfl) : DT X e (sTst f) :=
  PT.imp (pt_val h he) fun σ H Q h => tB_of h
theorem dt_cmp {op : CmpOp} {r : R2} {g : D → D → Option Val} (ho : OpR X (compareOp op) r) (hg : OpD X r g) (ha : DE X a fa) (hb : DE X b fb) (hm : behindInMarks op b = false) : DT X (.Compare a [op] [b] pos) (sTst (sOp g fa fb)) :=
  PT.imp (pt_cmpR ho ha hb hm) fun σ H Q h => by
    obtain ⟨F0, H0, ρ, vs, xs, s, q⟩ := tB_of h
    exact tE_op hg ⟨F0, H0, ρ, vs, xs, s, q⟩
theorem dt_not (h : DT X a ta) : DT X (.UnaryOp .Not a pos) (sNot ta) :=
  PT.imp (pt_not h) fun σ H Q ⟨F0, H0, ρ, vs, xs, s, q⟩ => ⟨F0, H0, ρ, vs, xs, s, (post_bind q).imp (fun b ρ1 q1 H1 s1 => q1 H1 s1) fun _ _ z => z⟩
/-- and, or as tests -/
def DW (X : Cx) (e : Expr) (f : DEnv → R Bool) : Prop := PW X e (tT X f)
theorem dw_and1 (h : DT X a ta) : DW X (.BoolOp .And [a] pos) ta := pw_and1 h
theorem dw_or1 (h : DT X a ta) : DW X (.BoolOp .Or [a] pos) ta := pw_or1 h
theorem dw_and (ha : DT X a ta) (hb : DW X (.BoolOp .And (b :: rest) pos) tb) : DW X (.BoolOp .And (a :: b :: rest) pos) (sAnd ta tb) :=
  PW.imp (pw_and ha hb) fun σ H Q ⟨F0, H0, ρ, vs, xs, s, q⟩ => ⟨F0, H0, ρ, vs, xs, s, (post_bind q).imp (fun b ρ1 q1 H1 s1 => by
    cases b with
    | true => rw [if_pos rfl] at q1 ⊢; exact ⟨F0, H0, ρ1, vs, xs, s1, q1⟩
    | false => rw [if_neg Bool.false_ne_true] at q1 ⊢; exact q1 H1 s1) fun _ _ z => z⟩
theorem dw_or (ha : DT X a ta) (hb : DW X (.BoolOp .Or (b :: rest) pos) tb) : DW X (.BoolOp .Or (a :: b :: rest) pos) (sOr ta tb) :=
  PW.imp (pw_or ha hb) fun σ H Q ⟨F0, H0, ρ, vs, xs, s, q⟩ => ⟨F0, H0, ρ, vs, xs, s, (post_bind q).imp (fun b ρ1 q1 H1 s1 => by
    cases b with
    | true => rw [if_pos rfl] at q1 ⊢; exact q1 H1 s1
    | false => rw [if_neg Bool.false_ne_true] at q1 ⊢; exact ⟨F0, H0, ρ1, vs, xs, s1, q1⟩) fun _ _ z => z⟩
theorem dt_w (h : DW X e ta) : DT X e ta := PW.pt h
/-- and, or, not as values of truths -/
def sAndV (f : DEnv → R Val) (g : DEnv → R Val) : DEnv → R Val := fun ρ => (f ρ).bind fun x ρ1 => (liftB (asB x.fz) ρ1).bind fun b ρ2 => if b = true then g ρ2 else .ok (.sh (.bl false)) ρ2
def sOrV (f : DEnv → R Val) (g : DEnv → R Val) : DEnv → R Val := fun ρ => (f ρ).bind fun x ρ1 => (liftB (asB x.fz) ρ1).bind fun b ρ2 => if b = true then .ok (.sh (.bl true)) ρ2 else g ρ2
def sNotV (f : DEnv → R Val) : DEnv → R Val := fun ρ => (f ρ).bind fun x ρ1 => (liftB (asB x.fz) ρ1).bind fun b ρ2 => .ok (.sh (.bl (!b))) ρ2
theorem de_one {op} (h : DE X a f) : DE X (.BoolOp op [a] pos) f := pe_one h
theorem de_and (ha : DE X a fa) (hb : DE X (.BoolOp .And (b :: rest) pos) fb) : DE X (.BoolOp .And (a :: b :: rest) pos) (sAndV fa fb) :=
  PE.imp (pe_and ha hb) fun σ H Q ⟨F0, H0, ρ, vs, xs, s, q⟩ => by
    refine ⟨F0, H0, ρ, vs, xs, s, (post_bind q).imp (fun x ρ1 q1 H1 v s1 => ?_) fun _ _ z => z⟩
    cases e : asB x.fz with
    | none => rw [e] at q1; exact q1.elim
    | some k =>
      rw [e] at q1
      refine ⟨k, at_bl s1 e, ?_⟩
      cases k with
      | true => rw [if_pos rfl]; exact ⟨F0, H0, ρ1, vs, xs, s1.pop, q1⟩
      | false => rw [if_neg Bool.false_ne_true]; exact q1 H1 _ (s1.pop.scal fun _ => .bl false)
theorem de_or (ha : DE X a fa) (hb : DE X (.BoolOp .Or (b :: rest) pos) fb) : DE X (.BoolOp .Or (a :: b :: rest) pos) (sOrV fa fb) :=
  PE.imp (pe_or ha hb) fun σ H Q ⟨F0, H0, ρ, vs, xs, s, q⟩ => by
    refine ⟨F0, H0, ρ, vs, xs, s, (post_bind q).imp (fun x ρ1 q1 H1 v s1 => ?_) fun _ _ z => z⟩
    cases e : asB x.fz with
    | none => rw [e] at q1; exact q1.elim
    | some k =>
      rw [e] at q1
      refine ⟨k, at_bl s1 e, ?_⟩
      cases k with
      | false => rw [if_neg Bool.false_ne_true]; exact ⟨F0, H0, ρ1, vs, xs, s1.pop, q1⟩
      | true => rw [if_pos rfl]; exact q1 H1 _ (s1.pop.scal fun _ => .bl true)
theorem de_not (ha : DE X a fa) : DE X (.UnaryOp .Not a pos) (sNotV fa) :=
  PE.imp (pe_not ha) fun σ H Q ⟨F0, H0, ρ, vs, xs, s, q⟩ => by
    refine ⟨F0, H0, ρ, vs, xs, s, (post_bind q).imp (fun x ρ1 q1 H1 v s1 => ?_) fun _ _ z => z⟩
    cases e : asB x.fz with
    | none => rw [e] at q1; exact q1.elim
    | some k =>
      rw [e] at q1
      exact ⟨k, at_bl s1 e, q1 H1 _ (s1.pop.scal fun _ => .bl _)⟩
theorem de_ifE (hc : DT X c tc) (ha : DE X a fa) (hb : DE X b fb) : DE X (.IfExp c a b pos) (sIfE tc fa fb) :=
  PE.imp (pe_ifExp hc ha hb) fun σ H Q ⟨F0, H0, ρ, vs, xs, s, q⟩ => by
    refine ⟨F0, H0, ρ, vs, xs, s, (post_bind q).imp (fun b ρ1 q1 H1 s1 => ?_) fun _ _ z => z⟩
    cases b with
    | true => rw [if_pos rfl] at q1 ⊢; exact ⟨F0, H0, ρ1, vs, xs, s1, q1⟩
    | false => rw [if_neg Bool.false_ne_true] at q1 ⊢; exact ⟨F0, H0, ρ1, vs, xs, s1, q1⟩
end

/-! ### statements -/
def sSkip : DEnv → Fl := fun ρ => .nx ρ
def Fl.seq : Fl → (DEnv → Fl) → Fl
  | .nx ρ, k => k ρ
  | r, _ => r
@[simp] theorem Fl.seq_nx (ρ : DEnv) (k : DEnv → Fl) : (Fl.nx ρ).seq k = k ρ := id rfl
@[simp] theorem Fl.seq_rt (x : Val) (ρ : DEnv) (k : DEnv → Fl) : (Fl.rt x ρ).seq k = .rt x ρ := id rfl
@[simp] theorem Fl.seq_bk (ρ : DEnv) (k : DEnv → Fl) : (Fl.bk ρ).seq k = .bk ρ := id rfl
@[simp] theorem Fl.seq_ct (ρ : DEnv) (k : DEnv → Fl) : (Fl.ct ρ).seq k = .ct ρ := id rfl
@[simp] theorem Fl.seq_exc (e : DExn) (ρ : DEnv) (k : DEnv → Fl) : (Fl.exc e ρ).seq k = .exc e ρ := id rfl
@[simp] theorem Fl.seq_bad (k : DEnv → Fl) : Fl.bad.seq k = .bad := id rfl
def sSeq (s t : DEnv → Fl) : DEnv → Fl := fun ρ => (s ρ).seq t
def sSet (i : Nat) (f : DEnv → R Val) : DEnv → Fl := fun ρ => (f ρ).fl fun x ρ1 => if i < ρ1.length then .nx (ρ1.set i (some x)) else .bad
def sRet (f : DEnv → R Val) : DEnv → Fl := fun ρ => (f ρ).fl fun x ρ1 => .rt x ρ1
def sDo (f : DEnv → R Val) : DEnv → Fl := fun ρ => (f ρ).fl fun _ ρ1 => .nx ρ1
def sIf (c : DEnv → R Bool) (s t : DEnv → Fl) : DEnv → Fl := fun ρ => (c ρ).fl fun b ρ1 => if b = true then s ρ1 else t ρ1
def sBrk : DEnv → Fl := fun ρ => .bk ρ
def sCnt : DEnv → Fl := fun ρ => .ct ρ
theorem post_fl {α : Type} {X : Cx} {F0 H0 : Hp} {vs : List V} {xs : List Val} {D : Ends} {r : R α} {k : α → DEnv → Fl} (h : fpost X F0 H0 vs xs D (r.fl k)) : post X F0 H0 vs xs (fun a ρ => fpost X F0 H0 vs xs D (k a ρ)) r := by
  cases r <;> exact h
section
variable {X : Cx} {e c : Expr} {f : DEnv → R Val} {tc : DEnv → R Bool} {st : Stmt} {rest sa sb : List Stmt} {s t : DEnv → Fl} {pos : Pos}
theorem dss_nil : DSs X [] sSkip := PSs.imp pss_nil fun D σ H ⟨F0, H0, ρ, vs, xs, s, q⟩ => q σ H s
theorem dss_one (h : DS X st s) : DSs X [st] s := pss_one h
theorem dss_cons (h1 : DS X st s) (h2 : DSs X rest t) : DSs X (st :: rest) (sSeq s t) :=
  PSs.imp (pss_cons h1 h2) fun D σ H ⟨F0, H0, ρ, vs, xs, h, q⟩ => by
    refine ⟨F0, H0, ρ, vs, xs, h, ?_⟩
    unfold sSeq at q
    cases e : s ρ with
    | nx ρ' =>
      rw [e] at q
      exact fun σ' H' h' => ⟨F0, H0, ρ', vs, xs, h', q⟩
    | rt x ρ' => rw [e] at q; exact q
    | bk ρ' => rw [e] at q; exact q
    | ct ρ' => rw [e] at q; exact q
    | exc x ρ' => rw [e] at q; exact q
    | bad => rw [e] at q; exact q
theorem ds_set {i : Nat} {x : Str} {pos' : Pos} (hN : X.N.Nodup) (hi : X.N[i]? = some x) (hx : Loc X.env.scope x) (he : DE X e f) (hs : swapsWith e (some (.Name x pos')) pos.line X.env = pure false := by rfl) (hf : X.fn x = true ∨ X.env.scope.names.lookup x = some .local := by first | exact .inl rfl | exact .inr rfl | assumption) :
    DS X (.Assign [.Name x pos'] e pos) (sSet i f) :=
  PS.imp (ps_set hN hi hx he hs hf) fun D σ H ⟨F0, H0, ρ, vs, xs, s, q⟩ => by
    refine ⟨F0, H0, ρ, vs, xs, s, (post_fl q).imp (fun x ρ1 q1 H1 v s1 => ?_) fun _ _ z => z⟩
    split at q1
    · exact q1 _ _ (s1.store (by assumption))
    · exact q1.elim
theorem ds_ret (he : DE X e f) : DS X (.Return (some e) pos) (sRet f) :=
  PS.imp (ps_ret he) fun D σ H ⟨F0, H0, ρ, vs, xs, s, q⟩ => ⟨F0, H0, ρ, vs, xs, s, (post_fl q).imp (fun x ρ1 q1 H1 v s1 => q1 σ H1 v s1) fun _ _ z => z⟩
theorem ds_do (he : DE X e f) (hs : swapsWith e none pos.line X.env = pure false := by rfl) : DS X (.Expr e pos) (sDo f) :=
  PS.imp (ps_expr he hs) fun D σ H ⟨F0, H0, ρ, vs, xs, s, q⟩ => ⟨F0, H0, ρ, vs, xs, s, (post_fl q).imp (fun x ρ1 q1 H1 v s1 => q1 σ H1 s1.pop) fun _ _ z => z⟩
theorem ds_if (hc : DT X c tc) (ha : DSs X sa s) (hb : DSs X sb t) : DS X (.If c sa sb pos) (sIf tc s t) :=
  PS.imp (ps_if hc ha hb) fun D σ H ⟨F0, H0, ρ, vs, xs, h, q⟩ => by
    refine ⟨F0, H0, ρ, vs, xs, h, (post_fl q).imp (fun b ρ1 q1 H1 s1 => ?_) fun _ _ z => z⟩
    cases b with
    | true => rw [if_pos rfl] at q1 ⊢; exact ⟨F0, H0, ρ1, vs, xs, s1, q1⟩
    | false => rw [if_neg Bool.false_ne_true] at q1 ⊢; exact ⟨F0, H0, ρ1, vs, xs, s1, q1⟩
theorem ds_brk : DS X (.Break pos) sBrk := PS.imp ps_break fun D σ H ⟨F0, H0, ρ, vs, xs, s, q⟩ => q σ H s
theorem ds_cnt : DS X (.Continue pos) sCnt := PS.imp ps_continue fun D σ H ⟨F0, H0, ρ, vs, xs, s, q⟩ => q σ H s
theorem ds_pass : DS X (.Pass pos) sSkip := PS.imp ps_pass fun D σ H ⟨F0, H0, ρ, vs, xs, s, q⟩ => q σ H s
/-- some slots are forgotten -/
def forget : List Nat → DEnv → DEnv
  | [], ρ => ρ
  | i :: is, ρ => forget is (ρ.set i none)
theorem Stt.forget {K : PySem.W.Frag} {F0 H0 H : Hp} {σ : St} {vs : List V} {xs : List Val} : ∀ {is : List Nat} {ρ : DEnv}, Stt K F0 H0 H σ ρ vs xs → Stt K F0 H0 H σ (DL.forget is ρ) vs xs
  | [], _, h => h
  | i :: is, _, h => Stt.forget (is := is) (h.drop i)
end
end DL

/-! DLd: targets, loops, comprehensions, defs and their calls. -/
namespace DL
open PySem PySem.Spec L2

section
variable {K : PySem.W.Frag} {F0 F1 H0 H H' : Hp} {σ σ' : St} {ρ : DEnv} {vs as ws : List V} {xs bs ys : List Val} {v : V} {x : Val} {d : D} {i : Nat}
theorem Stt.sub (h : Stt K F0 H0 H σ ρ vs xs) : Same F0 H := by
  obtain ⟨F, f, g, h1, h2, h3, _⟩ := h
  exact h1.trans h3
theorem Stt.sub0 (h : Stt K F0 H0 H σ ρ vs xs) : Same H0 H := by
  obtain ⟨F, f, g, h1, h2, _⟩ := h
  exact h2
theorem Stt.push0 (h : Stt K F0 H0 H σ ρ vs xs) (a : At K F0 v d) : Stt K F0 H0 H σ ρ (v :: vs) (.sh d :: xs) := by
  obtain ⟨F, f, g, h1, h2, h3, h4, h5, h6, h7, h8⟩ := h
  exact ⟨F, f, g, h1, h2, h3, h4, h5, .cons (f := []) (.sh (At.mono h1 _ _ a)) h6, h7, h8⟩
end

/-! ### targets -/
/-- is: the slots that it writes -/
def tG (X : Cx) (is : List Nat) (g : D → DEnv → Option DEnv) : TG := fun v σ H Q => ∃ F0 H0 ρ vs xs d, Stt X.K F0 H0 H σ ρ (v :: vs) (.sh d :: xs) ∧ ∃ ρ', g d ρ = some ρ' ∧
  ∀ σ' H', σ'.length = σ.length → (∀ j, j ∉ is → σ'[j]? = σ[j]?) → Stt X.K F0 H0 H' σ' ρ' vs xs → Q σ' H'
def tGs (X : Cx) (is : List Nat) (g : List D → DEnv → Option DEnv) : TGs := fun ws σ H Q => ∃ F0 H0 ρ vs xs ds, Stt X.K F0 H0 H σ ρ (ws ++ vs) (ds.map .sh ++ xs) ∧ ws.length = ds.length ∧ ∃ ρ', g ds ρ = some ρ' ∧
  ∀ σ' H', σ'.length = σ.length → (∀ j, j ∉ is → σ'[j]? = σ[j]?) → Stt X.K F0 H0 H' σ' ρ' vs xs → Q σ' H'
def DG (X : Cx) (e : Expr) (is : List Nat) (g : D → DEnv → Option DEnv) : Prop := PG X e (tG X is g)
def DGs (X : Cx) (e : List Expr) (is : List Nat) (g : List D → DEnv → Option DEnv) : Prop := PGs X e (tGs X is g)
theorem PG.imp {X : Cx} {e : Expr} {t t' : TG} (h : PG X e t) (k : ∀ v σ H Q, t' v σ H Q → t v σ H Q) : PG X e t' := ⟨fun pins s σ H v u Q I r q => h.run pins s σ H v u Q I r (k v σ H Q q)⟩
theorem PGs.imp {X : Cx} {e : List Expr} {t t' : TGs} (h : PGs X e t) (k : ∀ v σ H Q, t' v σ H Q → t v σ H Q) : PGs X e t' := ⟨fun pins s σ H v u Q I r q => h.run pins s σ H v u Q I r (k v σ H Q q)⟩
theorem PG.or {X : Cx} {e : Expr} {t t' : TG} (h : PG X e t) (h' : PG X e t') : PG X e (fun v σ H Q => t v σ H Q ∨ t' v σ H Q) := ⟨fun pins s σ H v u Q I r q => q.elim (h.run pins s σ H v u Q I r) (h'.run pins s σ H v u Q I r)⟩
def kName (i : Nat) : D → DEnv → Option DEnv := fun d ρ => if i < ρ.length then some (ρ.set i (some (.sh d))) else none
def kNil : List D → DEnv → Option DEnv
  | [], ρ => some ρ
  | _ :: _, _ => none
def kCons (g : D → DEnv → Option DEnv) (r : List D → DEnv → Option DEnv) : List D → DEnv → Option DEnv
  | [], _ => none
  | d :: ds, ρ => (g d ρ).bind fun ρ1 => r ds ρ1
/-- a tuple's or a list's items -/
def kSeq (n : Nat) (r : List D → DEnv → Option DEnv) : D → DEnv → Option DEnv
  | .tup ds, ρ => if ds.length = n then r ds ρ else none
  | .lst ds, ρ => if ds.length = n then r ds ρ else none
  | .scr ds, ρ => if ds.length = n then r ds ρ else none
  | _, _ => none
section
variable {X : Cx} {pos : Pos} {is js : List Nat} {g : D → DEnv → Option DEnv} {gs : List D → DEnv → Option DEnv}
theorem dg_name {i : Nat} {x : Str} (hN : X.N.Nodup) (hi : X.N[i]? = some x) (hx : Loc X.env.scope x) (hf : X.fn x = true ∨ X.env.scope.names.lookup x = some .local := by first | exact .inl rfl | exact .inr rfl | assumption) : DG X (.Name x pos) [i] (kName i) :=
  PG.imp (pg_name hN hi hx hf) fun v σ H Q ⟨F0, H0, ρ, vs, xs, d, s, ρ', e, q⟩ => by
    unfold kName at e
    split at e
    · cases e
      exact q _ _ (by simp) (fun j hj => List.getElem?_set_ne (fun z => hj (by simp [z]))) (s.store (by assumption))
    · cases e
theorem dgs_nil : DGs X [] [] kNil :=
  PGs.imp pgs_nil fun ws σ H Q ⟨F0, H0, ρ, vs, xs, ds, s, hl, ρ', e, q⟩ => by
    match ds, e with
    | [], e =>
      cases e
      obtain rfl : ws = [] := List.length_eq_zero_iff.mp hl
      exact ⟨rfl, q σ H rfl (fun _ _ => rfl) s⟩
theorem dgs_cons {e : Expr} {es : List Expr} (h1 : DG X e is g) (h2 : DGs X es js gs)
    (hs : (assignEach (e :: es) X.env).map (·.2) = assign e X.env :: (assignEach es X.env).map (·.2) := by rfl) : DGs X (e :: es) (is ++ js) (kCons g gs) :=
  PGs.imp (pgs_cons h1 h2 hs) fun ws σ H Q ⟨F0, H0, ρ, vs, xs, ds, s, hl, ρ', e, q⟩ => by
    match ds, e with
    | d :: ds, e =>
      match ws, hl with
      | w :: ws, hl =>
        have hl : ws.length = ds.length := by simpa using hl
        unfold kCons at e
        obtain ⟨ρ1, e1, e2⟩ := Option.bind_eq_some_iff.mp e
        have s : Stt X.K F0 H0 H σ ρ (w :: (ws ++ vs)) (.sh d :: (ds.map .sh ++ xs)) := s
        refine ⟨w, ws, rfl, F0, H0, ρ, ws ++ vs, ds.map .sh ++ xs, d, s, ρ1, e1, fun σ1 H1 l1 k1 s1 => ?_⟩
        exact ⟨F0, H0, ρ1, vs, xs, ds, s1, hl, ρ', e2, fun σ2 H2 l2 k2 s2 => q σ2 H2 (l2.trans l1) (fun j hj => (k2 j fun z => hj (List.mem_append_right _ z)).trans (k1 j fun z => hj (List.mem_append_left _ z))) s2⟩
theorem dg_seq {es : List Expr} {k : Nat} {n : Nat} (hc : X.calm = true) (h : DGs X es is gs)
    (hn : (assignEach es X.env).length = n := by rfl) (hst : (assignEach es X.env).findIdx? (·.1) = none := by rfl) : DG X (.Tuple es k pos) is (kSeq n gs) :=
  PG.imp (PG.or (pg_tup hc h hn hst) (pg_lst hc h hn hst)) fun v σ H Q ⟨F0, H0, ρ, vs, xs, d, s, ρ', e, q⟩ => by
    obtain ⟨F, hF, hA, tell⟩ := Stt.reads (as := [v]) (ds := [d]) rfl s
    cases hA with
    | cons a _ =>
      cases a with
      | @tup _ us ds hs ha =>
        have e' : (if ds.length = n then gs ds ρ else none) = some ρ' := e
        by_cases hd : ds.length = n
        · rw [if_pos hd] at e'
          exact .inl ⟨_, us, rfl, sameT hF hs, ha.length.trans hd, F0, H0, ρ, vs, xs, ds, tell us ds ha, ha.length, ρ', e', q⟩
        · rw [if_neg hd] at e'; cases e'
      | @lst _ us ds hs ha =>
        have e' : (if ds.length = n then gs ds ρ else none) = some ρ' := e
        by_cases hd : ds.length = n
        · rw [if_pos hd] at e'
          exact .inr ⟨_, us, rfl, hF.seq (.of hs), ha.length.trans hd, F0, H0, ρ, vs, xs, ds, tell us ds ha, ha.length, ρ', e', q⟩
        · rw [if_neg hd] at e'; cases e'
      | @scr _ us ds hs ha =>
        have e' : (if ds.length = n then gs ds ρ else none) = some ρ' := e
        by_cases hd : ds.length = n
        · rw [if_pos hd] at e'
          exact .inr ⟨_, us, rfl, hF.seq hs, ha.length.trans hd, F0, H0, ρ, vs, xs, ds, tell us ds ha, ha.length, ρ', e', q⟩
        · rw [if_neg hd] at e'; cases e'
      | junk => cases e
      | exn _ _ _ _ => cases e
      | dct _ _ _ _ => cases e
      | non => cases e
      | bl _ => cases e
      | int _ => cases e
      | str _ => cases e
      | ins _ _ _ => cases e
def sAsg (f : DEnv → R Val) (g : D → DEnv → Option DEnv) : DEnv → Fl := fun ρ => (f ρ).fl fun x ρ1 => match g x.fz ρ1 with
  | some ρ2 => .nx ρ2
  | none => .bad
theorem ds_asg {tg e : Expr} {f : DEnv → R Val} (he : DE X e f) (hg : DG X tg is g) (hs : swapsWithSole [tg] e pos.line X.env = pure false := by rfl) (hw : swappedStores [tg] e X.env = pure none := by rfl)
    (h1 : (assignEach [tg] X.env).map (·.2) = [assign tg X.env] := by rfl) : DS X (.Assign [tg] e pos) (sAsg f g) :=
  PS.imp (ps_asg he hg hs hw h1) fun D σ H ⟨F0, H0, ρ, vs, xs, s, q⟩ => by
    refine ⟨F0, H0, ρ, vs, xs, s, (post_fl q).imp (fun x ρ1 q1 H1 v s1 => ?_) fun _ _ z => z⟩
    refine ⟨F0, H0, ρ1, vs, xs, x.fz, s1.fz, ?_⟩
    cases e : g x.fz ρ1 with
    | none => rw [e] at q1; exact q1.elim
    | some ρ2 => rw [e] at q1; exact ⟨ρ2, rfl, fun σ' H' _ _ s2 => q1 σ' H' s2⟩
/-- a, b = x, y with names: no tuple is made -/
def sPar (i j : Nat) (f : DEnv → R (List Val)) : DEnv → Fl := fun ρ => (f ρ).fl fun xs ρ1 => match xs with
  | [x, y] => if i < ρ1.length ∧ j < ρ1.length ∧ i ≠ j then .nx ((ρ1.set i (some x)).set j (some y)) else .bad
  | _ => .bad
theorem ds_par {i j : Nat} {x y : Str} {a b : Expr} {f : DEnv → R (List Val)} {px py pt : Pos} {kt k2 pt2} (hc : X.calm = true) (hN : X.N.Nodup) (hi : X.N[i]? = some x) (hj : X.N[j]? = some y) (hij : i ≠ j)
    (hx : X.env.scope.names.lookup x = some .local) (hy : X.env.scope.names.lookup y = some .local) (ha : DA X [a, b] f)
    (hw : swappedStores [.Tuple [.Name x px, .Name y py] kt pt] (.Tuple [a, b] k2 pt2) X.env = pure (some [x, y]))
    (hs : swapsWithSole [.Tuple [.Name x px, .Name y py] kt pt] (.Tuple [a, b] k2 pt2) pos.line X.env = pure false := by rfl) :
    DS X (.Assign [.Tuple [.Name x px, .Name y py] kt pt] (.Tuple [a, b] k2 pt2) pos) (sPar i j f) :=
  PS.imp (ps_par hc hN hi hj hij hx hy ha hw hs) fun D σ H ⟨F0, H0, ρ, vs, xs, s, q⟩ => by
    refine ⟨F0, H0, ρ, vs, xs, s, (post_fl q).imp (fun ys ρ1 q1 H1 ws hl s1 => ?_) fun _ _ z => z⟩
    match ys, ws, hl, s1, q1 with
    | [x, y], [v, w], _, s1, q1 =>
      dsimp only at q1
      split at q1
      · rename_i hh
        refine ⟨v, w, rfl, q1 _ _ ?_⟩
        have s2 := Stt.store (i := j) (Stt.turn (as := [v]) (bs := [x]) rfl s1) hh.2.1
        have s3 := Stt.store (i := i) s2 (by simpa using hh.1)
        rw [List.set_comm _ _ hij.symm, List.set_comm _ _ hij.symm] at s3
        exact s3
      · exact q1.elim
end

/-! ### what is walked -/
def Walk (K : PySem.W.Frag) (F0 : Hp) (J : It) (ds : List D) : Prop := ∀ i H, Same F0 H →
  (∀ d, ds[i]? = some d → J.go i H ∧ ∀ x H', J.yld i H x H' → ∀ H0 σ ρ vs xs, Stt K F0 H0 H σ ρ vs xs → Stt K F0 H0 H' σ ρ (x :: vs) (.sh d :: xs)) ∧ (ds.length ≤ i → J.stop i H)
def tI (X : Cx) (f : DEnv → R (List D)) : TI := fun σ H RR => ∃ F0 H0 ρ vs xs, Stt X.K F0 H0 H σ ρ vs xs ∧ post X F0 H0 vs xs (fun ds ρ' => ∀ F1 H' J, Stt X.K F1 H0 H' σ ρ' vs xs →
  (∀ H' σ' ρ' vs' xs', Stt X.K F1 H0 H' σ' ρ' vs' xs' → Stt X.K F0 H0 H' σ' ρ' vs' xs') → Walk X.K F1 J ds → RR J H') (f ρ)
def DI (X : Cx) (tg e : Expr) (f : DEnv → R (List D)) : Prop := PI X tg e (tI X f)
theorem PI.imp {X : Cx} {tg e : Expr} {t t' : TI} (h : PI X tg e t) (k : ∀ σ H Q, t' σ H Q → t σ H Q) : PI X tg e t' := ⟨fun pins s σ H Q I q => h.run pins s σ H Q I (k σ H Q q)⟩
theorem PI.or {X : Cx} {tg e : Expr} {t t' : TI} (h : PI X tg e t) (h' : PI X tg e t') : PI X tg e (fun σ H Q => t σ H Q ∨ t' σ H Q) := ⟨fun pins s σ H Q I q => q.elim (h.run pins s σ H Q I) (h'.run pins s σ H Q I)⟩
def itemsD : D → Option (List D)
  | .lst ds => some ds
  | .scr ds => some ds
  | .tup ds => some ds
  | _ => none
def liftL (o : Option (List D)) (ρ : DEnv) : R (List D) := match o with
  | some x => .ok x ρ
  | none => .bad
@[simp] theorem liftL_some (x : List D) (ρ : DEnv) : liftL (some x) ρ = .ok x ρ := id rfl
@[simp] theorem liftL_none (ρ : DEnv) : liftL none ρ = .bad := id rfl
theorem walk_list {K : PySem.W.Frag} {F0 : Hp} {a : Addr} {ws : List V} {ds : List D} (hs : SqL K F0 a ws) (ha : Ats K F0 ws ds) : Walk K F0 (Itl K a) ds := fun i H hF => by
  refine ⟨fun d e => ?_, fun hi => ⟨ws, hF.seq hs, by rw [ha.length]; exact hi⟩⟩
  obtain ⟨v, e1, e2⟩ := ha.get e
  refine ⟨⟨ws, v, hF.seq hs, e1⟩, fun x H' hy H0 σ ρ vs xs s => ?_⟩
  obtain ⟨rfl, k⟩ := hy
  have q := (k ws (hF.seq hs)).symm.trans e1
  cases q
  exact s.push0 e2
theorem walk_tup {K : PySem.W.Frag} {F0 : Hp} {a : Addr} {ws : List V} {ds : List D} (hs : TupAt K F0 a ws) (ha : Ats K F0 ws ds) : Walk K F0 (Itt K a) ds := fun i H hF => by
  refine ⟨fun d e => ?_, fun hi => ⟨ws, sameT hF hs, by rw [ha.length]; exact hi⟩⟩
  obtain ⟨v, e1, e2⟩ := ha.get e
  refine ⟨⟨ws, v, sameT hF hs, e1⟩, fun x H' hy H0 σ ρ vs xs s => ?_⟩
  obtain ⟨rfl, k⟩ := hy
  have q := (k ws (sameT hF hs)).symm.trans e1
  cases q
  exact s.push0 e2
def sItems (f : DEnv → R Val) : DEnv → R (List D) := fun ρ => (f ρ).bind fun x ρ1 => liftL (itemsD x.fz) ρ1
theorem PE_Q {X : Cx} {f : DEnv → R Val} {σ : St} {H : Hp} {Q Q' : VK} (h : tE X f σ H Q) (k : ∀ v H, Q v H → Q' v H) : tE X f σ H Q' := by
  obtain ⟨F0, H0, ρ, vs, xs, s, q⟩ := h
  exact ⟨F0, H0, ρ, vs, xs, s, q.imp (fun x ρ1 q1 H' v s1 => k _ _ (q1 H' v s1)) fun _ _ z => z⟩
/-- a list or a tuple is walked -/
theorem pi_seq {X : Cx} {tg l : Expr} {tl : TE} (hl : PE X l tl) : PI X tg l (fun σ H R => tl σ H fun x H1 => ∃ a, x = .ref a ∧ (((∃ xs, SqL X.K H1 a xs) ∧ R (Itl X.K a) H1) ∨ ((∃ xs, SqT X.K H1 a xs) ∧ R (Itt X.K a) H1))) := by
  refine ⟨fun pins s σ H R I h => ?_⟩
  refine thn (hl.run pins s σ H _ I h) fun v s1 ⟨x, H1, I1, r1, q1⟩ => ?_
  obtain ⟨a, e, q⟩ := q1
  subst e
  cases r1
  rcases q with ⟨⟨xs, hq⟩, q⟩ | ⟨⟨xs, hq⟩, q⟩
  · obtain ⟨its, rv, p, hz⟩ := I1.list hq
    refine wpAny_pyIter_list p.isList ?_
    refine ⟨s1.heap.objs.size, [s1.heap.objs.size], _, _, H1, rfl, I1.kept (t' := s1.toks) fun b o e => Heap.get?_push_of_some _ e, turn_list a _, ⟨_, Heap.get?_push_size _ rfl, rfl, rfl⟩, fun b hb => ?_, q⟩
    have e : b = s1.heap.objs.size := by simpa using hb
    subst e
    exact I1.fpOk (Nat.le_refl _) (I1.hok.fresh (Nat.le_refl _))
  · obtain ⟨its, rv, p, hz⟩ := I1.tuple hq
    refine wpAny_pyIter_tuple p ?_
    refine ⟨s1.heap.objs.size, [s1.heap.objs.size], _, _, H1, rfl, I1.kept (t' := s1.toks) fun b o e => Heap.get?_push_of_some _ e, turn_tuple a _, ⟨_, Heap.get?_push_size _ rfl, rfl, rfl⟩, fun b hb => ?_, q⟩
    have e : b = s1.heap.objs.size := by simpa using hb
    subst e
    exact I1.fpOk (Nat.le_refl _) (I1.hok.fresh (Nat.le_refl _))
theorem di_seq {X : Cx} {tg l : Expr} {f : DEnv → R Val} (hl : DE X l f) : DI X tg l (sItems f) :=
  PI.imp (pi_seq hl) fun σ H RR ⟨F0, H0, ρ, vs, xs, s, q⟩ => by
    refine ⟨F0, H0, ρ, vs, xs, s, (post_bind q).imp (fun x ρ1 q1 H1 v s1 => ?_) fun _ _ z => z⟩
    obtain ⟨F, hF, hA, s2, rb⟩ := Stt.rebaseAt (as := [v]) (ds := [x.fz]) rfl s1.fz
    cases hA with
    | cons a _ =>
      cases e : itemsD x.fz with
      | none => rw [e] at q1; exact q1.elim
      | some ds =>
        rw [e] at q1
        match hx : x.fz, e, a with
        | .lst es, e, .lst (vs := us) hs ha =>
          cases e
          exact ⟨_, rfl, .inl ⟨⟨us, hF.seq (.of hs)⟩, q1 F H1 _ s2 rb (walk_list (.of hs) ha)⟩⟩
        | .scr es, e, .scr (vs := us) hs ha =>
          cases e
          exact ⟨_, rfl, .inl ⟨⟨us, hF.seq hs⟩, q1 F H1 _ s2 rb (walk_list hs ha)⟩⟩
        | .tup es, e, .tup (vs := us) hs ha =>
          cases e
          exact ⟨_, rfl, .inr ⟨⟨us, sameT hF hs⟩, q1 F H1 _ s2 rb (walk_tup hs ha)⟩⟩
/-! ranges -/
def rangeL (i : Int) (n : Nat) : List D := (List.range n).map fun (k : Nat) => D.int (i + (k : Int))
theorem walk_range {K : PySem.W.Frag} {F0 : Hp} {i : Int} {n : Nat} : Walk K F0 (Itr i n) (rangeL i n) := fun j H hF => by
  refine ⟨fun d e => ?_, fun hi => (show n ≤ j by simpa [rangeL] using hi)⟩
  unfold rangeL at e
  rw [List.getElem?_map] at e
  cases e1 : (List.range n)[j]? with
  | none => rw [e1] at e; cases e
  | some k =>
    rw [e1] at e
    obtain ⟨h1, h2⟩ := List.getElem?_eq_some_iff.mp e1
    simp at h1 h2
    subst h2
    cases e
    refine ⟨h1, fun x H' hy H0 σ ρ vs xs s => ?_⟩
    obtain ⟨rfl, rfl⟩ := hy
    exact s.scal fun _ => .int _
def bnd62 (i : Int) : Bool := decide (-(2 ^ 62) ≤ i) && decide (i < 2 ^ 62)
def rng1 : List D → Option (List D)
  | [.int j] => if bnd62 j then some (rangeL 0 j.toNat) else none
  | _ => none
def rng2 : List D → Option (List D)
  | [.int i, .int j] => if bnd62 i && bnd62 j then some (rangeL i (j - i).toNat) else none
  | _ => none
theorem rng1_some {ds l : List D} (h : rng1 ds = some l) : ∃ j, ds = [.int j] ∧ bnd62 j = true ∧ l = rangeL 0 j.toNat := by
  unfold rng1 at h
  split at h
  · split at h
    · exact ⟨_, rfl, by assumption, (Option.some.inj h).symm⟩
    · cases h
  · cases h
theorem rng2_some {ds l : List D} (h : rng2 ds = some l) : ∃ i j, ds = [.int i, .int j] ∧ bnd62 i = true ∧ bnd62 j = true ∧ l = rangeL i (j - i).toNat := by
  unfold rng2 at h
  split at h
  · split at h
    · rename_i hb
      rw [Bool.and_eq_true] at hb
      exact ⟨_, _, rfl, hb.1, hb.2, (Option.some.inj h).symm⟩
    · cases h
  · cases h
def sRange (g : List D → Option (List D)) (f : DEnv → R (List Val)) : DEnv → R (List D) := fun ρ => (f ρ).bind fun xs ρ1 => liftL (g (fzs xs)) ρ1
theorem Stt.fzsP {K : PySem.W.Frag} {F0 H0 H : Hp} {σ : St} {ρ : DEnv} {vs as : List V} {xs bs : List Val} (hl : as.length = bs.length) (h : Stt K F0 H0 H σ ρ (as ++ vs) (bs ++ xs)) : as.length = (DL.fzs bs).length ∧ Stt K F0 H0 H σ ρ (as ++ vs) ((DL.fzs bs).map .sh ++ xs) :=
  ⟨by rw [fzs_map, List.length_map]; exact hl, Stt.fzs hl h⟩
theorem Stt.popN {K : PySem.W.Frag} {F0 H0 H : Hp} {σ : St} {ρ : DEnv} {vs : List V} {xs : List Val} : ∀ {as : List V} {bs : List Val}, as.length = bs.length → Stt K F0 H0 H σ ρ (as ++ vs) (bs ++ xs) → Stt K F0 H0 H σ ρ vs xs
  | [], [], _, h => h
  | _ :: _, _ :: _, hl, h => Stt.popN (by simpa using hl) h.pop
theorem bnd_of {i : Int} (h : bnd62 i = true) : -(2 ^ 62) ≤ i ∧ i < 2 ^ 62 := by
  unfold bnd62 at h
  simpa using h
theorem di_range1 {X : Cx} {tg a : Expr} {f : DEnv → R (List Val)} {p pos : Pos} (hg : Gl X "range") (hm : X.mg "range" = none) (ha : DA X [a] f) (hs : starEach [a] X.env = [(false, eval a X.env)] := by rfl) : DI X tg (.Call (.Name "range" p) [a] [] pos) (sRange rng1 f) :=
  PI.imp (pi_range1 hg hm ha hs) fun σ H RR ⟨F0, H0, ρ, vs, xs, s, q⟩ => by
    refine ⟨F0, H0, ρ, vs, xs, s, (post_bind q).imp (fun ys ρ1 q1 H1 ws hl s1 => ?_) fun _ _ z => z⟩
    obtain ⟨hl2, s2⟩ := s1.fzsP hl
    obtain ⟨F, hF, hA, s3, rb⟩ := Stt.rebaseAt hl2 s2
    cases e : rng1 (fzs ys) with
    | none => rw [e] at q1; exact q1.elim
    | some ds =>
      rw [e] at q1
      obtain ⟨j, ej, hb, rfl⟩ := rng1_some e
      rw [ej] at hA
      match ws, hA with
      | [_], .cons (.int _) .nil =>
        obtain ⟨b1, b2⟩ := bnd_of hb
        exact ⟨j, rfl, b1, b2, q1 F H1 _ s3 rb walk_range⟩
theorem di_range2 {X : Cx} {tg a b : Expr} {f : DEnv → R (List Val)} {p pos : Pos} (hg : Gl X "range") (hm : X.mg "range" = none) (ha : DA X [a, b] f) (hs : starEach [a, b] X.env = [(false, eval a X.env), (false, eval b X.env)] := by rfl) (hs2 : starEach [b] X.env = [(false, eval b X.env)] := by rfl) :
    DI X tg (.Call (.Name "range" p) [a, b] [] pos) (sRange rng2 f) :=
  PI.imp (pi_range2 hg hm ha hs hs2) fun σ H RR ⟨F0, H0, ρ, vs, xs, s, q⟩ => by
    refine ⟨F0, H0, ρ, vs, xs, s, (post_bind q).imp (fun ys ρ1 q1 H1 ws hl s1 => ?_) fun _ _ z => z⟩
    obtain ⟨hl2, s2⟩ := s1.fzsP hl
    obtain ⟨F, hF, hA, s3, rb⟩ := Stt.rebaseAt hl2 s2
    cases e : rng2 (fzs ys) with
    | none => rw [e] at q1; exact q1.elim
    | some ds =>
      rw [e] at q1
      obtain ⟨i, j, ej, hb, hb', rfl⟩ := rng2_some e
      rw [ej] at hA
      match ws, hA with
      | [_, _], .cons (.int _) (.cons (.int _) .nil) =>
        obtain ⟨b1, b2⟩ := bnd_of hb
        obtain ⟨b3, b4⟩ := bnd_of hb'
        exact ⟨i, j, rfl, ⟨b1, b2, b3, b4⟩, q1 F H1 _ s3 rb walk_range⟩

/-! ### for -/
def loop (g : D → DEnv → Option DEnv) (b : DEnv → Fl) (fg : List Nat) : List D → DEnv → Fl
  | [], ρ => .nx ρ
  | d :: ds, ρ => match g d ρ with
    | none => .bad
    | some ρ1 => match b ρ1 with
      | .nx ρ2 => loop g b fg ds (forget fg ρ2)
      | .ct ρ2 => loop g b fg ds (forget fg ρ2)
      | .bk ρ2 => .nx (forget fg ρ2)
      | .rt x ρ2 => .rt x ρ2
      | .exc e ρ2 => .exc e ρ2
      | .bad => .bad
def sFor (it : DEnv → R (List D)) (g : D → DEnv → Option DEnv) (b : DEnv → Fl) (fg : List Nat) : DEnv → Fl := fun ρ => (it ρ).fl fun ds ρ1 => loop g b fg ds (forget fg ρ1)
theorem exOk.base {X : Cx} {F0 F1 H0 : Hp} {e : DExn} {ρ : DEnv} {vs : List V} {xs : List Val} (rb : ∀ H' σ' ρ' vs' xs', Stt X.K F1 H0 H' σ' ρ' vs' xs' → Stt X.K F0 H0 H' σ' ρ' vs' xs') (h : exOk X F0 H0 e ρ vs xs) : exOk X F1 H0 e ρ vs xs :=
  fun σ' H' dx ves s hl hx => h σ' H' dx ves (rb _ _ _ _ _ s) hl hx
theorem fpost.base {X : Cx} {F0 F1 H0 : Hp} {D : Ends} {r : Fl} {vs : List V} {xs : List Val} (rb : ∀ H' σ' ρ' vs' xs', Stt X.K F1 H0 H' σ' ρ' vs' xs' → Stt X.K F0 H0 H' σ' ρ' vs' xs') (h : fpost X F0 H0 vs xs D r) : fpost X F1 H0 vs xs D r := by
  cases r with
  | nx ρ => exact fun σ' H' s => h σ' H' (rb _ _ _ _ _ s)
  | rt x ρ => exact fun σ' H' v s => h σ' H' v (rb _ _ _ _ _ s)
  | bk ρ => exact fun σ' H' s => h σ' H' (rb _ _ _ _ _ s)
  | ct ρ => exact fun σ' H' s => h σ' H' (rb _ _ _ _ _ s)
  | exc e ρ => exact exOk.base rb h
  | bad => exact h
section
variable {X : Cx} {tg iter : Expr} {body : List Stmt} {fi : DEnv → R (List D)} {g : D → DEnv → Option DEnv} {b : DEnv → Fl} {is : List Nat} {pos : Pos}
theorem ds_for (fg : List Nat) (hp : PassesOwn (model X.prog X.w) X.A X.env X.xe) (hc : X.calm = true) (hi : DI X tg iter fi) (hg : DG X tg is g) (hb : DSs X body b)
    (hs : ∀ x, foldedSetIterable iter X.env x = pure x := by intro _; rfl) : DS X (.For tg iter body [] pos) (sFor fi g b fg) :=
  PS.imp (ps_for hp hc hi hg hb hs) fun D σ H ⟨F0, H0, ρ, vs, xs, s, q⟩ => by
    refine ⟨F0, H0, ρ, vs, xs, s, (post_fl q).imp (fun ds ρ1 q1 F1 H1 J s1 rb wk => ?_) fun _ _ z => z⟩
    have q2 := fpost.base rb q1
    refine ⟨fun i m σ H => m = ds.length - i ∧ i ≤ ds.length ∧ ∃ ρ, Stt X.K F1 H0 H σ ρ vs xs ∧ fpost X F1 H0 vs xs D (loop g b fg (ds.drop i) ρ), ⟨_, rfl, Nat.zero_le _, _, s1.forget, q2⟩, ?_⟩
    rintro i m σ2 H2 ⟨rfl, hi, ρ2, s2, q3⟩
    obtain ⟨w1, w2⟩ := wk i H2 s2.sub
    by_cases hlt : i < ds.length
    · obtain ⟨go, yl⟩ := w1 ds[i] (List.getElem?_eq_getElem hlt)
      refine .inr ⟨go, fun σ' H' => ∃ ρ, Stt X.K F1 H0 H' σ' ρ vs xs ∧ fpost X F1 H0 vs xs D (loop g b fg (ds.drop (i + 1)) ρ), fun σ' H' ⟨ρ', s', q'⟩ => ⟨ds.length - (i + 1), by omega, rfl, hlt, ρ', s', q'⟩, fun x H' hy => ?_⟩
      have s3 := yl x H' hy H0 σ2 ρ2 vs xs s2
      rw [List.drop_eq_getElem_cons hlt] at q3
      unfold loop at q3
      cases e : g ds[i] ρ2 with
      | none => rw [e] at q3; exact q3.elim
      | some ρ3 =>
        rw [e] at q3
        refine ⟨F1, H0, ρ2, vs, xs, ds[i], s3, ρ3, e, fun σ4 H4 _ _ s4 => ⟨F1, H0, ρ3, vs, xs, s4, ?_⟩⟩
        cases e2 : b ρ3 with
        | nx ρ5 => simp only [e2] at q3; exact fun σ5 H5 s5 => ⟨_, s5.forget, q3⟩
        | ct ρ5 => simp only [e2] at q3; exact fun σ5 H5 s5 => ⟨_, s5.forget, q3⟩
        | bk ρ5 => simp only [e2] at q3; exact fun σ5 H5 s5 => q3 σ5 H5 s5.forget
        | rt y ρ5 => simp only [e2] at q3; exact q3
        | exc y ρ5 => simp only [e2] at q3; exact q3
        | bad => simp only [e2] at q3; exact q3.elim
    · have ei : i = ds.length := by omega
      subst ei
      rw [List.drop_length] at q3
      exact .inl ⟨w2 (Nat.le_refl _), q3 σ2 H2 s2⟩
end

/-! ### while -/
def whileN (c : DEnv → R Bool) (b : DEnv → Fl) (fg : List Nat) : Nat → DEnv → Fl
  | 0, _ => .bad
  | n + 1, ρ => match c ρ with
    | .ok true ρ1 => match b ρ1 with
      | .nx ρ2 => whileN c b fg n (forget fg ρ2)
      | .ct ρ2 => whileN c b fg n (forget fg ρ2)
      | .bk ρ2 => .nx (forget fg ρ2)
      | .rt x ρ2 => .rt x ρ2
      | .exc e ρ2 => .exc e ρ2
      | .bad => .bad
    | .ok false ρ1 => .nx ρ1
    | .exc e ρ1 => .exc e ρ1
    | .bad => .bad
theorem whileN_more (c : DEnv → R Bool) (b : DEnv → Fl) (fg : List Nat) : ∀ n ρ, whileN c b fg n ρ ≠ .bad → whileN c b fg (n + 1) ρ = whileN c b fg n ρ
  | 0, ρ, h => absurd rfl h
  | n + 1, ρ, h => by
    have ih := whileN_more c b fg n
    rw [whileN] at h
    show (match c ρ with
    | .ok true ρ1 => match b ρ1 with
      | .nx ρ2 => whileN c b fg (n + 1) (forget fg ρ2)
      | .ct ρ2 => whileN c b fg (n + 1) (forget fg ρ2)
      | .bk ρ2 => .nx (forget fg ρ2)
      | .rt x ρ2 => .rt x ρ2
      | .exc e ρ2 => .exc e ρ2
      | .bad => .bad
    | .ok false ρ1 => .nx ρ1
    | .exc e ρ1 => .exc e ρ1
    | .bad => .bad) = (match c ρ with
    | .ok true ρ1 => match b ρ1 with
      | .nx ρ2 => whileN c b fg n (forget fg ρ2)
      | .ct ρ2 => whileN c b fg n (forget fg ρ2)
      | .bk ρ2 => .nx (forget fg ρ2)
      | .rt x ρ2 => .rt x ρ2
      | .exc e ρ2 => .exc e ρ2
      | .bad => .bad
    | .ok false ρ1 => .nx ρ1
    | .exc e ρ1 => .exc e ρ1
    | .bad => .bad)
    cases e : c ρ with
    | ok t ρ1 =>
      rw [e] at h
      cases t with
      | true =>
        cases e2 : b ρ1 with
        | nx ρ2 => simp only [e2] at h ⊢; exact ih _ h
        | ct ρ2 => simp only [e2] at h ⊢; exact ih _ h
        | bk ρ2 => simp only [e2]
        | rt x ρ2 => simp only [e2]
        | exc x ρ2 => simp only [e2]
        | bad => simp only [e2]
      | false => rfl
    | exc e ρ1 => rfl
    | bad => rfl
theorem whileN_le (c : DEnv → R Bool) (b : DEnv → Fl) (fg : List Nat) {n m : Nat} {ρ : DEnv} (h : whileN c b fg n ρ ≠ .bad) (hm : n ≤ m) : whileN c b fg m ρ = whileN c b fg n ρ := by
  obtain ⟨k, rfl⟩ := Nat.exists_eq_add_of_le hm
  clear hm
  induction k with
  | zero => rfl
  | succ k ih => rw [← Nat.add_assoc, whileN_more c b fg (n + k) ρ (by rw [ih]; exact h), ih]
open Classical in
noncomputable def sWhile (c : DEnv → R Bool) (b : DEnv → Fl) (fg : List Nat) : DEnv → Fl := fun ρ => if h : ∃ n, whileN c b fg n (forget fg ρ) ≠ .bad then whileN c b fg h.choose (forget fg ρ) else .bad
theorem sWhile_eq {c : DEnv → R Bool} {b : DEnv → Fl} {fg : List Nat} {n : Nat} {ρ : DEnv} (h : whileN c b fg n (forget fg ρ) ≠ .bad) : sWhile c b fg ρ = whileN c b fg n (forget fg ρ) := by
  unfold sWhile
  have hx : ∃ n, whileN c b fg n (forget fg ρ) ≠ .bad := ⟨n, h⟩
  rw [dif_pos hx]
  rcases Nat.le_total n hx.choose with z | z
  · exact whileN_le c b fg h z
  · exact (whileN_le c b fg hx.choose_spec z).symm
section
variable {X : Cx} {ce : Expr} {body : List Stmt} {c : DEnv → R Bool} {b : DEnv → Fl} {pos : Pos}
theorem ds_while (fg : List Nat) (hp : PassesOwn (model X.prog X.w) X.A X.env X.xe) (hc : DT X ce c) (hb : DSs X body b) : DS X (.While ce body [] pos) (sWhile c b fg) :=
  PS.imp (ps_while hp hc hb) fun D σ H ⟨F0, H0, ρ, vs, xs, s, q⟩ => by
    obtain ⟨n, e⟩ : ∃ n, sWhile c b fg ρ = whileN c b fg n (forget fg ρ) := by
      unfold sWhile
      split
      · exact ⟨_, rfl⟩
      · exact ⟨0, rfl⟩
    rw [e] at q
    refine ⟨fun m σ H => ∃ ρ, Stt X.K F0 H0 H σ ρ vs xs ∧ fpost X F0 H0 vs xs D (whileN c b fg m ρ), ⟨n, _, s.forget, q⟩, ?_⟩
    rintro m σ1 H1 ⟨ρ1, s1, q1⟩
    cases m with
    | zero => exact q1.elim
    | succ m =>
      rw [whileN] at q1
      refine ⟨F0, H0, ρ1, vs, xs, s1, ?_⟩
      cases e1 : c ρ1 with
      | bad => rw [e1] at q1; exact q1
      | exc x ρ2 => rw [e1] at q1; exact q1
      | ok t ρ2 =>
        rw [e1] at q1
        intro H2 s2
        cases t with
        | false => rw [if_neg Bool.false_ne_true]; exact q1 σ1 H2 s2
        | true =>
          rw [if_pos rfl]
          refine ⟨fun σ' H' => ∃ ρ, Stt X.K F0 H0 H' σ' ρ vs xs ∧ fpost X F0 H0 vs xs D (whileN c b fg m ρ), fun σ' H' h => ⟨m, Nat.lt_succ_self _, h⟩, F0, H0, ρ2, vs, xs, s2, ?_⟩
          cases e2 : b ρ2 with
          | nx ρ5 => simp only [e2] at q1; exact fun σ5 H5 s5 => ⟨_, s5.forget, q1⟩
          | ct ρ5 => simp only [e2] at q1; exact fun σ5 H5 s5 => ⟨_, s5.forget, q1⟩
          | bk ρ5 => simp only [e2] at q1; exact fun σ5 H5 s5 => q1 σ5 H5 s5.forget
          | rt y ρ5 => simp only [e2] at q1; exact q1
          | exc y ρ5 => simp only [e2] at q1; exact q1
          | bad => simp only [e2] at q1; exact q1.elim
end

/-! ### comprehensions -/
def comp (g : D → DEnv → Option DEnv) (t : DEnv → R Bool) (f : DEnv → R Val) (own : List Nat) : List D → List Val → DEnv → R Val
  | [], acc, ρ => .ok (.lst acc) ρ
  | d :: ds, acc, ρ => match g d ρ with
    | none => .bad
    | some ρ1 => match t ρ1 with
      | .ok true ρ2 => match f ρ2 with
        | .ok x ρ3 => comp g t f own ds (acc ++ [x]) (forget own ρ3)
        | _ => .bad
      | .ok false ρ2 => comp g t f own ds acc (forget own ρ2)
      | _ => .bad
def sComp (it : DEnv → R (List D)) (g : D → DEnv → Option DEnv) (t : DEnv → R Bool) (f : DEnv → R Val) (own : List Nat) : DEnv → R Val := fun ρ => (it ρ).bind fun ds ρ1 => if ds.length ≤ 10000000 then comp g t f own ds [] (forget own ρ1) else .bad
def sYes : DEnv → R Bool := fun ρ => .ok true ρ
theorem forget_none : ∀ {is : List Nat} {ρ : DEnv} {i : Nat} {x : Val}, (forget is ρ)[i]? = some (some x) → i ∉ is ∧ ρ[i]? = some (some x)
  | [], _, _, _, h => ⟨by simp, h⟩
  | j :: is, ρ, i, x, h => by
    obtain ⟨h1, h2⟩ := forget_none (is := is) h
    by_cases e : j = i
    · subst e
      rw [List.getElem?_set] at h2
      split at h2
      · split at h2 <;> cases h2
      · rename_i z; exact absurd rfl z
    · rw [List.getElem?_set_ne e] at h2
      exact ⟨by simp only [List.mem_cons, not_or]; exact ⟨fun z => e z.symm, h1⟩, h2⟩
theorem wipe_out' {σ : St} {i : Nat} : ∀ {is : List Nat}, i ∉ is → (wipe σ is)[i]? = σ[i]?
  | [], _ => rfl
  | j :: is, h => by
    simp only [List.mem_cons, not_or] at h
    unfold wipe
    rw [List.getElem?_set_ne (fun z => h.1 z.symm)]
    exact wipe_out' h.2
theorem wipe_get {σ : St} {i : Nat} : ∀ {is : List Nat}, i ∈ is → i < σ.length → (wipe σ is)[i]? = some none
  | [], h, _ => by cases h
  | j :: is, h, hl => by
    unfold wipe
    by_cases e : j = i
    · subst e
      rw [List.getElem?_set_self (by rw [wipe_length]; exact hl)]
    · rw [List.getElem?_set_ne e]
      exact wipe_get ((List.mem_cons.mp h).resolve_left fun z => e z.symm) hl
theorem wipe_agree {σ σ' : St} {own : List Nat} (hl : σ'.length = σ.length) (k : ∀ j, j ∉ own → σ'[j]? = (wipe σ own)[j]?) : wipe σ' own = wipe σ own := by
  refine List.ext_getElem? fun j => ?_
  by_cases hj : j ∈ own
  · by_cases hlt : j < σ.length
    · rw [wipe_get hj hlt, wipe_get hj (by rw [hl]; exact hlt)]
    · rw [List.getElem?_eq_none (by rw [wipe_length, hl]; omega), List.getElem?_eq_none (by rw [wipe_length]; omega)]
  · rw [wipe_out' hj, k j hj]
/-- the slots agree where something is told -/
theorem Stt.agree {K : PySem.W.Frag} {F0 H0 H : Hp} {σ σ' : St} {ρ : DEnv} {vs : List V} {xs : List Val} {own : List Nat} (h : Stt K F0 H0 H σ' ρ vs xs) (hl : σ'.length = σ.length) (k : ∀ j, j ∉ own → σ'[j]? = σ[j]?) : Stt K F0 H0 H σ (DL.forget own ρ) vs xs :=
  (h.forget (is := own)).less hl.symm fun i v x e1 e2 => by
    obtain ⟨n, _⟩ := forget_none e2
    rw [← k i n]; exact e1
/-- no exception may come -/
def tEN (K : PySem.W.Frag) (f : DEnv → R Val) : TE := fun σ H Q => ∃ F0 H0 ρ vs xs, Stt K F0 H0 H σ ρ vs xs ∧ match f ρ with
  | .ok x ρ' => ∀ H' v, Stt K F0 H0 H' σ ρ' (v :: vs) (x :: xs) → Q v H'
  | _ => False
def tTN (K : PySem.W.Frag) (f : DEnv → R Bool) : TT := fun σ H Q => ∃ F0 H0 ρ vs xs, Stt K F0 H0 H σ ρ vs xs ∧ match f ρ with
  | .ok b ρ' => ∀ H', Stt K F0 H0 H' σ ρ' vs xs → Q b H'
  | _ => False
theorem tEN_tE {X : Cx} {f : DEnv → R Val} {σ : St} {H : Hp} {Q : VK} (h : tEN X.K f σ H Q) : tE X f σ H Q := by
  obtain ⟨F0, H0, ρ, vs, xs, s, q⟩ := h
  refine ⟨F0, H0, ρ, vs, xs, s, ?_⟩
  cases e : f ρ with
  | ok x ρ' => rw [e] at q; exact q
  | exc x ρ' => rw [e] at q; exact q.elim
  | bad => rw [e] at q; exact q
theorem tTN_tT {X : Cx} {f : DEnv → R Bool} {σ : St} {H : Hp} {Q : Bool → Hp → Prop} (h : tTN X.K f σ H Q) : tT X f σ H Q := by
  obtain ⟨F0, H0, ρ, vs, xs, s, q⟩ := h
  refine ⟨F0, H0, ρ, vs, xs, s, ?_⟩
  cases e : f ρ with
  | ok x ρ' => rw [e] at q; exact q
  | exc x ρ' => rw [e] at q; exact q.elim
  | bad => rw [e] at q; exact q
def DTs (X : Cx) (es : List Expr) (f : DEnv → R Bool) : Prop := PTs X es (tT X f)
theorem dts_nil {X : Cx} : DTs X [] sYes := ⟨fun pins s σ H Q I ⟨F0, H0, ρ, vs, xs, st, q⟩ => pts_nil.run pins s σ H Q I (q H st)⟩
theorem dts_one {X : Cx} {c : Expr} {f : DEnv → R Bool} (h : DT X c f) : DTs X [c] f := pts_one h
section
variable {X : Cx} {elt tg iter : Expr} {ifs : List Expr} {scope : Scope} {own : List (Str × Nat)} {pos spos py : Pos} {fi : DEnv → R (List D)} {g : D → DEnv → Option DEnv} {t : DEnv → R Bool} {f : DEnv → R Val} {is : List Nat}
theorem lc_read (hsub : ∀ j, j ∈ is → j ∈ own.map (·.2)) {σ : St} {H : Hp} {Q : VK} (hq : tE X (sComp fi g t f (own.map (·.2))) σ H Q) :
    tLc (tI X fi) (tG X is g) (tTN X.K t) (tEN X.K f) (own.map (·.2)) σ H Q := by
  obtain ⟨F0, H0, ρ, vs, xs, s, q⟩ := hq
  refine ⟨F0, H0, ρ, vs, xs, s, (post_bind q).imp (fun ds ρ1 q1 F1 H1 J s1 rb wk => ?_) fun _ _ z => z⟩
  intro L nL
  split at q1
  rotate_left
  · exact q1.elim
  rename_i hsz
  have big : ∀ n, n ≤ 10000000 → n < sizeLine := fun n h => by rw [sizeLine_eq]; omega
  refine ⟨fun i m H => m = ds.length - i ∧ i ≤ ds.length ∧ ∃ ρ acc, acc.length ≤ i ∧ Stt X.K F1 H0 H σ ρ (.ref L :: vs) (.lst acc :: xs) ∧ (∃ ρ0, ρ = forget (own.map (·.2)) ρ0) ∧ post X F0 H0 vs xs (fun x ρ' => ∀ H' v, Stt X.K F0 H0 H' σ ρ' (v :: vs) (x :: xs) → Q v H') (comp g t f (own.map (·.2)) (ds.drop i) acc ρ),
    ⟨_, rfl, Nat.zero_le _, _, [], Nat.le_refl _, Stt.newLst (as := []) (bs := []) rfl s1.forget nL, ⟨_, rfl⟩, q1⟩, ?_⟩
  rintro i m H2 ⟨rfl, hi, ρ2, acc, hacc, s2, ⟨ρ0, e0⟩, q2⟩
  obtain ⟨w1, w2⟩ := wk i H2 s2.sub
  by_cases hlt : i < ds.length
  · obtain ⟨go, yl⟩ := w1 ds[i] (List.getElem?_eq_getElem hlt)
    refine .inr ⟨go, fun H' => ∃ ρ acc, acc.length ≤ i + 1 ∧ Stt X.K F1 H0 H' σ ρ (.ref L :: vs) (.lst acc :: xs) ∧ (∃ ρ0, ρ = forget (own.map (·.2)) ρ0) ∧ post X F0 H0 vs xs (fun x ρ' => ∀ H' v, Stt X.K F0 H0 H' σ ρ' (v :: vs) (x :: xs) → Q v H') (comp g t f (own.map (·.2)) (ds.drop (i + 1)) acc ρ),
      fun H' h => ⟨ds.length - (i + 1), by omega, rfl, hlt, h⟩, fun x H' hy => ?_⟩
    have s3 := yl x H' hy H0 _ _ _ _ s2
    -- in the block
    have s4 : Stt X.K F1 H0 H' (wipe σ (own.map (·.2))) ρ2 (x :: .ref L :: vs) (.sh ds[i] :: .lst acc :: xs) := by
      refine s3.less (wipe_length _ _) fun j v y e1 e2 => ?_
      rw [e0] at e2
      rw [wipe_out' (forget_none e2).1]; exact e1
    rw [List.drop_eq_getElem_cons hlt] at q2
    unfold comp at q2
    cases e : g ds[i] ρ2 with
    | none => rw [e] at q2; exact q2.elim
    | some ρ3 =>
      simp only [e] at q2
      refine ⟨F1, H0, ρ2, _, _, ds[i], s4, ρ3, e, fun σ5 H5 l5 k5 s5 => ?_⟩
      rw [wipe_length] at l5
      have k5' : ∀ j, j ∉ own.map (·.2) → σ5[j]? = (wipe σ (own.map (·.2)))[j]? := fun j hj => k5 j fun z => hj (hsub j z)
      refine ⟨wipe_agree l5 k5', F1, H0, ρ3, _, _, s5, ?_⟩
      have k6 : ∀ j, j ∉ own.map (·.2) → σ5[j]? = σ[j]? := fun j hj => (k5' j hj).trans (wipe_out' hj)
      cases e2 : t ρ3 with
      | bad => simp only [e2] at q2; exact q2.elim
      | exc z ρ4 => simp only [e2] at q2; exact q2.elim
      | ok b ρ4 =>
        intro H6 s6
        cases b with
        | false =>
          simp only [e2] at q2
          rw [if_neg Bool.false_ne_true]
          exact ⟨_, acc, by omega, s6.agree l5 k6, ⟨_, rfl⟩, q2⟩
        | true =>
          simp only [e2] at q2
          rw [if_pos rfl]
          refine ⟨F1, H0, ρ4, _, _, s6, ?_⟩
          cases e3 : f ρ4 with
          | bad => simp only [e3] at q2; exact q2.elim
          | exc z ρ5 => simp only [e3] at q2; exact q2.elim
          | ok y ρ5 =>
            simp only [e3] at q2
            intro H7 v7 s7
            obtain ⟨p, ws, ep, h7, hl7, ed⟩ := Stt.editTop (as := [v7]) (bs := [y]) rfl s7
            cases ep
            refine ⟨ws, h7, big _ (by omega), _, acc ++ [y], by simp; omega, (ed (ws ++ [v7]) (acc ++ [y]) [] [] fun F H f hO => ⟨f, [], hO, .nil, by rw [List.append_nil]; exact .refl f⟩).agree l5 k6, ⟨_, rfl⟩, q2⟩
  · have ei : i = ds.length := by omega
    subst ei
    rw [List.drop_length] at q2
    exact .inl ⟨w2 (Nat.le_refl _), q2 H2 _ (rb _ _ _ _ _ s2)⟩
theorem de_comp (hc : X.calm = true) (hN : X.N.Nodup) (hi : DI X tg iter fi) (ok : BlkOk X.N X.env.scope scope own) {os : List Nat} (ho : own.map (·.2) = os) (hsub : ∀ j, j ∈ is → j ∈ os)
    (hg : ∀ (s : Shared) (H : Hp) (C : Addr) (cl : List (Str × Addr)) (fp : List Addr), DG (X.blk s H scope (compEnvC scope cl C X.env) fp) tg is g) (ht : ∀ (s : Shared) (H : Hp) (C : Addr) (cl : List (Str × Addr)) (fp : List Addr), DTs (X.blk s H scope (compEnvC scope cl C X.env) fp) ifs t)
    (he : ∀ (s : Shared) (H : Hp) (C : Addr) (cl : List (Str × Addr)) (fp : List Addr), DE (X.blk s H scope (compEnvC scope cl C X.env) fp) elt f) (hs : ∀ x, foldedSetIterable iter X.env x = pure x := by intro _; rfl) :
    DE X (.ListComp elt [⟨tg, iter, ifs, 0⟩] scope pos) (sComp fi g t f os) := by
  subst ho
  exact PE.imp (pe_lc (g := tG X is g) (tt := tTN X.K t) (te := tEN X.K f) hc hN hi ok hg (fun s H C cl fp => ⟨fun pins s' σ H' Q I q => (ht s H C cl fp).run pins s' σ H' Q I (tTN_tT q)⟩) (fun s H C cl fp => ⟨fun pins s' σ H' Q I q => (he s H C cl fp).run pins s' σ H' Q I (tEN_tE q)⟩) hs) fun σ H Q h => lc_read hsub h
theorem ds_setComp {i : Nat} {y : Str} (hc : X.calm = true) (hN : X.N.Nodup) (hy : X.N[i]? = some y) (hyl : X.env.scope.names.lookup y = some .local)
    (hsw : swapsWith (.ListComp elt [⟨tg, iter, ifs, 0⟩] scope pos) (some (.Name y py)) spos.line X.env = pure true) (hi : DI X tg iter fi) (ok : BlkOk X.N X.env.scope scope own) {os : List Nat} (ho : own.map (·.2) = os) (hsub : ∀ j, j ∈ is → j ∈ os)
    (hg : ∀ (s : Shared) (H : Hp) (C : Addr) (cl : List (Str × Addr)) (fp : List Addr), DG (X.blk s H scope (compEnvC scope cl C X.env) fp) tg is g) (ht : ∀ (s : Shared) (H : Hp) (C : Addr) (cl : List (Str × Addr)) (fp : List Addr), DTs (X.blk s H scope (compEnvC scope cl C X.env) fp) ifs t)
    (he : ∀ (s : Shared) (H : Hp) (C : Addr) (cl : List (Str × Addr)) (fp : List Addr), DE (X.blk s H scope (compEnvC scope cl C X.env) fp) elt f) (hs : ∀ x, foldedSetIterable iter X.env x = pure x := by intro _; rfl) :
    DS X (.Assign [.Name y py] (.ListComp elt [⟨tg, iter, ifs, 0⟩] scope pos) spos) (sSet i (sComp fi g t f os)) := by
  subst ho
  refine PS.imp (ps_setLc (g := tG X is g) (tt := tTN X.K t) (te := tEN X.K f) hc hN hy hyl hsw hi ok hg (fun s H C cl fp => ⟨fun pins s' σ H' Q I q => (ht s H C cl fp).run pins s' σ H' Q I (tTN_tT q)⟩) (fun s H C cl fp => ⟨fun pins s' σ H' Q I q => (he s H C cl fp).run pins s' σ H' Q I (tEN_tE q)⟩) hs) fun D σ H ⟨F0, H0, ρ, vs, xs, s, q⟩ => lc_read hsub ⟨F0, H0, ρ, vs, xs, s, (post_fl q).imp (fun x ρ1 q1 H1 v s1 => ?_) fun _ _ z => z⟩
  split at q1
  · exact q1 _ _ (s1.store (by assumption))
  · exact q1.elim
end
end DL

/-! DLe: operators, built-ins, what is one's own. -/
namespace DL
open PySem PySem.Spec L2

/-! ### several rules for one operator -/
def orG (g g' : D → D → Option Val) : D → D → Option Val := fun d e => match g d e with
  | some x => some x
  | none => g' d e
theorem OpD.or {X : Cx} {r r' : R2} {g g' : D → D → Option Val} (h : OpD X r g) (h' : OpD X r' g') : OpD X (fun x y H Q => r x y H Q ∨ r' x y H Q) (orG g g') := fun F0 H0 H σ ρ vs xs v w d e Q s ⟨x, hx, q⟩ => by
  unfold orG at hx
  cases e1 : g d e with
  | some y =>
    rw [e1] at hx
    cases hx
    exact .inl (h F0 H0 H σ ρ vs xs v w d e Q s ⟨_, e1, q⟩)
  | none =>
    rw [e1] at hx
    exact .inr (h' F0 H0 H σ ρ vs xs v w d e Q s ⟨x, hx, q⟩)
section
variable {X : Cx} {K : PySem.W.Frag} {F0 H0 H : Hp} {σ : St} {ρ : DEnv} {vs : List V} {xs : List Val} {v w : V} {d e : D}
theorem Stt.two (s : Stt K F0 H0 H σ ρ (w :: v :: vs) (.sh e :: .sh d :: xs)) : ∃ F, Same F H ∧ At K F v d ∧ At K F w e ∧ (∀ as' ds', Ats K F as' ds' → Stt K F0 H0 H σ ρ (as' ++ vs) (ds'.map .sh ++ xs)) := by
  obtain ⟨F, hF, hA, t⟩ := Stt.reads (as := [w, v]) (ds := [e, d]) rfl s
  cases hA with
  | cons a b =>
    cases b with
    | cons b _ => exact ⟨F, hF, b, a, t⟩
theorem Stt.oneT (s : Stt K F0 H0 H σ ρ (v :: vs) (.sh d :: xs)) : ∃ F, Same F H ∧ At K F v d ∧ (∀ as' ds', Ats K F as' ds' → Stt K F0 H0 H σ ρ (as' ++ vs) (ds'.map .sh ++ xs)) := by
  obtain ⟨F, hF, hA, t⟩ := Stt.reads (as := [v]) (ds := [d]) rfl s
  cases hA with
  | cons a _ => exact ⟨F, hF, a, t⟩
/-- two ints -/
theorem opd_I {C : Int → Int → Prop} [∀ i j, Decidable (C i j)] {f : Int → Int → D} {fv : Int → Int → V} (hf : ∀ F i j, At X.K F (fv i j) (f i j)) :
    OpD X (rI C fv) (fun d e => match d, e with
      | .int i, .int j => if C i j then some (.sh (f i j)) else none
      | _, _ => none) := fun F0 H0 H σ ρ vs xs v w d e Q s ⟨x, hx, q⟩ => by
  obtain ⟨F, hF, a, b, t⟩ := s.two
  match d, e, a, b, hx with
  | .int i, .int j, .int _, .int _, hx =>
    dsimp only at hx
    by_cases hc : C i j
    · rw [if_pos hc] at hx
      cases hx
      exact ⟨i, j, rfl, rfl, hc, q H _ (s.pop.pop.scal fun F => hf F i j)⟩
    · rw [if_neg hc] at hx; cases hx
theorem opd_I0 {f : Int → Int → D} {fv : Int → Int → V} (hf : ∀ F i j, At X.K F (fv i j) (f i j)) :
    OpD X (rI0 fv) (fun d e => match d, e with
      | .int i, .int j => some (.sh (f i j))
      | _, _ => none) := fun F0 H0 H σ ρ vs xs v w d e Q s ⟨x, hx, q⟩ => by
  obtain ⟨F, hF, a, b, t⟩ := s.two
  match d, e, a, b, hx with
  | .int i, .int j, .int _, .int _, hx =>
    cases hx
    exact ⟨i, j, rfl, rfl, q H _ (s.pop.pop.scal fun F => hf F i j)⟩
end

/-! ### arithmetic -/
def addI : D → D → Option Val := fun d e => match d, e with
  | .int i, .int j => some (.sh (.int (i + j)))
  | _, _ => none
def addS : D → D → Option Val := fun d e => match d, e with
  | .str i, .str j => if i.length + j.length ≤ 10000000 then some (.sh (.str (i ++ j))) else none
  | _, _ => none
def addL : D → D → Option Val := fun d e => match d, e with
  | .lst i, .lst j => if i.length + j.length ≤ 10000000 then some (.lst ((i ++ j).map .sh)) else none
  | _, _ => none
def addT : D → D → Option Val := fun d e => match d, e with
  | .tup (i :: is), .tup j => if (i :: is).length + j.length ≤ 10000000 then some (.sh (.tup (i :: is ++ j))) else none
  | _, _ => none
def addD : D → D → Option Val := orG addI (orG addS (orG addL addT))
theorem sz_of {n : Nat} (h : n ≤ 10000000) : n ≤ sizeLine := by rw [sizeLine_eq]; omega
section
variable {X : Cx}
theorem op_addD : ∃ r, OpR X (binaryOp .Add) r ∧ OpD X r addD := by
  refine ⟨_, op_add.or (op_add_str.or (op_cat.or op_catT)), (opd_I0 fun F i j => .int _).or (OpD.or ?_ (OpD.or ?_ ?_))⟩
  · intro F0 H0 H σ ρ vs xs v w d e Q s ⟨x, hx, q⟩
    obtain ⟨F, hF, a, b, t⟩ := s.two
    match d, e, a, b, hx with
    | .str i, .str j, .str _, .str _, hx =>
      have hx : (if i.length + j.length ≤ 10000000 then some (Val.sh (.str (i ++ j))) else none) = some x := hx
      by_cases hc : i.length + j.length ≤ 10000000
      · rw [if_pos hc] at hx
        cases hx
        exact ⟨i, j, rfl, rfl, sz_of hc, q H _ (s.pop.pop.scal fun F => .str _)⟩
      · rw [if_neg hc] at hx; cases hx
  · intro F0 H0 H σ ρ vs xs v w d e Q s ⟨x, hx, q⟩
    obtain ⟨F, hF, a, b, t⟩ := s.two
    match d, e, a, b, hx with
    | .lst i, .lst j, .lst (vs := us) h1 k1, .lst (vs := ws) h2 k2, hx =>
      have hx : (if i.length + j.length ≤ 10000000 then some (Val.lst ((i ++ j).map .sh)) else none) = some x := hx
      by_cases hc : i.length + j.length ≤ 10000000
      · rw [if_pos hc] at hx
        cases hx
        refine ⟨_, _, us, ws, rfl, rfl, hF _ _ h1, hF _ _ h2, by rw [k1.length, k2.length]; exact sz_of hc, fun p np => q _ _ ?_⟩
        exact Stt.newLst (by simp [k1.length, k2.length]) (t (us ++ ws) (i ++ j) (k1.append k2)) np
      · rw [if_neg hc] at hx; cases hx
  · intro F0 H0 H σ ρ vs xs v w d e Q s ⟨x, hx, q⟩
    obtain ⟨F, hF, a, b, t⟩ := s.two
    match d, e, a, b, hx with
    | .tup (i :: is), .tup j, .tup (vs := us) h1 k1, .tup (vs := ws) h2 k2, hx =>
      have hx : (if (i :: is).length + j.length ≤ 10000000 then some (Val.sh (.tup (i :: is ++ j))) else none) = some x := hx
      by_cases hc : (i :: is).length + j.length ≤ 10000000
      · rw [if_pos hc] at hx
        cases hx
        refine ⟨_, _, us, ws, rfl, rfl, sameT hF h1, sameT hF h2, (fun z => by subst z; cases k1), (by rw [k1.length, k2.length]; exact sz_of hc), fun z => ?_, fun z p np => q _ _ ?_⟩
        · subst z
          cases k2
          exact q _ _ (by rw [List.append_nil]; exact s.pop)
        · exact Stt.newTup (by simp [k1.length, k2.length]; omega) (t (us ++ ws) (i :: is ++ j) (k1.append k2)) np
      · rw [if_neg hc] at hx; cases hx
theorem de_add {a b : Expr} {fa fb : DEnv → R Val} {pos : Pos} (ha : DE X a fa) (hb : DE X b fb) : DE X (.BinOp a .Add b pos) (sOp addD fa fb) := let ⟨_, h1, h2⟩ := op_addD; de_op h1 h2 ha hb
end
def subD : D → D → Option Val := fun d e => match d, e with
  | .int i, .int j => some (.sh (.int (i - j)))
  | _, _ => none
def mulOk (i j : Int) : Prop := (-(2 ^ 64) < i ∧ i < 2 ^ 64) ∨ (-(2 ^ 64) < j ∧ j < 2 ^ 64) ∨ i.natAbs.log2 + j.natAbs.log2 < 1000000
theorem mulOk.ok {i j : Int} (h : mulOk i j) : PySem.IntMulOk i j := by
  rcases h with h | h | h
  · exact CMul.ok (.inl h)
  · exact CMul.ok (.inr h)
  · exact CMulW.ok h
instance (i j : Int) : Decidable (mulOk i j) := by unfold mulOk; infer_instance
def mulI : D → D → Option Val := fun d e => match d, e with
  | .int i, .int j => if mulOk i j then some (.sh (.int (i * j))) else none
  | _, _ => none
def mulL : D → D → Option Val := fun d e => match d, e with
  | .lst i, .int j => if i.length * j.toNat ≤ 10000000 ∧ j < 2 ^ 62 ∧ -(2 ^ 62) ≤ j then some (.lst ((List.replicate j.toNat i).flatten.map .sh)) else none
  | _, _ => none
def mulD : D → D → Option Val := orG mulI mulL
def divOk (j : Int) : Prop := j ≠ 0 ∧ j.natAbs.log2 < 9000
instance (j : Int) : Decidable (divOk j) := by unfold divOk; infer_instance
def fdivD : D → D → Option Val := fun d e => match d, e with
  | .int i, .int j => if divOk j then some (.sh (.int (i.fdiv j))) else none
  | _, _ => none
def modD : D → D → Option Val := fun d e => match d, e with
  | .int i, .int j => if j ≠ 0 then some (.sh (.int (i.fmod j))) else none
  | _, _ => none
instance (i j : Int) : Decidable (CPow i j) := by unfold CPow; infer_instance
def powD : D → D → Option Val := fun d e => match d, e with
  | .int i, .int j => if CPow i j then some (.sh (.int (i ^ j.toNat))) else none
  | _, _ => none
def shlD : D → D → Option Val := fun d e => match d, e with
  | .int i, .int j => if CPow i j then some (.sh (.int (i * 2 ^ j.toNat))) else none
  | _, _ => none
def shrD : D → D → Option Val := fun d e => match d, e with
  | .int i, .int j => if 0 ≤ j then some (.sh (.int (i / 2 ^ j.toNat))) else none
  | _, _ => none
def andD : D → D → Option Val := fun d e => match d, e with
  | .int i, .int j => some (.sh (.int (Builtin.bitAnd i j)))
  | _, _ => none
def orD : D → D → Option Val := fun d e => match d, e with
  | .int i, .int j => some (.sh (.int (Builtin.bitOr i j)))
  | _, _ => none
def negD : D → Option Val := fun d => match d with
  | .int i => some (.sh (.int (-i)))
  | _ => none
theorem flat_ats {K : PySem.W.Frag} {F : Hp} {us : List V} {i : List D} (h : Ats K F us i) : ∀ n, Ats K F (List.replicate n us).flatten (List.replicate n i).flatten
  | 0 => .nil
  | n + 1 => by
    rw [List.replicate_succ, List.replicate_succ, List.flatten_cons, List.flatten_cons]
    exact h.append (flat_ats h n)
section
variable {X : Cx} {a b : Expr} {fa fb : DEnv → R Val} {pos : Pos}
theorem op_fdivA : OpR X (binaryOp .FloorDiv) (rI (fun _ j => divOk j) fun i j => .int (i.fdiv j)) := opI fun _ _ _ _ _ _ _ hc q => PyProof.Rows.floordiv_int hc.1 q (.inl (PyProof.noPylong_of_log2 hc.2))
theorem op_mulA : OpR X (binaryOp .Mult) (rI mulOk fun i j => .int (i * j)) := opI fun _ _ _ _ _ _ _ hc q => PyProof.Rows.mul_int q hc.ok
theorem de_sub (ha : DE X a fa) (hb : DE X b fb) : DE X (.BinOp a .Sub b pos) (sOp subD fa fb) := de_op op_sub (opd_I0 fun F i j => .int _) ha hb
theorem op_mulD : ∃ r, OpR X (binaryOp .Mult) r ∧ OpD X r mulD := by
  refine ⟨_, op_mulA.or op_rep, (opd_I fun F i j => .int _).or ?_⟩
  intro F0 H0 H σ ρ vs xs v w d e Q s ⟨x, hx, q⟩
  obtain ⟨F, hF, a, b, t⟩ := s.two
  match d, e, a, b, hx with
  | .lst i, .int j, .lst (vs := us) h1 k1, .int _, hx =>
    have hx : (if i.length * j.toNat ≤ 10000000 ∧ j < 2 ^ 62 ∧ -(2 ^ 62) ≤ j then some (Val.lst ((List.replicate j.toNat i).flatten.map .sh)) else none) = some x := hx
    split at hx
    · rename_i hc
      cases hx
      refine ⟨_, j, us, rfl, rfl, hF _ _ h1, by omega, by omega, by rw [k1.length]; exact sz_of hc.1, fun p np => q _ _ ?_⟩
      have k := flat_ats k1 j.toNat
      exact Stt.newLst (by simp [k.length]) (t _ _ k) np
    · cases hx
theorem de_mul (ha : DE X a fa) (hb : DE X b fb) : DE X (.BinOp a .Mult b pos) (sOp mulD fa fb) := let ⟨_, h1, h2⟩ := op_mulD; de_op h1 h2 ha hb
theorem de_fdiv (ha : DE X a fa) (hb : DE X b fb) : DE X (.BinOp a .FloorDiv b pos) (sOp fdivD fa fb) := de_op op_fdivA (opd_I (C := fun _ j => divOk j) fun F i j => .int _) ha hb
theorem de_mod (ha : DE X a fa) (hb : DE X b fb) : DE X (.BinOp a .Mod b pos) (sOp modD fa fb) := de_op op_modN (opd_I (C := fun _ j => j ≠ 0) fun F i j => .int _) ha hb
theorem de_pow (ha : DE X a fa) (hb : DE X b fb) : DE X (.BinOp a .Pow b pos) (sOp powD fa fb) := de_op op_pow (opd_I fun F i j => .int _) ha hb
theorem de_shl (ha : DE X a fa) (hb : DE X b fb) : DE X (.BinOp a .LShift b pos) (sOp shlD fa fb) := de_op op_shl (opd_I fun F i j => .int _) ha hb
theorem de_shr (ha : DE X a fa) (hb : DE X b fb) : DE X (.BinOp a .RShift b pos) (sOp shrD fa fb) := de_op op_shr (opd_I (C := fun _ j => 0 ≤ j) fun F i j => .int _) ha hb
theorem de_band (ha : DE X a fa) (hb : DE X b fb) : DE X (.BinOp a .BitAnd b pos) (sOp andD fa fb) := de_op op_and (opd_I0 fun F i j => .int _) ha hb
theorem de_bor (ha : DE X a fa) (hb : DE X b fb) : DE X (.BinOp a .BitOr b pos) (sOp orD fa fb) := de_op op_or (opd_I0 fun F i j => .int _) ha hb
theorem de_neg (ha : DE X a fa) : DE X (.UnaryOp .USub a pos) (sUn negD fa) := de_un un_neg (fun F0 H0 H σ ρ vs xs v d Q s ⟨x, hx, q⟩ => by
  obtain ⟨F, hF, a, t⟩ := s.oneT
  match d, a, hx with
  | .int i, .int _, hx =>
    cases hx
    exact ⟨i, rfl, q H _ (s.pop.scal fun F => .int _)⟩) ha
end

/-! ### comparisons -/
def ltD : D → D → Option Val := fun d e => match d, e with
  | .int i, .int j => some (.sh (.bl (decide (i < j))))
  | _, _ => none
def leD : D → D → Option Val := fun d e => match d, e with
  | .int i, .int j => some (.sh (.bl (decide (i ≤ j))))
  | _, _ => none
def gtD : D → D → Option Val := fun d e => match d, e with
  | .int i, .int j => some (.sh (.bl (decide (j < i))))
  | _, _ => none
def geD : D → D → Option Val := fun d e => match d, e with
  | .int i, .int j => some (.sh (.bl (decide (j ≤ i))))
  | _, _ => none
mutual
def D.py : D → PyData
  | .non => .none
  | .bl b => .bool b
  | .int i => .int i
  | .str x => .str x
  | .lst xs => .list (pys xs)
  | .scr xs => .list (pys xs)
  | .tup xs => .tuple (pys xs)
  | .ins _ _ _ => .dict []
  | .junk => .dict []
  | .exn _ _ _ _ => .dict []
  | .dct _ _ => .dict []
def pys : List D → List PyData
  | [] => []
  | x :: xs => x.py :: pys xs
end
/-- data without objects, at most so deep -/
def D.ok : Nat → D → Bool
  | _, .non => true
  | _, .bl _ => true
  | _, .int _ => true
  | _, .str _ => true
  | k + 1, .lst xs => xs.all (D.ok k)
  | k + 1, .scr xs => xs.all (D.ok k)
  | k + 1, .tup xs => xs.all (D.ok k)
  | _, _ => false
def D.eqv (d e : D) : Bool := PyData.eqv d.py e.py
def eqvs (d e : List D) : Bool := PyData.eqvAll (pys d) (pys e)
def eqD : D → D → Option Val := fun d e => if d.ok 20 && e.ok 20 then some (.sh (.bl (d.eqv e))) else none
def neD : D → D → Option Val := fun d e => if d.ok 20 && e.ok 20 then some (.sh (.bl (!d.eqv e))) else none
theorem py_ok : ∀ (k : Nat) (d : D), d.ok k = true → d.py.plain = true ∧ d.py.depth ≤ k := by
  intro k
  induction k with
  | zero =>
    intro d h
    cases d with
    | non => exact ⟨by simp [D.py, PyData.plain], by simp [D.py, PyData.depth]⟩
    | bl b => exact ⟨by simp [D.py, PyData.plain], by simp [D.py, PyData.depth]⟩
    | int i => exact ⟨by simp [D.py, PyData.plain], by simp [D.py, PyData.depth]⟩
    | str x => exact ⟨by simp [D.py, PyData.plain], by simp [D.py, PyData.depth]⟩
    | lst xs => simp [D.ok] at h
    | scr xs => simp [D.ok] at h
    | tup xs => simp [D.ok] at h
    | ins _ _ _ => simp [D.ok] at h
    | junk => simp [D.ok] at h
    | exn _ _ _ _ => simp [D.ok] at h
    | dct => simp [D.ok] at h
  | succ k ih =>
    have all : ∀ xs : List D, xs.all (D.ok k) = true → PyData.plainAll (pys xs) = true ∧ PyData.depthAll (pys xs) ≤ k := by
      intro xs
      induction xs with
      | nil => intro _; exact ⟨by simp [pys, PyData.plainAll], by simp [pys, PyData.depthAll]⟩
      | cons x xs ih2 =>
        intro h
        rw [List.all_cons, Bool.and_eq_true] at h
        obtain ⟨h1, h2⟩ := ih x h.1
        obtain ⟨h3, h4⟩ := ih2 h.2
        exact ⟨by simp [pys, PyData.plainAll, h1, h3], by simp only [pys, PyData.depthAll]; omega⟩
    intro d h
    cases d with
    | non => exact ⟨by simp [D.py, PyData.plain], by simp [D.py, PyData.depth]⟩
    | bl b => exact ⟨by simp [D.py, PyData.plain], by simp [D.py, PyData.depth]⟩
    | int i => exact ⟨by simp [D.py, PyData.plain], by simp [D.py, PyData.depth]⟩
    | str x => exact ⟨by simp [D.py, PyData.plain], by simp [D.py, PyData.depth]⟩
    | lst xs =>
      obtain ⟨h1, h2⟩ := all xs h
      exact ⟨by simp only [D.py, PyData.plain, h1], by simp only [D.py, PyData.depth]; omega⟩
    | scr xs =>
      obtain ⟨h1, h2⟩ := all xs h
      exact ⟨by simp only [D.py, PyData.plain, h1], by simp only [D.py, PyData.depth]; omega⟩
    | tup xs =>
      obtain ⟨h1, h2⟩ := all xs h
      exact ⟨by simp only [D.py, PyData.plain, h1], by simp only [D.py, PyData.depth]; omega⟩
    | ins _ _ _ => simp [D.ok] at h
    | junk => simp [D.ok] at h
    | exn _ _ _ _ => simp [D.ok] at h
    | dct => simp [D.ok] at h
theorem at_dp {K : PySem.W.Frag} {F H : Hp} (e : Same F H) : ∀ (k : Nat) (d : D) (v : V), d.ok k = true → At K F v d → Dp K H v d.py := by
  intro k
  induction k with
  | zero =>
    intro d v h a
    cases a with
    | non => rw [D.py]; exact .non
    | bl b => rw [D.py]; exact .bl b
    | int i => rw [D.py]; exact .int i
    | str x => rw [D.py]; exact .str x
    | lst _ _ => simp [D.ok] at h
    | scr _ _ => simp [D.ok] at h
    | tup _ _ => simp [D.ok] at h
    | ins _ _ _ => simp [D.ok] at h
    | junk => simp [D.ok] at h
    | exn _ _ _ _ => simp [D.ok] at h
    | dct => simp [D.ok] at h
  | succ k ih =>
    have all : ∀ (xs : List D) (vs : List V), xs.all (D.ok k) = true → Ats K F vs xs → DpAll K H vs (pys xs) := by
      intro xs
      induction xs with
      | nil => intro vs _ a; cases a; rw [pys]; exact .nil
      | cons x xs ih2 =>
        intro vs h a
        rw [List.all_cons, Bool.and_eq_true] at h
        cases a with
        | cons a b => rw [pys]; exact .cons (ih _ _ h.1 a) (ih2 _ h.2 b)
    intro d v h a
    cases a with
    | non => rw [D.py]; exact .non
    | bl b => rw [D.py]; exact .bl b
    | int i => rw [D.py]; exact .int i
    | str x => rw [D.py]; exact .str x
    | lst h1 h2 => rw [D.py]; exact .lst (e.seq (.of h1)) (all _ _ h h2)
    | scr h1 h2 => rw [D.py]; exact .lst (e.seq h1) (all _ _ h h2)
    | tup h1 h2 => rw [D.py]; exact .tup (sameT e h1) (all _ _ h h2)
    | ins _ _ _ => simp [D.ok] at h
    | junk => simp [D.ok] at h
    | exn _ _ _ _ => simp [D.ok] at h
    | dct => simp [D.ok] at h
def rEqP (K : PySem.W.Frag) (n : Bool) : R2 := fun x y H Q => ∃ d e, Dp K H x d ∧ Dp K H y e ∧ d.plain = true ∧ e.plain = true ∧ d.depth ≤ 20 ∧ Q (.bl (n != PyData.eqv d e)) H
section
variable {X : Cx} {a b : Expr} {fa fb : DEnv → R Val} {pos : Pos}
theorem op_eqP (hu : X.A.units + 64 < cLine) : OpR X (compareOp .Eq) (rEqP X.K false) := by
  intro pins s σ H x y v u Q I rx ry h
  obtain ⟨d, e, hd, he, sd, se, dd, q⟩ := h
  obtain ⟨as, r1⟩ := Dp.reads I d x v hd rx
  obtain ⟨bs, r2⟩ := Dp.reads I e y u he ry
  have hm : min d.depth e.depth ≤ d.depth := Nat.min_le_left _ _
  exact PySem.SeqAt.eq_plain r1 r2 sd se (by omega) ⟨.bl _, H, I, rfl, by simpa using q⟩
theorem op_neP (hu : X.A.units + 64 < cLine) : OpR X (compareOp .NotEq) (rEqP X.K true) := by
  intro pins s σ H x y v u Q I rx ry h
  obtain ⟨d, e, hd, he, sd, se, dd, q⟩ := h
  obtain ⟨as, r1⟩ := Dp.reads I d x v hd rx
  obtain ⟨bs, r2⟩ := Dp.reads I e y u he ry
  have hm : min d.depth e.depth ≤ d.depth := Nat.min_le_left _ _
  exact PySem.SeqAt.ne_plain r1 r2 sd se (by omega) ⟨.bl _, H, I, rfl, by simpa using q⟩
theorem opd_eq : OpD X (rEqP X.K false) eqD := fun F0 H0 H σ ρ vs xs v w d e Q s ⟨x, hx, q⟩ => by
  obtain ⟨F, hF, a, b, t⟩ := s.two
  unfold eqD at hx
  split at hx
  · rename_i hc
    rw [Bool.and_eq_true] at hc
    cases hx
    obtain ⟨p1, p2⟩ := py_ok _ _ hc.1
    obtain ⟨p3, _⟩ := py_ok _ _ hc.2
    exact ⟨_, _, at_dp hF _ _ _ hc.1 a, at_dp hF _ _ _ hc.2 b, p1, p3, p2, q H _ (s.pop.pop.scal fun F => by
      have e : (false != PyData.eqv d.py e.py) = D.eqv d e := by unfold D.eqv; cases PyData.eqv d.py e.py <;> rfl
      rw [e]; exact .bl _)⟩
  · cases hx
theorem opd_ne : OpD X (rEqP X.K true) neD := fun F0 H0 H σ ρ vs xs v w d e Q s ⟨x, hx, q⟩ => by
  obtain ⟨F, hF, a, b, t⟩ := s.two
  unfold neD at hx
  split at hx
  · rename_i hc
    rw [Bool.and_eq_true] at hc
    cases hx
    obtain ⟨p1, p2⟩ := py_ok _ _ hc.1
    obtain ⟨p3, _⟩ := py_ok _ _ hc.2
    exact ⟨_, _, at_dp hF _ _ _ hc.1 a, at_dp hF _ _ _ hc.2 b, p1, p3, p2, q H _ (s.pop.pop.scal fun F => by
      have e : (true != PyData.eqv d.py e.py) = !D.eqv d e := by unfold D.eqv; cases PyData.eqv d.py e.py <;> rfl
      rw [e]; exact .bl _)⟩
  · cases hx
def isND (n : Bool) : D → Option Val := fun d => some (.sh (.bl (n != match d with | .non => true | _ => false)))
theorem at_non {K : PySem.W.Frag} {F : Hp} {v : V} {d : D} (a : At K F v d) : decide (v = .non) = match d with | .non => true | _ => false := by
  cases a <;> simp
end
/-! the rules by name: as values, as tests -/
section
variable {X : Cx} {a b : Expr} {fa fb : DEnv → R Val} {pos : Pos}
theorem de_eq (hu : X.A.units + 64 < cLine) (ha : DE X a fa) (hb : DE X b fb) : DE X (.Compare a [.Eq] [b] pos) (sOp eqD fa fb) := de_cmp (op_eqP hu) opd_eq ha hb (nomark _)
theorem de_ne (hu : X.A.units + 64 < cLine) (ha : DE X a fa) (hb : DE X b fb) : DE X (.Compare a [.NotEq] [b] pos) (sOp neD fa fb) := de_cmp (op_neP hu) opd_ne ha hb (nomark _)
theorem de_lt (ha : DE X a fa) (hb : DE X b fb) : DE X (.Compare a [.Lt] [b] pos) (sOp ltD fa fb) := de_cmp op_lt (opd_I0 fun F i j => .bl _) ha hb (nomark _)
theorem de_le (ha : DE X a fa) (hb : DE X b fb) : DE X (.Compare a [.LtE] [b] pos) (sOp leD fa fb) := de_cmp op_le (opd_I0 fun F i j => .bl _) ha hb (nomark _)
theorem de_gt (ha : DE X a fa) (hb : DE X b fb) : DE X (.Compare a [.Gt] [b] pos) (sOp gtD fa fb) := de_cmp op_gt (opd_I0 fun F i j => .bl _) ha hb (nomark _)
theorem de_ge (ha : DE X a fa) (hb : DE X b fb) : DE X (.Compare a [.GtE] [b] pos) (sOp geD fa fb) := de_cmp op_ge (opd_I0 fun F i j => .bl _) ha hb (nomark _)
theorem dt_eq (hu : X.A.units + 64 < cLine) (ha : DE X a fa) (hb : DE X b fb) : DT X (.Compare a [.Eq] [b] pos) (sTst (sOp eqD fa fb)) := dt_cmp (op_eqP hu) opd_eq ha hb (nomark _)
theorem dt_ne (hu : X.A.units + 64 < cLine) (ha : DE X a fa) (hb : DE X b fb) : DT X (.Compare a [.NotEq] [b] pos) (sTst (sOp neD fa fb)) := dt_cmp (op_neP hu) opd_ne ha hb (nomark _)
theorem dt_lt (ha : DE X a fa) (hb : DE X b fb) : DT X (.Compare a [.Lt] [b] pos) (sTst (sOp ltD fa fb)) := dt_cmp op_lt (opd_I0 fun F i j => .bl _) ha hb (nomark _)
theorem dt_le (ha : DE X a fa) (hb : DE X b fb) : DT X (.Compare a [.LtE] [b] pos) (sTst (sOp leD fa fb)) := dt_cmp op_le (opd_I0 fun F i j => .bl _) ha hb (nomark _)
theorem dt_gt (ha : DE X a fa) (hb : DE X b fb) : DT X (.Compare a [.Gt] [b] pos) (sTst (sOp gtD fa fb)) := dt_cmp op_gt (opd_I0 fun F i j => .bl _) ha hb (nomark _)
theorem dt_ge (ha : DE X a fa) (hb : DE X b fb) : DT X (.Compare a [.GtE] [b] pos) (sTst (sOp geD fa fb)) := dt_cmp op_ge (opd_I0 fun F i j => .bl _) ha hb (nomark _)
theorem tE_un {r : V → Hp → VK → Prop} {g : D → Option Val} (hg : UnD X r g) {σ : L2.St} {H : Hp} {Q : VK} (h : tE X (sUn g fa) σ H Q) : tE X fa σ H (fun x H1 => r x H1 Q) := by
  obtain ⟨F0, H0, ρ, vs, xs, s, q⟩ := h
  refine ⟨F0, H0, ρ, vs, xs, s, (post_bind q).imp (fun x ρ1 q1 H1 v s1 => ?_) fun _ _ z => z⟩
  refine hg F0 H0 H1 σ ρ1 vs xs v x.fz Q s1.fz ?_
  cases e : g x.fz with
  | none => rw [e] at q1; exact q1.elim
  | some z => rw [e] at q1; exact ⟨z, rfl, q1⟩
theorem und_isN : UnD X (fun x H Q => Q (.bl (decide (x = .non))) H) (isND false) := fun F0 H0 H σ ρ vs xs v d Q s ⟨x, hx, q⟩ => by
  obtain ⟨F, hF, a, t⟩ := s.oneT
  cases hx
  exact q H _ (s.pop.scal fun F => by rw [at_non a]; cases d <;> exact .bl _)
theorem und_notN : UnD X (fun x H Q => Q (.bl (!decide (x = .non))) H) (isND true) := fun F0 H0 H σ ρ vs xs v d Q s ⟨x, hx, q⟩ => by
  obtain ⟨F, hF, a, t⟩ := s.oneT
  cases hx
  exact q H _ (s.pop.scal fun F => by rw [at_non a]; cases d <;> exact .bl _)
theorem de_isN {j pos'} (ha : DE X a fa) : DE X (.Compare a [.Is] [.Constant .none j pos'] pos) (sUn (isND false) fa) :=
  PE.imp (pe_cmp (pc_isN ha) (nobehind _ (by decide) (by decide))) fun σ H Q h => tE_un und_isN h
theorem de_notN {j pos'} (ha : DE X a fa) : DE X (.Compare a [.IsNot] [.Constant .none j pos'] pos) (sUn (isND true) fa) :=
  PE.imp (pe_cmp (pc_notN ha) (nobehind _ (by decide) (by decide))) fun σ H Q h => tE_un und_notN h
theorem dt_isN {j pos'} (ha : DE X a fa) : DT X (.Compare a [.Is] [.Constant .none j pos'] pos) (sTst (sUn (isND false) fa)) :=
  PT.imp (pt_cmp (pc_isN ha) (nobehind _ (by decide) (by decide))) fun σ H Q h => tE_un und_isN (tB_of h)
theorem dt_notN {j pos'} (ha : DE X a fa) : DT X (.Compare a [.IsNot] [.Constant .none j pos'] pos) (sTst (sUn (isND true) fa)) :=
  PT.imp (pt_cmp (pc_notN ha) (nobehind _ (by decide) (by decide))) fun σ H Q h => tE_un und_notN (tB_of h)
end

/-! ### chains -/
def sChain (g g' : D → D → Option Val) (fa fb fc : DEnv → R Val) : DEnv → R Val := fun ρ => (fa ρ).bind fun x ρ1 => (fb ρ1).bind fun y ρ2 => (liftO (g x.fz y.fz) ρ2).bind fun z ρ3 => (liftB (asB z.fz) ρ3).bind fun k ρ4 =>
  if k = true then (fc ρ4).bind fun u ρ5 => liftO (g' y.fz u.fz) ρ5 else .ok (.sh (.bl false)) ρ4
section
variable {X : Cx} {a b c : Expr} {fa fb fc : DEnv → R Val} {pos : Pos} {op op' : CmpOp} {f f' : Int → Int → Bool}
def gI (f : Int → Int → Bool) : D → D → Option Val := fun d e => match d, e with
  | .int i, .int j => some (.sh (.bl (f i j)))
  | _, _ => none
theorem tE_chain {σ : L2.St} {H : Hp} {Q : VK} (h : tE X (sChain (gI f) (gI f') fa fb fc) σ H Q) : tChain (rI0 fun i j => .bl (f i j)) (rI0 fun i j => .bl (f' i j)) (tE X fa) (tE X fb) (tE X fc) σ H Q := by
  obtain ⟨F0, H0, ρ, vs, xs, s, q⟩ := h
  refine ⟨F0, H0, ρ, vs, xs, s, (post_bind q).imp (fun x ρ1 q1 H1 v s1 => ?_) fun _ _ z => z⟩
  refine ⟨F0, H0, ρ1, _, _, s1, (post_bind q1).imp (fun y ρ2 q2 H2 w s2 => ?_) fun _ _ z => z.more⟩
  obtain ⟨F, hF, a1, b1, t⟩ := s2.fz2.two
  match hx : x.fz, hy : y.fz, a1, b1, q2 with
  | .int i, .int j, .int _, .int _, q2 =>
    refine ⟨i, j, rfl, rfl, f i j, rfl, ?_⟩
    have q3 : post X F0 H0 vs xs (fun x ρ' => ∀ H' v, Stt X.K F0 H0 H' σ ρ' (v :: vs) (x :: xs) → Q v H') (if f i j = true then (fc ρ2).bind fun u ρ5 => liftO (gI f' (.int j) u.fz) ρ5 else .ok (.sh (.bl false)) ρ2) := q2
    split at q3
    · rename_i hk
      rw [if_pos hk]
      have s3 : Stt X.K F0 H0 H2 σ ρ2 (V.int j :: vs) (.sh (.int j) :: xs) := s2.pop.pop.scal fun _ => .int j
      refine ⟨F0, H0, ρ2, _, _, s3, (post_bind q3).imp (fun u ρ5 q5 H5 w5 s5 => ?_) fun _ _ z => z.more⟩
      obtain ⟨F', hF', a2, b2, t2⟩ := s5.fz.two
      match hu : u.fz, b2, q5 with
      | .int m, .int _, q5 =>
        exact ⟨j, m, rfl, rfl, q5 H5 _ (s5.pop.pop.scal fun _ => .bl _)⟩
      | .non, _, q5 => exact q5.elim
      | .bl _, _, q5 => exact q5.elim
      | .str _, _, q5 => exact q5.elim
      | .lst _, _, q5 => exact q5.elim
      | .scr _, _, q5 => exact q5.elim
      | .tup _, _, q5 => exact q5.elim
      | .ins _ _ _, _, q5 => exact q5.elim
    · rename_i hk
      rw [if_neg hk]
      exact q3 H2 _ (s2.pop.pop.scal fun _ => .bl _)
  | .non, _, _, _, q2 => exact q2.elim
  | .bl _, _, _, _, q2 => exact q2.elim
  | .str _, _, _, _, q2 => exact q2.elim
  | .lst _, _, _, _, q2 => exact q2.elim
  | .scr _, _, _, _, q2 => exact q2.elim
  | .tup _, _, _, _, q2 => exact q2.elim
  | .ins _ _ _, _, _, _, q2 => exact q2.elim
  | .int _, .non, _, _, q2 => exact q2.elim
  | .int _, .bl _, _, _, q2 => exact q2.elim
  | .int _, .str _, _, _, q2 => exact q2.elim
  | .int _, .lst _, _, _, q2 => exact q2.elim
  | .int _, .scr _, _, _, q2 => exact q2.elim
  | .int _, .tup _, _, _, q2 => exact q2.elim
  | .int _, .ins _ _ _, _, _, q2 => exact q2.elim
theorem de_chain (ho : OpR X (compareOp op) (rI0 fun i j => .bl (f i j))) (ho' : OpR X (compareOp op') (rI0 fun i j => .bl (f' i j))) (ha : DE X a fa) (hb : DE X b fb) (hc : DE X c fc)
    (hm : lastMarks [op, op'] [b, c] = false := by with_unfolding_all rfl) : DE X (.Compare a [op, op'] [b, c] pos) (sChain (gI f) (gI f') fa fb fc) :=
  PE.imp (pe_chain ho ho' ha hb hc hm) fun σ H Q h => tE_chain h
theorem dt_chain (ho : OpR X (compareOp op) (rI0 fun i j => .bl (f i j))) (ho' : OpR X (compareOp op') (rI0 fun i j => .bl (f' i j))) (ha : DE X a fa) (hb : DE X b fb) (hc : DE X c fc)
    (hm : lastMarks [op, op'] [b, c] = false := by with_unfolding_all rfl) : DT X (.Compare a [op, op'] [b, c] pos) (sTst (sChain (gI f) (gI f') fa fb fc)) :=
  ⟨fun pins s σ H Q I h => (pt_chain ho ho' ha hb hc hm).run pins s σ H Q I (tE_chain (tB_of h))⟩
end
end DL

/-! DLf: subscripts, slices, built-ins, names that own lists, defs. -/
namespace DL
open PySem PySem.Spec L2

/-! ### subscripts -/
def ixL : D → D → Option Val := fun d e => match d, e with
  | .lst xs, .int i => (atI xs i).map .sh
  | .scr xs, .int i => (atI xs i).map .sh
  | _, _ => none
def ixT : D → D → Option Val := fun d e => match d, e with
  | .tup xs, .int i => (atI xs i).map .sh
  | _, _ => none
def ixS : D → D → Option Val := fun d e => match d, e with
  | .str z, .int i => if z.length ≤ 10000000 then (atI z.cps.toList i).map fun c => .sh (.str ⟨#[c]⟩) else none
  | _, _ => none
def ixD : D → D → Option Val := orG ixL (orG ixT ixS)
theorem ats_at {K : PySem.W.Frag} {F : Hp} {vs : List V} {ds : List D} {i : Int} {d : D} (h : Ats K F vs ds) (e : atI ds i = some d) : ∃ v, atI vs i = some v ∧ At K F v d := by
  unfold atI at e ⊢
  rw [h.length]
  obtain ⟨j, e1, e2⟩ := Option.bind_eq_some_iff.mp e
  obtain ⟨v, k1, k2⟩ := h.get e2
  exact ⟨v, by rw [e1]; exact k1, k2⟩
section
variable {X : Cx} {a b : Expr} {fa fb : DEnv → R Val} {pos : Pos}
theorem opd_ix : OpD X (rIx X.K) ixD := by
  refine OpD.or ?_ (OpD.or ?_ ?_)
  · intro F0 H0 H σ ρ vs xs v w d e Q s ⟨x, hx, q⟩
    obtain ⟨F, hF, a, b, t⟩ := s.two
    match d, e, a, b, hx with
    | .lst ds, .int i, .lst (vs := us) h1 k1, .int _, hx =>
      have hx : (atI ds i).map .sh = some x := hx
      obtain ⟨y, e1, rfl⟩ := Option.map_eq_some_iff.mp hx
      obtain ⟨u, e2, k⟩ := ats_at k1 e1
      exact ⟨_, us, i, u, rfl, rfl, hF.seq (.of h1), e2, q H _ (t [u] [y] (.one k))⟩
    | .scr ds, .int i, .scr (vs := us) h1 k1, .int _, hx =>
      have hx : (atI ds i).map .sh = some x := hx
      obtain ⟨y, e1, rfl⟩ := Option.map_eq_some_iff.mp hx
      obtain ⟨u, e2, k⟩ := ats_at k1 e1
      exact ⟨_, us, i, u, rfl, rfl, hF.seq h1, e2, q H _ (t [u] [y] (.one k))⟩
  · intro F0 H0 H σ ρ vs xs v w d e Q s ⟨x, hx, q⟩
    obtain ⟨F, hF, a, b, t⟩ := s.two
    match d, e, a, b, hx with
    | .tup ds, .int i, .tup (vs := us) h1 k1, .int _, hx =>
      have hx : (atI ds i).map .sh = some x := hx
      obtain ⟨y, e1, rfl⟩ := Option.map_eq_some_iff.mp hx
      obtain ⟨u, e2, k⟩ := ats_at k1 e1
      exact ⟨_, us, i, u, rfl, rfl, sameT hF h1, e2, q H _ (t [u] [y] (.one k))⟩
  · intro F0 H0 H σ ρ vs xs v w d e Q s ⟨x, hx, q⟩
    obtain ⟨F, hF, a, b, t⟩ := s.two
    match d, e, a, b, hx with
    | .str z, .int i, .str _, .int _, hx =>
      have hx : (if z.length ≤ 10000000 then (atI z.cps.toList i).map (fun c => Val.sh (.str ⟨#[c]⟩)) else none) = some x := hx
      split at hx
      · rename_i hz
        obtain ⟨c, e1, rfl⟩ := Option.map_eq_some_iff.mp hx
        exact ⟨z, i, c, rfl, rfl, sz_of hz, e1, q H _ (s.pop.pop.scal fun F => .str _)⟩
      · cases hx
theorem de_ixD (ha : DE X a fa) (hb : DE X b fb) (hs : PlainIx b := by exact fun _ _ => rfl) : DE X (.Subscript a b pos) (sOp ixD fa fb) := de_ix ix_seq opd_ix ha hb hs
end

/-! ### slices -/
def cutD (xs : List D) (lo hi : Option Int) : List D := (xs.drop (HT.sIx xs.length 0 lo)).take (HT.sIx xs.length xs.length hi - HT.sIx xs.length 0 lo)
def slD (lo hi : Option Int) : D → Option Val
  | .lst xs => some (.lst ((cutD xs lo hi).map .sh))
  | .scr xs => some (.lst ((cutD xs lo hi).map .sh))
  | .tup xs => if HT.sIx xs.length 0 lo = 0 ∧ HT.sIx xs.length xs.length hi = xs.length then none else some (.sh (.tup (cutD xs lo hi)))
  | .str z => if z.length ≤ 10000000 then some (.sh (.str (cutS z lo hi))) else none
  | _ => none
/-- a slice's part: left out, or an int -/
def sPart : Option (DEnv → R Val) → DEnv → R (Option Int)
  | none, ρ => .ok none ρ
  | some f, ρ => (f ρ).bind fun x ρ1 => match x.fz with
    | .int i => .ok (some i) ρ1
    | _ => .bad
def sSl (f : DEnv → R Val) (lo hi : Option (DEnv → R Val)) : DEnv → R Val := fun ρ => (f ρ).bind fun x ρ1 => (sPart lo ρ1).bind fun i ρ2 => (sPart hi ρ2).bind fun j ρ3 => liftO (slD i j x.fz) ρ3
section
variable {X : Cx} {e : Expr} {f : DEnv → R Val} {lo hi : Option Expr} {flo fhi : Option (DEnv → R Val)} {pos p2 : Pos}
/-- a part of a slice -/
def DO (X : Cx) (e : Option Expr) (f : Option (DEnv → R Val)) : Prop := PO X e (fun σ H Q => ∃ F0 H0 ρ vs xs, Stt X.K F0 H0 H σ ρ vs xs ∧ post X F0 H0 vs xs (fun i ρ' => ∀ H', Stt X.K F0 H0 H' σ ρ' vs xs → Q i H') (sPart f ρ))
theorem do_none : DO X none none := ⟨fun pins s σ H Q I ⟨F0, H0, ρ, vs, xs, st, q⟩ => po_none.run pins s σ H Q I (q H st)⟩
theorem do_some (h : DE X e f) : DO X (some e) (some f) := ⟨fun pins s σ H Q I ⟨F0, H0, ρ, vs, xs, st, q⟩ => (po_some h).run pins s σ H Q I (by
  refine ⟨F0, H0, ρ, vs, xs, st, (post_bind q).imp (fun x ρ1 q1 H1 v s1 => ?_) fun _ _ z => z⟩
  obtain ⟨F, hF, a, t⟩ := s1.fz.oneT
  match hx : x.fz, a, q1 with
  | .int i, .int _, q1 => exact ⟨i, rfl, q1 H1 s1.pop⟩
  | .non, _, q1 => exact q1.elim
  | .bl _, _, q1 => exact q1.elim
  | .str _, _, q1 => exact q1.elim
  | .lst _, _, q1 => exact q1.elim
  | .scr _, _, q1 => exact q1.elim
  | .tup _, _, q1 => exact q1.elim
  | .ins _ _ _, _, q1 => exact q1.elim)⟩
theorem cut_ats {K : PySem.W.Frag} {F : Hp} {vs : List V} {ds : List D} (h : Ats K F vs ds) (lo hi : Option Int) : Ats K F (cutV vs lo hi) (cutD ds lo hi) := by
  unfold cutV cutD
  rw [h.length]
  exact (h.drop _).take _
theorem de_sl (he : DE X e f) (hl : DO X lo flo) (hh : DO X hi fhi) : DE X (.Subscript e (.Slice lo hi none p2) pos) (sSl f flo fhi) :=
  PE.imp (pe_slice (sl_list.or (sl_tup.or sl_str)) he hl hh) fun σ H Q ⟨F0, H0, ρ, vs, xs, s, q⟩ => by
    refine ⟨F0, H0, ρ, vs, xs, s, (post_bind q).imp (fun x ρ1 q1 H1 v s1 => ?_) fun _ _ z => z⟩
    refine ⟨F0, H0, ρ1, _, _, s1, (post_bind q1).imp (fun i ρ2 q2 H2 s2 => ?_) fun _ _ z => z.more⟩
    refine ⟨F0, H0, ρ2, _, _, s2, (post_bind q2).imp (fun j ρ3 q3 H3 s3 => ?_) fun _ _ z => z.more⟩
    obtain ⟨F, hF, a, t⟩ := s3.fz.oneT
    match hx : x.fz, a, q3 with
    | .lst ds, .lst (vs := us) h1 k1, q3 =>
      have k := cut_ats k1 i j
      exact .inl ⟨_, us, rfl, hF.seq (.of h1), fun p np => q3 _ _ (Stt.newLst (by simpa using k.length) (t _ _ k) np)⟩
    | .scr ds, .scr (vs := us) h1 k1, q3 =>
      have k := cut_ats k1 i j
      exact .inl ⟨_, us, rfl, hF.seq h1, fun p np => q3 _ _ (Stt.newLst (by simpa using k.length) (t _ _ k) np)⟩
    | .tup ds, .tup (vs := us) h1 k1, q3 =>
      have k := cut_ats k1 i j
      have q4 : post X F0 H0 vs xs (fun x ρ' => ∀ H' v, Stt X.K F0 H0 H' σ ρ' (v :: vs) (x :: xs) → Q v H') (liftO (if HT.sIx ds.length 0 i = 0 ∧ HT.sIx ds.length ds.length j = ds.length then none else some (.sh (.tup (cutD ds i j)))) ρ3) := q3
      split at q4
      · exact q4.elim
      · rename_i hc
        exact .inr (.inl ⟨_, us, rfl, sameT hF h1, by rw [k1.length]; exact hc, fun p np => q4 _ _ (Stt.newTup k.length (t _ _ k) np)⟩)
    | .str z, .str _, q3 =>
      have q4 : post X F0 H0 vs xs (fun x ρ' => ∀ H' v, Stt X.K F0 H0 H' σ ρ' (v :: vs) (x :: xs) → Q v H') (liftO (if z.length ≤ 10000000 then some (.sh (.str (cutS z i j))) else none) ρ3) := q3
      split at q4
      · rename_i hz
        exact .inr (.inr ⟨z, rfl, sz_of hz, q4 _ _ (s3.pop.scal fun F => .str _)⟩)
      · exact q4.elim
    | .non, _, q3 => exact q3.elim
    | .bl _, _, q3 => exact q3.elim
    | .int _, _, q3 => exact q3.elim
    | .ins _ _ _, _, q3 => exact q3.elim
end

/-! ### built-ins -/
def CallD (X : Cx) (r : List V → Hp → VK → Prop) (g : List D → Option Val) : Prop := ∀ F0 H0 H σ ρ vs xs ws ds Q, ws.length = ds.length → Stt X.K F0 H0 H σ ρ (ws ++ vs) (ds.map .sh ++ xs) →
  (∃ x, g ds = some x ∧ ∀ H' u, Stt X.K F0 H0 H' σ ρ (u :: vs) (x :: xs) → Q u H') → r ws H Q
def sCB (g : List D → Option Val) (fs : DEnv → R (List Val)) : DEnv → R Val := fun ρ => (fs ρ).bind fun ys ρ1 => liftO (g (fzs ys)) ρ1
section
variable {X : Cx} {x : Str} {p pos : Pos} {e : Expr} {es : List Expr} {fs : DEnv → R (List Val)} {id T : String} {r : List V → Hp → VK → Prop} {g : List D → Option Val}
theorem tE_CB (hg : CallD X r g) {σ : L2.St} {H : Hp} {Q : VK} (h : tE X (sCB g fs) σ H Q) : tCB r (tA X fs) σ H Q := by
  obtain ⟨F0, H0, ρ, vs, xs, s, q⟩ := h
  refine ⟨F0, H0, ρ, vs, xs, s, (post_bind q).imp (fun ys ρ1 q1 H1 ws hl s1 => ?_) fun _ _ z => z⟩
  obtain ⟨hl2, s2⟩ := s1.fzsP hl
  refine hg F0 H0 H1 σ ρ1 vs xs ws (fzs ys) Q hl2 s2 ?_
  cases e : g (fzs ys) with
  | none => rw [e] at q1; exact q1.elim
  | some z => rw [e] at q1; exact ⟨z, rfl, q1⟩
theorem de_callB (hc : CallR X (.builtin id) r) (hgd : CallD X r g) (hg : Gl X x) (hm : X.mg x = none) (hv : bootBuiltins x = some (.builtin id)) (ha : DA X (e :: es) fs) (hn : x ≠ "__name__" := by decide) (hdb : (x == ("__debug__" : Str)) = false := by decide)
    (he : starEach (e :: es) X.env = (false, eval e X.env) :: starEach es X.env := by rfl) (hpl : (backTo pos (starEach es X.env)).any (·.1) = false := by rfl) : DE X (.Call (.Name x p) (e :: es) [] pos) (sCB g fs) :=
  PE.imp (pe_callB hc hg hm hv ha hn hdb he hpl) fun σ H Q h => tE_CB hgd h
theorem de_callTy (hc : CallR X (.type T) r) (hgd : CallD X r g) (hg : Gl X x) (hm : X.mg x = none) (hv : bootBuiltins x = some (.type T)) (ha : DA X (e :: es) fs) (hn : x ≠ "__name__" := by decide) (hdb : (x == ("__debug__" : Str)) = false := by decide)
    (he : starEach (e :: es) X.env = (false, eval e X.env) :: starEach es X.env := by rfl) (hpl : (backTo pos (starEach es X.env)).any (·.1) = false := by rfl) : DE X (.Call (.Name x p) (e :: es) [] pos) (sCB g fs) :=
  PE.imp (pe_callTy hc hg hm hv ha hn hdb he hpl) fun σ H Q h => tE_CB hgd h
end
def orC (g g' : List D → Option Val) : List D → Option Val := fun d => match g d with
  | some x => some x
  | none => g' d
theorem CallD.or {X : Cx} {r r' : List V → Hp → VK → Prop} {g g' : List D → Option Val} (h : CallD X r g) (h' : CallD X r' g') : CallD X (fun xs H Q => r xs H Q ∨ r' xs H Q) (orC g g') := fun F0 H0 H σ ρ vs xs ws ds Q hl s ⟨x, hx, q⟩ => by
  unfold orC at hx
  cases e1 : g ds with
  | some y =>
    rw [e1] at hx
    cases hx
    exact .inl (h F0 H0 H σ ρ vs xs ws ds Q hl s ⟨_, e1, q⟩)
  | none =>
    rw [e1] at hx
    exact .inr (h' F0 H0 H σ ρ vs xs ws ds Q hl s ⟨x, hx, q⟩)
def lenD : D → Option Val
  | .lst xs => some (.sh (.int xs.length))
  | .scr xs => some (.sh (.int xs.length))
  | .tup xs => some (.sh (.int xs.length))
  | .str z => if z.length ≤ 10000000 then some (.sh (.int z.length)) else none
  | _ => none
def g1 (g : D → Option Val) : List D → Option Val
  | [d] => g d
  | _ => none
theorem g1_some {g : D → Option Val} {ds : List D} {x : Val} (h : g1 g ds = some x) : ∃ d, ds = [d] ∧ g d = some x := by
  match ds, h with
  | [d], h => exact ⟨d, rfl, h⟩
section
variable {X : Cx}
/-- a built-in of one argument -/
theorem calld_1 {r : V → Hp → VK → Prop} {g : D → Option Val} (h : UnD X r g) : CallD X (fun xs H Q => ∃ x, xs = [x] ∧ r x H Q) (g1 g) := fun F0 H0 H σ ρ vs xs ws ds Q hl s ⟨x, hx, q⟩ => by
  obtain ⟨d, rfl, hg⟩ := g1_some hx
  match ws, hl with
  | [w], _ => exact ⟨w, rfl, h F0 H0 H σ ρ vs xs w d Q s ⟨x, hg, q⟩⟩
theorem und_len : UnD X (fun x H Q => ∃ n, LenV X.K x H n ∧ Q (.int n) H) lenD := fun F0 H0 H σ ρ vs xs v d Q s ⟨x, hx, q⟩ => by
  obtain ⟨F, hF, a, t⟩ := s.oneT
  match d, a, hx with
  | .lst ds, .lst (vs := us) h1 k1, hx =>
    cases hx
    exact ⟨us.length, .inl ⟨us, hF.seq (.of h1), rfl⟩, q H _ (s.pop.scal fun F => by rw [k1.length]; exact .int _)⟩
  | .scr ds, .scr (vs := us) h1 k1, hx =>
    cases hx
    exact ⟨us.length, .inl ⟨us, hF.seq h1, rfl⟩, q H _ (s.pop.scal fun F => by rw [k1.length]; exact .int _)⟩
  | .tup ds, .tup (vs := us) h1 k1, hx =>
    cases hx
    exact ⟨us.length, .inr ⟨us, sameT hF h1, rfl⟩, q H _ (s.pop.scal fun F => by rw [k1.length]; exact .int _)⟩
  | .str z, .str _, hx =>
    have hx : (if z.length ≤ 10000000 then some (Val.sh (.int z.length)) else none) = some x := hx
    split at hx
    · rename_i hz
      cases hx
      exact ⟨z.length, ⟨sz_of hz, rfl⟩, q H _ (s.pop.scal fun F => .int _)⟩
    · cases hx
theorem call_len1 : CallR X (.builtin "len") (fun xs H Q => ∃ x, xs = [x] ∧ ∃ n, LenV X.K x H n ∧ Q (.int n) H) := fun pins s σ H xs us Q I r ⟨x, e, n, h1, h2⟩ => call_len pins s σ H xs us Q I r ⟨x, n, e, h1, h2⟩
def absD : D → Option Val
  | .int i => some (.sh (.int (if i < 0 then -i else i)))
  | _ => none
theorem und_abs : UnD X (fun x H Q => ∃ i, x = .int i ∧ Q (.int (if i < 0 then -i else i)) H) absD := fun F0 H0 H σ ρ vs xs v d Q s ⟨x, hx, q⟩ => by
  obtain ⟨F, hF, a, t⟩ := s.oneT
  match d, a, hx with
  | .int i, .int _, hx => cases hx; exact ⟨i, rfl, q H _ (s.pop.scal fun F => .int _)⟩
theorem call_abs1 : CallR X (.builtin "abs") (fun xs H Q => ∃ x, xs = [x] ∧ ∃ i, x = .int i ∧ Q (.int (if i < 0 then -i else i)) H) := fun pins s σ H xs us Q I r ⟨x, e, i, h1, h2⟩ => call_abs pins s σ H xs us Q I r ⟨i, by rw [e, h1], h2⟩
def intD : D → Option Val
  | .int i => some (.sh (.int i))
  | .bl k => some (.sh (.int (if k then 1 else 0)))
  | _ => none
theorem und_int : UnD X (fun x H Q => (∃ i, x = .int i ∧ Q (.int i) H) ∨ ∃ k, x = .bl k ∧ Q (.int (if k then 1 else 0)) H) intD := fun F0 H0 H σ ρ vs xs v d Q s ⟨x, hx, q⟩ => by
  obtain ⟨F, hF, a, t⟩ := s.oneT
  match d, a, hx with
  | .int i, .int _, hx => cases hx; exact .inl ⟨i, rfl, q H _ (s.pop.scal fun F => .int _)⟩
  | .bl i, .bl _, hx => cases hx; exact .inr ⟨i, rfl, q H _ (s.pop.scal fun F => .int _)⟩
theorem call_intA : CallR X (.type "int") (fun xs H Q => ∃ x, xs = [x] ∧ ((∃ i, x = .int i ∧ Q (.int i) H) ∨ ∃ k, x = .bl k ∧ Q (.int (if k then 1 else 0)) H)) := fun pins s σ H xs us Q I r ⟨x, e, h⟩ => call_int1 pins s σ H xs us Q I r (by
  rcases h with ⟨i, h1, h2⟩ | ⟨k, h1, h2⟩
  · exact .inl ⟨i, by rw [e, h1], h2⟩
  · exact .inr ⟨k, by rw [e, h1], h2⟩)
def strD : D → Option Val
  | .int i => if i.natAbs.log2 < 1920 then some (.sh (.str (toString i))) else none
  | _ => none
theorem und_str : UnD X (fun x H Q => ∃ i, x = .int i ∧ i.natAbs.log2 < 1920 ∧ Q (.str (toString i)) H) strD := fun F0 H0 H σ ρ vs xs v d Q s ⟨x, hx, q⟩ => by
  obtain ⟨F, hF, a, t⟩ := s.oneT
  match d, a, hx with
  | .int i, .int _, hx =>
    have hx : (if i.natAbs.log2 < 1920 then some (Val.sh (.str (toString i))) else none) = some x := hx
    split at hx
    · cases hx; exact ⟨i, rfl, by assumption, q H _ (s.pop.scal fun F => .str _)⟩
    · cases hx
theorem call_strA : CallR X (.type "str") (fun xs H Q => ∃ x, xs = [x] ∧ ∃ i, x = .int i ∧ i.natAbs.log2 < 1920 ∧ Q (.str (toString i)) H) := fun pins s σ H xs us Q I r ⟨x, e, i, h1, h2, h3⟩ => call_str_int pins s σ H xs us Q I r ⟨i, by rw [e, h1], h2, h3⟩
def listD : D → Option Val
  | .lst xs => some (.lst (xs.map .sh))
  | .scr xs => some (.lst (xs.map .sh))
  | .tup xs => some (.lst (xs.map .sh))
  | _ => none
theorem und_list : UnD X (fun x H Q => ∃ p ys, x = .ref p ∧ (SqL X.K H p ys ∨ SqT X.K H p ys) ∧ ∀ l, H l = none → Q (.ref l) (upd H l (.lst ys))) listD := fun F0 H0 H σ ρ vs xs v d Q s ⟨x, hx, q⟩ => by
  obtain ⟨F, hF, a, t⟩ := s.oneT
  match d, a, hx with
  | .lst ds, .lst (vs := us) h1 k1, hx => cases hx; exact ⟨_, us, rfl, .inl (hF.seq (.of h1)), fun l nl => q _ _ (Stt.newLst (by simpa using k1.length) (t us ds k1) nl)⟩
  | .scr ds, .scr (vs := us) h1 k1, hx => cases hx; exact ⟨_, us, rfl, .inl (hF.seq h1), fun l nl => q _ _ (Stt.newLst (by simpa using k1.length) (t us ds k1) nl)⟩
  | .tup ds, .tup (vs := us) h1 k1, hx => cases hx; exact ⟨_, us, rfl, .inr (sameT hF h1), fun l nl => q _ _ (Stt.newLst (by simpa using k1.length) (t us ds k1) nl)⟩
theorem call_listA : CallR X (.type "list") (fun xs H Q => ∃ x, xs = [x] ∧ ∃ p ys, x = .ref p ∧ (SqL X.K H p ys ∨ SqT X.K H p ys) ∧ ∀ l, H l = none → Q (.ref l) (upd H l (.lst ys))) := fun pins s σ H xs us Q I r ⟨x, e, p, ys, h1, h2, h3⟩ => call_list_of pins s σ H xs us Q I r ⟨p, ys, by rw [e, h1], h2, h3⟩
def tupleD : D → Option Val
  | .lst xs => some (.sh (.tup xs))
  | .scr xs => some (.sh (.tup xs))
  | .tup xs => some (.sh (.tup xs))
  | _ => none
theorem und_tuple : UnD X (fun x H Q => ∃ p ys, x = .ref p ∧ ((SqL X.K H p ys ∧ ∀ l, H l = none → Q (.ref l) (upd H l (.tup ys))) ∨ (SqT X.K H p ys ∧ Q (.ref p) H))) tupleD := fun F0 H0 H σ ρ vs xs v d Q s ⟨x, hx, q⟩ => by
  obtain ⟨F, hF, a, t⟩ := s.oneT
  match d, a, hx with
  | .lst ds, .lst (vs := us) h1 k1, hx => cases hx; exact ⟨_, us, rfl, .inl ⟨hF.seq (.of h1), fun l nl => q _ _ (Stt.newTup k1.length (t us ds k1) nl)⟩⟩
  | .scr ds, .scr (vs := us) h1 k1, hx => cases hx; exact ⟨_, us, rfl, .inl ⟨hF.seq h1, fun l nl => q _ _ (Stt.newTup k1.length (t us ds k1) nl)⟩⟩
  | .tup ds, .tup (vs := us) h1 k1, hx => cases hx; exact ⟨_, us, rfl, .inr ⟨sameT hF h1, q _ _ s⟩⟩
theorem call_tupleA : CallR X (.type "tuple") (fun xs H Q => ∃ x, xs = [x] ∧ ∃ p ys, x = .ref p ∧ ((SqL X.K H p ys ∧ ∀ l, H l = none → Q (.ref l) (upd H l (.tup ys))) ∨ (SqT X.K H p ys ∧ Q (.ref p) H))) := fun pins s σ H xs us Q I r ⟨x, e, p, ys, h1, h2⟩ => call_tuple_of pins s σ H xs us Q I r ⟨p, ys, by rw [e, h1], h2⟩
/-! lists of numbers, of truths -/
def dInts : List D → Option (List Int)
  | [] => some []
  | .int i :: r => (dInts r).map (i :: ·)
  | _ :: _ => none
def dBls : List D → Option (List Bool)
  | [] => some []
  | .bl i :: r => (dBls r).map (i :: ·)
  | _ :: _ => none
theorem ints_ats {K : PySem.W.Frag} {F : Hp} : ∀ {ds : List D} {vs : List V} {ns : List Int}, Ats K F vs ds → dInts ds = some ns → vs = ns.map V.int
  | [], _, ns, .nil, h => by cases h; rfl
  | .int i :: r, _, ns, .cons (.int _) t, h => by
    obtain ⟨ms, e1, e2⟩ := Option.map_eq_some_iff.mp (show (dInts r).map (i :: ·) = some ns from h)
    subst e2
    rw [ints_ats t e1]; rfl
  | .non :: _, _, _, _, h => by cases h
  | .bl _ :: _, _, _, _, h => by cases h
  | .str _ :: _, _, _, _, h => by cases h
  | .lst _ :: _, _, _, _, h => by cases h
  | .scr _ :: _, _, _, _, h => by cases h
  | .tup _ :: _, _, _, _, h => by cases h
  | .ins _ _ _ :: _, _, _, _, h => by cases h
  | .junk :: _, _, _, _, h => by cases h
  | .exn _ _ _ _ :: _, _, _, _, h => by cases h
  | .dct _ _ :: _, _, _, _, h => by cases h
theorem bls_ats {K : PySem.W.Frag} {F : Hp} : ∀ {ds : List D} {vs : List V} {ns : List Bool}, Ats K F vs ds → dBls ds = some ns → vs = ns.map V.bl
  | [], _, ns, .nil, h => by cases h; rfl
  | .bl i :: r, _, ns, .cons (.bl _) t, h => by
    obtain ⟨ms, e1, e2⟩ := Option.map_eq_some_iff.mp (show (dBls r).map (i :: ·) = some ns from h)
    subst e2
    rw [bls_ats t e1]; rfl
  | .non :: _, _, _, _, h => by cases h
  | .int _ :: _, _, _, _, h => by cases h
  | .str _ :: _, _, _, _, h => by cases h
  | .lst _ :: _, _, _, _, h => by cases h
  | .scr _ :: _, _, _, _, h => by cases h
  | .tup _ :: _, _, _, _, h => by cases h
  | .ins _ _ _ :: _, _, _, _, h => by cases h
  | .junk :: _, _, _, _, h => by cases h
  | .exn _ _ _ _ :: _, _, _, _, h => by cases h
  | .dct _ _ :: _, _, _, _, h => by cases h
def ofI (f : List Int → Option Val) : D → Option Val
  | .lst xs => (dInts xs).bind f
  | _ => none
def ofB (f : List Bool → Option Val) : D → Option Val
  | .lst xs => (dBls xs).bind f
  | _ => none
theorem ofI_some {K : PySem.W.Frag} {F H : Hp} {f : List Int → Option Val} {d : D} {v : V} {x : Val} (hF : Same F H) (a : At K F v d) (h : ofI f d = some x) : ∃ p ns, v = .ref p ∧ SqL K H p (ns.map V.int) ∧ f ns = some x := by
  match d, a, h with
  | .lst ds, .lst (vs := us) h1 k1, h =>
    obtain ⟨ns, e1, e2⟩ := Option.bind_eq_some_iff.mp (show (dInts ds).bind f = some x from h)
    rw [ints_ats k1 e1] at h1
    exact ⟨_, ns, rfl, hF.seq (.of h1), e2⟩
theorem ofB_some {K : PySem.W.Frag} {F H : Hp} {f : List Bool → Option Val} {d : D} {v : V} {x : Val} (hF : Same F H) (a : At K F v d) (h : ofB f d = some x) : ∃ p ns, v = .ref p ∧ SqL K H p (ns.map V.bl) ∧ f ns = some x := by
  match d, a, h with
  | .lst ds, .lst (vs := us) h1 k1, h =>
    obtain ⟨ns, e1, e2⟩ := Option.bind_eq_some_iff.mp (show (dBls ds).bind f = some x from h)
    rw [bls_ats k1 e1] at h1
    exact ⟨_, ns, rfl, hF.seq (.of h1), e2⟩
def sumD : D → Option Val := ofI fun ns => some (.sh (.int ns.sum))
def allD : D → Option Val := ofB fun bs => some (.sh (.bl (bs.all fun b => b)))
def anyD : D → Option Val := ofB fun bs => some (.sh (.bl (bs.any fun b => b)))
def maxI : List Int → Int
  | [] => 0
  | x :: xs => xs.foldl max x
def minI : List Int → Int
  | [] => 0
  | x :: xs => xs.foldl min x
theorem foldl_max_mem : ∀ (xs : List Int) (x : Int), (xs.foldl max x = x ∨ xs.foldl max x ∈ xs) ∧ x ≤ xs.foldl max x ∧ ∀ y ∈ xs, y ≤ xs.foldl max x
  | [], x => ⟨.inl rfl, Int.le_refl x, fun y h => by cases h⟩
  | a :: xs, x => by
    obtain ⟨h1, h2, h3⟩ := foldl_max_mem xs (max x a)
    rw [List.foldl_cons]
    refine ⟨?_, by omega, fun y hy => ?_⟩
    · rcases h1 with h1 | h1
      · rw [h1]
        by_cases hx : x ≤ a
        · right; rw [Int.max_eq_right hx]; exact List.mem_cons_self
        · left; omega
      · exact .inr (List.mem_cons_of_mem _ h1)
    · rcases List.mem_cons.mp hy with e | hy
      · omega
      · exact h3 y hy
theorem foldl_min_mem : ∀ (xs : List Int) (x : Int), (xs.foldl min x = x ∨ xs.foldl min x ∈ xs) ∧ xs.foldl min x ≤ x ∧ ∀ y ∈ xs, xs.foldl min x ≤ y
  | [], x => ⟨.inl rfl, Int.le_refl x, fun y h => by cases h⟩
  | a :: xs, x => by
    obtain ⟨h1, h2, h3⟩ := foldl_min_mem xs (min x a)
    rw [List.foldl_cons]
    refine ⟨?_, by omega, fun y hy => ?_⟩
    · rcases h1 with h1 | h1
      · rw [h1]
        by_cases hx : a ≤ x
        · right; rw [Int.min_eq_right hx]; exact List.mem_cons_self
        · left; omega
      · exact .inr (List.mem_cons_of_mem _ h1)
    · rcases List.mem_cons.mp hy with e | hy
      · omega
      · exact h3 y hy
theorem max_is {ns : List Int} (h0 : 0 < ns.length) {m : Int} (h1 : m ∈ ns) (h2 : ∀ y, y ∈ ns → y ≤ m) : m = maxI ns := by
  match ns, h0 with
  | x :: xs, _ =>
    obtain ⟨a, b, c⟩ := foldl_max_mem xs x
    have u : xs.foldl max x ≤ m := by
      rcases a with a | a
      · rw [a]; exact h2 x List.mem_cons_self
      · exact h2 _ (List.mem_cons_of_mem _ a)
    have l : m ≤ xs.foldl max x := by
      rcases List.mem_cons.mp h1 with e | h1
      · omega
      · exact c m h1
    show m = xs.foldl max x
    omega
theorem min_is {ns : List Int} (h0 : 0 < ns.length) {m : Int} (h1 : m ∈ ns) (h2 : ∀ y, y ∈ ns → m ≤ y) : m = minI ns := by
  match ns, h0 with
  | x :: xs, _ =>
    obtain ⟨a, b, c⟩ := foldl_min_mem xs x
    have u : m ≤ xs.foldl min x := by
      rcases a with a | a
      · rw [a]; exact h2 x List.mem_cons_self
      · exact h2 _ (List.mem_cons_of_mem _ a)
    have l : xs.foldl min x ≤ m := by
      rcases List.mem_cons.mp h1 with e | h1
      · omega
      · exact c m h1
    show m = xs.foldl min x
    omega
def maxD : D → Option Val := ofI fun ns => if 0 < ns.length then some (.sh (.int (maxI ns))) else none
def minD : D → Option Val := ofI fun ns => if 0 < ns.length then some (.sh (.int (minI ns))) else none
def toL1 (r : List V → Hp → VK → Prop) : V → Hp → VK → Prop := fun x H Q => r [x] H Q
theorem call_1 {r : List V → Hp → VK → Prop} {f : Value} (h : CallR X f r) : CallR X f (fun xs H Q => ∃ x, xs = [x] ∧ toL1 r x H Q) := fun pins s σ H xs us Q I rr ⟨x, e, q⟩ => h pins s σ H xs us Q I rr (by rw [e]; exact q)
theorem und_sum : UnD X (toL1 (rSum X.K)) sumD := fun F0 H0 H σ ρ vs xs v d Q s ⟨x, hx, q⟩ => by
  obtain ⟨F, hF, a, t⟩ := s.oneT
  obtain ⟨p, ns, rfl, h1, h2⟩ := ofI_some hF a hx
  cases h2
  exact ⟨p, ns, rfl, h1, q H _ (s.pop.scal fun F => .int _)⟩
theorem und_all : UnD X (toL1 (rAll X.K)) allD := fun F0 H0 H σ ρ vs xs v d Q s ⟨x, hx, q⟩ => by
  obtain ⟨F, hF, a, t⟩ := s.oneT
  obtain ⟨p, ns, rfl, h1, h2⟩ := ofB_some hF a hx
  cases h2
  exact ⟨p, ns, rfl, h1, q H _ (s.pop.scal fun F => .bl _)⟩
theorem und_any : UnD X (toL1 (rAny X.K)) anyD := fun F0 H0 H σ ρ vs xs v d Q s ⟨x, hx, q⟩ => by
  obtain ⟨F, hF, a, t⟩ := s.oneT
  obtain ⟨p, ns, rfl, h1, h2⟩ := ofB_some hF a hx
  cases h2
  exact ⟨p, ns, rfl, h1, q H _ (s.pop.scal fun F => .bl _)⟩
theorem und_max : UnD X (toL1 (rMax X.K)) maxD := fun F0 H0 H σ ρ vs xs v d Q s ⟨x, hx, q⟩ => by
  obtain ⟨F, hF, a, t⟩ := s.oneT
  obtain ⟨p, ns, rfl, h1, h2⟩ := ofI_some hF a hx
  split at h2
  · rename_i h0
    cases h2
    exact ⟨p, ns, rfl, h1, h0, fun m z1 z2 => q H _ (s.pop.scal fun F => by rw [max_is h0 z1 z2]; exact .int _)⟩
  · cases h2
theorem und_min : UnD X (toL1 (rMin X.K)) minD := fun F0 H0 H σ ρ vs xs v d Q s ⟨x, hx, q⟩ => by
  obtain ⟨F, hF, a, t⟩ := s.oneT
  obtain ⟨p, ns, rfl, h1, h2⟩ := ofI_some hF a hx
  split at h2
  · rename_i h0
    cases h2
    exact ⟨p, ns, rfl, h1, h0, fun m z1 z2 => q H _ (s.pop.scal fun F => by rw [min_is h0 z1 z2]; exact .int _)⟩
  · cases h2
/-! of two arguments -/
def g2 (g : D → D → Option Val) : List D → Option Val
  | [d, e] => g d e
  | _ => none
theorem g2_some {g : D → D → Option Val} {ds : List D} {x : Val} (h : g2 g ds = some x) : ∃ d e, ds = [d, e] ∧ g d e = some x := by
  match ds, h with
  | [d, e], h => exact ⟨d, e, rfl, h⟩
theorem calld_2I {C : Int → Int → Prop} {r : Int → Int → Hp → VK → Prop} {g : D → D → Option Val} (h : ∀ F0 H0 H σ ρ vs xs i j x (Q : VK), Stt X.K F0 H0 H σ ρ vs xs → g (.int i) (.int j) = some x → (∀ H' u, Stt X.K F0 H0 H' σ ρ (u :: vs) (x :: xs) → Q u H') → r i j H Q)
    (hn : ∀ d e x, g d e = some x → ∃ i j, d = .int i ∧ e = .int j) : CallD X (fun xs H Q => ∃ i j, xs = [.int i, .int j] ∧ r i j H Q) (g2 g) := fun F0 H0 H σ ρ vs xs ws ds Q hl s ⟨x, hx, q⟩ => by
  obtain ⟨d, e, rfl, hg⟩ := g2_some hx
  obtain ⟨i, j, rfl, rfl⟩ := hn _ _ _ hg
  match ws, hl with
  | [v, w], _ =>
    obtain ⟨F, hF, hA, t⟩ := Stt.reads (as := [v, w]) (ds := [.int i, .int j]) rfl s
    cases hA with
    | cons a b =>
      cases b with
      | cons b _ =>
        cases a
        cases b
        exact ⟨i, j, rfl, h F0 H0 H σ ρ vs xs i j x Q s.pop.pop hg q⟩
def max2D : D → D → Option Val := fun d e => match d, e with
  | .int i, .int j => some (.sh (.int (if j > i then j else i)))
  | _, _ => none
def min2D : D → D → Option Val := fun d e => match d, e with
  | .int i, .int j => some (.sh (.int (if j < i then j else i)))
  | _, _ => none
instance (i j : Int) : Decidable (CDiv i j) := by unfold CDiv; infer_instance
def divmodD : D → D → Option Val := fun d e => match d, e with
  | .int i, .int j => if CDiv i j then some (.sh (.tup [.int (i / j), .int (i % j)])) else none
  | _, _ => none
theorem ints_of2 {f : Int → Int → Option Val} {d e : D} {x : Val} (h : (match d, e with | .int i, .int j => f i j | _, _ => none) = some x) : ∃ i j, d = .int i ∧ e = .int j := by
  match d, e, h with
  | .int i, .int j, h => exact ⟨i, j, rfl, rfl⟩
theorem calld_max2 : CallD X (fun xs H Q => ∃ i j, xs = [.int i, .int j] ∧ Q (.int (if j > i then j else i)) H) (g2 max2D) :=
  calld_2I (C := fun _ _ => True) (fun F0 H0 H σ ρ vs xs i j x Q s hg q => by cases hg; exact q H _ (s.scal fun F => .int _)) fun d e x h => ints_of2 (f := fun i j => some (.sh (.int (if j > i then j else i)))) h
theorem calld_min2 : CallD X (fun xs H Q => ∃ i j, xs = [.int i, .int j] ∧ Q (.int (if j < i then j else i)) H) (g2 min2D) :=
  calld_2I (C := fun _ _ => True) (fun F0 H0 H σ ρ vs xs i j x Q s hg q => by cases hg; exact q H _ (s.scal fun F => .int _)) fun d e x h => ints_of2 (f := fun i j => some (.sh (.int (if j < i then j else i)))) h
theorem calld_divmod : CallD X (fun xs H Q => ∃ i j, xs = [.int i, .int j] ∧ CDiv i j ∧ ∀ p, H p = none → Q (.ref p) (upd H p (.tup [.int (i / j), .int (i % j)]))) (g2 divmodD) :=
  calld_2I (C := fun _ _ => True) (r := fun i j H Q => CDiv i j ∧ ∀ p, H p = none → Q (.ref p) (upd H p (.tup [.int (i / j), .int (i % j)]))) (fun F0 H0 H σ ρ vs xs i j x Q s hg q => by
    have hg : (if CDiv i j then some (Val.sh (.tup [.int (i / j), .int (i % j)])) else none) = some x := hg
    split at hg
    · cases hg
      exact ⟨by assumption, fun p np => q _ _ (Stt.newTup (as := [.int (i / j), .int (i % j)]) (ds := [.int (i / j), .int (i % j)]) rfl ((s.scal fun _ => .int (i % j)).scal fun _ => .int (i / j)) np)⟩
    · cases hg) fun d e x h => ints_of2 (f := fun i j => if CDiv i j then some (.sh (.tup [.int (i / j), .int (i % j)])) else none) h
end
/-! the rules by name -/
section
variable {X : Cx} {p pos : Pos} {e e2 : Expr} {es : List Expr} {fs : DEnv → R (List Val)} {f : DEnv → R Val}
theorem de_len (hg : Gl X "len") (hm : X.mg "len" = none) (ha : DA X [e] fs) (he : starEach [e] X.env = (false, eval e X.env) :: starEach [] X.env := by rfl) : DE X (.Call (.Name "len" p) [e] [] pos) (sCB (g1 lenD) fs) := de_callB call_len1 (calld_1 und_len) hg hm (by decide +kernel) ha (he := he)
theorem de_abs (hg : Gl X "abs") (hm : X.mg "abs" = none) (ha : DA X [e] fs) (he : starEach [e] X.env = (false, eval e X.env) :: starEach [] X.env := by rfl) : DE X (.Call (.Name "abs" p) [e] [] pos) (sCB (g1 absD) fs) := de_callB call_abs1 (calld_1 und_abs) hg hm (by decide +kernel) ha (he := he)
theorem de_int1 (hg : Gl X "int") (hm : X.mg "int" = none) (ha : DA X [e] fs) (he : starEach [e] X.env = (false, eval e X.env) :: starEach [] X.env := by rfl) : DE X (.Call (.Name "int" p) [e] [] pos) (sCB (g1 intD) fs) := de_callTy call_intA (calld_1 und_int) hg hm (by decide +kernel) ha (he := he)
theorem de_str1 (hg : Gl X "str") (hm : X.mg "str" = none) (ha : DA X [e] fs) (he : starEach [e] X.env = (false, eval e X.env) :: starEach [] X.env := by rfl) : DE X (.Call (.Name "str" p) [e] [] pos) (sCB (g1 strD) fs) := de_callTy call_strA (calld_1 und_str) hg hm (by decide +kernel) ha (he := he)
theorem de_list1 (hg : Gl X "list") (hm : X.mg "list" = none) (ha : DA X [e] fs) (he : starEach [e] X.env = (false, eval e X.env) :: starEach [] X.env := by rfl) : DE X (.Call (.Name "list" p) [e] [] pos) (sCB (g1 listD) fs) := de_callTy call_listA (calld_1 und_list) hg hm (by decide +kernel) ha (he := he)
theorem de_tuple1 (hg : Gl X "tuple") (hm : X.mg "tuple" = none) (ha : DA X [e] fs) (he : starEach [e] X.env = (false, eval e X.env) :: starEach [] X.env := by rfl) : DE X (.Call (.Name "tuple" p) [e] [] pos) (sCB (g1 tupleD) fs) := de_callTy call_tupleA (calld_1 und_tuple) hg hm (by decide +kernel) ha (he := he)
theorem de_sum (hc : X.calm = true) (hg : Gl X "sum") (hm : X.mg "sum" = none) (ha : DA X [e] fs) (he : starEach [e] X.env = (false, eval e X.env) :: starEach [] X.env := by rfl) : DE X (.Call (.Name "sum" p) [e] [] pos) (sCB (g1 sumD) fs) := de_callB (call_1 (cr_sum hc)) (calld_1 und_sum) hg hm (by decide +kernel) ha (he := he)
theorem de_all (hc : X.calm = true) (hg : Gl X "all") (hm : X.mg "all" = none) (ha : DA X [e] fs) (he : starEach [e] X.env = (false, eval e X.env) :: starEach [] X.env := by rfl) : DE X (.Call (.Name "all" p) [e] [] pos) (sCB (g1 allD) fs) := de_callB (call_1 (cr_all hc)) (calld_1 und_all) hg hm (by decide +kernel) ha (he := he)
theorem de_any (hc : X.calm = true) (hg : Gl X "any") (hm : X.mg "any" = none) (ha : DA X [e] fs) (he : starEach [e] X.env = (false, eval e X.env) :: starEach [] X.env := by rfl) : DE X (.Call (.Name "any" p) [e] [] pos) (sCB (g1 anyD) fs) := de_callB (call_1 (cr_any hc)) (calld_1 und_any) hg hm (by decide +kernel) ha (he := he)
theorem de_max1 (hc : X.calm = true) (hg : Gl X "max") (hm : X.mg "max" = none) (ha : DA X [e] fs) (he : starEach [e] X.env = (false, eval e X.env) :: starEach [] X.env := by rfl) : DE X (.Call (.Name "max" p) [e] [] pos) (sCB (g1 maxD) fs) := de_callB (call_1 (cr_max hc)) (calld_1 und_max) hg hm (by decide +kernel) ha (he := he)
theorem de_min1 (hc : X.calm = true) (hg : Gl X "min") (hm : X.mg "min" = none) (ha : DA X [e] fs) (he : starEach [e] X.env = (false, eval e X.env) :: starEach [] X.env := by rfl) : DE X (.Call (.Name "min" p) [e] [] pos) (sCB (g1 minD) fs) := de_callB (call_1 (cr_min hc)) (calld_1 und_min) hg hm (by decide +kernel) ha (he := he)
theorem de_max2 (hc : X.calm = true) (hg : Gl X "max") (hm : X.mg "max" = none) (ha : DA X [e, e2] fs) (he : starEach [e, e2] X.env = (false, eval e X.env) :: starEach [e2] X.env := by rfl) (hpl : (backTo pos (starEach [e2] X.env)).any (·.1) = false := by rfl) : DE X (.Call (.Name "max" p) [e, e2] [] pos) (sCB (g2 max2D) fs) := de_callB (call_max2 hc) calld_max2 hg hm (by decide +kernel) ha (he := he) (hpl := hpl)
theorem de_min2 (hc : X.calm = true) (hg : Gl X "min") (hm : X.mg "min" = none) (ha : DA X [e, e2] fs) (he : starEach [e, e2] X.env = (false, eval e X.env) :: starEach [e2] X.env := by rfl) (hpl : (backTo pos (starEach [e2] X.env)).any (·.1) = false := by rfl) : DE X (.Call (.Name "min" p) [e, e2] [] pos) (sCB (g2 min2D) fs) := de_callB (call_min2 hc) calld_min2 hg hm (by decide +kernel) ha (he := he) (hpl := hpl)
theorem de_divmod (hg : Gl X "divmod") (hm : X.mg "divmod" = none) (ha : DA X [e, e2] fs) (he : starEach [e, e2] X.env = (false, eval e X.env) :: starEach [e2] X.env := by rfl) (hpl : (backTo pos (starEach [e2] X.env)).any (·.1) = false := by rfl) : DE X (.Call (.Name "divmod" p) [e, e2] [] pos) (sCB (g2 divmodD) fs) := de_callB call_divmod calld_divmod hg hm (by decide +kernel) ha (he := he) (hpl := hpl)
end
end DL

/-! DLg: names that own lists; isinstance; in; defs, calls. -/
namespace DL
open PySem PySem.Spec L2

/-! ### a name that owns a list: it is read without being left to others -/
theorem at_le {K : PySem.W.Frag} {F H : Hp} {v : V} {d : D} {x : Val} (hF : Same F H) (a : At K F v d) (h : lenD d = some x) : ∃ n : Nat, LenV K v H n ∧ x = .sh (.int n) := by
  match d, a, h with
  | .lst ds, .lst (vs := us) h1 k1, h => cases h; exact ⟨us.length, .inl ⟨us, hF.seq (.of h1), rfl⟩, by rw [k1.length]⟩
  | .scr ds, .scr (vs := us) h1 k1, h => cases h; exact ⟨us.length, .inl ⟨us, hF.seq h1, rfl⟩, by rw [k1.length]⟩
  | .tup ds, .tup (vs := us) h1 k1, h => cases h; exact ⟨us.length, .inr ⟨us, sameT hF h1, rfl⟩, by rw [k1.length]⟩
  | .str z, .str _, h =>
    have hx : (if z.length ≤ 10000000 then some (Val.sh (.int z.length)) else none) = some x := h
    split at hx
    · rename_i hz
      cases hx
      exact ⟨z.length, ⟨sz_of hz, rfl⟩, rfl⟩
    · cases hx
theorem own_le {K : PySem.W.Frag} {F H : Hp} (hF : Same F H) : ∀ {y : Val} {v : V} {f : List Addr} {x : Val}, Own K F H v y f → lenD y.fz = some x → ∃ n : Nat, LenV K v H n ∧ x = .sh (.int n)
  | _, _, _, _, .sh a, h => at_le hF a (by rw [Val.fz] at h; exact h)
  | _, _, _, _, .lst (vs := us) h1 h2 h3, h => by
    rw [Val.fz] at h
    cases h
    exact ⟨us.length, .inl ⟨us, .of h2, rfl⟩, by rw [h3.length, fzs_map, List.length_map]⟩
  | _, _, _, _, .tup (vs := us) h1 h2 h3, h => by
    rw [Val.fz] at h
    cases h
    exact ⟨us.length, .inr ⟨us, .of h2, rfl⟩, by rw [h3.length, fzs_map, List.length_map]⟩
  | _, _, _, _, .dic _ _ _ _ _, h => by rw [Val.fz] at h; cases h
  | _, _, _, _, .dicL _ _ _ _ _ _ _, h => by rw [Val.fz] at h; cases h
  | _, _, _, _, .obj _ _ _ _, h => by rw [Val.fz] at h; cases h
  | _, _, _, _, .at a, h => own_le hF a (by rw [Val.fz] at h; exact h)
  | _, _, _, _, .dcv _ _ _ _ _, h => by rw [Val.fz] at h; cases h
def sLenV (i : Nat) : DEnv → R Val := fun ρ => match getV ρ[i]? with
  | some (.lst xs) => .ok (.sh (.int xs.length)) ρ
  | some x => liftO (lenD x.fz) ρ
  | none => .bad
def ixV (x : Val) (e : D) : Option D := match x, e with
  | .lst xs, .int i => (atI xs i).bind fun y => match y with
    | .sh d => some d
    | _ => none
  | .tup xs, .int i => (atI xs i).bind fun y => match y with
    | .sh d => some d
    | _ => none
  | .sh d, e => match ixD d e with
    | some (.sh d) => some d
    | _ => none
  | _, _ => none
/-- x[e], x a name -/
def sIxV (i : Nat) (f : DEnv → R Val) : DEnv → R Val := fun ρ => match getV ρ[i]? with
  | none => .bad
  | some _ => (f ρ).bind fun y ρ1 => match getV ρ1[i]? with
    | none => .bad
    | some x => liftO ((ixV x y.fz).map .sh) ρ1
/-- x.append(e) -/
def sApp (i : Nat) (f : DEnv → R Val) : DEnv → Fl := fun ρ => match getV ρ[i]? with
  | some (.lst _) => (f ρ).fl fun y ρ1 => match getV ρ1[i]? with
    | some (.lst xs) => if xs.length < 10000000 then .nx (ρ1.set i (some (.lst (xs ++ [y])))) else .bad
    | _ => .bad
  | _ => .bad
/-- x[k] = e -/
def setIx (i : Nat) (y : Val) (k : D) (ρ : DEnv) : Fl := match getV ρ[i]?, k with
  | some (.lst xs), .int n => match ixN xs.length n with
    | some j => .nx (ρ.set i (some (.lst (xs.set j y))))
    | none => .bad
  | _, _ => .bad
def ownsL (i : Nat) (ρ : DEnv) : Bool := match getV ρ[i]? with
  | some (.lst _) => true
  | _ => false
def sSetIx (i : Nat) (fk fe : DEnv → R Val) : DEnv → Fl := fun ρ => (fe ρ).fl fun y ρ1 => if ownsL i ρ1 = true then (fk ρ1).fl fun k ρ2 => setIx i y k.fz ρ2 else .bad
theorem ownsL_some {i : Nat} {ρ : DEnv} (h : ownsL i ρ = true) : ∃ xs, getV ρ[i]? = some (.lst xs) := by
  unfold ownsL at h
  split at h
  · exact ⟨_, by assumption⟩
  · cases h
theorem setIx_some {i : Nat} {y : Val} {k : D} {ρ : DEnv} : setIx i y k ρ = .bad ∨ ∃ xs n j, getV ρ[i]? = some (.lst xs) ∧ k = .int n ∧ ixN xs.length n = some j ∧ setIx i y k ρ = .nx (ρ.set i (some (.lst (xs.set j y)))) := by
  unfold setIx
  split
  · rename_i xs n e
    cases e2 : ixN xs.length n with
    | none => exact .inl rfl
    | some j => exact .inr ⟨_, _, j, e, rfl, e2, rfl⟩
  · exact .inl rfl
section
variable {K : PySem.W.Frag} {F0 H0 H : Hp} {σ : L2.St} {ρ : DEnv} {vs : List V} {xs ys : List Val} {i : Nat} {x : Val}
theorem Stt.peek (h : Stt K F0 H0 H σ ρ vs xs) (e : ρ[i]? = some (some x)) : ∃ v, σ[i]? = some (some v) ∧ ∃ F f, Same F H ∧ Own K F H v x f ∧ (∀ as ds, Ats K F as ds → Stt K F0 H0 H σ ρ (as ++ vs) (ds.map .sh ++ xs)) := by
  obtain ⟨F, f, g, h1, h2, h3, h4, h5, h6, h7, h8⟩ := h
  obtain ⟨v, g1, r, k1, k2, k3, k4⟩ := Sl.take i h5 e
  refine ⟨v, k1, F, g1, h3, k2, fun as ds k => ?_⟩
  obtain ⟨g3, c1, c2, c3⟩ := (Owns.of_ats (H := H) k).append h6
  have s : Sb (g3 ++ f) (g ++ f) := Sb.app (by simpa using c2) (.refl f)
  exact ⟨F, f, g3, h1, h2, h3, h4, h5, c1, s.2 h7, fun b hb => h8 b (s.1 b hb)⟩
end
theorem owns_at {K : PySem.W.Frag} {F H : Hp} : ∀ {vs : List V} {xs : List Val} {f : List Addr}, Owns K F H vs xs f → ∀ {j : Nat} {d : D}, xs[j]? = some (.sh d) → ∃ v, vs[j]? = some v ∧ At K F v d
  | _, _, _, .nil, _, _, e => by simp at e
  | _, _, _, .cons (.sh a) _, 0, d, e => by simp at e; subst e; exact ⟨_, rfl, a⟩
  | _, _, _, .cons (.lst _ _ _) _, 0, d, e => by simp at e
  | _, _, _, .cons (.tup _ _ _) _, 0, d, e => by simp at e
  | _, _, _, .cons (.dic _ _ _ _ _) _, 0, d, e => by simp at e
  | _, _, _, .cons (.dicL _ _ _ _ _ _ _) _, 0, d, e => by simp at e
  | _, _, _, .cons (.obj _ _ _ _) _, 0, d, e => by simp at e
  | _, _, _, .cons (.at _) _, 0, d, e => by simp at e
  | _, _, _, .cons (.dcv _ _ _ _ _) _, 0, d, e => by simp at e
  | _, _, _, .cons _ t, j + 1, d, e => by
    obtain ⟨v, h1, h2⟩ := owns_at t (j := j) (d := d) (by simpa using e)
    exact ⟨v, by simpa using h1, h2⟩
section
variable {X : Cx} {a b e : Expr} {fa fb f : DEnv → R Val} {pos p apos : Pos} {x : Str} {i : Nat}
theorem pv_look {σ : L2.St} {v : V} (h : σ[i]? = some (some v)) {H : Hp} {Q : VK} (q : Q v H) : tVar i σ H Q := ⟨v, h, q⟩
theorem de_lenV (hg : Gl X "len") (hm : X.mg "len" = none) {q : Pos} (hx : PE X (.Name x q) (tVar i)) (he : starEach [.Name x q] X.env = (false, eval (.Name x q) X.env) :: starEach [] X.env := by rfl) : DE X (.Call (.Name "len" p) [.Name x q] [] pos) (sLenV i) :=
  PE.imp (pe_callB call_len1 hg hm (by decide +kernel) (pa_cons hx pa_nil he) (he := he)) fun σ H Q ⟨F0, H0, ρ, vs, xs, s, q⟩ => by
    unfold sLenV at q
    cases e : getV ρ[i]? with
    | none => rw [e] at q; exact q.elim
    | some y =>
      rw [e] at q
      obtain ⟨v, k1, F, f, hF, ho, t⟩ := s.peek (getV_some e)
      refine ⟨v, k1, v, rfl, ?_⟩
      cases ho with
      | @sh vv dd a =>
        have q' : post X F0 H0 vs xs (fun x ρ' => ∀ H' v, Stt X.K F0 H0 H' σ ρ' (v :: vs) (x :: xs) → Q v H') (liftO (lenD dd) ρ) := q
        cases e2 : lenD dd with
        | none => rw [e2] at q'; exact q'.elim
        | some z =>
          rw [e2] at q'
          obtain ⟨n, h1, rfl⟩ := at_le hF a e2
          exact ⟨n, h1, q' H _ (s.scal fun _ => .int _)⟩
      | @lst pp us zs ff h1 h2 h3 =>
        exact ⟨us.length, .inl ⟨us, .of h2, rfl⟩, by rw [h3.length]; exact q H _ (s.scal fun _ => .int _)⟩
      | @tup pp us zs ff h1 h2 h3 =>
        have q' : post X F0 H0 vs xs (fun x ρ' => ∀ H' v, Stt X.K F0 H0 H' σ ρ' (v :: vs) (x :: xs) → Q v H') (liftO (lenD (.tup (fzs zs))) ρ) := q
        refine ⟨us.length, .inr ⟨us, .of h2, rfl⟩, q' H _ ?_⟩
        have e3 : us.length = (fzs zs).length := by rw [h3.length, fzs_map, List.length_map]
        rw [e3]
        exact s.scal fun _ => .int _
      | dic => exact (show False from q).elim
      | dicL => exact (show False from q).elim
      | obj => exact (show False from q).elim
      | dcv => exact (show False from q).elim
      | @«at» pp9 x9 ff9 h9 =>
        have q' : post X F0 H0 vs xs (fun x ρ' => ∀ H' v, Stt X.K F0 H0 H' σ ρ' (v :: vs) (x :: xs) → Q v H') (liftO (lenD x9.fz) ρ) := q
        cases e2 : lenD x9.fz with
        | none => rw [e2] at q'; exact q'.elim
        | some z =>
          rw [e2] at q'
          obtain ⟨n, h1, rfl⟩ := own_le hF h9 e2
          exact ⟨n, h1, q' H _ (s.scal fun _ => .int _)⟩
theorem de_ixV {q : Pos} (hx : PE X (.Name x q) (tVar i)) (hb : DE X b fb) (hs : PlainIx b := by exact fun _ _ => rfl) : DE X (.Subscript (.Name x q) b pos) (sIxV i fb) :=
  PE.imp (pe_ix ix_seq hx hb hs) fun σ H Q ⟨F0, H0, ρ, vs, xs, s, q⟩ => by
    unfold sIxV at q
    cases e0 : getV ρ[i]? with
    | none => rw [e0] at q; exact q.elim
    | some y0 =>
      rw [e0] at q
      obtain ⟨v, k0, _⟩ := s.peek (getV_some e0)
      refine ⟨v, k0, F0, H0, ρ, vs, xs, s, (post_bind q).imp (fun y ρ1 q1 H1 w s1 => ?_) fun _ _ z => z⟩
      cases e : getV ρ1[i]? with
      | none => rw [e] at q1; exact q1.elim
      | some z =>
        rw [e] at q1
        obtain ⟨v', k1, F, f, hF, ho, t⟩ := s1.fz.peek (getV_some e)
        have ev : v' = v := by rw [k0] at k1; cases k1; rfl
        subst ev
        cases e2 : ixV z y.fz with
        | none => simp only [e2] at q1; exact q1.elim
        | some d =>
          simp only [e2] at q1
          have ew : ∀ j, y.fz = .int j → w = .int j := fun j hj => by
            obtain ⟨F', _, a, _⟩ := s1.fz.oneT
            rw [hj] at a
            cases a
            rfl
          cases ho with
          | @lst pp us zs ff h1 h2 h3 =>
            match hy : y.fz, e2 with
            | .int j, e2 =>
              have e3 : ((atI zs j).bind fun y => match y with | .sh d => some d | _ => none) = some d := e2
              obtain ⟨u, e4, e5⟩ := Option.bind_eq_some_iff.mp e3
              cases u with
              | lst _ => cases e5
              | tup _ => cases e5
              | dic _ _ => cases e5
              | obj _ _ _ => cases e5
              | «at» _ _ => cases e5
              | dcv _ _ => cases e5
              | sh d' =>
                cases e5
                unfold atI at e4
                obtain ⟨n, e6, e7⟩ := Option.bind_eq_some_iff.mp e4
                obtain ⟨u, e8, a⟩ := owns_at h3 e7
                have s2 := (t [u] _ (.one a))
                refine .inl ⟨pp, us, j, u, rfl, ew j hy, .of h2, ?_, q1 H1 _ ?_⟩
                · unfold atI
                  rw [h3.length, e6]
                  exact e8
                · exact (Stt.turn (as := [u]) (bs := [.sh _]) rfl s2).pop
          | @obj pp9 C9 dx9 ns9 us9 ds9 _ _ _ _ =>
            have e9 : ∀ e : D, ixV (.obj C9 ns9 ds9) e = none := fun e => by cases e <;> rfl
            rw [e9] at e2
            cases e2
          | @dcv pp9 kk9 vs9 xs9 ff9 _ _ _ _ _ =>
            have e9 : ∀ e : D, ixV (.dcv kk9 xs9) e = none := fun e => by cases e <;> rfl
            rw [e9] at e2
            cases e2
          | @«at» pp9 x9 ff9 =>
            have e9 : ∀ e : D, ixV (.at pp9 x9) e = none := fun e => by cases e <;> rfl
            rw [e9] at e2
            cases e2
          | @dicL pp us bb ff uu oo =>
            have e9 : ∀ e : D, ixV (.dic bb ff) e = none := fun e => by cases e <;> rfl
            rw [e9] at e2
            cases e2
          | @dic pp us bb ff =>
            have e9 : ∀ e : D, ixV (.dic bb ff) e = none := fun e => by cases e <;> rfl
            rw [e9] at e2
            cases e2
          | @sh vv dd a =>
            have e3 : (match ixD dd y.fz with | some (.sh d) => some d | _ => none) = some d := e2
            cases e4 : ixD dd y.fz with
            | none => rw [e4] at e3; cases e3
            | some u =>
              rw [e4] at e3
              match u, e3, e4 with
              | .sh d', e3, e4 =>
                cases e3
                have s2 : Stt X.K F0 H0 H1 σ ρ1 (w :: v' :: vs) (.sh y.fz :: .sh dd :: xs) := Stt.turn' (as := [w]) (bs := [.sh y.fz]) rfl (t [v'] [dd] (.one a))
                exact opd_ix F0 H0 H1 σ ρ1 vs xs v' w dd y.fz Q s2 ⟨_, e4, q1⟩
          | @tup pp us zs ff h1 h2 h3 =>
            match hy : y.fz, e2 with
            | .int j, e2 =>
              have e3 : ((atI zs j).bind fun y => match y with | .sh d => some d | _ => none) = some d := e2
              obtain ⟨u, e4, e5⟩ := Option.bind_eq_some_iff.mp e3
              cases u with
              | lst _ => cases e5
              | tup _ => cases e5
              | dic _ _ => cases e5
              | obj _ _ _ => cases e5
              | «at» _ _ => cases e5
              | dcv _ _ => cases e5
              | sh d' =>
                cases e5
                unfold atI at e4
                obtain ⟨n, e6, e7⟩ := Option.bind_eq_some_iff.mp e4
                obtain ⟨u, e8, a⟩ := owns_at h3 e7
                have s2 := (t [u] _ (.one a))
                refine .inr (.inl ⟨pp, us, j, u, rfl, ew j hy, .of h2, ?_, q1 H1 _ ?_⟩)
                · unfold atI
                  rw [h3.length, e6]
                  exact e8
                · exact (Stt.turn (as := [u]) (bs := [.sh _]) rfl s2).pop
theorem ds_app {q : Pos} (hb : PE X (.Call (.Attribute (.Name x q) "append" apos) [e] [] p) (tBM X.K "list" rAppend (tVar i) (tCons (tE X fb) tNil)))
    (hs : swapsWith (.Call (.Attribute (.Name x q) "append" apos) [e] [] p) none pos.line X.env = pure false := by rfl) :
    DS X (.Expr (.Call (.Attribute (.Name x q) "append" apos) [e] [] p) pos) (sApp i fb) :=
  PS.imp (ps_expr hb hs) fun D σ H ⟨F0, H0, ρ, vs, xs, s, q⟩ => by
    unfold sApp at q
    match e0 : getV ρ[i]?, q with
    | some (.lst xs0), q =>
      obtain ⟨v, k0, F, f, hF, ho, _⟩ := s.peek (getV_some e0)
      cases ho with
      | @lst pp us zs ff h1 h2 h3 =>
        refine ⟨_, k0, .inl ⟨rfl, us, .of h2⟩, F0, H0, ρ, vs, xs, s, (post_fl q).imp (fun y ρ1 q1 H1 w s1 => ?_) fun _ _ z => z⟩
        match e1 : getV ρ1[i]?, q1 with
        | some (.lst xs1), q1 =>
          have q1 : fpost X F0 H0 vs xs D (if xs1.length < 10000000 then .nx (ρ1.set i (some (.lst (xs1 ++ [y])))) else .bad) := q1
          split at q1
          · rename_i hz
            obtain ⟨p1, ws, c1, c2, c3, c4⟩ := Stt.edit (as := [w]) (bs := [y]) rfl s1 (getV_some e1)
            have ep : p1 = pp := by rw [k0] at c1; cases c1; rfl
            subst ep
            refine ⟨p1, ws, w, rfl, rfl, c2, by rw [c3, sizeLine_eq]; omega, q1 σ _ ?_⟩
            exact c4 (ws ++ [w]) (xs1 ++ [y]) [] [] fun F H f hO => ⟨f, [], hO, .nil, by rw [List.append_nil]; exact .refl f⟩
          · exact q1.elim
theorem owns_set {K : PySem.W.Frag} {F H : Hp} {w : V} {y : Val} : ∀ {vs : List V} {xs : List Val} {f : List Addr} (j : Nat), j < xs.length → Owns K F H (vs ++ [w]) (xs ++ [y]) f → vs.length = xs.length → ∃ f1, Owns K F H (vs.set j w) (xs.set j y) f1 ∧ Sb f1 f
  | [], [], _, _, hj, _, _ => by simp at hj
  | v :: vs, x :: xs, _, 0, _, .cons (f := f1) (g := f2) a t, hl => by
    obtain ⟨g1, g2, h1, h2, h3, _⟩ := Owns.split (by simpa using hl) t
    cases h2 with
    | @cons _ _ _ _ g3 _ b n =>
      cases n
      refine ⟨_, .cons b h1, ?_⟩
      have p : Sb (g3 ++ g1) (g1 ++ (g3 ++ [])) := by rw [List.append_nil]; exact .comm _ _
      exact (p.trans h3).trans (.right _ _)
  | v :: vs, x :: xs, _, j + 1, hj, .cons (f := f1) a t, hl => by
    obtain ⟨f2, h1, h2⟩ := owns_set j (by simpa using hj) t (by simpa using hl)
    exact ⟨_, .cons a h1, (Sb.refl f1).app h2⟩
theorem ds_setIx {q qpos : Pos} (hg : PG X (.Subscript (.Name x q) a qpos) (gSub (tVar i) (tE X fa) rSetL)) (he : DE X e fb)
    (hs : swapsWithSole [.Subscript (.Name x q) a qpos] e pos.line X.env = pure false := by rfl) (hw : swappedStores [.Subscript (.Name x q) a qpos] e X.env = pure none := by rfl)
    (h1 : (assignEach [.Subscript (.Name x q) a qpos] X.env).map (·.2) = [assign (.Subscript (.Name x q) a qpos) X.env] := by rfl)
    :
    DS X (.Assign [.Subscript (.Name x q) a qpos] e pos) (sSetIx i fa fb) :=
  PS.imp (ps_asg he hg hs hw h1) fun D σ H ⟨F0, H0, ρ, vs, xs, s, q⟩ => by
    refine ⟨F0, H0, ρ, vs, xs, s, (post_fl q).imp (fun y ρ1 q1 H1 w s1 => ?_) fun _ _ z => z⟩
    split at q1
    rotate_left
    · exact q1.elim
    rename_i ho1
    obtain ⟨xs0, e0⟩ := ownsL_some ho1
    obtain ⟨v, k0, F, f, hF, ho, _⟩ := s1.peek (getV_some e0)
    cases ho with
    | @lst pp us zs ff h1 h2 h3 =>
      refine ⟨_, k0, F0, H0, ρ1, _, _, s1, (post_fl q1).imp (fun k ρ2 q2 H2 kk s2 => ?_) fun _ _ z => z.more⟩
      rcases setIx_some (i := i) (y := y) (k := k.fz) (ρ := ρ2) with e1 | ⟨xs1, n, j, e1, hk, e2, e3⟩
      · rw [e1] at q2; exact q2.elim
      · rw [e3] at q2
        obtain ⟨F', _, ak, _⟩ := s2.fz.oneT
        rw [hk] at ak
        cases ak
        obtain ⟨p1, ws, c1, c2, c3, c4⟩ := Stt.edit (as := [w]) (bs := [y]) rfl s2.pop (getV_some e1)
        have ep : p1 = pp := by rw [k0] at c1; cases c1; rfl
        subst ep
        have hj := (ixN_seq e2).2.1
        refine ⟨p1, ws, n, j, rfl, rfl, c2, by rw [c3]; exact e2, q2 σ _ ?_⟩
        refine c4 (ws.set j w) (xs1.set j y) [] [] fun F H f hO => ?_
        obtain ⟨f1, o1, o2⟩ := owns_set j hj hO c3
        exact ⟨f1, [], o1, .nil, by rw [List.append_nil]; exact o2⟩
end

/-! ### isinstance of built-in classes -/
inductive BT where
  | int | bool | str | list | tuple
def BT.nm : BT → String
  | .int => "int" | .bool => "bool" | .str => "str" | .list => "list" | .tuple => "tuple"
def D.isB : BT → D → Option Bool
  | .int, .int _ => some true
  | .int, .bl _ => some true
  | .bool, .bl _ => some true
  | .str, .str _ => some true
  | .list, .lst _ => some true
  | .list, .scr _ => some true
  | .tuple, .tup _ => some true
  | _, .ins _ _ _ => none
  | _, .junk => none
  | _, .exn _ _ _ _ => none
  | _, .dct _ _ => none
  | _, _ => some false
def isiD (T : BT) : D → Option Val := fun d => (d.isB T).map fun b => .sh (.bl b)
section
variable {X : Cx} {e : Expr} {f : DEnv → R Val} {p pos q : Pos}
theorem und_isi (T : BT) : UnD X (fun x H Q => rIsi X.K [x, .ty T.nm] H Q) (isiD T) := fun F0 H0 H σ ρ vs xs v d Q s ⟨x, hx, q⟩ => by
  obtain ⟨F, hF, a, t⟩ := s.oneT
  obtain ⟨b, e1, rfl⟩ := Option.map_eq_some_iff.mp hx
  have fin : ∀ t : String, kitB t T.nm = some b → TyX X.K H v (.type t) → rIsi X.K [v, .ty T.nm] H Q := fun t h1 h2 =>
    ⟨v, .ty T.nm, .type t, .type T.nm, b, rfl, .ty _, h2, kit_ty h1, q H _ (s.pop.scal fun F => .bl _)⟩
  have tl : ∀ {a : Addr} {us : List V}, SqL X.K F a us → TyX X.K H (.ref a) (.type "list") := fun h => by
    rcases hF.seq h with (h | ⟨o, h⟩) | ⟨o, its, n, h1, h2, _⟩
    · exact .base (.lst h)
    · exact .base (.frz h)
    · exact .kList h1 h2
  have tt : ∀ {a : Addr} {us : List V}, TupAt X.K F a us → TyX X.K H (.ref a) (.type "tuple") := fun h => by
    rcases sameT hF h with (h | ⟨o, h⟩) | ⟨o, its, n, h1, h2, _⟩
    · exact .base (.tup h)
    · exact .fTuple h
    · exact .kTuple h1 h2
  cases a with
  | non => exact fin "NoneType" (by cases T <;> cases e1 <;> decide +kernel) (.base .non)
  | bl k => exact fin "bool" (by cases T <;> cases e1 <;> decide +kernel) (.base (.bl k))
  | int i => exact fin "int" (by cases T <;> cases e1 <;> decide +kernel) (.base (.int i))
  | str z => exact fin "str" (by cases T <;> cases e1 <;> decide +kernel) (.base (.str z))
  | lst h1 h2 => exact fin "list" (by cases T <;> cases e1 <;> decide +kernel) (tl (.of h1))
  | scr h1 h2 => exact fin "list" (by cases T <;> cases e1 <;> decide +kernel) (tl h1)
  | tup h1 h2 => exact fin "tuple" (by cases T <;> cases e1 <;> decide +kernel) (tt h1)
  | ins _ _ _ => cases T <;> cases e1
  | junk _ => cases T <;> cases e1
  | exn _ _ _ _ => cases T <;> cases e1
  | dct => cases T <;> cases e1
theorem de_isi (T : BT) {y : Str} (hg : Gl X "isinstance") (hm : X.mg "isinstance" = none) (he : DE X e f) (hy : PE X (.Name y q) (tC (.ty T.nm)))
    (h1 : starEach [e, .Name y q] X.env = (false, eval e X.env) :: starEach [.Name y q] X.env := by rfl) (h2 : starEach [.Name y q] X.env = (false, eval (.Name y q) X.env) :: starEach [] X.env := by rfl) (h3 : (backTo pos (starEach [.Name y q] X.env)).any (·.1) = false := by rfl) :
    DE X (.Call (.Name "isinstance" p) [e, .Name y q] [] pos) (sUn (isiD T) f) :=
  PE.imp (pe_callB call_isi hg hm (by decide +kernel) (pa_cons he (pa_cons hy pa_nil h2) h1) (he := h1) (hpl := h3)) fun σ H Q h => tE_un (und_isi T) h
end

/-! ### in -/
def inL (n : Bool) : D → D → Option Val := fun d e => match e with
  | .lst xs => if d.ok 20 && xs.all (D.ok 19) then some (.sh (.bl (n != xs.any fun y => y.eqv d))) else none
  | .tup xs => if d.ok 20 && xs.all (D.ok 19) then some (.sh (.bl (n != xs.any fun y => y.eqv d))) else none
  | _ => none
def inS (n : Bool) : D → D → Option Val := fun d e => match d, e with
  | .str ⟨⟨[c]⟩⟩, .str z => some (.sh (.bl (n != decide (c ∈ z.cps.toList))))
  | _, _ => none
def rInP (K : PySem.W.Frag) (n : Bool) : R2 := fun x y H Q => ∃ d ds, Dp K H x d ∧ (Dp K H y (.list ds) ∨ Dp K H y (.tuple ds)) ∧ d.plain = true ∧ PyData.plainAll ds = true ∧ d.depth ≤ 20 ∧ Q (.bl (n != ds.any fun z => PyData.eqv z d)) H
section
variable {X : Cx} {a b : Expr} {fa fb : DEnv → R Val} {pos : Pos}
theorem op_inP (hu : X.A.units + 64 < cLine) : OpR X (compareOp .In) (rInP X.K false) := by
  intro pins s σ H x y v u Q I rx ry h
  obtain ⟨d, ds, hd, he, sd, se, dd, q⟩ := h
  obtain ⟨as, r1⟩ := Dp.reads I d x v hd rx
  have hm : min (PyData.depthAll ds) d.depth ≤ d.depth := Nat.min_le_right _ _
  rcases he with he | he
  · obtain ⟨bs, r2⟩ := Dp.reads I (.list ds) y u he ry
    exact PySem.SeqAt.in_list_data r2 r1 se sd (by omega) ⟨.bl _, H, I, rfl, by simpa using q⟩
  · obtain ⟨bs, r2⟩ := Dp.reads I (.tuple ds) y u he ry
    exact PySem.SeqAt.in_tuple_data r2 r1 se sd (by omega) ⟨.bl _, H, I, rfl, by simpa using q⟩
theorem op_notInP (hu : X.A.units + 64 < cLine) : OpR X (compareOp .NotIn) (rInP X.K true) := by
  intro pins s σ H x y v u Q I rx ry h
  obtain ⟨d, ds, hd, he, sd, se, dd, q⟩ := h
  obtain ⟨as, r1⟩ := Dp.reads I d x v hd rx
  have hm : min (PyData.depthAll ds) d.depth ≤ d.depth := Nat.min_le_right _ _
  rcases he with he | he
  · obtain ⟨bs, r2⟩ := Dp.reads I (.list ds) y u he ry
    exact PySem.SeqAt.notIn_list_data r2 r1 se sd (by omega) ⟨.bl _, H, I, rfl, by simpa using q⟩
  · obtain ⟨bs, r2⟩ := Dp.reads I (.tuple ds) y u he ry
    exact PySem.SeqAt.notIn_tuple_data r2 r1 se sd (by omega) ⟨.bl _, H, I, rfl, by simpa using q⟩
theorem pys_map (xs : List D) : pys xs = xs.map D.py := by
  induction xs with
  | nil => rfl
  | cons x xs ih => rw [pys, ih, List.map_cons]
theorem opd_in (n : Bool) : OpD X (rInP X.K n) (inL n) := fun F0 H0 H σ ρ vs xs v w d e Q s ⟨x, hx, q⟩ => by
  obtain ⟨F, hF, a, b, t⟩ := s.two
  have any_eq : ∀ ys : List D, ((pys ys).any fun z => PyData.eqv z d.py) = ys.any fun y => y.eqv d := fun ys => by rw [pys_map, List.any_map]; rfl
  match e, b, hx with
  | .lst ys, b, hx =>
    have hx : (if d.ok 20 && ys.all (D.ok 19) then some (Val.sh (.bl (n != ys.any fun y => y.eqv d))) else none) = some x := hx
    split at hx
    · rename_i hc
      rw [Bool.and_eq_true] at hc
      cases hx
      have k : D.ok 20 (.lst ys) = true := hc.2
      obtain ⟨p1, p2⟩ := py_ok _ _ hc.1
      obtain ⟨p3, _⟩ := py_ok _ _ k
      rw [D.py] at p3
      have hd := at_dp hF _ _ _ k b
      rw [D.py] at hd
      exact ⟨_, _, at_dp hF _ _ _ hc.1 a, .inl hd, p1, by simpa [PyData.plain] using p3, p2, q H _ (s.pop.pop.scal fun F => by rw [any_eq]; exact .bl _)⟩
    · cases hx
  | .tup ys, b, hx =>
    have hx : (if d.ok 20 && ys.all (D.ok 19) then some (Val.sh (.bl (n != ys.any fun y => y.eqv d))) else none) = some x := hx
    split at hx
    · rename_i hc
      rw [Bool.and_eq_true] at hc
      cases hx
      have k : D.ok 20 (.tup ys) = true := hc.2
      obtain ⟨p1, p2⟩ := py_ok _ _ hc.1
      obtain ⟨p3, _⟩ := py_ok _ _ k
      rw [D.py] at p3
      have hd := at_dp hF _ _ _ k b
      rw [D.py] at hd
      exact ⟨_, _, at_dp hF _ _ _ hc.1 a, .inr hd, p1, by simpa [PyData.plain] using p3, p2, q H _ (s.pop.pop.scal fun F => by rw [any_eq]; exact .bl _)⟩
    · cases hx
theorem opd_inS (n : Bool) : OpD X (fun x y H Q => ∃ (c : Nat) (z : Str), x = .str ⟨#[c]⟩ ∧ y = .str z ∧ Q (.bl (n != decide (c ∈ z.cps.toList))) H) (inS n) := fun F0 H0 H σ ρ vs xs v w d e Q s ⟨x, hx, q⟩ => by
  obtain ⟨F, hF, a, b, t⟩ := s.two
  match d, e, a, b, hx with
  | .str ⟨⟨[c]⟩⟩, .str z, .str _, .str _, hx =>
    cases hx
    exact ⟨c, z, rfl, rfl, q H _ (s.pop.pop.scal fun F => .bl _)⟩
def inD (n : Bool) : D → D → Option Val := orG (inL n) (inS n)
theorem op_inA (hu : X.A.units + 64 < cLine) : ∃ r, OpR X (compareOp .In) r ∧ OpD X r (inD false) := ⟨_, (op_inP hu).or (fun pins s σ H x y v u Q I rx ry ⟨c, z, h1, h2, h3⟩ => op_in_sign pins s σ H x y v u Q I rx ry ⟨c, z, h1, h2, by simpa using h3⟩), (opd_in false).or (opd_inS false)⟩
theorem op_notInA (hu : X.A.units + 64 < cLine) : ∃ r, OpR X (compareOp .NotIn) r ∧ OpD X r (inD true) := ⟨_, (op_notInP hu).or (fun pins s σ H x y v u Q I rx ry ⟨c, z, h1, h2, h3⟩ => op_notIn_sign pins s σ H x y v u Q I rx ry ⟨c, z, h1, h2, by simpa using h3⟩), (opd_in true).or (opd_inS true)⟩
theorem de_in (hu : X.A.units + 64 < cLine) (ha : DE X a fa) (hb : DE X b fb) (hm : behindInMarks .In b = false := by rfl) : DE X (.Compare a [.In] [b] pos) (sOp (inD false) fa fb) := let ⟨_, h1, h2⟩ := op_inA hu; de_cmp h1 h2 ha hb hm
theorem de_notIn (hu : X.A.units + 64 < cLine) (ha : DE X a fa) (hb : DE X b fb) (hm : behindInMarks .NotIn b = false := by rfl) : DE X (.Compare a [.NotIn] [b] pos) (sOp (inD true) fa fb) := let ⟨_, h1, h2⟩ := op_notInA hu; de_cmp h1 h2 ha hb hm
theorem dt_in (hu : X.A.units + 64 < cLine) (ha : DE X a fa) (hb : DE X b fb) (hm : behindInMarks .In b = false := by rfl) : DT X (.Compare a [.In] [b] pos) (sTst (sOp (inD false) fa fb)) := let ⟨_, h1, h2⟩ := op_inA hu; dt_cmp h1 h2 ha hb hm
theorem dt_notIn (hu : X.A.units + 64 < cLine) (ha : DE X a fa) (hb : DE X b fb) (hm : behindInMarks .NotIn b = false := by rfl) : DT X (.Compare a [.NotIn] [b] pos) (sTst (sOp (inD true) fa fb)) := let ⟨_, h1, h2⟩ := op_notInA hu; dt_cmp h1 h2 ha hb hm
end

/-! ### defs -/
inductive CR where
  | ret (x : Val)
  | exc (e : DExn)
  | bad
def Fl.cr : Fl → CR
  | .nx _ => .ret (.sh .non)
  | .rt x _ => .ret x
  | .exc e _ => .exc e
  | _ => .bad
def crPost (K : PySem.W.Frag) (F H : Hp) (Q : VK) (E : XK) : CR → Prop
  | .ret x => ∀ H' v, Stt K F H H' [] [] [v] [x] → Q v H'
  | .exc e => ∀ H' dx ves, Stt K F H H' [] [] ves (e.ds.map .sh) → ves.length = e.ds.length → xdOk H H' e dx ves → E (.ref e.cls) dx H'
  | .bad => False
/-- the promise of a def that does φ to data -/
def spD (K : PySem.W.Frag) (n : Nat) (φ : List D → CR) : Sp := fun vs H Q E => ∃ F ds, Same F H ∧ Ats K F vs ds ∧ ds.length = n ∧ crPost K F H Q E (φ ds)
theorem spD_len {K : PySem.W.Frag} {n : Nat} {φ : List D → CR} : ∀ vs H Q E, spD K n φ vs H Q E → vs.length = n := fun vs H Q E ⟨F, ds, hF, ha, hn, _⟩ => ha.length.trans hn
def env0 (N : Nat) (ds : List D) : DEnv := ds.map (fun d => some (.sh d)) ++ List.replicate (N - ds.length) none
section
variable {P : Program} {w : World} {K : PySem.W.Frag} {mg : Str → Option Value} {base : Heap}
/-- THE RULE for a def -/
theorem fnD {x qual : Str} {st : Stmt} {f : Addr} {fd : FuncData} {N ps : List Str} {k n : Nat} {s : DEnv → Fl} (F : Fun K x qual st f fd) (S : FnScope N ps (defScope st)) (hn : ps.length = n)
    (hbody : ∀ (cdv : Value) (A : Around) (outer : List PySem.Env) (s0 : Shared) (H : Hp) (E : XK), Room k (A.deeper (PyProof.Rows.envOfC qual (defScope st) s0.heap.objs.size f cdv)) →
      DSs (cxOf (L2.CX P w) P w K mg base N qual (defScope st) f cdv A outer s0 H E) (defBody st) s) :
    FnOk P w K mg base (L2.CX P w) (k + 1) f fd ps (spD K n fun ds => (s (env0 N.length ds)).cr) := by
  refine F.okX S (fun vs H Q E h => (spD_len vs H Q E h).trans hn.symm) fun cdv A outer s0 H vs Q E hr ⟨G, ds, hG, ha, hl, hp⟩ => ⟨_, hbody cdv A outer s0 H E hr, ?_⟩
  refine ⟨G, H, env0 N.length ds, [], [], ?_, ?_⟩
  · have q := Stt.begin hG ha (N.length - ds.length)
    unfold L2.start env0
    rw [ha.length]
    exact q
  · have tk := takes_of (X := cxOf (L2.CX P w) P w K mg base N qual (defScope st) f cdv A outer s0 H E) (E := E) rfl rfl rfl rfl
    have hp : crPost K G H Q E (s (env0 N.length ds)).cr := hp
    cases e : s (env0 N.length ds) with
    | nx ρ' =>
      rw [e] at hp
      exact fun σ' H' s1 => hp H' _ (s1.out.scal fun _ => .non)
    | rt x ρ' =>
      rw [e] at hp
      exact fun σ' H' v s1 => hp H' v s1.out
    | exc x ρ' =>
      rw [e] at hp
      intro σ' H' dx ves s1 hl hx
      rw [List.append_nil, List.append_nil] at s1
      exact okx_of tk (hp H' dx ves s1.out hl hx)
    | bk ρ' => rw [e] at hp; exact hp.elim
    | ct ρ' => rw [e] at hp; exact hp.elim
    | bad => rw [e] at hp; exact hp.elim
end
/-- another function of the same worth -/
theorem spD_imp {P : Program} {w : World} {K : PySem.W.Frag} {mg : Str → Option Value} {base : Heap} {CX : CXT} {k n : Nat} {f : Addr} {fd : FuncData} {ps : List Str} {φ ψ : List D → CR} (F : FnOk P w K mg base CX k f fd ps (spD K n φ)) (h : ∀ ds, ψ ds ≠ .bad → φ ds = ψ ds) : FnOk P w K mg base CX k f fd ps (spD K n ψ) :=
  F.imp fun vs H Q E ⟨G, ds, h1, h2, h3, h4⟩ => ⟨G, ds, h1, h2, h3, by
    rw [h ds (fun z => by rw [z] at h4; exact h4)]
    exact h4⟩
def sCall (φ : List D → CR) (n : Nat) (fs : DEnv → R (List Val)) : DEnv → R Val := fun ρ => (fs ρ).bind fun ys ρ1 => if ys.length = n then match φ (fzs ys) with
  | .ret x => .ok x ρ1
  | .exc e => .exc e ρ1
  | .bad => .bad
  else .bad
section
variable {X : Cx} {k n : Nat} {f : Addr} {fd : FuncData} {ps : List Str} {φ : List D → CR} {x : Str} {p pos : Pos} {e : Expr} {es : List Expr} {fs : DEnv → R (List Val)}
theorem cr_read {F0 H0 H : Hp} {σ : L2.St} {ρ : DEnv} {vs ws : List V} {xs ys : List Val} {Q : VK} (hl : ws.length = ys.length) (s : Stt X.K F0 H0 H σ ρ (ws ++ vs) (ys ++ xs)) (hn : ys.length = n)
    (q : post X F0 H0 vs xs (fun x ρ' => ∀ H' v, Stt X.K F0 H0 H' σ ρ' (v :: vs) (x :: xs) → Q v H') (match φ (fzs ys) with | .ret x => .ok x ρ | .exc e => .exc e ρ | .bad => .bad)) : spD X.K n φ ws H Q (WE (okx X) σ) := by
  obtain ⟨hl2, s2⟩ := s.fzsP hl
  obtain ⟨F, hF, hA, c⟩ := Stt.call hl2 s2
  refine ⟨F, fzs ys, hF, hA, by rw [fzs_map, List.length_map]; exact hn, ?_⟩
  cases e : φ (fzs ys) with
  | ret x => rw [e] at q; exact fun H' v s3 => q H' v (c H' [v] [x] s3)
  | exc x =>
    rw [e] at q
    exact fun H' dx ves s3 hl3 hx => q σ H' dx ves (c H' ves _ s3) hl3 (hx.less s.sub0)
  | bad => rw [e] at q; exact q
theorem de_call (F : FnOk X.prog X.w X.K X.mg X.base (L2.CX X.prog X.w) k f fd ps (spD X.K n φ)) (hr : Room k X.A) (hg : Gl X x) (hm : X.mg x = some (.ref f)) (hk : PySem.W.keepIn X.K (.ref f) = true) (hb : Binds X.K fd ps [])
    (ha : DA X (e :: es) fs) (hdb : (x == ("__debug__" : Str)) = false := by decide) (he : starEach (e :: es) X.env = (false, eval e X.env) :: starEach es X.env := by rfl) (hpl : (backTo pos (starEach es X.env)).any (·.1) = false := by rfl) :
    DE X (.Call (.Name x p) (e :: es) [] pos) (sCall φ n fs) :=
  PE.imp (pe_callS (E := WE (okx X)) F hr hg hm hk hb (fun σ => passAt takes_okx σ) ha hdb he hpl) fun σ H Q ⟨F0, H0, ρ, vs, xs, s, q⟩ => by
    refine ⟨F0, H0, ρ, vs, xs, s, (post_bind q).imp (fun ys ρ1 q1 H1 ws hl s1 => ?_) fun _ _ z => z⟩
    split at q1
    · exact cr_read hl s1 (by assumption) q1
    · exact q1.elim
end
end DL

/-! DLh: more that is walked; a law's start and end. -/
namespace DL
open PySem PySem.Spec L2

/-! ### range with a step -/
def rangeC (i c : Int) (n : Nat) : List D := (List.range n).map fun (k : Nat) => D.int (i + (k : Nat) * c)
theorem walk_rangeC {K : PySem.W.Frag} {F0 : Hp} {i c : Int} {n : Nat} : Walk K F0 (Itc i c n) (rangeC i c n) := fun j H hF => by
  refine ⟨fun d e => ?_, fun hi => (show n ≤ j by simpa [rangeC] using hi)⟩
  unfold rangeC at e
  rw [List.getElem?_map] at e
  cases e1 : (List.range n)[j]? with
  | none => rw [e1] at e; cases e
  | some k =>
    rw [e1] at e
    obtain ⟨h1, h2⟩ := List.getElem?_eq_some_iff.mp e1
    simp at h1 h2
    subst h2
    cases e
    refine ⟨h1, fun x H' hy H0 σ ρ vs xs s => ?_⟩
    obtain ⟨rfl, rfl⟩ := hy
    exact s.scal fun _ => .int _
def rngOk (i j c : Int) : Prop := c ≠ 0 ∧ c.natAbs < 1073741824 ∧ Builtin.Range.small i j c = true ∧ 0 ≤ Builtin.Range.rangeSize i j c
instance (i j c : Int) : Decidable (rngOk i j c) := by unfold rngOk; infer_instance
def rng3 : List D → Option (List D)
  | [.int i, .int j, .int c] => if rngOk i j c then some (rangeC i c (Builtin.Range.rangeSize i j c).toNat) else none
  | _ => none
theorem rng3_some {ds l : List D} (h : rng3 ds = some l) : ∃ i j c, ds = [.int i, .int j, .int c] ∧ rngOk i j c ∧ l = rangeC i c (Builtin.Range.rangeSize i j c).toNat := by
  unfold rng3 at h
  split at h
  · split at h
    · exact ⟨_, _, _, rfl, by assumption, (Option.some.inj h).symm⟩
    · cases h
  · cases h
section
variable {X : Cx} {tg a b c : Expr} {f : DEnv → R (List Val)} {p pos tpos : Pos} {elts : List Expr} {kk : Nat}
theorem di_range3 (hg : Gl X "range") (hm : X.mg "range" = none) (ha : DA X [a, b, c] f)
    (hs : starEach [a, b, c] X.env = (false, eval a X.env) :: starEach [b, c] X.env := by rfl) (hpl : (backTo pos (starEach [b, c] X.env)).any (·.1) = false := by rfl) : DI X tg (.Call (.Name "range" p) [a, b, c] [] pos) (sRange rng3 f) :=
  PI.imp (pi_range3 hg hm ha hs hpl) fun σ H RR ⟨F0, H0, ρ, vs, xs, s, q⟩ => by
    refine ⟨F0, H0, ρ, vs, xs, s, (post_bind q).imp (fun ys ρ1 q1 H1 ws hl s1 => ?_) fun _ _ z => z⟩
    obtain ⟨hl2, s2⟩ := s1.fzsP hl
    obtain ⟨F, hF, hA, s3, rb⟩ := Stt.rebaseAt hl2 s2
    cases e : rng3 (fzs ys) with
    | none => rw [e] at q1; exact q1.elim
    | some ds =>
      rw [e] at q1
      obtain ⟨i, j, c, ej, hb, rfl⟩ := rng3_some e
      rw [ej] at hA
      match ws, hA with
      | [_, _, _], .cons (.int _) (.cons (.int _) (.cons (.int _) .nil)) =>
        exact ⟨i, j, c, _, rfl, ⟨hb.1, hb.2.1, hb.2.2.1, (Int.toNat_of_nonneg hb.2.2.2).symm⟩, q1 F H1 _ s3 rb walk_rangeC⟩

/-! ### zip, enumerate of lists -/
def zipL : List D → List D → List D
  | x :: xs, y :: ys => .tup [x, y] :: zipL xs ys
  | _, _ => []
theorem zipL_get : ∀ {xs ys : List D} {i : Nat} {d : D}, (zipL xs ys)[i]? = some d → ∃ x y, xs[i]? = some x ∧ ys[i]? = some y ∧ d = .tup [x, y]
  | [], _, _, _, h => by simp [zipL] at h
  | _ :: _, [], _, _, h => by simp [zipL] at h
  | x :: xs, y :: ys, 0, d, h => by simp [zipL] at h; exact ⟨x, y, rfl, rfl, h.symm⟩
  | x :: xs, y :: ys, i + 1, d, h => by
    obtain ⟨a, b, h1, h2, h3⟩ := zipL_get (xs := xs) (ys := ys) (i := i) (d := d) (by simpa [zipL] using h)
    exact ⟨a, b, by simpa using h1, by simpa using h2, h3⟩
theorem zipL_len : ∀ (xs ys : List D), (zipL xs ys).length = min xs.length ys.length
  | [], _ => by simp [zipL]
  | _ :: _, [] => by simp [zipL]
  | x :: xs, y :: ys => by simp [zipL, zipL_len xs ys]
theorem walk_zip {K : PySem.W.Frag} {F0 : Hp} {a b : Addr} {us ws : List V} {ds es : List D} (h1 : SqL K F0 a us) (k1 : Ats K F0 us ds) (h2 : SqL K F0 b ws) (k2 : Ats K F0 ws es) : Walk K F0 (Itz K a b) (zipL ds es) := fun i H hF => by
  refine ⟨fun d e => ?_, fun hi => ?_⟩
  · obtain ⟨x, y, e1, e2, rfl⟩ := zipL_get e
    obtain ⟨v, f1, g1⟩ := k1.get e1
    obtain ⟨w, f2, g2⟩ := k2.get e2
    refine ⟨⟨us, ws, v, w, hF.seq h1, hF.seq h2, f1, f2⟩, fun z H' hy H0 σ ρ vs xs s => ?_⟩
    obtain ⟨T, x', y', rfl, nT, rfl, c1, c2⟩ := hy
    have ex := (c1 us (hF.seq h1)).symm.trans f1
    have ey := (c2 ws (hF.seq h2)).symm.trans f2
    have ex := Option.some.inj ex
    have ey := Option.some.inj ey
    subst ex
    subst ey
    exact Stt.newTup (as := [_, _]) (ds := [x, y]) rfl ((s.push0 g2).push0 g1) nT
  · rw [zipL_len] at hi
    refine ⟨us, ws, hF.seq h1, hF.seq h2, ?_⟩
    rw [k1.length, k2.length]
    omega
def enumL (xs : List D) : List D := zipL (rangeL 0 xs.length) xs
theorem walk_enum {K : PySem.W.Frag} {F0 : Hp} {a : Addr} {us : List V} {ds : List D} (h1 : SqL K F0 a us) (k1 : Ats K F0 us ds) : Walk K F0 (Ite K a) (enumL ds) := fun i H hF => by
  refine ⟨fun d e => ?_, fun hi => ?_⟩
  · obtain ⟨x, y, e1, e2, rfl⟩ := zipL_get e
    obtain ⟨w, f2, g2⟩ := k1.get e2
    have hx : x = .int (i : Nat) := by
      unfold rangeL at e1
      rw [List.getElem?_map] at e1
      cases e3 : (List.range ds.length)[i]? with
      | none => rw [e3] at e1; cases e1
      | some k =>
        rw [e3] at e1
        obtain ⟨_, h2⟩ := List.getElem?_eq_some_iff.mp e3
        simp at h2
        subst h2
        cases e1
        simp
    subst hx
    refine ⟨⟨us, w, hF.seq h1, f2⟩, fun z H' hy H0 σ ρ vs xs s => ?_⟩
    obtain ⟨T, x', rfl, nT, rfl, c1⟩ := hy
    have ex := (c1 us (hF.seq h1)).symm.trans f2
    have ex := Option.some.inj ex
    subst ex
    exact Stt.newTup (as := [.int (i : Nat), _]) (ds := [.int (i : Nat), y]) rfl ((s.push0 g2).scal fun _ => .int _) nT
  · unfold enumL at hi
    rw [zipL_len] at hi
    refine ⟨us, hF.seq h1, ?_⟩
    rw [k1.length]
    simp [rangeL] at hi
    exact hi
def zipD : List D → Option (List D)
  | [.lst xs, .lst ys] => some (zipL xs ys)
  | _ => none
def enumD : List D → Option (List D)
  | [.lst xs] => some (enumL xs)
  | _ => none
def sZip (f : DEnv → R (List Val)) : DEnv → R (List D) := sRange zipD f
def sEnumerate (f : DEnv → R (List Val)) : DEnv → R (List D) := sRange enumD f
theorem zipD_some {ds l : List D} (h : zipD ds = some l) : ∃ xs ys, ds = [.lst xs, .lst ys] ∧ l = zipL xs ys := by
  unfold zipD at h
  split at h
  · exact ⟨_, _, rfl, (Option.some.inj h).symm⟩
  · cases h
theorem enumD_some {ds l : List D} (h : enumD ds = some l) : ∃ xs, ds = [.lst xs] ∧ l = enumL xs := by
  unfold enumD at h
  split at h
  · exact ⟨_, rfl, (Option.some.inj h).symm⟩
  · cases h
theorem di_zip (hg : Gl X "zip") (hm : X.mg "zip" = none) (ha : DA X [a, b] f)
    (hs : starEach [a, b] X.env = (false, eval a X.env) :: starEach [b] X.env := by rfl) (hpl : (backTo pos (starEach [b] X.env)).any (·.1) = false := by rfl) : DI X (.Tuple elts kk tpos) (.Call (.Name "zip" p) [a, b] [] pos) (sZip f) :=
  PI.imp (pi_zip hg hm ha hs hpl) fun σ H RR ⟨F0, H0, ρ, vs, xs, s, q⟩ => by
    refine ⟨F0, H0, ρ, vs, xs, s, (post_bind q).imp (fun ys ρ1 q1 H1 ws hl s1 => ?_) fun _ _ z => z⟩
    obtain ⟨hl2, s2⟩ := s1.fzsP hl
    obtain ⟨F, hF, hA, s3, rb⟩ := Stt.rebaseAt hl2 s2
    cases e : zipD (fzs ys) with
    | none => rw [e] at q1; exact q1.elim
    | some ds =>
      rw [e] at q1
      obtain ⟨x1, x2, ej, rfl⟩ := zipD_some e
      rw [ej] at hA
      match ws, hA with
      | [_, _], .cons (.lst (vs := u1) h1 k1) (.cons (.lst (vs := u2) h2 k2) .nil) =>
        exact ⟨_, _, u1, u2, rfl, hF.seq (.of h1), hF.seq (.of h2), q1 F H1 _ s3 rb (walk_zip (.of h1) k1 (.of h2) k2)⟩
theorem di_enumerate (hg : Gl X "enumerate") (hm : X.mg "enumerate" = none) (ha : DA X [a] f) (hs : starEach [a] X.env = [(false, eval a X.env)] := by rfl) : DI X (.Tuple elts kk tpos) (.Call (.Name "enumerate" p) [a] [] pos) (sEnumerate f) :=
  PI.imp (pi_enum hg hm ha hs) fun σ H RR ⟨F0, H0, ρ, vs, xs, s, q⟩ => by
    refine ⟨F0, H0, ρ, vs, xs, s, (post_bind q).imp (fun ys ρ1 q1 H1 ws hl s1 => ?_) fun _ _ z => z⟩
    obtain ⟨hl2, s2⟩ := s1.fzsP hl
    obtain ⟨F, hF, hA, s3, rb⟩ := Stt.rebaseAt hl2 s2
    cases e : enumD (fzs ys) with
    | none => rw [e] at q1; exact q1.elim
    | some ds =>
      rw [e] at q1
      obtain ⟨x1, ej, rfl⟩ := enumD_some e
      rw [ej] at hA
      match ws, hA with
      | [_], .cons (.lst (vs := u1) h1 k1) .nil =>
        exact ⟨_, u1, rfl, hF.seq (.of h1), q1 F H1 _ s3 rb (walk_enum (.of h1) k1)⟩
end

/-! ### the law -/
def spLaw (K : PySem.W.Frag) : Sp := fun vs H Q _ => ∃ (a : Addr) (ns : List Int), vs = [.ref a] ∧ SqL K H a (ns.map V.int) ∧ ns.length ≤ 63 ∧ ∀ H', Q (.bl true) H'
def scrI (ns : List Int) : D := .scr (ns.map .int)
theorem ats_ints {K : PySem.W.Frag} {F : Hp} : ∀ ns : List Int, Ats K F (ns.map V.int) (ns.map .int)
  | [] => .nil
  | n :: ns => .cons (.int n) (ats_ints ns)
theorem law_fn {P : Program} {w : World} {K : PySem.W.Frag} {mg : Str → Option Value} {base : Heap} {CX : CXT} {k : Nat} {f : Addr} {fd : FuncData} {ps : List Str} {φ : List D → CR} (F : FnOk P w K mg base CX k f fd ps (spD K 1 φ))
    (h : ∀ ns : List Int, ns.length ≤ 63 → φ [scrI ns] = .ret (.sh (.bl true))) : FnOk P w K mg base CX k f fd ps (spLaw K) :=
  F.imp fun vs H Q E ⟨a, ns, e, hs, hl, q⟩ => by
    subst e
    refine ⟨H, [scrI ns], Same.refl H, .one (.scr hs (ats_ints ns)), rfl, ?_⟩
    rw [h ns hl]
    intro H' v s
    obtain ⟨F', _, a, _⟩ := s.oneT
    cases a
    exact q H'
theorem cx_false {P : Program} {w : World} {outer : List PySem.Env} {H : Hp} {s : Shared} {e : Value} {s' : Shared} (h : L2.CX P w outer H s (fun _ _ _ => False) e s') : False := by
  obtain ⟨_, _, _, _, _, _, _, _, _, _, _, _, z⟩ := h
  exact z
end DL

/-! DLi: values that nobody changes any more. -/
namespace DL
open PySem PySem.Spec L2
def sFz (f : DEnv → R Val) : DEnv → R Val := fun ρ => (f ρ).bind fun x ρ1 => .ok (.sh x.fz) ρ1
section
variable {X : Cx} {e : Expr} {f : DEnv → R Val}
theorem de_fz (h : DE X e f) : DE X e (sFz f) :=
  PE.imp h fun σ H Q ⟨F0, H0, ρ, vs, xs, s, q⟩ => ⟨F0, H0, ρ, vs, xs, s, (post_bind q).imp (fun x ρ1 q1 H1 v s1 => q1 H1 v s1.fz) fun _ _ z => z⟩
end
/-- what no script comes to -/
def sBad : DEnv → Fl := fun _ => .bad
theorem ds_bad {X : Cx} {st : Stmt} : DS X st sBad := ⟨fun pins s σ H D I ⟨_, _, _, _, _, _, q⟩ => q.elim⟩
theorem de_bad {X : Cx} {e : Expr} : DE X e (fun _ => .bad) := ⟨fun pins s σ H D I ⟨_, _, _, _, _, _, q⟩ => q.elim⟩
/-- what a module's name stands for -/
def IsC (K : PySem.W.Frag) (mg : Str → Option Value) (x : Str) (d : D) : Prop := ∃ v u, mg x = some u ∧ RelV v u ∧ ∀ F, At K F v d
theorem de_gc {X : Cx} {x : Str} {d : D} {pos : Pos} (hg : Gl X x) (h : IsC X.K X.mg x d) (hd : (x == ("__debug__" : Str)) = false := by decide) : DE X (.Name x pos) (sC d) := by
  obtain ⟨v, u, hm, r, a⟩ := h
  exact de_c (pe_glob hg hm r hd) a
section
variable {X : Cx} {tg iter elt : Expr} {ifs : List Expr} {scope : Scope} {pos spos py : Pos} {own : List (Str × Nat)} {fi : DEnv → R (List D)} {g : D → DEnv → Option DEnv} {t : DEnv → R Bool} {f : DEnv → R Val} {is : List Nat}
theorem ds_setCompF {i : Nat} {y : Str} (hc : X.calm = true) (hN : X.N.Nodup) (hy : X.N[i]? = some y) (hyl : X.env.scope.names.lookup y = some .local)
    (hsw : swapsWith (.ListComp elt [⟨tg, iter, ifs, 0⟩] scope pos) (some (.Name y py)) spos.line X.env = pure true) (hi : DI X tg iter fi) (ok : BlkOk X.N X.env.scope scope own) {os : List Nat} (ho : own.map (·.2) = os) (hsub : ∀ j, j ∈ is → j ∈ os)
    (hg : ∀ (s : Shared) (H : Hp) (C : Addr) (cl : List (Str × Addr)) (fp : List Addr), DG (X.blk s H scope (compEnvC scope cl C X.env) fp) tg is g) (ht : ∀ (s : Shared) (H : Hp) (C : Addr) (cl : List (Str × Addr)) (fp : List Addr), DTs (X.blk s H scope (compEnvC scope cl C X.env) fp) ifs t)
    (he : ∀ (s : Shared) (H : Hp) (C : Addr) (cl : List (Str × Addr)) (fp : List Addr), DE (X.blk s H scope (compEnvC scope cl C X.env) fp) elt f) (hs : ∀ x, foldedSetIterable iter X.env x = pure x := by intro _; rfl) :
    DS X (.Assign [.Name y py] (.ListComp elt [⟨tg, iter, ifs, 0⟩] scope pos) spos) (sSet i (sFz (sComp fi g t f os))) := by
  subst ho
  refine PS.imp (ps_setLc (g := tG X is g) (tt := tTN X.K t) (te := tEN X.K f) hc hN hy hyl hsw hi ok hg (fun s H C cl fp => ⟨fun pins s' σ H' Q I q => (ht s H C cl fp).run pins s' σ H' Q I (tTN_tT q)⟩) (fun s H C cl fp => ⟨fun pins s' σ H' Q I q => (he s H C cl fp).run pins s' σ H' Q I (tEN_tE q)⟩) hs) fun D σ H ⟨F0, H0, ρ, vs, xs, s, q⟩ => lc_read hsub ⟨F0, H0, ρ, vs, xs, s, ?_⟩
  have q2 := post_bind (show post X F0 H0 vs xs _ ((sComp fi g t f (own.map (·.2)) ρ).bind fun x ρ1 => R.ok (Val.sh x.fz) ρ1) from post_fl q)
  refine q2.imp (fun x ρ1 q1 H1 v s1 => ?_) fun _ _ z => z
  have q1 : fpost X F0 H0 vs xs D (if i < ρ1.length then Fl.nx (ρ1.set i (some (Val.sh x.fz))) else Fl.bad) := q1
  split at q1
  · exact q1 _ _ (s1.fz.store (by assumption))
  · exact q1.elim
end
end DL

/-! DLj: min and max of tuples; what is lent. -/
namespace DL
open PySem PySem.Spec L2
section
variable {prog : Program} {w : World} {A : Around} {E : Value → Shared → Prop} {s : Shared} {l : Addr} {xs : Array (Int × Tok)}
theorem iter_intTup {Q : Value → Shared → Prop} (hl : s.heap.IsTuple l (intItems xs))
    (h : ∀ s₂ : Shared, s₂ = { s with heap := s.heap.push { cls := .type "tuple_iterator", data := .fields #[.ref l, .int 0 0] } } →
      (s₂.heap.IsTupleIter s.heap.objs.size l 0 ∧ s₂.heap.IsTuple l (intItems xs)) → (∀ b ∈ [s.heap.objs.size, l], b < s₂.heap.objs.size) → l ≠ s.heap.objs.size → Q (.ref s.heap.objs.size) s₂) :
    wpAny (model prog w) A (pyIter (.ref l)) Q E s := by
  have hlt : l < s.heap.objs.size := by obtain ⟨_, e, _⟩ := hl; exact Heap.lt_size e
  refine wpAny_pyIter_tuple hl (h _ rfl ⟨⟨_, Heap.get?_push_size _ rfl, rfl, rfl⟩, hl.push _⟩ (fun b hb => ?_) (Nat.ne_of_lt hlt))
  show b < (s.heap.push _).objs.size
  rw [Heap.size_push]
  rcases List.mem_cons.mp hb with rfl | hb
  · exact Nat.lt_succ_self _
  · rcases List.mem_cons.mp hb with rfl | hb
    · exact Nat.lt_succ_of_lt hlt
    · cases hb
theorem max_intTup {Q : Value → Shared → Prop} (hh : A.handled = none) (hl : s.heap.IsTuple l (intItems xs)) (hne : 0 < xs.size)
    (h : ∀ v h' tk, (intItems xs)[argBest (fun i j => decide (numAt xs i > numAt xs j)) (xs.size - 1)]? = some v → (∀ b o, s.heap.get? b = some o → h'.get? b = some o) → Q v { s with heap := h', toks := tk }) :
    wpAny (model prog w) A (call (.builtin "max") [.ref l]) Q E s := by
  refine call_max_walk (iter_intTup hl fun s₂ e st hfp hlI => ?_)
  subst e
  refine ⟨_, _, _, _, _, _, _, rfl, Walks.tuple (A := A.in1) hh _ l hlI (intItems xs), st, hfp, by simpa [intItems] using hne, CmpOf.ints_gt (numAt xs) (fun _ _ => intItems_at), fun v h' tk hP hk => ?_⟩
  exact h v h' tk (by simpa [intItems] using hP) fun b o e => hk b o (fun hb => absurd (Heap.lt_size e) ((List.mem_singleton.mp hb) ▸ Nat.lt_irrefl _)) (Heap.get?_push_of_some _ e)
theorem min_intTup {Q : Value → Shared → Prop} (hh : A.handled = none) (hl : s.heap.IsTuple l (intItems xs)) (hne : 0 < xs.size)
    (h : ∀ v h' tk, (intItems xs)[argBest (fun i j => decide (numAt xs i < numAt xs j)) (xs.size - 1)]? = some v → (∀ b o, s.heap.get? b = some o → h'.get? b = some o) → Q v { s with heap := h', toks := tk }) :
    wpAny (model prog w) A (call (.builtin "min") [.ref l]) Q E s := by
  refine call_min_walk (iter_intTup hl fun s₂ e st hfp hlI => ?_)
  subst e
  refine ⟨_, _, _, _, _, _, _, rfl, Walks.tuple (A := A.in1) hh _ l hlI (intItems xs), st, hfp, by simpa [intItems] using hne, CmpOf.ints_lt (numAt xs) (fun _ _ => intItems_at), fun v h' tk hP hk => ?_⟩
  exact h v h' tk (by simpa [intItems] using hP) fun b o e => hk b o (fun hb => absurd (Heap.lt_size e) ((List.mem_singleton.mp hb) ▸ Nat.lt_irrefl _)) (Heap.get?_push_of_some _ e)
end
section
open PyProof.Rows
variable {prog : Program} {w : World} {A : Around} {E : Value → Shared → Prop} {s : Shared} {l : Addr} {its : List Value} {ns : List Int} {Q : Value → Shared → Prop}
theorem max_rawT (hh : A.handled = none) (hl : s.heap.IsTuple l its.toArray) (hi : IntsAre its ns) (hne : 0 < ns.length)
    (h : ∀ h' tk M t', (∀ b o, s.heap.get? b = some o → h'.get? b = some o) → M ∈ ns → (∀ a, a ∈ ns → a ≤ M) → Q (.int M t') { s with heap := h', toks := tk }) : wpAny (model prog w) A (call (.builtin "max") [.ref l]) Q E s := by
  obtain ⟨xs, e⟩ := hi.allInts.items
  have hn : numsOf (intItems xs).toList = ns := by rw [← e]; exact hi.numsOf
  rw [nums_intItems] at hn
  subst hn
  rw [e] at hl
  have hsz : 0 < xs.size := by simpa using hne
  refine max_intTup hh hl hsz fun v h' tk hv hk => ?_
  obtain ⟨t, rfl⟩ := intItems_at hv
  obtain ⟨h1, h2⟩ := argBest_gt (numAt xs) (xs.size - 1)
  refine h h' tk _ t hk ?_ fun a ha => ?_
  · rw [numAt_eq]; exact PySem.getD_mem (by rw [List.length_map, Array.length_toList]; omega)
  · obtain ⟨j, hj, rfl⟩ := mem_getD ha
    rw [List.length_map, Array.length_toList] at hj
    rw [← numAt_eq]; exact h2 j (by omega)
theorem min_rawT (hh : A.handled = none) (hl : s.heap.IsTuple l its.toArray) (hi : IntsAre its ns) (hne : 0 < ns.length)
    (h : ∀ h' tk M t', (∀ b o, s.heap.get? b = some o → h'.get? b = some o) → M ∈ ns → (∀ a, a ∈ ns → M ≤ a) → Q (.int M t') { s with heap := h', toks := tk }) : wpAny (model prog w) A (call (.builtin "min") [.ref l]) Q E s := by
  obtain ⟨xs, e⟩ := hi.allInts.items
  have hn : numsOf (intItems xs).toList = ns := by rw [← e]; exact hi.numsOf
  rw [nums_intItems] at hn
  subst hn
  rw [e] at hl
  have hsz : 0 < xs.size := by simpa using hne
  refine min_intTup hh hl hsz fun v h' tk hv hk => ?_
  obtain ⟨t, rfl⟩ := intItems_at hv
  obtain ⟨h1, h2⟩ := argBest_lt (numAt xs) (xs.size - 1)
  refine h h' tk _ t hk ?_ fun a ha => ?_
  · rw [numAt_eq]; exact PySem.getD_mem (by rw [List.length_map, Array.length_toList]; omega)
  · obtain ⟨j, hj, rfl⟩ := mem_getD ha
    rw [List.length_map, Array.length_toList] at hj
    rw [← numAt_eq]; exact h2 j (by omega)
end
section
variable {X : Cx}
def rMaxT (K : PySem.W.Frag) : List V → Hp → VK → Prop := fun vs H Q => ∃ (a : Addr) (ns : List Int), vs = [V.ref a] ∧ SqT K H a (ns.map V.int) ∧ 0 < ns.length ∧ ∀ m, m ∈ ns → (∀ y, y ∈ ns → y ≤ m) → Q (.int m) H
def rMinT (K : PySem.W.Frag) : List V → Hp → VK → Prop := fun vs H Q => ∃ (a : Addr) (ns : List Int), vs = [V.ref a] ∧ SqT K H a (ns.map V.int) ∧ 0 < ns.length ∧ ∀ m, m ∈ ns → (∀ y, y ∈ ns → m ≤ y) → Q (.int m) H
theorem cr_maxT (hc : X.calm = true) : CallR X (.builtin "max") (rMaxT X.K) := by
  intro pins s σ H vs us Q I r h
  obtain ⟨a, ns, rfl, hs, hne, q⟩ := h
  obtain ⟨its, rv, hl, _⟩ := I.tuple hs
  rw [Vals.ref1 r]
  exact max_rawT (I.ok.hd hc) hl rv.ints hne fun h' tk m t' hk h1 h2 => ⟨.int _, H, I.kept hk, ⟨_, rfl⟩, q m h1 h2⟩
theorem cr_minT (hc : X.calm = true) : CallR X (.builtin "min") (rMinT X.K) := by
  intro pins s σ H vs us Q I r h
  obtain ⟨a, ns, rfl, hs, hne, q⟩ := h
  obtain ⟨its, rv, hl, _⟩ := I.tuple hs
  rw [Vals.ref1 r]
  exact min_rawT (I.ok.hd hc) hl rv.ints hne fun h' tk m t' hk h1 h2 => ⟨.int _, H, I.kept hk, ⟨_, rfl⟩, q m h1 h2⟩
theorem CallR.or {f : Value} {r r' : List V → Hp → VK → Prop} (h : CallR X f r) (h' : CallR X f r') : CallR X f (fun xs H Q => r xs H Q ∨ r' xs H Q) := by
  intro pins s σ H vs us Q I rr hq
  rcases hq with hq | hq
  · exact h _ _ _ _ _ _ _ I rr hq
  · exact h' _ _ _ _ _ _ _ I rr hq
def ofT (f : List Int → Option Val) : D → Option Val
  | .tup xs => (dInts xs).bind f
  | _ => none
def maxTD : D → Option Val := ofT fun ns => if 0 < ns.length then some (.sh (.int (maxI ns))) else none
def minTD : D → Option Val := ofT fun ns => if 0 < ns.length then some (.sh (.int (minI ns))) else none
theorem tupI {K : PySem.W.Frag} {F H : Hp} {d : D} {v : V} {x : Val} {f : List Int → Option Val} (hF : Same F H) (a : At K F v d) (h : ofT f d = some x) : ∃ p ns, v = .ref p ∧ SqT K H p (ns.map V.int) ∧ f ns = some x := by
  match d, a, h with
  | .tup ds, .tup (vs := us) h1 k1, h =>
    obtain ⟨ns, e1, e2⟩ := Option.bind_eq_some_iff.mp (show (dInts ds).bind f = some x from h)
    rw [ints_ats k1 e1] at h1
    exact ⟨_, ns, rfl, sameT hF h1, e2⟩
theorem und_maxT : UnD X (toL1 (rMaxT X.K)) maxTD := fun F0 H0 H σ ρ vs xs v d Q s ⟨x, hx, q⟩ => by
  obtain ⟨F, hF, a, t⟩ := s.oneT
  obtain ⟨p, ns, rfl, h1, h2⟩ := tupI hF a hx
  split at h2
  · rename_i h0
    cases h2
    exact ⟨p, ns, rfl, h1, h0, fun m z1 z2 => q H _ (s.pop.scal fun F => by rw [max_is h0 z1 z2]; exact .int _)⟩
  · cases h2
theorem und_minT : UnD X (toL1 (rMinT X.K)) minTD := fun F0 H0 H σ ρ vs xs v d Q s ⟨x, hx, q⟩ => by
  obtain ⟨F, hF, a, t⟩ := s.oneT
  obtain ⟨p, ns, rfl, h1, h2⟩ := tupI hF a hx
  split at h2
  · rename_i h0
    cases h2
    exact ⟨p, ns, rfl, h1, h0, fun m z1 z2 => q H _ (s.pop.scal fun F => by rw [min_is h0 z1 z2]; exact .int _)⟩
  · cases h2
variable {e : Expr} {fs : DEnv → R (List Val)} {p pos : Pos}
theorem de_max1A (hc : X.calm = true) (hg : Gl X "max") (hm : X.mg "max" = none) (ha : DA X [e] fs) (he : starEach [e] X.env = (false, eval e X.env) :: starEach [] X.env := by rfl) : DE X (.Call (.Name "max" p) [e] [] pos) (sCB (orC (g1 maxD) (g1 maxTD)) fs) := de_callB (CallR.or (call_1 (cr_max hc)) (call_1 (cr_maxT hc))) (CallD.or (calld_1 und_max) (calld_1 und_maxT)) hg hm (by decide +kernel) ha (he := he)
theorem de_min1A (hc : X.calm = true) (hg : Gl X "min") (hm : X.mg "min" = none) (ha : DA X [e] fs) (he : starEach [e] X.env = (false, eval e X.env) :: starEach [] X.env := by rfl) : DE X (.Call (.Name "min" p) [e] [] pos) (sCB (orC (g1 minD) (g1 minTD)) fs) := de_callB (CallR.or (call_1 (cr_min hc)) (call_1 (cr_minT hc))) (CallD.or (calld_1 und_min) (calld_1 und_minT)) hg hm (by decide +kernel) ha (he := he)
/-! what is lent: the whole frame stands still while a scalar is found -/
def D.sca : D → Bool
  | .non => true
  | .bl _ => true
  | .int _ => true
  | .str _ => true
  | _ => false
theorem D.sca_at {K : PySem.W.Frag} {F F' : Hp} {v : V} {d : D} (h : d.sca = true) (a : At K F v d) : At K F' v d := by
  match d, h, a with
  | .non, _, a => cases a; exact .non
  | .bl _, _, a => cases a; exact .bl _
  | .int _, _, a => cases a; exact .int _
  | .str _, _, a => cases a; exact .str _
def frO (o : Option Val) : Option Val := o.map fun x => .sh x.fz
def lendR (r : R Val) (ρ : DEnv) : R Val := match r with
  | .ok (.sh d) _ => if d.sca = true then .ok (.sh d) ρ else .bad
  | _ => .bad
def sLend (f : DEnv → R Val) : DEnv → R Val := fun ρ => lendR (f (ρ.map frO)) ρ
theorem Sl.fz {K : PySem.W.Frag} {F F' H : Hp} (e : Same F F') : ∀ {σ : St} {ρ : DEnv} {f : List Addr}, Sl K F H σ ρ f → (∀ b ∈ f, F' b = H b) → Sl K F' H σ (ρ.map frO) []
  | _, _, _, .nil, _ => .nil
  | _, _, _, .un t, k => .un (Sl.fz e t k)
  | _, _, _, .bd h t, k => .bd (f := []) (g := []) (Own.sh (Own.fz e _ _ _ h fun b hb => k b (List.mem_append_left _ hb))) (Sl.fz e t fun b hb => k b (List.mem_append_right _ hb))
theorem Stt.lend {K : PySem.W.Frag} {F0 H0 H : Hp} {σ : St} {ρ : DEnv} {vs : List V} {xs : List Val} (h : Stt K F0 H0 H σ ρ vs xs) : ∃ F1, Stt K F1 H0 H σ (ρ.map frO) [] [] ∧
    ∀ H1 σ1 ρ1 v d, d.sca = true → Stt K F1 H0 H1 σ1 ρ1 [v] [.sh d] → Stt K F0 H0 H1 σ ρ (v :: vs) (.sh d :: xs) := by
  obtain ⟨F, f, g, h1, h2, h3, h4, h5, h6, h7, h8⟩ := h
  have n5 := Sl.no h5
  have n6 := Owns.no _ _ _ h6
  have no : ∀ b ∈ g ++ f, F b = none ∧ H b ≠ none := fun b hb => (List.mem_append.mp hb).elim (n6 b) (n5 b)
  have e : Same F (frz F H (g ++ f)) := frz_same fun b hb => (no b hb).1
  refine ⟨frz F H (g ++ f), ⟨frz F H (g ++ f), [], [], Same.refl _, h2, frz_sub h3, fun b z _ => z, Sl.fz e h5 fun b hb => frz_in (List.mem_append_right _ hb), .nil, by simp, by simp⟩, ?_⟩
  intro H1 σ1 ρ1 v d hd ⟨F', f', g', k1, k2, k3, k4, k5, k6, k7, k8⟩
  have hs : Same (frz F H (g ++ f)) H1 := k1.trans k3
  have hb1 : ∀ b ∈ g ++ f, H1 b = H b := fun b hb => by
    cases e2 : H b with
    | none => exact absurd e2 (no b hb).2
    | some o => exact hs b o (by rw [frz_in hb]; exact e2)
  cases k6 with
  | cons a t =>
    cases a with
    | sh a =>
      exact ⟨F, f, g, h1, k2, e.trans hs, h4, Sl.mono (Same.refl F) h5 fun b hb => ⟨(n5 b hb).1, hb1 b (List.mem_append_right _ hb)⟩,
        Owns.cons (f := []) (Own.sh (D.sca_at hd a)) (Owns.mono (Same.refl F) _ _ _ h6 fun b hb => ⟨(n6 b hb).1, hb1 b (List.mem_append_left _ hb)⟩), h7, h8⟩
theorem de_lend {f : DEnv → R Val} (h : DE X e f) : DE X e (sLend f) :=
  PE.imp h fun σ H Q ⟨F0, H0, ρ, vs, xs, s, q⟩ => by
    obtain ⟨F1, s1, back⟩ := s.lend
    refine ⟨F1, H0, ρ.map frO, [], [], s1, ?_⟩
    have q : post X F0 H0 vs xs _ (lendR (f (ρ.map frO)) ρ) := q
    cases e1 : f (ρ.map frO) with
    | bad => rw [e1] at q; exact q.elim
    | exc _ _ => rw [e1] at q; exact q.elim
    | ok x ρ1 =>
      rw [e1] at q
      match x, q with
      | .sh d, q =>
        have q : post X F0 H0 vs xs _ (if d.sca = true then (R.ok (Val.sh d) ρ : R Val) else .bad) := q
        split at q
        · rename_i hd
          intro H1 v s2
          exact q H1 v (back H1 σ ρ1 v d hd s2)
        · exact q.elim
/-! xs[::-1] -/
def revD : D → Option Val
  | .lst xs => some (.lst (xs.reverse.map .sh))
  | _ => none
theorem de_rev {fa : DEnv → R Val} {k : Nat} {p1 p2 p3 : Pos} (ha : DE X e fa) : DE X (.Subscript e (.Slice none none (some (.UnaryOp .USub (.Constant (.int 1) k p1) p2)) p3) pos) (sUn revD fa) :=
  PE.imp (pe_revL ha) fun σ H Q ⟨F0, H0, ρ, vs, xs, s, q⟩ => by
    refine ⟨F0, H0, ρ, vs, xs, s, (post_bind q).imp (fun x ρ1 q1 H1 v s1 => ?_) fun _ _ z => z⟩
    obtain ⟨F, hF, a, t⟩ := s1.fz.oneT
    cases e1 : revD x.fz with
    | none => rw [e1] at q1; exact q1.elim
    | some z =>
      rw [e1] at q1
      match x.fz, a, e1 with
      | .lst ds, .lst (vs := us) h1 k1, e1 =>
        cases e1
        exact ⟨_, us, rfl, hF.seq (.of h1), fun p np => q1 _ _ (Stt.newLst (by simpa using k1.length) (t us.reverse ds.reverse k1.rev) np)⟩
end
end DL

/-! DLk: texts: walked sign by sign, repeated, joined. -/
namespace DL
open PySem PySem.Spec L2
def signsL (z : Str) : List D := z.cps.toList.map fun c => .str ⟨#[c]⟩
def signsD : D → Option (List D)
  | .str z => some (signsL z)
  | _ => none
def sSigns (f : DEnv → R Val) : DEnv → R (List D) := fun ρ => (f ρ).bind fun x ρ1 => liftL (signsD x.fz) ρ1
theorem walk_signs {K : PySem.W.Frag} {F0 : Hp} {z : Str} : Walk K F0 (Its z) (signsL z) := fun j H hF => by
  refine ⟨fun d e => ?_, fun hi => (show z.cps.size ≤ j by simpa [signsL] using hi)⟩
  unfold signsL at e
  rw [List.getElem?_map] at e
  cases e1 : z.cps.toList[j]? with
  | none => rw [e1] at e; cases e
  | some c =>
    rw [e1] at e
    cases e
    have hj : j < z.cps.toList.length := (List.getElem?_eq_some_iff.mp e1).1
    refine ⟨(show j < z.cps.size by simpa using hj), fun x H' hy H0 σ ρ vs xs s => ?_⟩
    obtain ⟨rfl, c', e2, rfl⟩ := hy
    have e3 : some c' = some c := by rw [← e1, ← e2]; simp
    cases e3
    exact s.scal fun _ => .str _
theorem di_str {X : Cx} {tg l : Expr} {f : DEnv → R Val} (hl : DE X l f) : DI X tg l (sSigns f) :=
  PI.imp (pi_str hl) fun σ H RR ⟨F0, H0, ρ, vs, xs, s, q⟩ => by
    refine ⟨F0, H0, ρ, vs, xs, s, (post_bind q).imp (fun x ρ1 q1 H1 v s1 => ?_) fun _ _ z => z⟩
    obtain ⟨F, hF, hA, s2, rb⟩ := Stt.rebaseAt (as := [v]) (ds := [x.fz]) rfl s1.fz
    cases hA with
    | cons a _ =>
      cases e : signsD x.fz with
      | none => rw [e] at q1; exact q1.elim
      | some ds =>
        rw [e] at q1
        match hx : x.fz, e, a with
        | .str z, e, .str _ =>
          cases e
          exact ⟨z, rfl, q1 F H1 _ s2 rb walk_signs⟩
section
variable {X : Cx}
def CRepS (a : Str) (k : Int) : Prop := a.length * k.toNat ≤ 1000000 ∧ k < 1000000 ∧ -1000000 ≤ k
instance (a : Str) (k : Int) : Decidable (CRepS a k) := by unfold CRepS; infer_instance
theorem CRepS.ok {a : Str} {k : Int} (h : CRepS a k) : MulOk a k := by
  obtain ⟨h1, h2, h3⟩ := h
  refine ⟨?_, fun n _ => ?_, fun n _ => ?_⟩
  · rw [Bool.or_eq_false_iff]
    exact ⟨decide_eq_false (by omega), decide_eq_false (by omega)⟩
  · have hk : 0 < k := by omega
    have h5 : (a.length : Int) * k ≤ 1000000 := by
      have : ((a.length * k.toNat : Nat) : Int) ≤ 1000000 := by omega
      rw [Int.natCast_mul, Int.toNat_of_nonneg (by omega)] at this
      exact this
    have h6 : (a.length : Int) ≤ (2 ^ 63 - 1) / k := (Int.le_ediv_iff_mul_le hk).mpr (by omega)
    omega
  · unfold Builtin.Str.tooLong
    exact decide_eq_false (by rw [sizeLine_eq]; omega)
theorem op_repS : OpR X (binaryOp .Mult) (fun x y H Q => ∃ a k, x = .str a ∧ y = .int k ∧ CRepS a k ∧ Q (.str (Txt.mul a k)) H) := by
  intro pins s σ H x y v u Q I rx ry h
  obtain ⟨a, k, rfl, rfl, hz, q⟩ := h
  obtain ⟨t, rfl⟩ := rx
  obtain ⟨t', rfl⟩ := ry
  exact SB.mul hz.ok fun t' tk => ⟨.str (Txt.mul a k), H, I.tok _, ⟨_, rfl⟩, q⟩
def repS : D → D → Option Val := fun d e => match d, e with
  | .str a, .int k => if CRepS a k then some (.sh (.str (Txt.mul a k))) else none
  | _, _ => none
theorem opd_repS : OpD X (fun x y H Q => ∃ a k, x = .str a ∧ y = .int k ∧ CRepS a k ∧ Q (.str (Txt.mul a k)) H) repS := fun F0 H0 H σ ρ vs xs v w d e Q s ⟨x, hx, q⟩ => by
  obtain ⟨F, hF, a, b, t⟩ := s.two
  match d, e, a, b, hx with
  | .str i, .int j, .str _, .int _, hx =>
    have hx : (if CRepS i j then some (Val.sh (.str (Txt.mul i j))) else none) = some x := hx
    split at hx
    · rename_i hc
      cases hx
      exact ⟨i, j, rfl, rfl, hc, q H _ (s.pop.pop.scal fun F => .str _)⟩
    · cases hx
theorem de_repS {a b : Expr} {fa fb : DEnv → R Val} {pos : Pos} (ha : DE X a fa) (hb : DE X b fb) : DE X (.BinOp a .Mult b pos) (sOp repS fa fb) := de_op op_repS opd_repS ha hb
def dStrs : List D → Option (List Str)
  | [] => some []
  | .str z :: r => (dStrs r).map (z :: ·)
  | _ :: _ => none
theorem strs_ats {K : PySem.W.Frag} {F : Hp} : ∀ {ds : List D} {vs : List V} {ns : List Str}, Ats K F vs ds → dStrs ds = some ns → vs = ns.map V.str
  | [], _, ns, .nil, h => by cases h; rfl
  | .str i :: r, _, ns, .cons (.str _) t, h => by
    obtain ⟨ms, e1, e2⟩ := Option.map_eq_some_iff.mp (show (dStrs r).map (i :: ·) = some ns from h)
    subst e2
    rw [strs_ats t e1]; rfl
  | .non :: _, _, _, _, h => by cases h
  | .bl _ :: _, _, _, _, h => by cases h
  | .int _ :: _, _, _, _, h => by cases h
  | .lst _ :: _, _, _, _, h => by cases h
  | .scr _ :: _, _, _, _, h => by cases h
  | .tup _ :: _, _, _, _, h => by cases h
  | .ins _ _ _ :: _, _, _, _, h => by cases h
def joinD (a : Str) : D → Option Val
  | .lst ds => (dStrs ds).bind fun ys => if (ys.map (·.length)).sum + ys.length * a.length ≤ 10000000 then some (.sh (.str (Txt.join a ys))) else none
  | _ => none
def joinK (d : D) (k : Str → R Val) : R Val := match d with
  | .str a => k a
  | _ => .bad
def sJoin (fa fb : DEnv → R Val) : DEnv → R Val := fun ρ => (fa ρ).bind fun x ρ1 => joinK x.fz fun a => (fb ρ1).bind fun y ρ2 => liftO (joinD a y.fz) ρ2
theorem de_join {o e : Expr} {apos pos : Pos} {fa fb : DEnv → R Val} (ho : DE X o fa) (he : DE X e fb) (hs : starEach [e] X.env = [(false, eval e X.env)] := by rfl)
    (hbase : attributeBase o "join" X.env (eval o X.env) = eval o X.env := by rfl) (hline : (apos.endLine == pos.line) = true := by rfl) : DE X (.Call (.Attribute o "join" apos) [e] [] pos) (sJoin fa fb) :=
  PE.imp (pe_join ho he hs hbase hline) fun σ H Q ⟨F0, H0, ρ, vs, xs, s, q⟩ => by
    refine ⟨F0, H0, ρ, vs, xs, s, (post_bind q).imp (fun x ρ1 q1 H1 v s1 => ?_) fun _ _ z => z⟩
    obtain ⟨F, hF, a, t⟩ := s1.fz.oneT
    match hx : x.fz, a, q1 with
    | .str z, .str _, q1 =>
      have s2 := s1.fz
      rw [hx] at s2
      refine ⟨⟨z, rfl⟩, F0, H0, ρ1, vs, xs, s2.pop, (post_bind q1).imp (fun y ρ2 q2 H2 w s3 => ?_) fun _ _ z => z⟩
      obtain ⟨F2, hF2, a2, t2⟩ := s3.fz.oneT
      cases e1 : joinD z y.fz with
      | none => rw [e1] at q2; exact q2.elim
      | some u =>
        rw [e1] at q2
        match hy : y.fz, a2, e1 with
        | .lst ds, .lst (vs := us) h1 k1, e1 =>
          obtain ⟨ys, e3, e4⟩ := Option.bind_eq_some_iff.mp (show (dStrs ds).bind _ = some u from e1)
          have e4 : (if (ys.map (·.length)).sum + ys.length * z.length ≤ 10000000 then some (Val.sh (.str (Txt.join z ys))) else none) = some u := e4
          split at e4
          · cases e4
            rw [strs_ats k1 e3] at h1
            exact ⟨z, _, ys, rfl, rfl, .inl (hF2.seq (.of h1)), by omega, q2 _ _ (s3.pop.scal fun F => .str _)⟩
          · cases e4
end
end DL

/-! DLl: a list of one's own within a list or tuple of one's own is changed. -/
namespace DL
open PySem PySem.Spec L2
section
variable {K : PySem.W.Frag} {F F0 H0 H : Hp} {σ : St} {ρ : DEnv} {vs : List V} {xs ys zs : List Val} {v : V}
theorem Owns.one {w : V} {d : D} (a : At K F w d) : Owns K F H [w] [.sh d] [] := Owns.cons (f := []) (g := []) (Own.sh a) .nil
theorem owns_app : ∀ (xs : List Val) (vs : List V) (f : List Addr) (j : Nat), Owns K F H vs xs f → f.Nodup → xs[j]? = some (.lst zs) → ∃ q ws, vs[j]? = some (.ref q) ∧ H q = some (.lst ws) ∧ ws.length = zs.length ∧ q ∈ f ∧ F q = none ∧
    ∀ w d, At K F w d → ∃ f', Owns K F (upd H q (.lst (ws ++ [w]))) vs (xs.set j (.lst (zs ++ [.sh d]))) f' ∧ Sb f' f
  | x :: xs, v :: vs, _, 0, .cons (f := f1) (g := f2) a t, nd, e => by
    have e : x = .lst zs := by simpa using e
    subst e
    cases a with
    | @lst p us _ f3 k1 k2 k3 =>
      have nd : (p :: (f3 ++ f2)).Nodup := nd
      have np := (List.nodup_cons.mp nd).1
      have ne : ∀ b ∈ f3 ++ f2, b ≠ p := fun b hb e => by subst e; exact np hb
      refine ⟨p, us, rfl, k2, Owns.length k3, List.mem_cons_self, k1, fun w d hw => ?_⟩
      have k3' : Owns K F (upd H p (.lst (us ++ [w]))) us zs f3 := Owns.mono (Same.refl F) _ _ _ k3 fun b hb => ⟨(Owns.no _ _ _ k3 b hb).1, upd_ne (ne b (List.mem_append_left _ hb))⟩
      have t' : Owns K F (upd H p (.lst (us ++ [w]))) vs xs f2 := Owns.mono (Same.refl F) _ _ _ t fun b hb => ⟨(Owns.no _ _ _ t b hb).1, upd_ne (ne b (List.mem_append_right _ hb))⟩
      obtain ⟨g, c1, c2, c3⟩ := k3'.append (Owns.one (H := upd H p (.lst (us ++ [w]))) hw)
      exact ⟨(p :: g) ++ f2, .cons (.lst k1 upd_same c1) t', ((Sb.refl [p]).app (c2.trans (by rw [List.append_nil]; exact .refl _))).app (.refl f2)⟩
  | x :: xs, v :: vs, _, j + 1, .cons (f := f1) (g := f2) a t, nd, e => by
    obtain ⟨n1, n2, n3⟩ := List.nodup_append.mp nd
    obtain ⟨q, ws, h1, h2, h3, h4, h5, h6⟩ := owns_app xs vs f2 j t n2 (by simpa using e)
    refine ⟨q, ws, by simpa using h1, h2, h3, List.mem_append_right _ h4, h5, fun w d hw => ?_⟩
    obtain ⟨f', c1, c2⟩ := h6 w d hw
    exact ⟨f1 ++ f', .cons (Own.mono (Same.refl F) _ _ _ a fun b hb => ⟨(Own.no _ _ _ a b hb).1, upd_ne (n3 b hb q h4)⟩) c1, (Sb.refl f1).app c2⟩
/-- .. of a tuple -/
theorem Stt.app_tup {j : Nat} (h : Stt K F0 H0 H σ ρ (v :: vs) (.tup ys :: xs)) (ej : ys[j]? = some (.lst zs)) : ∃ p us q ws, v = .ref p ∧ H p = some (.tup us) ∧ us.length = ys.length ∧ us[j]? = some (.ref q) ∧ H q = some (.lst ws) ∧ ws.length = zs.length ∧
    ∀ w d, (∀ F, At K F w d) → Stt K F0 H0 (upd H q (.lst (ws ++ [w]))) σ ρ (v :: vs) (.tup (ys.set j (.lst (zs ++ [.sh d]))) :: xs) := by
  obtain ⟨F, f, g, h1, h2, h3, h4, h5, h6, h7, h8⟩ := h
  cases h6 with
  | cons a t =>
    rename_i g1 g2
    cases a with
    | tup k1 k2 k3 =>
      rename_i p us g3
      have nd : (p :: ((g3 ++ g2) ++ f)).Nodup := h7
      obtain ⟨np, nd2⟩ := List.nodup_cons.mp nd
      have nd3 : g3.Nodup := (List.nodup_append.mp (List.nodup_append.mp nd2).1).1
      obtain ⟨q, ws, e1, e2, e3, e4, e5, e6⟩ := owns_app ys us g3 j k3 nd3 ej
      refine ⟨p, us, q, ws, rfl, k2, Owns.length k3, e1, e2, e3, fun w d hw => ?_⟩
      obtain ⟨g4, c1, c2⟩ := e6 w d (hw F)
      have q0 : H0 q = none := h8 q (List.mem_append_left _ (List.mem_append_left _ (List.mem_cons_of_mem _ e4)))
      have qp : p ≠ q := fun z => np (z ▸ List.mem_append_left _ (List.mem_append_left _ e4))
      have dis2 : ∀ b ∈ g2, b ≠ q := fun b hb z => (List.nodup_append.mp (List.nodup_append.mp nd2).1).2.2 q e4 b hb z.symm
      have dis3 : ∀ b ∈ f, b ≠ q := fun b hb z => (List.nodup_append.mp nd2).2.2 q (List.mem_append_left _ e4) b hb z.symm
      have t' : Owns K F (upd H q (.lst (ws ++ [w]))) vs xs g2 := Owns.mono (Same.refl F) _ _ _ t fun b hb => ⟨(Owns.no _ _ _ t b hb).1, upd_ne (dis2 b hb)⟩
      have h5' : Sl K F (upd H q (.lst (ws ++ [w]))) σ ρ f := Sl.mono (Same.refl F) h5 fun b hb => ⟨(Sl.no h5 b hb).1, upd_ne (dis3 b hb)⟩
      have s : Sb (((p :: g4) ++ g2) ++ f) (((p :: g3) ++ g2) ++ f) := (((Sb.refl [p]).app c2).app (.refl g2)).app (.refl f)
      exact ⟨F, f, (p :: g4) ++ g2, h1, fun b u e => by rw [upd_ne (fun z => by subst z; rw [q0] at e; cases e)]; exact h2 _ _ e, fun b u e => by rw [upd_ne (fun z => by subst z; rw [e5] at e; cases e)]; exact h3 _ _ e, h4, h5',
        Owns.cons (Own.tup k1 (by rw [upd_ne qp]; exact k2) c1) t', s.2 h7, fun b hb => h8 b (s.1 b hb)⟩
/-- .. of a list -/
theorem Stt.app_lst {j : Nat} (h : Stt K F0 H0 H σ ρ (v :: vs) (.lst ys :: xs)) (ej : ys[j]? = some (.lst zs)) : ∃ p us q ws, v = .ref p ∧ H p = some (.lst us) ∧ us.length = ys.length ∧ us[j]? = some (.ref q) ∧ H q = some (.lst ws) ∧ ws.length = zs.length ∧
    ∀ w d, (∀ F, At K F w d) → Stt K F0 H0 (upd H q (.lst (ws ++ [w]))) σ ρ (v :: vs) (.lst (ys.set j (.lst (zs ++ [.sh d]))) :: xs) := by
  obtain ⟨F, f, g, h1, h2, h3, h4, h5, h6, h7, h8⟩ := h
  cases h6 with
  | cons a t =>
    rename_i g1 g2
    cases a with
    | lst k1 k2 k3 =>
      rename_i p us g3
      have nd : (p :: ((g3 ++ g2) ++ f)).Nodup := h7
      obtain ⟨np, nd2⟩ := List.nodup_cons.mp nd
      have nd3 : g3.Nodup := (List.nodup_append.mp (List.nodup_append.mp nd2).1).1
      obtain ⟨q, ws, e1, e2, e3, e4, e5, e6⟩ := owns_app ys us g3 j k3 nd3 ej
      refine ⟨p, us, q, ws, rfl, k2, Owns.length k3, e1, e2, e3, fun w d hw => ?_⟩
      obtain ⟨g4, c1, c2⟩ := e6 w d (hw F)
      have q0 : H0 q = none := h8 q (List.mem_append_left _ (List.mem_append_left _ (List.mem_cons_of_mem _ e4)))
      have qp : p ≠ q := fun z => np (z ▸ List.mem_append_left _ (List.mem_append_left _ e4))
      have dis2 : ∀ b ∈ g2, b ≠ q := fun b hb z => (List.nodup_append.mp (List.nodup_append.mp nd2).1).2.2 q e4 b hb z.symm
      have dis3 : ∀ b ∈ f, b ≠ q := fun b hb z => (List.nodup_append.mp nd2).2.2 q (List.mem_append_left _ e4) b hb z.symm
      have t' : Owns K F (upd H q (.lst (ws ++ [w]))) vs xs g2 := Owns.mono (Same.refl F) _ _ _ t fun b hb => ⟨(Owns.no _ _ _ t b hb).1, upd_ne (dis2 b hb)⟩
      have h5' : Sl K F (upd H q (.lst (ws ++ [w]))) σ ρ f := Sl.mono (Same.refl F) h5 fun b hb => ⟨(Sl.no h5 b hb).1, upd_ne (dis3 b hb)⟩
      have s : Sb (((p :: g4) ++ g2) ++ f) (((p :: g3) ++ g2) ++ f) := (((Sb.refl [p]).app c2).app (.refl g2)).app (.refl f)
      exact ⟨F, f, (p :: g4) ++ g2, h1, fun b u e => by rw [upd_ne (fun z => by subst z; rw [q0] at e; cases e)]; exact h2 _ _ e, fun b u e => by rw [upd_ne (fun z => by subst z; rw [e5] at e; cases e)]; exact h3 _ _ e, h4, h5',
        Owns.cons (Own.lst k1 (by rw [upd_ne qp]; exact k2) c1) t', s.2 h7, fun b hb => h8 b (s.1 b hb)⟩
/-- .. of a tuple, by what lies below it -/
theorem Stt.app2_tup {j : Nat} {w : V} {d : D} (h : Stt K F0 H0 H σ ρ (v :: w :: vs) (.tup ys :: .sh d :: xs)) (ej : ys[j]? = some (.lst zs)) : ∃ p us q ws, v = .ref p ∧ H p = some (.tup us) ∧ us.length = ys.length ∧ us[j]? = some (.ref q) ∧ H q = some (.lst ws) ∧ ws.length = zs.length ∧
    Stt K F0 H0 (upd H q (.lst (ws ++ [w]))) σ ρ (v :: vs) (.tup (ys.set j (.lst (zs ++ [.sh d]))) :: xs) := by
  obtain ⟨F, f, g, h1, h2, h3, h4, h5, h6, h7, h8⟩ := h
  cases h6 with
  | cons a t0 =>
    rename_i g1 g0
    cases t0 with
    | cons aw t =>
    rename_i gw g2
    cases aw with
    | sh aw =>
    cases a with
    | tup k1 k2 k3 =>
      rename_i p us g3
      have nd : (p :: ((g3 ++ g2) ++ f)).Nodup := h7
      obtain ⟨np, nd2⟩ := List.nodup_cons.mp nd
      have nd3 : g3.Nodup := (List.nodup_append.mp (List.nodup_append.mp nd2).1).1
      obtain ⟨q, ws, e1, e2, e3, e4, e5, e6⟩ := owns_app ys us g3 j k3 nd3 ej
      refine ⟨p, us, q, ws, rfl, k2, Owns.length k3, e1, e2, e3, ?_⟩
      obtain ⟨g4, c1, c2⟩ := e6 w d aw
      have q0 : H0 q = none := h8 q (List.mem_append_left _ (List.mem_append_left _ (List.mem_cons_of_mem _ e4)))
      have qp : p ≠ q := fun z => np (z ▸ List.mem_append_left _ (List.mem_append_left _ e4))
      have dis2 : ∀ b ∈ g2, b ≠ q := fun b hb z => (List.nodup_append.mp (List.nodup_append.mp nd2).1).2.2 q e4 b hb z.symm
      have dis3 : ∀ b ∈ f, b ≠ q := fun b hb z => (List.nodup_append.mp nd2).2.2 q (List.mem_append_left _ e4) b hb z.symm
      have t' : Owns K F (upd H q (.lst (ws ++ [w]))) vs xs g2 := Owns.mono (Same.refl F) _ _ _ t fun b hb => ⟨(Owns.no _ _ _ t b hb).1, upd_ne (dis2 b hb)⟩
      have h5' : Sl K F (upd H q (.lst (ws ++ [w]))) σ ρ f := Sl.mono (Same.refl F) h5 fun b hb => ⟨(Sl.no h5 b hb).1, upd_ne (dis3 b hb)⟩
      have s : Sb (((p :: g4) ++ g2) ++ f) (((p :: g3) ++ g2) ++ f) := (((Sb.refl [p]).app c2).app (.refl g2)).app (.refl f)
      exact ⟨F, f, (p :: g4) ++ g2, h1, fun b u e => by rw [upd_ne (fun z => by subst z; rw [q0] at e; cases e)]; exact h2 _ _ e, fun b u e => by rw [upd_ne (fun z => by subst z; rw [e5] at e; cases e)]; exact h3 _ _ e, h4, h5',
        Owns.cons (Own.tup k1 (by rw [upd_ne qp]; exact k2) c1) t', s.2 h7, fun b hb => h8 b (s.1 b hb)⟩
/-- .. of a list, by what lies below it -/
theorem Stt.app2_lst {j : Nat} {w : V} {d : D} (h : Stt K F0 H0 H σ ρ (v :: w :: vs) (.lst ys :: .sh d :: xs)) (ej : ys[j]? = some (.lst zs)) : ∃ p us q ws, v = .ref p ∧ H p = some (.lst us) ∧ us.length = ys.length ∧ us[j]? = some (.ref q) ∧ H q = some (.lst ws) ∧ ws.length = zs.length ∧
    Stt K F0 H0 (upd H q (.lst (ws ++ [w]))) σ ρ (v :: vs) (.lst (ys.set j (.lst (zs ++ [.sh d]))) :: xs) := by
  obtain ⟨F, f, g, h1, h2, h3, h4, h5, h6, h7, h8⟩ := h
  cases h6 with
  | cons a t0 =>
    rename_i g1 g0
    cases t0 with
    | cons aw t =>
    rename_i gw g2
    cases aw with
    | sh aw =>
    cases a with
    | lst k1 k2 k3 =>
      rename_i p us g3
      have nd : (p :: ((g3 ++ g2) ++ f)).Nodup := h7
      obtain ⟨np, nd2⟩ := List.nodup_cons.mp nd
      have nd3 : g3.Nodup := (List.nodup_append.mp (List.nodup_append.mp nd2).1).1
      obtain ⟨q, ws, e1, e2, e3, e4, e5, e6⟩ := owns_app ys us g3 j k3 nd3 ej
      refine ⟨p, us, q, ws, rfl, k2, Owns.length k3, e1, e2, e3, ?_⟩
      obtain ⟨g4, c1, c2⟩ := e6 w d aw
      have q0 : H0 q = none := h8 q (List.mem_append_left _ (List.mem_append_left _ (List.mem_cons_of_mem _ e4)))
      have qp : p ≠ q := fun z => np (z ▸ List.mem_append_left _ (List.mem_append_left _ e4))
      have dis2 : ∀ b ∈ g2, b ≠ q := fun b hb z => (List.nodup_append.mp (List.nodup_append.mp nd2).1).2.2 q e4 b hb z.symm
      have dis3 : ∀ b ∈ f, b ≠ q := fun b hb z => (List.nodup_append.mp nd2).2.2 q (List.mem_append_left _ e4) b hb z.symm
      have t' : Owns K F (upd H q (.lst (ws ++ [w]))) vs xs g2 := Owns.mono (Same.refl F) _ _ _ t fun b hb => ⟨(Owns.no _ _ _ t b hb).1, upd_ne (dis2 b hb)⟩
      have h5' : Sl K F (upd H q (.lst (ws ++ [w]))) σ ρ f := Sl.mono (Same.refl F) h5 fun b hb => ⟨(Sl.no h5 b hb).1, upd_ne (dis3 b hb)⟩
      have s : Sb (((p :: g4) ++ g2) ++ f) (((p :: g3) ++ g2) ++ f) := (((Sb.refl [p]).app c2).app (.refl g2)).app (.refl f)
      exact ⟨F, f, (p :: g4) ++ g2, h1, fun b u e => by rw [upd_ne (fun z => by subst z; rw [q0] at e; cases e)]; exact h2 _ _ e, fun b u e => by rw [upd_ne (fun z => by subst z; rw [e5] at e; cases e)]; exact h3 _ _ e, h4, h5',
        Owns.cons (Own.lst k1 (by rw [upd_ne qp]; exact k2) c1) t', s.2 h7, fun b hb => h8 b (s.1 b hb)⟩
end
/-! x[k].append(c), c a constant -/
def appL (o : Option Val) (d : D) : Option Val := match o with
  | some (.lst zs) => if zs.length < 10000000 then some (.lst (zs ++ [.sh d])) else none
  | _ => none
def appIn (ys : List Val) (i : Int) (d : D) : Option (List Val) := (ixN ys.length i).bind fun j => (appL ys[j]? d).map fun z => ys.set j z
def appIxV (o : Option Val) (n : Nat) (k : D) (d : D) (ρ : DEnv) : Fl := match o, k with
  | some (.tup ys), .int i => match appIn ys i d with
    | some ys' => .nx (ρ.set n (some (.tup ys')))
    | none => .bad
  | some (.lst ys), .int i => match appIn ys i d with
    | some ys' => .nx (ρ.set n (some (.lst ys')))
    | none => .bad
  | _, _ => .bad
def sAppIx (n : Nat) (fk : DEnv → R Val) (d : D) : DEnv → Fl := fun ρ => match getV ρ[n]? with
  | none => .bad
  | some _ => (fk ρ).fl fun y ρ1 => appIxV (getV ρ1[n]?) n y.fz d ρ1
theorem appIn_some {ys ys' : List Val} {i : Int} {d : D} (h : appIn ys i d = some ys') : ∃ j zs, ixN ys.length i = some j ∧ ys[j]? = some (.lst zs) ∧ zs.length < 10000000 ∧ ys' = ys.set j (.lst (zs ++ [.sh d])) := by
  obtain ⟨j, e1, e2⟩ := Option.bind_eq_some_iff.mp h
  obtain ⟨z, e3, e4⟩ := Option.map_eq_some_iff.mp e2
  cases e5 : ys[j]? with
  | none => rw [e5] at e3; cases e3
  | some x =>
    rw [e5] at e3
    match x, e3 with
    | .lst zs, e3 =>
      have e3 : (if zs.length < 10000000 then some (Val.lst (zs ++ [.sh d])) else none) = some z := e3
      split at e3
      · cases e3
        exact ⟨j, zs, e1, e5, by assumption, e4.symm⟩
      · cases e3
section
variable {X : Cx} {i : Nat} {x : Str} {kb e : Expr} {fk : DEnv → R Val} {v : V} {d : D} {apos p p0 pos q : Pos}
theorem ds_appIx (hx : PE X (.Name x q) (tVar i)) (hk : DE X kb fk)
    (hb : PE X (.Call (.Attribute (.Subscript (.Name x q) kb p0) "append" apos) [e] [] p) (tBM X.K "list" rAppend (tOp (rIx X.K) (tVar i) (tE X fk)) (tCons (tC v) tNil))) (hd : ∀ F, At X.K F v d)
    (hs : swapsWith (.Call (.Attribute (.Subscript (.Name x q) kb p0) "append" apos) [e] [] p) none pos.line X.env = pure false := by rfl) :
    DS X (.Expr (.Call (.Attribute (.Subscript (.Name x q) kb p0) "append" apos) [e] [] p) pos) (sAppIx i fk d) :=
  PS.imp (ps_expr hb hs) fun D σ H ⟨F0, H0, ρ, vs, xs, s, q⟩ => by
    unfold sAppIx at q
    cases e0 : getV ρ[i]? with
    | none => rw [e0] at q; exact q.elim
    | some y0 =>
      rw [e0] at q
      obtain ⟨v0, k0, _⟩ := s.peek (getV_some e0)
      refine ⟨v0, k0, F0, H0, ρ, vs, xs, s, (post_fl q).imp (fun y ρ1 q1 H1 w s1 => ?_) fun _ _ z => z⟩
      have ew : ∀ j, y.fz = .int j → w = .int j := fun j hj => by
        obtain ⟨F', _, a, _⟩ := s1.fz.oneT
        rw [hj] at a
        cases a
        rfl
      have s2 := s1.pop
      cases e1 : getV ρ1[i]? with
      | none => rw [e1] at q1; exact q1.elim
      | some x1 =>
        rw [e1] at q1
        obtain ⟨v1, k1, s3⟩ := s2.take (getV_some e1)
        have ev : v1 = v0 := by rw [k0] at k1; cases k1; rfl
        subst ev
        have hlen : i < ρ1.length := (List.getElem?_eq_some_iff.mp (getV_some e1)).1
        match x1, hy : y.fz, q1 with
        | .tup ys, .int n, q1 =>
          have q1 : fpost X F0 H0 vs xs D (match appIn ys n d with
            | some ys' => Fl.nx (ρ1.set i (some (.tup ys')))
            | none => .bad) := q1
          cases e2 : appIn ys n d with
          | none => rw [e2] at q1; exact q1.elim
          | some ys' =>
            rw [e2] at q1
            obtain ⟨j, zs, a1, a2, a3, rfl⟩ := appIn_some e2
            obtain ⟨pp, us, qq, ws, rfl, b1, b2, b3, b4, b5, b6⟩ := Stt.app_tup s3 a2
            refine .inr (.inl ⟨pp, us, n, .ref qq, rfl, ew n hy, .of b1, by unfold atI; rw [b2, a1]; exact b3, .inl ⟨rfl, ws, .of b4⟩, ?_⟩)
            refine ⟨qq, ws, v, rfl, rfl, b4, by rw [b5, sizeLine_eq]; omega, q1 σ _ ?_⟩
            have s5 := (b6 v d hd).store (i := i) (by simpa using hlen)
            rw [List.set_set, set_same k1] at s5
            exact s5
        | .lst ys, .int n, q1 =>
          have q1 : fpost X F0 H0 vs xs D (match appIn ys n d with
            | some ys' => Fl.nx (ρ1.set i (some (.lst ys')))
            | none => .bad) := q1
          cases e2 : appIn ys n d with
          | none => rw [e2] at q1; exact q1.elim
          | some ys' =>
            rw [e2] at q1
            obtain ⟨j, zs, a1, a2, a3, rfl⟩ := appIn_some e2
            obtain ⟨pp, us, qq, ws, rfl, b1, b2, b3, b4, b5, b6⟩ := Stt.app_lst s3 a2
            refine .inl ⟨pp, us, n, .ref qq, rfl, ew n hy, .of b1, by unfold atI; rw [b2, a1]; exact b3, .inl ⟨rfl, ws, .of b4⟩, ?_⟩
            refine ⟨qq, ws, v, rfl, rfl, b4, by rw [b5, sizeLine_eq]; omega, q1 σ _ ?_⟩
            have s5 := (b6 v d hd).store (i := i) (by simpa using hlen)
            rw [List.set_set, set_same k1] at s5
            exact s5
/-- .. c a tuple of constants -/
theorem ds_appIxT {cs : List V} {ds : List D} {ta : TA} (hx : PE X (.Name x q) (tVar i)) (hk : DE X kb fk)
    (hb : PE X (.Call (.Attribute (.Subscript (.Name x q) kb p0) "append" apos) [e] [] p) (tBM X.K "list" rAppend (tOp (rIx X.K) (tVar i) (tE X fk)) ta))
    (hA : ∀ σ H Q, (∀ T, H T = none → Q [.ref T] (upd H T (.tup cs))) → ta σ H Q) (hl : cs.length = ds.length)
    (hpush : ∀ {F0 H0 H : Hp} {σ : St} {ρ : DEnv} {vs : List V} {xs : List Val}, Stt X.K F0 H0 H σ ρ vs xs → Stt X.K F0 H0 H σ ρ (cs ++ vs) (ds.map .sh ++ xs))
    (hs : swapsWith (.Call (.Attribute (.Subscript (.Name x q) kb p0) "append" apos) [e] [] p) none pos.line X.env = pure false := by rfl) :
    DS X (.Expr (.Call (.Attribute (.Subscript (.Name x q) kb p0) "append" apos) [e] [] p) pos) (sAppIx i fk (.tup ds)) :=
  PS.imp (ps_expr hb hs) fun D σ H ⟨F0, H0, ρ, vs, xs, s, q⟩ => by
    unfold sAppIx at q
    cases e0 : getV ρ[i]? with
    | none => rw [e0] at q; exact q.elim
    | some y0 =>
      rw [e0] at q
      obtain ⟨v0, k0, _⟩ := s.peek (getV_some e0)
      refine ⟨v0, k0, F0, H0, ρ, vs, xs, s, (post_fl q).imp (fun y ρ1 q1 H1 w s1 => ?_) fun _ _ z => z⟩
      have ew : ∀ j, y.fz = .int j → w = .int j := fun j hj => by
        obtain ⟨F', _, a, _⟩ := s1.fz.oneT
        rw [hj] at a
        cases a
        rfl
      have s2 := s1.pop
      cases e1 : getV ρ1[i]? with
      | none => rw [e1] at q1; exact q1.elim
      | some x1 =>
        rw [e1] at q1
        obtain ⟨v1, k1, s3⟩ := s2.take (getV_some e1)
        have ev : v1 = v0 := by rw [k0] at k1; cases k1; rfl
        subst ev
        have hlen : i < ρ1.length := (List.getElem?_eq_some_iff.mp (getV_some e1)).1
        match x1, hy : y.fz, q1 with
        | .tup ys, .int n, q1 =>
          have q1 : fpost X F0 H0 vs xs D (match appIn ys n (.tup ds) with
            | some ys' => Fl.nx (ρ1.set i (some (.tup ys')))
            | none => .bad) := q1
          cases e2 : appIn ys n (.tup ds) with
          | none => rw [e2] at q1; exact q1.elim
          | some ys' =>
            rw [e2] at q1
            obtain ⟨j, zs, a1, a2, a3, rfl⟩ := appIn_some e2
            obtain ⟨pp, us, qq, ws, rfl, b1, b2, b3, b4, b5, _⟩ := Stt.app_tup s3 a2
            refine .inr (.inl ⟨pp, us, n, .ref qq, rfl, ew n hy, .of b1, by unfold atI; rw [b2, a1]; exact b3, .inl ⟨rfl, ws, .of b4⟩, ?_⟩)
            refine hA σ H1 _ fun T nT => ?_
            have s4 : Stt X.K F0 H0 (upd H1 T (.tup cs)) σ (ρ1.set i none) (.ref T :: .ref pp :: vs) (.sh (.tup ds) :: .tup ys :: xs) := Stt.newTup (as := cs) (ds := ds) hl (hpush s3) nT
            obtain ⟨pp', us', qq', ws', z1, z2, z3, z4, z5, z6, z7⟩ := Stt.app2_tup (Stt.turn (as := [.ref T]) (bs := [.sh (.tup ds)]) rfl s4) a2
            cases z1
            have np : pp ≠ T := fun z => by subst z; rw [nT] at b1; cases b1
            rw [upd_ne np, b1] at z2
            cases z2
            rw [b3] at z4
            cases z4
            refine ⟨qq, ws', .ref T, rfl, rfl, z5, by rw [z6, sizeLine_eq]; omega, q1 σ _ ?_⟩
            have s5 := z7.store (i := i) (by simpa using hlen)
            rw [List.set_set, set_same k1] at s5
            exact s5
        | .lst ys, .int n, q1 =>
          have q1 : fpost X F0 H0 vs xs D (match appIn ys n (.tup ds) with
            | some ys' => Fl.nx (ρ1.set i (some (.lst ys')))
            | none => .bad) := q1
          cases e2 : appIn ys n (.tup ds) with
          | none => rw [e2] at q1; exact q1.elim
          | some ys' =>
            rw [e2] at q1
            obtain ⟨j, zs, a1, a2, a3, rfl⟩ := appIn_some e2
            obtain ⟨pp, us, qq, ws, rfl, b1, b2, b3, b4, b5, _⟩ := Stt.app_lst s3 a2
            refine .inl ⟨pp, us, n, .ref qq, rfl, ew n hy, .of b1, by unfold atI; rw [b2, a1]; exact b3, .inl ⟨rfl, ws, .of b4⟩, ?_⟩
            refine hA σ H1 _ fun T nT => ?_
            have s4 : Stt X.K F0 H0 (upd H1 T (.tup cs)) σ (ρ1.set i none) (.ref T :: .ref pp :: vs) (.sh (.tup ds) :: .lst ys :: xs) := Stt.newTup (as := cs) (ds := ds) hl (hpush s3) nT
            obtain ⟨pp', us', qq', ws', z1, z2, z3, z4, z5, z6, z7⟩ := Stt.app2_lst (Stt.turn (as := [.ref T]) (bs := [.sh (.tup ds)]) rfl s4) a2
            cases z1
            have np : pp ≠ T := fun z => by subst z; rw [nT] at b1; cases b1
            rw [upd_ne np, b1] at z2
            cases z2
            rw [b3] at z4
            cases z4
            refine ⟨qq, ws', .ref T, rfl, rfl, z5, by rw [z6, sizeLine_eq]; omega, q1 σ _ ?_⟩
            have s5 := z7.store (i := i) (by simpa using hlen)
            rw [List.set_set, set_same k1] at s5
            exact s5
/-! a name's value is handed on as one's own -/
def takeR (o : Option Val) (n : Nat) (ρ : DEnv) : R Val := match o with
  | some x => .ok x (ρ.set n none)
  | none => .bad
def sTake (n : Nat) : DEnv → R Val := fun ρ => takeR (getV ρ[n]?) n ρ
theorem de_take (hx : PE X (.Name x q) (tVar i)) : DE X (.Name x q) (sTake i) :=
  PE.imp hx fun σ H Q ⟨F0, H0, ρ, vs, xs, s, q⟩ => by
    unfold sTake at q
    cases e0 : getV ρ[i]? with
    | none => rw [e0] at q; exact q.elim
    | some y =>
      rw [e0] at q
      obtain ⟨v, k0, s1⟩ := s.take (getV_some e0)
      exact ⟨v, k0, q H v s1⟩
def lendT (r : R Bool) (ρ : DEnv) : R Bool := match r with
  | .ok b _ => .ok b ρ
  | _ => .bad
def sLendT (f : DEnv → R Bool) : DEnv → R Bool := fun ρ => lendT (f (ρ.map frO)) ρ
theorem dt_lend {e : Expr} {f : DEnv → R Bool} (h : DT X e f) : DT X e (sLendT f) :=
  PT.imp h fun σ H Q ⟨F0, H0, ρ, vs, xs, s, q⟩ => by
    obtain ⟨F1, s1, back⟩ := s.lend
    refine ⟨F1, H0, ρ.map frO, [], [], s1, ?_⟩
    have q : post X F0 H0 vs xs _ (lendT (f (ρ.map frO)) ρ) := q
    cases e1 : f (ρ.map frO) with
    | bad => rw [e1] at q; exact q.elim
    | exc _ _ => rw [e1] at q; exact q.elim
    | ok b ρ1 =>
      rw [e1] at q
      intro H1 s2
      exact q H1 (back H1 σ ρ1 .non .non rfl (s2.scal fun _ => .non)).pop
end
end DL

/-! DLm: instances of own classes: attributes, methods by class, making, isinstance. -/
namespace DL
open PySem PySem.Spec L2

theorem all0 {α : Type} {P : α → Prop} : ∀ a ∈ ([] : List α), P a := fun _ h => by cases h
/-! ### attributes -/
def fldD (Cs : List Addr) (f : Str) : D → Option Val := fun d => match d with
  | .ins C ns ds => if C ∈ Cs then ((ns.zip ds).lookup f).map .sh else none
  | _ => none
theorem zip_look {K : PySem.W.Frag} {F : Hp} {f : Str} {d : D} : ∀ {ns : List Str} {vs : List V} {ds : List D}, ns.length = vs.length → Ats K F vs ds → (ns.zip ds).lookup f = some d → ∃ v, (ns.zip vs).lookup f = some v ∧ At K F v d
  | [], _, _, _, _, h => by simp at h
  | n :: ns, [], _, e, _, _ => by simp at e
  | n :: ns, v :: vs, _, e, .cons (d := d') (ds := ds') a t, h => by
    rw [List.zip_cons_cons] at h ⊢
    unfold List.lookup at h ⊢
    by_cases hb : (f == n) = true
    · rw [hb] at h ⊢
      have h : some d' = some d := h
      cases h
      exact ⟨v, rfl, a⟩
    · have hb : (f == n) = false := by simpa using hb
      rw [hb] at h ⊢
      exact zip_look (by simpa using e) t h
theorem zip_none {f : Str} : ∀ {ns : List Str} {vs : List V}, f ∉ ns → (ns.zip vs).lookup f = none
  | [], _, _ => rfl
  | n :: ns, [], _ => rfl
  | n :: ns, v :: vs, h => by
    simp only [List.mem_cons, not_or] at h
    rw [List.zip_cons_cons]
    unfold List.lookup
    have hb : (f == n) = false := beq_eq_false_iff_ne.mpr h.1
    rw [hb]
    exact zip_none h.2
section
variable {X : Cx} {e o : Expr} {fe fo : DEnv → R Val} {f m : Str} {pos p apos pos' : Pos}
theorem de_fld {Cs : List Addr} (hC : ∀ C ∈ Cs, Cls X.K C ∧ NoAttr X.K C f) (he : DE X e fe) (hb : attributeBase e f X.env (eval e X.env) = eval e X.env := by rfl) : DE X (.Attribute e f pos) (sUn (fldD Cs f) fe) :=
  PE.imp (pe_fld he hb) fun σ H Q ⟨F0, H0, ρ, vs, xs, s, q⟩ => by
    refine ⟨F0, H0, ρ, vs, xs, s, (post_bind q).imp (fun x ρ1 q1 H1 v s1 => ?_) fun _ _ z => z⟩
    cases e1 : fldD Cs f x.fz with
    | none => rw [e1] at q1; exact q1.elim
    | some y =>
      rw [e1] at q1
      obtain ⟨F, hF, a, t⟩ := s1.fz.oneT
      match hx : x.fz, e1, a with
      | .ins C ns ds, e1, .ins (vs := us) h1 h2 h3 =>
        have e1 : (if C ∈ Cs then ((ns.zip ds).lookup f).map Val.sh else none) = some y := e1
        split at e1
        · rename_i hc
          obtain ⟨d, e2, rfl⟩ := Option.map_eq_some_iff.mp e1
          obtain ⟨w, e3, e4⟩ := zip_look h2 h3 e2
          exact ⟨_, C, _, _, w, rfl, hF _ _ h1, (hC C hc).1, (hC C hc).2, e3, q1 H1 w (t [w] [d] (.one e4))⟩
        · cases e1

/-! ### a new instance -/
theorem Stt.reset {K : PySem.W.Frag} {F0 H0 H : Hp} {σ : St} {ρ : DEnv} {vs : List V} {xs : List Val} {x : Addr} {o o' : HO} (h : Stt K F0 H0 H σ ρ vs xs) (hx : F0 x = none) (h0 : H0 x = some o) : Stt K F0 (upd H0 x o') (upd H x o') σ ρ vs xs := by
  obtain ⟨F, f, g, h1, h2, h3, h4, h5, h6, h7, h8⟩ := h
  have nF : F x = none := h4 x hx (by rw [h0]; exact fun z => nomatch z)
  have ne : ∀ b ∈ g ++ f, b ≠ x := fun b hb e => by
    subst e
    rw [h8 b hb] at h0
    cases h0
  refine ⟨F, f, g, h1, fun b u e => ?_, fun b u e => by rw [upd_ne (ne_of_none e nF)]; exact h3 _ _ e, fun b z1 z2 => ?_,
    Sl.mono (Same.refl F) h5 fun b hb => ⟨(Sl.no h5 b hb).1, upd_ne (ne b (List.mem_append_right _ hb))⟩, Owns.mono (Same.refl F) _ _ _ h6 fun b hb => ⟨(Owns.no _ _ _ h6 b hb).1, upd_ne (ne b (List.mem_append_left _ hb))⟩, h7, fun b hb => by rw [upd_ne (ne b hb)]; exact h8 b hb⟩
  · by_cases hb : b = x
    · subst hb; rw [upd_same] at e ⊢; exact e
    · rw [upd_ne hb] at e ⊢; exact h2 _ _ e
  · by_cases hb : b = x
    · subst hb; exact nF
    · rw [upd_ne hb] at z2; exact h4 b z1 z2
theorem Stt.born {K : PySem.W.Frag} {F H0 H1 H' : Hp} {σ : St} {ρ : DEnv} {us : List V} {ds : List D} {x dx C : Addr} {ns : List Str} (h : Stt K F H0 H' σ ρ us (ds.map .sh)) (hx0 : H0 x = some (.ins C dx (ns.zip us))) (hk : ∀ b, b ≠ x → b ≠ dx → H0 b = H1 b)
    (sF : Same F H1) (nx : H1 x = none) (ndx : H1 dx = none) (hl : ns.length = us.length) : Stt K F H1 H' [] [] [.ref x] [.sh (.ins C ns ds)] := by
  obtain ⟨Fi, f, g, h1, h2, h3, h4, h5, h6, h7, h8⟩ := h
  have fx : F x = none := sF.free nx
  have nFi : Fi x = none := h4 x fx (by rw [hx0]; exact fun z => nomatch z)
  obtain ⟨a, rfl⟩ := Owns.ats h6
  have hx : H' x = some (.ins C dx (ns.zip us)) := h2 _ _ hx0
  have sFi : Same Fi (upd Fi x (.ins C dx (ns.zip us))) := fun b u e => by rw [upd_ne (ne_of_none e nFi)]; exact e
  refine ⟨upd Fi x (.ins C dx (ns.zip us)), [], [], h1.trans sFi, fun b u e => h2 _ _ (by rw [hk b (ne_of_none e nx) (ne_of_none e ndx)]; exact e), fun b u e => ?_, fun b z1 z2 => ?_, .nil, .cons (f := []) (g := []) (.sh (.ins upd_same hl (Ats.mono sFi _ _ a))) .nil, by simp, fun b hb => by cases hb⟩
  · by_cases hb : b = x
    · subst hb; rw [upd_same] at e; rw [hx]; exact e
    · rw [upd_ne hb] at e; exact h3 _ _ e
  · have nb : b ≠ x := fun e => by subst e; exact z2 nx
    have nd : b ≠ dx := fun e => by subst e; exact z2 ndx
    rw [upd_ne nb]
    exact h4 b z1 (by rw [hk b nb nd]; exact z2)
def inits (X : Cx) : List (Str × (DEnv → R Val)) → TS
  | [] => tNext
  | (f, fe) :: r => tSeq (sFld X.K (tVar 0) (tE X fe) f) (inits X r)
def DInit (X : Cx) (ss : List Stmt) (l : List (Str × (DEnv → R Val))) : Prop := PSs X ss (inits X l)
theorem dinit_nil : DInit X [] [] := pss_nil
theorem dinit_cons {rest : List Stmt} {r : List (Str × (DEnv → R Val))} (hx : PE X o (tVar 0)) (he : DE X e fe) (h : DInit X rest r) (hs : swapsWith e (some (.Attribute o f pos')) pos.line X.env = pure false := by rfl) : DInit X (.Assign [.Attribute o f pos'] e pos :: rest) ((f, fe) :: r) :=
  pss_cons (ps_fld hx he hs) h
theorem dinit_one (hx : PE X o (tVar 0)) (he : DE X e fe) (hs : swapsWith e (some (.Attribute o f pos')) pos.line X.env = pure false := by rfl) : DInit X [.Assign [.Attribute o f pos'] e pos] [(f, fe)] := dinit_cons hx he dinit_nil hs
def runInit : List (Str × (DEnv → R Val)) → DEnv → List Str → List D → Option (List Str × List D)
  | [], _, ns, ds => some (ns, ds)
  | (f, fe) :: r, ρ, ns, ds => if f ∈ ns then none else match fe ρ with
    | .ok y ρ1 => runInit r ρ1 (ns ++ [f]) (ds ++ [y.fz])
    | _ => none
theorem putF_new {f : Str} {v : V} : ∀ {ns : List Str} {ws : List V}, ns.length = ws.length → f ∉ ns → putF f v (ns.zip ws) = (ns ++ [f]).zip (ws ++ [v])
  | [], [], _, _ => rfl
  | n :: ns, w :: ws, e, h => by
    simp only [List.mem_cons, not_or] at h
    show (if n = f then (n, v) :: ns.zip ws else (n, w) :: putF f v (ns.zip ws)) = (n, w) :: (ns ++ [f]).zip (ws ++ [v])
    rw [if_neg (fun z => h.1 z.symm), putF_new (by simpa using e) h.2]
theorem inits_read {F : Hp} {C x dx : Addr} (hC : Cls X.K C) (nF : F x = none) : ∀ (l : List (Str × (DEnv → R Val))) (ρ : DEnv) (ns : List Str) (ds : List D) (ws : List V) (σ : St) (H H0 : Hp) (D : Ends) (ns' : List Str) (ds' : List DL.D), (∀ p ∈ l, NoAttr X.K C p.1) → ns.length = ws.length → ns.length + l.length < 1000 → σ[0]? = some (some (.ref x)) →
    H0 x = some (.ins C dx (ns.zip ws)) → Stt X.K F H0 H σ ρ ws (ds.map .sh) → runInit l ρ ns ds = some (ns', ds') →
    (∀ (H0' H' : Hp) (ws' : List V) (ρ' : DEnv), H0' x = some (.ins C dx (ns'.zip ws')) → (∀ b, b ≠ x → H0' b = H0 b) → ns'.length = ws'.length → Stt X.K F H0' H' σ ρ' ws' (ds'.map .sh) → D.nx σ H') → inits X l D σ H
  | [], ρ, ns, ds, ws, σ, H, H0, D, ns', ds', _, hl, _, _, h0, s, hr, k => by
    cases hr
    exact k H0 H ws ρ h0 (fun _ _ => rfl) hl s
  | (f, fe) :: r, ρ, ns, ds, ws, σ, H, H0, D, ns', ds', hN, hl, hz, hs, h0, s, hr, k => by
    unfold runInit at hr
    split at hr
    · cases hr
    rename_i hf
    cases e1 : fe ρ with
    | exc _ _ => rw [e1] at hr; cases hr
    | bad => rw [e1] at hr; cases hr
    | ok y ρ1 =>
      rw [e1] at hr
      refine ⟨F, H0, ρ, ws, ds.map .sh, s, ?_⟩
      rw [e1]
      intro H1 v s1
      have hx1 : H1 x = some (.ins C dx (ns.zip ws)) := by
        obtain ⟨_, _, _, _, h2, _⟩ := s1
        exact h2 _ _ h0
      have hzl : (ns.zip ws).length < 1000 := by
        rw [List.length_zip]
        simp only [List.length_cons] at hz
        omega
      refine ⟨_, hs, x, C, dx, _, rfl, hx1, hC, hN _ List.mem_cons_self, hzl, ?_⟩
      rw [putF_new hl hf]
      have hl2 : ws.length = ds.length := by simpa using s1.lens
      have s2 : Stt X.K F H0 H1 σ ρ1 (v :: (ws ++ [])) (.sh y.fz :: (ds.map .sh ++ [])) := by
        rw [List.append_nil, List.append_nil]
        exact s1.fz
      have s3 := Stt.turn' (as := ws) (bs := ds.map .sh) (by simpa using hl2) s2
      have s4 : Stt X.K F H0 H1 σ ρ1 (ws ++ [v]) ((ds ++ [y.fz]).map .sh) := by
        rw [List.map_append]
        exact s3
      have s5 := s4.reset (o' := .ins C dx ((ns ++ [f]).zip (ws ++ [v]))) nF h0
      refine inits_read hC nF r ρ1 (ns ++ [f]) (ds ++ [y.fz]) (ws ++ [v]) σ _ _ D ns' ds' (fun p hp => hN p (List.mem_cons_of_mem _ hp)) (by simp [hl]) (by simp only [List.length_cons] at hz; simp; omega) hs upd_same s5 hr fun H0' H' ws' ρ' k1 k2 k3 k4 => ?_
      exact k H0' H' ws' ρ' k1 (fun b hb => (k2 b hb).trans (upd_ne hb)) k3 k4
end
/-- the promise of an __init__ that fills fs -/
def spInit (K : PySem.W.Frag) (fs : List Str) (n : Nat) (φ : List D → Option (List Str × List D)) : Sp := fun vs H Q E => ∃ x dx C rest F H1 ds, vs = .ref x :: rest ∧ H1 x = none ∧ H1 dx = none ∧ dx ≠ x ∧ H = upd (upd H1 dx (.own x)) x (.ins C dx []) ∧ Cls K C ∧ (∀ f ∈ fs, NoAttr K C f) ∧ Same F H1 ∧ Ats K F rest ds ∧ ds.length = n ∧ ∃ p, φ ds = some p ∧
  ∀ H', Stt K F H1 H' [] [] [.ref x] [.sh (.ins C p.1 p.2)] → Q .non H'
theorem Stt.un {K : PySem.W.Frag} {F0 H0 H : Hp} {σ : St} {ρ : DEnv} {vs : List V} {xs : List Val} {y : Option V} (h : Stt K F0 H0 H σ ρ vs xs) : Stt K F0 H0 H (y :: σ) (none :: ρ) vs xs := by
  obtain ⟨F, f, g, h1, h2, h3, h4, h5, h6⟩ := h
  exact ⟨F, f, g, h1, h2, h3, h4, .un h5, h6⟩
section
variable {P : Program} {w : World} {K : PySem.W.Frag} {mg : Str → Option Value} {base : Heap}
theorem fnI {x qual : Str} {st : Stmt} {f : Addr} {fd : FuncData} {N ps : List Str} {k n : Nat} {l : List (Str × (DEnv → R Val))} (F : Fun K x qual st f fd) (S : FnScope N ps (defScope st)) (hn : ps.length = n + 1) (hz : l.length < 1000)
    (hbody : ∀ (cdv : Value) (A : Around) (outer : List PySem.Env) (s0 : Shared) (H : Hp) (E : XK), Room k (A.deeper (PyProof.Rows.envOfC qual (defScope st) s0.heap.objs.size f cdv)) →
      DInit (cxOf (L2.CX P w) P w K mg base N qual (defScope st) f cdv A outer s0 H E) (defBody st) l) :
    FnOk P w K mg base (L2.CX P w) (k + 1) f fd ps (spInit K (l.map Prod.fst) n fun ds => runInit l (none :: env0 (N.length - 1) ds) [] []) := by
  refine F.okX S (fun vs H Q E ⟨x, dx, C, rest, G, H1, ds, e, _, _, _, _, _, _, _, ha, hl, _⟩ => by rw [e, hn, List.length_cons, ha.length, hl]) fun cdv A outer s0 H vs Q E hr ⟨x, dx, C, rest, G, H1, ds, e, nx, ndx, ne, eH, hC, hN, hG, ha, hl, p, hp, q⟩ => ⟨_, hbody cdv A outer s0 H E hr, ?_⟩
  subst e
  have fx : G x = none := hG.free nx
  have sG : Same G H := fun b u z => by
    have z1 := hG _ _ z
    rw [eH, upd_ne (ne_of_none z1 nx), upd_ne (ne_of_none z1 ndx)]
    exact z1
  have hx : H x = some (.ins C dx []) := by rw [eH, upd_same]
  have s1 : Stt K G H H (some (.ref x) :: (rest.map some ++ List.replicate (N.length - 1 - ds.length) none)) (none :: env0 (N.length - 1) ds) [] [] := (Stt.begin sG ha _).un
  have eσ : L2.start N (.ref x :: rest) = some (.ref x) :: (rest.map some ++ List.replicate (N.length - 1 - ds.length) none) := by
    unfold L2.start
    rw [List.length_cons, ha.length, List.map_cons, List.cons_append]
    congr 3
    omega
  rw [eσ]
  obtain ⟨ns', ds'⟩ := p
  refine inits_read (F := G) (H0 := H) (ns := []) (ds := []) (ws := []) (ns' := ns') (ds' := ds') hC fx l _ _ _ _ (fun p hp => hN p.1 (List.mem_map_of_mem hp)) rfl (by simpa using hz) rfl hx s1 hp fun H0' H' ws' ρ' k1 k2 k3 k4 => ?_
  exact q H' (Stt.born k4 k1 (fun b hb hd => by rw [k2 b hb, eH, upd_ne hb, upd_ne hd]) hG nx ndx k3)
end
def sMake (C : Addr) (φ : List D → Option (List Str × List D)) (n : Nat) (fs : DEnv → R (List Val)) : DEnv → R Val := fun ρ => (fs ρ).bind fun ys ρ1 => if ys.length = n then liftO ((φ (fzs ys)).map fun p => .sh (.ins C p.1 p.2)) ρ1 else .bad
def NoX : XK := fun _ _ _ => False
theorem passX {X : Cx} : Passes (L2.CX X.prog X.w) X NoX := fun _ _ _ _ _ _ _ ⟨_, _, _, _, _, _, _, _, _, _, _, _, z⟩ => z.elim
section
variable {X : Cx} {k n : Nat} {C f : Addr} {fd : FuncData} {ps fns : List Str} {φ : List D → Option (List Str × List D)} {x m : Str} {p pos apos : Pos} {e o : Expr} {es : List Expr} {fs : DEnv → R (List Val)} {fo fe : DEnv → R Val}
theorem de_make (M : Mk X.K C f) (cl : Cls X.K C) (hN : ∀ f ∈ fns, NoAttr X.K C f) (F : FnOk X.prog X.w X.K X.mg X.base (L2.CX X.prog X.w) k f fd ps (spInit X.K fns n φ)) (hr : Room (k + 1) X.A) (hg : Gl X x) (hm : X.mg x = some (.ref C)) (hb : Binds X.K fd ps [])
    (ha : DA X (e :: es) fs) (hdb : (x == ("__debug__" : Str)) = false := by decide) (he : starEach (e :: es) X.env = (false, eval e X.env) :: starEach es X.env := by rfl) (hpl : (backTo pos (starEach es X.env)).any (·.1) = false := by rfl) :
    DE X (.Call (.Name x p) (e :: es) [] pos) (sMake C φ n fs) :=
  PE.imp (pe_make M F hr hg hm hb .nil passX ha hdb he hpl) fun σ H Q ⟨F0, H0, ρ, vs, xs, s, q⟩ => by
    refine ⟨F0, H0, ρ, vs, xs, s, (post_bind q).imp (fun ys ρ1 q1 H1 ws hl s1 => ?_) fun _ _ z => z⟩
    intro x dx nx ndx ne
    split at q1
    · rename_i hn
      cases e1 : φ (fzs ys) with
      | none => rw [e1] at q1; exact q1.elim
      | some p =>
        rw [e1] at q1
        obtain ⟨hl2, s2⟩ := s1.fzsP hl
        obtain ⟨F, hF, hA, c⟩ := Stt.call hl2 s2
        exact ⟨x, dx, C, ws, F, H1, fzs ys, by rw [List.append_nil], nx, ndx, ne, rfl, cl, hN, hF, hA, by rw [fzs_map, List.length_map]; exact hn, p, e1, fun H' s3 => ⟨rfl, q1 H' _ (c H' _ _ s3)⟩⟩
    · exact q1.elim

/-! ### methods, by the class -/
def methD (tab : List (Addr × (List D → CR))) (m : Str) : D → Option (List D → CR) := fun d => match d with
  | .ins C ns _ => if m ∈ ns then none else tab.lookup C
  | _ => none
def crM (c : CR) (ρ : DEnv) : R Val := match c with
  | .ret y => .ok y ρ
  | _ => .bad
def sMeth (tab : List (Addr × (List D → CR))) (m : Str) (n : Nat) (fo : DEnv → R Val) (fs : DEnv → R (List Val)) : DEnv → R Val := fun ρ => match fo ρ with
  | .ok x ρ1 => match methD tab m x.fz with
    | some φ => (fs ρ1).bind fun ys ρ2 => if ys.length + 1 = n then crM (φ (x.fz :: fzs ys)) ρ2 else .bad
    | none => .bad
  | _ => .bad
theorem look_mem {α β : Type} [BEq α] [LawfulBEq α] {a : α} {b : β} : ∀ {l : List (α × β)}, l.lookup a = some b → (a, b) ∈ l
  | [], h => by cases h
  | (c, d) :: l, h => by
    unfold List.lookup at h
    by_cases hb : (a == c) = true
    · rw [hb] at h
      have h : some d = some b := h
      cases h
      rw [beq_iff_eq.mp hb]
      exact List.mem_cons_self
    · have hb : (a == c) = false := by simpa using hb
      rw [hb] at h
      exact List.mem_cons_of_mem _ (look_mem h)
theorem de_methT {tab : List (Addr × (List D → CR))} (h : ∀ p ∈ tab, PE X e (tMeth p.1 m (spD X.K n p.2) [] NoX (tE X fo) (tA X fs))) : DE X e (sMeth tab m n fo fs) :=
  ⟨fun pins s σ H Q I ⟨F0, H0, ρ, vs, xs, st, q⟩ => by
    unfold sMeth at q
    cases e0 : fo ρ with
    | exc _ _ => rw [e0] at q; exact q.elim
    | bad => rw [e0] at q; exact q.elim
    | ok x ρ1 =>
      rw [e0] at q
      dsimp only at q
      cases e1 : methD tab m x.fz with
      | none => rw [e1] at q; exact q.elim
      | some φ =>
        rw [e1] at q
        dsimp only at q
        match hx : x.fz, e1 with
        | .ins C ns ds, e1 =>
          have e1 : (if m ∈ ns then none else tab.lookup C) = some φ := e1
          split at e1
          · cases e1
          rename_i hm
          refine (h (C, φ) (look_mem e1)).run pins s σ H Q I ⟨F0, H0, ρ, vs, xs, st, ?_⟩
          rw [e0]
          intro H1 v s1
          have s1 := s1.fz
          rw [hx] at s1 q
          obtain ⟨F, hF, a, t⟩ := s1.oneT
          match v, a, s1 with
          | .ref va, .ins (dx := dx) (vs := us) h1 h2 h3, s1 =>
          refine ⟨va, dx, ns.zip us, rfl, hF _ _ h1, zip_none hm, F0, H0, ρ1, .ref va :: vs, .sh (.ins C ns ds) :: xs, s1, (post_bind q).imp (fun ys ρ2 q2 H2 ws hl s2 => ?_) fun _ _ z => z.more⟩
          split at q2
          · rename_i hn
            have s3 := Stt.turn hl s2
            obtain ⟨hl2, s4⟩ := Stt.fzsP (as := .ref va :: ws) (bs := .sh (.ins C ns ds) :: ys) (by simp [hl]) s3
            obtain ⟨F2, hF2, hA, c⟩ := Stt.call hl2 s4
            refine ⟨F2, _, hF2, by rw [List.append_nil]; exact hA, by rw [fzs_map, List.length_map]; exact hn, ?_⟩
            have q2 : post X F0 H0 vs xs (fun x ρ' => ∀ H' v, Stt X.K F0 H0 H' σ ρ' (v :: vs) (x :: xs) → Q v H') (crM (φ (fzs (.sh (.ins C ns ds) :: ys))) ρ2) := q2
            show crPost X.K F2 H2 Q NoX (φ (fzs (.sh (.ins C ns ds) :: ys)))
            cases e2 : φ (fzs (.sh (.ins C ns ds) :: ys)) with
            | ret y => rw [e2] at q2; exact fun H' v s5 => q2 H' v (c H' [v] [y] s5)
            | exc y => rw [e2] at q2; exact q2.elim
            | bad => rw [e2] at q2; exact q2.elim
          · exact q2.elim⟩
theorem tMeth_nil {C : Addr} {sp : Sp} {σ : St} {H : Hp} {Q : VK} (h : tMeth C m sp [] NoX (tE X fo) (tA X sNil) σ H Q) : tMeth C m sp [] NoX (tE X fo) tNil σ H Q :=
  PE_Q h fun v H1 ⟨a, dx, fs, e1, e2, e3, F0, H0, ρ, vs, xs, s, q⟩ => ⟨a, dx, fs, e1, e2, e3, q H1 [] rfl s⟩

theorem pe_methN {C : Addr} {sp : Sp} (h : PE X e (tMeth C m sp [] NoX (tE X fo) tNil)) : PE X e (tMeth C m sp [] NoX (tE X fo) (tA X sNil)) := PE.imp h fun _ _ _ q => tMeth_nil q
/-! ### isinstance -/
def isiC (tab : List (Addr × Bool)) : D → Option Val := fun d => match d with
  | .ins C _ _ => (tab.lookup C).map fun b => .sh (.bl b)
  | _ => none
structure IsT (K : PySem.W.Frag) (C T : Addr) (b : Bool) : Prop where
  cl : Cls K C
  ha : PySem.W.findIn K (.ref C) "__class__" = some (some (.builtin "object.__class__"))
  hn : PySem.W.specialIn K (.builtin "object.__class__") "__get__" = some (some (.builtin "getset_descriptor.__get__"))
  ht : PySem.W.takesIn K (.builtin "object.__class__") = some true
  hm : PySem.W.mroIn K C (.type "object") = some true
  is : PySem.W.kitOne K (.ref C) (.ref T) = some b
theorem und_isiC {T : Addr} {tab : List (Addr × Bool)} (h : ∀ p ∈ tab, IsT X.K p.1 T p.2) : UnD X (fun x H Q => rIsi X.K [x, .ref T] H Q) (isiC tab) := fun F0 H0 H σ ρ vs xs v d Q s ⟨x, hx, q⟩ => by
  obtain ⟨F, hF, a, t⟩ := s.oneT
  match d, a, hx with
  | .ins C ns ds, .ins (vs := us) h1 h2 h3, hx =>
    obtain ⟨b, e1, rfl⟩ := Option.map_eq_some_iff.mp (show (tab.lookup C).map (fun b => Val.sh (.bl b)) = some x from hx)
    have z := h _ (look_mem e1)
    exact ⟨_, .ref T, .ref C, .ref T, b, rfl, .own _, .base (.ins (hF _ _ h1) z.cl z.ha z.hn z.ht z.hm), z.is, q H _ (s.pop.scal fun F => .bl _)⟩
theorem de_isiC {T : Addr} {tab : List (Addr × Bool)} (h : ∀ p ∈ tab, IsT X.K p.1 T p.2) {y : Str} {q : Pos} (hg : Gl X "isinstance") (hm : X.mg "isinstance" = none) (he : DE X e fe) (hy : PE X (.Name y q) (tC (.ref T)))
    (h1 : starEach [e, .Name y q] X.env = (false, eval e X.env) :: starEach [.Name y q] X.env := by rfl) (h2 : starEach [.Name y q] X.env = (false, eval (.Name y q) X.env) :: starEach [] X.env := by rfl) (h3 : (backTo pos (starEach [.Name y q] X.env)).any (·.1) = false := by rfl) :
    DE X (.Call (.Name "isinstance" p) [e, .Name y q] [] pos) (sUn (isiC tab) fe) :=
  PE.imp (pe_callB call_isi hg hm (by decide +kernel) (pa_cons he (pa_cons hy pa_nil h2) h1) (he := h1) (hpl := h3)) fun σ H Q h' => tE_un (und_isiC h) h'
end
/-! two classes are two: their methods' names differ -/
theorem qual_ne {o1 o2 : Value} {d1 d2 : Option Addr} {s1 s2 : Array (Option Value)} {g1 g2 : FuncData} (hq : g1.qualname ≠ g2.qualname) (h : (some ⟨o1, d1, .func g1, s1⟩ : Option Obj) = some ⟨o2, d2, .func g2, s2⟩) : False := by
  have e := Option.some.inj h
  injection e with _ _ e3 _
  injection e3 with e4
  exact hq (congrArg FuncData.qualname e4)
end DL

/-! DLn: max of three, a list emptied. -/
namespace DL
open PySem PySem.Spec L2
def max3D : D → D → D → Option Val := fun a b c => match a, b, c with
  | .int i, .int j, .int k => some (.sh (.int (max i (max j k))))
  | _, _, _ => none
def g3 (g : D → D → D → Option Val) : List D → Option Val := fun l => match l with
  | [a, b, c] => g a b c
  | _ => none
section
variable {X : Cx} {p pos : Pos} {e e2 e3 : Expr} {fs : DEnv → R (List Val)}
theorem nuMax_int (i j k : Int) : nuMax3 (.int i) (.int j) (.int k) = some (.int (max i (max j k))) := by
  have e1 : ∀ a b : Int, nuMax2 (.int a) (.int b) = some (if decide (a < b) = true then (.int b : V) else .int a) := fun _ _ => rfl
  unfold nuMax3
  rw [e1]
  by_cases h : i < j
  · rw [if_pos (decide_eq_true h)]
    show nuMax2 (.int j) (.int k) = _
    rw [e1]
    by_cases h2 : j < k
    · rw [if_pos (decide_eq_true h2)]; congr 2; omega
    · rw [if_neg (by simpa using h2)]; congr 2; omega
  · rw [if_neg (by simpa using h)]
    show nuMax2 (.int i) (.int k) = _
    rw [e1]
    by_cases h2 : i < k
    · rw [if_pos (decide_eq_true h2)]; congr 2; omega
    · rw [if_neg (by simpa using h2)]; congr 2; omega
theorem max3_some {ds : List D} {x : Val} (h : g3 max3D ds = some x) : ∃ i j k, ds = [.int i, .int j, .int k] ∧ x = .sh (.int (max i (max j k))) := by
  unfold g3 at h
  split at h
  · unfold max3D at h
    split at h
    · exact ⟨_, _, _, rfl, (Option.some.inj h).symm⟩
    · cases h
  · cases h
theorem calld_max3 : CallD X (rNuC3 nuMax3) (g3 max3D) := fun F0 H0 H σ ρ vs xs ws ds Q hl s ⟨x, hx, q⟩ => by
  obtain ⟨i, j, k, rfl, rfl⟩ := max3_some hx
  match ws, hl, s with
  | [u, v, w], _, s =>
    obtain ⟨F, hF, hA, t⟩ := Stt.reads (as := [u, v, w]) (ds := [.int i, .int j, .int k]) rfl s
    cases hA with
    | cons a b =>
      cases b with
      | cons b c =>
        cases c with
        | cons c _ =>
          cases a
          cases b
          cases c
          have s : Stt X.K F0 H0 H σ ρ (.int i :: .int j :: .int k :: vs) (.sh (.int i) :: .sh (.int j) :: .sh (.int k) :: xs) := s
          exact ⟨.int i, .int j, .int k, _, rfl, nuMax_int i j k, q H _ (s.pop.pop.pop.scal fun F => .int _)⟩
theorem de_max3 (hc : X.calm = true) (hg : Gl X "max") (hm : X.mg "max" = none) (ha : DA X [e, e2, e3] fs) (he : starEach [e, e2, e3] X.env = (false, eval e X.env) :: starEach [e2, e3] X.env := by rfl) (hpl : (backTo pos (starEach [e2, e3] X.env)).any (·.1) = false := by rfl) : DE X (.Call (.Name "max" p) [e, e2, e3] [] pos) (sCB (g3 max3D) fs) := de_callB (call_max3Nu hc) calld_max3 hg hm (by decide +kernel) ha (he := he) (hpl := hpl)
end
section
variable {X : Cx} {p pos : Pos} {e e2 e3 : Expr} {fs : DEnv → R (List Val)}
def min3D : D → D → D → Option Val := fun a b c => match a, b, c with
  | .int i, .int j, .int k => some (.sh (.int (min i (min j k))))
  | _, _, _ => none
theorem nuMin_int (i j k : Int) : nuMin3 (.int i) (.int j) (.int k) = some (.int (min i (min j k))) := by
  have e1 : ∀ a b : Int, nuMin2 (.int a) (.int b) = some (if decide (b < a) = true then (.int b : V) else .int a) := fun _ _ => rfl
  unfold nuMin3
  rw [e1]
  by_cases h : j < i
  · rw [if_pos (decide_eq_true h)]
    show nuMin2 (.int j) (.int k) = _
    rw [e1]
    by_cases h2 : k < j
    · rw [if_pos (decide_eq_true h2)]; congr 2; omega
    · rw [if_neg (by simpa using h2)]; congr 2; omega
  · rw [if_neg (by simpa using h)]
    show nuMin2 (.int i) (.int k) = _
    rw [e1]
    by_cases h2 : k < i
    · rw [if_pos (decide_eq_true h2)]; congr 2; omega
    · rw [if_neg (by simpa using h2)]; congr 2; omega
theorem min3_some {ds : List D} {x : Val} (h : g3 min3D ds = some x) : ∃ i j k, ds = [.int i, .int j, .int k] ∧ x = .sh (.int (min i (min j k))) := by
  unfold g3 at h
  split at h
  · unfold min3D at h
    split at h
    · exact ⟨_, _, _, rfl, (Option.some.inj h).symm⟩
    · cases h
  · cases h
theorem calld_min3 : CallD X (rNuC3 nuMin3) (g3 min3D) := fun F0 H0 H σ ρ vs xs ws ds Q hl s ⟨x, hx, q⟩ => by
  obtain ⟨i, j, k, rfl, rfl⟩ := min3_some hx
  match ws, hl, s with
  | [u, v, w], _, s =>
    obtain ⟨F, hF, hA, t⟩ := Stt.reads (as := [u, v, w]) (ds := [.int i, .int j, .int k]) rfl s
    cases hA with
    | cons a b =>
      cases b with
      | cons b c =>
        cases c with
        | cons c _ =>
          cases a
          cases b
          cases c
          have s : Stt X.K F0 H0 H σ ρ (.int i :: .int j :: .int k :: vs) (.sh (.int i) :: .sh (.int j) :: .sh (.int k) :: xs) := s
          exact ⟨.int i, .int j, .int k, _, rfl, nuMin_int i j k, q H _ (s.pop.pop.pop.scal fun F => .int _)⟩
theorem de_min3 (hc : X.calm = true) (hg : Gl X "min") (hm : X.mg "min" = none) (ha : DA X [e, e2, e3] fs) (he : starEach [e, e2, e3] X.env = (false, eval e X.env) :: starEach [e2, e3] X.env := by rfl) (hpl : (backTo pos (starEach [e2, e3] X.env)).any (·.1) = false := by rfl) : DE X (.Call (.Name "min" p) [e, e2, e3] [] pos) (sCB (g3 min3D) fs) := de_callB (call_min3Nu hc) calld_min3 hg hm (by decide +kernel) ha (he := he) (hpl := hpl)
@[simp] theorem g3min_int {i j k : Int} : g3 min3D [.int i, .int j, .int k] = some (.sh (.int (min i (min j k)))) := id rfl
end
/-! x.clear() -/
def rLClear : V → List V → Hp → VK → Prop := fun x vs H Q => ∃ l xs, x = .ref l ∧ vs = [] ∧ H l = some (.lst xs) ∧ Q .non (upd H l (.lst []))
section
variable {X : Cx}
theorem mt_lclear : MtR X "list.clear" rLClear := by
  intro pins s σ H x vs v us Q I rx rv h
  obtain ⟨l, xs, ex, ev, hH, q⟩ := h
  subst ex
  subst ev
  obtain rfl : v = Value.ref l := rx
  have hus := rv.zero
  subst hus
  obtain ⟨z, its, n, r, hl, e⟩ := I.lstM hH
  refine call_meets F.slot_list_clear ⟨_, e, rfl⟩ F.entry_list_clear (F.args_list_clear_1 _) (PySem.AutoSeq1.list_clear_list_0 l its.toArray n (by rw [List.size_toArray]; omega)) ⟨e, ?_⟩
  exact ⟨.non, _, I.lset (its' := []) hH e (by simp) .nil (by simp), rfl, q⟩
def sClear (i : Nat) : DEnv → Fl := fun ρ => match getV ρ[i]? with
  | some (.lst _) => .nx (ρ.set i (some (.lst [])))
  | _ => .bad
theorem ds_clear {i : Nat} {x : Str} {q p pos apos : Pos} (hb : PE X (.Call (.Attribute (.Name x q) "clear" apos) [] [] p) (tBM0 X.K "list" rLClear (tVar i)))
    (hs : swapsWith (.Call (.Attribute (.Name x q) "clear" apos) [] [] p) none pos.line X.env = pure false := by rfl) : DS X (.Expr (.Call (.Attribute (.Name x q) "clear" apos) [] [] p) pos) (sClear i) :=
  PS.imp (ps_expr hb hs) fun D σ H ⟨F0, H0, ρ, vs, xs, s, q⟩ => by
    unfold sClear at q
    match e0 : getV ρ[i]?, q with
    | some (.lst xs0), q =>
      obtain ⟨p1, ws, c1, c2, c3, c4⟩ := Stt.edit (as := []) (bs := []) rfl s (getV_some e0)
      exact ⟨.ref p1, c1, .inl ⟨rfl, ws, .of c2⟩, p1, ws, rfl, rfl, c2, q σ _ (c4 [] [] [] [] fun F H f hO => ⟨[], [], .nil, .nil, .nil f⟩)⟩
end
end DL

/-! DLo: a list of one's own, told by a path of indices from a name, is changed. -/
namespace DL
open PySem PySem.Spec L2
/-! paths in the heap -/
def Pth (H : Hp) : List Int → V → V → Prop
  | [], v, w => v = w
  | j :: js, v, w => ∃ p us u, v = .ref p ∧ (H p = some (.lst us) ∨ H p = some (.tup us)) ∧ atI us j = some u ∧ Pth H js u w
theorem Pth.det {H : Hp} : ∀ {js : List Int} {v w w' : V}, Pth H js v w → Pth H js v w' → w = w'
  | [], _, _, _, h, h' => Eq.trans (Eq.symm h) h'
  | j :: js, _, _, _, ⟨p, us, u, a1, a2, a3, a4⟩, ⟨p', us', u', b1, b2, b3, b4⟩ => by
    subst a1
    cases b1
    have e : us = us' := by
      rcases a2 with a2 | a2 <;> rcases b2 with b2 | b2 <;> rw [a2] at b2 <;> cases b2 <;> rfl
    subst e
    rw [a3] at b3
    cases b3
    exact a4.det b4
theorem Pth.mono {H H' : Hp} (e : Same H H') : ∀ {js : List Int} {v w : V}, Pth H js v w → Pth H' js v w
  | [], _, _, h => h
  | j :: js, _, _, ⟨p, us, u, a1, a2, a3, a4⟩ => ⟨p, us, u, a1, a2.imp (e _ _) (e _ _), a3, a4.mono e⟩
def tIxs (K : PySem.W.Frag) (t : TE) : List Int → TE
  | [] => t
  | j :: js => tIxs K (tOp (rIx K) t (tC (.int j))) js
theorem tIxs_of {K : PySem.W.Frag} {σ : L2.St} {H : Hp} : ∀ (js : List Int) (t : TE) (v w : V) (Q : VK), (∀ Q' : VK, Q' v H → t σ H Q') → Pth H js v w → Q w H → tIxs K t js σ H Q
  | [], t, v, w, Q, ht, h, q => by
    cases h
    exact ht Q q
  | j :: js, t, v, w, Q, ht, ⟨p, us, u, a1, a2, a3, a4⟩, q => by
    refine tIxs_of js _ u w Q (fun Q' q' => ht _ ?_) a4 q
    show rIx K v (.int j) H Q'
    rcases a2 with a2 | a2
    · exact .inl ⟨p, us, j, u, a1, rfl, .of a2, a3, q'⟩
    · exact .inr (.inl ⟨p, us, j, u, a1, rfl, .of a2, a3, q'⟩)
/-! .. in what is owned -/
def editA (f : List Val → Option (List Val)) : List Int → Val → Option Val
  | [], .lst zs => (f zs).map .lst
  | j :: js, .lst ys => (ixN ys.length j).bind fun k => (ys[k]?).bind fun y => (editA f js y).map fun z => .lst (ys.set k z)
  | j :: js, .tup ys => (ixN ys.length j).bind fun k => (ys[k]?).bind fun y => (editA f js y).map fun z => .tup (ys.set k z)
  | _, _ => none
section
variable {K : PySem.W.Frag} {F F0 H0 H : Hp} {σ : L2.St} {ρ : DEnv}
theorem own_at : ∀ (xs : List Val) (vs : List V) (f : List Addr) (k : Nat) (y : Val), Owns K F H vs xs f → f.Nodup → xs[k]? = some y → ∃ w g, vs[k]? = some w ∧ Own K F H w y g ∧ (∀ b ∈ g, b ∈ f) ∧ g.Nodup ∧
    ∀ q ∈ g, ∀ o y' g' e, Own K F (upd H q o) w y' g' → Sb g' (g ++ e) → ∃ f', Owns K F (upd H q o) vs (xs.set k y') f' ∧ Sb f' (f ++ e)
  | x :: xs, v :: vs, _, 0, y, .cons (f := f1) (g := f2) a t, nd, e => by
    have e : x = y := by simpa using e
    subst e
    obtain ⟨n1, n2, n3⟩ := List.nodup_append.mp nd
    refine ⟨v, f1, rfl, a, fun b hb => List.mem_append_left _ hb, n1, fun q hq o y' g' e a' s => ?_⟩
    have t' : Owns K F (upd H q o) vs xs f2 := Owns.mono (Same.refl F) _ _ _ t fun b hb => ⟨(Owns.no _ _ _ t b hb).1, upd_ne (fun z => n3 q hq b hb z.symm)⟩
    refine ⟨g' ++ f2, .cons a' t', (s.app (.refl f2)).trans (Sb.of_perm ?_)⟩
    rw [List.append_assoc, List.append_assoc]
    exact List.Perm.append_left _ List.perm_append_comm
  | x :: xs, v :: vs, _, k + 1, y, .cons (f := f1) (g := f2) a t, nd, e => by
    obtain ⟨n1, n2, n3⟩ := List.nodup_append.mp nd
    obtain ⟨w, g, h1, h2, h3, h4, h5⟩ := own_at xs vs f2 k y t n2 (by simpa using e)
    refine ⟨w, g, by simpa using h1, h2, fun b hb => List.mem_append_right _ (h3 b hb), h4, fun q hq o y' g' e a' s => ?_⟩
    obtain ⟨f', c1, c2⟩ := h5 q hq o y' g' e a' s
    refine ⟨f1 ++ f', .cons (Own.mono (Same.refl F) _ _ _ a fun b hb => ⟨(Own.no _ _ _ a b hb).1, upd_ne (n3 b hb q (h3 q hq))⟩) c1, ?_⟩
    rw [List.append_assoc]
    exact (Sb.refl f1).app c2
theorem own_path {fn : List Val → Option (List Val)} : ∀ (js : List Int) (x : Val) (v : V) (f : List Addr) (x' : Val), Own K F H v x f → f.Nodup → editA fn js x = some x' →
    ∃ q ws zs zs', Pth H js v (.ref q) ∧ H q = some (.lst ws) ∧ ws.length = zs.length ∧ fn zs = some zs' ∧ q ∈ f ∧ F q = none ∧ ∃ g, Owns K F H ws zs g ∧ (∀ b ∈ g, b ∈ f ∧ b ≠ q) ∧
      ∀ ws' g' e, Owns K F (upd H q (.lst ws')) ws' zs' g' → Sb g' (g ++ e) → ∃ f', Own K F (upd H q (.lst ws')) v x' f' ∧ Sb f' (f ++ e)
  | [], .lst zs, _, _, x', .lst (p := p) (vs := ws) (f := g) k1 k2 k3, nd, e => by
    obtain ⟨zs', e1, e2⟩ := Option.map_eq_some_iff.mp e
    subst e2
    have np := (List.nodup_cons.mp nd).1
    refine ⟨p, ws, zs, zs', rfl, k2, Owns.length k3, e1, List.mem_cons_self, k1, g, k3, fun b hb => ⟨List.mem_cons_of_mem _ hb, fun z => by subst z; exact np hb⟩, fun ws' g' e a s => ?_⟩
    exact ⟨p :: g', .lst k1 upd_same a, (Sb.refl [p]).app s⟩
  | j :: js, .lst ys, _, _, x', .lst (p := p) (vs := us) (f := f3) k1 k2 k3, nd, e => by
    have e : ((ixN ys.length j).bind fun k => (ys[k]?).bind fun y => (editA fn js y).map fun z => Val.lst (ys.set k z)) = some x' := e
    obtain ⟨k, e1, e⟩ := Option.bind_eq_some_iff.mp e
    obtain ⟨y, e2, e⟩ := Option.bind_eq_some_iff.mp e
    obtain ⟨y', e3, e4⟩ := Option.map_eq_some_iff.mp e
    subst e4
    obtain ⟨np, nd3⟩ := List.nodup_cons.mp nd
    obtain ⟨w, g, h1, h2, h3, h4, h5⟩ := own_at ys us f3 k y k3 nd3 e2
    obtain ⟨q, ws, zs, zs', c1, c2, c3, c4, c5, c6, g2, c7, c8, c9⟩ := own_path js y w g y' h2 h4 e3
    have qp : p ≠ q := fun z => np (z ▸ h3 q c5)
    refine ⟨q, ws, zs, zs', ⟨p, us, w, rfl, .inl k2, by unfold atI; rw [Owns.length k3, e1]; exact h1, c1⟩, c2, c3, c4, List.mem_cons_of_mem _ (h3 q c5), c6, g2, c7, fun b hb => ⟨List.mem_cons_of_mem _ (h3 b (c8 b hb).1), (c8 b hb).2⟩, fun ws' g' e a s => ?_⟩
    obtain ⟨f', d1, d2⟩ := c9 ws' g' e a s
    obtain ⟨f4, d3, d4⟩ := h5 q c5 _ y' f' e d1 d2
    exact ⟨p :: f4, .lst k1 (by rw [upd_ne qp]; exact k2) d3, (Sb.refl [p]).app d4⟩
  | j :: js, .tup ys, _, _, x', .tup (p := p) (vs := us) (f := f3) k1 k2 k3, nd, e => by
    have e : ((ixN ys.length j).bind fun k => (ys[k]?).bind fun y => (editA fn js y).map fun z => Val.tup (ys.set k z)) = some x' := e
    obtain ⟨k, e1, e⟩ := Option.bind_eq_some_iff.mp e
    obtain ⟨y, e2, e⟩ := Option.bind_eq_some_iff.mp e
    obtain ⟨y', e3, e4⟩ := Option.map_eq_some_iff.mp e
    subst e4
    obtain ⟨np, nd3⟩ := List.nodup_cons.mp nd
    obtain ⟨w, g, h1, h2, h3, h4, h5⟩ := own_at ys us f3 k y k3 nd3 e2
    obtain ⟨q, ws, zs, zs', c1, c2, c3, c4, c5, c6, g2, c7, c8, c9⟩ := own_path js y w g y' h2 h4 e3
    have qp : p ≠ q := fun z => np (z ▸ h3 q c5)
    refine ⟨q, ws, zs, zs', ⟨p, us, w, rfl, .inr k2, by unfold atI; rw [Owns.length k3, e1]; exact h1, c1⟩, c2, c3, c4, List.mem_cons_of_mem _ (h3 q c5), c6, g2, c7, fun b hb => ⟨List.mem_cons_of_mem _ (h3 b (c8 b hb).1), (c8 b hb).2⟩, fun ws' g' e a s => ?_⟩
    obtain ⟨f', d1, d2⟩ := c9 ws' g' e a s
    obtain ⟨f4, d3, d4⟩ := h5 q c5 _ y' f' e d1 d2
    exact ⟨p :: f4, .tup k1 (by rw [upd_ne qp]; exact k2) d3, (Sb.refl [p]).app d4⟩
  | [], .sh _, _, _, _, _, _, e => by cases e
  | [], .tup _, _, _, _, _, _, e => by cases e
  | _ :: _, .sh _, _, _, _, _, _, e => by cases e
def appE (y : Val) (zs : List Val) : Option (List Val) := if zs.length < 10000000 then some (zs ++ [y]) else none
def clrE (zs : List Val) : Option (List Val) := some []
/-- appended: what lies below -/
theorem Stt.path_app {js : List Int} {v w : V} {x y x' : Val} {vs : List V} {xs : List Val} (h : Stt K F0 H0 H σ ρ (v :: w :: vs) (x :: y :: xs)) (e : editA (appE y) js x = some x') :
    ∃ q ws, Pth H js v (.ref q) ∧ H q = some (.lst ws) ∧ ws.length < 10000000 ∧ Stt K F0 H0 (upd H q (.lst (ws ++ [w]))) σ ρ (v :: vs) (x' :: xs) := by
  obtain ⟨F, f, g, h1, h2, h3, h4, h5, h6, h7, h8⟩ := h
  cases h6 with
  | cons a t0 =>
    rename_i g1 g0
    cases t0 with
    | cons aw t =>
    rename_i gw g2
    have nd2 := (List.nodup_append.mp h7)
    have nd3 := List.nodup_append.mp nd2.1
    obtain ⟨q, ws, zs, zs', c1, c2, c3, c4, c5, c6, g3, c7, c8, c9⟩ := own_path js x v g1 x' a nd3.1 e
    unfold appE at c4
    split at c4
    case isFalse => cases c4
    rename_i hlt
    cases c4
    refine ⟨q, ws, c1, c2, by rw [c3]; exact hlt, ?_⟩
    have q0 : H0 q = none := h8 q (List.mem_append_left _ (List.mem_append_left _ c5))
    have disw : ∀ b ∈ gw, b ≠ q := fun b hb z => nd3.2.2 q c5 b (List.mem_append_left _ hb) z.symm
    have dis2 : ∀ b ∈ g2, b ≠ q := fun b hb z => nd3.2.2 q c5 b (List.mem_append_right _ hb) z.symm
    have dis3 : ∀ b ∈ f, b ≠ q := fun b hb z => nd2.2.2 q (List.mem_append_left _ c5) b hb z.symm
    have aw' : Own K F (upd H q (.lst (ws ++ [w]))) w y gw := Own.mono (Same.refl F) _ _ _ aw fun b hb => ⟨(Own.no _ _ _ aw b hb).1, upd_ne (disw b hb)⟩
    have t' : Owns K F (upd H q (.lst (ws ++ [w]))) vs xs g2 := Owns.mono (Same.refl F) _ _ _ t fun b hb => ⟨(Owns.no _ _ _ t b hb).1, upd_ne (dis2 b hb)⟩
    have z' : Owns K F (upd H q (.lst (ws ++ [w]))) ws zs g3 := Owns.mono (Same.refl F) _ _ _ c7 fun b hb => ⟨(Owns.no _ _ _ c7 b hb).1, upd_ne (c8 b hb).2⟩
    have h5' : Sl K F (upd H q (.lst (ws ++ [w]))) σ ρ f := Sl.mono (Same.refl F) h5 fun b hb => ⟨(Sl.no h5 b hb).1, upd_ne (dis3 b hb)⟩
    obtain ⟨g4, d1, d2, d3⟩ := z'.append (Owns.cons aw' .nil)
    rw [List.append_nil] at d2
    obtain ⟨f', d4, d5⟩ := c9 (ws ++ [w]) g4 gw d1 d2
    have s : Sb ((f' ++ g2) ++ f) ((g1 ++ (gw ++ g2)) ++ f) := Sb.app (by rw [← List.append_assoc]; exact d5.app (.refl g2)) (.refl f)
    exact ⟨F, f, f' ++ g2, h1, fun b u e => by rw [upd_ne (fun z => by subst z; rw [q0] at e; cases e)]; exact h2 _ _ e, fun b u e => by rw [upd_ne (fun z => by subst z; rw [c6] at e; cases e)]; exact h3 _ _ e, h4, h5',
      Owns.cons d4 t', s.2 h7, fun b hb => h8 b (s.1 b hb)⟩
/-- emptied -/
theorem Stt.path_clr {js : List Int} {v : V} {x x' : Val} {vs : List V} {xs : List Val} (h : Stt K F0 H0 H σ ρ (v :: vs) (x :: xs)) (e : editA clrE js x = some x') :
    ∃ q ws, Pth H js v (.ref q) ∧ H q = some (.lst ws) ∧ Stt K F0 H0 (upd H q (.lst [])) σ ρ (v :: vs) (x' :: xs) := by
  obtain ⟨F, f, g, h1, h2, h3, h4, h5, h6, h7, h8⟩ := h
  cases h6 with
  | cons a t =>
    rename_i g1 g2
    have nd2 := (List.nodup_append.mp h7)
    have nd3 := List.nodup_append.mp nd2.1
    obtain ⟨q, ws, zs, zs', c1, c2, c3, c4, c5, c6, g3, c7, c8, c9⟩ := own_path js x v g1 x' a nd3.1 e
    cases c4
    refine ⟨q, ws, c1, c2, ?_⟩
    have q0 : H0 q = none := h8 q (List.mem_append_left _ (List.mem_append_left _ c5))
    have dis2 : ∀ b ∈ g2, b ≠ q := fun b hb z => nd3.2.2 q c5 b hb z.symm
    have dis3 : ∀ b ∈ f, b ≠ q := fun b hb z => nd2.2.2 q (List.mem_append_left _ c5) b hb z.symm
    have t' : Owns K F (upd H q (.lst [])) vs xs g2 := Owns.mono (Same.refl F) _ _ _ t fun b hb => ⟨(Owns.no _ _ _ t b hb).1, upd_ne (dis2 b hb)⟩
    have h5' : Sl K F (upd H q (.lst [])) σ ρ f := Sl.mono (Same.refl F) h5 fun b hb => ⟨(Sl.no h5 b hb).1, upd_ne (dis3 b hb)⟩
    obtain ⟨f', d4, d5⟩ := c9 [] [] [] .nil (Sb.nil _)
    rw [List.append_nil] at d5
    have s : Sb ((f' ++ g2) ++ f) ((g1 ++ g2) ++ f) := (d5.app (.refl g2)).app (.refl f)
    exact ⟨F, f, f' ++ g2, h1, fun b u e => by rw [upd_ne (fun z => by subst z; rw [q0] at e; cases e)]; exact h2 _ _ e, fun b u e => by rw [upd_ne (fun z => by subst z; rw [c6] at e; cases e)]; exact h3 _ _ e, h4, h5',
      Owns.cons d4 t', s.2 h7, fun b hb => h8 b (s.1 b hb)⟩
/-- where a path leads, as it stands -/
theorem Stt.path_at {fn : List Val → Option (List Val)} {js : List Int} {v : V} {x x' : Val} {vs : List V} {xs : List Val} (h : Stt K F0 H0 H σ ρ (v :: vs) (x :: xs)) (e : editA fn js x = some x') : ∃ q ws, Pth H js v (.ref q) ∧ H q = some (.lst ws) := by
  obtain ⟨F, f, g, h1, h2, h3, h4, h5, h6, h7, h8⟩ := h
  cases h6 with
  | cons a t =>
    rename_i g1 g2
    have nd2 := (List.nodup_append.mp h7)
    have nd3 := List.nodup_append.mp nd2.1
    obtain ⟨q, ws, zs, zs', c1, c2, _⟩ := own_path js x v g1 x' a nd3.1 e
    exact ⟨q, ws, c1, c2⟩
end
/-! the statements -/
def sClrP (i : Nat) (js : List Int) : DEnv → Fl := fun ρ => match getV ρ[i]? with
  | none => .bad
  | some x => match editA clrE js x with
    | some x' => .nx (ρ.set i (some x'))
    | none => .bad
def sAppP (i : Nat) (js : List Int) (fy : DEnv → Option Val) : DEnv → Fl := fun ρ => match getV ρ[i]? with
  | none => .bad
  | some x => match fy (ρ.set i none) with
    | none => .bad
    | some y => match editA (appE y) js x with
      | some x' => .nx (ρ.set i (some x'))
      | none => .bad
section
variable {X : Cx} {i : Nat} {e rc : Expr} {js : List Int} {pos p apos : Pos}
theorem ds_clrP (hb : PE X (.Call (.Attribute rc "clear" apos) [] [] p) (tBM0 X.K "list" rLClear (tIxs X.K (tVar i) js)))
    (hs : swapsWith (.Call (.Attribute rc "clear" apos) [] [] p) none pos.line X.env = pure false := by rfl) :
    DS X (.Expr (.Call (.Attribute rc "clear" apos) [] [] p) pos) (sClrP i js) :=
  PS.imp (ps_expr hb hs) fun D σ H ⟨F0, H0, ρ, vs, xs, s, q⟩ => by
    unfold sClrP at q
    cases e0 : getV ρ[i]? with
    | none => rw [e0] at q; exact q.elim
    | some x =>
      rw [e0] at q
      have q : fpost X F0 H0 vs xs D (match editA clrE js x with
        | some x' => Fl.nx (ρ.set i (some x'))
        | none => .bad) := q
      cases e1 : editA clrE js x with
      | none => rw [e1] at q; exact q.elim
      | some x' =>
        rw [e1] at q
        have hlen : i < ρ.length := (List.getElem?_eq_some_iff.mp (getV_some e0)).1
        obtain ⟨v, k, s2⟩ := s.take (getV_some e0)
        obtain ⟨qq, ws, c1, c2, s3⟩ := s2.path_clr e1
        refine tIxs_of js _ v (.ref qq) _ (fun Q' q' => ⟨v, k, q'⟩) c1 ⟨.inl ⟨rfl, ws, .of c2⟩, qq, ws, rfl, rfl, c2, q σ _ ?_⟩
        have s5 := s3.store (i := i) (by simpa using hlen)
        rw [List.set_set, set_same k] at s5
        exact s5
def ArgK (X : Cx) (ta : TA) (fy : DEnv → Option Val) : Prop := ∀ {F0 H0 H : Hp} {σ : L2.St} {ρ : DEnv} {vs : List V} {xs : List Val} {y : Val}, Stt X.K F0 H0 H σ ρ vs xs → fy ρ = some y →
  ∀ Q : List V → Hp → Prop, (∀ w H', Same H H' → Stt X.K F0 H0 H' σ ρ (w :: vs) (y :: xs) → Q [w] H') → ta σ H Q
theorem ds_appP {ta : TA} {fy : DEnv → Option Val} (hb : PE X (.Call (.Attribute rc "append" apos) [e] [] p) (tBM X.K "list" rAppend (tIxs X.K (tVar i) js) ta)) (hA : ArgK X ta fy)
    (hs : swapsWith (.Call (.Attribute rc "append" apos) [e] [] p) none pos.line X.env = pure false := by rfl) :
    DS X (.Expr (.Call (.Attribute rc "append" apos) [e] [] p) pos) (sAppP i js fy) :=
  PS.imp (ps_expr hb hs) fun D σ H ⟨F0, H0, ρ, vs, xs, s, q⟩ => by
    unfold sAppP at q
    cases e0 : getV ρ[i]? with
    | none => rw [e0] at q; exact q.elim
    | some x =>
      rw [e0] at q
      have q : fpost X F0 H0 vs xs D (match fy (ρ.set i none) with
        | none => Fl.bad
        | some y => match editA (appE y) js x with
          | some x' => .nx (ρ.set i (some x'))
          | none => .bad) := q
      cases e1 : fy (ρ.set i none) with
      | none => rw [e1] at q; exact q.elim
      | some y =>
        rw [e1] at q
        have q : fpost X F0 H0 vs xs D (match editA (appE y) js x with
          | some x' => Fl.nx (ρ.set i (some x'))
          | none => .bad) := q
        cases e2 : editA (appE y) js x with
        | none => rw [e2] at q; exact q.elim
        | some x' =>
          rw [e2] at q
          have hlen : i < ρ.length := (List.getElem?_eq_some_iff.mp (getV_some e0)).1
          obtain ⟨v, k, s2⟩ := s.take (getV_some e0)
          obtain ⟨qq, ws, c1, c2⟩ := s2.path_at e2
          refine tIxs_of js _ v (.ref qq) _ (fun Q' q' => ⟨v, k, q'⟩) c1 ⟨.inl ⟨rfl, ws, .of c2⟩, hA s2 e1 _ fun w H' hs' s3 => ?_⟩
          have s4 : Stt X.K F0 H0 H' σ (ρ.set i none) (v :: w :: vs) (x :: y :: xs) := Stt.turn (as := [w]) (bs := [y]) rfl s3
          obtain ⟨q2, ws2, d1, d2, d3, s5⟩ := s4.path_app e2
          have eq : V.ref qq = .ref q2 := (c1.mono hs').det d1
          cases eq
          refine ⟨qq, ws2, w, rfl, rfl, d2, by rw [sizeLine_eq]; omega, q σ _ ?_⟩
          have s6 := s5.store (i := i) (by simpa using hlen)
          rw [List.set_set, set_same k] at s6
          exact s6
/-! what is appended -/
def yC (d : D) : DEnv → Option Val := fun _ => some (.sh d)
theorem ak_c {v : V} {d : D} (hd : ∀ F, At X.K F v d) : ArgK X (tCons (tC v) tNil) (yC d) := fun s e Q q => by
  cases e
  exact q _ _ (Same.refl _) (s.scal hd)
def yNl : DEnv → Option Val := fun _ => some (.lst [])
theorem ak_nl : ArgK X (tCons (tLst tNil) tNil) yNl := fun {F0 H0 H σ ρ vs xs y} s e Q q => by
  cases e
  refine ⟨by show 0 ≤ sizeLine; omega, fun T nT => q (.ref T) _ (fun b o e => ?_) (Stt.newLst (as := []) (bs := []) rfl s nT)⟩
  rw [upd_ne (fun z => by subst z; rw [nT] at e; cases e)]
  exact e
def shV1 : Option Val → Option Val
  | some (.sh d) => some (.sh d)
  | _ => none
def yIx (j : Nat) (n : Int) : DEnv → Option Val := fun ρ => match getV ρ[j]? with
  | some (.sh (.lst ds)) => ((ixN ds.length n).bind fun k => ds[k]?).map .sh
  | some (.lst ys) => (ixN ys.length n).bind fun k => shV1 ys[k]?
  | _ => none
theorem ak_ix {j : Nat} {n : Int} : ArgK X (tCons (tOp (rIx X.K) (tVar j) (tC (.int n))) tNil) (yIx j n) := fun {F0 H0 H σ ρ vs xs y} s e Q q => by
  unfold yIx at e
  match e0 : getV ρ[j]?, e with
  | some (.sh (.lst ds)), e =>
    obtain ⟨d, e1, e2⟩ := Option.map_eq_some_iff.mp e
    subst e2
    obtain ⟨k, e3, e4⟩ := Option.bind_eq_some_iff.mp e1
    obtain ⟨v, k1, F, f, k2, k3, k4⟩ := s.peek (getV_some e0)
    cases k3 with
    | sh a =>
      cases a with
      | lst a1 a2 =>
        rename_i a us
        obtain ⟨u, b1, b2⟩ := Ats.get a2 e4
        refine ⟨_, k1, .inl ⟨a, us, n, u, rfl, rfl, .of (k2 _ _ a1), ?_, q u _ (Same.refl _) (k4 [u] [d] (.cons b2 .nil))⟩⟩
        unfold atI
        rw [Ats.length a2, e3]
        exact b1
  | some (.lst ys), e =>
    have e : ((ixN ys.length n).bind fun k => shV1 ys[k]?) = some y := e
    obtain ⟨k, e3, e4⟩ := Option.bind_eq_some_iff.mp e
    match e5 : ys[k]?, e4 with
    | some (.sh d), e4 =>
      cases e4
      obtain ⟨v, k1, F, f, k2, k3, k4⟩ := s.peek (getV_some e0)
      cases k3 with
      | lst a0 a1 a2 =>
        rename_i a us g
        obtain ⟨u, b1, b2⟩ := owns_at a2 e5
        refine ⟨_, k1, .inl ⟨a, us, n, u, rfl, rfl, .of a1, ?_, q u _ (Same.refl _) (k4 [u] [d] (.cons b2 .nil))⟩⟩
        unfold atI
        rw [Owns.length a2, e3]
        exact b1
/-- a number below nought, as it is written -/
theorem pe_nint {e : Expr} {n : Int} {pos : Pos} (h : PE X e (tC (.int n))) : PE X (.UnaryOp .USub e pos) (tC (.int (-n))) := PE.imp (pe_un un_neg h) fun σ H Q q => ⟨n, rfl, q⟩
end
end DL

/-! DLp: defs with defaults; a call that leaves them out, or that names one. -/
namespace DL
open PySem PySem.Spec L2
section
variable {P : Program} {w : World} {K : PySem.W.Frag} {mg : Str → Option Value} {base : Heap} {x qual : Str} {st : Stmt} {f : Addr} {fd : FuncData} {dvs : List V} {ps : List Str}
theorem fund_mk {oc : Value} {od an : Option Addr} {osl : Array (Option Value)} {kV doc pm cdv ct : Value} {T : Addr} {o : Obj} {its : List Value} {n : Nat}
    (l : K.lookup f = some ⟨oc, od, .func (PySem.W.fnOf x qual (defArgs st) (defBody st) (defScope st) (.ref T) kV doc pm an cdv ct), osl⟩)
    (c : PySem.W.codeIn K cdv qual = true) (k : PySem.W.keepIn K (.ref f) = true) (lT : K.lookup T = some o) (oT : o.data = .seq its.toArray n) (hd : dvs ≠ []) (r : Vals dvs its) :
    FunD K x qual (defArgs st) (defBody st) (defScope st) dvs [] f (PySem.W.fnOf x qual (defArgs st) (defBody st) (defScope st) (.ref T) kV doc pm an cdv ct) :=
  ⟨⟨oc, od, .ref T, kV, doc, pm, an, cdv, ct, osl, rfl, l, c, .inr ⟨hd, T, o, its, n, rfl, lT, oT, r⟩, .inl rfl⟩, k⟩
theorem bindsAll (F : FunD K x qual (defArgs st) (defBody st) (defScope st) dvs [] f fd) (hd : dvs ≠ [])
    (h : ∀ (T : Addr) (kV doc pm : Value) (an : Option Addr) (cdv ct : Value) (us its : List Value), us.length = ps.length → its.length = dvs.length →
      ∃ k, bindArgs (PySem.W.fnOf x qual (defArgs st) (defBody st) (defScope st) (.ref T) kV doc pm an cdv ct) ⟨us, []⟩ = seqItems? (.ref T) >>= k ∧ k (some its.toArray) = pure (ps.zip us)) : Binds K fd ps [] := by
  obtain ⟨ds, r, b⟩ := F.binds1 (ps := ps) ps.length dvs.length hd (by omega) fun T kV doc pm an cdv ct us its h1 h2 => by
    rw [← h2, List.drop_length, List.append_nil]
    exact h T kV doc pm an cdv ct us its h1 h2
  rw [List.drop_length] at r
  cases r
  exact b
theorem kb1 (F : FunD K x qual (defArgs st) (defBody st) (defScope st) dvs [] f fd) (n : Nat) (ks : List Str) (hd : dvs ≠ [])
    (h : ∀ (T : Addr) (kV doc pm : Value) (an : Option Addr) (cdv ct : Value) (us its ws : List Value), us.length = n → its.length = dvs.length → ws.length = ks.length →
      ∃ k, bindArgs (PySem.W.fnOf x qual (defArgs st) (defBody st) (defScope st) (.ref T) kV doc pm an cdv ct) ⟨us, ks.zip ws⟩ = seqItems? (.ref T) >>= k ∧ k (some its.toArray) = pure (ps.zip (us ++ ws))) :
    KBn K fd ps n ks (fun us ws => us ++ ws) (fun vs zs => vs ++ zs) := by
  obtain ⟨oc, od, dV, kV, doc, pm, an, cdv, ct, osl, rfl, lk, hcd, hD, hK⟩ := F.ex
  rcases hD with ⟨e, _⟩ | ⟨_, T, o, its, m, rfl, lT, oT, rT⟩
  · exact absurd e hd
  · refine ⟨fun s us ws X l1 l2 => ?_, fun r1 r2 => r1.append r2⟩
    obtain ⟨k, e1, e2⟩ := h T kV doc pm an cdv ct us its ws l1 rT.length.symm l2
    refine BindsTo.of_looks fun M => ?_
    rw [e1]
    exact looks_items X lT oT (.of_pure e2)
/-- the rule for such a def -/
theorem fnDd {N : List Str} {k n : Nat} {s : DEnv → Fl} (F : FunD K x qual (defArgs st) (defBody st) (defScope st) dvs [] f fd) (S : FnScope N ps (defScope st)) (hn : ps.length = n)
    (hbody : ∀ (cdv : Value) (A : Around) (outer : List PySem.Env) (s0 : Shared) (H : Hp) (E : XK), Room k (A.deeper (PyProof.Rows.envOfC qual (defScope st) s0.heap.objs.size f cdv)) →
      DSs (cxOf (L2.CX P w) P w K mg base N qual (defScope st) f cdv A outer s0 H E) (defBody st) s) :
    FnOk P w K mg base (L2.CX P w) (k + 1) f fd ps (spD K n fun ds => (s (env0 N.length ds)).cr) := by
  refine F.ok S (fun vs H Q E h => (spD_len vs H Q E h).trans hn.symm) fun cdv A outer s0 H vs Q E hr ⟨G, ds, hG, ha, hl, hp⟩ => ⟨_, hbody cdv A outer s0 H E hr, ?_⟩
  refine ⟨G, H, env0 N.length ds, [], [], ?_, ?_⟩
  · have q := Stt.begin hG ha (N.length - ds.length)
    unfold L2.start env0
    rw [ha.length]
    exact q
  · have tk := takes_of (X := cxOf (L2.CX P w) P w K mg base N qual (defScope st) f cdv A outer s0 H E) (E := E) rfl rfl rfl rfl
    have hp : crPost K G H Q E (s (env0 N.length ds)).cr := hp
    cases e : s (env0 N.length ds) with
    | nx ρ' =>
      rw [e] at hp
      exact fun σ' H' s1 => hp H' _ (s1.out.scal fun _ => .non)
    | rt x ρ' =>
      rw [e] at hp
      exact fun σ' H' v s1 => hp H' v s1.out
    | exc x ρ' =>
      rw [e] at hp
      intro σ' H' dx ves s1 hl hx
      rw [List.append_nil, List.append_nil] at s1
      exact okx_of tk (hp H' dx ves s1.out hl hx)
    | bk ρ' => rw [e] at hp; exact hp.elim
    | ct ρ' => rw [e] at hp; exact hp.elim
    | bad => rw [e] at hp; exact hp.elim
end
/-- a call that leaves the defaults dd out -/
def sCallD (φ : List D → CR) (n : Nat) (dd : List D) (fs : DEnv → R (List Val)) : DEnv → R Val := fun ρ => (fs ρ).bind fun ys ρ1 => if ys.length + dd.length = n then match φ (fzs ys ++ dd) with
  | .ret x => .ok x ρ1
  | .exc e => .exc e ρ1
  | .bad => .bad
  else .bad
/-- a call that names its last argument -/
def sCallK (φ : List D → CR) (n : Nat) (fs : DEnv → R (List Val)) (fe : DEnv → R Val) : DEnv → R Val := fun ρ => (fs ρ).bind fun ys ρ1 => (fe ρ1).bind fun x ρ2 => if ys.length + 1 = n then crM (φ (fzs (ys ++ [x]))) ρ2 else .bad
section
variable {X : Cx} {k n : Nat} {f : Addr} {fd : FuncData} {ps : List Str} {φ : List D → CR} {x : Str} {p pos kpos : Pos} {e ek : Expr} {es : List Expr} {fs : DEnv → R (List Val)} {fe : DEnv → R Val}
theorem de_callD {dvs : List V} {dd : List D} (F : FnOk X.prog X.w X.K X.mg X.base (L2.CX X.prog X.w) k f fd ps (spD X.K n φ)) (hr : Room k X.A) (hg : Gl X x) (hm : X.mg x = some (.ref f)) (hk : PySem.W.keepIn X.K (.ref f) = true) (hbd : ∃ uds, Vals dvs uds ∧ Binds X.K fd ps uds) (hdd : ∀ F, Ats X.K F dvs dd)
    (ha : DA X (e :: es) fs) (hdb : (x == ("__debug__" : Str)) = false := by decide) (he : starEach (e :: es) X.env = (false, eval e X.env) :: starEach es X.env := by rfl) (hpl : (backTo pos (starEach es X.env)).any (·.1) = false := by rfl) :
    DE X (.Call (.Name x p) (e :: es) [] pos) (sCallD φ n dd fs) := by
  obtain ⟨uds, hd, hb⟩ := hbd
  exact PE.imp (pe_callSD (E := WE (okx X)) F hr hg hm hk hb hd (fun σ => passAt takes_okx σ) ha hdb he hpl) fun σ H Q ⟨F0, H0, ρ, vs, xs, s, q⟩ => by
    refine ⟨F0, H0, ρ, vs, xs, s, (post_bind q).imp (fun ys ρ1 q1 H1 ws hl s1 => ?_) fun _ _ z => z⟩
    split at q1
    · rename_i hn
      obtain ⟨hl2, s2⟩ := s1.fzsP hl
      obtain ⟨F, hF, hA, c⟩ := Stt.call hl2 s2
      refine ⟨F, fzs ys ++ dd, hF, hA.append (hdd F), by rw [List.length_append, fzs_map, List.length_map]; exact hn, ?_⟩
      cases e1 : φ (fzs ys ++ dd) with
      | ret x => rw [e1] at q1; exact fun H' v s3 => q1 H' v (c H' [v] [x] s3)
      | exc x =>
        rw [e1] at q1
        exact fun H' dx ves s3 hl3 hx => q1 σ H' dx ves (c H' ves _ s3) hl3 (hx.less s1.sub0)
      | bad => rw [e1] at q1; exact q1
    · exact q1.elim
theorem de_callK {nm : Str} (F : FnOk X.prog X.w X.K X.mg X.base (L2.CX X.prog X.w) k f fd ps (spD X.K n φ)) (hr : Room k X.A) (hg : Gl X x) (hm : X.mg x = some (.ref f)) (hk : PySem.W.keepIn X.K (.ref f) = true) (hb : KBn X.K fd ps (n - 1) [nm] (fun us ws => us ++ ws) (fun vs zs => vs ++ zs))
    (ha : DA X (e :: es) fs) (hek : DE X ek fe) (hall : (backToKw pos (keywordEach [⟨some nm, ek, kpos⟩] X.env)).all (·.1.isSome) = true := by rfl) (hks : (backToKw pos (keywordEach [⟨some nm, ek, kpos⟩] X.env)).filterMap (·.1) = [nm] := by rfl)
    (hdb : (x == ("__debug__" : Str)) = false := by decide) (he : starEach (e :: es) X.env = (false, eval e X.env) :: starEach es X.env := by rfl)
    (hpl : ((backTo pos (starEach (e :: es) X.env)).any (·.1) || (backToKw pos (keywordEach [⟨some nm, ek, kpos⟩] X.env)).any (·.1.isNone)) = false := by rfl) :
    DE X (.Call (.Name x p) (e :: es) [⟨some nm, ek, kpos⟩] pos) (sCallK φ n fs fe) :=
  PE.imp (pe_callN (E := NoX) F hr hg hm hk hb passX ha (pk_cons hek pk_nil) hall hks hdb he hpl) fun σ H Q ⟨F0, H0, ρ, vs, xs, s, q⟩ => by
    refine ⟨F0, H0, ρ, vs, xs, s, (post_bind q).imp (fun ys ρ1 q1 H1 ws hl s1 => ?_) fun _ _ z => z⟩
    refine ⟨F0, H0, ρ1, _, _, s1, (post_bind q1).imp (fun y ρ2 q2 H2 v s2 => ?_) fun _ _ z => z.mores hl⟩
    split at q2
    · rename_i hn
      have s3 := Stt.turn' hl s2
      have s3 : Stt X.K F0 H0 H2 σ ρ2 ((ws ++ [v]) ++ vs) ((ys ++ [y]) ++ xs) := by rw [List.append_assoc, List.append_assoc]; exact s3
      obtain ⟨hl2, s4⟩ := s3.fzsP (by simp [hl])
      obtain ⟨F, hF, hA, c⟩ := Stt.call hl2 s4
      refine ⟨by omega, rfl, F, fzs (ys ++ [y]), hF, hA, by rw [fzs_map, List.length_map]; simpa using hn, ?_⟩
      cases e1 : φ (fzs (ys ++ [y])) with
      | ret x => rw [e1] at q2; exact fun H' v s3 => q2 H' v (c H' [v] [x] s3)
      | exc x => rw [e1] at q2; exact q2.elim
      | bad => rw [e1] at q2; exact q2.elim
    · exact q2.elim
end
/-! t < u for tuples of ints -/
def ltTD : D → D → Option Val := fun d e => match d, e with
  | .tup xs, .tup ys => (dInts xs).bind fun ns => (dInts ys).map fun ms => .sh (.bl (HT.lexLt ns ms))
  | _, _ => none
section
variable {X : Cx} {a b : Expr} {fa fb : DEnv → R Val} {pos : Pos}
theorem opd_ltT : OpD X (rLtT X.K) ltTD := fun F0 H0 H σ ρ vs xs v w d e Q s ⟨x, hx, q⟩ => by
  obtain ⟨F, hF, a, b, t⟩ := s.two
  match d, e, a, b, hx with
  | .tup ds, .tup es, .tup (vs := us) h1 k1, .tup (vs := ws) h2 k2, hx =>
    obtain ⟨ns, e1, hx⟩ := Option.bind_eq_some_iff.mp (show (dInts ds).bind (fun ns => (dInts es).map fun ms => Val.sh (.bl (HT.lexLt ns ms))) = some x from hx)
    obtain ⟨ms, e2, hx⟩ := Option.map_eq_some_iff.mp hx
    subst hx
    rw [ints_ats k1 e1] at h1
    rw [ints_ats k2 e2] at h2
    exact ⟨_, _, ns, ms, rfl, rfl, sameT hF h1, sameT hF h2, q H _ (s.pop.pop.scal fun F => .bl _)⟩
theorem de_ltT (hu : X.A.units < cLine) (ha : DE X a fa) (hb : DE X b fb) : DE X (.Compare a [.Lt] [b] pos) (sOp ltTD fa fb) := de_cmp (op_ltT hu) opd_ltT ha hb (nomark _)
theorem dt_ltT (hu : X.A.units < cLine) (ha : DE X a fa) (hb : DE X b fb) : DT X (.Compare a [.Lt] [b] pos) (sTst (sOp ltTD fa fb)) := dt_cmp (op_ltT hu) opd_ltT ha hb (nomark _)
end
end DL

/-! DLs: reckoning with what code does to data. -/
namespace DL
open PySem PySem.Spec L2
@[simp high] theorem get_z {α : Type} {a : α} {l : List α} : (a :: l)[0]? = some a := id rfl
@[simp high] theorem get_s {α : Type} {a : α} {l : List α} {n : Nat} : (a :: l)[n + 1]? = l[n]? := id rfl
/-! the ways out of a look, as functions -/
def optF (o : Option DEnv) : Fl := match o with
  | some ρ => .nx ρ
  | none => .bad
@[simp] theorem optF_s {ρ : DEnv} : optF (some ρ) = .nx ρ := id rfl
@[simp] theorem optF_n : optF none = .bad := id rfl
def parF (n m : Nat) (xs : List Val) (ρ : DEnv) : Fl := match xs with
  | [x, y] => if n < ρ.length ∧ m < ρ.length ∧ n ≠ m then .nx ((ρ.set n (some x)).set m (some y)) else .bad
  | _ => .bad
@[simp] theorem parF_ap {n m : Nat} {x y : Val} {ρ : DEnv} : parF n m [x, y] ρ = if n < ρ.length ∧ m < ρ.length ∧ n ≠ m then .nx ((ρ.set n (some x)).set m (some y)) else .bad := id rfl
def rdV (o : Option Val) (n : Nat) (ρ : DEnv) : R Val := match o with
  | some (.sh d) => .ok (.sh d) ρ
  | some x => .ok (.sh x.fz) (ρ.set n (some (.sh x.fz)))
  | none => .bad
@[simp] theorem rdV_sh {d : D} {n : Nat} {ρ : DEnv} : rdV (some (.sh d)) n ρ = .ok (.sh d) ρ := id rfl
@[simp] theorem rdV_l {xs : List Val} {n : Nat} {ρ : DEnv} : rdV (some (.lst xs)) n ρ = .ok (.sh (.lst (fzs xs))) (ρ.set n (some (.sh (.lst (fzs xs))))) := by
  have e : rdV (some (.lst xs)) n ρ = .ok (.sh (Val.lst xs).fz) (ρ.set n (some (.sh (Val.lst xs).fz))) := rfl
  rw [e, Val.fz]
@[simp] theorem rdV_t {xs : List Val} {n : Nat} {ρ : DEnv} : rdV (some (.tup xs)) n ρ = .ok (.sh (.tup (fzs xs))) (ρ.set n (some (.sh (.tup (fzs xs))))) := by
  have e : rdV (some (.tup xs)) n ρ = .ok (.sh (Val.tup xs).fz) (ρ.set n (some (.sh (Val.tup xs).fz))) := rfl
  rw [e, Val.fz]
@[simp] theorem rdV_n {n : Nat} {ρ : DEnv} : rdV none n ρ = .bad := id rfl
def crR (c : CR) (ρ : DEnv) : R Val := match c with
  | .ret x => .ok x ρ
  | .exc e => .exc e ρ
  | .bad => .bad
@[simp] theorem crR_r {x : Val} {ρ : DEnv} : crR (.ret x) ρ = .ok x ρ := id rfl
@[simp] theorem crR_e {e : DExn} {ρ : DEnv} : crR (.exc e) ρ = .exc e ρ := id rfl
@[simp] theorem crR_b {ρ : DEnv} : crR .bad ρ = .bad := id rfl
def lnV (o : Option Val) (ρ : DEnv) : R Val := match o with
  | some (.lst xs) => .ok (.sh (.int xs.length)) ρ
  | some x => liftO (lenD x.fz) ρ
  | none => .bad
@[simp] theorem lnV_l {xs : List Val} {ρ : DEnv} : lnV (some (.lst xs)) ρ = .ok (.sh (.int xs.length)) ρ := id rfl
@[simp] theorem lnV_sh {d : D} {ρ : DEnv} : lnV (some (.sh d)) ρ = liftO (lenD d) ρ := by
  have e : lnV (some (.sh d)) ρ = liftO (lenD (Val.sh d).fz) ρ := rfl
  rw [e, Val.fz]
@[simp] theorem lnV_t {xs : List Val} {ρ : DEnv} : lnV (some (.tup xs)) ρ = liftO (lenD (.tup (fzs xs))) ρ := by
  have e : lnV (some (.tup xs)) ρ = liftO (lenD (Val.tup xs).fz) ρ := rfl
  rw [e, Val.fz]
def ixR (o : Option Val) (y : D) (ρ : DEnv) : R Val := match o with
  | none => .bad
  | some x => liftO ((ixV x y).map .sh) ρ
@[simp] theorem ixR_s {x : Val} {y : D} {ρ : DEnv} : ixR (some x) y ρ = liftO ((ixV x y).map .sh) ρ := id rfl
def ixO (o : Option Val) (k : R Val) : R Val := match o with
  | none => .bad
  | some _ => k
@[simp] theorem ixO_s {x : Val} {k : R Val} : ixO (some x) k = k := id rfl
def shO (o : Option Val) : Option D := match o with
  | some (.sh d) => some d
  | _ => none
@[simp] theorem shO_s {d : D} : shO (some (.sh d)) = some d := id rfl
@[simp] theorem shO_n : shO none = none := id rfl
def shV (x : Val) : Option D := match x with
  | .sh d => some d
  | _ => none
@[simp] theorem shV_s {d : D} : shV (.sh d) = some d := id rfl
def appK (o : Option Val) (k : Fl) : Fl := match o with
  | some (.lst _) => k
  | _ => .bad
@[simp] theorem appK_l {xs : List Val} {k : Fl} : appK (some (.lst xs)) k = k := id rfl
def appF (o : Option Val) (n : Nat) (y : Val) (ρ : DEnv) : Fl := match o with
  | some (.lst xs) => if xs.length < 10000000 then .nx (ρ.set n (some (.lst (xs ++ [y])))) else .bad
  | _ => .bad
@[simp] theorem appF_l {xs : List Val} {n : Nat} {y : Val} {ρ : DEnv} : appF (some (.lst xs)) n y ρ = if xs.length < 10000000 then .nx (ρ.set n (some (.lst (xs ++ [y])))) else .bad := id rfl
def ownsV (o : Option Val) : Bool := match o with
  | some (.lst _) => true
  | _ => false
@[simp] theorem ownsL_ap {n : Nat} {ρ : DEnv} : ownsL n ρ = ownsV (getV ρ[n]?) := id rfl
@[simp] theorem ownsV_l {xs : List Val} : ownsV (some (.lst xs)) = true := id rfl
def setIxV (o : Option Val) (i : Nat) (y : Val) (k : D) (ρ : DEnv) : Fl := match o, k with
  | some (.lst xs), .int n => match ixN xs.length n with
    | some j => .nx (ρ.set i (some (.lst (xs.set j y))))
    | none => .bad
  | _, _ => .bad
@[simp] theorem setIx_ap {i : Nat} {y : Val} {k : D} {ρ : DEnv} : setIx i y k ρ = setIxV (getV ρ[i]?) i y k ρ := id rfl
@[simp] theorem setIxV_l {i : Nat} {y : Val} {n : Int} {xs : List Val} {ρ : DEnv} (h : 0 ≤ n) (h1 : n < (xs.length : Int)) : setIxV (some (.lst xs)) i y (.int n) ρ = .nx (ρ.set i (some (.lst (xs.set n.toNat y)))) := by
  have e : ixN xs.length n = some n.toNat := by unfold ixN; rw [if_pos h, if_pos (by omega)]
  unfold setIxV
  simp only [e]
def intR (d : D) (ρ : DEnv) : R (Option Int) := match d with
  | .int i => .ok (some i) ρ
  | _ => .bad
@[simp] theorem intR_i {i : Int} {ρ : DEnv} : intR (.int i) ρ = .ok (some i) ρ := id rfl
def mkTo (o : Option (List D)) (xs : List Val) : Val := match o with
  | some ds => .sh (.tup ds)
  | none => .tup xs
@[simp] theorem mkTo_s {ds : List D} {xs : List Val} : mkTo (some ds) xs = .sh (.tup ds) := id rfl
@[simp] theorem mkTo_n {xs : List Val} : mkTo none xs = .tup xs := id rfl
def consO (d : D) (o : Option (List D)) : Option (List D) := match o with
  | some ds => some (d :: ds)
  | none => none
@[simp] theorem consO_s {d : D} {ds : List D} : consO d (some ds) = some (d :: ds) := id rfl
@[simp] theorem consO_n {d : D} : consO d none = none := id rfl
def isN (d : D) : Bool := match d with
  | .non => true
  | _ => false
@[simp] theorem isN_n : isN .non = true := id rfl
@[simp] theorem isN_i {i : Int} : isN (.int i) = false := id rfl
@[simp] theorem isN_t {ds : List D} : isN (.tup ds) = false := id rfl
@[simp] theorem isN_l {ds : List D} : isN (.lst ds) = false := id rfl
@[simp] theorem isN_s {z : Str} : isN (.str z) = false := id rfl
@[simp] theorem isN_b {z : Bool} : isN (.bl z) = false := id rfl
@[simp] theorem isN_ins {C : Addr} {ns : List Str} {ds : List D} : isN (.ins C ns ds) = false := id rfl
section
variable {G : D → D → Option Val} {a b c f : DEnv → R Val} {fs : DEnv → R (List Val)} {t u : DEnv → R Bool} {s r : DEnv → Fl} {ρ : DEnv} {i j : Int} {n m : Nat} {d e : D} {x y : Val} {ds es : List D} {xs ys : List Val} {g : D → DEnv → Option DEnv}
@[simp] theorem fz_sh : Val.fz (.sh d) = d := by rw [Val.fz]
@[simp] theorem fz_lst : Val.fz (.lst xs) = .lst (fzs xs) := by rw [Val.fz]
@[simp] theorem fz_tup : Val.fz (.tup xs) = .tup (fzs xs) := by rw [Val.fz]
@[simp] theorem fzs_nil : fzs [] = [] := by rw [fzs]
@[simp] theorem fzs_cons : fzs (x :: xs) = x.fz :: fzs xs := by rw [fzs]
@[simp] theorem fzs_shs : fzs (ds.map .sh) = ds := fzs_sh ds
@[simp] theorem fzs_rep : fzs (List.replicate n x) = List.replicate n x.fz := by simp [fzs_map]
@[simp] theorem fzs_app : fzs (xs ++ ys) = fzs xs ++ fzs ys := by simp [fzs_map]
@[simp] theorem getV_ss : getV (some (some x)) = some x := id rfl
@[simp] theorem getV_sn : getV (some none) = none := id rfl
@[simp] theorem getV_n : getV none = none := id rfl
@[simp] theorem sSeq_ap : sSeq s r ρ = (s ρ).seq r := id rfl
@[simp] theorem sSkip_ap : sSkip ρ = .nx ρ := id rfl
@[simp] theorem sSet_ap : sSet n f ρ = (f ρ).fl fun x ρ1 => if n < ρ1.length then .nx (ρ1.set n (some x)) else .bad := id rfl
@[simp] theorem sFz_ap : sFz f ρ = (f ρ).bind fun x ρ1 => .ok (.sh x.fz) ρ1 := id rfl
@[simp] theorem sRet_ap : sRet f ρ = (f ρ).fl fun x ρ1 => .rt x ρ1 := id rfl
@[simp] theorem sDo_ap : sDo f ρ = (f ρ).fl fun _ ρ1 => .nx ρ1 := id rfl
@[simp] theorem sIf_ap : sIf t s r ρ = (t ρ).fl fun b ρ1 => if b = true then s ρ1 else r ρ1 := id rfl
@[simp] theorem sBrk_ap : sBrk ρ = .bk ρ := id rfl
@[simp] theorem sCnt_ap : sCnt ρ = .ct ρ := id rfl
@[simp] theorem sAsg_ap : sAsg f g ρ = (f ρ).fl fun x ρ1 => optF (g x.fz ρ1) := id rfl
@[simp] theorem sPar_ap : sPar n m fs ρ = (fs ρ).fl fun xs ρ1 => parF n m xs ρ1 := id rfl
@[simp] theorem sVar_ap : sVar n ρ = rdV (getV ρ[n]?) n ρ := id rfl
@[simp] theorem sC_ap : sC d ρ = .ok (.sh d) ρ := id rfl
@[simp] theorem sOp_ap : sOp G a b ρ = (a ρ).bind fun x ρ1 => (b ρ1).bind fun y ρ2 => liftO (G x.fz y.fz) ρ2 := id rfl
@[simp] theorem sUn_ap {G : D → Option Val} : sUn G a ρ = (a ρ).bind fun x ρ1 => liftO (G x.fz) ρ1 := id rfl
@[simp] theorem sNil_ap : sNil ρ = .ok [] ρ := id rfl
@[simp] theorem sCons_ap : sCons a fs ρ = (a ρ).bind fun x ρ1 => (fs ρ1).bind fun ys ρ2 => .ok (x :: ys) ρ2 := id rfl
@[simp] theorem sTup_ap : sTup fs ρ = (fs ρ).bind fun xs ρ1 => if xs.length ≤ 1000 then .ok (mkT xs) ρ1 else .bad := id rfl
@[simp] theorem sLst_ap : sLst fs ρ = (fs ρ).bind fun xs ρ1 => if xs.length ≤ 1000 then .ok (.lst xs) ρ1 else .bad := id rfl
@[simp] theorem sTst_ap : sTst f ρ = (f ρ).bind fun x ρ1 => liftB (asB x.fz) ρ1 := id rfl
@[simp] theorem sAnd_ap : sAnd t u ρ = (t ρ).bind fun b ρ1 => if b = true then u ρ1 else .ok false ρ1 := id rfl
@[simp] theorem sOr_ap : sOr t u ρ = (t ρ).bind fun b ρ1 => if b = true then .ok true ρ1 else u ρ1 := id rfl
@[simp] theorem sNot_ap : sNot t ρ = (t ρ).bind fun b ρ1 => .ok (!b) ρ1 := id rfl
@[simp] theorem sIfE_ap : sIfE t a b ρ = (t ρ).bind fun b' ρ1 => if b' = true then a ρ1 else b ρ1 := id rfl
@[simp] theorem sAndV_ap : sAndV a b ρ = (a ρ).bind fun x ρ1 => (liftB (asB x.fz) ρ1).bind fun k ρ2 => if k = true then b ρ2 else .ok (.sh (.bl false)) ρ2 := id rfl
@[simp] theorem sOrV_ap : sOrV a b ρ = (a ρ).bind fun x ρ1 => (liftB (asB x.fz) ρ1).bind fun k ρ2 => if k = true then .ok (.sh (.bl true)) ρ2 else b ρ2 := id rfl
@[simp] theorem sNotV_ap : sNotV a ρ = (a ρ).bind fun x ρ1 => (liftB (asB x.fz) ρ1).bind fun k ρ2 => .ok (.sh (.bl (!k))) ρ2 := id rfl
@[simp] theorem andR {p : Prop} [Decidable p] {k : Bool} : (if p then (R.ok (.sh (.bl k)) ρ : R Val) else R.ok (.sh (.bl false)) ρ) = R.ok (.sh (.bl (decide p && k))) ρ := by
  by_cases h : p <;> simp [h]
@[simp] theorem orR {p : Prop} [Decidable p] {k : Bool} : (if p then (R.ok (.sh (.bl true)) ρ : R Val) else R.ok (.sh (.bl k)) ρ) = R.ok (.sh (.bl (decide p || k))) ρ := by
  by_cases h : p <;> simp [h]
@[simp] theorem andT {p : Prop} [Decidable p] {k : Bool} : (if p then (R.ok k ρ : R Bool) else R.ok false ρ) = R.ok (decide p && k) ρ := by
  by_cases h : p <;> simp [h]
@[simp] theorem orT {p : Prop} [Decidable p] {k : Bool} : (if p then (R.ok true ρ : R Bool) else R.ok k ρ) = R.ok (decide p || k) ρ := by
  by_cases h : p <;> simp [h]
@[simp] theorem asB_bl {k : Bool} : asB (.bl k) = some k := id rfl
@[simp] theorem sChain_ap {G' : D → D → Option Val} : sChain G G' a b c ρ = (a ρ).bind fun x ρ1 => (b ρ1).bind fun y ρ2 => (liftO (G x.fz y.fz) ρ2).bind fun z ρ3 => (liftB (asB z.fz) ρ3).bind fun k ρ4 =>
  if k = true then (c ρ4).bind fun u ρ5 => liftO (G' y.fz u.fz) ρ5 else .ok (.sh (.bl false)) ρ4 := rfl
@[simp] theorem gI_ap {h : Int → Int → Bool} : gI h (.int i) (.int j) = some (.sh (.bl (h i j))) := id rfl
@[simp] theorem sCall_ap {φ : List D → CR} : sCall φ n fs ρ = (fs ρ).bind fun ys ρ1 => if ys.length = n then crR (φ (fzs ys)) ρ1 else .bad := id rfl
@[simp] theorem sCB_ap {h : List D → Option Val} : sCB h fs ρ = (fs ρ).bind fun ys ρ1 => liftO (h (fzs ys)) ρ1 := id rfl
@[simp] theorem g1_ap {h : D → Option Val} : g1 h [d] = h d := id rfl
@[simp] theorem g2_ap : g2 G [d, e] = G d e := id rfl
@[simp] theorem sLenV_ap : sLenV n ρ = lnV (getV ρ[n]?) ρ := id rfl
@[simp] theorem sIxV_ap : sIxV n f ρ = ixO (getV ρ[n]?) ((f ρ).bind fun y ρ1 => ixR (getV ρ1[n]?) y.fz ρ1) := id rfl
@[simp] theorem ixV_sh : ixV (.sh d) e = shO (ixD d e) := id rfl
@[simp] theorem ixV_lst : ixV (.lst xs) (.int i) = (atI xs i).bind shV := id rfl
@[simp] theorem ixV_tup : ixV (.tup xs) (.int i) = (atI xs i).bind shV := id rfl
@[simp] theorem sApp_ap : sApp n f ρ = appK (getV ρ[n]?) ((f ρ).fl fun y ρ1 => appF (getV ρ1[n]?) n y ρ1) := id rfl
@[simp] theorem sSetIx_ap : sSetIx n a b ρ = (b ρ).fl fun y ρ1 => if ownsL n ρ1 = true then (a ρ1).fl fun k ρ2 => setIx n y k.fz ρ2 else .bad := id rfl
@[simp] theorem sSl_ap {lo hi : Option (DEnv → R Val)} : sSl f lo hi ρ = (f ρ).bind fun x ρ1 => (sPart lo ρ1).bind fun i ρ2 => (sPart hi ρ2).bind fun j ρ3 => liftO (slD i j x.fz) ρ3 := id rfl
@[simp] theorem sPart_n : sPart none ρ = .ok none ρ := id rfl
@[simp] theorem sPart_s : sPart (some f) ρ = (f ρ).bind fun x ρ1 => intR x.fz ρ1 := id rfl
@[simp] theorem kName_ap : kName n d ρ = if n < ρ.length then some (ρ.set n (some (.sh d))) else none := id rfl
@[simp] theorem kNil_ap : kNil [] ρ = some ρ := id rfl
@[simp] theorem kCons_ap {r : List D → DEnv → Option DEnv} : kCons g r (d :: ds) ρ = (g d ρ).bind fun ρ1 => r ds ρ1 := id rfl
@[simp] theorem kSeq_t {r : List D → DEnv → Option DEnv} : kSeq n r (.tup ds) ρ = if ds.length = n then r ds ρ else none := id rfl
@[simp] theorem kSeq_s {r : List D → DEnv → Option DEnv} : kSeq n r (.scr ds) ρ = if ds.length = n then r ds ρ else none := id rfl
@[simp] theorem kSeq_l {r : List D → DEnv → Option DEnv} : kSeq n r (.lst ds) ρ = if ds.length = n then r ds ρ else none := id rfl
@[simp] theorem sItems_ap : sItems f ρ = (f ρ).bind fun x ρ1 => liftL (itemsD x.fz) ρ1 := id rfl
@[simp] theorem itemsD_l : itemsD (.lst ds) = some ds := id rfl
@[simp] theorem itemsD_s : itemsD (.scr ds) = some ds := id rfl
@[simp] theorem itemsD_t : itemsD (.tup ds) = some ds := id rfl
@[simp] theorem sRange_ap {h : List D → Option (List D)} : sRange h fs ρ = (fs ρ).bind fun xs ρ1 => liftL (h (fzs xs)) ρ1 := id rfl
@[simp] theorem sFor_ap {it : DEnv → R (List D)} {is : List Nat} : sFor it g s is ρ = (it ρ).fl fun ds ρ1 => loop g s is ds (forget is ρ1) := id rfl
@[simp] theorem sComp_ap {it : DEnv → R (List D)} {is : List Nat} : sComp it g t f is ρ = (it ρ).bind fun ds ρ1 => if ds.length ≤ 10000000 then comp g t f is ds [] (forget is ρ1) else .bad := id rfl
@[simp] theorem sYes_ap : sYes ρ = .ok true ρ := id rfl
@[simp] theorem forget_nil : forget [] ρ = ρ := id rfl
@[simp] theorem forget_cons {k : Nat} {is : List Nat} : forget (k :: is) ρ = forget is (ρ.set k none) := id rfl
@[simp] theorem cr_nx : (Fl.nx ρ).cr = .ret (.sh .non) := id rfl
@[simp] theorem cr_rt : (Fl.rt x ρ).cr = .ret x := id rfl
@[simp] theorem cr_exc {e : DExn} : (Fl.exc e ρ).cr = .exc e := id rfl
/-! numbers -/
@[simp] theorem addD_int : addD (.int i) (.int j) = some (.sh (.int (i + j))) := id rfl
@[simp] theorem subD_int : subD (.int i) (.int j) = some (.sh (.int (i - j))) := id rfl
@[simp] theorem negD_int : negD (.int i) = some (.sh (.int (-i))) := id rfl
theorem mulD_ok (h : mulOk i j) : mulD (.int i) (.int j) = some (.sh (.int (i * j))) := by
  have e : mulI (.int i) (.int j) = if mulOk i j then some (.sh (.int (i * j))) else none := rfl
  unfold mulD orG
  rw [e, if_pos h]
@[simp] theorem mulD_l (h1 : -18446744073709551616 < i) (h2 : i < 18446744073709551616) : mulD (.int i) (.int j) = some (.sh (.int (i * j))) := mulD_ok (.inl ⟨by omega, by omega⟩)
@[simp] theorem mulD_r (h1 : -18446744073709551616 < j) (h2 : j < 18446744073709551616) : mulD (.int i) (.int j) = some (.sh (.int (i * j))) := mulD_ok (.inr (.inl ⟨by omega, by omega⟩))
theorem log2_small {n k : Nat} (hk : k ≠ 0) (h : n < 2 ^ k) : n.log2 < k := by
  by_cases h0 : n = 0
  · subst h0; simp; omega
  · exact (Nat.log2_lt h0).mpr h
theorem divOk_lit (h0 : 0 < j) (h1 : j < 18446744073709551616) : divOk j := ⟨by omega, Nat.lt_trans (log2_small (k := 64) (by decide) (by omega)) (by decide)⟩
theorem fdivD_ok (h : divOk j) : fdivD (.int i) (.int j) = some (.sh (.int (i.fdiv j))) := by
  have e : fdivD (.int i) (.int j) = if divOk j then some (.sh (.int (i.fdiv j))) else none := rfl
  rw [e, if_pos h]
@[simp] theorem fdivD_pos (h0 : 0 < j) (h1 : j < 18446744073709551616) : fdivD (.int i) (.int j) = some (.sh (.int (i / j))) := by
  rw [fdivD_ok (divOk_lit h0 h1), Int.fdiv_eq_ediv_of_nonneg i (by omega)]
@[simp] theorem modD_pos (h0 : 0 < j) : modD (.int i) (.int j) = some (.sh (.int (i % j))) := by
  have e : modD (.int i) (.int j) = if j ≠ 0 then some (.sh (.int (i.fmod j))) else none := rfl
  rw [e, if_pos (by omega), Int.fmod_eq_emod_of_nonneg i (by omega)]
theorem modD_nz (h0 : j ≠ 0) : modD (.int i) (.int j) = some (.sh (.int (i.fmod j))) := by
  have e : modD (.int i) (.int j) = if j ≠ 0 then some (.sh (.int (i.fmod j))) else none := rfl
  rw [e, if_pos h0]
/-- a number of at most n bits -/
def Bd (n : Nat) (i : Int) : Prop := i.natAbs < 2 ^ n
theorem Bd.mul {n m : Nat} (h : Bd n i) (k : Bd m j) : Bd (n + m) (i * j) := by
  unfold Bd at *
  rw [Int.natAbs_mul, Nat.pow_add]
  by_cases hj : j.natAbs = 0
  · rw [hj, Nat.mul_zero]; exact Nat.mul_pos (Nat.two_pow_pos _) (Nat.two_pow_pos _)
  · exact Nat.lt_of_lt_of_le (Nat.mul_lt_mul_of_pos_right h (by omega)) (Nat.mul_le_mul_left _ (Nat.le_of_lt k))
theorem Bd.le {n m : Nat} (h : Bd n i) (k : n ≤ m) : Bd m i := Nat.lt_of_lt_of_le h (Nat.pow_le_pow_right (by decide) k)
theorem Bd.add {n : Nat} (h : Bd n i) (k : Bd n j) : Bd (n + 1) (i + j) := by
  unfold Bd at *
  rw [Nat.pow_succ]; omega
theorem Bd.sub {n : Nat} (h : Bd n i) (k : Bd n j) : Bd (n + 1) (i - j) := by
  unfold Bd at *
  rw [Nat.pow_succ]; omega
theorem Bd.neg {n : Nat} (h : Bd n i) : Bd n (-i) := by
  unfold Bd at *; omega
theorem mulD_bd {n m : Nat} (h : Bd n i) (k : Bd m j) (hn : n + m ≤ 900000) : mulD (.int i) (.int j) = some (.sh (.int (i * j))) := by
  refine mulD_ok (.inr (.inr ?_))
  have a := log2_small (n := i.natAbs) (k := n + 1) (by omega) (Nat.lt_of_lt_of_le h (Nat.pow_le_pow_right (by decide) (by omega)))
  have b := log2_small (n := j.natAbs) (k := m + 1) (by omega) (Nat.lt_of_lt_of_le k (Nat.pow_le_pow_right (by decide) (by omega)))
  omega
theorem bd_x (h1 : -1000000000000000000000000000000000000000000000000000000000000000000000000000000000000000000000000000000000000000000000000000000000000000000000000000000 ≤ i) (h2 : i ≤ 1000000000000000000000000000000000000000000000000000000000000000000000000000000000000000000000000000000000000000000000000000000000000000000000000000000) : Bd 500 i := by
  unfold Bd
  have : (1000000000000000000000000000000000000000000000000000000000000000000000000000000000000000000000000000000000000000000000000000000000000000000000000000000 : Nat) < 2 ^ 500 := by decide +kernel
  exact Nat.lt_of_le_of_lt (by omega) this
@[simp] theorem mulD_x (h1 : -1000000000000000000000000000000000000000000000000000000000000000000000000000000000000000000000000000000000000000000000000000000000000000000000000000000 ≤ i) (h2 : i ≤ 1000000000000000000000000000000000000000000000000000000000000000000000000000000000000000000000000000000000000000000000000000000000000000000000000000000) (h3 : -1000000000000000000000000000000000000000000000000000000000000000000000000000000000000000000000000000000000000000000000000000000000000000000000000000000 ≤ j) (h4 : j ≤ 1000000000000000000000000000000000000000000000000000000000000000000000000000000000000000000000000000000000000000000000000000000000000000000000000000000) : mulD (.int i) (.int j) = some (.sh (.int (i * j))) := mulD_bd (bd_x h1 h2) (bd_x h3 h4) (by decide)
theorem fdivD_bd {n : Nat} (h0 : 0 < j) (h : Bd n j) (hn : n < 9000) : fdivD (.int i) (.int j) = some (.sh (.int (i / j))) := by
  rw [fdivD_ok ⟨by omega, log2_small (by decide) (Nat.lt_of_lt_of_le h (Nat.pow_le_pow_right (by decide) (Nat.le_of_lt hn)))⟩, Int.fdiv_eq_ediv_of_nonneg i (by omega)]
@[simp] theorem powD_int (h0 : 0 ≤ j) (h1 : j ≤ 1000000) (h2 : -18446744073709551616 < i) (h3 : i < 18446744073709551616) : powD (.int i) (.int j) = some (.sh (.int (i ^ j.toNat))) := by
  have e : powD (.int i) (.int j) = if CPow i j then some (.sh (.int (i ^ j.toNat))) else none := rfl
  rw [e, if_pos ⟨h0, h1, by omega⟩]
@[simp] theorem shlD_int (h0 : 0 ≤ j) (h1 : j ≤ 1000000) (h2 : -18446744073709551616 < i) (h3 : i < 18446744073709551616) : shlD (.int i) (.int j) = some (.sh (.int (i * 2 ^ j.toNat))) := by
  have e : shlD (.int i) (.int j) = if CPow i j then some (.sh (.int (i * 2 ^ j.toNat))) else none := rfl
  rw [e, if_pos ⟨h0, h1, by omega⟩]
@[simp] theorem shrD_int (h0 : 0 ≤ j) : shrD (.int i) (.int j) = some (.sh (.int (i / 2 ^ j.toNat))) := by
  have e : shrD (.int i) (.int j) = if 0 ≤ j then some (.sh (.int (i / 2 ^ j.toNat))) else none := rfl
  rw [e, if_pos h0]
@[simp] theorem andD_int : andD (.int i) (.int j) = some (.sh (.int (Builtin.bitAnd i j))) := id rfl
@[simp] theorem orD_int : orD (.int i) (.int j) = some (.sh (.int (Builtin.bitOr i j))) := id rfl
@[simp] theorem divmodD_int (h0 : 0 < j) (h1 : j < 1073741824) : divmodD (.int i) (.int j) = some (.sh (.tup [.int (i / j), .int (i % j)])) := by
  have e : divmodD (.int i) (.int j) = if CDiv i j then some (.sh (.tup [.int (i / j), .int (i % j)])) else none := rfl
  rw [e, if_pos ⟨h0, h1⟩]
@[simp] theorem absD_int : absD (.int i) = some (.sh (.int (i.natAbs : Int))) := by
  have e : absD (.int i) = some (.sh (.int (if i < 0 then -i else i))) := rfl
  rw [e]; congr 3; split <;> omega
@[simp] theorem intD_int : intD (.int i) = some (.sh (.int i)) := id rfl
@[simp] theorem intD_bl {k : Bool} : intD (.bl k) = some (.sh (.int (if k then 1 else 0))) := id rfl
@[simp] theorem max2D_int : max2D (.int i) (.int j) = some (.sh (.int (if j > i then j else i))) := id rfl
@[simp] theorem min2D_int : min2D (.int i) (.int j) = some (.sh (.int (if j < i then j else i))) := id rfl
@[simp] theorem ltD_int : ltD (.int i) (.int j) = some (.sh (.bl (decide (i < j)))) := id rfl
@[simp] theorem leD_int : leD (.int i) (.int j) = some (.sh (.bl (decide (i ≤ j)))) := id rfl
@[simp] theorem gtD_int : gtD (.int i) (.int j) = some (.sh (.bl (decide (j < i)))) := id rfl
@[simp] theorem geD_int : geD (.int i) (.int j) = some (.sh (.bl (decide (j ≤ i)))) := id rfl
/-! == -/
@[simp] theorem ok_int {k : Nat} : D.ok k (.int i) = true := by cases k <;> rfl
@[simp] theorem ok_bl {k : Nat} {z : Bool} : D.ok k (.bl z) = true := by cases k <;> rfl
@[simp] theorem ok_str {k : Nat} {z : Str} : D.ok k (.str z) = true := by cases k <;> rfl
@[simp] theorem ok_non {k : Nat} : D.ok k .non = true := by cases k <;> rfl
@[simp] theorem ok_lst {k : Nat} : D.ok (k + 1) (.lst ds) = ds.all (D.ok k) := id rfl
@[simp] theorem ok_scr {k : Nat} : D.ok (k + 1) (.scr ds) = ds.all (D.ok k) := id rfl
@[simp] theorem ok_tup {k : Nat} : D.ok (k + 1) (.tup ds) = ds.all (D.ok k) := id rfl
@[simp] theorem ok20_lst : D.ok 20 (.lst ds) = ds.all (D.ok 19) := id rfl
@[simp] theorem ok20_scr : D.ok 20 (.scr ds) = ds.all (D.ok 19) := id rfl
@[simp] theorem ok20_tup : D.ok 20 (.tup ds) = ds.all (D.ok 19) := id rfl
@[simp] theorem ok19_lst : D.ok 19 (.lst ds) = ds.all (D.ok 18) := id rfl
@[simp] theorem ok19_tup : D.ok 19 (.tup ds) = ds.all (D.ok 18) := id rfl
@[simp] theorem ok18_lst : D.ok 18 (.lst ds) = ds.all (D.ok 17) := id rfl
@[simp] theorem ok18_tup : D.ok 18 (.tup ds) = ds.all (D.ok 17) := id rfl
@[simp] theorem ok17_lst : D.ok 17 (.lst ds) = ds.all (D.ok 16) := id rfl
@[simp] theorem ok17_tup : D.ok 17 (.tup ds) = ds.all (D.ok 16) := id rfl
@[simp] theorem ok16_tup : D.ok 16 (.tup ds) = ds.all (D.ok 15) := id rfl
@[simp] theorem eqv_int : D.eqv (.int i) (.int j) = decide (i = j) := by
  unfold D.eqv
  simp only [D.py, PyData.eqv]
  exact Bool.beq_eq_decide_eq i j
@[simp] theorem eqv_str {z w : Str} : D.eqv (.str z) (.str w) = decide (z = w) := by
  unfold D.eqv
  simp only [D.py, PyData.eqv]
  exact Bool.beq_eq_decide_eq z w
@[simp] theorem eqv_bl {z w : Bool} : D.eqv (.bl z) (.bl w) = (z == w) := by
  unfold D.eqv
  simp only [D.py, PyData.eqv]
@[simp] theorem eqv_tup : D.eqv (.tup ds) (.tup es) = eqvs ds es := by
  unfold D.eqv eqvs
  simp only [D.py, PyData.eqv]
@[simp] theorem eqv_lst : D.eqv (.lst ds) (.lst es) = eqvs ds es := by
  unfold D.eqv eqvs
  simp only [D.py, PyData.eqv]
@[simp] theorem eqv_lt : D.eqv (.lst ds) (.tup es) = false := by unfold D.eqv; simp only [D.py, PyData.eqv]
@[simp] theorem eqv_tl : D.eqv (.tup ds) (.lst es) = false := by unfold D.eqv; simp only [D.py, PyData.eqv]
@[simp] theorem eqv_nn : D.eqv .non .non = true := by unfold D.eqv; simp only [D.py, PyData.eqv]
@[simp] theorem eqv_ni : D.eqv .non (.int i) = false := by unfold D.eqv; simp only [D.py, PyData.eqv]
@[simp] theorem eqv_in : D.eqv (.int i) .non = false := by unfold D.eqv; simp only [D.py, PyData.eqv]
@[simp] theorem eqv_nt : D.eqv .non (.tup ds) = false := by unfold D.eqv; simp only [D.py, PyData.eqv]
@[simp] theorem eqv_tn : D.eqv (.tup ds) .non = false := by unfold D.eqv; simp only [D.py, PyData.eqv]
@[simp] theorem eqv_nl : D.eqv .non (.lst ds) = false := by unfold D.eqv; simp only [D.py, PyData.eqv]
@[simp] theorem eqv_ln : D.eqv (.lst ds) .non = false := by unfold D.eqv; simp only [D.py, PyData.eqv]
@[simp] theorem eqvs_nil : eqvs [] [] = true := by unfold eqvs; simp only [pys, PyData.eqvAll]
@[simp] theorem eqvs_cons : eqvs (d :: ds) (e :: es) = (D.eqv d e && eqvs ds es) := by unfold eqvs D.eqv; simp only [pys, PyData.eqvAll]
@[simp] theorem eqvs_nc : eqvs [] (e :: es) = false := by unfold eqvs; simp only [pys, PyData.eqvAll]
@[simp] theorem eqvs_cn : eqvs (d :: ds) [] = false := by unfold eqvs; simp only [pys, PyData.eqvAll]
@[simp] theorem eqD_ap : eqD d e = if d.ok 20 && e.ok 20 then some (.sh (.bl (d.eqv e))) else none := id rfl
@[simp] theorem neD_ap : neD d e = if d.ok 20 && e.ok 20 then some (.sh (.bl (!d.eqv e))) else none := id rfl
@[simp] theorem isND_ap {k : Bool} : isND k d = some (.sh (.bl (k != isN d))) := id rfl
@[simp] theorem isiD_ap {T : BT} : isiD T d = (d.isB T).map fun b => .sh (.bl b) := id rfl
@[simp] theorem isB_ii : D.isB .int (.int i) = some true := id rfl
@[simp] theorem isB_ib {k : Bool} : D.isB .int (.bl k) = some true := id rfl
@[simp] theorem isB_it : D.isB .int (.tup ds) = some false := id rfl
@[simp] theorem isB_il : D.isB .int (.lst ds) = some false := id rfl
@[simp] theorem isB_is {z : Str} : D.isB .int (.str z) = some false := id rfl
@[simp] theorem isB_in : D.isB .int .non = some false := id rfl
@[simp] theorem isB_bi : D.isB .bool (.int i) = some false := id rfl
@[simp] theorem isB_bb {k : Bool} : D.isB .bool (.bl k) = some true := id rfl
@[simp] theorem isB_bt : D.isB .bool (.tup ds) = some false := id rfl
@[simp] theorem isB_bn : D.isB .bool .non = some false := id rfl
@[simp] theorem isB_tt : D.isB .tuple (.tup ds) = some true := id rfl
@[simp] theorem isB_tl : D.isB .tuple (.lst ds) = some false := id rfl
@[simp] theorem isB_tn : D.isB .tuple .non = some false := id rfl
@[simp] theorem isB_ti : D.isB .tuple (.int i) = some false := id rfl
@[simp] theorem isB_ll : D.isB .list (.lst ds) = some true := id rfl
@[simp] theorem isB_lt : D.isB .list (.tup ds) = some false := id rfl
@[simp] theorem isB_ln : D.isB .list .non = some false := id rfl
@[simp] theorem isB_ss {z : Str} : D.isB .str (.str z) = some true := id rfl
@[simp] theorem isB_si : D.isB .str (.int i) = some false := id rfl
@[simp] theorem isB_st : D.isB .str (.tup ds) = some false := id rfl
@[simp] theorem isB_sl : D.isB .str (.lst ds) = some false := id rfl
@[simp] theorem isB_sn : D.isB .str .non = some false := id rfl
@[simp] theorem isB_bs {z : Str} : D.isB .bool (.str z) = some false := id rfl
@[simp] theorem isB_bl2 : D.isB .bool (.lst ds) = some false := id rfl
@[simp] theorem isB_ts {z : Str} : D.isB .tuple (.str z) = some false := id rfl
@[simp] theorem isB_ls {z : Str} : D.isB .list (.str z) = some false := id rfl
@[simp] theorem isB_li : D.isB .list (.int i) = some false := id rfl
/-! lists -/
@[simp] theorem listD_l : listD (.lst ds) = some (.lst (ds.map .sh)) := id rfl
@[simp] theorem listD_s : listD (.scr ds) = some (.lst (ds.map .sh)) := id rfl
@[simp] theorem listD_t : listD (.tup ds) = some (.lst (ds.map .sh)) := id rfl
@[simp] theorem tupleD_l : tupleD (.lst ds) = some (.sh (.tup ds)) := id rfl
@[simp] theorem tupleD_s : tupleD (.scr ds) = some (.sh (.tup ds)) := id rfl
@[simp] theorem tupleD_t : tupleD (.tup ds) = some (.sh (.tup ds)) := id rfl
@[simp] theorem shs_nil : shs [] = some [] := id rfl
@[simp] theorem shs_sh : shs (.sh d :: xs) = consO d (shs xs) := id rfl
@[simp] theorem shs_l : shs (.lst ys :: xs) = none := id rfl
@[simp] theorem shs_t : shs (.tup ys :: xs) = none := id rfl
@[simp] theorem mkT_ap : mkT xs = mkTo (shs xs) xs := id rfl
@[simp] theorem lenD_l : lenD (.lst ds) = some (.sh (.int ds.length)) := id rfl
@[simp] theorem lenD_s : lenD (.scr ds) = some (.sh (.int ds.length)) := id rfl
@[simp] theorem lenD_t : lenD (.tup ds) = some (.sh (.int ds.length)) := id rfl
@[simp] theorem atI_nn {α : Type} {l : List α} (h : 0 ≤ i) : atI l i = l[i.toNat]? := by
  unfold atI ixN
  rw [if_pos h]
  by_cases hl : i < (l.length : Int)
  · rw [if_pos hl]; rfl
  · rw [if_neg hl, List.getElem?_eq_none (by omega)]; rfl
@[simp] theorem ixD_l (h : 0 ≤ i) : ixD (.lst ds) (.int i) = (ds[i.toNat]?).map .sh := by
  have e : ixD (.lst ds) (.int i) = match (atI ds i).map Val.sh with | some x => some x | none => none := rfl
  rw [e, atI_nn h]
  cases ds[i.toNat]? <;> rfl
@[simp] theorem ixD_s (h : 0 ≤ i) : ixD (.scr ds) (.int i) = (ds[i.toNat]?).map .sh := by
  have e : ixD (.scr ds) (.int i) = match (atI ds i).map Val.sh with | some x => some x | none => none := rfl
  rw [e, atI_nn h]
  cases ds[i.toNat]? <;> rfl
@[simp] theorem ixD_t (h : 0 ≤ i) : ixD (.tup ds) (.int i) = (ds[i.toNat]?).map .sh := by
  have e : ixD (.tup ds) (.int i) = match (atI ds i).map Val.sh with | some x => some x | none => none := rfl
  rw [e, atI_nn h]
  cases ds[i.toNat]? <;> rfl
theorem atI_neg {α : Type} {l : List α} (h : i < 0) (h2 : -(l.length : Int) ≤ i) : atI l i = l[(i + l.length).toNat]? := by
  unfold atI ixN
  rw [if_neg (by omega), if_pos h2]; rfl
@[simp] theorem addD_lst (h : ds.length + es.length ≤ 10000000) : addD (.lst ds) (.lst es) = some (.lst ((ds ++ es).map .sh)) := by
  have e : addD (.lst ds) (.lst es) = match (if ds.length + es.length ≤ 10000000 then some (Val.lst ((ds ++ es).map .sh)) else none) with | some x => some x | none => none := rfl
  rw [e, if_pos h]
@[simp] theorem addD_tup (h : (d :: ds).length + es.length ≤ 10000000) : addD (.tup (d :: ds)) (.tup es) = some (.sh (.tup (d :: ds ++ es))) := by
  have e : addD (.tup (d :: ds)) (.tup es) = (if (d :: ds).length + es.length ≤ 10000000 then some (Val.sh (.tup (d :: ds ++ es))) else none) := rfl
  rw [e, if_pos h]
@[simp] theorem mulD_rep (h : ds.length * j.toNat ≤ 10000000 ∧ j < 4611686018427387904 ∧ -4611686018427387904 ≤ j) : mulD (.lst ds) (.int j) = some (.lst ((List.replicate j.toNat ds).flatten.map .sh)) := by
  have e : mulL (.lst ds) (.int j) = if ds.length * j.toNat ≤ 10000000 ∧ j < 2 ^ 62 ∧ -(2 ^ 62) ≤ j then some (Val.lst ((List.replicate j.toNat ds).flatten.map .sh)) else none := rfl
  have e1 : mulI (.lst ds) (.int j) = none := rfl
  unfold mulD orG
  rw [e1, e, if_pos ⟨h.1, by omega, by omega⟩]
@[simp] theorem slD_l {lo hi : Option Int} : slD lo hi (.lst ds) = some (.lst ((cutD ds lo hi).map .sh)) := id rfl
@[simp] theorem slD_s {lo hi : Option Int} : slD lo hi (.scr ds) = some (.lst ((cutD ds lo hi).map .sh)) := id rfl
theorem sIx_nn {n d : Nat} (h : 0 ≤ i) : HT.sIx n d (some i) = min i.toNat n := by
  obtain ⟨k, rfl⟩ := Int.eq_ofNat_of_zero_le h
  exact HT.sIx_nat n d k
theorem cutD_ll (h0 : 0 ≤ i) (h1 : 0 ≤ j) : cutD ds (some i) (some j) = (ds.take j.toNat).drop i.toNat := by
  unfold cutD
  rw [sIx_nn h0, sIx_nn h1, List.drop_take]
  refine List.ext_getElem? fun k => ?_
  simp only [List.getElem?_take, List.getElem?_drop]
  by_cases a : i.toNat ≤ ds.length
  · rw [Nat.min_eq_left a]
    by_cases b : k < j.toNat - i.toNat
    · rw [if_pos b]
      by_cases c : k < min j.toNat ds.length - i.toNat
      · rw [if_pos c]
      · rw [if_neg c, List.getElem?_eq_none (by omega)]
    · rw [if_neg b, if_neg (by omega)]
  · rw [Nat.min_eq_right (show ds.length ≤ i.toNat by omega)]
    rw [if_neg (by omega)]
    split
    · rw [List.getElem?_eq_none (by omega)]
    · rfl
theorem cutD_ln (h0 : 0 ≤ i) : cutD ds (some i) none = ds.drop i.toNat := by
  unfold cutD
  rw [sIx_nn h0, HT.sIx_none]
  refine List.ext_getElem? fun k => ?_
  simp only [List.getElem?_take, List.getElem?_drop]
  by_cases a : i.toNat ≤ ds.length
  · rw [Nat.min_eq_left a]
    split
    · rfl
    · rw [List.getElem?_eq_none (by omega)]
  · rw [Nat.min_eq_right (by omega), if_neg (by omega), List.getElem?_eq_none (by omega)]
theorem cutD_nl (h1 : 0 ≤ j) : cutD ds none (some j) = ds.take j.toNat := by
  unfold cutD
  rw [sIx_nn h1, HT.sIx_none, Nat.sub_zero, List.drop_zero]
  refine List.ext_getElem? fun k => ?_
  simp only [List.getElem?_take]
  split <;> split <;> first | rfl | (rw [List.getElem?_eq_none (by omega)]) | (rw [eq_comm, List.getElem?_eq_none (by omega)])
@[simp] theorem rng1_int (h1 : -4611686018427387904 ≤ i) (h2 : i < 4611686018427387904) : rng1 [.int i] = some (rangeL 0 i.toNat) := by
  have e : rng1 [.int i] = if bnd62 i then some (rangeL 0 i.toNat) else none := rfl
  rw [e, if_pos (by unfold bnd62; rw [Bool.and_eq_true]; exact ⟨decide_eq_true (by omega), decide_eq_true (by omega)⟩)]
@[simp] theorem rng2_int (h1 : -4611686018427387904 ≤ i) (h2 : i < 4611686018427387904) (h3 : -4611686018427387904 ≤ j) (h4 : j < 4611686018427387904) : rng2 [.int i, .int j] = some (rangeL i (j - i).toNat) := by
  have e : rng2 [.int i, .int j] = if bnd62 i && bnd62 j then some (rangeL i (j - i).toNat) else none := rfl
  rw [e, if_pos (by unfold bnd62; simp only [Bool.and_eq_true]; exact ⟨⟨decide_eq_true (by omega), decide_eq_true (by omega)⟩, decide_eq_true (by omega), decide_eq_true (by omega)⟩)]
/-! loops -/
@[simp] theorem loop_nil {is : List Nat} : loop g s is [] ρ = .nx ρ := id rfl
def lpK (o : Option DEnv) (k : DEnv → Fl) : Fl := match o with
  | none => .bad
  | some ρ => k ρ
@[simp] theorem lpK_s {k : DEnv → Fl} : lpK (some ρ) k = k ρ := id rfl
@[simp] theorem lpK_n {k : DEnv → Fl} : lpK none k = .bad := id rfl
def flp (x : Fl) (k e : DEnv → Fl) : Fl := match x with
  | .nx ρ => k ρ
  | .ct ρ => k ρ
  | .bk ρ => e ρ
  | .rt x ρ => .rt x ρ
  | .exc e ρ => .exc e ρ
  | .bad => .bad
@[simp] theorem flp_nx {k e : DEnv → Fl} : flp (.nx ρ) k e = k ρ := id rfl
@[simp] theorem flp_ct {k e : DEnv → Fl} : flp (.ct ρ) k e = k ρ := id rfl
@[simp] theorem flp_bk {k e : DEnv → Fl} : flp (.bk ρ) k e = e ρ := id rfl
@[simp] theorem flp_rt {k e : DEnv → Fl} : flp (.rt x ρ) k e = .rt x ρ := id rfl
@[simp] theorem flp_exc {k e : DEnv → Fl} {z : DExn} : flp (.exc z ρ) k e = .exc z ρ := id rfl
@[simp] theorem flp_bad {k e : DEnv → Fl} : flp .bad k e = .bad := id rfl
theorem loop_cons {is : List Nat} : loop g s is (d :: ds) ρ = lpK (g d ρ) fun ρ1 => flp (s ρ1) (fun ρ2 => loop g s is ds (forget is ρ2)) (fun ρ2 => .nx (forget is ρ2)) := by
  rw [loop]
  cases g d ρ with
  | none => rfl
  | some ρ1 =>
    rw [lpK_s]
    show (match s ρ1 with
      | .nx ρ2 => loop g s is ds (forget is ρ2)
      | .ct ρ2 => loop g s is ds (forget is ρ2)
      | .bk ρ2 => .nx (forget is ρ2)
      | .rt x ρ2 => .rt x ρ2
      | .exc e ρ2 => .exc e ρ2
      | .bad => Fl.bad) = _
    cases s ρ1 <;> rfl
/-- an invariant, told of what is left -/
theorem loop_inv {is : List Nat} (I : List D → DEnv → Prop) : ∀ (ds : List D) (ρ : DEnv), I ds ρ →
    (∀ d ds ρ, I (d :: ds) ρ → ∃ ρ1 ρ2, g d ρ = some ρ1 ∧ (s ρ1 = .nx ρ2 ∨ s ρ1 = .ct ρ2) ∧ I ds (forget is ρ2)) → ∃ ρ', loop g s is ds ρ = .nx ρ' ∧ I [] ρ'
  | [], ρ, h, _ => ⟨ρ, rfl, h⟩
  | d :: ds, ρ, h, k => by
    obtain ⟨ρ1, ρ2, e1, e2, h2⟩ := k d ds ρ h
    obtain ⟨ρ', e3, h3⟩ := loop_inv I ds (forget is ρ2) h2 k
    refine ⟨ρ', ?_, h3⟩
    rw [loop]
    simp only [e1]
    rcases e2 with e2 | e2 <;> simp only [e2, e3]
@[simp] theorem rangeL_0 : rangeL i 0 = [] := id rfl
theorem rangeL_s : rangeL i (n + 1) = .int i :: rangeL (i + 1) n := by
  unfold rangeL
  rw [List.range_succ_eq_map, List.map_cons, List.map_map]
  congr 1
  · simp
  · refine List.map_congr_left fun k _ => ?_
    simp; omega
/-- each turn leaves the state that the next one wants -/
theorem loop_fold {α : Type} {is : List Nat} (st : α → DEnv) (step : α → D → α) (P : α → Prop) : ∀ (ds : List D) (z : α), P z →
    (∀ z d, d ∈ ds → P z → P (step z d) ∧ ∃ ρ1 ρ2, g d (st z) = some ρ1 ∧ (s ρ1 = .nx ρ2 ∨ s ρ1 = .ct ρ2) ∧ forget is ρ2 = st (step z d)) → loop g s is ds (st z) = .nx (st (ds.foldl step z))
  | [], z, _, _ => rfl
  | d :: ds, z, hz, h => by
    obtain ⟨h1, ρ1, ρ2, e1, e2, e3⟩ := h z d List.mem_cons_self hz
    rw [List.foldl_cons, ← loop_fold st step P ds (step z d) h1 fun z' d' hd hz' => h z' d' (List.mem_cons_of_mem _ hd) hz']
    rw [loop]
    simp only [e1]
    rcases e2 with e2 | e2 <;> simp only [e2, e3]
theorem loop_same {is : List Nat} (ds : List D) (h : ∀ d, d ∈ ds → ∃ ρ1 ρ2, g d ρ = some ρ1 ∧ (s ρ1 = .nx ρ2 ∨ s ρ1 = .ct ρ2) ∧ forget is ρ2 = ρ) : loop g s is ds ρ = .nx ρ :=
  (loop_fold (α := Unit) (fun _ => ρ) (fun z _ => z) (fun _ => True) ds () trivial fun z d hd _ => ⟨trivial, h d hd⟩)
theorem loop_fold2 {α : Type} {is : List Nat} (st : α → DEnv) (step : α → D → α) (P : α → Prop) : ∀ (ds : List D) (z : α), P z →
    (∀ z d, d ∈ ds → P z → P (step z d) ∧ (lpK (g d (st z)) fun ρ1 => flp (s ρ1) (fun ρ2 => .nx (forget is ρ2)) fun _ => .bad) = .nx (st (step z d))) → loop g s is ds (st z) = .nx (st (ds.foldl step z))
  | [], z, _, _ => rfl
  | d :: ds, z, hz, h => by
    obtain ⟨h1, e⟩ := h z d List.mem_cons_self hz
    rw [List.foldl_cons, ← loop_fold2 st step P ds (step z d) h1 fun z' d' hd hz' => h z' d' (List.mem_cons_of_mem _ hd) hz']
    rw [loop_cons]
    cases e1 : g d (st z) with
    | none => rw [e1] at e; cases e
    | some ρ1 =>
      rw [e1] at e
      simp only [lpK_s] at e ⊢
      cases e2 : s ρ1 <;> rw [e2] at e <;> simp only [flp_nx, flp_ct, flp_bk, flp_rt, flp_exc, flp_bad, Fl.nx.injEq] at e ⊢
      all_goals first | exact Fl.noConfusion e | rw [e]
theorem loop_same2 {is : List Nat} (h : ∀ d, d ∈ ds → (lpK (g d ρ) fun ρ1 => flp (s ρ1) (fun ρ2 => .nx (forget is ρ2)) fun _ => .bad) = .nx ρ) : loop g s is ds ρ = .nx ρ :=
  (loop_fold2 (α := Unit) (fun _ => ρ) (fun z _ => z) (fun _ => True) ds () trivial fun z d hd _ => ⟨trivial, h d hd⟩)
theorem loop_reln {is : List Nat} (I : Nat → DEnv → Prop) : ∀ (ds : List D) (n : Nat) (ρ : DEnv), I n ρ → (∀ m d ρ, d ∈ ds → m < n + ds.length → I m ρ → ∃ ρ', (lpK (g d ρ) fun ρ1 => flp (s ρ1) (fun ρ2 => .nx (forget is ρ2)) fun _ => .bad) = .nx ρ' ∧ I (m + 1) ρ') → ∃ ρ', loop g s is ds ρ = .nx ρ' ∧ I (n + ds.length) ρ'
  | [], n, ρ, h, _ => ⟨ρ, rfl, h⟩
  | d :: ds, n, ρ, h, k => by
    obtain ⟨ρ1, e, h1⟩ := k n d ρ List.mem_cons_self (by simp) h
    obtain ⟨ρ2, e2, h2⟩ := loop_reln I ds (n + 1) ρ1 h1 fun m d' ρ' hd hm => k m d' ρ' (List.mem_cons_of_mem _ hd) (by simp only [List.length_cons]; omega)
    refine ⟨ρ2, ?_, by rw [List.length_cons, show n + (ds.length + 1) = n + 1 + ds.length by omega]; exact h2⟩
    rw [loop_cons, ← e2]
    cases e1 : g d ρ with
    | none => rw [e1] at e; cases e
    | some ρ3 =>
      rw [e1] at e
      simp only [lpK_s] at e ⊢
      cases e4 : s ρ3 <;> rw [e4] at e <;> simp only [flp_nx, flp_ct, flp_bk, flp_rt, flp_exc, flp_bad, Fl.nx.injEq] at e ⊢
      all_goals first | exact Fl.noConfusion e | rw [e]
theorem loop_rel {is : List Nat} (I : DEnv → Prop) (h0 : I ρ) (h : ∀ d ρ, d ∈ ds → I ρ → ∃ ρ', (lpK (g d ρ) fun ρ1 => flp (s ρ1) (fun ρ2 => .nx (forget is ρ2)) fun _ => .bad) = .nx ρ' ∧ I ρ') : ∃ ρ', loop g s is ds ρ = .nx ρ' ∧ I ρ' :=
  loop_reln (fun _ => I) ds 0 ρ h0 fun _ d ρ hd _ hI => h d ρ hd hI
/-- a walk that may end it -/
def endF (o : Option Val) (ρ ρ' : DEnv) : Fl := match o with
  | none => .nx ρ
  | some x => .rt x ρ'
@[simp] theorem endF_n {ρ ρ' : DEnv} : endF none ρ ρ' = .nx ρ := id rfl
@[simp] theorem endF_s {x : Val} {ρ ρ' : DEnv} : endF (some x) ρ ρ' = .rt x ρ' := id rfl
theorem loop_find {is : List Nat} (R : D → Option Val) : ∀ (ds : List D), (∀ d, d ∈ ds → ∃ ρ', (lpK (g d ρ) fun ρ1 => flp (s ρ1) (fun ρ2 => .nx (forget is ρ2)) fun _ => .bad) = endF (R d) ρ ρ') → ∃ ρ', loop g s is ds ρ = endF (ds.findSome? R) ρ ρ'
  | [], _ => ⟨ρ, rfl⟩
  | d :: ds, h => by
    obtain ⟨ρ1, e⟩ := h d List.mem_cons_self
    obtain ⟨ρ2, e2⟩ := loop_find R ds fun d' hd => h d' (List.mem_cons_of_mem _ hd)
    rw [loop_cons, List.findSome?_cons]
    cases e1 : g d ρ with
    | none => rw [e1] at e; cases hR : R d <;> rw [hR] at e <;> cases e
    | some ρ3 =>
      rw [e1] at e
      simp only [lpK_s] at e ⊢
      cases hR : R d with
      | none =>
        rw [hR] at e
        refine ⟨ρ2, ?_⟩
        cases e4 : s ρ3 <;> rw [e4] at e <;> simp only [flp_nx, flp_ct, flp_bk, flp_rt, flp_exc, flp_bad, endF_n, Fl.nx.injEq] at e ⊢
        all_goals first | exact Fl.noConfusion e | (rw [e]; exact e2)
      | some x =>
        rw [hR] at e
        refine ⟨ρ1, ?_⟩
        cases e4 : s ρ3 <;> rw [e4] at e <;> simp only [flp_nx, flp_ct, flp_bk, flp_rt, flp_exc, flp_bad, endF_s] at e ⊢
        all_goals first | exact Fl.noConfusion e | exact e
def RD (f : Nat → Option Val) : D → Option Val := fun d => match d with
  | .int i => f i.toNat
  | _ => none
theorem findSome_RD (f : Nat → Option Val) (n : Nat) : (rangeL 0 n).findSome? (RD f) = (List.range n).findSome? f := by
  unfold rangeL
  rw [List.findSome?_map]
  congr 1
  funext k
  show f ((0 : Int) + (k : Int)).toNat = f k
  congr 1
  omega
theorem loop_range {is : List Nat} {n : Nat} (f : Nat → Option Val) (h : ∀ k : Nat, k < n → ∃ ρ', (lpK (g (.int (k : Int)) ρ) fun ρ1 => flp (s ρ1) (fun ρ2 => .nx (forget is ρ2)) fun _ => .bad) = endF (f k) ρ ρ') : ∃ ρ', loop g s is (rangeL 0 n) ρ = endF ((List.range n).findSome? f) ρ ρ' := by
  rw [← findSome_RD]
  refine loop_find (RD f) _ fun d hd => ?_
  unfold rangeL at hd
  obtain ⟨k, hk, rfl⟩ := List.mem_map.mp hd
  rw [show (0 : Int) + (k : Int) = (k : Int) by omega]
  exact h k (List.mem_range.mp hk)
theorem comp_map {is : List Nat} (F : D → D) (hg : ∀ d, d ∈ ds → ∃ ρ1 ρ2, g d ρ = some ρ1 ∧ f ρ1 = .ok (.sh (F d)) ρ2 ∧ forget is ρ2 = ρ) : ∀ acc, comp g sYes f is ds acc ρ = .ok (.lst (acc ++ (ds.map F).map .sh)) ρ := by
  induction ds with
  | nil => intro acc; simp [comp]
  | cons d ds ih =>
    intro acc
    obtain ⟨ρ1, ρ2, e1, e2, e3⟩ := hg d List.mem_cons_self
    rw [comp]
    simp only [e1, sYes_ap, e2, e3]
    rw [ih fun d' hd => hg d' (List.mem_cons_of_mem _ hd)]
    simp
def lpR (o : Option DEnv) (k : DEnv → R Val) : R Val := match o with
  | none => .bad
  | some ρ => k ρ
@[simp] theorem lpR_s {k : DEnv → R Val} : lpR (some ρ) k = k ρ := id rfl
@[simp] theorem lpR_n {k : DEnv → R Val} : lpR none k = .bad := id rfl
theorem comp_mapA {α : Type} {is : List Nat} (φ F : α → D) : ∀ (l : List α) (acc : List Val), (∀ a, a ∈ l → (lpR (g (φ a) ρ) fun ρ1 => (f ρ1).bind fun x ρ2 => .ok x (forget is ρ2)) = .ok (.sh (F a)) ρ) → comp g sYes f is (l.map φ) acc ρ = .ok (.lst (acc ++ (l.map F).map .sh)) ρ
  | [], acc, _ => by simp [comp]
  | a :: l, acc, h => by
    have e := h a List.mem_cons_self
    have ih := comp_mapA φ F l (acc ++ [.sh (F a)]) fun b hb => h b (List.mem_cons_of_mem _ hb)
    rw [List.map_cons, comp]
    cases e1 : g (φ a) ρ with
    | none => rw [e1] at e; cases e
    | some ρ1 =>
      rw [e1] at e
      simp only [lpR_s] at e
      simp only [sYes_ap]
      cases e2 : f ρ1 with
      | bad => rw [e2] at e; cases e
      | exc _ _ => rw [e2] at e; cases e
      | ok x ρ2 =>
        rw [e2] at e
        simp only [R.bind_ok, R.ok.injEq] at e
        simp only [e.1, e.2]
        rw [ih]
        simp
theorem comp_filter {is : List Nat} (F : D → D) (p : D → Bool) (hg : ∀ d, d ∈ ds → ∃ ρ1 ρ2, g d ρ = some ρ1 ∧ t ρ1 = .ok (p d) ρ2 ∧ (p d = false → forget is ρ2 = ρ) ∧ (p d = true → ∃ ρ3, f ρ2 = .ok (.sh (F d)) ρ3 ∧ forget is ρ3 = ρ)) : ∀ acc, comp g t f is ds acc ρ = .ok (.lst (acc ++ ((ds.filter p).map F).map .sh)) ρ := by
  induction ds with
  | nil => intro acc; simp [comp]
  | cons d ds ih =>
    intro acc
    obtain ⟨ρ1, ρ2, e1, e2, e3, e4⟩ := hg d List.mem_cons_self
    have ih' := ih fun d' hd => hg d' (List.mem_cons_of_mem _ hd)
    rw [comp]
    simp only [e1, e2]
    cases hp : p d with
    | false => simp only [e3 hp]; rw [ih']; simp [hp]
    | true =>
      obtain ⟨ρ3, e5, e6⟩ := e4 hp
      simp only [e5, e6]
      rw [ih']; simp [hp]
end
@[simp] theorem env0_ap {n : Nat} {ds : List D} : env0 n ds = ds.map (fun d => some (.sh d)) ++ List.replicate (n - ds.length) none := id rfl
/-- the cell of a script -/
def cellI (ns : List Int) (k : Int) : Int := ns.getD k.toNat 0
theorem cellI_get {ns : List Int} {k : Int} (h : k < (ns.length : Int)) (h0 : 0 ≤ k) : ns[k.toNat]? = some (cellI ns k) := by
  unfold cellI
  rw [List.getD_eq_getElem?_getD, List.getElem?_eq_getElem (show k.toNat < ns.length by omega)]; rfl
theorem cellI_el {ns : List Int} {k : Int} (h : k.toNat < ns.length) : ns[k.toNat] = cellI ns k := by
  unfold cellI
  rw [List.getD_eq_getElem?_getD, List.getElem?_eq_getElem h]; rfl
theorem cellI_out {ns : List Int} {k : Int} (h : ¬ k < (ns.length : Int)) (h0 : 0 ≤ k) : cellI ns k = 0 := by
  unfold cellI
  rw [List.getD_eq_getElem?_getD, List.getElem?_eq_none (by omega)]; rfl
/-- a run of a script -/
def segI (ns : List Int) (i j : Nat) : List Int := (ns.take j).drop i
theorem segI_len (ns : List Int) (i j : Nat) : (segI ns i j).length ≤ ns.length := by
  unfold segI
  rw [List.length_drop, List.length_take]; omega
theorem segI_le (ns : List Int) (i j : Nat) : (segI ns i j).length ≤ j - i := by
  unfold segI
  rw [List.length_drop, List.length_take]; omega
theorem slD_scr {ns : List Int} {i j : Int} (h0 : 0 ≤ i) (h1 : 0 ≤ j) : slD (some i) (some j) (scrI ns) = some (.lst ((segI ns i.toNat j.toNat).map fun n => .sh (.int n))) := by
  unfold scrI segI
  rw [slD_s, cutD_ll h0 h1, ← List.map_take, ← List.map_drop, List.map_map]; rfl
theorem slD_scr_n {ns : List Int} {i : Int} (h0 : 0 ≤ i) : slD (some i) none (scrI ns) = some (.lst ((segI ns i.toNat ns.length).map fun n => .sh (.int n))) := by
  unfold scrI segI
  rw [slD_s, cutD_ln h0, List.take_length, ← List.map_drop, List.map_map]; rfl
@[simp] theorem fzs_mi {α : Type} {f : α → D} {l : List α} : fzs (l.map fun n => .sh (f n)) = l.map f := by
  induction l with
  | nil => rw [List.map_nil, fzs_nil]; rfl
  | cons a l ih => rw [List.map_cons, fzs_cons, ih, fz_sh]; rfl
@[simp] theorem fzs_mc {α : Type} {f : α → D} {l : List α} : fzs (l.map (Val.sh ∘ f)) = l.map f := fzs_mi
theorem mem_mapI {l : List Int} {d : D} (h : d ∈ l.map D.int) : ∃ n, d = .int n := by
  obtain ⟨n, _, rfl⟩ := List.mem_map.mp h
  exact ⟨n, rfl⟩
theorem while_done {α : Type} {t : DEnv → R Bool} {s : DEnv → Fl} {is : List Nat} (st : α → DEnv) (step : α → α) (c : α → Bool) (μ : α → Nat) (P : α → Prop) (ht : ∀ z, P z → t (st z) = .ok (c z) (st z))
    (hs : ∀ z, P z → c z = true → P (step z) ∧ μ (step z) < μ z ∧ flp (s (st z)) (fun ρ2 => .nx (forget is ρ2)) (fun _ => .bad) = .nx (st (step z))) (z : α) (ρ : DEnv) (h0 : forget is ρ = st z) (hz : P z) : ∃ z', P z' ∧ c z' = false ∧ sWhile t s is ρ = .nx (st z') := by
  have key : ∀ n z, μ z < n → P z → ∃ z', P z' ∧ c z' = false ∧ whileN t s is n (st z) = .nx (st z') := by
    intro n
    induction n with
    | zero => intro z h; omega
    | succ n ih =>
      intro z h hz
      rw [whileN]
      simp only [ht z hz]
      cases hc : c z with
      | false => exact ⟨z, hz, hc, rfl⟩
      | true =>
        obtain ⟨h1, h2, h3⟩ := hs z hz hc
        simp only
        obtain ⟨z', q1, q2, q3⟩ := ih (step z) (by omega) h1
        refine ⟨z', q1, q2, ?_⟩
        cases e2 : s (st z) <;> rw [e2] at h3 <;> simp only [flp_nx, flp_ct, flp_bk, flp_rt, flp_exc, flp_bad, Fl.nx.injEq] at h3 ⊢
        all_goals first | exact Fl.noConfusion h3 | (rw [h3]; exact q3)
  obtain ⟨z', q1, q2, q3⟩ := key (μ z + 1) z (by omega) hz
  refine ⟨z', q1, q2, ?_⟩
  rw [sWhile_eq (n := μ z + 1)] <;> rw [h0, q3]
  intro e; cases e
theorem gcd_fmod (a b : Int) : Int.gcd b (a.fmod b) = Int.gcd a b := by
  have h : a.fmod b = a - b * a.fdiv b := by have := Int.mul_fdiv_add_fmod a b; omega
  have h2 : a = (a.fmod b) + b * a.fdiv b := by omega
  rw [Int.gcd_comm a b]
  conv => rhs; rw [h2]
  rw [Int.gcd_add_mul_left_right]
theorem natAbs_fmod_lt (a b : Int) (h : b ≠ 0) : (a.fmod b).natAbs < b.natAbs := by
  rcases Int.lt_or_gt_of_ne h with h | h
  · have h1 := Int.emod_nonneg a (show b ≠ 0 by omega)
    have h2 := Int.emod_lt a (show b ≠ 0 by omega)
    rw [Int.fmod_eq_emod]
    split
    · omega
    · rename_i hd
      have h3 : a % b ≠ 0 := fun e => hd (.inr (Int.dvd_of_emod_eq_zero e))
      omega
  · have h1 := Int.fmod_nonneg_of_pos a h
    have h2 := Int.fmod_lt_of_pos a h
    omega
theorem euclid {t : DEnv → R Bool} {s : DEnv → Fl} {is : List Nat} (st : Int → Int → DEnv) (ht : ∀ a b, t (st a b) = .ok (decide (b ≠ 0)) (st a b))
    (hs : ∀ a b, b ≠ 0 → flp (s (st a b)) (fun ρ2 => .nx (forget is ρ2)) (fun _ => .bad) = .nx (st b (a.fmod b))) (a b : Int) (ρ : DEnv) (h0 : forget is ρ = st a b) : ∃ g : Int, g.natAbs = Int.gcd a b ∧ sWhile t s is ρ = .nx (st g 0) := by
  obtain ⟨⟨g, k⟩, h1, h2, h3⟩ := while_done (α := Int × Int) (t := t) (s := s) (is := is) (fun z => st z.1 z.2) (fun z => (z.2, z.1.fmod z.2)) (fun z => decide (z.2 ≠ 0)) (fun z => z.2.natAbs) (fun z => Int.gcd z.1 z.2 = Int.gcd a b) (fun z _ => ht z.1 z.2)
    (fun z hz hc => ⟨by rw [← hz]; exact gcd_fmod _ _, natAbs_fmod_lt _ _ (by simpa using hc), hs z.1 z.2 (by simpa using hc)⟩) (a, b) ρ h0 rfl
  have hk : k = 0 := by simpa using h2
  subst hk
  refine ⟨g, ?_, h3⟩
  rw [← h1]; simp
@[simp] theorem sSigns_ap {f : DEnv → R Val} {ρ : DEnv} : sSigns f ρ = (f ρ).bind fun x ρ1 => liftL (signsD x.fz) ρ1 := id rfl
@[simp] theorem signsD_s {z : Str} : signsD (.str z) = some (signsL z) := id rfl
@[simp] theorem sJoin_ap {fa fb : DEnv → R Val} {ρ : DEnv} : sJoin fa fb ρ = (fa ρ).bind fun x ρ1 => joinK x.fz fun a => (fb ρ1).bind fun y ρ2 => liftO (joinD a y.fz) ρ2 := id rfl
@[simp] theorem joinK_s {z : Str} {k : Str → R Val} : joinK (.str z) k = k z := id rfl
theorem repS_ok {a : Str} {k : Int} (h : CRepS a k) : repS (.str a) (.int k) = some (.sh (.str (Txt.mul a k))) := by
  have e : repS (.str a) (.int k) = if CRepS a k then some (.sh (.str (Txt.mul a k))) else none := rfl
  rw [e, if_pos h]
theorem dStrs_map (l : List Str) : dStrs (l.map .str) = some l := by
  induction l with
  | nil => rfl
  | cons a l ih => rw [List.map_cons, dStrs, ih]; rfl
theorem joinD_map {a : Str} {l : List Str} (h : (l.map (·.length)).sum + l.length * a.length ≤ 10000000) : joinD a (.lst (l.map .str)) = some (.sh (.str (Txt.join a l))) := by
  show (dStrs (l.map .str)).bind _ = _
  rw [dStrs_map]
  show (if _ then _ else _) = _
  rw [if_pos h]
theorem lenD_str {z : Str} (h : z.length ≤ 10000000) : lenD (.str z) = some (.sh (.int z.length)) := by
  have e : lenD (.str z) = if z.length ≤ 10000000 then some (.sh (.int z.length)) else none := rfl
  rw [e, if_pos h]
theorem addD_str {a b : Str} (h : a.length + b.length ≤ 10000000) : addD (.str a) (.str b) = some (.sh (.str (a ++ b))) := by
  have e : addD (.str a) (.str b) = match (if a.length + b.length ≤ 10000000 then some (Val.sh (.str (a ++ b))) else none) with | some x => some x | none => none := rfl
  rw [e, if_pos h]
@[simp] theorem sTake_ap {n : Nat} {ρ : DEnv} : sTake n ρ = takeR (getV ρ[n]?) n ρ := id rfl
@[simp] theorem takeR_s {x : Val} {n : Nat} {ρ : DEnv} : takeR (some x) n ρ = .ok x (ρ.set n none) := id rfl
@[simp] theorem sLendT_ap {f : DEnv → R Bool} {ρ : DEnv} : sLendT f ρ = lendT (f (ρ.map frO)) ρ := id rfl
@[simp] theorem lendT_ok {b : Bool} {ρ ρ1 : DEnv} : lendT (.ok b ρ1) ρ = .ok b ρ := id rfl
def appIxO (o : Option Val) (k : Fl) : Fl := match o with
  | none => .bad
  | some _ => k
@[simp] theorem appIxO_s {x : Val} {k : Fl} : appIxO (some x) k = k := id rfl
@[simp] theorem sAppIx_ap {n : Nat} {fk : DEnv → R Val} {d : D} {ρ : DEnv} : sAppIx n fk d ρ = appIxO (getV ρ[n]?) ((fk ρ).fl fun y ρ1 => appIxV (getV ρ1[n]?) n y.fz d ρ1) := by
  unfold sAppIx appIxO
  cases getV ρ[n]? <;> rfl
theorem appIxV_t {ys ys' : List Val} {n : Nat} {i : Int} {d : D} {ρ : DEnv} (h : appIn ys i d = some ys') : appIxV (some (.tup ys)) n (.int i) d ρ = .nx (ρ.set n (some (.tup ys'))) := by
  unfold appIxV
  simp only [h]
theorem appIxV_l {ys ys' : List Val} {n : Nat} {i : Int} {d : D} {ρ : DEnv} (h : appIn ys i d = some ys') : appIxV (some (.lst ys)) n (.int i) d ρ = .nx (ρ.set n (some (.lst ys'))) := by
  unfold appIxV
  simp only [h]
@[simp] theorem revD_l {ds : List D} : revD (.lst ds) = some (.lst (ds.reverse.map .sh)) := id rfl
@[simp] theorem sLend_ap {f : DEnv → R Val} {ρ : DEnv} : sLend f ρ = lendR (f (ρ.map frO)) ρ := id rfl
@[simp] theorem frO_n : frO none = none := id rfl
@[simp] theorem frO_s {x : Val} : frO (some x) = some (.sh x.fz) := id rfl
@[simp] theorem lendR_i {i : Int} {ρ ρ1 : DEnv} : lendR (.ok (.sh (.int i)) ρ1) ρ = .ok (.sh (.int i)) ρ := id rfl
@[simp] theorem lendR_b {i : Bool} {ρ ρ1 : DEnv} : lendR (.ok (.sh (.bl i)) ρ1) ρ = .ok (.sh (.bl i)) ρ := id rfl
@[simp] theorem lendR_s {i : Str} {ρ ρ1 : DEnv} : lendR (.ok (.sh (.str i)) ρ1) ρ = .ok (.sh (.str i)) ρ := id rfl
@[simp] theorem lendR_n {ρ ρ1 : DEnv} : lendR (.ok (.sh .non) ρ1) ρ = .ok (.sh .non) ρ := id rfl
theorem orC_1 {g h : List D → Option Val} {ds : List D} {x : Val} (e : g ds = some x) : orC g h ds = some x := by
  unfold orC; rw [e]
theorem orC_2 {g h : List D → Option Val} {ds : List D} (e : g ds = none) : orC g h ds = h ds := by
  unfold orC; rw [e]
theorem dInts_map (l : List Int) : dInts (l.map .int) = some l := by
  induction l with
  | nil => rfl
  | cons a l ih => rw [List.map_cons, dInts, ih]; rfl
theorem maxL_map {h : List D → Option Val} {l : List Int} (h0 : 0 < l.length) : orC (g1 maxD) h [.lst (l.map .int)] = some (.sh (.int (maxI l))) := by
  refine orC_1 ?_
  show (dInts (l.map .int)).bind _ = _
  rw [dInts_map]
  show (if 0 < l.length then _ else _) = _
  rw [if_pos h0]
theorem maxI_ge : ∀ {l : List Int} {y : Int}, y ∈ l → y ≤ maxI l
  | a :: l, y, h => by
    obtain ⟨_, h2, h3⟩ := foldl_max_mem l a
    show y ≤ l.foldl max a
    rcases List.mem_cons.mp h with e | h
    · omega
    · exact h3 y h
theorem maxI_mem : ∀ {l : List Int}, l ≠ [] → maxI l ∈ l
  | [], h => absurd rfl h
  | a :: l, _ => by
    obtain ⟨h1, _, _⟩ := foldl_max_mem l a
    show l.foldl max a ∈ a :: l
    rcases h1 with e | h1
    · rw [e]; exact List.mem_cons_self
    · exact List.mem_cons_of_mem _ h1
theorem minL_map {h : List D → Option Val} {l : List Int} (h0 : 0 < l.length) : orC (g1 minD) h [.lst (l.map .int)] = some (.sh (.int (minI l))) := by
  refine orC_1 ?_
  show (dInts (l.map .int)).bind _ = _
  rw [dInts_map]
  show (if 0 < l.length then _ else _) = _
  rw [if_pos h0]
@[simp] theorem minT3 {i j k : Int} : orC (g1 minD) (g1 minTD) [.tup [.int i, .int j, .int k]] = some (.sh (.int (min i (min j k)))) := by rw [← Int.min_assoc]; rfl
@[simp] theorem maxT3 {i j k : Int} : orC (g1 maxD) (g1 maxTD) [.tup [.int i, .int j, .int k]] = some (.sh (.int (max i (max j k)))) := by rw [← Int.max_assoc]; rfl
theorem sumL_map {l : List Int} : sumD (.lst (l.map .int)) = some (.sh (.int l.sum)) := by
  show (dInts (l.map .int)).bind _ = _
  rw [dInts_map]; rfl
theorem dBls_map (l : List Bool) : dBls (l.map .bl) = some l := by
  induction l with
  | nil => rfl
  | cons a l ih => rw [List.map_cons, dBls, ih]; rfl
theorem allL_map {l : List Bool} : allD (.lst (l.map .bl)) = some (.sh (.bl (l.all fun b => b))) := by
  show (dBls (l.map .bl)).bind _ = _
  rw [dBls_map]; rfl
theorem anyL_map {l : List Bool} : anyD (.lst (l.map .bl)) = some (.sh (.bl (l.any fun b => b))) := by
  show (dBls (l.map .bl)).bind _ = _
  rw [dBls_map]; rfl
@[simp] theorem lenD_scr {ns : List Int} : lenD (scrI ns) = some (.sh (.int ns.length)) := by unfold scrI; simp
theorem ixD_scr {ns : List Int} {k : Int} (h : 0 ≤ k) (h1 : k < (ns.length : Int)) : ixD (scrI ns) (.int k) = some (.sh (.int (cellI ns k))) := by
  unfold scrI
  rw [ixD_s h, List.getElem?_map, cellI_get h1 h]; rfl
theorem euclid_nn {t : DEnv → R Bool} {s : DEnv → Fl} {is : List Nat} (st : Int → Int → DEnv) (ht : ∀ a b, t (st a b) = .ok (decide (b ≠ 0)) (st a b))
    (hs : ∀ a b, b ≠ 0 → flp (s (st a b)) (fun ρ2 => .nx (forget is ρ2)) (fun _ => .bad) = .nx (st b (a.fmod b))) (a b : Int) (ρ : DEnv) (h0 : forget is ρ = st a b) (ha : 0 ≤ a) (hb : 0 ≤ b) : sWhile t s is ρ = .nx (st (Int.gcd a b) 0) := by
  obtain ⟨⟨g, k⟩, ⟨h1, h4, h5⟩, h2, h3⟩ := while_done (α := Int × Int) (t := t) (s := s) (is := is) (fun z => st z.1 z.2) (fun z => (z.2, z.1.fmod z.2)) (fun z => decide (z.2 ≠ 0)) (fun z => z.2.natAbs) (fun z => Int.gcd z.1 z.2 = Int.gcd a b ∧ 0 ≤ z.1 ∧ 0 ≤ z.2) (fun z _ => ht z.1 z.2)
    (fun z hz hc => ⟨⟨by rw [← hz.1]; exact gcd_fmod _ _, hz.2.2, Int.fmod_nonneg hz.2.1 hz.2.2⟩, natAbs_fmod_lt _ _ (by simpa using hc), hs z.1 z.2 (by simpa using hc)⟩) (a, b) ρ h0 ⟨rfl, ha, hb⟩
  have hk : k = 0 := by simpa using h2
  subst hk
  have e : g = (Int.gcd a b : Int) := by
    simp at h1 h4
    omega
  rw [h3, e]
theorem mem_rangeC' {i j c : Int} (hc : 0 < c) {d : D} (h : d ∈ rangeC i c (Builtin.Range.rangeSize i j c).toNat) : ∃ x : Int, d = .int x ∧ i ≤ x ∧ x < j := by
  unfold rangeC at h
  simp only [List.mem_map, List.mem_range] at h
  obtain ⟨k, h, rfl⟩ := h
  unfold Builtin.Range.rangeSize at h
  rw [if_pos hc] at h
  split at h
  · have h1 : (k : Int) ≤ (j - i - 1) / c := by omega
    have h2 : (k : Int) * c ≤ (j - i - 1) / c * c := Int.mul_le_mul_of_nonneg_right h1 (by omega)
    have h3 := Int.ediv_mul_le (j - i - 1) (show c ≠ 0 by omega)
    have h4 : 0 ≤ (k : Int) * c := Int.mul_nonneg (by omega) (by omega)
    exact ⟨_, rfl, by omega, by omega⟩
  · omega
theorem rangeC_len {i c : Int} {n : Nat} : (rangeC i c n).length = n := by simp [rangeC]
theorem mem_rangeC {i c : Int} {n : Nat} {d : D} : d ∈ rangeC i c n ↔ ∃ k : Nat, k < n ∧ d = .int (i + k * c) := by
  unfold rangeC
  simp only [List.mem_map, List.mem_range]
  exact ⟨fun ⟨k, h, e⟩ => ⟨k, h, e.symm⟩, fun ⟨k, h, e⟩ => ⟨k, h, e.symm⟩⟩
theorem rng3_int {i j c : Int} (h : rngOk i j c) : rng3 [.int i, .int j, .int c] = some (rangeC i c (Builtin.Range.rangeSize i j c).toNat) := by
  have e : rng3 [.int i, .int j, .int c] = if rngOk i j c then some (rangeC i c (Builtin.Range.rangeSize i j c).toNat) else none := rfl
  rw [e, if_pos h]
theorem mem_rangeL {i : Int} {n : Nat} {d : D} : d ∈ rangeL i n ↔ ∃ k : Nat, k < n ∧ d = .int (i + k) := by
  unfold rangeL
  simp only [List.mem_map, List.mem_range]
  exact ⟨fun ⟨k, h, e⟩ => ⟨k, h, e.symm⟩, fun ⟨k, h, e⟩ => ⟨k, h, e.symm⟩⟩
/-! instances -/
def mtR (r : R Val) (k : Val → DEnv → R Val) : R Val := match r with
  | .ok x ρ => k x ρ
  | _ => .bad
@[simp] theorem mtR_ok {x : Val} {ρ : DEnv} {k : Val → DEnv → R Val} : mtR (.ok x ρ) k = k x ρ := id rfl
def mtO (o : Option (List D → CR)) (k : (List D → CR) → R Val) : R Val := match o with
  | some φ => k φ
  | none => .bad
@[simp] theorem mtO_s {φ : List D → CR} {k : (List D → CR) → R Val} : mtO (some φ) k = k φ := id rfl
@[simp] theorem sMeth_ap {tab : List (Addr × (List D → CR))} {m : Str} {n : Nat} {fo : DEnv → R Val} {fs : DEnv → R (List Val)} {ρ : DEnv} : sMeth tab m n fo fs ρ = mtR (fo ρ) fun x ρ1 => mtO (methD tab m x.fz) fun φ => (fs ρ1).bind fun ys ρ2 => if ys.length + 1 = n then crM (φ (x.fz :: fzs ys)) ρ2 else .bad := id rfl
@[simp] theorem crM_r {y : Val} {ρ : DEnv} : crM (.ret y) ρ = .ok y ρ := id rfl
theorem methD_ins {tab : List (Addr × (List D → CR))} {m : Str} {C : Addr} {ns : List Str} {ds : List D} : methD tab m (.ins C ns ds) = if m ∈ ns then none else tab.lookup C := id rfl
theorem fldD_ins {Cs : List Addr} {f : Str} {C : Addr} {ns : List Str} {ds : List D} : fldD Cs f (.ins C ns ds) = if C ∈ Cs then ((ns.zip ds).lookup f).map .sh else none := id rfl
@[simp] theorem sMake_ap {C : Addr} {φ : List D → Option (List Str × List D)} {n : Nat} {fs : DEnv → R (List Val)} {ρ : DEnv} : sMake C φ n fs ρ = (fs ρ).bind fun ys ρ1 => if ys.length = n then liftO ((φ (fzs ys)).map fun p => .sh (.ins C p.1 p.2)) ρ1 else .bad := id rfl
def runK (r : R Val) (k : Val → DEnv → Option (List Str × List D)) : Option (List Str × List D) := match r with
  | .ok y ρ => k y ρ
  | _ => none
@[simp] theorem runK_ok {x : Val} {ρ : DEnv} {k : Val → DEnv → Option (List Str × List D)} : runK (.ok x ρ) k = k x ρ := id rfl
theorem runInit_cons {f : Str} {fe : DEnv → R Val} {r : List (Str × (DEnv → R Val))} {ρ : DEnv} {ns : List Str} {ds : List D} : runInit ((f, fe) :: r) ρ ns ds = if f ∈ ns then none else runK (fe ρ) fun y ρ1 => runInit r ρ1 (ns ++ [f]) (ds ++ [y.fz]) := id rfl
theorem runInit_nil {ρ : DEnv} {ns : List Str} {ds : List D} : runInit [] ρ ns ds = some (ns, ds) := id rfl
theorem isiC_ins {tab : List (Addr × Bool)} {C : Addr} {ns : List Str} {ds : List D} : isiC tab (.ins C ns ds) = (tab.lookup C).map fun b => .sh (.bl b) := id rfl
theorem loop_turn {g : D → DEnv → Option DEnv} {t : DEnv → Fl} {is : List Nat} {d : D} {ds : List D} {ρ ρ' : DEnv} (h : (lpK (g d ρ) fun ρ1 => flp (t ρ1) (fun ρ2 => .nx (forget is ρ2)) fun _ => .bad) = .nx ρ') : loop g t is (d :: ds) ρ = loop g t is ds ρ' := by
  rw [loop_cons]
  cases e : g d ρ with
  | none => rw [e] at h; cases h
  | some ρ1 =>
    rw [e] at h
    rw [lpK_s] at h ⊢
    cases e2 : t ρ1 with
    | nx ρ2 => rw [e2] at h; rw [flp_nx] at h ⊢; cases h; rfl
    | ct ρ2 => rw [e2] at h; rw [flp_ct] at h ⊢; cases h; rfl
    | bk ρ2 => rw [e2] at h; cases h
    | rt x ρ2 => rw [e2] at h; cases h
    | exc x ρ2 => rw [e2] at h; cases h
    | bad => rw [e2] at h; cases h
section
variable {g : D → DEnv → Option DEnv} {t : DEnv → R Bool} {f : DEnv → R Val} {ρ : DEnv}
theorem comp_filA {α : Type} {is : List Nat} (φ F : α → D) (p : α → Bool) : ∀ (l : List α) (acc : List Val), (∀ a, a ∈ l → ∃ ρ1 ρ2, g (φ a) ρ = some ρ1 ∧ t ρ1 = .ok (p a) ρ2 ∧ (p a = false → forget is ρ2 = ρ) ∧ (p a = true → ∃ ρ3, f ρ2 = .ok (.sh (F a)) ρ3 ∧ forget is ρ3 = ρ)) → comp g t f is (l.map φ) acc ρ = .ok (.lst (acc ++ ((l.filter p).map F).map .sh)) ρ
  | [], acc, _ => by simp [comp]
  | a :: l, acc, h => by
    obtain ⟨ρ1, ρ2, e1, e2, e3, e4⟩ := h a List.mem_cons_self
    rw [List.map_cons, comp]
    simp only [e1, e2]
    cases hp : p a with
    | false =>
      simp only [e3 hp]
      rw [comp_filA φ F p l acc fun b hb => h b (List.mem_cons_of_mem _ hb)]
      simp [hp]
    | true =>
      obtain ⟨ρ3, e5, e6⟩ := e4 hp
      simp only [e5, e6]
      rw [comp_filA φ F p l _ fun b hb => h b (List.mem_cons_of_mem _ hb)]
      simp [hp]
end
@[simp] theorem g3_int {i j k : Int} : g3 max3D [.int i, .int j, .int k] = some (.sh (.int (max i (max j k)))) := id rfl
def clrV (o : Option Val) (n : Nat) (ρ : DEnv) : Fl := match o with
  | some (.lst _) => .nx (ρ.set n (some (.lst [])))
  | _ => .bad
@[simp] theorem sClear_ap {n : Nat} {ρ : DEnv} : sClear n ρ = clrV (getV ρ[n]?) n ρ := id rfl
@[simp] theorem clrV_l {xs : List Val} {n : Nat} {ρ : DEnv} : clrV (some (.lst xs)) n ρ = .nx (ρ.set n (some (.lst []))) := id rfl
@[simp] theorem maxT2 {i j : Int} : orC (g1 maxD) (g1 maxTD) [.tup [.int i, .int j]] = some (.sh (.int (max i j))) := rfl
/-! paths -/
def pthF (o : Option Val) (i : Nat) (ρ : DEnv) : Fl := match o with
  | some x => .nx (ρ.set i (some x))
  | none => .bad
@[simp] theorem pthF_s {x : Val} {i : Nat} {ρ : DEnv} : pthF (some x) i ρ = .nx (ρ.set i (some x)) := id rfl
@[simp] theorem sClrP_ap {i : Nat} {js : List Int} {ρ : DEnv} : sClrP i js ρ = pthF ((getV ρ[i]?).bind (editA clrE js)) i ρ := by
  unfold sClrP
  cases e : getV ρ[i]? with
  | none => rfl
  | some x =>
    show (match editA clrE js x with
      | some x' => Fl.nx (ρ.set i (some x'))
      | none => .bad) = pthF (editA clrE js x) i ρ
    cases editA clrE js x <;> rfl
@[simp] theorem sAppP_ap {i : Nat} {js : List Int} {fy : DEnv → Option Val} {ρ : DEnv} : sAppP i js fy ρ = pthF ((getV ρ[i]?).bind fun x => (fy (ρ.set i none)).bind fun y => editA (appE y) js x) i ρ := by
  unfold sAppP
  cases e : getV ρ[i]? with
  | none => rfl
  | some x =>
    show (match fy (ρ.set i none) with
      | none => Fl.bad
      | some y => match editA (appE y) js x with
        | some x' => Fl.nx (ρ.set i (some x'))
        | none => .bad) = pthF ((fy (ρ.set i none)).bind fun y => editA (appE y) js x) i ρ
    cases e2 : fy (ρ.set i none) with
    | none => rfl
    | some y =>
      show (match editA (appE y) js x with
        | some x' => Fl.nx (ρ.set i (some x'))
        | none => .bad) = pthF (editA (appE y) js x) i ρ
      cases editA (appE y) js x <;> rfl
@[simp] theorem yC_ap {d : D} {ρ : DEnv} : yC d ρ = some (.sh d) := id rfl
@[simp] theorem yNl_ap {ρ : DEnv} : yNl ρ = some (.lst []) := id rfl
def yIxO (o : Option Val) (n : Int) : Option Val := match o with
  | some (.sh (.lst ds)) => ((ixN ds.length n).bind fun k => ds[k]?).map .sh
  | some (.lst ys) => (ixN ys.length n).bind fun k => shV1 ys[k]?
  | _ => none
@[simp] theorem yIx_ap {j : Nat} {n : Int} {ρ : DEnv} : yIx j n ρ = yIxO (getV ρ[j]?) n := id rfl
@[simp] theorem yIxO_sh {ds : List D} {n : Int} : yIxO (some (.sh (.lst ds))) n = ((ixN ds.length n).bind fun k => ds[k]?).map .sh := id rfl
@[simp] theorem yIxO_l {ys : List Val} {n : Int} : yIxO (some (.lst ys)) n = (ixN ys.length n).bind fun k => shV1 ys[k]? := id rfl
@[simp] theorem shV1_s {d : D} : shV1 (some (.sh d)) = some (.sh d) := id rfl
end DL

/-! DLt: reckoning with what stands in DLp and behind. -/
namespace DL
open PySem PySem.Spec L2
section
variable {fs : DEnv → R (List Val)} {fe : DEnv → R Val} {ρ : DEnv} {n : Nat} {φ : List D → CR} {dd xs ys : List D}
@[simp] theorem sCallD_ap : sCallD φ n dd fs ρ = (fs ρ).bind fun ys ρ1 => if ys.length + dd.length = n then crR (φ (fzs ys ++ dd)) ρ1 else .bad := id rfl
@[simp] theorem sCallK_ap : sCallK φ n fs fe ρ = (fs ρ).bind fun ys ρ1 => (fe ρ1).bind fun x ρ2 => if ys.length + 1 = n then crM (φ (fzs (ys ++ [x]))) ρ2 else .bad := id rfl
@[simp] theorem sZip_ap : sZip fs ρ = (fs ρ).bind fun xs ρ1 => liftL (zipD (fzs xs)) ρ1 := id rfl
@[simp] theorem sEnumerate_ap : sEnumerate fs ρ = (fs ρ).bind fun xs ρ1 => liftL (enumD (fzs xs)) ρ1 := id rfl
@[simp] theorem zipD_ll : zipD [.lst xs, .lst ys] = some (zipL xs ys) := id rfl
@[simp] theorem enumD_l : enumD [.lst xs] = some (enumL xs) := id rfl
@[simp] theorem ltTD_2 {i j k l : Int} : ltTD (.tup [.int i, .int j]) (.tup [.int k, .int l]) = some (.sh (.bl (if i = k then decide (j < l) else decide (i < k)))) := by
  have e : ltTD (.tup [.int i, .int j]) (.tup [.int k, .int l]) = some (.sh (.bl (HT.lexLt [i, j] [k, l]))) := rfl
  rw [e, HT.lexLt_cons, HT.lexLt_cons, HT.lexLt_nil_nil]
  by_cases h : i = k
  · rw [if_pos h, if_pos h]
    by_cases h2 : j = l
    · rw [if_pos h2, decide_eq_false (by omega)]
    · rw [if_neg h2]
  · rw [if_neg h, if_neg h]
end
theorem loop_one {g : D → DEnv → Option DEnv} {s : DEnv → Fl} {is : List Nat} {d : D} {ds : List D} {ρ ρ' : DEnv} (h : (lpK (g d ρ) fun ρ1 => flp (s ρ1) (fun ρ2 => .nx (forget is ρ2)) fun _ => .bad) = .nx ρ') : loop g s is (d :: ds) ρ = loop g s is ds ρ' := by
  rw [loop]
  cases e : g d ρ with
  | none => rw [e] at h; cases h
  | some ρ1 =>
    rw [e] at h
    have h : flp (s ρ1) (fun ρ2 => .nx (forget is ρ2)) (fun _ => .bad) = .nx ρ' := h
    cases e2 : s ρ1 with
    | nx ρ2 => rw [e2] at h; cases h; simp only [e2]
    | ct ρ2 => rw [e2] at h; cases h; simp only [e2]
    | bk ρ2 => rw [e2] at h; cases h
    | rt x ρ2 => rw [e2] at h; cases h
    | exc x ρ2 => rw [e2] at h; cases h
    | bad => rw [e2] at h; cases h
theorem comp_mapV {α : Type} {g : D → DEnv → Option DEnv} {f : DEnv → R Val} {ρ : DEnv} {is : List Nat} (φ : α → D) (F : α → Val) : ∀ (l : List α) (acc : List Val), (∀ a, a ∈ l → (lpR (g (φ a) ρ) fun ρ1 => (f ρ1).bind fun x ρ2 => .ok x (forget is ρ2)) = .ok (F a) ρ) → comp g sYes f is (l.map φ) acc ρ = .ok (.lst (acc ++ l.map F)) ρ
  | [], acc, _ => by simp [comp]
  | a :: l, acc, h => by
    have e := h a List.mem_cons_self
    have ih := comp_mapV φ F l (acc ++ [F a]) fun b hb => h b (List.mem_cons_of_mem _ hb)
    rw [List.map_cons, comp]
    cases e1 : g (φ a) ρ with
    | none => rw [e1] at e; cases e
    | some ρ1 =>
      rw [e1] at e
      simp only [lpR_s] at e
      simp only [sYes_ap]
      cases e2 : f ρ1 with
      | bad => rw [e2] at e; cases e
      | exc _ _ => rw [e2] at e; cases e
      | ok x ρ2 =>
        rw [e2] at e
        simp only [R.bind_ok, R.ok.injEq] at e
        simp only [e.1, e.2]
        rw [ih]
        simp
end DL

namespace DL
open PySem PySem.Spec L2
/-! x += e, x.extend(e), x.index(e) -/
section
variable {X : Cx} {e : Expr} {f : DEnv → R Val} {i : Nat} {x : Str} {pos pos' apos p q : Pos}
def augN (i : Nat) (a : Int) (y : Val) (ρ : DEnv) : Fl := match y with
  | .sh (.int b) => if i < ρ.length then .nx (ρ.set i (some (.sh (.int (a + b))))) else .bad
  | _ => .bad
def sAug (i : Nat) (f : DEnv → R Val) : DEnv → Fl := fun ρ => match getV ρ[i]? with
  | some (.sh (.int a)) => (f ρ).fl fun y ρ1 => augN i a y ρ1
  | _ => .bad
theorem ds_aug (hN : X.N.Nodup) (hi : X.N[i]? = some x) (hx : Loc X.env.scope x) (he : DE X e f) (hf : X.fn x = true ∨ X.env.scope.names.lookup x = some .local := by first | exact .inl rfl | exact .inr rfl | assumption) :
    DS X (.AugAssign (.Name x pos') .Add e pos) (sAug i f) :=
  PS.imp (ps_aug hN hi hx he ip_add hf) fun D σ H ⟨F0, H0, ρ, vs, xs, s, q⟩ => by
    unfold sAug at q
    match e0 : getV ρ[i]?, q with
    | some (.sh (.int a)), q =>
      obtain ⟨v, k0, F, g, hF, ho, _⟩ := s.peek (getV_some e0)
      cases ho with
      | sh at_ =>
        cases at_
        refine ⟨_, k0, F0, H0, ρ, vs, xs, s, (post_fl q).imp (fun y ρ1 q1 H1 w s1 => ?_) fun _ _ z => z⟩
        match y, s1, q1 with
        | .sh (.int b), s1, q1 =>
          have q1 : fpost X F0 H0 vs xs D (if i < ρ1.length then .nx (ρ1.set i (some (.sh (.int (a + b))))) else .bad) := q1
          split at q1
          · rename_i hz
            obtain ⟨F', _, ak, _⟩ := s1.oneT
            cases ak
            exact ⟨a, b, rfl, rfl, q1 _ _ ((s1.pop.scal (v := .int (a + b)) (d := .int (a + b)) fun _ => .int _).store hz)⟩
          · exact q1.elim
theorem Stt.unlist {K : PySem.W.Frag} {F0 H0 H : Hp} {σ : L2.St} {ρ : DEnv} {v : V} {vs : List V} {ys xs : List Val} (h : Stt K F0 H0 H σ ρ (v :: vs) (.lst ys :: xs)) : ∃ b zs, v = .ref b ∧ H b = some (.lst zs) ∧ zs.length = ys.length ∧ Stt K F0 H0 H σ ρ (zs ++ vs) (ys ++ xs) := by
  obtain ⟨F, f, g, h1, h2, h3, h4, h5, h6, h7, h8⟩ := h
  cases h6 with
  | cons a t =>
    rename_i g1 g2
    cases a with
    | lst k1 k2 k3 =>
      rename_i b zs g3
      obtain ⟨g4, a1, a2, _⟩ := k3.append t
      have s : Sb (g4 ++ f) (((b :: g3) ++ g2) ++ f) := Sb.app (a2.trans (Sb.app (Sb.right [b] g3) (.refl g2))) (.refl f)
      exact ⟨b, zs, rfl, k2, Owns.length k3, F, f, g4, h1, h2, h3, h4, h5, a1, s.2 h7, fun c hc => h8 c (s.1 c hc)⟩
def extN (i : Nat) (y : Val) (ρ : DEnv) : Fl := match y, getV ρ[i]? with
  | .lst ys, some (.lst xs) => if xs.length + ys.length < 10000000 then .nx (ρ.set i (some (.lst (xs ++ ys)))) else .bad
  | _, _ => .bad
def sExt (i : Nat) (f : DEnv → R Val) : DEnv → Fl := fun ρ => match getV ρ[i]? with
  | some (.lst _) => (f ρ).fl fun y ρ1 => extN i y ρ1
  | _ => .bad
theorem ds_ext (hb : PE X (.Call (.Attribute (.Name x q) "extend" apos) [e] [] p) (tBM X.K "list" rExtend (tVar i) (tCons (tE X f) tNil)))
    (hs : swapsWith (.Call (.Attribute (.Name x q) "extend" apos) [e] [] p) none pos.line X.env = pure false := by rfl) :
    DS X (.Expr (.Call (.Attribute (.Name x q) "extend" apos) [e] [] p) pos) (sExt i f) :=
  PS.imp (ps_expr hb hs) fun D σ H ⟨F0, H0, ρ, vs, xs, s, q⟩ => by
    unfold sExt at q
    match e0 : getV ρ[i]?, q with
    | some (.lst xs0), q =>
      obtain ⟨v, k0, F, g, hF, ho, _⟩ := s.peek (getV_some e0)
      cases ho with
      | @lst pp us zs ff h1 h2 h3 =>
        refine ⟨_, k0, .inl ⟨rfl, us, .of h2⟩, F0, H0, ρ, vs, xs, s, (post_fl q).imp (fun y ρ1 q1 H1 w s1 => ?_) fun _ _ z => z⟩
        unfold extN at q1
        match y, e1 : getV ρ1[i]?, s1, q1 with
        | .lst ys, some (.lst xs1), s1, q1 =>
          have q1 : fpost X F0 H0 vs xs D (if xs1.length + ys.length < 10000000 then .nx (ρ1.set i (some (.lst (xs1 ++ ys)))) else .bad) := q1
          split at q1
          · rename_i hz
            obtain ⟨b, zs1, rfl, hb1, hlz, s2⟩ := s1.unlist
            obtain ⟨p1, ws, c1, c2, c3, c4⟩ := Stt.edit (as := zs1) (bs := ys) hlz s2 (getV_some e1)
            have ep : p1 = pp := by rw [k0] at c1; cases c1; rfl
            subst ep
            refine ⟨p1, b, ws, zs1, rfl, rfl, c2, hb1, by rw [c3, hlz, sizeLine_eq]; omega, q1 σ _ ?_⟩
            exact c4 (ws ++ zs1) (xs1 ++ ys) [] [] fun F H f hO => ⟨f, [], hO, .nil, by rw [List.append_nil]; exact .refl f⟩
          · exact q1.elim
end
def idxL (ys : List D) (e : D) : Option Val := if e.ok 20 && ys.all (D.ok 19) && e.py.canLay0 && PyData.canLayAll0 (pys ys) then (ys.findIdx? fun y => y.eqv e).map fun j => .sh (.int (j : Nat)) else none
def lstD : D → Option (List D)
  | .lst ys => some ys
  | _ => none
def sIdx (fa fb : DEnv → R Val) : DEnv → R Val := fun ρ => (fa ρ).bind fun x ρ1 => match lstD x.fz with
  | some ys => (fb ρ1).bind fun y ρ2 => liftO (idxL ys y.fz) ρ2
  | none => .bad
theorem lstD_some {d : D} {ys : List D} (h : lstD d = some ys) : d = .lst ys := by
  cases d <;> simp only [lstD] at h <;> cases h
  rfl
section
variable {X : Cx} {a b : Expr} {fa fb : DEnv → R Val} {pos apos p : Pos}
theorem shaped_of {d : PyData} (h1 : d.canLay0 = true) (h2 : d.depth ≤ 64) : PySem.SeqAt.shaped d = true := by
  show (d.canLay0 && decide (d.depth ≤ 64)) = true
  rw [Bool.and_eq_true]
  exact ⟨h1, decide_eq_true h2⟩
theorem canAll {ys : List D} : PyData.canLayAll0 (pys ys) = true → PyData.canLay0 (.list (pys ys)) = true := fun h => by simp only [PyData.canLay0]; exact h
theorem room65 {k : Nat} {A : Around} (r : Room k A) : A.units + 65 < cLine := by have := r.un; omega
theorem idx_first {p : D → Bool} {ys : List D} {j : Nat} (h : ys.findIdx? p = some j) : ∃ hj : j < ys.length, p ys[j] = true ∧ ∀ m (hm : m < j), p (ys[m]'(Nat.lt_trans hm hj)) = false := by
  rw [List.findIdx?_eq_some_iff_getElem] at h
  obtain ⟨h1, h2, h3⟩ := h
  exact ⟨h1, h2, fun m hm => by simpa using h3 m hm⟩
theorem de_index (h : PE X (.Call (.Attribute a "index" apos) [b] [] p) (tBM X.K "list" (rIndexD X.K) (tE X fa) (tCons (tE X fb) tNil))) :
    DE X (.Call (.Attribute a "index" apos) [b] [] p) (sIdx fa fb) :=
  PE.imp h fun σ H Q ⟨F0, H0, ρ, vs, xs, s, q⟩ => by
    refine ⟨F0, H0, ρ, vs, xs, s, (post_bind q).imp (fun x ρ1 q1 H1 v s1 => ?_) fun _ _ z => z⟩
    cases e1 : lstD x.fz with
    | none => rw [e1] at q1; exact q1.elim
    | some ys =>
      rw [e1] at q1
      have s1 := s1.fz
      rw [lstD_some e1] at s1
      have tl : ∃ a us, v = .ref a ∧ SqL X.K H1 a us := by
        obtain ⟨F, hF, a, t⟩ := s1.oneT
        cases a with
        | lst h1 h2 => exact ⟨_, _, rfl, hF.seq (K := X.K) (.of h1)⟩
      obtain ⟨la, us, rfl, hl⟩ := tl
      refine ⟨.inl ⟨rfl, us, hl⟩, F0, H0, ρ1, _, _, s1, (post_bind q1).imp (fun y ρ2 q2 H2 w s2 => ?_) fun _ _ z => z.more⟩
      unfold idxL at q2
      split at q2
      · rename_i hc
        simp only [Bool.and_eq_true] at hc
        obtain ⟨⟨⟨c1, c2⟩, c3⟩, c4⟩ := hc
        cases e2 : ys.findIdx? fun z => z.eqv y.fz with
        | none => rw [e2] at q2; exact q2.elim
        | some j =>
          rw [e2] at q2
          obtain ⟨hj, f1, f2⟩ := idx_first e2
          have s3 := s2.fz2
          rw [Val.fz] at s3
          obtain ⟨F, hF, a, b, t⟩ := s3.two
          have k : D.ok 20 (.lst ys) = true := c2
          obtain ⟨p1, p2⟩ := py_ok _ _ c1
          obtain ⟨p3, p4⟩ := py_ok _ _ k
          have hd := at_dp hF _ _ _ k a
          rw [D.py] at hd p4
          refine ⟨la, w, _, _, j, ys[j].py, rfl, rfl, hd, at_dp hF _ _ _ c1 b, shaped_of (canAll c4) (by omega), shaped_of c3 (by omega), ?_, f1, fun m z' hm hz => ?_, q2 H2 _ (s3.pop.pop.scal fun F => .int _)⟩
          · rw [pys_map, List.getElem?_map, List.getElem?_eq_getElem hj]; rfl
          · rw [pys_map, List.getElem?_map, List.getElem?_eq_getElem (Nat.lt_trans hm hj)] at hz
            cases hz
            exact f2 m hm
      · exact q2.elim
end
/-! zip of two lists or of two tuples -/
theorem walk_zipT {K : PySem.W.Frag} {F0 : Hp} {a b : Addr} {us ws : List V} {ds es : List D} (h1 : TupAt K F0 a us) (k1 : Ats K F0 us ds) (h2 : TupAt K F0 b ws) (k2 : Ats K F0 ws es) : Walk K F0 (RZ.ItzT K a b) (zipL ds es) := fun i H hF => by
  refine ⟨fun d e => ?_, fun hi => ?_⟩
  · obtain ⟨x, y, e1, e2, rfl⟩ := zipL_get e
    obtain ⟨p, f1, g1⟩ := k1.get e1
    obtain ⟨q, f2, g2⟩ := k2.get e2
    refine ⟨⟨us, ws, p, q, sameT hF h1, sameT hF h2, f1, f2⟩, fun z H' hy H0 σ ρ vs xs s => ?_⟩
    obtain ⟨T, x', y', rfl, nT, rfl, c1, c2⟩ := hy
    have ex := Option.some.inj ((c1 us (sameT hF h1)).symm.trans f1)
    have ey := Option.some.inj ((c2 ws (sameT hF h2)).symm.trans f2)
    subst ex
    subst ey
    exact Stt.newTup (as := [_, _]) (ds := [x, y]) rfl ((s.push0 g2).push0 g1) nT
  · rw [zipL_len] at hi
    refine ⟨us, ws, sameT hF h1, sameT hF h2, ?_⟩
    rw [k1.length, k2.length]
    omega
def zipAD : List D → Option (List D)
  | [.lst xs, .lst ys] => some (zipL xs ys)
  | [.tup xs, .tup ys] => some (zipL xs ys)
  | _ => none
def sZipA (f : DEnv → R (List Val)) : DEnv → R (List D) := sRange zipAD f
theorem zipAD_some {ds l : List D} (h : zipAD ds = some l) : ∃ xs ys, (ds = [.lst xs, .lst ys] ∨ ds = [.tup xs, .tup ys]) ∧ l = zipL xs ys := by
  unfold zipAD at h
  split at h
  · exact ⟨_, _, .inl rfl, (Option.some.inj h).symm⟩
  · exact ⟨_, _, .inr rfl, (Option.some.inj h).symm⟩
  · cases h
section
variable {X : Cx} {a b : Expr} {f : DEnv → R (List Val)} {p pos tpos : Pos} {elts : List Expr} {kk : Nat}
theorem di_zipA (hg : Gl X "zip") (hm : X.mg "zip" = none) (ha : DA X [a, b] f)
    (hs : starEach [a, b] X.env = (false, eval a X.env) :: starEach [b] X.env := by rfl) (hpl : (backTo pos (starEach [b] X.env)).any (·.1) = false := by rfl) : DI X (.Tuple elts kk tpos) (.Call (.Name "zip" p) [a, b] [] pos) (sZipA f) :=
  PI.imp (RZ.pi_zipA hg hm ha hs hpl) fun σ H RR ⟨F0, H0, ρ, vs, xs, s, q⟩ => by
    refine ⟨F0, H0, ρ, vs, xs, s, (post_bind q).imp (fun ys ρ1 q1 H1 ws hl s1 => ?_) fun _ _ z => z⟩
    obtain ⟨hl2, s2⟩ := s1.fzsP hl
    obtain ⟨F, hF, hA, s3, rb⟩ := Stt.rebaseAt hl2 s2
    cases e : zipAD (fzs ys) with
    | none => rw [e] at q1; exact q1.elim
    | some ds =>
      rw [e] at q1
      obtain ⟨x1, x2, ej, rfl⟩ := zipAD_some e
      rcases ej with ej | ej
      · rw [ej] at hA
        match ws, hA with
        | [_, _], .cons (.lst (vs := u1) h1 k1) (.cons (.lst (vs := u2) h2 k2) .nil) =>
          exact ⟨_, _, u1, u2, rfl, .inl ⟨hF.seq (.of h1), hF.seq (.of h2), q1 F H1 _ s3 rb (walk_zip (.of h1) k1 (.of h2) k2)⟩⟩
      · rw [ej] at hA
        match ws, hA with
        | [_, _], .cons (.tup (vs := u1) h1 k1) (.cons (.tup (vs := u2) h2 k2) .nil) =>
          exact ⟨_, _, u1, u2, rfl, .inr ⟨sameT hF h1, sameT hF h2, q1 F H1 _ s3 rb (walk_zipT h1 k1 h2 k2)⟩⟩
end
/-! ### reckoning -/
def agO (o : Option Val) (k : Int → Fl) : Fl := match o with
  | some (.sh (.int a)) => k a
  | _ => .bad
@[simp] theorem agO_s {a : Int} {k : Int → Fl} : agO (some (.sh (.int a))) k = k a := id rfl
@[simp] theorem sAug_ap {i : Nat} {f : DEnv → R Val} {ρ : DEnv} : sAug i f ρ = agO (getV ρ[i]?) fun a => (f ρ).fl fun y ρ1 => augN i a y ρ1 := by
  unfold sAug agO
  split <;> rfl
@[simp] theorem augN_s {i : Nat} {a b : Int} {ρ : DEnv} : augN i a (.sh (.int b)) ρ = if i < ρ.length then .nx (ρ.set i (some (.sh (.int (a + b))))) else .bad := id rfl
def exO (o : Option Val) (k : Fl) : Fl := match o with
  | some (.lst _) => k
  | _ => .bad
@[simp] theorem exO_s {xs : List Val} {k : Fl} : exO (some (.lst xs)) k = k := id rfl
@[simp] theorem sExt_ap {i : Nat} {f : DEnv → R Val} {ρ : DEnv} : sExt i f ρ = exO (getV ρ[i]?) ((f ρ).fl fun y ρ1 => extN i y ρ1) := by
  unfold sExt exO
  split <;> rfl
def exT (i : Nat) (ys : List Val) (o : Option Val) (ρ : DEnv) : Fl := match o with
  | some (.lst xs) => if xs.length + ys.length < 10000000 then .nx (ρ.set i (some (.lst (xs ++ ys)))) else .bad
  | _ => .bad
@[simp] theorem extN_s {i : Nat} {ys : List Val} {ρ : DEnv} : extN i (.lst ys) ρ = exT i ys (getV ρ[i]?) ρ := by
  unfold extN exT
  cases getV ρ[i]? with
  | none => rfl
  | some x => cases x <;> rfl
@[simp] theorem exT_s {i : Nat} {xs ys : List Val} {ρ : DEnv} : exT i ys (some (.lst xs)) ρ = if xs.length + ys.length < 10000000 then .nx (ρ.set i (some (.lst (xs ++ ys)))) else .bad := id rfl
def ixK (o : Option (List D)) (k : List D → R Val) : R Val := match o with
  | some ys => k ys
  | none => .bad
@[simp] theorem ixK_s {ys : List D} {k : List D → R Val} : ixK (some ys) k = k ys := id rfl
@[simp] theorem lstD_l {ys : List D} : lstD (.lst ys) = some ys := id rfl
@[simp] theorem sIdx_ap {fa fb : DEnv → R Val} {ρ : DEnv} : sIdx fa fb ρ = (fa ρ).bind fun x ρ1 => ixK (lstD x.fz) fun ys => (fb ρ1).bind fun y ρ2 => liftO (idxL ys y.fz) ρ2 := id rfl
end DL

/-! DLr: dicts of one's own: {}, k in d, d[k], d[k] = v. -/
namespace DL
open PySem PySem.Spec L2
/-! ### keys -/
def keyD : D → Option Key
  | .int i => some (.inl i)
  | .str x => some (.inr x)
  | _ => none
def keysD : List D → Option (List Key)
  | [] => some []
  | d :: r => (keyD d).bind fun k => (keysD r).map (k :: ·)
def keyOf (tk : Bool) (d : D) : Option (List Key) := if tk = true then (match d with | .tup ds => keysD ds | _ => none) else (keyD d).map fun k => [k]
def kD : Key → D
  | .inl i => .int i
  | .inr x => .str x
theorem key_at {K : PySem.W.Frag} {F : Hp} {v : V} {d : D} {k : Key} (a : At K F v d) (h : keyD d = some k) : v = kV k := by
  match d, a, h with
  | .int i, .int _, h => cases h; rfl
  | .str x, .str _, h => cases h; rfl
theorem keys_at {K : PySem.W.Frag} {F : Hp} : ∀ {ds : List D} {vs : List V} {k : List Key}, Ats K F vs ds → keysD ds = some k → vs = k.map kV
  | [], _, _, .nil, h => by cases h; rfl
  | d :: ds, _, k, .cons a t, h => by
    obtain ⟨x, e1, e2⟩ := Option.bind_eq_some_iff.mp (show (keyD d).bind (fun k => (keysD ds).map (k :: ·)) = some k from h)
    obtain ⟨y, e3, e4⟩ := Option.map_eq_some_iff.mp e2
    subst e4
    rw [key_at a e1, keys_at t e3]; rfl
def lookD : List (List Key) → List D → List Key → Option D
  | k' :: ks, d :: ds, k => if k' = k then some d else lookD ks ds k
  | _, _, _ => none
def putD : List (List Key) → List D → List Key → D → List (List Key) × List D
  | k' :: ks, d' :: ds, k, d => if k' = k then (k' :: ks, d :: ds) else (k' :: (putD ks ds k d).1, d' :: (putD ks ds k d).2)
  | _, _, k, d => ([k], [d])
section
variable {K : PySem.W.Frag} {F : Hp}
theorem look_val : ∀ {ks : List (List Key)} {vs : List V} {ds : List D} (k : List Key), ks.length = vs.length → Ats K F vs ds → (∀ d, lookD ks ds k = some d → ∃ v, valV (ks.zip vs) k = some v ∧ At K F v d) ∧ (lookD ks ds k = none → valV (ks.zip vs) k = none)
  | [], [], _, k, _, .nil => ⟨fun d h => by simp [lookD] at h, fun _ => rfl⟩
  | k' :: ks, v :: vs, d' :: ds, k, hl, .cons a t => by
    have ih := look_val (ks := ks) k (by simpa using hl) t
    unfold lookD
    by_cases e : k' = k
    · rw [if_pos e, List.zip_cons_cons, valV_pos e]
      exact ⟨fun d h => by cases h; exact ⟨v, rfl, a⟩, fun h => by cases h⟩
    · rw [if_neg e, List.zip_cons_cons, valV_neg e]
      exact ih
theorem put_cons {p : List Key × V} {r : List (List Key × V)} {k : List Key} {v : V} : putK (p :: r) k v = if p.1 = k then (if (r.any fun q => decide (q.1 = k)) = true then (p.1, v) :: r.map (fun q => if q.1 = k then (q.1, v) else q) else (p.1, v) :: r.map (fun q => if q.1 = k then (q.1, v) else q)) else p :: putK r k v := by
  unfold putK
  by_cases e : p.1 = k
  · simp [e]
  · by_cases h : (r.any fun q => decide (q.1 = k)) = true
    · simp [e, h]
    · simp [e, h]
theorem map_none {κ : Type} [DecidableEq κ] {r : List (κ × V)} {k : κ} {v : V} (h : (r.any fun q => decide (q.1 = k)) = false) : r.map (fun q => if q.1 = k then (q.1, v) else q) = r := by
  induction r with
  | nil => rfl
  | cons q r ih =>
    rw [List.any_cons, Bool.or_eq_false_iff] at h
    rw [List.map_cons, ih h.2, if_neg (by simpa using h.1)]
theorem put_val : ∀ {ks : List (List Key)} {vs : List V} {ds : List D} (k : List Key) (v : V) (d : D), ks.Nodup → ks.length = vs.length → Ats K F vs ds → At K F v d →
    ∃ vs', putK (ks.zip vs) k v = (putD ks ds k d).1.zip vs' ∧ (putD ks ds k d).1.length = vs'.length ∧ Ats K F vs' (putD ks ds k d).2 ∧ (putD ks ds k d).1.Nodup ∧ (∀ x, x ∈ (putD ks ds k d).1 ↔ x ∈ ks ∨ x = k) ∧ vs'.length ≤ vs.length + 1
  | [], [], _, k, v, d, _, _, .nil, ha => ⟨[v], rfl, rfl, .cons ha .nil, by unfold putD; simp, fun x => by unfold putD; simp, by simp⟩
  | k' :: ks, v' :: vs, d' :: ds, k, v, d, hn, hl, .cons a t, ha => by
    obtain ⟨hn1, hn2⟩ := List.nodup_cons.mp hn
    unfold putD
    by_cases e : k' = k
    · have hk : ((ks.zip vs).any fun q => decide (q.1 = k)) = false := by
        rw [List.any_eq_false]
        intro q hq
        have := (List.of_mem_zip hq).1
        simp only [decide_eq_true_eq]
        intro z
        rw [z, ← e] at this
        exact hn1 this
      simp only [e, if_true]
      refine ⟨v :: vs, ?_, by simpa using hl, .cons ha t, by rw [← e]; exact hn, fun x => ?_, by simp⟩
      · rw [List.zip_cons_cons, put_cons, map_none hk]
        simp
      · simp only [List.mem_cons]
        constructor
        · rintro (h | h)
          · exact .inr h
          · exact .inl (.inr h)
        · rintro ((h | h) | h)
          · exact .inl h
          · exact .inr h
          · exact .inl h
    · obtain ⟨vs', q1, q2, q3, q4, q5, q6⟩ := put_val (ks := ks) k v d hn2 (by simpa using hl) t ha
      simp only [e, if_false]
      refine ⟨v' :: vs', ?_, by simpa using q2, .cons a q3, List.nodup_cons.mpr ⟨fun z => ?_, q4⟩, fun x => ?_, by simpa using q6⟩
      · rw [List.zip_cons_cons, put_cons]
        simp only [e, if_false]
        rw [q1]; rfl
      · rcases (q5 k').mp z with z | z
        · exact hn1 z
        · exact e z
      · rw [List.mem_cons, q5, List.mem_cons]
        constructor
        · rintro (h | h | h)
          · exact .inl (.inl h)
          · exact .inl (.inr h)
          · exact .inr h
        · rintro ((h | h) | h)
          · exact .inl h
          · exact .inr (.inl h)
          · exact .inr (.inr h)
end
/-! ### the rules -/
def DB.new (tk : Bool) : DB := ⟨none, false, tk, []⟩
def sDNew (tk : Bool) : DEnv → R Val := fun ρ => .ok (.dic (.new tk) []) ρ
def dicIn (n : Bool) (o : Option Val) (y : D) : Option Val := match o with
  | some (.dic b ds) => (keyOf b.tk y).map fun k => .sh (.bl (n != (lookD b.ks ds k).isSome))
  | _ => none
def sDIn (n : Bool) (i : Nat) (f : DEnv → R Val) : DEnv → R Val := fun ρ => (f ρ).bind fun y ρ1 => liftO (dicIn n (getV ρ1[i]?) y.fz) ρ1
def dicGet (o : Option Val) (y : D) : Option Val := match o with
  | some (.dic b ds) => ((keyOf b.tk y).bind (lookD b.ks ds)).map .sh
  | _ => none
def sDGet (i : Nat) (f : DEnv → R Val) : DEnv → R Val := fun ρ => match getV ρ[i]? with
  | none => .bad
  | some _ => (f ρ).bind fun y ρ1 => liftO (dicGet (getV ρ1[i]?) y.fz) ρ1
def dicPut (o : Option Val) (i : Nat) (y : D) (v : D) (ρ : DEnv) : Fl := match o with
  | some (.dic b ds) => match keyOf b.tk y with
    | some k => if b.lock = false ∧ ds.length < 10000000 then .nx (ρ.set i (some (.dic { b with ks := (putD b.ks ds k v).1 } (putD b.ks ds k v).2))) else .bad
    | none => .bad
  | _ => .bad
def sDPut' (i : Nat) (fk fv : DEnv → R Val) : DEnv → Fl := fun ρ => (fv ρ).fl fun v ρ1 => match getV ρ1[i]? with
  | none => .bad
  | some _ => (fk ρ1).fl fun y ρ2 => dicPut (getV ρ2[i]?) i y.fz v.fz ρ2
section
variable {X : Cx} {K : PySem.W.Frag} {F0 H0 H : Hp} {σ : L2.St} {ρ : DEnv} {vs : List V} {xs : List Val} {v : V} {d : D} {i : Nat}
/-- what a key's data says of its value, and of the dict -/
theorem dget_of (hKC : KC = false) {F : Hp} {p : Addr} {b : DB} {us : List V} {ds : List D} {w : V} {y : D} {k : List Key} (hF : Same F H) (h : DicAt H p b us) (hl : b.ks.length = us.length) (ha : Ats K F us ds) (aw : At K F w y) (hk : keyOf b.tk y = some k) :
    (∀ d, lookD b.ks ds k = some d → ∃ u, DGet H p w (some u) ∧ At K F u d) ∧ (lookD b.ks ds k = none → DGet H p w none) := by
  obtain ⟨u, hu, rd⟩ := h.rd
  obtain ⟨l1, l2⟩ := look_val k hl ha
  unfold keyOf at hk
  rcases hu with ⟨ht, rfl⟩ | ⟨ht, kk, ek, rfl⟩
  · rw [if_pos ht] at hk
    match y, aw, hk with
    | .tup es, .tup (a := ta) (vs := ws) h1 h2, hk =>
      have e1 := keys_at h2 hk
      have e2 : H ta = some (.tup (k.map kV)) := by
        rcases h1 with h1 | ⟨z, _⟩
        · rw [← e1]; exact hF _ _ h1
        · rw [hKC] at z; cases z
      refine ⟨fun d hd => ?_, fun hd => ?_⟩
      · obtain ⟨u, q1, q2⟩ := l1 d hd
        exact ⟨u, .inr ⟨_, k, _, rd, rfl, e2, q1.symm⟩, q2⟩
      · exact .inr ⟨_, k, _, rd, rfl, e2, (l2 hd).symm⟩
  · rw [if_neg (by rw [ht]; exact Bool.false_ne_true)] at hk
    obtain ⟨x, e1, e2⟩ := Option.map_eq_some_iff.mp hk
    subst e2
    have e3 := key_at aw e1
    have e4 : ∀ (l : List Key) (us : List V), valV (l.zip us) x = valV ((l.map fun k => [k]).zip us) [x] := by
      intro l
      induction l with
      | nil => intro us; rfl
      | cons z l ih =>
        intro us
        cases us with
        | nil => rfl
        | cons u us =>
          rw [List.map_cons, List.zip_cons_cons, List.zip_cons_cons]
          by_cases e : z = x
          · rw [valV_pos e, valV_pos (by rw [e])]
          · rw [valV_neg e, valV_neg (fun h => e (by simpa using h)), ih]
    rw [ek] at l1 l2
    refine ⟨fun d hd => ?_, fun hd => ?_⟩
    · obtain ⟨u, q1, q2⟩ := l1 d (by rw [← ek]; exact hd)
      exact ⟨u, .inl ⟨_, x, rd, e3, by rw [e4, q1]⟩, q2⟩
    · exact .inl ⟨_, x, rd, e3, by rw [e4, l2 (by rw [← ek]; exact hd)]⟩
theorem Stt.newDic {p : Addr} {tk : Bool} (h : Stt K F0 H0 H σ ρ vs xs) (np : H p = none) : Stt K F0 H0 (upd H p (if tk = true then .dT [] else .dK [])) σ ρ (.ref p :: vs) (.dic (.new tk) [] :: xs) := by
  obtain ⟨F, f, g, h1, h2, h3, h4, h5, h6, h7, h8⟩ := h
  have nF : F p = none := h3.free np
  have n0 : H0 p = none := h2.free np
  have kp : ∀ b, H b ≠ none → b ≠ p := fun b z e => by subst e; exact z np
  have np' : p ∉ g ++ f := fun z => by
    rcases List.mem_append.mp z with z | z
    · exact (Owns.no _ _ _ h6 p z).2 np
    · exact (Sl.no h5 p z).2 np
  refine ⟨F, f, [p] ++ g, h1, fun b u e => by rw [upd_ne (ne_of_none e n0)]; exact h2 _ _ e, fun b u e => by rw [upd_ne (ne_of_none e nF)]; exact h3 _ _ e, h4,
    Sl.mono (Same.refl F) h5 fun b hb => ⟨(Sl.no h5 b hb).1, upd_ne (kp b (Sl.no h5 b hb).2)⟩,
    .cons (.dic (vs := []) nF ⟨⟨(fun a z => by cases z), List.nodup_nil⟩, _, ?_, .inl ⟨rfl, upd_same⟩⟩ rfl .nil rfl) (Owns.mono (Same.refl F) _ _ _ h6 fun b hb => ⟨(Owns.no _ _ _ h6 b hb).1, upd_ne (kp b (Owns.no _ _ _ h6 b hb).2)⟩), nodup_new h7 np', fun b hb => ?_⟩
  · cases tk with
    | true => exact .inl ⟨rfl, rfl⟩
    | false => exact .inr ⟨rfl, [], rfl, rfl⟩
  · rcases List.mem_cons.mp hb with e | hb
    · subst e; exact n0
    · exact h8 b hb
variable {a b e : Expr} {fa fb f : DEnv → R Val} {pos p q : Pos} {x : Str}
theorem de_dnew (tk : Bool) : DE X (.Dict [] [] pos) (sDNew tk) := by
  cases tk with
  | true => exact PE.imp pe_dnewT fun σ H Q ⟨F0, H0, ρ, vs, xs, s, q⟩ p np => q _ _ (s.newDic (tk := true) np)
  | false => exact PE.imp pe_dnewK fun σ H Q ⟨F0, H0, ρ, vs, xs, s, q⟩ p np => q _ _ (s.newDic (tk := false) np)
theorem Stt.peek1 {x : Val} {w : V} {y : D} (h : Stt K F0 H0 H σ ρ (w :: vs) (.sh y :: xs)) (e : ρ[i]? = some (some x)) : ∃ v, σ[i]? = some (some v) ∧ ∃ F f, Same F H ∧ At K F w y ∧ Own K F H v x f ∧ (∀ as ds, Ats K F as ds → Stt K F0 H0 H σ ρ (as ++ vs) (ds.map .sh ++ xs)) := by
  obtain ⟨F, f, g, h1, h2, h3, h4, h5, h6, h7, h8⟩ := h
  obtain ⟨v, g1, r, k1, k2, k3, k4⟩ := Sl.take i h5 e
  cases h6 with
  | cons a t =>
    rename_i gg1 gg2
    cases a with
    | sh a =>
      refine ⟨v, k1, F, g1, h3, a, k2, fun as ds k => ?_⟩
      obtain ⟨g3, c1, c2, c3⟩ := (Owns.of_ats (H := H) k).append t
      have s : Sb (g3 ++ f) (([] ++ gg2) ++ f) := Sb.app (by simpa using c2) (.refl f)
      exact ⟨F, f, g3, h1, h2, h3, h4, h5, c1, s.2 h7, fun b hb => h8 b (s.1 b hb)⟩
theorem Stt.peek2 {x : Val} {w u : V} {y z : D} (h : Stt K F0 H0 H σ ρ (u :: w :: vs) (.sh z :: .sh y :: xs)) (e : ρ[i]? = some (some x)) : ∃ v, σ[i]? = some (some v) ∧ ∃ F f, Same F H ∧ At K F u z ∧ At K F w y ∧ Own K F H v x f := by
  obtain ⟨F, f, g, h1, h2, h3, h4, h5, h6, h7, h8⟩ := h
  obtain ⟨v, g1, r, k1, k2, k3, k4⟩ := Sl.take i h5 e
  cases h6 with
  | cons a t =>
    cases a with
    | sh a =>
      cases t with
      | cons b t =>
        cases b with
        | sh b => exact ⟨v, k1, F, g1, h3, a, b, k2⟩
/-- a dict, one's own or locked -/
theorem Own.dicAt {F : Hp} {b : DB} {ds : List D} {v : V} {f : List Addr} (h : Own K F H v (.dic b ds) f) (hF : Same F H) : ∃ p us, v = .ref p ∧ DicAt H p b us ∧ b.ks.length = us.length ∧ Ats K F us ds := by
  cases h with
  | dic h1 h2 h3 h4 => exact ⟨_, _, rfl, h2, h3, h4⟩
  | dicL h1 h2 h3 h4 h5 h6 h7 => exact ⟨_, _, rfl, ⟨⟨h4, h5⟩, _, h1, .inr ⟨h3, _, hF _ _ h2⟩⟩, h6, h7⟩
theorem din_read (hKC : KC = false) {n : Bool} {F0 H0 H1 : Hp} {σ : L2.St} {ρ1 : DEnv} {vs : List V} {xs : List Val} {w : V} {y : Val} {Q : VK} (s1 : Stt X.K F0 H0 H1 σ ρ1 (w :: vs) (y :: xs)) {z : Val} (hz : dicIn n (getV ρ1[i]?) y.fz = some z)
    (q : ∀ H' v, Stt X.K F0 H0 H' σ ρ1 (v :: vs) (z :: xs) → Q v H') : tVar i σ H1 fun x H2 => ∃ a o, x = .ref a ∧ DGet H2 a w o ∧ Q (.bl (n != o.isSome)) H2 := by
  cases e : getV ρ1[i]? with
  | none => rw [e] at hz; cases hz
  | some d =>
    rw [e] at hz
    obtain ⟨v, k0, F, f, hF, aw, ho, t⟩ := s1.fz.peek1 (getV_some e)
    match d, ho, hz with
    | .dic b ds, ho, hz =>
      obtain ⟨p, us, rfl, h2, h3, h4⟩ := ho.dicAt hF
      obtain ⟨k, e1, e2⟩ := Option.map_eq_some_iff.mp (show (keyOf b.tk y.fz).map (fun k => Val.sh (.bl (n != (lookD b.ks ds k).isSome))) = some z from hz)
      subst e2
      obtain ⟨l1, l2⟩ := dget_of hKC hF h2 h3 h4 aw e1
      refine ⟨_, k0, ?_⟩
      cases hd : lookD b.ks ds k with
      | none =>
        rw [hd] at q
        exact ⟨p, none, rfl, l2 hd, q _ _ (s1.pop.scal fun F => .bl _)⟩
      | some d =>
        rw [hd] at q
        obtain ⟨u, g, _⟩ := l1 d hd
        exact ⟨p, some u, rfl, g, q _ _ (s1.pop.scal fun F => .bl _)⟩
theorem pc_dinT (hu : X.A.units + 1 < cLine) (hi : PE X a (tE X fa)) (hx : PE X b (tVar i)) : PC X .NotIn a b (fun σ H Q => tE X fa σ H fun y H1 => tVar i σ H1 fun x H2 => ∃ a o, x = .ref a ∧ DGet H2 a y o ∧ Q (.bl (true != o.isSome)) H2) := by
  have := pc_dnotin hu hi hx
  refine ⟨fun pins s σ H Q I h => this.run pins s σ H Q I ?_⟩
  obtain ⟨F0, H0, ρ, vs, xs, st, q⟩ := h
  refine ⟨F0, H0, ρ, vs, xs, st, q.imp (fun x ρ1 q1 H1 v s1 => ?_) fun _ _ z => z⟩
  obtain ⟨v, k, a, o, e1, e2, e3⟩ := q1 H1 v s1
  refine ⟨v, k, a, o, e1, e2, ?_⟩
  cases o <;> exact e3
theorem pc_dinF (hu : X.A.units + 1 < cLine) (hi : PE X a (tE X fa)) (hx : PE X b (tVar i)) : PC X .In a b (fun σ H Q => tE X fa σ H fun y H1 => tVar i σ H1 fun x H2 => ∃ a o, x = .ref a ∧ DGet H2 a y o ∧ Q (.bl (false != o.isSome)) H2) := by
  have := pc_din hu hi hx
  refine ⟨fun pins s σ H Q I h => this.run pins s σ H Q I ?_⟩
  obtain ⟨F0, H0, ρ, vs, xs, st, q⟩ := h
  refine ⟨F0, H0, ρ, vs, xs, st, q.imp (fun x ρ1 q1 H1 v s1 => ?_) fun _ _ z => z⟩
  obtain ⟨v, k, a, o, e1, e2, e3⟩ := q1 H1 v s1
  refine ⟨v, k, a, o, e1, e2, ?_⟩
  cases o <;> exact e3
theorem de_din (hKC : KC = false) (hu : X.A.units + 64 < cLine) (ha : DE X a fa) (hx : PE X (.Name x q) (tVar i)) : DE X (.Compare a [.In] [.Name x q] pos) (sDIn false i fa) :=
  PE.imp (pe_cmp (pc_dinF (by omega) ha hx) rfl) fun σ H Q ⟨F0, H0, ρ, vs, xs, s, q⟩ => by
    refine ⟨F0, H0, ρ, vs, xs, s, (post_bind q).imp (fun y ρ1 q1 H1 w s1 => ?_) fun _ _ z => z⟩
    cases e1 : dicIn false (getV ρ1[i]?) y.fz with
    | none => rw [e1] at q1; exact q1.elim
    | some z => rw [e1] at q1; exact din_read hKC s1 e1 q1
theorem de_dnotin (hKC : KC = false) (hu : X.A.units + 64 < cLine) (ha : DE X a fa) (hx : PE X (.Name x q) (tVar i)) : DE X (.Compare a [.NotIn] [.Name x q] pos) (sDIn true i fa) :=
  PE.imp (pe_cmp (pc_dinT (by omega) ha hx) rfl) fun σ H Q ⟨F0, H0, ρ, vs, xs, s, q⟩ => by
    refine ⟨F0, H0, ρ, vs, xs, s, (post_bind q).imp (fun y ρ1 q1 H1 w s1 => ?_) fun _ _ z => z⟩
    cases e1 : dicIn true (getV ρ1[i]?) y.fz with
    | none => rw [e1] at q1; exact q1.elim
    | some z => rw [e1] at q1; exact din_read hKC s1 e1 q1
theorem dt_din (hKC : KC = false) (hu : X.A.units + 64 < cLine) (ha : DE X a fa) (hx : PE X (.Name x q) (tVar i)) : DT X (.Compare a [.In] [.Name x q] pos) (sTst (sDIn false i fa)) :=
  PT.imp (pt_cmp (pc_dinF (by omega) ha hx) rfl) fun σ H Q h => by
    obtain ⟨F0, H0, ρ, vs, xs, s, q⟩ := tB_of h
    refine ⟨F0, H0, ρ, vs, xs, s, (post_bind q).imp (fun y ρ1 q1 H1 w s1 => ?_) fun _ _ z => z⟩
    cases e1 : dicIn false (getV ρ1[i]?) y.fz with
    | none => rw [e1] at q1; exact q1.elim
    | some z => rw [e1] at q1; exact din_read hKC s1 e1 q1
theorem dt_dnotin (hKC : KC = false) (hu : X.A.units + 64 < cLine) (ha : DE X a fa) (hx : PE X (.Name x q) (tVar i)) : DT X (.Compare a [.NotIn] [.Name x q] pos) (sTst (sDIn true i fa)) :=
  PT.imp (pt_cmp (pc_dinT (by omega) ha hx) rfl) fun σ H Q h => by
    obtain ⟨F0, H0, ρ, vs, xs, s, q⟩ := tB_of h
    refine ⟨F0, H0, ρ, vs, xs, s, (post_bind q).imp (fun y ρ1 q1 H1 w s1 => ?_) fun _ _ z => z⟩
    cases e1 : dicIn true (getV ρ1[i]?) y.fz with
    | none => rw [e1] at q1; exact q1.elim
    | some z => rw [e1] at q1; exact din_read hKC s1 e1 q1
theorem de_dget (hKC : KC = false) (hu : X.A.units + 64 < cLine) (hx : PE X (.Name x q) (tVar i)) (hb : DE X b fb) (hs : NoSl b := by exact fun _ _ => rfl) : DE X (.Subscript (.Name x q) b pos) (sDGet i fb) :=
  PE.imp (pe_dget (by omega) hx hb hs) fun σ H Q ⟨F0, H0, ρ, vs, xs, s, q⟩ => by
    unfold sDGet at q
    cases e0 : getV ρ[i]? with
    | none => rw [e0] at q; exact q.elim
    | some y0 =>
      rw [e0] at q
      obtain ⟨v, k0, _⟩ := s.peek (getV_some e0)
      refine ⟨v, k0, F0, H0, ρ, vs, xs, s, (post_bind q).imp (fun y ρ1 q1 H1 w s1 => ?_) fun _ _ z => z⟩
      cases e : dicGet (getV ρ1[i]?) y.fz with
      | none => rw [e] at q1; exact q1.elim
      | some z =>
        rw [e] at q1
        cases e2 : getV ρ1[i]? with
        | none => rw [e2] at e; cases e
        | some d =>
          rw [e2] at e
          obtain ⟨v', k1, F, f, hF, aw, ho, t⟩ := s1.fz.peek1 (getV_some e2)
          have ev : v' = v := by rw [k0] at k1; cases k1; rfl
          subst ev
          match d, ho, e with
          | .dic b ds, ho, e =>
            obtain ⟨p, us, rfl, h2, h3, h4⟩ := ho.dicAt hF
            obtain ⟨d, e3, e4⟩ := Option.map_eq_some_iff.mp (show ((keyOf b.tk y.fz).bind (lookD b.ks ds)).map Val.sh = some z from e)
            obtain ⟨k, e5, e6⟩ := Option.bind_eq_some_iff.mp e3
            subst e4
            obtain ⟨u, g, au⟩ := (dget_of hKC hF h2 h3 h4 aw e5).1 d e6
            exact ⟨p, u, rfl, g, q1 _ _ (t [u] [d] (.one au))⟩
theorem Stt.editDic {v0 w v : V} {b : DB} {ds : List D} {y vd : D} (h : Stt K F0 H0 H σ ρ (v0 :: w :: v :: vs) (.dic b ds :: .sh y :: .sh vd :: xs)) (hL : b.lock = false) : ∃ p us F, v0 = .ref p ∧ DicAt H p b us ∧ b.ks.length = us.length ∧ Ats K F us ds ∧ At K F w y ∧ At K F v vd ∧ Same F H ∧
    ∀ (b' : DB) (us' : List V) (ds' : List D) (u' : HO), DicAt (upd H p u') p b' us' → b'.ks.length = us'.length → Ats K F us' ds' → b'.lock = false → Stt K F0 H0 (upd H p u') σ ρ (.ref p :: vs) (.dic b' ds' :: xs) := by
  obtain ⟨F, f, g, h1, h2, h3, h4, h5, h6, h7, h8⟩ := h
  cases h6 with
  | cons a0 t0 =>
    cases a0 with
    | dicL _ _ z => rw [hL] at z; cases z
    | @dic p us _ _ k1 k2 k3 k4 k5 =>
      cases t0 with
      | cons a1 t1 =>
        cases a1 with
        | sh a1 =>
          cases t1 with
          | cons a2 t2 =>
            cases a2 with
            | sh a2 =>
              rename_i g2
              refine ⟨p, us, F, rfl, k2, k3, k4, a1, a2, h3, fun b' us' ds' u' c1 c2 c3 c4 => ?_⟩
              have nd : (p :: (g2 ++ f)).Nodup := h7
              have ndp := (List.nodup_cons.mp nd).1
              have ne : ∀ b ∈ g2 ++ f, b ≠ p := fun b hb e => by subst e; exact ndp hb
              have n0 : H0 p = none := h8 p List.mem_cons_self
              refine ⟨F, f, [p] ++ g2, h1, fun b u e => by rw [upd_ne (ne_of_none e n0)]; exact h2 _ _ e, fun b u e => by rw [upd_ne (ne_of_none e k1)]; exact h3 _ _ e, h4,
                Sl.mono (Same.refl F) h5 fun b hb => ⟨(Sl.no h5 b hb).1, upd_ne (ne b (List.mem_append_right _ hb))⟩,
                .cons (.dic k1 c1 c2 c3 c4) (Owns.mono (Same.refl F) _ _ _ t2 fun b hb => ⟨(Owns.no _ _ _ t2 b hb).1, upd_ne (ne b (List.mem_append_left _ hb))⟩), nd, fun b hb => h8 b hb⟩
/-- the object behind a store -/
theorem put_ho {b : DB} {us : List V} {ds : List D} {F : Hp} {p : Addr} {w u : V} {y d : D} {k : List Key} (hKC : KC = false) (hF : Same F H) (h : DicAt H p b us) (hL : b.lock = false) (hl : b.ks.length = us.length) (hz : us.length < sizeLine) (ha : Ats K F us ds) (aw : At K F w y) (au : At K F u d) (hk : keyOf b.tk y = some k) :
    ∃ us' u', DPut H p w u (upd H p u') ∧ DicAt (upd H p u') p { b with ks := (putD b.ks ds k d).1 } us' ∧ (putD b.ks ds k d).1.length = us'.length ∧ Ats K F us' (putD b.ks ds k d).2 := by
  obtain ⟨⟨hat, hn⟩, u0, hu, h0⟩ := h
  have h0 : H p = some u0 := by
    rcases h0 with ⟨_, h0⟩ | ⟨z, _⟩
    · exact h0
    · rw [hL] at z; cases z
  obtain ⟨us', q1, q2, q3, q4, q5, q6⟩ := put_val k u d hn hl ha au
  unfold keyOf at hk
  rcases hu with ⟨ht, rfl⟩ | ⟨ht, kk, ek, rfl⟩
  · rw [if_pos ht] at hk
    match y, aw, hk with
    | .tup es, .tup (a := ta) (vs := ws) h1 h2, hk =>
      have e1 := keys_at h2 hk
      have e2 : H ta = some (.tup (k.map kV)) := by
        rcases h1 with h1 | ⟨z, _⟩
        · rw [← e1]; exact hF _ _ h1
        · rw [hKC] at z; cases z
      refine ⟨us', .dT (putK (b.ks.zip us) k u), .inr ⟨_, k, _, h0, rfl, e2, by rw [List.length_zip]; omega, rfl⟩, ⟨⟨hat, q4⟩, _, .inl ⟨ht, rfl⟩, .inl ⟨hL, ?_⟩⟩, q2, q3⟩
      rw [upd_same, q1]
  · rw [if_neg (by rw [ht]; exact Bool.false_ne_true)] at hk
    obtain ⟨x, e1, e2⟩ := Option.map_eq_some_iff.mp hk
    subst e2
    have e3 := key_at aw e1
    have key : ∀ (l : List Key) (us : List V) (ds : List D), l.length = us.length → l.Nodup → Ats K F us ds → ∃ (l' : List Key) (us'' : List V), putK (l.zip us) x u = l'.zip us'' ∧ (putD (l.map fun k => [k]) ds [x] d).1 = l'.map (fun k => [k]) ∧ l'.length = us''.length ∧ Ats K F us'' (putD (l.map fun k => [k]) ds [x] d).2 := by
      intro l
      induction l with
      | nil =>
        intro us ds hl _ ha
        cases us with
        | nil =>
          cases ha
          exact ⟨[x], [u], rfl, rfl, rfl, .cons au .nil⟩
        | cons _ _ => simp at hl
      | cons z l ih =>
        intro us ds hl hn ha
        cases ha with
        | nil => simp at hl
        | @cons v0 us d0 ds a t =>
          obtain ⟨hn1, hn2⟩ := List.nodup_cons.mp hn
          obtain ⟨l', us'', r1, r2, r3, r4⟩ := ih us ds (by simpa using hl) hn2 t
          rw [List.map_cons]
          unfold putD
          by_cases e : z = x
          · have hk : ((l.zip us).any fun q => decide (q.1 = x)) = false := by
              rw [List.any_eq_false]
              intro q hq
              have := (List.of_mem_zip hq).1
              simp only [decide_eq_true_eq]
              intro z'
              rw [z', ← e] at this
              exact hn1 this
            have e' : ([z] : List Key) = [x] := by rw [e]
            simp only [e', if_true]
            refine ⟨z :: l, u :: us, ?_, by rw [List.map_cons, e], by simpa using hl, .cons au t⟩
            unfold putK
            rw [List.zip_cons_cons, List.any_cons]
            have : (decide (z = x) || (l.zip us).any fun q => decide (q.1 = x)) = true := by rw [decide_eq_true e]; rfl
            simp only [this, if_true, List.map_cons, e]
            rw [List.zip_cons_cons]
            rw [map_none hk]
            simp
          · have e' : ¬ ([z] : List Key) = [x] := fun h => e (by simpa using h)
            simp only [e', if_false]
            refine ⟨z :: l', v0 :: us'', ?_, by rw [List.map_cons, r2], by simpa using r3, .cons a r4⟩
            rw [List.zip_cons_cons, List.zip_cons_cons, ← r1]
            unfold putK
            rw [List.any_cons, List.map_cons]
            simp only [e, decide_false, Bool.false_or, if_false]
            split <;> rfl
    have hn' : kk.Nodup := by
      rw [ek] at hn
      exact List.Pairwise.of_map (fun k => [k]) (fun a b h e => h (by rw [e])) hn
    obtain ⟨l', us'', r1, r2, r3, r4⟩ := key kk us ds (by rw [ek, List.length_map] at hl; exact hl) hn' ha
    rw [← ek] at r2 r4
    refine ⟨us'', .dK (putK (kk.zip us) x u), .inl ⟨_, x, h0, e3, by rw [List.length_zip]; omega, rfl⟩, ⟨⟨hat, q4⟩, _, .inr ⟨ht, l', r2, rfl⟩, .inl ⟨hL, ?_⟩⟩, by rw [r2, List.length_map]; exact r3, r4⟩
    rw [upd_same, r1]
theorem ds_dput {qpos : Pos} (hKC : KC = false) (hu : X.A.units + 64 < cLine) (hx : PE X (.Name x q) (tVar i)) (hk : DE X a fa) (hv : DE X b fb) (hs : swapsWith b (some (.Subscript (.Name x q) a qpos)) pos.line X.env = pure false := by rfl) :
    DS X (.Assign [.Subscript (.Name x q) a qpos] b pos) (sDPut' i fa fb) :=
  PS.imp (ps_dput (by omega) hx hk hv hs) fun D σ H ⟨F0, H0, ρ, vs, xs, s, q⟩ => by
    refine ⟨F0, H0, ρ, vs, xs, s, (post_fl q).imp (fun y ρ1 q1 H1 v s1 => ?_) fun _ _ z => z⟩
    cases e0 : getV ρ1[i]? with
    | none => simp only [e0] at q1; exact q1.elim
    | some y0 =>
      simp only [e0] at q1
      obtain ⟨v0, k0, _⟩ := s1.peek (getV_some e0)
      refine ⟨v0, k0, F0, H0, ρ1, _, _, s1, (post_fl q1).imp (fun k ρ2 q2 H2 w s2 => ?_) fun _ _ z => z.more⟩
      cases e1 : getV ρ2[i]? with
      | none => rw [e1] at q2; exact q2.elim
      | some d =>
        rw [e1] at q2
        match d, e1, q2 with
        | .sh _, e1, q2 => exact q2.elim
        | .lst _, e1, q2 => exact q2.elim
        | .tup _, e1, q2 => exact q2.elim
        | .dic bb ds, e1, q2 =>
          have q2 : fpost X F0 H0 vs xs D (match keyOf bb.tk k.fz with | some kk => if bb.lock = false ∧ ds.length < 10000000 then Fl.nx (ρ2.set i (some (.dic { bb with ks := (putD bb.ks ds kk y.fz).1 } (putD bb.ks ds kk y.fz).2))) else .bad | none => .bad) := q2
          cases e2 : keyOf bb.tk k.fz with
          | none => simp only [e2] at q2; exact q2.elim
          | some kk =>
            simp only [e2] at q2
            split at q2
            · rename_i hL
              have s3 := s2.fz2
              obtain ⟨v1, k1, s4⟩ := s3.take (getV_some e1)
              have ev : v1 = v0 := by rw [k0] at k1; cases k1; rfl
              subst ev
              obtain ⟨p, us, F, rfl, c1, c2, c3, c4, c5, c6, c7⟩ := s4.editDic hL.1
              obtain ⟨us', u', d1, d2, d3, d4⟩ := put_ho hKC c6 c1 hL.1 c2 (by rw [c3.length, sizeLine_eq]; omega) c3 c4 c5 e2
              refine ⟨p, _, rfl, d1, q2 σ _ ?_⟩
              have s5 := c7 _ us' _ u' d2 d3 d4 hL.1
              have hi : i < ρ2.length := (List.getElem?_eq_some_iff.mp (getV_some e1)).1
              have s6 := s5.store (i := i) (by simpa using hi)
              rw [List.set_set] at s6
              have es : σ.set i (some (.ref p)) = σ := by
                refine List.ext_getElem? fun j => ?_
                by_cases hj : i = j
                · subst hj
                  rw [List.getElem?_set_self (by rw [s2.len]; exact hi), k1]
                · rw [List.getElem?_set_ne hj]
              rw [es] at s6
              exact s6
            · exact q2.elim
end
end DL

/-! DLz: sorted(set(xs)), xs a list of ints. -/
namespace DL
open PySem PySem.Spec L2 PyProof.Rows
/-- a set just laid -/
abbrev set0 (w : World) : Obj := { cls := .type "set", dict := none, data := .set #[] 0 (.fresh 0 0 (!w.params.followText "set-order")) }
abbrev itr0 (l : Addr) : Obj := { cls := .type "list_iterator", data := .fields #[.ref l, .int 0 0] }
section
variable {s : Shared} {E : Value → Shared → Prop} {A : Around} {w : World} {P : Program}
/-- what the loop that fills a new set is to leave -/
def Full (w : World) (s : Shared) (ns : List Int) (r : Value) (t : Shared) : Prop :=
  r = .none ∧ ∃ g tk c, t = { s with heap := g, toks := tk } ∧ (SetR w g s.heap.objs.size (fun j => decide (j ∈ ns)) c ∧ c ≤ ns.length) ∧ ∀ b o, s.heap.get? b = some o → g.get? b = some o
theorem set_of_ints {l : Addr} {xs : Array Value} (ns : List Int) {Q : Value → Shared → Prop} (nh : A.handled = none) (L : s.heap.IsList l xs) (vi : IntsAre xs.toList ns) (room : ns.length + 1 < scanBound)
    (fin : ∀ (g : Heap) (tk c : Nat), SetR w g s.heap.objs.size (fun j => decide (j ∈ ns)) c → c ≤ ns.length → (∀ b o, s.heap.get? b = some o → g.get? b = some o) → Q (.ref s.heap.objs.size) { s with heap := g, toks := tk }) :
    wpAny (model P w) A (call (Value.type "set") [Value.ref l])
      Q E s := by
  have sz : xs.size = ns.length := by
    have e := IntsAre.length vi
    rwa [Array.length_toList] at e
  obtain ⟨c, tl, mro⟩ := F.called_set.mro
  have k1 := F.called_set.made
  have k2 := F.called_set.sub
  refine wpAny_call (codeAny_of_tree (show wpAny _ _ (callAny (.type "set") _) _ _ _ from wpAny_pure ⟨Code.quiet_builtin _
    (by decide +kernel), codeAny_builtin F.entry_type_call ?_⟩))
  rw [Around.under_plain
    (weight_type_call_type "set" [.ref l] []) rfl]
  have k3 := F.called_set.notType
  have k4 := F.called_set.canCreate
  have k5 := F.typeCall_set_1 (.ref l)
  repeat any_goals first | assumption | wp_step
  refine codeAny_mono (code_set_led1 (.ref l) (E := E) (Q₁ := fun o1 t1 => o1 = .ref s.heap.objs.size ∧ t1 = { s with heap := s.heap.push (set0 w) }) ⟨rfl, rfl⟩) fun r1 t1 h1 => ?_
  match r1, h1 with
  | .error e, h1 => exact h1
  | .ok .next, h1 => exact h1.elim
  | .ok .brk, h1 => exact h1.elim
  | .ok .cont, h1 => exact h1.elim
  | .ok (.ret o1), h1 =>
    obtain ⟨rfl, rfl⟩ := h1
    have aS : (s.heap.push (set0 w)).get? s.heap.objs.size = some (set0 w) := Heap.get?_push_size _ rfl
    have tS : Shared.TypeIs { s with heap := s.heap.push (set0 w) } (.ref s.heap.objs.size) "set" := ⟨_, aS, rfl⟩
    have k6 := F.called_set.init.lookup
    have k7 := F.called_set.init.bind (.ref s.heap.objs.size)
    repeat any_goals first | assumption | wp_step
    refine codeAny_mono (codeAny_call_builtin (R := wants (Full w s ns) E) F.called_set.init.plain F.entry_set_init (check_set_init_1 tS ?_)) fun r2 t2 h2 => ?_
    · obtain ⟨oL, gL, cL, nL, dL⟩ := L
      obtain ⟨occ, odd, oda, osl⟩ := oL
      simp only at cL dL
      subst cL
      subst dL
      have gL' : (s.heap.push (set0 w)).get? l = some { cls := .type "list", dict := odd, data := .seq xs nL, slots := osl } := Heap.get?_push_of_some _ gL
      have k8 := F.sub_list_set
      have k9 := F.sub_list_frozenset
      have ka : (Value.type "list" == Value.type "dict") = false := by decide
      have L1 : (s.heap.push (set0 w)).IsList l xs := ⟨_, gL', rfl, nL, rfl⟩
      unfold Builtin.«set.__init__» noKeywords
      unfold Builtin.Frozenset.updateFrom
      generalize eI : pyIter = J
      wp_walk
      subst eI
      refine wpAny_pyIter_list L1 (wpAny_bind (wpAny_runValue ?_))
      have lt0 : l < s.heap.objs.size := Heap.lt_size gL
      have nh3 : A.in1.in1.in1.handled = none := by simp [nh]
      have sz1 : (s.heap.push (set0 w)).objs.size = s.heap.objs.size + 1 := Heap.size_push ..
      have nI : l ≠ (s.heap.push (set0 w)).objs.size := by
        rw [sz1]
        exact Nat.ne_of_lt (Nat.lt_succ_of_lt lt0)
      have nF : s.heap.objs.size ∉ [(s.heap.push (set0 w)).objs.size, l] := by
        simp only [List.mem_cons, List.not_mem_nil, or_false, not_or, sz1]
        exact ⟨Nat.ne_of_lt (Nat.lt_succ_self _), Nat.ne_of_gt lt0⟩
      have at_ : ∀ (i : Nat) (v : Value), xs[i]? = some v → ∃ k t, ns[i]? = some k ∧ v = .int k t := fun i v hv => by
        have hi : i < ns.length := by rw [← sz]; exact (Array.getElem?_eq_some_iff.mp hv).1
        obtain ⟨t, e⟩ := IntsAre.int_at vi i v (by rw [Array.getElem?_toList]; exact hv)
        have g := List.getElem?_eq_getElem hi
        exact ⟨ns[i], t, g, by rw [e, List.getD_eq_getElem?_getD, g] <;> rfl⟩
      refine set_update_ints ((Walks.list nh3 _ l nI xs).toS) s.heap.objs.size nF ns sz room at_ (xs.size - 0) 0 _ (by omega) (Nat.zero_le _) ⟨⟨_, Heap.get?_push_size _ rfl, rfl, rfl⟩, L1.push _⟩ ⟨0, Nat.le_refl 0, ?_⟩ fun s2 c2 mv le R2 => ?_
      · have e : ((s.heap.push (set0 w)).push (itr0 l)).get? s.heap.objs.size = some (set0 w) := Heap.get?_push_of_some _ aS
        exact setR_new_at e
      · obtain ⟨g2, gg, dd, tt, oo⟩ := s2
        obtain rfl : gg = s.gens := mv.gens
        obtain rfl : dd = s.drawn := mv.drawn
        obtain rfl : oo = s.os := mv.os
        show wpAny _ _ _ _ _ _
        refine wpAny_pure (show wpAny _ _ (ret Value.none) _ _ _ from ?_)
        refine wpAny_pure ⟨rfl, g2, tt, c2, rfl, ⟨R2, by omega⟩, fun b o e => ?_⟩
        have b0 : b < s.heap.objs.size := Heap.lt_size e
        refine mv.heap b o ?_ (Heap.get?_push_of_some _ (Heap.get?_push_of_some _ e))
        simp only [List.mem_cons, List.not_mem_nil, or_false, not_or, sz1]
        exact ⟨Nat.ne_of_lt b0, Nat.ne_of_lt (Nat.lt_succ_of_lt b0)⟩
    · match r2, h2 with
      | .error e, h2 => exact h2
      | .ok .next, h2 => exact h2.elim
      | .ok .brk, h2 => exact h2.elim
      | .ok .cont, h2 => exact h2.elim
      | .ok (.ret r), h2 =>
        obtain ⟨rfl, g, tk, c2, rfl, ⟨R2, le⟩, kp⟩ := h2
        repeat any_goals first | assumption | wp_step
        exact fin _ _ _ R2 le kp
end

/-! ### the rule -/
def rSetI (K : PySem.W.Frag) (w : World) : List V → Hp → VK → Prop := fun vs H Q => ∃ (a : Addr) (ns : List Int), vs = [.ref a] ∧ SqL K H a (ns.map V.int) ∧ ns.length ≤ 1000 ∧ ∀ p c, H p = none → c ≤ ns.length → Q (.ref p) (upd H p (SetO w p (fun j => decide (j ∈ ns)) c))
section
variable {X : Cx}
theorem cr_setI (hc : X.calm = true) : CallR X (.type "set") (rSetI X.K X.w) := by
  intro pins s σ H vs us Q J r h
  obtain ⟨a, ns, rfl, hq, hl, q⟩ := h
  rw [Vals.ref1 r]
  obtain ⟨its, r1, pl, hz⟩ := J.list hq
  refine set_of_ints ns (J.ok.hd hc) pl.isList (by simpa using r1.ints) (by unfold scanBound; omega) fun g tk c R le kp => ?_
  exact ⟨.ref _, _, J.laid (t' := tk) kp (Nat.le_refl _) (setO_new R), rfl, q _ c (J.hok.fresh (Nat.le_refl _)) le⟩
end
/-- ascending, each once -/
def insI (x : Int) : List Int →
    List Int
  | [] => [x]
  | y :: l => if x < y then x :: y :: l else if x = y then y :: l else y :: insI x l
def ssI : List Int → List Int
  | [] => []
  | x :: l => insI x (ssI l)
theorem mem_insI {x y : Int} : ∀ {l : List Int}, y ∈ insI x l ↔ y = x ∨ y ∈ l
  | [] => by simp [insI]
  | z :: l => by
    unfold insI
    split
    · simp
    · split
      · rename_i h
        subst h
        simp
      · simp only [List.mem_cons, mem_insI (l := l)]
        constructor
        · rintro (h | h | h)
          · exact .inr (.inl h)
          · exact .inl h
          · exact .inr (.inr h)
        · rintro (h | h | h)
          · exact .inr (.inl h)
          · exact .inl h
          · exact .inr (.inr h)
theorem mem_ssI {y : Int} : ∀ {l : List Int}, y ∈ ssI l ↔ y ∈ l
  | [] => by simp [ssI]
  | x :: l => by rw [ssI, mem_insI, mem_ssI (l := l), List.mem_cons]
theorem sorted_insI {x : Int} : ∀ {l : List Int}, l.Pairwise (· < ·) → (insI x l).Pairwise (· < ·)
  | [], _ => by simp [insI]
  | z :: l, h => by
    rw [List.pairwise_cons] at h
    unfold insI
    split
    · rename_i e
      rw [List.pairwise_cons, List.pairwise_cons]
      refine ⟨fun y hy => ?_, h⟩
      rcases List.mem_cons.mp hy with hy | hy
      · omega
      · have := h.1 y hy; omega
    · split
      · rw [List.pairwise_cons]; exact h
      · rw [List.pairwise_cons]
        refine ⟨fun y hy => ?_, sorted_insI h.2⟩
        rcases mem_insI.mp hy with hy | hy
        · omega
        · exact h.1 y hy
theorem sorted_ssI : ∀ {l : List Int}, (ssI l).Pairwise (· < ·)
  | [] => by simp [ssI]
  | x :: l => sorted_insI sorted_ssI
theorem sorted_eq : ∀ {l m : List Int}, l.Pairwise (· < ·) → m.Pairwise (· < ·) → (∀ x, x ∈ l ↔ x ∈ m) → l = m
  | [], [], _, _, _ => rfl
  | [], y :: m, _, _, h => by
    have := (h y).mpr List.mem_cons_self
    cases this
  | x :: l, [], _, _, h => by
    have := (h x).mp List.mem_cons_self
    cases this
  | x :: l, y :: m, h1, h2, h => by
    rw [List.pairwise_cons] at h1 h2
    have e : x = y := by
      rcases List.mem_cons.mp ((h x).mp List.mem_cons_self) with e | e
      · exact e
      · rcases List.mem_cons.mp ((h y).mpr List.mem_cons_self) with e2 | e2
        · exact e2.symm
        · have := h2.1 x e
          have := h1.1 y e2
          omega
    subst e
    refine congrArg _ (sorted_eq h1.2 h2.2 fun z => ?_)
    constructor
    · intro hz
      rcases List.mem_cons.mp ((h z).mp (List.mem_cons_of_mem _ hz)) with e | e
      · have := h1.1 z hz
        omega
      · exact e
    · intro hz
      rcases List.mem_cons.mp ((h z).mpr (List.mem_cons_of_mem _ hz)) with e | e
      · have := h2.1 z hz
        omega
      · exact e
def ssD : D → Option Val
  | .lst ds => (dInts ds).bind fun ns => if ns.length ≤ 63 then some (.lst ((ssI ns).map fun x => .sh (.int x))) else none
  | _ => none
def sSortSet (f : DEnv → R Val) : DEnv → R Val := fun ρ => (f ρ).bind fun x ρ1 => liftO (ssD x.fz) ρ1
section
variable {X : Cx} {e : Expr} {fe : DEnv → R Val} {p p2 pos q : Pos}
theorem ats_intsF {K : PySem.W.Frag} : ∀ (ns : List Int) (F : Hp), Ats K F (ns.map V.int) (ns.map D.int)
  | [], _ => .nil
  | x :: ns, F => .cons (.int x) (ats_intsF ns F)
theorem sh_map (ns : List Int) : (ns.map D.int).map Val.sh = ns.map fun x => Val.sh (.int x) := by rw [List.map_map]; rfl
theorem Stt.puts {K : PySem.W.Frag} {F0 H0 H : Hp} {σ : L2.St} {ρ : DEnv} {vs : List V} {xs : List Val} (h : Stt K F0 H0 H σ ρ vs xs) : ∀ ns : List Int, Stt K F0 H0 H σ ρ (ns.map V.int ++ vs) ((ns.map D.int).map .sh ++ xs)
  | [] => h
  | x :: ns => (Stt.puts h ns).scal fun _ => .int x
theorem de_sortSet (hc : X.calm = true) (g1 : Gl X "sorted") (m1 : X.mg "sorted" = none) (g2 : Gl X "set") (m2 : X.mg "set" = none) (he : DE X e fe) (h1 : starEach [e] X.env = (false, eval e X.env) :: starEach [] X.env := by rfl)
    (h2 : starEach [.Call (.Name "set" p2) [e] [] q] X.env = (false, eval (.Call (.Name "set" p2) [e] [] q) X.env) :: starEach [] X.env := by rfl) :
    DE X (.Call (.Name "sorted" p) [.Call (.Name "set" p2) [e] [] q] [] pos) (sSortSet fe) :=
  PE.imp (pe_callB (cr_sortedSet hc) g1 m1 (by decide +kernel) (pa_cons (pe_callTy (cr_setI hc) g2 m2 (by decide +kernel) (pa_cons he pa_nil h1) (he := h1)) pa_nil h2) (he := h2)) fun σ H Q ⟨F0, H0, ρ, vs, xs, s, q⟩ => by
    refine ⟨F0, H0, ρ, vs, xs, s, (post_bind q).imp (fun x ρ1 q1 H1 v s1 => ?_) fun _ _ z => z⟩
    cases e1 : ssD x.fz with
    | none => rw [e1] at q1; exact q1.elim
    | some z =>
      rw [e1] at q1
      obtain ⟨F, hF, a, t⟩ := s1.fz.oneT
      match hx : x.fz, e1, a with
      | .lst ds, e1, .lst (a := a) hs ha =>
        obtain ⟨ns, e2, e3⟩ := Option.bind_eq_some_iff.mp (show (dInts ds).bind _ = some z from e1)
        have e3 : (if ns.length ≤ 63 then some (Val.lst ((ssI ns).map fun x => .sh (.int x))) else none) = some z := e3
        split at e3
        rotate_left
        · cases e3
        rename_i hl
        cases e3
        have ev := ints_ats ha e2
        subst ev
        refine ⟨a, ns, rfl, hF.seq (.of hs), by omega, fun p1 c np hcl => ?_⟩
        refine ⟨p1, _, c, rfl, upd_same, by omega, fun ms p3 k1 k2 k3 np3 => ?_⟩
        have em : ms = ssI ns := sorted_eq k1 sorted_ssI fun y => by rw [k2 y, mem_ssI, decide_eq_true_eq]
        subst em
        have s2 : Stt X.K F0 H0 (upd H1 p1 (SetO X.w p1 (fun j => decide (j ∈ ns)) c)) σ ρ1 vs xs := by
          obtain ⟨F, f, g, h1, h2, h3, h4, h5, h6, h7, h8, h9, h10⟩ := s1.pop.laid (o := SetO X.w p1 (fun j => decide (j ∈ ns)) c) np
          exact ⟨_, f, g, h1.trans h4, h2, h3, h5, h6, h7, h8, h9⟩
        have s3 := (s2.puts (ssI ns)).newLst (by simp) np3
        rw [sh_map] at s3
        exact q1 _ _ s3
end
@[simp] theorem sSortSet_ap {f : DEnv → R Val} {ρ : DEnv} : sSortSet f ρ = (f ρ).bind fun x ρ1 => liftO (ssD x.fz) ρ1 := id rfl
theorem ssD_map {l : List Int} (h : l.length ≤ 63) : ssD (.lst (l.map .int)) = some (.lst ((ssI l).map fun x => .sh (.int x))) := by
  have e : ssD (.lst (l.map .int)) = (dInts (l.map .int)).bind fun ns => if ns.length ≤ 63 then some (.lst ((ssI ns).map fun x => .sh (.int x))) else none := rfl
  rw [e, dInts_map, Option.bind_some, if_pos h]
end DL

/-! DLu: walks over dicts; a dict's keys sorted. -/
namespace DL
open PySem PySem.Spec L2
mutual
def Val.free : Val → Bool
  | .sh _ => true
  | .lst xs => frees xs
  | .tup xs => frees xs
  | .dic b _ => !b.lock
  | .obj _ _ _ => false
  | .at _ x => x.free
  | .dcv _ xs => false
def frees : List Val → Bool
  | [] => true
  | x :: xs => x.free && frees xs
end
def freeO (o : Option Val) : Bool := match o with
  | some x => x.free
  | none => true
/-- a dict is known at p, locked -/
def AtDic (F : Hp) (p : Addr) : Prop := ∃ (b : DB) (us : List V) (u : HO) (o : Obj), HoOf b us u ∧ F p = some (.frz o u)
def cutP (p : Addr) (F : Hp) : Hp := fun b => if b = p then none else F b
theorem cutP_ne {p b : Addr} {F : Hp} (h : b ≠ p) : cutP p F b = F b := if_neg h
theorem AtDic.no {F : Hp} {p : Addr} (h : AtDic F p) : (∀ vs, F p ≠ some (.lst vs)) ∧ (∀ vs o, F p ≠ some (.frz o (.lst vs))) ∧ (∀ vs, F p ≠ some (.tup vs)) ∧ (∀ φ, F p ≠ some (.ext φ)) ∧ (∀ fs, F p ≠ some (.xd fs)) ∧ ∀ C dx fs, F p ≠ some (.ins C dx fs) := by
  obtain ⟨b, us, u, o, hu, e⟩ := h
  refine ⟨fun vs z => ?_, fun vs o2 z => ?_, fun vs z => ?_, fun φ z => ?_, fun fs z => ?_, fun C dx fs z => ?_⟩
  all_goals
    rw [e] at z
    cases z
  rcases hu with ⟨_, z⟩ | ⟨_, kk, _, z⟩ <;> cases z
theorem AtDic.noK {F : Hp} {p : Addr} (h : AtDic F p) : ∀ l, F p ≠ some (.dK l) := by
  obtain ⟨b, us, u, o, hu, e⟩ := h
  intro l z
  rw [e] at z
  cases z
section
variable {K : PySem.W.Frag} {F : Hp} {p : Addr}
mutual
theorem At.cutP (h : AtDic F p) : ∀ (d : D) (v : V), At K F v d → At K (DL.cutP p F) v d
  | .non, _, a => by cases a; exact .non
  | .bl b, _, a => by cases a; exact .bl b
  | .int i, _, a => by cases a; exact .int i
  | .str x, _, a => by cases a; exact .str x
  | .lst ds, _, a => by
    cases a with
    | lst hs ha => exact .lst ((cutP_ne fun z => by subst z; exact h.no.1 _ hs).trans hs) (Ats.cutP h ds _ ha)
  | .scr ds, _, a => by
    cases a with
    | scr hs ha =>
      refine .scr ?_ (Ats.cutP h ds _ ha)
      rcases hs with (hs | ⟨o, hs⟩) | hs
      · exact .inl (.inl ((cutP_ne fun z => by subst z; exact h.no.1 _ hs).trans hs))
      · exact .inl (.inr ⟨o, (cutP_ne fun z => by subst z; exact h.no.2.1 _ _ hs).trans hs⟩)
      · exact .inr hs
  | .tup ds, _, a => by
    cases a with
    | tup hs ha =>
      refine .tup ?_ (Ats.cutP h ds _ ha)
      rcases hs with hs | hs
      · exact .inl ((cutP_ne fun z => by subst z; exact h.no.2.2.1 _ hs).trans hs)
      · exact .inr hs
  | .junk, _, a => by cases a; exact .junk _
  | .dct kk ds, _, a => by
    cases a with
    | dct h1 h2 h3 h4 => exact .dct ((cutP_ne fun z => by subst z; exact h.noK _ h1).trans h1) h2 h3 (Ats.cutP h ds _ h4)
  | .exn C own ns ds, _, a => by
    cases a with
    | exn h1 h2 hl ha =>
      obtain ⟨oe, e1, e2⟩ := h1
      refine .exn ⟨oe, (cutP_ne fun z => by subst z; exact h.no.2.2.2.1 _ e1).trans e1, e2⟩ ?_ hl (Ats.cutP h ds _ ha)
      unfold ExDx at *
      by_cases q : own = true
      · rw [if_pos q] at h2 ⊢
        obtain ⟨dx, e3, e4⟩ := h2
        exact ⟨dx, e3, (cutP_ne fun z => by subst z; exact h.no.2.2.2.2.1 _ e4).trans e4⟩
      · rw [if_neg q] at h2 ⊢; exact h2
  | .ins C ns ds, _, a => by
    cases a with
    | ins hs hl ha => exact .ins ((cutP_ne fun z => by subst z; exact h.no.2.2.2.2.2 _ _ _ hs).trans hs) hl (Ats.cutP h ds _ ha)
theorem Ats.cutP (h : AtDic F p) : ∀ (ds : List D) (vs : List V), Ats K F vs ds → Ats K (DL.cutP p F) vs ds
  | [], _, a => by cases a; exact .nil
  | d :: ds, _, a => by
    cases a with
    | cons h1 h2 => exact .cons (At.cutP h d _ h1) (Ats.cutP h ds _ h2)
end
theorem cutP_no {b : Addr} (h : F b = none) : cutP p F b = none := by
  unfold cutP
  split
  · rfl
  · exact h
mutual
theorem Own.cutP {H H' : Hp} (h : AtDic F p) : ∀ (x : Val) (v : V) (g : List Addr), Own K F H v x g → x.free = true → (∀ b ∈ g, H' b = H b) → Own K (DL.cutP p F) H' v x g
  | .sh d, _, _, a, _, _ => by
    cases a with
    | sh a => exact .sh (At.cutP h d _ a)
  | .lst xs, _, _, a, c, e => by
    cases a with
    | lst h1 h2 h3 => exact .lst (cutP_no h1) ((e _ List.mem_cons_self).trans h2) (Owns.cutP h xs _ _ h3 (by rw [Val.free] at c; exact c) fun b hb => e b (List.mem_cons_of_mem _ hb))
  | .tup xs, _, _, a, c, e => by
    cases a with
    | tup h1 h2 h3 => exact .tup (cutP_no h1) ((e _ List.mem_cons_self).trans h2) (Owns.cutP h xs _ _ h3 (by rw [Val.free] at c; exact c) fun b hb => e b (List.mem_cons_of_mem _ hb))
  | .dic b ds, _, _, a, c, e => by
    cases a with
    | dic h1 h2 h3 h4 h5 => exact .dic (cutP_no h1) (h2.eq (e _ List.mem_cons_self)) h3 (Ats.cutP h _ _ h4) h5
    | dicL _ _ z => rw [Val.free, z] at c; cases c
  | .obj _ _ _, _, _, a, c, e => by rw [Val.free] at c; cases c
  | .dcv _ _, _, _, a, c, e => by rw [Val.free] at c; cases c
  | .at p x, _, _, a, c, e => by
    cases a with
    | «at» a => exact .at (Own.cutP h x _ _ a (by rw [Val.free] at c; exact c) e)
theorem Owns.cutP {H H' : Hp} (h : AtDic F p) : ∀ (xs : List Val) (vs : List V) (g : List Addr), Owns K F H vs xs g → frees xs = true → (∀ b ∈ g, H' b = H b) → Owns K (DL.cutP p F) H' vs xs g
  | [], _, _, a, _, _ => by cases a; exact .nil
  | x :: xs, _, _, a, c, e => by
    rw [frees, Bool.and_eq_true] at c
    cases a with
    | cons h1 h2 => exact .cons (Own.cutP h x _ _ h1 c.1 fun b hb => e b (List.mem_append_left _ hb)) (Owns.cutP h xs _ _ h2 c.2 fun b hb => e b (List.mem_append_right _ hb))
end
theorem Sl.cutP {H H' : Hp} (h : AtDic F p) : ∀ {σ : L2.St} {ρ : DEnv} {g : List Addr}, Sl K F H σ ρ g → ρ.all freeO = true → (∀ b ∈ g, H' b = H b) → Sl K (DL.cutP p F) H' σ ρ g
  | _, _, _, .nil, _, _ => .nil
  | _, _, _, .un t, c, e => .un (Sl.cutP h t (by
      rw [List.all_cons, Bool.and_eq_true] at c
      exact c.2) e)
  | _, _, _, .bd a t, c, e => by
    rw [List.all_cons, Bool.and_eq_true] at c
    exact .bd (Own.cutP h _ _ _ a c.1 fun b hb => e b (List.mem_append_left _ hb)) (Sl.cutP h t c.2 fun b hb => e b (List.mem_append_right _ hb))
end

/-! ### a statement under a lock -/
def DB.lk (b : DB) (p : Addr) : DB := ⟨some p, true, b.tk, b.ks⟩
/-- slot i is y -/
def Fl.put (i : Nat) (y : Val) : Fl → Fl
  | .nx ρ => .nx (ρ.set i (some y))
  | .rt x ρ => .rt x (ρ.set i (some y))
  | .bk ρ => .bk (ρ.set i (some y))
  | .ct ρ => .ct (ρ.set i (some y))
  | .exc _ _ => .bad
  | .bad => .bad
theorem Fl.put_put (i : Nat) (y z : Val) (r : Fl) : (r.put i y).put i z = r.put i z := by
  cases r <;> simp [Fl.put, List.set_set]
def envF (i : Nat) (ρ : DEnv) : Bool := decide (i < ρ.length) && (ρ.set i none).all freeO
def Fl.fine (i : Nat) : Fl → Bool
  | .nx ρ => envF i ρ
  | .rt x ρ => envF i ρ && x.free
  | .bk ρ => envF i ρ
  | .ct ρ => envF i ρ
  | .exc _ _ => false
  | .bad => false
def Lkd (i : Nat) (b : DB) (ds : List D) (f : DEnv → Fl) (ρ : DEnv) (r : Fl) : Prop := r.fine i = true ∧ ∀ p, f (ρ.set i (some (.dic (b.lk p) ds))) = r.put i (.dic (b.lk p) ds)
open Classical in
noncomputable def lkD (i : Nat) (f : DEnv → Fl) (ρ : DEnv) (o : Option Val) : Fl := match o with
  | some (.dic b ds) => if h : b.lock = false ∧ b.at_ = none ∧ ∃ r, Lkd i b ds f ρ r then h.2.2.choose.put i (.dic b ds) else .bad
  | _ => .bad
noncomputable def sLkD (i : Nat) (f : DEnv → Fl) : DEnv → Fl := fun ρ => lkD i f ρ (getV ρ[i]?)
theorem lkD_eq {i : Nat} {f : DEnv → Fl} {ρ : DEnv} {b : DB} {ds : List D} (h0 : b.lock = false) (h1 : b.at_ = none) {r : Fl} (h : Lkd i b ds f ρ r) : lkD i f ρ (some (.dic b ds)) = r.put i (.dic b ds) := by
  have hx : b.lock = false ∧ b.at_ = none ∧ ∃ r, Lkd i b ds f ρ r := ⟨h0, h1, r, h⟩
  unfold lkD
  simp only
  rw [dif_pos hx]
  have e := hx.2.2.choose_spec.2 0
  rw [h.2 0] at e
  have e2 := congrArg (Fl.put i (.dic b ds)) e
  rw [Fl.put_put, Fl.put_put] at e2
  exact e2.symm
section
variable {X : Cx} {i : Nat}
/-- the state behind the lock -/
theorem unlock_stt {K : PySem.W.Frag} {F0 H0 F H H' : Hp} {σ' : L2.St} {ρ2 : DEnv} {as : List V} {bs : List Val} {vs : List V} {xs : List Val} {g : List Addr} {p : Addr} {od : Obj} {u : HO} {b : DB} {ds : List D} {us0 : List V}
    (h1 : Same F0 F) (h2 : Same H0 H) (h3 : Same F H) (h4 : ∀ c, F0 c = none → H0 c ≠ none → F c = none) (h6 : Owns K F H vs xs g) (ng : g.Nodup) (h8 : ∀ c ∈ g, H0 c = none) (pg : p ∉ g) (Fp : F p = none) (Hp0 : H0 p = none) (hu : HoOf b us0 u) (hL : b.lock = false) (hA : b.at_ = none)
    (s : Stt K (upd F p (.frz od u)) (fun c => if c = p then some (.frz od u) else if c ∈ g then H c else H0 c) H' σ' (ρ2.set i (some (.dic (b.lk p) ds))) as bs) (hf : envF i ρ2 = true) (hb : frees bs = true) :
    H' p = some (.frz od u) ∧ Stt K F0 H0 (upd H' p u) σ' (ρ2.set i (some (.dic b ds))) (as ++ vs) (bs ++ xs) := by
  obtain ⟨F', f', g', k1, k2, k3, k4, k5, k6, k7, k8⟩ := s
  have eF : F' p = some (.frz od u) := k1 p _ (upd_same ..)
  have eH : H' p = some (.frz od u) := k3 p _ eF
  refine ⟨eH, ?_⟩
  unfold envF at hf
  rw [Bool.and_eq_true] at hf
  have hi : i < ρ2.length := of_decide_eq_true hf.1
  obtain ⟨v, g1, r, t1, t2, t3, t4⟩ := Sl.take i k5 (x := .dic (b.lk p) ds) (by rw [List.getElem?_set_self hi])
  rw [List.set_set] at t3
  have AD : AtDic F' p := ⟨b, us0, u, od, hu, eF⟩
  -- the dict itself
  have hd : ∃ us, v = .ref p ∧ g1 = [] ∧ HoOf b us u ∧ b.ks.Nodup ∧ b.ks.length = us.length ∧ Ats K F' us ds := by
    cases t2 with
    | dic _ _ _ _ z => cases z
    | @dicL p' us _ _ u' o' q1 q2 q3 q4 q5 q6 q7 =>
      have ep : p' = p := q4 p rfl
      subst ep
      rw [eF] at q2
      cases q2
      exact ⟨us, rfl, rfl, q1, q5, q6, q7⟩
  obtain ⟨us, rfl, rfl, d1, d2, d3, d4⟩ := hd
  have nr : ∀ c ∈ r, c ≠ p ∧ c ∉ g ∧ H0 c = none := fun c hc => by
    have z := k8 c (List.mem_append_right _ (t4.1 c (List.mem_append_right _ hc)))
    simp only at z
    by_cases e : c = p
    · rw [if_pos e] at z; cases z
    · rw [if_neg e] at z
      by_cases e2 : c ∈ g
      · rw [if_pos e2] at z
        exact absurd z (Owns.no _ _ _ h6 c e2).2
      · rw [if_neg e2] at z
        exact ⟨e, e2, z⟩
  have ng' : ∀ c ∈ g', c ≠ p ∧ c ∉ g ∧ H0 c = none := fun c hc => by
    have z := k8 c (List.mem_append_left _ hc)
    simp only at z
    by_cases e : c = p
    · rw [if_pos e] at z; cases z
    · rw [if_neg e] at z
      by_cases e2 : c ∈ g
      · rw [if_pos e2] at z
        exact absurd z (Owns.no _ _ _ h6 c e2).2
      · rw [if_neg e2] at z
        exact ⟨e, e2, z⟩
  have hup : ∀ c, c ≠ p → upd H' p u c = H' c := fun c hc => upd_ne hc
  have sFF : Same F (cutP p F') := fun c w e => by
    have hc : c ≠ p := fun z => by rw [z, Fp] at e; cases e
    rw [cutP_ne hc]
    exact k1 c w (by rw [upd_ne hc]; exact e)
  have gH : ∀ c ∈ g, H' c = H c := fun c hc => by
    have hcp : c ≠ p := fun z => pg (z ▸ hc)
    cases e : H c with
    | none => exact absurd e (Owns.no _ _ _ h6 c hc).2
    | some w => exact k2 c w (by simp only; rw [if_neg hcp, if_pos hc]; exact e)
  have gF : ∀ c ∈ g, cutP p F' c = none := fun c hc => by
    have hcp : c ≠ p := fun z => pg (z ▸ hc)
    rw [cutP_ne hcp]
    refine k4 c ?_ ?_
    · rw [upd_ne hcp]; exact (Owns.no _ _ _ h6 c hc).1
    · simp only; rw [if_neg hcp, if_pos hc]; exact (Owns.no _ _ _ h6 c hc).2
  have S1 : Sl K (cutP p F') (upd H' p u) σ' (ρ2.set i none) r := Sl.cutP AD t3 hf.2 fun c hc => hup c (nr c hc).1
  have O1 : Owns K (cutP p F') (upd H' p u) as bs g' := Owns.cutP AD _ _ _ k6 hb fun c hc => hup c (ng' c hc).1
  have O2 : Owns K (cutP p F') (upd H' p u) vs xs g := Owns.mono sFF _ _ _ h6 fun c hc => ⟨gF c hc, (hup c fun z => pg (z ▸ hc)).trans (gH c hc)⟩
  obtain ⟨g2, c1, c2, c3⟩ := O1.append O2
  have dOwn : Own K (cutP p F') (upd H' p u) (.ref p) (.dic b ds) [p] := .dic (by unfold cutP; rw [if_pos rfl]) ⟨⟨(fun a e => by rw [hA] at e; cases e), d2⟩, u, d1, .inl ⟨hL, upd_same ..⟩⟩ d3 (Ats.cutP AD _ _ d4) hL
  obtain ⟨f2, S2, S3⟩ := Sl.put i S1 (by simpa using hi) dOwn
  rw [List.set_set] at S2
  have es : σ'.set i (some (.ref p)) = σ' := by
    refine List.ext_getElem? fun j => ?_
    by_cases hj : i = j
    · subst hj
      rw [List.getElem?_set_self (List.getElem?_eq_some_iff.mp t1).1, t1]
    · rw [List.getElem?_set_ne hj]
  rw [es] at S2
  have nd : ((g' ++ g) ++ ([p] ++ r)).Nodup := by
    have n1 : (g' ++ r).Nodup := by
      have s1 : Sb (g' ++ r) (g' ++ f') := (Sb.refl g').app (t4.trans (.refl _))
      exact s1.2 k7
    rw [List.nodup_append] at n1
    rw [List.nodup_append, List.nodup_append]
    refine ⟨⟨n1.1, ng, fun x hx y hy e => ?_⟩, List.nodup_cons.mpr ⟨fun z => (nr p z).1 rfl, n1.2.1⟩, fun x hx y hy e => ?_⟩
    · subst e; exact (ng' x hx).2.1 hy
    · subst e
      rcases List.mem_append.mp hx with hx | hx
      · rcases List.mem_cons.mp hy with e | hy
        · exact (ng' x hx).1 e
        · exact n1.2.2 x hx x hy rfl
      · rcases List.mem_cons.mp hy with e | hy
        · rw [e] at hx; exact pg hx
        · exact (nr x hy).2.1 hx
  have ss : Sb (g2 ++ f2) ((g' ++ g) ++ ([p] ++ r)) := c2.app S3
  refine ⟨cutP p F', f2, g2, h1.trans sFF, fun c w e => ?_, fun c w e => ?_, fun c z1 z2 => ?_, S2, c1, ss.2 nd, fun c hc => ?_⟩
  · have hcp : c ≠ p := fun z => by rw [z, Hp0] at e; cases e
    have hcg : c ∉ g := fun z => by rw [h8 c z] at e; cases e
    rw [hup c hcp]
    exact k2 c w (by simp only; rw [if_neg hcp, if_neg hcg]; exact e)
  · have hcp : c ≠ p := fun z => by
      rw [z] at e
      unfold cutP at e
      rw [if_pos rfl] at e; cases e
    rw [cutP_ne hcp] at e
    rw [hup c hcp]; exact k3 c w e
  · have hcp : c ≠ p := fun z => z2 (by rw [z]; exact Hp0)
    have hcg : c ∉ g := fun z => z2 (h8 c z)
    rw [cutP_ne hcp]
    refine k4 c ?_ ?_
    · rw [upd_ne hcp]; exact h4 c z1 z2
    · simp only; rw [if_neg hcp, if_neg hcg]; exact z2
  · rcases List.mem_append.mp (ss.1 c hc) with z | z
    · rcases List.mem_append.mp z with z | z
      · exact (ng' c z).2.2
      · exact h8 c z
    · rcases List.mem_cons.mp z with e | z
      · rw [e]; exact Hp0
      · exact (nr c z).2.2
theorem ho_mut {b : DB} {us : List V} {u : HO} (h : HoOf b us u) : Mut (some u) := by
  rcases h with ⟨_, rfl⟩ | ⟨_, _, _, rfl⟩ <;> trivial
theorem ds_lkD {st : Stmt} {f : DEnv → Fl} (h : DS X st f) : DS X st (sLkD i f) :=
  PS.imp (ps_lock h) fun D σ H ⟨F0, H0, ρ, vs, xs, s, q⟩ => by
    unfold sLkD at q
    cases e : getV ρ[i]? with
    | none => rw [e] at q; exact q.elim
    | some z =>
      rw [e] at q
      match z, e, q with
      | .sh _, _, q => exact q.elim
      | .lst _, _, q => exact q.elim
      | .tup _, _, q => exact q.elim
      | .dic b ds, e, q =>
        by_cases hx : b.lock = false ∧ b.at_ = none ∧ ∃ r, Lkd i b ds f ρ r
        rotate_left
        · unfold lkD at q
          simp only at q
          rw [dif_neg hx] at q
          exact q.elim
        obtain ⟨hL, hA, r, hr⟩ := hx
        rw [lkD_eq hL hA hr] at q
        obtain ⟨F, fp, g, h1, h2, h3, h4, h5, h6, h7, h8⟩ := s
        obtain ⟨v, g1, r1, t1, t2, t3, t4⟩ := Sl.take i h5 (getV_some e)
        cases t2 with
        | dicL _ _ z => rw [hL] at z; cases z
        | @dic p us _ _ c1 c2 c3 c4 c5 =>
          obtain ⟨⟨_, nk⟩, u, hu, hH⟩ := c2
          have hH : H p = some u := by
            rcases hH with ⟨_, z⟩ | ⟨z, _⟩
            · exact z
            · rw [hL] at z; cases z
          refine ⟨p, u, hH, ho_mut hu, fun od => ?_⟩
          have h7' := List.nodup_append.mp h7
          have pf : p ∈ fp := t4.1 p List.mem_cons_self
          have pg : p ∉ g := fun z => h7'.2.2 p z p pf rfl
          have Hp0 : H0 p = none := h8 p (List.mem_append_right _ pf)
          have ndp : ([p] ++ r1).Nodup := t4.2 h7'.2.1
          have npr : p ∉ r1 := (List.nodup_cons.mp ndp).1
          have hi : i < ρ.length := (List.getElem?_eq_some_iff.mp (getV_some e)).1
          have sFu : Same F (upd F p (.frz od u)) := fun c w z => by
            rw [upd_ne fun y => by rw [y, c1] at z; cases z]; exact z
          have S0 : Sl X.K (upd F p (.frz od u)) (upd H p (.frz od u)) σ (ρ.set i none) r1 := Sl.mono sFu t3 fun c hc => by
            have hcp : c ≠ p := fun z => npr (z ▸ hc)
            rw [upd_ne hcp, upd_ne hcp]
            exact ⟨(Sl.no t3 c hc).1, rfl⟩
          have dL : Own X.K (upd F p (.frz od u)) (upd H p (.frz od u)) (.ref p) (.dic (b.lk p) ds) [] := .dicL (u := u) (o := od) hu (upd_same ..) rfl (fun a z => by cases z; rfl) nk c3 (Ats.mono sFu _ _ c4)
          obtain ⟨f2, S2, S3⟩ := Sl.put i S0 (by simpa using hi) dL
          rw [List.set_set] at S2
          have es : σ.set i (some (.ref p)) = σ := by
            refine List.ext_getElem? fun j => ?_
            by_cases hj : i = j
            · subst hj
              rw [List.getElem?_set_self (List.getElem?_eq_some_iff.mp t1).1, t1]
            · rw [List.getElem?_set_ne hj]
          rw [es] at S2
          have S3 : Sb f2 r1 := by simpa using S3
          have st : Stt X.K (upd F p (.frz od u)) (fun c => if c = p then some (.frz od u) else if c ∈ g then H c else H0 c) (upd H p (.frz od u)) σ (ρ.set i (some (.dic (b.lk p) ds))) [] [] := by
            refine ⟨_, f2, [], Same.refl _, fun c w z => ?_, fun c w z => ?_, fun c z _ => z, S2, .nil, ?_, fun c hc => ?_⟩
            · simp only at z
              by_cases hcp : c = p
              · rw [if_pos hcp] at z
                rw [hcp, upd_same]; exact z
              · rw [if_neg hcp] at z
                rw [upd_ne hcp]
                by_cases hcg : c ∈ g
                · rw [if_pos hcg] at z; exact z
                · rw [if_neg hcg] at z; exact h2 c w z
            · by_cases hcp : c = p
              · rw [hcp, upd_same] at z ⊢; exact z
              · rw [upd_ne hcp] at z ⊢; exact h3 c w z
            · rw [List.nil_append]; exact S3.2 (List.nodup_cons.mp ndp).2
            · have hc := S3.1 c hc
              have hcp : c ≠ p := fun z => npr (z ▸ hc)
              have hcf : c ∈ fp := t4.1 c (List.mem_append_right _ hc)
              have hcg : c ∉ g := fun z => h7'.2.2 c z c hcf rfl
              simp only
              rw [if_neg hcp, if_neg hcg]
              exact h8 c (List.mem_append_right _ hcf)
          refine ⟨_, _, _, [], [], st, ?_⟩
          rw [hr.2 p]
          have hfine := hr.1
          have U := fun (as : List V) (bs : List Val) (σ' : L2.St) (ρ2 : DEnv) (H' : Hp) s hf hb => unlock_stt (i := i) (od := od) (σ' := σ') (ρ2 := ρ2) (H' := H') (as := as) (bs := bs) (ds := ds) h1 h2 h3 h4 h6 h7'.1 (fun c hc => h8 c (List.mem_append_left _ hc)) pg c1 Hp0 hu hL hA s hf hb
          cases r with
          | bad => cases hfine
          | exc _ _ => cases hfine
          | nx ρ2 => exact fun σ' H' s2 => let z := U [] [] σ' ρ2 H' s2 hfine rfl; ⟨z.1, q _ _ z.2⟩
          | bk ρ2 => exact fun σ' H' s2 => let z := U [] [] σ' ρ2 H' s2 hfine rfl; ⟨z.1, q _ _ z.2⟩
          | ct ρ2 => exact fun σ' H' s2 => let z := U [] [] σ' ρ2 H' s2 hfine rfl; ⟨z.1, q _ _ z.2⟩
          | rt y ρ2 =>
            have hfine : (envF i ρ2 && y.free) = true := hfine
            rw [Bool.and_eq_true] at hfine
            exact fun σ' H' v s2 => let z := U [v] [y] σ' ρ2 H' s2 hfine.1 (by rw [frees, hfine.2]; rfl); ⟨z.1, q _ _ _ z.2⟩
end
/-! ### what is walked -/
def keyV (tk : Bool) (k : List Key) : D := if tk = true then .tup (k.map kD) else match k with
  | [x] => kD x
  | _ => .junk
def sKeys (i : Nat) : DEnv → R (List D) := fun ρ => match getV ρ[i]? with
  | some (.dic b ds) => if b.lock = true then .ok (b.ks.map (keyV b.tk)) ρ else .bad
  | _ => .bad
theorem key_kD {K : PySem.W.Frag} {F : Hp} (k : Key) : At K F (kV k) (kD k) := by
  cases k with
  | inl n => exact .int n
  | inr z => exact .str z
theorem keys_kD {K : PySem.W.Frag} {F : Hp} : ∀ k : List Key, Ats K F (k.map kV) (k.map kD)
  | [] => .nil
  | x :: k => .cons (key_kD x) (keys_kD k)
section
variable {X : Cx} {i : Nat} {x : Str} {q : Pos} {tg : Expr}
theorem walk_dK {K : PySem.W.Frag} {F0 : Hp} {p : Addr} {o : Obj} {kk : List Key} {us : List V} (hl : kk.length = us.length) (h : F0 p = some (.frz o (.dK (kk.zip us)))) : Walk K F0 (Itk p o (kk.zip us)) (kk.map kD) := fun j H hF => by
  have hz : (kk.zip us).length = kk.length := by rw [List.length_zip]; omega
  refine ⟨fun d e => ?_, fun hi => ⟨hF _ _ h, by rw [hz]; simpa using hi⟩⟩
  rw [List.getElem?_map] at e
  obtain ⟨k, e1, rfl⟩ := Option.map_eq_some_iff.mp e
  have hj : j < kk.length := (List.getElem?_eq_some_iff.mp e1).1
  refine ⟨⟨hF _ _ h, by rw [hz]; exact hj⟩, fun y H' hy H0 σ ρ vs xs s => ?_⟩
  obtain ⟨rfl, k', v', e2, rfl⟩ := hy
  have e3 : k' = k := by
    rw [List.getElem?_zip_eq_some] at e2
    rw [e2.1] at e1
    exact Option.some.inj e1
  subst e3
  exact s.scal fun F => key_kD k'
/-- for k in d: a locked dict whose keys are ints and texts -/
def sKeysK (i : Nat) : DEnv → R (List D) := fun ρ => match getV ρ[i]? with
  | some (.dic b ds) => if b.lock = true ∧ b.tk = false then .ok (b.ks.map (keyV false)) ρ else .bad
  | _ => .bad
theorem keyV_one (kk : List Key) : (kk.map fun k => [k]).map (keyV false) = kk.map kD := by rw [List.map_map]; rfl
theorem di_keysK (hx : PE X (.Name x q) (tVar i)) : DI X tg (.Name x q) (sKeysK i) :=
  PI.imp (pi_keys hx) fun σ H RR ⟨F0, H0, ρ, vs, xs, s, q⟩ => by
    unfold sKeysK at q
    cases e : getV ρ[i]? with
    | none => rw [e] at q; exact q.elim
    | some z =>
      rw [e] at q
      match z, e, q with
      | .sh _, _, q => exact q.elim
      | .lst _, _, q => exact q.elim
      | .tup _, _, q => exact q.elim
      | .dic b ds, e, q =>
        simp only at q
        by_cases hb : b.lock = true ∧ b.tk = false
        rotate_left
        · rw [if_neg hb] at q; exact q.elim
        rw [if_pos hb] at q
        obtain ⟨F, h3, h1, s2, rb⟩ := Stt.rebaseAt (as := []) (ds := []) rfl s
        -- the dict stands in F
        have s' := s
        obtain ⟨F, f, g, h1, h2, h3, h4, h5, h6, h7, h8⟩ := s
        obtain ⟨v, g1, r, t1, t2, t3, t4⟩ := Sl.take i h5 (getV_some e)
        cases t2 with
        | dic _ _ _ _ z => rw [hb.1] at z; cases z
        | @dicL p us _ _ u o c1 c2 c3 c4 c5 c6 c7 =>
          rcases c1 with ⟨ht, _⟩ | ⟨_, kk, ek, rfl⟩
          · rw [hb.2] at ht; cases ht
          refine ⟨_, t1, p, o, rfl, .inl ⟨_, h3 _ _ c2, ?_⟩⟩
          rw [ek, keyV_one] at q
          have hl : kk.length = us.length := by rw [ek, List.length_map] at c6; exact c6
          exact q F H _ ⟨F, f, g, Same.refl _, h2, h3, fun c z _ => z, h5, h6, h7, h8⟩ (fun H' σ' ρ' vs' xs' k => by
            obtain ⟨F', f', g', k1, k2, k3, k4, k5, k6, k7, k8⟩ := k
            exact ⟨F', f', g', h1.trans k1, k2, k3, fun c z1 z2 => k4 c (h4 c z1 z2) z2, k5, k6, k7, k8⟩) (walk_dK hl c2)
/-- sorted(d), int keys -/
def intK : List (List Key) → Option (List Int)
  | [] => some []
  | [.inl n] :: r => (intK r).map (n :: ·)
  | _ => none
theorem intK_some : ∀ {ks : List (List Key)} {ns : List Int}, intK ks = some ns → ks = ns.map fun n => [Sum.inl n]
  | [], ns, h => by cases h; rfl
  | [] :: r, ns, h => by cases h
  | [.inr z] :: r, ns, h => by cases h
  | (a :: b :: c) :: r, ns, h => by cases a <;> cases h
  | [.inl n] :: r, ns, h => by
    obtain ⟨ms, e1, rfl⟩ := Option.map_eq_some_iff.mp (show (intK r).map (n :: ·) = some ns from h)
    rw [intK_some e1]; rfl
def sortO (o : Option Val) : Option Val := match o with
  | some (.dic b _) => if b.tk = false then (intK b.ks).bind fun ns => if ns.length ≤ 63 then some (.lst ((ssI ns).map fun x => .sh (.int x))) else none else none
  | _ => none
def sSortD (i : Nat) : DEnv → R Val := fun ρ => liftO (sortO (getV ρ[i]?)) ρ
theorem de_sortD {p pos : Pos} (hc : X.calm = true) (hg : Gl X "sorted") (hm : X.mg "sorted" = none) (hx : PE X (.Name x q) (tVar i)) (h1 : starEach [.Name x q] X.env = (false, eval (.Name x q) X.env) :: starEach [] X.env := by rfl) :
    DE X (.Call (.Name "sorted" p) [.Name x q] [] pos) (sSortD i) :=
  PE.imp (pe_callB (call_sortedDI hc) hg hm (by decide +kernel) (pa_cons hx pa_nil h1) (he := h1)) fun σ H Q ⟨F0, H0, ρ, vs, xs, s, q⟩ => by
    unfold sSortD at q
    cases e : getV ρ[i]? with
    | none => rw [e] at q; exact q.elim
    | some z =>
      rw [e] at q
      match z, e, q with
      | .sh _, _, q => exact q.elim
      | .lst _, _, q => exact q.elim
      | .tup _, _, q => exact q.elim
      | .dic b ds, e, q =>
        cases e2 : sortO (some (.dic b ds)) with
        | none => rw [e2] at q; exact q.elim
        | some z =>
          rw [e2] at q
          have e2 : (if b.tk = false then (intK b.ks).bind fun ns => if ns.length ≤ 63 then some (Val.lst ((ssI ns).map fun x => .sh (.int x))) else none else none) = some z := e2
          split at e2
          rotate_left
          · cases e2
          rename_i ht
          obtain ⟨ns, e3, e4⟩ := Option.bind_eq_some_iff.mp e2
          split at e4
          rotate_left
          · cases e4
          rename_i hl
          cases e4
          obtain ⟨v, t1, F, f, hF, ho, tell⟩ := s.peek (getV_some e)
          obtain ⟨p, us, rfl, hd, hlen, ha⟩ := ho.dicAt hF
          have nk := hd.1.2
          obtain ⟨u, hu, rd⟩ := hd.rd
          rcases hu with ⟨z, _⟩ | ⟨_, kk, ek, rfl⟩
          · rw [ht] at z; cases z
          have en := intK_some e3
          have ekk : kk = ns.map Sum.inl := by
            rw [ek] at en
            have : ∀ (a : List Key) (n : List Int), a.map (fun k => [k]) = n.map (fun n => [Sum.inl n]) → a = n.map Sum.inl := by
              intro a
              induction a with
              | nil => intro n h; cases n with
                | nil => rfl
                | cons _ _ => cases h
              | cons y a ih =>
                intro n h
                cases n with
                | nil => cases h
                | cons m n =>
                  rw [List.map_cons, List.map_cons] at h
                  injection h with h1 h2
                  injection h1 with h3 _
                  rw [h3, List.map_cons, ih n h2]
            exact this _ _ en
          have kz : (kk.zip us).map (·.1) = kk := by
            rw [List.map_fst_zip]
            rw [ek, List.length_map] at hlen; omega
          have nn : ns.Nodup := by
            rw [ek, ekk, List.map_map] at nk
            exact List.Pairwise.of_map _ (fun a b h e => h (by rw [e])) nk
          refine ⟨_, t1, p, _, ns, rfl, rd, kz.trans ekk, by omega, fun ys p3 k1 k2 np => ?_⟩
          have em : ys = ssI ns := by
            refine sorted_eq ?_ sorted_ssI fun y => by rw [mem_ssI, k1.mem_iff]
            have ny : ys.Nodup := k1.nodup_iff.mpr nn
            exact (List.Pairwise.and k2 ny).imp fun ⟨h1, h2⟩ => by omega
          subst em
          have s3 := (s.puts (ssI ns)).newLst (by simp) np
          rw [sh_map] at s3
          exact q _ _ s3
end
/-! ### reckoning -/
@[simp] theorem sDNew_ap {tk : Bool} {ρ : DEnv} : sDNew tk ρ = .ok (.dic (.new tk) []) ρ := id rfl
@[simp] theorem sDIn_ap {n : Bool} {i : Nat} {f : DEnv → R Val} {ρ : DEnv} : sDIn n i f ρ = (f ρ).bind fun y ρ1 => liftO (dicIn n (getV ρ1[i]?) y.fz) ρ1 := id rfl
def dgO (o : Option Val) (k : R Val) : R Val := match o with
  | none => .bad
  | some _ => k
@[simp] theorem dgO_s {x : Val} {k : R Val} : dgO (some x) k = k := id rfl
@[simp] theorem sDGet_ap {i : Nat} {f : DEnv → R Val} {ρ : DEnv} : sDGet i f ρ = dgO (getV ρ[i]?) ((f ρ).bind fun y ρ1 => liftO (dicGet (getV ρ1[i]?) y.fz) ρ1) := by
  unfold sDGet dgO
  cases getV ρ[i]? <;> rfl
def dpO (o : Option Val) (k : Fl) : Fl := match o with
  | none => .bad
  | some _ => k
@[simp] theorem dpO_s {x : Val} {k : Fl} : dpO (some x) k = k := id rfl
@[simp] theorem sDPut_ap {i : Nat} {fk fv : DEnv → R Val} {ρ : DEnv} : sDPut' i fk fv ρ = (fv ρ).fl fun v ρ1 => dpO (getV ρ1[i]?) ((fk ρ1).fl fun y ρ2 => dicPut (getV ρ2[i]?) i y.fz v.fz ρ2) := by
  unfold sDPut'
  congr 1
@[simp] theorem sLkD_ap {i : Nat} {f : DEnv → Fl} {ρ : DEnv} : sLkD i f ρ = lkD i f ρ (getV ρ[i]?) := id rfl
@[simp] theorem sSortD_ap {i : Nat} {ρ : DEnv} : sSortD i ρ = liftO (sortO (getV ρ[i]?)) ρ := id rfl
def ksR (o : Option Val) (ρ : DEnv) : R (List D) := match o with
  | some (.dic b ds) => if b.lock = true ∧ b.tk = false then .ok (b.ks.map (keyV false)) ρ else .bad
  | _ => .bad
@[simp] theorem sKeysK_ap {i : Nat} {ρ : DEnv} : sKeysK i ρ = ksR (getV ρ[i]?) ρ := id rfl
@[simp] theorem ksR_d {b : DB} {ds : List D} {ρ : DEnv} : ksR (some (.dic b ds)) ρ = if b.lock = true ∧ b.tk = false then .ok (b.ks.map (keyV false)) ρ else .bad := id rfl
/-! ### dicts of ints -/
/-- the dict of these pairs -/
def dI (kvs : List (Int × D)) : Val := .dic ⟨none, false, false, kvs.map fun p => [Sum.inl p.1]⟩ (kvs.map (·.2))
def dIL (p : Addr) (kvs : List (Int × D)) : Val := .dic ⟨some p, true, false, kvs.map fun p => [Sum.inl p.1]⟩ (kvs.map (·.2))
def lookI : List (Int × D) → Int → Option D
  | [], _ => none
  | p :: r, k => if p.1 = k then some p.2 else lookI r k
theorem look_dI (kvs : List (Int × D)) (k : Int) : lookD (kvs.map fun p => [Sum.inl p.1]) (kvs.map (·.2)) [Sum.inl k] = lookI kvs k := by
  induction kvs with
  | nil => rfl
  | cons p r ih =>
    rw [List.map_cons, List.map_cons, lookD, lookI, ih]
    by_cases h : p.1 = k
    · rw [if_pos h, if_pos (by rw [h])]
    · rw [if_neg h, if_neg (fun z => h (by simpa using z))]
@[simp] theorem in_dI {n : Bool} {kvs : List (Int × D)} {k : Int} : dicIn n (some (dI kvs)) (.int k) = some (.sh (.bl (n != (lookI kvs k).isSome))) := by
  have e : keyOf false (D.int k) = some [Sum.inl k] := rfl
  unfold dI dicIn
  simp only
  rw [e, Option.map_some, look_dI]
@[simp] theorem in_dIL {n : Bool} {p : Addr} {kvs : List (Int × D)} {k : Int} : dicIn n (some (dIL p kvs)) (.int k) = some (.sh (.bl (n != (lookI kvs k).isSome))) := by
  have e : keyOf false (D.int k) = some [Sum.inl k] := rfl
  unfold dIL dicIn
  simp only
  rw [e, Option.map_some, look_dI]
theorem get_dI {kvs : List (Int × D)} {k : Int} : dicGet (some (dI kvs)) (.int k) = (lookI kvs k).map .sh := by
  have e : keyOf false (D.int k) = some [Sum.inl k] := rfl
  unfold dI dicGet
  simp only
  rw [e, Option.bind_some, look_dI]
theorem put_dI {kvs : List (Int × D)} {k : Int} {i : Nat} {v : D} {ρ : DEnv} (hn : lookI kvs k = none) (hl : kvs.length < 10000000) : dicPut (some (dI kvs)) i (.int k) v ρ = .nx (ρ.set i (some (dI (kvs ++ [(k, v)])))) := by
  have hp : ∀ kvs : List (Int × D), lookI kvs k = none → putD (kvs.map fun p => [Sum.inl p.1]) (kvs.map (·.2)) [Sum.inl k] v = ((kvs ++ [(k, v)]).map (fun p => [Sum.inl p.1]), (kvs ++ [(k, v)]).map (·.2)) := by
    intro kvs
    induction kvs with
    | nil => intro _; rfl
    | cons p r ih =>
      intro h
      unfold lookI at h
      by_cases e : p.1 = k
      · rw [if_pos e] at h; cases h
      · rw [if_neg e] at h
        have := ih h
        rw [List.map_cons, List.map_cons, putD]
        rw [if_neg (fun z => e (by simpa using z)), this]
        rfl
  show (if _ ∧ (kvs.map (·.2)).length < 10000000 then Fl.nx _ else .bad) = _
  rw [if_pos ⟨rfl, by rw [List.length_map]; exact hl⟩]
  show Fl.nx (ρ.set i (some (.dic ⟨none, false, false, (putD _ _ [Sum.inl k] v).1⟩ (putD _ _ [Sum.inl k] v).2))) = _
  rw [hp kvs hn]
  rfl
theorem new_dI : Val.dic (.new false) [] = dI [] := id rfl
theorem intK_map (l : List (Int × D)) : intK (l.map fun p => [Sum.inl p.1]) = some (l.map (·.1)) := by
  induction l with
  | nil => rfl
  | cons p r ih => rw [List.map_cons, intK, ih]; rfl
theorem sort_dI {kvs : List (Int × D)} (h : kvs.length ≤ 63) : sortO (some (dI kvs)) = some (.lst ((ssI (kvs.map (·.1))).map fun x => .sh (.int x))) := by
  show (if false = false then (intK _).bind _ else none) = _
  rw [if_pos rfl, intK_map, Option.bind_some, if_pos (by rw [List.length_map]; exact h)]
theorem keys_dIL {p : Addr} {kvs : List (Int × D)} {ρ : DEnv} : ksR (some (dIL p kvs)) ρ = .ok ((kvs.map (·.1)).map .int) ρ := by
  show (if true = true ∧ false = false then R.ok _ ρ else .bad) = _
  rw [if_pos ⟨rfl, rfl⟩, List.map_map, List.map_map]; rfl
/-- a walk over one: what the statement does with the dict locked -/
theorem lkD_dI {i : Nat} {f : DEnv → Fl} {ρ : DEnv} {kvs : List (Int × D)} {r : Fl} (hr : r.fine i = true) (h : ∀ p, f (ρ.set i (some (dIL p kvs))) = r.put i (dIL p kvs)) : lkD i f ρ (some (dI kvs)) = r.put i (dI kvs) := lkD_eq rfl rfl ⟨hr, h⟩
@[simp] theorem put_nx {i : Nat} {y : Val} {ρ : DEnv} : (Fl.nx ρ).put i y = .nx (ρ.set i (some y)) := id rfl
@[simp] theorem free_sh {d : D} : Val.free (.sh d) = true := by rw [Val.free]
theorem frees_all (ds : List Val) : frees ds = ds.all Val.free := by
  induction ds with
  | nil => rw [frees]; rfl
  | cons x xs ih => rw [frees, ih]; rfl
@[simp] theorem free_lst {xs : List Val} : Val.free (.lst xs) = xs.all Val.free := by rw [Val.free, frees_all]
@[simp] theorem free_tup {xs : List Val} : Val.free (.tup xs) = xs.all Val.free := by rw [Val.free, frees_all]
@[simp] theorem free_dI {kvs : List (Int × D)} : (dI kvs).free = true := by unfold dI; rw [Val.free]; rfl
@[simp] theorem freeO_n : freeO none = true := id rfl
@[simp] theorem freeO_s {x : Val} : freeO (some x) = x.free := id rfl
end DL

/-! DSP: sorted(set(xs)), xs a list of pairs of ints. -/
namespace DL
open PySem PySem.Spec L2
abbrev PB : Int := 1000000
def pcode (p : Int × Int) : Int := p.1 * PB + p.2
def pdec (c : Int) : Int × Int := (c / PB, c % PB)
def pok (p : Int × Int) : Bool := decide (0 ≤ p.1 ∧ p.1 < PB ∧ 0 ≤ p.2 ∧ p.2 < PB)
theorem pok_iff {p : Int × Int} : pok p = true ↔ 0 ≤ p.1 ∧ p.1 < 1000000 ∧ 0 ≤ p.2 ∧ p.2 < 1000000 := by
  unfold pok
  rw [decide_eq_true_eq]
theorem pdec_code {p : Int × Int} (h : pok p = true) : pdec (pcode p) = p := by
  have h := pok_iff.mp h
  unfold pdec pcode
  refine Prod.ext ?_ ?_
  · show (p.1 * 1000000 + p.2) / 1000000 = p.1
    omega
  · show (p.1 * 1000000 + p.2) % 1000000 = p.2
    omega
/-- ascending, each once -/
def ssP (ps : List (Int × Int)) : List (Int × Int) := (ssI (ps.map pcode)).map pdec
theorem ssP_mem {ps : List (Int × Int)} (h : ps.all pok = true) {p : Int × Int} : p ∈ ssP ps ↔ p ∈ ps := by
  rw [List.all_eq_true] at h
  unfold ssP
  rw [List.mem_map]
  constructor
  · rintro ⟨c, hc, rfl⟩
    rw [mem_ssI] at hc
    obtain ⟨q, hq, rfl⟩ := List.mem_map.mp hc
    rw [pdec_code (h q hq)]; exact hq
  · intro hp
    exact ⟨pcode p, mem_ssI.mpr (List.mem_map_of_mem hp), pdec_code (h p hp)⟩
def pT (p : Int × Int) : D := .tup [.int p.1, .int p.2]
def dPrs : List D → Option (List (Int × Int))
  | [] => some []
  | .tup [.int x, .int y] :: ds => (dPrs ds).map ((x, y) :: ·)
  | _ => none
theorem dPrs_map : ∀ ps : List (Int × Int), dPrs (ps.map pT) = some ps
  | [] => rfl
  | p :: ps => by
    show (dPrs (ps.map pT)).map _ = _
    rw [dPrs_map ps]; rfl
/-- how many pairs at most -/
def ssPD : D → Option Val
  | .lst ds => (dPrs ds).bind fun ps => if ps.length ≤ 63 ∧ ps.all pok = true then some (.lst ((ssP ps).map fun p => .sh (pT p))) else none
  | _ => none
def sSortSetP (f : DEnv → R Val) : DEnv → R Val := fun ρ => (f ρ).bind fun x ρ1 => liftO (ssPD x.fz) ρ1
section
variable {K : PySem.W.Frag} {F H : Hp}
/-- the tuples of a list, with their addresses -/
theorem ats_prs : ∀ {ds : List D} {us : List V} {ps : List (Int × Int)}, Ats K F us ds → dPrs ds = some ps → ∃ ks : List (Addr × List Int), us = ks.map (fun p => V.ref p.1) ∧ ks.map (·.2) = ps.map (fun p => [p.1, p.2]) ∧ ∀ q ∈ ks, TupAt K F q.1 (q.2.map V.int)
  | [], _, ps, .nil, h => by cases h; exact ⟨[], rfl, rfl, fun q hq => by cases hq⟩
  | .tup [.int x, .int y] :: ds, _, ps, .cons a t, h => by
    obtain ⟨ps', h1, h2⟩ := Option.map_eq_some_iff.mp (show (dPrs ds).map _ = some ps from h)
    subst h2
    obtain ⟨ks, e1, e2, e3⟩ := ats_prs t h1
    cases a with
    | @tup aa us _ ht ha =>
      cases ha with
      | cons b1 ha =>
        cases ha with
        | cons b2 ha =>
          cases ha
          cases b1
          cases b2
          refine ⟨(aa, [x, y]) :: ks, by rw [e1]; rfl, by rw [List.map_cons, e2]; rfl, fun q hq => ?_⟩
          rcases List.mem_cons.mp hq with rfl | hq
          · exact ht
          · exact e3 q hq
theorem ats_of_ks : ∀ {L : List (Addr × List Int)}, (∀ q ∈ L, TupAt K F q.1 (q.2.map V.int)) → Ats K F (L.map fun q => V.ref q.1) (L.map fun q => D.tup (q.2.map D.int))
  | [], _ => .nil
  | q :: L, h => .cons (.tup (h q List.mem_cons_self) (ats_intsF q.2 F)) (ats_of_ks fun r hr => h r (List.mem_cons_of_mem _ hr))
end
theorem code2 (x y : Int) : TS.code PB [x, y] = pcode (x, y) := by
  show x * PB ^ 1 + (y * PB ^ 0 + 0) = x * PB + y
  have e1 : (PB : Int) ^ 1 = PB := by decide
  have e0 : (PB : Int) ^ 0 = 1 := by decide
  rw [e1, e0, Int.mul_one, Int.add_zero]
/-- what the kit sorts is what is reckoned -/
theorem sorted_is {ps : List (Int × Int)} (hp : ps.all pok = true) {L' : List (Addr × List Int)} (h1 : ∀ q ∈ L', ∃ p ∈ ps, q.2 = [p.1, p.2]) (h2 : ∀ p ∈ ps, [p.1, p.2] ∈ L'.map (·.2)) (nd : (L'.map (·.2)).Nodup) (pw : L'.Pairwise (fun q r => TS.code PB q.2 ≤ TS.code PB r.2)) :
    L'.map (fun q => D.tup (q.2.map D.int)) = (ssP ps).map pT := by
  have hp' := List.all_eq_true.mp hp
  have st : (L'.map fun q => TS.code PB q.2).Pairwise (· < ·) := by
    rw [List.pairwise_map]
    have nd2 := List.pairwise_map.mp nd
    refine List.Pairwise.imp_of_mem (fun {q r} hq hr z => ?_) (pw.and nd2)
    obtain ⟨le, ne⟩ := z
    obtain ⟨p, pm, e1⟩ := h1 q hq
    obtain ⟨p', pm', e2⟩ := h1 r hr
    rw [e1, e2, code2, code2] at le
    rw [e1, e2] at ne
    rw [e1, e2, code2, code2]
    have k1 := pok_iff.mp (hp' p pm)
    have k2 := pok_iff.mp (hp' p' pm')
    unfold pcode PB at *
    dsimp only at *
    by_cases a : p.1 = p'.1
    · by_cases b : p.2 = p'.2
      · exact absurd (by rw [a, b]) ne
      · omega
    · omega
  have mem : ∀ y, y ∈ (L'.map fun q => TS.code PB q.2) ↔ y ∈ ssI (ps.map pcode) := fun y => by
    rw [mem_ssI, List.mem_map, List.mem_map]
    constructor
    · rintro ⟨q, hq, rfl⟩
      obtain ⟨p, pm, e1⟩ := h1 q hq
      exact ⟨p, pm, by rw [e1, code2]⟩
    · rintro ⟨p, pm, rfl⟩
      obtain ⟨q, hq, e⟩ := List.mem_map.mp (h2 p pm)
      exact ⟨q, hq, by rw [e, code2]⟩
  have e := sorted_eq st sorted_ssI mem
  unfold ssP
  rw [← e, List.map_map, List.map_map]
  refine List.map_congr_left fun q hq => ?_
  obtain ⟨p, pm, e1⟩ := h1 q hq
  show D.tup (q.2.map D.int) = pT (pdec (TS.code PB q.2))
  rw [e1, code2, pdec_code (hp' p pm)]
  rfl
section
variable {X : Cx} {e : Expr} {fe : DEnv → R Val} {p p2 pos q : Pos}
theorem sqt_upd {K : PySem.W.Frag} {H : Hp} {a b : Addr} {u : HO} {vs : List V} (na : H a = none) (h : SqT K H b vs) : SqT K (upd H a u) b vs := by
  rcases h with (h | ⟨o, h⟩) | h
  · exact .inl (.inl (by rw [upd_ne (ne_of_none h na)]; exact h))
  · exact .inl (.inr ⟨o, by rw [upd_ne (ne_of_none h na)]; exact h⟩)
  · exact .inr h
theorem de_sortSetP (hc : X.calm = true) (hu : X.A.units + 64 < cLine) (g1 : Gl X "sorted") (m1 : X.mg "sorted" = none) (g2 : Gl X "set") (m2 : X.mg "set" = none) (he : DE X e fe) (h1 : starEach [e] X.env = (false, eval e X.env) :: starEach [] X.env := by rfl)
    (h2 : starEach [.Call (.Name "set" p2) [e] [] q] X.env = (false, eval (.Call (.Name "set" p2) [e] [] q) X.env) :: starEach [] X.env := by rfl) :
    DE X (.Call (.Name "sorted" p) [.Call (.Name "set" p2) [e] [] q] [] pos) (sSortSetP fe) :=
  PE.imp (pe_callB (cr_sortedT hc) g1 m1 (by decide +kernel) (pa_cons (pe_callTy (cr_setOfT hc hu) g2 m2 (by decide +kernel) (pa_cons he pa_nil h1) (he := h1)) pa_nil h2) (he := h2)) fun σ H Q ⟨F0, H0, ρ, vs, xs, s, q⟩ => by
    refine ⟨F0, H0, ρ, vs, xs, s, (post_bind q).imp (fun x ρ1 q1 H1 v s1 => ?_) fun _ _ z => z⟩
    cases e1 : ssPD x.fz with
    | none => rw [e1] at q1; exact q1.elim
    | some z =>
      rw [e1] at q1
      obtain ⟨F, hF, a, t⟩ := s1.fz.oneT
      match hx : x.fz, e1, a with
      | .lst ds, e1, .lst (a := a) hs ha =>
        obtain ⟨ps, e2, e3⟩ := Option.bind_eq_some_iff.mp (show (dPrs ds).bind _ = some z from e1)
        have e3 : (if ps.length ≤ 63 ∧ ps.all pok = true then some (Val.lst ((ssP ps).map fun p => .sh (pT p))) else none) = some z := e3
        split at e3
        rotate_left
        · cases e3
        rename_i hl
        cases e3
        obtain ⟨ks, k1, k2, k3⟩ := ats_prs ha e2
        subst k1
        have kl : ks.length = ps.length := by
          have := congrArg List.length k2
          simpa using this
        refine ⟨a, ks, rfl, hF.seq (.of hs), fun q hq => sameT hF (k3 q hq), by omega, fun p1 L np c1 c2 => ?_⟩
        refine ⟨p1, L, 2, PB, rfl, upd_same, fun q hq => sqt_upd np (sameT hF (k3 q (c1 q hq))), by omega, fun q hq => ?_, fun L' p3 d1 d2 d3 d4 np3 => ?_⟩
        · have : q.2 ∈ ks.map (·.2) := List.mem_map_of_mem (c1 q hq)
          rw [k2] at this
          obtain ⟨pp, hpp, ee⟩ := List.mem_map.mp this
          have ok := pok_iff.mp (List.all_eq_true.mp hl.2 pp hpp)
          rw [← ee]
          refine ⟨rfl, fun m hm => ?_⟩
          simp only [List.mem_cons, List.not_mem_nil, or_false] at hm
          rcases hm with rfl | rfl
          · exact ⟨ok.1, ok.2.1⟩
          · exact ⟨ok.2.2.1, ok.2.2.2⟩
        have hL' : ∀ q ∈ L', q ∈ ks := fun q hq => c1 q (d1.mem_iff.mp hq)
        have es := sorted_is hl.2 (L' := L') (fun q hq => by
          have : q.2 ∈ ks.map (·.2) := List.mem_map_of_mem (hL' q hq)
          rw [k2] at this
          obtain ⟨pp, hpp, ee⟩ := List.mem_map.mp this
          exact ⟨pp, hpp, ee.symm⟩) (fun pp hpp => by
          have : [pp.1, pp.2] ∈ ks.map (·.2) := by rw [k2]; exact List.mem_map.mpr ⟨pp, hpp, rfl⟩
          obtain ⟨q, hq, ee⟩ := List.mem_map.mp this
          rw [(d1.map (·.2)).mem_iff, ← ee]
          exact c2 q hq) d2 d4
        have aL : Ats X.K F (L'.map fun q => V.ref q.1) ((ssP ps).map pT) := by
          rw [← es]
          exact ats_of_ks fun q hq => k3 q (hL' q hq)
        have s2 := t _ _ aL
        have s3 : Stt X.K F0 H0 (upd H1 p1 (SetTO X.prog X.w p1 L)) σ ρ1 ((L'.map fun q => V.ref q.1) ++ vs) (((ssP ps).map pT).map .sh ++ xs) := by
          obtain ⟨F, f, g, h1, h2, h3, h4, h5, h6, h7, h8, h9, h10⟩ := s2.laid (o := SetTO X.prog X.w p1 L) np
          exact ⟨_, f, g, h1.trans h4, h2, h3, h5, h6, h7, h8, h9⟩
        have s4 := s3.newLst (by
          have := congrArg List.length es
          simpa using this) np3
        rw [List.map_map] at s4
        exact q1 _ _ s4
end
@[simp] theorem sSortSetP_ap {f : DEnv → R Val} {ρ : DEnv} : sSortSetP f ρ = (f ρ).bind fun x ρ1 => liftO (ssPD x.fz) ρ1 := id rfl
theorem ssPD_map {ps : List (Int × Int)} (h : ps.length ≤ 63) (h2 : ps.all pok = true) : ssPD (.lst (ps.map pT)) = some (.lst ((ssP ps).map fun p => .sh (pT p))) := by
  have e : ssPD (.lst (ps.map pT)) = (dPrs (ps.map pT)).bind fun ps => if ps.length ≤ 63 ∧ ps.all pok = true then some (.lst ((ssP ps).map fun p => .sh (pT p))) else none := rfl
  rw [e, dPrs_map, Option.bind_some, if_pos ⟨h, h2⟩]
end DL

/-! DTW: sets of tuples of ints with up to 300 members: the masks 7, 31, 127, 511. -/
namespace TW
open PySem PySem.Spec PyProof.Rows L2
/-! ### every place is met -/
def Wide (m : Nat) : Prop := m ∈ [7, 31, 127, 511]
theorem Wide.cases {m : Nat} (h : Wide m) : m = 7 ∨ m = 31 ∨ m = 127 ∨ m = 511 := by simpa [Wide] using h
/-- the places met from x on, as bits -/
def met (m : Nat) : Nat → Nat → Nat → Nat
  | 0, _, acc => acc
  | k + 1, x, acc => met m k ((x * 5 + 1) % (m + 1)) (acc ||| 2 ^ x)
theorem front (m x : Nat) : ∀ b, lcgI m ((x * 5 + 1) % (m + 1)) b = lcgI m x (b + 1)
  | 0 => rfl
  | b + 1 => congrArg (fun y => (y * 5 + 1) % (m + 1)) (front m x b)
theorem met_bit (m j : Nat) : ∀ k x acc, (met m k x acc).testBit j = true → acc.testBit j = true ∨ ∃ b, b < k ∧ lcgI m x b = j
  | 0, _, _, h => .inl h
  | k + 1, x, acc, h => by
    rcases met_bit m j k _ _ h with h1 | ⟨b, hb, e⟩
    · rw [Nat.testBit_or, Bool.or_eq_true, Nat.testBit_two_pow, decide_eq_true_eq] at h1
      rcases h1 with h1 | h1
      · exact .inl h1
      · exact .inr ⟨0, Nat.succ_pos k, h1⟩
    · exact .inr ⟨b + 1, Nat.succ_lt_succ hb, (front m x b).symm.trans e⟩
theorem met_all {m : Nat} (hm : Wide m) : met m (m + 1) 0 0 = 2 ^ (m + 1) - 1 ∧ lcgN m (m + 1) = 0 ∧ m % 2 = 1 ∧ m < 512 ∧ 7 ≤ m := by
  rcases hm.cases with rfl | rfl | rfl | rfl <;> decide +kernel
theorem from0 {m j : Nat} (hm : Wide m) (hj : j ≤ m) : ∃ b, b ≤ m ∧ lcgN m b = j := by
  have t : (met m (m + 1) 0 0).testBit j = true := by
    rw [(met_all hm).1, Nat.testBit_two_pow_sub_one, decide_eq_true_eq]
    omega
  rcases met_bit m j _ _ _ t with h | ⟨b, hb, e⟩
  · rw [Nat.zero_testBit] at h; cases h
  · have e2 := lcgN_add m 0 b
    rw [Nat.zero_add] at e2
    exact ⟨b, by omega, e2.symm.trans e⟩
theorem again0 {m : Nat} (hm : Wide m) : ∀ k, lcgN m (m + 1 + k) = lcgN m k := fun k => by
  have e := lcgN_add m (m + 1) k
  rw [(met_all hm).2.1] at e
  have e2 := lcgN_add m 0 k
  rw [Nat.zero_add] at e2
  exact e.symm.trans e2
theorem from_any {m i j : Nat} (hm : Wide m) (hi : i ≤ m) (hj : j ≤ m) : ∃ k, k ≤ m ∧ lcgI m i k = j := by
  obtain ⟨a, ha, rfl⟩ := from0 hm hi
  obtain ⟨b, hb, rfl⟩ := from0 hm hj
  by_cases c : a ≤ b
  · refine ⟨b - a, by omega, (lcgN_add m a (b - a)).trans ?_⟩
    rw [Nat.add_sub_cancel' c]
  · refine ⟨m + 1 + b - a, by omega, (lcgN_add m a (m + 1 + b - a)).trans ?_⟩
    rw [Nat.add_sub_cancel' (by omega : a ≤ m + 1 + b)]
    exact again0 hm b
theorem run_at {m j : Nat} (hm : Wide m) (h : Int) (hj : j ≤ m) : ∃ n, n ≤ m + 12 ∧ runI m (SetTable.bits h) n = j := by
  obtain ⟨k, hk, e⟩ := from_any hm (runI_le m (SetTable.bits h) 12) hj
  refine ⟨12 + k, by omega, ?_⟩
  rw [runI_tail (bits_lt h), e]
theorem way_at {m j : Nat} (hm : Wide m) (h : Int) (hj : j ≤ m) : ∃ k, k < 10 * SetTable.turns m ∧ way m h k = j := by
  obtain ⟨n, hn, e⟩ := run_at hm h hj
  obtain ⟨k, hk, ek⟩ := run_nth m (SetTable.bits h) n
  refine ⟨k, ?_, (congrArg SetTable.Probe.j ek).trans e⟩
  show k < 10 * (m + 15)
  omega
theorem way_in {m : Nat} (h : Int) (k : Nat) : way m h k ≤ m := by
  have hi : SetTable.bits h % (m + 1) < m + 1 := Nat.mod_lt _ (Nat.succ_pos m)
  have r := runEnd_bd (m := m) (Nat.le_of_lt_succ hi)
  have q := nth_in (m := m) k (runAt m (SetTable.bits h % (m + 1)) (SetTable.bits h)) (by
    dsimp only [runAt]
    omega)
  exact Nat.le_trans (Nat.le_add_right _ _) q

/-! ### the table: what stands in it is found again -/
structure Tab (t : SetTable) (hs : List Int) : Prop where
  up : Ris t.place.toList
  clean : t.dummies = #[]
  len : t.place.toList.length = hs.length
  wide : Wide t.mask
  low : ∀ x, x ∈ t.place.toList → x ≤ t.mask
  back : ∀ (i : Nat) (h : Int) (j : Nat), hs[i]? = some h → t.place.toList[i]? = some j → ∃ k, way t.mask h k = j ∧ ∀ c, c < k → way t.mask h c ∈ t.place.toList
/-- the first free step of a hash's way -/
structure Free (t : SetTable) (h : Int) (K : Nat) : Prop where
  lt : K < 10 * SetTable.turns t.mask
  off : way t.mask h K ∉ t.place.toList
  on : ∀ c, c < K → way t.mask h c ∈ t.place.toList
theorem Tab.free {t : SetTable} {hs : List Int} (T : Tab t hs) (hl : hs.length ≤ t.mask) (h : Int) : ∃ K, Free t h K := by
  obtain ⟨j, hj, nj⟩ := st_missing t.place.toList (t.mask + 1) (by rw [T.len]; omega)
  obtain ⟨k, hk, e⟩ := way_at T.wide h (Nat.le_of_lt_succ hj)
  obtain ⟨K, h1, h2, h3⟩ := st_least (p := fun c => way t.mask h c ∉ t.place.toList) k (fun z => nj (e ▸ z))
  exact ⟨K, Nat.lt_of_le_of_lt h1 hk, h2, fun c hc => Classical.byContradiction fun z => h3 c hc z⟩
/-- what has the hash is met before that step -/
theorem Tab.ahead {t : SetTable} {hs : List Int} (T : Tab t hs) {h : Int} {K i : Nat} (F : Free t h K) (hi : hs[i]? = some h) : ∃ c, c < K ∧ t.place.toList[i]? = some (way t.mask h c) := by
  have hil : i < t.place.toList.length := by
    rw [T.len]
    exact (List.getElem?_eq_some_iff.mp hi).1
  have hj := List.getElem?_eq_getElem hil
  obtain ⟨k, e, hb⟩ := T.back i h _ hi hj
  refine ⟨k, ?_, by rw [hj, e]⟩
  rcases Nat.lt_or_ge k K with c | c
  · exact c
  · exfalso
    have z : way t.mask h K ∈ t.place.toList := by
      rcases Nat.lt_or_eq_of_le c with c | c
      · exact hb K c
      · rw [c, e]
        exact List.getElem_mem hil
    exact F.off z

/-! ### one put in -/
theorem Tab.put {t : SetTable} {hs : List Int} (T : Tab t hs) {h : Int} {K j p : Nat} (F : Free t h K) (ej : way t.mask h K = j) (ep : SetTable.below t.place j = p) :
    p ≤ hs.length ∧ Tab (t.put j).1 (hs.take p ++ h :: hs.drop p) ∧ (t.put j).1.fill = hs.length + 1 := by
  have nj : j ∉ t.place.toList := ej ▸ F.off
  have pl : p ≤ t.place.toList.length := by
    rw [← ep, Array.length_toList]
    exact (below_cut T.up j).1
  have ph : p ≤ hs.length := T.len ▸ pl
  have e : (t.put j).1.place.toList = t.place.toList.take p ++ j :: t.place.toList.drop p := by rw [put_place, ep]
  have len : (t.put j).1.place.toList.length = hs.length + 1 := by rw [e, len_ins _ pl, T.len]
  have cl : (t.put j).1.dummies = #[] := put_dm T.clean j
  have more : ∀ {x : Nat}, x ∈ t.place.toList → x ∈ (t.put j).1.place.toList := fun hx => by
    rw [e]
    exact mem_ins.mpr (Or.inr hx)
  have nat : t.place[SetTable.below t.place j]? ≠ some j := fun z => nj (List.mem_of_getElem? (l := t.place.toList) (i := SetTable.below t.place j) (by rw [Array.getElem?_toList, z]))
  refine ⟨ph, { up := ris_insert T.up nat, clean := cl, len := ?_, wide := T.wide, low := fun x hx => ?_, back := fun i h' j' a b => ?_ }, ?_⟩
  · rw [len, len_ins _ ph]
  · rw [e, mem_ins] at hx
    rcases hx with rfl | hx
    · exact ej ▸ way_in h K
    · exact T.low x hx
  · rw [e, tins_get _ pl] at b
    rw [tins_get _ ph] at a
    show ∃ k, way t.mask h' k = j' ∧ ∀ c, c < k → way t.mask h' c ∈ (t.put j).1.place.toList
    split at a
    · rename_i c
      rw [if_pos c] at b
      obtain ⟨k, e1, e2⟩ := T.back i h' j' a b
      exact ⟨k, e1, fun c hc => more (e2 c hc)⟩
    · rename_i c
      rw [if_neg c] at b
      split at a
      · rename_i d
        rw [if_pos d] at b
        cases a
        cases b
        exact ⟨K, ej, fun c hc => more (F.on c hc)⟩
      · rename_i d
        rw [if_neg d] at b
        obtain ⟨k, e1, e2⟩ := T.back (i - 1) h' j' a b
        exact ⟨k, e1, fun c hc => more (e2 c hc)⟩
  · have e2 : (t.put j).1.fill = (t.put j).1.place.toList.length + (t.put j).1.dummies.size := rfl
    rw [e2, len, cl]
    rfl

/-! ### all laid anew -/
/-- the place that laying anew finds for a hash -/
theorem lay_one {m : Nat} (hm : Wide m) {done : List Int} {owner : Array (Option Nat)} (W : Own m done owner) (hl : done.length ≤ m) (h : Int) :
    ∃ K, SetTable.layClean.free m owner (SetTable.turns m) (SetTable.bits h % (m + 1)) (SetTable.bits h) = some (way m h K) ∧ oAt owner (way m h K) = none ∧ ∀ c, c < K → oAt owner (way m h c) ≠ none := by
  obtain ⟨ps, pn, pin⟩ := W.ps
  obtain ⟨j, hj, nj⟩ := st_missing ps (m + 1) (by omega)
  have fj : oAt owner j = none := Classical.byContradiction fun z => nj (pin j (by omega) z)
  obtain ⟨n, hn, en⟩ := run_at hm h (Nat.le_of_lt_succ hj)
  obtain ⟨q, eq⟩ : ∃ q, q = off m (SetTable.bits h % (m + 1)) (SetTable.bits h) n := ⟨_, rfl⟩
  have ew : way m h q = j := by
    rw [eq]
    show SetTable.Probe.j (nth m _ _) = j
    rw [nth_off, itL_run]
    exact en
  obtain ⟨K, k1, k2, k3⟩ := st_least (p := fun c => oAt owner (way m h c) = none) q (by
    show oAt owner (way m h q) = none
    rw [show way m h q = j from ew, fj])
  have occ : ∀ c, c < K → (oAt owner (way m h c)).isNone = false := fun c hc => by
    have z := k3 c hc
    cases y : oAt owner (way m h c) with
    | none => exact absurd y z
    | some _ => rfl
  exact ⟨K, free_spec m owner (SetTable.turns m) n _ _ K (by show n < m + 15; omega) (eq ▸ k1) occ (by
    show (oAt owner (way m h K)).isNone = true
    rw [show oAt owner (way m h K) = none from k2]
    rfl), k2, k3⟩
theorem lay_step {m : Nat} (hm : Wide m) {done : List Int} {owner : Array (Option Nat)} (W : Own m done owner) (hl : done.length ≤ m) (h : Int) :
    ∃ owner', stepF m (some (owner, done.length)) h = some (owner', (done ++ [h]).length) ∧ Own m (done ++ [h]) owner' := by
  obtain ⟨K, e1, e2, e3⟩ := lay_one hm W hl h
  have jm : way m h K ≤ m := way_in h K
  have here := oAt_set_self (owner := owner) (some done.length) (j := way m h K) (by rw [W.sz]; omega)
  have there : ∀ {i : Nat}, i ≠ way m h K → oAt (owner.setIfInBounds (way m h K) (some done.length)) i = oAt owner i := fun z => oAt_set_ne _ z
  have keep : ∀ i, oAt owner i ≠ none → oAt (owner.setIfInBounds (way m h K) (some done.length)) i ≠ none := fun i hi => by
    by_cases c : i = way m h K
    · rw [c, here]; exact Option.some_ne_none _
    · rw [there c]; exact hi
  have ln : (done ++ [h]).length = done.length + 1 := by rw [List.length_append]; rfl
  obtain ⟨ps, pn, pin⟩ := W.ps
  refine ⟨owner.setIfInBounds (way m h K) (some done.length), by rw [stepF_some e1, ln], ⟨(Array.size_setIfInBounds ..).trans W.sz, fun j k jl e => ?_, fun k hk => ?_, way m h K :: ps, by rw [ln, List.length_cons, pn], fun j jl e => ?_⟩⟩
  · by_cases c : j = way m h K
    · rw [c, here] at e
      cases e
      exact ⟨h, K, by rw [List.getElem?_append_right (Nat.le_refl _), Nat.sub_self]; rfl, c.symm, fun c' hc' => keep _ (e3 c' hc')⟩
    · rw [there c] at e
      obtain ⟨h', K', a1, a2, a3⟩ := W.at_ j k jl e
      exact ⟨h', K', by rw [List.getElem?_append_left (List.getElem?_eq_some_iff.mp a1).1, a1], a2, fun c' hc' => keep _ (a3 c' hc')⟩
  · rcases Nat.lt_or_eq_of_le (show k ≤ done.length by omega) with c | c
    · obtain ⟨j, jl, e⟩ := W.all k c
      exact ⟨j, jl, (there fun z => by rw [z, e2] at e; cases e).trans e⟩
    · exact ⟨way m h K, jm, c ▸ here⟩
  · by_cases c : j = way m h K
    · rw [c]; exact List.mem_cons_self
    · rw [there c] at e
      exact List.mem_cons_of_mem _ (pin j jl e)
theorem lay_all {m : Nat} (hm : Wide m) : ∀ (rest done : List Int) (owner : Array (Option Nat)), Own m done owner → done.length + rest.length ≤ m →
    ∃ owner' n, rest.foldl (stepF m) (some (owner, done.length)) = some (owner', n) ∧ Own m (done ++ rest) owner'
  | [], done, owner, W, _ => ⟨owner, _, rfl, (List.append_nil done).symm ▸ W⟩
  | h :: rest, done, owner, W, hl => by
    rw [List.length_cons] at hl
    obtain ⟨o1, e1, W1⟩ := lay_step hm W (by omega) h
    obtain ⟨o2, n, e2, W2⟩ := lay_all hm rest (done ++ [h]) o1 W1 (by rw [List.length_append]; show done.length + 1 + rest.length ≤ m; omega)
    rw [List.append_assoc] at W2
    exact ⟨o2, n, by rw [List.foldl_cons, e1, e2], W2⟩
theorem lay_clean {m : Nat} (hm : Wide m) {hs : Array Int} (hn : hs.size ≤ m) : ∃ owner, SetTable.layClean m hs = some owner ∧ Own m hs.toList owner := by
  obtain ⟨owner, n, e, W⟩ := lay_all hm hs.toList [] (Array.replicate (m + 1) none) (Own.init m) (by rw [Array.length_toList]; show 0 + hs.size ≤ m; omega)
  exact ⟨owner, by rw [layClean_eq, show hs.toList.foldl (stepF m) (some (Array.replicate (m + 1) none, 0)) = some (owner, n) from e]; rfl, W⟩
theorem relaid {t : SetTable} {hs : Array Int} {wanted M : Nat} (hw : SetTable.sizeAbove wanted - 1 = M) (hM : Wide M) (hn : hs.size ≤ M) :
    ∃ t' order, t.relaid hs wanted = some (t', order) ∧ order.toList.Perm (List.range hs.size) ∧ Tab t' (order.toList.map fun i => hs.getD i 0) ∧ t'.mask = M ∧ t'.led = t.led ∧ t'.plain = t.plain := by
  obtain ⟨owner, e, W⟩ := lay_clean hM hn
  have hz : hs.toList.length = hs.size := Array.length_toList
  obtain ⟨r1, r2⟩ : Ris ((liveOf M owner).map (·.1)) ∧ ∀ x ∈ (liveOf M owner).map (·.1), x ∈ List.range (M + 1) := ris_live (fun j => owner.getD j none) (List.range (M + 1)) List.pairwise_lt_range
  have mem := fun j k => mem_live (j := j) (k := k) W.sz
  have has : ∀ k, k < hs.size → k ∈ (liveOf M owner).map (·.2) := fun k hk => by
    obtain ⟨j, jl, ej⟩ := W.all k (hz ▸ hk)
    exact List.mem_map_of_mem (f := (·.2)) ((mem j k).mpr ⟨jl, ej⟩)
  have once : List.Nodup ((liveOf M owner).map (·.1)) := r1.imp fun z => Nat.ne_of_lt z
  have ln : (liveOf M owner).length = hs.size := by
    obtain ⟨ps, p1, p2⟩ := W.ps
    refine Nat.le_antisymm ?_ ?_
    · have q := nat_nodup_len ((liveOf M owner).map (·.1)) ps once fun x hx => by
        obtain ⟨⟨y, k⟩, hy, rfl⟩ := List.mem_map.mp hx
        obtain ⟨b1, b2⟩ := (mem y k).mp hy
        exact p2 y b1 (b2 ▸ Option.some_ne_none k)
      rwa [List.length_map, p1, hz] at q
    · have q := nat_nodup_len (List.range hs.size) ((liveOf M owner).map (·.2)) List.nodup_range fun k hk => has k (List.mem_range.mp hk)
      rwa [List.length_map, List.length_range] at q
  refine ⟨tabOf t M owner, ((liveOf M owner).map (·.2)).toArray, by rw [relaid_eq, hw, e]; rfl, perm_range hs.size _ (by simpa using ln) has, ⟨r1, rfl, ?_, hM, fun x hx => Nat.le_of_lt_succ (List.mem_range.mp (r2 x hx)), fun i h j a b => ?_⟩, rfl, rfl, rfl⟩
  · show ((liveOf M owner).map (·.1)).length = _
    rw [List.length_map, List.length_map, List.length_map]
  · have a' : (((liveOf M owner).map (·.2)).map fun i => hs.getD i 0)[i]? = some h := a
    have b' : ((liveOf M owner).map (·.1))[i]? = some j := b
    rw [List.getElem?_map, List.getElem?_map] at a'
    rw [List.getElem?_map] at b'
    rcases hq : (liveOf M owner)[i]? with _ | ⟨y, k⟩
    · rw [hq] at b'; cases b'
    · rw [hq] at a' b'
      cases b'
      obtain ⟨b1, b2⟩ := (mem y k).mp (List.mem_of_getElem? hq)
      obtain ⟨h0, K, a1, a2, a3⟩ := W.at_ y k b1 b2
      rw [Array.getElem?_toList] at a1
      have eh : h0 = h := by
        have z : hs.getD k 0 = h := Option.some.inj a'
        rw [Array.getD_eq_getD_getElem?, a1] at z
        exact z
      subst eh
      refine ⟨K, a2, fun c hc => ?_⟩
      obtain ⟨k2, z⟩ := Option.ne_none_iff_exists'.mp (a3 c hc)
      exact List.mem_map_of_mem (f := (·.1)) ((mem _ k2).mpr ⟨way_in h0 c, z⟩)
theorem above5 : SetTable.sizeAbove (SetTable.grown 5) = 32 ∧ SetTable.sizeAbove (SetTable.grown 19) = 128 ∧ SetTable.sizeAbove (SetTable.grown 77) = 512 := by decide +kernel

/-! ### the set, and what a search in it answers -/
def Lit (w : World) (t : SetTable) : Prop := w.params.followText "set-order" = true ∨ t.led = true
abbrev Ks := List (Addr × List Int)
def Tups (P : Program) (w : World) (h : Heap) (L : Ks) : Prop := ∀ q, q ∈ L → IsT P w h q.2 q.1
structure SetW (P : Program) (w : World) (h : Heap) (a : Addr) (L : Ks) (es : Array (Int × Value)) (ep : Nat) (t : SetTable) : Prop where
  obj : ∃ o : Obj, h.get? a = some o ∧ o.ExactSet ∧ o.data = .set es ep t
  row : rowsOf P w L = es.toList
  tab : Tab t (L.map fun q => thash P w q.2)
  once : List.Nodup (L.map fun q => q.2)
  lit : t.plain = true ∧ Lit w t
  room : 5 * L.length < 3 * t.mask
  few : L.length ≤ 300
/-- a way's first state -/
abbrev way0 (m : Nat) (h : Int) : SetTable.Probe := runAt m (SetTable.bits h % (m + 1)) (SetTable.bits h)
theorem nth_dummy (m : Nat) : ∀ n p, (nth m p n).dummy = p.dummy
  | 0, _ => rfl
  | n + 1, p => (nth_dummy m n (adv m p)).trans (by unfold adv; split <;> rfl)
section
variable {P : Program} {w : World} {A : Around} {E : Value → Shared → Prop} {s : Shared} {a : Addr} {L : Ks} {es : Array (Int × Value)} {ep : Nat} {t : SetTable}
theorem SetW.size (R : SetW P w s.heap a L es ep t) : es.size = L.length := by
  rw [← Array.length_toList, ← R.row]
  exact List.length_map _
theorem SetW.fit (R : SetW P w s.heap a L es ep t) : t.fits es.size = true := by
  have h1 := R.tab.len
  rw [List.length_map, Array.length_toList] at h1
  have h3 := R.room
  rw [R.size]
  unfold SetTable.fits SetTable.fill
  rw [R.tab.clean, h1]
  simp
  omega
theorem SetW.ent (R : SetW P w s.heap a L es ep t) {i : Nat} {q : Addr × List Int} (h : L[i]? = some q) : es[i]? = some (thash P w q.2, Value.ref q.1) := by
  rw [← Array.getElem?_toList, ← R.row]
  show (L.map _)[i]? = _
  rw [List.getElem?_map, h]
  rfl
theorem SetW.stays (R : SetW P w s.heap a L es ep t) : ¬ t.gaveWay = true := by
  show ¬ (t.mask % 2 == 0) = true
  rw [(met_all R.tab.wide).2.2.1]
  decide
/-- no key but those passed stands ahead of the c-th step -/
def Left (L : Ks) (t : SetTable) (h : Int) (k : List Int) (K c : Nat) : Prop := ∀ (i : Nat) q, L[i]? = some q → q.2 = k → ∃ c', c ≤ c' ∧ c' < K ∧ t.place.toList[i]? = some (way t.mask h c')
theorem look (R : SetW P w s.heap a L es ep t) (ht : Tups P w s.heap L) {x : Addr} {k : List Int} (hx : IsT P w s.heap k x) (hu : A.units < cLine) {K : Nat} (F : Free t (thash P w k) K) {Q : SetFound → Shared → Prop}
    (hin : k ∈ L.map (fun q => q.2) → Q (.there none) s) (hout : k ∉ L.map (fun q => q.2) → Q (.free (way t.mask (thash P w k) K) false) s) :
    ∀ (f c : Nat) (stand : Option SetTable.Probe), stand.getD (t.probeStart (thash P w k)) = nth t.mask (way0 t.mask (thash P w k)) c → c ≤ K → K < f + c → Left L t (thash P w k) k K c →
      wpAny (model P w) A (setSearchFrom a (.ref x) (thash P w k) true f stand) Q E s := by
  obtain ⟨h, eh⟩ : ∃ h, h = thash P w k := ⟨_, rfl⟩
  rw [← eh] at F hout ⊢
  obtain ⟨o, ho, hex, hd⟩ := R.obj
  have hashAt : ∀ (i : Nat) q, L[i]? = some q → (es[i]?.map (·.1)).getD 0 = thash P w q.2 := fun i q e => by
    rw [R.ent e]; rfl
  intro f
  induction f with
  | zero => intro c stand _ h1 h2; omega
  | succ f ih =>
    intro c stand est hc hf left
    have step : ∀ n, nth t.mask (nth t.mask (way0 t.mask h) c) n = nth t.mask (way0 t.mask h) (c + n) := fun n => (nth_add t.mask c _ n).symm
    have stepj : ∀ n, (nth t.mask (nth t.mask (way0 t.mask h) c) n).j = way t.mask h (c + n) := fun n => congrArg _ (step n)
    have last : c + (K - c) = K := by omega
    rw [setSearchFrom_succ]
    refine wpAny_bind (wpAny_setState_of ho hd R.fit ?_)
    dsimp only
    refine wp_if_neg R.stays ?_
    try refine wpAny_bind (wpAny_pure ?_)
    rcases go_spec t R.tab.up R.tab.clean (fun i => (es[i]?.map (·.1)).getD 0) h (10 * SetTable.turns t.mask) (K - c) (nth t.mask (way0 t.mask h) c) (nth_dummy _ _ _) (by have := F.lt; omega)
      (fun n hn => by rw [stepj]; exact F.on _ (by omega)) (by rw [stepj, last]; exact F.off) with ⟨n, i, hn, hi, _, others, met1⟩ | ⟨others, met1⟩
    · -- one of the same hash
      rw [stepj] at hi
      rw [stepj, step] at met1
      have met2 : t.probe (fun i => (es[i]?.map (·.1)).getD 0) h (stand.getD (t.probeStart h)) = _ := (congrArg (t.probe _ h) est).trans met1
      rw [met2]
      dsimp only
      have il : i < L.length := by
        have z := (List.getElem?_eq_some_iff.mp hi).1
        rwa [R.tab.len, List.length_map] at z
      obtain ⟨q, hq⟩ : ∃ q, L[i]? = some q := ⟨_, List.getElem?_eq_getElem il⟩
      have qm := List.mem_of_getElem? hq
      have live : t.slot (way t.mask h (c + n)) = .live i := slot_live R.tab.up hi
      have rest : wpAny (model P w) A (searchRest a (.ref x) h true f es t (way t.mask h (c + n)) i (nth t.mask (way0 t.mask h) (c + (n + 1)))) Q E s := by
        unfold searchRest
        rw [R.ent hq]
        dsimp only
        refine wpAny_bind (wpAny_holding (wpAny_eqBool_tuple hu (ht q qm) hx (wpAny_bind (wpAny_setState_of ho hd R.fit ?_))))
        dsimp only
        by_cases same : q.2 = k
        · exact wp_if_pos (by rw [same]; simp) (wpAny_pure (hin (List.mem_map.mpr ⟨q, qm, same⟩)))
        · refine wp_if_neg (by simp [same]) ?_
          try refine wpAny_bind (wpAny_pure ?_)
          rw [sameMem]
          dsimp only
          simp only [if_true, live, R.ent hq]
          refine wpAny_bind (wpAny_isSame_ref_self (wpAny_bind (wpAny_pure ?_)))
          simp only [if_true]
          refine wp_if_neg (by simp [same]) (ih (c + (n + 1)) _ rfl (by omega) (by omega) fun i0 q0 h0 k0 => ?_)
          obtain ⟨c', a1, a2, a3⟩ := left i0 q0 h0 k0
          refine ⟨c', ?_, a2, a3⟩
          rcases Nat.lt_trichotomy c' (c + n) with z | z | z
          · refine absurd ?_ (others (c' - c) i0 (by omega) (by rw [stepj, show c + (c' - c) = c' by omega]; exact a3))
            rw [hashAt i0 q0 h0, k0, eh]
          · rw [z] at a3
            have z2 := live.symm.trans (slot_live R.tab.up a3)
            cases z2
            rw [hq] at h0
            cases h0
            exact absurd k0 same
          · omega
      by_cases led : t.led = true
      · refine wp_if_neg (by rw [led]; decide) ?_
        try refine wpAny_bind (wpAny_pure ?_)
        exact rest
      · refine wp_if_pos (by simp [led]) (wpAny_bind (seen_tup hx (fun y hy => ?_) (wp_if_neg (by decide) ?_)))
        · obtain ⟨e, he, ee⟩ := List.mem_map.mp hy
          have e1 : e ∈ es.toList := by
            have := (Array.mem_filter.mp (Array.mem_toList_iff.mp he)).1
            exact Array.mem_toList_iff.mpr this
          rw [← R.row] at e1
          obtain ⟨q2, m2, rfl⟩ := List.mem_map.mp e1
          exact ⟨q2.2, q2.1, ee.symm, ht q2 m2⟩
        · try refine wpAny_bind (wpAny_pure ?_)
          exact rest
    · -- a free place
      rw [stepj, last] at met1
      have met2 : t.probe (fun i => (es[i]?.map (·.1)).getD 0) h (stand.getD (t.probeStart h)) = _ := (congrArg (t.probe _ h) est).trans met1
      rw [met2]
      dsimp only
      refine wpAny_pure (hout fun km => ?_)
      obtain ⟨q0, m0, k0⟩ := List.mem_map.mp km
      obtain ⟨i0, hi0, e0⟩ := List.getElem_of_mem m0
      have h0 : L[i0]? = some q0 := (List.getElem?_eq_getElem hi0).trans (congrArg some e0)
      obtain ⟨c', a1, a2, a3⟩ := left i0 q0 h0 k0
      refine others (c' - c) i0 (by omega) (by rw [stepj, show c + (c' - c) = c' by omega]; exact a3) ?_
      show (es[i0]?.map (·.1)).getD 0 = h
      rw [hashAt i0 q0 h0, k0, eh]
theorem seek (R : SetW P w s.heap a L es ep t) (ht : Tups P w s.heap L) {x : Addr} {k : List Int} (hx : IsT P w s.heap k x) (hu : A.units < cLine) {Q : SetFound → Shared → Prop}
    (hin : k ∈ L.map (fun q => q.2) → Q (.there none) s) (hout : ∀ K, k ∉ L.map (fun q => q.2) → Free t (thash P w k) K → Q (.free (way t.mask (thash P w k) K) false) s) :
    wpAny (model P w) A (setSearch a (.ref x) (thash P w k) true) Q E s := by
  have rm := R.room
  obtain ⟨K, F⟩ := R.tab.free (by rw [List.length_map]; omega) (thash P w k)
  have kl : K < 10 * (t.mask + 15) := F.lt
  have ml := (met_all R.tab.wide).2.2.2.1
  unfold setSearch
  refine look R ht hx hu F hin (fun n => hout K n F) 100000 0 none rfl (Nat.zero_le K) (by omega) fun i q e ek => ?_
  obtain ⟨c, cl, ec⟩ := R.tab.ahead F (i := i) (by rw [List.getElem?_map, e, ← ek]; rfl)
  exact ⟨c, Nat.zero_le c, cl, ec⟩
end

section
variable {P : Program} {w : World} {A : Around} {E : Value → Shared → Prop} {s : Shared} {a : Addr} {L : Ks} {es : Array (Int × Value)} {ep : Nat} {t : SetTable}
/-- a larger table for the same members -/
theorem relay {o : Obj} (ho : s.heap.get? a = some o) (hex : o.ExactSet) (hd : o.data = .set es ep t) (row : rowsOf P w L = es.toList) (T : Tab t (L.map fun q => thash P w q.2)) (fit : L.length ≤ t.mask) (once : List.Nodup (L.map fun q => q.2))
    (lit : t.plain = true ∧ Lit w t) (few : L.length ≤ 300) {wanted M : Nat} (hw : SetTable.sizeAbove wanted - 1 = M) (hM : Wide M) (hn : 5 * L.length < 3 * M) {Q : Unit → Shared → Prop}
    (hQ : ∀ h' L' es' ep' t', Heap.SameBut a s.heap h' → SetW P w h' a L' es' ep' t' → L'.Perm L → Q () { s with heap := h' }) : wpAny (model P w) A (setRelay a wanted) Q E s := by
  have sz : es.size = L.length := by
    rw [← Array.length_toList, ← row]
    exact List.length_map _
  have pl : t.place.size = L.length := by
    have z := T.len
    rwa [List.length_map, Array.length_toList] at z
  have ft : t.fits es.size = true := by
    rw [sz]
    unfold SetTable.fits SetTable.fill
    rw [T.clean, pl]
    simp
    omega
  have Ml := (met_all hM).2.2.2.1
  obtain ⟨t', order, e, pm, T', em, el, e2⟩ := relaid (t := t) (hs := es.map (·.1)) hw hM (by rw [Array.size_map, sz]; omega)
  rw [Array.size_map, sz] at pm
  obtain ⟨L2, r1, r2, r3⟩ := order_rows L es order row.symm pm
  have sz2 : (order.filterMap (es[·]?)).size = es.size := by
    rw [← Array.length_toList, r1, sz, ← r2.length_eq]
    exact List.length_map _
  rw [setRelay_eq]
  refine wpAny_bind (wpAny_setState_of ho hd ft ?_)
  dsimp only
  refine wp_if_neg (by rw [sizeLine_eq]; omega) ?_
  try refine wpAny_bind (wpAny_pure ?_)
  rw [e]
  dsimp only
  refine wpAny_bind (wp_if_neg (by rw [sz2]; simp) ?_)
  try refine wpAny_bind (wpAny_pure ?_)
  refine wpAny_pure (wpAny_storeSet_of ho hd ?_ (by rw [sz2, sz, sizeLine_eq]; omega))
  refine hQ _ L2 _ (ep + 1) t' (Heap.SameBut.update ..) ⟨⟨_, store_at ho hd, ⟨hex.1, hex.2.1, hex.2.2⟩, rfl⟩, r1.symm, by rw [r3]; exact T', (r2.map _).nodup_iff.mpr once, ⟨e2.trans lit.1, ?_⟩, by rw [r2.length_eq, em]; exact hn, by rw [r2.length_eq]; exact few⟩ r2
  exact lit.2.imp id el.trans
theorem add (R : SetW P w s.heap a L es ep t) (ht : Tups P w s.heap L) {x : Addr} {k : List Int} (hx : IsT P w s.heap k x) (hu : A.units < cLine) (few : L.length < 300) {Q : Bool → Shared → Prop}
    (hQ : ∀ b h' L' es' ep' t', Heap.SameBut a s.heap h' → SetW P w h' a L' es' ep' t' → (k ∈ L.map (fun q => q.2) → L' = L) → (k ∉ L.map (fun q => q.2) → L'.Perm ((x, k) :: L)) → Q b { s with heap := h' }) :
    wpAny (model P w) A (setAddHashed a (.ref x) (thash P w k)) Q E s := by
  obtain ⟨o, ho, hex, hd⟩ := R.obj
  have sz := R.size
  have rm := R.room
  unfold setAddHashed
  rw [show (100000 : Nat) = 99999 + 1 from rfl, setAddHashedIn_succ]
  refine wpAny_holding (wpAny_bind (wpAny_setState_of ho hd R.fit ?_))
  dsimp only
  refine wp_if_neg (by simp [byScan, Value.scannable]) ?_
  try refine wpAny_bind (wpAny_pure ?_)
  refine wpAny_bind (seek R ht hx hu (fun km => ?_) fun K km F => ?_)
  · exact wpAny_pure (hQ false s.heap L es ep t (Heap.SameBut.refl a s.heap) R (fun _ => rfl) fun z => absurd km z)
  · dsimp only
    refine wpAny_bind (wpAny_setState_of ho hd R.fit ?_)
    dsimp only
    obtain ⟨j, ej⟩ : ∃ j, way t.mask (thash P w k) K = j := ⟨_, rfl⟩
    obtain ⟨p, ep1⟩ : ∃ p, SetTable.below t.place j = p := ⟨_, rfl⟩
    obtain ⟨ph, T1, fl⟩ := R.tab.put F ej ep1
    rw [List.length_map] at ph fl
    rw [ej]
    have e2 : (t.put j).2 = p := ep1
    have m1 : (t.put j).1.mask = t.mask := rfl
    have l1 : (t.put j).1.plain = true ∧ Lit w (t.put j).1 := R.lit
    generalize t.put j = pt at T1 fl e2 m1 l1 ⊢
    obtain ⟨t1, p1⟩ := pt
    obtain rfl : p = p1 := e2.symm
    dsimp only at T1 fl m1 l1 ⊢
    first
      | (refine wpAny_bind (wp_if_pos l1.1 (hashBy_tup hx ?_)))
      | (refine wp_if_pos l1.1 (wpAny_bind (hashBy_tup hx ?_)))
    simp only [if_true]
    have row1 : rowsOf P w (L.take p ++ (x, k) :: L.drop p) = (SetTable.insertAt es p (thash P w k, Value.ref x)).toList := by
      rw [SetTable.toList_insertAt, rows_put, R.row]
    have pm := put_perm L p (x, k)
    have T2 : Tab t1 ((L.take p ++ (x, k) :: L.drop p).map fun q => thash P w q.2) := by
      rw [List.map_append, List.map_cons, List.map_take, List.map_drop]
      exact T1
    generalize L.take p ++ (x, k) :: L.drop p = L1 at row1 pm T2
    have ln : L1.length = L.length + 1 := pm.length_eq
    have once : List.Nodup (L1.map fun q => q.2) := (pm.map _).nodup_iff.mpr (List.nodup_cons.mpr ⟨km, R.once⟩)
    have sz1 : (SetTable.insertAt es p (thash P w k, Value.ref x)).size = L.length + 1 := by
      rw [← Array.length_toList, ← row1, ← ln]
      exact List.length_map _
    generalize SetTable.insertAt es p (thash P w k, Value.ref x) = es1 at row1 sz1 ⊢
    refine wpAny_bind (wpAny_storeSet_of ho hd ?_ (by rw [sz1, sizeLine_eq]; omega))
    have sb : Heap.SameBut a s.heap (s.heap.update a (Obj.putSet es1 t1)) := Heap.SameBut.update ..
    have ho1 := store_at (es' := es1) (t' := t1) ho hd
    generalize s.heap.update a (Obj.putSet es1 t1) = h1 at sb ho1 ⊢
    by_cases hf : t1.tooFull = true
    · have full : (L.length + 1) * 5 ≥ t1.mask * 3 := by
        rw [← fl]
        exact of_decide_eq_true hf
      rw [m1] at full
      have go : ∀ M, SetTable.sizeAbove (SetTable.grown (L.length + 1)) - 1 = M → Wide M → 5 * (L.length + 1) < 3 * M →
          wpAny (model P w) A (setRelay a (SetTable.grown (L.length + 1))) (fun _ s' => wpAny (model P w) A (pure true) Q E s') E { s with heap := h1 } := fun M z1 z2 z3 =>
        relay (s := { s with heap := h1 }) ho1 ⟨hex.1, hex.2.1, hex.2.2⟩ rfl row1 T2 (by rw [ln, m1]; omega) once l1 (by omega) z1 z2 (by rw [ln]; exact z3) fun h2 L2 es2 ep2 t2 sb2 R2 pm2 =>
          wpAny_pure (hQ true h2 L2 es2 ep2 t2 (sb.trans sb2) R2 (fun z => absurd z km) fun _ => pm2.trans pm)
      first
        | (refine wpAny_bind (wp_if_pos (by rw [hf]; rfl) ?_))
        | (refine wp_if_pos (by rw [hf]; rfl) (wpAny_bind ?_))
      rw [sz]
      have a5 := above5
      rcases R.tab.wide.cases with c | c | c | c
      · have e5 : L.length + 1 = 5 := by omega
        exact go 31 (by rw [e5, a5.1]) (by simp [Wide]) (by omega)
      · have e5 : L.length + 1 = 19 := by omega
        exact go 127 (by rw [e5, a5.2.1]) (by simp [Wide]) (by omega)
      · have e5 : L.length + 1 = 77 := by omega
        exact go 511 (by rw [e5, a5.2.2]) (by simp [Wide]) (by omega)
      · omega
    · have nf : ¬ (L.length + 1) * 5 ≥ t1.mask * 3 := by
        rw [← fl]
        exact fun z => hf (decide_eq_true z)
      first
        | (refine wp_if_neg (by simp [hf]) ?_)
        | (refine wpAny_bind (wp_if_neg (by simp [hf]) (wpAny_pure ?_)))
      refine wpAny_pure (hQ true h1 L1 es1 (ep + 1) t1 sb ⟨⟨_, ho1, ⟨hex.1, hex.2.1, hex.2.2⟩, rfl⟩, row1, T2, once, l1, by omega, by omega⟩ (fun z => absurd z km) fun _ => pm)
end

/-- what stood there stands there -/
def Old (h h' : Heap) : Prop := ∀ b o, h.get? b = some o → h'.get? b = some o
theorem SetW.old {P : Program} {w : World} {h h' : Heap} {a : Addr} {L : Ks} {es : Array (Int × Value)} {ep : Nat} {t : SetTable} (R : SetW P w h a L es ep t) (ha : ∀ o, h.get? a = some o → h'.get? a = some o) : SetW P w h' a L es ep t := by
  obtain ⟨o, ho, z⟩ := R.obj
  exact { R with obj := ⟨o, ha o ho, z⟩ }
theorem tups_of {P : Program} {w : World} {h h' : Heap} {ks L : Ks} {i : Nat} (ht : Tups P w h ks) (k : Old h h') (g : Got ks i L) : Tups P w h' L := fun q hq => isT_keep (ht q (List.mem_of_mem_take (g.sub q hq))) k
/-- the empty set -/
abbrev set0 (w : World) : Obj := ⟨.type "set", none, .set #[] 0 (.fresh 0 0 (!w.params.followText "set-order")), #[]⟩
theorem setW_none {P : Program} {w : World} {h : Heap} {a : Addr} (ho : h.get? a = some (set0 w)) : SetW P w h a [] #[] 0 (.fresh 0 0 (!w.params.followText "set-order")) where
  obj := ⟨_, ho, ⟨rfl, rfl, rfl⟩, rfl⟩
  row := rfl
  tab := ⟨List.Pairwise.nil, rfl, rfl, by simp [Wide, SetTable.fresh], fun x hx => (by cases hx), fun i h j hi => (by simp at hi)⟩
  once := List.Pairwise.nil
  lit := ⟨rfl, by
    unfold Lit
    cases e : w.params.followText "set-order"
    · right; rfl
    · left; rfl⟩
  room := by show 5 * 0 < 3 * 7; decide
  few := Nat.zero_le _
section
variable {P : Program} {w : World} {A : Around} {E : Value → Shared → Prop}
/-- the loop that fills a set -/
theorem fill {I : Addr} {fp wr : List Addr} {G : Array GenState → Array GenState → Prop} {Pv : Nat → Value → Prop} {St : Nat → Shared → Prop} {R : Result → Shared → Prop} {ks : Ks} (W : WalksS P w A.in1 I fp wr G ks.length Pv St) {S : Addr} (Sfp : S ∉ fp)
    (few : ks.length ≤ 300) (val : ∀ i v, Pv i v → ∃ q, ks[i]? = some q ∧ v = .ref q.1) {h0 : Heap} (ht : Tups P w h0 ks) (S0 : h0.get? S = none) (w0 : ∀ b, b ∈ wr → h0.get? b = none) (hu : A.in1.units < cLine) :
    ∀ (m i : Nat) (s : Shared), i + m = ks.length → St i s → Old h0 s.heap → (∃ L es ep t, SetW P w s.heap S L es ep t ∧ Got ks i L) →
      (∀ s' L es ep t, Moved (S :: wr) G s s' → SetW P w s'.heap S L es ep t → Got ks ks.length L → Old h0 s'.heap → R (.ok (.ret .none)) s') →
      codeAny (model P w) A (.builtin "set.update.loop" ⟨[.ref S, .ref I], []⟩) R s := by
  have Swr : S ∉ wr := fun z => Sfp (W.sub S z)
  have wr' : ∀ b, b ∈ wr → b ∈ S :: wr := fun b z => List.mem_cons_of_mem S z
  have on : ∀ {s s' : Shared}, Moved wr G s s' → Old h0 s.heap → Old h0 s'.heap := fun mv k b o e => mv.heap b o (fun z => by rw [w0 b z] at e; cases e) (k b o e)
  intro m
  induction m with
  | zero =>
    rintro i s hi st old ⟨L, es, ep, t, R1, g⟩ fin
    obtain rfl : i = ks.length := hi
    refine codeAny_builtin F.entry_set_update_loop ?_; rw [Around.under_plainId F.plain_set_update_loop _]
    show wpAny _ A.in1 (pyNext (.ref I) >>= _) _ _ s; refine wpAny_bind (W.done s _ _ st fun s' mv => ?_)
    exact wpAny_pure (fin s' L es ep t (mv.mono wr') (R1.old fun o e => mv.heap S o Swr e) g (on mv old))
  | succ m ih =>
    rintro i s hi st old ⟨L, es, ep, t, R1, g⟩ fin
    refine codeAny_builtin F.entry_set_update_loop ?_; rw [Around.under_plainId F.plain_set_update_loop _]
    show wpAny _ A.in1 (pyNext (.ref I) >>= _) _ _ s; refine wpAny_bind (W.item i s _ _ (by omega) st fun v s' pv st' mv => ?_)
    obtain ⟨q, hq, rfl⟩ := val i v pv
    have old' := on mv old
    have R2 : SetW P w s'.heap S L es ep t := R1.old fun o e => mv.heap S o Swr e
    have T2 : Tups P w s'.heap L := tups_of ht old' g
    have qx : IsT P w s'.heap q.2 q.1 := isT_keep (ht q (List.mem_of_getElem? hq)) old'
    show wpAny _ A.in1 (holding [Value.ref q.1] (setAdd S (.ref q.1)) >>= _) _ _ s'
    unfold setAdd
    refine wpAny_bind (wpAny_holding (wpAny_holding (wpAny_bind (wpAny_pyHash_tuple hu qx ?_))))
    refine add (s := { s' with toks := s'.toks + (q.2.length + 1) }) R2 T2 qx hu (by have := g.len; omega) fun b h' L' es' ep' t' sb R3 c1 c2 => ?_
    have g' : Got ks (i + 1) L' := by
      by_cases c : q.2 ∈ L.map fun q => q.2
      · exact c1 c ▸ g.same hq c
      · exact g.more hq (c2 c)
    have old2 : Old h0 h' := fun b o e => (sb.2 b fun z => by rw [z, S0] at e; cases e).trans (old' b o e)
    refine wpAny_pure ⟨plainId_quiet F.plain_set_update_loop _, ih (i + 1) _ (by omega) (W.frame _ s' _ _ st' (Nat.le_add_right ..) fun b hb o e => (sb.2 b fun z => Sfp (z ▸ hb)).trans e) old2 ⟨L', es', ep', t', R3, g'⟩ fun s2 L2 es2 ep2 t2 mv2 R4 g2 old3 => ?_⟩
    exact fin s2 L2 es2 ep2 t2 (Moved.trans W.gtrans ((mv.mono wr').then_heap (Nat.le_add_right ..) fun b o hb e => (sb.2 b fun z => hb (z ▸ List.mem_cons_self)).trans e) mv2) R4 g2 old3
end

section
variable {P : Program} {w : World} {A : Around} {E : Value → Shared → Prop} {s : Shared}
/-- the heap with the new set, empty -/
abbrev heap0 (w : World) (h : Heap) : Heap := h.push (set0 w)
/-- what stands behind the set's making -/
def Made (P : Program) (w : World) (s : Shared) (ks : Ks) (s' : Shared) : Prop := ∃ h' tk L es ep t, s' = { s with heap := h', toks := tk } ∧ SetW P w h' s.heap.objs.size L es ep t ∧ Got ks ks.length L ∧ Old s.heap h'
theorem new_none {h : Heap} {b : Addr} (hb : h.objs.size ≤ b) : h.get? b = none := by
  cases q : h.get? b with
  | none => rfl
  | some o => exact absurd (Heap.lt_size q) (Nat.not_lt.mpr hb)
/-- the loop from the empty set on -/
theorem fill0 {l : Addr} {items : Array Value} {ks : Ks} (hh : A.in1.in1.in1.handled = none) (hl : s.heap.IsList l items) (hit : items.toList = ks.map fun q => Value.ref q.1) (ht : Tups P w s.heap ks) (few : ks.length ≤ 300) (hu : A.in1.in1.in1.units < cLine) {R : Result → Shared → Prop}
    (fin : ∀ s', Made P w s ks s' → R (.ok (.ret .none)) s') :
    codeAny (model P w) A.in1.in1 (.builtin "set.update.loop" ⟨[.ref s.heap.objs.size, .ref (heap0 w s.heap).objs.size], []⟩) R { s with heap := (heap0 w s.heap).push ⟨.type "list_iterator", none, .fields #[.ref l, .int 0 0], #[]⟩ } := by
  have isz : items.size = ks.length := by
    rw [← Array.length_toList, hit]
    exact List.length_map _
  obtain ⟨ol, hol, hc, n, hd⟩ := hl
  have ll := Heap.lt_size hol
  have hp : (heap0 w s.heap).objs.size = s.heap.objs.size + 1 := Heap.size_push ..
  have hl1 : (heap0 w s.heap).IsList l items := ⟨ol, Heap.get?_push_of_some _ hol, hc, n, hd⟩
  have val : ∀ (i : Nat) (v : Value), items[i]? = some v → ∃ q, ks[i]? = some q ∧ v = .ref q.1 := fun i v e => by
    rw [← Array.getElem?_toList, hit, List.getElem?_map] at e
    obtain ⟨q, e1, e2⟩ := Option.map_eq_some_iff.mp e
    exact ⟨q, e1, e2.symm⟩
  have W := (Walks.list (prog := P) (w := w) hh (heap0 w s.heap).objs.size l (by rw [hp]; exact Nat.ne_of_lt (Nat.lt_succ_of_lt ll)) items).toS
  rw [isz] at W
  refine fill W (by rw [hp]; simp only [List.mem_cons, List.not_mem_nil, or_false, not_or]; exact ⟨Nat.ne_of_lt (Nat.lt_succ_self _), Nat.ne_of_gt ll⟩) few val ht (new_none (Nat.le_refl _)) (fun b hb => new_none (by rw [List.mem_singleton.mp hb, hp]; omega)) hu ks.length 0 _ (Nat.zero_add _) ⟨⟨_, Heap.get?_push_size _ rfl, rfl, rfl⟩, hl1.push _⟩ (fun b o e => Heap.get?_push_of_some _ (Heap.get?_push_of_some _ e))
    ⟨[], #[], 0, _, setW_none (Heap.get?_push_of_some _ (Heap.get?_push_size _ rfl)), Got.zero ks⟩ fun s' L es ep t mv R1 g old => fin s' ?_
  obtain ⟨h', g2, d', tk', os'⟩ := s'
  cases (show g2 = s.gens from mv.gens)
  cases (show d' = s.drawn from mv.drawn)
  cases (show os' = s.os from mv.os)
  exact ⟨h', tk', L, es, ep, t, rfl, R1, g, old⟩
theorem call_set {l : Addr} {items : Array Value} {ks : Ks} {Q : Value → Shared → Prop} (hh : A.handled = none) (hl : s.heap.IsList l items) (hit : items.toList = ks.map fun q => Value.ref q.1) (ht : Tups P w s.heap ks) (few : ks.length ≤ 300) (hu : A.units + 3 < cLine)
    (h : ∀ s', Made P w s ks s' → Q (.ref s.heap.objs.size) s') : wpAny (model P w) A (call (.type "set") [.ref l]) Q E s := by
  have ⟨c, tl, hmro⟩ := F.called_set.mro; have made := F.called_set.made; have sub := F.called_set.sub
  refine wpAny_call (codeAny_of_tree ?_); show wpAny _ _ (callAny (.type "set") _) _ _ _
  refine wpAny_pure ⟨Code.quiet_builtin _ (by decide +kernel), codeAny_builtin F.entry_type_call ?_⟩; rw [Around.under_plain (weight_type_call_type "set" [.ref l] []) rfl]
  have nt := F.called_set.notType; have cc := F.called_set.canCreate; have tc := F.typeCall_set_1 (.ref l); repeat (any_goals (first | assumption | wp_step))
  refine codeAny_mono (code_set_led1 (.ref l) (E := E) (Q₁ := fun obj s₁ => obj = .ref s.heap.objs.size ∧ s₁ = { s with heap := heap0 w s.heap }) ⟨rfl, rfl⟩) fun r s₁ hr => ?_
  match r, hr with
  | .error e, hr => exact hr
  | .ok (.ret obj), hr =>
    obtain ⟨rfl, rfl⟩ := hr
    have hS : (heap0 w s.heap).get? s.heap.objs.size = some (set0 w) := Heap.get?_push_size _ rfl
    have hT : Shared.TypeIs { s with heap := heap0 w s.heap } (.ref s.heap.objs.size) "set" := ⟨_, hS, rfl⟩
    have li := F.called_set.init.lookup; have bi := F.called_set.init.bind (.ref s.heap.objs.size); repeat (any_goals (first | assumption | wp_step))
    refine codeAny_mono (codeAny_call_builtin (R := wants (fun r s₂ => r = .none ∧ Made P w s ks s₂) E) F.called_set.init.plain F.entry_set_init (check_set_init_1 hT ?_)) fun r₂ s₂ hr₂ => ?_
    · have hl' := hl
      obtain ⟨⟨ocls, odict, odata, oslots⟩, hol, hc, n, hd⟩ := hl
      simp only at hc hd
      subst hc hd
      have hol' : (heap0 w s.heap).get? l = some { cls := .type "list", dict := odict, data := .seq items n, slots := oslots } := Heap.get?_push_of_some _ hol
      have ls := F.sub_list_set; have lf := F.sub_list_frozenset
      have ne : (Value.type "list" == Value.type "dict") = false := by decide
      unfold Builtin.«set.__init__» noKeywords Builtin.Frozenset.updateFrom; generalize hPI : pyIter = PI; wp_walk; subst hPI
      refine wpAny_pyIter_list (items := items) ⟨_, hol', rfl, n, rfl⟩ (wpAny_bind (wpAny_runValue ?_))
      refine fill0 (by simp [hh]) hl' hit ht few hu fun s' m => ?_
      show wpAny _ _ _ _ _ _; exact wpAny_pure (wpAny_pure ⟨rfl, m⟩)
    · match r₂, hr₂ with
      | .error e, hr₂ => exact hr₂
      | .ok (.ret r), hr₂ =>
        obtain ⟨rfl, m⟩ := hr₂
        have m' := m
        obtain ⟨h', tk, L, es, ep, t, rfl, R1, g, old⟩ := m
        repeat (any_goals (first | assumption | exact h _ m' | wp_step))
end

end TW

/-! DTX: sets of pairs sorted; sets and sorted as calls. -/
namespace TW
open PySem PySem.Spec PyProof.Rows L2

/-! ### sorted -/
/-- the two numbers of a pair in the heap -/
def two (h : Heap) (v : Value) : Int × Int := ((TS.intsOf h v).getD 0 0, (TS.intsOf h v).getD 1 0)
def TwoOf (k : List Int) : Prop := ∃ x y, k = [x, y]
def pr (k : List Int) : Int × Int := (k.getD 0 0, k.getD 1 0)
section
variable {P : Program} {w : World} {A : Around} {E : Value → Shared → Prop} {s : Shared}
theorem pair_at {h : Heap} {k : List Int} {b : Addr} (x : IsT P w h k b) (z : TwoOf k) : Srt.IsPair h (.ref b) (pr k).1 (pr k).2 ∧ two h (.ref b) = pr k := by
  obtain ⟨x0, y0, rfl⟩ := z
  have e := (tupInts_of x).ints
  obtain ⟨o, items, n, ho, hc, hd, hi⟩ := x
  refine ⟨?_, by unfold two pr; rw [e]⟩
  have ii := ints_of_items hi
  obtain ⟨l, el⟩ : ∃ l, l = items.toList := ⟨_, rfl⟩
  rw [← el] at ii
  cases ii with
  | cons _ t ii =>
    cases ii with
    | cons _ u ii =>
      cases ii
      have ei : items = #[.int x0 t, .int y0 u] := by
        rw [← Array.toArray_toList (xs := items), ← el]
      exact ⟨b, o, t, u, n, rfl, ho, hc, by rw [hd, ei]; rfl⟩
/-- the values are members' addresses -/
theorem ks_of {L : Ks} : ∀ {vs : List Value}, (∀ v, v ∈ vs → v ∈ L.map fun q => Value.ref q.1) → ∃ L1 : Ks, (L1.map fun q => Value.ref q.1) = vs ∧ ∀ q, q ∈ L1 → q ∈ L
  | [], _ => ⟨[], rfl, fun q z => by cases z⟩
  | v :: vs, h => by
    obtain ⟨L1, e, m⟩ := ks_of fun u hu => h u (List.mem_cons_of_mem v hu)
    obtain ⟨q, hq, eq⟩ := List.mem_map.mp (h v List.mem_cons_self)
    exact ⟨q :: L1, by rw [List.map_cons, e, eq], fun r hr => (List.mem_cons.mp hr).elim (fun z => z ▸ hq) (m r)⟩
theorem ref_once {h : Heap} {L : Ks} (ht : Tups P w h L) (once : List.Nodup (L.map fun q => q.2)) : (∀ q, q ∈ L → ∀ r, r ∈ L → q.1 = r.1 → q = r) ∧ List.Nodup (L.map fun q => Value.ref q.1) := by
  have one : ∀ q, q ∈ L → ∀ r, r ∈ L → q.1 = r.1 → q = r := fun q hq r hr e => by
    have a1 := ht q hq
    rw [e] at a1
    exact Prod.ext e (a1.inj (ht r hr))
  refine ⟨one, List.pairwise_map.mpr ((nodup_of_map once).imp_of_mem fun hq hr ne z => ne (one _ hq _ hr (Value.ref.inj z)))⟩
theorem ks_perm {h : Heap} {L L1 : Ks} (ht : Tups P w h L) (once : List.Nodup (L.map fun q => q.2)) (m : ∀ q, q ∈ L1 → q ∈ L) (pm : List.Perm (L1.map fun q => Value.ref q.1) (L.map fun q => Value.ref q.1)) : L1.Perm L := by
  obtain ⟨one, nd⟩ := ref_once ht once
  refine (List.perm_ext_iff_of_nodup (nodup_of_map (pm.nodup_iff.mpr nd)) (nodup_of_map once)).mpr fun q => ⟨m q, fun hq => ?_⟩
  obtain ⟨r, hr, e⟩ := List.mem_map.mp (pm.mem_iff.mpr (List.mem_map_of_mem (f := fun q : Addr × List Int => Value.ref q.1) hq))
  rw [← one r (m r hr) q hq (Value.ref.inj e)]
  exact hr
/-- a list of the members, sorted in place: what it holds then -/
def Laid2 (s : Shared) (L : Ks) (s' : Shared) (p : Addr) : Prop := ∃ (out : Array Value) (c : Nat) (L' : Ks), Old s.heap s'.heap ∧ s'.gens = s.gens ∧ s'.os = s.os ∧ s.heap.objs.size ≤ p ∧ s'.heap.get? p = some (seqObj "list" out c) ∧
  out.toList = (L'.map fun q => Value.ref q.1) ∧ L'.Perm L ∧ L'.Pairwise fun q r => SrtO.lexB (pr r.2) (pr q.2) = false
theorem sort_tail {L : Ks} (ht : Tups P w s.heap L) (tw : ∀ q, q ∈ L → TwoOf q.2) (once : List.Nodup (L.map fun q => q.2)) (few : L.length ≤ sizeLine) {vs : List Value} (pm : List.Perm vs (L.map fun q => Value.ref q.1)) {p : Addr} (hp : s.heap.objs.size ≤ p) {h1 : Heap} (old : Old s.heap h1)
    (he : h1.get? p = some (seqObj "list" vs.toArray 0)) (away : ∀ b o, s.heap.get? b = some o → b ≠ p) {Q : Value → Shared → Prop} (hQ : ∀ s', Laid2 s L s' p → Q .none s') :
    wpAny (model P w) A (call (.builtin "list.sort") [.ref p]) Q E { s with heap := h1 } := by
  have lv : vs.length = L.length := pm.length_eq.trans (List.length_map _)
  have mem : ∀ v, v ∈ vs → v ∈ L.map fun q => Value.ref q.1 := fun v hv => pm.mem_iff.mp hv
  have prs : ∀ v, v ∈ vs → Srt.IsPair h1 v (two h1 v).1 (two h1 v).2 := fun v hv => by
    obtain ⟨q, hq, rfl⟩ := List.mem_map.mp (mem v hv)
    obtain ⟨a1, a2⟩ := pair_at (isT_keep (ht q hq) old) (tw q hq)
    rw [a2]
    exact a1
  refine wpAny_call_entry slot_list_sort ⟨_, he, rfl⟩ entry_list_sort (SrtO.list_sort_ord (SrtO.swo_lex (two h1)) he (by omega) (fun h2 => SrtO.pairs_sortableO (by omega) prs fun o e c => ?_) fun out srt stb => ⟨_, rfl, hQ _ ?_⟩) (args_list_sort _)
  · cases he.symm.trans e
    exact absurd (Value.type.inj c) (by decide)
  · obtain ⟨L', e, m⟩ := ks_of (L := L) fun v hv => mem v (stb.perm.mem_iff.mp hv)
    obtain ⟨c, hc⟩ := sortedHeap_at (vs := vs) (out := out.toArray) he
    refine ⟨out.toArray, c, L', fun b o eb => ?_, rfl, rfl, hp, hc, e.symm, ks_perm ht once m (e ▸ stb.perm.trans pm), ?_⟩
    · exact (sortedHeap_old (away b o eb) (Heap.lt_size (old b o eb))).trans (old b o eb)
    · rw [← e] at srt
      refine (List.pairwise_map.mp srt).imp_of_mem fun {q r} hq hr z => ?_
      have z : SrtO.lexB (two h1 (.ref r.1)) (two h1 (.ref q.1)) = false := z
      rwa [(pair_at (isT_keep (ht q (m q hq)) old) (tw q (m q hq))).2, (pair_at (isT_keep (ht r (m r hr)) old) (tw r (m r hr))).2] at z
theorem sort_set {a : Addr} {L : Ks} {es : Array (Int × Value)} {ep : Nat} {t : SetTable} (R : SetW P w s.heap a L es ep t) (ht : Tups P w s.heap L) (tw : ∀ q, q ∈ L → TwoOf q.2) (hh : A.handled = none) {Q : Value → Shared → Prop} (hQ : ∀ s' p, Laid2 s L s' p → Q (.ref p) s') :
    wpAny (model P w) A (call (.builtin "sorted") [.ref a]) Q E s := by
  obtain ⟨o, ho, hex, hd⟩ := R.obj
  have sz := R.size
  have few := R.few
  refine Calls.call_function_entry kind_sorted plain_sorted entry_sorted (args_sorted1 _) ?_; unfold Builtin.«sorted»
  refine wpAny_bind (m := checkCount "sorted" 1 1 _) (wpAny_pure (wpAny_bind (collect_set (A := A.in1) hh ⟨o, ho, hex.1, hd⟩ R.fit (by unfold scanBound; omega) R.tab.up R.lit.2 fun s1 vs old le g1 o1 pm => ?_)))
  have em : es.toList.map (·.2) = L.map fun q => Value.ref q.1 := by
    rw [← R.row]
    exact List.map_map ..
  rw [em] at pm
  have lv : vs.length = L.length := pm.length_eq.trans (List.length_map _)
  refine wpAny_bind (wpAny_newList ?_ (by rw [sizeLine_eq]; omega))
  refine wpAny_bind (wpAny_holding (sort_tail (s := s1) (h1 := s1.heap.push (seqObj "list" vs.toArray 0)) (p := s1.heap.objs.size) (tups_of (i := L.length) ht old ⟨fun q z => by rw [List.take_length]; exact z, fun q z => List.mem_map_of_mem (List.mem_of_mem_take z), Nat.le_refl _⟩) tw R.once (by rw [sizeLine_eq]; omega) pm (Nat.le_refl _) (fun b o e => Heap.get?_push_of_some _ e) (Heap.get?_push_size _ rfl) (fun b o e => Nat.ne_of_lt (Heap.lt_size e)) fun s' l2 => ?_))
  obtain ⟨out, c, L', k1, k2, k3, k4, k5⟩ := l2
  exact wpAny_pure ⟨_, rfl, hQ _ _ ⟨out, c, L', fun b o e => k1 b o (old b o e), k2.trans g1, k3.trans o1, Nat.le_trans le k4, k5⟩⟩
end

/-! ### as calls -/
def SetO (P : Program) (w : World) (a : Addr) (L : Ks) : HO := .ext fun h => ∃ es ep t, SetW P w h a L es ep t
section
variable {X : Cx}
theorem setO_new {P : Program} {w : World} {H : Hp} {h : Heap} {a : Addr} {L : Ks} {es : Array (Int × Value)} {ep : Nat} {t : SetTable} (R : SetW P w h a L es ep t) : ObjOk P w H h a (SetO P w a L) := by
  obtain ⟨o, ho, _⟩ := R.obj
  exact ⟨⟨es, ep, t, R⟩, ⟨o, ho⟩, fun h1 h2 ⟨e2, p2, t2, R2⟩ k => ⟨e2, p2, t2, R2.old k⟩⟩
/-- set(xs), xs a list of up to 300 tuples of ints -/
def rSetW (K : PySem.W.Frag) (P : Program) (w : World) : List V → Hp → VK → Prop := fun xs H Q => ∃ (l : Addr) (ks : Ks), xs = [V.ref l] ∧ SqL K H l (ks.map fun q => V.ref q.1) ∧ (∀ q, q ∈ ks → SqT K H q.1 (q.2.map V.int)) ∧ ks.length ≤ 300 ∧
  ∀ a L, H a = none → (∀ q, q ∈ L → q ∈ ks) → (∀ q, q ∈ ks → q.2 ∈ L.map fun q => q.2) → List.Nodup (L.map fun q => q.2) → L.length ≤ 300 → Q (.ref a) (upd H a (SetO P w a L))
theorem cr_setW (hc : X.calm = true) (hu : X.A.units + 64 < cLine) : CallR X (.type "set") (rSetW X.K X.prog X.w) := by
  rintro pins s σ H xs us Q I r ⟨l, ks, rfl, hl, hk, few, q⟩
  obtain ⟨its, rv, pl, hz⟩ := I.list hl
  rw [Vals.ref1 r]
  refine call_set (P := X.prog) (w := X.w) (ks := ks) (I.ok.hd hc) pl.isList (by simpa using refs_of_vals rv) (fun q hq => I.isT (hk q hq)) few (by omega) fun s' m => ?_
  obtain ⟨h', tk, L, es, ep, t, rfl, R, g, old⟩ := m
  refine ⟨.ref s.heap.objs.size, upd H s.heap.objs.size (SetO X.prog X.w s.heap.objs.size L), I.laid (t' := tk) old (Nat.le_refl _) (setO_new R), rfl, q _ L (I.hok.fresh (Nat.le_refl _)) (fun q hq => List.mem_of_mem_take (g.sub q hq)) (fun q hq => g.all q (by rw [List.take_length]; exact hq)) R.once R.few⟩
/-- sorted(set), a set of pairs -/
def rSortW (K : PySem.W.Frag) (P : Program) (w : World) : List V → Hp → VK → Prop := fun vs H Q => ∃ (a : Addr) (L : Ks), vs = [V.ref a] ∧ H a = some (SetO P w a L) ∧ (∀ q, q ∈ L → SqT K H q.1 (q.2.map V.int)) ∧ (∀ q, q ∈ L → TwoOf q.2) ∧
  ∀ (L' : Ks) (p : Addr), L'.Perm L → L'.Pairwise (fun q r => SrtO.lexB (pr r.2) (pr q.2) = false) → H p = none → Q (.ref p) (upd H p (.lst (L'.map fun q => V.ref q.1)))
theorem cr_sortW (hc : X.calm = true) : CallR X (.builtin "sorted") (rSortW X.K X.prog X.w) := by
  rintro pins s σ H vs us Q I r ⟨a, L, rfl, ha, hk, tw, q⟩
  obtain ⟨es, ep, t, R⟩ : ∃ es ep t, SetW X.prog X.w s.heap a L es ep t := (I.hok a _ ha).1
  rw [Vals.ref1 r]
  refine sort_set R (fun q hq => I.isT (hk q hq)) tw (I.ok.hd hc) fun s' p ⟨out, c, L', old, g, o, hp, he, eo, pm, pw⟩ => ?_
  have few : L'.length ≤ 300 := by
    rw [pm.length_eq]
    exact R.few
  have fresh : H p = none := I.hok.fresh hp
  have vals : Vals (L'.map fun q => V.ref q.1) out.toList := eo ▸ vals_of_refs L'
  have J : Inv X pins σ (upd H p (.lst (L'.map fun q => V.ref q.1))) { s with heap := s'.heap, gens := s'.gens, drawn := s'.drawn, toks := s'.toks } :=
    I.call (ch := []) (Un.laid old hp fresh) (I.hok.laid old hp ⟨by rw [List.length_map, sizeLine_eq]; omega, out.toList, c, vals, he⟩) (g ▸ I.bare) fun _ z => nomatch z
  have e : s' = { s with heap := s'.heap, gens := s'.gens, drawn := s'.drawn, toks := s'.toks } := by
    obtain ⟨h', g', d', t', o'⟩ := s'
    cases (show o' = s.os from o)
    rfl
  rw [e]
  exact ⟨.ref p, _, J, rfl, q L' p pm pw fresh⟩
end
end TW

/-! DSW: sorted(set(xs)), xs a list of up to 300 pairs. -/
namespace DL
open PySem PySem.Spec L2
def ssWD : D → Option Val
  | .lst ds => (dPrs ds).bind fun ps => if ps.length ≤ 300 ∧ ps.all pok = true then some (.lst ((ssP ps).map fun p => .sh (pT p))) else none
  | _ => none
def sSortSetW (f : DEnv → R Val) : DEnv → R Val := fun ρ => (f ρ).bind fun x ρ1 => liftO (ssWD x.fz) ρ1
theorem lex_code {p q : Int × Int} (hp : pok p = true) (hq : pok q = true) (h : SrtO.lexB q p = false) : pcode p ≤ pcode q := by
  have a := pok_iff.mp hp
  have b := pok_iff.mp hq
  have c := SrtO.lexB_no.mp h
  unfold pcode PB
  omega
section
variable {X : Cx} {e : Expr} {fe : DEnv → R Val} {p p2 pos q : Pos}
theorem de_sortSetW (hc : X.calm = true) (hu : X.A.units + 64 < cLine) (g1 : Gl X "sorted") (m1 : X.mg "sorted" = none) (g2 : Gl X "set") (m2 : X.mg "set" = none) (he : DE X e fe) (h1 : starEach [e] X.env = (false, eval e X.env) :: starEach [] X.env := by rfl)
    (h2 : starEach [.Call (.Name "set" p2) [e] [] q] X.env = (false, eval (.Call (.Name "set" p2) [e] [] q) X.env) :: starEach [] X.env := by rfl) :
    DE X (.Call (.Name "sorted" p) [.Call (.Name "set" p2) [e] [] q] [] pos) (sSortSetW fe) :=
  PE.imp (pe_callB (TW.cr_sortW hc) g1 m1 (by decide +kernel) (pa_cons (pe_callTy (TW.cr_setW hc hu) g2 m2 (by decide +kernel) (pa_cons he pa_nil h1) (he := h1)) pa_nil h2) (he := h2)) fun σ H Q ⟨F0, H0, ρ, vs, xs, s, q⟩ => by
    refine ⟨F0, H0, ρ, vs, xs, s, (post_bind q).imp (fun x ρ1 q1 H1 v s1 => ?_) fun _ _ z => z⟩
    cases e1 : ssWD x.fz with
    | none => rw [e1] at q1; exact q1.elim
    | some z =>
      rw [e1] at q1
      obtain ⟨F, hF, a, t⟩ := s1.fz.oneT
      match hx : x.fz, e1, a with
      | .lst ds, e1, .lst (a := a) hs ha =>
        obtain ⟨ps, e2, e3⟩ := Option.bind_eq_some_iff.mp (show (dPrs ds).bind _ = some z from e1)
        have e3 : (if ps.length ≤ 300 ∧ ps.all pok = true then some (Val.lst ((ssP ps).map fun p => .sh (pT p))) else none) = some z := e3
        split at e3
        rotate_left
        · cases e3
        rename_i hl
        cases e3
        obtain ⟨ks, k1, k2, k3⟩ := ats_prs ha e2
        subst k1
        have kl : ks.length = ps.length := by simpa using congrArg List.length k2
        have of : ∀ q ∈ ks, ∃ pp ∈ ps, q.2 = [pp.1, pp.2] := fun q hq => by
          have := List.mem_map_of_mem (f := (·.2)) hq
          rw [k2] at this
          obtain ⟨pp, hpp, ee⟩ := List.mem_map.mp this
          exact ⟨pp, hpp, ee.symm⟩
        refine ⟨a, ks, rfl, hF.seq (.of hs), fun q hq => sameT hF (k3 q hq), by omega, fun p1 L np c1 c2 c3 c4 => ?_⟩
        refine ⟨p1, L, rfl, upd_same, fun q hq => sqt_upd np (sameT hF (k3 q (c1 q hq))), fun q hq => ?_, fun L' p3 d1 d4 np3 => ?_⟩
        · obtain ⟨pp, _, ee⟩ := of q (c1 q hq)
          exact ⟨_, _, ee⟩
        have hL' : ∀ q ∈ L', q ∈ ks := fun q hq => c1 q (d1.mem_iff.mp hq)
        have nd' : (L'.map (·.2)).Nodup := (d1.map _).nodup_iff.mpr c3
        have es := sorted_is hl.2 (L' := L') (fun q hq => of q (hL' q hq)) (fun pp hpp => by
          have : [pp.1, pp.2] ∈ ks.map (·.2) := by rw [k2]; exact List.mem_map.mpr ⟨pp, hpp, rfl⟩
          obtain ⟨q, hq, ee⟩ := List.mem_map.mp this
          rw [(d1.map (·.2)).mem_iff, ← ee]
          exact c2 q hq) nd' (d4.imp_of_mem fun {q r} hq hr z => by
            obtain ⟨p1, m1, e1⟩ := of q (hL' q hq)
            obtain ⟨p2, m2, e2⟩ := of r (hL' r hr)
            rw [e1, e2, code2, code2]
            rw [e1, e2] at z
            exact lex_code (List.all_eq_true.mp hl.2 p1 m1) (List.all_eq_true.mp hl.2 p2 m2) z)
        have aL : Ats X.K F (L'.map fun q => V.ref q.1) ((ssP ps).map pT) := by
          rw [← es]
          exact ats_of_ks fun q hq => k3 q (hL' q hq)
        have s2 := t _ _ aL
        have s3 : Stt X.K F0 H0 (upd H1 p1 (TW.SetO X.prog X.w p1 L)) σ ρ1 ((L'.map fun q => V.ref q.1) ++ vs) (((ssP ps).map pT).map .sh ++ xs) := by
          obtain ⟨F, f, g, h1, h2, h3, h4, h5, h6, h7, h8, h9, h10⟩ := s2.laid (o := TW.SetO X.prog X.w p1 L) np
          exact ⟨_, f, g, h1.trans h4, h2, h3, h5, h6, h7, h8, h9⟩
        have s4 := s3.newLst (by simpa using congrArg List.length es) np3
        rw [List.map_map] at s4
        exact q1 _ _ s4
end
@[simp] theorem sSortSetW_ap {f : DEnv → R Val} {ρ : DEnv} : sSortSetW f ρ = (f ρ).bind fun x ρ1 => liftO (ssWD x.fz) ρ1 := id rfl
theorem ssWD_map {ps : List (Int × Int)} (h : ps.length ≤ 300) (h2 : ps.all pok = true) : ssWD (.lst (ps.map pT)) = some (.lst ((ssP ps).map fun p => .sh (pT p))) := by
  have e : ssWD (.lst (ps.map pT)) = (dPrs (ps.map pT)).bind fun ps => if ps.length ≤ 300 ∧ ps.all pok = true then some (.lst ((ssP ps).map fun p => .sh (pT p))) else none := rfl
  rw [e, dPrs_map, Option.bind_some, if_pos ⟨h, h2⟩]
end DL

/-! DSD: sorted(d), d a dict with up to 1000 int keys. -/
namespace TW
open PySem PySem.Spec PyProof.Rows L2
theorem cr_sortDI {X : Cx} (calm : X.calm = true) : CallR X (.builtin "sorted") (fun xs H Q => ∃ (a : Addr) (kvs : List (Key × V)) (ks : List Int), xs = [.ref a] ∧ Rd H a (.dK kvs) ∧ kvs.map (·.1) = ks.map Sum.inl ∧ ks.length ≤ 1000 ∧
    ∀ (ys : List Int) (p : Addr), ys.Perm ks → ys.Pairwise (· ≤ ·) → H p = none → Q (.ref p) (upd H p (.lst (ys.map V.int)))) := by
  rintro pins s σ H xs us Q I r ⟨a, kvs, ks, rfl, hd, hks, few, q⟩
  rw [Vals.ref1 r]
  obtain ⟨z, lo, vs, rel, dd⟩ := dk_rd I.hok hd
  obtain ⟨ep, hat⟩ := dd.dictAt
  have keys : vs.map (·.1) = ks.map Sum.inl := rel.keys.symm.trans hks
  have ln : vs.length = ks.length := by simpa using congrArg List.length keys
  refine Calls.call_function_entry kind_sorted plain_sorted entry_sorted (args_sorted1 _) ?_; unfold Builtin.«sorted»
  refine wpAny_bind (m := checkCount "sorted" 1 1 _) (wpAny_pure (wpAny_bind (PySem.W.kdu_collect (A := X.A.in1) (PySem.W.kdl_dict (knd := mixKind X.prog X.w) (kvs := vs) (ep := ep) lo) (I.ok.hd calm) hat (by rw [ln, sizeLine_eq]; omega) fun h' tk acc old got => ?_)))
  have al : acc.toList.length = ks.length := by rw [Array.length_toList, got.1, ln]
  have hI : IntsAre acc.toList ks := ints_each al fun j v e => by
    obtain ⟨k, x, e1, e2⟩ := got.2 j v (by rw [← Array.getElem?_toList]; exact e)
    have e3 : (ks.map Sum.inl)[j]? = some k := by rw [← keys, List.getElem?_map, e1]; rfl
    rw [List.getElem?_map] at e3
    obtain ⟨y, e4, e5⟩ := Option.map_eq_some_iff.mp e3
    subst e5
    rcases keyIs_shape (show keyIs (Sum.inl y) v = true from e2) with ⟨i, t, ek, ev⟩ | ⟨z, t, ek, ev⟩
    · cases ek
      exact ⟨y, t, e4, ev⟩
    · cases ek
  have I1 : Inv X pins σ H { s with heap := h', toks := tk } := I.kept old
  refine wpAny_bind (wpAny_newList ?_ (by rw [al, sizeLine_eq]; omega))
  have ho : (h'.push (seqObj "list" acc.toList.toArray 0)).get? h'.objs.size = some (seqObj "list" acc.toList.toArray 0) := Heap.get?_push_size _ rfl
  refine wpAny_bind (wpAny_holding (wpAny_call_entry slot_list_sort ⟨_, ho, rfl⟩ entry_list_sort (SrtO.list_sort_ord (s := { s with heap := h'.push (seqObj "list" acc.toList.toArray 0), toks := tk }) SrtO.swo_int ho (by rw [al, sizeLine_eq]; omega) (fun h2 => SrtO.ints_sortable hI h2) fun out h1 h2 => ⟨_, rfl, ?_⟩) (args_list_sort _)))
  obtain ⟨k1, k2, k3⟩ := SrtO.ints_out hI h1 h2
  obtain ⟨e', he'⟩ := sortedHeap_at (vs := acc.toList) (out := out.toArray) ho
  refine wpAny_pure ⟨_, rfl, .ref h'.objs.size, upd H h'.objs.size (.lst ((out.map SrtO.iv).map V.int)), I1.laid (t' := tk) (fun b u e => ?_) (Nat.le_refl _) ⟨by rw [List.length_map, k2.length_eq, sizeLine_eq]; omega, out, e', vals_of_ints k1, he'⟩, rfl, q _ _ k2 k3 (I1.hok.fresh (Nat.le_refl _))⟩
  have lt := Heap.lt_size e
  exact (sortedHeap_old (Nat.ne_of_lt lt) (by rw [size_push']; exact Nat.lt_succ_of_lt lt)).trans (Heap.get?_push_of_some _ e)
end TW
namespace DL
open PySem PySem.Spec L2
def sortOW (o : Option Val) : Option Val := match o with
  | some (.dic b _) => if b.tk = false then (intK b.ks).bind fun ns => if ns.length ≤ 1000 then some (.lst ((ssI ns).map fun x => .sh (.int x))) else none else none
  | _ => none
def sSortDW (i : Nat) : DEnv → R Val := fun ρ => liftO (sortOW (getV ρ[i]?)) ρ
section
variable {X : Cx} {i : Nat} {x : Str} {q : Pos}
theorem de_sortDW {p pos : Pos} (hc : X.calm = true) (hg : Gl X "sorted") (hm : X.mg "sorted" = none) (hx : PE X (.Name x q) (tVar i)) (h1 : starEach [.Name x q] X.env = (false, eval (.Name x q) X.env) :: starEach [] X.env := by rfl) :
    DE X (.Call (.Name "sorted" p) [.Name x q] [] pos) (sSortDW i) :=
  PE.imp (pe_callB (TW.cr_sortDI hc) hg hm (by decide +kernel) (pa_cons hx pa_nil h1) (he := h1)) fun σ H Q ⟨F0, H0, ρ, vs, xs, s, q⟩ => by
    unfold sSortDW at q
    cases e : getV ρ[i]? with
    | none => rw [e] at q; exact q.elim
    | some z =>
      rw [e] at q
      match z, e, q with
      | .sh _, _, q => exact q.elim
      | .lst _, _, q => exact q.elim
      | .tup _, _, q => exact q.elim
      | .dic b ds, e, q =>
        cases e2 : sortOW (some (.dic b ds)) with
        | none => rw [e2] at q; exact q.elim
        | some z =>
          rw [e2] at q
          have e2 : (if b.tk = false then (intK b.ks).bind fun ns => if ns.length ≤ 1000 then some (Val.lst ((ssI ns).map fun x => .sh (.int x))) else none else none) = some z := e2
          split at e2
          rotate_left
          · cases e2
          rename_i ht
          obtain ⟨ns, e3, e4⟩ := Option.bind_eq_some_iff.mp e2
          split at e4
          rotate_left
          · cases e4
          rename_i hl
          cases e4
          obtain ⟨v, t1, F, f, hF, ho, tell⟩ := s.peek (getV_some e)
          obtain ⟨p, us, rfl, hd, hlen, ha⟩ := ho.dicAt hF
          have nk := hd.1.2
          obtain ⟨u, hu, rd⟩ := hd.rd
          rcases hu with ⟨z, _⟩ | ⟨_, kk, ek, rfl⟩
          · rw [ht] at z; cases z
          have en := intK_some e3
          have ekk : kk = ns.map Sum.inl := by
            rw [ek] at en
            have : ∀ (a : List Key) (n : List Int), a.map (fun k => [k]) = n.map (fun n => [Sum.inl n]) → a = n.map Sum.inl := by
              intro a
              induction a with
              | nil => intro n h; cases n with
                | nil => rfl
                | cons _ _ => cases h
              | cons y a ih =>
                intro n h
                cases n with
                | nil => cases h
                | cons m n =>
                  rw [List.map_cons, List.map_cons] at h
                  injection h with h1 h2
                  injection h1 with h3 _
                  rw [h3, List.map_cons, ih n h2]
            exact this _ _ en
          have kz : (kk.zip us).map (·.1) = kk := by
            rw [List.map_fst_zip]
            rw [ek, List.length_map] at hlen; omega
          have nn : ns.Nodup := by
            rw [ek, ekk, List.map_map] at nk
            exact List.Pairwise.of_map _ (fun a b h e => h (by rw [e])) nk
          refine ⟨_, t1, p, _, ns, rfl, rd, kz.trans ekk, by omega, fun ys p3 k1 k2 np => ?_⟩
          have em : ys = ssI ns := by
            refine sorted_eq ?_ sorted_ssI fun y => by rw [mem_ssI, k1.mem_iff]
            have ny : ys.Nodup := k1.nodup_iff.mpr nn
            exact (List.Pairwise.and k2 ny).imp fun ⟨h1, h2⟩ => by omega
          subst em
          have s3 := (s.puts (ssI ns)).newLst (by simp) np
          rw [sh_map] at s3
          exact q _ _ s3
end
@[simp] theorem sSortDW_ap {i : Nat} {ρ : DEnv} : sSortDW i ρ = liftO (sortOW (getV ρ[i]?)) ρ := id rfl
end DL

/-! DTK: a part of a name's own tuple is handed on. -/
namespace DL
open PySem PySem.Spec L2
section
variable {K : PySem.W.Frag} {F0 F H0 H : Hp} {σ : L2.St} {ρ : DEnv} {vs : List V} {xs : List Val}
theorem Owns.part : ∀ {ys : List Val} {us : List V} {f : List Addr} {k : Nat} {y : Val}, Owns K F H us ys f → ys[k]? = some y → ∃ u g, us[k]? = some u ∧ Own K F H u y g ∧ Sb g f
  | [], _, _, _, _, _, e => by simp at e
  | x :: ys, _, _, 0, y, .cons (f := f) (g := g) a t, e => by
    cases (show some x = some y from e)
    exact ⟨_, f, rfl, a, .of_sub (List.sublist_append_left f g)⟩
  | x :: ys, _, _, k + 1, y, .cons (f := f) (g := g) a t, e => by
    obtain ⟨u, g', e1, e2, e3⟩ := Owns.part t (show ys[k]? = some y from e)
    exact ⟨u, g', e1, e2, e3.trans (.of_sub (List.sublist_append_right f g))⟩
theorem Stt.part {v : V} {ys : List Val} {k : Nat} {y : Val} (h : Stt K F0 H0 H σ ρ (v :: vs) (.tup ys :: xs)) (e : ys[k]? = some y) : ∃ p us u, v = .ref p ∧ H p = some (.tup us) ∧ us[k]? = some u ∧ us.length = ys.length ∧ Stt K F0 H0 H σ ρ (u :: vs) (y :: xs) := by
  obtain ⟨F, f, g, h1, h2, h3, h4, h5, h6, h7, h8⟩ := h
  cases h6 with
  | @cons _ _ _ _ _ gg a t =>
    cases a with
    | @tup p us _ ff a1 a2 a3 =>
      obtain ⟨u, g', e1, e2, e3⟩ := a3.part e
      have s : Sb ((g' ++ gg) ++ f) ((p :: ff) ++ gg ++ f) := Sb.app (Sb.app (e3.trans (.of_sub (List.sublist_cons_self p ff))) (.refl gg)) (.refl f)
      exact ⟨p, us, u, rfl, a2, e1, a3.length, F, f, g' ++ gg, h1, h2, h3, h4, h5, .cons e2 t, s.2 h7, fun b hb => h8 b (s.1 b hb)⟩
end
def takeP (o : Option Val) (n k : Nat) (ρ : DEnv) : R Val := match o with
  | some (.tup ys) => match ys[k]? with
    | some y => .ok y (ρ.set n none)
    | none => .bad
  | _ => .bad
def sTakeP (n k : Nat) : DEnv → R Val := fun ρ => takeP (getV ρ[n]?) n k ρ
section
variable {X : Cx} {i k : Nat} {x : Str} {q q2 pos : Pos} {e : Expr}
theorem de_takeP (hx : PE X (.Name x q) (tVar i)) (hk : PE X e (tC (.int (k : Int)))) (hs : PlainIx e := by exact fun _ _ => rfl) : DE X (.Subscript (.Name x q) e pos) (sTakeP i k) :=
  PE.imp (pe_ix ix_seq hx hk hs) fun σ H Q ⟨F0, H0, ρ, vs, xs, s, q⟩ => by
    unfold sTakeP at q
    cases e0 : getV ρ[i]? with
    | none => rw [e0] at q; exact q.elim
    | some z =>
      rw [e0] at q
      match z, e0, q with
      | .tup ys, e0, q =>
        cases ek : ys[k]? with
        | none =>
          have q : post X F0 H0 vs xs _ (match ys[k]? with | some y => R.ok y (ρ.set i none) | none => .bad) := q
          rw [ek] at q; exact q.elim
        | some y =>
          have q : post X F0 H0 vs xs _ (match ys[k]? with | some y => R.ok y (ρ.set i none) | none => .bad) := q
          rw [ek] at q
          obtain ⟨v, k0, s1⟩ := s.take (getV_some e0)
          obtain ⟨p, us, u, rfl, hp, hu, hl, s2⟩ := s1.part ek
          refine ⟨_, k0, .inr (.inl ⟨p, us, k, u, rfl, rfl, .inl (.inl hp), atI_nat hu, q H u s2⟩)⟩
      | .sh _, _, q => exact q.elim
      | .lst _, _, q => exact q.elim
      | .dic _ _, _, q => exact q.elim
      | .obj _ _ _, _, q => exact q.elim
      | .at _ _, _, q => exact q.elim
      | .dcv _ _, _, q => exact q.elim
end
@[simp] theorem sTakeP_ap {n k : Nat} {ρ : DEnv} : sTakeP n k ρ = takeP (getV ρ[n]?) n k ρ := id rfl
theorem takeP_s {ys : List Val} {y : Val} {n k : Nat} {ρ : DEnv} (e : ys[k]? = some y) : takeP (some (.tup ys)) n k ρ = .ok y (ρ.set n none) := by
  unfold takeP
  simp only [e]
end DL

/-! DLub: dicts whose keys are tuples that are displayed where they are asked; walks over them. -/
namespace DL
open PySem PySem.Spec L2
section
variable {X : Cx} {i : Nat} {x : Str} {q pos : Pos} {a b e : Expr} {es : List Expr} {fs : DEnv → R (List Val)} {fb : DEnv → R Val} {fk : DEnv → R (List Key)}
theorem Stt.tup0 {K : PySem.W.Frag} {F0 H0 H : Hp} {σ : L2.St} {ρ : DEnv} {vs : List V} {xs : List Val} {p : Addr} (h : Stt K F0 H0 H σ ρ vs xs) (o : HO) (np : H p = none) : Stt K F0 H0 (upd H p o) σ ρ vs xs := by
  obtain ⟨F, f, g, h1, h2, h3, h4, h5, h6, h7, h8, h9, h10⟩ := h.laid (o := o) np
  exact ⟨_, f, g, h1.trans h4, h2, h3, h5, h6, h7, h8, h9⟩
/-- a key, and its tuple -/
def tEk (X : Cx) (f : DEnv → R (List Key)) : TE := fun σ H Q => ∃ F0 H0 ρ vs xs, Stt X.K F0 H0 H σ ρ vs xs ∧ post X F0 H0 vs xs (fun k ρ' => ∀ H' t, Stt X.K F0 H0 H' σ ρ' vs xs → H' t = some (.tup (k.map kV)) → Q (.ref t) H') (f ρ)
def DEk (X : Cx) (e : Expr) (f : DEnv → R (List Key)) : Prop := PE X e (tEk X f)
def kyR (o : Option (List Key)) (ρ : DEnv) : R (List Key) := match o with
  | some k => .ok k ρ
  | none => .bad
def sKeyT (fs : DEnv → R (List Val)) : DEnv → R (List Key) := fun ρ => (fs ρ).bind fun xs ρ1 => if xs.length ≤ 1000 then kyR (keysD (fzs xs)) ρ1 else .bad
theorem de_keyT {k} (h : DA X es fs) : DEk X (.Tuple es k pos) (sKeyT fs) :=
  PE.imp (pe_tup h) fun σ H Q ⟨F0, H0, ρ, vs, xs, s, q⟩ => by
    refine ⟨F0, H0, ρ, vs, xs, s, (post_bind q).imp (fun ys ρ1 q1 H1 ws hl s1 => ?_) fun _ _ z => z⟩
    split at q1
    rotate_left
    · exact q1.elim
    rename_i hz
    cases e : keysD (DL.fzs ys) with
    | none => rw [e] at q1; exact q1.elim
    | some k =>
      rw [e] at q1
      refine ⟨by rw [hl]; exact small_of hz, fun p np => ?_⟩
      obtain ⟨hl2, s2⟩ := s1.fzsP hl
      obtain ⟨F, hF, hA, tell⟩ := Stt.reads hl2 s2
      have ew := keys_at hA e
      refine q1 _ p ((s1.popN hl).tup0 _ np) ?_
      rw [upd_same, ew]
/-! ### d[k] -/
def dicGetK (o : Option Val) (k : List Key) : Option Val := match o with
  | some (.dic b ds) => if b.tk = true then (lookD b.ks ds k).map .sh else none
  | _ => none
def sDGetK (i : Nat) (f : DEnv → R (List Key)) : DEnv → R Val := fun ρ => match getV ρ[i]? with
  | none => .bad
  | some _ => (f ρ).bind fun k ρ1 => liftO (dicGetK (getV ρ1[i]?) k) ρ1
theorem dget_ofK {K : PySem.W.Frag} {F H : Hp} {p t : Addr} {b : DB} {us : List V} {ds : List D} {k : List Key} (hF : Same F H) (h : DicAt H p b us) (hl : b.ks.length = us.length) (ha : Ats K F us ds) (ht : b.tk = true) (hk : H t = some (.tup (k.map kV))) :
    ∀ d, lookD b.ks ds k = some d → ∃ u, DGet H p (.ref t) (some u) ∧ At K F u d := by
  obtain ⟨u, hu, rd⟩ := h.rd
  obtain ⟨l1, _⟩ := look_val k hl ha
  rcases hu with ⟨_, rfl⟩ | ⟨z, _⟩
  · intro d hd
    obtain ⟨u, q1, q2⟩ := l1 d hd
    exact ⟨u, .inr ⟨_, k, t, rd, rfl, hk, q1.symm⟩, q2⟩
  · rw [ht] at z; cases z
theorem de_dgetK (hu : X.A.units + 64 < cLine) (hx : PE X (.Name x q) (tVar i)) (hb : DEk X b fk) (hs : NoSl b := by exact fun _ _ => rfl) : DE X (.Subscript (.Name x q) b pos) (sDGetK i fk) :=
  PE.imp (pe_dget (by omega) hx hb hs) fun σ H Q ⟨F0, H0, ρ, vs, xs, s, q⟩ => by
    unfold sDGetK at q
    cases e0 : getV ρ[i]? with
    | none => rw [e0] at q; exact q.elim
    | some y0 =>
      rw [e0] at q
      obtain ⟨v, k0, _⟩ := s.peek (getV_some e0)
      refine ⟨v, k0, F0, H0, ρ, vs, xs, s, (post_bind q).imp (fun k ρ1 q1 H1 t s1 ht => ?_) fun _ _ z => z⟩
      cases e2 : getV ρ1[i]? with
      | none => rw [e2] at q1; exact q1.elim
      | some d =>
        rw [e2] at q1
        obtain ⟨v', k1, F, f, hF, ho, tell⟩ := s1.peek (getV_some e2)
        have ev : v' = v := by rw [k0] at k1; cases k1; rfl
        subst ev
        match d, ho, q1 with
        | .sh _, _, q1 => exact q1.elim
        | .lst _, _, q1 => exact q1.elim
        | .tup _, _, q1 => exact q1.elim
        | .dic b ds, ho, q1 =>
          obtain ⟨p, us, rfl, h2, h3, h4⟩ := ho.dicAt hF
          cases e : dicGetK (some (.dic b ds)) k with
          | none => rw [e] at q1; exact q1.elim
          | some z =>
            rw [e] at q1
            have e : (if b.tk = true then (lookD b.ks ds k).map Val.sh else none) = some z := e
            split at e
            rotate_left
            · cases e
            rename_i htk
            obtain ⟨d, e3, rfl⟩ := Option.map_eq_some_iff.mp e
            obtain ⟨u, g, au⟩ := dget_ofK hF h2 h3 h4 htk ht d e3
            exact ⟨p, u, rfl, g, q1 _ _ (tell [u] [d] (.one au))⟩
/-! ### d[k] = v -/
def dicPutK (o : Option Val) (i : Nat) (k : List Key) (v : D) (ρ : DEnv) : Fl := match o with
  | some (.dic b ds) => if b.tk = true ∧ b.lock = false ∧ ds.length < 10000000 then .nx (ρ.set i (some (.dic { b with ks := (putD b.ks ds k v).1 } (putD b.ks ds k v).2))) else .bad
  | _ => .bad
def sDPutK (i : Nat) (fk : DEnv → R (List Key)) (fv : DEnv → R Val) : DEnv → Fl := fun ρ => (fv ρ).fl fun v ρ1 => match getV ρ1[i]? with
  | none => .bad
  | some _ => (fk ρ1).fl fun k ρ2 => dicPutK (getV ρ2[i]?) i k v.fz ρ2
theorem Stt.editDicK {K : PySem.W.Frag} {F0 H0 H : Hp} {σ : L2.St} {ρ : DEnv} {vs : List V} {xs : List Val} {v0 v : V} {b : DB} {ds : List D} {vd : D} (h : Stt K F0 H0 H σ ρ (v0 :: v :: vs) (.dic b ds :: .sh vd :: xs)) (hL : b.lock = false) : ∃ p us F, v0 = .ref p ∧ DicAt H p b us ∧ b.ks.length = us.length ∧ Ats K F us ds ∧ At K F v vd ∧ Same F H ∧
    ∀ (b' : DB) (us' : List V) (ds' : List D) (u' : HO), DicAt (upd H p u') p b' us' → b'.ks.length = us'.length → Ats K F us' ds' → b'.lock = false → Stt K F0 H0 (upd H p u') σ ρ (.ref p :: vs) (.dic b' ds' :: xs) := by
  obtain ⟨p, us, F, e1, e2, e3, e4, _, e6, e7, e8⟩ := Stt.editDic (w := .non) (y := .non) (v := v) (vd := vd) (by
    have := (h.scal (v := .non) (d := .non) fun _ => .non)
    exact Stt.turn (as := [.non]) (bs := [.sh .non]) rfl this) hL
  exact ⟨p, us, F, e1, e2, e3, e4, e6, e7, e8⟩
theorem put_hoK {K : PySem.W.Frag} {H : Hp} {b : DB} {us : List V} {ds : List D} {F : Hp} {p t : Addr} {u : V} {d : D} {k : List Key} (h : DicAt H p b us) (hL : b.lock = false) (ht : b.tk = true) (hl : b.ks.length = us.length) (hz : us.length < sizeLine) (ha : Ats K F us ds) (au : At K F u d) (hk : H t = some (.tup (k.map kV))) :
    ∃ us' u', DPut H p (.ref t) u (upd H p u') ∧ DicAt (upd H p u') p { b with ks := (putD b.ks ds k d).1 } us' ∧ (putD b.ks ds k d).1.length = us'.length ∧ Ats K F us' (putD b.ks ds k d).2 := by
  obtain ⟨⟨hat, hn⟩, u0, hu, h0⟩ := h
  have h0 : H p = some u0 := by
    rcases h0 with ⟨_, h0⟩ | ⟨z, _⟩
    · exact h0
    · rw [hL] at z; cases z
  obtain ⟨us', q1, q2, q3, q4, q5, q6⟩ := put_val k u d hn hl ha au
  rcases hu with ⟨_, rfl⟩ | ⟨z, _⟩
  · refine ⟨us', .dT (putK (b.ks.zip us) k u), .inr ⟨_, k, t, h0, rfl, hk, by rw [List.length_zip]; omega, rfl⟩, ⟨⟨hat, q4⟩, _, .inl ⟨ht, rfl⟩, .inl ⟨hL, ?_⟩⟩, q2, q3⟩
    rw [upd_same, q1]
  · rw [ht] at z; cases z
theorem ds_dputK {qpos : Pos} (hu : X.A.units + 64 < cLine) (hx : PE X (.Name x q) (tVar i)) (hk : DEk X a fk) (hv : DE X b fb) (hs : swapsWith b (some (.Subscript (.Name x q) a qpos)) pos.line X.env = pure false := by rfl) :
    DS X (.Assign [.Subscript (.Name x q) a qpos] b pos) (sDPutK i fk fb) :=
  PS.imp (ps_dput (by omega) hx hk hv hs) fun D σ H ⟨F0, H0, ρ, vs, xs, s, q⟩ => by
    refine ⟨F0, H0, ρ, vs, xs, s, (post_fl q).imp (fun y ρ1 q1 H1 v s1 => ?_) fun _ _ z => z⟩
    cases e0 : getV ρ1[i]? with
    | none => simp only [e0] at q1; exact q1.elim
    | some y0 =>
      simp only [e0] at q1
      obtain ⟨v0, k0, _⟩ := s1.peek (getV_some e0)
      refine ⟨v0, k0, F0, H0, ρ1, _, _, s1, (post_fl q1).imp (fun k ρ2 q2 H2 t s2 ht => ?_) fun _ _ z => z.more⟩
      cases e1 : getV ρ2[i]? with
      | none => rw [e1] at q2; exact q2.elim
      | some d =>
        rw [e1] at q2
        match d, e1, q2 with
        | .sh _, e1, q2 => exact q2.elim
        | .lst _, e1, q2 => exact q2.elim
        | .tup _, e1, q2 => exact q2.elim
        | .dic bb ds, e1, q2 =>
          have q2 : fpost X F0 H0 vs xs D (if bb.tk = true ∧ bb.lock = false ∧ ds.length < 10000000 then Fl.nx (ρ2.set i (some (.dic { bb with ks := (putD bb.ks ds k y.fz).1 } (putD bb.ks ds k y.fz).2))) else .bad) := q2
          split at q2
          · rename_i hL
            have s3 := s2.fz
            obtain ⟨v1, k1, s4⟩ := s3.take (getV_some e1)
            have ev : v1 = v0 := by rw [k0] at k1; cases k1; rfl
            subst ev
            obtain ⟨p, us, F, rfl, c1, c2, c3, c5, c6, c7⟩ := s4.editDicK hL.2.1
            obtain ⟨us', u', d1, d2, d3, d4⟩ := put_hoK c1 hL.2.1 hL.1 c2 (by rw [c3.length, sizeLine_eq]; omega) c3 c5 ht
            refine ⟨p, _, rfl, d1, q2 σ _ ?_⟩
            have s5 := c7 _ us' _ u' d2 d3 d4 hL.2.1
            have hi : i < ρ2.length := (List.getElem?_eq_some_iff.mp (getV_some e1)).1
            have s6 := s5.store (i := i) (by simpa using hi)
            rw [List.set_set] at s6
            have es : σ.set i (some (.ref p)) = σ := by
              apply List.ext_getElem?
              intro j
              by_cases hj : i = j
              · subst hj
                rw [List.getElem?_set_self (by rw [s2.len]; exact hi), k1]
              · rw [List.getElem?_set_ne hj]
            rw [es] at s6
            exact s6
          · exact q2.elim
/-! ### for a, b in d -/
def tGT (X : Cx) (is : List Nat) (g : D → DEnv → Option DEnv) : TG := fun v σ H Q => ∃ F0 H0 ρ vs xs, ∃ ks : List Key, Stt X.K F0 H0 H σ ρ vs xs ∧ (∃ t, v = .ref t ∧ H t = some (.tup (ks.map kV))) ∧ ∃ ρ', g (.tup (ks.map kD)) ρ = some ρ' ∧
  ∀ σ' H', σ'.length = σ.length → (∀ j, j ∉ is → σ'[j]? = σ[j]?) → Stt X.K F0 H0 H' σ' ρ' vs xs → Q σ' H'
def DGT (X : Cx) (e : Expr) (is : List Nat) (g : D → DEnv → Option DEnv) : Prop := PG X e (tGT X is g)
theorem Stt.keys {K : PySem.W.Frag} {F0 H0 H : Hp} {σ : L2.St} {ρ : DEnv} {vs : List V} {xs : List Val} (h : Stt K F0 H0 H σ ρ vs xs) : ∀ ks : List Key, Stt K F0 H0 H σ ρ (ks.map kV ++ vs) ((ks.map kD).map .sh ++ xs)
  | [] => h
  | k :: ks => (Stt.keys h ks).scal fun _ => key_kD k
theorem dgt_seq {is : List Nat} {gs : List D → DEnv → Option DEnv} {k : Nat} {n : Nat} (hc : X.calm = true) (h : DGs X es is gs)
    (hn : (assignEach es X.env).length = n := by rfl) (hst : (assignEach es X.env).findIdx? (·.1) = none := by rfl) : DGT X (.Tuple es k pos) is (kSeq n gs) :=
  PG.imp (pg_tup hc h hn hst) fun v σ H Q ⟨F0, H0, ρ, vs, xs, ks, s, ⟨t, ev, ht⟩, ρ', e, q⟩ => by
    have e' : (if (ks.map kD).length = n then gs (ks.map kD) ρ else none) = some ρ' := e
    by_cases hd : (ks.map kD).length = n
    · rw [if_pos hd] at e'
      refine ⟨t, ks.map kV, ev, .inl (.inl ht), by simpa using hd, F0, H0, ρ, vs, xs, ks.map kD, s.keys ks, by simp, ρ', e', q⟩
    · rw [if_neg hd] at e'; cases e'
def sKeysT (i : Nat) : DEnv → R (List D) := fun ρ => match getV ρ[i]? with
  | some (.dic b ds) => if b.lock = true ∧ b.tk = true then .ok (b.ks.map fun k => .tup (k.map kD)) ρ else .bad
  | _ => .bad
theorem ds_forKT {tg : Expr} {body : List Stmt} {g : D → DEnv → Option DEnv} {bd : DEnv → Fl} {is : List Nat} (fg : List Nat) (hp : PassesOwn (model X.prog X.w) X.A X.env X.xe) (hc : X.calm = true) (hx : PE X (.Name x q) (tVar i)) (hg : DGT X tg is g) (hb : DSs X body bd)
    (hs : ∀ y, foldedSetIterable (.Name x q) X.env y = pure y := by intro _; rfl) : DS X (.For tg (.Name x q) body [] pos) (sFor (sKeysT i) g bd fg) :=
  PS.imp (ps_for hp hc (pi_keys hx) hg hb hs) fun D σ H ⟨F0, H0, ρ, vs, xs, s, q⟩ => by
    have q : fpost X F0 H0 vs xs D ((match getV ρ[i]? with | some (.dic b ds) => if b.lock = true ∧ b.tk = true then R.ok (b.ks.map fun k : List Key => DL.D.tup (k.map kD)) ρ else .bad | _ => .bad).fl fun ds ρ1 => loop g bd fg ds (DL.forget fg ρ1)) := q
    cases e : getV ρ[i]? with
    | none => rw [e] at q; exact q.elim
    | some z =>
      rw [e] at q
      match z, e, q with
      | .sh _, _, q => exact q.elim
      | .lst _, _, q => exact q.elim
      | .tup _, _, q => exact q.elim
      | .dic b ds, e, q =>
        simp only at q
        by_cases hb : b.lock = true ∧ b.tk = true
        rotate_left
        · rw [if_neg hb] at q; exact q.elim
        rw [if_pos hb] at q
        have q : fpost X F0 H0 vs xs D (loop g bd fg (b.ks.map fun k : List Key => DL.D.tup (k.map kD)) (DL.forget fg ρ)) := q
        have s0 := s
        obtain ⟨F, f, gg, h1, h2, h3, h4, h5, h6, h7, h8⟩ := s
        obtain ⟨v, g1, r, t1, t2, t3, t4⟩ := Sl.take i h5 (getV_some e)
        cases t2 with
        | dic _ _ _ _ z => rw [hb.1] at z; cases z
        | @dicL p us _ _ u o c1 c2 c3 c4 c5 c6 c7 =>
          rcases c1 with ⟨_, rfl⟩ | ⟨ht, _⟩
          rotate_left
          · rw [hb.2] at ht; cases ht
          refine ⟨_, t1, p, o, rfl, .inr ⟨_, h3 _ _ c2, ?_⟩⟩
          have sF : Stt X.K F H0 H σ ρ vs xs := ⟨F, f, gg, Same.refl _, h2, h3, fun c z _ => z, h5, h6, h7, h8⟩
          have q2 : fpost X F H0 vs xs D (loop g bd fg (b.ks.map fun k : List Key => DL.D.tup (k.map kD)) (DL.forget fg ρ)) := fpost.base (fun H' σ' ρ' vs' xs' k => by
            obtain ⟨F', f', g', k1, k2, k3, k4, k5, k6, k7, k8⟩ := k
            exact ⟨F', f', g', h1.trans k1, k2, k3, fun c z1 z2 => k4 c (h4 c z1 z2) z2, k5, k6, k7, k8⟩) q
          have hz : (b.ks.zip us).length = b.ks.length := by rw [List.length_zip]; omega
          refine ⟨fun j m σ H => m = b.ks.length - j ∧ j ≤ b.ks.length ∧ ∃ ρ, Stt X.K F H0 H σ ρ vs xs ∧ fpost X F H0 vs xs D (loop g bd fg ((b.ks.map fun k : List Key => DL.D.tup (k.map kD)).drop j) ρ), ⟨_, rfl, Nat.zero_le _, _, sF.forget, q2⟩, ?_⟩
          rintro j m σ2 H2 ⟨rfl, hj, ρ2, s2, q3⟩
          have hH2 := s2.sub _ _ c2
          by_cases hlt : j < b.ks.length
          · refine .inr ⟨⟨hH2, by rw [hz]; exact hlt⟩, fun σ' H' => ∃ ρ, Stt X.K F H0 H' σ' ρ vs xs ∧ fpost X F H0 vs xs D (loop g bd fg ((b.ks.map fun k : List Key => DL.D.tup (k.map kD)).drop (j + 1)) ρ), fun σ' H' ⟨ρ', s', q'⟩ => ⟨b.ks.length - (j + 1), by omega, rfl, hlt, ρ', s', q'⟩, fun y H' hy => ?_⟩
            obtain ⟨rfl, k', v', tt, w1, rfl, w2⟩ := hy
            have ek : b.ks[j] = k' := by
              rw [List.getElem?_zip_eq_some, List.getElem?_eq_getElem hlt] at w1
              exact Option.some.inj w1.1
            have hl2 : j < (b.ks.map fun k : List Key => DL.D.tup (k.map kD)).length := by rw [List.length_map]; exact hlt
            rw [List.drop_eq_getElem_cons hl2] at q3
            unfold loop at q3
            rw [List.getElem_map, ek] at q3
            cases e3 : g (.tup (k'.map kD)) ρ2 with
            | none => rw [e3] at q3; exact q3.elim
            | some ρ3 =>
              rw [e3] at q3
              refine ⟨F, H0, ρ2, vs, xs, k', s2, ⟨tt, rfl, w2⟩, ρ3, e3, fun σ4 H4 _ _ s4 => ⟨F, H0, ρ3, vs, xs, s4, ?_⟩⟩
              cases e2 : bd ρ3 with
              | nx ρ5 => simp only [e2] at q3; exact fun σ5 H5 s5 => ⟨_, s5.forget, q3⟩
              | ct ρ5 => simp only [e2] at q3; exact fun σ5 H5 s5 => ⟨_, s5.forget, q3⟩
              | bk ρ5 => simp only [e2] at q3; exact fun σ5 H5 s5 => q3 σ5 H5 s5.forget
              | rt y ρ5 => simp only [e2] at q3; exact q3
              | exc y ρ5 => simp only [e2] at q3; exact q3
              | bad => simp only [e2] at q3; exact q3.elim
          · have ej : j = b.ks.length := by omega
            subst ej
            rw [List.drop_of_length_le (by rw [List.length_map]; omega)] at q3
            exact .inl ⟨⟨hH2, by rw [hz]; omega⟩, q3 σ2 H2 s2⟩
end
/-! ### reckoning -/
@[simp] theorem sKeyT_ap {fs : DEnv → R (List Val)} {ρ : DEnv} : sKeyT fs ρ = (fs ρ).bind fun xs ρ1 => if xs.length ≤ 1000 then kyR (keysD (fzs xs)) ρ1 else .bad := id rfl
@[simp] theorem kyR_s {k : List Key} {ρ : DEnv} : kyR (some k) ρ = .ok k ρ := id rfl
@[simp] theorem keysD_2 {a b : Int} : keysD [.int a, .int b] = some [Sum.inl a, Sum.inl b] := id rfl
def dkO (o : Option Val) (k : R Val) : R Val := match o with
  | none => .bad
  | some _ => k
@[simp] theorem dkO_s {x : Val} {k : R Val} : dkO (some x) k = k := id rfl
@[simp] theorem sDGetK_ap {i : Nat} {f : DEnv → R (List Key)} {ρ : DEnv} : sDGetK i f ρ = dkO (getV ρ[i]?) ((f ρ).bind fun k ρ1 => liftO (dicGetK (getV ρ1[i]?) k) ρ1) := by
  unfold sDGetK dkO
  cases getV ρ[i]? <;> rfl
def dqO (o : Option Val) (k : Fl) : Fl := match o with
  | none => .bad
  | some _ => k
@[simp] theorem dqO_s {x : Val} {k : Fl} : dqO (some x) k = k := id rfl
@[simp] theorem sDPutK_ap {i : Nat} {fk : DEnv → R (List Key)} {fv : DEnv → R Val} {ρ : DEnv} : sDPutK i fk fv ρ = (fv ρ).fl fun v ρ1 => dqO (getV ρ1[i]?) ((fk ρ1).fl fun k ρ2 => dicPutK (getV ρ2[i]?) i k v.fz ρ2) := by
  unfold sDPutK
  congr 1
def ktR (o : Option Val) (ρ : DEnv) : R (List D) := match o with
  | some (.dic b ds) => if b.lock = true ∧ b.tk = true then .ok (b.ks.map fun k => .tup (k.map kD)) ρ else .bad
  | _ => .bad
@[simp] theorem sKeysT_ap {i : Nat} {ρ : DEnv} : sKeysT i ρ = ktR (getV ρ[i]?) ρ := id rfl
/-- a dict by pairs of ints -/
def pk (p : (Int × Int) × D) : List Key := [Sum.inl p.1.1, Sum.inl p.1.2]
def dP (kvs : List ((Int × Int) × D)) : Val := .dic ⟨none, false, true, kvs.map pk⟩ (kvs.map (·.2))
def dPL (p : Addr) (kvs : List ((Int × Int) × D)) : Val := .dic ⟨some p, true, true, kvs.map pk⟩ (kvs.map (·.2))
def lookP : List ((Int × Int) × D) → Int × Int → Option D
  | [], _ => none
  | p :: r, k => if p.1 = k then some p.2 else lookP r k
theorem look_dP (kvs : List ((Int × Int) × D)) (a b : Int) : lookD (kvs.map pk) (kvs.map (·.2)) [Sum.inl a, Sum.inl b] = lookP kvs (a, b) := by
  induction kvs with
  | nil => rfl
  | cons p r ih =>
    rw [List.map_cons, List.map_cons, lookD, lookP, ih]
    by_cases h : p.1 = (a, b)
    · rw [if_pos h, if_pos (by unfold pk; rw [h])]
    · rw [if_neg h, if_neg (fun z => h (by
        unfold pk at z
        simp only [List.cons.injEq, Sum.inl.injEq, and_true] at z
        exact Prod.ext z.1 z.2))]
theorem get_dP {kvs : List ((Int × Int) × D)} {a b : Int} : dicGetK (some (dP kvs)) [Sum.inl a, Sum.inl b] = (lookP kvs (a, b)).map .sh := by
  unfold dP dicGetK
  simp only
  rw [if_pos trivial, look_dP]
theorem get_dPL {p : Addr} {kvs : List ((Int × Int) × D)} {a b : Int} : dicGetK (some (dPL p kvs)) [Sum.inl a, Sum.inl b] = (lookP kvs (a, b)).map .sh := by
  unfold dPL dicGetK
  simp only
  rw [if_pos trivial, look_dP]
theorem put_dP {kvs : List ((Int × Int) × D)} {a b : Int} {i : Nat} {v : D} {ρ : DEnv} (hn : lookP kvs (a, b) = none) (hl : kvs.length < 10000000) : dicPutK (some (dP kvs)) i [Sum.inl a, Sum.inl b] v ρ = .nx (ρ.set i (some (dP (kvs ++ [((a, b), v)])))) := by
  have hp : ∀ kvs : List ((Int × Int) × D), lookP kvs (a, b) = none → putD (kvs.map pk) (kvs.map (·.2)) [Sum.inl a, Sum.inl b] v = ((kvs ++ [((a, b), v)]).map pk, (kvs ++ [((a, b), v)]).map (·.2)) := by
    intro kvs
    induction kvs with
    | nil => intro _; rfl
    | cons p r ih =>
      intro h
      unfold lookP at h
      by_cases e : p.1 = (a, b)
      · rw [if_pos e] at h; cases h
      · rw [if_neg e] at h
        have := ih h
        rw [List.map_cons, List.map_cons, putD]
        rw [if_neg (fun z => e (by
          unfold pk at z
          simp only [List.cons.injEq, Sum.inl.injEq, and_true] at z
          exact Prod.ext z.1 z.2)), this]
        rfl
  unfold dicPutK dP
  simp only
  rw [if_pos ⟨trivial, trivial, by rw [List.length_map]; exact hl⟩, hp kvs hn]
theorem new_dP : Val.dic (.new true) [] = dP [] := id rfl
theorem keys_dPL {p : Addr} {kvs : List ((Int × Int) × D)} {ρ : DEnv} : ktR (some (dPL p kvs)) ρ = .ok (kvs.map fun p => .tup [.int p.1.1, .int p.1.2]) ρ := by
  unfold dPL ktR
  simp only
  rw [if_pos ⟨trivial, trivial⟩, List.map_map]; rfl
theorem lkD_dP {i : Nat} {f : DEnv → Fl} {ρ : DEnv} {kvs : List ((Int × Int) × D)} {r : Fl} (hr : r.fine i = true) (h : ∀ p, f (ρ.set i (some (dPL p kvs))) = r.put i (dPL p kvs)) : lkD i f ρ (some (dP kvs)) = r.put i (dP kvs) := lkD_eq rfl rfl ⟨hr, h⟩
@[simp] theorem free_dP {kvs : List ((Int × Int) × D)} : (dP kvs).free = true := by unfold dP; rw [Val.free]; rfl
end DL

/-! DSE: sorted(d), d a dict whose keys are pairs of ints. -/
namespace TW
open PySem PySem.Spec PyProof.Rows L2
/-- the keys' tuples -/
theorem ks_of_kt {H : Hp} : ∀ {kvs : List (List Key × V)} {ks : List (List Key × Addr × Value)}, KT H kvs ks → (∀ p ∈ kvs, ∃ x y : Int, p.1 = [.inl x, .inl y]) → ∃ L : Ks, (L.map fun q => q.1) = (ks.map fun x => x.2.1) ∧ (L.map fun q => q.2.map (Sum.inl : Int → Key)) = kvs.map (·.1) ∧ ∀ q ∈ L, H q.1 = some (.tup (q.2.map V.int)) := by
  intro kvs ks r
  unfold KT at r
  induction r with
  | nil => exact fun _ => ⟨[], rfl, rfl, fun q hq => by cases hq⟩
  | @cons p x ps xs h t ih =>
    intro hp
    obtain ⟨L, e1, e2, e3⟩ := ih fun q hq => hp q (List.mem_cons_of_mem _ hq)
    obtain ⟨a, b, ek⟩ := hp p List.mem_cons_self
    refine ⟨(x.2.1, [a, b]) :: L, by rw [List.map_cons, e1]; rfl, (by
      have z : ((p :: ps).map fun p : List Key × V => p.1) = p.1 :: ps.map fun p => p.1 := rfl
      rw [z, ek, List.map_cons, e2]; rfl), fun q hq => ?_⟩
    rcases List.mem_cons.mp hq with rfl | hq
    · have z := h.2.1
      rw [ek] at z
      exact z
    · exact e3 q hq
theorem cr_sortDT {X : Cx} (calm : X.calm = true) : CallR X (.builtin "sorted") (fun xs H Q => ∃ (d : Addr) (kvs : List (List Key × V)), xs = [V.ref d] ∧ Rd H d (.dT kvs) ∧ kvs.length ≤ 1000 ∧ (∀ p ∈ kvs, ∃ x y : Int, p.1 = [.inl x, .inl y]) ∧ List.Nodup (kvs.map (·.1)) ∧
    ∀ (L L' : Ks) (p : Addr), (L.map fun q => q.2.map (Sum.inl : Int → Key)) = kvs.map (·.1) → L'.Perm L → (∀ q ∈ L, H q.1 = some (.tup (q.2.map V.int))) → L'.Pairwise (fun q r => SrtO.lexB (pr r.2) (pr q.2) = false) → H p = none → Q (.ref p) (upd H p (.lst (L'.map fun q => V.ref q.1)))) := by
  rintro pins s σ H xs us Q I r ⟨d, kvs, rfl, hd, few, prs, nd, q⟩
  rw [Vals.ref1 r]
  obtain ⟨z, hs, ks, kt, o, es, ep, ho, hx, hdt, he, hn⟩ := (show ObjOk X.prog X.w H s.heap d (.dT kvs) from hd.ok I.hok)
  obtain ⟨L, e1, e2, e3⟩ := ks_of_kt kt prs
  have l1 : es.size = ks.length := size_of_entries he
  have l2 : L.length = ks.length := by simpa using congrArg List.length e1
  have l3 : L.length = kvs.length := by simpa using congrArg List.length e2
  have once : List.Nodup (L.map fun q => q.2) := by
    rw [← e2] at nd
    rw [show (L.map fun q => q.2.map (Sum.inl : Int → Key)) = (L.map fun q => q.2).map (fun k => k.map Sum.inl) by rw [List.map_map]; rfl] at nd
    exact nodup_of_map nd
  have tups : Tups X.prog X.w s.heap L := fun q hq => I.isT (.inl (.inl (e3 q hq)))
  have tw : ∀ q, q ∈ L → TwoOf q.2 := fun q hq => by
    have : q.2.map (Sum.inl : Int → Key) ∈ kvs.map (·.1) := by rw [← e2]; exact List.mem_map.mpr ⟨q, hq, rfl⟩
    obtain ⟨p, hp, ep⟩ := List.mem_map.mp this
    obtain ⟨x, y, ek⟩ := prs p hp
    rw [ek] at ep
    match h : q.2, ep with
    | [a, b], _ => exact ⟨a, b, rfl⟩
    | [], ep => cases ep
    | [a], ep => cases ep
    | a :: b :: c :: m, ep => cases ep
  refine Calls.call_function_entry kind_sorted plain_sorted entry_sorted (args_sorted1 _) ?_; unfold Builtin.«sorted»
  refine wpAny_bind (m := checkCount "sorted" 1 1 _) (wpAny_pure (wpAny_bind (PySem.W.kdu_collect (A := X.A.in1) (kdl_raw hs hx hdt) (I.ok.hd calm) ho (by rw [l1, ← l2, l3, sizeLine_eq]; omega) fun h' tk acc old got => ?_)))
  have ea : acc.toList = L.map fun q => Value.ref q.1 := by
    have hl : acc.toList.length = ks.length := by rw [Array.length_toList, got.1, l1]
    have er : (L.map fun q => Value.ref q.1) = ks.map fun x => Value.ref x.2.1 := by
      have := congrArg (List.map Value.ref) e1
      rwa [List.map_map, List.map_map] at this
    rw [er]
    refine List.ext_getElem (by rw [hl, List.length_map]) fun j h1 h2 => ?_
    have hj : j < ks.length := by omega
    obtain ⟨en, hen, hv⟩ := got.2 j (acc.toList[j]) (by rw [← Array.getElem?_toList, List.getElem?_eq_getElem h1])
    have qe := entry_at he j
    rw [hen, List.getElem?_eq_getElem hj] at qe
    have e9 : en = entryOfKey (tupleKind (mixKind X.prog X.w)) ks[j] := Option.some.inj qe
    rw [hv, List.getElem_map, e9]
    rfl
  have pm : List.Perm acc.toList (L.map fun q => Value.ref q.1) := by rw [ea]
  have ln : acc.toList.length = L.length := by rw [ea, List.length_map]
  refine wpAny_bind (wpAny_newList ?_ (by rw [ln, l3, sizeLine_eq]; omega))
  refine wpAny_bind (wpAny_holding (sort_tail (s := { s with heap := h', toks := tk }) (h1 := h'.push (seqObj "list" acc.toList.toArray 0)) (p := h'.objs.size) (fun q hq => isT_keep (tups q hq) old) tw once (by rw [l3, sizeLine_eq]; omega) pm (Nat.le_refl _) (fun b o e => Heap.get?_push_of_some _ e) (Heap.get?_push_size _ rfl) (fun b o e => Nat.ne_of_lt (Heap.lt_size e)) fun s' l2 => ?_))
  obtain ⟨out, c, L', k1, k2, k3, k4, k5, k6, k7, k8⟩ := l2
  have I1 : Inv X pins σ H { s with heap := h', toks := tk } := I.kept old
  have fresh : H h'.objs.size = none := I1.hok.fresh (Nat.le_refl _)
  have vals : Vals (L'.map fun q => V.ref q.1) out.toList := k6 ▸ vals_of_refs L'
  have J : Inv X pins σ (upd H h'.objs.size (.lst (L'.map fun q => V.ref q.1))) { ({ s with heap := h', toks := tk } : Shared) with heap := s'.heap, gens := s'.gens, drawn := s'.drawn, toks := s'.toks } :=
    I1.call (s := { s with heap := h', toks := tk }) (ch := []) (Un.laid k1 (Nat.le_refl _) fresh) (I1.hok.laid k1 (Nat.le_refl _) ⟨by rw [List.length_map, k7.length_eq, l3, sizeLine_eq]; omega, out.toList, c, vals, k5⟩) (k2 ▸ I1.bare) fun _ z => nomatch z
  have e : s' = { s with heap := s'.heap, gens := s'.gens, drawn := s'.drawn, toks := s'.toks } := by
    obtain ⟨h', g', d', t', o'⟩ := s'
    cases (show o' = s.os from k3)
    rfl
  refine wpAny_pure ⟨_, rfl, ?_⟩
  rw [e]
  exact ⟨.ref _, _, J, rfl, q L L' _ e2 k7 e3 k8 fresh⟩
end TW

namespace DL
open PySem PySem.Spec L2
def pairK : List (List Key) → Option (List (Int × Int))
  | [] => some []
  | [.inl x, .inl y] :: l => (pairK l).map ((x, y) :: ·)
  | _ => none
theorem pairK_some : ∀ {l : List (List Key)} {ps : List (Int × Int)}, pairK l = some ps → l = ps.map fun p => [.inl p.1, .inl p.2]
  | [], ps, h => by cases h; rfl
  | [.inl x, .inl y] :: l, ps, h => by
    obtain ⟨ps', e1, e2⟩ := Option.map_eq_some_iff.mp (show (pairK l).map ((x, y) :: ·) = some ps from h)
    subst e2
    rw [pairK_some e1]; rfl
/-- the keys of a dict of pairs, sorted -/
def sortOT (o : Option Val) : Option (List (Int × Int)) := match o with
  | some (.dic b _) => if b.tk = true then (pairK b.ks).bind fun ps => if ps.length ≤ 300 ∧ ps.all pok = true then some (ssP ps) else none else none
  | _ => none
def eqSO (d : D) (o : Option (List (Int × Int))) : Option Val := match o with
  | some ps => if d.ok 20 = true then some (.sh (.bl (d.eqv (.lst (ps.map pT))))) else none
  | none => none
def sEqSD (f : DEnv → R Val) (i : Nat) : DEnv → R Val := fun ρ => (f ρ).bind fun x ρ1 => liftO (eqSO x.fz (sortOT (getV ρ1[i]?))) ρ1
theorem dp_prs {K : PySem.W.Frag} {H : Hp} : ∀ {L : List (Addr × List Int)} {ps : List (Int × Int)}, (∀ q ∈ L, H q.1 = some (.tup (q.2.map V.int))) → (L.map fun q => D.tup (q.2.map D.int)) = ps.map pT → DpAll K H (L.map fun q => V.ref q.1) (pys (ps.map pT))
  | [], [], _, _ => .nil
  | [], p :: ps, _, e => by cases e
  | q :: L, [], _, e => by cases e
  | q :: L, p :: ps, h, e => by
    rw [List.map_cons, List.map_cons] at e
    injection e with e1 e2
    refine .cons ?_ (dp_prs (fun r hr => h r (List.mem_cons_of_mem _ hr)) e2)
    have h0 := h q List.mem_cons_self
    match hq : q.2, e1 with
    | [a, b], e1 =>
      rw [hq] at h0
      have e3 : D.tup [D.int a, D.int b] = .tup [.int p.1, .int p.2] := e1
      injection e3 with e4
      injection e4 with e5 e6
      injection e6 with e7 _
      injection e5 with e5
      injection e7 with e7
      rw [e5, e7] at h0
      exact .tup (.inl (.inl h0)) (.cons (.int _) (.cons (.int _) .nil))
    | [], e1 => cases e1
    | [a], e1 => cases e1
    | a :: b :: c :: m, e1 => cases e1
section
variable {X : Cx} {i : Nat} {x : Str} {q : Pos} {a : Expr} {fa : DEnv → R Val}
theorem de_eqSD {p cpos pos : Pos} (hc : X.calm = true) (hu : X.A.units + 64 < cLine) (ha : DE X a fa) (hg : Gl X "sorted") (hm : X.mg "sorted" = none) (hx : PE X (.Name x q) (tVar i)) (h1 : starEach [.Name x q] X.env = (false, eval (.Name x q) X.env) :: starEach [] X.env := by rfl) :
    DE X (.Compare a [.Eq] [.Call (.Name "sorted" p) [.Name x q] [] cpos] pos) (sEqSD fa i) :=
  PE.imp (pe_cmpR (op_eqP hu) ha (pe_callB (TW.cr_sortDT hc) hg hm (by decide +kernel) (pa_cons hx pa_nil h1) (he := h1)) (nomark _)) fun σ H Q ⟨F0, H0, ρ, vs, xs, s, q⟩ => by
    refine ⟨F0, H0, ρ, vs, xs, s, (post_bind q).imp (fun y ρ1 q1 H1 w s1 => ?_) fun _ _ z => z⟩
    cases e0 : sortOT (getV ρ1[i]?) with
    | none => rw [e0] at q1; exact q1.elim
    | some ps =>
      rw [e0] at q1
      have q1 : post X F0 H0 vs xs _ (liftO (if y.fz.ok 20 = true then some (Val.sh (.bl (y.fz.eqv (.lst (ps.map pT))))) else none) ρ1) := q1
      split at q1
      rotate_left
      · exact q1.elim
      rename_i hok
      cases e : getV ρ1[i]? with
      | none => rw [e] at e0; cases e0
      | some z =>
        rw [e] at e0
        match z, e, e0 with
        | .dic b ds, e, e0 =>
          have e2 : (if b.tk = true then (pairK b.ks).bind fun ps => if ps.length ≤ 300 ∧ ps.all pok = true then some (ssP ps) else none else none) = some ps := e0
          split at e2
          rotate_left
          · cases e2
          rename_i ht
          obtain ⟨ns, e3, e4⟩ := Option.bind_eq_some_iff.mp e2
          split at e4
          rotate_left
          · cases e4
          rename_i hl
          cases e4
          obtain ⟨v, t1, F, f, hF, aw, ho, tell⟩ := s1.fz.peek1 (getV_some e)
          obtain ⟨p, us, rfl, hd, hlen, has⟩ := ho.dicAt hF
          have nk := hd.1.2
          obtain ⟨u, hu, rd⟩ := hd.rd
          rcases hu with ⟨_, rfl⟩ | ⟨z, _⟩
          rotate_left
          · rw [ht] at z; cases z
          have en := pairK_some e3
          have kz : (b.ks.zip us).map (·.1) = b.ks := by
            rw [List.map_fst_zip]
            omega
          have kl : b.ks.length = ns.length := by rw [en, List.length_map]
          refine ⟨_, t1, p, b.ks.zip us, rfl, rd, by rw [List.length_zip]; omega, fun pp hpp => ?_, by rw [kz]; exact nk, fun L L' p3 c1 c2 c3 c4 np => ?_⟩
          · have : pp.1 ∈ b.ks := by rw [← kz]; exact List.mem_map_of_mem hpp
            rw [en] at this
            obtain ⟨z, _, ez⟩ := List.mem_map.mp this
            exact ⟨_, _, ez.symm⟩
          · rw [kz, en] at c1
            have of : ∀ q ∈ L, ∃ pp ∈ ns, q.2 = [pp.1, pp.2] := fun q hq => by
              have : q.2.map (Sum.inl : Int → Key) ∈ ns.map fun p => ([.inl p.1, .inl p.2] : List Key) := by rw [← c1]; exact List.mem_map.mpr ⟨q, hq, rfl⟩
              obtain ⟨z, hz, ez⟩ := List.mem_map.mp this
              refine ⟨z, hz, ?_⟩
              match h : q.2, ez with
              | [a, b], ez =>
                injection ez with z1 z2
                injection z2 with z2 _
                injection z1 with z1
                injection z2 with z2
                rw [z1, z2]
              | [], ez => cases ez
              | [a], ez => cases ez
              | a :: b :: c :: m, ez => cases ez
            have of2 : ∀ pp ∈ ns, [pp.1, pp.2] ∈ L.map (·.2) := fun pp hpp => by
              have : ([.inl pp.1, .inl pp.2] : List Key) ∈ L.map fun q => q.2.map (Sum.inl : Int → Key) := by rw [c1]; exact List.mem_map.mpr ⟨pp, hpp, rfl⟩
              obtain ⟨q, hq, eq⟩ := List.mem_map.mp this
              obtain ⟨z, hz, ez⟩ := of q hq
              rw [ez] at eq
              injection eq with z1 z2
              injection z2 with z2 _
              injection z1 with z1
              injection z2 with z2
              exact List.mem_map.mpr ⟨q, hq, by rw [ez, z1, z2]⟩
            have nd : (L.map (·.2)).Nodup := by
              rw [en, ← c1, show (L.map fun q => q.2.map (Sum.inl : Int → Key)) = (L.map (·.2)).map (fun k => k.map Sum.inl) by rw [List.map_map]; rfl] at nk
              exact nodup_of_map nk
            have es := sorted_is hl.2 (L' := L') (fun q hq => of q (c2.mem_iff.mp hq)) (fun pp hpp => ((c2.map (·.2)).mem_iff).mpr (of2 pp hpp)) ((c2.map _).nodup_iff.mpr nd) (c4.imp_of_mem fun {q r} hq hr z => by
              obtain ⟨p1, m1, e1⟩ := of q (c2.mem_iff.mp hq)
              obtain ⟨p2, m2, e2⟩ := of r (c2.mem_iff.mp hr)
              rw [e1, e2, code2, code2]
              rw [e1, e2] at z
              exact lex_code (List.all_eq_true.mp hl.2 p1 m1) (List.all_eq_true.mp hl.2 p2 m2) z)
            have nn : ∀ q ∈ L', upd H1 p3 (.lst (L'.map fun q => V.ref q.1)) q.1 = some (.tup (q.2.map V.int)) := fun q hq => by
              rw [upd_ne (ne_of_none (c3 q (c2.mem_iff.mp hq)) np)]
              exact c3 q (c2.mem_iff.mp hq)
            have ok2 : D.ok 20 (.lst ((ssP ns).map pT)) = true := by
              show ((ssP ns).map pT).all (D.ok 19) = true
              rw [List.all_map, List.all_eq_true]
              intro z _
              rfl
            obtain ⟨p1, p2⟩ := py_ok _ _ hok
            obtain ⟨p4, _⟩ := py_ok _ _ ok2
            have hF2 : Same F (upd H1 p3 (.lst (L'.map fun q => V.ref q.1))) := fun b u e => by rw [upd_ne (ne_of_none (hF _ _ e) np)]; exact hF _ _ e
            refine ⟨_, _, at_dp hF2 _ _ _ hok aw, (show Dp X.K _ (.ref p3) (D.py (.lst ((ssP ns).map pT))) from by rw [D.py]; exact .lst (.of upd_same) (dp_prs nn es)), p1, p4, p2, ?_⟩
            have s5 := (s1.pop.tup0 (.lst (L'.map fun q => V.ref q.1)) np).scal (v := .bl (false != PyData.eqv y.fz.py (D.py (.lst ((ssP ns).map pT))))) (d := .bl (y.fz.eqv (.lst ((ssP ns).map pT)))) fun F => by
              have e : (false != PyData.eqv y.fz.py (D.py (.lst ((ssP ns).map pT)))) = D.eqv y.fz (.lst ((ssP ns).map pT)) := by unfold D.eqv; cases PyData.eqv y.fz.py (D.py (.lst ((ssP ns).map pT))) <;> rfl
              rw [e]; exact .bl _
            exact q1 _ _ s5
end
@[simp] theorem sEqSD_ap {f : DEnv → R Val} {i : Nat} {ρ : DEnv} : sEqSD f i ρ = (f ρ).bind fun x ρ1 => liftO (eqSO x.fz (sortOT (getV ρ1[i]?))) ρ1 := id rfl
end DL


/-! HU: ways in the plane: which of them turn about the middle, and which lie to one side. No program in sight. -/
namespace HU
abbrev P2 := Int × Int
def tn (a b : P2) : Int := a.1 * b.2 - a.2 * b.1
def dt (a b : P2) : Int := a.1 * b.1 + a.2 * b.2
theorem tn_swap (a b : P2) : tn b a = -tn a b := by unfold tn; grind
theorem dt_swap (a b : P2) : dt b a = dt a b := by unfold dt; grind
theorem tn_self (a : P2) : tn a a = 0 := by unfold tn; grind
theorem id1 (a b c : P2) : tn c b * dt a a = dt a b * tn c a + tn a b * dt c a := by unfold tn dt; grind
theorem id2 (a b r : P2) : dt a b * dt r r = dt r a * dt r b + tn r a * tn r b := by unfold tn dt; grind
theorem id3 (a b c r : P2) : tn b c * tn r a + tn c a * tn r b + tn a b * tn r c = 0 := by unfold tn; grind
theorem pos_left {x y : Int} (h : 0 < x * y) (hy : 0 ≤ y) : 0 < x := by
  rcases Int.lt_or_le 0 x with h1 | h1
  · exact h1
  · have := Int.mul_le_mul_of_nonneg_right h1 hy
    omega
theorem nn_left {x y : Int} (h : 0 ≤ x * y) (hy : 0 < y) : 0 ≤ x := by
  rcases Int.lt_or_le x 0 with h1 | h1
  · have := Int.mul_neg_of_neg_of_pos h1 hy
    omega
  · exact h1
theorem sq_nn (x : Int) : 0 ≤ x * x := by
  rcases Int.le_total 0 x with h | h
  · exact Int.mul_nonneg h h
  · exact Int.mul_nonneg_of_nonpos_of_nonpos h h
theorem dt_nn (a : P2) : 0 ≤ dt a a := by
  have h1 := sq_nn a.1
  have h2 := sq_nn a.2
  unfold dt; omega
theorem dt_pos {a : P2} (h : a ≠ (0, 0)) : 0 < dt a a := by
  have h1 := sq_nn a.1
  have h2 := sq_nn a.2
  unfold dt
  rcases Int.lt_or_le 0 (a.1 * a.1 + a.2 * a.2) with h3 | h3
  · exact h3
  · exfalso
    have e1 : a.1 * a.1 = 0 := by omega
    have e2 : a.2 * a.2 = 0 := by omega
    rcases Int.mul_eq_zero.mp e1 with e1 | e1
    all_goals rcases Int.mul_eq_zero.mp e2 with e2 | e2
    all_goals exact h (Prod.ext e1 e2)
def O2 (a b : P2) : Prop := tn a b = 0 ∧ dt a b < 0
def T3 (a b c : P2) : Prop := (0 < tn b c ∧ 0 < tn c a ∧ 0 < tn a b) ∨ (tn b c < 0 ∧ tn c a < 0 ∧ tn a b < 0)
def left (a b : P2) : Prop := 0 < tn a b ∨ (tn a b = 0 ∧ 0 < dt a b)
structure Good (ws : List P2) : Prop where
  nz : ∀ a ∈ ws, a ≠ (0, 0)
  no2 : ∀ a ∈ ws, ∀ b ∈ ws, ¬ O2 a b
  no3 : ∀ a ∈ ws, ∀ b ∈ ws, ∀ c ∈ ws, ¬ T3 a b c
/-- alike ways -/
theorem Good.same {ws : List P2} (g : Good ws) {a b : P2} (ha : a ∈ ws) (hb : b ∈ ws) (h : tn a b = 0) : 0 < dt a b := by
  have h1 : ¬ dt a b < 0 := fun z => g.no2 a ha b hb ⟨h, z⟩
  have h2 := id2 a a b
  have h3 := dt_pos (g.nz a ha)
  have h4 := dt_pos (g.nz b hb)
  rcases Int.lt_or_eq_of_le (show 0 ≤ dt a b by omega) with h5 | h5
  · exact h5
  · exfalso
    have e1 : dt b a = 0 := by rw [dt_swap]; omega
    have e2 : tn b a = 0 := by rw [tn_swap]; omega
    rw [e1, e2] at h2
    have := Int.mul_pos h3 h4
    omega
theorem Good.trans {ws : List P2} (g : Good ws) {a b c : P2} (ha : a ∈ ws) (hb : b ∈ ws) (hc : c ∈ ws) (h1 : 0 ≤ tn a b) (h2 : 0 ≤ tn b c) : 0 ≤ tn a c := by
  rcases Int.lt_or_le (tn a c) 0 with h | h
  · exfalso
    have hca : 0 < tn c a := by rw [tn_swap]; omega
    rcases Int.lt_or_eq_of_le h1 with p1 | p1
    · rcases Int.lt_or_eq_of_le h2 with p2 | p2
      · exact g.no3 a ha b hb c hc (.inl ⟨p2, hca, p1⟩)
      · have d := g.same hb hc p2.symm
        have i := id1 b c a
        rw [← p2] at i
        have q1 : 0 < tn a b := p1
        have q2 := Int.mul_pos d q1
        have q3 : 0 < tn a c * dt b b := by rw [i]; omega
        have := pos_left q3 (dt_nn b)
        omega
    · have d := g.same ha hb p1.symm
      have i := id1 a b c
      rw [← p1] at i
      have q2 := Int.mul_pos d hca
      have q3 : 0 < tn c b * dt a a := by rw [i]; omega
      have := pos_left q3 (dt_nn a)
      have e := tn_swap b c
      omega
  · exact h
/-- the walk to the outermost -/
def outer (s : Int) (b : P2) (ws : List P2) : P2 := ws.foldl (fun b w => if s * tn b w < 0 then w else b) b
theorem outer_mem (s : Int) : ∀ (ws : List P2) (b : P2), outer s b ws = b ∨ outer s b ws ∈ ws
  | [], b => .inl rfl
  | w :: ws, b => by
    unfold outer
    rw [List.foldl_cons]
    rcases outer_mem s ws (if s * tn b w < 0 then w else b) with h | h
    · unfold outer at h
      rw [h]
      split
      · exact .inr List.mem_cons_self
      · exact .inl rfl
    · exact .inr (List.mem_cons_of_mem _ h)
theorem outer_1 {all : List P2} (g : Good all) : ∀ (ws : List P2) (b : P2) (seen : List P2), b ∈ all → (∀ w ∈ ws, w ∈ all) → (∀ v ∈ seen, v ∈ all) → (∀ v ∈ seen, 0 ≤ tn b v) → ∀ v, v ∈ seen ∨ v ∈ ws → 0 ≤ tn (outer 1 b ws) v
  | [], b, seen, hb, hw, hs, h, v, hv => by
    rcases hv with hv | hv
    · exact h v hv
    · cases hv
  | w :: ws, b, seen, hb, hw, hs, h, v, hv => by
    unfold outer
    rw [List.foldl_cons]
    have hwa := hw w List.mem_cons_self
    by_cases c : 1 * tn b w < 0
    · rw [if_pos c]
      refine outer_1 g ws w (w :: seen) hwa (fun u hu => hw u (List.mem_cons_of_mem _ hu)) (fun u hu => ?_) (fun u hu => ?_) v ?_
      · rcases List.mem_cons.mp hu with e | hu
        · rw [e]; exact hwa
        · exact hs u hu
      · rcases List.mem_cons.mp hu with e | hu
        · rw [e, tn_self]; exact Int.le_refl 0
        · refine g.trans hwa hb (hs u hu) ?_ (h u hu)
          rw [tn_swap]; omega
      · rcases hv with hv | hv
        · exact .inl (List.mem_cons_of_mem _ hv)
        · rcases List.mem_cons.mp hv with e | hv
          · exact .inl (e ▸ List.mem_cons_self)
          · exact .inr hv
    · rw [if_neg c]
      refine outer_1 g ws b (w :: seen) hb (fun u hu => hw u (List.mem_cons_of_mem _ hu)) (fun u hu => ?_) (fun u hu => ?_) v ?_
      · rcases List.mem_cons.mp hu with e | hu
        · rw [e]; exact hwa
        · exact hs u hu
      · rcases List.mem_cons.mp hu with e | hu
        · rw [e]; omega
        · exact h u hu
      · rcases hv with hv | hv
        · exact .inl (List.mem_cons_of_mem _ hv)
        · rcases List.mem_cons.mp hv with e | hv
          · exact .inl (e ▸ List.mem_cons_self)
          · exact .inr hv
theorem outer_m {all : List P2} (g : Good all) : ∀ (ws : List P2) (b : P2) (seen : List P2), b ∈ all → (∀ w ∈ ws, w ∈ all) → (∀ v ∈ seen, v ∈ all) → (∀ v ∈ seen, 0 ≤ tn v b) → ∀ v, v ∈ seen ∨ v ∈ ws → 0 ≤ tn v (outer (-1) b ws)
  | [], b, seen, hb, hw, hs, h, v, hv => by
    rcases hv with hv | hv
    · exact h v hv
    · cases hv
  | w :: ws, b, seen, hb, hw, hs, h, v, hv => by
    unfold outer
    rw [List.foldl_cons]
    have hwa := hw w List.mem_cons_self
    by_cases c : -1 * tn b w < 0
    · rw [if_pos c]
      refine outer_m g ws w (w :: seen) hwa (fun u hu => hw u (List.mem_cons_of_mem _ hu)) (fun u hu => ?_) (fun u hu => ?_) v ?_
      · rcases List.mem_cons.mp hu with e | hu
        · rw [e]; exact hwa
        · exact hs u hu
      · rcases List.mem_cons.mp hu with e | hu
        · rw [e, tn_self]; exact Int.le_refl 0
        · exact g.trans (hs u hu) hb hwa (h u hu) (by omega)
      · rcases hv with hv | hv
        · exact .inl (List.mem_cons_of_mem _ hv)
        · rcases List.mem_cons.mp hv with e | hv
          · exact .inl (e ▸ List.mem_cons_self)
          · exact .inr hv
    · rw [if_neg c]
      refine outer_m g ws b (w :: seen) hb (fun u hu => hw u (List.mem_cons_of_mem _ hu)) (fun u hu => ?_) (fun u hu => ?_) v ?_
      · rcases List.mem_cons.mp hu with e | hu
        · rw [e]; exact hwa
        · exact hs u hu
      · rcases List.mem_cons.mp hu with e | hu
        · rw [e, tn_swap]; omega
        · exact h u hu
      · rcases hv with hv | hv
        · exact .inl (List.mem_cons_of_mem _ hv)
        · rcases List.mem_cons.mp hv with e | hv
          · exact .inl (e ▸ List.mem_cons_self)
          · exact .inr hv
theorem outer_left {w : P2} {ws : List P2} (g : Good (w :: ws)) : ∀ v ∈ w :: ws, left (outer 1 w (w :: ws)) v := fun v hv => by
  have hm : outer 1 w (w :: ws) ∈ w :: ws := by
    rcases outer_mem 1 (w :: ws) w with e | e
    · rw [e]; exact List.mem_cons_self
    · exact e
  have h := outer_1 g (w :: ws) w [] List.mem_cons_self (fun _ h => h) (fun v h => by cases h) (fun v h => by cases h) v (.inr hv)
  rcases Int.lt_or_eq_of_le h with h | h
  · exact .inl h
  · exact .inr ⟨h.symm, g.same hm hv h.symm⟩
theorem left_nn {a b : P2} (h : left a b) : 0 ≤ tn a b := by
  rcases h with h | h <;> omega
theorem left_same {a b : P2} (h : left a b) (e : tn a b = 0) : 0 < dt a b := by
  rcases h with h | h
  · omega
  · exact h.2
/-- all on one side -/
theorem good_of_left {ws : List P2} {r : P2} (hr : r ≠ (0, 0)) (h : ∀ v ∈ ws, left r v) : Good ws where
  nz := fun a ha e => by
    have := h a ha
    subst e
    unfold left tn dt at this
    simp at this
  no2 := fun a ha b hb ⟨h1, h2⟩ => by
    have la := h a ha
    have lb := h b hb
    have i := id1 a b r
    rw [h1] at i
    have p1 : 0 ≤ tn r b * dt a a := Int.mul_nonneg (left_nn lb) (dt_nn a)
    have na := left_nn la
    have za : tn r a = 0 := by
      rcases Int.lt_or_eq_of_le na with q | q
      · have := Int.mul_neg_of_neg_of_pos h2 q
        omega
      · exact q.symm
    have da := left_same la za
    have nb : tn r b = 0 := by
      rw [za] at i
      have i2 : tn r b * dt a a = 0 := by omega
      rcases Int.mul_eq_zero.mp i2 with z | z
      · exact z
      · exfalso
        have : a = (0, 0) := by
          refine Classical.byContradiction fun ne => ?_
          have := dt_pos ne
          omega
        subst this
        unfold dt at da; simp at da
    have db := left_same lb nb
    have i3 := id2 a b r
    rw [za, nb] at i3
    have p3 := Int.mul_pos da db
    have p4 : 0 < dt a b * dt r r := by omega
    have := pos_left p4 (dt_nn r)
    omega
  no3 := fun a ha b hb c hc t => by
    have la := h a ha
    have lb := h b hb
    have lc := h c hc
    have i := id3 a b c r
    have na := left_nn la
    have nb := left_nn lb
    have nc := left_nn lc
    have key : ∀ p q s x y z : Int, 0 < p → 0 < q → 0 < s → 0 ≤ x → 0 ≤ y → 0 ≤ z → p * x + q * y + s * z = 0 → x = 0 ∧ y = 0 := by
      intro p q s x y z hp hq hs hx hy hz e
      have e1 := Int.mul_nonneg (Int.le_of_lt hp) hx
      have e2 := Int.mul_nonneg (Int.le_of_lt hq) hy
      have e3 := Int.mul_nonneg (Int.le_of_lt hs) hz
      have f1 : p * x = 0 := by omega
      have f2 : q * y = 0 := by omega
      exact ⟨(Int.mul_eq_zero.mp f1).resolve_left (by omega), (Int.mul_eq_zero.mp f2).resolve_left (by omega)⟩
    have fin : tn r a = 0 → tn r b = 0 → tn a b = 0 := by
      intro za zb
      have i4 := id1 r b a
      rw [zb, tn_swap r a, za] at i4
      have i5 : tn a b * dt r r = 0 := by rw [i4]; simp
      exact (Int.mul_eq_zero.mp i5).resolve_right (by have := dt_pos hr; omega)
    rcases t with ⟨t1, t2, t3⟩ | ⟨t1, t2, t3⟩
    · obtain ⟨za, zb⟩ := key _ _ _ _ _ _ t1 t2 t3 na nb nc i
      have := fin za zb
      omega
    · obtain ⟨za, zb⟩ := key (-tn b c) (-tn c a) (-tn a b) _ _ _ (by omega) (by omega) (by omega) na nb nc (by
        rw [Int.neg_mul, Int.neg_mul, Int.neg_mul]; omega)
      have := fin za zb
      omega
/-- the line between the outermost ones -/
theorem line_pos {w : P2} {ws : List P2} {r l : P2} (g : Good (w :: ws)) (hr : r ∈ w :: ws) (hR : ∀ v ∈ w :: ws, left r v) (hl : l = outer (-1) w (w :: ws)) : ∀ v ∈ w :: ws,
    (tn r l = 0 → 0 < r.1 * v.1 + r.2 * v.2) ∧ (tn r l ≠ 0 → 0 < (l.2 - r.2) * v.1 + (r.1 - l.1) * v.2) := fun v hv => by
  have hlm : l ∈ w :: ws := by
    rw [hl]
    rcases outer_mem (-1) (w :: ws) w with e | e
    · rw [e]; exact List.mem_cons_self
    · exact e
  have hL : 0 ≤ tn v l := by
    rw [hl]
    exact outer_m g (w :: ws) w [] List.mem_cons_self (fun _ h => h) (fun v h => by cases h) (fun v h => by cases h) v (.inr hv)
  have hrv := left_nn (hR v hv)
  have hrz := g.nz r hr
  constructor
  · intro e
    have d := left_same (hR l hlm) e
    have i := id1 r l v
    rw [e] at i
    have z1 : 0 ≤ dt r l * tn v r := by have := Int.mul_nonneg hL (dt_nn r); omega
    have z2 : 0 ≤ tn v r := by rw [Int.mul_comm] at z1; exact nn_left z1 d
    have z3 := tn_swap r v
    exact left_same (hR v hv) (by omega)
  · intro e
    have s : (l.2 - r.2) * v.1 + (r.1 - l.1) * v.2 = tn v l + tn r v := by unfold tn; grind
    rw [s]
    rcases Int.lt_or_le 0 (tn v l + tn r v) with h | h
    · exact h
    · exfalso
      have e1 : tn v l = 0 := by omega
      have e2 : tn r v = 0 := by omega
      have d := left_same (hR v hv) e2
      have i := id1 r v l
      rw [e2, tn_swap v l, e1] at i
      have i2 : dt r v * tn l r = 0 := by omega
      have e3 := (Int.mul_eq_zero.mp i2).resolve_left (by omega)
      rw [tn_swap] at e3
      omega
end HU

/-! HY: sets of numbers below m as bits. -/
namespace HU
def bsum (f : Nat → Bool) : Nat → Nat
  | 0 => 0
  | m + 1 => (if f m = true then 2 ^ m else 0) + bsum f m
theorem bsum_lt (f : Nat → Bool) : ∀ m, bsum f m < 2 ^ m
  | 0 => by simp [bsum]
  | m + 1 => by
    have := bsum_lt f m
    unfold bsum
    rw [Nat.pow_succ]
    split <;> omega
theorem bsum_bit (f : Nat → Bool) : ∀ m i, (bsum f m).testBit i = (decide (i < m) && f i)
  | 0, i => by simp [bsum]
  | m + 1, i => by
    have ih := bsum_bit f m
    have lt := bsum_lt f m
    unfold bsum
    by_cases hf : f m = true
    · rw [if_pos hf]
      rcases Nat.lt_trichotomy i m with h | h | h
      · rw [Nat.testBit_two_pow_add_gt h, ih i]
        simp [h, Nat.lt_succ_of_lt h]
      · subst h
        rw [Nat.testBit_two_pow_add_eq, ih i]
        simp [hf]
      · have hl : 2 ^ m + bsum f m < 2 ^ i := by
          have : 2 ^ (m + 1) ≤ 2 ^ i := Nat.pow_le_pow_right (by decide) h
          rw [Nat.pow_succ] at this
          omega
        rw [Nat.testBit_lt_two_pow hl]
        have : ¬ i < m + 1 := by omega
        simp [this]
    · rw [if_neg hf, Nat.zero_add, ih i]
      rcases Nat.lt_trichotomy i m with h | h | h
      · simp [h, Nat.lt_succ_of_lt h]
      · subst h
        simp [hf]
      · have h1 : ¬ i < m := by omega
        have h2 : ¬ i < m + 1 := by omega
        simp [h1, h2]
theorem bsum_ext {f g : Nat → Bool} {m : Nat} (h : ∀ i, i < m → f i = g i) : bsum f m = bsum g m := by
  refine Nat.eq_of_testBit_eq fun i => ?_
  rw [bsum_bit, bsum_bit]
  by_cases hi : i < m
  · rw [h i hi]
  · simp [hi]
theorem bsum_or2 (f g : Nat → Bool) (m : Nat) : bsum f m ||| bsum g m = bsum (fun i => f i || g i) m := by
  refine Nat.eq_of_testBit_eq fun i => ?_
  rw [Nat.testBit_or, bsum_bit, bsum_bit, bsum_bit]
  by_cases hi : i < m <;> simp [hi]
theorem bsum_and2 (f g : Nat → Bool) (m : Nat) : bsum f m &&& bsum g m = bsum (fun i => f i && g i) m := by
  refine Nat.eq_of_testBit_eq fun i => ?_
  rw [Nat.testBit_and, bsum_bit, bsum_bit, bsum_bit]
  by_cases hi : i < m <;> simp [hi]
theorem bsum_add (f g : Nat → Bool) : ∀ m, bsum f m = bsum (fun i => f i && g i) m + bsum (fun i => f i && !g i) m
  | 0 => rfl
  | m + 1 => by
    have ih := bsum_add f g m
    unfold bsum
    rw [ih]
    cases f m <;> cases g m <;> simp <;> omega
theorem bsum_sub (f g : Nat → Bool) (m : Nat) : bsum f m - (bsum f m &&& bsum g m) = bsum (fun i => f i && !g i) m := by
  rw [bsum_and2]
  have := bsum_add f g m
  omega
theorem bsum_one (f : Nat → Bool) (m : Nat) (h : f m = true) : bsum f m ||| 2 ^ m = bsum f (m + 1) := by
  refine Nat.eq_of_testBit_eq fun i => ?_
  rw [Nat.testBit_or, bsum_bit, bsum_bit, Nat.testBit_two_pow]
  rcases Nat.lt_trichotomy i m with k | k | k
  · have h1 : ¬ m = i := by omega
    simp [k, Nat.lt_succ_of_lt k, h1]
  · subst k
    simp [h]
  · have h1 : ¬ m = i := by omega
    have h2 : ¬ i < m := by omega
    have h3 : ¬ i < m + 1 := by omega
    simp [h1, h2, h3]
theorem bsum_foldl (f : Nat → Bool) : ∀ m, ((List.range m).filter f).foldl (fun a n => a ||| 2 ^ n) 0 = bsum f m
  | 0 => rfl
  | m + 1 => by
    rw [List.range_succ, List.filter_append, List.foldl_append, bsum_foldl f m]
    by_cases h : f m = true
    · simp only [List.filter_cons, h, if_true, List.filter_nil, List.foldl_cons, List.foldl_nil]
      exact bsum_one f m h
    · rw [show bsum f (m + 1) = (if f m = true then 2 ^ m else 0) + bsum f m from rfl]
      simp [h]
theorem bsum_sum (f : Nat → Bool) : ∀ m, (((List.range m).filter f).map fun n => 2 ^ n).sum = bsum f m
  | 0 => rfl
  | m + 1 => by
    rw [List.range_succ, List.filter_append, List.map_append, List.sum_append, bsum_sum f m, show bsum f (m + 1) = (if f m = true then 2 ^ m else 0) + bsum f m from rfl]
    by_cases h : f m = true
    · simp [h]; omega
    · simp [h]
theorem bsum_all (m : Nat) : bsum (fun _ => true) m + 1 = 2 ^ m := by
  induction m with
  | zero => rfl
  | succ m ih => unfold bsum; rw [Nat.pow_succ]; simp; omega
theorem dark_bit (f : Nat → Bool) (m i : Nat) (h : i < m) : (bsum f m / 2 ^ i) % 2 = if f i = true then 1 else 0 := by
  have e := bsum_bit f m i
  rw [Nat.testBit_eq_decide_div_mod_eq] at e
  simp only [h, decide_true, Bool.true_and] at e
  by_cases hf : f i = true
  · rw [hf] at e
    rw [if_pos hf]
    exact of_decide_eq_true e
  · rw [if_neg hf]
    have hf : f i = false := by simpa using hf
    rw [hf] at e
    have := of_decide_eq_false e
    omega
end HU

namespace My
open PySem PySem.Spec L2 DL
def topS (i : Nat) : Stmt := PySem.Challenge.pw_shadowpost_k57_whole_dials_tell_the_turn.main.body.getD i (.Pass ⟨0, 0, 0, 0⟩)
abbrev st_cast : Stmt := topS 2
abbrev N_cast : List Str := ["point", "ray"]
abbrev P_cast : List Str := ["point", "ray"]
theorem sc_cast : FnScope N_cast P_cast (defScope st_cast) := ⟨rfl, rfl, rfl, by decide +kernel, rfl, by decide +kernel, by decide +kernel⟩
abbrev st_first_off : Stmt := topS 6
abbrev N_first_off : List Str := ["yard", "ends", "day", "turn", "stone"]
abbrev P_first_off : List Str := ["yard", "ends"]
theorem sc_first_off : FnScope N_first_off P_first_off (defScope st_first_off) := ⟨rfl, rfl, rfl, by decide +kernel, rfl, by decide +kernel, by decide +kernel⟩
abbrev st_first_alike : Stmt := topS 7
abbrev N_first_alike : List Str := ["ends", "known", "day", "turn", "stone"]
abbrev P_first_alike : List Str := ["ends"]
theorem sc_first_alike : FnScope N_first_alike P_first_alike (defScope st_first_alike) := ⟨rfl, rfl, rfl, by decide +kernel, rfl, by decide +kernel, by decide +kernel⟩
abbrev st_turn_at : Stmt := topS 9
abbrev N_turn_at : List Str := ["marks", "number", "stone", "turn"]
abbrev P_turn_at : List Str := ["marks", "number"]
theorem sc_turn_at : FnScope N_turn_at P_turn_at (defScope st_turn_at) := ⟨rfl, rfl, rfl, by decide +kernel, rfl, by decide +kernel, by decide +kernel⟩
abbrev st_Thing_init : Stmt := inClass (topS 16) 0
abbrev N_Thing_init : List Str := ["self", "numbers"]
abbrev P_Thing_init : List Str := ["self", "numbers"]
theorem sc_Thing_init : FnScope N_Thing_init P_Thing_init (defScope st_Thing_init) := ⟨rfl, rfl, rfl, by decide +kernel, rfl, by decide +kernel, by decide +kernel⟩
abbrev st_are_places : Stmt := topS 24
abbrev N_are_places : List Str := ["numbers", "number"]
abbrev P_are_places : List Str := ["numbers"]
theorem sc_are_places : FnScope N_are_places P_are_places (defScope st_are_places) := ⟨rfl, rfl, rfl, by decide +kernel, rfl, by decide +kernel, by decide +kernel⟩
abbrev st_is_height : Stmt := topS 25
abbrev N_is_height : List Str := ["number", "least"]
abbrev P_is_height : List Str := ["number", "least"]
theorem sc_is_height : FnScope N_is_height P_is_height (defScope st_is_height) := ⟨rfl, rfl, rfl, by decide +kernel, rfl, by decide +kernel, by decide +kernel⟩
abbrev st_Yard_init : Stmt := inClass (topS 30) 0
abbrev N_Yard_init : List Str := ["self", "width", "height", "things", "days", "name", "times", "turns"]
abbrev P_Yard_init : List Str := ["self", "width", "height", "things", "days"]
theorem sc_Yard_init : FnScope N_Yard_init P_Yard_init (defScope st_Yard_init) := ⟨rfl, rfl, rfl, by decide +kernel, rfl, by decide +kernel, by decide +kernel⟩
abbrev st_law_cell : Stmt := topS 32
abbrev N_law_cell : List Str := ["_law_script", "_law_at"]
abbrev P_law_cell : List Str := ["_law_script", "_law_at"]
theorem sc_law_cell : FnScope N_law_cell P_law_cell (defScope st_law_cell) := ⟨rfl, rfl, rfl, by decide +kernel, rfl, by decide +kernel, by decide +kernel⟩
abbrev st_law_churn : Stmt := topS 33
abbrev N_law_churn : List Str := ["_law_number", "_law_k", "_law_high", "_law_low"]
abbrev P_law_churn : List Str := ["_law_number", "_law_k"]
theorem sc_law_churn : FnScope N_law_churn P_law_churn (defScope st_law_churn) := ⟨rfl, rfl, rfl, by decide +kernel, rfl, by decide +kernel, by decide +kernel⟩
abbrev st_law_turn : Stmt := topS 35
abbrev N_law_turn : List Str := ["_law_number", "_law_t", "_law_kind", "_law_a", "_law_b", "_law_c", "_law_by"]
abbrev P_law_turn : List Str := ["_law_number", "_law_t", "_law_kind"]
theorem sc_law_turn : FnScope N_law_turn P_law_turn (defScope st_law_turn) := ⟨rfl, rfl, rfl, by decide +kernel, rfl, by decide +kernel, by decide +kernel⟩
abbrev st_law_sides : Stmt := topS 38
abbrev N_law_sides : List Str := ["_law_cell_here"]
abbrev P_law_sides : List Str := ["_law_cell_here"]
theorem sc_law_sides : FnScope N_law_sides P_law_sides (defScope st_law_sides) := ⟨rfl, rfl, rfl, by decide +kernel, rfl, by decide +kernel, by decide +kernel⟩
abbrev st_law_on : Stmt := topS 40
abbrev N_law_on : List Str := ["_law_stone", "_law_sides_here"]
abbrev P_law_on : List Str := ["_law_stone", "_law_sides_here"]
theorem sc_law_on : FnScope N_law_on P_law_on (defScope st_law_on) := ⟨rfl, rfl, rfl, by decide +kernel, rfl, by decide +kernel, by decide +kernel⟩
abbrev st_end_of : Stmt := topS 4
abbrev N_end_of : List Str := ["pointer", "ray", "x", "y", "c"]
abbrev P_end_of : List Str := ["pointer", "ray"]
theorem sc_end_of : FnScope N_end_of P_end_of (defScope st_end_of) := ⟨rfl, rfl, rfl, by decide +kernel, rfl, by decide +kernel, by decide +kernel⟩
abbrev st_law_row : Stmt := topS 34
abbrev N_law_row : List Str := ["_law_cell_here", "_law_many", "_law_by", "_law_found", "_law_k"]
abbrev P_law_row : List Str := ["_law_cell_here", "_law_many"]
theorem sc_law_row : FnScope N_law_row P_law_row (defScope st_law_row) := ⟨rfl, rfl, rfl, by decide +kernel, rfl, by decide +kernel, by decide +kernel⟩
abbrev st_law_fault : Stmt := topS 41
abbrev N_law_fault : List Str := ["_law_fault_here", "_law_ends_here", "_law_sides_here", "_law_off", "_law_one", "_law_other", "_law_day", "_law_turn_here", "_law_stone"]
abbrev P_law_fault : List Str := ["_law_fault_here", "_law_ends_here", "_law_sides_here"]
theorem sc_law_fault : FnScope N_law_fault P_law_fault (defScope st_law_fault) := ⟨rfl, rfl, rfl, by decide +kernel, rfl, by decide +kernel, by decide +kernel⟩
abbrev st_law_marks : Stmt := topS 42
abbrev N_law_marks : List Str := ["_law_marks_here", "_law_ends_here", "_law_sides_here", "_law_met", "_law_day", "_law_turn_here", "_law_stone", "_law_number"]
abbrev P_law_marks : List Str := ["_law_marks_here", "_law_ends_here", "_law_sides_here"]
theorem sc_law_marks : FnScope N_law_marks P_law_marks (defScope st_law_marks) := ⟨rfl, rfl, rfl, by decide +kernel, rfl, by decide +kernel, by decide +kernel⟩
abbrev st_ends_of : Stmt := topS 5
abbrev N_ends_of : List Str := ["yard", "pointer", "found", "day", "row", "turn", "ray"]
abbrev P_ends_of : List Str := ["yard", "pointer"]
theorem sc_ends_of : FnScope N_ends_of P_ends_of (defScope st_ends_of) := ⟨rfl, rfl, rfl, by decide +kernel, rfl, by decide +kernel, by decide +kernel⟩
abbrev st_cloth_of : Stmt := topS 26
abbrev N_cloth_of : List Str := ["numbers", "k"]
abbrev P_cloth_of : List Str := ["numbers"]
theorem sc_cloth_of : FnScope N_cloth_of P_cloth_of (defScope st_cloth_of) := ⟨rfl, rfl, rfl, by decide +kernel, rfl, by decide +kernel, by decide +kernel⟩
abbrev st_stretched : Stmt := topS 27
abbrev N_stretched : List Str := ["word", "numbers", "x", "y", "u", "v", "h"]
abbrev P_stretched : List Str := ["word", "numbers"]
theorem sc_stretched : FnScope N_stretched P_stretched (defScope st_stretched) := ⟨rfl, rfl, rfl, by decide +kernel, rfl, by decide +kernel, by decide +kernel⟩
abbrev st_law_days : Stmt := topS 36
abbrev N_law_days : List Str := ["_law_script", "_law_at", "_law_many", "_law_first", "_law_days_here", "_law_long", "_law_k", "_law_cell_here", "_law_kind", "_law_size", "_law_xs", "_law_turns", "_law_name", "_law_t"]
abbrev P_law_days : List Str := ["_law_script", "_law_at", "_law_many"]
theorem sc_law_days : FnScope N_law_days P_law_days (defScope st_law_days) := ⟨rfl, rfl, rfl, by decide +kernel, rfl, by decide +kernel, by decide +kernel⟩
abbrev st_law_ends : Stmt := topS 39
abbrev N_law_ends : List Str := ["_law_days_here", "_law_pointer", "_law_found", "_law_day", "_law_turn_here"]
abbrev P_law_ends : List Str := ["_law_days_here", "_law_pointer"]
theorem sc_law_ends : FnScope N_law_ends P_law_ends (defScope st_law_ends) := ⟨rfl, rfl, rfl, by decide +kernel, rfl, by decide +kernel, by decide +kernel⟩
abbrev st_dial : Stmt := topS 8
abbrev N_dial : List Str := ["yard", "pointer", "ends", "fault", "day", "turn", "stone"]
abbrev P_dial : List Str := ["yard", "pointer"]
theorem sc_dial : FnScope N_dial P_dial (defScope st_dial) := ⟨rfl, rfl, rfl, by decide +kernel, rfl, by decide +kernel, by decide +kernel⟩
abbrev st_thing_of : Stmt := topS 28
abbrev N_thing_of : List Str := ["word", "numbers"]
abbrev P_thing_of : List Str := ["word", "numbers"]
theorem sc_thing_of : FnScope N_thing_of P_thing_of (defScope st_thing_of) := ⟨rfl, rfl, rfl, by decide +kernel, rfl, by decide +kernel, by decide +kernel⟩
abbrev st_least_pointer : Stmt := topS 10
abbrev N_least_pointer : List Str := ["yard", "x", "y", "most", "faults", "h", "told"]
abbrev P_least_pointer : List Str := ["yard", "x", "y", "most"]
theorem sc_least_pointer : FnScope N_least_pointer P_least_pointer (defScope st_least_pointer) := ⟨rfl, rfl, rfl, by decide +kernel, rfl, by decide +kernel, by decide +kernel⟩
abbrev st_law_standing : Stmt := topS 37
abbrev N_law_standing : List Str := ["_law_cell_here", "_law_x", "_law_y", "_law_word"]
abbrev P_law_standing : List Str := ["_law_cell_here"]
theorem sc_law_standing : FnScope N_law_standing P_law_standing (defScope st_law_standing) := ⟨rfl, rfl, rfl, by decide +kernel, rfl, by decide +kernel, by decide +kernel⟩
abbrev st_law : Stmt := topS 43
abbrev N_law : List Str := ["_law_script", "_law_sides_here", "_law_days_here", "_law_things", "_law_yard", "_law_x", "_law_y", "_law_most", "_law_found", "_law_faults", "_law_h", "_law_name", "_law_often", "_law_turns"]
abbrev P_law : List Str := ["_law_script"]
theorem sc_law : FnScope N_law P_law (defScope st_law) := ⟨rfl, rfl, rfl, by decide +kernel, rfl, by decide +kernel, by decide +kernel⟩
structure Gs where
  u : Unit := ()
  c_Post : Addr
  c_Fence : Addr
  c_Sail : Addr
  c_Cloth : Addr
  c_House : Addr
  c_Yard : Addr
  ne_Post_Yard : c_Post ≠ c_Yard
  ne_Fence_Yard : c_Fence ≠ c_Yard
  ne_Sail_Yard : c_Sail ≠ c_Yard
  ne_Cloth_Yard : c_Cloth ≠ c_Yard
  ne_House_Yard : c_House ≠ c_Yard
  ne_Yard_Post : c_Yard ≠ c_Post
  ne_Yard_Fence : c_Yard ≠ c_Fence
  ne_Yard_Sail : c_Yard ≠ c_Sail
  ne_Yard_Cloth : c_Yard ≠ c_Cloth
  ne_Yard_House : c_Yard ≠ c_House
noncomputable def s_cast (G : Gs) : DEnv → Fl := (sRet (sFz (sTup (sCons (sOp addD (sOp mulD (sIxV 1 (sC (.int 2))) (sIxV 0 (sC (.int 0)))) (sOp mulD (sIxV 1 (sC (.int 0))) (sIxV 0 (sC (.int 2))))) (sCons (sOp addD (sOp mulD (sIxV 1 (sC (.int 2))) (sIxV 0 (sC (.int 1)))) (sOp mulD (sIxV 1 (sC (.int 1))) (sIxV 0 (sC (.int 2))))) sNil)))))
noncomputable def φ_cast (G : Gs) (ds : List D) : CR := (s_cast G (env0 2 ds)).cr
noncomputable def b_first_off_1 (G : Gs) : DEnv → Fl := (sIf (sOr (sNot (sTst (sChain (gI (fun i j => decide (i ≤ j))) (gI (fun i j => decide (i < j))) (sC (.int 0)) (sIxV 4 (sC (.int 0))) (sUn (fldD [G.c_Yard] "width") (sVar 0))))) (sNot (sTst (sChain (gI (fun i j => decide (i ≤ j))) (gI (fun i j => decide (i < j))) (sC (.int 0)) (sIxV 4 (sC (.int 1))) (sUn (fldD [G.c_Yard] "height") (sVar 0)))))) (sRet (sFz (sTup (sCons (sC (.str "off")) (sCons (sVar 2) (sCons (sVar 3) sNil)))))) sSkip)
noncomputable def s_first_off (G : Gs) : DEnv → Fl := (sSeq (sFor (sItems (sVar 1)) (kSeq 3 (kCons (kName 2) (kCons (kName 3) (kCons (kName 4) kNil)))) (b_first_off_1 G) [2, 3, 4]) (sRet (sC .non)))
noncomputable def φ_first_off (G : Gs) (ds : List D) : CR := (s_first_off G (env0 5 ds)).cr
noncomputable def b_first_alike_1 (G : Gs) : DEnv → Fl := (sSeq (sIf (sAnd (sTst (sDIn false 1 (sVar 4))) (sTst (sOp neD (sOp ixD (sDGet 1 (sVar 4)) (sC (.int 1))) (sVar 3)))) (sRet (sTup (sCons (sC (.str "alike")) (sCons (sDGet 1 (sVar 4)) (sCons (sTup (sCons (sVar 2) (sCons (sVar 3) sNil))) sNil))))) sSkip) (sIf (sTst (sDIn true 1 (sVar 4))) (sDPut' 1 (sVar 4) (sTup (sCons (sVar 2) (sCons (sVar 3) sNil)))) sSkip))
noncomputable def s_first_alike (G : Gs) : DEnv → Fl := (sSeq (sSet 1 (sDNew true)) (sSeq (sFor (sItems (sVar 0)) (kSeq 3 (kCons (kName 2) (kCons (kName 3) (kCons (kName 4) kNil)))) (b_first_alike_1 G) [2, 3, 4]) (sRet (sC .non))))
noncomputable def φ_first_alike (G : Gs) (ds : List D) : CR := (s_first_alike G (env0 5 ds)).cr
noncomputable def b_turn_at_1 (G : Gs) : DEnv → Fl := (sIf (sTst (sOp eqD (sVar 2) (sVar 1))) (sRet (sVar 3)) sSkip)
noncomputable def s_turn_at (G : Gs) : DEnv → Fl := (sSeq (sFor (sItems (sVar 0)) (kSeq 2 (kCons (kName 2) (kCons (kName 3) kNil))) (b_turn_at_1 G) [2, 3]) (sRet (sC .non)))
noncomputable def φ_turn_at (G : Gs) (ds : List D) : CR := (s_turn_at G (env0 4 ds)).cr
noncomputable def l_Thing_init (G : Gs) : List (Str × (DEnv → R Val)) := [("numbers", (sCB (g1 tupleD) (sCons (sVar 1) sNil)))]
noncomputable def φ_Thing_init (G : Gs) (ds : List D) : Option (List Str × List D) := runInit (l_Thing_init G) (none :: env0 1 ds) [] []
noncomputable def e_are_places_1 (G : Gs) : DEnv → R Val := (sChain (gI (fun i j => decide (i ≤ j))) (gI (fun i j => decide (i ≤ j))) (sOp subD (sC (.int 0)) (sC (.int 1000000000))) (sVar 1) (sC (.int 1000000000)))
noncomputable def s_are_places (G : Gs) : DEnv → Fl := (sRet (sFz (sCB (g1 allD) (sCons (sComp (sItems (sVar 0)) (kName 1) sYes (e_are_places_1 G) [1]) sNil))))
noncomputable def φ_are_places (G : Gs) (ds : List D) : CR := (s_are_places G (env0 2 ds)).cr
noncomputable def s_is_height (G : Gs) : DEnv → Fl := (sRet (sChain (gI (fun i j => decide (i ≤ j))) (gI (fun i j => decide (i ≤ j))) (sVar 1) (sVar 0) (sC (.int 1000000000))))
noncomputable def φ_is_height (G : Gs) (ds : List D) : CR := (s_is_height G (env0 2 ds)).cr
noncomputable def e_Yard_init_1 (G : Gs) : DEnv → R Val := (sTup (sCons (sVar 5) (sCons (sVar 6) (sCons (sCB (g1 listD) (sCons (sVar 7) sNil)) sNil))))
noncomputable def l_Yard_init (G : Gs) : List (Str × (DEnv → R Val)) := [("width", (sVar 1)), ("height", (sVar 2)), ("things", (sCB (g1 listD) (sCons (sVar 3) sNil))), ("days", (sComp (sItems (sVar 4)) (kSeq 3 (kCons (kName 5) (kCons (kName 6) (kCons (kName 7) kNil)))) sYes (e_Yard_init_1 G) [5, 6, 7]))]
noncomputable def φ_Yard_init (G : Gs) (ds : List D) : Option (List Str × List D) := runInit (l_Yard_init G) (none :: env0 7 ds) [] []
noncomputable def s_law_cell (G : Gs) : DEnv → Fl := (sSeq (sIf (sTst (sOp ltD (sVar 1) (sLenV 0))) (sRet (sFz (sIxV 0 (sVar 1)))) sSkip) (sRet (sC (.int 0))))
noncomputable def φ_law_cell (G : Gs) (ds : List D) : CR := (s_law_cell G (env0 2 ds)).cr
noncomputable def s_law_churn (G : Gs) : DEnv → Fl := (sSeq (sSet 0 (sFz (sOp addD (sOp addD (sOp modD (sVar 0) (sC (.int 1073741789))) (sOp mulD (sC (.int 3)) (sVar 1))) (sC (.int 1))))) (sSeq (sAsg (sCB (g2 divmodD) (sCons (sOp addD (sOp mulD (sVar 0) (sC (.int 40009))) (sOp mulD (sVar 1) (sC (.int 5501)))) (sCons (sC (.int 32749)) sNil))) (kSeq 2 (kCons (kName 2) (kCons (kName 3) kNil)))) (sRet (sFz (sOp modD (sOp addD (sOp addD (sOp mulD (sVar 2) (sVar 2)) (sOp mulD (sVar 3) (sOp addD (sVar 3) (sC (.int 613))))) (sVar 1)) (sC (.int 1500450271)))))))
noncomputable def φ_law_churn (G : Gs) (ds : List D) : CR := (s_law_churn G (env0 4 ds)).cr
noncomputable def s_law_turn (G : Gs) : DEnv → Fl := (sSeq (sAsg (sVar 2) (kSeq 3 (kCons (kName 3) (kCons (kName 4) (kCons (kName 5) kNil))))) (sSeq (sIf (sTst (sOp eqD (sOp modD (sVar 0) (sC (.int 7))) (sC (.int 6)))) (sRet (sC .non)) sSkip) (sSeq (sIf (sTst (sOp ltD (sOp modD (sVar 0) (sC (.int 5))) (sC (.int 3)))) (sRet (sFz (sTup (sCons (sOp addD (sOp mulD (sOp mulD (sC (.int 2)) (sVar 5)) (sVar 1)) (sVar 3)) (sCons (sOp addD (sVar 4) (sOp mulD (sOp mulD (sC (.int 2)) (sVar 5)) (sOp fdivD (sOp modD (sOp fdivD (sVar 0) (sC (.int 35))) (sC (.int 9))) (sC (.int 8))))) (sCons (sVar 5) sNil)))))) sSkip) (sSeq (sSet 6 (sFz (sOp ixD (sLst (sCons (sC (.int 1)) (sCons (sC (.int 1)) (sCons (sOp powD (sC (.int 10)) (sC (.int 5))) sNil)))) (sOp modD (sOp fdivD (sVar 0) (sC (.int 35))) (sC (.int 3)))))) (sRet (sFz (sTup (sCons (sOp mulD (sVar 6) (sOp subD (sOp modD (sOp fdivD (sVar 0) (sC (.int 105))) (sC (.int 9))) (sC (.int 4)))) (sCons (sOp mulD (sVar 6) (sOp subD (sOp modD (sOp fdivD (sVar 0) (sC (.int 945))) (sC (.int 9))) (sC (.int 4)))) (sCons (sOp mulD (sVar 6) (sOp addD (sC (.int 1)) (sOp modD (sOp fdivD (sVar 0) (sC (.int 8505))) (sC (.int 2))))) sNil))))))))))
noncomputable def φ_law_turn (G : Gs) (ds : List D) : CR := (s_law_turn G (env0 7 ds)).cr
noncomputable def s_law_sides (G : Gs) : DEnv → Fl := (sSeq (sSet 0 (sFz (sOp modD (sVar 0) (sOp powD (sC (.int 10)) (sC (.int 12)))))) (sSeq (sIf (sTst (sOp eqD (sOp modD (sVar 0) (sC (.int 6))) (sC (.int 5)))) (sRet (sFz (sTup (sCons (sOp addD (sC (.int 1)) (sOp modD (sOp fdivD (sVar 0) (sC (.int 6))) (sC (.int 20)))) (sCons (sOp addD (sC (.int 1)) (sOp modD (sOp fdivD (sVar 0) (sC (.int 120))) (sC (.int 20)))) sNil))))) sSkip) (sRet (sFz (sTup (sCons (sOp addD (sC (.int 1)) (sOp modD (sOp fdivD (sVar 0) (sC (.int 6))) (sC (.int 6)))) (sCons (sOp addD (sC (.int 1)) (sOp modD (sOp fdivD (sVar 0) (sC (.int 36))) (sC (.int 6)))) sNil)))))))
noncomputable def φ_law_sides (G : Gs) (ds : List D) : CR := (s_law_sides G (env0 1 ds)).cr
noncomputable def s_law_on (G : Gs) : DEnv → Fl := (sRet (sAndV (sChain (gI (fun i j => decide (i ≤ j))) (gI (fun i j => decide (i < j))) (sC (.int 0)) (sIxV 0 (sC (.int 0))) (sIxV 1 (sC (.int 0)))) (sChain (gI (fun i j => decide (i ≤ j))) (gI (fun i j => decide (i < j))) (sC (.int 0)) (sIxV 0 (sC (.int 1))) (sIxV 1 (sC (.int 1))))))
noncomputable def φ_law_on (G : Gs) (ds : List D) : CR := (s_law_on G (env0 2 ds)).cr
noncomputable def s_end_of (G : Gs) : DEnv → Fl := (sSeq (sAsg (sCall (φ_cast G) 2 (sCons (sVar 0) (sCons (sVar 1) sNil))) (kSeq 2 (kCons (kName 2) (kCons (kName 3) kNil)))) (sSeq (sSet 4 (sFz (sIxV 1 (sC (.int 2))))) (sRet (sFz (sTup (sCons (sOp fdivD (sOp addD (sVar 2) (sVar 4)) (sOp mulD (sC (.int 2)) (sVar 4))) (sCons (sOp fdivD (sOp addD (sVar 3) (sVar 4)) (sOp mulD (sC (.int 2)) (sVar 4))) sNil)))))))
noncomputable def φ_end_of (G : Gs) (ds : List D) : CR := (s_end_of G (env0 5 ds)).cr
noncomputable def b_law_row_1 (G : Gs) : DEnv → Fl := (sIf (sTst (sOp eqD (sVar 2) (sC (.int 0)))) (sSeq (sApp 3 (sOp modD (sVar 0) (sOp powD (sC (.int 10)) (sC (.int 6))))) (sSet 0 (sOp fdivD (sVar 0) (sOp powD (sC (.int 10)) (sC (.int 6)))))) (sApp 3 (sCall (φ_law_churn G) 2 (sCons (sOp addD (sCall (φ_law_churn G) 2 (sCons (sVar 0) (sCons (sVar 4) sNil))) (sVar 0)) (sCons (sVar 4) sNil)))))
noncomputable def s_law_row (G : Gs) : DEnv → Fl := (sSeq (sSet 2 (sFz (sOp modD (sVar 0) (sC (.int 2))))) (sSeq (sSet 0 (sFz (sOp modD (sOp fdivD (sVar 0) (sC (.int 2))) (sOp mulD (sOp mulD (sOp powD (sC (.int 10)) (sC (.int 60))) (sOp powD (sC (.int 10)) (sC (.int 60)))) (sOp powD (sC (.int 10)) (sC (.int 60))))))) (sSeq (sSet 3 (sLst sNil)) (sSeq (sFor (sRange rng1 (sCons (sVar 1) sNil)) (kName 4) (b_law_row_1 G) [4]) (sRet (sVar 3))))))
noncomputable def φ_law_row (G : Gs) (ds : List D) : CR := (s_law_row G (env0 5 ds)).cr
noncomputable def e_law_fault_1 (G : Gs) : DEnv → R Val := (sTup (sCons (sVar 6) (sCons (sVar 7) sNil)))
noncomputable def w_law_fault_2 (G : Gs) : DEnv → R Bool := (sNot (sTst (sCall (φ_law_on G) 2 (sCons (sVar 8) (sCons (sVar 2) sNil)))))
noncomputable def e_law_fault_3 (G : Gs) : DEnv → R Val := (sVar 8)
noncomputable def w_law_fault_4 (G : Gs) : DEnv → R Bool := (sTst (sOp eqD (sTup (sCons (sVar 6) (sCons (sVar 7) sNil))) (sIxV 0 (sC (.int 1)))))
noncomputable def e_law_fault_5 (G : Gs) : DEnv → R Val := (sVar 8)
noncomputable def w_law_fault_6 (G : Gs) : DEnv → R Bool := (sTst (sOp eqD (sTup (sCons (sVar 6) (sCons (sVar 7) sNil))) (sIxV 0 (sC (.int 2)))))
noncomputable def s_law_fault (G : Gs) : DEnv → Fl := (sSeq (sSet 3 (sFz (sComp (sItems (sVar 1)) (kSeq 3 (kCons (kName 6) (kCons (kName 7) (kCons (kName 8) kNil)))) (w_law_fault_2 G) (e_law_fault_1 G) [6, 7, 8]))) (sSeq (sIf (sTst (sOp eqD (sIxV 0 (sC (.int 0))) (sC (.str "off")))) (sRet (sAndV (sOp neD (sVar 3) (sLst sNil)) (sOp eqD (sSl (sVar 0) (some (sC (.int 1))) none) (sIxV 3 (sC (.int 0)))))) sSkip) (sSeq (sIf (sOr (sTst (sOp neD (sIxV 0 (sC (.int 0))) (sC (.str "alike")))) (sOr (sTst (sOp neD (sVar 3) (sLst sNil))) (sOr (sTst (sOp eqD (sOp ixD (sIxV 0 (sC (.int 1))) (sC (.int 1))) (sOp ixD (sIxV 0 (sC (.int 2))) (sC (.int 1))))) (sNot (sTst (sOp ltTD (sIxV 0 (sC (.int 1))) (sIxV 0 (sC (.int 2))))))))) (sRet (sC (.bl false))) sSkip) (sSeq (sSet 4 (sFz (sComp (sItems (sVar 1)) (kSeq 3 (kCons (kName 6) (kCons (kName 7) (kCons (kName 8) kNil)))) (w_law_fault_4 G) (e_law_fault_3 G) [6, 7, 8]))) (sSeq (sSet 5 (sFz (sComp (sItems (sVar 1)) (kSeq 3 (kCons (kName 6) (kCons (kName 7) (kCons (kName 8) kNil)))) (w_law_fault_6 G) (e_law_fault_5 G) [6, 7, 8]))) (sRet (sAndV (sOp eqD (sLenV 4) (sC (.int 1))) (sOp eqD (sVar 4) (sVar 5)))))))))
noncomputable def φ_law_fault (G : Gs) (ds : List D) : CR := (s_law_fault G (env0 9 ds)).cr
noncomputable def b_law_marks_1 (G : Gs) : DEnv → Fl := (sSeq (sIf (sNot (sTst (sCall (φ_law_on G) 2 (sCons (sVar 6) (sCons (sVar 2) sNil))))) (sRet (sC (.bl false))) sSkip) (sSeq (sSet 7 (sFz (sOp addD (sOp mulD (sIxV 6 (sC (.int 1))) (sIxV 2 (sC (.int 0)))) (sIxV 6 (sC (.int 0)))))) (sSeq (sIf (sTst (sOp neD (sCall (φ_turn_at G) 2 (sCons (sVar 0) (sCons (sVar 7) sNil))) (sVar 5))) (sRet (sC (.bl false))) sSkip) (sDPutK 3 (sKeyT (sCons (sVar 7) (sCons (sVar 5) sNil))) (sC (.bl true))))))
noncomputable def s_law_marks (G : Gs) : DEnv → Fl := (sSeq (sSet 3 (sDNew true)) (sSeq (sFor (sItems (sVar 1)) (kSeq 3 (kCons (kName 4) (kCons (kName 5) (kCons (kName 6) kNil)))) (b_law_marks_1 G) [7, 4, 5, 6]) (sRet (sEqSD (sCB (g1 listD) (sCons (sVar 0) sNil)) 3))))
noncomputable def φ_law_marks (G : Gs) (ds : List D) : CR := (s_law_marks G (env0 8 ds)).cr
noncomputable def b_ends_of_1 (G : Gs) : DEnv → Fl := (sIf (sTst (sUn (isND true) (sVar 6))) (sApp 2 (sTup (sCons (sVar 3) (sCons (sVar 5) (sCons (sCall (φ_end_of G) 2 (sCons (sVar 1) (sCons (sVar 6) sNil))) sNil))))) sSkip)
noncomputable def b_ends_of_2 (G : Gs) : DEnv → Fl := (sFor (sEnumerate (sCons (sIxV 4 (sC (.int 2))) sNil)) (kSeq 2 (kCons (kName 5) (kCons (kName 6) kNil))) (b_ends_of_1 G) [5, 6])
noncomputable def s_ends_of (G : Gs) : DEnv → Fl := (sSeq (sSet 2 (sLst sNil)) (sSeq (sFor (sEnumerate (sCons (sUn (fldD [G.c_Yard] "days") (sVar 0)) sNil)) (kSeq 2 (kCons (kName 3) (kCons (kName 4) kNil))) (b_ends_of_2 G) [5, 6, 3, 4]) (sRet (sVar 2))))
noncomputable def φ_ends_of (G : Gs) (ds : List D) : CR := (s_ends_of G (env0 7 ds)).cr
noncomputable def b_cloth_of_1 (G : Gs) : DEnv → Fl := (sIf (sOr (sNot (sTst (sCall (φ_are_places G) 1 (sCons (sSl (sVar 0) (some (sVar 1)) (some (sOp addD (sVar 1) (sC (.int 2))))) sNil)))) (sNot (sTst (sCall (φ_is_height G) 2 (sCons (sIxV 0 (sOp addD (sVar 1) (sC (.int 2)))) (sCons (sC (.int 0)) sNil)))))) sBad sSkip)
noncomputable def s_cloth_of (G : Gs) : DEnv → Fl := (sSeq (sFor (sItems (sTup (sCons (sC (.int 0)) (sCons (sC (.int 3)) (sCons (sC (.int 6)) sNil))))) (kName 1) (b_cloth_of_1 G) [1]) (sRet (sFz (sMake G.c_Cloth (φ_Thing_init G) 1 (sCons (sVar 0) sNil)))))
noncomputable def φ_cloth_of (G : Gs) (ds : List D) : CR := (s_cloth_of G (env0 2 ds)).cr
noncomputable def s_stretched (G : Gs) : DEnv → Fl := (sSeq (sAsg (sVar 1) (kSeq 5 (kCons (kName 2) (kCons (kName 3) (kCons (kName 4) (kCons (kName 5) (kCons (kName 6) kNil))))))) (sSeq (sIf (sOr (sNot (sTst (sCall (φ_are_places G) 1 (sCons (sSl (sVar 1) none (some (sC (.int 4)))) sNil)))) (sNot (sTst (sCall (φ_is_height G) 2 (sCons (sVar 6) (sCons (sC (.int 1)) sNil)))))) sBad sSkip) (sSeq (sIf (sAnd (sTst (sOp eqD (sVar 0) (sC (.str "fence")))) (sTst (sOp neD (sTup (sCons (sVar 2) (sCons (sVar 3) sNil))) (sTup (sCons (sVar 4) (sCons (sVar 5) sNil)))))) (sRet (sFz (sMake G.c_Fence (φ_Thing_init G) 1 (sCons (sVar 1) sNil)))) sSkip) (sSeq (sIf (sAnd (sTst (sOp eqD (sVar 0) (sC (.str "sail")))) (sAnd (sTst (sOp ltD (sVar 2) (sVar 4))) (sTst (sOp ltD (sVar 3) (sVar 5))))) (sRet (sFz (sMake G.c_Sail (φ_Thing_init G) 1 (sCons (sVar 1) sNil)))) sSkip) (sSeq (sIf (sAnd (sTst (sOp eqD (sVar 0) (sC (.str "house")))) (sAnd (sTst (sOp ltD (sVar 2) (sVar 4))) (sTst (sOp ltD (sVar 3) (sVar 5))))) (sRet (sFz (sMake G.c_House (φ_Thing_init G) 1 (sCons (sVar 1) sNil)))) sSkip) sBad)))))
noncomputable def φ_stretched (G : Gs) (ds : List D) : CR := (s_stretched G (env0 7 ds)).cr
noncomputable def e_law_days_1 (G : Gs) : DEnv → R Val := (sCall (φ_law_turn G) 3 (sCons (sIxV 10 (sVar 13)) (sCons (sVar 13) (sCons (sVar 8) sNil))))
noncomputable def b_law_days_2 (G : Gs) : DEnv → Fl := (sSeq (sSet 7 (sFz (sCall (φ_law_cell G) 2 (sCons (sVar 0) (sCons (sOp addD (sOp addD (sVar 1) (sC (.int 1))) (sVar 6)) sNil))))) (sSeq (sSet 8 (sFz (sTup (sCons (sOp subD (sOp modD (sOp fdivD (sVar 7) (sC (.int 12))) (sC (.int 5))) (sC (.int 2))) (sCons (sOp subD (sOp modD (sOp fdivD (sVar 7) (sC (.int 60))) (sC (.int 5))) (sC (.int 2))) (sCons (sOp addD (sC (.int 1)) (sOp modD (sOp fdivD (sVar 3) (sC (.int 36))) (sC (.int 3)))) sNil)))))) (sSeq (sSet 9 (sFz (sOp addD (sOp addD (sC (.int 1)) (sOp modD (sVar 7) (sC (.int 4)))) (sOp mulD (sOp modD (sOp fdivD (sVar 7) (sC (.int 4))) (sC (.int 3))) (sOp fdivD (sOp modD (sOp fdivD (sVar 3) (sC (.int 3))) (sC (.int 4))) (sC (.int 3))))))) (sSeq (sIf (sTst (sOp eqD (sVar 5) (sC (.int 1)))) (sSet 9 (sFz (sOp addD (sC (.int 1)) (sOp modD (sVar 7) (sC (.int 24)))))) sSkip) (sSeq (sSet 10 (sFz (sCall (φ_law_row G) 2 (sCons (sOp fdivD (sVar 7) (sC (.int 300))) (sCons (sVar 9) sNil))))) (sSeq (sSet 11 (sFz (sComp (sRange rng1 (sCons (sVar 9) sNil)) (kName 13) sYes (e_law_days_1 G) [13]))) (sSeq (sSet 12 (sFz (sOp addD (sOp ixD (sC (.str "abcdefghijkl")) (sVar 6)) (sOp repS (sC (.str "ab")) (sOp modD (sOp fdivD (sVar 3) (sC (.int 108))) (sC (.int 4))))))) (sApp 4 (sTup (sCons (sVar 12) (sCons (sOp addD (sC (.int 1)) (sOp modD (sOp fdivD (sVar 3) (sC (.int 7))) (sOp subD (sOp powD (sC (.int 10)) (sC (.int 9))) (sC (.int 1))))) (sCons (sVar 11) sNil))))))))))))
noncomputable def s_law_days (G : Gs) : DEnv → Fl := (sSeq (sSet 3 (sFz (sOp modD (sCall (φ_law_cell G) 2 (sCons (sVar 0) (sCons (sVar 1) sNil))) (sOp powD (sC (.int 10)) (sC (.int 12)))))) (sSeq (sSet 4 (sLst sNil)) (sSeq (sSet 5 (sFz (sCB (g1 intD) (sCons (sOp eqD (sOp modD (sOp fdivD (sVar 3) (sC (.int 1009))) (sC (.int 16))) (sC (.int 3))) sNil)))) (sSeq (sIf (sTst (sOp eqD (sOp modD (sOp fdivD (sVar 3) (sC (.int 16144))) (sC (.int 16))) (sC (.int 9)))) (sRet (sFz (sLst sNil))) sSkip) (sSeq (sFor (sRange rng1 (sCons (sOp addD (sC (.int 1)) (sOp modD (sVar 3) (sOp ixD (sLst (sCons (sVar 2) (sCons (sC (.int 12)) sNil))) (sVar 5)))) sNil)) (kName 6) (b_law_days_2 G) [7, 8, 9, 10, 11, 12, 6]) (sRet (sVar 4)))))))
noncomputable def φ_law_days (G : Gs) (ds : List D) : CR := (s_law_days G (env0 14 ds)).cr
noncomputable def b_law_ends_1 (G : Gs) : DEnv → Fl := (sIf (sTst (sUn (isND true) (sOp ixD (sOp ixD (sIxV 0 (sVar 3)) (sC (.int 2))) (sVar 4)))) (sApp 2 (sTup (sCons (sVar 3) (sCons (sVar 4) (sCons (sCall (φ_end_of G) 2 (sCons (sVar 1) (sCons (sOp ixD (sOp ixD (sIxV 0 (sVar 3)) (sC (.int 2))) (sVar 4)) sNil))) sNil))))) sSkip)
noncomputable def b_law_ends_2 (G : Gs) : DEnv → Fl := (sFor (sRange rng1 (sCons (sCB (g1 lenD) (sCons (sOp ixD (sIxV 0 (sVar 3)) (sC (.int 2))) sNil)) sNil)) (kName 4) (b_law_ends_1 G) [4])
noncomputable def s_law_ends (G : Gs) : DEnv → Fl := (sSeq (sSet 2 (sLst sNil)) (sSeq (sFor (sRange rng1 (sCons (sLenV 0) sNil)) (kName 3) (b_law_ends_2 G) [4, 3]) (sRet (sVar 2))))
noncomputable def φ_law_ends (G : Gs) (ds : List D) : CR := (s_law_ends G (env0 5 ds)).cr
noncomputable def e_dial_1 (G : Gs) : DEnv → R Val := (sTup (sCons (sOp addD (sOp mulD (sIxV 6 (sC (.int 1))) (sUn (fldD [G.c_Yard] "width") (sVar 0))) (sIxV 6 (sC (.int 0)))) (sCons (sVar 5) sNil)))
noncomputable def s_dial (G : Gs) : DEnv → Fl := (sSeq (sSet 2 (sFz (sCall (φ_ends_of G) 2 (sCons (sVar 0) (sCons (sVar 1) sNil))))) (sSeq (sSet 3 (sFz (sCall (φ_first_off G) 2 (sCons (sVar 0) (sCons (sVar 2) sNil))))) (sSeq (sIf (sTst (sUn (isND false) (sVar 3))) (sSet 3 (sFz (sCall (φ_first_alike G) 1 (sCons (sVar 2) sNil)))) sSkip) (sSeq (sIf (sTst (sUn (isND true) (sVar 3))) (sRet (sVar 3)) sSkip) (sRet (sFz (sTup (sCons (sC (.str "marks")) (sCons (sSortSetW (sComp (sItems (sVar 2)) (kSeq 3 (kCons (kName 4) (kCons (kName 5) (kCons (kName 6) kNil)))) sYes (e_dial_1 G) [4, 5, 6])) sNil)))))))))
noncomputable def φ_dial (G : Gs) (ds : List D) : CR := (s_dial G (env0 7 ds)).cr
noncomputable def s_thing_of (G : Gs) : DEnv → Fl := (sSeq (sIf (sAnd (sTst (sOp eqD (sVar 0) (sC (.str "post")))) (sTst (sOp eqD (sLenV 1) (sC (.int 3))))) (sIf (sAnd (sTst (sCall (φ_are_places G) 1 (sCons (sSl (sVar 1) none (some (sC (.int 2)))) sNil))) (sTst (sCall (φ_is_height G) 2 (sCons (sIxV 1 (sC (.int 2))) (sCons (sC (.int 1)) sNil))))) (sRet (sFz (sMake G.c_Post (φ_Thing_init G) 1 (sCons (sVar 1) sNil)))) sSkip) sSkip) (sSeq (sIf (sAnd (sTst (sOp eqD (sVar 0) (sC (.str "cloth")))) (sTst (sOp eqD (sLenV 1) (sC (.int 9))))) (sRet (sFz (sCall (φ_cloth_of G) 1 (sCons (sVar 1) sNil)))) sSkip) (sSeq (sIf (sAnd (sTst (sOp (inD false) (sVar 0) (sTup (sCons (sC (.str "fence")) (sCons (sC (.str "sail")) (sCons (sC (.str "house")) sNil)))))) (sTst (sOp eqD (sLenV 1) (sC (.int 5))))) (sRet (sFz (sCall (φ_stretched G) 2 (sCons (sVar 0) (sCons (sVar 1) sNil))))) sSkip) sBad)))
noncomputable def φ_thing_of (G : Gs) (ds : List D) : CR := (s_thing_of G (env0 2 ds)).cr
noncomputable def b_least_pointer_1 (G : Gs) : DEnv → Fl := (sSeq (sSet 6 (sFz (sCall (φ_dial G) 2 (sCons (sVar 0) (sCons (sTup (sCons (sVar 1) (sCons (sVar 2) (sCons (sVar 5) sNil)))) sNil))))) (sSeq (sIf (sTst (sOp eqD (sIxV 6 (sC (.int 0))) (sC (.str "marks")))) (sRet (sFz (sTup (sCons (sC (.str "height")) (sCons (sVar 5) (sCons (sIxV 6 (sC (.int 1))) (sCons (sVar 4) sNil))))))) sSkip) (sApp 4 (sVar 6))))
noncomputable def s_least_pointer (G : Gs) : DEnv → Fl := (sSeq (sSet 4 (sLst sNil)) (sSeq (sFor (sRange rng2 (sCons (sC (.int 1)) (sCons (sOp addD (sVar 3) (sC (.int 1))) sNil))) (kName 5) (b_least_pointer_1 G) [6, 5]) (sRet (sFz (sTup (sCons (sC (.str "none")) (sCons (sVar 4) sNil)))))))
noncomputable def φ_least_pointer (G : Gs) (ds : List D) : CR := (s_least_pointer G (env0 7 ds)).cr
noncomputable def s_law_standing (G : Gs) : DEnv → Fl := (sSeq (sSet 0 (sFz (sOp modD (sVar 0) (sOp powD (sC (.int 10)) (sC (.int 9)))))) (sSeq (sIf (sTst (sOp eqD (sOp modD (sVar 0) (sC (.int 2))) (sC (.int 0)))) (sRet (sFz (sLst sNil))) sSkip) (sSeq (sSet 1 (sOp subD (sOp modD (sOp fdivD (sVar 0) (sC (.int 2))) (sC (.int 9))) (sC (.int 4)))) (sSeq (sSet 2 (sOp subD (sOp modD (sOp fdivD (sVar 0) (sC (.int 18))) (sC (.int 9))) (sC (.int 4)))) (sSeq (sSet 3 (sFz (sOp ixD (sLst (sCons (sC (.str "house")) (sCons (sC (.str "sail")) sNil))) (sOp modD (sOp fdivD (sVar 0) (sC (.int 162))) (sC (.int 2)))))) (sRet (sFz (sLst (sCons (sCall (φ_thing_of G) 2 (sCons (sVar 3) (sCons (sLst (sCons (sVar 1) (sCons (sVar 2) (sCons (sOp addD (sVar 1) (sC (.int 30))) (sCons (sOp addD (sVar 2) (sC (.int 30))) (sCons (sOp addD (sC (.int 1)) (sOp modD (sOp fdivD (sVar 0) (sC (.int 324))) (sC (.int 9)))) sNil)))))) sNil))) sNil)))))))))
noncomputable def φ_law_standing (G : Gs) (ds : List D) : CR := (s_law_standing G (env0 4 ds)).cr
noncomputable def e_law_1 (G : Gs) : DEnv → R Val := (sTup (sCons (sVar 11) (sCons (sVar 12) (sCons (sCB (g1 listD) (sCons (sVar 13) sNil)) sNil))))
noncomputable def b_law_2 (G : Gs) : DEnv → Fl := (sIf (sNot (sTst (sCall (φ_law_fault G) 3 (sCons (sIxV 9 (sOp subD (sVar 10) (sC (.int 1)))) (sCons (sCall (φ_law_ends G) 2 (sCons (sVar 2) (sCons (sTup (sCons (sVar 5) (sCons (sVar 6) (sCons (sVar 10) sNil)))) sNil))) (sCons (sVar 1) sNil)))))) (sRet (sC (.bl false))) sSkip)
noncomputable def s_law (G : Gs) : DEnv → Fl := (sSeq (sSet 1 (sFz (sCall (φ_law_sides G) 1 (sCons (sCall (φ_law_cell G) 2 (sCons (sVar 0) (sCons (sC (.int 0)) sNil))) sNil)))) (sSeq (sSet 2 (sFz (sCall (φ_law_days G) 3 (sCons (sVar 0) (sCons (sC (.int 4)) (sCons (sC (.int 4)) sNil)))))) (sSeq (sSet 3 (sFz (sCall (φ_law_standing G) 1 (sCons (sOp fdivD (sCall (φ_law_cell G) 2 (sCons (sVar 0) (sCons (sC (.int 0)) sNil))) (sC (.int 7))) sNil)))) (sSeq (sSet 4 (sFz (sMake G.c_Yard (φ_Yard_init G) 4 (sCons (sIxV 1 (sC (.int 0))) (sCons (sIxV 1 (sC (.int 1))) (sCons (sVar 3) (sCons (sComp (sItems (sVar 2)) (kSeq 3 (kCons (kName 11) (kCons (kName 12) (kCons (kName 13) kNil)))) sYes (e_law_1 G) [11, 12, 13]) sNil))))))) (sSeq (sSet 5 (sOp subD (sOp modD (sCall (φ_law_cell G) 2 (sCons (sVar 0) (sCons (sC (.int 1)) sNil))) (sC (.int 19))) (sC (.int 4)))) (sSeq (sSet 6 (sOp subD (sOp modD (sCall (φ_law_cell G) 2 (sCons (sVar 0) (sCons (sC (.int 2)) sNil))) (sC (.int 19))) (sC (.int 4)))) (sSeq (sSet 7 (sFz (sOp addD (sC (.int 1)) (sOp modD (sCall (φ_law_cell G) 2 (sCons (sVar 0) (sCons (sC (.int 3)) sNil))) (sC (.int 8)))))) (sSeq (sSet 8 (sFz (sCall (φ_least_pointer G) 4 (sCons (sVar 4) (sCons (sVar 5) (sCons (sVar 6) (sCons (sVar 7) sNil))))))) (sSeq (sSet 9 (sFz (sIxV 8 (sUn negD (sC (.int 1)))))) (sSeq (sIf (sAnd (sTst (sOp eqD (sIxV 8 (sC (.int 0))) (sC (.str "none")))) (sTst (sOp neD (sLenV 9) (sVar 7)))) (sRet (sC (.bl false))) sSkip) (sSeq (sFor (sRange rng2 (sCons (sC (.int 1)) (sCons (sOp addD (sLenV 9) (sC (.int 1))) sNil))) (kName 10) (b_law_2 G) [10]) (sSeq (sIf (sTst (sOp eqD (sIxV 8 (sC (.int 0))) (sC (.str "none")))) (sRet (sC (.bl true))) sSkip) (sSeq (sSet 10 (sFz (sIxV 8 (sC (.int 1))))) (sSeq (sIf (sOr (sTst (sOp neD (sIxV 8 (sC (.int 0))) (sC (.str "height")))) (sOr (sTst (sOp neD (sVar 10) (sOp addD (sLenV 9) (sC (.int 1))))) (sTst (sOp gtD (sVar 10) (sVar 7))))) (sRet (sC (.bl false))) sSkip) (sSeq (sIf (sTst (sOp neD (sCall (φ_dial G) 2 (sCons (sVar 4) (sCons (sTup (sCons (sVar 5) (sCons (sVar 6) (sCons (sVar 10) sNil)))) sNil))) (sTup (sCons (sC (.str "marks")) (sCons (sIxV 8 (sC (.int 2))) sNil))))) (sRet (sC (.bl false))) sSkip) (sRet (sFz (sCall (φ_law_marks G) 3 (sCons (sIxV 8 (sC (.int 2))) (sCons (sCall (φ_law_ends G) 2 (sCons (sVar 2) (sCons (sTup (sCons (sVar 5) (sCons (sVar 6) (sCons (sVar 10) sNil)))) sNil))) (sCons (sVar 1) sNil)))))))))))))))))))))
noncomputable def φ_law (G : Gs) (ds : List D) : CR := (s_law G (env0 14 ds)).cr
structure Tx (P : Program) (w : World) (K : PySem.W.Frag) (mg : Str → Option Value) (base : Heap) (G : Gs) where
  a_cast : Addr
  d_cast : FuncData
  F_cast : Fun K "cast" "cast" st_cast a_cast d_cast
  b_cast : Binds K d_cast P_cast []
  m_cast : mg "cast" = some (.ref a_cast)
  a_first_off : Addr
  d_first_off : FuncData
  F_first_off : Fun K "first_off" "first_off" st_first_off a_first_off d_first_off
  b_first_off : Binds K d_first_off P_first_off []
  m_first_off : mg "first_off" = some (.ref a_first_off)
  a_first_alike : Addr
  d_first_alike : FuncData
  F_first_alike : Fun K "first_alike" "first_alike" st_first_alike a_first_alike d_first_alike
  b_first_alike : Binds K d_first_alike P_first_alike []
  m_first_alike : mg "first_alike" = some (.ref a_first_alike)
  a_turn_at : Addr
  d_turn_at : FuncData
  F_turn_at : Fun K "turn_at" "turn_at" st_turn_at a_turn_at d_turn_at
  b_turn_at : Binds K d_turn_at P_turn_at []
  m_turn_at : mg "turn_at" = some (.ref a_turn_at)
  a_Thing_init : Addr
  d_Thing_init : FuncData
  F_Thing_init : Fun K "__init__" "Thing.__init__" st_Thing_init a_Thing_init d_Thing_init
  b_Thing_init : Binds K d_Thing_init P_Thing_init []
  a_are_places : Addr
  d_are_places : FuncData
  F_are_places : Fun K "are_places" "are_places" st_are_places a_are_places d_are_places
  b_are_places : Binds K d_are_places P_are_places []
  m_are_places : mg "are_places" = some (.ref a_are_places)
  a_is_height : Addr
  d_is_height : FuncData
  F_is_height : Fun K "is_height" "is_height" st_is_height a_is_height d_is_height
  b_is_height : Binds K d_is_height P_is_height []
  m_is_height : mg "is_height" = some (.ref a_is_height)
  a_Yard_init : Addr
  d_Yard_init : FuncData
  F_Yard_init : Fun K "__init__" "Yard.__init__" st_Yard_init a_Yard_init d_Yard_init
  b_Yard_init : Binds K d_Yard_init P_Yard_init []
  a_law_cell : Addr
  d_law_cell : FuncData
  F_law_cell : Fun K "_law_cell" "_law_cell" st_law_cell a_law_cell d_law_cell
  b_law_cell : Binds K d_law_cell P_law_cell []
  m_law_cell : mg "_law_cell" = some (.ref a_law_cell)
  a_law_churn : Addr
  d_law_churn : FuncData
  F_law_churn : Fun K "_law_churn" "_law_churn" st_law_churn a_law_churn d_law_churn
  b_law_churn : Binds K d_law_churn P_law_churn []
  m_law_churn : mg "_law_churn" = some (.ref a_law_churn)
  a_law_turn : Addr
  d_law_turn : FuncData
  F_law_turn : Fun K "_law_turn" "_law_turn" st_law_turn a_law_turn d_law_turn
  b_law_turn : Binds K d_law_turn P_law_turn []
  m_law_turn : mg "_law_turn" = some (.ref a_law_turn)
  a_law_sides : Addr
  d_law_sides : FuncData
  F_law_sides : Fun K "_law_sides" "_law_sides" st_law_sides a_law_sides d_law_sides
  b_law_sides : Binds K d_law_sides P_law_sides []
  m_law_sides : mg "_law_sides" = some (.ref a_law_sides)
  a_law_on : Addr
  d_law_on : FuncData
  F_law_on : Fun K "_law_on" "_law_on" st_law_on a_law_on d_law_on
  b_law_on : Binds K d_law_on P_law_on []
  m_law_on : mg "_law_on" = some (.ref a_law_on)
  a_end_of : Addr
  d_end_of : FuncData
  F_end_of : Fun K "end_of" "end_of" st_end_of a_end_of d_end_of
  b_end_of : Binds K d_end_of P_end_of []
  m_end_of : mg "end_of" = some (.ref a_end_of)
  a_law_row : Addr
  d_law_row : FuncData
  F_law_row : Fun K "_law_row" "_law_row" st_law_row a_law_row d_law_row
  b_law_row : Binds K d_law_row P_law_row []
  m_law_row : mg "_law_row" = some (.ref a_law_row)
  a_law_fault : Addr
  d_law_fault : FuncData
  F_law_fault : Fun K "_law_fault" "_law_fault" st_law_fault a_law_fault d_law_fault
  b_law_fault : Binds K d_law_fault P_law_fault []
  m_law_fault : mg "_law_fault" = some (.ref a_law_fault)
  a_law_marks : Addr
  d_law_marks : FuncData
  F_law_marks : Fun K "_law_marks" "_law_marks" st_law_marks a_law_marks d_law_marks
  b_law_marks : Binds K d_law_marks P_law_marks []
  m_law_marks : mg "_law_marks" = some (.ref a_law_marks)
  a_ends_of : Addr
  d_ends_of : FuncData
  F_ends_of : Fun K "ends_of" "ends_of" st_ends_of a_ends_of d_ends_of
  b_ends_of : Binds K d_ends_of P_ends_of []
  m_ends_of : mg "ends_of" = some (.ref a_ends_of)
  a_cloth_of : Addr
  d_cloth_of : FuncData
  F_cloth_of : Fun K "cloth_of" "cloth_of" st_cloth_of a_cloth_of d_cloth_of
  b_cloth_of : Binds K d_cloth_of P_cloth_of []
  m_cloth_of : mg "cloth_of" = some (.ref a_cloth_of)
  a_stretched : Addr
  d_stretched : FuncData
  F_stretched : Fun K "stretched" "stretched" st_stretched a_stretched d_stretched
  b_stretched : Binds K d_stretched P_stretched []
  m_stretched : mg "stretched" = some (.ref a_stretched)
  a_law_days : Addr
  d_law_days : FuncData
  F_law_days : Fun K "_law_days" "_law_days" st_law_days a_law_days d_law_days
  b_law_days : Binds K d_law_days P_law_days []
  m_law_days : mg "_law_days" = some (.ref a_law_days)
  a_law_ends : Addr
  d_law_ends : FuncData
  F_law_ends : Fun K "_law_ends" "_law_ends" st_law_ends a_law_ends d_law_ends
  b_law_ends : Binds K d_law_ends P_law_ends []
  m_law_ends : mg "_law_ends" = some (.ref a_law_ends)
  a_dial : Addr
  d_dial : FuncData
  F_dial : Fun K "dial" "dial" st_dial a_dial d_dial
  b_dial : Binds K d_dial P_dial []
  m_dial : mg "dial" = some (.ref a_dial)
  a_thing_of : Addr
  d_thing_of : FuncData
  F_thing_of : Fun K "thing_of" "thing_of" st_thing_of a_thing_of d_thing_of
  b_thing_of : Binds K d_thing_of P_thing_of []
  m_thing_of : mg "thing_of" = some (.ref a_thing_of)
  a_least_pointer : Addr
  d_least_pointer : FuncData
  F_least_pointer : Fun K "least_pointer" "least_pointer" st_least_pointer a_least_pointer d_least_pointer
  b_least_pointer : Binds K d_least_pointer P_least_pointer []
  m_least_pointer : mg "least_pointer" = some (.ref a_least_pointer)
  a_law_standing : Addr
  d_law_standing : FuncData
  F_law_standing : Fun K "_law_standing" "_law_standing" st_law_standing a_law_standing d_law_standing
  b_law_standing : Binds K d_law_standing P_law_standing []
  m_law_standing : mg "_law_standing" = some (.ref a_law_standing)
  a_law : Addr
  d_law : FuncData
  F_law : Fun K "law" "law" st_law a_law d_law
  b_law : Binds K d_law P_law []
  m_law : mg "law" = some (.ref a_law)
  mC_Post : mg "Post" = some (.ref G.c_Post)
  mC_Fence : mg "Fence" = some (.ref G.c_Fence)
  mC_Sail : mg "Sail" = some (.ref G.c_Sail)
  mC_Cloth : mg "Cloth" = some (.ref G.c_Cloth)
  mC_House : mg "House" = some (.ref G.c_House)
  mC_Yard : mg "Yard" = some (.ref G.c_Yard)
  cl_Post : Cls K G.c_Post
  mk_Post : Mk K G.c_Post a_Thing_init
  ni_Post : ∀ f ∈ (["numbers"] : List Str), NoAttr K G.c_Post f
  cl_Fence : Cls K G.c_Fence
  mk_Fence : Mk K G.c_Fence a_Thing_init
  ni_Fence : ∀ f ∈ (["numbers"] : List Str), NoAttr K G.c_Fence f
  cl_Sail : Cls K G.c_Sail
  mk_Sail : Mk K G.c_Sail a_Thing_init
  ni_Sail : ∀ f ∈ (["numbers"] : List Str), NoAttr K G.c_Sail f
  cl_Cloth : Cls K G.c_Cloth
  mk_Cloth : Mk K G.c_Cloth a_Thing_init
  ni_Cloth : ∀ f ∈ (["numbers"] : List Str), NoAttr K G.c_Cloth f
  cl_House : Cls K G.c_House
  mk_House : Mk K G.c_House a_Thing_init
  ni_House : ∀ f ∈ (["numbers"] : List Str), NoAttr K G.c_House f
  cl_Yard : Cls K G.c_Yard
  mk_Yard : Mk K G.c_Yard a_Yard_init
  ni_Yard : ∀ f ∈ (["width", "height", "things", "days"] : List Str), NoAttr K G.c_Yard f
  fl_days : ∀ C ∈ [G.c_Yard], Cls K C ∧ NoAttr K C "days"
  fl_height : ∀ C ∈ [G.c_Yard], Cls K C ∧ NoAttr K C "height"
  fl_width : ∀ C ∈ [G.c_Yard], Cls K C ∧ NoAttr K C "width"
  z_all : mg "all" = none
  z_divmod : mg "divmod" = none
  z_enumerate : mg "enumerate" = none
  z_int : mg "int" = none
  z_len : mg "len" = none
  z_list : mg "list" = none
  z_range : mg "range" = none
  z_set : mg "set" = none
  z_sorted : mg "sorted" = none
  z_tuple : mg "tuple" = none
  g_FAR : IsC K mg "FAR" (.int 1000000000)
section
variable {P : Program} {w : World} {K : PySem.W.Frag} {mg : Str → Option Value} {base : Heap} {G : Gs}
theorem ok_cast (T : Tx P w K mg base G) : FnOk P w K mg base (L2.CX P w) 1 T.a_cast T.d_cast P_cast (spD K 2 (φ_cast G)) :=
  fnD (s := s_cast G) (N := N_cast) T.F_cast sc_cast rfl fun cdv A outer s0 H E hr =>
    (dss_one (ds_ret (de_fz (de_tup (da_cons (de_add (de_mul (de_ixV (pv 1) de_int) (de_ixV (pv 0) de_int)) (de_mul (de_ixV (pv 1) de_int) (de_ixV (pv 0) de_int))) (da_cons (de_add (de_mul (de_ixV (pv 1) de_int) (de_ixV (pv 0) de_int)) (de_mul (de_ixV (pv 1) de_int) (de_ixV (pv 0) de_int))) da_nil))))))
theorem ok_first_off (T : Tx P w K mg base G) : FnOk P w K mg base (L2.CX P w) 1 T.a_first_off T.d_first_off P_first_off (spD K 2 (φ_first_off G)) :=
  fnD (s := s_first_off G) (N := N_first_off) T.F_first_off sc_first_off rfl fun cdv A outer s0 H E hr =>
    (dss_cons (ds_for [2, 3, 4] (passes_of rfl) rfl (di_seq (de_var (pv 1))) (dg_seq rfl (dgs_cons (dg_name (i := 2) sc_first_off.nd rfl (.inl rfl)) (dgs_cons (dg_name (i := 3) sc_first_off.nd rfl (.inl rfl)) (dgs_cons (dg_name (i := 4) sc_first_off.nd rfl (.inl rfl)) dgs_nil)))) (dss_one (ds_if (dt_w (dw_or (dt_not (dt_chain op_le op_lt de_int (de_ixV (pv 4) de_int) (de_fld T.fl_width (de_var (pv 0))))) (dw_or1 (dt_not (dt_chain op_le op_lt de_int (de_ixV (pv 4) de_int) (de_fld T.fl_height (de_var (pv 0)))))))) (dss_one (ds_ret (de_fz (de_tup (da_cons de_str (da_cons (de_var (pv 2)) (da_cons (de_var (pv 3)) da_nil))))))) dss_nil)))
      (dss_one (ds_ret de_non)))
theorem ok_first_alike (T : Tx P w K mg base G) : FnOk P w K mg base (L2.CX P w) 1 T.a_first_alike T.d_first_alike P_first_alike (spD K 1 (φ_first_alike G)) :=
  fnD (s := s_first_alike G) (N := N_first_alike) T.F_first_alike sc_first_alike rfl fun cdv A outer s0 H E hr =>
    (dss_cons (ds_set (i := 1) sc_first_alike.nd rfl (.inl rfl) (de_dnew true))
      (dss_cons (ds_for [2, 3, 4] (passes_of rfl) rfl (di_seq (de_var (pv 0))) (dg_seq rfl (dgs_cons (dg_name (i := 2) sc_first_alike.nd rfl (.inl rfl)) (dgs_cons (dg_name (i := 3) sc_first_alike.nd rfl (.inl rfl)) (dgs_cons (dg_name (i := 4) sc_first_alike.nd rfl (.inl rfl)) dgs_nil)))) (dss_cons (ds_if (dt_w (dw_and (dt_din rfl hr.units (de_var (pv 4)) (pv 1)) (dw_and1 (dt_ne hr.units (de_ixD (de_dget rfl hr.units (pv 1) (de_var (pv 4))) de_int) (de_var (pv 3)))))) (dss_one (ds_ret (de_tup (da_cons de_str (da_cons (de_dget rfl hr.units (pv 1) (de_var (pv 4))) (da_cons (de_tup (da_cons (de_var (pv 2)) (da_cons (de_var (pv 3)) da_nil))) da_nil)))))) dss_nil)
      (dss_one (ds_if (dt_dnotin rfl hr.units (de_var (pv 4)) (pv 1)) (dss_one (ds_dput rfl hr.units (pv 1) (de_var (pv 4)) (de_tup (da_cons (de_var (pv 2)) (da_cons (de_var (pv 3)) da_nil))))) dss_nil))))
      (dss_one (ds_ret de_non))))
theorem ok_turn_at (T : Tx P w K mg base G) : FnOk P w K mg base (L2.CX P w) 1 T.a_turn_at T.d_turn_at P_turn_at (spD K 2 (φ_turn_at G)) :=
  fnD (s := s_turn_at G) (N := N_turn_at) T.F_turn_at sc_turn_at rfl fun cdv A outer s0 H E hr =>
    (dss_cons (ds_for [2, 3] (passes_of rfl) rfl (di_seq (de_var (pv 0))) (dg_seq rfl (dgs_cons (dg_name (i := 2) sc_turn_at.nd rfl (.inl rfl)) (dgs_cons (dg_name (i := 3) sc_turn_at.nd rfl (.inl rfl)) dgs_nil))) (dss_one (ds_if (dt_eq hr.units (de_var (pv 2)) (de_var (pv 1))) (dss_one (ds_ret (de_var (pv 3)))) dss_nil)))
      (dss_one (ds_ret de_non)))
theorem ok_Thing_init (T : Tx P w K mg base G) : FnOk P w K mg base (L2.CX P w) 1 T.a_Thing_init T.d_Thing_init P_Thing_init (spInit K ["numbers"] 1 (φ_Thing_init G)) :=
  fnI (l := l_Thing_init G) (N := N_Thing_init) T.F_Thing_init sc_Thing_init rfl (by unfold l_Thing_init; simp) fun cdv A outer s0 H E hr =>
    (dinit_cons (pv 0) (de_tuple1 (by rfl) T.z_tuple (da_cons (de_var (pv 1)) da_nil)) dinit_nil)
theorem ok_are_places (T : Tx P w K mg base G) : FnOk P w K mg base (L2.CX P w) 1 T.a_are_places T.d_are_places P_are_places (spD K 1 (φ_are_places G)) :=
  fnD (s := s_are_places G) (N := N_are_places) T.F_are_places sc_are_places rfl fun cdv A outer s0 H E hr =>
    (dss_one (ds_ret (de_fz (de_all rfl (by rfl) T.z_all (da_cons (de_comp rfl sc_are_places.nd (di_seq (de_var (pv 0))) (blkOk_by (own := [("number", 1)]) (N := N_are_places) (sc := _) (by show blkC N_are_places (defScope st_are_places) _ _ = true; decide +kernel)) (os := [1]) rfl (fun _ h => h) (fun _ _ _ _ _ => (dg_name (i := 1) sc_are_places.nd rfl (.inl rfl))) (fun _ _ _ _ _ => dts_nil) (fun _ _ _ _ _ => (de_chain op_le op_le (de_sub de_int (de_gc (by rfl) T.g_FAR)) (de_var (pv 1)) (de_gc (by rfl) T.g_FAR)))) da_nil)))))
theorem ok_is_height (T : Tx P w K mg base G) : FnOk P w K mg base (L2.CX P w) 1 T.a_is_height T.d_is_height P_is_height (spD K 2 (φ_is_height G)) :=
  fnD (s := s_is_height G) (N := N_is_height) T.F_is_height sc_is_height rfl fun cdv A outer s0 H E hr =>
    (dss_one (ds_ret (de_chain op_le op_le (de_var (pv 1)) (de_var (pv 0)) (de_gc (by rfl) T.g_FAR))))
theorem ok_Yard_init (T : Tx P w K mg base G) : FnOk P w K mg base (L2.CX P w) 1 T.a_Yard_init T.d_Yard_init P_Yard_init (spInit K ["width", "height", "things", "days"] 4 (φ_Yard_init G)) :=
  fnI (l := l_Yard_init G) (N := N_Yard_init) T.F_Yard_init sc_Yard_init rfl (by unfold l_Yard_init; simp) fun cdv A outer s0 H E hr =>
    (dinit_cons (pv 0) (de_var (pv 1)) (dinit_cons (pv 0) (de_var (pv 2)) (dinit_cons (pv 0) (de_list1 (by rfl) T.z_list (da_cons (de_var (pv 3)) da_nil)) (dinit_cons (pv 0) (de_comp rfl sc_Yard_init.nd (di_seq (de_var (pv 4))) (blkOk_by (own := [("name", 5), ("times", 6), ("turns", 7)]) (N := N_Yard_init) (sc := _) (by show blkC N_Yard_init (defScope st_Yard_init) _ _ = true; decide +kernel)) (os := [5, 6, 7]) rfl (fun _ h => h) (fun _ _ _ _ _ => (dg_seq rfl (dgs_cons (dg_name (i := 5) sc_Yard_init.nd rfl (.inl rfl)) (dgs_cons (dg_name (i := 6) sc_Yard_init.nd rfl (.inl rfl)) (dgs_cons (dg_name (i := 7) sc_Yard_init.nd rfl (.inl rfl)) dgs_nil))))) (fun _ _ _ _ _ => dts_nil) (fun _ _ _ _ _ => (de_tup (da_cons (de_var (pv 5)) (da_cons (de_var (pv 6)) (da_cons (de_list1 (by rfl) T.z_list (da_cons (de_var (pv 7)) da_nil)) da_nil)))))) dinit_nil))))
theorem ok_law_cell (T : Tx P w K mg base G) : FnOk P w K mg base (L2.CX P w) 1 T.a_law_cell T.d_law_cell P_law_cell (spD K 2 (φ_law_cell G)) :=
  fnD (s := s_law_cell G) (N := N_law_cell) T.F_law_cell sc_law_cell rfl fun cdv A outer s0 H E hr =>
    (dss_cons (ds_if (dt_lt (de_var (pv 1)) (de_lenV (by rfl) T.z_len (pv 0))) (dss_one (ds_ret (de_fz (de_ixV (pv 0) (de_var (pv 1)))))) dss_nil)
      (dss_one (ds_ret de_int)))
theorem ok_law_churn (T : Tx P w K mg base G) : FnOk P w K mg base (L2.CX P w) 1 T.a_law_churn T.d_law_churn P_law_churn (spD K 2 (φ_law_churn G)) :=
  fnD (s := s_law_churn G) (N := N_law_churn) T.F_law_churn sc_law_churn rfl fun cdv A outer s0 H E hr =>
    (dss_cons (ds_set (i := 0) sc_law_churn.nd rfl (.inl rfl) (de_fz (de_add (de_add (de_mod (de_var (pv 0)) de_int) (de_mul de_int (de_var (pv 1)))) de_int)))
      (dss_cons (ds_asg (de_divmod (by rfl) T.z_divmod (da_cons (de_add (de_mul (de_var (pv 0)) de_int) (de_mul (de_var (pv 1)) de_int)) (da_cons de_int da_nil))) (dg_seq rfl (dgs_cons (dg_name (i := 2) sc_law_churn.nd rfl (.inl rfl)) (dgs_cons (dg_name (i := 3) sc_law_churn.nd rfl (.inl rfl)) dgs_nil))))
      (dss_one (ds_ret (de_fz (de_mod (de_add (de_add (de_mul (de_var (pv 2)) (de_var (pv 2))) (de_mul (de_var (pv 3)) (de_add (de_var (pv 3)) de_int))) (de_var (pv 1))) de_int))))))
theorem ok_law_turn (T : Tx P w K mg base G) : FnOk P w K mg base (L2.CX P w) 1 T.a_law_turn T.d_law_turn P_law_turn (spD K 3 (φ_law_turn G)) :=
  fnD (s := s_law_turn G) (N := N_law_turn) T.F_law_turn sc_law_turn rfl fun cdv A outer s0 H E hr =>
    (dss_cons (ds_asg (de_var (pv 2)) (dg_seq rfl (dgs_cons (dg_name (i := 3) sc_law_turn.nd rfl (.inl rfl)) (dgs_cons (dg_name (i := 4) sc_law_turn.nd rfl (.inl rfl)) (dgs_cons (dg_name (i := 5) sc_law_turn.nd rfl (.inl rfl)) dgs_nil)))))
      (dss_cons (ds_if (dt_eq hr.units (de_mod (de_var (pv 0)) de_int) de_int) (dss_one (ds_ret de_non)) dss_nil)
      (dss_cons (ds_if (dt_lt (de_mod (de_var (pv 0)) de_int) de_int) (dss_one (ds_ret (de_fz (de_tup (da_cons (de_add (de_mul (de_mul de_int (de_var (pv 5))) (de_var (pv 1))) (de_var (pv 3))) (da_cons (de_add (de_var (pv 4)) (de_mul (de_mul de_int (de_var (pv 5))) (de_fdiv (de_mod (de_fdiv (de_var (pv 0)) de_int) de_int) de_int))) (da_cons (de_var (pv 5)) da_nil))))))) dss_nil)
      (dss_cons (ds_set (i := 6) sc_law_turn.nd rfl (.inl rfl) (de_fz (de_ixD (de_lst (da_cons de_int (da_cons de_int (da_cons (de_pow de_int de_int) da_nil)))) (de_mod (de_fdiv (de_var (pv 0)) de_int) de_int))))
      (dss_one (ds_ret (de_fz (de_tup (da_cons (de_mul (de_var (pv 6)) (de_sub (de_mod (de_fdiv (de_var (pv 0)) de_int) de_int) de_int)) (da_cons (de_mul (de_var (pv 6)) (de_sub (de_mod (de_fdiv (de_var (pv 0)) de_int) de_int) de_int)) (da_cons (de_mul (de_var (pv 6)) (de_add de_int (de_mod (de_fdiv (de_var (pv 0)) de_int) de_int))) da_nil)))))))))))
theorem ok_law_sides (T : Tx P w K mg base G) : FnOk P w K mg base (L2.CX P w) 1 T.a_law_sides T.d_law_sides P_law_sides (spD K 1 (φ_law_sides G)) :=
  fnD (s := s_law_sides G) (N := N_law_sides) T.F_law_sides sc_law_sides rfl fun cdv A outer s0 H E hr =>
    (dss_cons (ds_set (i := 0) sc_law_sides.nd rfl (.inl rfl) (de_fz (de_mod (de_var (pv 0)) (de_pow de_int de_int))))
      (dss_cons (ds_if (dt_eq hr.units (de_mod (de_var (pv 0)) de_int) de_int) (dss_one (ds_ret (de_fz (de_tup (da_cons (de_add de_int (de_mod (de_fdiv (de_var (pv 0)) de_int) de_int)) (da_cons (de_add de_int (de_mod (de_fdiv (de_var (pv 0)) de_int) de_int)) da_nil)))))) dss_nil)
      (dss_one (ds_ret (de_fz (de_tup (da_cons (de_add de_int (de_mod (de_fdiv (de_var (pv 0)) de_int) de_int)) (da_cons (de_add de_int (de_mod (de_fdiv (de_var (pv 0)) de_int) de_int)) da_nil))))))))
theorem ok_law_on (T : Tx P w K mg base G) : FnOk P w K mg base (L2.CX P w) 1 T.a_law_on T.d_law_on P_law_on (spD K 2 (φ_law_on G)) :=
  fnD (s := s_law_on G) (N := N_law_on) T.F_law_on sc_law_on rfl fun cdv A outer s0 H E hr =>
    (dss_one (ds_ret (de_and (de_chain op_le op_lt de_int (de_ixV (pv 0) de_int) (de_ixV (pv 1) de_int)) (de_one (de_chain op_le op_lt de_int (de_ixV (pv 0) de_int) (de_ixV (pv 1) de_int))))))
theorem ok_end_of (T : Tx P w K mg base G) : FnOk P w K mg base (L2.CX P w) 2 T.a_end_of T.d_end_of P_end_of (spD K 2 (φ_end_of G)) :=
  fnD (s := s_end_of G) (N := N_end_of) T.F_end_of sc_end_of rfl fun cdv A outer s0 H E hr =>
    (dss_cons (ds_asg (de_call (ok_cast T) (hr.mono (by decide)) (by rfl) T.m_cast T.F_cast.kp T.b_cast (da_cons (de_var (pv 0)) (da_cons (de_var (pv 1)) da_nil))) (dg_seq rfl (dgs_cons (dg_name (i := 2) sc_end_of.nd rfl (.inl rfl)) (dgs_cons (dg_name (i := 3) sc_end_of.nd rfl (.inl rfl)) dgs_nil))))
      (dss_cons (ds_set (i := 4) sc_end_of.nd rfl (.inl rfl) (de_fz (de_ixV (pv 1) de_int)))
      (dss_one (ds_ret (de_fz (de_tup (da_cons (de_fdiv (de_add (de_var (pv 2)) (de_var (pv 4))) (de_mul de_int (de_var (pv 4)))) (da_cons (de_fdiv (de_add (de_var (pv 3)) (de_var (pv 4))) (de_mul de_int (de_var (pv 4)))) da_nil))))))))
theorem ok_law_row (T : Tx P w K mg base G) : FnOk P w K mg base (L2.CX P w) 2 T.a_law_row T.d_law_row P_law_row (spD K 2 (φ_law_row G)) :=
  fnD (s := s_law_row G) (N := N_law_row) T.F_law_row sc_law_row rfl fun cdv A outer s0 H E hr =>
    (dss_cons (ds_set (i := 2) sc_law_row.nd rfl (.inl rfl) (de_fz (de_mod (de_var (pv 0)) de_int)))
      (dss_cons (ds_set (i := 0) sc_law_row.nd rfl (.inl rfl) (de_fz (de_mod (de_fdiv (de_var (pv 0)) de_int) (de_mul (de_mul (de_pow de_int de_int) (de_pow de_int de_int)) (de_pow de_int de_int)))))
      (dss_cons (ds_set (i := 3) sc_law_row.nd rfl (.inl rfl) (de_lst da_nil))
      (dss_cons (ds_for [4] (passes_of rfl) rfl (di_range1 (by rfl) T.z_range (da_cons (de_var (pv 1)) da_nil)) (dg_name (i := 4) sc_law_row.nd rfl (.inl rfl)) (dss_one (ds_if (dt_eq hr.units (de_var (pv 2)) de_int) (dss_cons (ds_app (pe_bm PySem.F.plainAttrs_list PySem.F.slot_list_append PySem.F.type_list_append mt_append (pv 3) (pa_cons (de_mod (de_var (pv 0)) (de_pow de_int de_int)) pa_nil)))
      (dss_one (ds_set (i := 0) sc_law_row.nd rfl (.inl rfl) (de_fdiv (de_var (pv 0)) (de_pow de_int de_int))))) (dss_one (ds_app (pe_bm PySem.F.plainAttrs_list PySem.F.slot_list_append PySem.F.type_list_append mt_append (pv 3) (pa_cons (de_call (ok_law_churn T) (hr.mono (by decide)) (by rfl) T.m_law_churn T.F_law_churn.kp T.b_law_churn (da_cons (de_add (de_call (ok_law_churn T) (hr.mono (by decide)) (by rfl) T.m_law_churn T.F_law_churn.kp T.b_law_churn (da_cons (de_var (pv 0)) (da_cons (de_var (pv 4)) da_nil))) (de_var (pv 0))) (da_cons (de_var (pv 4)) da_nil))) pa_nil)))))))
      (dss_one (ds_ret (de_var (pv 3))))))))
theorem ok_law_fault (T : Tx P w K mg base G) : FnOk P w K mg base (L2.CX P w) 2 T.a_law_fault T.d_law_fault P_law_fault (spD K 3 (φ_law_fault G)) :=
  fnD (s := s_law_fault G) (N := N_law_fault) T.F_law_fault sc_law_fault rfl fun cdv A outer s0 H E hr =>
    (dss_cons (ds_setCompF (i := 3) rfl sc_law_fault.nd rfl rfl (sw_true rfl rfl rfl (by decide +kernel)) (di_seq (de_var (pv 1))) (blkOk_by (own := [("_law_day", 6), ("_law_turn_here", 7), ("_law_stone", 8)]) (N := N_law_fault) (sc := _) (by show blkC N_law_fault (defScope st_law_fault) _ _ = true; decide +kernel)) (os := [6, 7, 8]) rfl (fun _ h => h) (fun _ _ _ _ _ => (dg_seq rfl (dgs_cons (dg_name (i := 6) sc_law_fault.nd rfl (.inl rfl)) (dgs_cons (dg_name (i := 7) sc_law_fault.nd rfl (.inl rfl)) (dgs_cons (dg_name (i := 8) sc_law_fault.nd rfl (.inl rfl)) dgs_nil))))) (fun _ _ _ _ _ => (dts_one (dt_not (dt_val (de_call (ok_law_on T) (hr.mono (by decide)) (by rfl) T.m_law_on T.F_law_on.kp T.b_law_on (da_cons (de_var (pv 8)) (da_cons (de_var (pv 2)) da_nil))))))) (fun _ _ _ _ _ => (de_tup (da_cons (de_var (pv 6)) (da_cons (de_var (pv 7)) da_nil)))))
      (dss_cons (ds_if (dt_eq hr.units (de_ixV (pv 0) de_int) de_str) (dss_one (ds_ret (de_and (de_ne hr.units (de_var (pv 3)) (de_lst da_nil)) (de_one (de_eq hr.units (de_sl (de_var (pv 0)) (do_some de_int) do_none) (de_ixV (pv 3) de_int)))))) dss_nil)
      (dss_cons (ds_if (dt_w (dw_or (dt_ne hr.units (de_ixV (pv 0) de_int) de_str) (dw_or (dt_ne hr.units (de_var (pv 3)) (de_lst da_nil)) (dw_or (dt_eq hr.units (de_ixD (de_ixV (pv 0) de_int) de_int) (de_ixD (de_ixV (pv 0) de_int) de_int)) (dw_or1 (dt_not (dt_ltT hr.units0 (de_ixV (pv 0) de_int) (de_ixV (pv 0) de_int)))))))) (dss_one (ds_ret de_bl)) dss_nil)
      (dss_cons (ds_setCompF (i := 4) rfl sc_law_fault.nd rfl rfl (sw_true rfl rfl rfl (by decide +kernel)) (di_seq (de_var (pv 1))) (blkOk_by (own := [("_law_day", 6), ("_law_turn_here", 7), ("_law_stone", 8)]) (N := N_law_fault) (sc := _) (by show blkC N_law_fault (defScope st_law_fault) _ _ = true; decide +kernel)) (os := [6, 7, 8]) rfl (fun _ h => h) (fun _ _ _ _ _ => (dg_seq rfl (dgs_cons (dg_name (i := 6) sc_law_fault.nd rfl (.inl rfl)) (dgs_cons (dg_name (i := 7) sc_law_fault.nd rfl (.inl rfl)) (dgs_cons (dg_name (i := 8) sc_law_fault.nd rfl (.inl rfl)) dgs_nil))))) (fun _ _ _ _ _ => (dts_one (dt_eq hr.units (de_tup (da_cons (de_var (pv 6)) (da_cons (de_var (pv 7)) da_nil))) (de_ixV (pv 0) de_int)))) (fun _ _ _ _ _ => (de_var (pv 8))))
      (dss_cons (ds_setCompF (i := 5) rfl sc_law_fault.nd rfl rfl (sw_true rfl rfl rfl (by decide +kernel)) (di_seq (de_var (pv 1))) (blkOk_by (own := [("_law_day", 6), ("_law_turn_here", 7), ("_law_stone", 8)]) (N := N_law_fault) (sc := _) (by show blkC N_law_fault (defScope st_law_fault) _ _ = true; decide +kernel)) (os := [6, 7, 8]) rfl (fun _ h => h) (fun _ _ _ _ _ => (dg_seq rfl (dgs_cons (dg_name (i := 6) sc_law_fault.nd rfl (.inl rfl)) (dgs_cons (dg_name (i := 7) sc_law_fault.nd rfl (.inl rfl)) (dgs_cons (dg_name (i := 8) sc_law_fault.nd rfl (.inl rfl)) dgs_nil))))) (fun _ _ _ _ _ => (dts_one (dt_eq hr.units (de_tup (da_cons (de_var (pv 6)) (da_cons (de_var (pv 7)) da_nil))) (de_ixV (pv 0) de_int)))) (fun _ _ _ _ _ => (de_var (pv 8))))
      (dss_one (ds_ret (de_and (de_eq hr.units (de_lenV (by rfl) T.z_len (pv 4)) de_int) (de_one (de_eq hr.units (de_var (pv 4)) (de_var (pv 5))))))))))))
theorem ok_law_marks (T : Tx P w K mg base G) : FnOk P w K mg base (L2.CX P w) 2 T.a_law_marks T.d_law_marks P_law_marks (spD K 3 (φ_law_marks G)) :=
  fnD (s := s_law_marks G) (N := N_law_marks) T.F_law_marks sc_law_marks rfl fun cdv A outer s0 H E hr =>
    (dss_cons (ds_set (i := 3) sc_law_marks.nd rfl (.inl rfl) (de_dnew true))
      (dss_cons (ds_for [7, 4, 5, 6] (passes_of rfl) rfl (di_seq (de_var (pv 1))) (dg_seq rfl (dgs_cons (dg_name (i := 4) sc_law_marks.nd rfl (.inl rfl)) (dgs_cons (dg_name (i := 5) sc_law_marks.nd rfl (.inl rfl)) (dgs_cons (dg_name (i := 6) sc_law_marks.nd rfl (.inl rfl)) dgs_nil)))) (dss_cons (ds_if (dt_not (dt_val (de_call (ok_law_on T) (hr.mono (by decide)) (by rfl) T.m_law_on T.F_law_on.kp T.b_law_on (da_cons (de_var (pv 6)) (da_cons (de_var (pv 2)) da_nil))))) (dss_one (ds_ret de_bl)) dss_nil)
      (dss_cons (ds_set (i := 7) sc_law_marks.nd rfl (.inl rfl) (de_fz (de_add (de_mul (de_ixV (pv 6) de_int) (de_ixV (pv 2) de_int)) (de_ixV (pv 6) de_int))))
      (dss_cons (ds_if (dt_ne hr.units (de_call (ok_turn_at T) (hr.mono (by decide)) (by rfl) T.m_turn_at T.F_turn_at.kp T.b_turn_at (da_cons (de_var (pv 0)) (da_cons (de_var (pv 7)) da_nil))) (de_var (pv 5))) (dss_one (ds_ret de_bl)) dss_nil)
      (dss_one (ds_dputK hr.units (pv 3) (de_keyT (da_cons (de_var (pv 7)) (da_cons (de_var (pv 5)) da_nil))) de_bl))))))
      (dss_one (ds_ret (de_eqSD rfl hr.units (de_list1 (by rfl) T.z_list (da_cons (de_var (pv 0)) da_nil)) (by rfl) T.z_sorted (pv 3))))))
theorem ok_ends_of (T : Tx P w K mg base G) : FnOk P w K mg base (L2.CX P w) 3 T.a_ends_of T.d_ends_of P_ends_of (spD K 2 (φ_ends_of G)) :=
  fnD (s := s_ends_of G) (N := N_ends_of) T.F_ends_of sc_ends_of rfl fun cdv A outer s0 H E hr =>
    (dss_cons (ds_set (i := 2) sc_ends_of.nd rfl (.inl rfl) (de_lst da_nil))
      (dss_cons (ds_for [5, 6, 3, 4] (passes_of rfl) rfl (di_enumerate (by rfl) T.z_enumerate (da_cons (de_fld T.fl_days (de_var (pv 0))) da_nil)) (dg_seq rfl (dgs_cons (dg_name (i := 3) sc_ends_of.nd rfl (.inl rfl)) (dgs_cons (dg_name (i := 4) sc_ends_of.nd rfl (.inl rfl)) dgs_nil))) (dss_one (ds_for [5, 6] (passes_of rfl) rfl (di_enumerate (by rfl) T.z_enumerate (da_cons (de_ixV (pv 4) de_int) da_nil)) (dg_seq rfl (dgs_cons (dg_name (i := 5) sc_ends_of.nd rfl (.inl rfl)) (dgs_cons (dg_name (i := 6) sc_ends_of.nd rfl (.inl rfl)) dgs_nil))) (dss_one (ds_if (dt_notN (de_var (pv 6))) (dss_one (ds_app (pe_bm PySem.F.plainAttrs_list PySem.F.slot_list_append PySem.F.type_list_append mt_append (pv 2) (pa_cons (de_tup (da_cons (de_var (pv 3)) (da_cons (de_var (pv 5)) (da_cons (de_call (ok_end_of T) (hr.mono (by decide)) (by rfl) T.m_end_of T.F_end_of.kp T.b_end_of (da_cons (de_var (pv 1)) (da_cons (de_var (pv 6)) da_nil))) da_nil)))) pa_nil)))) dss_nil)))))
      (dss_one (ds_ret (de_var (pv 2))))))
theorem ok_cloth_of (T : Tx P w K mg base G) : FnOk P w K mg base (L2.CX P w) 3 T.a_cloth_of T.d_cloth_of P_cloth_of (spD K 1 (φ_cloth_of G)) :=
  fnD (s := s_cloth_of G) (N := N_cloth_of) T.F_cloth_of sc_cloth_of rfl fun cdv A outer s0 H E hr =>
    (dss_cons (ds_for [1] (passes_of rfl) rfl (di_seq (de_tup (da_cons de_int (da_cons de_int (da_cons de_int da_nil))))) (dg_name (i := 1) sc_cloth_of.nd rfl (.inl rfl)) (dss_one (ds_if (dt_w (dw_or (dt_not (dt_val (de_call (ok_are_places T) (hr.mono (by decide)) (by rfl) T.m_are_places T.F_are_places.kp T.b_are_places (da_cons (de_sl (de_var (pv 0)) (do_some (de_var (pv 1))) (do_some (de_add (de_var (pv 1)) de_int))) da_nil)))) (dw_or1 (dt_not (dt_val (de_call (ok_is_height T) (hr.mono (by decide)) (by rfl) T.m_is_height T.F_is_height.kp T.b_is_height (da_cons (de_ixV (pv 0) (de_add (de_var (pv 1)) de_int)) (da_cons de_int da_nil)))))))) (dss_one ds_bad) dss_nil)))
      (dss_one (ds_ret (de_fz (de_make T.mk_Cloth T.cl_Cloth T.ni_Cloth (ok_Thing_init T) (hr.mono (by decide)) (by rfl) T.mC_Cloth T.b_Thing_init (da_cons (de_var (pv 0)) da_nil))))))
theorem ok_stretched (T : Tx P w K mg base G) : FnOk P w K mg base (L2.CX P w) 3 T.a_stretched T.d_stretched P_stretched (spD K 2 (φ_stretched G)) :=
  fnD (s := s_stretched G) (N := N_stretched) T.F_stretched sc_stretched rfl fun cdv A outer s0 H E hr =>
    (dss_cons (ds_asg (de_var (pv 1)) (dg_seq rfl (dgs_cons (dg_name (i := 2) sc_stretched.nd rfl (.inl rfl)) (dgs_cons (dg_name (i := 3) sc_stretched.nd rfl (.inl rfl)) (dgs_cons (dg_name (i := 4) sc_stretched.nd rfl (.inl rfl)) (dgs_cons (dg_name (i := 5) sc_stretched.nd rfl (.inl rfl)) (dgs_cons (dg_name (i := 6) sc_stretched.nd rfl (.inl rfl)) dgs_nil)))))))
      (dss_cons (ds_if (dt_w (dw_or (dt_not (dt_val (de_call (ok_are_places T) (hr.mono (by decide)) (by rfl) T.m_are_places T.F_are_places.kp T.b_are_places (da_cons (de_sl (de_var (pv 1)) do_none (do_some de_int)) da_nil)))) (dw_or1 (dt_not (dt_val (de_call (ok_is_height T) (hr.mono (by decide)) (by rfl) T.m_is_height T.F_is_height.kp T.b_is_height (da_cons (de_var (pv 6)) (da_cons de_int da_nil)))))))) (dss_one ds_bad) dss_nil)
      (dss_cons (ds_if (dt_w (dw_and (dt_eq hr.units (de_var (pv 0)) de_str) (dw_and1 (dt_ne hr.units (de_tup (da_cons (de_var (pv 2)) (da_cons (de_var (pv 3)) da_nil))) (de_tup (da_cons (de_var (pv 4)) (da_cons (de_var (pv 5)) da_nil))))))) (dss_one (ds_ret (de_fz (de_make T.mk_Fence T.cl_Fence T.ni_Fence (ok_Thing_init T) (hr.mono (by decide)) (by rfl) T.mC_Fence T.b_Thing_init (da_cons (de_var (pv 1)) da_nil))))) dss_nil)
      (dss_cons (ds_if (dt_w (dw_and (dt_eq hr.units (de_var (pv 0)) de_str) (dw_and (dt_lt (de_var (pv 2)) (de_var (pv 4))) (dw_and1 (dt_lt (de_var (pv 3)) (de_var (pv 5))))))) (dss_one (ds_ret (de_fz (de_make T.mk_Sail T.cl_Sail T.ni_Sail (ok_Thing_init T) (hr.mono (by decide)) (by rfl) T.mC_Sail T.b_Thing_init (da_cons (de_var (pv 1)) da_nil))))) dss_nil)
      (dss_cons (ds_if (dt_w (dw_and (dt_eq hr.units (de_var (pv 0)) de_str) (dw_and (dt_lt (de_var (pv 2)) (de_var (pv 4))) (dw_and1 (dt_lt (de_var (pv 3)) (de_var (pv 5))))))) (dss_one (ds_ret (de_fz (de_make T.mk_House T.cl_House T.ni_House (ok_Thing_init T) (hr.mono (by decide)) (by rfl) T.mC_House T.b_Thing_init (da_cons (de_var (pv 1)) da_nil))))) dss_nil)
      (dss_one ds_bad))))))
theorem ok_law_days (T : Tx P w K mg base G) : FnOk P w K mg base (L2.CX P w) 3 T.a_law_days T.d_law_days P_law_days (spD K 3 (φ_law_days G)) :=
  fnD (s := s_law_days G) (N := N_law_days) T.F_law_days sc_law_days rfl fun cdv A outer s0 H E hr =>
    (dss_cons (ds_set (i := 3) sc_law_days.nd rfl (.inl rfl) (de_fz (de_mod (de_call (ok_law_cell T) (hr.mono (by decide)) (by rfl) T.m_law_cell T.F_law_cell.kp T.b_law_cell (da_cons (de_var (pv 0)) (da_cons (de_var (pv 1)) da_nil))) (de_pow de_int de_int))))
      (dss_cons (ds_set (i := 4) sc_law_days.nd rfl (.inl rfl) (de_lst da_nil))
      (dss_cons (ds_set (i := 5) sc_law_days.nd rfl (.inl rfl) (de_fz (de_int1 (by rfl) T.z_int (da_cons (de_eq hr.units (de_mod (de_fdiv (de_var (pv 3)) de_int) de_int) de_int) da_nil))))
      (dss_cons (ds_if (dt_eq hr.units (de_mod (de_fdiv (de_var (pv 3)) de_int) de_int) de_int) (dss_one (ds_ret (de_fz (de_lst da_nil)))) dss_nil)
      (dss_cons (ds_for [7, 8, 9, 10, 11, 12, 6] (passes_of rfl) rfl (di_range1 (by rfl) T.z_range (da_cons (de_add de_int (de_mod (de_var (pv 3)) (de_ixD (de_lst (da_cons (de_var (pv 2)) (da_cons de_int da_nil))) (de_var (pv 5))))) da_nil)) (dg_name (i := 6) sc_law_days.nd rfl (.inl rfl)) (dss_cons (ds_set (i := 7) sc_law_days.nd rfl (.inl rfl) (de_fz (de_call (ok_law_cell T) (hr.mono (by decide)) (by rfl) T.m_law_cell T.F_law_cell.kp T.b_law_cell (da_cons (de_var (pv 0)) (da_cons (de_add (de_add (de_var (pv 1)) de_int) (de_var (pv 6))) da_nil)))))
      (dss_cons (ds_set (i := 8) sc_law_days.nd rfl (.inr rfl) (de_fz (de_tup (da_cons (de_sub (de_mod (de_fdiv (de_var (pv 7)) de_int) de_int) de_int) (da_cons (de_sub (de_mod (de_fdiv (de_var (pv 7)) de_int) de_int) de_int) (da_cons (de_add de_int (de_mod (de_fdiv (de_var (pv 3)) de_int) de_int)) da_nil))))))
      (dss_cons (ds_set (i := 9) sc_law_days.nd rfl (.inl rfl) (de_fz (de_add (de_add de_int (de_mod (de_var (pv 7)) de_int)) (de_mul (de_mod (de_fdiv (de_var (pv 7)) de_int) de_int) (de_fdiv (de_mod (de_fdiv (de_var (pv 3)) de_int) de_int) de_int)))))
      (dss_cons (ds_if (dt_eq hr.units (de_var (pv 5)) de_int) (dss_one (ds_set (i := 9) sc_law_days.nd rfl (.inl rfl) (de_fz (de_add de_int (de_mod (de_var (pv 7)) de_int))))) dss_nil)
      (dss_cons (ds_set (i := 10) sc_law_days.nd rfl (.inr rfl) (de_fz (de_call (ok_law_row T) (hr.mono (by decide)) (by rfl) T.m_law_row T.F_law_row.kp T.b_law_row (da_cons (de_fdiv (de_var (pv 7)) de_int) (da_cons (de_var (pv 9)) da_nil)))))
      (dss_cons (ds_setCompF (i := 11) rfl sc_law_days.nd rfl rfl (sw_true rfl rfl rfl (by decide +kernel)) (di_range1 (by rfl) T.z_range (da_cons (de_var (pv 9)) da_nil)) (blkOk_by (own := [("_law_t", 13)]) (N := N_law_days) (sc := _) (by show blkC N_law_days (defScope st_law_days) _ _ = true; decide +kernel)) (os := [13]) rfl (fun _ h => h) (fun _ _ _ _ _ => (dg_name (i := 13) sc_law_days.nd rfl (.inl rfl))) (fun _ _ _ _ _ => dts_nil) (fun _ _ _ _ _ => (de_call (ok_law_turn T) (hr.mono (by decide)) (by rfl) T.m_law_turn T.F_law_turn.kp T.b_law_turn (da_cons (de_ixV (pv 10) (de_var (pv 13))) (da_cons (de_var (pv 13)) (da_cons (de_var (pv 8)) da_nil))))))
      (dss_cons (ds_set (i := 12) sc_law_days.nd rfl (.inl rfl) (de_fz (de_add (de_ixD de_str (de_var (pv 6))) (de_repS de_str (de_mod (de_fdiv (de_var (pv 3)) de_int) de_int)))))
      (dss_one (ds_app (pe_bm PySem.F.plainAttrs_list PySem.F.slot_list_append PySem.F.type_list_append mt_append (pv 4) (pa_cons (de_tup (da_cons (de_var (pv 12)) (da_cons (de_add de_int (de_mod (de_fdiv (de_var (pv 3)) de_int) (de_sub (de_pow de_int de_int) de_int))) (da_cons (de_var (pv 11)) da_nil)))) pa_nil))))))))))))
      (dss_one (ds_ret (de_var (pv 4)))))))))
theorem ok_law_ends (T : Tx P w K mg base G) : FnOk P w K mg base (L2.CX P w) 3 T.a_law_ends T.d_law_ends P_law_ends (spD K 2 (φ_law_ends G)) :=
  fnD (s := s_law_ends G) (N := N_law_ends) T.F_law_ends sc_law_ends rfl fun cdv A outer s0 H E hr =>
    (dss_cons (ds_set (i := 2) sc_law_ends.nd rfl (.inl rfl) (de_lst da_nil))
      (dss_cons (ds_for [4, 3] (passes_of rfl) rfl (di_range1 (by rfl) T.z_range (da_cons (de_lenV (by rfl) T.z_len (pv 0)) da_nil)) (dg_name (i := 3) sc_law_ends.nd rfl (.inl rfl)) (dss_one (ds_for [4] (passes_of rfl) rfl (di_range1 (by rfl) T.z_range (da_cons (de_len (by rfl) T.z_len (da_cons (de_ixD (de_ixV (pv 0) (de_var (pv 3))) de_int) da_nil)) da_nil)) (dg_name (i := 4) sc_law_ends.nd rfl (.inl rfl)) (dss_one (ds_if (dt_notN (de_ixD (de_ixD (de_ixV (pv 0) (de_var (pv 3))) de_int) (de_var (pv 4)))) (dss_one (ds_app (pe_bm PySem.F.plainAttrs_list PySem.F.slot_list_append PySem.F.type_list_append mt_append (pv 2) (pa_cons (de_tup (da_cons (de_var (pv 3)) (da_cons (de_var (pv 4)) (da_cons (de_call (ok_end_of T) (hr.mono (by decide)) (by rfl) T.m_end_of T.F_end_of.kp T.b_end_of (da_cons (de_var (pv 1)) (da_cons (de_ixD (de_ixD (de_ixV (pv 0) (de_var (pv 3))) de_int) (de_var (pv 4))) da_nil))) da_nil)))) pa_nil)))) dss_nil)))))
      (dss_one (ds_ret (de_var (pv 2))))))
theorem ok_dial (T : Tx P w K mg base G) : FnOk P w K mg base (L2.CX P w) 4 T.a_dial T.d_dial P_dial (spD K 2 (φ_dial G)) :=
  fnD (s := s_dial G) (N := N_dial) T.F_dial sc_dial rfl fun cdv A outer s0 H E hr =>
    (dss_cons (ds_set (i := 2) sc_dial.nd rfl (.inl rfl) (de_fz (de_call (ok_ends_of T) (hr.mono (by decide)) (by rfl) T.m_ends_of T.F_ends_of.kp T.b_ends_of (da_cons (de_var (pv 0)) (da_cons (de_var (pv 1)) da_nil)))))
      (dss_cons (ds_set (i := 3) sc_dial.nd rfl (.inl rfl) (de_fz (de_call (ok_first_off T) (hr.mono (by decide)) (by rfl) T.m_first_off T.F_first_off.kp T.b_first_off (da_cons (de_var (pv 0)) (da_cons (de_var (pv 2)) da_nil)))))
      (dss_cons (ds_if (dt_isN (de_var (pv 3))) (dss_one (ds_set (i := 3) sc_dial.nd rfl (.inl rfl) (de_fz (de_call (ok_first_alike T) (hr.mono (by decide)) (by rfl) T.m_first_alike T.F_first_alike.kp T.b_first_alike (da_cons (de_var (pv 2)) da_nil))))) dss_nil)
      (dss_cons (ds_if (dt_notN (de_var (pv 3))) (dss_one (ds_ret (de_var (pv 3)))) dss_nil)
      (dss_one (ds_ret (de_fz (de_tup (da_cons de_str (da_cons (de_sortSetW rfl hr.units (by rfl) T.z_sorted (by rfl) T.z_set (de_comp rfl sc_dial.nd (di_seq (de_var (pv 2))) (blkOk_by (own := [("day", 4), ("turn", 5), ("stone", 6)]) (N := N_dial) (sc := _) (by show blkC N_dial (defScope st_dial) _ _ = true; decide +kernel)) (os := [4, 5, 6]) rfl (fun _ h => h) (fun _ _ _ _ _ => (dg_seq rfl (dgs_cons (dg_name (i := 4) sc_dial.nd rfl (.inl rfl)) (dgs_cons (dg_name (i := 5) sc_dial.nd rfl (.inl rfl)) (dgs_cons (dg_name (i := 6) sc_dial.nd rfl (.inl rfl)) dgs_nil))))) (fun _ _ _ _ _ => dts_nil) (fun _ _ _ _ _ => (de_tup (da_cons (de_add (de_mul (de_ixV (pv 6) de_int) (de_fld T.fl_width (de_var (pv 0)))) (de_ixV (pv 6) de_int)) (da_cons (de_var (pv 5)) da_nil)))))) da_nil))))))))))
theorem ok_thing_of (T : Tx P w K mg base G) : FnOk P w K mg base (L2.CX P w) 4 T.a_thing_of T.d_thing_of P_thing_of (spD K 2 (φ_thing_of G)) :=
  fnD (s := s_thing_of G) (N := N_thing_of) T.F_thing_of sc_thing_of rfl fun cdv A outer s0 H E hr =>
    (dss_cons (ds_if (dt_w (dw_and (dt_eq hr.units (de_var (pv 0)) de_str) (dw_and1 (dt_eq hr.units (de_lenV (by rfl) T.z_len (pv 1)) de_int)))) (dss_one (ds_if (dt_w (dw_and (dt_val (de_call (ok_are_places T) (hr.mono (by decide)) (by rfl) T.m_are_places T.F_are_places.kp T.b_are_places (da_cons (de_sl (de_var (pv 1)) do_none (do_some de_int)) da_nil))) (dw_and1 (dt_val (de_call (ok_is_height T) (hr.mono (by decide)) (by rfl) T.m_is_height T.F_is_height.kp T.b_is_height (da_cons (de_ixV (pv 1) de_int) (da_cons de_int da_nil))))))) (dss_one (ds_ret (de_fz (de_make T.mk_Post T.cl_Post T.ni_Post (ok_Thing_init T) (hr.mono (by decide)) (by rfl) T.mC_Post T.b_Thing_init (da_cons (de_var (pv 1)) da_nil))))) dss_nil)) dss_nil)
      (dss_cons (ds_if (dt_w (dw_and (dt_eq hr.units (de_var (pv 0)) de_str) (dw_and1 (dt_eq hr.units (de_lenV (by rfl) T.z_len (pv 1)) de_int)))) (dss_one (ds_ret (de_fz (de_call (ok_cloth_of T) (hr.mono (by decide)) (by rfl) T.m_cloth_of T.F_cloth_of.kp T.b_cloth_of (da_cons (de_var (pv 1)) da_nil))))) dss_nil)
      (dss_cons (ds_if (dt_w (dw_and (dt_in hr.units (de_var (pv 0)) (de_tup (da_cons de_str (da_cons de_str (da_cons de_str da_nil))))) (dw_and1 (dt_eq hr.units (de_lenV (by rfl) T.z_len (pv 1)) de_int)))) (dss_one (ds_ret (de_fz (de_call (ok_stretched T) (hr.mono (by decide)) (by rfl) T.m_stretched T.F_stretched.kp T.b_stretched (da_cons (de_var (pv 0)) (da_cons (de_var (pv 1)) da_nil)))))) dss_nil)
      (dss_one ds_bad))))
theorem ok_least_pointer (T : Tx P w K mg base G) : FnOk P w K mg base (L2.CX P w) 5 T.a_least_pointer T.d_least_pointer P_least_pointer (spD K 4 (φ_least_pointer G)) :=
  fnD (s := s_least_pointer G) (N := N_least_pointer) T.F_least_pointer sc_least_pointer rfl fun cdv A outer s0 H E hr =>
    (dss_cons (ds_set (i := 4) sc_least_pointer.nd rfl (.inl rfl) (de_lst da_nil))
      (dss_cons (ds_for [6, 5] (passes_of rfl) rfl (di_range2 (by rfl) T.z_range (da_cons de_int (da_cons (de_add (de_var (pv 3)) de_int) da_nil))) (dg_name (i := 5) sc_least_pointer.nd rfl (.inl rfl)) (dss_cons (ds_set (i := 6) sc_least_pointer.nd rfl (.inl rfl) (de_fz (de_call (ok_dial T) (hr.mono (by decide)) (by rfl) T.m_dial T.F_dial.kp T.b_dial (da_cons (de_var (pv 0)) (da_cons (de_tup (da_cons (de_var (pv 1)) (da_cons (de_var (pv 2)) (da_cons (de_var (pv 5)) da_nil)))) da_nil)))))
      (dss_cons (ds_if (dt_eq hr.units (de_ixV (pv 6) de_int) de_str) (dss_one (ds_ret (de_fz (de_tup (da_cons de_str (da_cons (de_var (pv 5)) (da_cons (de_ixV (pv 6) de_int) (da_cons (de_var (pv 4)) da_nil)))))))) dss_nil)
      (dss_one (ds_app (pe_bm PySem.F.plainAttrs_list PySem.F.slot_list_append PySem.F.type_list_append mt_append (pv 4) (pa_cons (de_var (pv 6)) pa_nil)))))))
      (dss_one (ds_ret (de_fz (de_tup (da_cons de_str (da_cons (de_var (pv 4)) da_nil))))))))
theorem ok_law_standing (T : Tx P w K mg base G) : FnOk P w K mg base (L2.CX P w) 5 T.a_law_standing T.d_law_standing P_law_standing (spD K 1 (φ_law_standing G)) :=
  fnD (s := s_law_standing G) (N := N_law_standing) T.F_law_standing sc_law_standing rfl fun cdv A outer s0 H E hr =>
    (dss_cons (ds_set (i := 0) sc_law_standing.nd rfl (.inl rfl) (de_fz (de_mod (de_var (pv 0)) (de_pow de_int de_int))))
      (dss_cons (ds_if (dt_eq hr.units (de_mod (de_var (pv 0)) de_int) de_int) (dss_one (ds_ret (de_fz (de_lst da_nil)))) dss_nil)
      (dss_cons (ds_set (i := 1) sc_law_standing.nd rfl (.inl rfl) (de_sub (de_mod (de_fdiv (de_var (pv 0)) de_int) de_int) de_int))
      (dss_cons (ds_set (i := 2) sc_law_standing.nd rfl (.inl rfl) (de_sub (de_mod (de_fdiv (de_var (pv 0)) de_int) de_int) de_int))
      (dss_cons (ds_set (i := 3) sc_law_standing.nd rfl (.inl rfl) (de_fz (de_ixD (de_lst (da_cons de_str (da_cons de_str da_nil))) (de_mod (de_fdiv (de_var (pv 0)) de_int) de_int))))
      (dss_one (ds_ret (de_fz (de_lst (da_cons (de_call (ok_thing_of T) (hr.mono (by decide)) (by rfl) T.m_thing_of T.F_thing_of.kp T.b_thing_of (da_cons (de_var (pv 3)) (da_cons (de_lst (da_cons (de_var (pv 1)) (da_cons (de_var (pv 2)) (da_cons (de_add (de_var (pv 1)) de_int) (da_cons (de_add (de_var (pv 2)) de_int) (da_cons (de_add de_int (de_mod (de_fdiv (de_var (pv 0)) de_int) de_int)) da_nil)))))) da_nil))) da_nil))))))))))
theorem ok_law (T : Tx P w K mg base G) : FnOk P w K mg base (L2.CX P w) 6 T.a_law T.d_law P_law (spD K 1 (φ_law G)) :=
  fnD (s := s_law G) (N := N_law) T.F_law sc_law rfl fun cdv A outer s0 H E hr =>
    (dss_cons (ds_set (i := 1) sc_law.nd rfl (.inl rfl) (de_fz (de_call (ok_law_sides T) (hr.mono (by decide)) (by rfl) T.m_law_sides T.F_law_sides.kp T.b_law_sides (da_cons (de_call (ok_law_cell T) (hr.mono (by decide)) (by rfl) T.m_law_cell T.F_law_cell.kp T.b_law_cell (da_cons (de_var (pv 0)) (da_cons de_int da_nil))) da_nil))))
      (dss_cons (ds_set (i := 2) sc_law.nd rfl (.inl rfl) (de_fz (de_call (ok_law_days T) (hr.mono (by decide)) (by rfl) T.m_law_days T.F_law_days.kp T.b_law_days (da_cons (de_var (pv 0)) (da_cons de_int (da_cons de_int da_nil))))))
      (dss_cons (ds_set (i := 3) sc_law.nd rfl (.inl rfl) (de_fz (de_call (ok_law_standing T) (hr.mono (by decide)) (by rfl) T.m_law_standing T.F_law_standing.kp T.b_law_standing (da_cons (de_fdiv (de_call (ok_law_cell T) (hr.mono (by decide)) (by rfl) T.m_law_cell T.F_law_cell.kp T.b_law_cell (da_cons (de_var (pv 0)) (da_cons de_int da_nil))) de_int) da_nil))))
      (dss_cons (ds_set (i := 4) sc_law.nd rfl (.inl rfl) (de_fz (de_make T.mk_Yard T.cl_Yard T.ni_Yard (ok_Yard_init T) (hr.mono (by decide)) (by rfl) T.mC_Yard T.b_Yard_init (da_cons (de_ixV (pv 1) de_int) (da_cons (de_ixV (pv 1) de_int) (da_cons (de_var (pv 3)) (da_cons (de_comp rfl sc_law.nd (di_seq (de_var (pv 2))) (blkOk_by (own := [("_law_name", 11), ("_law_often", 12), ("_law_turns", 13)]) (N := N_law) (sc := _) (by show blkC N_law (defScope st_law) _ _ = true; decide +kernel)) (os := [11, 12, 13]) rfl (fun _ h => h) (fun _ _ _ _ _ => (dg_seq rfl (dgs_cons (dg_name (i := 11) sc_law.nd rfl (.inl rfl)) (dgs_cons (dg_name (i := 12) sc_law.nd rfl (.inl rfl)) (dgs_cons (dg_name (i := 13) sc_law.nd rfl (.inl rfl)) dgs_nil))))) (fun _ _ _ _ _ => dts_nil) (fun _ _ _ _ _ => (de_tup (da_cons (de_var (pv 11)) (da_cons (de_var (pv 12)) (da_cons (de_list1 (by rfl) T.z_list (da_cons (de_var (pv 13)) da_nil)) da_nil)))))) da_nil)))))))
      (dss_cons (ds_set (i := 5) sc_law.nd rfl (.inl rfl) (de_sub (de_mod (de_call (ok_law_cell T) (hr.mono (by decide)) (by rfl) T.m_law_cell T.F_law_cell.kp T.b_law_cell (da_cons (de_var (pv 0)) (da_cons de_int da_nil))) de_int) de_int))
      (dss_cons (ds_set (i := 6) sc_law.nd rfl (.inl rfl) (de_sub (de_mod (de_call (ok_law_cell T) (hr.mono (by decide)) (by rfl) T.m_law_cell T.F_law_cell.kp T.b_law_cell (da_cons (de_var (pv 0)) (da_cons de_int da_nil))) de_int) de_int))
      (dss_cons (ds_set (i := 7) sc_law.nd rfl (.inl rfl) (de_fz (de_add de_int (de_mod (de_call (ok_law_cell T) (hr.mono (by decide)) (by rfl) T.m_law_cell T.F_law_cell.kp T.b_law_cell (da_cons (de_var (pv 0)) (da_cons de_int da_nil))) de_int))))
      (dss_cons (ds_set (i := 8) sc_law.nd rfl (.inl rfl) (de_fz (de_call (ok_least_pointer T) (hr.mono (by decide)) (by rfl) T.m_least_pointer T.F_least_pointer.kp T.b_least_pointer (da_cons (de_var (pv 4)) (da_cons (de_var (pv 5)) (da_cons (de_var (pv 6)) (da_cons (de_var (pv 7)) da_nil)))))))
      (dss_cons (ds_set (i := 9) sc_law.nd rfl (.inl rfl) (de_fz (de_ixV (pv 8) (de_neg de_int))))
      (dss_cons (ds_if (dt_w (dw_and (dt_eq hr.units (de_ixV (pv 8) de_int) de_str) (dw_and1 (dt_ne hr.units (de_lenV (by rfl) T.z_len (pv 9)) (de_var (pv 7)))))) (dss_one (ds_ret de_bl)) dss_nil)
      (dss_cons (ds_for [10] (passes_of rfl) rfl (di_range2 (by rfl) T.z_range (da_cons de_int (da_cons (de_add (de_lenV (by rfl) T.z_len (pv 9)) de_int) da_nil))) (dg_name (i := 10) sc_law.nd rfl (.inl rfl)) (dss_one (ds_if (dt_not (dt_val (de_call (ok_law_fault T) (hr.mono (by decide)) (by rfl) T.m_law_fault T.F_law_fault.kp T.b_law_fault (da_cons (de_ixV (pv 9) (de_sub (de_var (pv 10)) de_int)) (da_cons (de_call (ok_law_ends T) (hr.mono (by decide)) (by rfl) T.m_law_ends T.F_law_ends.kp T.b_law_ends (da_cons (de_var (pv 2)) (da_cons (de_tup (da_cons (de_var (pv 5)) (da_cons (de_var (pv 6)) (da_cons (de_var (pv 10)) da_nil)))) da_nil))) (da_cons (de_var (pv 1)) da_nil)))))) (dss_one (ds_ret de_bl)) dss_nil)))
      (dss_cons (ds_if (dt_eq hr.units (de_ixV (pv 8) de_int) de_str) (dss_one (ds_ret de_bl)) dss_nil)
      (dss_cons (ds_set (i := 10) sc_law.nd rfl (.inl rfl) (de_fz (de_ixV (pv 8) de_int)))
      (dss_cons (ds_if (dt_w (dw_or (dt_ne hr.units (de_ixV (pv 8) de_int) de_str) (dw_or (dt_ne hr.units (de_var (pv 10)) (de_add (de_lenV (by rfl) T.z_len (pv 9)) de_int)) (dw_or1 (dt_gt (de_var (pv 10)) (de_var (pv 7))))))) (dss_one (ds_ret de_bl)) dss_nil)
      (dss_cons (ds_if (dt_ne hr.units (de_call (ok_dial T) (hr.mono (by decide)) (by rfl) T.m_dial T.F_dial.kp T.b_dial (da_cons (de_var (pv 4)) (da_cons (de_tup (da_cons (de_var (pv 5)) (da_cons (de_var (pv 6)) (da_cons (de_var (pv 10)) da_nil)))) da_nil))) (de_tup (da_cons de_str (da_cons (de_ixV (pv 8) de_int) da_nil)))) (dss_one (ds_ret de_bl)) dss_nil)
      (dss_one (ds_ret (de_fz (de_call (ok_law_marks T) (hr.mono (by decide)) (by rfl) T.m_law_marks T.F_law_marks.kp T.b_law_marks (da_cons (de_ixV (pv 8) de_int) (da_cons (de_call (ok_law_ends T) (hr.mono (by decide)) (by rfl) T.m_law_ends T.F_law_ends.kp T.b_law_ends (da_cons (de_var (pv 2)) (da_cons (de_tup (da_cons (de_var (pv 5)) (da_cons (de_var (pv 6)) (da_cons (de_var (pv 10)) da_nil)))) da_nil))) (da_cons (de_var (pv 1)) da_nil))))))))))))))))))))))
end
end My

namespace My
open PySem PySem.Spec L2 DL HU
/-! what the dials stand on: casts, yards, days -/
def pD (p : P2) : D := .tup [.int p.1, .int p.2]
theorem pD_mk (a b : Int) : pD (a, b) = .tup [.int a, .int b] := id rfl
abbrev P3 := Int × Int × Int
def p3D (p : P3) : D := .tup [.int p.1, .int p.2.1, .int p.2.2]
theorem p3D_mk (a b c : Int) : p3D (a, b, c) = .tup [.int a, .int b, .int c] := id rfl
def castP (r p : P3) : P2 := (r.2.2 * p.1 + r.1 * p.2.2, r.2.2 * p.2.1 + r.2.1 * p.2.2)
def RayOk (r : P3) : Prop := (-1000000 ≤ r.1 ∧ r.1 ≤ 1000000) ∧ (-1000000 ≤ r.2.1 ∧ r.2.1 ≤ 1000000) ∧ 1 ≤ r.2.2 ∧ r.2.2 ≤ 1000000
theorem cast_eq (G : Gs) (p r : P3) (hr : RayOk r) : φ_cast G [p3D p, p3D r] = .ret (.sh (pD (castP r p))) := by
  obtain ⟨x, y, z⟩ := p
  obtain ⟨a, b, c⟩ := r
  obtain ⟨⟨r1, r2⟩, ⟨r3, r4⟩, r5, r6⟩ := hr
  simp only at r1 r2 r3 r4 r5 r6
  unfold φ_cast s_cast castP
  simp (disch := omega) [p3D_mk, pD_mk]
def Pl (x : Int) : Prop := -1000000000 ≤ x ∧ x ≤ 1000000000
def Hi (x : Int) : Prop := 1 ≤ x ∧ x ≤ 1000000000
theorem init_eq (G : Gs) (ds : List D) : φ_Thing_init G [.lst ds] = some ([Str.ofString "numbers"], [D.tup ds]) := by
  unfold φ_Thing_init l_Thing_init
  simp [runInit_cons, runInit_nil]
theorem places_eq (G : Gs) (l : List Int) (h : ∀ x ∈ l, Pl x) (hl : l.length ≤ 100) : φ_are_places G [.lst (l.map .int)] = .ret (.sh (.bl true)) := by
  have e : comp (kName 1) sYes (e_are_places_1 G) [1] (l.map D.int) [] [some (.sh (.lst (l.map .int))), none] = .ok (.lst ((l.map fun _ => D.bl true).map .sh)) [some (.sh (.lst (l.map .int))), none] := by
    rw [comp_mapA (φ := D.int) (F := fun _ => D.bl true)]
    · simp
    · intro x hx
      obtain ⟨h1, h2⟩ := h x hx
      simp (disch := omega) [e_are_places_1, h1, h2]
  have hall : allD (.lst (l.map fun _ => D.bl true)) = some (.sh (.bl true)) := by
    have := allL_map (l := l.map fun _ => true)
    rw [List.map_map, List.all_map] at this
    rw [show (l.map fun _ => D.bl true) = l.map (D.bl ∘ fun _ => true) from rfl, this]
    congr 3
    exact List.all_eq_true.mpr fun _ _ => rfl
  have hl7 : l.length ≤ 10000000 := by omega
  unfold φ_are_places s_are_places
  simp (disch := omega) [e, hall, hl7]
theorem height_eq (G : Gs) (x m : Int) (h1 : m ≤ x) (h2 : x ≤ 1000000000) : φ_is_height G [.int x, .int m] = .ret (.sh (.bl true)) := by
  unfold φ_is_height s_is_height
  simp (disch := omega) [h1, h2]
theorem in_s : inD false (.str "sail") (.tup [.str "fence", .str "sail", .str "house"]) = some (.sh (.bl true)) := id rfl
theorem in_h : inD false (.str "house") (.tup [.str "fence", .str "sail", .str "house"]) = some (.sh (.bl true)) := id rfl
theorem ns1 : ¬ (Str.ofString "sail" = Str.ofString "fence") := by decide
theorem ns2 : ¬ (Str.ofString "house" = Str.ofString "fence") := by decide
theorem ns3 : ¬ (Str.ofString "house" = Str.ofString "sail") := by decide
def thD (C : Addr) (l : List Int) : D := .ins C ["numbers"] [.tup (l.map .int)]
def yardD (G : Gs) (w h : Nat) (ts days : List D) : D := .ins G.c_Yard ["width", "height", "things", "days"] [.int w, .int h, .lst ts, .lst days]
theorem f_width (G : Gs) (w h : Nat) (ts days : List D) : fldD [G.c_Yard] "width" (yardD G w h ts days) = some (.sh (.int w)) := by
  unfold yardD
  simp [fldD_ins]
theorem f_height (G : Gs) (w h : Nat) (ts days : List D) : fldD [G.c_Yard] "height" (yardD G w h ts days) = some (.sh (.int h)) := by
  have n1 : (Str.ofString "height" == Str.ofString "width") = false := by decide
  unfold yardD
  simp [fldD_ins, List.lookup, n1]
theorem loop_ixA {g : D → DEnv → Option DEnv} {t : DEnv → Fl} {is : List Nat} (st : Nat → DEnv) : ∀ (n a : Nat), (∀ i, a ≤ i → i < a + n → (lpK (g (.int (i : Int)) (st i)) fun ρ1 => flp (t ρ1) (fun ρ2 => .nx (forget is ρ2)) fun _ => .bad) = .nx (st (i + 1))) → loop g t is (rangeL (a : Int) n) (st a) = .nx (st (a + n))
  | 0, a, _ => by simp
  | n + 1, a, h => by
    rw [rangeL_s, loop_turn (h a (Nat.le_refl a) (by omega))]
    have := loop_ixA st n (a + 1) fun i h1 h2 => h i (by omega) (by omega)
    rw [show ((a + 1 : Nat) : Int) = (a : Int) + 1 by omega] at this
    rw [this]
    congr 2
    omega
theorem loop_ix {g : D → DEnv → Option DEnv} {t : DEnv → Fl} {is : List Nat} (st : Nat → DEnv) (n : Nat) (h : ∀ i, i < n → (lpK (g (.int (i : Int)) (st i)) fun ρ1 => flp (t ρ1) (fun ρ2 => .nx (forget is ρ2)) fun _ => .bad) = .nx (st (i + 1))) : loop g t is (rangeL 0 n) (st 0) = .nx (st n) := by
  have := loop_ixA st n 0 fun i _ h2 => h i (by omega)
  rw [Nat.zero_add] at this
  exact this
theorem comp_mapV {α : Type} {g : D → DEnv → Option DEnv} {f : DEnv → R Val} {ρ : DEnv} {is : List Nat} (φ : α → D) (F : α → Val) : ∀ (l : List α) (acc : List Val), (∀ a, a ∈ l → (lpR (g (φ a) ρ) fun ρ1 => (f ρ1).bind fun x ρ2 => .ok x (forget is ρ2)) = .ok (F a) ρ) → comp g sYes f is (l.map φ) acc ρ = .ok (.lst (acc ++ l.map F)) ρ
  | [], acc, _ => by simp [comp]
  | a :: l, acc, h => by
    have e := h a List.mem_cons_self
    have ih := comp_mapV φ F l (acc ++ [F a]) fun b hb => h b (List.mem_cons_of_mem _ hb)
    rw [List.map_cons, comp]
    cases e1 : g (φ a) ρ with
    | none => rw [e1] at e; cases e
    | some ρ1 =>
      rw [e1] at e
      simp only [lpR_s] at e
      simp only [sYes_ap]
      cases e2 : f ρ1 with
      | bad => rw [e2] at e; cases e
      | exc _ _ => rw [e2] at e; cases e
      | ok x ρ2 =>
        rw [e2] at e
        simp only [R.bind_ok, R.ok.injEq] at e
        simp only [e.1, e.2]
        rw [ih]
        simp
abbrev Tn := Option P3
def tnD (t : Tn) : D := match t with
  | none => .non
  | some r => p3D r
def TnOk (t : Tn) : Prop := ∀ r, t = some r → RayOk r
structure Dy where
  name : Str
  many : Int
  turns : List Tn
def dyD (d : Dy) : D := .tup [.str d.name, .int d.many, .lst (d.turns.map tnD)]
def DyOk (d : Dy) : Prop := (1 ≤ d.many ∧ d.many ≤ 1000000000) ∧ d.turns.length ≤ 24 ∧ ∀ t ∈ d.turns, TnOk t
theorem yinit2 (G : Gs) (w h : Nat) (ts : List D) (days : List Dy) (hd : days.length ≤ 100) : φ_Yard_init G [.int w, .int h, .lst ts, .lst (days.map dyD)] = some ([Str.ofString "width", Str.ofString "height", Str.ofString "things", Str.ofString "days"], [D.int w, D.int h, D.lst ts, D.lst (days.map dyD)]) := by
  have n1 : ¬ (Str.ofString "height" = Str.ofString "width") := by decide
  have n2 : ¬ (Str.ofString "things" = Str.ofString "width") := by decide
  have n3 : ¬ (Str.ofString "things" = Str.ofString "height") := by decide
  have n4 : ¬ (Str.ofString "days" = Str.ofString "width") := by decide
  have n5 : ¬ (Str.ofString "days" = Str.ofString "height") := by decide
  have n6 : ¬ (Str.ofString "days" = Str.ofString "things") := by decide
  have c := comp_mapV (g := kSeq 3 (kCons (kName 5) (kCons (kName 6) (kCons (kName 7) kNil)))) (f := e_Yard_init_1 G) (is := [5, 6, 7]) (ρ := [none, some (.sh (.int w)), some (.sh (.int h)), some (.sh (.lst ts)), some (.sh (.lst (days.map dyD))), none, none, none]) dyD (fun d => .tup [.sh (.str d.name), .sh (.int d.many), .lst ((d.turns.map tnD).map .sh)]) days [] (fun d hd => by
    unfold dyD
    generalize d.turns.map tnD = T
    simp (disch := omega) [e_Yard_init_1])
  rw [List.nil_append] at c
  have hf : fzs (days.map fun d => Val.tup [.sh (.str d.name), .sh (.int d.many), .lst ((d.turns.map tnD).map .sh)]) = days.map dyD := by
    rw [fzs_map, List.map_map]
    refine List.map_congr_left fun d _ => ?_
    show Val.fz (.tup [.sh (.str d.name), .sh (.int d.many), .lst ((d.turns.map tnD).map .sh)]) = dyD d
    unfold dyD
    generalize d.turns.map tnD = T
    simp
  have hl7 : (days.map dyD).length ≤ 10000000 := by rw [List.length_map]; omega
  unfold φ_Yard_init l_Yard_init
  generalize (days.map fun d => Val.tup [.sh (.str d.name), .sh (.int d.many), .lst ((d.turns.map tnD).map .sh)]) = V at *
  generalize days.map dyD = L at *
  simp [runInit_cons, runInit_nil, n1, n2, n3, n4, n5, n6, c, hf, hl7]
theorem f_days (G : Gs) (w h : Nat) (ts days : List D) : fldD [G.c_Yard] "days" (yardD G w h ts days) = some (.sh (.lst days)) := by
  have n2 : (Str.ofString "days" == Str.ofString "width") = false := by decide
  have n3 : (Str.ofString "days" == Str.ofString "height") = false := by decide
  have n4 : (Str.ofString "days" == Str.ofString "things") = false := by decide
  unfold yardD
  simp [fldD_ins, List.lookup, n2, n3, n4]
abbrev dy0 : Dy := ⟨Str.empty, 1, []⟩
theorem big_of (G : Gs) {wd : Str} (hw : wd = "house" ∨ wd = "sail") (x y h : Int) (hx : -1000 ≤ x ∧ x ≤ 1000) (hy : -1000 ≤ y ∧ y ≤ 1000) (hh : 1 ≤ h ∧ h ≤ 1000) : ∃ d, φ_thing_of G [.str wd, .lst [.int x, .int y, .int (x + 30), .int (y + 30), .int h]] = .ret (.sh d) := by
  have e1 := places_eq G [x, y, x + 30, y + 30] (by simp only [List.mem_cons, List.not_mem_nil, or_false]; rintro z (rfl | rfl | rfl | rfl) <;> unfold Pl <;> omega) (by simp)
  have e2 := height_eq G h 1 hh.1 (by omega)
  have k1 : x < x + 30 := by omega
  have k2 : y < y + 30 := by omega
  have n1 : ¬ (Str.ofString "sail" = Str.ofString "post") := by decide
  have n2 : ¬ (Str.ofString "house" = Str.ofString "post") := by decide
  have n3 : ¬ (Str.ofString "sail" = Str.ofString "cloth") := by decide
  have n4 : ¬ (Str.ofString "house" = Str.ofString "cloth") := by decide
  simp only [List.map_cons, List.map_nil] at e1
  have si := init_eq G [.int x, .int y, .int (x + 30), .int (y + 30), .int h]
  rcases hw with rfl | rfl
  · have est : φ_stretched G [.str "house", .lst [.int x, .int y, .int (x + 30), .int (y + 30), .int h]] = .ret (.sh (thD G.c_House [x, y, x + 30, y + 30, h])) := by
      unfold φ_stretched s_stretched
      simp (disch := omega) [e1, e2, init_eq, thD, cutD_nl, k1, k2, ns1, ns2, ns3]
    refine ⟨thD G.c_House [x, y, x + 30, y + 30, h], ?_⟩
    unfold φ_thing_of s_thing_of
    simp (disch := omega) [est, in_s, in_h]
  · have est : φ_stretched G [.str "sail", .lst [.int x, .int y, .int (x + 30), .int (y + 30), .int h]] = .ret (.sh (thD G.c_Sail [x, y, x + 30, y + 30, h])) := by
      unfold φ_stretched s_stretched
      simp (disch := omega) [e1, e2, init_eq, thD, cutD_nl, k1, k2, ns1, ns2, ns3]
    refine ⟨thD G.c_Sail [x, y, x + 30, y + 30, h], ?_⟩
    unfold φ_thing_of s_thing_of
    simp (disch := omega) [est, in_s, in_h]
end My

namespace My
open PySem PySem.Spec L2 DL HU
/-! where a pointer's shadow ends -/
theorem loop_appS {α : Type} {g : D → DEnv → Option DEnv} {t : DEnv → Fl} {is : List Nat} (φ : α → D) (F : α → List Val) (st : List Val → DEnv) (B : Nat) : ∀ (l : List α) (acc : List Val),
    (∀ a ∈ l, ∀ acc : List Val, acc.length + (F a).length ≤ B → (lpK (g (φ a) (st acc)) fun ρ1 => flp (t ρ1) (fun ρ2 => .nx (forget is ρ2)) fun _ => .bad) = .nx (st (acc ++ F a))) → acc.length + (l.flatMap F).length ≤ B →
    loop g t is (l.map φ) (st acc) = .nx (st (acc ++ l.flatMap F))
  | [], acc, _, _ => by simp
  | a :: l, acc, h, hb => by
    rw [List.flatMap_cons, List.length_append] at hb
    rw [List.map_cons, loop_turn (h a List.mem_cons_self acc (by omega)), loop_appS φ F st B l (acc ++ F a) (fun b hb => h b (List.mem_cons_of_mem _ hb)) (by rw [List.length_append]; omega), List.flatMap_cons, List.append_assoc]
theorem flat_congr {α β : Type} {f g : α → List β} : ∀ l : List α, (∀ a ∈ l, f a = g a) → l.flatMap f = l.flatMap g
  | [], _ => rfl
  | a :: l, h => by rw [List.flatMap_cons, List.flatMap_cons, h a List.mem_cons_self, flat_congr l fun b hb => h b (List.mem_cons_of_mem _ hb)]
theorem zipL_map {α : Type} (f g : α → D) : ∀ l : List α, zipL (l.map f) (l.map g) = l.map fun n => D.tup [f n, g n]
  | [] => rfl
  | a :: l => by rw [List.map_cons, List.map_cons, List.map_cons, zipL, zipL_map f g l]
theorem map_rangeD {α β : Type} (l : List α) (a0 : α) (f : α → β) : l.map f = (List.range l.length).map fun k => f (l.getD k a0) := by
  refine List.ext_getElem (by simp) fun i h1 h2 => ?_
  have hi : i < l.length := by simpa using h1
  rw [List.getElem_map, List.getElem_map, List.getElem_range, List.getD_eq_getElem?_getD, List.getElem?_eq_getElem hi]
  rfl
theorem enum_map {α : Type} (l : List α) (a0 : α) (f : α → D) : enumL (l.map f) = (List.range l.length).map fun k : Nat => D.tup [.int (k : Int), f (l.getD k a0)] := by
  unfold enumL rangeL
  rw [List.length_map, map_rangeD l a0 f, zipL_map]
  refine List.map_congr_left fun k _ => ?_
  rw [Int.zero_add]
def endP (p r : P3) : P2 := (((castP r p).1 + r.2.2) / (2 * r.2.2), ((castP r p).2 + r.2.2) / (2 * r.2.2))
theorem end_of_eq (G : Gs) (p r : P3) (hr : RayOk r) : φ_end_of G [p3D p, p3D r] = .ret (.sh (pD (endP p r))) := by
  have e := cast_eq G p r hr
  obtain ⟨u, v⟩ : ∃ u : P2, castP r p = u := ⟨_, rfl⟩
  unfold endP
  rw [v] at e ⊢
  obtain ⟨a, b, c⟩ := r
  obtain ⟨_, _, c1, c2⟩ := hr
  obtain ⟨u1, u2⟩ := u
  obtain ⟨x, y, z⟩ := p
  simp only at c1 c2
  have d1 : fdivD (.int (u1 + c)) (.int (2 * c)) = some (.sh (.int ((u1 + c) / (2 * c)))) := fdivD_pos (by omega) (by omega)
  have d2 : fdivD (.int (u2 + c)) (.int (2 * c)) = some (.sh (.int ((u2 + c) / (2 * c)))) := fdivD_pos (by omega) (by omega)
  rw [p3D_mk, p3D_mk] at e ⊢
  have ep : pD (u1, u2) = .tup [.int u1, .int u2] := rfl
  rw [ep] at e
  unfold φ_end_of s_end_of
  simp (disch := omega) [e, d1, d2]
  rfl
abbrev En := Nat × Nat × P2
def enD (e : En) : D := .tup [.int (e.1 : Int), .int (e.2.1 : Int), pD e.2.2]
def tnE (p : P3) (k j : Nat) (t : Tn) : List En := match t with
  | none => []
  | some r => [(k, j, endP p r)]
def dayE (p : P3) (k : Nat) (T : List Tn) : List En := (List.range T.length).flatMap fun j => tnE p k j (T.getD j none)
def endsL (p : P3) (ds : List Dy) : List En := (List.range ds.length).flatMap fun k => dayE p k (ds.getD k dy0).turns
def enV (E : List En) : List Val := E.map fun e => .sh (enD e)
theorem enV_flat (f : Nat → List En) (l : List Nat) : enV (l.flatMap f) = l.flatMap fun a => enV (f a) := by
  unfold enV
  rw [List.map_flatMap]
theorem tnE_len (p : P3) (k j : Nat) (t : Tn) : (tnE p k j t).length ≤ 1 := by
  cases t <;> simp [tnE]
theorem flat_leN {α : Type} (f : Nat → List α) (B : Nat) : ∀ l : List Nat, (∀ a ∈ l, (f a).length ≤ B) → (l.flatMap f).length ≤ l.length * B
  | [], _ => by simp
  | a :: l, h => by
    have h1 := h a List.mem_cons_self
    have h2 := flat_leN f B l fun b hb => h b (List.mem_cons_of_mem _ hb)
    rw [List.flatMap_cons, List.length_append, List.length_cons, Nat.add_mul, Nat.one_mul]
    omega
theorem dayE_len (p : P3) (k : Nat) (T : List Tn) : (dayE p k T).length ≤ T.length := by
  have := flat_leN (fun j => tnE p k j (T.getD j none)) 1 (List.range T.length) fun j _ => tnE_len _ _ _ _
  rw [List.length_range, Nat.mul_one] at this
  exact this
theorem endsL_len (p : P3) {ds : List Dy} {B : Nat} (h : ∀ d ∈ ds, d.turns.length ≤ B) : (endsL p ds).length ≤ ds.length * B := by
  have := flat_leN (fun k => dayE p k (ds.getD k dy0).turns) B (List.range ds.length) fun k hk => by
    have hk := List.mem_range.mp hk
    refine Nat.le_trans (dayE_len _ _ _) ?_
    rw [List.getD_eq_getElem?_getD, List.getElem?_eq_getElem hk]
    exact h _ (List.getElem_mem hk)
  rw [List.length_range] at this
  exact this
theorem ends_of_eq (G : Gs) (w h : Nat) (ts : List D) {ds : List Dy} (hd : ∀ d ∈ ds, DyOk d) (hdl : ds.length ≤ 12) (p : P3) : φ_ends_of G [yardD G w h ts (ds.map dyD), p3D p] = .ret (.sh (.lst ((endsL p ds).map enD))) := by
  have f1 := f_days G w h ts (ds.map dyD)
  generalize yardD G w h ts (ds.map dyD) = Y at *
  have en : enumL (ds.map dyD) = (List.range ds.length).map fun k : Nat => D.tup [.int (k : Int), dyD (ds.getD k dy0)] := enum_map ds dy0 dyD
  have el := endsL_len p (ds := ds) (B := 24) fun d hd' => (hd d hd').2.1
  have lp := loop_appS (g := kSeq 2 (kCons (kName 3) (kCons (kName 4) kNil))) (t := b_ends_of_2 G) (is := [5, 6, 3, 4]) (fun k : Nat => D.tup [.int (k : Int), dyD (ds.getD k dy0)]) (fun k => enV (dayE p k (ds.getD k dy0).turns)) (fun acc => [some (.sh Y), some (.sh (p3D p)), some (.lst acc), none, none, none, none]) 1000 (List.range ds.length) [] (fun k hk acc hB => by
    have hk := List.mem_range.mp hk
    have hdk : DyOk (ds.getD k dy0) := by
      rw [List.getD_eq_getElem?_getD, List.getElem?_eq_getElem hk]
      exact hd _ (List.getElem_mem hk)
    obtain ⟨_, h24, htn⟩ := hdk
    have ed : dyD (ds.getD k dy0) = .tup [.str (ds.getD k dy0).name, .int (ds.getD k dy0).many, .lst ((ds.getD k dy0).turns.map tnD)] := rfl
    rw [ed]
    generalize (ds.getD k dy0).name = nm at *
    generalize (ds.getD k dy0).many = mm at *
    generalize (ds.getD k dy0).turns = T at *
    have en2 : enumL (T.map tnD) = (List.range T.length).map fun j : Nat => D.tup [.int (j : Int), tnD (T.getD j none)] := enum_map T none tnD
    have lt := loop_appS (g := kSeq 2 (kCons (kName 5) (kCons (kName 6) kNil))) (t := b_ends_of_1 G) (is := [5, 6]) (fun j : Nat => D.tup [.int (j : Int), tnD (T.getD j none)]) (fun j => enV (tnE p k j (T.getD j none))) (fun acc => [some (.sh Y), some (.sh (p3D p)), some (.lst acc), some (.sh (.int (k : Int))), some (.sh (.tup [.str nm, .int mm, .lst (T.map tnD)])), none, none]) 1000 (List.range T.length) acc (fun j hj acc hB => by
      have hj := List.mem_range.mp hj
      have ht : TnOk (T.getD j none) := by
        rw [List.getD_eq_getElem?_getD, List.getElem?_eq_getElem hj]
        exact htn _ (List.getElem_mem hj)
      generalize T.getD j none = t at *
      generalize T.map tnD = TD at *
      cases t with
      | none => simp [b_ends_of_1, tnD, tnE, enV]
      | some r =>
        have e := end_of_eq G p r (ht r rfl)
        have eD : tnD (some r) = p3D r := rfl
        have e3 : enV (tnE p k j (some r)) = [.sh (.tup [.int (k : Int), .int (j : Int), pD (endP p r)])] := rfl
        rw [eD, e3]
        rw [e3, List.length_singleton] at hB
        have hB7 : acc.length < 10000000 := by omega
        have nn : isN (p3D r) = false := rfl
        generalize p3D r = rd at *
        generalize p3D p = pd at *
        generalize pD (endP p r) = ep at *
        simp (disch := omega) [b_ends_of_1, e, nn, hB7]) (by rw [← enV_flat]; exact hB)
    rw [← enV_flat] at lt
    have lt : loop (kSeq 2 (kCons (kName 5) (kCons (kName 6) kNil))) (b_ends_of_1 G) [5, 6] ((List.range T.length).map fun j : Nat => D.tup [.int (j : Int), tnD (T.getD j none)]) _ = Fl.nx [some (.sh Y), some (.sh (p3D p)), some (.lst (acc ++ enV (dayE p k T))), _, _, none, none] := lt
    rw [← en2] at lt
    have hel : (enumL (T.map tnD)).length ≤ 10000000 := by rw [en2]; simp; omega
    have ed2 : enumD [.lst (T.map tnD)] = some (enumL (T.map tnD)) := rfl
    generalize enV (dayE p k T) = EV at *
    generalize enumL (T.map tnD) = EN at *
    generalize T.map tnD = TD at *
    generalize p3D p = pd at *
    simp (disch := omega) [b_ends_of_2, sEnumerate, ed2, hel, lt]) (by
      rw [← enV_flat]
      have e : (List.range ds.length).flatMap (fun k => dayE p k (ds.getD k dy0).turns) = endsL p ds := rfl
      rw [e]
      unfold enV
      rw [List.length_map, List.length_nil]; omega)
  rw [← enV_flat, List.nil_append, ← en] at lp
  have lp : loop (kSeq 2 (kCons (kName 3) (kCons (kName 4) kNil))) (b_ends_of_2 G) [5, 6, 3, 4] (enumL (ds.map dyD)) [some (.sh Y), some (.sh (p3D p)), some (.lst []), none, none, none, none] = Fl.nx [some (.sh Y), some (.sh (p3D p)), some (.lst (enV (endsL p ds))), none, none, none, none] := lp
  have hel : (enumL (ds.map dyD)).length ≤ 10000000 := by rw [en]; simp; omega
  have ed2 : enumD [.lst (ds.map dyD)] = some (enumL (ds.map dyD)) := rfl
  have fz : fzs (enV (endsL p ds)) = (endsL p ds).map enD := by unfold enV; rw [fzs_map, List.map_map]; rfl
  unfold φ_ends_of s_ends_of
  generalize enV (endsL p ds) = EV at *
  generalize enumL (ds.map dyD) = EN at *
  generalize ds.map dyD = DD at *
  generalize p3D p = pd at *
  simp (disch := omega) [f1, sEnumerate, ed2, hel, lp, fz]
/-! ### the first fault -/
def inYd (w h : Nat) (s : P2) : Bool := decide ((0 ≤ s.1 ∧ s.1 < w) ∧ 0 ≤ s.2 ∧ s.2 < h)
def offO (w h : Nat) (E : List En) : Option En := E.find? fun e => !inYd w h e.2.2
def offD : Option En → D
  | none => .non
  | some e => .tup [.str (Str.ofString "off"), .int (e.1 : Int), .int (e.2.1 : Int)]
theorem first_off_eq (G : Gs) (w h : Nat) (ts days : List D) (E : List En) (hl : E.length ≤ 1000) : φ_first_off G [yardD G w h ts days, .lst (E.map enD)] = .ret (.sh (offD (offO w h E))) := by
  have f1 := f_width G w h ts days
  have f2 := f_height G w h ts days
  generalize yardD G w h ts days = Y at *
  have lp : ∀ (W : D) (E : List En), ∃ ρ', loop (kSeq 3 (kCons (kName 2) (kCons (kName 3) (kCons (kName 4) kNil)))) (b_first_off_1 G) [2, 3, 4] (E.map enD) [some (.sh Y), some (.sh W), none, none, none] = match offO w h E with
      | none => .nx [some (.sh Y), some (.sh W), none, none, none]
      | some e => .rt (.sh (.tup [.str (Str.ofString "off"), .int (e.1 : Int), .int (e.2.1 : Int)])) ρ' := by
    intro W E
    induction E with
    | nil => exact ⟨[], rfl⟩
    | cons e E ih =>
      obtain ⟨k, j, x, y⟩ := e
      obtain ⟨ρ', ih⟩ := ih
      have eD : enD (k, j, x, y) = .tup [.int (k : Int), .int (j : Int), .tup [.int x, .int y]] := rfl
      by_cases hin : (0 ≤ x ∧ x < w) ∧ 0 ≤ y ∧ y < h
      · refine ⟨ρ', ?_⟩
        have eo : offO w h ((k, j, x, y) :: E) = offO w h E := by
          unfold offO
          rw [List.find?_cons]
          have : inYd w h (k, j, x, y).2.2 = true := decide_eq_true hin
          rw [this]; rfl
        rw [eo, List.map_cons, eD, ← ih]
        obtain ⟨⟨a1, a2⟩, a3, a4⟩ := hin
        refine loop_one ?_
        simp (disch := omega) [b_first_off_1, f1, f2, a1, a2, a3, a4]
      · refine ⟨[some (.sh Y), some (.sh W), some (.sh (.int (k : Int))), some (.sh (.int (j : Int))), some (.sh (.tup [.int x, .int y]))], ?_⟩
        have eo : offO w h ((k, j, x, y) :: E) = some (k, j, x, y) := by
          unfold offO
          rw [List.find?_cons]
          have : inYd w h (k, j, x, y).2.2 = false := decide_eq_false hin
          rw [this]; rfl
        rw [eo, List.map_cons, eD, loop_cons]
        by_cases a1 : 0 ≤ x
        · by_cases a2 : x < w
          · by_cases a3 : 0 ≤ y
            · have a4 : ¬ y < h := fun a4 => hin ⟨⟨a1, a2⟩, a3, a4⟩
              simp (disch := omega) [b_first_off_1, f1, f2, a1, a2, a3, a4]
            · simp (disch := omega) [b_first_off_1, f1, f2, a1, a2, a3]
          · simp (disch := omega) [b_first_off_1, f1, f2, a1, a2]
        · simp (disch := omega) [b_first_off_1, f1, f2, a1]
  obtain ⟨ρ', lp⟩ := lp (.lst (E.map enD)) E
  have hll : (E.map enD).length ≤ 10000000 := by rw [List.length_map]; omega
  unfold φ_first_off s_first_off
  generalize offO w h E = o at *
  generalize E.map enD = EL at *
  cases o with
  | none => simp (disch := omega) [lp, hll, offD]
  | some e => simp (disch := omega) [lp, hll, offD]
/-! a dial -/
abbrev Kn := List (P2 × (Nat × Nat))
def vD (v : Nat × Nat) : D := .tup [.int (v.1 : Int), .int (v.2 : Int)]
def kK (s : P2) : List Key := [.inl s.1, .inl s.2]
def dQ (kn : Kn) : Val := .dic ⟨none, false, true, kn.map fun e => kK e.1⟩ (kn.map fun e => vD e.2)
def lookQ : Kn → P2 → Option (Nat × Nat)
  | [], _ => none
  | (s', v) :: kn, s => if s' = s then some v else lookQ kn s
theorem kK_inj {a b : P2} : kK a = kK b ↔ a = b := by
  constructor
  · intro h
    unfold kK at h
    simp only [List.cons.injEq, Sum.inl.injEq, and_true] at h
    exact Prod.ext h.1 h.2
  · intro h; rw [h]
theorem lookD_Q (s : P2) : ∀ kn : Kn, lookD (kn.map fun e => kK e.1) (kn.map fun e => vD e.2) (kK s) = (lookQ kn s).map vD
  | [] => rfl
  | (s', v) :: kn => by
    rw [List.map_cons, List.map_cons, lookD, lookQ]
    by_cases h : s' = s
    · rw [if_pos (kK_inj.mpr h), if_pos h]; rfl
    · rw [if_neg (fun z => h (kK_inj.mp z)), if_neg h, lookD_Q s kn]
theorem putD_Q (s : P2) (v : Nat × Nat) : ∀ kn : Kn, lookQ kn s = none → putD (kn.map fun e => kK e.1) (kn.map fun e => vD e.2) (kK s) (vD v) = ((kn ++ [(s, v)]).map (fun e => kK e.1), (kn ++ [(s, v)]).map fun e => vD e.2)
  | [], _ => rfl
  | (s', v') :: kn, h => by
    rw [lookQ] at h
    by_cases e : s' = s
    · rw [if_pos e] at h; cases h
    · rw [if_neg e] at h
      rw [List.map_cons, List.map_cons, putD, if_neg (fun z => e (kK_inj.mp z)), putD_Q s v kn h]; rfl
theorem in_Q (n : Bool) (kn : Kn) (x y : Int) : dicIn n (some (dQ kn)) (.tup [.int x, .int y]) = some (.sh (.bl (n != (lookQ kn (x, y)).isSome))) := by
  have e : dicIn n (some (dQ kn)) (.tup [.int x, .int y]) = some (.sh (.bl (n != (lookD (kn.map fun e => kK e.1) (kn.map fun e => vD e.2) (kK (x, y))).isSome))) := rfl
  rw [e, lookD_Q]
  cases lookQ kn (x, y) <;> rfl
theorem get_Q (kn : Kn) (x y : Int) : dicGet (some (dQ kn)) (.tup [.int x, .int y]) = (lookQ kn (x, y)).map fun v => .sh (vD v) := by
  have e : dicGet (some (dQ kn)) (.tup [.int x, .int y]) = (lookD (kn.map fun e => kK e.1) (kn.map fun e => vD e.2) (kK (x, y))).map .sh := rfl
  rw [e, lookD_Q]
  cases lookQ kn (x, y) <;> rfl
theorem put_Q (kn : Kn) (x y : Int) (v : Nat × Nat) (i : Nat) (ρ : DEnv) (h : lookQ kn (x, y) = none) (hl : kn.length < 1000) : dicPut (some (dQ kn)) i (.tup [.int x, .int y]) (.tup [.int (v.1 : Int), .int (v.2 : Int)]) ρ = .nx (ρ.set i (some (dQ (kn ++ [((x, y), v)])))) := by
  have e : dicPut (some (dQ kn)) i (.tup [.int x, .int y]) (vD v) ρ = if false = false ∧ (kn.map fun e => vD e.2).length < 10000000 then .nx (ρ.set i (some (.dic ⟨none, false, true, (putD (kn.map fun e => kK e.1) (kn.map fun e => vD e.2) (kK (x, y)) (vD v)).1⟩ (putD (kn.map fun e => kK e.1) (kn.map fun e => vD e.2) (kK (x, y)) (vD v)).2))) else .bad := rfl
  have e2 : (.tup [.int (v.1 : Int), .int (v.2 : Int)] : D) = vD v := rfl
  rw [e2, e, if_pos ⟨rfl, by rw [List.length_map]; omega⟩, putD_Q _ _ _ h]; rfl
def alikeO : Kn → List En → Option ((Nat × Nat) × (Nat × Nat))
  | _, [] => none
  | kn, (k, j, s) :: E => match lookQ kn s with
    | some v => if v.2 = j then alikeO kn E else some (v, (k, j))
    | none => alikeO (kn ++ [(s, (k, j))]) E
def alD : Option ((Nat × Nat) × (Nat × Nat)) → D
  | none => .non
  | some p => .tup [.str (Str.ofString "alike"), vD p.1, vD p.2]
theorem alike_go (G : Gs) (W : D) : ∀ (E : List En) (kn : Kn), kn.length + E.length ≤ 1000 → ∃ ρ' : Kn × DEnv, loop (kSeq 3 (kCons (kName 2) (kCons (kName 3) (kCons (kName 4) kNil)))) (b_first_alike_1 G) [2, 3, 4] (E.map enD) [some (.sh W), some (dQ kn), none, none, none] = match alikeO kn E with
    | none => .nx [some (.sh W), some (dQ ρ'.1), none, none, none]
    | some p => .rt (.sh (alD (some p))) ρ'.2 := by
  intro E
  induction E with
  | nil => exact fun kn _ => ⟨(kn, []), rfl⟩
  | cons e E ih =>
    intro kn hl
    obtain ⟨k, j, x, y⟩ := e
    have eD : enD (k, j, x, y) = .tup [.int (k : Int), .int (j : Int), .tup [.int x, .int y]] := rfl
    rw [List.length_cons] at hl
    have q1 := in_Q false kn x y
    have q2 := in_Q true kn x y
    have q3 := get_Q kn x y
    cases hq : lookQ kn (x, y) with
    | none =>
      rw [hq] at q1 q2 q3
      obtain ⟨ρ', ih⟩ := ih (kn ++ [((x, y), (k, j))]) (by simp; omega)
      refine ⟨ρ', ?_⟩
      have ea : alikeO kn ((k, j, x, y) :: E) = alikeO (kn ++ [((x, y), (k, j))]) E := by
        show (match lookQ kn (x, y) with | some v => _ | none => _) = _
        rw [hq]
      rw [ea, List.map_cons, eD, ← ih]
      have q4 := fun i ρ => put_Q kn x y (k, j) i ρ hq (by omega)
      simp only at q4
      generalize dQ kn = d0 at *
      generalize dQ (kn ++ [((x, y), (k, j))]) = d1 at *
      refine loop_one ?_
      simp (disch := omega) [b_first_alike_1, q1, q2, q3, q4]
    | some v =>
      rw [hq] at q1 q2 q3
      have q3 : dicGet (some (dQ kn)) (.tup [.int x, .int y]) = some (.sh (.tup [.int (v.1 : Int), .int (v.2 : Int)])) := q3
      by_cases hv : v.2 = j
      · obtain ⟨ρ', ih⟩ := ih kn (by omega)
        refine ⟨ρ', ?_⟩
        have ea : alikeO kn ((k, j, x, y) :: E) = alikeO kn E := by
          show (match lookQ kn (x, y) with | some v => (if v.2 = j then alikeO kn E else _) | none => _) = _
          rw [hq]
          exact if_pos hv
        rw [ea, List.map_cons, eD, ← ih]
        have hv' : (v.2 : Int) = (j : Int) := by omega
        generalize dQ kn = d0 at *
        refine loop_one ?_
        simp (disch := omega) [b_first_alike_1, q1, q2, q3, hv']
      · refine ⟨(kn, [some (.sh W), some (dQ kn), some (.sh (.int (k : Int))), some (.sh (.int (j : Int))), some (.sh (.tup [.int x, .int y]))]), ?_⟩
        have ea : alikeO kn ((k, j, x, y) :: E) = some (v, (k, j)) := by
          show (match lookQ kn (x, y) with | some v => (if v.2 = j then _ else some (v, (k, j))) | none => _) = _
          rw [hq]
          exact if_neg hv
        rw [ea, List.map_cons, eD, loop_cons]
        have hv' : ¬ (v.2 : Int) = (j : Int) := by omega
        have ad : alD (some (v, (k, j))) = .tup [.str (Str.ofString "alike"), .tup [.int (v.1 : Int), .int (v.2 : Int)], .tup [.int (k : Int), .int (j : Int)]] := rfl
        simp only [ad]
        generalize dQ kn = d0 at *
        simp (disch := omega) [b_first_alike_1, q1, q2, q3, hv']
theorem first_alike_eq (G : Gs) (E : List En) (hl : E.length ≤ 1000) : φ_first_alike G [.lst (E.map enD)] = .ret (.sh (alD (alikeO [] E))) := by
  obtain ⟨ρ', lp⟩ := alike_go G (.lst (E.map enD)) E [] (by simpa using hl)
  have hll : (E.map enD).length ≤ 10000000 := by rw [List.length_map]; omega
  have e0 : (.dic (.new true) [] : Val) = dQ [] := rfl
  unfold φ_first_alike s_first_alike
  generalize alikeO [] E = o at *
  generalize E.map enD = EL at *
  generalize hd0 : dQ [] = d0 at *
  cases o with
  | none => simp (disch := omega) [e0, lp, hll, alD]
  | some e => simp (disch := omega) [e0, lp, hll, alD]
/-! the dial, and what is told of it -/
def numE (w : Nat) (e : En) : Int × Int := (e.2.2.2 * (w : Int) + e.2.2.1, (e.2.1 : Int))
inductive Dl where
  | off (e : En)
  | alike (a b : Nat × Nat)
  | marks (M : List (Int × Int))
def dialO (w h : Nat) (E : List En) : Dl := match offO w h E with
  | some e => .off e
  | none => match alikeO [] E with
    | some p => .alike p.1 p.2
    | none => .marks (ssP (E.map (numE w)))
def dlD : Dl → D
  | .off e => offD (some e)
  | .alike a b => alD (some (a, b))
  | .marks M => .tup [.str (Str.ofString "marks"), .lst (M.map pT)]
def dlV : Dl → Val
  | .off e => .sh (offD (some e))
  | .alike a b => .sh (alD (some (a, b)))
  | .marks M => .tup [.sh (.str (Str.ofString "marks")), .lst (M.map fun p => .sh (pT p))]
theorem off_none {w h : Nat} {E : List En} (h0 : offO w h E = none) : ∀ e ∈ E, inYd w h e.2.2 = true := fun e he => by
  have := List.find?_eq_none.mp h0 e he
  simpa using this
theorem numE_ok {w h : Nat} (hb : w * h ≤ 400) {e : En} (hi : inYd w h e.2.2 = true) (hj : e.2.1 < 1000) : pok (numE w e) = true := by
  obtain ⟨k, j, x, y⟩ := e
  have hi := of_decide_eq_true hi
  obtain ⟨⟨a1, a2⟩, a3, a4⟩ := hi
  simp only at a1 a2 a3 a4 hj
  rw [pok_iff]
  obtain ⟨x', rfl⟩ := Int.eq_ofNat_of_zero_le a1
  obtain ⟨y', rfl⟩ := Int.eq_ofNat_of_zero_le a3
  have b2 : x' < w := by omega
  have b4 : y' < h := by omega
  have h1 : y' * w + x' < w * h := by
    calc y' * w + x' < y' * w + w := by omega
      _ = (y' + 1) * w := by rw [Nat.add_mul, Nat.one_mul]
      _ ≤ h * w := Nat.mul_le_mul_right _ (by omega)
      _ = w * h := Nat.mul_comm _ _
  have e1 : (numE w (k, j, (x' : Int), (y' : Int))).1 = ((y' * w + x' : Nat) : Int) := by
    show ((y' : Int) * (w : Int) + (x' : Int)) = _
    rw [Int.natCast_add, Int.natCast_mul]
  rw [e1]
  show 0 ≤ ((y' * w + x' : Nat) : Int) ∧ ((y' * w + x' : Nat) : Int) < 1000000 ∧ 0 ≤ (j : Int) ∧ (j : Int) < 1000000
  omega
theorem ends_mem {p : P3} {ds : List Dy} {e : En} (he : e ∈ endsL p ds) : e.1 < ds.length ∧ e.2.1 < (ds.getD e.1 dy0).turns.length := by
  unfold endsL at he
  obtain ⟨k, hk, he⟩ := List.mem_flatMap.mp he
  unfold dayE at he
  obtain ⟨j, hj, he⟩ := List.mem_flatMap.mp he
  have hk := List.mem_range.mp hk
  have hj := List.mem_range.mp hj
  generalize hT : (ds.getD k dy0).turns = T at *
  cases q : T.getD j none with
  | none => rw [q] at he; cases he
  | some r =>
    rw [q] at he
    have : e = (k, j, endP p r) := by simpa [tnE] using he
    rw [this]
    exact ⟨hk, by simp only [hT]; exact hj⟩
theorem ends_turn {p : P3} {ds : List Dy} (hd : ∀ d ∈ ds, DyOk d) {e : En} (he : e ∈ endsL p ds) : e.1 < ds.length ∧ e.2.1 < 24 := by
  obtain ⟨h1, h2⟩ := ends_mem he
  refine ⟨h1, ?_⟩
  have : ds.getD e.1 dy0 ∈ ds := by
    rw [List.getD_eq_getElem?_getD, List.getElem?_eq_getElem h1]
    exact List.getElem_mem h1
  have := (hd _ this).2.1
  omega
theorem dial_eq (G : Gs) {w h : Nat} (hw : 1 ≤ w) (hh : 1 ≤ h) (hb : w * h ≤ 400) (ts : List D) {ds : List Dy} (hd : ∀ d ∈ ds, DyOk d) (hdl : ds.length ≤ 12) (p : P3) (hE : (endsL p ds).length ≤ 300) : φ_dial G [yardD G w h ts (ds.map dyD), p3D p] = .ret (.sh (dlD (dialO w h (endsL p ds)))) := by
  have e1 := ends_of_eq G w h ts hd hdl p
  have e2 := first_off_eq G w h ts (ds.map dyD) (endsL p ds) (by omega)
  have e3 := first_alike_eq G (endsL p ds) (by omega)
  have fw := f_width G w h ts (ds.map dyD)
  have htr := fun e he => (ends_turn hd (p := p) (e := e) he).2
  have w400 : w ≤ 400 := Nat.le_trans (Nat.le_mul_of_pos_right w hh) hb
  generalize yardD G w h ts (ds.map dyD) = Y at *
  generalize endsL p ds = E at *
  generalize p3D p = pd at *
  have hll : (E.map enD).length ≤ 10000000 := by rw [List.length_map]; omega
  unfold dialO
  cases ho : offO w h E with
  | some e =>
    rw [ho] at e2
    have od : offD (some e) = .tup [.str (Str.ofString "off"), .int (e.1 : Int), .int (e.2.1 : Int)] := rfl
    rw [od] at e2
    show _ = CR.ret (.sh (offD (some e)))
    rw [od]
    generalize E.map enD = EL at *
    unfold φ_dial s_dial
    simp (disch := omega) [e1, e2]
  | none =>
    rw [ho] at e2
    have hin := off_none ho
    cases ha : alikeO [] E with
    | some q =>
      rw [ha] at e3
      have ad : alD (some q) = .tup [.str (Str.ofString "alike"), vD q.1, vD q.2] := rfl
      rw [ad] at e3
      show _ = CR.ret (.sh (alD (some q)))
      rw [ad]
      generalize vD q.1 = v1 at *
      generalize vD q.2 = v2 at *
      generalize E.map enD = EL at *
      unfold φ_dial s_dial
      simp (disch := omega) [e1, e2, e3, offD]
    | none =>
      rw [ha] at e3
      show _ = CR.ret (.sh (.tup [.str (Str.ofString "marks"), .lst ((ssP (E.map (numE w))).map pT)]))
      have hp : (E.map (numE w)).all pok = true := by
        rw [List.all_map, List.all_eq_true]
        intro e he
        exact numE_ok hb (hin e he) (by have := htr e he; omega)
      have ss := ssWD_map (ps := E.map (numE w)) (by rw [List.length_map]; exact hE) hp
      have ec := fun (o1 o2 : D) => comp_mapA (g := kSeq 3 (kCons (kName 4) (kCons (kName 5) (kCons (kName 6) kNil)))) (f := e_dial_1 G) (is := [4, 5, 6]) (ρ := [some (.sh Y), some (.sh o1), some (.sh o2), some (.sh .non), none, none, none]) enD (fun e => pT (numE w e)) E [] (fun e he => by
        have hi := of_decide_eq_true (hin e he)
        obtain ⟨k, j, x, y⟩ := e
        obtain ⟨⟨a1, a2⟩, a3, a4⟩ := hi
        have eD : enD (k, j, x, y) = .tup [.int (k : Int), .int (j : Int), .tup [.int x, .int y]] := rfl
        have eN : pT (numE w (k, j, x, y)) = .tup [.int (y * (w : Int) + x), .int (j : Int)] := rfl
        have mu : mulD (.int y) (.int (w : Int)) = some (.sh (.int (y * (w : Int)))) := mulD_r (by omega) (by omega)
        rw [eD, eN]
        simp (disch := omega) [e_dial_1, fw, mu])
      simp only [List.nil_append] at ec
      have em : (E.map fun e => pT (numE w e)) = (E.map (numE w)).map pT := by rw [List.map_map]; rfl
      rw [em] at ec
      have emv : ((ssP (E.map (numE w))).map fun p => Val.sh (pT p)) = ((ssP (E.map (numE w))).map pT).map .sh := by rw [List.map_map]; rfl
      rw [emv] at ss
      generalize (ssP (E.map (numE w))).map pT = SL at *
      generalize (E.map (numE w)).map pT = NL at *
      generalize E.map enD = EL at *
      unfold φ_dial s_dial
      simp (disch := omega) [e1, e2, e3, offD, alD, hll, ec, ss]
end My

namespace My
open PySem PySem.Spec L2 DL HU
/-! what the dial laws draw -/
theorem cell_eq (G : Gs) (ns : List Int) (k : Int) (hk : 0 ≤ k) : φ_law_cell G [scrI ns, .int k] = .ret (.sh (.int (cellI ns k))) := by
  unfold φ_law_cell s_law_cell
  by_cases h : k < (ns.length : Int)
  · simp (disch := omega) [h, ixD_scr hk h]
  · simp (disch := omega) [h, cellI_out h hk]
theorem churn_eq (G : Gs) (n k : Int) (h0 : 0 ≤ k) (h1 : k ≤ 100) : ∃ z : Int, 0 ≤ z ∧ φ_law_churn G [.int n, .int k] = .ret (.sh (.int z)) := by
  unfold φ_law_churn s_law_churn
  have hx : (0 : Int) ≤ n % 1073741789 ∧ n % 1073741789 < 1073741789 := by omega
  simp (disch := omega)
  exact Int.emod_nonneg _ (by decide)
def rowSt (c m b : Int) (L : List Int) : DEnv := [some (.sh (.int c)), some (.sh (.int m)), some (.sh (.int b)), some (.lst (L.map fun x => .sh (.int x))), none]
theorem row_turn (G : Gs) (c m b : Int) (L : List Int) (k : Nat) (hk : k ≤ 100) (hl : L.length ≤ 100000) : ∃ c' x, 0 ≤ x ∧ (lpK (kName 4 (.int (k : Int)) (rowSt c m b L)) fun ρ1 => flp (b_law_row_1 G ρ1) (fun ρ2 => .nx (forget [4] ρ2)) fun _ => .bad) = .nx (rowSt c' m b (L ++ [x])) := by
  have hl7 : L.length < 10000000 := by omega
  by_cases hb : b = 0
  · refine ⟨c / 1000000, c % 1000000, by omega, ?_⟩
    simp (disch := omega) [rowSt, b_law_row_1, hl7, hb]
  · obtain ⟨z1, h1, e1⟩ := churn_eq G c k (by omega) (by omega)
    obtain ⟨z2, h2, e2⟩ := churn_eq G (z1 + c) k (by omega) (by omega)
    refine ⟨c, z2, h2, ?_⟩
    simp (disch := omega) [rowSt, b_law_row_1, hl7, hb, e1, e2]
theorem row_eq (G : Gs) (c m : Int) (h0 : 0 ≤ m) (hm : m ≤ 100) : ∃ L : List Int, L.length = m.toNat ∧ (∀ x ∈ L, 0 ≤ x) ∧ φ_law_row G [.int c, .int m] = .ret (.sh (.lst (L.map .int))) := by
  have hlen : (rangeL 0 m.toNat).length = m.toNat := by simp [rangeL]
  have go : ∀ c b : Int, ∃ c' L, (∀ x ∈ L, (0 : Int) ≤ x) ∧ L.length = m.toNat ∧ loop (kName 4) (b_law_row_1 G) [4] (rangeL 0 m.toNat) (rowSt c m b []) = .nx (rowSt c' m b L) := fun c b => by
    obtain ⟨ρ', e1, n', L, h1, h2, e2⟩ := loop_reln (g := kName 4) (s := b_law_row_1 G) (is := [4]) (fun i ρ => ∃ n1 L, L.length = i ∧ (∀ x ∈ L, (0 : Int) ≤ x) ∧ ρ = rowSt n1 m b L) (rangeL 0 m.toNat) 0 (rowSt c m b []) ⟨c, [], rfl, by simp, rfl⟩ (fun i d ρ hd hi ⟨n1, L, k2, k3, k4⟩ => by
      obtain ⟨k, hk, rfl⟩ := mem_rangeL.mp hd
      rw [show (0 : Int) + (k : Int) = (k : Int) by omega]
      subst k4
      obtain ⟨n', x, q2, q3⟩ := row_turn G n1 m b L k (by omega) (by omega)
      refine ⟨_, q3, n', L ++ [x], by simp [k2], fun y hy => ?_, rfl⟩
      rcases List.mem_append.mp hy with hy | hy
      · exact k3 y hy
      · rw [List.mem_singleton.mp hy]; exact q2)
    subst e2
    exact ⟨n', L, h2, by rw [h1, hlen]; omega, e1⟩
  obtain ⟨c', L, h1, h2, e1⟩ := go (c / 2 % (10 ^ 180)) (c % 2)
  refine ⟨L, h2, h1, ?_⟩
  unfold rowSt at e1
  rw [List.map_nil] at e1
  unfold φ_law_row s_law_row
  have p6 : mulD (.int (10 ^ 60)) (.int (10 ^ 60)) = some (.sh (.int (10 ^ 120))) := by
    rw [mulD_x (by decide) (by decide) (by decide) (by decide)]; rfl
  have p7 : mulD (.int (10 ^ 120)) (.int (10 ^ 60)) = some (.sh (.int (10 ^ 180))) := by
    rw [mulD_x (by decide) (by decide) (by decide) (by decide)]; rfl
  have p8 : modD (.int (c / 2)) (.int (10 ^ 180)) = some (.sh (.int (c / 2 % 10 ^ 180))) := modD_pos (by decide)
  have p9 : powD (.int 10) (.int 60) = some (.sh (.int (10 ^ 60))) := by rw [powD_int (by decide) (by decide) (by decide) (by decide)]; rfl
  generalize (10 : Int) ^ 180 = Z at *
  generalize (10 : Int) ^ 120 = Y at *
  generalize (10 : Int) ^ 60 = X at *
  simp (disch := omega) [-powD_int, p6, p7, p8, p9, e1]
theorem lturn_eq (G : Gs) (z t a b c : Int) (hz : 0 ≤ z) (ht : 0 ≤ t ∧ t ≤ 24) (ha : -2 ≤ a ∧ a ≤ 2) (hb : -2 ≤ b ∧ b ≤ 2) (hc : 1 ≤ c ∧ c ≤ 3) : ∃ tn : Tn, TnOk tn ∧ φ_law_turn G [.int z, .int t, .tup [.int a, .int b, .int c]] = .ret (.sh (tnD tn)) := by
  by_cases h7 : z % 7 = 6
  · refine ⟨none, fun r h => (by cases h), ?_⟩
    have en : tnD none = .non := rfl
    rw [en]
    unfold φ_law_turn s_law_turn
    simp (disch := omega) [h7]
  · by_cases h5 : z % 5 < 3
    · obtain ⟨v, hv, ev⟩ : ∃ v, (v = 0 ∨ v = 1) ∧ v = z / 35 % 9 / 8 := ⟨_, by omega, rfl⟩
      have e1 : mulD (.int (2 * c)) (.int t) = some (.sh (.int (2 * c * t))) := mulD_r (by omega) (by omega)
      have e2 : mulD (.int (2 * c)) (.int v) = some (.sh (.int (2 * c * v))) := mulD_r (by omega) (by omega)
      refine ⟨some (2 * c * t + a, b + 2 * c * v, c), fun r h => ?_, ?_⟩
      · cases h
        have h1 : 0 ≤ c * t ∧ c * t ≤ 3 * 24 := ⟨Int.mul_nonneg (by omega) ht.1, Int.mul_le_mul hc.2 ht.2 ht.1 (by omega)⟩
        have h2 : 2 * c * t = 2 * (c * t) := Int.mul_assoc _ _ _
        unfold RayOk
        simp only
        rw [h2]
        rcases hv with rfl | rfl <;> omega
      · have en : tnD (some (2 * c * t + a, b + 2 * c * v, c)) = .tup [.int (2 * c * t + a), .int (b + 2 * c * v), .int c] := rfl
        rw [en]
        unfold φ_law_turn s_law_turn
        simp (disch := omega) [h7, h5, e1, ← ev, e2]
    · obtain ⟨n, hn, en⟩ : ∃ n : Int, (n = 0 ∨ n = 1 ∨ n = 2) ∧ n = z / 35 % 3 := ⟨_, by omega, rfl⟩
      obtain ⟨y, hy, ey⟩ : ∃ y : Int, (1 ≤ y ∧ y ≤ 100000) ∧ ([.int 1, .int 1, .int 100000] : List D)[(z / 35 % 3).toNat]? = some (.int y) := by
        rw [← en]
        rcases hn with rfl | rfl | rfl
        · exact ⟨1, by omega, rfl⟩
        · exact ⟨1, by omega, rfl⟩
        · exact ⟨100000, by omega, rfl⟩
      obtain ⟨u, hu, eu⟩ : ∃ u : Int, (-4 ≤ u ∧ u ≤ 4) ∧ u = z / 105 % 9 - 4 := ⟨_, by omega, rfl⟩
      obtain ⟨v, hv, ev⟩ : ∃ v : Int, (-4 ≤ v ∧ v ≤ 4) ∧ v = z / 945 % 9 - 4 := ⟨_, by omega, rfl⟩
      obtain ⟨q, hq, eq⟩ : ∃ q : Int, (1 ≤ q ∧ q ≤ 2) ∧ q = 1 + z / 8505 % 2 := ⟨_, by omega, rfl⟩
      have m1 : mulD (.int y) (.int u) = some (.sh (.int (y * u))) := mulD_r (by omega) (by omega)
      have m2 : mulD (.int y) (.int v) = some (.sh (.int (y * v))) := mulD_r (by omega) (by omega)
      have m3 : mulD (.int y) (.int q) = some (.sh (.int (y * q))) := mulD_r (by omega) (by omega)
      refine ⟨some (y * u, y * v, y * q), fun r h => ?_, ?_⟩
      · cases h
        have b1 : (y * u).natAbs ≤ 100000 * 4 := by rw [Int.natAbs_mul]; exact Nat.mul_le_mul (by omega) (by omega)
        have b2 : (y * v).natAbs ≤ 100000 * 4 := by rw [Int.natAbs_mul]; exact Nat.mul_le_mul (by omega) (by omega)
        have b3 : (y * q).natAbs ≤ 100000 * 2 := by rw [Int.natAbs_mul]; exact Nat.mul_le_mul (by omega) (by omega)
        have b4 : 0 < y * q := Int.mul_pos (by omega) (by omega)
        unfold RayOk
        simp only
        omega
      · have er : tnD (some (y * u, y * v, y * q)) = .tup [.int (y * u), .int (y * v), .int (y * q)] := rfl
        rw [er]
        rw [eu] at m1
        rw [ev] at m2
        rw [eq] at m3
        unfold φ_law_turn s_law_turn
        simp (disch := omega) [h7, h5, ey, m1, m2, m3, ← eu, ← ev, ← eq]
theorem abc_ix : ∀ k : Nat, k < 12 → ∃ s : Str, ixD (.str "abcdefghijkl") (.int (k : Int)) = some (.sh (.str s)) ∧ s.length = 1
  | 0, _ => ⟨_, rfl, rfl⟩ | 1, _ => ⟨_, rfl, rfl⟩ | 2, _ => ⟨_, rfl, rfl⟩ | 3, _ => ⟨_, rfl, rfl⟩ | 4, _ => ⟨_, rfl, rfl⟩ | 5, _ => ⟨_, rfl, rfl⟩
  | 6, _ => ⟨_, rfl, rfl⟩ | 7, _ => ⟨_, rfl, rfl⟩ | 8, _ => ⟨_, rfl, rfl⟩ | 9, _ => ⟨_, rfl, rfl⟩ | 10, _ => ⟨_, rfl, rfl⟩ | 11, _ => ⟨_, rfl, rfl⟩
  | n + 12, h => by omega
def drSt (ns : List Int) (at_ many f long : Int) (ds : List Dy) : DEnv := [some (.sh (scrI ns)), some (.sh (.int at_)), some (.sh (.int many)), some (.sh (.int f)), some (.lst (ds.map fun d => .sh (dyD d))), some (.sh (.int long)), none, none, none, none, none, none, none, none]

theorem day_one (G : Gs) (ns : List Int) (at_ many f long : Int) (hat : 0 ≤ at_ ∧ at_ ≤ 100) (hf : 0 ≤ f ∧ f < 1000000000000) (hlg : long = 0 ∨ long = 1) (ds : List Dy) (k : Nat) (hk : k < 12) (hl : ds.length ≤ 12) :
    ∃ d, DyOk d ∧ (lpK (kName 6 (.int (k : Int)) (drSt ns at_ many f long ds)) fun ρ1 => flp (b_law_days_2 G ρ1) (fun ρ2 => .nx (forget [7, 8, 9, 10, 11, 12, 6] ρ2)) fun _ => .bad) = .nx (drSt ns at_ many f long (ds ++ [d])) := by
  have e1 := cell_eq G ns (at_ + 1 + (k : Int)) (by omega)
  generalize cellI ns (at_ + 1 + (k : Int)) = x at *
  obtain ⟨ka, hka, eka⟩ : ∃ u : Int, (-2 ≤ u ∧ u ≤ 2) ∧ u = x / 12 % 5 - 2 := ⟨_, by omega, rfl⟩
  obtain ⟨kb, hkb, ekb⟩ : ∃ u : Int, (-2 ≤ u ∧ u ≤ 2) ∧ u = x / 60 % 5 - 2 := ⟨_, by omega, rfl⟩
  obtain ⟨kc, hkc, ekc⟩ : ∃ u : Int, (1 ≤ u ∧ u ≤ 3) ∧ u = 1 + f / 36 % 3 := ⟨_, by omega, rfl⟩
  obtain ⟨u, hu, eu⟩ : ∃ u : Int, (0 ≤ u ∧ u ≤ 2) ∧ u = x / 4 % 3 := ⟨_, by omega, rfl⟩
  obtain ⟨v, hv, ev⟩ : ∃ v : Int, (v = 0 ∨ v = 1) ∧ v = f / 3 % 4 / 3 := ⟨_, by omega, rfl⟩
  have muv : mulD (.int u) (.int v) = some (.sh (.int (u * v))) := mulD_r (by omega) (by omega)
  have huv : 0 ≤ u * v ∧ u * v ≤ 2 := by rcases hv with rfl | rfl <;> omega
  obtain ⟨s, es, ls⟩ := abc_ix k hk
  obtain ⟨g, hg, eg⟩ : ∃ g : Int, (0 ≤ g ∧ g ≤ 3) ∧ g = f / 108 % 4 := ⟨_, by omega, rfl⟩
  have er : repS (.str "ab") (.int g) = some (.sh (.str (Txt.mul "ab" g))) := repS_ok (by
    unfold CRepS
    refine ⟨?_, by omega, by omega⟩
    have : (Str.ofString "ab").length = 2 := by decide
    rw [this]
    omega)
  have ead : ∃ nm : Str, addD (.str s) (.str (Txt.mul "ab" g)) = some (.sh (.str nm)) := by
    have h4 : g = 0 ∨ g = 1 ∨ g = 2 ∨ g = 3 := by omega
    rcases h4 with rfl | rfl | rfl | rfl <;> exact ⟨_, addD_str (by rw [ls]; decide)⟩
  obtain ⟨nm, ead⟩ := ead
  have body : ∀ m : Int, 0 ≤ m ∧ m ≤ 24 → ∃ (L : List Int) (T : List Tn), T.length ≤ 24 ∧ (∀ t ∈ T, TnOk t) ∧ φ_law_row G [.int (x / 300), .int m] = .ret (.sh (.lst (L.map .int))) ∧ ∀ sz : D,
      comp (kName 13) sYes (e_law_days_1 G) [13] (rangeL 0 m.toNat) [] [some (.sh (scrI ns)), some (.sh (.int at_)), some (.sh (.int many)), some (.sh (.int f)), some (.lst (ds.map fun d => .sh (dyD d))), some (.sh (.int long)), some (.sh (.int (k : Int))), some (.sh (.int x)), some (.sh (.tup [.int ka, .int kb, .int kc])), some (.sh sz), some (.sh (.lst (L.map .int))), none, none, none] = .ok (.lst ((T.map tnD).map .sh)) [some (.sh (scrI ns)), some (.sh (.int at_)), some (.sh (.int many)), some (.sh (.int f)), some (.lst (ds.map fun d => .sh (dyD d))), some (.sh (.int long)), some (.sh (.int (k : Int))), some (.sh (.int x)), some (.sh (.tup [.int ka, .int kb, .int kc])), some (.sh sz), some (.sh (.lst (L.map .int))), none, none, none] := fun m hm => by
    obtain ⟨L, l1, l2, e5⟩ := row_eq G (x / 300) m hm.1 (by omega)
    have pick : ∀ t : Nat, ∃ tn : Tn, t < m.toNat → TnOk tn ∧ φ_law_turn G [.int (L.getD t 0), .int (t : Int), .tup [.int ka, .int kb, .int kc]] = .ret (.sh (tnD tn)) := fun t => by
      by_cases ht : t < m.toNat
      · have hl0 : 0 ≤ L.getD t 0 := by
          rw [List.getD_eq_getElem?_getD, List.getElem?_eq_getElem (by omega)]
          exact l2 _ (List.getElem_mem (by omega))
        obtain ⟨tn, a1, a2⟩ := lturn_eq G (L.getD t 0) (t : Int) ka kb kc hl0 (by omega) hka hkb hkc
        exact ⟨tn, fun _ => ⟨a1, a2⟩⟩
      · exact ⟨none, fun z => absurd z ht⟩
    obtain ⟨F, hF⟩ := Classical.skolem.mp pick
    refine ⟨L, (List.range m.toNat).map F, by simp; omega, fun t ht => ?_, e5, fun sz => ?_⟩
    · obtain ⟨j, hj, rfl⟩ := List.mem_map.mp ht
      exact (hF j (List.mem_range.mp hj)).1
    · have er : rangeL 0 m.toNat = (List.range m.toNat).map fun j : Nat => D.int (j : Int) := by
        unfold rangeL
        refine List.map_congr_left fun j _ => ?_
        rw [Int.zero_add]
      rw [er, comp_mapA (φ := fun j : Nat => D.int (j : Int)) (F := fun j => tnD (F j))]
      · rw [List.nil_append, List.map_map, List.map_map, List.map_map]
        rfl
      · intro j hj
        have hj := List.mem_range.mp hj
        have e6 := (hF j hj).2
        have ex : ixD (.lst (L.map .int)) (.int (j : Int)) = some (.sh (.int (L.getD j 0))) := by
          rw [ixD_l (by omega), Int.toNat_natCast, List.getElem?_map, List.getElem?_eq_getElem (by omega), List.getD_eq_getElem?_getD, List.getElem?_eq_getElem (by omega)]
          rfl
        generalize tnD (F j) = R at *
        generalize L.getD j 0 = z at *
        generalize L.map D.int = LD at *
        generalize (ds.map fun d => Val.sh (dyD d)) = DV at *
        simp (disch := omega) [e_law_days_1, ex, e6]
  have fin : ∀ T : List Tn, T.length ≤ 24 → (∀ t ∈ T, TnOk t) → DyOk ⟨nm, 1 + f / 7 % 999999999, T⟩ := fun T h1 h2 => ⟨by simp only; omega, h1, h2⟩
  have hrl : ∀ m : Int, 0 ≤ m ∧ m ≤ 24 → (rangeL 0 m.toNat).length ≤ 10000000 := fun m hm => by simp only [rangeL, List.length_map, List.length_range]; omega
  have hl7 : ds.length < 10000000 := by omega
  by_cases hlong : long = 1
  · obtain ⟨L, T, t1, t2, e5, e6⟩ := body (1 + x % 24) (by omega)
    refine ⟨_, fin T t1 t2, ?_⟩
    have e6 := e6 (.int (1 + x % 24))
    have hr1 := hrl (1 + x % 24) (by omega)
    have ed : dyD ⟨nm, 1 + f / 7 % 999999999, T⟩ = .tup [.str nm, .int (1 + f / 7 % 999999999), .lst (T.map tnD)] := rfl
    unfold drSt at *
    rw [List.map_append, List.map_singleton, ed]
    have hdl : (ds.map fun d => Val.sh (dyD d)).length < 10000000 := by rw [List.length_map]; omega
    subst hlong
    generalize (ds.map fun d => Val.sh (dyD d)) = DV at *
    generalize T.map tnD = TD at *
    generalize L.map D.int = LD at *
    simp (disch := omega) [b_law_days_2, e1, ← eka, ← ekb, ← ekc, ← eu, ← ev, muv, e5, e6, es, ← eg, er, ead, hdl, hr1]
  · have h0 : long = 0 := by omega
    obtain ⟨L, T, t1, t2, e5, e6⟩ := body (1 + x % 4 + u * v) (by omega)
    refine ⟨_, fin T t1 t2, ?_⟩
    have e6 := e6 (.int (1 + x % 4 + u * v))
    have hr1 := hrl (1 + x % 4 + u * v) (by omega)
    have ed : dyD ⟨nm, 1 + f / 7 % 999999999, T⟩ = .tup [.str nm, .int (1 + f / 7 % 999999999), .lst (T.map tnD)] := rfl
    unfold drSt at *
    rw [List.map_append, List.map_singleton, ed]
    have hdl : (ds.map fun d => Val.sh (dyD d)).length < 10000000 := by rw [List.length_map]; omega
    subst h0
    generalize (ds.map fun d => Val.sh (dyD d)) = DV at *
    generalize T.map tnD = TD at *
    generalize L.map D.int = LD at *
    generalize u * v = uv at *
    simp (disch := omega) [b_law_days_2, e1, ← eka, ← ekb, ← ekc, ← eu, ← ev, muv, e5, e6, es, ← eg, er, ead, hdl, hr1]

theorem ldays_eq (G : Gs) (ns : List Int) (a : Int) (ha : 0 ≤ a ∧ a ≤ 80) : ∃ ds : List Dy, ds.length ≤ 12 ∧ (∀ d ∈ ds, DyOk d) ∧ φ_law_days G [scrI ns, .int a, .int 4] = .ret (.sh (.lst (ds.map dyD))) := by
  have e1 := cell_eq G ns a ha.1
  obtain ⟨f, hf, ef⟩ : ∃ f : Int, (0 ≤ f ∧ f < 1000000000000) ∧ f = cellI ns a % 1000000000000 := ⟨_, by omega, rfl⟩
  generalize cellI ns a = c at *
  by_cases h9 : f / 16144 % 16 = 9
  · refine ⟨[], by simp, fun d hd => (by cases hd), ?_⟩
    rw [List.map_nil]
    unfold φ_law_days s_law_days
    by_cases h3 : f / 1009 % 16 = 3
    · simp (disch := omega) [e1, ← ef, h3, h9]
    · simp (disch := omega) [e1, ← ef, h3, h9]
  · have go : ∀ long n : Int, (long = 0 ∨ long = 1) → 0 ≤ n ∧ n ≤ 12 → ∃ ds : List Dy, ds.length ≤ 12 ∧ (∀ d ∈ ds, DyOk d) ∧ loop (kName 6) (b_law_days_2 G) [7, 8, 9, 10, 11, 12, 6] (rangeL 0 n.toNat) (drSt ns a 4 f long []) = .nx (drSt ns a 4 f long ds) := fun long n hl hn => by
      have hlen : (rangeL 0 n.toNat).length = n.toNat := by simp [rangeL]
      obtain ⟨ρ', lp, ds, d1, d2, rfl⟩ := loop_reln (g := kName 6) (s := b_law_days_2 G) (is := [7, 8, 9, 10, 11, 12, 6]) (fun i ρ => ∃ ds : List Dy, ds.length = i ∧ (∀ d ∈ ds, DyOk d) ∧ ρ = drSt ns a 4 f long ds) (rangeL 0 n.toNat) 0 (drSt ns a 4 f long []) ⟨[], rfl, by simp, rfl⟩ (fun i d ρ hd hi ⟨ds, k1, k2, k3⟩ => by
        obtain ⟨k, hk, rfl⟩ := mem_rangeL.mp hd
        rw [show (0 : Int) + (k : Int) = (k : Int) by omega]
        subst k3
        obtain ⟨d, d1, d2⟩ := day_one G ns a 4 f long (by omega) hf hl ds k (by omega) (by omega)
        refine ⟨_, d2, ds ++ [d], by simp [k1], fun y hy => ?_, rfl⟩
        rcases List.mem_append.mp hy with hy | hy
        · exact k2 y hy
        · rw [List.mem_singleton.mp hy]; exact d1)
      exact ⟨ds, by omega, d2, lp⟩
    by_cases h3 : f / 1009 % 16 = 3
    · obtain ⟨ds, d1, d2, lp⟩ := go 1 (1 + f % 12) (.inr rfl) (by omega)
      refine ⟨ds, d1, d2, ?_⟩
      have fz : fzs (ds.map fun d => Val.sh (dyD d)) = ds.map dyD := by rw [fzs_map, List.map_map]; rfl
      unfold drSt at lp
      rw [List.map_nil] at lp
      generalize (ds.map fun d => Val.sh (dyD d)) = DV at *
      unfold φ_law_days s_law_days
      simp (disch := omega) [e1, ← ef, h3, h9, lp, fz]
    · obtain ⟨ds, d1, d2, lp⟩ := go 0 (1 + f % 4) (.inl rfl) (by omega)
      refine ⟨ds, d1, d2, ?_⟩
      have fz : fzs (ds.map fun d => Val.sh (dyD d)) = ds.map dyD := by rw [fzs_map, List.map_map]; rfl
      unfold drSt at lp
      rw [List.map_nil] at lp
      generalize (ds.map fun d => Val.sh (dyD d)) = DV at *
      unfold φ_law_days s_law_days
      simp (disch := omega) [e1, ← ef, h3, h9, lp, fz]
theorem sides_eq (G : Gs) (c : Int) : ∃ w h : Nat, (1 ≤ w ∧ w ≤ 20) ∧ (1 ≤ h ∧ h ≤ 20) ∧ φ_law_sides G [.int c] = .ret (.sh (pD ((w : Int), (h : Int)))) := by
  obtain ⟨f, hf, ef⟩ : ∃ f : Int, (0 ≤ f ∧ f < 1000000000000) ∧ f = c % 1000000000000 := ⟨_, by omega, rfl⟩
  by_cases h5 : f % 6 = 5
  · refine ⟨(1 + f / 6 % 20).toNat, (1 + f / 120 % 20).toNat, by omega, by omega, ?_⟩
    rw [show (((1 + f / 6 % 20).toNat : Nat) : Int) = 1 + f / 6 % 20 by omega, show (((1 + f / 120 % 20).toNat : Nat) : Int) = 1 + f / 120 % 20 by omega, pD_mk]
    unfold φ_law_sides s_law_sides
    simp (disch := omega) [← ef, h5]
  · refine ⟨(1 + f / 6 % 6).toNat, (1 + f / 36 % 6).toNat, by omega, by omega, ?_⟩
    rw [show (((1 + f / 6 % 6).toNat : Nat) : Int) = 1 + f / 6 % 6 by omega, show (((1 + f / 36 % 6).toNat : Nat) : Int) = 1 + f / 36 % 6 by omega, pD_mk]
    unfold φ_law_sides s_law_sides
    simp (disch := omega) [← ef, h5]
theorem standing_eq (G : Gs) (c : Int) : ∃ ts : List D, ts.length ≤ 1 ∧ φ_law_standing G [.int c] = .ret (.sh (.lst ts)) := by
  obtain ⟨f, hf, ef⟩ : ∃ f : Int, (0 ≤ f ∧ f < 1000000000) ∧ f = c % 1000000000 := ⟨_, by omega, rfl⟩
  by_cases h2 : f % 2 = 0
  · refine ⟨[], by simp, ?_⟩
    unfold φ_law_standing s_law_standing
    simp (disch := omega) [← ef, h2]
  · obtain ⟨wd, hw, ew⟩ : ∃ wd : Str, (wd = "house" ∨ wd = "sail") ∧ ([.str "house", .str "sail"] : List D)[(f / 162 % 2).toNat]? = some (.str wd) := by
      have h01 : f / 162 % 2 = 0 ∨ f / 162 % 2 = 1 := by omega
      rcases h01 with z | z
      · exact ⟨"house", .inl rfl, by rw [z]; rfl⟩
      · exact ⟨"sail", .inr rfl, by rw [z]; rfl⟩
    obtain ⟨d, ed⟩ := big_of G hw (f / 2 % 9 - 4) (f / 18 % 9 - 4) (1 + f / 324 % 9) (by omega) (by omega) (by omega)
    refine ⟨[d], by simp, ?_⟩
    unfold φ_law_standing s_law_standing
    simp (disch := omega) [← ef, h2, ew, ed]
end My

namespace My
open PySem PySem.Spec L2 DL HU
/-! what k57's law reckons: ends, faults -/
theorem law_ends_eq (G : Gs) {ds : List Dy} (hd : ∀ d ∈ ds, DyOk d) (hdl : ds.length ≤ 12) (p : P3) : φ_law_ends G [.lst (ds.map dyD), p3D p] = .ret (.sh (.lst ((endsL p ds).map enD))) := by
  have el := endsL_len p (ds := ds) (B := 24) fun d hd' => (hd d hd').2.1
  have er : ∀ n : Nat, rangeL 0 n = (List.range n).map fun j : Nat => D.int (j : Int) := fun n => by
    unfold rangeL
    refine List.map_congr_left fun j _ => ?_
    rw [Int.zero_add]
  have lp := loop_appS (g := kName 3) (t := b_law_ends_2 G) (is := [4, 3]) (fun k : Nat => D.int (k : Int)) (fun k => enV (dayE p k (ds.getD k dy0).turns)) (fun acc => [some (.sh (.lst (ds.map dyD))), some (.sh (p3D p)), some (.lst acc), none, none]) 1000 (List.range ds.length) [] (fun k hk acc hB => by
    have hk := List.mem_range.mp hk
    have hg : ds.getD k dy0 = ds[k] := by rw [List.getD_eq_getElem?_getD, List.getElem?_eq_getElem hk]; rfl
    have hdk : DyOk (ds.getD k dy0) := hg ▸ hd _ (List.getElem_mem hk)
    obtain ⟨_, h24, htn⟩ := hdk
    have hix : ixD (.lst (ds.map dyD)) (.int (k : Int)) = some (.sh (.tup [.str (ds.getD k dy0).name, .int (ds.getD k dy0).many, .lst ((ds.getD k dy0).turns.map tnD)])) := by
      rw [ixD_l (by omega), Int.toNat_natCast, List.getElem?_map, List.getElem?_eq_getElem hk, hg]
      rfl
    generalize (ds.getD k dy0).name = nm at *
    generalize (ds.getD k dy0).many = mm at *
    generalize (ds.getD k dy0).turns = T at *
    have hi2 : ixD (.tup [.str nm, .int mm, .lst (T.map tnD)]) (.int 2) = some (.sh (.lst (T.map tnD))) := id rfl
    have hln : lenD (.lst (T.map tnD)) = some (.sh (.int (T.length : Int))) := by simp
    generalize hDD : D.lst (ds.map dyD) = DD at *
    have lt := loop_appS (g := kName 4) (t := b_law_ends_1 G) (is := [4]) (fun j : Nat => D.int (j : Int)) (fun j => enV (tnE p k j (T.getD j none))) (fun acc => [some (.sh DD), some (.sh (p3D p)), some (.lst acc), some (.sh (.int (k : Int))), none]) 1000 (List.range T.length) acc (fun j hj acc hB => by
      have hj := List.mem_range.mp hj
      have ht : TnOk (T.getD j none) := by
        rw [List.getD_eq_getElem?_getD, List.getElem?_eq_getElem hj]
        exact htn _ (List.getElem_mem hj)
      have hi3 : ixD (.lst (T.map tnD)) (.int (j : Int)) = some (.sh (tnD (T.getD j none))) := by
        rw [ixD_l (by omega), Int.toNat_natCast, List.getElem?_map, List.getElem?_eq_getElem hj, List.getD_eq_getElem?_getD, List.getElem?_eq_getElem hj]
        rfl
      generalize T.getD j none = t at *
      generalize T.map tnD = TD at *
      cases t with
      | none =>
        have eN : tnD none = .non := rfl
        rw [eN] at hi3
        have e3 : enV (tnE p k j none) = [] := rfl
        rw [e3]
        generalize p3D p = pd at *
        simp (disch := omega) [b_law_ends_1, hix, hi2, hi3]
      | some r =>
        have e := end_of_eq G p r (ht r rfl)
        have eD : tnD (some r) = p3D r := rfl
        have e3 : enV (tnE p k j (some r)) = [.sh (.tup [.int (k : Int), .int (j : Int), pD (endP p r)])] := rfl
        rw [eD] at hi3
        rw [e3]
        rw [e3, List.length_singleton] at hB
        have hB7 : acc.length < 10000000 := by omega
        have nn : isN (p3D r) = false := rfl
        generalize p3D r = rd at *
        generalize p3D p = pd at *
        generalize pD (endP p r) = ep at *
        simp (disch := omega) [b_law_ends_1, e, nn, hB7, hix, hi2, hi3]) (by rw [← enV_flat]; exact hB)
    rw [← enV_flat, ← er] at lt
    have lt : loop (kName 4) (b_law_ends_1 G) [4] (rangeL 0 T.length) _ = Fl.nx [some (.sh DD), some (.sh (p3D p)), some (.lst (acc ++ enV (dayE p k T))), some (.sh (.int (k : Int))), none] := lt
    have h62 : (T.length : Int) < 4611686018427387904 := by omega
    generalize enV (dayE p k T) = EV at *
    generalize T.map tnD = TD at *
    generalize T.length = TL at *
    generalize p3D p = pd at *
    simp (disch := omega) [b_law_ends_2, hix, hi2, hln, lt]) (by
      rw [← enV_flat]
      have e : (List.range ds.length).flatMap (fun k => dayE p k (ds.getD k dy0).turns) = endsL p ds := rfl
      rw [e]
      unfold enV
      rw [List.length_map, List.length_nil]; omega)
  rw [← enV_flat, List.nil_append, ← er] at lp
  have lp : loop (kName 3) (b_law_ends_2 G) [4, 3] (rangeL 0 ds.length) [some (.sh (.lst (ds.map dyD))), some (.sh (p3D p)), some (.lst []), none, none] = Fl.nx [some (.sh (.lst (ds.map dyD))), some (.sh (p3D p)), some (.lst (enV (endsL p ds))), none, none] := lp
  have fz : fzs (enV (endsL p ds)) = (endsL p ds).map enD := by unfold enV; rw [fzs_map, List.map_map]; rfl
  have ll : (ds.map dyD).length = ds.length := List.length_map _
  have h62 : (ds.length : Int) < 4611686018427387904 := by omega
  unfold φ_law_ends s_law_ends
  generalize enV (endsL p ds) = EV at *
  generalize ds.length = dl at *
  generalize ds.map dyD = DD at *
  generalize p3D p = pd at *
  simp (disch := omega) [ll, lp, fz]
theorem law_on_eq (G : Gs) (w h : Nat) (s : P2) : φ_law_on G [pD s, pD ((w : Int), (h : Int))] = .ret (.sh (.bl (inYd w h s))) := by
  obtain ⟨x, y⟩ := s
  rw [pD_mk, pD_mk]
  have e : inYd w h (x, y) = decide ((0 ≤ x ∧ x < w) ∧ 0 ≤ y ∧ y < h) := rfl
  rw [e]
  unfold φ_law_on s_law_on
  by_cases a1 : 0 ≤ x
  · by_cases a2 : x < w
    · by_cases a3 : 0 ≤ y
      · by_cases a4 : y < h
        · simp (disch := omega) [a1, a2, a3, a4]
        · simp (disch := omega) [a1, a2, a3, a4]
      · simp (disch := omega) [a1, a2, a3]
    · simp (disch := omega) [a1, a2]
  · simp (disch := omega) [a1]
theorem turn_at_eq (G : Gs) (n : Int) (W : D) : ∀ M : List (Int × Int), ∃ ρ', loop (kSeq 2 (kCons (kName 2) (kCons (kName 3) kNil))) (b_turn_at_1 G) [2, 3] (M.map pT) [some (.sh W), some (.sh (.int n)), none, none] = match M.find? (fun p => p.1 == n) with
    | none => .nx [some (.sh W), some (.sh (.int n)), none, none]
    | some p => .rt (.sh (.int p.2)) ρ'
  | [] => ⟨[], rfl⟩
  | (a, b) :: M => by
    obtain ⟨ρ', ih⟩ := turn_at_eq G n W M
    have eD : pT (a, b) = .tup [.int a, .int b] := rfl
    by_cases h : a = n
    · refine ⟨[some (.sh W), some (.sh (.int n)), some (.sh (.int a)), some (.sh (.int b))], ?_⟩
      rw [List.map_cons, eD, loop_cons, List.find?_cons]
      simp [b_turn_at_1, h]
    · refine ⟨ρ', ?_⟩
      rw [List.map_cons, eD, List.find?_cons]
      have hb : ((a, b).1 == n) = false := by simpa using h
      rw [hb, ← ih]
      refine loop_one ?_
      simp [b_turn_at_1, h]
theorem turn_at_ret (G : Gs) (n : Int) (M : List (Int × Int)) (hl : M.length ≤ 1000) : φ_turn_at G [.lst (M.map pT), .int n] = .ret (.sh (match M.find? (fun p => p.1 == n) with | none => .non | some p => .int p.2)) := by
  obtain ⟨ρ', lp⟩ := turn_at_eq G n (.lst (M.map pT)) M
  have hl7 : (M.map pT).length ≤ 10000000 := by rw [List.length_map]; omega
  unfold φ_turn_at s_turn_at
  cases hf : M.find? (fun p => p.1 == n) with
  | none =>
    rw [hf] at lp
    dsimp only at lp ⊢
    generalize M.map pT = MD at *
    simp (disch := omega) [hl7, lp]
  | some q =>
    rw [hf] at lp
    dsimp only at lp ⊢
    generalize M.map pT = MD at *
    simp (disch := omega) [hl7, lp]
/-- ends stand by days and turns -/
def before (a b : Nat × Nat) : Prop := a.1 < b.1 ∨ (a.1 = b.1 ∧ a.2 < b.2)
def ky (e : En) : Nat × Nat := (e.1, e.2.1)
theorem day_mem {p : P3} {k : Nat} {T : List Tn} {e : En} (he : e ∈ dayE p k T) : e.1 = k ∧ e.2.1 < T.length := by
  unfold dayE at he
  obtain ⟨j, hj, he⟩ := List.mem_flatMap.mp he
  have hj := List.mem_range.mp hj
  cases q : T.getD j none with
  | none => rw [q] at he; cases he
  | some r =>
    rw [q] at he
    have : e = (k, j, endP p r) := by simpa [tnE] using he
    rw [this]
    exact ⟨rfl, hj⟩
theorem flat_pw {α β : Type} {R : β → β → Prop} {f : α → List β} {S : α → α → Prop} : ∀ {l : List α}, l.Pairwise S → (∀ a ∈ l, (f a).Pairwise R) → (∀ a b, S a b → ∀ x ∈ f a, ∀ y ∈ f b, R x y) → (l.flatMap f).Pairwise R
  | [], _, _, _ => List.Pairwise.nil
  | a :: l, hs, h1, h2 => by
    obtain ⟨hs1, hs2⟩ := List.pairwise_cons.mp hs
    rw [List.flatMap_cons, List.pairwise_append]
    refine ⟨h1 a List.mem_cons_self, flat_pw hs2 (fun b hb => h1 b (List.mem_cons_of_mem _ hb)) h2, fun x hx y hy => ?_⟩
    obtain ⟨b, hb, hy⟩ := List.mem_flatMap.mp hy
    exact h2 a b (hs1 b hb) x hx y hy
theorem ends_pw (p : P3) (ds : List Dy) : (endsL p ds).Pairwise fun e f => before (ky e) (ky f) := by
  unfold endsL
  refine flat_pw (S := (· < ·)) List.pairwise_lt_range (fun k _ => ?_) fun a b hab x hx y hy => .inl (by
    show x.1 < y.1
    rw [(day_mem hx).1, (day_mem hy).1]; exact hab)
  unfold dayE
  refine flat_pw (S := (· < ·)) List.pairwise_lt_range (fun j _ => ?_) fun a b hab x hx y hy => ?_
  · unfold tnE
    split
    · exact List.Pairwise.nil
    · exact List.pairwise_singleton _ _
  · have mem : ∀ {j : Nat} {t : Tn} {e : En}, e ∈ tnE p k j t → e.1 = k ∧ e.2.1 = j := fun {j t e} he => by
      unfold tnE at he
      split at he
      · cases he
      · rw [List.mem_singleton.mp he]; exact ⟨rfl, rfl⟩
    exact .inr ⟨(mem hx).1.trans (mem hy).1.symm, by
      show x.2.1 < y.2.1
      rw [(mem hx).2, (mem hy).2]; exact hab⟩
theorem alike_spec : ∀ (E : List En) (kn : Kn) (D0 : List En), (∀ q ∈ kn, (q.2.1, q.2.2, q.1) ∈ D0) → ∀ a b, alikeO kn E = some (a, b) → ∃ s, (a.1, a.2, s) ∈ D0 ++ E ∧ (b.1, b.2, s) ∈ E ∧ a.2 ≠ b.2 ∧ ((D0 ++ E).Pairwise (fun e f => before (ky e) (ky f)) → before a b)
  | [], _, _, _, a, b, h => by cases h
  | (k, j, s) :: E, kn, D0, hk, a, b, h => by
    rw [alikeO] at h
    cases hq : lookQ kn s with
    | none =>
      rw [hq] at h
      obtain ⟨t, h1, h2, h3, h4⟩ := alike_spec E (kn ++ [(s, (k, j))]) (D0 ++ [(k, j, s)]) (fun q hm => by
        rcases List.mem_append.mp hm with z | z
        · exact List.mem_append_left _ (hk q z)
        · rw [List.mem_singleton.mp z]; exact List.mem_append_right _ (List.mem_singleton.mpr rfl)) a b h
      rw [List.append_assoc] at h1 h4
      exact ⟨t, h1, List.mem_cons_of_mem _ h2, h3, h4⟩
    | some v =>
      rw [hq] at h
      dsimp only at h
      have hv : ∀ (kn : Kn) (v : Nat × Nat), lookQ kn s = some v → (s, v) ∈ kn := by
        intro kn v
        induction kn with
        | nil => intro z; cases z
        | cons q kn ih =>
          obtain ⟨s', u⟩ := q
          intro z
          rw [lookQ] at z
          split at z
          · rename_i e
            cases z
            rw [e]; exact List.mem_cons_self
          · exact List.mem_cons_of_mem _ (ih z)
      by_cases hj : v.2 = j
      · rw [if_pos hj] at h
        obtain ⟨t, h1, h2, h3, h4⟩ := alike_spec E kn (D0 ++ [(k, j, s)]) (fun q hm => List.mem_append_left _ (hk q hm)) a b h
        rw [List.append_assoc] at h1 h4
        exact ⟨t, h1, List.mem_cons_of_mem _ h2, h3, h4⟩
      · rw [if_neg hj] at h
        cases h
        have m := hk _ (hv kn _ hq)
        refine ⟨s, List.mem_append_left _ m, List.mem_cons_self, hj, fun pw => ?_⟩
        exact (List.pairwise_append.mp pw).2.2 _ m _ List.mem_cons_self
theorem before_irr {a : Nat × Nat} (h : before a a) : False := by
  rcases h with h | ⟨_, h⟩ <;> omega
/-- of a key there is one end -/
theorem one_of {E : List En} (pw : E.Pairwise fun e f => before (ky e) (ky f)) {e : En} (he : e ∈ E) : (E.filter fun f => decide (ky f = ky e)) = [e] := by
  induction E with
  | nil => cases he
  | cons f E ih =>
    obtain ⟨h1, h2⟩ := List.pairwise_cons.mp pw
    rcases List.mem_cons.mp he with rfl | he
    · rw [List.filter_cons_of_pos (by simp)]
      congr 1
      rw [List.filter_eq_nil_iff]
      intro g hg
      simp only [decide_eq_true_eq]
      intro z
      have := h1 g hg
      rw [z] at this
      exact before_irr this
    · rw [List.filter_cons_of_neg]
      · exact ih h2 he
      · simp only [decide_eq_true_eq]
        intro z
        have := h1 e he
        rw [z] at this
        exact before_irr this

def p2D (q : Nat × Nat) : D := .tup [.int (q.1 : Int), .int (q.2 : Int)]
theorem ok_kys (l : List En) : D.ok 20 (.lst (l.map fun e => p2D (ky e))) = true := by
  show (l.map fun e => p2D (ky e)).all (D.ok 19) = true
  rw [List.all_map, List.all_eq_true]
  intro e _; rfl
theorem ok_prs (l : List P2) : D.ok 20 (.lst (l.map pD)) = true := by
  show (l.map pD).all (D.ok 19) = true
  rw [List.all_map, List.all_eq_true]
  intro e _; rfl
theorem eqv_p2 (a b : Nat × Nat) : D.eqv (p2D a) (p2D b) = decide (a = b) := by
  obtain ⟨a1, a2⟩ := a
  obtain ⟨b1, b2⟩ := b
  have e : D.eqv (p2D (a1, a2)) (p2D (b1, b2)) = (decide ((a1 : Int) = (b1 : Int)) && decide ((a2 : Int) = (b2 : Int))) := by
    show D.eqv (.tup [.int (a1 : Int), .int (a2 : Int)]) (.tup [.int (b1 : Int), .int (b2 : Int)]) = _
    simp
  rw [e]
  by_cases h1 : a1 = b1
  · by_cases h2 : a2 = b2
    · subst h1; subst h2; simp
    · simp [h1, h2]; omega
  · simp [h1]; omega
section
variable (G : Gs) (w h : Nat) (F : D) (E : List En)
theorem comp_off (o4 o5 : Option Val) : comp (kSeq 3 (kCons (kName 6) (kCons (kName 7) (kCons (kName 8) kNil)))) (w_law_fault_2 G) (e_law_fault_1 G) [6, 7, 8] (E.map enD) [] [some (.sh F), some (.sh (.lst (E.map enD))), some (.sh (pD ((w : Int), (h : Int)))), none, o4, o5, none, none, none] = .ok (.lst (((E.filter fun e => !inYd w h e.2.2).map fun e => p2D (ky e)).map .sh)) [some (.sh F), some (.sh (.lst (E.map enD))), some (.sh (pD ((w : Int), (h : Int)))), none, o4, o5, none, none, none] := by
  generalize hS : D.lst (E.map enD) = S
  rw [comp_filA (φ := enD) (F := fun e => p2D (ky e)) (p := fun e => !inYd w h e.2.2)]
  · rw [List.nil_append]
  · intro e he
    obtain ⟨k, j, s⟩ := e
    have eD : enD (k, j, s) = .tup [.int (k : Int), .int (j : Int), pD s] := rfl
    have eo := law_on_eq G w h s
    rw [eD]
    refine ⟨_, [some (.sh F), some (.sh S), some (.sh (pD ((w : Int), (h : Int)))), none, o4, o5, some (.sh (.int (k : Int))), some (.sh (.int (j : Int))), some (.sh (pD s))], rfl, ?_, fun _ => rfl, fun _ => ⟨[some (.sh F), some (.sh S), some (.sh (pD ((w : Int), (h : Int)))), none, o4, o5, some (.sh (.int (k : Int))), some (.sh (.int (j : Int))), some (.sh (pD s))], ?_, rfl⟩⟩
    · show w_law_fault_2 G [some (.sh F), some (.sh S), some (.sh (pD ((w : Int), (h : Int)))), none, o4, o5, some (.sh (.int (k : Int))), some (.sh (.int (j : Int))), some (.sh (pD s))] = _
      generalize pD ((w : Int), (h : Int)) = sd at *
      generalize pD s = ps at *
      simp [w_law_fault_2, eo]
    · generalize pD ((w : Int), (h : Int)) = sd at *
      generalize pD s = ps at *
      simp [e_law_fault_1, p2D, ky]
theorem ok_p2 (q : Nat × Nat) : D.ok 20 (p2D q) = true := rfl
theorem comp_one (a : Nat × Nat) (x y : D) (o3 o5 : Option Val) (hF : F = .tup [x, p2D a, y]) : comp (kSeq 3 (kCons (kName 6) (kCons (kName 7) (kCons (kName 8) kNil)))) (w_law_fault_4 G) (e_law_fault_3 G) [6, 7, 8] (E.map enD) [] [some (.sh F), some (.sh (.lst (E.map enD))), some (.sh (pD ((w : Int), (h : Int)))), o3, none, o5, none, none, none] = .ok (.lst (((E.filter fun e => decide (ky e = a)).map fun e => pD e.2.2).map .sh)) [some (.sh F), some (.sh (.lst (E.map enD))), some (.sh (pD ((w : Int), (h : Int)))), o3, none, o5, none, none, none] := by
  generalize hS : D.lst (E.map enD) = S
  rw [comp_filA (φ := enD) (F := fun e => pD e.2.2) (p := fun e => decide (ky e = a))]
  · rw [List.nil_append]
  · intro e he
    obtain ⟨k, j, s⟩ := e
    have eD : enD (k, j, s) = .tup [.int (k : Int), .int (j : Int), pD s] := rfl
    rw [eD]
    refine ⟨_, [some (.sh F), some (.sh S), some (.sh (pD ((w : Int), (h : Int)))), o3, none, o5, some (.sh (.int (k : Int))), some (.sh (.int (j : Int))), some (.sh (pD s))], rfl, ?_, fun _ => rfl, fun _ => ⟨[some (.sh F), some (.sh S), some (.sh (pD ((w : Int), (h : Int)))), o3, none, o5, some (.sh (.int (k : Int))), some (.sh (.int (j : Int))), some (.sh (pD s))], ?_, rfl⟩⟩
    · show w_law_fault_4 G [some (.sh F), some (.sh S), some (.sh (pD ((w : Int), (h : Int)))), o3, none, o5, some (.sh (.int (k : Int))), some (.sh (.int (j : Int))), some (.sh (pD s))] = _
      have ev := eqv_p2 (k, j) a
      have o1 := ok_p2 (k, j)
      have o2 := ok_p2 a
      have ek : (.tup [.int (k : Int), .int (j : Int)] : D) = p2D (k, j) := rfl
      have ky1 : ky (k, j, s) = (k, j) := rfl
      rw [ky1]
      subst hF
      generalize pD ((w : Int), (h : Int)) = sd at *
      generalize pD s = ps at *
      generalize p2D a = pa at *
      simp only [w_law_fault_4]
      simp [-eqv_tup, ek, ev, o1, o2]
    · generalize pD ((w : Int), (h : Int)) = sd at *
      generalize pD s = ps at *
      simp [e_law_fault_3]
theorem comp_oth (a : Nat × Nat) (x y : D) (o3 o4 : Option Val) (hF : F = .tup [x, y, p2D a]) : comp (kSeq 3 (kCons (kName 6) (kCons (kName 7) (kCons (kName 8) kNil)))) (w_law_fault_6 G) (e_law_fault_5 G) [6, 7, 8] (E.map enD) [] [some (.sh F), some (.sh (.lst (E.map enD))), some (.sh (pD ((w : Int), (h : Int)))), o3, o4, none, none, none, none] = .ok (.lst (((E.filter fun e => decide (ky e = a)).map fun e => pD e.2.2).map .sh)) [some (.sh F), some (.sh (.lst (E.map enD))), some (.sh (pD ((w : Int), (h : Int)))), o3, o4, none, none, none, none] := by
  generalize hS : D.lst (E.map enD) = S
  rw [comp_filA (φ := enD) (F := fun e => pD e.2.2) (p := fun e => decide (ky e = a))]
  · rw [List.nil_append]
  · intro e he
    obtain ⟨k, j, s⟩ := e
    have eD : enD (k, j, s) = .tup [.int (k : Int), .int (j : Int), pD s] := rfl
    rw [eD]
    refine ⟨_, [some (.sh F), some (.sh S), some (.sh (pD ((w : Int), (h : Int)))), o3, o4, none, some (.sh (.int (k : Int))), some (.sh (.int (j : Int))), some (.sh (pD s))], rfl, ?_, fun _ => rfl, fun _ => ⟨[some (.sh F), some (.sh S), some (.sh (pD ((w : Int), (h : Int)))), o3, o4, none, some (.sh (.int (k : Int))), some (.sh (.int (j : Int))), some (.sh (pD s))], ?_, rfl⟩⟩
    · show w_law_fault_6 G [some (.sh F), some (.sh S), some (.sh (pD ((w : Int), (h : Int)))), o3, o4, none, some (.sh (.int (k : Int))), some (.sh (.int (j : Int))), some (.sh (pD s))] = _
      have ev := eqv_p2 (k, j) a
      have o1 := ok_p2 (k, j)
      have o2 := ok_p2 a
      have ek : (.tup [.int (k : Int), .int (j : Int)] : D) = p2D (k, j) := rfl
      have ky1 : ky (k, j, s) = (k, j) := rfl
      rw [ky1]
      subst hF
      generalize pD ((w : Int), (h : Int)) = sd at *
      generalize pD s = ps at *
      generalize p2D a = pa at *
      simp only [w_law_fault_6]
      simp [-eqv_tup, ek, ev, o1, o2]
    · generalize pD ((w : Int), (h : Int)) = sd at *
      generalize pD s = ps at *
      simp [e_law_fault_5]
end
theorem fault_off (G : Gs) (w h : Nat) (E : List En) (hl : E.length ≤ 1000) {e : En} (ho : offO w h E = some e) : φ_law_fault G [offD (some e), .lst (E.map enD), pD ((w : Int), (h : Int))] = .ret (.sh (.bl true)) := by
  obtain ⟨r, er⟩ : ∃ r, (E.filter fun e => !inYd w h e.2.2) = e :: r := by
    have := List.head?_filter (p := fun e : En => !inYd w h e.2.2) (l := E)
    unfold offO at ho
    rw [ho] at this
    cases hf : E.filter fun e => !inYd w h e.2.2 with
    | nil => rw [hf] at this; cases this
    | cons a r =>
      rw [hf] at this
      cases this
      exact ⟨r, rfl⟩
  have of : offD (some e) = .tup [.str (Str.ofString "off"), .int (e.1 : Int), .int (e.2.1 : Int)] := rfl
  have c := comp_off G w h (offD (some e)) E none none
  rw [er, of] at c
  rw [of]
  have fz : fzs (((e :: r).map fun e => p2D (ky e)).map .sh) = (e :: r).map fun e => p2D (ky e) := by simp
  have o1 := ok_kys (e :: r)
  have sl : slD (some 1) none (.tup [.str (Str.ofString "off"), .int (e.1 : Int), .int (e.2.1 : Int)]) = some (.sh (p2D (ky e))) := id rfl
  have ev := eqv_p2 (ky e) (ky e)
  have o2 := ok_p2 (ky e)
  have hl7 : (E.map enD).length ≤ 10000000 := by rw [List.length_map]; omega
  have m9 : ((e :: r).map fun e => p2D (ky e)) = p2D (ky e) :: r.map fun e => p2D (ky e) := rfl
  rw [m9] at c fz o1
  generalize (r.map fun e => p2D (ky e)) = RD at *
  generalize p2D (ky e) = q at *
  generalize pD ((w : Int), (h : Int)) = sd at *
  generalize E.map enD = ED at *
  generalize hR : (q :: RD).map Val.sh = RV at *
  unfold φ_law_fault s_law_fault
  simp (disch := omega) [c, hl7, fz, o1, sl, ev, o2]
theorem fault_alike (G : Gs) (w h : Nat) (E : List En) (hl : E.length ≤ 1000) (pw : E.Pairwise fun e f => before (ky e) (ky f)) {a b : Nat × Nat} (ho : offO w h E = none) (ha : alikeO [] E = some (a, b)) : φ_law_fault G [alD (some (a, b)), .lst (E.map enD), pD ((w : Int), (h : Int))] = .ret (.sh (.bl true)) := by
  obtain ⟨s, h1, h2, h3, h4⟩ := alike_spec E [] [] (fun q hq => by cases hq) a b ha
  rw [List.nil_append] at h1 h4
  have hab := h4 pw
  have f1 := one_of pw h1
  have f2 := one_of pw h2
  have f1 : (E.filter fun f => decide (ky f = a)) = [(a.1, a.2, s)] := f1
  have f2 : (E.filter fun f => decide (ky f = b)) = [(b.1, b.2, s)] := f2
  have f0 : (E.filter fun e => !inYd w h e.2.2) = [] := by
    rw [List.filter_eq_nil_iff]
    intro e he
    have := off_none ho e he
    simp [this]
  have of : alD (some (a, b)) = .tup [.str (Str.ofString "alike"), p2D a, p2D b] := rfl
  have c0 := comp_off G w h (alD (some (a, b))) E none none
  have c1 := comp_one G w h (alD (some (a, b))) E a (.str (Str.ofString "alike")) (p2D b) (some (.sh (.lst []))) none of
  have c2 := comp_oth G w h (alD (some (a, b))) E b (.str (Str.ofString "alike")) (p2D a) (some (.sh (.lst []))) (some (.sh (.lst [pD s]))) of
  rw [f0, of] at c0
  rw [f1, of] at c1
  rw [f2, of] at c2
  simp only [List.map_cons, List.map_nil] at c0 c1 c2
  rw [of]
  have hl7 : (E.map enD).length ≤ 10000000 := by rw [List.length_map]; omega
  have ne : ¬ Str.ofString "alike" = Str.ofString "off" := by decide
  have ia : ixD (p2D a) (.int 1) = some (.sh (.int (a.2 : Int))) := rfl
  have ib : ixD (p2D b) (.int 1) = some (.sh (.int (b.2 : Int))) := rfl
  have h3' : ¬ (a.2 : Int) = (b.2 : Int) := by omega
  have lt : ltTD (p2D a) (p2D b) = some (.sh (.bl true)) := by
    show ltTD (.tup [.int (a.1 : Int), .int (a.2 : Int)]) (.tup [.int (b.1 : Int), .int (b.2 : Int)]) = _
    rw [ltTD_2]
    by_cases z : (a.1 : Int) = (b.1 : Int)
    · rw [if_pos z]
      have : (a.2 : Int) < (b.2 : Int) := by
        rcases hab with q | ⟨_, q⟩
        · omega
        · omega
      rw [decide_eq_true this]
    · rw [if_neg z]
      have : (a.1 : Int) < (b.1 : Int) := by
        rcases hab with q | ⟨q, _⟩
        · omega
        · omega
      rw [decide_eq_true this]
  have es : D.eqv (pD s) (pD s) = true := by
    show D.eqv (.tup [.int s.1, .int s.2]) (.tup [.int s.1, .int s.2]) = true
    simp
  have o1 := ok_prs [s]
  have o1 : D.ok 20 (.lst [pD s]) = true := o1
  generalize p2D a = qa at *
  generalize p2D b = qb at *
  generalize pD s = qs at *
  generalize pD ((w : Int), (h : Int)) = sd at *
  generalize E.map enD = ED at *
  unfold φ_law_fault s_law_fault
  simp (disch := omega) [-ltTD_2, c0, c1, c2, hl7, ne, ia, ib, h3', lt, es, o1]
end My

namespace My
open PySem PySem.Spec L2 DL HU
/-! law k57: the marks -/
theorem num_inj {w h : Nat} {s t : P2} (hs : inYd w h s = true) (ht : inYd w h t = true) (e : s.2 * (w : Int) + s.1 = t.2 * (w : Int) + t.1) : s = t := by
  obtain ⟨⟨a1, a2⟩, a3, a4⟩ := of_decide_eq_true hs
  obtain ⟨⟨b1, b2⟩, b3, b4⟩ := of_decide_eq_true ht
  have d : s.2 = t.2 := by
    have e1 : (s.2 * (w : Int) + s.1) / (w : Int) = s.2 := by
      rw [Int.add_comm, Int.add_mul_ediv_right _ _ (by omega), Int.ediv_eq_zero_of_lt a1 a2, Int.zero_add]
    have e2 : (t.2 * (w : Int) + t.1) / (w : Int) = t.2 := by
      rw [Int.add_comm, Int.add_mul_ediv_right _ _ (by omega), Int.ediv_eq_zero_of_lt b1 b2, Int.zero_add]
    rw [← e1, ← e2, e]
  rw [d] at e
  exact Prod.ext (by omega) d

theorem lookQ_app {kn : Kn} {s : P2} {q : P2 × (Nat × Nat)} {v : Nat × Nat} (h : lookQ kn s = some v) : lookQ (kn ++ [q]) s = some v := by
  induction kn with
  | nil => cases h
  | cons a kn ih =>
    obtain ⟨t, u⟩ := a
    rw [List.cons_append]
    rw [lookQ] at h ⊢
    split at h
    · rename_i e; rw [if_pos e]; exact h
    · rename_i e; rw [if_neg e]; exact ih h
theorem lookQ_new {kn : Kn} {s : P2} {v : Nat × Nat} (h : lookQ kn s = none) : lookQ (kn ++ [(s, v)]) s = some v := by
  induction kn with
  | nil => rw [List.nil_append, lookQ, if_pos rfl]
  | cons a kn ih =>
    obtain ⟨t, u⟩ := a
    rw [List.cons_append]
    rw [lookQ] at h ⊢
    split at h
    · cases h
    · rename_i e; rw [if_neg e]; exact ih h
theorem alike_none : ∀ (E : List En) (kn : Kn), alikeO kn E = none → (∀ e ∈ E, ∀ v, lookQ kn e.2.2 = some v → v.2 = e.2.1) ∧ ∀ e ∈ E, ∀ f ∈ E, e.2.2 = f.2.2 → e.2.1 = f.2.1
  | [], _, _ => ⟨fun e he => (by cases he), fun e he => (by cases he)⟩
  | (k, j, s) :: E, kn, h => by
    rw [alikeO] at h
    cases hq : lookQ kn s with
    | none =>
      rw [hq] at h
      obtain ⟨i1, i2⟩ := alike_none E _ h
      have new : ∀ e ∈ E, e.2.2 = s → j = e.2.1 := fun e he z => i1 e he (k, j) (by rw [z]; exact lookQ_new hq)
      refine ⟨fun e he v hv => ?_, fun e he f hf z => ?_⟩
      · rcases List.mem_cons.mp he with rfl | he
        · rw [hq] at hv; cases hv
        · exact i1 e he v (lookQ_app hv)
      · rcases List.mem_cons.mp he with rfl | he
        · rcases List.mem_cons.mp hf with rfl | hf
          · rfl
          · exact new f hf z.symm
        · rcases List.mem_cons.mp hf with rfl | hf
          · exact (new e he z).symm
          · exact i2 e he f hf z
    | some v =>
      rw [hq] at h
      dsimp only at h
      by_cases hj : v.2 = j
      · rw [if_pos hj] at h
        obtain ⟨i1, i2⟩ := alike_none E kn h
        have new : ∀ e ∈ E, e.2.2 = s → j = e.2.1 := fun e he z => hj ▸ i1 e he v (by rw [z]; exact hq)
        refine ⟨fun e he u hu => ?_, fun e he f hf z => ?_⟩
        · rcases List.mem_cons.mp he with rfl | he
          · rw [hq] at hu; cases hu; exact hj
          · exact i1 e he u hu
        · rcases List.mem_cons.mp he with rfl | he
          · rcases List.mem_cons.mp hf with rfl | hf
            · rfl
            · exact new f hf z.symm
          · rcases List.mem_cons.mp hf with rfl | hf
            · exact (new e he z).symm
            · exact i2 e he f hf z
      · rw [if_neg hj] at h
        cases h
theorem ssI_ext {l m : List Int} (h : ∀ x, x ∈ l ↔ x ∈ m) : ssI l = ssI m := sorted_eq sorted_ssI sorted_ssI fun x => by rw [mem_ssI, mem_ssI, h]
theorem ssP_ext {l m : List (Int × Int)} (h : ∀ x, x ∈ l ↔ x ∈ m) : ssP l = ssP m := by
  unfold ssP
  rw [ssI_ext fun x => ?_]
  simp only [List.mem_map, h]
def kP (p : Int × Int) : List Key := [.inl p.1, .inl p.2]
def mIns (ks : List (Int × Int)) (p : Int × Int) : List (Int × Int) := if p ∈ ks then ks else ks ++ [p]
theorem mem_mIns {ks : List (Int × Int)} {p x : Int × Int} : x ∈ mIns ks p ↔ x ∈ ks ∨ x = p := by
  unfold mIns
  split
  · rename_i h
    exact ⟨.inl, fun z => z.elim id fun z => z ▸ h⟩
  · rw [List.mem_append, List.mem_singleton]
theorem mIns_len (ks : List (Int × Int)) (p : Int × Int) : (mIns ks p).length ≤ ks.length + 1 := by
  unfold mIns
  split <;> simp
def mQ (ks : List (Int × Int)) : Val := .dic ⟨none, false, true, ks.map kP⟩ (ks.map fun _ => D.bl true)
theorem kP_inj {p q : Int × Int} (h : kP p = kP q) : p = q := by
  unfold kP at h
  simp only [List.cons.injEq, Sum.inl.injEq, and_true] at h
  exact Prod.ext h.1 h.2
theorem putD_m (p : Int × Int) : ∀ ks : List (Int × Int), putD (ks.map kP) (ks.map fun _ => D.bl true) (kP p) (.bl true) = ((mIns ks p).map kP, (mIns ks p).map fun _ => D.bl true)
  | [] => rfl
  | q :: ks => by
    have ih := putD_m p ks
    rw [List.map_cons, List.map_cons, putD]
    by_cases e : q = p
    · subst e
      rw [if_pos rfl]
      unfold mIns
      rw [if_pos List.mem_cons_self]
      rfl
    · rw [if_neg fun z => e (kP_inj z), ih]
      have e2 : mIns (q :: ks) p = q :: mIns ks p := by
        unfold mIns
        by_cases h : p ∈ ks
        · rw [if_pos h, if_pos (List.mem_cons_of_mem _ h)]
        · rw [if_neg h, if_neg (fun z => (List.mem_cons.mp z).elim (fun z => e z.symm) h)]
          rfl
      rw [e2]; rfl
theorem put_m (ks : List (Int × Int)) (p : Int × Int) (i : Nat) (ρ : DEnv) (hl : ks.length < 1000) : dicPutK (some (mQ ks)) i (kP p) (.bl true) ρ = .nx (ρ.set i (some (mQ (mIns ks p)))) := by
  have e : dicPutK (some (mQ ks)) i (kP p) (.bl true) ρ = if true = true ∧ false = false ∧ (ks.map fun _ => D.bl true).length < 10000000 then .nx (ρ.set i (some (.dic ⟨none, false, true, (putD (ks.map kP) (ks.map fun _ => D.bl true) (kP p) (.bl true)).1⟩ (putD (ks.map kP) (ks.map fun _ => D.bl true) (kP p) (.bl true)).2))) else .bad := rfl
  rw [e, if_pos ⟨rfl, rfl, by rw [List.length_map]; omega⟩, putD_m]; rfl
theorem pairK_m : ∀ ks : List (Int × Int), pairK (ks.map kP) = some ks
  | [] => rfl
  | p :: ks => by
    have e : pairK ((p :: ks).map kP) = (pairK (ks.map kP)).map ((p.1, p.2) :: ·) := rfl
    rw [e, pairK_m ks]; rfl
def insAll (ks : List (Int × Int)) : List (Int × Int) → List (Int × Int)
  | [] => ks
  | p :: l => insAll (mIns ks p) l
theorem mem_insAll {x : Int × Int} : ∀ (l ks : List (Int × Int)), x ∈ insAll ks l ↔ x ∈ ks ∨ x ∈ l
  | [], ks => by simp [insAll]
  | p :: l, ks => by
    rw [insAll, mem_insAll l, mem_mIns, List.mem_cons]
    constructor
    · rintro ((h | h) | h)
      · exact .inl h
      · exact .inr (.inl h)
      · exact .inr (.inr h)
    · rintro (h | h | h)
      · exact .inl (.inl h)
      · exact .inl (.inr h)
      · exact .inr h
theorem insAll_len : ∀ (l ks : List (Int × Int)), (insAll ks l).length ≤ ks.length + l.length
  | [], ks => Nat.le_refl _
  | p :: l, ks => by
    have := insAll_len l (mIns ks p)
    have := mIns_len ks p
    rw [insAll, List.length_cons]; omega
section
variable (G : Gs) {w h : Nat} (hw : w ≤ 20) (hh : h ≤ 20) (M : List (Int × Int)) (hM : M.length ≤ 1000)
include hw hh hM
theorem marks_go (W : D) : ∀ (E : List En) (ks : List (Int × Int)), ks.length + E.length ≤ 999 → (∀ e ∈ E, inYd w h e.2.2 = true) → (∀ e ∈ E, M.find? (fun p => p.1 == (numE w e).1) = some (numE w e)) →
    loop (kSeq 3 (kCons (kName 4) (kCons (kName 5) (kCons (kName 6) kNil)))) (b_law_marks_1 G) [7, 4, 5, 6] (E.map enD) [some (.sh (.lst (M.map pT))), some (.sh W), some (.sh (pD ((w : Int), (h : Int)))), some (mQ ks), none, none, none, none] = .nx [some (.sh (.lst (M.map pT))), some (.sh W), some (.sh (pD ((w : Int), (h : Int)))), some (mQ (insAll ks (E.map (numE w)))), none, none, none, none]
  | [], ks, _, _, _ => rfl
  | (k, j, x, y) :: E, ks, hl, hin, hf => by
    rw [List.length_cons] at hl
    have hi := hin _ List.mem_cons_self
    have f0 := hf _ List.mem_cons_self
    have nE : numE w (k, j, x, y) = (y * (w : Int) + x, (j : Int)) := rfl
    have ta := turn_at_ret G (y * (w : Int) + x) M hM
    rw [nE] at f0
    rw [f0] at ta
    have ih := marks_go W E (mIns ks (y * (w : Int) + x, (j : Int))) (by have := mIns_len ks (y * (w : Int) + x, (j : Int)); omega) (fun e he => hin e (List.mem_cons_of_mem _ he)) (fun e he => hf e (List.mem_cons_of_mem _ he))
    rw [List.map_cons, List.map_cons, nE, insAll, ← ih]
    refine loop_one ?_
    have lo := law_on_eq G w h (x, y)
    have hi : inYd w h (x, y) = true := hi
    rw [hi, pD_mk] at lo
    have eD : enD (k, j, x, y) = .tup [.int (k : Int), .int (j : Int), .tup [.int x, .int y]] := rfl
    rw [eD]
    obtain ⟨⟨a1, a2⟩, a3, a4⟩ := of_decide_eq_true hi
    simp only at a1 a2 a3 a4
    have mu : mulD (.int y) (.int (w : Int)) = some (.sh (.int (y * (w : Int)))) := mulD_r (by omega) (by omega)
    have q := fun i ρ => put_m ks (y * (w : Int) + x, (j : Int)) i ρ (by omega)
    have kk : keysD [.int (y * (w : Int) + x), .int (j : Int)] = some (kP (y * (w : Int) + x, (j : Int))) := rfl
    have hs : pD ((w : Int), (h : Int)) = .tup [.int (w : Int), .int (h : Int)] := rfl
    rw [hs] at lo ⊢
    have gq : getV (some (some (mQ ks))) = some (mQ ks) := rfl
    generalize mQ (mIns ks (y * (w : Int) + x, (j : Int))) = d1 at *
    generalize hd0 : mQ ks = d0 at *
    generalize kP (y * (w : Int) + x, (j : Int)) = kp at *
    generalize M.map pT = MD at *
    simp (disch := omega) [b_law_marks_1, lo, mu, ta, kk, q, sDPutK, sKeyT]
end

theorem eqv_refl_prs : ∀ ps : List (Int × Int), eqvs (ps.map pT) (ps.map pT) = true
  | [] => by simp
  | p :: ps => by
    have e : D.eqv (pT p) (pT p) = true := by
      show D.eqv (.tup [.int p.1, .int p.2]) (.tup [.int p.1, .int p.2]) = true
      simp
    rw [List.map_cons, eqvs_cons, e, eqv_refl_prs ps]; rfl
theorem ok_pTs (ps : List (Int × Int)) : D.ok 20 (.lst (ps.map pT)) = true := by
  show (ps.map pT).all (D.ok 19) = true
  rw [List.all_map, List.all_eq_true]
  intro p _; rfl
theorem ok_pTs9 (ps : List (Int × Int)) : D.ok 19 (.lst (ps.map pT)) = true := by
  show (ps.map pT).all (D.ok 18) = true
  rw [List.all_map, List.all_eq_true]
  intro p _; rfl
theorem ssP_len (ps : List (Int × Int)) : (ssP ps).length ≤ ps.length := by
  unfold ssP
  rw [List.length_map]
  have q : ∀ l : List Int, (ssI l).length ≤ l.length := by
    intro l
    induction l with
    | nil => exact Nat.le_refl _
    | cons x l ih =>
      have r : ∀ l : List Int, (insI x l).length ≤ l.length + 1 := by
        intro l
        induction l with
        | nil => simp [insI]
        | cons y l ih =>
          unfold insI
          repeat' split
          all_goals (simp only [List.length_cons]; omega)
      have := r (ssI l)
      rw [ssI, List.length_cons]; omega
  have := q (ps.map pcode)
  rwa [List.length_map] at this
theorem find_mark {w h : Nat} (hb : w * h ≤ 400) {E : List En} (hin : ∀ e ∈ E, inYd w h e.2.2 = true) (h24 : ∀ e ∈ E, e.2.1 < 1000) (ha : alikeO [] E = none) {e : En} (he : e ∈ E) : (ssP (E.map (numE w))).find? (fun p => p.1 == (numE w e).1) = some (numE w e) := by
  have al := (alike_none E [] ha).2
  have hp : (E.map (numE w)).all pok = true := by
    rw [List.all_map, List.all_eq_true]
    intro e he
    exact numE_ok hb (hin e he) (h24 e he)
  have mem : ∀ p, p ∈ ssP (E.map (numE w)) ↔ p ∈ E.map (numE w) := fun p => ssP_mem hp
  have uni : ∀ p ∈ ssP (E.map (numE w)), p.1 = (numE w e).1 → p = numE w e := fun p hpm z => by
    obtain ⟨f, hf, rfl⟩ := List.mem_map.mp ((mem p).mp hpm)
    have es := num_inj (hin f hf) (hin e he) z
    exact Prod.ext z (by
      show (f.2.1 : Int) = (e.2.1 : Int)
      rw [al f hf e he es])
  cases hf : (ssP (E.map (numE w))).find? (fun p => p.1 == (numE w e).1) with
  | none =>
    have := List.find?_eq_none.mp hf _ ((mem _).mpr (List.mem_map_of_mem he))
    simp at this
  | some p =>
    have h1 := List.find?_some hf
    have h2 := List.mem_of_find?_eq_some hf
    rw [uni p h2 (by simpa using h1)]
theorem marks_eq (G : Gs) {w h : Nat} (hw : w ≤ 20) (hh : h ≤ 20) {E : List En} (hl : E.length ≤ 300) (hin : ∀ e ∈ E, inYd w h e.2.2 = true) (h24 : ∀ e ∈ E, e.2.1 < 1000) (ha : alikeO [] E = none) : φ_law_marks G [.lst ((ssP (E.map (numE w))).map pT), .lst (E.map enD), pD ((w : Int), (h : Int))] = .ret (.sh (.bl true)) := by
  have hb : w * h ≤ 400 := Nat.mul_le_mul hw hh
  have ml := ssP_len (E.map (numE w))
  rw [List.length_map] at ml
  have lp := marks_go G hw hh (ssP (E.map (numE w))) (by omega) (.lst (E.map enD)) E [] (by simp; omega) hin (fun e he => find_mark hb hin h24 ha he)
  have hp : (E.map (numE w)).all pok = true := by
    rw [List.all_map, List.all_eq_true]
    intro e he
    exact numE_ok hb (hin e he) (h24 e he)
  have so : sortOT (some (mQ (insAll [] (E.map (numE w))))) = some (ssP (E.map (numE w))) := by
    have e : sortOT (some (mQ (insAll [] (E.map (numE w))))) = (pairK ((insAll [] (E.map (numE w))).map kP)).bind fun ps => if ps.length ≤ 300 ∧ ps.all pok = true then some (ssP ps) else none := rfl
    have il := insAll_len (E.map (numE w)) []
    rw [List.length_map, List.length_nil] at il
    have mm : ∀ x, x ∈ insAll [] (E.map (numE w)) ↔ x ∈ E.map (numE w) := fun x => by rw [mem_insAll]; simp
    rw [e, pairK_m, Option.bind_some, if_pos ⟨by omega, by
      rw [List.all_eq_true] at hp ⊢
      exact fun x hx => hp x ((mm x).mp hx)⟩, ssP_ext mm]
  have e0 : (.dic (.new true) [] : Val) = mQ [] := rfl
  have hl7 : (E.map enD).length ≤ 10000000 := by rw [List.length_map]; omega
  have o1 := ok_pTs (ssP (E.map (numE w)))
  have ev := eqv_refl_prs (ssP (E.map (numE w)))
  have es : eqSO (.lst ((ssP (E.map (numE w))).map pT)) (some (ssP (E.map (numE w)))) = some (.sh (.bl true)) := by
    show (if D.ok 20 (.lst ((ssP (E.map (numE w))).map pT)) = true then some (Val.sh (.bl (D.eqv (.lst ((ssP (E.map (numE w))).map pT)) (.lst ((ssP (E.map (numE w))).map pT))))) else none) = _
    rw [if_pos o1, eqv_lst, ev]
  have ff : fzs (((ssP (E.map (numE w))).map pT).map .sh) = (ssP (E.map (numE w))).map pT := by simp
  generalize mQ (insAll [] (E.map (numE w))) = d1 at *
  generalize mQ [] = d0 at *
  generalize ssP (E.map (numE w)) = M at *
  generalize M.map pT = MD at *
  generalize E.map enD = ED at *
  generalize pD ((w : Int), (h : Int)) = sd at *
  unfold φ_law_marks s_law_marks
  simp (disch := omega) [e0, hl7, lp, so, es, ff]
theorem dialO_len (w h : Nat) (E : List En) : ∀ M, dialO w h E = .marks M → M.length ≤ E.length := fun M e => by
  unfold dialO at e
  split at e
  · cases e
  · split at e
    · cases e
    · cases e
      have := ssP_len (E.map (numE w))
      rwa [List.length_map] at this
/-- the first height whose dial has marks -/
def lpGo (f : Nat → Dl) : Nat → Nat → List Dl → (Nat × List (Int × Int) × List Dl) ⊕ List Dl
  | 0, _, fs => .inr fs
  | n + 1, a, fs => match f a with
    | .marks M => .inl (a, M, fs)
    | d => lpGo f n (a + 1) (fs ++ [d])
def isM : Dl → Prop
  | .marks _ => True
  | _ => False
theorem lpGo_m {f : Nat → Dl} {n a : Nat} {fs : List Dl} {M : List (Int × Int)} (e : f a = .marks M) : lpGo f (n + 1) a fs = .inl (a, M, fs) := by rw [lpGo, e]
theorem lpGo_n {f : Nat → Dl} {n a : Nat} {fs : List Dl} (e : ¬ isM (f a)) : lpGo f (n + 1) a fs = lpGo f n (a + 1) (fs ++ [f a]) := by
  rw [lpGo]
  cases h : f a with
  | marks M => exact absurd (by rw [h]; trivial) e
  | _ => rfl
/-- what is no mark is no marks' word -/
theorem dl_word {d : Dl} (h : ¬ isM d) : ∃ (wd : Str) (a b : D), dlD d = .tup [.str wd, a, b] ∧ ¬ wd = Str.ofString "marks" := by
  cases d with
  | marks M => exact absurd trivial h
  | off e => exact ⟨Str.ofString "off", _, _, rfl, by decide⟩
  | alike a b => exact ⟨Str.ofString "alike", _, _, rfl, by decide⟩
def fsV (fs : List Dl) : List Val := fs.map fun d => .sh (dlD d)
theorem fsV_fz (fs : List Dl) : fzs (fsV fs) = fs.map dlD := by
  unfold fsV
  rw [fzs_map, List.map_map]; rfl
def hiD (a : Nat) (M : List (Int × Int)) (fs : List Dl) : D := .tup [.str (Str.ofString "height"), .int (a : Int), .lst (M.map pT), .lst (fs.map dlD)]
section
variable (G : Gs) {w h : Nat} (hw : 1 ≤ w ∧ w ≤ 20) (hh : 1 ≤ h ∧ h ≤ 20) {ds : List Dy} (hd : ∀ d ∈ ds, DyOk d) (h12 : ds.length ≤ 12) (ts : List D) (x y : Int)
def dF (w h : Nat) (ds : List Dy) (x y : Int) (a : Nat) : Dl := dialO w h (endsL (x, y, (a : Int)) ds)
include hw hh hd h12
omit hw hh in
theorem E2 (a : Nat) : (endsL (x, y, (a : Int)) ds).length ≤ 288 := by
  have := endsL_len (x, y, (a : Int)) (ds := ds) (B := 24) fun d hd' => (hd d hd').2.1
  omega
theorem dF_dial (a : Nat) : φ_dial G [yardD G w h ts (ds.map dyD), .tup [.int x, .int y, .int (a : Int)]] = .ret (.sh (dlD (dF w h ds x y a))) := by
  have := E2 hd h12 x y a
  exact dial_eq G hw.1 hh.1 (Nat.mul_le_mul hw.2 hh.2) ts hd h12 (x, y, (a : Int)) (by omega)
theorem least_go (most : Int) : ∀ (n a : Nat) (fs : List Dl), fs.length + n ≤ 100 → ∃ ρ', loop (kName 5) (b_least_pointer_1 G) [6, 5] (rangeL (a : Int) n) [some (.sh (yardD G w h ts (ds.map dyD))), some (.sh (.int x)), some (.sh (.int y)), some (.sh (.int most)), some (.lst (fsV fs)), none, none] = match lpGo (dF w h ds x y) n a fs with
    | .inl q => .rt (.sh (hiD q.1 q.2.1 q.2.2)) ρ'
    | .inr fs' => .nx [some (.sh (yardD G w h ts (ds.map dyD))), some (.sh (.int x)), some (.sh (.int y)), some (.sh (.int most)), some (.lst (fsV fs')), none, none]
  | 0, a, fs, _ => ⟨[], by simp [lpGo]⟩
  | n + 1, a, fs, hl => by
    have e1 := dF_dial G hw hh hd h12 ts x y a
    have e9 : ((a : Int) + 1) = ((a + 1 : Nat) : Int) := by omega
    rw [rangeL_s, e9]
    have ih := fun fs' hl' => least_go most n (a + 1) fs' hl'
    generalize yardD G w h ts (ds.map dyD) = Y at *
    by_cases hm : isM (dF w h ds x y a)
    · cases hM : dF w h ds x y a with
      | off e => rw [hM] at hm; exact hm.elim
      | alike p q => rw [hM] at hm; exact hm.elim
      | marks M =>
        rw [lpGo_m hM]
        rw [hM] at e1
        have ev : dlD (.marks M) = .tup [.str (Str.ofString "marks"), .lst (M.map pT)] := rfl
        have ff := fsV_fz fs
        rw [ev] at e1
        unfold hiD
        dsimp only
        generalize M.map pT = MD at *
        generalize fs.map dlD = FD at *
        refine ⟨[some (.sh Y), some (.sh (.int x)), some (.sh (.int y)), some (.sh (.int most)), some (.sh (.lst FD)), some (.sh (.int (a : Int))), some (.sh (.tup [.str (Str.ofString "marks"), .lst MD]))], ?_⟩
        rw [loop_cons]
        generalize fsV fs = FV at *
        simp (disch := omega) [b_least_pointer_1, e1, ff]
    · rw [lpGo_n hm]
      obtain ⟨ρ', ih⟩ := ih (fs ++ [dF w h ds x y a]) (by rw [List.length_append, List.length_singleton]; omega)
      refine ⟨ρ', ?_⟩
      rw [← ih]
      refine loop_turn ?_
      obtain ⟨wd, d1, d2, ed, nw⟩ := dl_word hm
      rw [ed] at e1
      have ef : fsV (fs ++ [dF w h ds x y a]) = fsV fs ++ [.sh (.tup [.str wd, d1, d2])] := by
        unfold fsV
        rw [List.map_append, List.map_singleton, ed]
      have hl7 : (fsV fs).length < 10000000 := by unfold fsV; rw [List.length_map]; omega
      rw [ef]
      generalize fsV fs = FV at *
      simp (disch := omega) [b_least_pointer_1, e1, nw, hl7]
theorem least_eq (most : Nat) (hm : most ≤ 100) : φ_least_pointer G [yardD G w h ts (ds.map dyD), .int x, .int y, .int (most : Int)] = .ret (match lpGo (dF w h ds x y) most 1 [] with
    | .inl q => .sh (hiD q.1 q.2.1 q.2.2)
    | .inr fs => .sh (.tup [.str (Str.ofString "none"), .lst (fs.map dlD)])) := by
  obtain ⟨ρ', lp⟩ := least_go G hw hh hd h12 ts x y (most : Int) most 1 [] (by simpa using hm)
  have e0 : fsV [] = [] := rfl
  rw [e0] at lp
  have lp : loop (kName 5) (b_least_pointer_1 G) [6, 5] (rangeL 1 most) [some (.sh (yardD G w h ts (ds.map dyD))), some (.sh (.int x)), some (.sh (.int y)), some (.sh (.int (most : Int))), some (.lst []), none, none] = _ := lp
  have er : (((most : Int) + 1) - 1).toNat = most := by omega
  generalize yardD G w h ts (ds.map dyD) = Y at *
  unfold φ_least_pointer s_least_pointer
  cases hg : lpGo (dF w h ds x y) most 1 [] with
  | inl q =>
    rw [hg] at lp
    dsimp only at lp ⊢
    generalize hiD q.1 q.2.1 q.2.2 = R0 at *
    simp (disch := omega) [er, lp]
  | inr fs =>
    rw [hg] at lp
    have ff := fsV_fz fs
    dsimp only at lp ⊢
    generalize fs.map dlD = FD at *
    generalize fsV fs = FV at *
    simp (disch := omega) [er, lp, ff]
/-- what is told of a height without marks stands -/
theorem fault_is (a : Nat) (hm : ¬ isM (dF w h ds x y a)) : φ_law_fault G [dlD (dF w h ds x y a), .lst ((endsL (x, y, (a : Int)) ds).map enD), pD ((w : Int), (h : Int))] = .ret (.sh (.bl true)) := by
  have el := E2 hd h12 x y a
  have pw := ends_pw (x, y, (a : Int)) ds
  unfold dF at hm ⊢
  generalize endsL (x, y, (a : Int)) ds = E at *
  unfold dialO at hm ⊢
  cases ho : offO w h E with
  | some e => exact fault_off G w h E (by omega) ho
  | none =>
    rw [ho] at hm
    dsimp only at hm ⊢
    cases ha : alikeO [] E with
    | some q =>
      obtain ⟨a, b⟩ := q
      exact fault_alike G w h E (by omega) pw ho ha
    | none =>
      rw [ha] at hm
      exact absurd trivial hm
end
/-- the faults are those of the lesser heights -/
theorem lpGo_is {f : Nat → Dl} : ∀ (n a : Nat) (fs : List Dl), match lpGo f n a fs with
    | .inl q => (∃ m, m < n ∧ q.1 = a + m ∧ q.2.2 = fs ++ (List.range' a m).map f) ∧ f q.1 = .marks q.2.1 ∧ ∀ i, a ≤ i → i < q.1 → ¬ isM (f i)
    | .inr fs' => fs' = fs ++ (List.range' a n).map f ∧ ∀ i, a ≤ i → i < a + n → ¬ isM (f i)
  | 0, a, fs => ⟨by simp, fun i h1 h2 => absurd h2 (by omega)⟩
  | n + 1, a, fs => by
    by_cases hm : isM (f a)
    · cases hM : f a with
      | off e => rw [hM] at hm; exact hm.elim
      | alike p q => rw [hM] at hm; exact hm.elim
      | marks M =>
        rw [lpGo_m hM]
        exact ⟨⟨0, by omega, rfl, by simp⟩, hM, fun i h1 h2 => absurd h2 (by show ¬ i < a; omega)⟩
    · rw [lpGo_n hm]
      have ih := lpGo_is (f := f) n (a + 1) (fs ++ [f a])
      cases hg : lpGo f n (a + 1) (fs ++ [f a]) with
      | inl q =>
        rw [hg] at ih
        obtain ⟨⟨m, h1, h2, h3⟩, h4, h5⟩ := ih
        refine ⟨⟨m + 1, by omega, by omega, ?_⟩, h4, fun i i1 i2 => ?_⟩
        · rw [h3, List.append_assoc, List.range'_succ]; rfl
        · rcases Nat.lt_or_eq_of_le i1 with z | z
          · exact h5 i z i2
          · rw [← z]; exact hm
      | inr fs' =>
        rw [hg] at ih
        obtain ⟨h3, h5⟩ := ih
        refine ⟨?_, fun i i1 i2 => ?_⟩
        · rw [h3, List.append_assoc, List.range'_succ]; rfl
        · rcases Nat.lt_or_eq_of_le i1 with z | z
          · exact h5 i z (by omega)
          · rw [← z]; exact hm
end My

namespace My
open PySem PySem.Spec L2 DL HU
/-! law k57 -/
theorem marks_of {w h : Nat} {E : List En} {M : List (Int × Int)} (e : dialO w h E = .marks M) : offO w h E = none ∧ alikeO [] E = none ∧ M = ssP (E.map (numE w)) := by
  unfold dialO at e
  cases ho : offO w h E with
  | some a => rw [ho] at e; cases e
  | none =>
    rw [ho] at e
    cases ha : alikeO [] E with
    | some a => rw [ha] at e; cases e
    | none =>
      rw [ha] at e
      cases e
      exact ⟨rfl, rfl, rfl⟩
abbrev stF (ns : List Int) (sd : D) (DD : List D) (ts : List D) (Y : D) (x y most : Int) (fd : D) (FL : List D) : DEnv := [some (.sh (scrI ns)), some (.sh sd), some (.sh (.lst DD)), some (.sh (.lst ts)), some (.sh Y), some (.sh (.int x)), some (.sh (.int y)), some (.sh (.int most)), some (.sh fd), some (.sh (.lst FL)), none, none, none, none]
theorem faults_go (G : Gs) (ns : List Int) {w h : Nat} (hw : 1 ≤ w ∧ w ≤ 20) (hh : 1 ≤ h ∧ h ≤ 20) {ds : List Dy} (hd : ∀ d ∈ ds, DyOk d) (h12 : ds.length ≤ 12) (ts : List D) (x y most : Int) (Y fd : D) (m : Nat) (hm : m ≤ 100) (hf : ∀ i, 1 ≤ i → i < 1 + m → ¬ isM (dF w h ds x y i)) :
    loop (kName 10) (b_law_2 G) [10] (rangeL 1 m) (stF ns (pD ((w : Int), (h : Int))) (ds.map dyD) ts Y x y most fd (((List.range' 1 m).map (dF w h ds x y)).map dlD)) = .nx (stF ns (pD ((w : Int), (h : Int))) (ds.map dyD) ts Y x y most fd (((List.range' 1 m).map (dF w h ds x y)).map dlD)) := by
  have := loop_ixA (g := kName 10) (t := b_law_2 G) (is := [10]) (fun _ => stF ns (pD ((w : Int), (h : Int))) (ds.map dyD) ts Y x y most fd (((List.range' 1 m).map (dF w h ds x y)).map dlD)) m 1 (fun i h1 h2 => by
    have e1 := law_ends_eq G hd h12 (x, y, (i : Int))
    have e2 := fault_is G hw hh hd h12 x y i (hf i h1 h2)
    have ep : p3D (x, y, (i : Int)) = .tup [.int x, .int y, .int (i : Int)] := rfl
    rw [ep] at e1
    have hix : (((List.range' 1 m).map (dF w h ds x y)).map dlD)[((i : Int) - 1).toNat]? = some (dlD (dF w h ds x y i)) := by
      rw [show ((i : Int) - 1).toNat = i - 1 by omega, List.getElem?_map, List.getElem?_map, List.getElem?_range' (by omega)]
      show some (dlD (dF w h ds x y (1 + 1 * (i - 1)))) = _
      rw [show 1 + 1 * (i - 1) = i by omega]
    have hix2 := hix
    rw [show ((i : Int) - 1).toNat = i - 1 by omega] at hix2
    generalize dlD (dF w h ds x y i) = fi at *
    generalize ((List.range' 1 m).map (dF w h ds x y)).map dlD = FL at *
    generalize pD ((w : Int), (h : Int)) = sd at *
    generalize ds.map dyD = DD at *
    generalize (endsL (x, y, (i : Int)) ds).map enD = ED at *
    simp (disch := omega) [b_law_2, e1, e2, hix, hix2])
  exact this
theorem law_true (G : Gs) (ns : List Int) (hl : ns.length ≤ 63) : φ_law G [scrI ns] = .ret (.sh (.bl true)) := by
  have c0 := cell_eq G ns 0 (by omega)
  have c1 := cell_eq G ns 1 (by omega)
  have c2 := cell_eq G ns 2 (by omega)
  have c3 := cell_eq G ns 3 (by omega)
  obtain ⟨w, h, hw, hh, es⟩ := sides_eq G (cellI ns 0)
  obtain ⟨ds, d12, hd, ed⟩ := ldays_eq G ns 4 (by omega)
  obtain ⟨ts, ht, et⟩ := standing_eq G (cellI ns 0 / 7)
  have ey := yinit2 G w h ts ds (by omega)
  have eY : yardD G w h ts (ds.map dyD) = .ins G.c_Yard [Str.ofString "width", Str.ofString "height", Str.ofString "things", Str.ofString "days"] [D.int w, D.int h, D.lst ts, D.lst (ds.map dyD)] := rfl
  have hs : pD ((w : Int), (h : Int)) = .tup [.int (w : Int), .int (h : Int)] := rfl
  have ec := comp_mapV (g := kSeq 3 (kCons (kName 11) (kCons (kName 12) (kCons (kName 13) kNil)))) (f := e_law_1 G) (is := [11, 12, 13]) (ρ := [some (.sh (scrI ns)), some (.sh (pD ((w : Int), (h : Int)))), some (.sh (.lst (ds.map dyD))), some (.sh (.lst ts)), none, none, none, none, none, none, none, none, none, none]) dyD (fun d => .tup [.sh (.str d.name), .sh (.int d.many), .lst ((d.turns.map tnD).map .sh)]) ds [] (fun d hd => by
    unfold dyD
    generalize pD ((w : Int), (h : Int)) = sd
    generalize d.turns.map tnD = T
    simp (disch := omega) [e_law_1])
  rw [List.nil_append] at ec
  have hf : fzs (ds.map fun d => Val.tup [.sh (.str d.name), .sh (.int d.many), .lst ((d.turns.map tnD).map .sh)]) = ds.map dyD := by
    rw [fzs_map, List.map_map]
    refine List.map_congr_left fun d _ => ?_
    show Val.fz (.tup [.sh (.str d.name), .sh (.int d.many), .lst ((d.turns.map tnD).map .sh)]) = dyD d
    unfold dyD
    generalize d.turns.map tnD = T
    simp
  have hl7 : (ds.map dyD).length ≤ 10000000 := by rw [List.length_map]; omega
  obtain ⟨x, ex⟩ : ∃ x, x = cellI ns 1 % 19 - 4 := ⟨_, rfl⟩
  obtain ⟨y, ey1⟩ : ∃ y, y = cellI ns 2 % 19 - 4 := ⟨_, rfl⟩
  obtain ⟨most, hm, em⟩ : ∃ most : Nat, most ≤ 100 ∧ (most : Int) = 1 + cellI ns 3 % 8 := ⟨(1 + cellI ns 3 % 8).toNat, by omega, by omega⟩
  have e1 := least_eq G hw hh hd d12 ts x y most hm
  have li := lpGo_is (f := dF w h ds x y) most 1 []
  have fg := fun Y fd m hm hf => faults_go G ns hw hh hd d12 ts x y (most : Int) Y fd m hm hf
  have dd := fun a => dF_dial G hw hh hd d12 ts x y a
  have le := fun a : Nat => law_ends_eq G hd d12 (x, y, (a : Int))
  cases hg : lpGo (dF w h ds x y) most 1 [] with
  | inr fs =>
    rw [hg] at e1 li
    obtain ⟨l1, l2⟩ := li
    rw [List.nil_append] at l1
    subst l1
    have lp := fg (yardD G w h ts (ds.map dyD)) (.tup [.str (Str.ofString "none"), .lst (((List.range' 1 most).map (dF w h ds x y)).map dlD)]) most hm l2
    dsimp only at e1
    have fl : (((List.range' 1 most).map (dF w h ds x y)).map dlD).length = most := by simp
    have er : (((most : Int) + 1) - 1).toNat = most := by omega
    generalize ((List.range' 1 most).map (dF w h ds x y)).map dlD = FL at *
    have ix : ixD (.tup [.str (Str.ofString "none"), .lst FL]) (.int (-1)) = some (.sh (.lst FL)) := id rfl
    rw [eY] at e1 lp
    rw [hs] at es ec lp
    unfold stF at lp
    generalize (ds.map fun d => Val.tup [.sh (.str d.name), .sh (.int d.many), .lst ((d.turns.map tnD).map .sh)]) = DV at *
    generalize ds.map dyD = DD at *
    generalize cellI ns 0 = z0 at *
    generalize cellI ns 1 = z1 at *
    generalize cellI ns 2 = z2 at *
    generalize cellI ns 3 = z3 at *
    unfold φ_law s_law
    simp (disch := omega) [c0, c1, c2, c3, es, ed, et, ec, hf, hl7, ey, ← ex, ← ey1, ← em, e1, fl, er, lp, ix]
  | inl q =>
    rw [hg] at e1 li
    obtain ⟨a, M, fs⟩ := q
    obtain ⟨⟨m, m1, m2, m3⟩, l2, l3⟩ := li
    simp only at m2 m3 l2 l3 e1
    rw [List.nil_append] at m3
    subst m3 m2
    have lp := fg (yardD G w h ts (ds.map dyD)) (hiD (1 + m) M ((List.range' 1 m).map (dF w h ds x y))) m (by omega) l3
    have dm := dd (1 + m)
    have lm := le (1 + m)
    rw [l2] at dm
    have hdl : dialO w h (endsL (x, y, ((1 + m : Nat) : Int)) ds) = .marks M := l2
    obtain ⟨o1, o2, o3⟩ := marks_of hdl
    have el := E2 hd d12 x y (1 + m)
    have mk := marks_eq G hw.2 hh.2 (E := endsL (x, y, ((1 + m : Nat) : Int)) ds) (by omega) (off_none o1) (fun e he => by have := (ends_turn hd he).2; omega) o2
    rw [← o3] at mk
    have fl : (((List.range' 1 m).map (dF w h ds x y)).map dlD).length = m := by simp
    have er : (((m : Int) + 1) - 1).toNat = m := by omega
    have ok9 := ok_pTs9 M
    have ev := eqv_refl_prs M
    have e4 : dlD (.marks M) = .tup [.str (Str.ofString "marks"), .lst (M.map pT)] := rfl
    have neq : neD (dlD (.marks M)) (.tup [.str (Str.ofString "marks"), .lst (M.map pT)]) = some (.sh (.bl false)) := by
      have k1 : D.ok 20 (.tup [.str (Str.ofString "marks"), .lst (M.map pT)]) = true := by
        show (D.ok 19 (.str (Str.ofString "marks")) && (D.ok 19 (.lst (M.map pT)) && true)) = true
        rw [ok9]; rfl
      rw [e4, neD_ap, k1]
      simp [ev]
    have ep : p3D (x, y, ((1 + m : Nat) : Int)) = .tup [.int x, .int y, .int ((1 + m : Nat) : Int)] := rfl
    rw [ep] at lm
    have e5 : ((1 + m : Nat) : Int) = 1 + (m : Int) := by omega
    rw [e5] at lm dm mk
    unfold hiD at e1 lp
    rw [e5] at e1 lp
    have mlt : ¬ (1 + (m : Int)) > (most : Int) := by omega
    have mlt2 : ¬ (most : Int) < 1 + (m : Int) := by omega
    have nn : ¬ Str.ofString "height" = Str.ofString "none" := by decide
    generalize ((List.range' 1 m).map (dF w h ds x y)).map dlD = FL at *
    generalize dlD (.marks M) = dM at *
    generalize (endsL (x, y, 1 + (m : Int)) ds).map enD = ED at *
    generalize M.map pT = MD at *
    have ix : ixD (.tup [.str (Str.ofString "height"), .int (1 + (m : Int)), .lst MD, .lst FL]) (.int (-1)) = some (.sh (.lst FL)) := id rfl
    rw [eY] at e1 lp dm
    rw [hs] at es ec lp mk
    unfold stF at lp
    generalize (ds.map fun d => Val.tup [.sh (.str d.name), .sh (.int d.many), .lst ((d.turns.map tnD).map .sh)]) = DV at *
    generalize ds.map dyD = DD at *
    generalize cellI ns 0 = z0 at *
    generalize cellI ns 1 = z1 at *
    generalize cellI ns 2 = z2 at *
    generalize cellI ns 3 = z3 at *
    have add1 : (m : Int) + 1 = 1 + (m : Int) := by omega
    have er2 : (1 + (m : Int)).toNat - 1 = m := by omega
    have n1 : neD (.str (Str.ofString "height")) (.str (Str.ofString "height")) = some (.sh (.bl false)) := by simp
    have n2 : neD (.int (1 + (m : Int))) (.int (1 + (m : Int))) = some (.sh (.bl false)) := by simp
    unfold φ_law s_law
    simp (disch := omega) [-neD_ap, c0, c1, c2, c3, es, ed, et, ec, hf, hl7, ey, ← ex, ← ey1, ← em, e1, fl, er, lp, nn, dm, lm, neq, mk, mlt, mlt2, add1, er2, n1, n2, ix]
end My

namespace My
open PySem PySem.Spec L2 DL
theorem all_mk {l : PySem.W.OpenLaw} {w : World} {K : PySem.W.Frag} {h : Heap} {mg : Str → Option Value} {fa f0 f1 f2 f3 f4 f5 f6 f7 f8 f9 f10 f11 f12 f13 f14 f15 f16 f17 f18 f19 f20 f21 f22 f23 f24 f25 f26 : Addr} (X : K.In h) (GG : h.Ns mainGlobals mg) (hfa : mg "law" = some (.ref fa))
    {od0 an0 od1 an1 od2 an2 od3 an3 od4 an4 od5 an5 od6 an6 od7 an7 od8 an8 od9 an9 od10 an10 od11 an11 od12 an12 od13 an13 od14 an14 od15 an15 od16 an16 od17 an17 od18 an18 od19 an19 od20 an20 od21 an21 od22 an22 od23 an23 od24 an24 od25 an25 od26 an26 : Option Addr} {sl0 sl1 sl2 sl3 sl4 sl5 sl6 sl7 sl8 sl9 sl10 sl11 sl12 sl13 sl14 sl15 sl16 sl17 sl18 sl19 sl20 sl21 sl22 sl23 sl24 sl25 sl26 : Array (Option Value)} {oc0 kV0 dc0 pm0 cd0 ct0 oc1 kV1 dc1 pm1 cd1 ct1 oc2 kV2 dc2 pm2 cd2 ct2 oc3 kV3 dc3 pm3 cd3 ct3 oc4 kV4 dc4 pm4 cd4 ct4 oc5 kV5 dc5 pm5 cd5 ct5 oc6 kV6 dc6 pm6 cd6 ct6 oc7 kV7 dc7 pm7 cd7 ct7 oc8 kV8 dc8 pm8 cd8 ct8 oc9 kV9 dc9 pm9 cd9 ct9 oc10 kV10 dc10 pm10 cd10 ct10 oc11 kV11 dc11 pm11 cd11 ct11 oc12 kV12 dc12 pm12 cd12 ct12 oc13 kV13 dc13 pm13 cd13 ct13 oc14 kV14 dc14 pm14 cd14 ct14 oc15 kV15 dc15 pm15 cd15 ct15 oc16 kV16 dc16 pm16 cd16 ct16 oc17 kV17 dc17 pm17 cd17 ct17 oc18 kV18 dc18 pm18 cd18 ct18 oc19 kV19 dc19 pm19 cd19 ct19 oc20 kV20 dc20 pm20 cd20 ct20 oc21 kV21 dc21 pm21 cd21 ct21 oc22 kV22 dc22 pm22 cd22 ct22 oc23 kV23 dc23 pm23 cd23 ct23 oc24 kV24 dc24 pm24 cd24 ct24 oc25 kV25 dc25 pm25 cd25 ct25 oc26 kV26 dc26 pm26 cd26 ct26 : Value}
    {k_Post k_Fence k_Sail k_Cloth k_House k_Yard : Addr}
    (nC_Post : PySem.W.nsIn K mainGlobals "Post" = some (some (.ref k_Post)))
    (nC_Fence : PySem.W.nsIn K mainGlobals "Fence" = some (some (.ref k_Fence)))
    (nC_Sail : PySem.W.nsIn K mainGlobals "Sail" = some (some (.ref k_Sail)))
    (nC_Cloth : PySem.W.nsIn K mainGlobals "Cloth" = some (some (.ref k_Cloth)))
    (nC_House : PySem.W.nsIn K mainGlobals "House" = some (some (.ref k_House)))
    (nC_Yard : PySem.W.nsIn K mainGlobals "Yard" = some (some (.ref k_Yard)))
    (at_Post_init : PySem.W.findIn K (.ref k_Post) "__init__" = some (some (.ref f4)))
    (at_Fence_init : PySem.W.findIn K (.ref k_Fence) "__init__" = some (some (.ref f4)))
    (at_Sail_init : PySem.W.findIn K (.ref k_Sail) "__init__" = some (some (.ref f4)))
    (at_Cloth_init : PySem.W.findIn K (.ref k_Cloth) "__init__" = some (some (.ref f4)))
    (at_House_init : PySem.W.findIn K (.ref k_House) "__init__" = some (some (.ref f4)))
    (at_Yard_init : PySem.W.findIn K (.ref k_Yard) "__init__" = some (some (.ref f7)))
    (a0 : PySem.W.nsIn K mainGlobals "cast" = some (some (.ref f0)))
    (l0 : K.lookup f0 = some ⟨oc0, od0, .func (PySem.W.fnOf "cast" "cast" (defArgs st_cast) (defBody st_cast) (defScope st_cast) .none kV0 dc0 pm0 an0 cd0 ct0), sl0⟩)
    (c0 : PySem.W.codeIn K cd0 "cast" = true)
    (k0 : PySem.W.keepIn K (.ref f0) = true)
    (a1 : PySem.W.nsIn K mainGlobals "first_off" = some (some (.ref f1)))
    (l1 : K.lookup f1 = some ⟨oc1, od1, .func (PySem.W.fnOf "first_off" "first_off" (defArgs st_first_off) (defBody st_first_off) (defScope st_first_off) .none kV1 dc1 pm1 an1 cd1 ct1), sl1⟩)
    (c1 : PySem.W.codeIn K cd1 "first_off" = true)
    (k1 : PySem.W.keepIn K (.ref f1) = true)
    (a2 : PySem.W.nsIn K mainGlobals "first_alike" = some (some (.ref f2)))
    (l2 : K.lookup f2 = some ⟨oc2, od2, .func (PySem.W.fnOf "first_alike" "first_alike" (defArgs st_first_alike) (defBody st_first_alike) (defScope st_first_alike) .none kV2 dc2 pm2 an2 cd2 ct2), sl2⟩)
    (c2 : PySem.W.codeIn K cd2 "first_alike" = true)
    (k2 : PySem.W.keepIn K (.ref f2) = true)
    (a3 : PySem.W.nsIn K mainGlobals "turn_at" = some (some (.ref f3)))
    (l3 : K.lookup f3 = some ⟨oc3, od3, .func (PySem.W.fnOf "turn_at" "turn_at" (defArgs st_turn_at) (defBody st_turn_at) (defScope st_turn_at) .none kV3 dc3 pm3 an3 cd3 ct3), sl3⟩)
    (c3 : PySem.W.codeIn K cd3 "turn_at" = true)
    (k3 : PySem.W.keepIn K (.ref f3) = true)
    (i4 : PySem.W.isFn K (.ref f4) = true)
    (l4 : K.lookup f4 = some ⟨oc4, od4, .func (PySem.W.fnOf "__init__" "Thing.__init__" (defArgs st_Thing_init) (defBody st_Thing_init) (defScope st_Thing_init) .none kV4 dc4 pm4 an4 cd4 ct4), sl4⟩)
    (c4 : PySem.W.codeIn K cd4 "Thing.__init__" = true)
    (k4 : PySem.W.keepIn K (.ref f4) = true)
    (a5 : PySem.W.nsIn K mainGlobals "are_places" = some (some (.ref f5)))
    (l5 : K.lookup f5 = some ⟨oc5, od5, .func (PySem.W.fnOf "are_places" "are_places" (defArgs st_are_places) (defBody st_are_places) (defScope st_are_places) .none kV5 dc5 pm5 an5 cd5 ct5), sl5⟩)
    (c5 : PySem.W.codeIn K cd5 "are_places" = true)
    (k5 : PySem.W.keepIn K (.ref f5) = true)
    (a6 : PySem.W.nsIn K mainGlobals "is_height" = some (some (.ref f6)))
    (l6 : K.lookup f6 = some ⟨oc6, od6, .func (PySem.W.fnOf "is_height" "is_height" (defArgs st_is_height) (defBody st_is_height) (defScope st_is_height) .none kV6 dc6 pm6 an6 cd6 ct6), sl6⟩)
    (c6 : PySem.W.codeIn K cd6 "is_height" = true)
    (k6 : PySem.W.keepIn K (.ref f6) = true)
    (i7 : PySem.W.isFn K (.ref f7) = true)
    (l7 : K.lookup f7 = some ⟨oc7, od7, .func (PySem.W.fnOf "__init__" "Yard.__init__" (defArgs st_Yard_init) (defBody st_Yard_init) (defScope st_Yard_init) .none kV7 dc7 pm7 an7 cd7 ct7), sl7⟩)
    (c7 : PySem.W.codeIn K cd7 "Yard.__init__" = true)
    (k7 : PySem.W.keepIn K (.ref f7) = true)
    (a8 : PySem.W.nsIn K mainGlobals "_law_cell" = some (some (.ref f8)))
    (l8 : K.lookup f8 = some ⟨oc8, od8, .func (PySem.W.fnOf "_law_cell" "_law_cell" (defArgs st_law_cell) (defBody st_law_cell) (defScope st_law_cell) .none kV8 dc8 pm8 an8 cd8 ct8), sl8⟩)
    (c8 : PySem.W.codeIn K cd8 "_law_cell" = true)
    (k8 : PySem.W.keepIn K (.ref f8) = true)
    (a9 : PySem.W.nsIn K mainGlobals "_law_churn" = some (some (.ref f9)))
    (l9 : K.lookup f9 = some ⟨oc9, od9, .func (PySem.W.fnOf "_law_churn" "_law_churn" (defArgs st_law_churn) (defBody st_law_churn) (defScope st_law_churn) .none kV9 dc9 pm9 an9 cd9 ct9), sl9⟩)
    (c9 : PySem.W.codeIn K cd9 "_law_churn" = true)
    (k9 : PySem.W.keepIn K (.ref f9) = true)
    (a10 : PySem.W.nsIn K mainGlobals "_law_turn" = some (some (.ref f10)))
    (l10 : K.lookup f10 = some ⟨oc10, od10, .func (PySem.W.fnOf "_law_turn" "_law_turn" (defArgs st_law_turn) (defBody st_law_turn) (defScope st_law_turn) .none kV10 dc10 pm10 an10 cd10 ct10), sl10⟩)
    (c10 : PySem.W.codeIn K cd10 "_law_turn" = true)
    (k10 : PySem.W.keepIn K (.ref f10) = true)
    (a11 : PySem.W.nsIn K mainGlobals "_law_sides" = some (some (.ref f11)))
    (l11 : K.lookup f11 = some ⟨oc11, od11, .func (PySem.W.fnOf "_law_sides" "_law_sides" (defArgs st_law_sides) (defBody st_law_sides) (defScope st_law_sides) .none kV11 dc11 pm11 an11 cd11 ct11), sl11⟩)
    (c11 : PySem.W.codeIn K cd11 "_law_sides" = true)
    (k11 : PySem.W.keepIn K (.ref f11) = true)
    (a12 : PySem.W.nsIn K mainGlobals "_law_on" = some (some (.ref f12)))
    (l12 : K.lookup f12 = some ⟨oc12, od12, .func (PySem.W.fnOf "_law_on" "_law_on" (defArgs st_law_on) (defBody st_law_on) (defScope st_law_on) .none kV12 dc12 pm12 an12 cd12 ct12), sl12⟩)
    (c12 : PySem.W.codeIn K cd12 "_law_on" = true)
    (k12 : PySem.W.keepIn K (.ref f12) = true)
    (a13 : PySem.W.nsIn K mainGlobals "end_of" = some (some (.ref f13)))
    (l13 : K.lookup f13 = some ⟨oc13, od13, .func (PySem.W.fnOf "end_of" "end_of" (defArgs st_end_of) (defBody st_end_of) (defScope st_end_of) .none kV13 dc13 pm13 an13 cd13 ct13), sl13⟩)
    (c13 : PySem.W.codeIn K cd13 "end_of" = true)
    (k13 : PySem.W.keepIn K (.ref f13) = true)
    (a14 : PySem.W.nsIn K mainGlobals "_law_row" = some (some (.ref f14)))
    (l14 : K.lookup f14 = some ⟨oc14, od14, .func (PySem.W.fnOf "_law_row" "_law_row" (defArgs st_law_row) (defBody st_law_row) (defScope st_law_row) .none kV14 dc14 pm14 an14 cd14 ct14), sl14⟩)
    (c14 : PySem.W.codeIn K cd14 "_law_row" = true)
    (k14 : PySem.W.keepIn K (.ref f14) = true)
    (a15 : PySem.W.nsIn K mainGlobals "_law_fault" = some (some (.ref f15)))
    (l15 : K.lookup f15 = some ⟨oc15, od15, .func (PySem.W.fnOf "_law_fault" "_law_fault" (defArgs st_law_fault) (defBody st_law_fault) (defScope st_law_fault) .none kV15 dc15 pm15 an15 cd15 ct15), sl15⟩)
    (c15 : PySem.W.codeIn K cd15 "_law_fault" = true)
    (k15 : PySem.W.keepIn K (.ref f15) = true)
    (a16 : PySem.W.nsIn K mainGlobals "_law_marks" = some (some (.ref f16)))
    (l16 : K.lookup f16 = some ⟨oc16, od16, .func (PySem.W.fnOf "_law_marks" "_law_marks" (defArgs st_law_marks) (defBody st_law_marks) (defScope st_law_marks) .none kV16 dc16 pm16 an16 cd16 ct16), sl16⟩)
    (c16 : PySem.W.codeIn K cd16 "_law_marks" = true)
    (k16 : PySem.W.keepIn K (.ref f16) = true)
    (a17 : PySem.W.nsIn K mainGlobals "ends_of" = some (some (.ref f17)))
    (l17 : K.lookup f17 = some ⟨oc17, od17, .func (PySem.W.fnOf "ends_of" "ends_of" (defArgs st_ends_of) (defBody st_ends_of) (defScope st_ends_of) .none kV17 dc17 pm17 an17 cd17 ct17), sl17⟩)
    (c17 : PySem.W.codeIn K cd17 "ends_of" = true)
    (k17 : PySem.W.keepIn K (.ref f17) = true)
    (a18 : PySem.W.nsIn K mainGlobals "cloth_of" = some (some (.ref f18)))
    (l18 : K.lookup f18 = some ⟨oc18, od18, .func (PySem.W.fnOf "cloth_of" "cloth_of" (defArgs st_cloth_of) (defBody st_cloth_of) (defScope st_cloth_of) .none kV18 dc18 pm18 an18 cd18 ct18), sl18⟩)
    (c18 : PySem.W.codeIn K cd18 "cloth_of" = true)
    (k18 : PySem.W.keepIn K (.ref f18) = true)
    (a19 : PySem.W.nsIn K mainGlobals "stretched" = some (some (.ref f19)))
    (l19 : K.lookup f19 = some ⟨oc19, od19, .func (PySem.W.fnOf "stretched" "stretched" (defArgs st_stretched) (defBody st_stretched) (defScope st_stretched) .none kV19 dc19 pm19 an19 cd19 ct19), sl19⟩)
    (c19 : PySem.W.codeIn K cd19 "stretched" = true)
    (k19 : PySem.W.keepIn K (.ref f19) = true)
    (a20 : PySem.W.nsIn K mainGlobals "_law_days" = some (some (.ref f20)))
    (l20 : K.lookup f20 = some ⟨oc20, od20, .func (PySem.W.fnOf "_law_days" "_law_days" (defArgs st_law_days) (defBody st_law_days) (defScope st_law_days) .none kV20 dc20 pm20 an20 cd20 ct20), sl20⟩)
    (c20 : PySem.W.codeIn K cd20 "_law_days" = true)
    (k20 : PySem.W.keepIn K (.ref f20) = true)
    (a21 : PySem.W.nsIn K mainGlobals "_law_ends" = some (some (.ref f21)))
    (l21 : K.lookup f21 = some ⟨oc21, od21, .func (PySem.W.fnOf "_law_ends" "_law_ends" (defArgs st_law_ends) (defBody st_law_ends) (defScope st_law_ends) .none kV21 dc21 pm21 an21 cd21 ct21), sl21⟩)
    (c21 : PySem.W.codeIn K cd21 "_law_ends" = true)
    (k21 : PySem.W.keepIn K (.ref f21) = true)
    (a22 : PySem.W.nsIn K mainGlobals "dial" = some (some (.ref f22)))
    (l22 : K.lookup f22 = some ⟨oc22, od22, .func (PySem.W.fnOf "dial" "dial" (defArgs st_dial) (defBody st_dial) (defScope st_dial) .none kV22 dc22 pm22 an22 cd22 ct22), sl22⟩)
    (c22 : PySem.W.codeIn K cd22 "dial" = true)
    (k22 : PySem.W.keepIn K (.ref f22) = true)
    (a23 : PySem.W.nsIn K mainGlobals "thing_of" = some (some (.ref f23)))
    (l23 : K.lookup f23 = some ⟨oc23, od23, .func (PySem.W.fnOf "thing_of" "thing_of" (defArgs st_thing_of) (defBody st_thing_of) (defScope st_thing_of) .none kV23 dc23 pm23 an23 cd23 ct23), sl23⟩)
    (c23 : PySem.W.codeIn K cd23 "thing_of" = true)
    (k23 : PySem.W.keepIn K (.ref f23) = true)
    (a24 : PySem.W.nsIn K mainGlobals "least_pointer" = some (some (.ref f24)))
    (l24 : K.lookup f24 = some ⟨oc24, od24, .func (PySem.W.fnOf "least_pointer" "least_pointer" (defArgs st_least_pointer) (defBody st_least_pointer) (defScope st_least_pointer) .none kV24 dc24 pm24 an24 cd24 ct24), sl24⟩)
    (c24 : PySem.W.codeIn K cd24 "least_pointer" = true)
    (k24 : PySem.W.keepIn K (.ref f24) = true)
    (a25 : PySem.W.nsIn K mainGlobals "_law_standing" = some (some (.ref f25)))
    (l25 : K.lookup f25 = some ⟨oc25, od25, .func (PySem.W.fnOf "_law_standing" "_law_standing" (defArgs st_law_standing) (defBody st_law_standing) (defScope st_law_standing) .none kV25 dc25 pm25 an25 cd25 ct25), sl25⟩)
    (c25 : PySem.W.codeIn K cd25 "_law_standing" = true)
    (k25 : PySem.W.keepIn K (.ref f25) = true)
    (a26 : PySem.W.nsIn K mainGlobals "law" = some (some (.ref f26)))
    (l26 : K.lookup f26 = some ⟨oc26, od26, .func (PySem.W.fnOf "law" "law" (defArgs st_law) (defBody st_law) (defScope st_law) .none kV26 dc26 pm26 an26 cd26 ct26), sl26⟩)
    (c26 : PySem.W.codeIn K cd26 "law" = true)
    (k26 : PySem.W.keepIn K (.ref f26) = true)
    (pg_Post : PySem.W.plainGet K k_Post Str.empty = true)
    (hd_Post : PySem.W.hasDictIn K k_Post = true)
    (po_Post : PySem.W.plainOver K k_Post = true)
    (sa_Post : PySem.W.findIn K (.ref k_Post) "__setattr__" = some (some (.builtin "object.__setattr__")))
    (mk_Post : PySem.W.makesIn K k_Post = true)
    (kc_Post : PySem.W.keepIn K (.ref k_Post) = true)
    (no_Post_numbers : PySem.W.findIn K (.ref k_Post) "numbers" = some none)
    (pg_Fence : PySem.W.plainGet K k_Fence Str.empty = true)
    (hd_Fence : PySem.W.hasDictIn K k_Fence = true)
    (po_Fence : PySem.W.plainOver K k_Fence = true)
    (sa_Fence : PySem.W.findIn K (.ref k_Fence) "__setattr__" = some (some (.builtin "object.__setattr__")))
    (mk_Fence : PySem.W.makesIn K k_Fence = true)
    (kc_Fence : PySem.W.keepIn K (.ref k_Fence) = true)
    (no_Fence_numbers : PySem.W.findIn K (.ref k_Fence) "numbers" = some none)
    (pg_Sail : PySem.W.plainGet K k_Sail Str.empty = true)
    (hd_Sail : PySem.W.hasDictIn K k_Sail = true)
    (po_Sail : PySem.W.plainOver K k_Sail = true)
    (sa_Sail : PySem.W.findIn K (.ref k_Sail) "__setattr__" = some (some (.builtin "object.__setattr__")))
    (mk_Sail : PySem.W.makesIn K k_Sail = true)
    (kc_Sail : PySem.W.keepIn K (.ref k_Sail) = true)
    (no_Sail_numbers : PySem.W.findIn K (.ref k_Sail) "numbers" = some none)
    (pg_Cloth : PySem.W.plainGet K k_Cloth Str.empty = true)
    (hd_Cloth : PySem.W.hasDictIn K k_Cloth = true)
    (po_Cloth : PySem.W.plainOver K k_Cloth = true)
    (sa_Cloth : PySem.W.findIn K (.ref k_Cloth) "__setattr__" = some (some (.builtin "object.__setattr__")))
    (mk_Cloth : PySem.W.makesIn K k_Cloth = true)
    (kc_Cloth : PySem.W.keepIn K (.ref k_Cloth) = true)
    (no_Cloth_numbers : PySem.W.findIn K (.ref k_Cloth) "numbers" = some none)
    (pg_House : PySem.W.plainGet K k_House Str.empty = true)
    (hd_House : PySem.W.hasDictIn K k_House = true)
    (po_House : PySem.W.plainOver K k_House = true)
    (sa_House : PySem.W.findIn K (.ref k_House) "__setattr__" = some (some (.builtin "object.__setattr__")))
    (mk_House : PySem.W.makesIn K k_House = true)
    (kc_House : PySem.W.keepIn K (.ref k_House) = true)
    (no_House_numbers : PySem.W.findIn K (.ref k_House) "numbers" = some none)
    (pg_Yard : PySem.W.plainGet K k_Yard Str.empty = true)
    (hd_Yard : PySem.W.hasDictIn K k_Yard = true)
    (po_Yard : PySem.W.plainOver K k_Yard = true)
    (sa_Yard : PySem.W.findIn K (.ref k_Yard) "__setattr__" = some (some (.builtin "object.__setattr__")))
    (mk_Yard : PySem.W.makesIn K k_Yard = true)
    (kc_Yard : PySem.W.keepIn K (.ref k_Yard) = true)
    (no_Yard_width : PySem.W.findIn K (.ref k_Yard) "width" = some none)
    (no_Yard_height : PySem.W.findIn K (.ref k_Yard) "height" = some none)
    (no_Yard_things : PySem.W.findIn K (.ref k_Yard) "things" = some none)
    (no_Yard_days : PySem.W.findIn K (.ref k_Yard) "days" = some none)
    (z_all : PySem.W.nsIn K mainGlobals "all" = some none)
    (z_divmod : PySem.W.nsIn K mainGlobals "divmod" = some none)
    (z_enumerate : PySem.W.nsIn K mainGlobals "enumerate" = some none)
    (z_int : PySem.W.nsIn K mainGlobals "int" = some none)
    (z_len : PySem.W.nsIn K mainGlobals "len" = some none)
    (z_list : PySem.W.nsIn K mainGlobals "list" = some none)
    (z_range : PySem.W.nsIn K mainGlobals "range" = some none)
    (z_set : PySem.W.nsIn K mainGlobals "set" = some none)
    (z_sorted : PySem.W.nsIn K mainGlobals "sorted" = some none)
    (z_tuple : PySem.W.nsIn K mainGlobals "tuple" = some none)
    {tk_FAR : Tok} (g_FAR : PySem.W.nsIn K mainGlobals "FAR" = some (some (.int 1000000000 tk_FAR))) :
    ∃ fd : FuncData, (∀ (s : Shared) (v : Value), BindsTo s fd ⟨[v], []⟩ [("_law_script", v)]) ∧ ∀ base : Heap, K.In base → base.Ns mainGlobals mg → FnOk l.prog w K mg base (L2.CX l.prog w) 6 fa fd ["_law_script"] (spLaw K) := by
  have e := hfa.symm.trans (PySem.W.mg_of X GG a26)
  cases e
  have ne_Post_Yard : k_Post ≠ k_Yard := fun e => by
    have e1 : f4 = f7 := by
      have e2 := at_Post_init
      rw [e] at e2
      have e3 := e2.symm.trans at_Yard_init
      exact Value.ref.inj (Option.some.inj (Option.some.inj e3))
    have e4 := l4
    rw [e1] at e4
    have e5 := e4.symm.trans l7
    exact qual_ne (show Str.ofString "Thing.__init__" ≠ Str.ofString "Yard.__init__" by decide) e5
  have ne_Fence_Yard : k_Fence ≠ k_Yard := fun e => by
    have e1 : f4 = f7 := by
      have e2 := at_Fence_init
      rw [e] at e2
      have e3 := e2.symm.trans at_Yard_init
      exact Value.ref.inj (Option.some.inj (Option.some.inj e3))
    have e4 := l4
    rw [e1] at e4
    have e5 := e4.symm.trans l7
    exact qual_ne (show Str.ofString "Thing.__init__" ≠ Str.ofString "Yard.__init__" by decide) e5
  have ne_Sail_Yard : k_Sail ≠ k_Yard := fun e => by
    have e1 : f4 = f7 := by
      have e2 := at_Sail_init
      rw [e] at e2
      have e3 := e2.symm.trans at_Yard_init
      exact Value.ref.inj (Option.some.inj (Option.some.inj e3))
    have e4 := l4
    rw [e1] at e4
    have e5 := e4.symm.trans l7
    exact qual_ne (show Str.ofString "Thing.__init__" ≠ Str.ofString "Yard.__init__" by decide) e5
  have ne_Cloth_Yard : k_Cloth ≠ k_Yard := fun e => by
    have e1 : f4 = f7 := by
      have e2 := at_Cloth_init
      rw [e] at e2
      have e3 := e2.symm.trans at_Yard_init
      exact Value.ref.inj (Option.some.inj (Option.some.inj e3))
    have e4 := l4
    rw [e1] at e4
    have e5 := e4.symm.trans l7
    exact qual_ne (show Str.ofString "Thing.__init__" ≠ Str.ofString "Yard.__init__" by decide) e5
  have ne_House_Yard : k_House ≠ k_Yard := fun e => by
    have e1 : f4 = f7 := by
      have e2 := at_House_init
      rw [e] at e2
      have e3 := e2.symm.trans at_Yard_init
      exact Value.ref.inj (Option.some.inj (Option.some.inj e3))
    have e4 := l4
    rw [e1] at e4
    have e5 := e4.symm.trans l7
    exact qual_ne (show Str.ofString "Thing.__init__" ≠ Str.ofString "Yard.__init__" by decide) e5
  let G0 : Gs := {c_Post := k_Post, c_Fence := k_Fence, c_Sail := k_Sail, c_Cloth := k_Cloth, c_House := k_House, c_Yard := k_Yard, ne_Post_Yard := ne_Post_Yard, ne_Fence_Yard := ne_Fence_Yard, ne_Sail_Yard := ne_Sail_Yard, ne_Cloth_Yard := ne_Cloth_Yard, ne_House_Yard := ne_House_Yard, ne_Yard_Post := Ne.symm ne_Post_Yard, ne_Yard_Fence := Ne.symm ne_Fence_Yard, ne_Yard_Sail := Ne.symm ne_Sail_Yard, ne_Yard_Cloth := Ne.symm ne_Cloth_Yard, ne_Yard_House := Ne.symm ne_House_Yard}
  refine ⟨_, fun s v => .of_eq rfl, fun base _ _ => law_fn (ok_law (P := l.prog) (w := w) (K := K) (mg := mg) (base := base) (G := G0) {
    a_cast := f0, d_cast := _, F_cast := fun_mk (st := st_cast) l0 c0 k0, m_cast := PySem.W.mg_of X GG a0,
    b_cast := (fun_mk (st := st_cast) l0 c0 k0).binds (ps := P_cast) fun _ _ _ _ _ _ us hl => match us, hl with | [_, _], _ => rfl,
    a_first_off := f1, d_first_off := _, F_first_off := fun_mk (st := st_first_off) l1 c1 k1, m_first_off := PySem.W.mg_of X GG a1,
    b_first_off := (fun_mk (st := st_first_off) l1 c1 k1).binds (ps := P_first_off) fun _ _ _ _ _ _ us hl => match us, hl with | [_, _], _ => rfl,
    a_first_alike := f2, d_first_alike := _, F_first_alike := fun_mk (st := st_first_alike) l2 c2 k2, m_first_alike := PySem.W.mg_of X GG a2,
    b_first_alike := (fun_mk (st := st_first_alike) l2 c2 k2).binds (ps := P_first_alike) fun _ _ _ _ _ _ us hl => match us, hl with | [_], _ => rfl,
    a_turn_at := f3, d_turn_at := _, F_turn_at := fun_mk (st := st_turn_at) l3 c3 k3, m_turn_at := PySem.W.mg_of X GG a3,
    b_turn_at := (fun_mk (st := st_turn_at) l3 c3 k3).binds (ps := P_turn_at) fun _ _ _ _ _ _ us hl => match us, hl with | [_, _], _ => rfl,
    a_Thing_init := f4, d_Thing_init := _, F_Thing_init := fun_mk (st := st_Thing_init) l4 c4 k4,
    b_Thing_init := (fun_mk (st := st_Thing_init) l4 c4 k4).binds (ps := P_Thing_init) fun _ _ _ _ _ _ us hl => match us, hl with | [_, _], _ => rfl,
    a_are_places := f5, d_are_places := _, F_are_places := fun_mk (st := st_are_places) l5 c5 k5, m_are_places := PySem.W.mg_of X GG a5,
    b_are_places := (fun_mk (st := st_are_places) l5 c5 k5).binds (ps := P_are_places) fun _ _ _ _ _ _ us hl => match us, hl with | [_], _ => rfl,
    a_is_height := f6, d_is_height := _, F_is_height := fun_mk (st := st_is_height) l6 c6 k6, m_is_height := PySem.W.mg_of X GG a6,
    b_is_height := (fun_mk (st := st_is_height) l6 c6 k6).binds (ps := P_is_height) fun _ _ _ _ _ _ us hl => match us, hl with | [_, _], _ => rfl,
    a_Yard_init := f7, d_Yard_init := _, F_Yard_init := fun_mk (st := st_Yard_init) l7 c7 k7,
    b_Yard_init := (fun_mk (st := st_Yard_init) l7 c7 k7).binds (ps := P_Yard_init) fun _ _ _ _ _ _ us hl => match us, hl with | [_, _, _, _, _], _ => rfl,
    a_law_cell := f8, d_law_cell := _, F_law_cell := fun_mk (st := st_law_cell) l8 c8 k8, m_law_cell := PySem.W.mg_of X GG a8,
    b_law_cell := (fun_mk (st := st_law_cell) l8 c8 k8).binds (ps := P_law_cell) fun _ _ _ _ _ _ us hl => match us, hl with | [_, _], _ => rfl,
    a_law_churn := f9, d_law_churn := _, F_law_churn := fun_mk (st := st_law_churn) l9 c9 k9, m_law_churn := PySem.W.mg_of X GG a9,
    b_law_churn := (fun_mk (st := st_law_churn) l9 c9 k9).binds (ps := P_law_churn) fun _ _ _ _ _ _ us hl => match us, hl with | [_, _], _ => rfl,
    a_law_turn := f10, d_law_turn := _, F_law_turn := fun_mk (st := st_law_turn) l10 c10 k10, m_law_turn := PySem.W.mg_of X GG a10,
    b_law_turn := (fun_mk (st := st_law_turn) l10 c10 k10).binds (ps := P_law_turn) fun _ _ _ _ _ _ us hl => match us, hl with | [_, _, _], _ => rfl,
    a_law_sides := f11, d_law_sides := _, F_law_sides := fun_mk (st := st_law_sides) l11 c11 k11, m_law_sides := PySem.W.mg_of X GG a11,
    b_law_sides := (fun_mk (st := st_law_sides) l11 c11 k11).binds (ps := P_law_sides) fun _ _ _ _ _ _ us hl => match us, hl with | [_], _ => rfl,
    a_law_on := f12, d_law_on := _, F_law_on := fun_mk (st := st_law_on) l12 c12 k12, m_law_on := PySem.W.mg_of X GG a12,
    b_law_on := (fun_mk (st := st_law_on) l12 c12 k12).binds (ps := P_law_on) fun _ _ _ _ _ _ us hl => match us, hl with | [_, _], _ => rfl,
    a_end_of := f13, d_end_of := _, F_end_of := fun_mk (st := st_end_of) l13 c13 k13, m_end_of := PySem.W.mg_of X GG a13,
    b_end_of := (fun_mk (st := st_end_of) l13 c13 k13).binds (ps := P_end_of) fun _ _ _ _ _ _ us hl => match us, hl with | [_, _], _ => rfl,
    a_law_row := f14, d_law_row := _, F_law_row := fun_mk (st := st_law_row) l14 c14 k14, m_law_row := PySem.W.mg_of X GG a14,
    b_law_row := (fun_mk (st := st_law_row) l14 c14 k14).binds (ps := P_law_row) fun _ _ _ _ _ _ us hl => match us, hl with | [_, _], _ => rfl,
    a_law_fault := f15, d_law_fault := _, F_law_fault := fun_mk (st := st_law_fault) l15 c15 k15, m_law_fault := PySem.W.mg_of X GG a15,
    b_law_fault := (fun_mk (st := st_law_fault) l15 c15 k15).binds (ps := P_law_fault) fun _ _ _ _ _ _ us hl => match us, hl with | [_, _, _], _ => rfl,
    a_law_marks := f16, d_law_marks := _, F_law_marks := fun_mk (st := st_law_marks) l16 c16 k16, m_law_marks := PySem.W.mg_of X GG a16,
    b_law_marks := (fun_mk (st := st_law_marks) l16 c16 k16).binds (ps := P_law_marks) fun _ _ _ _ _ _ us hl => match us, hl with | [_, _, _], _ => rfl,
    a_ends_of := f17, d_ends_of := _, F_ends_of := fun_mk (st := st_ends_of) l17 c17 k17, m_ends_of := PySem.W.mg_of X GG a17,
    b_ends_of := (fun_mk (st := st_ends_of) l17 c17 k17).binds (ps := P_ends_of) fun _ _ _ _ _ _ us hl => match us, hl with | [_, _], _ => rfl,
    a_cloth_of := f18, d_cloth_of := _, F_cloth_of := fun_mk (st := st_cloth_of) l18 c18 k18, m_cloth_of := PySem.W.mg_of X GG a18,
    b_cloth_of := (fun_mk (st := st_cloth_of) l18 c18 k18).binds (ps := P_cloth_of) fun _ _ _ _ _ _ us hl => match us, hl with | [_], _ => rfl,
    a_stretched := f19, d_stretched := _, F_stretched := fun_mk (st := st_stretched) l19 c19 k19, m_stretched := PySem.W.mg_of X GG a19,
    b_stretched := (fun_mk (st := st_stretched) l19 c19 k19).binds (ps := P_stretched) fun _ _ _ _ _ _ us hl => match us, hl with | [_, _], _ => rfl,
    a_law_days := f20, d_law_days := _, F_law_days := fun_mk (st := st_law_days) l20 c20 k20, m_law_days := PySem.W.mg_of X GG a20,
    b_law_days := (fun_mk (st := st_law_days) l20 c20 k20).binds (ps := P_law_days) fun _ _ _ _ _ _ us hl => match us, hl with | [_, _, _], _ => rfl,
    a_law_ends := f21, d_law_ends := _, F_law_ends := fun_mk (st := st_law_ends) l21 c21 k21, m_law_ends := PySem.W.mg_of X GG a21,
    b_law_ends := (fun_mk (st := st_law_ends) l21 c21 k21).binds (ps := P_law_ends) fun _ _ _ _ _ _ us hl => match us, hl with | [_, _], _ => rfl,
    a_dial := f22, d_dial := _, F_dial := fun_mk (st := st_dial) l22 c22 k22, m_dial := PySem.W.mg_of X GG a22,
    b_dial := (fun_mk (st := st_dial) l22 c22 k22).binds (ps := P_dial) fun _ _ _ _ _ _ us hl => match us, hl with | [_, _], _ => rfl,
    a_thing_of := f23, d_thing_of := _, F_thing_of := fun_mk (st := st_thing_of) l23 c23 k23, m_thing_of := PySem.W.mg_of X GG a23,
    b_thing_of := (fun_mk (st := st_thing_of) l23 c23 k23).binds (ps := P_thing_of) fun _ _ _ _ _ _ us hl => match us, hl with | [_, _], _ => rfl,
    a_least_pointer := f24, d_least_pointer := _, F_least_pointer := fun_mk (st := st_least_pointer) l24 c24 k24, m_least_pointer := PySem.W.mg_of X GG a24,
    b_least_pointer := (fun_mk (st := st_least_pointer) l24 c24 k24).binds (ps := P_least_pointer) fun _ _ _ _ _ _ us hl => match us, hl with | [_, _, _, _], _ => rfl,
    a_law_standing := f25, d_law_standing := _, F_law_standing := fun_mk (st := st_law_standing) l25 c25 k25, m_law_standing := PySem.W.mg_of X GG a25,
    b_law_standing := (fun_mk (st := st_law_standing) l25 c25 k25).binds (ps := P_law_standing) fun _ _ _ _ _ _ us hl => match us, hl with | [_], _ => rfl,
    a_law := fa, d_law := _, F_law := fun_mk (st := st_law) l26 c26 k26, m_law := PySem.W.mg_of X GG a26,
    b_law := (fun_mk (st := st_law) l26 c26 k26).binds (ps := P_law) fun _ _ _ _ _ _ us hl => match us, hl with | [_], _ => rfl,
    mC_Post := PySem.W.mg_of X GG nC_Post,
    mC_Fence := PySem.W.mg_of X GG nC_Fence,
    mC_Sail := PySem.W.mg_of X GG nC_Sail,
    mC_Cloth := PySem.W.mg_of X GG nC_Cloth,
    mC_House := PySem.W.mg_of X GG nC_House,
    mC_Yard := PySem.W.mg_of X GG nC_Yard,
    cl_Post := ⟨pg_Post, hd_Post, po_Post, sa_Post⟩,
    mk_Post := ⟨mk_Post, at_Post_init, i4, kc_Post⟩,
    ni_Post := (List.forall_mem_cons.mpr ⟨no_Post_numbers, all0⟩),
    cl_Fence := ⟨pg_Fence, hd_Fence, po_Fence, sa_Fence⟩,
    mk_Fence := ⟨mk_Fence, at_Fence_init, i4, kc_Fence⟩,
    ni_Fence := (List.forall_mem_cons.mpr ⟨no_Fence_numbers, all0⟩),
    cl_Sail := ⟨pg_Sail, hd_Sail, po_Sail, sa_Sail⟩,
    mk_Sail := ⟨mk_Sail, at_Sail_init, i4, kc_Sail⟩,
    ni_Sail := (List.forall_mem_cons.mpr ⟨no_Sail_numbers, all0⟩),
    cl_Cloth := ⟨pg_Cloth, hd_Cloth, po_Cloth, sa_Cloth⟩,
    mk_Cloth := ⟨mk_Cloth, at_Cloth_init, i4, kc_Cloth⟩,
    ni_Cloth := (List.forall_mem_cons.mpr ⟨no_Cloth_numbers, all0⟩),
    cl_House := ⟨pg_House, hd_House, po_House, sa_House⟩,
    mk_House := ⟨mk_House, at_House_init, i4, kc_House⟩,
    ni_House := (List.forall_mem_cons.mpr ⟨no_House_numbers, all0⟩),
    cl_Yard := ⟨pg_Yard, hd_Yard, po_Yard, sa_Yard⟩,
    mk_Yard := ⟨mk_Yard, at_Yard_init, i7, kc_Yard⟩,
    ni_Yard := (List.forall_mem_cons.mpr ⟨no_Yard_width, (List.forall_mem_cons.mpr ⟨no_Yard_height, (List.forall_mem_cons.mpr ⟨no_Yard_things, (List.forall_mem_cons.mpr ⟨no_Yard_days, all0⟩)⟩)⟩)⟩),
    fl_days := (List.forall_mem_cons.mpr ⟨⟨⟨pg_Yard, hd_Yard, po_Yard, sa_Yard⟩, no_Yard_days⟩, all0⟩),
    fl_height := (List.forall_mem_cons.mpr ⟨⟨⟨pg_Yard, hd_Yard, po_Yard, sa_Yard⟩, no_Yard_height⟩, all0⟩),
    fl_width := (List.forall_mem_cons.mpr ⟨⟨⟨pg_Yard, hd_Yard, po_Yard, sa_Yard⟩, no_Yard_width⟩, all0⟩),
    z_all := PySem.W.mg_none_of X GG z_all,
    z_divmod := PySem.W.mg_none_of X GG z_divmod,
    z_enumerate := PySem.W.mg_none_of X GG z_enumerate,
    z_int := PySem.W.mg_none_of X GG z_int,
    z_len := PySem.W.mg_none_of X GG z_len,
    z_list := PySem.W.mg_none_of X GG z_list,
    z_range := PySem.W.mg_none_of X GG z_range,
    z_set := PySem.W.mg_none_of X GG z_set,
    z_sorted := PySem.W.mg_none_of X GG z_sorted,
    z_tuple := PySem.W.mg_none_of X GG z_tuple,
    g_FAR := ⟨.int 1000000000, _, PySem.W.mg_of X GG g_FAR, ⟨_, rfl⟩, (fun _ => .int _)⟩
  }) (law_true G0)⟩
end My
open PySem PySem.W PyProof.Rows
set_option maxRecDepth 100000 in
set_option maxHeartbeats 0 in
theorem PySem.Challenge.cw_shadowpost_k57_whole_dials_tell_the_turn_holds : PySem.Challenge.rw_shadowpost_k57_whole_dials_tell_the_turn.Holds := by
  w_on; o_law; k_head; (case hw => w_witness2)
  k_fill
  refine L2.walk_of (l := PySem.Challenge.rw_shadowpost_k57_whole_dials_tell_the_turn) (n := 63) (k := 6) (x := "_law_script") (CX := fun w => L2.CX PySem.Challenge.rw_shadowpost_k57_whole_dials_tell_the_turn.prog w) (sp := fun w => DL.spLaw _) rfl (by decide) rfl ⟨rfl, by decide, by decide⟩ (fun w h Y => PySem.W.kIn_of Y) ?F (fun _ _ a ns hl _ hS => ⟨a, ns, rfl, hS, hl, fun _ => rfl⟩) (fun _ _ _ _ _ h => DL.cx_false h)
  case F =>
    intro w mg fa h KX G hmg
    refine' My.all_mk  KX G hmg ?nC_Post ?nC_Fence ?nC_Sail ?nC_Cloth ?nC_House ?nC_Yard ?at_Post_init ?at_Fence_init ?at_Sail_init ?at_Cloth_init ?at_House_init ?at_Yard_init ?a0 ?l0 ?c0 ?k0 ?a1 ?l1 ?c1 ?k1 ?a2 ?l2 ?c2 ?k2 ?a3 ?l3 ?c3 ?k3 ?i4 ?l4 ?c4 ?k4 ?a5 ?l5 ?c5 ?k5 ?a6 ?l6 ?c6 ?k6 ?i7 ?l7 ?c7 ?k7 ?a8 ?l8 ?c8 ?k8 ?a9 ?l9 ?c9 ?k9 ?a10 ?l10 ?c10 ?k10 ?a11 ?l11 ?c11 ?k11 ?a12 ?l12 ?c12 ?k12 ?a13 ?l13 ?c13 ?k13 ?a14 ?l14 ?c14 ?k14 ?a15 ?l15 ?c15 ?k15 ?a16 ?l16 ?c16 ?k16 ?a17 ?l17 ?c17 ?k17 ?a18 ?l18 ?c18 ?k18 ?a19 ?l19 ?c19 ?k19 ?a20 ?l20 ?c20 ?k20 ?a21 ?l21 ?c21 ?k21 ?a22 ?l22 ?c22 ?k22 ?a23 ?l23 ?c23 ?k23 ?a24 ?l24 ?c24 ?k24 ?a25 ?l25 ?c25 ?k25 ?a26 ?l26 ?c26 ?k26 ?pg_Post ?hd_Post ?po_Post ?sa_Post ?mk_Post ?kc_Post ?no_Post_numbers ?pg_Fence ?hd_Fence ?po_Fence ?sa_Fence ?mk_Fence ?kc_Fence ?no_Fence_numbers ?pg_Sail ?hd_Sail ?po_Sail ?sa_Sail ?mk_Sail ?kc_Sail ?no_Sail_numbers ?pg_Cloth ?hd_Cloth ?po_Cloth ?sa_Cloth ?mk_Cloth ?kc_Cloth ?no_Cloth_numbers ?pg_House ?hd_House ?po_House ?sa_House ?mk_House ?kc_House ?no_House_numbers ?pg_Yard ?hd_Yard ?po_Yard ?sa_Yard ?mk_Yard ?kc_Yard ?no_Yard_width ?no_Yard_height ?no_Yard_things ?no_Yard_days ?z_all ?z_divmod ?z_enumerate ?z_int ?z_len ?z_list ?z_range ?z_set ?z_sorted ?z_tuple ?g_FAR
    (case nC_Post => k_is); (case nC_Fence => k_is); (case nC_Sail => k_is); (case nC_Cloth => k_is); (case nC_House => k_is); (case nC_Yard => k_is); (case at_Post_init => k_is); (case at_Fence_init => k_is); (case at_Sail_init => k_is); (case at_Cloth_init => k_is); (case at_House_init => k_is); (case at_Yard_init => k_is); (case a0 => k_is); (case l0 => k_is); (case c0 => k_is); (case k0 => k_is); (case a1 => k_is); (case l1 => k_is); (case c1 => k_is); (case k1 => k_is); (case a2 => k_is); (case l2 => k_is); (case c2 => k_is); (case k2 => k_is); (case a3 => k_is); (case l3 => k_is); (case c3 => k_is); (case k3 => k_is); (case i4 => k_is); (case l4 => k_is); (case c4 => k_is); (case k4 => k_is); (case a5 => k_is); (case l5 => k_is); (case c5 => k_is); (case k5 => k_is); (case a6 => k_is); (case l6 => k_is); (case c6 => k_is); (case k6 => k_is); (case i7 => k_is); (case l7 => k_is); (case c7 => k_is); (case k7 => k_is); (case a8 => k_is); (case l8 => k_is); (case c8 => k_is); (case k8 => k_is); (case a9 => k_is); (case l9 => k_is); (case c9 => k_is); (case k9 => k_is); (case a10 => k_is); (case l10 => k_is); (case c10 => k_is); (case k10 => k_is); (case a11 => k_is); (case l11 => k_is); (case c11 => k_is); (case k11 => k_is); (case a12 => k_is); (case l12 => k_is); (case c12 => k_is); (case k12 => k_is); (case a13 => k_is); (case l13 => k_is); (case c13 => k_is); (case k13 => k_is); (case a14 => k_is); (case l14 => k_is); (case c14 => k_is); (case k14 => k_is); (case a15 => k_is); (case l15 => k_is); (case c15 => k_is); (case k15 => k_is); (case a16 => k_is); (case l16 => k_is); (case c16 => k_is); (case k16 => k_is); (case a17 => k_is); (case l17 => k_is); (case c17 => k_is); (case k17 => k_is); (case a18 => k_is); (case l18 => k_is); (case c18 => k_is); (case k18 => k_is); (case a19 => k_is); (case l19 => k_is); (case c19 => k_is); (case k19 => k_is); (case a20 => k_is); (case l20 => k_is); (case c20 => k_is); (case k20 => k_is); (case a21 => k_is); (case l21 => k_is); (case c21 => k_is); (case k21 => k_is); (case a22 => k_is); (case l22 => k_is); (case c22 => k_is); (case k22 => k_is); (case a23 => k_is); (case l23 => k_is); (case c23 => k_is); (case k23 => k_is); (case a24 => k_is); (case l24 => k_is); (case c24 => k_is); (case k24 => k_is); (case a25 => k_is); (case l25 => k_is); (case c25 => k_is); (case k25 => k_is); (case a26 => k_is); (case l26 => k_is); (case c26 => k_is); (case k26 => k_is); (case pg_Post => k_is); (case hd_Post => k_is); (case po_Post => k_is); (case sa_Post => k_is); (case mk_Post => k_is); (case kc_Post => k_is); (case no_Post_numbers => k_is); (case pg_Fence => k_is); (case hd_Fence => k_is); (case po_Fence => k_is); (case sa_Fence => k_is); (case mk_Fence => k_is); (case kc_Fence => k_is); (case no_Fence_numbers => k_is); (case pg_Sail => k_is); (case hd_Sail => k_is); (case po_Sail => k_is); (case sa_Sail => k_is); (case mk_Sail => k_is); (case kc_Sail => k_is); (case no_Sail_numbers => k_is); (case pg_Cloth => k_is); (case hd_Cloth => k_is); (case po_Cloth => k_is); (case sa_Cloth => k_is); (case mk_Cloth => k_is); (case kc_Cloth => k_is); (case no_Cloth_numbers => k_is); (case pg_House => k_is); (case hd_House => k_is); (case po_House => k_is); (case sa_House => k_is); (case mk_House => k_is); (case kc_House => k_is); (case no_House_numbers => k_is); (case pg_Yard => k_is); (case hd_Yard => k_is); (case po_Yard => k_is); (case sa_Yard => k_is); (case mk_Yard => k_is); (case kc_Yard => k_is); (case no_Yard_width => k_is); (case no_Yard_height => k_is); (case no_Yard_things => k_is); (case no_Yard_days => k_is); (case z_all => k_is); (case z_divmod => k_is); (case z_enumerate => k_is); (case z_int => k_is); (case z_len => k_is); (case z_list => k_is); (case z_range => k_is); (case z_set => k_is); (case z_sorted => k_is); (case z_tuple => k_is); (case g_FAR => k_is)
